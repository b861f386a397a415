import Derived.Test.YtjapmbbledbnfaaGreatDoorFc
/-
  What the functions make of plain values, and what the law says of that.
-/
open Bool renaming and_eq_true -> ap, and_false -> cj, and_true -> dK, false_and -> bl, not_false -> bM, not_true -> aH, or_false -> d7, true_and -> aU
open Go.IntKind renaming bits -> dW, signed -> fh, wrap -> ah
open Int renaming fdiv -> gH, le_refl -> dP, toNat -> bP, toNat_natCast -> bx
open List renaming all_cons -> b9, all_eq_true -> aK, drop_drop -> cg, drop_eq_getElem_cons -> aV, drop_eq_nil_iff -> cy, drop_length -> eF, drop_take -> el, drop_zero -> bV, flatten_cons -> fG, getD_eq_getElem?_getD -> aA, getElem?_cons_zero -> ay, getElem?_eq_getElem -> al, getElem?_eq_none -> aJ, getElem?_eq_some_iff -> aq, length -> aa, length_append -> az, length_cons -> au, length_drop -> bA, length_eq_zero_iff -> cz, length_nil -> bH, length_pos_iff -> eh, length_singleton -> aX, map -> dx, map_cons -> aM, mem_cons -> aI, mem_cons_of_mem -> ai, mem_cons_self -> am, mem_flatten -> fN, nil_append -> bG, replicate -> ax, set -> cJ, sum_cons -> cA, take_length -> d0, take_succ_cons -> ei
open Nat renaming add_assoc -> bz, add_comm -> cH, beq -> aw, le_refl -> aE, lt_of_le_of_lt -> cZ, lt_of_succ_lt_succ -> cn, min_eq_left -> dr, strongRecOn -> cN, sub_self -> ej, zero_add -> aL, zero_le -> cf
open Option renaming bind_some -> af, getD -> bS, getD_some -> bm, isNone -> co, isNone_some -> cr, map_eq_some_iff -> aY, map_some -> bu
open Option.some renaming injEq -> ak
open Prod.mk renaming injEq -> aC
open Sum renaming inl -> aS, inr -> aD
open UInt8 renaming toNat -> bw
namespace Go.Abs.Q
open Go Go.Abs
abbrev zl:=Str×Int×Int×Int
abbrev GN:Tys:=.cons .str (.cons (.int .i64) (.cons (.int .i64) (.one (.int .i64))))
abbrev zg:=Bool×List Int
abbrev Yt:Tys:=.cons .bool (.one (.sl (.one (.int .i64))))
abbrev jR:=List (List Int)
abbrev jI:=List Int
abbrev jQ:=List zg
abbrev jS:=List zl
abbrev jT:=List (Int×Int×Int×Int×Int×Int×Int×jQ×jR×jQ)
abbrev jU:=Int×Int×Int×Int×Int×Int×Int×jQ×jR×jQ
def tL (a0:Int):Option Bool :=
 cond (decide (a0≥97))
 (some (decide (a0<=122)))
 (some false)
def wu (rec:(Str×Int×Int)->Option (Unit⊕Bool)) (x:(Str×Int×Int)):Option (Unit⊕Bool) :=
 cond (decide (x.2.2<x.2.1))
 ((gx x.1 x.2.2).bind fun c7 =>
  (tL ((bw c7:Nat):Int)).bind fun r8 =>
  cond (!r8)
  ((gx x.1 x.2.2).bind fun c9 =>
   cond (decide (((bw c9:Nat):Int)<48))
   (some (aD false))
   ((gx x.1 x.2.2).bind fun c10 =>
    cond (decide (((bw c10:Nat):Int)>57))
    (some (aD false))
    (rec (x.1,x.2.1,(ah .i64 (x.2.2+1))))))
  (rec (x.1,x.2.1,(ah .i64 (x.2.2+1)))))
 (some (aS ()))
def ka (a0:Str):Option Bool :=
 cond (a0==([]:Str))
 (some false)
 (cond (decide (((aa a0:Nat):Int)>8))
  (some false)
  ((gx a0 0).bind fun c14 =>
   (tL ((bw c14:Nat):Int)).bind fun r15 =>
   cond (!r15)
   (some false)
   (((lp wu zd) (a0,((aa a0:Nat):Int),0)).bind fun r16 =>
    yt r16
    (fun _z17=>some true)
    (fun z18=>some z18))))
def tX (a0:Str) (a1:Int) (a2:Int) (a3:Int):Option Bool :=
 (ka a0).bind fun r2 =>
 cond r2
 (cond (decide (a1≥0))
  (cond (decide (a1<=2))
   (cond (decide (a2≥0))
    (cond (decide (a2<=3))
     (cond (decide (a3≥1))
      (some (decide (a3<=20)))
      (some false))
     (some false))
    (some false))
   (some false))
  (some false))
 (some false)
def vz (rec:(jS×Str×Int×Int)->Option (Unit⊕Int)) (x:(jS×Str×Int×Int)):Option (Unit⊕Int) :=
 cond (decide (x.2.2.2<x.2.2.1))
 ((gx x.1 x.2.2.2).bind fun e2 =>
  cond (e2.1==x.2.1)
  (some (aD x.2.2.2))
  (rec (x.1,x.2.1,x.2.2.1,(ah .i64 (x.2.2.2+1)))))
 (some (aS ()))
def j5 (a0:jS) (a1:Str):Option Int :=
 ((lp vz zd) (a0,a1,((aa a0:Nat):Int),0)).bind fun r6 =>
 yt r6
 (fun _z7=>some (-1))
 (fun z8=>some z8)
def vj (rec:(jS×Int)->Option (Unit⊕Bool)) (x:(jS×Int)):Option (Unit⊕Bool) :=
 cond (decide (x.2<((aa x.1:Nat):Int)))
 ((gx x.1 x.2).bind fun e6 =>
  (tX e6.1 e6.2.1 e6.2.2.1 e6.2.2.2).bind fun r7 =>
  cond (!r7)
  (some (aD false))
  ((gx x.1 x.2).bind fun e8 =>
   (j5 x.1 e8.1).bind fun r9 =>
   cond (r9 != x.2)
   (some (aD false))
   (rec (x.1,(ah .i64 (x.2+1))))))
 (some (aS ()))
def Zs (a0:jS):Option Bool :=
 cond (decide (((aa a0:Nat):Int)<1))
 (some false)
 (cond (decide (((aa a0:Nat):Int)>20))
  (some false)
  ((gx a0 0).bind fun e13 =>
   cond (!(cond (eqS e13.1 [61]) (cond (eqI e13.2.1 0) (cond (eqI e13.2.2.1 2) (cond (eqI e13.2.2.2 1) true false) false) false) false))
   (some false)
   (((lp vj zd) (a0,1)).bind fun r14 =>
    yt r14
    (fun _z15=>some true)
    (fun z16=>some z16))))
def ji (a0:(Option jI)):Option jI :=
 cond (co a0)
 (some ([]:jI))
 (cond (y9 (aa ([]:List Int)+aa (bS a0 [])) 8)
  (some (([]:List Int)++(bS a0 [])))
  (none))
def Vd:Option jI :=
 some ([]:jI)
def wR (a0:jI):Option jI:=ji (some a0)
def yj (a0:Int):Option Int :=
 some (ah .i64 ((-1) - a0))
def jA (a0:jS) (a1:Int):Option (Int×Bool) :=
 cond (decide (a1<0))
 ((yj 23).bind fun r4 =>
  some (0,(decide (a1≥r4))))
 (cond (decide (a1≥((aa a0:Nat):Int)))
  (some (0,false))
  ((gx a0 a1).bind fun e5 =>
   cond (e5.2.1==0)
   (some (0,false))
   ((gx a0 a1).bind fun e6 =>
    some (e6.2.2.1,true))))
def wQ (rec:(jS×jI×Int×Int)->Option (Int×Bool)) (x:(jS×jI×Int×Int)):Option (Int×Bool) :=
 cond (decide (x.2.2.1≥((aa x.2.1:Nat):Int)))
 (some (0,false))
 ((gx x.2.1 x.2.2.1).bind fun e5 =>
  (jA x.1 e5).bind fun r6 =>
  cond (!r6.2)
  (some (0,false))
  (cond (decide ((ah .i64 (x.2.2.2+(ah .i64 (r6.1 - 1))))>0))
   (rec (x.1,x.2.1,(ah .i64 (x.2.2.1+1)),(ah .i64 (x.2.2.2+(ah .i64 (r6.1 - 1))))))
   (some ((ah .i64 (x.2.2.1+1)),true))))
def uW (a0:jS) (a1:jI) (a2:Int):Option (Int×Bool) :=
 cond (decide (a2≥((aa a1:Nat):Int)))
 (some (0,false))
 ((gx a1 a2).bind fun e8 =>
  (jA a0 e8).bind fun r9 =>
  cond (!r9.2)
  (some (0,false))
  (cond (decide ((ah .i64 (1+(ah .i64 (r9.1 - 1))))>0))
   ((((lp wQ zd) (a0,a1,(ah .i64 (a2+1)),(ah .i64 (1+(ah .i64 (r9.1 - 1))))))).bind fun r10 =>
    some (r10.1,r10.2))
   (some ((ah .i64 (a2+1)),true))))
def w9 (rec:(jS×jI×Int×jI)->Option zg) (x:(jS×jI×Int×jI)):Option zg :=
 cond (x.2.2.1==((aa x.2.1:Nat):Int))
 (some (true,x.2.2.2))
 ((uW x.1 x.2.1 x.2.2.1).bind fun r4 =>
  cond (!r4.2)
  (some (false,([]:jI)))
  (cond (y9 (aa x.2.2.2+aa ([x.2.2.1]:List Int)) 8)
   (rec (x.1,x.2.1,r4.1,(x.2.2.2++([x.2.2.1]:List Int))))
   (none)))
def ux (a0:jS) (a1:jI):Option zg :=
 (Zs a0).bind fun r6 =>
 cond (!r6)
 (some (false,([]:jI)))
 (cond (decide (((aa a1:Nat):Int)>48))
  (some (false,([]:jI)))
  (cond (0==((aa a1:Nat):Int))
   (some (true,([]:jI)))
   ((uW a0 a1 0).bind fun r7 =>
    cond (!r7.2)
    (some (false,([]:jI)))
    (cond (y9 (aa ([0]:List Int)) 8)
     ((((lp w9 zd) (a0,a1,r7.1,([0]:List Int)))).bind fun r8 =>
      some (r8.1,r8.2))
     (none)))))
def wM (a0:jS) (a1:jI):Option Bool :=
 cond (((aa a1:Nat):Int)==0)
 (some false)
 ((gx a1 0).bind fun e9 =>
  cond (decide (e9<0))
  (some false)
  ((gx a1 0).bind fun e10 =>
   cond (decide (e10≥((aa a0:Nat):Int)))
   (some false)
   ((gx a1 0).bind fun e11 =>
    (gx a0 e11).bind fun e12 =>
    cond (e12.2.1 != 0)
    (some false)
    ((vJ a1 (some 1) none).bind fun y13 =>
     (ux a0 y13).bind fun r14 =>
     cond r14.1
     ((gx a1 0).bind fun e15 =>
      (gx a0 e15).bind fun e16 =>
      some (((aa r14.2:Nat):Int)==e16.2.2.1))
     (some false)))))
def kr (a0:jS) (_a1:Bool) (a2:jI):Option Bool :=
 (wM a0 a2).bind fun r2 =>
 some r2
def qS (rec:(jS×Int×jQ×Int×Int)->Option (Int⊕(Int×Bool))) (x:(jS×Int×jQ×Int×Int)):Option (Int⊕(Int×Bool)) :=
 cond (decide (x.2.2.2.2<x.2.2.2.1))
 ((gx x.2.2.1 x.2.2.2.2).bind fun e3 =>
  (kr x.1 e3.1 e3.2).bind fun r4 =>
  cond (!r4)
  (some (aD (0,false)))
  (rec (x.1,(ah .i64 (x.2.1+((aa e3.2:Nat):Int))),x.2.2.1,x.2.2.2.1,(ah .i64 (x.2.2.2.2+1)))))
 (some (aS x.2.1))
def w8 (a0:jS) (a1:jQ):Option (Int×Bool) :=
 ((lp qS zd) (a0,0,a1,((aa a1:Nat):Int),0)).bind fun r8 =>
 yt r8
 (fun z9=>some (z9,true))
 (fun z10=>some (z10.1,z10.2))
def ku (a0:jS) (a1:jI):Option (Int×Int) :=
 (ux a0 a1).bind fun r2 =>
 cond (!r2.1)
 (some (0,200))
 (some (((aa r2.2:Nat):Int),0))
def qQ (rec:(jS×Int×Int×jR×Int×Int)->Option (Int⊕(Int×Bool))) (x:(jS×Int×Int×jR×Int×Int)):Option (Int⊕(Int×Bool)) :=
 cond (decide (x.2.2.2.2.2<x.2.2.2.2.1))
 ((gx x.2.2.2.1 x.2.2.2.2.2).bind fun e3 =>
  (ku x.1 e3).bind fun r4 =>
  cond (x.2.2.2.2.2==0)
  (cond (r4.2 != 0)
   (some (aD (0,false)))
   (cond (r4.1 != r4.1)
    (some (aD (0,false)))
    (rec (x.1,(ah .i64 (x.2.1+((aa e3:Nat):Int))),r4.1,x.2.2.2.1,x.2.2.2.2.1,(ah .i64 (x.2.2.2.2.2+1))))))
  (cond (r4.2 != 0)
   (some (aD (0,false)))
   (cond (r4.1 != x.2.2.1)
    (some (aD (0,false)))
    (rec (x.1,(ah .i64 (x.2.1+((aa e3:Nat):Int))),x.2.2.1,x.2.2.2.1,x.2.2.2.2.1,(ah .i64 (x.2.2.2.2.2+1)))))))
 (some (aS x.2.1))
def uN (a0:jS) (a1:jR):Option (Int×Bool) :=
 ((lp qQ zd) (a0,0,0,a1,((aa a1:Nat):Int),0)).bind fun r8 =>
 yt r8
 (fun z9=>some (z9,true))
 (fun z10=>some (z10.1,z10.2))
def xf (a0:jS) (a1:jQ) (a2:jR) (a3:jQ):Option Bool :=
 (Zs a0).bind fun r5 =>
 cond (!r5)
 (some false)
 (cond (decide (((aa a1:Nat):Int)>5))
  (some false)
  (cond (decide (((aa a2:Nat):Int)>3))
   (some false)
   (cond (decide (((aa a3:Nat):Int)>3))
    (some false)
    ((w8 a0 a1).bind fun r6 =>
     (uN a0 a2).bind fun r7 =>
     (w8 a0 a3).bind fun r8 =>
     cond r6.2
     (cond r7.2
      (cond r8.2
       (some (decide ((ah .i64 ((ah .i64 (r6.1+r7.1))+r8.1))<=240)))
       (some false))
      (some false))
     (some false)))))
def xW (rec:(jI×jI×Int×Int)->Option (Unit⊕Bool)) (x:(jI×jI×Int×Int)):Option (Unit⊕Bool) :=
 cond (decide (x.2.2.2<x.2.2.1))
 ((gx x.1 x.2.2.2).bind fun e3 =>
  (gx x.2.1 x.2.2.2).bind fun e4 =>
  cond (e3 != e4)
  (some (aD false))
  (rec (x.1,x.2.1,x.2.2.1,(ah .i64 (x.2.2.2+1)))))
 (some (aS ()))
def zZ (a0:jI) (a1:jI):Option Bool :=
 cond (((aa a0:Nat):Int) != ((aa a1:Nat):Int))
 (some false)
 (((lp xW zd) (a0,a1,((aa a0:Nat):Int),0)).bind fun r8 =>
  yt r8
  (fun _z9=>some true)
  (fun z10=>some z10))
def XB (a0:Bool) (a1:jI) (a2:Bool) (a3:jI):Option Bool :=
 cond (a0==a2)
 ((zZ a1 a3).bind fun r2 =>
  some r2)
 (some false)
def uQ (a0:Bool) (a1:jI) (a2:Bool) (a3:jI):Option Bool :=
 (XB a2 a3 a0 a1).bind fun r2 =>
 some r2
def qb (rec:(jQ×Int×Int×Bool×jI)->Option (Unit⊕Int)) (x:(jQ×Int×Int×Bool×jI)):Option (Unit⊕Int) :=
 cond (decide (x.2.2.1<x.2.1))
 ((gx x.1 x.2.2.1).bind fun e3 =>
  (uQ e3.1 e3.2 x.2.2.2.1 x.2.2.2.2).bind fun r4 =>
  cond r4
  (some (aD x.2.2.1))
  (rec (x.1,x.2.1,(ah .i64 (x.2.2.1+1)),x.2.2.2.1,x.2.2.2.2)))
 (some (aS ()))
def tl (a0:jQ) (a1:Bool) (a2:jI):Option Int :=
 ((lp qb zd) (a0,((aa a0:Nat):Int),0,a1,a2)).bind fun r8 =>
 yt r8
 (fun _z9=>some (-1))
 (fun z10=>some z10)
def q9 (a0:jQ) (a1:Bool) (a2:jI):Option Bool :=
 (tl a0 a1 a2).bind fun r2 =>
 some (decide (r2≥0))
def wj (rec:(jQ×Int×Int×jQ)->Option jQ) (x:(jQ×Int×Int×jQ)):Option jQ :=
 cond (decide (x.2.2.1<x.2.1))
 ((gx x.1 x.2.2.1).bind fun e5 =>
  (q9 x.2.2.2 e5.1 e5.2).bind fun r6 =>
  cond (!r6)
  (cond (y9 (aa x.2.2.2+aa ([(e5.1,e5.2)]:List zg)) 32)
   (rec (x.1,x.2.1,(ah .i64 (x.2.2.1+1)),(x.2.2.2++([(e5.1,e5.2)]:List zg))))
   (none))
  (rec (x.1,x.2.1,(ah .i64 (x.2.2.1+1)),x.2.2.2)))
 (some x.2.2.2)
def tU (a0:jQ):Option jQ :=
 ((lp wj zd) (a0,((aa a0:Nat):Int),0,([]:jQ))).bind fun r8 =>
 some r8
def uP (a0:jI) (a1:jI):Option Bool :=
 (zZ a1 a0).bind fun r2 =>
 some r2
def yJ (rec:(jR×Int×Int×jI)->Option (Unit⊕Int)) (x:(jR×Int×Int×jI)):Option (Unit⊕Int) :=
 cond (decide (x.2.2.1<x.2.1))
 ((gx x.1 x.2.2.1).bind fun e3 =>
  (uP e3 x.2.2.2).bind fun r4 =>
  cond r4
  (some (aD x.2.2.1))
  (rec (x.1,x.2.1,(ah .i64 (x.2.2.1+1)),x.2.2.2)))
 (some (aS ()))
def vP (a0:jR) (a1:jI):Option Int :=
 ((lp yJ zd) (a0,((aa a0:Nat):Int),0,a1)).bind fun r8 =>
 yt r8
 (fun _z9=>some (-1))
 (fun z10=>some z10)
def qy (a0:jR) (a1:jI):Option Bool :=
 (vP a0 a1).bind fun r2 =>
 some (decide (r2≥0))
def yA (rec:(Int×Int×jI×Int×jI)->Option (jI×Int×jI)) (x:(Int×Int×jI×Int×jI)):Option (jI×Int×jI) :=
 cond (decide (x.2.1<x.1))
 ((inR x.2.1 (aa x.2.2.2.2)).bind fun k33 =>
  (x.2.2.2.2[k33]?).bind fun x34 =>
  cond (decide (x34≥0))
  (rec (x.1,(ah .i64 (x.2.1+1)),x.2.2.1,x.2.2.2.1,x.2.2.2.2))
  ((yj x34).bind fun r35 =>
   (inR r35 24).bind fun k36 =>
   (x.2.2.1[k36]?).bind fun x37 =>
   cond (x37==0)
   ((yj x34).bind fun r38 =>
    (inR r38 24).bind fun k39 =>
    (x.2.2.1[k39]?).bind fun _x40 =>
    (yj x34).bind fun r41 =>
    (inR r41 24).bind fun k42 =>
    ((cJ x.2.2.1 k39 (ah .i64 (x.2.2.2.1+1)))[k42]?).bind fun x43 =>
    (inR x.2.1 (aa x.2.2.2.2)).bind fun k44 =>
    (x.2.2.2.2[k44]?).bind fun _x45 =>
    rec (x.1,(ah .i64 (x.2.1+1)),(cJ x.2.2.1 k39 (ah .i64 (x.2.2.2.1+1))),(ah .i64 (x.2.2.2.1+1)),(cJ x.2.2.2.2 k44 (SO .i64 x43))))
   ((yj x34).bind fun r46 =>
    (inR r46 24).bind fun k47 =>
    (x.2.2.1[k47]?).bind fun x48 =>
    (inR x.2.1 (aa x.2.2.2.2)).bind fun k49 =>
    (x.2.2.2.2[k49]?).bind fun _x50 =>
    rec (x.1,(ah .i64 (x.2.1+1)),x.2.2.1,x.2.2.2.1,(cJ x.2.2.2.2 k49 (SO .i64 x48))))))
 (some (x.2.2.1,x.2.2.2.1,x.2.2.2.2))
def yw (a0:jI) (a1:jI) (a2:Int):Option (jI×jI×Int) :=
 (wR a0).bind fun r52 =>
 ((lp yA zd) (((aa r52:Nat):Int),0,a1,a2,r52)).bind fun r53 =>
 cond (aw (aa a1) (aa r53.1)&&true)
 (some (r53.2.2,r53.1,r53.2.1))
 (none)
def xg (rec:(jQ×Int×Int×jI×Int×jQ×jR×jQ)->Option (jI×Int×jQ×jR×jQ)) (x:(jQ×Int×Int×jI×Int×jQ×jR×jQ)):Option (jI×Int×jQ×jR×jQ) :=
 cond (decide (x.2.2.1<x.2.1))
 ((gx x.1 x.2.2.1).bind fun e19 =>
  (yw e19.2 x.2.2.2.1 x.2.2.2.2.1).bind fun r20 =>
  cond (y9 (aa x.2.2.2.2.2.2.2+aa ([(e19.1,r20.1)]:List zg)) 32)
  (rec (x.1,x.2.1,(ah .i64 (x.2.2.1+1)),r20.2.1,r20.2.2,x.2.2.2.2.2.1,x.2.2.2.2.2.2.1,(x.2.2.2.2.2.2.2++([(e19.1,r20.1)]:List zg))))
  (none))
 (some (x.2.2.2.1,x.2.2.2.2.1,x.2.2.2.2.2.1,x.2.2.2.2.2.2.1,x.2.2.2.2.2.2.2))
def xn (rec:(jR×Int×Int×jI×Int×jQ×jR×jQ×jQ×jR)->Option (jI×Int×jQ×jR)) (x:(jR×Int×Int×jI×Int×jQ×jR×jQ×jQ×jR)):Option (jI×Int×jQ×jR) :=
 cond (decide (x.2.2.1<x.2.1))
 ((gx x.1 x.2.2.1).bind fun e12 =>
  (yw e12 x.2.2.2.1 x.2.2.2.2.1).bind fun r13 =>
  cond (y9 (aa x.2.2.2.2.2.2.2.2.2+aa ([r13.1]:List jI)) 24)
  (rec (x.1,x.2.1,(ah .i64 (x.2.2.1+1)),r13.2.1,r13.2.2,x.2.2.2.2.2.1,x.2.2.2.2.2.2.1,x.2.2.2.2.2.2.2.1,x.2.2.2.2.2.2.2.2.1,(x.2.2.2.2.2.2.2.2.2++([r13.1]:List jI))))
  (none))
 (some (x.2.2.2.1,x.2.2.2.2.1,x.2.2.2.2.2.2.2.2.1,x.2.2.2.2.2.2.2.2.2))
def xd (rec:(jQ×Int×Int×jI×Int×jQ×jR×jQ×jQ)->Option (jI×Int×jQ)) (x:(jQ×Int×Int×jI×Int×jQ×jR×jQ×jQ)):Option (jI×Int×jQ) :=
 cond (decide (x.2.2.1<x.2.1))
 ((gx x.1 x.2.2.1).bind fun e5 =>
  (yw e5.2 x.2.2.2.1 x.2.2.2.2.1).bind fun r6 =>
  cond (y9 (aa x.2.2.2.2.2.2.2.2+aa ([(e5.1,r6.1)]:List zg)) 32)
  (rec (x.1,x.2.1,(ah .i64 (x.2.2.1+1)),r6.2.1,r6.2.2,x.2.2.2.2.2.1,x.2.2.2.2.2.2.1,x.2.2.2.2.2.2.2.1,(x.2.2.2.2.2.2.2.2++([(e5.1,r6.1)]:List zg))))
  (none))
 (some (x.2.2.2.1,x.2.2.2.2.1,x.2.2.2.2.2.2.2.2))
def kA (a0:jQ) (a1:jR) (a2:jQ) (a3:jI) (a4:Int):Option (jQ×jR×jQ×jI×Int) :=
 ((lp xd zd) (a0,((aa a0:Nat):Int),0,a3,a4,a0,a1,a2,([]:jQ))).bind fun r22 =>
 ((lp xn zd) (a1,((aa a1:Nat):Int),0,r22.1,r22.2.1,a0,a1,a2,r22.2.2,([]:jR))).bind fun r23 =>
 ((lp xg zd) (a2,((aa a2:Nat):Int),0,r23.1,r23.2.1,r23.2.2.1,r23.2.2.2,([]:jQ))).bind fun r24 =>
 cond (aw (aa a3) (aa r24.1)&&true)
 (some (r24.2.2.1,r24.2.2.2.1,r24.2.2.2.2,r24.1,r24.2.1))
 (none)
def wy (rec:(jR×Int×Int×jQ×jQ×jR)->Option (jQ×jQ×jR)) (x:(jR×Int×Int×jQ×jQ×jR)):Option (jQ×jQ×jR) :=
 cond (decide (x.2.2.1<x.2.1))
 ((gx x.1 x.2.2.1).bind fun e7 =>
  (qy x.2.2.2.2.2 e7).bind fun r8 =>
  cond (!r8)
  (cond (y9 (aa x.2.2.2.2.2+aa ([e7]:List jI)) 24)
   (rec (x.1,x.2.1,(ah .i64 (x.2.2.1+1)),x.2.2.2.1,x.2.2.2.2.1,(x.2.2.2.2.2++([e7]:List jI))))
   (none))
  (rec (x.1,x.2.1,(ah .i64 (x.2.2.1+1)),x.2.2.2.1,x.2.2.2.2.1,x.2.2.2.2.2)))
 (some (x.2.2.2.1,x.2.2.2.2.1,x.2.2.2.2.2))
def rO (a0:jQ) (a1:jR) (a2:jQ):Option (jQ×jR×jQ) :=
 (tU a0).bind fun r11 =>
 (tU a2).bind fun r12 =>
 ((lp wy zd) (a1,((aa a1:Nat):Int),0,r11,r12,([]:jR))).bind fun r13 =>
 (kA r13.1 r13.2.2 r13.2.1 (ax 24 (0:Int)) 0).bind fun r14 =>
 some (r14.1,r14.2.1,r14.2.2.1)
def vT (a0:jS) (a1:jQ) (a2:jR) (a3:jQ):Option (jQ×jR×Int×jQ) :=
 (xf a0 a1 a2 a3).bind fun r3 =>
 cond (!r3)
 (some (([]:jQ),([]:jR),800,([]:jQ)))
 ((rO a1 a2 a3).bind fun r4 =>
  some (r4.1,r4.2.1,0,r4.2.2))
def va (rec:(jS×jI×Int×jR)->Option (jR⊕jR)) (x:(jS×jI×Int×jR)):Option (jR⊕jR) :=
 cond (decide (x.2.2.1<((aa x.2.1:Nat):Int)))
 ((uW x.1 x.2.1 x.2.2.1).bind fun r5 =>
  cond (!r5.2)
  (some (aD x.2.2.2))
  ((vJ x.2.1 (some x.2.2.1) (some r5.1)).bind fun y6 =>
   cond (y9 (aa x.2.2.2+aa ([y6]:List jI)) 24)
   (rec (x.1,x.2.1,r5.1,(x.2.2.2++([y6]:List jI))))
   (none)))
 (some (aS x.2.2.2))
def x9 (a0:jS) (a1:jI):Option jR :=
 ((lp va zd) (a0,a1,0,([]:jR))).bind fun r10 =>
 yt r10
 (fun z11=>some z11)
 (fun z12=>some z12)
def tB (a0:Int):Option Int :=
 some a0
def xl (rec:(jI×jI×Int)->Option (Unit⊕Bool)) (x:(jI×jI×Int)):Option (Unit⊕Bool) :=
 cond (decide (x.2.2<((aa x.1:Nat):Int)))
 ((gx x.1 x.2.2).bind fun e3 =>
  (gx x.2.1 x.2.2).bind fun e4 =>
  cond (e3 != e4)
  (some (aD false))
  (rec (x.1,x.2.1,(ah .i64 (x.2.2+1)))))
 (some (aS ()))
def x6 (a0:jI) (a1:jI):Option Bool :=
 cond (((aa a0:Nat):Int) != ((aa a1:Nat):Int))
 (some false)
 (((lp xl zd) (a0,a1,0)).bind fun r8 =>
  yt r8
  (fun _z9=>some true)
  (fun z10=>some z10))
def xj (rec:(jQ×jQ×Int)->Option (Unit⊕Bool)) (x:(jQ×jQ×Int)):Option (Unit⊕Bool) :=
 cond (decide (x.2.2<((aa x.1:Nat):Int)))
 ((gx x.1 x.2.2).bind fun e6 =>
  (gx x.2.1 x.2.2).bind fun e7 =>
  cond (!(e6.1==e7.1))
  (some (aD false))
  ((gx x.1 x.2.2).bind fun e8 =>
   (gx x.2.1 x.2.2).bind fun e9 =>
   (x6 e8.2 e9.2).bind fun r10 =>
   cond (!r10)
   (some (aD false))
   (rec (x.1,x.2.1,(ah .i64 (x.2.2+1))))))
 (some (aS ()))
def ue (a0:jQ) (a1:jQ):Option Bool :=
 cond (((aa a0:Nat):Int) != ((aa a1:Nat):Int))
 (some false)
 (((lp xj zd) (a0,a1,0)).bind fun r14 =>
  yt r14
  (fun _z15=>some true)
  (fun z16=>some z16))
def xi (rec:(jR×jR×Int)->Option (Unit⊕Bool)) (x:(jR×jR×Int)):Option (Unit⊕Bool) :=
 cond (decide (x.2.2<((aa x.1:Nat):Int)))
 ((gx x.1 x.2.2).bind fun e4 =>
  (gx x.2.1 x.2.2).bind fun e5 =>
  (x6 e4 e5).bind fun r6 =>
  cond (!r6)
  (some (aD false))
  (rec (x.1,x.2.1,(ah .i64 (x.2.2+1)))))
 (some (aS ()))
def tK (a0:jR) (a1:jR):Option Bool :=
 cond (((aa a0:Nat):Int) != ((aa a1:Nat):Int))
 (some false)
 (((lp xi zd) (a0,a1,0)).bind fun r10 =>
  yt r10
  (fun _z11=>some true)
  (fun z12=>some z12))
def yr (a0:jQ) (a1:jR) (a2:jQ) (a3:jQ) (a4:jR) (a5:jQ):Option Bool :=
 (ue a0 a3).bind fun r4 =>
 cond r4
 ((tK a1 a4).bind fun r5 =>
  cond r5
  ((ue a2 a5).bind fun r6 =>
   some r6)
  (some false))
 (some false)
theorem zK {X Y:Type} (s:(X->Option Y)->X->Option Y) (k:Nat):lp s (k+1)=s (lp s k):=rfl
theorem qJ {α:Type} (xs:List α) (i:Nat):gx xs (i:Int)=xs[i]? := by
 unfold gx;rw[show decide ((0:Int)<=(i:Int))=true from by simp]
 rfl
theorem y5 {α:Type} (xs:List α):gx xs 0=xs[0]? := qJ xs 0
theorem Mf {α:Type} {xs:List α} {i:Int} (h0:0<=i) (h:i<xs.length):∃ x,gx xs i=some x∧x∈xs∧xs[i.toNat]? = some x:=by
 have hi:i.toNat<xs.length:=by omega
 refine ⟨xs[i.toNat],?_,List.getElem_mem hi,al hi⟩;unfold gx;rw[show decide ((0:Int)<=i)=true from by simp; omega,cond_true,al hi]
theorem xb {i l:Nat} (h:i<l):inR (i:Int) l=some i:=by
 unfold inR;simp [h]
theorem zC {n:Int} (h1 : -9223372036854775808<=n) (h2:n<=9223372036854775807):ah .i64 n=n:=by
 simp [ah,fh,dW];omega
theorem jm {i l:Nat} (h:i<l) (hl:l<=maxLen):ah .i64 ((i:Int)+1)=((i+1:Nat):Int):=by
 unfold maxLen at hl;rw[zC]<;>omega
theorem kv {i l:Nat} (h:i<l):decide ((i:Int)<(l:Int))=true:=by simp [h]
theorem sr {i l:Nat} (h:l<=i):decide ((i:Int)<(l:Int))=false:=by simp; omega
theorem wc {α:Type} {xs:List α} {i:Nat} (h:xs.drop i=[]):xs.length<=i:=by simpa using h
theorem yk {α:Type} {xs es:List α} {e:α} {i:Nat} (h:xs.drop i=e::es):i<xs.length:=by
 rw[← Nat.not_le];intro hn;rw[cy.2 hn] at h;cases h
theorem zv {α:Type} {xs es:List α} {e:α} {i:Nat} (h:xs.drop i=e::es):xs[i]? = some e:=by
 have:=congrArg (·[0]?) h;simpa using this
theorem zm {α:Type} {xs es:List α} {e:α} {i:Nat} (h:xs.drop i=e::es):xs.drop (i+1)=es:=by
 rw[← cg,h];rfl
theorem u3 {A R T:Type} {xs:List A} (f:(T->Option R)->T->Option R) (mk:Int->T) (go:List A->Nat->Option R) (hl:aa xs<=maxLen)
  (h0:∀(r:T->Option R) (i:Nat),decide ((i:Int)<((aa xs:Nat):Int))=false->f r (mk (i:Int))=go [] i)
  (h1:∀(r:T->Option R) (i:Nat) e es,decide ((i:Int)<((aa xs:Nat):Int))=true->gx xs (i:Int)=some e->ah .i64 ((i:Int)+1)=((i+1:Nat):Int)->(r (mk ((i+1:Nat):Int))=go es (i+1))->f r (mk (i:Int))=go (e::es) i)
   : lp f zd (mk 0)=go xs 0:=by
 have key:∀(es:List A) (i k:Nat),xs.drop i=es->es.length<k->lp f k (mk (i:Int))=go es i:=by
  intro es
  induction es with
  | nil =>
   intro i k h hk;obtain⟨k,rfl⟩:∃ k',k=k'+1:=⟨k - 1,by omega⟩
   exact h0 _ i (sr (wc h))
  | cons e es ih =>
   intro i k h hk;obtain⟨k,rfl⟩:∃ k',k=k'+1:=⟨k - 1,by omega⟩
   have hi:=yk h;exact h1 _ i e es (kv hi) ((qJ xs i).trans (zv h)) (jm hi hl) (ih (i+1) k (zm h) (cn hk))
 exact key xs 0 zd rfl (cZ hl (by decide))
theorem wG {A S0 R T:Type} {xs:List A} (f:(T->Option R)->T->Option R) (mk:Int->S0->T) (go:List A->Nat->S0->Option R) (hl:aa xs<=maxLen)
  (h0:∀(r:T->Option R) (i:Nat) s0,decide ((i:Int)<((aa xs:Nat):Int))=false->f r (mk (i:Int) s0)=go [] i s0)
  (h1:∀(r:T->Option R) (i:Nat) s0 e es,decide ((i:Int)<((aa xs:Nat):Int))=true->gx xs (i:Int)=some e->ah .i64 ((i:Int)+1)=((i+1:Nat):Int)->(∀ s0,r (mk ((i+1:Nat):Int) s0)=go es (i+1) s0)->f r (mk (i:Int) s0)=go (e::es) i s0)
  (s0:S0):lp f zd (mk 0 s0)=go xs 0 s0:=by
 have key:∀(es:List A) (i k:Nat) s0,xs.drop i=es->es.length<k->lp f k (mk (i:Int) s0)=go es i s0:=by
  intro es
  induction es with
  | nil =>
   intro i k s0 h hk;obtain⟨k,rfl⟩:∃ k',k=k'+1:=⟨k - 1,by omega⟩
   exact h0 _ i s0 (sr (wc h))
  | cons e es ih =>
   intro i k s0 h hk;obtain⟨k,rfl⟩:∃ k',k=k'+1:=⟨k - 1,by omega⟩
   have hi:=yk h;exact h1 _ i s0 e es (kv hi) ((qJ xs i).trans (zv h)) (jm hi hl) (fun s0=>ih (i+1) k s0 (zm h) (cn hk))
 exact key xs 0 zd s0 rfl (cZ hl (by decide))
theorem zas {A S0 S1 R T:Type} {xs:List A} (f:(T->Option R)->T->Option R) (mk:Int->S0->S1->T) (go:List A->Nat->S0->S1->Option R) (hl:aa xs<=maxLen)
  (h0:∀(r:T->Option R) (i:Nat) s0 s1,decide ((i:Int)<((aa xs:Nat):Int))=false->f r (mk (i:Int) s0 s1)=go [] i s0 s1)
  (h1:∀(r:T->Option R) (i:Nat) s0 s1 e es,decide ((i:Int)<((aa xs:Nat):Int))=true->gx xs (i:Int)=some e->ah .i64 ((i:Int)+1)=((i+1:Nat):Int)->(∀ s0 s1,r (mk ((i+1:Nat):Int) s0 s1)=go es (i+1) s0 s1)->f r (mk (i:Int) s0 s1)=go (e::es) i s0 s1)
  (s0:S0) (s1:S1):lp f zd (mk 0 s0 s1)=go xs 0 s0 s1:=by
 have key:∀(es:List A) (i k:Nat) s0 s1,xs.drop i=es->es.length<k->lp f k (mk (i:Int) s0 s1)=go es i s0 s1:=by
  intro es
  induction es with
  | nil =>
   intro i k s0 s1 h hk;obtain⟨k,rfl⟩:∃ k',k=k'+1:=⟨k - 1,by omega⟩
   exact h0 _ i s0 s1 (sr (wc h))
  | cons e es ih =>
   intro i k s0 s1 h hk;obtain⟨k,rfl⟩:∃ k',k=k'+1:=⟨k - 1,by omega⟩
   have hi:=yk h;exact h1 _ i s0 s1 e es (kv hi) ((qJ xs i).trans (zv h)) (jm hi hl) (fun s0 s1=>ih (i+1) k s0 s1 (zm h) (cn hk))
 exact key xs 0 zd s0 s1 rfl (cZ hl (by decide))
theorem Ob {A S0 S1 S2 R T:Type} {xs:List A} (f:(T->Option R)->T->Option R) (mk:Int->S0->S1->S2->T) (go:List A->Nat->S0->S1->S2->Option R) (hl:aa xs<=maxLen)
  (h0:∀(r:T->Option R) (i:Nat) s0 s1 s2,decide ((i:Int)<((aa xs:Nat):Int))=false->f r (mk (i:Int) s0 s1 s2)=go [] i s0 s1 s2)
  (h1:∀(r:T->Option R) (i:Nat) s0 s1 s2 e es,decide ((i:Int)<((aa xs:Nat):Int))=true->gx xs (i:Int)=some e->ah .i64 ((i:Int)+1)=((i+1:Nat):Int)->(∀ s0 s1 s2,r (mk ((i+1:Nat):Int) s0 s1 s2)=go es (i+1) s0 s1 s2)->f r (mk (i:Int) s0 s1 s2)=go (e::es) i s0 s1 s2)
  (s0:S0) (s1:S1) (s2:S2):lp f zd (mk 0 s0 s1 s2)=go xs 0 s0 s1 s2:=by
 have key:∀(es:List A) (i k:Nat) s0 s1 s2,xs.drop i=es->es.length<k->lp f k (mk (i:Int) s0 s1 s2)=go es i s0 s1 s2:=by
  intro es
  induction es with
  | nil =>
   intro i k s0 s1 s2 h hk;obtain⟨k,rfl⟩:∃ k',k=k'+1:=⟨k - 1,by omega⟩
   exact h0 _ i s0 s1 s2 (sr (wc h))
  | cons e es ih =>
   intro i k s0 s1 s2 h hk;obtain⟨k,rfl⟩:∃ k',k=k'+1:=⟨k - 1,by omega⟩
   have hi:=yk h;exact h1 _ i s0 s1 s2 e es (kv hi) ((qJ xs i).trans (zv h)) (jm hi hl) (fun s0 s1 s2=>ih (i+1) k s0 s1 s2 (zm h) (cn hk))
 exact key xs 0 zd s0 s1 s2 rfl (cZ hl (by decide))
def zQ:List UInt8->Option (Unit⊕Bool)
 | []=>some (aS ())
 | e::es =>
  (tL ((bw e:Nat):Int)).bind fun r8 =>
  cond (!r8)
  (cond (decide (((bw e:Nat):Int)<48))
   (some (aD false))
   (cond (decide (((bw e:Nat):Int)>57))
    (some (aD false))
    (zQ es)))
  (zQ es)
theorem jy (s0:Str) (hl:aa s0<=maxLen):lp wu zd (s0,((aa s0:Nat):Int),0)=zQ s0:=u3 wu (fun i=>(s0,((aa s0:Nat):Int),i)) (fun es i=>zQ es) hl (fun r i h=>by unfold wu zQ; simp only[h,cond_false]) (fun r i e es h g w k=>by unfold wu zQ; simp only[h,cond_true,g,af,w,k])
def yS (s1:Str):List zl->Nat->Option (Unit⊕Int)
 | [],_i=>some (aS ())
 | e::es,i =>
  cond (e.1==s1)
  (some (aD (i:Int)))
  (yS s1 es (i+1))
theorem Ys (s0:jS) (s1:Str) (hl:aa s0<=maxLen):lp vz zd (s0,s1,((aa s0:Nat):Int),0)=yS s1 s0 0:=u3 vz (fun i=>(s0,s1,((aa s0:Nat):Int),i)) (fun es i=>yS s1 es i) hl (fun r i h=>by unfold vz yS; simp only[h,cond_false]) (fun r i e es h g w k=>by unfold vz yS; simp only[h,cond_true,g,af,w,k])
def wo (s0:jS):List zl->Nat->Option (Unit⊕Bool)
 | [],_i=>some (aS ())
 | e::es,i =>
  (tX e.1 e.2.1 e.2.2.1 e.2.2.2).bind fun r7 =>
  cond (!r7)
  (some (aD false))
  ((j5 s0 e.1).bind fun r9 =>
   cond (r9 != (i:Int))
   (some (aD false))
   (wo s0 es (i+1)))
theorem QE (s0:jS) (hl:aa s0<=maxLen):∀(es:List zl) (i:Nat) (k:Nat),s0.drop i=es->es.length<k->lp vj k (s0,(i:Int))=wo s0 es i:=by
 intro es
 induction es with
 | nil =>
  intro i k h hk;obtain⟨k,rfl⟩:∃ k',k=k'+1:=⟨k - 1,by omega⟩
  rw[zK];generalize lp vj k=rec;unfold vj wo;simp only[sr (wc h),cond_false]
 | cons e es ih =>
  intro i k h hk;obtain⟨k,rfl⟩:∃ k',k=k'+1:=⟨k - 1,by omega⟩
  rw[zK];have hi:=yk h;have hk2:es.length<k:=cn hk;have key:=fun (_:Unit)=>ih (i+1) k (zm h) hk2;generalize lp vj k=rec at key ⊢;unfold vj wo;simp only[kv hi,cond_true,qJ,zv h,af,jm hi hl,key ()]
def zR (s0:jS):List zg->Int->Option (Int⊕(Int×Bool))
 | [],s1=>some (aS s1)
 | e::es,s1 =>
  (kr s0 e.1 e.2).bind fun r4 =>
  cond (!r4)
  (some (aD (0,false)))
  (zR s0 es (ah .i64 (s1+((aa e.2:Nat):Int))))
theorem rh (s0:jS) (s2:jQ) (s1:Int) (hl:aa s2<=maxLen):lp qS zd (s0,s1,s2,((aa s2:Nat):Int),0)=zR s0 s2 s1:=wG qS (fun i s1=>(s0,s1,s2,((aa s2:Nat):Int),i)) (fun es i s1=>zR s0 es s1) hl (fun r i s1 h=>by unfold qS zR; simp only[h,cond_false]) (fun r i s1 e es h g w k=>by unfold qS zR; simp only[h,cond_true,g,af,w,k]) s1
def zA (s0:jS):List jI->Nat->Int->Int->Option (Int⊕(Int×Bool))
 | [],_i,s1,_s2=>some (aS s1)
 | e::es,i,s1,s2 =>
  (ku s0 e).bind fun r4 =>
  cond ((i:Int)==0)
  (cond (r4.2 != 0)
   (some (aD (0,false)))
   (cond (r4.1 != r4.1)
    (some (aD (0,false)))
    (zA s0 es (i+1) (ah .i64 (s1+((aa e:Nat):Int))) r4.1)))
  (cond (r4.2 != 0)
   (some (aD (0,false)))
   (cond (r4.1 != s2)
    (some (aD (0,false)))
    (zA s0 es (i+1) (ah .i64 (s1+((aa e:Nat):Int))) s2)))
theorem rd (s0:jS) (s3:jR) (s1:Int) (s2:Int) (hl:aa s3<=maxLen):lp qQ zd (s0,s1,s2,s3,((aa s3:Nat):Int),0)=zA s0 s3 0 s1 s2:=zas qQ (fun i s1 s2=>(s0,s1,s2,s3,((aa s3:Nat):Int),i)) (fun es i s1 s2=>zA s0 es i s1 s2) hl (fun r i s1 s2 h=>by unfold qQ zA; simp only[h,cond_false]) (fun r i s1 s2 e es h g w k=>by unfold qQ zA; simp only[h,cond_true,g,af,w,k]) s1 s2
def yP (s1:jI):List Int->Nat->Option (Unit⊕Bool)
 | [],_i=>some (aS ())
 | e::es,i =>
  (gx s1 (i:Int)).bind fun e4 =>
  cond (e != e4)
  (some (aD false))
  (yP s1 es (i+1))
theorem jf (s0:jI) (s1:jI) (hl:aa s0<=maxLen):lp xW zd (s0,s1,((aa s0:Nat):Int),0)=yP s1 s0 0:=u3 xW (fun i=>(s0,s1,((aa s0:Nat):Int),i)) (fun es i=>yP s1 es i) hl (fun r i h=>by unfold xW yP; simp only[h,cond_false]) (fun r i e es h g w k=>by unfold xW yP; simp only[h,cond_true,g,af,w,k])
def zS (s3:Bool) (s4:jI):List zg->Nat->Option (Unit⊕Int)
 | [],_i=>some (aS ())
 | e::es,i =>
  (uQ e.1 e.2 s3 s4).bind fun r4 =>
  cond r4
  (some (aD (i:Int)))
  (zS s3 s4 es (i+1))
theorem sj (s0:jQ) (s3:Bool) (s4:jI) (hl:aa s0<=maxLen):lp qb zd (s0,((aa s0:Nat):Int),0,s3,s4)=zS s3 s4 s0 0:=u3 qb (fun i=>(s0,((aa s0:Nat):Int),i,s3,s4)) (fun es i=>zS s3 s4 es i) hl (fun r i h=>by unfold qb zS; simp only[h,cond_false]) (fun r i e es h g w k=>by unfold qb zS; simp only[h,cond_true,g,af,w,k])
def yM:List zg->jQ->Option jQ
 | [],s3=>some s3
 | e::es,s3 =>
  (q9 s3 e.1 e.2).bind fun r6 =>
  cond (!r6)
  (cond (y9 (aa s3+aa ([(e.1,e.2)]:List zg)) 32)
   (yM es (s3++([(e.1,e.2)]:List zg)))
   (none))
  (yM es s3)
theorem Ze (s0:jQ) (s3:jQ) (hl:aa s0<=maxLen):lp wj zd (s0,((aa s0:Nat):Int),0,s3)=yM s0 s3:=wG wj (fun i s3=>(s0,((aa s0:Nat):Int),i,s3)) (fun es i s3=>yM es s3) hl (fun r i s3 h=>by unfold wj yM; simp only[h,cond_false]) (fun r i s3 e es h g w k=>by unfold wj yM; simp only[h,cond_true,g,af,w,k]) s3
def zJ (s3:jI):List jI->Nat->Option (Unit⊕Int)
 | [],_i=>some (aS ())
 | e::es,i =>
  (uP e s3).bind fun r4 =>
  cond r4
  (some (aD (i:Int)))
  (zJ s3 es (i+1))
theorem tG (s0:jR) (s3:jI) (hl:aa s0<=maxLen):lp yJ zd (s0,((aa s0:Nat):Int),0,s3)=zJ s3 s0 0:=u3 yJ (fun i=>(s0,((aa s0:Nat):Int),i,s3)) (fun es i=>zJ s3 es i) hl (fun r i h=>by unfold yJ zJ; simp only[h,cond_false]) (fun r i e es h g w k=>by unfold yJ zJ; simp only[h,cond_true,g,af,w,k])
def yc (s5:jQ) (s6:jR):List zg->jI->Int->jQ->Option (jI×Int×jQ×jR×jQ)
 | [],s3,s4,s7=>some (s3,s4,s5,s6,s7)
 | e::es,s3,s4,s7 =>
  (yw e.2 s3 s4).bind fun r20 =>
  cond (y9 (aa s7+aa ([(e.1,r20.1)]:List zg)) 32)
  (yc s5 s6 es r20.2.1 r20.2.2 (s7++([(e.1,r20.1)]:List zg)))
  (none)
theorem rQ (s0:jQ) (s5:jQ) (s6:jR) (s3:jI) (s4:Int) (s7:jQ) (hl:aa s0<=maxLen):lp xg zd (s0,((aa s0:Nat):Int),0,s3,s4,s5,s6,s7)=yc s5 s6 s0 s3 s4 s7:=Ob xg (fun i s3 s4 s7=>(s0,((aa s0:Nat):Int),i,s3,s4,s5,s6,s7)) (fun es i s3 s4 s7=>yc s5 s6 es s3 s4 s7) hl (fun r i s3 s4 s7 h=>by unfold xg yc; simp only[h,cond_false]) (fun r i s3 s4 s7 e es h g w k=>by unfold xg yc; simp only[h,cond_true,g,af,w,k]) s3 s4 s7
def z5 (s8:jQ):List jI->jI->Int->jR->Option (jI×Int×jQ×jR)
 | [],s3,s4,s9=>some (s3,s4,s8,s9)
 | e::es,s3,s4,s9 =>
  (yw e s3 s4).bind fun r13 =>
  cond (y9 (aa s9+aa ([r13.1]:List jI)) 24)
  (z5 s8 es r13.2.1 r13.2.2 (s9++([r13.1]:List jI)))
  (none)
theorem rE (s0:jR) (s5:jQ) (s6:jR) (s7:jQ) (s8:jQ) (s3:jI) (s4:Int) (s9:jR) (hl:aa s0<=maxLen):lp xn zd (s0,((aa s0:Nat):Int),0,s3,s4,s5,s6,s7,s8,s9)=z5 s8 s0 s3 s4 s9:=Ob xn (fun i s3 s4 s9=>(s0,((aa s0:Nat):Int),i,s3,s4,s5,s6,s7,s8,s9)) (fun es i s3 s4 s9=>z5 s8 es s3 s4 s9) hl (fun r i s3 s4 s9 h=>by unfold xn z5; simp only[h,cond_false]) (fun r i s3 s4 s9 e es h g w k=>by unfold xn z5; simp only[h,cond_true,g,af,w,k]) s3 s4 s9
def zY:List zg->jI->Int->jQ->Option (jI×Int×jQ)
 | [],s3,s4,s8=>some (s3,s4,s8)
 | e::es,s3,s4,s8 =>
  (yw e.2 s3 s4).bind fun r6 =>
  cond (y9 (aa s8+aa ([(e.1,r6.1)]:List zg)) 32)
  (zY es r6.2.1 r6.2.2 (s8++([(e.1,r6.1)]:List zg)))
  (none)
theorem km (s0:jQ) (s5:jQ) (s6:jR) (s7:jQ) (s3:jI) (s4:Int) (s8:jQ) (hl:aa s0<=maxLen):lp xd zd (s0,((aa s0:Nat):Int),0,s3,s4,s5,s6,s7,s8)=zY s0 s3 s4 s8:=Ob xd (fun i s3 s4 s8=>(s0,((aa s0:Nat):Int),i,s3,s4,s5,s6,s7,s8)) (fun es i s3 s4 s8=>zY es s3 s4 s8) hl (fun r i s3 s4 s8 h=>by unfold xd zY; simp only[h,cond_false]) (fun r i s3 s4 s8 e es h g w k=>by unfold xd zY; simp only[h,cond_true,g,af,w,k]) s3 s4 s8
def yD (s3:jQ) (s4:jQ):List jI->jR->Option (jQ×jQ×jR)
 | [],s5=>some (s3,s4,s5)
 | e::es,s5 =>
  (qy s5 e).bind fun r8 =>
  cond (!r8)
  (cond (y9 (aa s5+aa ([e]:List jI)) 24)
   (yD s3 s4 es (s5++([e]:List jI)))
   (none))
  (yD s3 s4 es s5)
theorem jp (s0:jR) (s3:jQ) (s4:jQ) (s5:jR) (hl:aa s0<=maxLen):lp wy zd (s0,((aa s0:Nat):Int),0,s3,s4,s5)=yD s3 s4 s0 s5:=wG wy (fun i s5=>(s0,((aa s0:Nat):Int),i,s3,s4,s5)) (fun es i s5=>yD s3 s4 es s5) hl (fun r i s5 h=>by unfold wy yD; simp only[h,cond_false]) (fun r i s5 e es h g w k=>by unfold wy yD; simp only[h,cond_true,g,af,w,k]) s5
def yC (s1:jI):List Int->Nat->Option (Unit⊕Bool)
 | [],_i=>some (aS ())
 | e::es,i =>
  (gx s1 (i:Int)).bind fun e4 =>
  cond (e != e4)
  (some (aD false))
  (yC s1 es (i+1))
theorem kz (s0:jI) (s1:jI) (hl:aa s0<=maxLen):lp xl zd (s0,s1,0)=yC s1 s0 0:=u3 xl (fun i=>(s0,s1,i)) (fun es i=>yC s1 es i) hl (fun r i h=>by unfold xl yC; simp only[h,cond_false]) (fun r i e es h g w k=>by unfold xl yC; simp only[h,cond_true,g,af,w,k])
def yB (s1:jQ):List zg->Nat->Option (Unit⊕Bool)
 | [],_i=>some (aS ())
 | e::es,i =>
  (gx s1 (i:Int)).bind fun e7 =>
  cond (!(e.1==e7.1))
  (some (aD false))
  ((gx s1 (i:Int)).bind fun e9 =>
   (x6 e.2 e9.2).bind fun r10 =>
   cond (!r10)
   (some (aD false))
   (yB s1 es (i+1)))
theorem ke (s0:jQ) (s1:jQ) (hl:aa s0<=maxLen):lp xj zd (s0,s1,0)=yB s1 s0 0:=u3 xj (fun i=>(s0,s1,i)) (fun es i=>yB s1 es i) hl (fun r i h=>by unfold xj yB; simp only[h,cond_false]) (fun r i e es h g w k=>by unfold xj yB; simp only[h,cond_true,g,af,w,k])
def yy (s1:jR):List jI->Nat->Option (Unit⊕Bool)
 | [],_i=>some (aS ())
 | e::es,i =>
  (gx s1 (i:Int)).bind fun e5 =>
  (x6 e e5).bind fun r6 =>
  cond (!r6)
  (some (aD false))
  (yy s1 es (i+1))
theorem kx (s0:jR) (s1:jR) (hl:aa s0<=maxLen):lp xi zd (s0,s1,0)=yy s1 s0 0:=u3 xi (fun i=>(s0,s1,i)) (fun es i=>yy s1 es i) hl (fun r i h=>by unfold xi yy; simp only[h,cond_false]) (fun r i e es h g w k=>by unfold xi yy; simp only[h,cond_true,g,af,w,k])
def Y1 (n:Int):Bool:=decide (97<=n)&&decide (n<=122)
theorem tv (n:Int):tL n=some (Y1 n):=by
 unfold tL Y1;by_cases h:n≥97<;>simp [h]
def Ay (e:UInt8):Bool:=Y1 ((bw e:Nat):Int)||(decide (48<=((bw e:Nat):Int))&&decide (((bw e:Nat):Int)<=57))
theorem Gn (es:List UInt8):zQ es=some (cond (es.all Ay) (.inl ()) (.inr false)):=by
 induction es with
 | nil=>rfl
 | cons e es ih =>
  unfold zQ;rw[tv,af,ih,b9];unfold Ay;cases h:Y1 ((bw e:Nat):Int) with
  | true=>simp
  | false =>
   by_cases h1:((bw e:Nat):Int)<48
   ·have:¬(48<=((bw e:Nat):Int)):=by omega
    simp only[bM,cond_true,decide_eq_true h1,decide_eq_false this,bl,d7,cond_false]
   ·have h3:48<=((bw e:Nat):Int):=by omega
    by_cases h2:((bw e:Nat):Int)>57
    ·have:¬(((bw e:Nat):Int)<=57):=by omega
     simp only[bM,cond_true,decide_eq_false h1,decide_eq_true h2,decide_eq_false this,cj,bl,d7,cond_false]
    ·have h4:((bw e:Nat):Int)<=57:=by omega
     simp only[bM,cond_true,decide_eq_false h1,decide_eq_false h2,decide_eq_true h3,decide_eq_true h4,dK,aU,Bool.or_true,cond_false]
def ju (s:Str):Bool:=match s with
 | []=>false
 | c::_=>decide (s.length<=8)&&Y1 ((bw c:Nat):Int)&&s.all Ay
theorem Vp (s:Str):ka s=some (ju s):=by
 unfold ka ju;cases s with
 | nil=>rfl
 | cons c r =>
  rw[show ((c::r:Str)==([]:Str))=false from rfl,cond_false]
  by_cases h:(c::r).length<=8
  ·have h1:¬(((aa (c::r):Nat):Int)>8):=by omega
   rw[decide_eq_false h1,cond_false,y5,ay,af,tv,af,jy _ (by unfold maxLen; omega),Gn,decide_eq_true h]
   dsimp only;cases Y1 ((bw c:Nat):Int) with
   | false=>rfl
   | true=>cases (c::r).all Ay<;>rfl
  ·have h1:((aa (c::r):Nat):Int)>8:=by omega
   rw[decide_eq_true h1,decide_eq_false h];rfl
def Ff (e:zl):Bool:=ju e.1&&decide (0<=e.2.1)&&decide (e.2.1<=2)&&decide (0<=e.2.2.1)&&decide (e.2.2.1<=3)&&decide (1<=e.2.2.2)&&decide (e.2.2.2<=20)
theorem Vl (e:zl):tX e.1 e.2.1 e.2.2.1 e.2.2.2=some (Ff e):=by
 unfold tX Ff;rw[Vp,af];cases ju e.1<;>simp only[cond_true,cond_false,aU,bl,ge_iff_le]
 cases decide (0<=e.2.1)<;>simp only[cond_true,cond_false,aU,bl]
 cases decide (e.2.1<=2)<;>simp only[cond_true,cond_false,aU,bl]
 cases decide (0<=e.2.2.1)<;>simp only[cond_true,cond_false,aU,bl]
 cases decide (e.2.2.1<=3)<;>simp only[cond_true,cond_false,aU,bl]
 cases decide (1<=e.2.2.2)<;>simp only[cond_true,cond_false,aU,bl]
def Ov (o:Option Nat):Int:=match o with
 | some i=>(i:Int)
 | none => -1
theorem Mr (nm:Str) (es:List zl) (i:Nat):yS nm es i=some (match es.findIdx? (fun e=>e.1==nm) with
  | some j=>.inr ((i+j:Nat):Int)
  | none=>.inl ()):=by
 induction es generalizing i with
 | nil=>rfl
 | cons e es ih =>
  unfold yS;rw[List.findIdx?_cons];cases h:(e.1==nm) with
  | true=>simp
  | false =>
   rw[cond_false,ih];cases es.findIdx? (fun e=>e.1==nm) with
   | none=>rfl
   | some j=>simp; omega
theorem Gu (a0:List zl) (nm:Str) (h:a0.length<=maxLen):j5 a0 nm=some (Ov (a0.findIdx? (fun e=>e.1==nm))):=by
 unfold j5;rw[Ys _ _ h,Mr];cases a0.findIdx? (fun e=>e.1==nm) with
 | none=>rfl
 | some j=>simp [yt,Ov]
def Qr (a0:List zl):List zl->Nat->Bool
 | [],_=>true
 | e::es,i=>Ff e&&(Ov (a0.findIdx? (fun d=>d.1==e.1))==(i:Int))&&Qr a0 es (i+1)
theorem zcy (a0:List zl) (h:a0.length<=maxLen) (es:List zl) (i:Nat):wo a0 es i=some (cond (Qr a0 es i) (.inl ()) (.inr false)):=by
 induction es generalizing i with
 | nil=>rfl
 | cons e es ih =>
  unfold wo Qr;rw[Vl,af,Gu _ _ h,af,ih,bne];cases Ff e with
  | false=>rfl
  | true =>
   cases (Ov (a0.findIdx? (fun d=>d.1==e.1))==(i:Int)) with
   | false=>rfl
   | true=>simp
def I3:zl:=([61],0,2,1)
def eqQ (e:zl):Bool:=cond (eqS e.1 [61]) (cond (eqI e.2.1 0) (cond (eqI e.2.2.1 2) (cond (eqI e.2.2.2 1) true false) false) false) false
theorem UO (e:zl):eqQ e=true↔e=I3:=by
 obtain⟨a,b,c,d⟩:=e;unfold eqQ I3 eqS eqI;cases h1:(a==([61]:List UInt8))<;>cases h2:(b==0)<;>cases h3:(c==2)<;>cases h4:(d==1)<;>simp_all
def uf (a0:List zl):Bool:=match a0 with
 | []=>false
 | e::es=>decide (a0.length<=20)&&eqQ e&&Qr a0 es 1
theorem Yd (a0:List zl):Zs a0=some (uf a0):=by
 unfold Zs uf;cases a0 with
 | nil=>rfl
 | cons e es =>
  rw[decide_eq_false (show ¬(((aa (e::es):Nat):Int)<1) by rw[au]; omega),cond_false]
  by_cases h:(e::es).length<=20
  ·have h1:¬(((aa (e::es):Nat):Int)>20):=by omega
   have hm:(e::es).length<=maxLen:=by unfold maxLen; omega
   rw[decide_eq_false h1,cond_false,y5,ay,af,decide_eq_true h];show cond (!(eqQ e)) _ _=some (true&&eqQ e&&Qr (e::es) es 1);cases eqQ e with
   | false=>rfl
   | true =>
    have:=QE (e::es) hm es 1 zd rfl (by simp [zd]; simp at h; omega)
    simp only[aH,cond_false];rw[show ((1:Int))=((1:Nat):Int) from rfl,this,zcy _ hm]
    cases Qr (e::es) es 1<;>rfl
  ·have h1:((aa (e::es):Nat):Int)>20:=by omega
   rw[decide_eq_true h1,decide_eq_false h];rfl
theorem Bl {a0:List zl}:{es:List zl}->{i:Nat}->Qr a0 es i=true->∀(j:Nat) e,es[j]? = some e->Ff e=true∧Ov (a0.findIdx? (fun d=>d.1==e.1))=((i+j:Nat):Int)
 | [],_,_,j,e,he=>by simp at he
 | d::es,i,h,0,e,he=>by
  injection he with he; subst he;simp only[Qr,ap] at h;exact ⟨h.1.1,by simpa using h.1.2⟩
 | d::es,i,h,j+1,e,he=>by
  simp only[Qr,ap] at h;have:=Bl h.2 j e (by simpa using he)
  exact ⟨this.1,by rw[this.2]; omega⟩
structure SignOk (a0:List zl):Prop where
 pos:1<=a0.length
 len:a0.length<=20
 eq:a0[0]? = some I3
 sym:∀(i:Nat) e,a0[i+1]? = some e->Ff e=true∧Ov (a0.findIdx? (fun d=>d.1==e.1))=((i+1:Nat):Int)
theorem tD {a0:List zl} (h:uf a0=true):SignOk a0:=by
 unfold uf at h;cases a0 with
 | nil=>cases h
 | cons e es =>
  simp only[ap,decide_eq_true_eq] at h;exact ⟨by simp,h.1.1,by rw[ay,(UO e).1 h.1.2],fun i d hd=>by
   have:=Bl h.2 i d (by simpa using hd)
   exact ⟨this.1,by rw[this.2]; omega⟩⟩
theorem SignOk.max {a0:List zl} (h:SignOk a0):a0.length<=maxLen:=Nat.le_trans h.len (by unfold maxLen; omega)
theorem HZ {e:zl} (h:Ff e=true):ju e.1=true∧0<=e.2.1∧e.2.1<=2∧0<=e.2.2.1∧e.2.2.1<=3∧1<=e.2.2.2∧e.2.2.2<=20:=by
 unfold Ff at h;simp only[ap,decide_eq_true_eq] at h;exact ⟨h.1.1.1.1.1.1,h.1.1.1.1.1.2,h.1.1.1.1.2,h.1.1.1.2,h.1.1.2,h.1.2,h.2⟩
theorem IC {s:Str} (h:ju s=true):1<=s.length∧s.length<=8:=by
 unfold ju at h;cases s with
 | nil=>cases h
 | cons c r =>
  simp only[ap,decide_eq_true_eq] at h;exact ⟨by simp,h.1.1⟩
theorem SignOk.at {a0:List zl} (h:SignOk a0) {i:Nat} {e:zl} (he:a0[i]? = some e):1<=e.1.length∧e.1.length<=8∧0<=e.2.1∧e.2.1<=2∧0<=e.2.2.1∧e.2.2.1<=3:=by
 cases i with
 | zero =>
  rw[h.eq] at he;injection he with he; subst he;decide
 | succ i =>
  obtain⟨h1,h2,h3,h4,h5,_⟩:=HZ (h.sym i e he).1;have:=IC h1;exact ⟨this.1,this.2,h2,h3,h4,h5⟩
def vm (a0:List zl) (x:Int):Option Nat :=
 cond (decide (x<0)) (cond (decide (-24<=x)) (some 0) none) (match a0[x.toNat]? with
  | some e=>cond (e.2.1==0) none (some e.2.2.1.toNat)
  | none=>none)
def nOk (o:Option Nat):Int×Bool:=match o with
 | some k=>((k:Int),true)
 | none=>(0,false)
theorem wl {x:Int} (h1 : -9223372036854775808<=x) (h2:x<=9223372036854775807):yj x=some (-1 - x):=by
 unfold yj;rw[zC]<;>omega
theorem Q6 {a0:List zl} (h:SignOk a0) (x:Int):jA a0 x=some (nOk (vm a0 x)):=by
 unfold jA vm;by_cases h0:x<0
 ·rw[decide_eq_true h0,cond_true,cond_true,wl (by omega) (by omega),af]
  by_cases h1 : -24<=x
  ·rw[decide_eq_true h1,decide_eq_true (show x ≥ -1 - 23 by omega)]; rfl
  ·rw[decide_eq_false h1,decide_eq_false (show ¬(x ≥ -1 - 23) by omega)]; rfl
 ·rw[decide_eq_false h0,cond_false,cond_false];by_cases h1:x≥((aa a0:Nat):Int)
  ·rw[decide_eq_true h1,cond_true,aJ (by omega)]; rfl
  ·obtain⟨e,he1,he2,he3⟩:=Mf (xs:=a0) (i:=x) (by omega) (by omega)
   have:=h.at he3;rw[decide_eq_false h1,cond_false,he1,af,he3];cases he:(e.2.1==0) with
   | true=>simp only[he,cond_true]; rfl
   | false =>
    simp only[he,cond_false,af];unfold nOk;simp only[ak,aC,and_true];omega
theorem KN {a0:List zl} (h:SignOk a0) {x:Int} {k:Nat} (hk:vm a0 x=some k):k<=3:=by
 unfold vm at hk;by_cases h0:x<0
 ·rw[decide_eq_true h0,cond_true] at hk;by_cases h1 : -24<=x
  ·rw[decide_eq_true h1] at hk; injection hk with hk; omega
  ·rw[decide_eq_false h1] at hk; cases hk
 ·rw[decide_eq_false h0,cond_false] at hk;cases he:a0[x.toNat]? with
  | none=>rw[he] at hk; cases hk
  | some e =>
   rw[he] at hk;have:=h.at he;simp only at hk;cases hz:(e.2.1==0) with
   | true=>rw[hz] at hk; cases hk
   | false=>rw[hz] at hk; injection hk with hk; omega
def sk (a0:List zl):Nat->List Int->Option Nat
 | 0,_=>some 0
 | _+1,[]=>none
 | n+1,x::xs=>match vm a0 x with
  | none=>none
  | some k=>(sk a0 (n+k) xs).map (· + 1)
theorem WU {a0:List zl}:{xs:List Int}->{n k:Nat}->sk a0 n xs=some k->k<=xs.length∧(0<n->0<k)∧n<=k
 | [],0,k,h=>by simp [sk] at h; omega
 | [],n+1,k,h=>by simp [sk] at h
 | x::xs,0,k,h=>by simp [sk] at h; omega
 | x::xs,n+1,k,h=>by
  unfold sk at h;cases ha:vm a0 x with
  | none=>rw[ha] at h; cases h
  | some m =>
   rw[ha] at h;simp only[aY] at h;obtain⟨j,hj,rfl⟩:=h;have:=WU hj;rw[au];omega
theorem BA {a0:List zl} (h:SignOk a0) (a1:List Int) (hl:a1.length<=1099511627776):∀(m i n:Nat) (k:Nat),a1.length - i=m->0<n->n<=1+3*i->m<k ->
  lp wQ k (a0,a1,(i:Int),(n:Int))=some (match sk a0 n (a1.drop i) with
   | some j=>(((i+j:Nat):Int),true)
   | none=>(0,false)):=by
 intro m
 induction m with
 | zero =>
  intro i n k hm hn hni hk;obtain⟨k,rfl⟩:∃ k',k=k'+1:=⟨k - 1,by omega⟩
  rw[zK];generalize lp wQ k=rec;unfold wQ;simp only[decide_eq_true (show ((i:Int)≥((aa a1:Nat):Int)) by omega),cond_true,cy.2 (show a1.length<=i by omega)]
  obtain⟨n,rfl⟩:∃ n',n=n'+1:=⟨n - 1,by omega⟩
  rfl
 | succ m ih =>
  intro i n k hm hn hni hk;obtain⟨k,rfl⟩:∃ k',k=k'+1:=⟨k - 1,by omega⟩
  have hi:i<a1.length:=by omega
  rw[zK];have key:=fun n' h1 h2=>ih (i+1) n' k (by omega) h1 h2 (by omega)
  generalize lp wQ k=rec at key ⊢;unfold wQ;obtain⟨n,rfl⟩:∃ n',n=n'+1:=⟨n - 1,by omega⟩
  simp only[decide_eq_false (show ¬((i:Int)≥((aa a1:Nat):Int)) by omega),cond_false,qJ,al hi,af,Q6 h,aV hi,sk]
  cases ha:vm a0 a1[i] with
  | none=>simp [nOk]
  | some q =>
   have hq:=KN h ha;have e1:ah .i64 ((q:Int) - 1)=(q:Int) - 1:=zC (by omega) (by omega)
   have e2:ah .i64 (((n+1:Nat):Int)+((q:Int) - 1))=((n+q:Nat):Int):=by rw[zC]<;>omega
   have e3:ah .i64 ((i:Int)+1)=((i+1:Nat):Int):=by rw[zC]<;>omega
   simp only[nOk,aH,cond_false,e1,e2,e3];by_cases hp:0<n+q
   ·rw[decide_eq_true (show ((n+q:Nat):Int)>0 by omega),cond_true,key _ hp (by omega)]
    cases sk a0 (n+q) (a1.drop (i+1)) with
    | none=>rfl
    | some j=>simp only[bu]; rw[show i+1+j=i+(j+1) from by omega]
   ·rw[decide_eq_false (show ¬(((n+q:Nat):Int)>0) by omega),cond_false]
    have:n+q=0:=by omega
    rw[this];simp [sk]
theorem jW {a0:List zl} (h:SignOk a0) (a1:List Int) (hl:a1.length<=1099511627776) (i:Nat):uW a0 a1 (i:Int)=some (match sk a0 1 (a1.drop i) with
   | some j=>(((i+j:Nat):Int),true)
   | none=>(0,false)):=by
 unfold uW;by_cases hi:i<a1.length
 ·simp only[decide_eq_false (show ¬((i:Int)≥((aa a1:Nat):Int)) by omega),cond_false,qJ,al hi,af,Q6 h,aV hi,sk]
  cases ha:vm a0 a1[i] with
  | none=>simp [nOk]
  | some q =>
   have hq:=KN h ha;have e1:ah .i64 ((q:Int) - 1)=(q:Int) - 1:=zC (by omega) (by omega)
   have e2:ah .i64 (1+((q:Int) - 1))=((q:Nat):Int):=by rw[zC]<;>omega
   have e3:ah .i64 ((i:Int)+1)=((i+1:Nat):Int):=by rw[zC]<;>omega
   simp only[nOk,aH,cond_false,e1,e2,e3];by_cases hp:0<q
   ·rw[decide_eq_true (show (q:Int)>0 by omega),cond_true,BA h a1 hl (a1.length - (i+1)) (i+1) q zd rfl hp (by omega) (by unfold zd; omega),aL]
    cases sk a0 q (a1.drop (i+1)) with
    | none=>rfl
    | some j=>simp only[bu,af]; rw[show i+1+j=i+(j+1) from by omega]
   ·rw[decide_eq_false (show ¬((q:Int)>0) by omega),cond_false]
    have:q=0:=by omega
    subst this;simp [sk]
 ·simp only[decide_eq_true (show ((i:Int)≥((aa a1:Nat):Int)) by omega),cond_true,cy.2 (show a1.length<=i by omega)]
  rfl
def Ij (a0:List zl):Nat->List Int->Option jR
 | _,[]=>some []
 | 0,_::_=>none
 | n+1,x::xs=>match sk a0 1 (x::xs) with
  | none=>none
  | some k=>(Ij a0 n ((x::xs).drop k)).map ((x::xs).take k :: ·)
def Xg (a0:List zl) (xs:List Int):Option jR:=Ij a0 xs.length xs
theorem V5 {a0:List zl}:{n m:Nat}->{xs:List Int}->xs.length<=n->n<=m->Ij a0 m xs=Ij a0 n xs
 | n,m,[],_,_=>by cases n<;>cases m<;>rfl
 | 0,_,_::_,h,_=>by simp at h
 | n+1,0,_::_,_,h=>by omega
 | n+1,m+1,x::xs,h,hm=>by
  unfold Ij;cases hk:sk a0 1 (x::xs) with
  | none=>rfl
  | some k =>
   have:=WU hk;simp only;rw[V5 (n:=n) (m:=m) (by simp at h ⊢; omega) (by omega)]
theorem Xu (a0:List zl):Xg a0 []=some []:=rfl
theorem tf {a0:List zl} {xs:List Int} (h:xs≠[]):Xg a0 xs=match sk a0 1 xs with
  | none=>none
  | some k=>(Xg a0 (xs.drop k)).map (xs.take k :: ·):=by
 cases xs with
 | nil=>exact absurd rfl h
 | cons x xs =>
  show Ij a0 (xs.length+1) (x::xs)=_;unfold Ij;cases hk:sk a0 1 (x::xs) with
  | none=>rfl
  | some k =>
   have:=WU hk;simp only;unfold Xg;rw[V5 (n:=((x::xs).drop k).length) (m:=xs.length) (aE _) (by simp; omega)]
theorem CX {a0:List zl}:{xs:List Int}->{n k:Nat}->sk a0 n xs=some k->sk a0 n (xs.take k)=some k
 | [],0,k,h=>by simp [sk] at h; subst h; rfl
 | [],n+1,k,h=>by simp [sk] at h
 | x::xs,0,k,h=>by simp [sk] at h; subst h; rfl
 | x::xs,n+1,k,h=>by
  unfold sk at h;cases ha:vm a0 x with
  | none=>rw[ha] at h; cases h
  | some m =>
   rw[ha] at h;simp only[aY] at h;obtain⟨j,hj,rfl⟩:=h;rw[ei];unfold sk;rw[ha];simp only[CX hj,bu]
theorem jz {a0:List zl}:∀(n:Nat) (xs:List Int) (ps:List jI),xs.length<=n->Xg a0 xs=some ps->ps.flatten=xs∧∀ p∈ps,p≠[]∧sk a0 1 p=some p.length:=by
 intro n
 induction n with
 | zero =>
  intro xs ps h hc;obtain rfl:xs=[]:=cz.1 (by omega)
  injection hc with hc; subst hc;exact ⟨rfl,fun p hp=>by cases hp⟩
 | succ n ih =>
  intro xs ps h hc;by_cases hx:xs=[]
  ·subst hx;injection hc with hc; subst hc;exact ⟨rfl,fun p hp=>by cases hp⟩
  ·rw[tf hx] at hc;cases hk:sk a0 1 xs with
   | none=>rw[hk] at hc; cases hc
   | some k =>
    rw[hk] at hc;simp only[aY] at hc;obtain⟨qs,hq,rfl⟩:=hc;have hle:=WU hk;obtain⟨h1,h2⟩:=ih _ qs (by simp; omega) hq
    refine ⟨by rw[fG,h1,List.take_append_drop],fun p hp => ?_⟩
    rcases aI.1 hp with rfl | hp
    ·have hl:(xs.take k).length=k:=by simp; omega
     exact ⟨fun e=>by rw[e] at hl; simp at hl; omega,by rw[hl]; exact CX hk⟩
    ·exact h2 p hp
def sI:Nat->List jI->List Int
 | _,[]=>[]
 | i,p::ps=>(i:Int)::sI (i+p.length) ps
theorem jY:(i:Nat)->(ps:List jI)->(sI i ps).length=ps.length
 | _,[]=>rfl
 | i,p::ps=>by simp [sI,jY (i+p.length) ps]
theorem zy {n b:Nat} (h:n*b<=140737488351232):y9 n b=true:=by simpa[y9] using h
theorem K9 {a0:List zl} (h:SignOk a0) (a1:List Int) (hl:a1.length<=1099511627776):∀(m i:Nat) (acc:List Int) (k:Nat),a1.length - i=m->i<=a1.length->acc.length<=i->m<k ->
  lp w9 k (a0,a1,(i:Int),acc)=some (match Xg a0 (a1.drop i) with
   | some ps=>(true,acc++sI i ps)
   | none=>(false,[])):=by
 intro m
 induction m using cN with
 | _ m ih =>
  intro i acc k hm hi hacc hk;obtain⟨k,rfl⟩:∃ k',k=k'+1:=⟨k - 1,by omega⟩
  rw[zK];have key:=fun j acc' (h1:i<j) h2 h3=>ih (a1.length - j) (by omega) j acc' k rfl h2 h3 (by omega)
  generalize lp w9 k=rec at key ⊢;unfold w9;by_cases he:i=a1.length
  ·subst he;simp [Xu,sI]
  ·have hlt:i<a1.length:=by omega
   have hne:a1.drop i≠[]:=by simp; omega
   simp only[show (((i:Int))==((aa a1:Nat):Int))=false from by simp; omega,cond_false,jW h a1 hl,af,tf hne]
   cases hs:sk a0 1 (a1.drop i) with
   | none=>rfl
   | some j =>
    have hj:=WU hs;rw[bA] at hj;simp only[aH,cond_false,aX,zy (show (acc.length+1)*8<=140737488351232 by omega),cond_true]
    rw[key (i+j) _ (by omega) (by omega) (by simp; omega),cg]
    cases Xg a0 (a1.drop (i+j)) with
    | none=>rfl
    | some ps =>
     simp only[bu,sI];rw[List.length_take,bA,dr (by omega)]
     simp
def wA (a0:List zl) (a1:List Int):Option jR:=cond (uf a0&&decide (a1.length<=48)) (Xg a0 a1) none
theorem sP (a0:List zl) (a1:List Int):ux a0 a1=some (match wA a0 a1 with
  | some ps=>(true,sI 0 ps)
  | none=>(false,[])):=by
 unfold ux wA;rw[Yd,af];cases hs:uf a0 with
 | false=>rfl
 | true =>
  have h:=tD hs;by_cases hl:a1.length<=48
  ·simp only[aH,cond_false,decide_eq_false (show ¬(((aa a1:Nat):Int)>48) by omega),decide_eq_true hl,dK,cond_true]
   by_cases h0:a1=[]
   ·subst h0; rfl
   ·have hpos:0<a1.length:=eh.2 h0;simp only[show ((0:Int)==((aa a1:Nat):Int))=false from by simp; omega,cond_false]
    have e:=jW h a1 (by omega) 0
    rw[show ((0:Nat):Int)=0 from rfl] at e
    rw[e,af,bV,tf h0];cases hk:sk a0 1 a1 with
    | none=>rfl
    | some j =>
     have hj:=WU hk;simp only[aH,cond_false,aL,aX,zy (show 1*8<=140737488351232 by omega),cond_true]
     rw[K9 h a1 (by omega) (a1.length - j) j [0] zd rfl (by omega) (by simp; omega) (by unfold zd; omega)]
     cases Xg a0 (a1.drop j) with
     | none=>rfl
     | some ps=>simp [sI,dr hj.1]
  ·simp only[aH,cond_false,decide_eq_true (show (((aa a1:Nat):Int)>48) by omega),decide_eq_false hl,cj,cond_true]
def qI (a0:List zl) (xs:List Int):Bool:=match xs with
 | []=>false
 | x::r=>decide (0<=x)&&(match a0[x.toNat]? with
  | none=>false
  | some e=>(e.2.1==0)&&(match wA a0 r with
   | none=>false
   | some ps=>((ps.length:Nat):Int)==e.2.2.1))
theorem v8 {α:Type} (x:α) (r:List α):vJ (x::r) (some 1) none=some r:=by
 show slc (x::r) 1 ((x::r).length:Int)=some r;unfold slc;simp only[au];rw[decide_eq_true (show (0:Int)<=1 by omega),decide_eq_true (show (1:Int)<=((r.length+1:Nat):Int) by omega),decide_eq_true (show ((r.length+1:Nat):Int)<=((r.length+1:Nat):Int) by omega)]
 simp
theorem uL (a0:List zl) (xs:List Int):wM a0 xs=some (qI a0 xs):=by
 unfold wM qI;cases xs with
 | nil=>rfl
 | cons x r =>
  simp only[show ((((x::r).length:Nat):Int)==0)=false from by simp; omega,cond_false,y5,ay,af]
  by_cases h0:x<0
  ·rw[decide_eq_true h0,decide_eq_false (show ¬(0<=x) by omega)]; rfl
  ·rw[decide_eq_false h0,decide_eq_true (show 0<=x by omega),cond_false,aU]
   by_cases h1:x≥((aa a0:Nat):Int)
   ·rw[decide_eq_true h1,aJ (by omega)]; rfl
   ·obtain⟨e,he1,he2,he3⟩:=Mf (xs:=a0) (i:=x) (by omega) (by omega)
    simp only[decide_eq_false h1,cond_false,he1,he3,af,bne];cases hk:(e.2.1==0) with
    | false=>rfl
    | true =>
     simp only[aH,cond_false,v8,af,sP,aU];cases wA a0 r with
     | none=>rfl
     | some ps=>simp [jY]
def zu (xs:List jI):Nat:=(xs.map aa).sum
def tp (a0:List zl) (ls:List zg):Bool:=ls.all fun l=>qI a0 l.2
theorem jo {a0:List zl} {xs:List Int} (h:qI a0 xs=true):xs.length<=49:=by
 unfold qI at h;cases xs with
 | nil=>cases h
 | cons x r =>
  simp only[ap] at h;cases he:a0[x.toNat]? with
  | none=>rw[he] at h; simp at h
  | some e =>
   rw[he] at h;simp only[ap] at h;cases hb:wA a0 r with
   | none=>rw[hb] at h; simp at h
   | some ps =>
    unfold wA at hb;cases hl:decide (r.length<=48) with
    | false=>rw[hl,cj] at hb; cases hb
    | true=>rw[decide_eq_true_eq] at hl; simp; omega
theorem Ci (a0:List zl):(es:List zg)->(t:Nat)->t+49*es.length<=1099511627776->zR a0 es (t:Int)=some (cond (tp a0 es) (.inl ((t+zu (es.map (·.2)):Nat):Int)) (.inr (0,false)))
 | [],t,_=>by simp [zR,tp,zu]
 | e::es,t,h=>by
  unfold zR kr tp;rw[uL,af,af,b9];cases ha:qI a0 e.2 with
  | false=>rfl
  | true =>
   have hl:=jo ha;rw[au] at h;have e1:ah .i64 ((t:Int)+((aa e.2:Nat):Int))=((t+e.2.length:Nat):Int):=by rw[zC]<;>omega
   rw[e1];have:=Ci a0 es (t+e.2.length) (by omega)
   unfold tp at this;simp only[aH,cond_false,aU,this];rw[show t+e.2.length+zu (es.map (·.2))=t+zu ((e::es).map (·.2)) from by simp [zu]; omega]
theorem ra (a0:List zl) (ls:List zg) (h:ls.length<=1000000000):w8 a0 ls=some (cond (tp a0 ls) (((zu (ls.map (·.2)):Nat):Int),true) (0,false)):=by
 unfold w8;rw[rh _ _ _ (by unfold maxLen; omega),show ((0:Int))=((0:Nat):Int) from rfl,Ci a0 ls 0 (by omega)]
 cases tp a0 ls with
 | false=>rfl
 | true=>simp [yt]
def jb (a0:List zl) (xs:List Int):Option Nat:=(wA a0 xs).map aa
theorem kq (a0:List zl) (xs:List Int):ku a0 xs=some (match jb a0 xs with
  | some n=>((n:Int),0)
  | none=>(0,200)):=by
 unfold ku jb;rw[sP,af];cases wA a0 xs with
 | none=>rfl
 | some ps=>simp [jY]
theorem YL {a0:List zl} {xs:List Int} {n:Nat} (h:jb a0 xs=some n):xs.length<=48:=by
 unfold jb wA at h;cases hl:decide (xs.length<=48) with
 | false=>rw[hl,cj] at h; cases h
 | true=>rw[decide_eq_true_eq] at hl; exact hl
def kp (a0:List zl) (rs:List jI):Bool:=match rs with
 | []=>true
 | r::rs=>match jb a0 r with
  | none=>false
  | some n=>rs.all fun q=>jb a0 q==some n
theorem Mm (a0:List zl) (w:Nat):(es:List jI)->(i t:Nat)->t+49*es.length<=1099511627776->zA a0 es (i+1) (t:Int) (w:Int)=some (cond (es.all fun q=>jb a0 q==some w) (.inl ((t+zu es:Nat):Int)) (.inr (0,false)))
 | [],i,t,_=>by simp [zA,zu]
 | e::es,i,t,h=>by
  unfold zA;rw[kq,af,b9];rw[show ((((i+1:Nat):Int))==0)=false from by simp; omega,cond_false]
  cases hr:jb a0 e with
  | none=>rfl
  | some n =>
   have hl:=YL hr;rw[au] at h;have e1:ah .i64 ((t:Int)+((aa e:Nat):Int))=((t+e.length:Nat):Int):=by rw[zC]<;>omega
   have:=Mm a0 w es (i+1) (t+e.length) (by omega)
   simp only[e1,this];by_cases hn:n=w
   ·subst hn;simp [zu,bz]
   ·have h1:((n:Int) != (w:Int))=true:=by simp; omega
    have h2:(some n==some w)=false:=by simpa using hn
    simp [h1,h2]
theorem QN (a0:List zl) (rs:List jI) (h:rs.length<=1000000000):uN a0 rs=some (cond (kp a0 rs) (((zu rs:Nat):Int),true) (0,false)):=by
 unfold uN;rw[rd _ _ _ _ (by unfold maxLen; omega)]
 cases rs with
 | nil=>rfl
 | cons r rs =>
  unfold zA kp;rw[kq,af];rw[show ((((0:Nat):Int))==0)=true from rfl,cond_true]
  dsimp only;cases hr:jb a0 r with
  | none=>rfl
  | some n =>
   have hl:=YL hr;rw[au] at h;have e1:ah .i64 (0+((aa r:Nat):Int))=((r.length:Nat):Int):=by rw[zC]<;>omega
   have:=Mm a0 n rs 0 r.length (by omega)
   simp only[e1,this];cases hb:rs.all fun q=>jb a0 q==some n with
   | false=>simp [yt]
   | true=>simp [yt,zu]
def sx (a0:List zl) (a1:List zg) (a2:List jI) (a3:List zg):Bool :=
 uf a0&&decide (a1.length<=5)&&decide (a2.length<=3)&&decide (a3.length<=3)&&tp a0 a1&&kp a0 a2&&tp a0 a3&&decide (zu (a1.map (·.2))+zu a2+zu (a3.map (·.2))<=240)
theorem YW {a0:List zl}:(ls:List zg)->tp a0 ls=true->zu (ls.map (·.2))<=49*ls.length
 | [],_=>by simp [zu]
 | l::ls,h=>by
  unfold tp at h;rw[b9,ap] at h;have h1:=jo h.1;have h2:=YW ls h.2;unfold zu at h2 ⊢;simp only[aM,cA,au];omega
theorem DX {a0:List zl} (rs:List jI) (h:kp a0 rs=true):zu rs<=49*rs.length:=by
 cases rs with
 | nil=>simp [zu]
 | cons r rs =>
  unfold kp at h;dsimp only at h;cases hr:jb a0 r with
  | none=>rw[hr] at h; cases h
  | some n =>
   rw[hr] at h;have h1:=YL hr;have h2:∀ qs:List jI,(qs.all fun q=>jb a0 q==some n)=true->zu qs<=49*qs.length:=by
    intro qs
    induction qs with
    | nil=>intro _; simp [zu]
    | cons q qs ih =>
     intro hq;rw[b9,ap] at hq;have h3:=ih hq.2;have h4:=YL (by simpa using hq.1)
     unfold zu at h3 ⊢;simp only[aM,cA,au];omega
   have h5:=h2 rs h;unfold zu at h5 ⊢;simp only[aM,cA,au];omega
theorem wS (a0:List zl) (a1:List zg) (a2:List jI) (a3:List zg):xf a0 a1 a2 a3=some (sx a0 a1 a2 a3):=by
 unfold xf sx;rw[Yd,af];cases uf a0 with
 | false=>rfl
 | true =>
  by_cases h1:a1.length<=5
  ·by_cases h2:a2.length<=3
   ·by_cases h3:a3.length<=3
    ·simp only[aH,cond_false,decide_eq_false (show ¬(((aa a1:Nat):Int)>5) by omega),decide_eq_false (show ¬(((aa a2:Nat):Int)>3) by omega),decide_eq_false (show ¬(((aa a3:Nat):Int)>3) by omega),
      decide_eq_true h1,decide_eq_true h2,decide_eq_true h3,ra a0 a1 (by omega),QN a0 a2 (by omega),ra a0 a3 (by omega),af,aU]
     cases hb1:tp a0 a1 with
     | false=>rfl
     | true =>
      cases hb2:kp a0 a2 with
      | false=>rfl
      | true =>
       cases hb3:tp a0 a3 with
       | false=>rfl
       | true =>
        have s1:=YW a1 hb1;have s2:=DX a2 hb2;have s3:=YW a3 hb3;simp only[cond_true,aU];have e1:ah .i64 (((zu (a1.map (·.2)):Nat):Int)+((zu a2:Nat):Int))=((zu (a1.map (·.2))+zu a2:Nat):Int):=by rw[zC]<;>omega
        have e2:ah .i64 (((zu (a1.map (·.2))+zu a2:Nat):Int)+((zu (a3.map (·.2)):Nat):Int))=((zu (a1.map (·.2))+zu a2+zu (a3.map (·.2)):Nat):Int):=by rw[zC]<;>omega
        simp only[e1,e2,ak,decide_eq_decide];omega
    ·simp only[aH,cond_false,decide_eq_false (show ¬(((aa a1:Nat):Int)>5) by omega),decide_eq_false (show ¬(((aa a2:Nat):Int)>3) by omega),decide_eq_true (show (((aa a3:Nat):Int)>3) by omega),decide_eq_false h3,cond_true,cj,bl]
   ·simp only[aH,cond_false,decide_eq_false (show ¬(((aa a1:Nat):Int)>5) by omega),decide_eq_true (show (((aa a2:Nat):Int)>3) by omega),decide_eq_false h2,cond_true,cj,bl]
  ·simp only[aH,cond_false,decide_eq_true (show (((aa a1:Nat):Int)>5) by omega),decide_eq_false h1,cond_true,cj,bl]
theorem PF {a0:List zl}:{xs:List Int}->{n m k:Nat}->sk a0 (n+m) xs=some k->∃ j,sk a0 n xs=some j∧j<=k∧sk a0 m (xs.drop j)=some (k - j)
 | xs,0,m,k,h=>⟨0,by cases xs<;>rfl,cf _,by simpa using h⟩
 | [],n+1,m,k,h=>by rw[show n+1+m=n+m+1 from by omega] at h; simp [sk] at h
 | x::xs,n+1,m,k,h=>by
  rw[show n+1+m=n+m+1 from by omega] at h
  unfold sk at h;cases ha:vm a0 x with
  | none=>rw[ha] at h; cases h
  | some q =>
   rw[ha] at h;simp only[aY] at h;obtain⟨j,hj,rfl⟩:=h;rw[show n+m+q=(n+q)+m from by omega] at hj
   obtain⟨i,h1,h2,h3⟩:=PF hj;refine ⟨i+1,?_,by omega,?_⟩
   ·unfold sk; rw[ha]; simp only[h1,bu]
   ·rw[List.drop_succ_cons,h3]; congr 1; omega
theorem T5 {a0:List zl}:∀(n:Nat) (xs:List Int),sk a0 n xs=some xs.length->∃ ps,Xg a0 xs=some ps∧ps.length=n:=by
 intro n
 induction n with
 | zero =>
  intro xs h;have:xs.length=0:=by cases xs<;>simp [sk] at h ⊢
  obtain rfl:=cz.1 this;exact ⟨[],rfl,rfl⟩
 | succ n ih =>
  intro xs h;rw[cH] at h;obtain⟨j,h1,h2,h3⟩:=PF h;have hj:=WU h1;have hne:xs≠[]:=fun e=>by subst e; simp at hj; omega
  obtain⟨ps,h4,h5⟩:=ih (xs.drop j) (by rw[h3,bA])
  refine ⟨xs.take j::ps,?_,by simp [h5]⟩
  rw[tf hne,h1];dsimp only;rw[h4]; rfl
theorem IZ {a0:List zl} {p:List Int} (h:sk a0 1 p=some p.length):∃ x r q,p=x::r∧vm a0 x=some q∧sk a0 q r=some r.length:=by
 cases p with
 | nil=>simp [sk] at h
 | cons x r =>
  unfold sk at h;cases ha:vm a0 x with
  | none=>rw[ha] at h; cases h
  | some q =>
   rw[ha] at h;simp only[aY,aL] at h;obtain⟨j,hj,he⟩:=h;rw[au] at he;exact ⟨x,r,q,rfl,ha,by rw[hj]; congr 1; omega⟩
theorem JY {a0:List zl} (h:SignOk a0) (a1:List Int) (hl:a1.length<=1099511627776):∀(m i:Nat) (acc ps:List jI) (k:Nat),a1.length - i=m->i<=a1.length->acc.length<=i->Xg a0 (a1.drop i)=some ps->m<k ->
  lp va k (a0,a1,(i:Int),acc)=some (.inl (acc++ps)):=by
 intro m
 induction m using cN with
 | _ m ih =>
  intro i acc ps k hm hi hacc hc hk;obtain⟨k,rfl⟩:∃ k',k=k'+1:=⟨k - 1,by omega⟩
  rw[zK];have key:=fun j acc' ps' (h1:i<j) h2 h3 h4=>ih (a1.length - j) (by omega) j acc' ps' k rfl h2 h3 h4 (by omega)
  generalize lp va k=rec at key ⊢;unfold va;by_cases he:i=a1.length
  ·subst he;rw[eF,Xu] at hc;injection hc with hc; subst hc;simp
  ·have hlt:i<a1.length:=by omega
   have hne:a1.drop i≠[]:=by simp; omega
   rw[tf hne] at hc;simp only[decide_eq_true (show (i:Int)<((aa a1:Nat):Int) by omega),cond_true,jW h a1 hl,af]
   cases hs:sk a0 1 (a1.drop i) with
   | none=>rw[hs] at hc; cases hc
   | some j =>
    rw[hs] at hc;simp only[aY] at hc;obtain⟨qs,hq,rfl⟩:=hc;have hj:=WU hs;rw[bA] at hj;have e1:vJ a1 (some (i:Int)) (some ((i+j:Nat):Int))=some ((a1.drop i).take j):=by
     show slc a1 _ _=_;unfold slc;rw[decide_eq_true (show (0:Int)<=(i:Int) by omega),decide_eq_true (show (i:Int)<=((i+j:Nat):Int) by omega),decide_eq_true (show ((i+j:Nat):Int)<=((a1.length:Nat):Int) by omega)]
     simp only[cond_true,bx,ak];rw[el]; congr 1; omega
    simp only[aH,cond_false,e1,af,aX,zy (show (acc.length+1)*24<=140737488351232 by omega),cond_true]
    rw[cg] at hq;rw[key (i+j) _ qs (by omega) (by omega) (by simp; omega) hq]
    simp
theorem wn {a0:List zl} (h:SignOk a0) {a1:List Int} (hl:a1.length<=1099511627776) {ps:List jI} (hc:Xg a0 a1=some ps):x9 a0 a1=some ps:=by
 unfold x9;have:=JY h a1 hl a1.length 0 [] ps zd rfl (cf _) (cf _) hc (by unfold zd; omega)
 rw[show ((0:Nat):Int)=0 from rfl] at this
 rw[this];rfl
theorem Zw {a0:List zl} {xs:List Int} {ps:List jI} (h:Xg a0 xs=some ps):ps.length<=xs.length:=by
 obtain⟨h1,h2⟩:=jz xs.length xs ps (aE _) h;have h3:∀ qs:List jI,(∀ p∈qs,p≠[])->qs.length<=qs.flatten.length:=by
  intro qs
  induction qs with
  | nil=>intro _; simp
  | cons q qs ih =>
   intro hq;have:=ih fun p hp=>hq p (by simp [hp])
   have h4:=eh.2 (hq q (by simp))
   simp only[fG,az,au];omega
 have:=h3 ps fun p hp=>(h2 p hp).1;rw[h1] at this;exact this
theorem Jh {a0:List zl} {x:Int} {q:Nat} (h:vm a0 x=some q) (hx:x<0) : -24<=x∧q=0:=by
 unfold vm at h;rw[decide_eq_true hx,cond_true] at h;cases hd:decide (-24<=x) with
 | false=>rw[hd] at h; cases h
 | true=>rw[hd] at h; injection h with h; exact ⟨of_decide_eq_true hd,h.symm⟩
theorem GL {a0:List zl} {x:Int} {q:Nat} (h:vm a0 x=some q) (hx:¬ x<0):∃ e,gx a0 x=some e∧a0[x.toNat]? = some e∧e.2.1≠0∧q=e.2.2.1.toNat:=by
 unfold vm at h;rw[decide_eq_false hx,cond_false] at h;cases he:a0[x.toNat]? with
 | none=>rw[he] at h; cases h
 | some e =>
  rw[he] at h;have hg:gx a0 x=some e:=by
   unfold gx;rw[decide_eq_true (show 0<=x by omega),cond_true,he]
  dsimp only at h;cases hz:(e.2.1==0) with
  | true=>rw[hz] at h; cases h
  | false=>rw[hz] at h; injection h with h; exact ⟨e,hg,rfl,by simpa using hz,h.symm⟩
theorem Zp {a0:List zl} {xs:List Int} (h:qI a0 xs=true):∃ x r e ps,xs=x::r∧0<=x∧a0[x.toNat]? = some e∧gx a0 x=some e∧e.2.1=0∧uf a0=true∧r.length<=48∧Xg a0 r=some ps∧((ps.length:Nat):Int)=e.2.2.1:=by
 unfold qI at h;cases xs with
 | nil=>cases h
 | cons x r =>
  simp only[ap,decide_eq_true_eq] at h;obtain⟨h0,h⟩:=h;cases he:a0[x.toNat]? with
  | none=>rw[he] at h; cases h
  | some e =>
   rw[he] at h;simp only[ap] at h;obtain⟨h1,h⟩:=h;cases hb:wA a0 r with
   | none=>rw[hb] at h; cases h
   | some ps =>
    rw[hb] at h;unfold wA at hb;cases hs:uf a0 with
    | false=>rw[hs] at hb; cases hb
    | true =>
     cases hl:decide (r.length<=48) with
     | false=>rw[hs,hl] at hb; cases hb
     | true =>
      rw[hs,hl] at hb;refine ⟨x,r,e,ps,rfl,h0,he,?_,by simpa using h1,rfl,of_decide_eq_true hl,hb,by simpa using h⟩
      unfold gx;rw[decide_eq_true h0,cond_true,he]
theorem Wu {a0:List zl} {r:List Int} {n:Nat} (h:jb a0 r=some n):∃ ps,Xg a0 r=some ps∧ps.length=n∧r.length<=48∧uf a0=true:=by
 have hl:=YL h;unfold jb wA at h;cases hs:uf a0 with
 | false=>rw[hs] at h; cases h
 | true =>
  rw[hs,decide_eq_true hl] at h;simp only[dK,cond_true,aY] at h;obtain⟨ps,h1,h2⟩:=h;exact ⟨ps,h1,h2,hl,rfl⟩
theorem YK {a0:List zl} {rs:List jI} (h:kp a0 rs=true):∃ n,∀ r∈rs,jb a0 r=some n:=by
 cases rs with
 | nil=>exact ⟨0,fun r hr=>by cases hr⟩
 | cons r rs =>
  unfold kp at h;dsimp only at h;cases hr:jb a0 r with
  | none=>rw[hr] at h; cases h
  | some n =>
   rw[hr] at h;refine ⟨n,fun q hq => ?_⟩;rcases aI.1 hq with rfl | hq
   ·exact hr
   ·simpa using aK.1 h q hq
theorem qw {a0:List zl} {a1:List zg} {a2:List jI} {a3:List zg} (h:sx a0 a1 a2 a3=true):uf a0=true∧a1.length<=5∧a2.length<=3∧a3.length<=3∧tp a0 a1=true∧kp a0 a2=true∧tp a0 a3=true∧zu (a1.map (·.2))+zu a2+zu (a3.map (·.2))<=240:=by
 unfold sx at h;simp only[ap,decide_eq_true_eq] at h;exact ⟨h.1.1.1.1.1.1.1,h.1.1.1.1.1.1.2,h.1.1.1.1.1.2,h.1.1.1.1.2,h.1.1.1.2,h.1.1.2,h.1.2,h.2⟩
theorem Ua {a0:List zl} {a1:List zg} {a2:List jI} {a3:List zg} (h1:uf a0=true) (h2:a1.length<=5) (h3:a2.length<=3) (h4:a3.length<=3) (h5:tp a0 a1=true) (h6:kp a0 a2=true) (h7:tp a0 a3=true)
  (h8:zu (a1.map (·.2))+zu a2+zu (a3.map (·.2))<=240):sx a0 a1 a2 a3=true:=by
 unfold sx;simp only[h1,decide_eq_true h2,decide_eq_true h3,decide_eq_true h4,h5,h6,h7,decide_eq_true h8,Bool.and_self]
def bad (t:UInt8):Bool:=t==111||t==114||t==105||t==102||t==38
theorem zaw {α:Type} (s:List α) {i j:Nat} (hij:i<=j) (h:j<=s.length):vJ s (some (i:Int)) (some (j:Int))=some ((s.drop i).take (j - i)):=by
 show slc s _ _=_;unfold slc;rw[decide_eq_true (show (0:Int)<=(i:Int) by omega),decide_eq_true (show (i:Int)<=(j:Int) by omega),decide_eq_true (show (j:Int)<=((s.length:Nat):Int) by omega)]
 simp only[cond_true,bx,ak];rw[el]
def wb (a0:jI):Option jI :=
 cond (y9 (aa ([]:List Int)+aa a0) 8)
 (some (([]:List Int)++a0))
 (none)
def xh (rec:(jQ×Int×jQ)->Option jQ) (x:(jQ×Int×jQ)):Option jQ :=
 cond (decide (x.2.1<((aa x.1:Nat):Int)))
 ((gx x.1 x.2.1).bind fun e7 =>
  (gx x.1 x.2.1).bind fun e8 =>
  (wb e8.2).bind fun r9 =>
  cond (y9 (aa x.2.2+aa ([(e7.1,r9)]:List zg)) 32)
  (rec (x.1,(ah .i64 (x.2.1+1)),(x.2.2++([(e7.1,r9)]:List zg))))
  (none))
 (some x.2.2)
def v9 (a0:jQ):Option jQ :=
 ((lp xh zd) (a0,0,([]:jQ))).bind fun r11 =>
 some r11
def xm (rec:(jR×Int×jR)->Option jR) (x:(jR×Int×jR)):Option jR :=
 cond (decide (x.2.1<((aa x.1:Nat):Int)))
 ((gx x.1 x.2.1).bind fun e5 =>
  (wb e5).bind fun r6 =>
  cond (y9 (aa x.2.2+aa ([r6]:List jI)) 24)
  (rec (x.1,(ah .i64 (x.2.1+1)),(x.2.2++([r6]:List jI))))
  (none))
 (some x.2.2)
def tJ (a0:jR):Option jR :=
 ((lp xm zd) (a0,0,([]:jR))).bind fun r8 =>
 some r8
def xO (a0:jQ) (a1:jR) (a2:jQ):Option (jQ×jR×jQ) :=
 (v9 a0).bind fun r4 =>
 (tJ a1).bind fun r5 =>
 (v9 a2).bind fun r6 =>
 some (r4,r5,r6)
def rx (a0:Int):Option Bool :=
 cond (decide (a0≥97))
 (some (decide (a0<=122)))
 (some false)
def wx (rec:(Int×Str×Int×Int×Int)->Option (Unit⊕Bool)) (x:(Int×Str×Int×Int×Int)):Option (Unit⊕Bool) :=
 cond (decide (x.1<((aa x.2.1:Nat):Int)))
 ((gx x.2.1 x.1).bind fun c7 =>
  (rx ((bw c7:Nat):Int)).bind fun r8 =>
  cond (!r8)
  ((gx x.2.1 x.1).bind fun c9 =>
   cond (decide (((bw c9:Nat):Int)<48))
   (some (aD false))
   ((gx x.2.1 x.1).bind fun c10 =>
    cond (decide (((bw c10:Nat):Int)>57))
    (some (aD false))
    (rec ((ah .i64 (x.1+1)),x.2.1,x.2.2.1,x.2.2.2.1,x.2.2.2.2))))
  (rec ((ah .i64 (x.1+1)),x.2.1,x.2.2.1,x.2.2.2.1,x.2.2.2.2)))
 (some (aS ()))
def tY (a0:Str) (a1:Int) (a2:Int) (a3:Int):Option Bool :=
 cond (decide (((aa a0:Nat):Int)<1))
 (some false)
 (cond (decide (((aa a0:Nat):Int)>8))
  (some false)
  ((gx a0 0).bind fun c14 =>
   (rx ((bw c14:Nat):Int)).bind fun r15 =>
   cond (!r15)
   (some false)
   (((lp wx zd) (0,a0,a1,a2,a3)).bind fun r16 =>
    yt r16
    (fun _z17=>cond (decide (a1≥0))
     (cond (decide (a1<=2))
      (cond (decide (a2≥0))
       (cond (decide (a2<=3))
        (cond (decide (a3≥1))
         (some (decide (a3<=20)))
         (some false))
        (some false))
       (some false))
      (some false))
     (some false))
    (fun z18=>some z18))))
def vH (rec:(jS×Str×Int)->Option (Unit⊕Int)) (x:(jS×Str×Int)):Option (Unit⊕Int) :=
 cond (decide (x.2.2<((aa x.1:Nat):Int)))
 ((gx x.1 x.2.2).bind fun e2 =>
  cond (e2.1==x.2.1)
  (some (aD x.2.2))
  (rec (x.1,x.2.1,(ah .i64 (x.2.2+1)))))
 (some (aS ()))
def Zc (a0:jS) (a1:Str):Option Int :=
 ((lp vH zd) (a0,a1,0)).bind fun r6 =>
 yt r6
 (fun _z7=>some (-1))
 (fun z8=>some z8)
def q6 (rec:(jS×Int)->Option (Unit⊕Bool)) (x:(jS×Int)):Option (Unit⊕Bool) :=
 cond (decide (x.2<((aa x.1:Nat):Int)))
 ((gx x.1 x.2).bind fun e6 =>
  (tY e6.1 e6.2.1 e6.2.2.1 e6.2.2.2).bind fun r7 =>
  cond (!r7)
  (some (aD false))
  ((gx x.1 x.2).bind fun e8 =>
   (Zc x.1 e8.1).bind fun r9 =>
   cond (r9 != x.2)
   (some (aD false))
   (rec (x.1,(ah .i64 (x.2+1))))))
 (some (aS ()))
def u2 (a0:jS):Option Bool :=
 cond (decide (((aa a0:Nat):Int)<1))
 (some false)
 (cond (decide (((aa a0:Nat):Int)>20))
  (some false)
  ((gx a0 0).bind fun e13 =>
   cond (!(cond (eqS e13.1 ([61]:Str)) (cond (eqI e13.2.1 0) (cond (eqI e13.2.2.1 2) (cond (eqI e13.2.2.2 1) true false) false) false) false))
   (some false)
   (((lp q6 zd) (a0,1)).bind fun r14 =>
    yt r14
    (fun _z15=>some true)
    (fun z16=>some z16))))
def ve (rec:(jS×jI×Int×Int)->Option (Int⊕Int)) (x:(jS×jI×Int×Int)):Option (Int⊕Int) :=
 cond (decide (x.2.2.1>0))
 (cond (decide (x.2.2.2≥((aa x.2.1:Nat):Int)))
  (some (aD (-1)))
  ((gx x.2.1 x.2.2.2).bind fun e8 =>
   cond (decide (e8<(-24)))
   (some (aD (-1)))
   ((gx x.2.1 x.2.2.2).bind fun e9 =>
    cond (decide (e9≥((aa x.1:Nat):Int)))
    (some (aD (-1)))
    ((gx x.2.1 x.2.2.2).bind fun e10 =>
     cond (decide (e10≥0))
     ((gx x.2.1 x.2.2.2).bind fun e11 =>
      (gx x.1 e11).bind fun e12 =>
      cond (e12.2.1==0)
      (some (aD (-1)))
      ((gx x.2.1 x.2.2.2).bind fun e13 =>
       (gx x.1 e13).bind fun e14 =>
       rec (x.1,x.2.1,(ah .i64 ((ah .i64 (x.2.2.1 - 1))+e14.2.2.1)),(ah .i64 (x.2.2.2+1)))))
     (rec (x.1,x.2.1,(ah .i64 (x.2.2.1 - 1)),(ah .i64 (x.2.2.2+1))))))))
 (some (aS x.2.2.2))
def Xz (a0:jS) (a1:jI) (a2:Int):Option Int :=
 ((lp ve zd) (a0,a1,1,a2)).bind fun r18 =>
 yt r18
 (fun z19=>some z19)
 (fun z20=>some z20)
def vX (rec:(jS×jI×Int×Int)->Option (Int⊕Int)) (x:(jS×jI×Int×Int)):Option (Int⊕Int) :=
 cond (decide (x.2.2.2<((aa x.2.1:Nat):Int)))
 ((Xz x.1 x.2.1 x.2.2.2).bind fun r2 =>
  cond (decide (r2<0))
  (some (aD (-1)))
  (rec (x.1,x.2.1,(ah .i64 (x.2.2.1+1)),r2)))
 (some (aS x.2.2.1))
def vD (a0:jS) (a1:jI):Option Int :=
 cond (decide (((aa a1:Nat):Int)>48))
 (some (-1))
 (((lp vX zd) (a0,a1,0,0)).bind fun r6 =>
  yt r6
  (fun z7=>some z7)
  (fun z8=>some z8))
def ko (a0:jS) (a1:jI):Option Bool :=
 cond (decide (((aa a1:Nat):Int)>0))
 ((gx a1 0).bind fun e9 =>
  cond (decide (e9≥0))
  ((gx a1 0).bind fun e10 =>
   cond (decide (e10<((aa a0:Nat):Int)))
   ((gx a1 0).bind fun e11 =>
    (gx a0 e11).bind fun e12 =>
    cond (e12.2.1==0)
    ((vJ a1 (some 1) none).bind fun y13 =>
     (vD a0 y13).bind fun r14 =>
     (gx a1 0).bind fun e15 =>
     (gx a0 e15).bind fun e16 =>
     some (r14==e16.2.2.1))
    (some false))
   (some false))
  (some false))
 (some false)
def vf (a0:jS) (_a1:Bool) (a2:jI):Option Bool :=
 (u2 a0).bind fun r3 =>
 cond r3
 ((ko a0 a2).bind fun r4 =>
  some r4)
 (some false)
def vG (rec:(Int×jQ×jR×jQ×jR)->Option jR) (x:(Int×jQ×jR×jQ×jR)):Option jR :=
 cond (decide (x.1<((aa x.2.2.2.1:Nat):Int)))
 ((gx x.2.2.2.1 x.1).bind fun e9 =>
  cond (y9 (aa x.2.2.2.2+aa ([e9.2]:List jI)) 24)
  (rec ((ah .i64 (x.1+1)),x.2.1,x.2.2.1,x.2.2.2.1,(x.2.2.2.2++([e9.2]:List jI))))
  (none))
 (some x.2.2.2.2)
def vy (rec:(Int×jQ×jR×jQ×jR)->Option jR) (x:(Int×jQ×jR×jQ×jR)):Option jR :=
 cond (decide (x.1<((aa x.2.2.1:Nat):Int)))
 ((gx x.2.2.1 x.1).bind fun e6 =>
  cond (y9 (aa x.2.2.2.2+aa ([e6]:List jI)) 24)
  (rec ((ah .i64 (x.1+1)),x.2.1,x.2.2.1,x.2.2.2.1,(x.2.2.2.2++([e6]:List jI))))
  (none))
 (some x.2.2.2.2)
def vn (rec:(Int×jQ×jR×jQ×jR)->Option jR) (x:(Int×jQ×jR×jQ×jR)):Option jR :=
 cond (decide (x.1<((aa x.2.1:Nat):Int)))
 ((gx x.2.1 x.1).bind fun e3 =>
  cond (y9 (aa x.2.2.2.2+aa ([e3.2]:List jI)) 24)
  (rec ((ah .i64 (x.1+1)),x.2.1,x.2.2.1,x.2.2.2.1,(x.2.2.2.2++([e3.2]:List jI))))
  (none))
 (some x.2.2.2.2)
def jx (a0:jQ) (a1:jR) (a2:jQ):Option jR :=
 ((lp vn zd) (0,a0,a1,a2,([]:jR))).bind fun r11 =>
 ((lp vy zd) (0,a0,a1,a2,r11)).bind fun r12 =>
 ((lp vG zd) (0,a0,a1,a2,r12)).bind fun r13 =>
 some r13
def uE (rec:(jR×Int×Int)->Option Int) (x:(jR×Int×Int)):Option Int :=
 cond (decide (x.2.2<((aa x.1:Nat):Int)))
 ((gx x.1 x.2.2).bind fun e26 =>
  rec (x.1,(ah .i64 (x.2.1+((aa e26:Nat):Int))),(ah .i64 (x.2.2+1))))
 (some x.2.1)
def uG (rec:(jS×Int×jQ×jR×jQ)->Option (Unit⊕Bool)) (x:(jS×Int×jQ×jR×jQ)):Option (Unit⊕Bool) :=
 cond (decide (x.2.1<((aa x.2.2.2.1:Nat):Int)))
 ((gx x.2.2.2.1 x.2.1).bind fun e18 =>
  (vD x.1 e18).bind fun r19 =>
  cond (decide (r19<0))
  (some (aD false))
  ((gx x.2.2.2.1 0).bind fun e20 =>
   (vD x.1 e20).bind fun r21 =>
   cond (r19 != r21)
   (some (aD false))
   (rec (x.1,(ah .i64 (x.2.1+1)),x.2.2.1,x.2.2.2.1,x.2.2.2.2))))
 (some (aS ()))
def uF (rec:(jS×Int×jQ×jR×jQ)->Option (Unit⊕Bool)) (x:(jS×Int×jQ×jR×jQ)):Option (Unit⊕Bool) :=
 cond (decide (x.2.1<((aa x.2.2.2.2:Nat):Int)))
 ((gx x.2.2.2.2 x.2.1).bind fun e10 =>
  (vf x.1 e10.1 e10.2).bind fun r11 =>
  cond (!r11)
  (some (aD false))
  (rec (x.1,(ah .i64 (x.2.1+1)),x.2.2.1,x.2.2.2.1,x.2.2.2.2)))
 (some (aS ()))
def uC (rec:(jS×Int×jQ×jR×jQ)->Option (Unit⊕Bool)) (x:(jS×Int×jQ×jR×jQ)):Option (Unit⊕Bool) :=
 cond (decide (x.2.1<((aa x.2.2.1:Nat):Int)))
 ((gx x.2.2.1 x.2.1).bind fun e4 =>
  (vf x.1 e4.1 e4.2).bind fun r5 =>
  cond (!r5)
  (some (aD false))
  (rec (x.1,(ah .i64 (x.2.1+1)),x.2.2.1,x.2.2.2.1,x.2.2.2.2)))
 (some (aS ()))
def ZA (a0:jS) (a1:jQ) (a2:jR) (a3:jQ):Option Bool :=
 (u2 a0).bind fun r31 =>
 cond (!r31)
 (some false)
 (cond (decide (((aa a1:Nat):Int)>5))
  (some false)
  (cond (decide (((aa a3:Nat):Int)>3))
   (some false)
   (cond (decide (((aa a2:Nat):Int)>3))
    (some false)
    (((lp uC zd) (a0,0,a1,a2,a3)).bind fun r32 =>
     yt r32
     (fun _z33=>((lp uF zd) (a0,0,a1,a2,a3)).bind fun r34 =>
      yt r34
      (fun _z35=>((lp uG zd) (a0,0,a1,a2,a3)).bind fun r36 =>
       yt r36
       (fun _z37=>(jx a1 a2 a3).bind fun r38 =>
        ((lp uE zd) (r38,0,0)).bind fun r39 =>
        some (decide (r39<=240)))
       (fun z40=>some z40))
      (fun z41=>some z41))
     (fun z42=>some z42)))))
def xB (rec:(jS×jI×Int×Int)->Option Int) (x:(jS×jI×Int×Int)):Option Int :=
 cond (decide (x.2.2.1>0))
 ((gx x.2.1 x.2.2.2).bind fun e4 =>
  cond (decide (e4≥0))
  ((gx x.2.1 x.2.2.2).bind fun e5 =>
   (gx x.1 e5).bind fun e6 =>
   rec (x.1,x.2.1,(ah .i64 ((ah .i64 (x.2.2.1 - 1))+e6.2.2.1)),(ah .i64 (x.2.2.2+1))))
  (rec (x.1,x.2.1,(ah .i64 (x.2.2.1 - 1)),(ah .i64 (x.2.2.2+1)))))
 (some x.2.2.2)
def ky (a0:jS) (a1:jI) (a2:Int):Option Int :=
 ((lp xB zd) (a0,a1,1,a2)).bind fun r8 =>
 some r8
def vO (rec:(jS×jI×Int×jR)->Option jR) (x:(jS×jI×Int×jR)):Option jR :=
 cond (decide (x.2.2.1<((aa x.2.1:Nat):Int)))
 ((ky x.1 x.2.1 x.2.2.1).bind fun r5 =>
  (vJ x.2.1 (some x.2.2.1) (some r5)).bind fun y6 =>
  cond (y9 (aa x.2.2.2+aa ([y6]:List jI)) 24)
  (rec (x.1,x.2.1,r5,(x.2.2.2++([y6]:List jI))))
  (none))
 (some x.2.2.2)
def zD (a0:jS) (a1:jI):Option jR :=
 ((lp vO zd) (a0,a1,0,([]:jR))).bind fun r8 =>
 some r8
def z6:List zg->jQ->Option jQ
 | [],s2=>some s2
 | e::es,s2 =>
  (wb e.2).bind fun r9 =>
  cond (y9 (aa s2+aa ([(e.1,r9)]:List zg)) 32)
  (z6 es (s2++([(e.1,r9)]:List zg)))
  (none)
theorem kf (s0:jQ) (s2:jQ) (hl:aa s0<=maxLen):lp xh zd (s0,0,s2)=z6 s0 s2:=wG xh (fun i s2=>(s0,i,s2)) (fun es i s2=>z6 es s2) hl (fun r i s2 h=>by unfold xh z6; simp only[h,cond_false]) (fun r i s2 e es h g w k=>by unfold xh z6; simp only[h,cond_true,g,af,w,k]) s2
def ya:List jI->jR->Option jR
 | [],s2=>some s2
 | e::es,s2 =>
  (wb e).bind fun r6 =>
  cond (y9 (aa s2+aa ([r6]:List jI)) 24)
  (ya es (s2++([r6]:List jI)))
  (none)
theorem rW (s0:jR) (s2:jR) (hl:aa s0<=maxLen):lp xm zd (s0,0,s2)=ya s0 s2:=wG xm (fun i s2=>(s0,i,s2)) (fun es i s2=>ya es s2) hl (fun r i s2 h=>by unfold xm ya; simp only[h,cond_false]) (fun r i s2 e es h g w k=>by unfold xm ya; simp only[h,cond_true,g,af,w,k]) s2
def yf:List UInt8->Option (Unit⊕Bool)
 | []=>some (aS ())
 | e::es =>
  (rx ((bw e:Nat):Int)).bind fun r8 =>
  cond (!r8)
  (cond (decide (((bw e:Nat):Int)<48))
   (some (aD false))
   (cond (decide (((bw e:Nat):Int)>57))
    (some (aD false))
    (yf es)))
  (yf es)
theorem jw (s1:Str) (s2:Int) (s3:Int) (s4:Int) (hl:aa s1<=maxLen):lp wx zd (0,s1,s2,s3,s4)=yf s1:=u3 wx (fun i=>(i,s1,s2,s3,s4)) (fun es i=>yf es) hl (fun r i h=>by unfold wx yf; simp only[h,cond_false]) (fun r i e es h g w k=>by unfold wx yf; simp only[h,cond_true,g,af,w,k])
def qZ (s1:Str):List zl->Nat->Option (Unit⊕Int)
 | [],_i=>some (aS ())
 | e::es,i =>
  cond (e.1==s1)
  (some (aD (i:Int)))
  (qZ s1 es (i+1))
theorem ZR (s0:jS) (s1:Str) (hl:aa s0<=maxLen):lp vH zd (s0,s1,0)=qZ s1 s0 0:=u3 vH (fun i=>(s0,s1,i)) (fun es i=>qZ s1 es i) hl (fun r i h=>by unfold vH qZ; simp only[h,cond_false]) (fun r i e es h g w k=>by unfold vH qZ; simp only[h,cond_true,g,af,w,k])
def qz (s0:jS):List zl->Nat->Option (Unit⊕Bool)
 | [],_i=>some (aS ())
 | e::es,i =>
  (tY e.1 e.2.1 e.2.2.1 e.2.2.2).bind fun r7 =>
  cond (!r7)
  (some (aD false))
  ((Zc s0 e.1).bind fun r9 =>
   cond (r9 != (i:Int))
   (some (aD false))
   (qz s0 es (i+1)))
theorem jM (s0:jS) (hl:aa s0<=maxLen):∀(es:List zl) (i:Nat) (k:Nat),s0.drop i=es->es.length<k->lp q6 k (s0,(i:Int))=qz s0 es i:=by
 intro es
 induction es with
 | nil =>
  intro i k h hk;obtain⟨k,rfl⟩:∃ k',k=k'+1:=⟨k - 1,by omega⟩
  rw[zK];generalize lp q6 k=rec;unfold q6 qz;simp only[sr (wc h),cond_false]
 | cons e es ih =>
  intro i k h hk;obtain⟨k,rfl⟩:∃ k',k=k'+1:=⟨k - 1,by omega⟩
  rw[zK];have hi:=yk h;have hk2:es.length<k:=cn hk;have key:=fun (_:Unit)=>ih (i+1) k (zm h) hk2;generalize lp q6 k=rec at key ⊢;unfold q6 qz;simp only[kv hi,cond_true,qJ,zv h,af,jm hi hl,key ()]
def ql:List zg->jR->Option jR
 | [],s4=>some s4
 | e::es,s4 =>
  cond (y9 (aa s4+aa ([e.2]:List jI)) 24)
  (ql es (s4++([e.2]:List jI)))
  (none)
theorem ZU (s1:jQ) (s2:jR) (s3:jQ) (s4:jR) (hl:aa s3<=maxLen):lp vG zd (0,s1,s2,s3,s4)=ql s3 s4:=wG vG (fun i s4=>(i,s1,s2,s3,s4)) (fun es i s4=>ql es s4) hl (fun r i s4 h=>by unfold vG ql; simp only[h,cond_false]) (fun r i s4 e es h g w k=>by unfold vG ql; simp only[h,cond_true,g,af,w,k]) s4
def qj:List jI->jR->Option jR
 | [],s4=>some s4
 | e::es,s4 =>
  cond (y9 (aa s4+aa ([e]:List jI)) 24)
  (qj es (s4++([e]:List jI)))
  (none)
theorem Yn (s1:jQ) (s2:jR) (s3:jQ) (s4:jR) (hl:aa s2<=maxLen):lp vy zd (0,s1,s2,s3,s4)=qj s2 s4:=wG vy (fun i s4=>(i,s1,s2,s3,s4)) (fun es i s4=>qj es s4) hl (fun r i s4 h=>by unfold vy qj; simp only[h,cond_false]) (fun r i s4 e es h g w k=>by unfold vy qj; simp only[h,cond_true,g,af,w,k]) s4
def qo:List zg->jR->Option jR
 | [],s4=>some s4
 | e::es,s4 =>
  cond (y9 (aa s4+aa ([e.2]:List jI)) 24)
  (qo es (s4++([e.2]:List jI)))
  (none)
theorem Z6 (s1:jQ) (s2:jR) (s3:jQ) (s4:jR) (hl:aa s1<=maxLen):lp vn zd (0,s1,s2,s3,s4)=qo s1 s4:=wG vn (fun i s4=>(i,s1,s2,s3,s4)) (fun es i s4=>qo es s4) hl (fun r i s4 h=>by unfold vn qo; simp only[h,cond_false]) (fun r i s4 e es h g w k=>by unfold vn qo; simp only[h,cond_true,g,af,w,k]) s4
def qP:List jI->Int->Option Int
 | [],s1=>some s1
 | e::es,s1 =>
  qP es (ah .i64 (s1+((aa e:Nat):Int)))
theorem YH (s0:jR) (s1:Int) (hl:aa s0<=maxLen):lp uE zd (s0,s1,0)=qP s0 s1:=wG uE (fun i s1=>(s0,s1,i)) (fun es i s1=>qP es s1) hl (fun r i s1 h=>by unfold uE qP; simp only[h,cond_false]) (fun r i s1 e es h g w k=>by unfold uE qP; simp only[h,cond_true,g,af,w,k]) s1
def qN (s0:jS) (s3:jR):List jI->Option (Unit⊕Bool)
 | []=>some (aS ())
 | e::es =>
  (vD s0 e).bind fun r19 =>
  cond (decide (r19<0))
  (some (aD false))
  ((gx s3 0).bind fun e20 =>
   (vD s0 e20).bind fun r21 =>
   cond (r19 != r21)
   (some (aD false))
   (qN s0 s3 es))
theorem YR (s0:jS) (s2:jQ) (s3:jR) (s4:jQ) (hl:aa s3<=maxLen):lp uG zd (s0,0,s2,s3,s4)=qN s0 s3 s3:=u3 uG (fun i=>(s0,i,s2,s3,s4)) (fun es i=>qN s0 s3 es) hl (fun r i h=>by unfold uG qN; simp only[h,cond_false]) (fun r i e es h g w k=>by unfold uG qN; simp only[h,cond_true,g,af,w,k])
def xG (s0:jS):List zg->Option (Unit⊕Bool)
 | []=>some (aS ())
 | e::es =>
  (vf s0 e.1 e.2).bind fun r11 =>
  cond (!r11)
  (some (aD false))
  (xG s0 es)
theorem Yv (s0:jS) (s2:jQ) (s3:jR) (s4:jQ) (hl:aa s4<=maxLen):lp uF zd (s0,0,s2,s3,s4)=xG s0 s4:=u3 uF (fun i=>(s0,i,s2,s3,s4)) (fun es i=>xG s0 es) hl (fun r i h=>by unfold uF xG; simp only[h,cond_false]) (fun r i e es h g w k=>by unfold uF xG; simp only[h,cond_true,g,af,w,k])
def xF (s0:jS):List zg->Option (Unit⊕Bool)
 | []=>some (aS ())
 | e::es =>
  (vf s0 e.1 e.2).bind fun r5 =>
  cond (!r5)
  (some (aD false))
  (xF s0 es)
theorem Yw (s0:jS) (s2:jQ) (s3:jR) (s4:jQ) (hl:aa s2<=maxLen):lp uC zd (s0,0,s2,s3,s4)=xF s0 s2:=u3 uC (fun i=>(s0,i,s2,s3,s4)) (fun es i=>xF s0 es) hl (fun r i h=>by unfold uC xF; simp only[h,cond_false]) (fun r i e es h g w k=>by unfold uC xF; simp only[h,cond_true,g,af,w,k])
theorem YC (n:Int):rx n=some (Y1 n):=tv n
theorem AT (es:List UInt8):yf es=some (cond (es.all Ay) (.inl ()) (.inr false)):=by
 have:∀ es,yf es=zQ es:=by
  intro es
  induction es with
  | nil=>rfl
  | cons e es ih =>
   unfold yf zQ;rw[YC,tv,ih]
 rw[this,Gn]
theorem W9 (e:zl):tY e.1 e.2.1 e.2.2.1 e.2.2.2=some (Ff e):=by
 obtain⟨s,a,b,c⟩:=e;unfold tY Ff ju;dsimp only;cases s with
 | nil=>rfl
 | cons x r =>
  rw[decide_eq_false (show ¬(((aa (x::r):Nat):Int)<1) by rw[au]; omega),cond_false]
  by_cases h:(x::r).length<=8
  ·rw[decide_eq_false (show ¬(((aa (x::r):Nat):Int)>8) by omega),cond_false,y5,ay,af,YC,af,jw _ _ _ _ (by unfold maxLen; omega),AT,decide_eq_true h]
   dsimp only;cases Y1 ((bw x:Nat):Int) with
   | false=>rfl
   | true =>
    cases (x::r).all Ay with
    | false=>rfl
    | true =>
     simp only[aH,cond_false,cond_true,af,te,aU,dK,ge_iff_le];cases decide (0<=a)<;>simp only[cond_true,cond_false,aU,bl]
     cases decide (a<=2)<;>simp only[cond_true,cond_false,aU,bl]
     cases decide (0<=b)<;>simp only[cond_true,cond_false,aU,bl]
     cases decide (b<=3)<;>simp only[cond_true,cond_false,aU,bl]
     cases decide (1<=c)<;>simp only[cond_true,cond_false,aU,bl]
  ·rw[decide_eq_true (show (((aa (x::r):Nat):Int)>8) by omega),decide_eq_false h]
   rfl
theorem K7 (a0:List zl) (nm:Str) (h:a0.length<=maxLen):Zc a0 nm=some (Ov (a0.findIdx? (fun e=>e.1==nm))):=by
 have:∀ es i,qZ nm es i=yS nm es i:=by
  intro es
  induction es with
  | nil=>intro i; rfl
  | cons e es ih=>intro i; unfold qZ yS; rw[ih]
 unfold Zc;rw[ZR _ _ h,this,Mr];cases a0.findIdx? (fun e=>e.1==nm) with
 | none=>rfl
 | some j=>simp [yt,Ov]
theorem Ut (a0:List zl) (h:a0.length<=maxLen) (es:List zl) (i:Nat):qz a0 es i=some (cond (Qr a0 es i) (.inl ()) (.inr false)):=by
 induction es generalizing i with
 | nil=>rfl
 | cons e es ih =>
  unfold qz Qr;rw[W9,af,K7 _ _ h,af,ih,bne];cases Ff e with
  | false=>rfl
  | true =>
   cases (Ov (a0.findIdx? (fun d=>d.1==e.1))==(i:Int)) with
   | false=>rfl
   | true=>simp
theorem j8 (a0:List zl):u2 a0=some (uf a0):=by
 unfold u2 uf;cases a0 with
 | nil=>rfl
 | cons e es =>
  rw[decide_eq_false (show ¬(((aa (e::es):Nat):Int)<1) by rw[au]; omega),cond_false]
  by_cases h:(e::es).length<=20
  ·have h1:¬(((aa (e::es):Nat):Int)>20):=by omega
   have hm:(e::es).length<=maxLen:=by unfold maxLen; omega
   rw[decide_eq_false h1,cond_false,y5,ay,af,decide_eq_true h];show cond (!(eqQ e)) _ _=some (true&&eqQ e&&Qr (e::es) es 1);cases eqQ e with
   | false=>rfl
   | true =>
    have:=jM (e::es) hm es 1 zd rfl (by simp [zd]; simp at h; omega)
    simp only[aH,cond_false];rw[show ((1:Int))=((1:Nat):Int) from rfl,this,Ut _ hm]
    cases Qr (e::es) es 1<;>rfl
  ·have h1:((aa (e::es):Nat):Int)>20:=by omega
   rw[decide_eq_true h1,decide_eq_false h];rfl
theorem Lq {a0:List zl} (h:SignOk a0) (a1:List Int) (hl:a1.length<=1099511627776):∀(m i n:Nat) (k:Nat),a1.length - i=m->i<=a1.length->n<=1+3*i->m+1<k ->
  lp ve k (a0,a1,(n:Int),(i:Int))=some (match sk a0 n (a1.drop i) with
   | some j=>.inl ((i+j:Nat):Int)
   | none=>.inr (-1)):=by
 intro m
 induction m with
 | zero =>
  intro i n k hm hi hni hk;obtain⟨k,rfl⟩:∃ k',k=k'+1:=⟨k - 1,by omega⟩
  rw[zK];generalize lp ve k=rec;unfold ve;rw[cy.2 (show a1.length<=i by omega)]
  cases n with
  | zero=>simp [sk]
  | succ n =>
   simp only[decide_eq_true (show ((n+1:Nat):Int)>0 by omega),cond_true,decide_eq_true (show ((i:Int)≥((aa a1:Nat):Int)) by omega)]
   rfl
 | succ m ih =>
  intro i n k hm hi hni hk;obtain⟨k,rfl⟩:∃ k',k=k'+1:=⟨k - 1,by omega⟩
  have hi:i<a1.length:=by omega
  rw[zK];have key:=fun n' h1=>ih (i+1) n' k (by omega) (by omega) h1 (by omega)
  generalize lp ve k=rec at key ⊢;unfold ve;cases n with
  | zero=>simp [sk]
  | succ n =>
   have e1:ah .i64 (((n+1:Nat):Int) - 1)=(n:Int):=by rw[zC]<;>omega
   have e3:ah .i64 ((i:Int)+1)=((i+1:Nat):Int):=by rw[zC]<;>omega
   simp only[decide_eq_true (show ((n+1:Nat):Int)>0 by omega),cond_true,decide_eq_false (show ¬((i:Int)≥((aa a1:Nat):Int)) by omega),cond_false,qJ,al hi,af,aV hi,sk,e1,e3]
   generalize a1[i]=x;unfold vm;by_cases h0:x<0
   ·rw[decide_eq_true h0,cond_true];by_cases h1 : -24<=x
    ·rw[decide_eq_false (show ¬(x < -24) by omega),cond_false,decide_eq_false (show ¬(x≥((aa a0:Nat):Int)) by omega),cond_false,decide_eq_false (show ¬(x≥0) by omega),cond_false,decide_eq_true h1,cond_true,key n (by omega)]
     dsimp only;rw[Nat.add_zero];cases sk a0 n (a1.drop (i+1)) with
     | none=>rfl
     | some j=>simp only[bu]; rw[show i+1+j=i+(j+1) from by omega]
    ·rw[decide_eq_true (show x < -24 by omega),decide_eq_false h1]; rfl
   ·rw[decide_eq_false h0,decide_eq_false (show ¬(x < -24) by omega),cond_false,cond_false]
    by_cases h1:x≥((aa a0:Nat):Int)
    ·rw[decide_eq_true h1,cond_true,aJ (by omega)]
    ·obtain⟨e,he1,he2,he3⟩:=Mf (xs:=a0) (i:=x) (by omega) (by omega)
     have hat:=h.at he3;rw[decide_eq_false h1,cond_false,decide_eq_true (show x≥0 by omega),cond_true,he1,af,he3]
     dsimp only;cases hk0:(e.2.1==0) with
     | true=>rfl
     | false =>
      have e2:ah .i64 ((n:Int)+e.2.2.1)=((n+e.2.2.1.toNat:Nat):Int):=by rw[zC]<;>omega
      simp only[cond_false,af,e2];rw[key _ (by omega)]
      cases sk a0 (n+e.2.2.1.toNat) (a1.drop (i+1)) with
      | none=>rfl
      | some j=>simp only[bu]; rw[show i+1+j=i+(j+1) from by omega]
def CK (o:Option Nat):Int:=match o with
 | some k=>(k:Int)
 | none => -1
theorem G7 {a0:List zl} (h:SignOk a0) (a1:List Int) (hl:a1.length<=1099511627776) (i:Nat) (hi:i<=a1.length):Xz a0 a1 (i:Int)=some (CK ((sk a0 1 (a1.drop i)).map (i + ·))):=by
 unfold Xz;rw[show (1:Int)=((1:Nat):Int) from rfl,Lq h a1 hl (a1.length - i) i 1 zd rfl hi (by omega) (by unfold zd; omega)]
 cases sk a0 1 (a1.drop i) with
 | none=>rfl
 | some j=>rfl
theorem IF {a0:List zl} (h:SignOk a0) (a1:List Int) (hl:a1.length<=1099511627776):∀(m i n k:Nat),a1.length - i=m->i<=a1.length->n<=i->m<k ->
  lp vX k (a0,a1,(n:Int),(i:Int))=some (match Xg a0 (a1.drop i) with
   | some ps=>.inl ((n+ps.length:Nat):Int)
   | none=>.inr (-1)):=by
 intro m
 induction m using cN with
 | _ m ih =>
  intro i n k hm hi hn hk;obtain⟨k,rfl⟩:∃ k',k=k'+1:=⟨k - 1,by omega⟩
  rw[zK];have key:=fun j n' (h1:i<j) h2 h3=>ih (a1.length - j) (by omega) j n' k rfl h2 h3 (by omega)
  generalize lp vX k=rec at key ⊢;unfold vX;by_cases he:i=a1.length
  ·subst he;simp [Xu]
  ·have hlt:i<a1.length:=by omega
   have hne:a1.drop i≠[]:=by simp; omega
   simp only[kv hlt,cond_true,G7 h a1 hl i hi,af,tf hne];cases hs:sk a0 1 (a1.drop i) with
   | none=>rfl
   | some j =>
    have hj:=WU hs;rw[bA] at hj;have e1:ah .i64 ((n:Int)+1)=((n+1:Nat):Int):=by rw[zC]<;>omega
    rw[show CK (Option.map (fun x=>i+x) (some j))=((i+j:Nat):Int) from rfl,decide_eq_false (show ¬(((i+j:Nat):Int)<0) by omega),cond_false,e1]
    rw[key (i+j) (n+1) (by omega) (by omega) (by omega)]
    dsimp only;rw[cg];cases Xg a0 (a1.drop (i+j)) with
    | none=>rfl
    | some ps=>simp only[bu,au]; rw[show n+1+ps.length=n+(ps.length+1) from by omega]
theorem rZ {a0:List zl} (hs:uf a0=true) (a1:List Int):vD a0 a1=some (CK (jb a0 a1)):=by
 have h:=tD hs;unfold vD jb wA;rw[hs,aU];by_cases hl:a1.length<=48
 ·have:=IF h a1 (by omega) a1.length 0 0 zd rfl (cf _) (aE _) (by unfold zd; omega)
  rw[show ((0:Nat):Int)=0 from rfl,bV] at this
  rw[decide_eq_false (show ¬(((aa a1:Nat):Int)>48) by omega),decide_eq_true hl,cond_false,cond_true,this]
  cases Xg a0 a1 with
  | none=>rfl
  | some ps=>simp [yt,CK]
 ·rw[decide_eq_true (show (((aa a1:Nat):Int)>48) by omega),decide_eq_false hl]; rfl
theorem Vt {a0:List zl} (hs:uf a0=true) (xs:List Int):ko a0 xs=some (qI a0 xs):=by
 have h:=tD hs;unfold ko qI;cases xs with
 | nil=>rfl
 | cons x r =>
  simp only[decide_eq_true (show (((x::r).length:Nat):Int)>0 by simp<;>omega),cond_true,y5,ay,af]
  by_cases h0:x<0
  ·rw[decide_eq_false (show ¬(x≥0) by omega)]; rfl
  ·rw[decide_eq_true (show x≥0 by omega),cond_true,aU]
   by_cases h1:x≥((aa a0:Nat):Int)
   ·rw[decide_eq_false (show ¬(x<((aa a0:Nat):Int)) by omega),aJ (by omega)]; rfl
   ·obtain⟨e,he1,he2,he3⟩:=Mf (xs:=a0) (i:=x) (by omega) (by omega)
    have hat:=h.at he3;simp only[decide_eq_true (show x<((aa a0:Nat):Int) by omega),cond_true,he1,he3,af]
    cases hk:(e.2.1==0) with
    | false=>rfl
    | true =>
     simp only[cond_true,v8,af,rZ hs,aU];unfold jb;cases wA a0 r with
     | none =>
      have:((-1:Int)==e.2.2.1)=false:=by simp; omega
      simp [CK,this]
     | some ps=>rfl
theorem AS {a0:List zl} {xs:List Int} (h:qI a0 xs=true):uf a0=true:=by
 obtain⟨_,_,_,_,_,_,_,_,_,hs,_⟩:=Zp h;exact hs
theorem Vh (a0:List zl) (b:Bool) (xs:List Int):vf a0 b xs=some (qI a0 xs):=by
 unfold vf;rw[j8,af];cases hs:uf a0 with
 | true=>rw[cond_true,Vt hs]; rfl
 | false =>
  cases ha:qI a0 xs with
  | false=>rfl
  | true=>rw[AS ha] at hs; cases hs
theorem Fm (s:List zg):(es:List zg)->(acc:List jI)->acc.length+es.length<=1000000->ql es acc=some (acc++es.map (·.2))∧qo es acc=some (acc++es.map (·.2))
 | [],acc,_=>⟨by simp [ql],by simp [qo]⟩
 | e::es,acc,h=>by
  rw[au] at h;obtain⟨k1,k2⟩:=Fm s es (acc++[e.2]) (by simp; omega)
  unfold ql qo;rw[zy (show (acc.length+[e.2].length)*24<=140737488351232 by simp; omega),cond_true,cond_true,k1,k2]
  simp
theorem OT:(es:List jI)->(acc:List jI)->acc.length+es.length<=1000000->qj es acc=some (acc++es)
 | [],acc,_=>by simp [qj]
 | e::es,acc,h=>by
  rw[au] at h;have k1:=OT es (acc++[e]) (by simp; omega)
  unfold qj;rw[zy (show (acc.length+[e].length)*24<=140737488351232 by simp; omega),cond_true,k1]
  simp
theorem Q4 (a1:List zg) (a2:List jI) (a3:List zg) (h1:a1.length<=1000) (h2:a2.length<=1000) (h3:a3.length<=1000):jx a1 a2 a3=some (a1.map (·.2)++a2++a3.map (·.2)):=by
 unfold jx;rw[Z6 _ _ _ _ (by unfold maxLen; omega),(Fm [] a1 [] (by simp; omega)).2,af,Yn _ _ _ _ (by unfold maxLen; omega),OT a2 _ (by simp; omega),af,
  ZU _ _ _ _ (by unfold maxLen; omega),(Fm [] a3 _ (by simp; omega)).1]
 simp
theorem Ef:(es:List jI)->(t:Nat)->t+zu es<=1000000000000->qP es (t:Int)=some ((t+zu es:Nat):Int)
 | [],t,_=>by simp [qP,zu]
 | e::es,t,h=>by
  have hs:zu (e::es)=e.length+zu es:=by simp [zu]
  rw[hs] at h;unfold qP;have e1:ah .i64 ((t:Int)+((aa e:Nat):Int))=((t+e.length:Nat):Int):=by rw[zC]<;>omega
  rw[e1,Ef es (t+e.length) (by omega),hs]
  congr 2
  omega
theorem KR (a0:List zl):(es:List zg)->xF a0 es=some (cond (tp a0 es) (.inl ()) (.inr false))∧xG a0 es=some (cond (tp a0 es) (.inl ()) (.inr false))
 | []=>⟨rfl,rfl⟩
 | e::es=>by
  obtain⟨k1,k2⟩:=KR a0 es;unfold xF xG;rw[Vh,k1,k2];unfold tp;rw[b9];cases qI a0 e.2<;>exact ⟨rfl,rfl⟩
theorem Di {a0:List zl} (hs:uf a0=true) (s3:List jI) (r:List Int) (h0:s3[0]? = some r):(es:List jI)->qN a0 s3 es=some (cond (es.all fun q=>(jb a0 q).isSome&&(jb a0 q==jb a0 r)) (.inl ()) (.inr false))
 | []=>rfl
 | e::es=>by
  unfold qN;rw[rZ hs,af,y5,h0,af,rZ hs,af,Di hs s3 r h0 es,b9];cases h1:jb a0 e with
  | none=>rfl
  | some n =>
   rw[show CK (some n)=(n:Int) from rfl,decide_eq_false (show ¬((n:Int)<0) by omega),cond_false]
   cases h2:jb a0 r with
   | none =>
    rw[show (((n:Int)) != CK none)=true from by simp [CK]<;>omega]
    rfl
   | some k =>
    by_cases hn:n=k
    ·subst hn; simp [CK]
    ·have e1:(((n:Int)) != CK (some k))=true:=by simp [CK]; omega
     have e2:(some n==some k)=false:=by simpa using hn
     rw[e1,e2]; simp
theorem AI {a0:List zl} (r:List Int) (rs:List jI):((r::rs).all fun q=>(jb a0 q).isSome&&(jb a0 q==jb a0 r))=kp a0 (r::rs):=by
 unfold kp;dsimp only;cases hr:jb a0 r with
 | none=>simp [hr]
 | some n =>
  rw[b9,hr];simp only[Option.isSome_some,beq_self_eq_true,aU]
  congr 1
  funext q
  cases jb a0 q<;>simp
theorem uK (a0:List zl) (a1:List zg) (a2:List jI) (a3:List zg):ZA a0 a1 a2 a3=some (sx a0 a1 a2 a3):=by
 unfold ZA sx;rw[j8,af];cases hs:uf a0 with
 | false=>rfl
 | true =>
  by_cases h1:a1.length<=5
  ·by_cases h3:a3.length<=3
   ·by_cases h2:a2.length<=3
    ·simp only[aH,cond_false,decide_eq_false (show ¬(((aa a1:Nat):Int)>5) by omega),decide_eq_false (show ¬(((aa a2:Nat):Int)>3) by omega),decide_eq_false (show ¬(((aa a3:Nat):Int)>3) by omega),
      decide_eq_true h1,decide_eq_true h2,decide_eq_true h3,aU]
     rw[Yw _ _ _ _ (by unfold maxLen; omega),(KR a0 a1).1]
     cases hb1:tp a0 a1 with
     | false=>rfl
     | true =>
      simp only[cond_true,af,te,aU];rw[Yv _ _ _ _ (by unfold maxLen; omega),(KR a0 a3).2]
      cases hb3:tp a0 a3 with
      | false=>simp [yt]
      | true =>
       simp only[cond_true,af,te,dK];rw[YR _ _ _ _ (by unfold maxLen; omega)]
       have hrows:qN a0 a2 a2=some (cond (kp a0 a2) (.inl ()) (.inr false)):=by
        cases a2 with
        | nil=>rfl
        | cons r rs=>rw[Di hs (r::rs) r rfl (r::rs),AI]
       rw[hrows];cases hb2:kp a0 a2 with
       | false=>rfl
       | true =>
        have s1:=YW a1 hb1;have s2:=DX a2 hb2;have s3:=YW a3 hb3;have hsum:zu (a1.map (·.2)++a2++a3.map (·.2))=zu (a1.map (·.2))+zu a2+zu (a3.map (·.2)):=by simp [zu]; omega
        simp only[cond_true,af,te,Q4 a1 a2 a3 (by omega) (by omega) (by omega),aU]
        rw[YH _ _ (by simp only[az,List.length_map]; unfold maxLen; omega),show (0:Int)=((0:Nat):Int) from rfl,Ef _ 0 (by rw[hsum]; omega),af,aL,hsum]
        simp only[ak,decide_eq_decide];omega
    ·simp only[aH,cond_false,decide_eq_false (show ¬(((aa a1:Nat):Int)>5) by omega),decide_eq_false (show ¬(((aa a3:Nat):Int)>3) by omega),decide_eq_true (show (((aa a2:Nat):Int)>3) by omega),decide_eq_false h2,cond_true,cj,bl]
   ·simp only[aH,cond_false,decide_eq_false (show ¬(((aa a1:Nat):Int)>5) by omega),decide_eq_true (show (((aa a3:Nat):Int)>3) by omega),decide_eq_false h3,cond_true,cj,bl]
  ·simp only[aH,cond_false,decide_eq_true (show (((aa a1:Nat):Int)>5) by omega),decide_eq_false h1,cond_true,cj,bl]
theorem JW {a0:List zl} (h:SignOk a0) (a1:List Int) (hl:a1.length<=1099511627776):∀(m i n j k:Nat),a1.length - i=m->i<=a1.length->n<=1+3*i->sk a0 n (a1.drop i)=some j->m+1<k ->
  lp xB k (a0,a1,(n:Int),(i:Int))=some ((i+j:Nat):Int):=by
 intro m
 induction m with
 | zero =>
  intro i n j k hm hi hni hs hk;obtain⟨k,rfl⟩:∃ k',k=k'+1:=⟨k - 1,by omega⟩
  rw[zK];generalize lp xB k=rec;unfold xB;rw[cy.2 (show a1.length<=i by omega)] at hs
  cases n with
  | zero =>
   simp [sk] at hs;subst hs;simp
  | succ n=>simp [sk] at hs
 | succ m ih =>
  intro i n j k hm hi hni hs hk;obtain⟨k,rfl⟩:∃ k',k=k'+1:=⟨k - 1,by omega⟩
  have hi:i<a1.length:=by omega
  rw[zK];have key:=fun n' j' h1 h2=>ih (i+1) n' j' k (by omega) (by omega) h1 h2 (by omega)
  generalize lp xB k=rec at key ⊢;unfold xB;cases n with
  | zero =>
   simp [sk] at hs;subst hs;simp
  | succ n =>
   have e1:ah .i64 (((n+1:Nat):Int) - 1)=(n:Int):=by rw[zC]<;>omega
   have e3:ah .i64 ((i:Int)+1)=((i+1:Nat):Int):=by rw[zC]<;>omega
   rw[aV hi] at hs;simp only[sk] at hs;simp only[decide_eq_true (show ((n+1:Nat):Int)>0 by omega),cond_true,qJ,al hi,af,e1,e3]
   generalize a1[i]=x at hs;cases ha:vm a0 x with
   | none=>rw[ha] at hs; cases hs
   | some q =>
    rw[ha] at hs;simp only[aY] at hs;obtain⟨j',hj',rfl⟩:=hs;by_cases h0:x<0
    ·obtain⟨_,rfl⟩:=Jh ha h0;rw[decide_eq_false (show ¬(x≥0) by omega),cond_false,key n j' (by omega) hj']
     rw[show i+1+j'=i+(j'+1) from by omega]
    ·obtain⟨e,he1,he2,he3,rfl⟩:=GL ha h0;have hat:=h.at he2;have e2:ah .i64 ((n:Int)+e.2.2.1)=((n+e.2.2.1.toNat:Nat):Int):=by rw[zC]<;>omega
     rw[decide_eq_true (show x≥0 by omega),cond_true,he1,af,e2,key _ j' (by omega) hj']
     rw[show i+1+j'=i+(j'+1) from by omega]
theorem Vs {a0:List zl} (h:SignOk a0) (a1:List Int) (hl:a1.length<=1099511627776) (i j:Nat) (hi:i<=a1.length) (hs:sk a0 1 (a1.drop i)=some j):ky a0 a1 (i:Int)=some ((i+j:Nat):Int):=by
 unfold ky;rw[show (1:Int)=((1:Nat):Int) from rfl,JW h a1 hl (a1.length - i) i 1 j zd rfl hi (by omega) hs (by unfold zd; omega)]
 rfl
theorem Ii {a0:List zl} (h:SignOk a0) (a1:List Int) (hl:a1.length<=1099511627776):∀(m i:Nat) (acc ps:List jI) (k:Nat),a1.length - i=m->i<=a1.length->acc.length<=i->Xg a0 (a1.drop i)=some ps->m<k ->
  lp vO k (a0,a1,(i:Int),acc)=some (acc++ps):=by
 intro m
 induction m using cN with
 | _ m ih =>
  intro i acc ps k hm hi hacc hc hk;obtain⟨k,rfl⟩:∃ k',k=k'+1:=⟨k - 1,by omega⟩
  rw[zK];have key:=fun j acc' ps' (h1:i<j) h2 h3 h4=>ih (a1.length - j) (by omega) j acc' ps' k rfl h2 h3 h4 (by omega)
  generalize lp vO k=rec at key ⊢;unfold vO;by_cases he:i=a1.length
  ·subst he;rw[eF,Xu] at hc;injection hc with hc; subst hc;simp
  ·have hlt:i<a1.length:=by omega
   have hne:a1.drop i≠[]:=by simp; omega
   rw[tf hne] at hc;cases hs:sk a0 1 (a1.drop i) with
   | none=>rw[hs] at hc; cases hc
   | some j =>
    rw[hs] at hc;simp only[aY] at hc;obtain⟨qs,hq,rfl⟩:=hc;have hj:=WU hs;rw[bA] at hj;have e1:vJ a1 (some (i:Int)) (some ((i+j:Nat):Int))=some ((a1.drop i).take j):=by
     rw[zaw a1 (by omega) (by omega),show i+j - i=j from by omega]
    simp only[decide_eq_true (show (i:Int)<((aa a1:Nat):Int) by omega),cond_true,Vs h a1 hl i j hi hs,af,e1,aX,zy (show (acc.length+1)*24<=140737488351232 by omega)]
    rw[cg] at hq;rw[key (i+j) _ qs (by omega) (by omega) (by simp; omega) hq]
    simp
theorem xq {a0:List zl} (h:SignOk a0) {a1:List Int} (hl:a1.length<=1099511627776) {ps:List jI} (hc:Xg a0 a1=some ps):zD a0 a1=some ps:=by
 unfold zD;have:=Ii h a1 hl a1.length 0 [] ps zd rfl (cf _) (cf _) hc (by unfold zd; omega)
 rw[show ((0:Nat):Int)=0 from rfl] at this
 rw[this];rfl
def InB (a0:List zl) (xs:List Int):Prop:=∀ x∈xs,x<(a0.length:Int)
theorem kE {xs:List Int} (h:xs.length<=1000000000):wb xs=some xs:=by
 unfold wb;rw[zy (by simp only[bH]; omega)]; rfl
theorem X5:(es acc:List zg)->(∀ l∈es,l.2.length<=1000000000)->acc.length+es.length<=1000000000->z6 es acc=some (acc++es)
 | [],acc,_,_=>by simp [z6]
 | e::es,acc,h,hl=>by
  rw[au] at hl;unfold z6;rw[kE (h e (by simp)),af,zy (by simp only[au,bH]; omega),cond_true,X5 es _ (fun l hl=>h l (by simp [hl])) (by simp; omega)]
  simp
theorem kH {ls:List zg} (h:∀ l∈ls,l.2.length<=1000000000) (hl:ls.length<=1000000000):v9 ls=some ls:=by
 unfold v9;rw[kf _ _ (by unfold maxLen; omega),X5 ls [] h (by simp; omega)]
 rfl
theorem Wc:(es acc:List jI)->(∀ l∈es,l.length<=1000000000)->acc.length+es.length<=1000000000->ya es acc=some (acc++es)
 | [],acc,_,_=>by simp [ya]
 | e::es,acc,h,hl=>by
  rw[au] at hl;unfold ya;rw[kE (h e (by simp)),af,zy (by simp only[au,bH]; omega),cond_true,Wc es _ (fun l hl=>h l (by simp [hl])) (by simp; omega)]
  simp
theorem Xl {ls:List jI} (h:∀ l∈ls,l.length<=1000000000) (hl:ls.length<=1000000000):tJ ls=some ls:=by
 unfold tJ;rw[rW _ _ (by unfold maxLen; omega),Wc ls [] h (by simp; omega)]
 rfl
theorem XM (ys:List Int):(es:List Int)->(i:Nat)->es.length=(ys.drop i).length->yC ys es i=some (cond (decide (es=ys.drop i)) (.inl ()) (.inr false))
 | [],i,h=>by
  have:ys.drop i=[]:=cz.1 h.symm;rw[this]; rfl
 | e::es,i,h=>by
  unfold yC;rw[au,bA] at h;have hi:i<ys.length:=by omega
  rw[qJ,al hi,af,aV hi,XM ys es (i+1) (by rw[bA]; omega)]
  generalize ys[i]=y;by_cases he:e=y
  ·subst he;rw[show (e != e)=false from by simp,cond_false]
   simp
  ·rw[show (e != y)=true from by simpa using he,cond_true]
   rw[decide_eq_false (by intro h; injection h with h1 h2; exact he h1)]
   rfl
theorem kN {xs ys:List Int} (h:xs.length<=maxLen):x6 xs ys=some (decide (xs=ys)):=by
 unfold x6;by_cases hl:xs.length=ys.length
 ·rw[show (((aa xs:Nat):Int) != ((aa ys:Nat):Int))=false from by simp [hl],cond_false,kz _ _ h,XM ys xs 0 hl,bV]
  cases decide (xs=ys)<;>rfl
 ·rw[show (((aa xs:Nat):Int) != ((aa ys:Nat):Int))=true from by simp; omega,cond_true,decide_eq_false (by intro h; subst h; exact hl rfl)]
theorem WN (ys:List zg):(es:List zg)->(i:Nat)->es.length=(ys.drop i).length->(∀ e∈es,e.2.length<=maxLen)->yB ys es i=some (cond (decide (es=ys.drop i)) (.inl ()) (.inr false))
 | [],i,h,_=>by
  have:ys.drop i=[]:=cz.1 h.symm;rw[this]; rfl
 | e::es,i,h,hm=>by
  unfold yB;rw[au,bA] at h;have hi:i<ys.length:=by omega
  rw[qJ,al hi,af,aV hi,WN ys es (i+1) (by rw[bA]; omega) (fun x hx=>hm x (by simp [hx]))]
  generalize ys[i]=y;obtain⟨a,b⟩:=e;obtain⟨c,d⟩:=y;have hb:b.length<=maxLen:=hm (a,b) (by simp)
  simp only[af,kN hb];by_cases h1:a=c
  ·subst h1;by_cases h2:b=d
   ·subst h2;simp
   ·have:¬((a,b)::es=(a,d)::ys.drop (i+1)):=fun h=>by injection h with h _; injection h with _ h; exact h2 h
    simp [h2,this]
  ·have:¬((a,b)::es=(c,d)::ys.drop (i+1)):=fun h=>by injection h with h _; injection h with h _; exact h1 h
   have h3:(a==c)=false:=by simpa using h1
   rw[h3,decide_eq_false this]; rfl
theorem kD {xs ys:List zg} (h:xs.length<=maxLen) (hm:∀ e∈xs,e.2.length<=maxLen):ue xs ys=some (decide (xs=ys)):=by
 unfold ue;by_cases hl:xs.length=ys.length
 ·rw[show (((aa xs:Nat):Int) != ((aa ys:Nat):Int))=false from by simp [hl],cond_false,ke _ _ h,WN ys xs 0 hl hm,bV]
  cases decide (xs=ys)<;>rfl
 ·rw[show (((aa xs:Nat):Int) != ((aa ys:Nat):Int))=true from by simp; omega,cond_true,decide_eq_false (by intro h; subst h; exact hl rfl)]
theorem XL (ys:List jI):(es:List jI)->(i:Nat)->es.length=(ys.drop i).length->(∀ e∈es,e.length<=maxLen)->yy ys es i=some (cond (decide (es=ys.drop i)) (.inl ()) (.inr false))
 | [],i,h,_=>by
  have:ys.drop i=[]:=cz.1 h.symm;rw[this]; rfl
 | e::es,i,h,hm=>by
  unfold yy;rw[au,bA] at h;have hi:i<ys.length:=by omega
  rw[qJ,al hi,af,aV hi,kN (hm e (by simp)),af,XL ys es (i+1) (by rw[bA]; omega) (fun x hx=>hm x (by simp [hx]))]
  generalize ys[i]=y;by_cases h1:e=y
  ·subst h1;simp
  ·have:¬(e::es=y::ys.drop (i+1)):=fun h=>by injection h with h _; exact h1 h
   rw[decide_eq_false h1,decide_eq_false this]; rfl
theorem Xj {xs ys:List jI} (h:xs.length<=maxLen) (hm:∀ e∈xs,e.length<=maxLen):tK xs ys=some (decide (xs=ys)):=by
 unfold tK;by_cases hl:xs.length=ys.length
 ·rw[show (((aa xs:Nat):Int) != ((aa ys:Nat):Int))=false from by simp [hl],cond_false,kx _ _ h,XL ys xs 0 hl hm,bV]
  cases decide (xs=ys)<;>rfl
 ·rw[show (((aa xs:Nat):Int) != ((aa ys:Nat):Int))=true from by simp; omega,cond_true,decide_eq_false (by intro h; subst h; exact hl rfl)]
theorem w7 {a0:List zg} {a1:List jI} {a2:List zg} (h0:a0.length<=maxLen) (h0m:∀ e∈a0,e.2.length<=maxLen) (h1:a1.length<=maxLen) (h1m:∀ e∈a1,e.length<=maxLen) (h2:a2.length<=maxLen) (h2m:∀ e∈a2,e.2.length<=maxLen) :
  yr a0 a1 a2 a0 a1 a2=some true:=by
 unfold yr;rw[kD h0 h0m,Xj h1 h1m,kD h2 h2m];simp
theorem Pa {α:Type} {f:α->Nat} {xs:List α} {x:α} (h:x∈xs):f x<=(xs.map f).sum:=by
 induction xs with
 | nil=>cases h
 | cons y ys ih =>
  simp only[aM,cA];rcases aI.1 h with rfl | h
  ·omega
  ·have:=ih h; omega
theorem Rk {α:Type} {f:α->Nat} (hf:∀ x,1<=f x) (xs:List α):xs.length<=(xs.map f).sum:=by
 induction xs with
 | nil=>simp
 | cons y ys ih =>
  simp only[aM,cA,au];have:=hf y;omega
theorem FD (xs:List Int):wt (.sl (.one (.int .i64))) xs=xs.length+1:=by
 show (dx (fun _=>1) xs).sum+1=_
 congr 1
 induction xs with
 | nil=>rfl
 | cons y ys ih=>simp only[aM,cA,au,ih]; omega
theorem Ue (l:zg):wtT Yt l=l.2.length+2:=by
 show 1+wt (.sl (.one (.int .i64))) l.2=_;rw[FD]; omega
theorem L8 {ls:List zg} {b:Nat} (h:wt (.sl Yt) ls<=b):ls.length<=b∧∀ l∈ls,l.2.length<=b:=by
 have e:(wtT Yt:zg->Nat)=fun l=>l.2.length+2:=funext Ue;have h:(dx (wtT Yt:zg->Nat) ls).sum+1<=b:=h;rw[e] at h
 replace h:(dx (fun l:zg=>l.2.length+2) ls).sum+1<=b:=h
 have h1:=Rk (f:=fun l:zg=>l.2.length+2) (fun l=>by omega) ls
 refine ⟨by omega,fun l hl => ?_⟩
 have:=Pa (f:=fun l:zg=>l.2.length+2) hl;omega
theorem Uh {rs:List jI} {b:Nat} (h:wt (.sl (.one (.sl (.one (.int .i64))))) rs<=b):rs.length<=b∧∀ l∈rs,l.length<=b:=by
 have e:(wtT (.one (.sl (.one (.int .i64)))):List Int->Nat)=fun l=>l.length+1:=funext FD;have h:(dx (wtT (.one (.sl (.one (.int .i64)))):List Int->Nat) rs).sum+1<=b:=h;rw[e] at h
 replace h:(dx (fun l:List Int=>l.length+1) rs).sum+1<=b:=h
 have h1:=Rk (f:=fun l:List Int=>l.length+1) (fun l=>by omega) rs
 refine ⟨by omega,fun l hl => ?_⟩
 have:=Pa (f:=fun l:List Int=>l.length+1) hl;omega
def yY (rec:(jR×jR×Int×Int×(List (jI×Int×jI×Int))×jI×Int×jI×Int)->Option (List (jI×Int×jI×Int))) (x:(jR×jR×Int×Int×(List (jI×Int×jI×Int))×jI×Int×jI×Int)):Option (List (jI×Int×jI×Int)) :=
 cond (decide (x.2.2.2.1<x.2.2.1))
 ((gx x.1 x.2.2.2.1).bind fun e7 =>
  (gx x.2.1 x.2.2.2.1).bind fun e8 =>
  cond (y9 (aa x.2.2.2.2.1+aa ([(e7,x.2.2.2.2.2.2.1,e8,x.2.2.2.2.2.2.2.2)]:List (jI×Int×jI×Int))) 64)
  (rec (x.1,x.2.1,x.2.2.1,(ah .i64 (x.2.2.2.1+1)),(x.2.2.2.2.1++([(e7,x.2.2.2.2.2.2.1,e8,x.2.2.2.2.2.2.2.2)]:List (jI×Int×jI×Int))),x.2.2.2.2.2.1,x.2.2.2.2.2.2.1,x.2.2.2.2.2.2.2.1,x.2.2.2.2.2.2.2.2))
  (none))
 (some x.2.2.2.2.1)
def qf (a0:jI) (a1:Int) (a2:jI) (a3:Int) (a4:jS) (_a5:(List ((Option jI)×Int))) (a6:(List (jI×Int×jI×Int))):Option (List (jI×Int×jI×Int)) :=
 (x9 a4 a0).bind fun r10 =>
 (x9 a4 a2).bind fun r11 =>
 ((lp yY zd) (r10,r11,((aa r10:Nat):Int),0,a6,a0,a1,a2,a3)).bind fun r12 =>
 some r12
def ym (_a0:jI) (a1:Int) (a2:Int):Option Int :=
 (yj a2).bind fun r2 =>
 some (ah .i64 (r2+a1))
def xS (rec:(jS×(List ((Option jI)×Int))×jI×Int×Int)->Option (jI×Int)) (x:(jS×(List ((Option jI)×Int))×jI×Int×Int)):Option (jI×Int) :=
 (gx x.2.2.1 0).bind fun e6 =>
 cond (decide (e6<0))
 ((gx x.2.2.1 0).bind fun e7 =>
  (ym x.2.2.1 x.2.2.2.1 e7).bind fun r8 =>
  (inR r8 48).bind fun k9 =>
  (x.2.1[k9]?).bind fun x10 =>
  cond (co x10.1)
  (some (x.2.2.1,x.2.2.2.1))
  (rec (x.1,x.2.1,(bS x10.1 []),x10.2,x.2.2.2.2)))
 (some (x.2.2.1,x.2.2.2.1))
def xA (a0:jI) (a1:Int) (a2:jS) (a3:(List ((Option jI)×Int))):Option (jI×Int) :=
 ((lp xS zd) (a2,a3,a0,a1,0)).bind fun r12 =>
 some (r12.1,r12.2)
def qa (rec:(Int×jI×Int×Int×jS×(List ((Option jI)×Int))×jI×Int×(List Bool)×(List (jI×Int)))->Option (((List Bool)×(List (jI×Int)))⊕Bool)) (x:(Int×jI×Int×Int×jS×(List ((Option jI)×Int))×jI×Int×(List Bool)×(List (jI×Int)))):Option (((List Bool)×(List (jI×Int)))⊕Bool) :=
 cond (decide (x.2.2.2.1<x.2.2.1))
 ((gx x.2.1 x.2.2.2.1).bind fun e14 =>
  cond (decide (e14≥0))
  (rec (x.1,x.2.1,x.2.2.1,(ah .i64 (x.2.2.2.1+1)),x.2.2.2.2.1,x.2.2.2.2.2.1,x.2.2.2.2.2.2.1,x.2.2.2.2.2.2.2.1,x.2.2.2.2.2.2.2.2.1,x.2.2.2.2.2.2.2.2.2))
  ((ym x.2.2.2.2.2.2.1 x.2.2.2.2.2.2.2.1 e14).bind fun r15 =>
   cond (r15==x.1)
   (some (aD true))
   ((inR r15 48).bind fun k16 =>
    (x.2.2.2.2.2.2.2.2.1[k16]?).bind fun x17 =>
    cond (!x17)
    ((inR r15 48).bind fun k18 =>
     (x.2.2.2.2.2.1[k18]?).bind fun x19 =>
     cond (!(co x19.1))
     ((inR r15 48).bind fun k20 =>
      (x.2.2.2.2.2.2.2.2.1[k20]?).bind fun _x21 =>
      (inR r15 48).bind fun k22 =>
      (x.2.2.2.2.2.1[k22]?).bind fun x23 =>
      cond (y9 (aa x.2.2.2.2.2.2.2.2.2+aa ([((bS x23.1 []),x23.2)]:List (jI×Int))) 32)
      (rec (x.1,x.2.1,x.2.2.1,(ah .i64 (x.2.2.2.1+1)),x.2.2.2.2.1,x.2.2.2.2.2.1,x.2.2.2.2.2.2.1,x.2.2.2.2.2.2.2.1,(cJ x.2.2.2.2.2.2.2.2.1 k20 true),(x.2.2.2.2.2.2.2.2.2++([((bS x23.1 []),x23.2)]:List (jI×Int)))))
      (none))
     (rec (x.1,x.2.1,x.2.2.1,(ah .i64 (x.2.2.2.1+1)),x.2.2.2.2.1,x.2.2.2.2.2.1,x.2.2.2.2.2.2.1,x.2.2.2.2.2.2.2.1,x.2.2.2.2.2.2.2.2.1,x.2.2.2.2.2.2.2.2.2)))
    (rec (x.1,x.2.1,x.2.2.1,(ah .i64 (x.2.2.2.1+1)),x.2.2.2.2.1,x.2.2.2.2.2.1,x.2.2.2.2.2.2.1,x.2.2.2.2.2.2.2.1,x.2.2.2.2.2.2.2.2.1,x.2.2.2.2.2.2.2.2.2)))))
 (some (aS (x.2.2.2.2.2.2.2.2.1,x.2.2.2.2.2.2.2.2.2)))
def q8 (rec:(Int×jS×(List ((Option jI)×Int))×jI×Int×(List Bool)×(List (jI×Int)))->Option (Unit⊕Bool)) (x:(Int×jS×(List ((Option jI)×Int))×jI×Int×(List Bool)×(List (jI×Int)))):Option (Unit⊕Bool) :=
 cond (decide (((aa x.2.2.2.2.2.2:Nat):Int)>0))
 ((inR (ah .i64 (((aa x.2.2.2.2.2.2:Nat):Int) - 1)) (aa x.2.2.2.2.2.2)).bind fun k32 =>
  (x.2.2.2.2.2.2[k32]?).bind fun x33 =>
  (vJ x.2.2.2.2.2.2 none (some (ah .i64 (((aa x.2.2.2.2.2.2:Nat):Int) - 1)))).bind fun y34 =>
  ((lp qa zd) (x.1,x33.1,((aa x33.1:Nat):Int),0,x.2.1,x.2.2.1,x33.1,x33.2,x.2.2.2.2.2.1,y34)).bind fun r35 =>
  yt r35
  (fun z36=>rec (x.1,x.2.1,x.2.2.1,x33.1,x33.2,z36.1,z36.2))
  (fun z37=>some (aD z37)))
 (some (aS ()))
def vd (a0:Int) (a1:jI) (a2:Int) (a3:jS) (a4:(List ((Option jI)×Int))):Option Bool :=
 ((lp q8 zd) (a0,a3,a4,a1,a2,(ax 48 false),([(a1,a2)]:List (jI×Int)))).bind fun r41 =>
 yt r41
 (fun _z42=>some false)
 (fun z43=>some z43)
def yQ (a0:jI) (a1:Int) (a2:jI) (a3:Int) (a4:jS) (a5:(List ((Option jI)×Int))):Option (Bool×jS×(List ((Option jI)×Int))) :=
 (gx a0 0).bind fun e16 =>
 (ym a0 a1 e16).bind fun r17 =>
 (gx a2 0).bind fun e18 =>
 cond (decide (e18≥0))
 ((vd r17 a2 a3 a4 a5).bind fun r19 =>
  cond r19
  (some (false,a4,a5))
  ((inR r17 48).bind fun k20 =>
   (a5[k20]?).bind fun _x21 =>
   (nn a2).bind fun p22 =>
   some (true,a4,(cJ a5 k20 ((some p22),a3)))))
 ((gx a2 0).bind fun e23 =>
  (ym a2 a3 e23).bind fun r24 =>
  cond (decide (r24>r17))
  ((inR r24 48).bind fun k25 =>
   (a5[k25]?).bind fun _x26 =>
   (nn a0).bind fun p27 =>
   some (true,a4,(cJ a5 k25 ((some p27),a1))))
  (cond (decide (r24<r17))
   ((inR r17 48).bind fun k28 =>
    (a5[k28]?).bind fun _x29 =>
    (nn a2).bind fun p30 =>
    some (true,a4,(cJ a5 k28 ((some p30),a3))))
   (some (true,a4,a5))))
def zr (rec:(jS×(List ((Option jI)×Int))×(List (jI×Int×jI×Int)))->Option (Bool×jS×(List ((Option jI)×Int)))) (x:(jS×(List ((Option jI)×Int))×(List (jI×Int×jI×Int)))):Option (Bool×jS×(List ((Option jI)×Int))) :=
 cond (((aa x.2.2:Nat):Int)==0)
 (some (true,x.1,x.2.1))
 ((inR (ah .i64 (((aa x.2.2:Nat):Int) - 1)) (aa x.2.2)).bind fun k27 =>
  (x.2.2[k27]?).bind fun x28 =>
  (xA x28.1 x28.2.1 x.1 x.2.1).bind fun r29 =>
  (inR (ah .i64 (((aa x.2.2:Nat):Int) - 1)) (aa x.2.2)).bind fun k30 =>
  (x.2.2[k30]?).bind fun x31 =>
  (xA x31.2.2.1 x31.2.2.2 x.1 x.2.1).bind fun r32 =>
  (vJ x.2.2 none (some (ah .i64 (((aa x.2.2:Nat):Int) - 1)))).bind fun y33 =>
  (gx r29.1 0).bind fun e34 =>
  cond (decide (e34<0))
  ((yQ r29.1 r29.2 r32.1 r32.2 x.1 x.2.1).bind fun r35 =>
   cond r35.1
   (rec (r35.2.1,r35.2.2,y33))
   (some (false,r35.2.1,r35.2.2)))
  ((gx r32.1 0).bind fun e36 =>
   cond (decide (e36<0))
   ((yQ r32.1 r32.2 r29.1 r29.2 x.1 x.2.1).bind fun r37 =>
    cond r37.1
    (rec (r37.2.1,r37.2.2,y33))
    (some (false,r37.2.1,r37.2.2)))
   ((gx r29.1 0).bind fun e38 =>
    (gx r32.1 0).bind fun e39 =>
    cond (e38 != e39)
    (some (false,x.1,x.2.1))
    ((vJ r29.1 (some 1) none).bind fun y40 =>
     (vJ r32.1 (some 1) none).bind fun y41 =>
     (qf y40 r29.2 y41 r32.2 x.1 x.2.1 y33).bind fun r42 =>
     rec (x.1,x.2.1,r42)))))
def xc (a0:jI) (a1:Int) (a2:jI) (a3:Int) (a4:jS) (a5:(List ((Option jI)×Int))):Option (Bool×jS×(List ((Option jI)×Int))) :=
 (qf a0 a1 a2 a3 a4 a5 ([]:(List (jI×Int×jI×Int)))).bind fun r53 =>
 cond (((aa r53:Nat):Int)==0)
 (some (true,a4,a5))
 ((inR (ah .i64 (((aa r53:Nat):Int) - 1)) (aa r53)).bind fun k54 =>
  (r53[k54]?).bind fun x55 =>
  (xA x55.1 x55.2.1 a4 a5).bind fun r56 =>
  (inR (ah .i64 (((aa r53:Nat):Int) - 1)) (aa r53)).bind fun k57 =>
  (r53[k57]?).bind fun x58 =>
  (xA x58.2.2.1 x58.2.2.2 a4 a5).bind fun r59 =>
  (vJ r53 none (some (ah .i64 (((aa r53:Nat):Int) - 1)))).bind fun y60 =>
  (gx r56.1 0).bind fun e61 =>
  cond (decide (e61<0))
  ((yQ r56.1 r56.2 r59.1 r59.2 a4 a5).bind fun r62 =>
   cond r62.1
   ((((lp zr zd) (r62.2.1,r62.2.2,y60))).bind fun r63 =>
    some (r63.1,r63.2.1,r63.2.2))
   (some (false,r62.2.1,r62.2.2)))
  ((gx r59.1 0).bind fun e64 =>
   cond (decide (e64<0))
   ((yQ r59.1 r59.2 r56.1 r56.2 a4 a5).bind fun r65 =>
    cond r65.1
    ((((lp zr zd) (r65.2.1,r65.2.2,y60))).bind fun r66 =>
     some (r66.1,r66.2.1,r66.2.2))
    (some (false,r65.2.1,r65.2.2)))
   ((gx r56.1 0).bind fun e67 =>
    (gx r59.1 0).bind fun e68 =>
    cond (e67 != e68)
    (some (false,a4,a5))
    ((vJ r56.1 (some 1) none).bind fun y69 =>
     (vJ r59.1 (some 1) none).bind fun y70 =>
     (qf y69 r56.2 y70 r59.2 a4 a5 y60).bind fun r71 =>
     (((lp zr zd) (a4,a5,r71))).bind fun r72 =>
     some (r72.1,r72.2.1,r72.2.2)))))
def qL (_a0:(Option jI)) (a1:Int) (a2:Int):Option Int :=
 (yj a2).bind fun r2 =>
 some (ah .i64 (r2+a1))
def yl (rf:(((Option jI)×Int×jS×(List ((Option jI)×Int)))->Option (Option jI))) (rec:((Option jI)×Int×Int×jS×(List ((Option jI)×Int))×(Option jI)×Int×jI)->Option (jI⊕Unit)) (x:((Option jI)×Int×Int×jS×(List ((Option jI)×Int))×(Option jI)×Int×jI)):Option (jI⊕Unit) :=
 cond (decide (x.2.2.1<x.2.1))
 ((gx (bS x.1 []) x.2.2.1).bind fun e27 =>
  cond (decide (e27<0))
  ((qL x.2.2.2.2.2.1 x.2.2.2.2.2.2.1 e27).bind fun r28 =>
   (inR r28 48).bind fun k29 =>
   (x.2.2.2.2.1[k29]?).bind fun x30 =>
   cond (!(co x30.1))
   ((qL x.2.2.2.2.2.1 x.2.2.2.2.2.2.1 e27).bind fun r31 =>
    (inR r31 48).bind fun k32 =>
    (x.2.2.2.2.1[k32]?).bind fun x33 =>
    (rf (x33.1,x33.2,x.2.2.2.1,x.2.2.2.2.1)).bind fun r34 =>
    cond (co r34)
    (some (aD ()))
    (cond (decide ((ah .i64 (((aa x.2.2.2.2.2.2.2:Nat):Int)+((aa (bS r34 []):Nat):Int)))>48))
     (some (aD ()))
     (cond (y9 (aa x.2.2.2.2.2.2.2+aa (bS r34 [])) 8)
      (rec (x.1,x.2.1,(ah .i64 (x.2.2.1+1)),x.2.2.2.1,x.2.2.2.2.1,x.2.2.2.2.2.1,x.2.2.2.2.2.2.1,(x.2.2.2.2.2.2.2++(bS r34 []))))
      (none))))
   ((((nn ([e27]:List Int)).bind fun _ =>
     some false)).bind fun z35 =>
    cond z35
    (some (aD ()))
    (cond (decide ((ah .i64 (((aa x.2.2.2.2.2.2.2:Nat):Int)+((aa ([e27]:List Int):Nat):Int)))>48))
     (some (aD ()))
     (cond (y9 (aa x.2.2.2.2.2.2.2+aa ([e27]:List Int)) 8)
      (rec (x.1,x.2.1,(ah .i64 (x.2.2.1+1)),x.2.2.2.1,x.2.2.2.2.1,x.2.2.2.2.2.1,x.2.2.2.2.2.2.1,(x.2.2.2.2.2.2.2++([e27]:List Int))))
      (none)))))
  ((((nn ([e27]:List Int)).bind fun _ =>
    some false)).bind fun z36 =>
   cond z36
   (some (aD ()))
   (cond (decide ((ah .i64 (((aa x.2.2.2.2.2.2.2:Nat):Int)+((aa ([e27]:List Int):Nat):Int)))>48))
    (some (aD ()))
    (cond (y9 (aa x.2.2.2.2.2.2.2+aa ([e27]:List Int)) 8)
     (rec (x.1,x.2.1,(ah .i64 (x.2.2.1+1)),x.2.2.2.1,x.2.2.2.2.1,x.2.2.2.2.2.1,x.2.2.2.2.2.2.1,(x.2.2.2.2.2.2.2++([e27]:List Int))))
     (none)))))
 (some (aS x.2.2.2.2.2.2.2))
def uH (rf:(((Option jI)×Int×jS×(List ((Option jI)×Int)))->Option (Option jI))) (a0:(Option jI)) (a1:Int) (a2:jS) (a3:(List ((Option jI)×Int))):Option (Option jI) :=
 ((lp (yl rf) zd) (a0,((aa (bS a0 []):Nat):Int),0,a2,a3,a0,a1,([]:jI))).bind fun r40 =>
 yt r40
 (fun z41=>((nn z41).bind fun z=>some ((2:Nat),some z)).bind fun p42 =>
  some p42.2)
 (fun _z43=>some (none:(Option jI)))
def jc (rf:(((Option jI)×Int×jS×(List ((Option jI)×Int)))->Option (Option jI))):(((Option jI)×Int×jS×(List ((Option jI)×Int)))->Option (Option jI)) :=
 fun (x:((Option jI)×Int×jS×(List ((Option jI)×Int))))=>uH rf x.1 x.2.1 x.2.2.1 x.2.2.2
def jd:(((Option jI)×Int×jS×(List ((Option jI)×Int)))->Option (Option jI)):=fun _=>none
def qe (k:Nat):(((Option jI)×Int×jS×(List ((Option jI)×Int)))->Option (Option jI)):=lpR jd jc k
def tZ (a0:(Option jI)) (a1:Int) (a2:jS) (a3:(List ((Option jI)×Int))):Option (Option jI):=(qe zd) (a0,a1,a2,a3)
def xE (rec:(Int×jS×(List ((Option jI)×Int))×(List (Int×jI)))->Option ((List (Int×jI))⊕(Bool×Int))) (x:(Int×jS×(List ((Option jI)×Int))×(List (Int×jI)))):Option ((List (Int×jI))⊕(Bool×Int)) :=
 cond (decide (x.1<24))
 ((inR x.1 48).bind fun k16 =>
  (x.2.2.1[k16]?).bind fun x17 =>
  cond (co x17.1)
  (rec ((ah .i64 (x.1+1)),x.2.1,x.2.2.1,x.2.2.2))
  ((inR x.1 48).bind fun k18 =>
   (x.2.2.1[k18]?).bind fun x19 =>
   (tZ x19.1 x19.2 x.2.1 x.2.2.1).bind fun r20 =>
   cond (co r20)
   (some (aD (false,401)))
   ((wR (bS r20 [])).bind fun r21 =>
    cond (y9 (aa x.2.2.2+aa ([(x.1,r21)]:List (Int×jI))) 32)
    (rec ((ah .i64 (x.1+1)),x.2.1,x.2.2.1,(x.2.2.2++([(x.1,r21)]:List (Int×jI)))))
    (none))))
 (some (aS x.2.2.2))
def uy (a0:jS) (a1:jI) (a2:jI):Option (Bool×Int×(List (Int×jI))) :=
 (ku a0 a1).bind fun r25 =>
 (ku a0 a2).bind fun r26 =>
 cond (r25.2 != 0)
 (some (false,400,([]:(List (Int×jI)))))
 (cond (r26.2 != 0)
  (some (false,400,([]:(List (Int×jI)))))
  (cond (r25.1 != r26.1)
   (some (false,0,([]:(List (Int×jI)))))
   ((xc a1 0 a2 0 a0 (ax 48 ((none:(Option jI)),(0:Int)))).bind fun r27 =>
    cond (!r27.1)
    (some (false,0,([]:(List (Int×jI)))))
    (((lp xE zd) (0,r27.2.1,r27.2.2,([]:(List (Int×jI))))).bind fun r28 =>
     yt r28
     (fun z29=>some (true,0,z29))
     (fun z30=>some (z30.1,z30.2,([]:(List (Int×jI)))))))))
def rG (a0:Int):Option jR :=
 cond (decide (a0<0))
 (none)
 (cond (decide ((ah .i64 (a0 - 0))>0))
  (cond (eqI 0 0&&eqI 0 0)
   (cond (Fa (ah .i64 (a0 - 0)))
    (cond (y9 (bP (ah .i64 (a0 - 0))) 24)
     ((vJ (ax (bP (ah .i64 (a0 - 0))) ([]:jI)) none (some 0)).bind fun y2 =>
      some y2)
     (none))
    (none))
   (none))
  (some ([]:jR)))
def xk (rec:((List jR)×Int×Int×jR)->Option jR) (x:((List jR)×Int×Int×jR)):Option jR :=
 cond (decide (x.2.2.1<x.2.1))
 ((gx x.1 x.2.2.1).bind fun e7 =>
  cond (y9 (aa x.2.2.2+aa e7) 24)
  (rec (x.1,x.2.1,(ah .i64 (x.2.2.1+1)),(x.2.2.2++e7)))
  (none))
 (some x.2.2.2)
def xo (rec:((List jR)×Int×(List jR)×Int×Int)->Option Int) (x:((List jR)×Int×(List jR)×Int×Int)):Option Int :=
 cond (decide (x.2.2.2.2<x.2.2.2.1))
 ((gx x.2.2.1 x.2.2.2.2).bind fun e2 =>
  cond (decide ((ah .i64 (x.2.1+((aa e2:Nat):Int)))<0))
  (none)
  (rec (x.1,(ah .i64 (x.2.1+((aa e2:Nat):Int))),x.2.2.1,x.2.2.2.1,(ah .i64 (x.2.2.2.2+1)))))
 (some x.2.1)
def tw (a0:(List jR)):Option jR :=
 ((lp xo zd) (a0,0,a0,((aa a0:Nat):Int),0)).bind fun r9 =>
 (rG r9).bind fun r10 =>
 ((lp xk zd) (a0,((aa a0:Nat):Int),0,r10)).bind fun r11 =>
 some r11
def tz (a0:Int):Option jQ :=
 cond (decide (a0<0))
 (none)
 (cond (decide ((ah .i64 (a0 - 0))>0))
  (cond (eqI 0 0&&eqI 0 0)
   (cond (Fa (ah .i64 (a0 - 0)))
    (cond (y9 (bP (ah .i64 (a0 - 0))) 32)
     ((vJ (ax (bP (ah .i64 (a0 - 0))) (false,([]:jI))) none (some 0)).bind fun y2 =>
      some y2)
     (none))
    (none))
   (none))
  (some ([]:jQ)))
def qA (rec:((List jQ)×Int×Int×jQ)->Option jQ) (x:((List jQ)×Int×Int×jQ)):Option jQ :=
 cond (decide (x.2.2.1<x.2.1))
 ((gx x.1 x.2.2.1).bind fun e7 =>
  cond (y9 (aa x.2.2.2+aa e7) 32)
  (rec (x.1,x.2.1,(ah .i64 (x.2.2.1+1)),(x.2.2.2++e7)))
  (none))
 (some x.2.2.2)
def qD (rec:((List jQ)×Int×(List jQ)×Int×Int)->Option Int) (x:((List jQ)×Int×(List jQ)×Int×Int)):Option Int :=
 cond (decide (x.2.2.2.2<x.2.2.2.1))
 ((gx x.2.2.1 x.2.2.2.2).bind fun e2 =>
  cond (decide ((ah .i64 (x.2.1+((aa e2:Nat):Int)))<0))
  (none)
  (rec (x.1,(ah .i64 (x.2.1+((aa e2:Nat):Int))),x.2.2.1,x.2.2.2.1,(ah .i64 (x.2.2.2.2+1)))))
 (some x.2.1)
def wK (a0:(List jQ)):Option jQ :=
 ((lp qD zd) (a0,0,a0,((aa a0:Nat):Int),0)).bind fun r9 =>
 (tz r9).bind fun r10 =>
 ((lp qA zd) (a0,((aa a0:Nat):Int),0,r10)).bind fun r11 =>
 some r11
def xJ (rec:(Int×jQ×Int×Int×jR×jQ×jQ)->Option (jR×jQ×jQ)) (x:(Int×jQ×Int×Int×jR×jQ×jQ)):Option (jR×jQ×jQ) :=
 cond (decide (x.2.2.2.1<x.2.2.1))
 ((gx x.2.1 x.2.2.2.1).bind fun e8 =>
  cond (x.2.2.2.1 != x.1)
  (cond (y9 (aa x.2.2.2.2.2.1+aa ([(e8.1,e8.2)]:List zg)) 32)
   (rec (x.1,x.2.1,x.2.2.1,(ah .i64 (x.2.2.2.1+1)),x.2.2.2.2.1,(x.2.2.2.2.2.1++([(e8.1,e8.2)]:List zg)),x.2.2.2.2.2.2))
   (none))
  (rec (x.1,x.2.1,x.2.2.1,(ah .i64 (x.2.2.2.1+1)),x.2.2.2.2.1,x.2.2.2.2.2.1,x.2.2.2.2.2.2)))
 (some (x.2.2.2.2.1,x.2.2.2.2.2.1,x.2.2.2.2.2.2))
def xP (rec:(Int×Int×jQ×Int×Int×jQ×jR×jQ×jR×jQ×jQ)->Option (jR×jQ×jQ)) (x:(Int×Int×jQ×Int×Int×jQ×jR×jQ×jR×jQ×jQ)):Option (jR×jQ×jQ) :=
 cond (decide (x.2.2.2.2.1<x.2.2.2.1))
 ((gx x.2.2.1 x.2.2.2.2.1).bind fun e5 =>
  cond (x.2.2.2.2.1 != x.1)
  (cond (y9 (aa x.2.2.2.2.2.2.2.2.2.1+aa ([(e5.1,e5.2)]:List zg)) 32)
   (rec (x.1,x.2.1,x.2.2.1,x.2.2.2.1,(ah .i64 (x.2.2.2.2.1+1)),x.2.2.2.2.2.1,x.2.2.2.2.2.2.1,x.2.2.2.2.2.2.2.1,x.2.2.2.2.2.2.2.2.1,(x.2.2.2.2.2.2.2.2.2.1++([(e5.1,e5.2)]:List zg)),x.2.2.2.2.2.2.2.2.2.2))
   (none))
  (rec (x.1,x.2.1,x.2.2.1,x.2.2.2.1,(ah .i64 (x.2.2.2.2.1+1)),x.2.2.2.2.2.1,x.2.2.2.2.2.2.1,x.2.2.2.2.2.2.2.1,x.2.2.2.2.2.2.2.2.1,x.2.2.2.2.2.2.2.2.2.1,x.2.2.2.2.2.2.2.2.2.2)))
 (some (x.2.2.2.2.2.2.2.2.1,x.2.2.2.2.2.2.2.2.2.1,x.2.2.2.2.2.2.2.2.2.2))
def u9 (a0:jQ) (a1:jR) (a2:jQ) (a3:Int) (a4:jQ) (a5:jR) (a6:jQ) (a7:Int):Option (jR×jQ×jQ) :=
 (tw ([a1,a5]:List jR)).bind fun r10 =>
 (wK ([a2,a6]:List jQ)).bind fun r11 =>
 ((lp xP zd) (a3,a7,a0,((aa a0:Nat):Int),0,a4,a5,a6,r10,([]:jQ),r11)).bind fun r12 =>
 ((lp xJ zd) (a7,a4,((aa a4:Nat):Int),0,r12.1,r12.2.1,r12.2.2)).bind fun r13 =>
 some (r13.1,r13.2.1,r13.2.2)
def vA (rec:(Int×(List (Int×jI))×Int×Int)->Option (Unit⊕jI)) (x:(Int×(List (Int×jI))×Int×Int)):Option (Unit⊕jI) :=
 cond (decide (x.2.2.2<x.2.2.1))
 ((gx x.2.1 x.2.2.2).bind fun e2 =>
  cond (e2.1==x.1)
  (some (aD e2.2))
  (rec (x.1,x.2.1,x.2.2.1,(ah .i64 (x.2.2.2+1)))))
 (some (aS ()))
def jE (a0:(List (Int×jI))) (a1:Int):Option (Option jI) :=
 ((lp vA zd) (a1,a0,((aa a0:Nat):Int),0)).bind fun r6 =>
 yt r6
 (fun _z7=>some (none:(Option jI)))
 (fun z8=>(nn z8).bind fun p9 =>
  some (some p9))
def tO (rec:((List (Int×jI))×jI×Int×Int×jI)->Option jI) (x:((List (Int×jI))×jI×Int×Int×jI)):Option jI :=
 cond (decide (x.2.2.2.1<x.2.2.1))
 ((gx x.2.1 x.2.2.2.1).bind fun e10 =>
  (yj e10).bind fun r11 =>
  (jE x.1 r11).bind fun r12 =>
  cond (decide (e10≥0))
  (cond (y9 (aa x.2.2.2.2+aa ([e10]:List Int)) 8)
   (rec (x.1,x.2.1,x.2.2.1,(ah .i64 (x.2.2.2.1+1)),(x.2.2.2.2++([e10]:List Int))))
   (none))
  (cond (co r12)
   (cond (y9 (aa x.2.2.2.2+aa ([e10]:List Int)) 8)
    (rec (x.1,x.2.1,x.2.2.1,(ah .i64 (x.2.2.2.1+1)),(x.2.2.2.2++([e10]:List Int))))
    (none))
   (cond (y9 (aa x.2.2.2.2+aa (bS r12 [])) 8)
    (rec (x.1,x.2.1,x.2.2.1,(ah .i64 (x.2.2.2.1+1)),(x.2.2.2.2++(bS r12 []))))
    (none))))
 (some x.2.2.2.2)
def Qt (a0:(List (Int×jI))) (a1:jI):Option jI :=
 ((lp tO zd) (a0,a1,((aa a1:Nat):Int),0,([]:jI))).bind fun r14 =>
 some r14
def qO (a0:jI) (a1:(List (Int×jI))):Option jI :=
 (Qt a1 a0).bind fun r2 =>
 some r2
def wq (rec:(jQ×Int×Int×(List (Int×jI))×jQ×jR×jQ)->Option (jQ×jR×jQ)) (x:(jQ×Int×Int×(List (Int×jI))×jQ×jR×jQ)):Option (jQ×jR×jQ) :=
 cond (decide (x.2.2.1<x.2.1))
 ((gx x.1 x.2.2.1).bind fun e19 =>
  (qO e19.2 x.2.2.2.1).bind fun r20 =>
  cond (y9 (aa x.2.2.2.2.2.2+aa ([(e19.1,r20)]:List zg)) 32)
  (rec (x.1,x.2.1,(ah .i64 (x.2.2.1+1)),x.2.2.2.1,x.2.2.2.2.1,x.2.2.2.2.2.1,(x.2.2.2.2.2.2++([(e19.1,r20)]:List zg))))
  (none))
 (some (x.2.2.2.2.1,x.2.2.2.2.2.1,x.2.2.2.2.2.2))
def ww (rec:(jR×Int×Int×(List (Int×jI))×jQ×jR×jQ×jQ×jR)->Option (jQ×jR)) (x:(jR×Int×Int×(List (Int×jI))×jQ×jR×jQ×jQ×jR)):Option (jQ×jR) :=
 cond (decide (x.2.2.1<x.2.1))
 ((gx x.1 x.2.2.1).bind fun e12 =>
  (qO e12 x.2.2.2.1).bind fun r13 =>
  cond (y9 (aa x.2.2.2.2.2.2.2.2+aa ([r13]:List jI)) 24)
  (rec (x.1,x.2.1,(ah .i64 (x.2.2.1+1)),x.2.2.2.1,x.2.2.2.2.1,x.2.2.2.2.2.1,x.2.2.2.2.2.2.1,x.2.2.2.2.2.2.2.1,(x.2.2.2.2.2.2.2.2++([r13]:List jI))))
  (none))
 (some (x.2.2.2.2.2.2.2.1,x.2.2.2.2.2.2.2.2))
def wv (rec:(jQ×Int×Int×(List (Int×jI))×jQ×jR×jQ×jQ)->Option jQ) (x:(jQ×Int×Int×(List (Int×jI))×jQ×jR×jQ×jQ)):Option jQ :=
 cond (decide (x.2.2.1<x.2.1))
 ((gx x.1 x.2.2.1).bind fun e5 =>
  (qO e5.2 x.2.2.2.1).bind fun r6 =>
  cond (y9 (aa x.2.2.2.2.2.2.2+aa ([(e5.1,r6)]:List zg)) 32)
  (rec (x.1,x.2.1,(ah .i64 (x.2.2.1+1)),x.2.2.2.1,x.2.2.2.2.1,x.2.2.2.2.2.1,x.2.2.2.2.2.2.1,(x.2.2.2.2.2.2.2++([(e5.1,r6)]:List zg))))
  (none))
 (some x.2.2.2.2.2.2.2)
def Yq (a0:jQ) (a1:jR) (a2:jQ) (a3:(List (Int×jI))):Option (jQ×jR×jQ) :=
 ((lp wv zd) (a0,((aa a0:Nat):Int),0,a3,a0,a1,a2,([]:jQ))).bind fun r22 =>
 ((lp ww zd) (a1,((aa a1:Nat):Int),0,a3,a0,a1,a2,r22,([]:jR))).bind fun r23 =>
 ((lp wq zd) (a2,((aa a2:Nat):Int),0,a3,r23.1,r23.2,([]:jQ))).bind fun r24 =>
 some (r24.1,r24.2.1,r24.2.2)
def sZ (a0:(List (Int×jI))) (a1:jQ) (a2:jR) (a3:jQ):Option (jQ×jR×jQ) :=
 (Yq a1 a2 a3 a0).bind fun r2 =>
 some (r2.1,r2.2.1,r2.2.2)
def rT (a0:Bool) (a1:jI) (a2:jS):Option Bool :=
 (kr a2 a0 a1).bind fun r2 =>
 some (!r2)
def yL (rec:(jQ×Int×Int×jS)->Option (Unit⊕Int)) (x:(jQ×Int×Int×jS)):Option (Unit⊕Int) :=
 cond (decide (x.2.2.1<x.2.1))
 ((gx x.1 x.2.2.1).bind fun e3 =>
  (rT e3.1 e3.2 x.2.2.2).bind fun r4 =>
  cond r4
  (some (aD x.2.2.1))
  (rec (x.1,x.2.1,(ah .i64 (x.2.2.1+1)),x.2.2.2)))
 (some (aS ()))
def vV (a0:jQ) (a1:jS):Option Int :=
 ((lp yL zd) (a0,((aa a0:Nat):Int),0,a1)).bind fun r8 =>
 yt r8
 (fun _z9=>some (-1))
 (fun z10=>some z10)
def wH (a0:jQ) (a1:jS):Option Bool :=
 (vV a0 a1).bind fun r2 =>
 some (decide (r2≥0))
def tR (a0:jS) (a1:jI):Option Bool :=
 (ux a0 a1).bind fun r2 =>
 cond r2.1
 (some (((aa r2.2:Nat):Int)==1))
 (some false)
def wm (rec:(jI×Int×Int×jI)->Option jI) (x:(jI×Int×Int×jI)):Option jI :=
 cond (decide (x.2.2.1<x.2.1))
 ((gx x.1 x.2.2.1).bind fun e7 =>
  cond (decide (e7<0))
  ((yj e7).bind fun r8 =>
   (inR r8 24).bind fun k9 =>
   (x.2.2.2[k9]?).bind fun x10 =>
   (inR r8 24).bind fun k11 =>
   (x.2.2.2[k11]?).bind fun _x12 =>
   rec (x.1,x.2.1,(ah .i64 (x.2.2.1+1)),(cJ x.2.2.2 k11 (ah .i64 (x10+1)))))
  (rec (x.1,x.2.1,(ah .i64 (x.2.2.1+1)),x.2.2.2)))
 (some x.2.2.2)
def t6 (a0:jI):Option jI :=
 ((lp wm zd) (a0,((aa a0:Nat):Int),0,(ax 24 (0:Int)))).bind fun r14 =>
 cond (aw (aa r14) 24)
 (cond (aw (aa r14) 24)
  (cond (aw (aa r14) 24)
   (some r14)
   (none))
  (none))
 (none)
def qW (rec:(Int×jI×jI)->Option (Unit⊕Bool)) (x:(Int×jI×jI)):Option (Unit⊕Bool) :=
 cond (decide (x.1<24))
 ((inR x.1 24).bind fun k11 =>
  (x.2.1[k11]?).bind fun x12 =>
  (inR x.1 24).bind fun k13 =>
  (x.2.2[k13]?).bind fun x14 =>
  cond (decide (x12<x14))
  (some (aD false))
  (rec ((ah .i64 (x.1+1)),x.2.1,x.2.2)))
 (some (aS ()))
def sq (a0:jI) (a1:jI):Option Bool :=
 (t6 a0).bind fun r18 =>
 (t6 a1).bind fun r19 =>
 cond (aw (aa (ax 24 (0:Int))) 24)
 (cond (aw (aa (ax 24 (0:Int))) 24)
  (((lp qW zd) (0,r18,r19)).bind fun r20 =>
   yt r20
   (fun _z21=>some true)
   (fun z22=>some z22))
  (none))
 (none)
def uz (rec:(jS×Int×jI×Int×Int)->Option Int) (x:(jS×Int×jI×Int×Int)):Option Int :=
 cond (decide (x.2.2.2.2<x.2.2.2.1))
 ((gx x.2.2.1 x.2.2.2.2).bind fun e3 =>
  cond (decide (e3<0))
  (rec (x.1,(ah .i64 (x.2.1+1)),x.2.2.1,x.2.2.2.1,(ah .i64 (x.2.2.2.2+1))))
  ((gx x.1 e3).bind fun e4 =>
   rec (x.1,(ah .i64 (x.2.1+e4.2.2.2)),x.2.2.1,x.2.2.2.1,(ah .i64 (x.2.2.2.2+1)))))
 (some x.2.1)
def kc (a0:jS) (a1:jI):Option Int :=
 ((lp uz zd) (a0,0,a1,((aa a1:Nat):Int),0)).bind fun r6 =>
 some r6
def xV (rec:(jR×jR×Int×Int)->Option (Unit⊕(jI×jI))) (x:(jR×jR×Int×Int)):Option (Unit⊕(jI×jI)) :=
 cond (decide (x.2.2.2<x.2.2.1))
 ((gx x.2.1 x.2.2.2).bind fun e7 =>
  cond (decide (x.2.2.2<((aa x.1:Nat):Int)))
  ((gx x.1 x.2.2.2).bind fun e8 =>
   (zZ e7 e8).bind fun r9 =>
   cond (!r9)
   ((gx x.1 x.2.2.2).bind fun e10 =>
    some (aD (e7,e10)))
   (rec (x.1,x.2.1,x.2.2.1,(ah .i64 (x.2.2.2+1)))))
  (rec (x.1,x.2.1,x.2.2.1,(ah .i64 (x.2.2.2+1)))))
 (some (aS ()))
def jq (a0:jS) (a1:jI) (a2:jI):Option (jI×jI) :=
 (x9 a0 a2).bind fun r14 =>
 (x9 a0 a1).bind fun r15 =>
 ((lp xV zd) (r14,r15,((aa r15:Nat):Int),0)).bind fun r16 =>
 yt r16
 (fun _z17=>some (([]:jI),([]:jI)))
 (fun z18=>some (z18.1,z18.2))
def vW (rec:(jS×jI×jI)->Option (Unit⊕Bool)) (x:(jS×jI×jI)):Option (Unit⊕Bool) :=
 (((nn x.2.1).bind fun _ =>
  some false)).bind fun z23 =>
 cond (!z23)
 ((sq x.2.1 x.2.2).bind fun r24 =>
  cond r24
  ((kc x.1 x.2.1).bind fun r25 =>
   (kc x.1 x.2.2).bind fun r26 =>
   cond (r25 != r26)
   (some (aD (decide (r25>r26))))
   ((gx x.2.1 0).bind fun e27 =>
    (gx x.2.2 0).bind fun e28 =>
    cond (e27 != e28)
    ((gx x.2.1 0).bind fun e29 =>
     (gx x.2.2 0).bind fun e30 =>
     some (aD (decide (e29>e30))))
    ((vJ x.2.1 (some 1) none).bind fun y31 =>
     (vJ x.2.2 (some 1) none).bind fun y32 =>
     (jq x.1 y31 y32).bind fun r33 =>
     rec (x.1,r33.1,r33.2))))
  (some (aS ())))
 (some (aS ()))
def qT (a0:jS) (a1:jI) (a2:jI):Option Bool :=
 ((lp vW zd) (a0,a1,a2)).bind fun r37 =>
 yt r37
 (fun _z38=>some false)
 (fun z39=>some z39)
def vN (a0:jS) (a1:jI) (a2:jI):Option (Int×Int) :=
 (tR a0 a1).bind fun r19 =>
 cond r19
 ((tR a0 a2).bind fun r20 =>
  (wM a0 a1).bind fun r21 =>
  cond r21
  ((wM a0 a2).bind fun r22 =>
   cond (!r20)
   (cond (!r22)
    (some (0,600))
    ((zZ a1 a2).bind fun r23 =>
     cond r23
     (some (1,0))
     ((qT a0 a1 a2).bind fun r24 =>
      cond r24
      (some (2,0))
      ((qT a0 a2 a1).bind fun r25 =>
       cond r25
       (some (0,0))
       (some (3,0))))))
   ((zZ a1 a2).bind fun r26 =>
    cond r26
    (some (1,0))
    ((qT a0 a1 a2).bind fun r27 =>
     cond r27
     (some (2,0))
     ((qT a0 a2 a1).bind fun r28 =>
      cond r28
      (some (0,0))
      (some (3,0))))))
  (cond (!r20)
   (some (0,600))
   ((zZ a1 a2).bind fun r29 =>
    cond r29
    (some (1,0))
    ((qT a0 a1 a2).bind fun r30 =>
     cond r30
     (some (2,0))
     ((qT a0 a2 a1).bind fun r31 =>
      cond r31
      (some (0,0))
      (some (3,0)))))))
 ((wM a0 a1).bind fun r32 =>
  cond r32
  ((wM a0 a2).bind fun r33 =>
   cond (!r33)
   (some (0,600))
   ((zZ a1 a2).bind fun r34 =>
    cond r34
    (some (1,0))
    ((qT a0 a1 a2).bind fun r35 =>
     cond r35
     (some (2,0))
     ((qT a0 a2 a1).bind fun r36 =>
      cond r36
      (some (0,0))
      (some (3,0))))))
  (some (0,600)))
def kg (a0:jS) (a1:Bool) (a2:jI) (a3:Bool) (a4:jI):Option (Int×Int) :=
 (kr a0 a1 a2).bind fun r4 =>
 cond (!r4)
 (some (0,700))
 ((kr a0 a3 a4).bind fun r5 =>
  cond (!r5)
  (some (0,700))
  ((vN a0 a2 a4).bind fun r6 =>
   cond (r6.1 != 1)
   (some (r6.1,0))
   (cond (a1==a3)
    (some (r6.1,0))
    (cond a1
     (some (2,0))
     (some (0,0))))))
def rH (a0:Bool) (a1:jI) (a2:jS) (a3:Bool) (a4:jI):Option Bool :=
 (kg a2 a0 a1 a3 a4).bind fun r2 =>
 some (r2.1==2)
def yF (rec:(jQ×Int×Int×jS×Bool×jI)->Option (Unit⊕Int)) (x:(jQ×Int×Int×jS×Bool×jI)):Option (Unit⊕Int) :=
 cond (decide (x.2.2.1<x.2.1))
 ((gx x.1 x.2.2.1).bind fun e3 =>
  (rH e3.1 e3.2 x.2.2.2.1 x.2.2.2.2.1 x.2.2.2.2.2).bind fun r4 =>
  cond r4
  (some (aD x.2.2.1))
  (rec (x.1,x.2.1,(ah .i64 (x.2.2.1+1)),x.2.2.2.1,x.2.2.2.2.1,x.2.2.2.2.2)))
 (some (aS ()))
def vU (a0:jQ) (a1:jS) (a2:Bool) (a3:jI):Option Int :=
 ((lp yF zd) (a0,((aa a0:Nat):Int),0,a1,a2,a3)).bind fun r8 =>
 yt r8
 (fun _z9=>some (-1))
 (fun z10=>some z10)
def qx (a0:jQ) (a1:jS) (a2:Bool) (a3:jI):Option Bool :=
 (vU a0 a1 a2 a3).bind fun r2 =>
 some (decide (r2≥0))
def uu (rec:(jQ×jQ×Int×Int×jS×jI)->Option jI) (x:(jQ×jQ×Int×Int×jS×jI)):Option jI :=
 cond (decide (x.2.2.2.1<x.2.2.1))
 ((gx x.2.1 x.2.2.2.1).bind fun e7 =>
  (qx x.1 x.2.2.2.2.1 e7.1 e7.2).bind fun r8 =>
  cond (!r8)
  (cond (y9 (aa x.2.2.2.2.2+aa ([x.2.2.2.1]:List Int)) 8)
   (rec (x.1,x.2.1,x.2.2.1,(ah .i64 (x.2.2.2.1+1)),x.2.2.2.2.1,(x.2.2.2.2.2++([x.2.2.2.1]:List Int))))
   (none))
  (rec (x.1,x.2.1,x.2.2.1,(ah .i64 (x.2.2.2.1+1)),x.2.2.2.2.1,x.2.2.2.2.2)))
 (some x.2.2.2.2.2)
def Zr (a0:jS) (a1:jQ):Option (Int×jI) :=
 (Zs a0).bind fun r10 =>
 cond (!r10)
 (some (700,([]:jI)))
 ((wH a1 a0).bind fun r11 =>
  cond r11
  (some (700,([]:jI)))
  (((lp uu zd) (a1,a1,((aa a1:Nat):Int),0,a0,([]:jI))).bind fun r12 =>
   some (0,r12)))
def xQ (a0:jS) (a1:Bool) (a2:jI):Option Bool :=
 cond a1
 (some false)
 ((gx a2 0).bind fun e9 =>
  cond (e9 != 0)
  (some false)
  ((vJ a2 (some 1) none).bind fun y10 =>
   (x9 a0 y10).bind fun r11 =>
   (inR 0 (aa r11)).bind fun k12 =>
   (r11[k12]?).bind fun x13 =>
   (inR 1 (aa r11)).bind fun k14 =>
   (r11[k14]?).bind fun x15 =>
   (zZ x13 x15).bind fun r16 =>
   some r16))
def wW (a0:Bool) (a1:jI) (a2:Bool) (a3:jI):Option Bool :=
 cond (!(a2==a0))
 ((zZ a3 a1).bind fun r2 =>
  some r2)
 (some false)
def yH (rec:(jQ×Int×Int×Bool×jI)->Option (Unit⊕Int)) (x:(jQ×Int×Int×Bool×jI)):Option (Unit⊕Int) :=
 cond (decide (x.2.2.1<x.2.1))
 ((gx x.1 x.2.2.1).bind fun e3 =>
  (wW e3.1 e3.2 x.2.2.2.1 x.2.2.2.2).bind fun r4 =>
  cond r4
  (some (aD x.2.2.1))
  (rec (x.1,x.2.1,(ah .i64 (x.2.2.1+1)),x.2.2.2.1,x.2.2.2.2)))
 (some (aS ()))
def v7 (a0:jQ) (a1:Bool) (a2:jI):Option Int :=
 ((lp yH zd) (a0,((aa a0:Nat):Int),0,a1,a2)).bind fun r8 =>
 yt r8
 (fun _z9=>some (-1))
 (fun z10=>some z10)
def qp (a0:jQ) (a1:Bool) (a2:jI):Option Bool :=
 (v7 a0 a1 a2).bind fun r2 =>
 some (decide (r2≥0))
def qR (rec:(jS×jQ×Int×Int×jQ×jR×jQ)->Option (Unit⊕(Bool×Int))) (x:(jS×jQ×Int×Int×jQ×jR×jQ)):Option (Unit⊕(Bool×Int)) :=
 cond (decide (x.2.2.2.1<x.2.2.1))
 ((gx x.2.1 x.2.2.2.1).bind fun e5 =>
  (xQ x.1 e5.1 e5.2).bind fun r6 =>
  cond r6
  (some (aD (true,0)))
  ((qp x.2.2.2.2.1 e5.1 e5.2).bind fun r7 =>
   cond r7
   (some (aD (true,0)))
   (rec (x.1,x.2.1,x.2.2.1,(ah .i64 (x.2.2.2.1+1)),x.2.2.2.2.1,x.2.2.2.2.2.1,x.2.2.2.2.2.2))))
 (some (aS ()))
def wz (a0:jS) (a1:jQ) (a2:jR) (a3:jQ):Option (Bool×Int) :=
 (xf a0 a1 a2 a3).bind fun r11 =>
 cond (!r11)
 (some (false,800))
 (((lp qR zd) (a0,a1,((aa a1:Nat):Int),0,a1,a2,a3)).bind fun r12 =>
  yt r12
  (fun _z13=>some (false,0))
  (fun z14=>some (z14.1,z14.2)))
def qC (a0:Int) (a1:Int) (a2:Int) (a3:Int) (a4:Int) (a5:Int) (a6:Int) (_a7:jQ) (_a8:jR) (_a9:jQ) (a10:jQ) (a11:jR) (a12:jQ) (a13:Bool) (a14:Int) (a15:jS) (a16:Int) (a17:jT):Option (jS×Int×jT) :=
 cond (a14 != 0)
 (some (a15,(ah .i64 (a16+1)),a17))
 ((wz a15 a10 a11 a12).bind fun r2 =>
  cond (!a13)
  (some (a15,a16,a17))
  (cond r2.1
   (some (a15,a16,a17))
   (cond (y9 (aa a17+aa ([(a0,a1,a2,a3,a4,a5,a6,a10,a11,a12)]:List jU)) 128)
    (some (a15,a16,(a17++([(a0,a1,a2,a3,a4,a5,a6,a10,a11,a12)]:List jU))))
    (none))))
def uc (a0:Int) (a1:Int) (a2:Int) (a3:Int) (a4:Int) (a5:Int) (a6:Int) (a7:jQ) (a8:jR) (a9:jQ) (a10:Int) (a11:Int) (a12:Int) (a13:Int) (a14:Int) (a15:Int) (a16:Int) (a17:jQ) (a18:jR) (a19:jQ):Option Bool :=
 cond (a0==a10)
 (cond (a1==a11)
  (cond (a2==a12)
   (cond (a3==a13)
    (cond (a4==a14)
     (cond (a5==a15)
      (cond (a6==a16)
       ((yr a7 a8 a9 a17 a18 a19).bind fun r2 =>
        some r2)
       (some false))
      (some false))
     (some false))
    (some false))
   (some false))
  (some false))
 (some false)
def qU (rec:(jT×jT×Int)->Option (Unit⊕Bool)) (x:(jT×jT×Int)):Option (Unit⊕Bool) :=
 cond (decide (x.2.2<((aa x.1:Nat):Int)))
 ((gx x.1 x.2.2).bind fun e4 =>
  (gx x.2.1 x.2.2).bind fun e5 =>
  (uc e4.1 e4.2.1 e4.2.2.1 e4.2.2.2.1 e4.2.2.2.2.1 e4.2.2.2.2.2.1 e4.2.2.2.2.2.2.1 e4.2.2.2.2.2.2.2.1 e4.2.2.2.2.2.2.2.2.1 e4.2.2.2.2.2.2.2.2.2 e5.1 e5.2.1 e5.2.2.1 e5.2.2.2.1 e5.2.2.2.2.1 e5.2.2.2.2.2.1 e5.2.2.2.2.2.2.1 e5.2.2.2.2.2.2.2.1 e5.2.2.2.2.2.2.2.2.1 e5.2.2.2.2.2.2.2.2.2).bind fun r6 =>
  cond (!r6)
  (some (aD false))
  (rec (x.1,x.2.1,(ah .i64 (x.2.2+1)))))
 (some (aS ()))
def wr (a0:jT) (a1:jT):Option Bool :=
 cond (((aa a0:Nat):Int) != ((aa a1:Nat):Int))
 (some false)
 (((lp qU zd) (a0,a1,0)).bind fun r10 =>
  yt r10
  (fun _z11=>some true)
  (fun z12=>some z12))
def zB (s1:jR) (s6:Int) (s8:Int):List jI->Nat->(List (jI×Int×jI×Int))->Option (List (jI×Int×jI×Int))
 | [],_i,s4=>some s4
 | e::es,i,s4 =>
  (gx s1 (i:Int)).bind fun e8 =>
  cond (y9 (aa s4+aa ([(e,s6,e8,s8)]:List (jI×Int×jI×Int))) 64)
  (zB s1 s6 s8 es (i+1) (s4++([(e,s6,e8,s8)]:List (jI×Int×jI×Int))))
  (none)
theorem sg (s0:jR) (s1:jR) (s5:jI) (s6:Int) (s7:jI) (s8:Int) (s4:(List (jI×Int×jI×Int))) (hl:aa s0<=maxLen):lp yY zd (s0,s1,((aa s0:Nat):Int),0,s4,s5,s6,s7,s8)=zB s1 s6 s8 s0 0 s4:=wG yY (fun i s4=>(s0,s1,((aa s0:Nat):Int),i,s4,s5,s6,s7,s8)) (fun es i s4=>zB s1 s6 s8 es i s4) hl (fun r i s4 h=>by unfold yY zB; simp only[h,cond_false]) (fun r i s4 e es h g w k=>by unfold yY zB; simp only[h,cond_true,g,af,w,k]) s4
def zi (s0:Int) (s5:(List ((Option jI)×Int))) (s6:jI) (s7:Int):List Int->(List Bool)->(List (jI×Int))->Option (((List Bool)×(List (jI×Int)))⊕Bool)
 | [],s8,s9=>some (aS (s8,s9))
 | e::es,s8,s9 =>
  cond (decide (e≥0))
  (zi s0 s5 s6 s7 es s8 s9)
  ((ym s6 s7 e).bind fun r15 =>
   cond (r15==s0)
   (some (aD true))
   ((inR r15 48).bind fun k16 =>
    (s8[k16]?).bind fun x17 =>
    cond (!x17)
    ((inR r15 48).bind fun k18 =>
     (s5[k18]?).bind fun x19 =>
     cond (!(co x19.1))
     ((inR r15 48).bind fun k20 =>
      (s8[k20]?).bind fun _x21 =>
      (inR r15 48).bind fun k22 =>
      (s5[k22]?).bind fun x23 =>
      cond (y9 (aa s9+aa ([((bS x23.1 []),x23.2)]:List (jI×Int))) 32)
      (zi s0 s5 s6 s7 es (cJ s8 k20 true) (s9++([((bS x23.1 []),x23.2)]:List (jI×Int))))
      (none))
     (zi s0 s5 s6 s7 es s8 s9))
    (zi s0 s5 s6 s7 es s8 s9)))
theorem sn (s0:Int) (s1:jI) (s4:jS) (s5:(List ((Option jI)×Int))) (s6:jI) (s7:Int) (s8:(List Bool)) (s9:(List (jI×Int))) (hl:aa s1<=maxLen):lp qa zd (s0,s1,((aa s1:Nat):Int),0,s4,s5,s6,s7,s8,s9)=zi s0 s5 s6 s7 s1 s8 s9:=zas qa (fun i s8 s9=>(s0,s1,((aa s1:Nat):Int),i,s4,s5,s6,s7,s8,s9)) (fun es i s8 s9=>zi s0 s5 s6 s7 es s8 s9) hl (fun r i s8 s9 h=>by unfold qa zi; simp only[h,cond_false]) (fun r i s8 s9 e es h g w k=>by unfold qa zi; simp only[h,cond_true,g,af,w,k]) s8 s9
def yb:List jR->jR->Option jR
 | [],s3=>some s3
 | e::es,s3 =>
  cond (y9 (aa s3+aa e) 24)
  (yb es (s3++e))
  (none)
theorem rV (s0:(List jR)) (s3:jR) (hl:aa s0<=maxLen):lp xk zd (s0,((aa s0:Nat):Int),0,s3)=yb s0 s3:=wG xk (fun i s3=>(s0,((aa s0:Nat):Int),i,s3)) (fun es i s3=>yb es s3) hl (fun r i s3 h=>by unfold xk yb; simp only[h,cond_false]) (fun r i s3 e es h g w k=>by unfold xk yb; simp only[h,cond_true,g,af,w,k]) s3
def z1:List jR->Int->Option Int
 | [],s1=>some s1
 | e::es,s1 =>
  cond (decide ((ah .i64 (s1+((aa e:Nat):Int)))<0))
  (none)
  (z1 es (ah .i64 (s1+((aa e:Nat):Int))))
theorem kh (s0:(List jR)) (s2:(List jR)) (s1:Int) (hl:aa s2<=maxLen):lp xo zd (s0,s1,s2,((aa s2:Nat):Int),0)=z1 s2 s1:=wG xo (fun i s1=>(s0,s1,s2,((aa s2:Nat):Int),i)) (fun es i s1=>z1 es s1) hl (fun r i s1 h=>by unfold xo z1; simp only[h,cond_false]) (fun r i s1 e es h g w k=>by unfold xo z1; simp only[h,cond_true,g,af,w,k]) s1
def zM:List jQ->jQ->Option jQ
 | [],s3=>some s3
 | e::es,s3 =>
  cond (y9 (aa s3+aa e) 32)
  (zM es (s3++e))
  (none)
theorem sO (s0:(List jQ)) (s3:jQ) (hl:aa s0<=maxLen):lp qA zd (s0,((aa s0:Nat):Int),0,s3)=zM s0 s3:=wG qA (fun i s3=>(s0,((aa s0:Nat):Int),i,s3)) (fun es i s3=>zM es s3) hl (fun r i s3 h=>by unfold qA zM; simp only[h,cond_false]) (fun r i s3 e es h g w k=>by unfold qA zM; simp only[h,cond_true,g,af,w,k]) s3
def zN:List jQ->Int->Option Int
 | [],s1=>some s1
 | e::es,s1 =>
  cond (decide ((ah .i64 (s1+((aa e:Nat):Int)))<0))
  (none)
  (zN es (ah .i64 (s1+((aa e:Nat):Int))))
theorem sR (s0:(List jQ)) (s2:(List jQ)) (s1:Int) (hl:aa s2<=maxLen):lp qD zd (s0,s1,s2,((aa s2:Nat):Int),0)=zN s2 s1:=wG qD (fun i s1=>(s0,s1,s2,((aa s2:Nat):Int),i)) (fun es i s1=>zN es s1) hl (fun r i s1 h=>by unfold qD zN; simp only[h,cond_false]) (fun r i s1 e es h g w k=>by unfold qD zN; simp only[h,cond_true,g,af,w,k]) s1
def zV (s0:Int) (s4:jR) (s6:jQ):List zg->Nat->jQ->Option (jR×jQ×jQ)
 | [],_i,s5=>some (s4,s5,s6)
 | e::es,i,s5 =>
  cond ((i:Int) != s0)
  (cond (y9 (aa s5+aa ([(e.1,e.2)]:List zg)) 32)
   (zV s0 s4 s6 es (i+1) (s5++([(e.1,e.2)]:List zg)))
   (none))
  (zV s0 s4 s6 es (i+1) s5)
theorem k4 (s0:Int) (s1:jQ) (s4:jR) (s6:jQ) (s5:jQ) (hl:aa s1<=maxLen):lp xJ zd (s0,s1,((aa s1:Nat):Int),0,s4,s5,s6)=zV s0 s4 s6 s1 0 s5:=wG xJ (fun i s5=>(s0,s1,((aa s1:Nat):Int),i,s4,s5,s6)) (fun es i s5=>zV s0 s4 s6 es i s5) hl (fun r i s5 h=>by unfold xJ zV; simp only[h,cond_false]) (fun r i s5 e es h g w k=>by unfold xJ zV; simp only[h,cond_true,g,af,w,k]) s5
def zT (s0:Int) (s8:jR) (s10:jQ):List zg->Nat->jQ->Option (jR×jQ×jQ)
 | [],_i,s9=>some (s8,s9,s10)
 | e::es,i,s9 =>
  cond ((i:Int) != s0)
  (cond (y9 (aa s9+aa ([(e.1,e.2)]:List zg)) 32)
   (zT s0 s8 s10 es (i+1) (s9++([(e.1,e.2)]:List zg)))
   (none))
  (zT s0 s8 s10 es (i+1) s9)
theorem kW (s0:Int) (s1:Int) (s2:jQ) (s5:jQ) (s6:jR) (s7:jQ) (s8:jR) (s10:jQ) (s9:jQ) (hl:aa s2<=maxLen):lp xP zd (s0,s1,s2,((aa s2:Nat):Int),0,s5,s6,s7,s8,s9,s10)=zT s0 s8 s10 s2 0 s9:=wG xP (fun i s9=>(s0,s1,s2,((aa s2:Nat):Int),i,s5,s6,s7,s8,s9,s10)) (fun es i s9=>zT s0 s8 s10 es i s9) hl (fun r i s9 h=>by unfold xP zT; simp only[h,cond_false]) (fun r i s9 e es h g w k=>by unfold xP zT; simp only[h,cond_true,g,af,w,k]) s9
def q5 (s0:Int):List (Int×jI)->Option (Unit⊕jI)
 | []=>some (aS ())
 | e::es =>
  cond (e.1==s0)
  (some (aD e.2))
  (q5 s0 es)
theorem Z3 (s0:Int) (s1:(List (Int×jI))) (hl:aa s1<=maxLen):lp vA zd (s0,s1,((aa s1:Nat):Int),0)=q5 s0 s1:=u3 vA (fun i=>(s0,s1,((aa s1:Nat):Int),i)) (fun es i=>q5 s0 es) hl (fun r i h=>by unfold vA q5; simp only[h,cond_false]) (fun r i e es h g w k=>by unfold vA q5; simp only[h,cond_true,g,af,w,k])
def qg (s0:(List (Int×jI))):List Int->jI->Option jI
 | [],s4=>some s4
 | e::es,s4 =>
  (yj e).bind fun r11 =>
  (jE s0 r11).bind fun r12 =>
  cond (decide (e≥0))
  (cond (y9 (aa s4+aa ([e]:List Int)) 8)
   (qg s0 es (s4++([e]:List Int)))
   (none))
  (cond (co r12)
   (cond (y9 (aa s4+aa ([e]:List Int)) 8)
    (qg s0 es (s4++([e]:List Int)))
    (none))
   (cond (y9 (aa s4+aa (bS r12 [])) 8)
    (qg s0 es (s4++(bS r12 [])))
    (none)))
theorem Qy (s0:(List (Int×jI))) (s1:jI) (s4:jI) (hl:aa s1<=maxLen):lp tO zd (s0,s1,((aa s1:Nat):Int),0,s4)=qg s0 s1 s4:=wG tO (fun i s4=>(s0,s1,((aa s1:Nat):Int),i,s4)) (fun es i s4=>qg s0 es s4) hl (fun r i s4 h=>by unfold tO qg; simp only[h,cond_false]) (fun r i s4 e es h g w k=>by unfold tO qg; simp only[h,cond_true,g,af,w,k]) s4
def yI (s3:(List (Int×jI))) (s4:jQ) (s5:jR):List zg->jQ->Option (jQ×jR×jQ)
 | [],s6=>some (s4,s5,s6)
 | e::es,s6 =>
  (qO e.2 s3).bind fun r20 =>
  cond (y9 (aa s6+aa ([(e.1,r20)]:List zg)) 32)
  (yI s3 s4 s5 es (s6++([(e.1,r20)]:List zg)))
  (none)
theorem jX (s0:jQ) (s3:(List (Int×jI))) (s4:jQ) (s5:jR) (s6:jQ) (hl:aa s0<=maxLen):lp wq zd (s0,((aa s0:Nat):Int),0,s3,s4,s5,s6)=yI s3 s4 s5 s0 s6:=wG wq (fun i s6=>(s0,((aa s0:Nat):Int),i,s3,s4,s5,s6)) (fun es i s6=>yI s3 s4 s5 es s6) hl (fun r i s6 h=>by unfold wq yI; simp only[h,cond_false]) (fun r i s6 e es h g w k=>by unfold wq yI; simp only[h,cond_true,g,af,w,k]) s6
def yE (s3:(List (Int×jI))) (s7:jQ):List jI->jR->Option (jQ×jR)
 | [],s8=>some (s7,s8)
 | e::es,s8 =>
  (qO e s3).bind fun r13 =>
  cond (y9 (aa s8+aa ([r13]:List jI)) 24)
  (yE s3 s7 es (s8++([r13]:List jI)))
  (none)
theorem jF (s0:jR) (s3:(List (Int×jI))) (s4:jQ) (s5:jR) (s6:jQ) (s7:jQ) (s8:jR) (hl:aa s0<=maxLen):lp ww zd (s0,((aa s0:Nat):Int),0,s3,s4,s5,s6,s7,s8)=yE s3 s7 s0 s8:=wG ww (fun i s8=>(s0,((aa s0:Nat):Int),i,s3,s4,s5,s6,s7,s8)) (fun es i s8=>yE s3 s7 es s8) hl (fun r i s8 h=>by unfold ww yE; simp only[h,cond_false]) (fun r i s8 e es h g w k=>by unfold ww yE; simp only[h,cond_true,g,af,w,k]) s8
def yG (s3:(List (Int×jI))):List zg->jQ->Option jQ
 | [],s7=>some s7
 | e::es,s7 =>
  (qO e.2 s3).bind fun r6 =>
  cond (y9 (aa s7+aa ([(e.1,r6)]:List zg)) 32)
  (yG s3 es (s7++([(e.1,r6)]:List zg)))
  (none)
theorem jH (s0:jQ) (s3:(List (Int×jI))) (s4:jQ) (s5:jR) (s6:jQ) (s7:jQ) (hl:aa s0<=maxLen):lp wv zd (s0,((aa s0:Nat):Int),0,s3,s4,s5,s6,s7)=yG s3 s0 s7:=wG wv (fun i s7=>(s0,((aa s0:Nat):Int),i,s3,s4,s5,s6,s7)) (fun es i s7=>yG s3 es s7) hl (fun r i s7 h=>by unfold wv yG; simp only[h,cond_false]) (fun r i s7 e es h g w k=>by unfold wv yG; simp only[h,cond_true,g,af,w,k]) s7
def zH (s3:jS):List zg->Nat->Option (Unit⊕Int)
 | [],_i=>some (aS ())
 | e::es,i =>
  (rT e.1 e.2 s3).bind fun r4 =>
  cond r4
  (some (aD (i:Int)))
  (zH s3 es (i+1))
theorem tC (s0:jQ) (s3:jS) (hl:aa s0<=maxLen):lp yL zd (s0,((aa s0:Nat):Int),0,s3)=zH s3 s0 0:=u3 yL (fun i=>(s0,((aa s0:Nat):Int),i,s3)) (fun es i=>zH s3 es i) hl (fun r i h=>by unfold yL zH; simp only[h,cond_false]) (fun r i e es h g w k=>by unfold yL zH; simp only[h,cond_true,g,af,w,k])
def yK:List Int->jI->Option jI
 | [],s3=>some s3
 | e::es,s3 =>
  cond (decide (e<0))
  ((yj e).bind fun r8 =>
   (inR r8 24).bind fun k9 =>
   (s3[k9]?).bind fun x10 =>
   (inR r8 24).bind fun k11 =>
   (s3[k11]?).bind fun _x12 =>
   yK es (cJ s3 k11 (ah .i64 (x10+1))))
  (yK es s3)
theorem jV (s0:jI) (s3:jI) (hl:aa s0<=maxLen):lp wm zd (s0,((aa s0:Nat):Int),0,s3)=yK s0 s3:=wG wm (fun i s3=>(s0,((aa s0:Nat):Int),i,s3)) (fun es i s3=>yK es s3) hl (fun r i s3 h=>by unfold wm yK; simp only[h,cond_false]) (fun r i s3 e es h g w k=>by unfold wm yK; simp only[h,cond_true,g,af,w,k]) s3
def yO (s0:jS):List Int->Int->Option Int
 | [],s1=>some s1
 | e::es,s1 =>
  cond (decide (e<0))
  (yO s0 es (ah .i64 (s1+1)))
  ((gx s0 e).bind fun e4 =>
   yO s0 es (ah .i64 (s1+e4.2.2.2)))
theorem sG (s0:jS) (s2:jI) (s1:Int) (hl:aa s2<=maxLen):lp uz zd (s0,s1,s2,((aa s2:Nat):Int),0)=yO s0 s2 s1:=wG uz (fun i s1=>(s0,s1,s2,((aa s2:Nat):Int),i)) (fun es i s1=>yO s0 es s1) hl (fun r i s1 h=>by unfold uz yO; simp only[h,cond_false]) (fun r i s1 e es h g w k=>by unfold uz yO; simp only[h,cond_true,g,af,w,k]) s1
def yo (s0:jR):List jI->Nat->Option (Unit⊕(jI×jI))
 | [],_i=>some (aS ())
 | e::es,i =>
  cond (decide ((i:Int)<((aa s0:Nat):Int)))
  ((gx s0 (i:Int)).bind fun e8 =>
   (zZ e e8).bind fun r9 =>
   cond (!r9)
   ((gx s0 (i:Int)).bind fun e10 =>
    some (aD (e,e10)))
   (yo s0 es (i+1)))
  (yo s0 es (i+1))
theorem ja (s0:jR) (s1:jR) (hl:aa s1<=maxLen):lp xV zd (s0,s1,((aa s1:Nat):Int),0)=yo s0 s1 0:=u3 xV (fun i=>(s0,s1,((aa s1:Nat):Int),i)) (fun es i=>yo s0 es i) hl (fun r i h=>by unfold xV yo; simp only[h,cond_false]) (fun r i e es h g w k=>by unfold xV yo; simp only[h,cond_true,g,af,w,k])
def zI (s3:jS) (s4:Bool) (s5:jI):List zg->Nat->Option (Unit⊕Int)
 | [],_i=>some (aS ())
 | e::es,i =>
  (rH e.1 e.2 s3 s4 s5).bind fun r4 =>
  cond r4
  (some (aD (i:Int)))
  (zI s3 s4 s5 es (i+1))
theorem tE (s0:jQ) (s3:jS) (s4:Bool) (s5:jI) (hl:aa s0<=maxLen):lp yF zd (s0,((aa s0:Nat):Int),0,s3,s4,s5)=zI s3 s4 s5 s0 0:=u3 yF (fun i=>(s0,((aa s0:Nat):Int),i,s3,s4,s5)) (fun es i=>zI s3 s4 s5 es i) hl (fun r i h=>by unfold yF zI; simp only[h,cond_false]) (fun r i e es h g w k=>by unfold yF zI; simp only[h,cond_true,g,af,w,k])
def qh (s0:jQ) (s4:jS):List zg->Nat->jI->Option jI
 | [],_i,s5=>some s5
 | e::es,i,s5 =>
  (qx s0 s4 e.1 e.2).bind fun r8 =>
  cond (!r8)
  (cond (y9 (aa s5+aa ([(i:Int)]:List Int)) 8)
   (qh s0 s4 es (i+1) (s5++([(i:Int)]:List Int)))
   (none))
  (qh s0 s4 es (i+1) s5)
theorem YB (s0:jQ) (s1:jQ) (s4:jS) (s5:jI) (hl:aa s1<=maxLen):lp uu zd (s0,s1,((aa s1:Nat):Int),0,s4,s5)=qh s0 s4 s1 0 s5:=wG uu (fun i s5=>(s0,s1,((aa s1:Nat):Int),i,s4,s5)) (fun es i s5=>qh s0 s4 es i s5) hl (fun r i s5 h=>by unfold uu qh; simp only[h,cond_false]) (fun r i s5 e es h g w k=>by unfold uu qh; simp only[h,cond_true,g,af,w,k]) s5
def zG (s3:Bool) (s4:jI):List zg->Nat->Option (Unit⊕Int)
 | [],_i=>some (aS ())
 | e::es,i =>
  (wW e.1 e.2 s3 s4).bind fun r4 =>
  cond r4
  (some (aD (i:Int)))
  (zG s3 s4 es (i+1))
theorem tu (s0:jQ) (s3:Bool) (s4:jI) (hl:aa s0<=maxLen):lp yH zd (s0,((aa s0:Nat):Int),0,s3,s4)=zG s3 s4 s0 0:=u3 yH (fun i=>(s0,((aa s0:Nat):Int),i,s3,s4)) (fun es i=>zG s3 s4 es i) hl (fun r i h=>by unfold yH zG; simp only[h,cond_false]) (fun r i e es h g w k=>by unfold yH zG; simp only[h,cond_true,g,af,w,k])
def yh (s0:jS) (s4:jQ):List zg->Option (Unit⊕(Bool×Int))
 | []=>some (aS ())
 | e::es =>
  (xQ s0 e.1 e.2).bind fun r6 =>
  cond r6
  (some (aD (true,0)))
  ((qp s4 e.1 e.2).bind fun r7 =>
   cond r7
   (some (aD (true,0)))
   (yh s0 s4 es))
theorem rj (s0:jS) (s1:jQ) (s4:jQ) (s5:jR) (s6:jQ) (hl:aa s1<=maxLen):lp qR zd (s0,s1,((aa s1:Nat):Int),0,s4,s5,s6)=yh s0 s4 s1:=u3 qR (fun i=>(s0,s1,((aa s1:Nat):Int),i,s4,s5,s6)) (fun es i=>yh s0 s4 es) hl (fun r i h=>by unfold qR yh; simp only[h,cond_false]) (fun r i e es h g w k=>by unfold qR yh; simp only[h,cond_true,g,af,w,k])
def yi (s1:jT):List jU->Nat->Option (Unit⊕Bool)
 | [],_i=>some (aS ())
 | e::es,i =>
  (gx s1 (i:Int)).bind fun e5 =>
  (uc e.1 e.2.1 e.2.2.1 e.2.2.2.1 e.2.2.2.2.1 e.2.2.2.2.2.1 e.2.2.2.2.2.2.1 e.2.2.2.2.2.2.2.1 e.2.2.2.2.2.2.2.2.1 e.2.2.2.2.2.2.2.2.2 e5.1 e5.2.1 e5.2.2.1 e5.2.2.2.1 e5.2.2.2.2.1 e5.2.2.2.2.2.1 e5.2.2.2.2.2.2.1 e5.2.2.2.2.2.2.2.1 e5.2.2.2.2.2.2.2.2.1 e5.2.2.2.2.2.2.2.2.2).bind fun r6 =>
  cond (!r6)
  (some (aD false))
  (yi s1 es (i+1))
theorem sV (s0:jT) (s1:jT) (hl:aa s0<=maxLen):lp qU zd (s0,s1,0)=yi s1 s0 0:=u3 qU (fun i=>(s0,s1,i)) (fun es i=>yi s1 es i) hl (fun r i h=>by unfold qU yi; simp only[h,cond_false]) (fun r i e es h g w k=>by unfold qU yi; simp only[h,cond_true,g,af,w,k])
theorem kG {xs:List Int} (h:xs.length<=1099511627776):wR xs=some xs:=by
 unfold wR ji;simp only[cr,cond_false,bm,bH,aL,bG];rw[zy (show xs.length*8<=140737488351232 by omega)]
 rfl
theorem DE (ys:List Int):(es:List Int)->(i:Nat)->es.length=(ys.drop i).length->yP ys es i=some (cond (decide (es=ys.drop i)) (.inl ()) (.inr false))
 | [],i,h=>by
  have:ys.drop i=[]:=List.eq_nil_of_length_eq_zero h.symm;rw[this]; rfl
 | e::es,i,h=>by
  cases hd:ys.drop i with
  | nil=>rw[hd] at h; simp at h
  | cons y r =>
   have hn:=zm hd;have:=DE ys es (i+1) (by rw[hn]; rw[hd] at h; simpa using h)
   unfold yP;simp only[qJ,zv hd,af,this,hn];by_cases he:e=y
   ·subst he;simp
   ·have h1:(e != y)=true:=by simpa using he
    simp [h1,he]
theorem xK {xs ys:List Int} (h:xs.length<=maxLen):zZ xs ys=some (decide (xs=ys)):=by
 unfold zZ;by_cases hl:xs.length=ys.length
 ·rw[show (((aa xs:Nat):Int) != ((aa ys:Nat):Int))=false from by simp [hl],cond_false,jf _ _ h,DE ys xs 0 hl,bV]
  cases decide (xs=ys)<;>rfl
 ·rw[show (((aa xs:Nat):Int) != ((aa ys:Nat):Int))=true from by simp; omega,cond_true,decide_eq_false (by intro h; subst h; exact hl rfl)]
theorem Iu {a b:Bool} {xs ys:List Int} (h:xs.length<=maxLen):XB a xs b ys=some (decide ((a,xs)=(b,ys))):=by
 unfold XB;cases hab:(a==b) with
 | false =>
  have:a≠b:=by simpa using hab
  simp [this]
 | true =>
  have:a=b:=by simpa using hab
  subst this;rw[cond_true,xK h];simp
theorem DC (l:zg) (hl:l.2.length<=maxLen):(es:List zg)->(i:Nat)->∃ r,zS l.1 l.2 es i=some r∧(l∈es->∃ j:Nat,r = .inr (j:Int))∧(l∉es->r = .inl ())
 | [],i=>⟨.inl (),rfl,(fun h=>by cases h),fun _=>rfl⟩
 | e::es,i=>by
  unfold zS uQ;rw[Iu hl];simp only[af];by_cases he:(l.1,l.2)=(e.1,e.2)
  ·rw[decide_eq_true he,cond_true];have he':l=e:=he;exact ⟨_,rfl,fun _=>⟨i,rfl⟩,fun h=>absurd (aI.2 (.inl he')) h⟩
  ·rw[decide_eq_false he,cond_false];obtain⟨r,h1,h2,h3⟩:=DC l hl es (i+1);have he':l≠e:=he;refine ⟨r,h1,fun h=>h2 ?_,fun h=>h3 fun h'=>h (ai _ h')⟩;rcases aI.1 h with h | h
   ·exact absurd h he'
   ·exact h
theorem kX {l:zg} {es:List zg} (hl:l.2.length<=maxLen) (h:es.length<=maxLen):q9 es l.1 l.2=some (decide (l∈es)):=by
 unfold q9 tl;rw[sj _ _ _ h];obtain⟨r,h1,h2,h3⟩:=DC l hl es 0;rw[h1];by_cases hm:l∈es
 ·obtain⟨j,rfl⟩:=h2 hm;simp [yt,hm]
 ·rw[h3 hm];simp [yt,hm]
def zF {α:Type} [DecidableEq α]:List α->List α->List α
 | [],out=>out
 | e::es,out=>cond (decide (e∈out)) (zF es out) (zF es (out++[e]))
theorem xv {α:Type} [DecidableEq α]:(es out:List α)->(zF es out).length<=out.length+es.length
 | [],out=>by simp [zF]
 | e::es,out=>by
  unfold zF;cases decide (e∈out) with
  | true=>have:=xv es out; simp only[cond_true,au]; omega
  | false=>have:=xv es (out++[e]); simp only[cond_false,au,az,bH] at this ⊢; omega
theorem qr {α:Type} [DecidableEq α] {x:α}:(es out:List α)->(x∈zF es out↔x∈out∨x∈es)
 | [],out=>by simp [zF]
 | e::es,out=>by
  unfold zF;by_cases h:e∈out
  ·rw[decide_eq_true h,cond_true,qr es out,aI];constructor
   ·rintro (h1 | h1)
    ·exact .inl h1
    ·exact .inr (.inr h1)
   ·rintro (h1 | rfl | h1)
    ·exact .inl h1
    ·exact .inl h
    ·exact .inr h1
  ·rw[decide_eq_false h,cond_false,qr es (out++[e])];simp only[List.mem_append,aI,List.not_mem_nil,or_false];constructor
   ·rintro ((h1 | h1) | h1)
    ·exact .inl h1
    ·exact .inr (.inl h1)
    ·exact .inr (.inr h1)
   ·rintro (h1 | h1 | h1)
    ·exact .inl (.inl h1)
    ·exact .inl (.inr h1)
    ·exact .inr h1
theorem G3:(es out:List zg)->(∀ e∈es,e.2.length<=maxLen)->out.length+es.length<=1000000->yM es out=some (zF es out)
 | [],out,_,_=>rfl
 | e::es,out,h,hl=>by
  have h1:=h e (am ..);have hl':out.length+(es.length+1)<=1000000:=hl;unfold yM zF;rw[kX h1 (by unfold maxLen; omega),af]
  by_cases hm:e∈out
  ·simp only[hm,decide_true,aH,cond_false,cond_true];exact G3 es out (fun x hx=>h x (ai _ hx)) (by omega)
  ·simp only[hm,decide_false,bM,cond_false,cond_true];rw[zy (show (out.length+([(e.1,e.2)]:List zg).length)*32<=140737488351232 by simp; omega),cond_true]
   exact G3 es (out++[e]) (fun x hx=>h x (ai _ hx)) (by simp; omega)
theorem ZL {es:List zg} (h:∀ e∈es,e.2.length<=maxLen) (hl:es.length<=1000000):tU es=some (zF es []):=by
 unfold tU;rw[Ze _ _ (by unfold maxLen; omega),G3 es [] h (by simpa using hl)]
 rfl
theorem Dj (l:List Int) (hl:l.length<=maxLen):(es:List jI)->(i:Nat)->∃ r,zJ l es i=some r∧(l∈es->∃ j:Nat,r = .inr (j:Int))∧(l∉es->r = .inl ())
 | [],i=>⟨.inl (),rfl,(fun h=>by cases h),fun _=>rfl⟩
 | e::es,i=>by
  unfold zJ uP;rw[xK hl];simp only[af];by_cases he:l=e
  ·rw[decide_eq_true he,cond_true];exact ⟨_,rfl,fun _=>⟨i,rfl⟩,fun h=>absurd (aI.2 (.inl he)) h⟩
  ·rw[decide_eq_false he,cond_false];obtain⟨r,h1,h2,h3⟩:=Dj l hl es (i+1);refine ⟨r,h1,fun h=>h2 ?_,fun h=>h3 fun h'=>h (ai _ h')⟩;rcases aI.1 h with h | h
   ·exact absurd h he
   ·exact h
theorem rk {l:List Int} {es:List jI} (hl:l.length<=maxLen) (h:es.length<=maxLen):qy es l=some (decide (l∈es)):=by
 unfold qy vP;rw[tG _ _ h];obtain⟨r,h1,h2,h3⟩:=Dj l hl es 0;rw[h1];by_cases hm:l∈es
 ·obtain⟨j,rfl⟩:=h2 hm;simp [yt,hm]
 ·rw[h3 hm];simp [yt,hm]
theorem G5 (s3 s4:List zg):(es out:List jI)->(∀ e∈es,e.length<=maxLen)->out.length+es.length<=1000000->yD s3 s4 es out=some (s3,s4,zF es out)
 | [],out,_,_=>rfl
 | e::es,out,h,hl=>by
  have h1:=h e (am ..);have hl':out.length+(es.length+1)<=1000000:=hl;unfold yD zF;rw[rk h1 (by unfold maxLen; omega),af]
  by_cases hm:e∈out
  ·simp only[hm,decide_true,aH,cond_false,cond_true];exact G5 s3 s4 es out (fun x hx=>h x (ai _ hx)) (by omega)
  ·simp only[hm,decide_false,bM,cond_false,cond_true];rw[zy (show (out.length+([e]:List jI).length)*24<=140737488351232 by simp; omega),cond_true]
   exact G5 s3 s4 es (out++[e]) (fun x hx=>h x (ai _ hx)) (by simp; omega)
def Xy (s:List Int×Int) (c:Int):Int×(List Int×Int) :=
 cond (decide (c≥0)) (c,s) (cond (s.1.getD (-1 - c).toNat 0==0) (-(s.2+1),(s.1.set (-1 - c).toNat (s.2+1),s.2+1)) (-(s.1.getD (-1 - c).toNat 0),s))
def tq:List Int×Int->List Int->List Int×(List Int×Int)
 | s,[]=>([],s)
 | s,c::cs=>((Xy s c).1::(tq (Xy s c).2 cs).1,(tq (Xy s c).2 cs).2)
theorem KM:(s:List Int×Int)->(cs:List Int)->(tq s cs).1.length=cs.length
 | _,[]=>rfl
 | s,c::cs=>by simp [tq,KM (Xy s c).2 cs]
structure RenOk (s:List Int×Int) (b:Int):Prop where
 len:s.1.length=24
 lo:0<=s.2
 hi:s.2<=b
 all:∀ x∈s.1,0<=x∧x<=s.2
theorem RenOk.more {s:List Int×Int} {b b':Int} (h:RenOk s b) (hb:b<=b'):RenOk s b':=⟨h.len,h.lo,Int.le_trans h.hi hb,h.all⟩
theorem RenOk.get {s:List Int×Int} {b:Int} (h:RenOk s b) (v:Nat):0<=s.1.getD v 0∧s.1.getD v 0<=s.2:=by
 have h0:=h.lo;rw[aA];cases hv:s.1[v]? with
 | none=>exact ⟨dP _,h0⟩
 | some x=>exact h.all x (List.mem_of_getElem? hv)
theorem Fo {s:List Int×Int} {b:Int} (h:RenOk s b) (c:Int):RenOk (Xy s c).2 (b+1):=by
 unfold Xy;cases decide (c≥0) with
 | true=>exact h.more (by omega)
 | false =>
  rw[cond_false];cases (s.1.getD (-1 - c).toNat 0==0) with
  | false=>exact h.more (by omega)
  | true =>
   refine ⟨by simpa using h.len,by have:=h.lo; simp; omega,by have:=h.hi; simp; omega,fun x hx => ?_⟩
   simp only[cond_true] at hx ⊢;rcases List.mem_or_eq_of_mem_set hx with hx | rfl
   ·have:=h.all x hx; omega
   ·have:=h.lo; omega
theorem ZW:{s:List Int×Int}->{b:Int}->(cs:List Int)->RenOk s b->RenOk (tq s cs).2 (b+cs.length)
 | s,b,[],h=>by simpa[tq] using h
 | s,b,c::cs,h=>by
  have:=ZW cs (Fo h c);simp only[tq,au];exact this.more (by omega)
theorem Fu {α:Type} (done es:List α) (e x:α):(done++e::es).set done.length x=done++x::es:=by
 rw[List.set_append_right _ _ (aE _),ej];rfl
theorem Iq {α:Type} (done es:List α) (e:α):(done++e::es)[done.length]? = some e:=by
 rw[List.getElem?_append_right (aE _),ej];rfl
theorem JJ:(es done:List Int)->(s:List Int×Int)->(k:Nat)->es.length<k->done.length+es.length<=1000000->RenOk s 1000000->s.2+es.length<=1000000->(∀ c∈es,-24<=c) ->
  lp yA k (((done.length+es.length:Nat):Int),(done.length:Int),s.1,s.2,done++es)=some ((tq s es).2.1,(tq s es).2.2,done++(tq s es).1)
 | [],done,s,k,hk,hl,hs,hb,hc=>by
  obtain⟨k,rfl⟩:∃ k',k=k'+1:=⟨k - 1,by omega⟩
  rw[zK];generalize lp yA k=rec;unfold yA;simp [tq]
 | e::es,done,s,k,hk,hl,hs,hb,hc=>by
  obtain⟨k,rfl⟩:∃ k',k=k'+1:=⟨k - 1,by omega⟩
  rw[zK];have he:=hc e (am ..);have hl':done.length+(es.length+1)<=1000000:=hl;have hb':s.2+((es.length+1:Nat):Int)<=1000000:=hb;have key:=fun (e':Int) (s':List Int×Int) (hs':RenOk s' 1000000) (hb2:s'.2+es.length<=1000000)=>JJ es (done++[e']) s' k (cn hk) (by simp; omega) hs' hb2 (fun c hx=>hc c (ai _ hx))
  generalize lp yA k=rec at key ⊢;unfold yA;have e1:decide (((done.length:Nat):Int)<((done.length+(e::es).length:Nat):Int))=true:=by rw[decide_eq_true_eq,au]; omega
  have e2:inR ((done.length:Nat):Int) (aa (done++e::es))=some done.length:=xb (by simp)
  have e3:ah .i64 (((done.length:Nat):Int)+1)=((done.length+1:Nat):Int):=by rw[zC]<;>omega
  have key2:=fun (e':Int) (s':List Int×Int) (hs':RenOk s' 1000000) (hb2:s'.2+es.length<=1000000)=>by
   have:=key e' s' hs' hb2;rw[List.append_assoc,az,aX,bz,cH 1 es.length] at this;exact this
  simp only[e1,cond_true,e2,af,Iq,e3];by_cases h0:e≥0
  ·have hr:Xy s e=(e,s):=by unfold Xy; rw[decide_eq_true h0]; rfl
   rw[decide_eq_true h0,cond_true];have:=key2 e s hs (by omega)
   simp only[tq,hr];exact this.trans (by simp)
  ·rw[decide_eq_false h0,cond_false];have h24:(-1 - e).toNat<24:=by omega
   have e4:inR (-1 - e) 24=some (-1 - e).toNat:=by
    have:=xb h24;rwa [Int.toNat_of_nonneg (by omega)] at this
   have hget:∀ xs:List Int,xs.length=24->xs[(-1 - e).toNat]? = some (xs.getD (-1 - e).toNat 0):=fun xs hx=>by
    rw[aA,al (by omega)]; rfl
   have hg:=hs.get (-1 - e).toNat;have hs1:=hs.hi;have hs0:=hs.lo;simp only[wl (x:=e) (by omega) (by omega),af,e4,hget s.1 hs.len]
   by_cases hz:s.1.getD (-1 - e).toNat 0=0
   ·have hr:Xy s e=(-(s.2+1),(s.1.set (-1 - e).toNat (s.2+1),s.2+1)):=by unfold Xy; rw[decide_eq_false h0,hz]; rfl
    have w1:ah .i64 (s.2+1)=s.2+1:=by rw[zC]<;>omega
    have hset:(cJ s.1 (-1 - e).toNat (s.2+1)).getD (-1 - e).toNat 0=s.2+1:=by
     rw[aA,List.getElem?_set_self (by rw[hs.len]; exact h24)]; rfl
    have hn:SO .i64 (s.2+1) = -(s.2+1):=by unfold SO; rw[zC]<;>omega
    rw[hz];simp only[show (((0:Int)==0))=true from rfl,cond_true,w1,hget (cJ s.1 (-1 - e).toNat (s.2+1)) (by simpa using hs.len),af,hset,hn,Fu]
    have hok:=Fo (b:=s.2) ⟨hs.len,hs.lo,dP _,hs.all⟩ e;rw[hr] at hok;have:=key2 (-(s.2+1)) (s.1.set (-1 - e).toNat (s.2+1),s.2+1) (hok.more (by omega)) (by simp only; omega)
    simp only[tq,hr];exact this.trans (by simp)
   ·have hr:Xy s e=(-(s.1.getD (-1 - e).toNat 0),s):=by
     unfold Xy;rw[decide_eq_false h0,show (s.1.getD (-1 - e).toNat 0==0)=false from by simpa using hz]; rfl
    have hn:SO .i64 (s.1.getD (-1 - e).toNat 0) = -(s.1.getD (-1 - e).toNat 0):=by unfold SO; rw[zC]<;>omega
    rw[show (s.1.getD (-1 - e).toNat 0==0)=false from by simpa using hz,cond_false]
    simp only[hn,Fu];have:=key2 (-(s.1.getD (-1 - e).toNat 0)) s hs (by omega)
    simp only[tq,hr];exact this.trans (by simp)
theorem vg {r:List Int} {s:List Int×Int} (hl:r.length<=1000) (hs:RenOk s 900000) (hc:∀ c∈r,-24<=c):yw r s.1 s.2=some ((tq s r).1,(tq s r).2.1,(tq s r).2.2):=by
 unfold yw;rw[kG (by omega),af]
 have h1:=hs.hi;have:=JJ r [] s zd (by unfold zd; omega) (by simp; omega) (hs.more (by omega)) (by omega) hc
 simp only[bH,aL,bG] at this;rw[show ((0:Nat):Int)=0 from rfl] at this
 rw[this,af];have hlen:=(ZW r hs).len;simp only[hs.len,hlen];rfl
def xD:List Int×Int->List zg->List zg×(List Int×Int)
 | s,[]=>([],s)
 | s,l::ls=>((l.1,(tq s l.2).1)::(xD (tq s l.2).2 ls).1,(xD (tq s l.2).2 ls).2)
def vK:List Int×Int->List jI->List jI×(List Int×Int)
 | s,[]=>([],s)
 | s,l::ls=>((tq s l).1::(vK (tq s l).2 ls).1,(vK (tq s l).2 ls).2)
def uY (r:List Int):Prop:=r.length<=1000∧∀ c∈r,-24<=c
theorem Ks:{s:List Int×Int}->{b:Int}->(ls:List zg)->(∀ l∈ls,uY l.2)->RenOk s b->RenOk (xD s ls).2 (b+1000*ls.length)
 | s,b,[],_,h=>by simpa[xD] using h
 | s,b,l::ls,hl,h=>by
  have h1:=hl l (am ..);have:=Ks ls (fun x hx=>hl x (ai _ hx)) (ZW l.2 h);have h2:=h1.1;simp only[xD,au];exact this.more (by omega)
theorem Do:{s:List Int×Int}->{b:Int}->(ls:List jI)->(∀ l∈ls,uY l)->RenOk s b->RenOk (vK s ls).2 (b+1000*ls.length)
 | s,b,[],_,h=>by simpa[vK] using h
 | s,b,l::ls,hl,h=>by
  have h1:=hl l (am ..);have:=Do ls (fun x hx=>hl x (ai _ hx)) (ZW l h);have h2:=h1.1;simp only[vK,au];exact this.more (by omega)
theorem V1:(es:List zg)->(s:List Int×Int)->(out:List zg)->(b:Int)->RenOk s b->b+1000*es.length<=900000->(∀ l∈es,uY l.2)->out.length+es.length<=1000000 ->
  zY es s.1 s.2 out=some ((xD s es).2.1,(xD s es).2.2,out++(xD s es).1)
 | [],s,out,b,_,_,_,_=>by simp [zY,xD]
 | e::es,s,out,b,hs,hb,h,hl=>by
  have he:=h e (am ..);have h1:=he.1;rw[au] at hb hl;unfold zY;rw[vg he.1 (hs.more (by omega)) he.2,af]
  rw[zy (show (out.length+([(e.1,(tq s e.2).1)]:List zg).length)*32<=140737488351232 by simp; omega),cond_true]
  have:=V1 es (tq s e.2).2 (out++[(e.1,(tq s e.2).1)]) _ (ZW e.2 hs) (by omega) (fun x hx=>h x (ai _ hx)) (by simp; omega)
  exact this.trans (by simp [xD])
theorem VN (s8:List zg):(es:List jI)->(s:List Int×Int)->(out:List jI)->(b:Int)->RenOk s b->b+1000*es.length<=900000->(∀ l∈es,uY l)->out.length+es.length<=1000000 ->
  z5 s8 es s.1 s.2 out=some ((vK s es).2.1,(vK s es).2.2,s8,out++(vK s es).1)
 | [],s,out,b,_,_,_,_=>by simp [z5,vK]
 | e::es,s,out,b,hs,hb,h,hl=>by
  have he:=h e (am ..);have h1:=he.1;rw[au] at hb hl;unfold z5;rw[vg he.1 (hs.more (by omega)) he.2,af]
  rw[zy (show (out.length+([(tq s e).1]:List jI).length)*24<=140737488351232 by simp; omega),cond_true]
  have:=VN s8 es (tq s e).2 (out++[(tq s e).1]) _ (ZW e hs) (by omega) (fun x hx=>h x (ai _ hx)) (by simp; omega)
  exact this.trans (by simp [vK])
theorem VG (s5:List zg) (s6:List jI):(es:List zg)->(s:List Int×Int)->(out:List zg)->(b:Int)->RenOk s b->b+1000*es.length<=900000->(∀ l∈es,uY l.2)->out.length+es.length<=1000000 ->
  yc s5 s6 es s.1 s.2 out=some ((xD s es).2.1,(xD s es).2.2,s5,s6,out++(xD s es).1)
 | [],s,out,b,_,_,_,_=>by simp [yc,xD]
 | e::es,s,out,b,hs,hb,h,hl=>by
  have he:=h e (am ..);have h1:=he.1;rw[au] at hb hl;unfold yc;rw[vg he.1 (hs.more (by omega)) he.2,af]
  rw[zy (show (out.length+([(e.1,(tq s e.2).1)]:List zg).length)*32<=140737488351232 by simp; omega),cond_true]
  have:=VG s5 s6 es (tq s e.2).2 (out++[(e.1,(tq s e.2).1)]) _ (ZW e.2 hs) (by omega) (fun x hx=>h x (ai _ hx)) (by simp; omega)
  exact this.trans (by simp [xD])
def zc6 (L:List zg) (T:List jI) (C:List zg):List zg×List jI×List zg :=
 ((xD (ax 24 0,0) L).1,(vK (xD (ax 24 0,0) L).2 T).1,(xD (vK (xD (ax 24 0,0) L).2 T).2 C).1)
theorem Cz:RenOk (ax 24 (0:Int),0) 0:=⟨rfl,dP _,dP _,fun x hx=>by have:=List.eq_of_mem_replicate hx; omega⟩
def tV (L:List zg) (T:List jI) (C:List zg):List zg×List jI×List zg:=zc6 (zF L []) (zF T []) (zF C [])
theorem W8 {L:List zg} {T:List jI} {C:List zg} (hL:L.length<=100) (hT:T.length<=100) (hC:C.length<=100) (sL:∀ l∈L,uY l.2) (sT:∀ l∈T,uY l) (sC:∀ l∈C,uY l.2) :
  rO L T C=some (tV L T C):=by
 have big:∀ r:List Int,uY r->r.length<=maxLen:=fun r h=>by have:=h.1; unfold maxLen; omega
 have lL:=xv L [];have lT:=xv T [];have lC:=xv C [];simp only[bH,aL] at lL lT lC;have sL':∀ l∈zF L [],uY l.2:=fun l h=>sL l (by simpa using (qr L []).1 h)
 have sT':∀ l∈zF T [],uY l:=fun l h=>sT l (by simpa using (qr T []).1 h)
 have sC':∀ l∈zF C [],uY l.2:=fun l h=>sC l (by simpa using (qr C []).1 h)
 unfold rO;rw[ZL (fun e he=>big _ (sL e he)) (by omega),af,ZL (fun e he=>big _ (sC e he)) (by omega),af,
  jp _ _ _ _ (by unfold maxLen; omega),G5 _ _ T [] (fun e he=>big _ (sT e he)) (by simp; omega),af]
 simp only;generalize hL2:zF L []=L2 at lL sL';generalize hT2:zF T []=T2 at lT sT';generalize hC2:zF C []=C2 at lC sC';have k0:=Ks L2 sL' Cz;have k1:=Do T2 sT' k0;have k2:=Ks C2 sC' k1;have e0:=V1 L2 (ax 24 0,0) [] 0 Cz (by omega) sL' (by simp; omega)
 have e1:=VN (xD (ax 24 0,0) L2).1 T2 _ [] _ k0 (by omega) sT' (by simp; omega)
 have e2:=VG (xD (ax 24 0,0) L2).1 (vK (xD (ax 24 0,0) L2).2 T2).1 C2 _ [] _ k1 (by omega) sC' (by simp; omega)
 simp only[bG] at e0 e1 e2;unfold kA;rw[km L2 L2 T2 C2 (ax 24 0) 0 [] (by unfold maxLen; omega),e0,af]
 simp only;rw[rE _ _ _ _ _ _ _ _ (by unfold maxLen; omega),e1,af]
 simp only;rw[rQ _ _ _ _ _ _ (by unfold maxLen; omega),e2,af]
 have hlen:=k2.len;simp only[List.length_replicate,hlen];unfold tV zc6;rw[hL2,hT2,hC2];rfl
theorem D5 {a0:List zl}:{xs:List Int}->{n k:Nat}->sk a0 n xs=some k->∀ c∈xs.take k,-24<=c
 | [],n,k,h,c,hc=>by simp at hc
 | x::xs,0,k,h,c,hc=>by
  simp [sk] at h; subst h; simp at hc
 | x::xs,n+1,k,h,c,hc=>by
  unfold sk at h;cases ha:vm a0 x with
  | none=>rw[ha] at h; cases h
  | some m =>
   rw[ha] at h;simp only[aY] at h;obtain⟨j,hj,rfl⟩:=h;rw[ei] at hc;rcases aI.1 hc with rfl | hc
   ·by_cases h0:c<0
    ·exact (Jh ha h0).1
    ·omega
   ·exact D5 hj c hc
theorem Qq {a0:List zl} {xs:List Int} {ps:List jI} (h:Xg a0 xs=some ps):∀ c∈xs,-24<=c:=by
 obtain⟨h1,h2⟩:=jz xs.length xs ps (aE _) h;intro c hc;rw[← h1] at hc;obtain⟨p,hp,hcp⟩:=fN.1 hc;have:=D5 (h2 p hp).2 c;rw[d0] at this;exact this hcp
theorem De {a0:List zl} {xs:List Int} (h:qI a0 xs=true):uY xs:=by
 obtain⟨x,r,e,ps,rfl,h0,-,-,-,-,hl,hc,-⟩:=Zp h;refine ⟨by simp; omega,fun c hcm => ?_⟩
 rcases aI.1 hcm with rfl | hcm
 ·omega
 ·exact Qq hc c hcm
theorem BW {a0:List zl} {r:List Int} {n:Nat} (h:jb a0 r=some n):uY r:=by
 obtain⟨ps,hc,-,hl,-⟩:=Wu h;exact ⟨by omega,Qq hc⟩
theorem uJ {a0:List zl} {ls:List zg} (h:tp a0 ls=true):∀ l∈ls,uY l.2:=fun l hl =>
 De (aK.1 h l hl)
theorem ZX {a0:List zl} {rs:List jI} (h:kp a0 rs=true):∀ r∈rs,uY r:=fun r hr=>by
 obtain⟨n,hn⟩:=YK h;exact BW (hn r hr)
theorem Xi (a0:List zl) (L:List zg) (T:List jI) (C:List zg):vT a0 L T C=some (cond (sx a0 L T C) ((tV L T C).1,(tV L T C).2.1,0,(tV L T C).2.2) ([],[],800,[])):=by
 unfold vT;rw[wS,af];cases h:sx a0 L T C with
 | false=>rfl
 | true =>
  obtain⟨-,h1,h2,h3,h4,h5,h6,-⟩:=qw h;rw[aH,cond_false,W8 (by omega) (by omega) (by omega) (uJ h4) (ZX h5) (uJ h6),af]
  rfl
theorem WY:(s:List Int×Int)->(ls:List zg)->(xD s ls).1.length=ls.length
 | _,[]=>rfl
 | s,l::ls=>by simp [xD,WY (tq s l.2).2 ls]
theorem JN:(s:List Int×Int)->(ls:List jI)->(vK s ls).1.length=ls.length
 | _,[]=>rfl
 | s,l::ls=>by simp [vK,JN (tq s l).2 ls]
theorem Ql:(s:List Int×Int)->(ls:List zg)->(b:Nat)->(∀ l∈ls,l.2.length<=b)->∀ l∈(xD s ls).1,l.2.length<=b
 | _,[],_,_,l,hl=>by cases hl
 | s,e::es,b,h,l,hl=>by
  simp only[xD] at hl;rcases aI.1 hl with rfl | hl
  ·rw[KM]; exact h e (am ..)
  ·exact Ql _ es b (fun x hx=>h x (ai _ hx)) l hl
theorem VZ:(s:List Int×Int)->(ls:List jI)->(b:Nat)->(∀ l∈ls,l.length<=b)->∀ l∈(vK s ls).1,l.length<=b
 | _,[],_,_,l,hl=>by cases hl
 | s,e::es,b,h,l,hl=>by
  simp only[vK] at hl;rcases aI.1 hl with rfl | hl
  ·rw[KM]; exact h e (am ..)
  ·exact VZ _ es b (fun x hx=>h x (ai _ hx)) l hl
theorem Ak {a0:List zl} {L:List zg} {T:List jI} {C:List zg} (h:sx a0 L T C=true) :
  yr (tV L T C).1 (tV L T C).2.1 (tV L T C).2.2 (tV L T C).1 (tV L T C).2.1 (tV L T C).2.2=some true:=by
 obtain⟨-,h1,h2,h3,h4,h5,h6,-⟩:=qw h;have lL:=xv L [];have lT:=xv T [];have lC:=xv C [];simp only[bH,aL] at lL lT lC;have sL:∀ l∈zF L [],l.2.length<=1000:=fun l h=>(uJ h4 l (by simpa using (qr L []).1 h)).1
 have sT:∀ l∈zF T [],l.length<=1000:=fun l h=>(ZX h5 l (by simpa using (qr T []).1 h)).1
 have sC:∀ l∈zF C [],l.2.length<=1000:=fun l h=>(uJ h6 l (by simpa using (qr C []).1 h)).1
 unfold tV zc6;apply w7
 ·simp only[WY]; unfold maxLen; omega
 ·intro e he;have:=Ql _ _ 1000 sL e he;unfold maxLen; omega
 ·simp only[JN]; unfold maxLen; omega
 ·intro e he;have:=VZ _ _ 1000 sT e he;unfold maxLen; omega
 ·simp only[WY]; unfold maxLen; omega
 ·intro e he;have:=Ql _ _ 1000 sC e he;unfold maxLen; omega
def qH {α:Type} (s:Int):List α->Nat->List α
 | [],_=>[]
 | e::es,i=>cond ((i:Int) != s) (e::qH s es (i+1)) (qH s es (i+1))
theorem Z5 {α:Type} (s:Int):(es:List α)->(i:Nat)->(qH s es i).length<=es.length
 | [],_=>aE _
 | e::es,i=>by
  unfold qH;have:=Z5 s es (i+1);cases ((i:Int) != s)<;>simp<;>omega
theorem IW (s0:Int) (s8:List jI) (s10:List zg):(es:List zg)->(i:Nat)->(out:List zg)->out.length+es.length<=1000000->zT s0 s8 s10 es i out=some (s8,out++qH s0 es i,s10)
 | [],i,out,_=>by simp [zT,qH]
 | e::es,i,out,h=>by
  rw[au] at h;unfold zT qH;cases ((i:Int) != s0) with
  | true =>
   rw[cond_true,cond_true,zy (show (out.length+([(e.1,e.2)]:List zg).length)*32<=140737488351232 by simp; omega),cond_true,IW s0 s8 s10 es (i+1) _ (by simp; omega)]
   simp
  | false=>rw[cond_false,cond_false,IW s0 s8 s10 es (i+1) out (by omega)]
theorem G6 (s0:Int) (s8:List jI) (s10:List zg):(es:List zg)->(i:Nat)->(out:List zg)->out.length+es.length<=1000000->zV s0 s8 s10 es i out=some (s8,out++qH s0 es i,s10)
 | [],i,out,_=>by simp [zV,qH]
 | e::es,i,out,h=>by
  rw[au] at h;unfold zV qH;cases ((i:Int) != s0) with
  | true =>
   rw[cond_true,cond_true,zy (show (out.length+([(e.1,e.2)]:List zg).length)*32<=140737488351232 by simp; omega),cond_true,G6 s0 s8 s10 es (i+1) _ (by simp; omega)]
   simp
  | false=>rw[cond_false,cond_false,G6 s0 s8 s10 es (i+1) out (by omega)]
theorem Vk {n:Nat} (h:n<=1000000):rG (n:Int)=some []:=by
 unfold rG;have e:ah .i64 ((n:Int) - 0)=(n:Int):=by rw[zC]<;>omega
 rw[e,decide_eq_false (show ¬((n:Int)<0) by omega),cond_false]
 by_cases h0:n=0
 ·subst h0; rfl
 ·rw[decide_eq_true (show (n:Int)>0 by omega),cond_true,show (eqI 0 0&&eqI 0 0)=true from rfl,cond_true,show Fa (n:Int)=true from decide_eq_true (by omega),cond_true,bx,zy (by omega),cond_true]
  have:vJ (ax n ([]:List Int)) none (some 0)=some []:=by
   show slc (ax n ([]:List Int)) 0 0=some [];unfold slc;rw[decide_eq_true (show (0:Int)<=0 by omega),decide_eq_true (show (0:Int)<=(((ax n ([]:List Int)).length:Nat):Int) by omega)]
   rfl
  rw[this]; rfl
theorem Xm {n:Nat} (h:n<=1000000):tz (n:Int)=some []:=by
 unfold tz;have e:ah .i64 ((n:Int) - 0)=(n:Int):=by rw[zC]<;>omega
 rw[e,decide_eq_false (show ¬((n:Int)<0) by omega),cond_false]
 by_cases h0:n=0
 ·subst h0; rfl
 ·rw[decide_eq_true (show (n:Int)>0 by omega),cond_true,show (eqI 0 0&&eqI 0 0)=true from rfl,cond_true,show Fa (n:Int)=true from decide_eq_true (by omega),cond_true,bx,zy (by omega),cond_true]
  have:∀ z:zg,vJ (ax n z) none (some 0)=some []:=fun z=>by
   show slc (ax n z) 0 0=some [];unfold slc;rw[decide_eq_true (show (0:Int)<=0 by omega),decide_eq_true (show (0:Int)<=(((ax n z).length:Nat):Int) by omega)]
   rfl
  rw[this]; rfl
theorem Qv {a b:List jI} (h:a.length+b.length<=1000000):tw [a,b]=some (a++b):=by
 have w0:ah .i64 ((0:Int)+((a.length:Nat):Int))=((a.length:Nat):Int):=by rw[zC]<;>omega
 have w1:ah .i64 (((a.length:Nat):Int)+((b.length:Nat):Int))=((a.length+b.length:Nat):Int):=by rw[zC]<;>omega
 have e0:z1 [a,b] 0=some ((a.length+b.length:Nat):Int):=by
  unfold z1;rw[w0,decide_eq_false (show ¬(((a.length:Nat):Int)<0) by omega),cond_false]
  unfold z1;rw[w1,decide_eq_false (show ¬(((a.length+b.length:Nat):Int)<0) by omega),cond_false]
  rfl
 have e1:yb [a,b] []=some (a++b):=by
  unfold yb;rw[zy (by simp; omega),cond_true,bG]
  unfold yb;rw[zy (by omega),cond_true]
  rfl
 unfold tw;rw[kh _ _ _ (by unfold maxLen; simp),e0,af,Vk h,af,rV _ _ (by unfold maxLen; simp),e1]
 rfl
theorem YJ {a b:List zg} (h:a.length+b.length<=1000000):wK [a,b]=some (a++b):=by
 have w0:ah .i64 ((0:Int)+((a.length:Nat):Int))=((a.length:Nat):Int):=by rw[zC]<;>omega
 have w1:ah .i64 (((a.length:Nat):Int)+((b.length:Nat):Int))=((a.length+b.length:Nat):Int):=by rw[zC]<;>omega
 have e0:zN [a,b] 0=some ((a.length+b.length:Nat):Int):=by
  unfold zN;rw[w0,decide_eq_false (show ¬(((a.length:Nat):Int)<0) by omega),cond_false]
  unfold zN;rw[w1,decide_eq_false (show ¬(((a.length+b.length:Nat):Int)<0) by omega),cond_false]
  rfl
 have e1:zM [a,b] []=some (a++b):=by
  unfold zM;rw[zy (by simp; omega),cond_true,bG]
  unfold zM;rw[zy (by omega),cond_true]
  rfl
 unfold wK;rw[sR _ _ _ (by unfold maxLen; simp),e0,af,Xm h,af,sO _ _ (by unfold maxLen; simp),e1]
 rfl
theorem W7 {L:List zg} {T:List jI} {C:List zg} {L':List zg} {T':List jI} {C':List zg} (i j:Int) (h1:L.length<=1000) (h2:T.length<=1000) (h3:C.length<=1000) (h4:L'.length<=1000) (h5:T'.length<=1000) (h6:C'.length<=1000) :
  u9 L T C i L' T' C' j=some (T++T',qH i L 0++qH j L' 0,C++C'):=by
 have hw:=Z5 i L 0;unfold u9;rw[Qv (by omega),af,YJ (by omega),af,
  kW _ _ _ _ _ _ _ _ _ (by unfold maxLen; omega),IW _ _ _ _ _ _ (by simp; omega),af]
 simp only[bG];rw[k4 _ _ _ _ _ (by unfold maxLen; omega),G6 _ _ _ _ _ _ (by omega),af]
def vr (L:List zg) (i:Int):Bool:=decide (0<=i)&&decide (i<L.length)
theorem Ya {α:Type} {s:Int} {x:α}:(es:List α)->(i:Nat)->x∈qH s es i->x∈es
 | [],_,h=>by cases h
 | e::es,i,h=>by
  unfold qH at h;cases hb:((i:Int) != s) with
  | true =>
   rw[hb,cond_true] at h;rcases aI.1 h with rfl | h
   ·exact am ..
   ·exact ai _ (Ya es (i+1) h)
  | false=>rw[hb,cond_false] at h; exact ai _ (Ya es (i+1) h)
def to0:List (Option jI×Int):=ax 48 ((none:Option jI),(0:Int))
theorem TP {k:Nat} (h:k<48):to0[k]? = some (none,0):=by
 unfold to0;rw[List.getElem?_replicate,if_pos h]
theorem DP {α:Type} (xs:List α) (y:α):vJ (xs++[y]) none (some (xs.length:Int))=some xs:=by
 show slc (xs++[y]) 0 (xs.length:Int)=some xs;unfold slc;rw[decide_eq_true (show (0:Int)<=0 by omega),decide_eq_true (show (0:Int)<=(xs.length:Int) by omega),decide_eq_true (show (xs.length:Int)<=(((xs++[y]).length:Nat):Int) by simp; omega)]
 simp
def t9 (s:List (Int×List Int)) (v:Int):Option jI:=(s.find? fun b=>b.1==v).map (·.2)
def onC (s:List (Int×List Int)) (c:Int):List Int:=cond (decide (c≥0)) [c] ((t9 s (-1 - c)).getD [c])
def onB (s:List (Int×List Int)) (r:List Int):List Int:=r.flatMap (onC s)
structure BindsOk (s:List (Int×List Int)):Prop where
 len:s.length<=1000
 all:∀ b∈s,b.2≠[]∧b.2.length<=1000
theorem D6 (v:Int):(es:List (Int×List Int))->q5 v es=some (match t9 es v with
  | none=>.inl ()
  | some t=>.inr t)
 | []=>rfl
 | e::es=>by
  unfold q5 t9;rw[List.find?_cons];cases he:(e.1==v) with
  | true=>rfl
  | false =>
   rw[cond_false,D6 v es];rfl
theorem Gb {s:List (Int×List Int)} {v:Int} {t:List Int} (h:t9 s v=some t):∃ b∈s,b.1=v∧b.2=t:=by
 unfold t9 at h;obtain⟨b,hb,rfl⟩:=aY.1 h;exact ⟨b,List.mem_of_find?_eq_some hb,by simpa using List.find?_some hb,rfl⟩
theorem QO {α:Type} {xs:List α} (h:xs≠[]):nn xs=some xs:=by
 cases xs with
 | nil=>exact absurd rfl h
 | cons x xs=>rfl
theorem K5 {s:List (Int×List Int)} (h:BindsOk s) (v:Int):jE s v=some (t9 s v):=by
 unfold jE;rw[Z3 _ _ (by have:=h.len; unfold maxLen; omega),D6]
 cases hl:t9 s v with
 | none=>rfl
 | some t =>
  obtain⟨b,hb,-,rfl⟩:=Gb hl;show (nn b.2).bind _=_;rw[QO (h.all b hb).1];rfl
theorem T8 {s:List (Int×List Int)} (h:BindsOk s) (c:Int):(onC s c).length<=1000:=by
 unfold onC;cases decide (c≥0) with
 | true=>simp
 | false =>
  cases hl:t9 s (-1 - c) with
  | none=>simp
  | some t =>
   obtain⟨b,hb,-,rfl⟩:=Gb hl;exact (h.all b hb).2
theorem Gx {s:List (Int×List Int)} (h:BindsOk s):(es:List Int)->(out:List Int)->(∀ c∈es,-1000000<=c∧c<=1000000)->out.length+1000*es.length<=10000000->qg s es out=some (out++onB s es)
 | [],out,_,_=>by simp [qg,onB]
 | e::es,out,hc,hl=>by
  rw[au] at hl;have he:=hc e (am ..);have ih:=fun out' hl'=>Gx h es out' (fun c hx=>hc c (ai _ hx)) hl';have hcl:=T8 h e;have hB:onB s (e::es)=onC s e++onB s es:=by simp [onB]
  unfold qg;rw[wl (by omega) (by omega),af,K5 h,af,hB]
  unfold onC at hcl ⊢;by_cases h0:e≥0
  ·rw[decide_eq_true h0,cond_true,cond_true,zy (show (out.length+([e]:List Int).length)*8<=140737488351232 by simp; omega),cond_true,ih _ (by simp; omega)]
   simp
  ·rw[decide_eq_false h0] at hcl ⊢;simp only[cond_false] at hcl ⊢;cases hl2:t9 s (-1 - e) with
   | none =>
    simp only[Option.isNone_none,cond_true,Option.getD_none];rw[zy (show (out.length+([e]:List Int).length)*8<=140737488351232 by simp; omega),cond_true,ih _ (by simp; omega)]
    simp
   | some t =>
    rw[hl2] at hcl;simp only[bm] at hcl;simp only[cr,cond_false,bm];rw[zy (by omega),cond_true,ih _ (by simp; omega)]
    simp
theorem Qu {s:List (Int×List Int)} (h:BindsOk s) {r:List Int} (hl:r.length<=1000) (hc:∀ c∈r,-1000000<=c∧c<=1000000):Qt s r=some (onB s r):=by
 unfold Qt;rw[Qy _ _ _ (by unfold maxLen; omega),Gx h r [] hc (by simp; omega)]
 rfl
def kj (r:List Int):Prop:=r.length<=1000∧∀ c∈r,-1000000<=c∧c<=1000000
def VE (s:List (Int×List Int)) (ls:List zg):List zg:=ls.map fun l=>(l.1,onB s l.2)
def Cb (s:List (Int×List Int)) (rs:List jI):List jI:=rs.map (onB s)
theorem JT {s:List (Int×List Int)} (h:BindsOk s):(es out:List zg)->(∀ l∈es,kj l.2)->out.length+es.length<=1000000->yG s es out=some (out++VE s es)
 | [],out,_,_=>by simp [yG,VE]
 | e::es,out,hn,hl=>by
  rw[au] at hl;have he:=hn e (am ..);unfold yG qO;rw[Qu h he.1 he.2,af,af,zy (show (out.length+([(e.1,onB s e.2)]:List zg).length)*32<=140737488351232 by simp; omega),cond_true,
   JT h es _ (fun l hl=>hn l (ai _ hl)) (by simp; omega)]
  simp [VE]
theorem GJ {s:List (Int×List Int)} (h:BindsOk s) (s7:List zg):(es out:List jI)->(∀ l∈es,kj l)->out.length+es.length<=1000000->yE s s7 es out=some (s7,out++Cb s es)
 | [],out,_,_=>by simp [yE,Cb]
 | e::es,out,hn,hl=>by
  rw[au] at hl;have he:=hn e (am ..);unfold yE qO;rw[Qu h he.1 he.2,af,af,zy (show (out.length+([onB s e]:List jI).length)*24<=140737488351232 by simp; omega),cond_true,
   GJ h s7 es _ (fun l hl=>hn l (ai _ hl)) (by simp; omega)]
  simp [Cb]
theorem JE {s:List (Int×List Int)} (h:BindsOk s) (s4:List zg) (s5:List jI):(es out:List zg)->(∀ l∈es,kj l.2)->out.length+es.length<=1000000->yI s s4 s5 es out=some (s4,s5,out++VE s es)
 | [],out,_,_=>by simp [yI,VE]
 | e::es,out,hn,hl=>by
  rw[au] at hl;have he:=hn e (am ..);unfold yI qO;rw[Qu h he.1 he.2,af,af,zy (show (out.length+([(e.1,onB s e.2)]:List zg).length)*32<=140737488351232 by simp; omega),cond_true,
   JE h s4 s5 es _ (fun l hl=>hn l (ai _ hl)) (by simp; omega)]
  simp [VE]
theorem KY {s:List (Int×List Int)} (h:BindsOk s) {L:List zg} {T:List jI} {C:List zg} (hL:∀ l∈L,kj l.2) (hT:∀ l∈T,kj l) (hC:∀ l∈C,kj l.2) (h1:L.length<=1000) (h2:T.length<=1000) (h3:C.length<=1000) :
  sZ s L T C=some (VE s L,Cb s T,VE s C):=by
 unfold sZ Yq;rw[jH _ _ _ _ _ _ (by unfold maxLen; omega),JT h L [] hL (by simp; omega),af,
  jF _ _ _ _ _ _ _ (by unfold maxLen; omega),GJ h _ T [] hT (by simp; omega),af,
  jX _ _ _ _ _ (by unfold maxLen; omega),JE h _ _ C [] hC (by simp; omega),af]
 simp
def YF (a0:Int):Option jI :=
 cond (decide (a0<0))
 (none)
 (cond (decide ((ah .i64 (a0 - 0))>0))
  (cond (eqI 0 0&&eqI 0 0)
   (cond (Fa (ah .i64 (a0 - 0)))
    (cond (y9 (bP (ah .i64 (a0 - 0))) 8)
     ((vJ (ax (bP (ah .i64 (a0 - 0))) (0:Int)) none (some 0)).bind fun y2 =>
      some y2)
     (none))
    (none))
   (none))
  (some ([]:jI)))
def sJ (rec:(jR×Int×Int×jI)->Option jI) (x:(jR×Int×Int×jI)):Option jI :=
 cond (decide (x.2.2.1<x.2.1))
 ((gx x.1 x.2.2.1).bind fun e7 =>
  cond (y9 (aa x.2.2.2+aa e7) 8)
  (rec (x.1,x.2.1,(ah .i64 (x.2.2.1+1)),(x.2.2.2++e7)))
  (none))
 (some x.2.2.2)
def sD (rec:(jR×Int×jR×Int×Int)->Option Int) (x:(jR×Int×jR×Int×Int)):Option Int :=
 cond (decide (x.2.2.2.2<x.2.2.2.1))
 ((gx x.2.2.1 x.2.2.2.2).bind fun e2 =>
  cond (decide ((ah .i64 (x.2.1+((aa e2:Nat):Int)))<0))
  (none)
  (rec (x.1,(ah .i64 (x.2.1+((aa e2:Nat):Int))),x.2.2.1,x.2.2.2.1,(ah .i64 (x.2.2.2.2+1)))))
 (some x.2.1)
def jG (a0:jR):Option jI :=
 ((lp sD zd) (a0,0,a0,((aa a0:Nat):Int),0)).bind fun r9 =>
 (YF r9).bind fun r10 =>
 ((lp sJ zd) (a0,((aa a0:Nat):Int),0,r10)).bind fun r11 =>
 some r11
def zfB (c:UInt8):Bool:=Y1 ((bw c:Nat):Int)
def zfw (c:UInt8):Bool:=decide (((bw c:Nat):Int)≥48)&&decide (((bw c:Nat):Int)<=57)
def zfu (b:Bool) (c:UInt8):Bool:=zfw c||(b&&zfB c)
def Stop (c:Str):Prop:=c.takeWhile (zfu true)=[]
theorem PN {a0:List zl}:{xs:List Int}->{n m:Nat}->{ys:List Int}->sk a0 n xs=some xs.length->sk a0 m ys=some ys.length->sk a0 (n+m) (xs++ys)=some (xs++ys).length
 | [],0,m,ys,_,h=>by rw[aL]; exact h
 | [],n+1,m,ys,h,_=>by simp [sk] at h
 | x::xs,0,m,ys,h,_=>by simp [sk] at h
 | x::xs,n+1,m,ys,h,h'=>by
  unfold sk at h;cases ha:vm a0 x with
  | none=>rw[ha] at h; cases h
  | some k =>
   rw[ha] at h;simp only[aY,au] at h;obtain⟨j,hj,hjl⟩:=h;have hj2:j=xs.length:=by omega
   subst hj2;have ih:=PN hj h';rw[show n+1+m=(n+m)+1 from by omega,List.cons_append]
   unfold sk;rw[ha];simp only;rw[show n+m+k=n+k+m from by omega,ih]
   rfl
theorem LI {a0:List zl} {x:Int} {q:Nat} (h:vm a0 x=some q):x<0∨x<a0.length:=by
 by_cases hx:x<0
 ·exact .inl hx
 ·obtain⟨e,-,he,-⟩:=GL h hx;have:=(aq.1 he).1;exact .inr (by omega)
theorem WE {a0:List zl}:{xs:List Int}->{n k:Nat}->sk a0 n xs=some k->∀ c∈xs.take k,c<0∨c<a0.length
 | [],n,k,h,c,hc=>by simp at hc
 | x::xs,0,k,h,c,hc=>by
  simp [sk] at h; subst h; simp at hc
 | x::xs,n+1,k,h,c,hc=>by
  unfold sk at h;cases ha:vm a0 x with
  | none=>rw[ha] at h; cases h
  | some m =>
   rw[ha] at h;simp only[aY] at h;obtain⟨j,hj,rfl⟩:=h;rw[ei] at hc;rcases aI.1 hc with rfl | hc
   ·exact LI ha
   ·exact WE hj c hc
theorem JQ {a0:List zl} (hs:SignOk a0) {xs:List Int} {ps:List jI} (h:Xg a0 xs=some ps):∀ c∈xs,-24<=c∧c<20:=by
 obtain⟨h1,h2⟩:=jz xs.length xs ps (aE _) h;have hl:=hs.len;intro c hc;refine ⟨Qq h c hc,?_⟩;rw[← h1] at hc;obtain⟨p,hp,hcp⟩:=fN.1 hc;have:=WE (h2 p hp).2 c;rw[d0] at this;rcases this hcp with h | h<;>omega
theorem As {a0:List zl} (hs:SignOk a0) {xs:List Int} (h:qI a0 xs=true):kj xs:=by
 obtain⟨x,r,e,ps,rfl,h0,he,-,-,-,hl,hc,-⟩:=Zp h;have:=(aq.1 he).1;have hl2:=hs.len;refine ⟨by simp; omega,fun c hcm => ?_⟩
 rcases aI.1 hcm with rfl | hcm
 ·omega
 ·have:=JQ hs hc c hcm; omega
theorem VC {a0:List zl} (hs:SignOk a0) {ls:List zg} (h:tp a0 ls=true):∀ l∈ls,kj l.2:=fun l hl=>As hs (aK.1 h l hl)
theorem BK {a0:List zl} (hs:SignOk a0) {rs:List jI} (h:kp a0 rs=true):∀ r∈rs,kj r:=fun r hr=>by
 obtain⟨n,hn⟩:=YK h;obtain⟨ps,hc,-,hl,-⟩:=Wu (hn r hr);exact ⟨by omega,fun c hcm=>by have:=JQ hs hc c hcm; omega⟩
def X9 (a0:Int):Option Bool :=
 some (a0 != a0)
def Bb (a0:Int) (a1:Int):Option Bool :=
 (X9 a0).bind fun r3 =>
 cond r3
 ((X9 a1).bind fun r4 =>
  cond (!r4)
  (some true)
  (some (decide (a0<a1))))
 (some (decide (a0<a1)))
def j2 (a0:Int):Option Bool :=
 some (a0 != a0)
def uh (rec:(jI×Int×Int×Int×Int)->Option Int) (x:(jI×Int×Int×Int×Int)):Option Int :=
 cond (decide (x.2.2.2.1<x.2.2.2.2))
 ((gx x.1 (ah .i64 (gH (ah .u64 (ah .i64 (x.2.2.2.1+x.2.2.2.2))) (2 ^ min (bP 1) (dW .u64))))).bind fun e3 =>
  (Bb e3 x.2.1).bind fun r4 =>
  cond r4
  (rec (x.1,x.2.1,x.2.2.1,(ah .i64 ((ah .i64 (gH (ah .u64 (ah .i64 (x.2.2.2.1+x.2.2.2.2))) (2 ^ min (bP 1) (dW .u64))))+1)),x.2.2.2.2))
  (rec (x.1,x.2.1,x.2.2.1,x.2.2.2.1,(ah .i64 (gH (ah .u64 (ah .i64 (x.2.2.2.1+x.2.2.2.2))) (2 ^ min (bP 1) (dW .u64)))))))
 (some x.2.2.2.1)
def si (a0:jI) (a1:Int):Option (Int×Bool) :=
 ((lp uh zd) (a0,a1,((aa a0:Nat):Int),0,((aa a0:Nat):Int))).bind fun r10 =>
 cond (decide (r10<((aa a0:Nat):Int)))
 ((gx a0 r10).bind fun e11 =>
  cond (e11==a1)
  (some (r10,true))
  ((gx a0 r10).bind fun e12 =>
   (j2 e12).bind fun r13 =>
   cond r13
   ((j2 a1).bind fun r14 =>
    some (r10,r14))
   (some (r10,false))))
 (some (r10,false))
def KU (a0:Int) (a1:jI) (a2:jI):Option jI:=zdI a0 a1 a2
def ZO (rec:(jI×Int×Int×jI)->Option jI) (x:(jI×Int×Int×jI)):Option jI :=
 cond (decide (x.2.2.1<x.2.1))
 ((gx x.1 x.2.2.1).bind fun e11 =>
  cond (decide (e11≥0))
  (rec (x.1,x.2.1,(ah .i64 (x.2.2.1+1)),x.2.2.2))
  ((yj e11).bind fun r12 =>
   (si x.2.2.2 r12).bind fun r13 =>
   cond (!r13.2)
   ((yj e11).bind fun r14 =>
    (KU r13.1 x.2.2.2 ([r14]:List Int)).bind fun r15 =>
    rec (x.1,x.2.1,(ah .i64 (x.2.2.1+1)),r15))
   (rec (x.1,x.2.1,(ah .i64 (x.2.2.1+1)),x.2.2.2))))
 (some x.2.2.2)
def Yh (a0:jI) (a1:jI):Option jI :=
 ((lp ZO zd) (a0,((aa a0:Nat):Int),0,a1)).bind fun r17 =>
 some r17
def ZP (rec:(jR×Int×Int×jI)->Option jI) (x:(jR×Int×Int×jI)):Option jI :=
 cond (decide (x.2.2.1<x.2.1))
 ((gx x.1 x.2.2.1).bind fun e12 =>
  (Yh e12 x.2.2.2).bind fun r13 =>
  rec (x.1,x.2.1,(ah .i64 (x.2.2.1+1)),r13))
 (some x.2.2.2)
def ZN (rec:(jQ×Int×Int×jQ×jR×jQ×jI)->Option jI) (x:(jQ×Int×Int×jQ×jR×jQ×jI)):Option jI :=
 cond (decide (x.2.2.1<x.2.1))
 ((gx x.1 x.2.2.1).bind fun e7 =>
  (Yh e7.2 x.2.2.2.2.2.2).bind fun r8 =>
  rec (x.1,x.2.1,(ah .i64 (x.2.2.1+1)),x.2.2.2.1,x.2.2.2.2.1,x.2.2.2.2.2.1,r8))
 (some x.2.2.2.2.2.2)
def rN (a0:jS) (a1:jQ) (a2:jR) (a3:jQ):Option (Int×jI) :=
 (xf a0 a1 a2 a3).bind fun r15 =>
 cond (!r15)
 (some (800,([]:jI)))
 ((wK ([a1,a3]:List jQ)).bind fun r16 =>
  ((lp ZN zd) (r16,((aa r16:Nat):Int),0,a1,a2,a3,([]:jI))).bind fun r17 =>
  ((lp ZP zd) (a2,((aa a2:Nat):Int),0,r17)).bind fun r18 =>
  some (0,r18))
def sw (rec:(Int×Int×Int×jI)->Option jI) (x:(Int×Int×Int×jI)):Option jI :=
 cond (decide (x.2.1<x.1))
 ((inR x.2.1 (aa x.2.2.2)).bind fun k6 =>
  (x.2.2.2[k6]?).bind fun x7 =>
  cond (decide (x7<0))
  ((inR x.2.1 (aa x.2.2.2)).bind fun k8 =>
   (x.2.2.2[k8]?).bind fun _x9 =>
   rec (x.1,(ah .i64 (x.2.1+1)),x.2.2.1,(cJ x.2.2.2 k8 (ah .i64 (x7 - x.2.2.1)))))
  (rec (x.1,(ah .i64 (x.2.1+1)),x.2.2.1,x.2.2.2)))
 (some x.2.2.2)
def vQ (a0:jI) (a1:Int):Option jI :=
 (wR a0).bind fun r11 =>
 ((lp sw zd) (((aa r11:Nat):Int),0,a1,r11)).bind fun r12 =>
 some r12
def kV (rec:(jQ×Int×Int×Int×jQ×jR×jQ)->Option (jQ×jR×jQ)) (x:(jQ×Int×Int×Int×jQ×jR×jQ)):Option (jQ×jR×jQ) :=
 cond (decide (x.2.2.1<x.2.1))
 ((gx x.1 x.2.2.1).bind fun e19 =>
  (vQ e19.2 x.2.2.2.1).bind fun r20 =>
  cond (y9 (aa x.2.2.2.2.2.2+aa ([(e19.1,r20)]:List zg)) 32)
  (rec (x.1,x.2.1,(ah .i64 (x.2.2.1+1)),x.2.2.2.1,x.2.2.2.2.1,x.2.2.2.2.2.1,(x.2.2.2.2.2.2++([(e19.1,r20)]:List zg))))
  (none))
 (some (x.2.2.2.2.1,x.2.2.2.2.2.1,x.2.2.2.2.2.2))
def kT (rec:(jR×Int×Int×Int×jQ×jR×jQ×jQ×jR)->Option (jQ×jR)) (x:(jR×Int×Int×Int×jQ×jR×jQ×jQ×jR)):Option (jQ×jR) :=
 cond (decide (x.2.2.1<x.2.1))
 ((gx x.1 x.2.2.1).bind fun e12 =>
  (vQ e12 x.2.2.2.1).bind fun r13 =>
  cond (y9 (aa x.2.2.2.2.2.2.2.2+aa ([r13]:List jI)) 24)
  (rec (x.1,x.2.1,(ah .i64 (x.2.2.1+1)),x.2.2.2.1,x.2.2.2.2.1,x.2.2.2.2.2.1,x.2.2.2.2.2.2.1,x.2.2.2.2.2.2.2.1,(x.2.2.2.2.2.2.2.2++([r13]:List jI))))
  (none))
 (some (x.2.2.2.2.2.2.2.1,x.2.2.2.2.2.2.2.2))
def kP (rec:(jQ×Int×Int×Int×jQ×jR×jQ×jQ)->Option jQ) (x:(jQ×Int×Int×Int×jQ×jR×jQ×jQ)):Option jQ :=
 cond (decide (x.2.2.1<x.2.1))
 ((gx x.1 x.2.2.1).bind fun e5 =>
  (vQ e5.2 x.2.2.2.1).bind fun r6 =>
  cond (y9 (aa x.2.2.2.2.2.2.2+aa ([(e5.1,r6)]:List zg)) 32)
  (rec (x.1,x.2.1,(ah .i64 (x.2.2.1+1)),x.2.2.2.1,x.2.2.2.2.1,x.2.2.2.2.2.1,x.2.2.2.2.2.2.1,(x.2.2.2.2.2.2.2++([(e5.1,r6)]:List zg))))
  (none))
 (some x.2.2.2.2.2.2.2)
def YN (a0:jQ) (a1:jR) (a2:jQ) (a3:Int):Option (jQ×jR×jQ) :=
 ((lp kP zd) (a0,((aa a0:Nat):Int),0,a3,a0,a1,a2,([]:jQ))).bind fun r22 =>
 ((lp kT zd) (a1,((aa a1:Nat):Int),0,a3,a0,a1,a2,r22,([]:jR))).bind fun r23 =>
 ((lp kV zd) (a2,((aa a2:Nat):Int),0,a3,r23.1,r23.2,([]:jQ))).bind fun r24 =>
 some (r24.1,r24.2.1,r24.2.2)
def u4 (a0:jQ) (a1:jR) (a2:jQ) (a3:Int):Option (jQ×jR×jQ) :=
 (YN a0 a1 a2 a3).bind fun r2 =>
 some (r2.1,r2.2.1,r2.2.2)
end Go.Abs.Q
