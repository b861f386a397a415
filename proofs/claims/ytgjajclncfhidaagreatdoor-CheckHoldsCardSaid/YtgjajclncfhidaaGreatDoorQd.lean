import Derived.Test.YtgjajclncfhidaaGreatDoorQc
/-
  What the functions make of plain values, and what the law says of that.
-/
open Bool renaming and_eq_true -> ay, and_self -> cJ, decide_and -> df, not_false -> bE, not_true -> az, true_and -> aN
open Eq renaming symm -> fQ, trans -> iD
open Go.IntKind renaming wrap -> ag
open Int renaming eq_ofNat_of_zero_le -> dA, toNat -> bc, toNat_natCast -> bo
open List renaming all_eq_true -> aD, any_cons -> ee, append_assoc -> aW, append_nil -> bO, drop -> eD, drop_eq_getElem_cons -> aY, drop_eq_nil_of_le -> cE, drop_zero -> bQ, eq_nil_of_length_eq_zero -> ba, filter_cons_of_neg -> cQ, filter_cons_of_pos -> dc, filter_eq_self -> fU, getElem?_cons_zero -> aB, getElem?_eq_getElem -> al, getElem?_set_self -> bU, length -> af, length_append -> am, length_cons -> ak, length_eq_one_iff -> fF, length_eq_zero_iff -> cn, length_filter_le -> dP, length_map -> aF, length_nil -> bm, length_set -> bY, length_singleton -> aX, length_take -> cH, map_congr_left -> bx, map_cons -> aK, map_eq_nil_iff -> d7, map_id' -> fE, mem_append -> aI, mem_append_left -> bk, mem_append_right -> bp, mem_cons -> aG, mem_cons_of_mem -> ai, mem_cons_self -> aj, mem_filter -> dp, mem_of_getElem? -> aJ, mem_singleton -> bb, nil_append -> bl, range -> aL, replicate -> ax, set -> bw, sum_cons -> cD, take -> eE, take_left' -> gH
open List.cons renaming inj -> gV
open Nat renaming beq -> aA, beq_refl -> cM, le_refl -> aC, le_trans -> aT, lt_of_le_of_lt -> cO, zero_add -> aP, zero_le -> bN
open Nat.succ renaming inj -> ia
open Option renaming bind_some -> aa, getD -> bM, getD_some -> bj, isNone -> co, isNone_some -> cw, isSome_none -> cN, isSome_some -> dI, map_some -> bD
open Option.some renaming inj -> fG
open Prod.mk renaming injEq -> aM
open Sum renaming inl -> aU, inr -> aH
namespace Go.Abs.Q
open Go Go.Abs
def sQ:Option jS :=
 some ([(([61]:Str),0,2,1),(([97]:Str),1,0,1),(([98]:Str),1,0,2),(([102]:Str),1,1,1),(([103]:Str),1,2,3),(([112]:Str),0,1,1),(([114]:Str),0,2,2)]:List zg)
def ZI:Option jT :=
 some ([(0,(-1),0,0,(-1),0,0,([(false,([5,1]:List Int))]:List zc),([]:jR),([]:jQ)),(0,(-1),0,0,(-1),0,0,([(true,([5,(-1)]:List Int))]:List zc),([([(-1)]:List Int)]:List jI),([]:jQ)),(1,0,0,0,1,0,0,([]:jQ),([([1]:List Int)]:List jI),([]:jQ))]:List jU)
def w9 (a0:Int) (a1:Int) (a2:Int):Option Bool :=
 cond (decide (a0≥a1))
 (some (decide (a0<=a2)))
 (some false)
def tX (a0:Int) (a1:Int) (a2:Int) (a3:Int) (a4:Int) (a5:Int) (a6:Int) (a7:jQ) (a8:jR) (a9:jQ):Option Bool :=
 (w9 a0 0 7).bind fun r8 =>
 cond r8
 ((w9 a1 (-1) 199).bind fun r9 =>
  cond r9
  ((w9 a4 (-1) 199).bind fun r10 =>
   cond r10
   ((w9 a2 0 4).bind fun r11 =>
    cond r11
    ((w9 a5 0 4).bind fun r12 =>
     cond r12
     ((w9 a3 0 1).bind fun r13 =>
      cond r13
      ((w9 a6 0 48).bind fun r14 =>
       some r14)
      (some false))
     (some false))
    (some false))
   (some false))
  (some false))
 (some false)
def Ka (a0:jS) (a1:Int) (a2:Int) (a3:Int) (a4:Int) (a5:Int) (a6:Int) (a7:Int) (a8:jQ) (a9:jR) (a10:jQ):Option Bool :=
 (tX a1 a2 a3 a4 a5 a6 a7 a8 a9 a10).bind fun r3 =>
 cond r3
 ((qI a0 a8 a9 a10).bind fun r4 =>
  some r4)
 (some false)
def sq (a0:Int) (a1:Int) (a2:Int) (a3:Int) (a4:Int) (a5:Int) (a6:Int) (a7:jQ) (a8:jR) (a9:jQ) (a10:jS):Option Bool :=
 (Ka a10 a0 a1 a2 a3 a4 a5 a6 a7 a8 a9).bind fun r2 =>
 some (!r2)
def yU (rec:(jT×Int×Int×jS)->Option (Unit⊕Int)) (x:(jT×Int×Int×jS)):Option (Unit⊕Int) :=
 cond (decide (x.2.2.1<x.2.1))
 ((gx x.1 x.2.2.1).bind fun e3 =>
  (sq e3.1 e3.2.1 e3.2.2.1 e3.2.2.2.1 e3.2.2.2.2.1 e3.2.2.2.2.2.1 e3.2.2.2.2.2.2.1 e3.2.2.2.2.2.2.2.1 e3.2.2.2.2.2.2.2.2.1 e3.2.2.2.2.2.2.2.2.2 x.2.2.2).bind fun r4 =>
  cond r4
  (some (aH x.2.2.1))
  (rec (x.1,x.2.1,(ag .i64 (x.2.2.1+1)),x.2.2.2)))
 (some (aU ()))
def tD (a0:jT) (a1:jS):Option Int :=
 ((lp yU ze) (a0,((af a0:Nat):Int),0,a1)).bind fun r8 =>
 yb r8
 (fun z9=>some (-1))
 (fun z10=>some z10)
def uE (a0:jT) (a1:jS):Option Bool :=
 (tD a0 a1).bind fun r2 =>
 some (decide (r2≥0))
def tQ (a0:jS) (a1:jT):Option Bool :=
 (Q2 a0).bind fun r3 =>
 cond r3
 (cond (decide (((af a1:Nat):Int)<=200))
  ((uE a1 a0).bind fun r4 =>
   some (!r4))
  (some false))
 (some false)
def Yy (a0:Int) (a1:Int) (a2:Int) (a3:Int) (a4:Int) (a5:Int) (a6:Int) (a7:jQ) (a8:jR) (a9:jQ):Option (Int×Int×Int×Int×Int×Int×Int) :=
 cond (a0==0)
 (some (a0,(-1),0,0,(-1),0,0))
 (cond (a0==1)
  (some (a0,a1,a2,0,a4,a5,0))
  (cond (a0==2)
   (some (a0,a1,a2,0,(-1),a5,0))
   (cond (a0==3)
    (some (a0,a1,a2,a3,a4,a5,a6))
    (cond (a0==4)
     (cond (a0==4)
      (some (a0,a1,a2,0,(-1),0,0))
      (cond (a0==5)
       (cond (a0==5)
        (some (a0,a1,0,0,a4,0,0))
        (some (a0,a1,0,0,(-1),0,0)))
       (cond (a0==6)
        (some (a0,a1,0,0,a4,0,0))
        (some (a0,a1,0,0,(-1),0,0)))))
     (cond (a0==7)
      (some (a0,a1,a2,0,(-1),0,0))
      (cond (a0==5)
       (cond (a0==5)
        (some (a0,a1,0,0,a4,0,0))
        (some (a0,a1,0,0,(-1),0,0)))
       (cond (a0==6)
        (some (a0,a1,0,0,a4,0,0))
        (some (a0,a1,0,0,(-1),0,0)))))))))
def vy (a0:Int) (a1:Int) (a2:Int) (a3:Int) (a4:Int) (a5:Int) (a6:Int) (a7:jQ) (a8:jR) (a9:jQ) (a10:Int) (a11:Int) (a12:Int) (a13:Int) (a14:Int) (a15:Int) (a16:Int) (a17:jQ) (a18:jR) (a19:jQ):Option Bool :=
 cond (a0==a10)
 (cond (a1==a11)
  (cond (a2==a12)
   (cond (a3==a13)
    (cond (a4==a14)
     (cond (a5==a15)
      (some (a6==a16))
      (some false))
     (some false))
    (some false))
   (some false))
  (some false))
 (some false)
def wE (rec:(jQ×Int×Int×jQ×jR×jQ)->Option (jQ×jR×jQ)) (x:(jQ×Int×Int×jQ×jR×jQ)):Option (jQ×jR×jQ) :=
 cond (decide (x.2.2.1<x.2.1))
 ((gx x.1 x.2.2.1).bind fun e19 =>
  (zD e19.2).bind fun r20 =>
  cond (yK (af x.2.2.2.2.2+af ([(e19.1,r20)]:List zc)) 32)
  (rec (x.1,x.2.1,(ag .i64 (x.2.2.1+1)),x.2.2.2.1,x.2.2.2.2.1,(x.2.2.2.2.2++([(e19.1,r20)]:List zc))))
  (none))
 (some (x.2.2.2.1,x.2.2.2.2.1,x.2.2.2.2.2))
def wI (rec:(jR×Int×Int×jQ×jR×jQ×jQ×jR)->Option (jQ×jR)) (x:(jR×Int×Int×jQ×jR×jQ×jQ×jR)):Option (jQ×jR) :=
 cond (decide (x.2.2.1<x.2.1))
 ((gx x.1 x.2.2.1).bind fun e12 =>
  (zD e12).bind fun r13 =>
  cond (yK (af x.2.2.2.2.2.2.2+af ([r13]:List jI)) 24)
  (rec (x.1,x.2.1,(ag .i64 (x.2.2.1+1)),x.2.2.2.1,x.2.2.2.2.1,x.2.2.2.2.2.1,x.2.2.2.2.2.2.1,(x.2.2.2.2.2.2.2++([r13]:List jI))))
  (none))
 (some (x.2.2.2.2.2.2.1,x.2.2.2.2.2.2.2))
def wG (rec:(jQ×Int×Int×jQ×jR×jQ×jQ)->Option jQ) (x:(jQ×Int×Int×jQ×jR×jQ×jQ)):Option jQ :=
 cond (decide (x.2.2.1<x.2.1))
 ((gx x.1 x.2.2.1).bind fun e5 =>
  (zD e5.2).bind fun r6 =>
  cond (yK (af x.2.2.2.2.2.2+af ([(e5.1,r6)]:List zc)) 32)
  (rec (x.1,x.2.1,(ag .i64 (x.2.2.1+1)),x.2.2.2.1,x.2.2.2.2.1,x.2.2.2.2.2.1,(x.2.2.2.2.2.2++([(e5.1,r6)]:List zc))))
  (none))
 (some x.2.2.2.2.2.2)
def ZR (a0:jQ) (a1:jR) (a2:jQ):Option (jQ×jR×jQ) :=
 ((lp wG ze) (a0,((af a0:Nat):Int),0,a0,a1,a2,([]:jQ))).bind fun r22 =>
 ((lp wI ze) (a1,((af a1:Nat):Int),0,a0,a1,a2,r22,([]:jR))).bind fun r23 =>
 ((lp wE ze) (a2,((af a2:Nat):Int),0,r23.1,r23.2,([]:jQ))).bind fun r24 =>
 some (r24.1,r24.2.1,r24.2.2)
def tx (a0:jQ) (a1:jR) (a2:jQ):Option (jQ×jR×jQ) :=
 (ZR a0 a1 a2).bind fun r2 =>
 some (r2.1,r2.2.1,r2.2.2)
def jh (a0:jQ) (a1:jR) (a2:jQ):Option Bool :=
 cond (((af a0:Nat):Int)==1)
 (cond (((af a1:Nat):Int)==0)
  (some (((af a2:Nat):Int)==0))
  (some false))
 (some false)
def xY (rec:((Option jI)×jI×Int×Int)->Option (Unit⊕Bool)) (x:((Option jI)×jI×Int×Int)):Option (Unit⊕Bool) :=
 cond (decide (x.2.2.2<x.2.2.1))
 ((gx (bM x.1 []) x.2.2.2).bind fun e3 =>
  (gx x.2.1 x.2.2.2).bind fun e4 =>
  cond (e3 != e4)
  (some (aH false))
  (rec (x.1,x.2.1,x.2.2.1,(ag .i64 (x.2.2.2+1)))))
 (some (aU ()))
def wX (a0:(Option jI)) (a1:jI):Option Bool :=
 cond (((af (bM a0 []):Nat):Int) != ((af a1:Nat):Int))
 (some false)
 (((lp xY ze) (a0,a1,((af (bM a0 []):Nat):Int),0)).bind fun r8 =>
  yb r8
  (fun z9=>some true)
  (fun z10=>some z10))
def qU (rec:(jS×jI×Int×jI×Int×Int×(List (Option jI)))->Option ((Int×(List (Option jI)))⊕(Bool×(List (Option jI))))) (x:(jS×jI×Int×jI×Int×Int×(List (Option jI)))):Option ((Int×(List (Option jI)))⊕(Bool×(List (Option jI)))) :=
 cond (decide (x.2.2.2.2.2.1<x.2.2.2.2.1))
 ((gx x.2.2.2.1 x.2.2.2.2.2.1).bind fun e17 =>
  cond (decide (x.2.2.1≥((af x.2.1:Nat):Int)))
  (some (aH (false,x.2.2.2.2.2.2)))
  (cond (decide (e17≥0))
   ((gx x.2.1 x.2.2.1).bind fun e18 =>
    cond (e18 != e17)
    (some (aH (false,x.2.2.2.2.2.2)))
    (rec (x.1,x.2.1,(ag .i64 (x.2.2.1+1)),x.2.2.2.1,x.2.2.2.2.1,(ag .i64 (x.2.2.2.2.2.1+1)),x.2.2.2.2.2.2)))
   ((wd x.1 x.2.1 x.2.2.1).bind fun r19 =>
    cond (!r19.2)
    (some (aH (false,x.2.2.2.2.2.2)))
    ((uh x.2.1 (some x.2.2.1) (some r19.1)).bind fun y20 =>
     (zQ e17).bind fun r21 =>
     (inR r21 24).bind fun k22 =>
     (x.2.2.2.2.2.2[k22]?).bind fun x23 =>
     cond (co x23)
     ((inR r21 24).bind fun k24 =>
      (x.2.2.2.2.2.2[k24]?).bind fun x25 =>
      (nn y20).bind fun p26 =>
      (inR r21 24).bind fun k27 =>
      ((bw x.2.2.2.2.2.2 k24 (some p26))[k27]?).bind fun x28 =>
      (wX x28 y20).bind fun r29 =>
      cond (!r29)
      (some (aH (false,(bw x.2.2.2.2.2.2 k24 (some p26)))))
      (rec (x.1,x.2.1,r19.1,x.2.2.2.1,x.2.2.2.2.1,(ag .i64 (x.2.2.2.2.2.1+1)),(bw x.2.2.2.2.2.2 k24 (some p26)))))
     ((inR r21 24).bind fun k30 =>
      (x.2.2.2.2.2.2[k30]?).bind fun x31 =>
      (wX x31 y20).bind fun r32 =>
      cond (!r32)
      (some (aH (false,x.2.2.2.2.2.2)))
      (rec (x.1,x.2.1,r19.1,x.2.2.2.1,x.2.2.2.2.1,(ag .i64 (x.2.2.2.2.2.1+1)),x.2.2.2.2.2.2)))))))
 (some (aU (x.2.2.1,x.2.2.2.2.2.2)))
def qM (a0:jS) (a1:jI) (a2:jI) (a3:(List (Option jI))):Option (Bool×(List (Option jI))) :=
 ((lp qU ze) (a0,a2,0,a1,((af a1:Nat):Int),0,a3)).bind fun r36 =>
 yb r36
 (fun z37=>cond (aA (af a3) (af z37.2)&&true)
  (some ((z37.1==((af a2:Nat):Int)),z37.2))
  (none))
 (fun z38=>cond (aA (af a3) (af z38.2)&&true)
  (some (z38.1,z38.2))
  (none))
def xJ (a0:Bool) (a1:jI) (a2:Bool) (a3:jI) (a4:jS):Option Bool :=
 cond (!(a0==a2))
 ((qM a4 a3 a1 (ax 24 (none:(Option jI)))).bind fun r2 =>
  some r2.1)
 (some false)
def yX (rec:(jQ×Int×Int×Bool×jI×jS)->Option (Unit⊕Int)) (x:(jQ×Int×Int×Bool×jI×jS)):Option (Unit⊕Int) :=
 cond (decide (x.2.2.1<x.2.1))
 ((gx x.1 x.2.2.1).bind fun e3 =>
  (xJ e3.1 e3.2 x.2.2.2.1 x.2.2.2.2.1 x.2.2.2.2.2).bind fun r4 =>
  cond r4
  (some (aH x.2.2.1))
  (rec (x.1,x.2.1,(ag .i64 (x.2.2.1+1)),x.2.2.2.1,x.2.2.2.2.1,x.2.2.2.2.2)))
 (some (aU ()))
def tz (a0:jQ) (a1:Bool) (a2:jI) (a3:jS):Option Int :=
 ((lp yX ze) (a0,((af a0:Nat):Int),0,a1,a2,a3)).bind fun r8 =>
 yb r8
 (fun z9=>some (-1))
 (fun z10=>some z10)
def yi (rec:(Int×Int×jQ×Bool×jI×jS)->Option (Int×jQ)) (x:(Int×Int×jQ×Bool×jI×jS)):Option (Int×jQ) :=
 cond (decide (x.2.1<((af x.2.2.1:Nat):Int)))
 ((inR x.2.1 (af x.2.2.1)).bind fun k12 =>
  (x.2.2.1[k12]?).bind fun x13 =>
  (xJ x13.1 x13.2 x.2.2.2.1 x.2.2.2.2.1 x.2.2.2.2.2).bind fun r14 =>
  cond (!r14)
  ((inR x.1 (af x.2.2.1)).bind fun k15 =>
   (x.2.2.1[k15]?).bind fun x16 =>
   rec ((ag .i64 (x.1+1)),(ag .i64 (x.2.1+1)),(bw x.2.2.1 k15 (x13.1,x13.2)),x.2.2.2.1,x.2.2.2.2.1,x.2.2.2.2.2))
  (rec (x.1,(ag .i64 (x.2.1+1)),x.2.2.1,x.2.2.2.1,x.2.2.2.2.1,x.2.2.2.2.2)))
 (some (x.1,x.2.2.1))
def vI (a0:jQ) (a1:Bool) (a2:jI) (a3:jS):Option jQ :=
 (tz a0 a1 a2 a3).bind fun r19 =>
 cond (r19==(-1))
 (some a0)
 (((lp yi ze) (r19,(ag .i64 (r19+1)),a0,a1,a2,a3)).bind fun r20 =>
  cond (decide (0<=r20.1))
  (cond (decide (r20.1<=((af r20.2:Nat):Int)))
   (cond (decide (((af r20.2:Nat):Int)<=((af r20.2:Nat):Int)))
    ((uh (BF (false,([]:jI)) r20.2 (0+bc r20.1) (bc ((af r20.2:Nat):Int) - bc r20.1)) none (some r20.1)).bind fun y21 =>
     some y21)
    (none))
   (none))
  (none))
def Km (a0:jS) (a1:Bool) (a2:jI) (a3:jQ) (a4:jR) (a5:jQ):Option (jQ×jR×Int×Int×jQ) :=
 (Qg a0 a1 a2).bind fun r6 =>
 cond (!r6)
 (some (([]:jQ),([]:jR),0,1600,([]:jQ)))
 ((qI a0 a3 a4 a5).bind fun r7 =>
  cond (!r7)
  (some (([]:jQ),([]:jR),0,1600,([]:jQ)))
  ((tx a3 a4 a5).bind fun r8 =>
   (vI r8.1 a1 a2 a0).bind fun r9 =>
   (xd a0 r9 r8.2.1 r8.2.2).bind fun r10 =>
   some (r10.1,r10.2.1,(ag .i64 (((af a3:Nat):Int) - ((af r9:Nat):Int))),0,r10.2.2.2)))
def rx (a0:jS) (a1:jI) (a2:jI):Option Bool :=
 (uO a0 a1 a2).bind fun r2 =>
 cond (r2.2==0)
 (some (r2.1==2))
 (some false)
def ry (rec:(jS×jR×Int×Int)->Option (Unit⊕(Bool×Int×jI×jI))) (x:(jS×jR×Int×Int)):Option (Unit⊕(Bool×Int×jI×jI)) :=
 cond (decide (x.2.2.2<x.2.2.1))
 ((gx x.2.1 x.2.2.2).bind fun e15 =>
  (gx x.2.1 (ag .i64 (1 - x.2.2.2))).bind fun e16 =>
  (rx x.1 e15 e16).bind fun r17 =>
  cond r17
  ((gx x.2.1 x.2.2.2).bind fun e18 =>
   (zD e18).bind fun r19 =>
   (gx x.2.1 (ag .i64 (1 - x.2.2.2))).bind fun e20 =>
   (zD e20).bind fun r21 =>
   some (aH (true,0,r19,r21)))
  (rec (x.1,x.2.1,x.2.2.1,(ag .i64 (x.2.2.2+1)))))
 (some (aU ()))
def Wg (a0:jS) (a1:jQ) (a2:jR) (a3:jQ):Option (Bool×Int×jI×jI) :=
 (qI a0 a1 a2 a3).bind fun r25 =>
 cond (!r25)
 (some (false,1600,([]:jI),([]:jI)))
 ((jh a1 a2 a3).bind fun r26 =>
  cond (!r26)
  (some (false,0,([]:jI),([]:jI)))
  ((gx a1 0).bind fun e27 =>
   cond e27.1
   (some (false,0,([]:jI),([]:jI)))
   ((gx a1 0).bind fun e28 =>
    (gx e28.2 0).bind fun e29 =>
    cond (e29 != 0)
    (some (false,0,([]:jI),([]:jI)))
    ((gx a1 0).bind fun e30 =>
     (uQ a0 e30.2).bind fun r31 =>
     ((lp ry ze) (a0,r31,((af r31:Nat):Int),0)).bind fun r32 =>
     yb r32
     (fun z33=>some (false,0,([]:jI),([]:jI)))
     (fun z34=>some (z34.1,z34.2.1,z34.2.2.1,z34.2.2.2))))))
def uH (a0:jS) (a1:jI) (a2:jI):Option Bool :=
 (tA a0 a1).bind fun r4 =>
 cond r4
 ((tA a0 a2).bind fun r5 =>
  cond r5
  ((rx a0 a1 a2).bind fun r6 =>
   some r6)
  (some false))
 (some false)
def qV (rec:(Int×(List (Option jI))×(List (Int×jI)))->Option ((List (Option jI))×(List (Int×jI)))) (x:(Int×(List (Option jI))×(List (Int×jI)))):Option ((List (Option jI))×(List (Int×jI))) :=
 cond (decide (x.1<24))
 ((inR x.1 24).bind fun k10 =>
  (x.2.1[k10]?).bind fun x11 =>
  cond (!(co x11))
  (cond (decide (((af (bM x11 []):Nat):Int)>1))
   ((zD (bM x11 [])).bind fun r12 =>
    cond (yK (af x.2.2+af ([(x.1,r12)]:List (Int×jI))) 32)
    (rec ((ag .i64 (x.1+1)),x.2.1,(x.2.2++([(x.1,r12)]:List (Int×jI)))))
    (none))
   ((gx (bM x11 []) 0).bind fun e13 =>
    (zQ x.1).bind fun r14 =>
    cond (e13 != r14)
    ((zD (bM x11 [])).bind fun r15 =>
     cond (yK (af x.2.2+af ([(x.1,r15)]:List (Int×jI))) 32)
     (rec ((ag .i64 (x.1+1)),x.2.1,(x.2.2++([(x.1,r15)]:List (Int×jI)))))
     (none))
    (rec ((ag .i64 (x.1+1)),x.2.1,x.2.2))))
  (rec ((ag .i64 (x.1+1)),x.2.1,x.2.2)))
 (some (x.2.1,x.2.2))
def vV (a0:(List (Option jI))):Option ((List (Int×jI))×(List (Option jI))) :=
 ((lp qV ze) (0,a0,([]:(List (Int×jI))))).bind fun r17 =>
 cond (aA (af a0) (af r17.1)&&true)
 (some (r17.2,r17.1))
 (none)
def zL (rec:(jS×jI×Int×Int×jI×jI)->Option (jI×Int×Bool)) (x:(jS×jI×Int×Int×jI×jI)):Option (jI×Int×Bool) :=
 cond (x.2.2.2.1==((af x.2.1:Nat):Int))
 (some (x.2.1,x.2.2.1,true))
 ((wd x.1 x.2.1 x.2.2.2.1).bind fun r12 =>
  (uh x.2.1 (some x.2.2.2.1) (some r12.1)).bind fun y13 =>
  (qM x.1 x.2.2.2.2.1 y13 (ax 24 (none:(Option jI)))).bind fun r14 =>
  cond (!r14.1)
  (rec (x.1,x.2.1,x.2.2.1,(ag .i64 (x.2.2.2.1+1)),x.2.2.2.2.1,x.2.2.2.2.2))
  (cond (x.2.2.1==100)
   (some (([]:jI),0,false))
   ((uh x.2.1 none (some x.2.2.2.1)).bind fun y15 =>
    (vV r14.2).bind fun r16 =>
    (Z6 r16.1 x.2.2.2.2.2).bind fun r17 =>
    (uh x.2.1 (some r12.1) none).bind fun y18 =>
    (vo ([y15,r17,y18]:List jI)).bind fun r19 =>
    cond (decide (((af r19:Nat):Int)>48))
    (some (([]:jI),0,false))
    (rec (x.1,r19,(ag .i64 (x.2.2.1+1)),0,x.2.2.2.2.1,x.2.2.2.2.2)))))
def ju (a0:jS) (a1:jI) (a2:jI) (a3:jI):Option (jI×Int×Bool) :=
 (zD a3).bind fun r25 =>
 cond (0==((af r25:Nat):Int))
 (some (r25,0,true))
 ((wd a0 r25 0).bind fun r26 =>
  cond (decide (0<=r26.1))
  (cond (decide (r26.1<=((af r25:Nat):Int)))
   ((qM a0 a1 (eE (bc r26.1 - bc 0) (eD 0 r25)) (ax 24 (none:(Option jI)))).bind fun r27 =>
    cond (!r27.1)
    ((((lp zL ze) (a0,r25,0,1,a1,a2))).bind fun r28 =>
     some (r28.1,r28.2.1,r28.2.2))
    (cond (decide (0<=0))
     (cond (decide (0<=((af r25:Nat):Int)))
      ((vV r27.2).bind fun r29 =>
       (Z6 r29.1 a2).bind fun r30 =>
       cond (decide (0<=r26.1))
       (cond (decide (r26.1<=((af r25:Nat):Int)))
        (cond (decide (((af r25:Nat):Int)<=((af r25:Nat):Int)))
         ((vo ([(eE (bc 0 - bc 0) (eD 0 r25)),r30,(eE (bc ((af r25:Nat):Int) - bc r26.1) (eD (0+bc r26.1) r25))]:List jI)).bind fun r31 =>
          cond (decide (((af r31:Nat):Int)>48))
          (some (([]:jI),0,false))
          ((((lp zL ze) (a0,r31,1,0,a1,a2))).bind fun r32 =>
           some (r32.1,r32.2.1,r32.2.2)))
         (none))
        (none))
       (none))
      (none))
     (none)))
   (none))
  (none))
def ve (rec:(jS×Int×Int×Int×jI×jI×jR×jQ×jQ)->Option ((Int×jR×jQ×jQ)⊕(Int×Int))) (x:(jS×Int×Int×Int×jI×jI×jR×jQ×jQ)):Option ((Int×jR×jQ×jQ)⊕(Int×Int)) :=
 cond (decide (x.2.2.2.1<x.2.2.1))
 ((inR x.2.2.2.1 (af x.2.2.2.2.2.2.2.2)).bind fun k18 =>
  (x.2.2.2.2.2.2.2.2[k18]?).bind fun x19 =>
  (uh x19.2 (some 1) none).bind fun y20 =>
  (ju x.1 x.2.2.2.2.1 x.2.2.2.2.2.1 y20).bind fun r21 =>
  cond (!r21.2.2)
  (some (aH (0,1601)))
  ((gx x19.2 0).bind fun e22 =>
   cond (yK (af ([e22]:List Int)+af r21.1) 8)
   ((inR x.2.2.2.1 (af x.2.2.2.2.2.2.2.2)).bind fun k23 =>
    (x.2.2.2.2.2.2.2.2[k23]?).bind fun x24 =>
    rec (x.1,(ag .i64 (x.2.1+r21.2.1)),x.2.2.1,(ag .i64 (x.2.2.2.1+1)),x.2.2.2.2.1,x.2.2.2.2.2.1,x.2.2.2.2.2.2.1,x.2.2.2.2.2.2.2.1,(bw x.2.2.2.2.2.2.2.2 k23 (x24.1,(([e22]:List Int)++r21.1)))))
   (none)))
 (some (aU (x.2.1,x.2.2.2.2.2.2.1,x.2.2.2.2.2.2.2.1,x.2.2.2.2.2.2.2.2)))
def Z7 (a0:jS) (a1:jI) (a2:jI) (a3:jQ) (a4:jR) (a5:jQ):Option (jQ×jR×Int×Int×jQ) :=
 (uH a0 a1 a2).bind fun r29 =>
 cond (!r29)
 (some (([]:jQ),([]:jR),0,1600,([]:jQ)))
 ((qI a0 a3 a4 a5).bind fun r30 =>
  cond (!r30)
  (some (([]:jQ),([]:jR),0,1600,([]:jQ)))
  ((tx a3 a4 a5).bind fun r31 =>
   ((lp ve ze) (a0,0,((af r31.1:Nat):Int),0,a1,a2,r31.2.1,r31.2.2,r31.1)).bind fun r32 =>
   yb r32
   (fun z33=>(xd a0 z33.2.2.2 z33.2.1 z33.2.2.1).bind fun r34 =>
    cond (r34.2.2.1 != 0)
    (some (([]:jQ),([]:jR),0,1601,([]:jQ)))
    (some (r34.1,r34.2.1,z33.1,0,r34.2.2.2)))
   (fun z35=>some (([]:jQ),([]:jR),z35.1,z35.2,([]:jQ)))))
def vJ (a0:jS) (a1:Int) (a2:jQ) (a3:jR) (a4:jQ) (a5:jQ) (a6:jR) (a7:jQ):Option (jQ×jR×Bool×jQ) :=
 cond (a1==6)
 ((jh a5 a6 a7).bind fun r6 =>
  cond (!r6)
  (some (([]:jQ),([]:jR),false,([]:jQ)))
  ((gx a5 0).bind fun e7 =>
   (Km a0 e7.1 e7.2 a2 a3 a4).bind fun r8 =>
   cond (r8.2.2.2.1==0)
   (some (r8.1,r8.2.1,(decide (r8.2.2.1>0)),r8.2.2.2.2))
   (some (r8.1,r8.2.1,false,r8.2.2.2.2))))
 ((Wg a0 a5 a6 a7).bind fun r9 =>
  cond (!r9.1)
  (some (([]:jQ),([]:jR),false,([]:jQ)))
  ((Z7 a0 r9.2.2.1 r9.2.2.2 a2 a3 a4).bind fun r10 =>
   cond (r10.2.2.2.1==0)
   (some (r10.1,r10.2.1,(decide (r10.2.2.1>0)),r10.2.2.2.2))
   (some (r10.1,r10.2.1,false,r10.2.2.2.2))))
def wA (a0:jS) (a1:Int) (a2:Int) (a3:Int) (a4:Int) (a5:Int) (a6:Int) (a7:Int) (a8:jQ) (a9:jR) (a10:jQ) (a11:jQ) (a12:jR) (a13:jQ) (a14:jQ) (a15:jR) (a16:jQ):Option (jQ×jR×Bool×jQ) :=
 cond (a1==1)
 ((sH a0 a11 a12 a13 a3 a14 a15 a16 a6).bind fun r11 =>
  cond r11.2.2.1
  (some (r11.1,r11.2.1,(r11.2.2.2.1==0),r11.2.2.2.2))
  (some (r11.1,r11.2.1,false,r11.2.2.2.2)))
 (cond (a1==2)
  ((ku a0 a11 a12 a13 a3 a6).bind fun r12 =>
   cond r12.2.2.1
   (some (r12.1,r12.2.1,(r12.2.2.2.1==0),r12.2.2.2.2))
   (some (r12.1,r12.2.1,false,r12.2.2.2.2)))
  (cond (a1==3)
   ((sc a0 a11 a12 a13 a3 a4 a14 a15 a16 a6 a7).bind fun r13 =>
    cond r13.2.2.1
    (some (r13.1,r13.2.1,(r13.2.2.2.1==0),r13.2.2.2.2))
    (some (r13.1,r13.2.1,false,r13.2.2.2.2)))
   (cond (a1==4)
    ((tE a0 a11 a12 a13 a3).bind fun r14 =>
     cond r14.2.2.1
     (some (r14.1,r14.2.1,(r14.2.2.2.1==0),r14.2.2.2.2))
     (some (r14.1,r14.2.1,false,r14.2.2.2.2)))
    (cond (a1==5)
     (cond (a1==5)
      ((vJ a0 a1 a11 a12 a13 a14 a15 a16).bind fun r15 =>
       some (r15.1,r15.2.1,r15.2.2.1,r15.2.2.2))
      (cond (a1==7)
       (cond (decide (a3<((af a11:Nat):Int)))
        ((gx a11 a3).bind fun e16 =>
         cond e16.1
         ((wQ a0 a11 a12 a13 a3).bind fun r17 =>
          cond e16.1
          (some (r17.1,r17.2.1,(r17.2.2.1==0),r17.2.2.2))
          (some (r17.1,r17.2.1,false,r17.2.2.2)))
         (cond e16.1
          (some (([]:jQ),([]:jR),true,([]:jQ)))
          (some (([]:jQ),([]:jR),false,([]:jQ)))))
        (some (([]:jQ),([]:jR),false,([]:jQ))))
       (some (([]:jQ),([]:jR),false,([]:jQ)))))
     (cond (a1==6)
      ((vJ a0 a1 a11 a12 a13 a14 a15 a16).bind fun r18 =>
       some (r18.1,r18.2.1,r18.2.2.1,r18.2.2.2))
      (cond (a1==7)
       (cond (decide (a3<((af a11:Nat):Int)))
        ((gx a11 a3).bind fun e19 =>
         cond e19.1
         ((wQ a0 a11 a12 a13 a3).bind fun r20 =>
          cond e19.1
          (some (r20.1,r20.2.1,(r20.2.2.1==0),r20.2.2.2))
          (some (r20.1,r20.2.1,false,r20.2.2.2)))
         (cond e19.1
          (some (([]:jQ),([]:jR),true,([]:jQ)))
          (some (([]:jQ),([]:jR),false,([]:jQ)))))
        (some (([]:jQ),([]:jR),false,([]:jQ))))
       (some (([]:jQ),([]:jR),false,([]:jQ)))))))))
def kx (a0:jS) (a1:jT) (a2:Int):Option (jQ×jR×Bool×jQ) :=
 (gx a1 a2).bind fun e25 =>
 (Yy e25.1 e25.2.1 e25.2.2.1 e25.2.2.2.1 e25.2.2.2.2.1 e25.2.2.2.2.2.1 e25.2.2.2.2.2.2.1 e25.2.2.2.2.2.2.2.1 e25.2.2.2.2.2.2.2.2.1 e25.2.2.2.2.2.2.2.2.2).bind fun r26 =>
 (vy r26.1 r26.2.1 r26.2.2.1 r26.2.2.2.1 r26.2.2.2.2.1 r26.2.2.2.2.2.1 r26.2.2.2.2.2.2 ([]:jQ) ([]:jR) ([]:jQ) e25.1 e25.2.1 e25.2.2.1 e25.2.2.2.1 e25.2.2.2.2.1 e25.2.2.2.2.2.1 e25.2.2.2.2.2.2.1 e25.2.2.2.2.2.2.2.1 e25.2.2.2.2.2.2.2.2.1 e25.2.2.2.2.2.2.2.2.2).bind fun r27 =>
 cond (!r27)
 (some (([]:jQ),([]:jR),false,([]:jQ)))
 (cond (e25.1==0)
  ((tx e25.2.2.2.2.2.2.2.1 e25.2.2.2.2.2.2.2.2.1 e25.2.2.2.2.2.2.2.2.2).bind fun r28 =>
   some (r28.1,r28.2.1,true,r28.2.2))
  (cond (decide (e25.2.1<0))
   (some (([]:jQ),([]:jR),false,([]:jQ)))
   (cond (decide (e25.2.1≥a2))
    (some (([]:jQ),([]:jR),false,([]:jQ)))
    (cond (e25.1==1)
     (cond (e25.1==1)
      (cond (decide (e25.2.2.2.2.1<0))
       (some (([]:jQ),([]:jR),false,([]:jQ)))
       (cond (decide (e25.2.2.2.2.1≥a2))
        (some (([]:jQ),([]:jR),false,([]:jQ)))
        ((gx a1 e25.2.2.2.2.1).bind fun e29 =>
         (gx a1 e25.2.1).bind fun e30 =>
         (wA a0 e25.1 e25.2.1 e25.2.2.1 e25.2.2.2.1 e25.2.2.2.2.1 e25.2.2.2.2.2.1 e25.2.2.2.2.2.2.1 e25.2.2.2.2.2.2.2.1 e25.2.2.2.2.2.2.2.2.1 e25.2.2.2.2.2.2.2.2.2 e30.2.2.2.2.2.2.2.1 e30.2.2.2.2.2.2.2.2.1 e30.2.2.2.2.2.2.2.2.2 e29.2.2.2.2.2.2.2.1 e29.2.2.2.2.2.2.2.2.1 e29.2.2.2.2.2.2.2.2.2).bind fun r31 =>
         cond (!r31.2.2.1)
         (some (([]:jQ),([]:jR),false,([]:jQ)))
         (some (r31.1,r31.2.1,true,r31.2.2.2)))))
      ((gx a1 e25.2.1).bind fun e32 =>
       (wA a0 e25.1 e25.2.1 e25.2.2.1 e25.2.2.2.1 e25.2.2.2.2.1 e25.2.2.2.2.2.1 e25.2.2.2.2.2.2.1 e25.2.2.2.2.2.2.2.1 e25.2.2.2.2.2.2.2.2.1 e25.2.2.2.2.2.2.2.2.2 e32.2.2.2.2.2.2.2.1 e32.2.2.2.2.2.2.2.2.1 e32.2.2.2.2.2.2.2.2.2 ([]:jQ) ([]:jR) ([]:jQ)).bind fun r33 =>
       cond (!r33.2.2.1)
       (some (([]:jQ),([]:jR),false,([]:jQ)))
       (some (r33.1,r33.2.1,true,r33.2.2.2))))
     (cond (e25.1==3)
      (cond (e25.1==3)
       (cond (decide (e25.2.2.2.2.1<0))
        (some (([]:jQ),([]:jR),false,([]:jQ)))
        (cond (decide (e25.2.2.2.2.1≥a2))
         (some (([]:jQ),([]:jR),false,([]:jQ)))
         ((gx a1 e25.2.2.2.2.1).bind fun e34 =>
          (gx a1 e25.2.1).bind fun e35 =>
          (wA a0 e25.1 e25.2.1 e25.2.2.1 e25.2.2.2.1 e25.2.2.2.2.1 e25.2.2.2.2.2.1 e25.2.2.2.2.2.2.1 e25.2.2.2.2.2.2.2.1 e25.2.2.2.2.2.2.2.2.1 e25.2.2.2.2.2.2.2.2.2 e35.2.2.2.2.2.2.2.1 e35.2.2.2.2.2.2.2.2.1 e35.2.2.2.2.2.2.2.2.2 e34.2.2.2.2.2.2.2.1 e34.2.2.2.2.2.2.2.2.1 e34.2.2.2.2.2.2.2.2.2).bind fun r36 =>
          cond (!r36.2.2.1)
          (some (([]:jQ),([]:jR),false,([]:jQ)))
          (some (r36.1,r36.2.1,true,r36.2.2.2)))))
       ((gx a1 e25.2.1).bind fun e37 =>
        (wA a0 e25.1 e25.2.1 e25.2.2.1 e25.2.2.2.1 e25.2.2.2.2.1 e25.2.2.2.2.2.1 e25.2.2.2.2.2.2.1 e25.2.2.2.2.2.2.2.1 e25.2.2.2.2.2.2.2.2.1 e25.2.2.2.2.2.2.2.2.2 e37.2.2.2.2.2.2.2.1 e37.2.2.2.2.2.2.2.2.1 e37.2.2.2.2.2.2.2.2.2 ([]:jQ) ([]:jR) ([]:jQ)).bind fun r38 =>
        cond (!r38.2.2.1)
        (some (([]:jQ),([]:jR),false,([]:jQ)))
        (some (r38.1,r38.2.1,true,r38.2.2.2))))
      (cond (e25.1==5)
       (cond (e25.1==5)
        (cond (decide (e25.2.2.2.2.1<0))
         (some (([]:jQ),([]:jR),false,([]:jQ)))
         (cond (decide (e25.2.2.2.2.1≥a2))
          (some (([]:jQ),([]:jR),false,([]:jQ)))
          ((gx a1 e25.2.2.2.2.1).bind fun e39 =>
           (gx a1 e25.2.1).bind fun e40 =>
           (wA a0 e25.1 e25.2.1 e25.2.2.1 e25.2.2.2.1 e25.2.2.2.2.1 e25.2.2.2.2.2.1 e25.2.2.2.2.2.2.1 e25.2.2.2.2.2.2.2.1 e25.2.2.2.2.2.2.2.2.1 e25.2.2.2.2.2.2.2.2.2 e40.2.2.2.2.2.2.2.1 e40.2.2.2.2.2.2.2.2.1 e40.2.2.2.2.2.2.2.2.2 e39.2.2.2.2.2.2.2.1 e39.2.2.2.2.2.2.2.2.1 e39.2.2.2.2.2.2.2.2.2).bind fun r41 =>
           cond (!r41.2.2.1)
           (some (([]:jQ),([]:jR),false,([]:jQ)))
           (some (r41.1,r41.2.1,true,r41.2.2.2)))))
        ((gx a1 e25.2.1).bind fun e42 =>
         (wA a0 e25.1 e25.2.1 e25.2.2.1 e25.2.2.2.1 e25.2.2.2.2.1 e25.2.2.2.2.2.1 e25.2.2.2.2.2.2.1 e25.2.2.2.2.2.2.2.1 e25.2.2.2.2.2.2.2.2.1 e25.2.2.2.2.2.2.2.2.2 e42.2.2.2.2.2.2.2.1 e42.2.2.2.2.2.2.2.2.1 e42.2.2.2.2.2.2.2.2.2 ([]:jQ) ([]:jR) ([]:jQ)).bind fun r43 =>
         cond (!r43.2.2.1)
         (some (([]:jQ),([]:jR),false,([]:jQ)))
         (some (r43.1,r43.2.1,true,r43.2.2.2))))
       (cond (e25.1==6)
        (cond (decide (e25.2.2.2.2.1<0))
         (some (([]:jQ),([]:jR),false,([]:jQ)))
         (cond (decide (e25.2.2.2.2.1≥a2))
          (some (([]:jQ),([]:jR),false,([]:jQ)))
          ((gx a1 e25.2.2.2.2.1).bind fun e44 =>
           (gx a1 e25.2.1).bind fun e45 =>
           (wA a0 e25.1 e25.2.1 e25.2.2.1 e25.2.2.2.1 e25.2.2.2.2.1 e25.2.2.2.2.2.1 e25.2.2.2.2.2.2.1 e25.2.2.2.2.2.2.2.1 e25.2.2.2.2.2.2.2.2.1 e25.2.2.2.2.2.2.2.2.2 e45.2.2.2.2.2.2.2.1 e45.2.2.2.2.2.2.2.2.1 e45.2.2.2.2.2.2.2.2.2 e44.2.2.2.2.2.2.2.1 e44.2.2.2.2.2.2.2.2.1 e44.2.2.2.2.2.2.2.2.2).bind fun r46 =>
           cond (!r46.2.2.1)
           (some (([]:jQ),([]:jR),false,([]:jQ)))
           (some (r46.1,r46.2.1,true,r46.2.2.2)))))
        ((gx a1 e25.2.1).bind fun e47 =>
         (wA a0 e25.1 e25.2.1 e25.2.2.1 e25.2.2.2.1 e25.2.2.2.2.1 e25.2.2.2.2.2.1 e25.2.2.2.2.2.2.1 e25.2.2.2.2.2.2.2.1 e25.2.2.2.2.2.2.2.2.1 e25.2.2.2.2.2.2.2.2.2 e47.2.2.2.2.2.2.2.1 e47.2.2.2.2.2.2.2.2.1 e47.2.2.2.2.2.2.2.2.2 ([]:jQ) ([]:jR) ([]:jQ)).bind fun r48 =>
         cond (!r48.2.2.1)
         (some (([]:jQ),([]:jR),false,([]:jQ)))
         (some (r48.1,r48.2.1,true,r48.2.2.2))))))))))
def Vi (a0:jS) (a1:jT) (a2:Int):Option (jQ×jR×Bool×Int×jQ) :=
 (tQ a0 a1).bind fun r3 =>
 cond (!r3)
 (some (([]:jQ),([]:jR),false,1800,([]:jQ)))
 (cond (decide (a2<0))
  (some (([]:jQ),([]:jR),false,1800,([]:jQ)))
  (cond (decide (a2≥((af a1:Nat):Int)))
   (some (([]:jQ),([]:jR),false,1800,([]:jQ)))
   ((kx a0 a1 a2).bind fun r4 =>
    some (r4.1,r4.2.1,r4.2.2.1,0,r4.2.2.2))))
def qY (rec:(jQ×jQ×Int×Int)->Option (Unit⊕Bool)) (x:(jQ×jQ×Int×Int)):Option (Unit⊕Bool) :=
 cond (decide (x.2.2.2<x.2.2.1))
 ((gx x.2.1 x.2.2.2).bind fun e4 =>
  (gx x.1 x.2.2.2).bind fun e5 =>
  (QY e4.1 e4.2 e5.1 e5.2).bind fun r6 =>
  cond (!r6)
  (some (aH false))
  (rec (x.1,x.2.1,x.2.2.1,(ag .i64 (x.2.2.2+1)))))
 (some (aU ()))
def vY (a0:jQ) (a1:jQ):Option Bool :=
 cond (((af a0:Nat):Int) != ((af a1:Nat):Int))
 (some false)
 (((lp qY ze) (a1,a0,((af a0:Nat):Int),0)).bind fun r10 =>
  yb r10
  (fun z11=>some true)
  (fun z12=>some z12))
def qm (rec:(jR×jR×Int×Int)->Option (Unit⊕Bool)) (x:(jR×jR×Int×Int)):Option (Unit⊕Bool) :=
 cond (decide (x.2.2.2<x.2.2.1))
 ((gx x.2.1 x.2.2.2).bind fun e4 =>
  (gx x.1 x.2.2.2).bind fun e5 =>
  (yR e4 e5).bind fun r6 =>
  cond (!r6)
  (some (aH false))
  (rec (x.1,x.2.1,x.2.2.1,(ag .i64 (x.2.2.2+1)))))
 (some (aU ()))
def uv (a0:jR) (a1:jR):Option Bool :=
 cond (((af a0:Nat):Int) != ((af a1:Nat):Int))
 (some false)
 (((lp qm ze) (a1,a0,((af a0:Nat):Int),0)).bind fun r10 =>
  yb r10
  (fun z11=>some true)
  (fun z12=>some z12))
def ZY (a0:jQ) (a1:jR) (a2:jQ) (a3:jQ) (a4:jR) (a5:jQ):Option Bool :=
 (vY a0 a3).bind fun r4 =>
 cond r4
 ((uv a1 a4).bind fun r5 =>
  cond r5
  ((vY a2 a5).bind fun r6 =>
   some r6)
  (some false))
 (some false)
def xU (rec:(jS×jT×Int×Int)->Option (Unit⊕(Int×Int))) (x:(jS×jT×Int×Int)):Option (Unit⊕(Int×Int)) :=
 cond (decide (x.2.2.2<x.2.2.1))
 ((kx x.1 x.2.1 x.2.2.2).bind fun r5 =>
  cond (!r5.2.2.1)
  (some (aH (x.2.2.2,0)))
  ((gx x.2.1 x.2.2.2).bind fun e6 =>
   (ZY r5.1 r5.2.1 r5.2.2.2 e6.2.2.2.2.2.2.2.1 e6.2.2.2.2.2.2.2.2.1 e6.2.2.2.2.2.2.2.2.2).bind fun r7 =>
   cond (!r7)
   (some (aH (x.2.2.2,0)))
   (rec (x.1,x.2.1,x.2.2.1,(ag .i64 (x.2.2.2+1))))))
 (some (aU ()))
def vQ (a0:jS) (a1:jT):Option (Int×Int) :=
 (tQ a0 a1).bind fun r11 =>
 cond (!r11)
 (some (0,1800))
 (((lp xU ze) (a0,a1,((af a1:Nat):Int),0)).bind fun r12 =>
  yb r12
  (fun z13=>some ((-1),0))
  (fun z14=>some (z14.1,z14.2)))
def Zt (rec:(Int×Int×jI)->Option jI) (x:(Int×Int×jI)):Option jI :=
 cond (decide (x.1<x.2.1))
 ((inR x.2.1 (af x.2.2)).bind fun k17 =>
  (x.2.2[k17]?).bind fun x18 =>
  (inR x.1 (af x.2.2)).bind fun k19 =>
  (x.2.2[k19]?).bind fun x20 =>
  (inR x.1 (af x.2.2)).bind fun k21 =>
  (x.2.2[k21]?).bind fun x22 =>
  (inR x.2.1 (af (bw x.2.2 k21 x18))).bind fun k23 =>
  ((bw x.2.2 k21 x18)[k23]?).bind fun x24 =>
  rec ((ag .i64 (x.1+1)),(ag .i64 (x.2.1 - 1)),(bw (bw x.2.2 k21 x18) k23 x20)))
 (some x.2.2)
def ra (a0:jI):Option jI :=
 ((lp Zt ze) (0,(ag .i64 (((af a0:Nat):Int) - 1)),a0)).bind fun r26 =>
 cond (!(List.isEmpty a0)&&true)
 (cond (aA (af a0) (af r26)&&true)
  (some r26)
  (none))
 (none)
def Wb (rec:(jT×Int×jI×Int×Int×(List Bool))->Option (List Bool)) (x:(jT×Int×jI×Int×Int×(List Bool))):Option (List Bool) :=
 cond (decide (x.2.2.2.2.1<x.2.2.2.1))
 ((gx x.2.2.1 x.2.2.2.2.1).bind fun e22 =>
  cond (decide (e22≥0))
  (cond (decide (e22<x.2.1))
   ((inR e22 (af x.2.2.2.2.2)).bind fun k23 =>
    (x.2.2.2.2.2[k23]?).bind fun x24 =>
    rec (x.1,x.2.1,x.2.2.1,x.2.2.2.1,(ag .i64 (x.2.2.2.2.1+1)),(bw x.2.2.2.2.2 k23 true)))
   (rec (x.1,x.2.1,x.2.2.1,x.2.2.2.1,(ag .i64 (x.2.2.2.2.1+1)),x.2.2.2.2.2)))
  (rec (x.1,x.2.1,x.2.2.1,x.2.2.2.1,(ag .i64 (x.2.2.2.2.1+1)),x.2.2.2.2.2)))
 (some x.2.2.2.2.2)
def Wu (rec:(jT×Int×jI×Int×Int×(List Bool))->Option (List Bool)) (x:(jT×Int×jI×Int×Int×(List Bool))):Option (List Bool) :=
 cond (decide (x.2.2.2.2.1<x.2.2.2.1))
 ((gx x.2.2.1 x.2.2.2.2.1).bind fun e11 =>
  cond (decide (e11≥0))
  (cond (decide (e11<x.2.1))
   ((inR e11 (af x.2.2.2.2.2)).bind fun k12 =>
    (x.2.2.2.2.2[k12]?).bind fun x13 =>
    rec (x.1,x.2.1,x.2.2.1,x.2.2.2.1,(ag .i64 (x.2.2.2.2.1+1)),(bw x.2.2.2.2.2 k12 true)))
   (rec (x.1,x.2.1,x.2.2.1,x.2.2.2.1,(ag .i64 (x.2.2.2.2.1+1)),x.2.2.2.2.2)))
  (rec (x.1,x.2.1,x.2.2.1,x.2.2.2.1,(ag .i64 (x.2.2.2.2.1+1)),x.2.2.2.2.2)))
 (some x.2.2.2.2.2)
def YE (rec:(jT×Int×(List Bool)×jI)->Option (Int×jI)) (x:(jT×Int×(List Bool)×jI)):Option (Int×jI) :=
 (inR x.2.1 (af x.2.2.1)).bind fun k28 =>
 (x.2.2.1[k28]?).bind fun x29 =>
 cond x29
 (cond (yK (af x.2.2.2+af ([x.2.1]:List Int)) 8)
  ((gx x.1 x.2.1).bind fun e30 =>
   (gx x.1 x.2.1).bind fun e31 =>
   ((lp Wb ze) (x.1,x.2.1,([e30.2.1,e31.2.2.2.2.1]:List Int),((af ([e30.2.1,e31.2.2.2.2.1]:List Int):Nat):Int),0,x.2.2.1)).bind fun r32 =>
   cond (decide ((ag .i64 (x.2.1 - 1))≥0))
   (rec (x.1,(ag .i64 (x.2.1 - 1)),r32,(x.2.2.2++([x.2.1]:List Int))))
   ((ra (x.2.2.2++([x.2.1]:List Int))).bind fun r33 =>
    some (0,r33)))
  (none))
 (cond (decide ((ag .i64 (x.2.1 - 1))≥0))
  (rec (x.1,(ag .i64 (x.2.1 - 1)),x.2.2.1,x.2.2.2))
  ((ra x.2.2.2).bind fun r34 =>
   some (0,r34)))
def GF (a0:jS) (a1:jT) (a2:Int):Option (Int×jI) :=
 (tQ a0 a1).bind fun r39 =>
 cond (!r39)
 (some (1800,([]:jI)))
 (cond (decide (a2<0))
  (some (1800,([]:jI)))
  (cond (decide (a2≥((af a1:Nat):Int)))
   (some (1800,([]:jI)))
   (cond (eqI (ag .i64 (a2+1)) (ag .i64 (a2+1)))
    (cond (Pv (ag .i64 (a2+1)))
     (cond (yK (bc (ag .i64 (a2+1))) 1)
      ((inR a2 (af (ax (bc (ag .i64 (a2+1))) false))).bind fun k40 =>
       ((ax (bc (ag .i64 (a2+1))) false)[k40]?).bind fun x41 =>
       (inR a2 (af (bw (ax (bc (ag .i64 (a2+1))) false) k40 true))).bind fun k42 =>
       ((bw (ax (bc (ag .i64 (a2+1))) false) k40 true)[k42]?).bind fun x43 =>
       cond x43
       (cond (yK (af ([a2]:List Int)) 8)
        ((gx a1 a2).bind fun e44 =>
         (gx a1 a2).bind fun e45 =>
         ((lp Wu ze) (a1,a2,([e44.2.1,e45.2.2.2.2.1]:List Int),((af ([e44.2.1,e45.2.2.2.2.1]:List Int):Nat):Int),0,(bw (ax (bc (ag .i64 (a2+1))) false) k40 true))).bind fun r46 =>
         cond (decide ((ag .i64 (a2 - 1))≥0))
         ((((lp YE ze) (a1,(ag .i64 (a2 - 1)),r46,([a2]:List Int)))).bind fun r47 =>
          some (r47.1,r47.2))
         ((ra ([a2]:List Int)).bind fun r48 =>
          some (0,r48)))
        (none))
       (cond (decide ((ag .i64 (a2 - 1))≥0))
        ((((lp YE ze) (a1,(ag .i64 (a2 - 1)),(bw (ax (bc (ag .i64 (a2+1))) false) k40 true),([]:jI)))).bind fun r49 =>
         some (r49.1,r49.2))
        (none)))
      (none))
     (none))
    (none))))
def XT:Option Bool :=
 (sQ).bind fun r25 =>
 (ZI).bind fun r26 =>
 (Vi r25 r26 2).bind fun r27 =>
 (sQ).bind fun r28 =>
 (ZI).bind fun r29 =>
 (vQ r28 r29).bind fun r30 =>
 (sQ).bind fun r31 =>
 (ZI).bind fun r32 =>
 (GF r31 r32 2).bind fun r33 =>
 (ZI).bind fun r34 =>
 (inR 2 (af r34)).bind fun k35 =>
 (r34[k35]?).bind fun x36 =>
 (sQ).bind fun r37 =>
 (vQ r37 (bw r34 k35 (x36.1,x36.2.1,x36.2.2.1,x36.2.2.2.1,x36.2.2.2.2.1,x36.2.2.2.2.2.1,x36.2.2.2.2.2.2.1,([]:jQ),([]:jR),([]:jQ)))).bind fun r38 =>
 (sQ).bind fun r39 =>
 (ZI).bind fun r40 =>
 (Vi r39 r40 3).bind fun r41 =>
 cond r27.2.2.1
 ((tl r27.2.2.2.1).bind fun r42 =>
  cond (r42==0)
  ((vw r27.1 r27.2.1 r27.2.2.2.2 ([]:jQ) ([([1]:List Int)]:List jI) ([]:jQ)).bind fun r43 =>
   cond r43
   (cond (r30.1==(-1))
    ((tl r30.2).bind fun r44 =>
     cond (r44==0)
     ((wS r33.2 ([0,1,2]:List Int)).bind fun r45 =>
      cond r45
      ((tl r33.1).bind fun r46 =>
       cond (r46==0)
       (cond (r38.1==2)
        ((tl r38.2).bind fun r47 =>
         cond (r47==0)
         ((tl r41.2.2.2.1).bind fun r48 =>
          some (r48==1800))
         (some false))
        (some false))
       (some false))
      (some false))
     (some false))
    (some false))
   (some false))
  (some false))
 (some false)
def qT (rec:(jS×jT×Int×Int×jI)->Option (Unit⊕Bool)) (x:(jS×jT×Int×Int×jI)):Option (Unit⊕Bool) :=
 cond (decide (x.2.2.1<((af x.2.1:Nat):Int)))
 ((gx x.2.1 x.2.2.1).bind fun e12 =>
  (yL x.1 e12.2.2.2.2.2.2.2.1 e12.2.2.2.2.2.2.2.2.1 e12.2.2.2.2.2.2.2.2.2).bind fun r13 =>
  (tl r13.1).bind fun r14 =>
  cond (r14 != 0)
  (some (aH false))
  ((Kl r13.2).bind fun r15 =>
   cond (!r15)
   (some (aH true))
   ((gx x.2.1 x.2.2.1).bind fun e16 =>
    (zy x.2.2.2.1 x.2.2.2.2 x.1 e16.2.2.2.2.2.2.2.1 e16.2.2.2.2.2.2.2.2.1 e16.2.2.2.2.2.2.2.2.2).bind fun r17 =>
    cond (!r17)
    ((gx x.2.1 x.2.2.1).bind fun e18 =>
     cond (e18.1 != 0)
     (some (aH false))
     (some (aH true)))
    (rec (x.1,x.2.1,(ag .i64 (x.2.2.1+1)),x.2.2.2.1,x.2.2.2.2)))))
 (some (aU ()))
def xL (a0:jS) (a1:jT) (a2:Int) (a3:jI):Option Bool :=
 (XT).bind fun r22 =>
 cond (!r22)
 (some false)
 ((vQ a0 a1).bind fun r23 =>
  (tl r23.2).bind fun r24 =>
  cond (r24 != 0)
  (some true)
  (cond (r23.1 != (-1))
   (some true)
   (cond (((af a3:Nat):Int)==0)
    (some true)
    ((V9 a2 a3).bind fun r25 =>
     ((lp qT ze) (a0,a1,0,r25.1,r25.2)).bind fun r26 =>
     yb r26
     (fun z27=>some true)
     (fun z28=>some z28)))))
def zI (s3:jS):List jU->Nat->Option (Unit⊕Int)
 | [],i=>some (aU ())
 | e::es,i =>
  (sq e.1 e.2.1 e.2.2.1 e.2.2.2.1 e.2.2.2.2.1 e.2.2.2.2.2.1 e.2.2.2.2.2.2.1 e.2.2.2.2.2.2.2.1 e.2.2.2.2.2.2.2.2.1 e.2.2.2.2.2.2.2.2.2 s3).bind fun r4 =>
  cond r4
  (some (aH (i:Int)))
  (zI s3 es (i+1))
theorem rH (s0:jT) (s3:jS) (hl:af s0<=maxLen):lp yU ze (s0,((af s0:Nat):Int),0,s3)=zI s3 s0 0:=sr yU (fun i=>(s0,((af s0:Nat):Int),i,s3)) (fun es i=>zI s3 es i) hl (fun r i h=>by unfold yU zI; simp only[h,cond_false]) (fun r i e es h g w k=>by unfold yU zI; simp only[h,cond_true,g,aa,w,k])
def yv (s3:jQ) (s4:jR):List zc->jQ->Option (jQ×jR×jQ)
 | [],s5=>some (s3,s4,s5)
 | e::es,s5 =>
  (zD e.2).bind fun r20 =>
  cond (yK (af s5+af ([(e.1,r20)]:List zc)) 32)
  (yv s3 s4 es (s5++([(e.1,r20)]:List zc)))
  (none)
theorem Ya (s0:jQ) (s3:jQ) (s4:jR) (s5:jQ) (hl:af s0<=maxLen):lp wE ze (s0,((af s0:Nat):Int),0,s3,s4,s5)=yv s3 s4 s0 s5:=x9 wE (fun i s5=>(s0,((af s0:Nat):Int),i,s3,s4,s5)) (fun es i s5=>yv s3 s4 es s5) hl (fun r i s5 h=>by unfold wE yv; simp only[h,cond_false]) (fun r i s5 e es h g w k=>by unfold wE yv; simp only[h,cond_true,g,aa,w,k]) s5
def yt (s6:jQ):List jI->jR->Option (jQ×jR)
 | [],s7=>some (s6,s7)
 | e::es,s7 =>
  (zD e).bind fun r13 =>
  cond (yK (af s7+af ([r13]:List jI)) 24)
  (yt s6 es (s7++([r13]:List jI)))
  (none)
theorem Yk (s0:jR) (s3:jQ) (s4:jR) (s5:jQ) (s6:jQ) (s7:jR) (hl:af s0<=maxLen):lp wI ze (s0,((af s0:Nat):Int),0,s3,s4,s5,s6,s7)=yt s6 s0 s7:=x9 wI (fun i s7=>(s0,((af s0:Nat):Int),i,s3,s4,s5,s6,s7)) (fun es i s7=>yt s6 es s7) hl (fun r i s7 h=>by unfold wI yt; simp only[h,cond_false]) (fun r i s7 e es h g w k=>by unfold wI yt; simp only[h,cond_true,g,aa,w,k]) s7
def yD:List zc->jQ->Option jQ
 | [],s6=>some s6
 | e::es,s6 =>
  (zD e.2).bind fun r6 =>
  cond (yK (af s6+af ([(e.1,r6)]:List zc)) 32)
  (yD es (s6++([(e.1,r6)]:List zc)))
  (none)
theorem Z0 (s0:jQ) (s3:jQ) (s4:jR) (s5:jQ) (s6:jQ) (hl:af s0<=maxLen):lp wG ze (s0,((af s0:Nat):Int),0,s3,s4,s5,s6)=yD s0 s6:=x9 wG (fun i s6=>(s0,((af s0:Nat):Int),i,s3,s4,s5,s6)) (fun es i s6=>yD es s6) hl (fun r i s6 h=>by unfold wG yD; simp only[h,cond_false]) (fun r i s6 e es h g w k=>by unfold wG yD; simp only[h,cond_true,g,aa,w,k]) s6
def zi (s0:jS) (s1:jI):List Int->Int->(List (Option jI))->Option ((Int×(List (Option jI)))⊕(Bool×(List (Option jI))))
 | [],s2,s6=>some (aU (s2,s6))
 | e::es,s2,s6 =>
  cond (decide (s2≥((af s1:Nat):Int)))
  (some (aH (false,s6)))
  (cond (decide (e≥0))
   ((gx s1 s2).bind fun e18 =>
    cond (e18 != e)
    (some (aH (false,s6)))
    (zi s0 s1 es (ag .i64 (s2+1)) s6))
   ((wd s0 s1 s2).bind fun r19 =>
    cond (!r19.2)
    (some (aH (false,s6)))
    ((uh s1 (some s2) (some r19.1)).bind fun y20 =>
     (zQ e).bind fun r21 =>
     (inR r21 24).bind fun k22 =>
     (s6[k22]?).bind fun x23 =>
     cond (co x23)
     ((inR r21 24).bind fun k24 =>
      (s6[k24]?).bind fun x25 =>
      (nn y20).bind fun p26 =>
      (inR r21 24).bind fun k27 =>
      ((bw s6 k24 (some p26))[k27]?).bind fun x28 =>
      (wX x28 y20).bind fun r29 =>
      cond (!r29)
      (some (aH (false,(bw s6 k24 (some p26)))))
      (zi s0 s1 es r19.1 (bw s6 k24 (some p26))))
     ((inR r21 24).bind fun k30 =>
      (s6[k30]?).bind fun x31 =>
      (wX x31 y20).bind fun r32 =>
      cond (!r32)
      (some (aH (false,s6)))
      (zi s0 s1 es r19.1 s6)))))
theorem uZ (s0:jS) (s1:jI) (s3:jI) (s2:Int) (s6:(List (Option jI))) (hl:af s3<=maxLen):lp qU ze (s0,s1,s2,s3,((af s3:Nat):Int),0,s6)=zi s0 s1 s3 s2 s6:=zbm qU (fun i s2 s6=>(s0,s1,s2,s3,((af s3:Nat):Int),i,s6)) (fun es i s2 s6=>zi s0 s1 es s2 s6) hl (fun r i s2 s6 h=>by unfold qU zi; simp only[h,cond_false]) (fun r i s2 s6 e es h g w k=>by unfold qU zi; simp only[h,cond_true,g,aa,w,k]) s2 s6
def zK (s3:Bool) (s4:jI) (s5:jS):List zc->Nat->Option (Unit⊕Int)
 | [],i=>some (aU ())
 | e::es,i =>
  (xJ e.1 e.2 s3 s4 s5).bind fun r4 =>
  cond r4
  (some (aH (i:Int)))
  (zK s3 s4 s5 es (i+1))
theorem rR (s0:jQ) (s3:Bool) (s4:jI) (s5:jS) (hl:af s0<=maxLen):lp yX ze (s0,((af s0:Nat):Int),0,s3,s4,s5)=zK s3 s4 s5 s0 0:=sr yX (fun i=>(s0,((af s0:Nat):Int),i,s3,s4,s5)) (fun es i=>zK s3 s4 s5 es i) hl (fun r i h=>by unfold yX zK; simp only[h,cond_false]) (fun r i e es h g w k=>by unfold yX zK; simp only[h,cond_true,g,aa,w,k])
def yl (s0:jQ):List zc->Nat->Option (Unit⊕Bool)
 | [],i=>some (aU ())
 | e::es,i =>
  (gx s0 (i:Int)).bind fun e5 =>
  (QY e.1 e.2 e5.1 e5.2).bind fun r6 =>
  cond (!r6)
  (some (aH false))
  (yl s0 es (i+1))
theorem jm (s0:jQ) (s1:jQ) (hl:af s1<=maxLen):lp qY ze (s0,s1,((af s1:Nat):Int),0)=yl s0 s1 0:=sr qY (fun i=>(s0,s1,((af s1:Nat):Int),i)) (fun es i=>yl s0 es i) hl (fun r i h=>by unfold qY yl; simp only[h,cond_false]) (fun r i e es h g w k=>by unfold qY yl; simp only[h,cond_true,g,aa,w,k])
def zU (s0:jR):List jI->Nat->Option (Unit⊕Bool)
 | [],i=>some (aU ())
 | e::es,i =>
  (gx s0 (i:Int)).bind fun e5 =>
  (yR e e5).bind fun r6 =>
  cond (!r6)
  (some (aH false))
  (zU s0 es (i+1))
theorem rW (s0:jR) (s1:jR) (hl:af s1<=maxLen):lp qm ze (s0,s1,((af s1:Nat):Int),0)=zU s0 s1 0:=sr qm (fun i=>(s0,s1,((af s1:Nat):Int),i)) (fun es i=>zU s0 es i) hl (fun r i h=>by unfold qm zU; simp only[h,cond_false]) (fun r i e es h g w k=>by unfold qm zU; simp only[h,cond_true,g,aa,w,k])
def yj (s0:jS) (s3:Int) (s4:jI):List jU->Option (Unit⊕Bool)
 | []=>some (aU ())
 | e::es =>
  (yL s0 e.2.2.2.2.2.2.2.1 e.2.2.2.2.2.2.2.2.1 e.2.2.2.2.2.2.2.2.2).bind fun r13 =>
  (tl r13.1).bind fun r14 =>
  cond (r14 != 0)
  (some (aH false))
  ((Kl r13.2).bind fun r15 =>
   cond (!r15)
   (some (aH true))
   ((zy s3 s4 s0 e.2.2.2.2.2.2.2.1 e.2.2.2.2.2.2.2.2.1 e.2.2.2.2.2.2.2.2.2).bind fun r17 =>
    cond (!r17)
    (cond (e.1 != 0)
     (some (aH false))
     (some (aH true)))
    (yj s0 s3 s4 es)))
theorem jl (s0:jS) (s1:jT) (s3:Int) (s4:jI) (hl:af s1<=maxLen):lp qT ze (s0,s1,0,s3,s4)=yj s0 s3 s4 s1:=sr qT (fun i=>(s0,s1,i,s3,s4)) (fun es i=>yj s0 s3 s4 es) hl (fun r i h=>by unfold qT yj; simp only[h,cond_false]) (fun r i e es h g w k=>by unfold qT yj; simp only[h,cond_true,g,aa,w,k])
theorem YL {o:Option jI} {ys:List Int} (hl:(o.getD []).length<=100000):wX o ys=some (decide (o.getD []=ys)):=by
 unfold wX;generalize ho:o.getD []=xs at hl;have go:∀(m i k:Nat),xs.length - i=m->m<k->xs.length=ys.length->lp xY k (o,ys,((xs.length:Nat):Int),(i:Int))=some (cond (decide (xs.drop i=ys.drop i)) (.inl ()) (.inr false)):=by
  intro m
  induction m with
  | zero =>
   intro i k hm hk hle;obtain⟨k,rfl⟩:∃ k',k=k'+1:=⟨k - 1,by omega⟩
   rw[zv];unfold xY;simp only;rw[decide_eq_false (show ¬((i:Int)<((xs.length:Nat):Int)) by omega),cond_false,cE (by omega),cE (by omega)]
   rfl
  | succ m ih =>
   intro i k hm hk hle;obtain⟨k,rfl⟩:∃ k',k=k'+1:=⟨k - 1,by omega⟩
   rw[zv];have ih:=ih (i+1) k (by omega) (by omega) hle
   generalize lp xY k=rec at ih ⊢;unfold xY;simp only[ho];have h1:i<xs.length:=by omega
   have h2:i<ys.length:=by omega
   rw[decide_eq_true (show (i:Int)<((xs.length:Nat):Int) by omega),cond_true,y8,y8,al h1,al h2,aa,aa,aY h1,aY h2]
   by_cases he:xs[i]=ys[i]
   ·rw[show (xs[i] != ys[i])=false from by simp [he],cond_false,show ag .i64 ((i:Int)+1)=((i+1:Nat):Int) by rw[zo]<;>omega,ih,he]
    congr 1
    have:decide (xs.drop (i+1)=ys.drop (i+1))=decide (ys[i]::xs.drop (i+1)=ys[i]::ys.drop (i+1)):=decide_eq_decide.2 ⟨fun h=>by rw[h],fun h=>by injection h⟩
    rw[this]
   ·rw[show (xs[i] != ys[i])=true from by simp [he],cond_true,decide_eq_false (fun h=>he (by injection h))]
    rfl
 by_cases hle:xs.length=ys.length
 ·rw[show (((af xs:Nat):Int) != ((af ys:Nat):Int))=false from by simp [hle],cond_false]
  have:=go xs.length 0 ze (by omega) (cO hl (by decide)) hle
  rw[show ((0:Int))=((0:Nat):Int) from rfl,this,bQ,bQ,aa]
  cases decide (xs=ys)<;>rfl
 ·rw[show (((af xs:Nat):Int) != ((af ys:Nat):Int))=true from by rw[bne_iff_ne]; omega,cond_true,decide_eq_false (fun h=>hle (by rw[h]))]
def TX (B:Bd) (x:Nat) (u:Tm):Bd:=fun y=>if y=x then some u else B y
def mt:Nat->List Tm->List Tm->Bd->Option Bd
 | _,[],bs,B=>match bs with
  | []=>some B
  | _::_=>none
 | 0,_::_,_,_=>none
 | n+1,.v x::as,bs,B=>match bs with
  | []=>none
  | u::bs=>match B x with
   | none=>mt n as bs (TX B x u)
   | some w=>if w.codes=u.codes then mt n as bs B else none
 | n+1,.f c ts::as,bs,B=>match bs with
  | .f d us::bs=>if c=d then mt n (ts++as) (us++bs) B else none
  | _=>none
structure RB (s:List (Option jI)) (B:Bd):Prop where
 len:s.length=24
 at':∀ v,v<24->s[v]? = some ((B v).map Tm.codes)
structure BOk (a0:List zg) (B:Bd):Prop where
 ok:∀ x t,B x=some t->t.ok a0 24∧t.codes.length<=1000
theorem RB.set {s:List (Option jI)} {B:Bd} (h:RB s B) {x:Nat} (hx:x<24) (u:Tm):RB (s.set x (some u.codes)) (TX B x u):=by
 refine ⟨by rw[bY]; exact h.len,fun v hv => ?_⟩
 unfold TX;by_cases he:v=x
 ·subst he; rw[if_pos rfl,bU (by rw[h.len]; exact hv)]; rfl
 ·rw[if_neg he,List.getElem?_set_ne (Ne.symm he)]; exact h.at' v hv
theorem BOk.set {a0:List zg} {B:Bd} (h:BOk a0 B) {x:Nat} {u:Tm} (hu:u.ok a0 24) (hl:u.codes.length<=1000):BOk a0 (TX B x u):=⟨fun y t ht=>by
 unfold TX at ht;by_cases he:y=x
 ·rw[if_pos he] at ht; injection ht with ht; subst ht; exact ⟨hu,hl⟩
 ·rw[if_neg he] at ht; exact h.ok y t ht⟩
def zfE (b:List Int) (o:Option Bd) (r:(Int×List (Option jI))⊕(Bool×List (Option jI))):Prop:=match o with
 | some B=>∃ s,r = .inl ((b.length:Int),s)∧RB s B
 | none=>(∃ s,r = .inr (false,s)∧s.length=24)∨∃ q s,r = .inl (q,s)∧q≠(b.length:Int)∧s.length=24
theorem W5 {a0:List zg} {N:Nat} {ts us:List Tm}:okR a0 N (ts++us)↔okR a0 N ts∧okR a0 N us:=by
 rw[vf,vf,vf];exact ⟨fun h=>⟨fun t ht=>h t (bk _ ht),fun t ht=>h t (bp _ ht)⟩,fun h t ht=>(aI.1 ht).elim (h.1 t) (h.2 t)⟩
theorem IF {a0:List zg} (hs:SignOk a0):(n:Nat)->(as bs:List Tm)->qJ as<=n->okR a0 24 as->okR a0 24 bs->(B:Bd)->BOk a0 B->(s:List (Option jI))->RB s B->(x:List Int)->(x++za bs).length<=1000 ->
  ∃ r,zi a0 (x++za bs) (za as) (x.length:Int) s=some r∧zfE (x++za bs) (mt n as bs B) r
 | n,[],bs,_,_,_,B,_,s,hR,x,hl=>by
  have e0:za ([]:List Tm)=[]:=rfl;rw[e0];unfold zi;refine ⟨_,rfl,?_⟩;cases bs with
  | nil=>unfold mt; exact ⟨s,by simp [za],hR⟩
  | cons u bs =>
   unfold mt;refine .inr ⟨_,s,rfl,?_,hR.len⟩;have:=vZ u;rw[am,za,am];omega
 | 0,t::as,bs,h,_,_,B,_,s,hR,x,hl=>by
  exfalso;unfold qJ at h;cases t with
  | v y=>unfold Tm.size at h; omega
  | f c ts=>unfold Tm.size at h; omega
 | n+1,.v y::as,[],h,hA,hB,B,hBo,s,hR,x,hl=>by
  unfold za Tm.codes;rw[List.singleton_append];unfold zi;rw[decide_eq_true (show (x.length:Int)≥(((x++([]:List Int)).length:Nat):Int) by simp),cond_true]
  exact ⟨_,rfl,.inl ⟨s,rfl,hR.len⟩⟩
 | n+1,.v y::as,u::bs,h,hA,hB,B,hBo,s,hR,x,hl=>by
  have hy:y<24:=hA.1;have hu:u.ok a0 24:=hB.1;have hup:=vZ u;have e1:x++za (u::bs)=x++u.codes++za bs:=by rw[za,aW]
  have e2:za (Tm.v y::as)=(-1 - (y:Int))::za as:=rfl;have hsz:qJ as<=n:=by unfold qJ Tm.size at h; omega
  rw[e1] at hl ⊢;rw[e2];have hl2:(x++u.codes++za bs).length=x.length+u.codes.length+(za bs).length:=by simp; omega
  have next:∀(B':Bd) (s':List (Option jI)),BOk a0 B'->RB s' B'->∃ r,zi a0 (x++u.codes++za bs) (za as) ((x.length+u.codes.length:Nat):Int) s'=some r∧zfE (x++u.codes++za bs) (mt n as bs B') r:=fun B' s' h1 h2=>by
   have:=IF hs n as bs hsz hA.2 hB.2 B' h1 s' h2 (x++u.codes) hl;rw[am] at this;exact this
  have hi:inR (y:Int) 24=some y:=ym hy;have hsy:=hR.at' y hy;unfold zi;rw[decide_eq_false (show ¬((x.length:Int)≥(((x++u.codes++za bs).length:Nat):Int)) by omega),cond_false,decide_eq_false (show ¬(-1 - (y:Int)≥0) by omega),cond_false,QR hs hu x _ hl,aa]
  simp only[az,cond_false];rw[AW,aa,qx (by omega) (by omega),show -1 - (-1 - (y:Int))=(y:Int) by omega,aa,hi,aa,hsy,aa]
  unfold mt;cases hb:B y with
  | none =>
   simp only[Option.map_none,Option.isNone_none,cond_true,aa];have hnn:nn u.codes=some u.codes:=by unfold nn; cases hc:u.codes with
    | nil=>rw[hc] at hup; exact absurd hup (by simp)
    | cons _ _=>rfl
   rw[hsy,aa,hnn,aa,bU (by rw[hR.len]; exact hy),aa,YL (by rw[bj]; omega),bj,decide_eq_true rfl,aa]
   simp only[az,cond_false];exact next _ _ (hBo.set hu (by omega)) (hR.set hy u)
  | some w =>
   have hw:=(hBo.ok y w hb).2;simp only[bD,cw,cond_false,aa];rw[hsy,aa,hb,bD,YL (by rw[bj]; omega),bj,aa]
   by_cases he:w.codes=u.codes
   ·rw[decide_eq_true he,if_pos he];simp only[az,cond_false];exact next _ _ hBo hR
   ·rw[decide_eq_false he,if_neg he];exact ⟨_,rfl,.inl ⟨s,rfl,hR.len⟩⟩
 | n+1,.f c ts::as,[],h,hA,hB,B,hBo,s,hR,x,hl=>by
  have e2:za (Tm.f c ts::as)=(c:Int)::(za ts++za as):=rfl;rw[e2];unfold zi;rw[decide_eq_true (show (x.length:Int)≥(((x++za []).length:Nat):Int) by simp [za]),cond_true]
  exact ⟨_,rfl,.inl ⟨s,rfl,hR.len⟩⟩
 | n+1,.f c ts::as,.v y::bs,h,hA,hB,B,hBo,s,hR,x,hl=>by
  have e2:za (Tm.f c ts::as)=(c:Int)::(za ts++za as):=rfl;have e1:za (Tm.v y::bs)=(-1 - (y:Int))::za bs:=rfl;rw[e1] at hl ⊢;rw[e2];unfold zi;rw[decide_eq_false (show ¬((x.length:Int)≥(((x++(-1 - (y:Int))::za bs).length:Nat):Int)) by simp; omega),cond_false,decide_eq_true (show (c:Int)≥0 by omega),cond_true,y8,QQ,aa,
   show ((-1 - (y:Int)) != (c:Int))=true from by rw[bne_iff_ne]; omega,cond_true]
  exact ⟨_,rfl,.inl ⟨s,rfl,hR.len⟩⟩
 | n+1,.f c ts::as,.f d us::bs,h,hA,hB,B,hBo,s,hR,x,hl=>by
  have e2:za (Tm.f c ts::as)=(c:Int)::za (ts++as):=by rw[uY]; rfl
  have e1:za (Tm.f d us::bs)=(d:Int)::za (us++bs):=by rw[uY]; rfl
  rw[e1] at hl ⊢;rw[e2];unfold zi;rw[decide_eq_false (show ¬((x.length:Int)≥(((x++(d:Int)::za (us++bs)).length:Nat):Int)) by simp; omega),cond_false,decide_eq_true (show (c:Int)≥0 by omega),cond_true,y8,QQ,aa]
  unfold mt;simp only;by_cases hcd:c=d
  ·subst hcd;rw[show (((c:Nat):Int) != ((c:Nat):Int))=false from by simp,cond_false,if_pos rfl]
   have e3:x++(c:Int)::za (us++bs)=(x++[(c:Int)])++za (us++bs):=by simp
   have hsz:qJ (ts++as)<=n:=by
    rw[Wr];unfold qJ Tm.size at h;omega
   have:=IF hs n (ts++as) (us++bs) hsz (W5.2 ⟨hA.1.2,hA.2⟩) (W5.2 ⟨hB.1.2,hB.2⟩) B hBo s hR (x++[(c:Int)]) (by rw[← e3]; exact hl)
   rw[← e3,am] at this;have hw:ag .i64 ((x.length:Int)+1)=((x.length+[(c:Int)].length:Nat):Int):=by
    rw[am] at hl;rw[aX,zo]<;>omega
   rw[hw];exact this
  ·rw[show (((d:Nat):Int) != ((c:Nat):Int))=true from by rw[bne_iff_ne]; omega,cond_true,if_neg hcd]
   exact ⟨_,rfl,.inl ⟨s,rfl,hR.len⟩⟩
def BLe (B B':Bd):Prop:=∀ x t,B x=some t->B' x=some t
def BSub (B:Bd) (σ:Sb):Prop:=∀ x t,B x=some t->σ x=t
theorem Wm {a0:List zg}:(n:Nat)->(as bs:List Tm)->okR a0 24 as->okR a0 24 bs->(∀ t∈bs,t.codes.length<=1000)->(B B':Bd)->BOk a0 B->mt n as bs B=some B'->BLe B B'∧(∀ σ,BSub B' σ->qO σ as=bs)∧(∀ x,jr x as->(B' x).isSome)∧∀ x,B x=none->(B' x).isSome->jr x as
 | n,[],bs,_,_,_,B,B',_,h=>by
  unfold mt at h;cases bs with
  | nil=>injection h with h; subst h; exact ⟨fun _ _ h=>h,fun _ _=>rfl,fun x hx=>(nomatch (rX.1 hx).choose_spec.1),fun x h1 h2=>by rw[h1] at h2; cases h2⟩
  | cons _ _=>cases h
 | 0,_::_,_,_,_,_,_,_,_,h=>by unfold mt at h; cases h
 | n+1,.v y::as,[],_,_,_,_,_,_,h=>by unfold mt at h; cases h
 | n+1,.v y::as,u::bs,hA,hB,hl,B,B',hBo,h=>by
  have hul:=hl u (aj ..);have hl':∀ t∈bs,t.codes.length<=1000:=fun t ht=>hl t (ai _ ht);unfold mt at h;have has:∀ x,jr x (.v y::as)↔x=y∨jr x as:=fun x=>by
   rw[rX,rX];constructor
   ·rintro⟨t,ht,hx⟩;rcases aG.1 ht with rfl | ht
    ·exact .inl (fQ hx)
    ·exact .inr ⟨t,ht,hx⟩
   ·rintro (h | ⟨t,ht,hx⟩)
    ·exact ⟨_,aj ..,fQ h⟩
    ·exact ⟨t,ai _ ht,hx⟩
  cases hb:B y with
  | none =>
   rw[hb] at h;simp only at h;obtain⟨h1,h2,h3,h4⟩:=Wm n as bs hA.2 hB.2 hl' _ _ (hBo.set hB.1 hul) h;have hy:B' y=some u:=h1 y u (by unfold TX; rw[if_pos rfl])
   refine ⟨fun x t hx=>h1 x t ?_,fun σ hσ => ?_,fun x hx => ?_,fun x hx1 hx2 => ?_⟩
   ·unfold TX;rw[if_neg (fun e=>by rw[e,hb] at hx; cases hx)]
    exact hx
   ·show σ y::qO σ as=_;rw[h2 σ hσ,hσ y u hy]
   ·rcases (has x).1 hx with rfl | hx
    ·rw[hy]; rfl
    ·exact h3 x hx
   ·rw[has];by_cases hxy:x=y
    ·exact .inl hxy
    ·exact .inr (h4 x (by unfold TX; rw[if_neg hxy]; exact hx1) hx2)
  | some w =>
   rw[hb] at h;simp only at h;split at h
   ·rename_i he;obtain⟨h1,h2,h3,h4⟩:=Wm n as bs hA.2 hB.2 hl' _ _ hBo h;have hy:B' y=some w:=h1 y w hb;refine ⟨h1,fun σ hσ => ?_,fun x hx => ?_,fun x hx1 hx2=>(has x).2 (.inr (h4 x hx1 hx2))⟩
    ·show σ y::qO σ as=_;rw[h2 σ hσ,hσ y w hy];rw[BD (hBo.ok y w hb).1 hB.1 he]
    ·rcases (has x).1 hx with rfl | hx
     ·rw[hy]; rfl
     ·exact h3 x hx
   ·cases h
 | n+1,.f c ts::as,[],_,_,_,_,_,_,h=>by unfold mt at h; cases h
 | n+1,.f c ts::as,.v y::bs,_,_,_,_,_,_,h=>by unfold mt at h; cases h
 | n+1,.f c ts::as,.f d us::bs,hA,hB,hl,B,B',hBo,h=>by
  unfold mt at h;simp only at h;by_cases hcd:c=d
  ·subst hcd;rw[if_pos rfl] at h;obtain⟨h1,h2,h3,h4⟩:=Wm n (ts++as) (us++bs) (W5.2 ⟨hA.1.2,hA.2⟩) (W5.2 ⟨hB.1.2,hB.2⟩) (fun t ht=>by
    rcases aI.1 ht with ht | ht
    ·have h1:=uR ht;have h2:=hl (.f c us) (aj ..);rw[Tm.codes,ak] at h2;omega
    ·exact hl t (ai _ ht)) _ _ hBo h
   have hlen:ts.length=us.length:=by
    have a:=hA.1.1;have b:=hB.1.1;rw[a] at b;injection b
   have has:∀ x,jr x (.f c ts::as)↔jr x (ts++as):=fun x=>by
    rw[rX,rX];constructor
    ·rintro⟨t,ht,hx⟩;rcases aG.1 ht with rfl | ht
     ·obtain⟨u,hu,hx⟩:=rX.1 (show jr x ts from hx)
      exact ⟨u,bk _ hu,hx⟩
     ·exact ⟨t,bp _ ht,hx⟩
    ·rintro⟨t,ht,hx⟩;rcases aI.1 ht with ht | ht
     ·exact ⟨_,aj ..,show jr x ts from rX.2 ⟨t,ht,hx⟩⟩
     ·exact ⟨t,ai _ ht,hx⟩
   refine ⟨h1,fun σ hσ => ?_,fun x hx=>h3 x ((has x).1 hx),fun x hx1 hx2=>(has x).2 (h4 x hx1 hx2)⟩;have h5:=h2 σ hσ;rw[PF] at h5;obtain⟨h6,h7⟩:=List.append_inj h5 (by rw[kQ]; exact hlen)
   show Tm.f c (qO σ ts)::qO σ as=_;rw[h6,h7]
  ·rw[if_neg hcd] at h; cases h
def sbB (B:Bd):Sb:=fun x=>(B x).getD (.v x)
theorem BSub.sb (B:Bd):BSub B (sbB B):=fun x t h=>by unfold sbB; rw[h]; rfl
def none24:List (Option jI):=ax 24 none
theorem RB.zero:RB none24 (fun _=>none):=⟨by unfold none24; simp,fun v hv=>by unfold none24; rw[List.getElem?_replicate,if_pos hv]; rfl⟩
theorem BOk.zero (a0:List zg):BOk a0 (fun _=>none):=⟨fun x t h=>nomatch h⟩
def Ab (B:Bd) (vs:List Nat):List (Int×List Int):=(vs.filter (moved (sbB B))).map fun v:Nat=>((v:Int),(sbB B v).codes)
theorem GQ {a0:List zg} {s:List (Option jI)} {B:Bd} (hR:RB s B) (hB:BOk a0 B):(m v k:Nat)->24 - v=m->m<k->v<=24->(out:List (Int×List Int))->out.length+m<=1000 ->
  lp qV k ((v:Int),s,out)=some (s,out++Ab B ((aL 24).drop v))
 | m,v,k,hm,hk,hv,out,hl=>by
  obtain⟨k,rfl⟩:∃ k',k=k'+1:=⟨k - 1,by omega⟩
  rw[zv];have ih:∀ m' out',m=m'+1->out'.length+m'<=1000->lp qV k (((v+1:Nat):Int),s,out')=some (s,out'++Ab B ((aL 24).drop (v+1))):=fun m' out' h h2=>by
   subst h;exact GQ hR hB m' (v+1) k (by omega) (by omega) (by omega) out' h2
  generalize lp qV k=rec at ih ⊢;unfold qV;simp only;by_cases h24:v<24
  ·have hd:(aL 24).drop v=v::(aL 24).drop (v+1):=by
    have:=aY (l:=aL 24) (i:=v) (by rw[List.length_range]; exact h24)
    rwa [List.getElem_range] at this
   have e0:∀ b,moved (sbB B) v=b->Ab B ((aL 24).drop v)=cond b [((v:Int),(sbB B v).codes)] []++Ab B ((aL 24).drop (v+1)):=fun b hb=>by
    rw[hd];unfold Ab;cases b with
    | true=>rw[dc hb,aK]; rfl
    | false=>rw[cQ (by rw[hb]; simp)]; rfl
   have hw:ag .i64 ((v:Int)+1)=((v+1:Nat):Int):=by rw[zo]<;>omega
   rw[decide_eq_true (show (v:Int)<24 by omega),cond_true,ym h24,aa,hR.at' v h24,aa,hw]
   obtain⟨m,rfl⟩:∃ m',m=m'+1:=⟨m - 1,by omega⟩
   cases hb:B v with
   | none =>
    have hm':moved (sbB B) v=false:=by unfold moved sbB; rw[hb]; simp
    rw[e0 false hm'];exact ih m out rfl (by omega)
   | some t =>
    have hs:sbB B v=t:=by unfold sbB; rw[hb]; rfl
    obtain⟨-,htl⟩:=hB.ok v t hb;simp only[bD,cw,bE,cond_true,bj];have put:moved (sbB B) v=true->(zD t.codes).bind (fun r12=>cond (yK (af out+af ([((v:Int),r12)]:List (Int×jI))) 32) (rec (((v+1:Nat):Int),s,(out++([((v:Int),r12)]:List (Int×jI))))) none)=some (s,out++Ab B ((aL 24).drop v)):=fun hm'=>by
     rw[yc (by omega),aa,zp (by simp; omega),cond_true,ih m _ rfl (by simp; omega),e0 true hm',hs,cond_true,aW]
    cases t with
    | f c ts =>
     have hm':moved (sbB B) v=true:=by unfold moved; rw[hs]
     by_cases h1:(((Tm.f c ts).codes.length:Nat):Int)>1
     ·rw[decide_eq_true h1,cond_true]; exact put hm'
     ·rw[decide_eq_false h1,cond_false];have hg:gx (Tm.f c ts).codes 0=some (c:Int):=by rw[z6]; rfl
      rw[hg,aa,qx (by omega) (by omega),aa,show ((c:Int) != -1 - (v:Int))=true from by rw[bne_iff_ne]; omega,cond_true]
      exact put hm'
    | v y =>
     have hg:gx (Tm.v y).codes 0=some (-1 - (y:Int)):=by rw[z6]; rfl
     rw[decide_eq_false (show ¬((((Tm.v y).codes.length:Nat):Int)>1) by simp [Tm.codes]),cond_false,hg,aa,qx (by omega) (by omega),aa]
     by_cases hy:y=v
     ·have hm':moved (sbB B) v=false:=by unfold moved; rw[hs]; simp [hy]
      rw[show ((-1 - (y:Int)) != -1 - (v:Int))=false from by rw[hy]; simp,cond_false,e0 false hm']
      exact ih m out rfl (by omega)
     ·have hm':moved (sbB B) v=true:=by unfold moved; rw[hs]; simpa using hy
      rw[show ((-1 - (y:Int)) != -1 - (v:Int))=true from by rw[bne_iff_ne]; omega,cond_true]
      exact put hm'
  ·have hv24:v=24:=by omega
   subst hv24;rw[decide_eq_false (by omega),cond_false]
   have:Ab B ((aL 24).drop 24)=[]:=by rw[show (aL 24).drop 24=[] from rfl]; rfl
   rw[this,bO]
theorem WM {a0:List zg} {s:List (Option jI)} {B:Bd} (hR:RB s B) (hB:BOk a0 B):vV s=some (te (sbB B),s):=by
 unfold vV;rw[show (0:Int)=((0:Nat):Int) from rfl,GQ hR hB 24 0 ze rfl (by decide) (by omega) [] (by simp),aa,cM]
 rfl
def mtR (as bs:List Tm):Option Bd:=mt (qJ as) as bs fun _=>none
theorem ZO {a0:List zg} (hs:SignOk a0) {as bs:List Tm} (hA:okR a0 24 as) (hB:okR a0 24 bs) (hl:(za as).length<=1000) (hl2:(za bs).length<=1000) :
  ∃ s,qM a0 (za as) (za bs) none24=some ((mtR as bs).isSome,s)∧∀ B,mtR as bs=some B->RB s B:=by
 obtain⟨r,h1,h2⟩:=IF hs (qJ as) as bs (aC _) hA hB _ (BOk.zero a0) _ RB.zero [] (by simpa using hl2)
 unfold qM;rw[uZ _ _ _ _ _ (by unfold maxLen; omega)]
 rw[bl,bm] at h1;rw[bl] at h2;rw[show (0:Int)=((0:Nat):Int) from rfl,h1,aa]
 have l24:none24.length=24:=by unfold none24; simp
 unfold mtR;cases hm:mt (qJ as) as bs fun _=>none with
 | some B =>
  rw[hm] at h2;obtain⟨s,rfl,hR⟩:=h2;refine ⟨s,?_,fun B' h=>by injection h with h; rw[← h]; exact hR⟩
  simp only[yb,l24,hR.len,cM,cJ,cond_true,beq_self_eq_true,dI]
 | none =>
  rw[hm] at h2;rcases h2 with ⟨s,rfl,hs24⟩ | ⟨q,s,rfl,hq,hs24⟩
  ·refine ⟨s,?_,fun B' h=>nomatch h⟩;simp only[yb,l24,hs24,cM,cJ,cond_true,cN]
  ·refine ⟨s,?_,fun B' h=>nomatch h⟩;simp only[yb,l24,hs24,cM,cJ,cond_true,cN];rw[show (q==((af (za bs):Nat):Int))=false from by rw[beq_eq_false_iff_ne]; exact hq]
theorem DL {a0:List zg}:(n:Nat)->(as bs:List Tm)->okR a0 24 as->okR a0 24 bs->(∀ t∈bs,t.codes.length<=1000)->(B B':Bd)->BOk a0 B->mt n as bs B=some B'->BOk a0 B'
 | n,[],bs,_,_,_,B,B',hBo,h=>by
  unfold mt at h;cases bs with
  | nil=>injection h with h; subst h; exact hBo
  | cons _ _=>cases h
 | 0,_::_,_,_,_,_,_,_,_,h=>by unfold mt at h; cases h
 | n+1,.v y::as,[],_,_,_,_,_,_,h=>by unfold mt at h; cases h
 | n+1,.v y::as,u::bs,hA,hB,hl,B,B',hBo,h=>by
  unfold mt at h;have hul:=hl u (aj ..);have hl':∀ t∈bs,t.codes.length<=1000:=fun t ht=>hl t (ai _ ht);cases hb:B y with
  | none =>
   rw[hb] at h;exact DL n as bs hA.2 hB.2 hl' _ _ (hBo.set hB.1 hul) h
  | some w =>
   rw[hb] at h;simp only at h;split at h
   ·exact DL n as bs hA.2 hB.2 hl' _ _ hBo h
   ·cases h
 | n+1,.f c ts::as,[],_,_,_,_,_,_,h=>by unfold mt at h; cases h
 | n+1,.f c ts::as,.v y::bs,_,_,_,_,_,_,h=>by unfold mt at h; cases h
 | n+1,.f c ts::as,.f d us::bs,hA,hB,hl,B,B',hBo,h=>by
  unfold mt at h;simp only at h;by_cases hcd:c=d
  ·rw[if_pos hcd] at h;exact DL n (ts++as) (us++bs) (W5.2 ⟨hA.1.2,hA.2⟩) (W5.2 ⟨hB.1.2,hB.2⟩) (fun t ht=>by
    rcases aI.1 ht with ht | ht
    ·have h1:=uR ht;have h2:=hl (.f d us) (aj ..);rw[Tm.codes,ak] at h2;omega
    ·exact hl t (ai _ ht)) _ _ hBo h
  ·rw[if_neg hcd] at h; cases h
inductive Step (a0:List zg) (l rr:Tm) (us:List Tm) (r:List Int):Nat->Option jI->Prop
 | stop:Step a0 l rr us r r.length none
 | skip (t:Tm) (x y:List Int) (p:Nat) (o:Option jI):t.ok a0 24->r=x++t.codes++y->x.length=p->mtR [l] [t]=none->Step a0 l rr us r (p+1) o->Step a0 l rr us r p o
 | here (t:Tm) (x y:List Int) (p:Nat) (B:Bd) (ws:List Tm):t.ok a0 24->r=x++t.codes++y->x.length=p->mtR [l] [t]=some B->RR t (rr.sub (sbB B)) us ws->za ws=x++(rr.sub (sbB B)).codes++y->Step a0 l rr us r p (some (za ws))
theorem Ec {a0:List zg} {l rr:Tm} {us:List Tm} (hu:okR a0 24 us):(m p:Nat)->(za us).length - p=m->p<=(za us).length->∃ o,Step a0 l rr us (za us) p o
 | m,p,hm,hp=>by
  rcases Nat.lt_or_ge p (za us).length with h | h
  ·obtain⟨t,ht,x,y,e1,e2,e3⟩:=Ta hu h;cases hB:mtR [l] [t] with
   | none =>
    obtain⟨o,ho⟩:=Ec (l:=l) (rr:=rr) hu (m - 1) (p+1) (by omega) h
    exact ⟨o,.skip t x y p o ht e1 e2 hB ho⟩
   | some B =>
    obtain⟨ws,g1,g2⟩:=e3 (rr.sub (sbB B));exact ⟨_,.here t x y p B ws ht e1 e2 hB g1 g2⟩
  ·have:p=(za us).length:=by omega
   rw[this];exact ⟨none,.stop⟩
termination_by m p=>(za us).length - p
theorem BX {a0:List zg} (hs:SignOk a0) {t:Tm} (ht:t.ok a0 24):∀ c∈t.codes,c<=1000000:=fun c hc=>by
 have h:=XH (t.sk_codes ht) c (by rw[List.take_length]; exact hc)
 have:=hs.len;omega
mutual
theorem Jr {σ:Sb} {x:Nat}:(t:Tm)->t.has x->(σ x).codes.length<=(t.sub σ).codes.length
 | .v y,h=>by
  have h:y=x:=h;subst h;exact aC _
 | .f c ts,h=>by
  have:=VF (σ:=σ) ts h;show _<=((c:Int)::za (qO σ ts)).length;rw[ak];omega
theorem VF {σ:Sb} {x:Nat}:(ts:List Tm)->jr x ts->(σ x).codes.length<=(za (qO σ ts)).length
 | [],h=>h.elim
 | t::ts,h=>by
  show _<=((t.sub σ).codes++za (qO σ ts)).length;rw[am];rcases h with h | h
  ·have:=Jr (σ:=σ) t h; omega
  ·have:=VF (σ:=σ) ts h; omega
end
theorem wv (t:Tm):za [t]=t.codes:=by simp [za]
theorem BI {a0:List zg} (hs:SignOk a0) {l rr:Tm} (hl:l.ok a0 24) (hr:rr.ok a0 24) (hrl:rr.codes.length<=48) {t:Tm} (ht:t.ok a0 24) (htl:t.codes.length<=48) {B:Bd} (hB:mtR [l] [t]=some B):BOk a0 B∧(∀ x,(sbB B x).codes.length<=48)∧(∀ x,x<24->(sbB B x).ok a0 24)∧Z6 (te (sbB B)) rr.codes=some (rr.sub (sbB B)).codes∧l.sub (sbB B)=t:=by
 have hBo:BOk a0 B:=DL _ [l] [t] ⟨hl,trivial⟩ ⟨ht,trivial⟩ (fun u hu=>by rw[bb.1 hu]; omega) _ _ (BOk.zero a0) hB
 obtain⟨h1,h2,h3,h4⟩:=Wm (a0:=a0) _ [l] [t] ⟨hl,trivial⟩ ⟨ht,trivial⟩ (fun u hu=>by rw[bb.1 hu]; omega) _ _ (BOk.zero a0) hB
 have hsub:=h2 (sbB B) (BSub.sb B);have hsub:l.sub (sbB B)=t:=by simpa[qO] using hsub
 have hvar:∀ x,l.has x->(sbB B x).codes.length<=t.codes.length:=fun x hx=>by
  rw[← hsub];exact Jr l hx
 have hlen:∀ x,(sbB B x).codes.length<=48:=fun x=>by
  by_cases hx:(B x).isSome
  ·have h5:=h4 x rfl hx;rw[rX] at h5;obtain⟨u,hu,h5⟩:=h5;rw[bb.1 hu] at h5;exact aT (hvar x h5) htl
  ·unfold sbB;rw[Option.not_isSome_iff_eq_none.1 hx];simp [Tm.codes]
 refine ⟨hBo,hlen,fun x hx => ?_,?_,hsub⟩
 ·unfold sbB;cases hb:B x with
  | none=>exact hx
  | some w=>exact (hBo.ok x w hb).1
 ·have hb:BindsOk (te (sbB B)):=by
   refine ⟨?_,fun b hb => ?_⟩
   ·unfold te;rw[aF];exact aT (dP _ _) (by simp)
   ·obtain⟨v,-,rfl⟩:=List.mem_map.1 hb;have:=vZ (sbB B v);have:=hlen v;exact ⟨fun h=>by simp only at h; rw[h] at this; simp_all,by simp only; omega⟩
  have hc:=Zh hr;have hcr:∀ c∈rr.codes,-1000000<=c∧c<=1000000:=fun c hcm=>by
   have h1:=(hc c hcm).1;have h2:=BX hs hr c hcm;omega
  rw[ko hb (by omega) hcr,Ah rr fun c hcm=>(hc c hcm).1]
theorem N9 {f:Int->List Int} {n:Nat}:(cs:List Int)->(∀ c∈cs,(f c).length<=n)->(cs.flatMap f).length<=cs.length*n
 | [],_=>bN _
 | c::cs,h=>by
  have h1:=h c (aj ..);have h2:=N9 cs fun x hx=>h x (ai _ hx);rw[List.flatMap_cons,am,ak,Nat.add_mul,Nat.one_mul];omega
theorem Ng {rr:Tm} (hrl:rr.codes.length<=48) {σ:Sb} (h:∀ x,(σ x).codes.length<=48):(rr.sub σ).codes.length<=48*48:=by
 rw[Tm.codes_sub];refine aT (N9 (n:=48) rr.codes fun c _ => ?_) (Nat.mul_le_mul_right 48 hrl);unfold Yt;split
 ·exact h _
 ·simp
theorem IO {α β γ:Type} (o:Option (α×β×γ)):(o.bind fun r=>some (r.1,r.2.1,r.2.2))=o:=by cases o<;>rfl
inductive Rew (a0:List zg) (l rr:Tm):List Tm->Nat->List Int×Int×Bool->Prop
 | stop (us:List Tm) (n:Nat):Step a0 l rr us (za us) 0 none->Rew a0 l rr us n (za us,(n:Int),true)
 | full (us:List Tm) (n:Nat) (r:List Int):Step a0 l rr us (za us) 0 (some r)->n=100∨48<r.length->Rew a0 l rr us n ([],0,false)
 | next (us ws:List Tm) (n:Nat) (σ:Sb) (res:List Int×Int×Bool):Step a0 l rr us (za us) 0 (some (za ws))->n≠100->(za ws).length<=48->(∀ x,x<24->(σ x).ok a0 24)->RR (l.sub σ) (rr.sub σ) us ws->okR a0 24 ws->Rew a0 l rr ws (n+1) res->Rew a0 l rr us n res
theorem Pb {a0:List zg} (hs:SignOk a0) {l rr:Tm} (hl:l.ok a0 24) (hr:rr.ok a0 24) (hrl:rr.codes.length<=48) {us:List Tm} (hu:okR a0 24 us) (hul:(za us).length<=48) {p:Nat} {r':List Int} {o:Option jI} (h:Step a0 l rr us (za us) p o) (ho:o=some r') :
  ∃(ws:List Tm) (σ:Sb),r'=za ws∧(∀ x,x<24->(σ x).ok a0 24)∧RR (l.sub σ) (rr.sub σ) us ws∧okR a0 24 ws:=by
 induction h with
 | stop=>cases ho
 | skip t x y p o ht e1 e2 e3 e4 ih=>exact ih ho
 | here t x y p B ws ht e1 e2 e3 e4 e5 =>
  injection ho with ho;have htl:t.codes.length<=48:=by rw[e1] at hul; simp only[am] at hul; omega
  obtain⟨h1,h2,h3,h4,h5⟩:=BI hs hl hr hrl ht htl e3;refine ⟨ws,sbB B,ho.symm,h3,by rw[h5]; exact e4,e4.ok ?_ hu⟩
  exact Tm.ok_sub rr hr fun x hx=>h3 x (wZ [rr] ⟨hr,trivial⟩ (.inl hx))
theorem HN {a0:List zg} (hs:SignOk a0) {l rr:Tm} (hl:l.ok a0 24) (hr:rr.ok a0 24) (hrl:rr.codes.length<=48):(m n:Nat)->100 - n=m->n<=100->(us:List Tm)->okR a0 24 us->(za us).length<=48->∃ res,Rew a0 l rr us n res
 | m,n,hm,hn,us,hu,hul=>by
  obtain⟨o,ho⟩:=Ec (l:=l) (rr:=rr) hu (za us).length 0 (Nat.sub_zero _) (bN _);cases o with
  | none=>exact ⟨_,.stop us n ho⟩
  | some r' =>
   by_cases h100:n=100
   ·exact ⟨_,.full us n r' ho (.inl h100)⟩
   by_cases h48:48<r'.length
   ·exact ⟨_,.full us n r' ho (.inr h48)⟩
   obtain⟨ws,σ,rfl,h1,h2,h3⟩:=Pb hs hl hr hrl hu hul ho rfl;obtain⟨res,h4⟩:=HN hs hl hr hrl (m - 1) (n+1) (by omega) (by omega) ws h3 (by omega)
   exact ⟨res,.next us ws n σ res ho h100 (by omega) h1 h2 h3 h4⟩
section
variable {a0:List zg} (hs:SignOk a0) {l rr:Tm} (hl:l.ok a0 24) (hr:rr.ok a0 24) (hll:l.codes.length<=48) (hrl:rr.codes.length<=48)
include hs hl hr hll hrl
theorem QX {us:List Tm} (hul:(za us).length<=48) {n:Nat} (hn:n<=100) {t:Tm} {x y:List Int} (ht:t.ok a0 24) (e1:za us=x++t.codes++y) (k:Nat) :
  (∀ B (ws:List Tm),mtR [l] [t]=some B->za ws=x++(rr.sub (sbB B)).codes++y->lp zL (k+1) (a0,za us,(n:Int),(x.length:Int),l.codes,rr.codes)=cond (n==100) (some ([],0,false)) (cond (decide ((za ws).length>48)) (some ([],0,false)) (lp zL k (a0,za ws,((n+1:Nat):Int),((0:Nat):Int),l.codes,rr.codes)))) ∧
  (mtR [l] [t]=none->lp zL (k+1) (a0,za us,(n:Int),(x.length:Int),l.codes,rr.codes)=lp zL k (a0,za us,(n:Int),((x.length+1:Nat):Int),l.codes,rr.codes)):=by
 have htp:=vZ t;have hul2:(x++t.codes++y).length<=48:=by rw[← e1]; exact hul
 have hlen:(x++t.codes++y).length=x.length+t.codes.length+y.length:=by simp only[am]
 have htl:t.codes.length<=48:=by omega
 obtain⟨s,g1,g2⟩:=ZO hs (as:=[l]) (bs:=[t]) ⟨hl,trivial⟩ ⟨ht,trivial⟩ (by rw[wv]; omega) (by rw[wv]; omega)
 rw[wv,wv] at g1;rw[zv,e1];generalize lp zL k=rec;unfold zL;simp only;rw[show ((x.length:Int)==(((x++t.codes++y).length:Nat):Int))=false from by rw[beq_eq_false_iff_ne]; omega,cond_false,QR hs ht x y (by omega),aa]
 simp only;rw[AW,aa];rw[show ax 24 (none:Option jI)=none24 from rfl,g1,aa]
 constructor
 ·intro B ws hB hws;have hR:=g2 B hB;obtain⟨h1,h2,h3,h4,h5⟩:=BI hs hl hr hrl ht htl hB;have hcl:(za ws).length=x.length+(rr.sub (sbB B)).codes.length+y.length:=by rw[hws]; simp only[am]
  have hsl:(rr.sub (sbB B)).codes.length<=48*48:=Ng hrl h2;simp only[hB,dI,az,cond_false];rw[show ((n:Int)==100)=(n==100) from by rw[Bool.eq_iff_iff,beq_iff_eq,beq_iff_eq]; omega]
  cases n==100 with
  | true=>rfl
  | false =>
   simp only[cond_false];rw[Dp,aa,WM hR h1,aa,h4,aa,Ep,aa,AN (by omega),aa,← hws,show ag .i64 ((n:Int)+1)=((n+1:Nat):Int) by rw[zo]<;>omega]
   by_cases h48:(za ws).length>48
   ·rw[decide_eq_true h48,decide_eq_true (show (((za ws).length:Nat):Int)>48 by omega)]
    rfl
   ·rw[decide_eq_false h48,decide_eq_false (show ¬((((za ws).length:Nat):Int)>48) by omega)]
    rfl
 ·intro hB;simp only[hB,cN,bE,cond_true];rw[show ag .i64 ((x.length:Int)+1)=((x.length+1:Nat):Int) by rw[zo]<;>omega]
theorem K9 {us:List Tm} (hul:(za us).length<=48) {n:Nat} (hn:n<=100) {p:Nat} {o:Option jI} (h:Step a0 l rr us (za us) p o):p<=(za us).length∧∀ k,(za us).length - p<k ->
  (o=none->lp zL k (a0,za us,(n:Int),(p:Int),l.codes,rr.codes)=some (za us,(n:Int),true)) ∧
  ∀ r',o=some r'->∃ k',k<=k'+1+((za us).length - p)∧lp zL k (a0,za us,(n:Int),(p:Int),l.codes,rr.codes)=cond (n==100) (some ([],0,false)) (cond (decide (r'.length>48)) (some ([],0,false)) (lp zL k' (a0,r',((n+1:Nat):Int),((0:Nat):Int),l.codes,rr.codes))):=by
 induction h with
 | stop =>
  refine ⟨aC _,fun k hk=>⟨fun _ => ?_,fun r' h=>nomatch h⟩⟩;obtain⟨k,rfl⟩:∃ k',k=k'+1:=⟨k - 1,by omega⟩
  rw[zv];unfold zL;simp only[beq_self_eq_true,cond_true]
 | skip t x y p o ht e1 e2 e3 e4 ih =>
  subst e2;have htp:=vZ t;have hlen:(za us).length=x.length+t.codes.length+y.length:=by rw[e1]; simp only[am]
  refine ⟨by omega,fun k hk => ?_⟩
  obtain⟨k,rfl⟩:∃ k',k=k'+1:=⟨k - 1,by omega⟩
  have h1:=(QX hs hl hr hll hrl hul hn ht e1 k).2 e3;obtain⟨h2,h3⟩:=ih.2 k (by omega)
  rw[h1];refine ⟨h2,fun r' hr' => ?_⟩;obtain⟨k',h4,h5⟩:=h3 r' hr';exact ⟨k',by omega,h5⟩
 | here t x y p B ws ht e1 e2 e3 e4 e5 =>
  subst e2;have htp:=vZ t;have hlen:(za us).length=x.length+t.codes.length+y.length:=by rw[e1]; simp only[am]
  refine ⟨by omega,fun k hk=>⟨fun h=>(nomatch h),fun r' hr' => ?_⟩⟩
  injection hr' with hr';subst hr';obtain⟨k,rfl⟩:∃ k',k=k'+1:=⟨k - 1,by omega⟩
  exact ⟨k,by omega,(QX hs hl hr hll hrl hul hn ht e1 k).1 B ws e3 e5⟩
theorem RX {us:List Tm} (hul:(za us).length<=48) {n:Nat} (hn:n<=100) {res:List Int×Int×Bool} (h:Rew a0 l rr us n res):∀ k,60*(101 - n)<k->lp zL k (a0,za us,(n:Int),((0:Nat):Int),l.codes,rr.codes)=some res:=by
 induction h with
 | stop us n h1 =>
  intro k hk;exact ((K9 hs hl hr hll hrl hul hn h1).2 k (by omega)).1 rfl
 | full us n r h1 h2 =>
  intro k hk;obtain⟨k',-,h3⟩:=((K9 hs hl hr hll hrl hul hn h1).2 k (by omega)).2 r rfl
  rw[h3];rcases h2 with rfl | h2
  ·rfl
  ·rw[decide_eq_true h2];cases n==100<;>rfl
 | next us ws n σ res h1 h2 h3 h4 h5 h6 h7 ih =>
  intro k hk;obtain⟨k',h8,h9⟩:=((K9 hs hl hr hll hrl hul hn h1).2 k (by omega)).2 _ rfl
  rw[h9,show (n==100)=false from by simpa using h2,decide_eq_false (by omega)]
  exact ih h3 (by omega) k' (by omega)
theorem Fc {us:List Tm} (hul:(za us).length<=48) {res:List Int×Int×Bool} (h:Rew a0 l rr us 0 res):ju a0 l.codes rr.codes (za us)=some res:=by
 have key:=RX hs hl hr hll hrl hul (bN 100) h (ze+1) (Nat.lt_succ_of_lt (by decide))
 rw[← key];unfold ju;rw[yc (by omega),aa]
 have hstep:∃ o,Step a0 l rr us (za us) 0 o:=by cases h with
  | stop _ _ h=>exact ⟨_,h⟩
  | full _ _ _ h=>exact ⟨_,h⟩
  | next _ _ _ _ _ h=>exact ⟨_,h⟩
 obtain⟨o,ho⟩:=hstep;generalize hr0:za us=r0 at ho;generalize hp0:(0:Nat)=p0 at ho;cases ho with
 | stop =>
  have h0:r0=[]:=ba hp0.symm;rw[h0,zv];rfl
 | skip t x y _ _ ht e1 e2 e3 e4 =>
  subst hp0;have hx:x=[]:=ba e2;subst hx;have htp:=vZ t;have e1':za us=[]++t.codes++y:=hr0.trans e1;have h1:=(QX hs hl hr hll hrl hul (bN 100) ht e1' ze).2 e3;have hlen:r0.length=t.codes.length+y.length:=by rw[e1]; simp
  have hul':r0.length<=48:=by rw[← hr0]; exact hul
  have hsk:=QR hs ht [] y (by rw[← e1]; omega)
  rw[← e1] at hsk;have hsk:wd a0 r0 0=some (((t.codes.length:Nat):Int),true):=by simpa using hsk
  obtain⟨s,g1,-⟩:=ZO hs (as:=[l]) (bs:=[t]) ⟨hl,trivial⟩ ⟨ht,trivial⟩ (by rw[wv]; omega) (by rw[wv]; omega)
  rw[wv,wv,e3] at g1;rw[show (0==((af r0:Nat):Int))=false from by rw[beq_eq_false_iff_ne]; omega,cond_false,hsk,aa]
  simp only;rw[decide_eq_true (show (0:Int)<=((t.codes.length:Nat):Int) by omega),cond_true,decide_eq_true (show ((t.codes.length:Nat):Int)<=((af r0:Nat):Int) by omega),cond_true]
  have htk:eE (bc ((t.codes.length:Nat):Int) - bc 0) (eD 0 r0)=t.codes:=by rw[e1]; simp
  rw[htk,show ax 24 (none:Option jI)=none24 from rfl,g1,aa]
  simp only[cN,bE,cond_true];rw[hr0] at h1;refine iD ?_ h1.symm;exact IO _
 | here t x y _ B ws ht e1 e2 e3 e4 e5 =>
  subst hp0;have hx:x=[]:=ba e2;subst hx;have htp:=vZ t;have e1':za us=[]++t.codes++y:=hr0.trans e1;have h1:=(QX hs hl hr hll hrl hul (bN 100) ht e1' ze).1 B ws e3 e5;have hlen:r0.length=t.codes.length+y.length:=by rw[e1]; simp
  have hul':r0.length<=48:=by rw[← hr0]; exact hul
  have hsk:=QR hs ht [] y (by rw[← e1]; omega)
  rw[← e1] at hsk;have hsk:wd a0 r0 0=some (((t.codes.length:Nat):Int),true):=by simpa using hsk
  obtain⟨s,g1,g2⟩:=ZO hs (as:=[l]) (bs:=[t]) ⟨hl,trivial⟩ ⟨ht,trivial⟩ (by rw[wv]; omega) (by rw[wv]; omega)
  rw[wv,wv,e3] at g1;obtain⟨k1,k2,k3,k4,k5⟩:=BI hs hl hr hrl ht (by omega) e3
  have hsl:(rr.sub (sbB B)).codes.length<=48*48:=Ng hrl k2;rw[show (0==((af r0:Nat):Int))=false from by rw[beq_eq_false_iff_ne]; omega,cond_false,hsk,aa]
  simp only;have d1:decide ((0:Int)<=((t.codes.length:Nat):Int))=true:=decide_eq_true (by omega)
  have d2:decide (((t.codes.length:Nat):Int)<=((af r0:Nat):Int))=true:=decide_eq_true (by omega)
  have d3:decide ((0:Int)<=((af r0:Nat):Int))=true:=decide_eq_true (by omega)
  have d4:decide (((af r0:Nat):Int)<=((af r0:Nat):Int))=true:=decide_eq_true (by omega)
  have htk:eE (bc ((t.codes.length:Nat):Int) - bc 0) (eD 0 r0)=t.codes:=by rw[e1]; simp
  have hyk:eE (bc ((af r0:Nat):Int) - bc ((t.codes.length:Nat):Int)) (eD (0+bc ((t.codes.length:Nat):Int)) r0)=y:=by
   rw[bo,bo,aP,hlen,e1];simp
  rw[d1,cond_true,d2,cond_true,htk,show ax 24 (none:Option jI)=none24 from rfl,g1,aa]
  simp only[dI,az,cond_false];rw[show decide ((0:Nat)<=0)=true from rfl,cond_true,d3,cond_true,WM (g2 B e3) k1,aa,k4,aa,d4,cond_true,hyk,
   show eE (bc 0 - bc 0) (eD 0 r0)=[] by simp,AN (by simp; omega),aa]
  rw[hr0] at h1;have h1':lp zL (ze+1) (a0,r0,0,0,l.codes,rr.codes)=_:=h1;refine iD ?_ h1'.symm;rw[← e5,show ((0:Nat)==100)=false from rfl,cond_false]
  simp only[cond_true];by_cases h48:(za ws).length>48
  ·rw[decide_eq_true h48,decide_eq_true (show (((za ws).length:Nat):Int)>48 by omega)]; rfl
  ·rw[decide_eq_false h48,decide_eq_false (show ¬((((za ws).length:Nat):Int)>48) by omega),cond_false,cond_false]
   exact IO _
end
theorem CB:(es out:List zc)->(∀ l∈es,l.2.length<=1000)->out.length+es.length<=1000->yD es out=some (out++es)
 | [],out,_,_=>by unfold yD; rw[bO]
 | e::es,out,h,hl=>by
  rw[ak] at hl;have:=h e (aj ..);unfold yD;rw[yc (by omega),aa,zp (by simp; omega),cond_true,CB es _ (fun l hl=>h l (ai _ hl)) (by simp; omega),aW]
  rfl
theorem EH (L:List zc):(es out:List jI)->(∀ l∈es,l.length<=1000)->out.length+es.length<=1000->yt L es out=some (L,out++es)
 | [],out,_,_=>by unfold yt; rw[bO]
 | e::es,out,h,hl=>by
  rw[ak] at hl;have:=h e (aj ..);unfold yt;rw[yc (by omega),aa,zp (by simp; omega),cond_true,EH L es _ (fun l hl=>h l (ai _ hl)) (by simp; omega),aW]
  rfl
theorem CN (L:List zc) (T:List jI):(es out:List zc)->(∀ l∈es,l.2.length<=1000)->out.length+es.length<=1000->yv L T es out=some (L,T,out++es)
 | [],out,_,_=>by unfold yv; rw[bO]
 | e::es,out,h,hl=>by
  rw[ak] at hl;have:=h e (aj ..);unfold yv;rw[yc (by omega),aa,zp (by simp; omega),cond_true,CN L T es _ (fun l hl=>h l (ai _ hl)) (by simp; omega),aW]
  rfl
theorem Za {a0:List zg} {L:List zc} {T:List jI} {C:List zc} (h:qy a0 L T C=true):tx L T C=some (L,T,C):=by
 obtain⟨h0,h1,h2,h3,h4,-,h6,-⟩:=zz h;have hT:∀ r∈T,r.length<=1000:=fun r hr=>(Z3 (ut h0) h r (xu hr)).1;unfold tx ZR;rw[Z0 _ _ _ _ _ (by unfold maxLen; omega),CB L [] (fun l hl=>(wh h4 l hl).1) (by simp; omega),aa,
  Yk _ _ _ _ _ _ (by unfold maxLen; omega),EH _ T [] hT (by simp; omega),aa,
  Ya _ _ _ _ (by unfold maxLen; omega),CN _ _ C [] (fun l hl=>(wh h6 l hl).1) (by simp; omega),aa]
 rfl
def mtA (c:Nat) (ts:List Tm) (d:Nat) (us:List Tm):Option Bd:=if c=d then mtR ts us else none
theorem O3 {a0:List zg} (hs:SignOk a0) {c d:Nat} {ts us:List Tm} (hA:okR a0 24 ts) (hB:okR a0 24 us) (hl:(za ts).length<=48) (hl2:(za us).length<=48) :
  ∃ s,qM a0 ((c:Int)::za ts) ((d:Int)::za us) none24=some ((mtA c ts d us).isSome,s):=by
 unfold qM;have l24:none24.length=24:=by unfold none24; simp
 rw[uZ _ _ _ _ _ (by rw[ak]; unfold maxLen; omega)]
 unfold zi;rw[decide_eq_false (show ¬((0:Int)≥((((d:Int)::za us).length:Nat):Int)) by rw[ak]; omega),cond_false,decide_eq_true (show (c:Int)≥0 by omega),cond_true,z6,aB,aa]
 unfold mtA;by_cases hcd:c=d
 ·subst hcd;rw[show (((c:Nat):Int) != ((c:Nat):Int))=false from by simp,cond_false,if_pos rfl]
  obtain⟨r,h1,h2⟩:=IF hs (qJ ts) ts us (aC _) hA hB _ (BOk.zero a0) _ RB.zero [(c:Int)] (by simp; omega)
  have h1:zi a0 ((c:Int)::za us) (za ts) (ag .i64 (0+1)) none24=some r:=h1;rw[h1,aa];have h2:zfE ((c:Int)::za us) (mtR ts us) r:=h2;cases hm:mtR ts us with
  | some B =>
   rw[hm] at h2;obtain⟨s,rfl,hR⟩:=h2;refine ⟨s,?_⟩;simp only[yb,l24,hR.len,cM,cJ,cond_true,beq_self_eq_true,dI]
  | none =>
   rw[hm] at h2;rcases h2 with ⟨s,rfl,hs24⟩ | ⟨q,s,rfl,hq,hs24⟩
   ·refine ⟨s,?_⟩;simp only[yb,l24,hs24,cM,cJ,cond_true,cN]
   ·refine ⟨s,?_⟩;simp only[yb,l24,hs24,cM,cJ,cond_true,cN];rw[show (q==((af ((c:Int)::za us):Nat):Int))=false from by rw[beq_eq_false_iff_ne]; exact hq]
 ·rw[show (((d:Nat):Int) != ((c:Nat):Int))=true from by rw[bne_iff_ne]; omega,cond_true,if_neg hcd,aa]
  refine ⟨none24,?_⟩;simp only[yb,cM,cJ,cond_true,cN]
def YR (a0:List zg) (n:Bool) (A:List Int) (l:zc):Bool:=(xJ l.1 l.2 n A a0).getD false
theorem Nu {a0:List zg} (hs:SignOk a0) {n m:Bool} {A a:List Int} (hA:vq a0 A=true) (ha:vq a0 a=true):xJ m a n A a0=some (YR a0 n A (m,a)) ∧
  ∀(c d:Nat) (ts us:List Tm),A=(c:Int)::za ts->a=(d:Int)::za us->okR a0 24 ts->okR a0 24 us->(YR a0 n A (m,a)=true↔m≠n∧(mtA c ts d us).isSome=true):=by
 obtain⟨c,ts,-,rfl,h1,-,-,-,h2,-⟩:=v6 hA;obtain⟨d,us,-,rfl,h3,-,-,-,h4,-⟩:=v6 ha;obtain⟨s,h5⟩:=O3 hs (c:=c) (d:=d) h1 h3 h2 h4;have e:xJ m ((d:Int)::za us) n ((c:Int)::za ts) a0=some (!(m==n)&&(mtA c ts d us).isSome):=by
  unfold xJ;cases m==n with
  | true=>rfl
  | false =>
   simp only[bE,cond_true,aN];rw[show ax 24 (none:Option jI)=none24 from rfl,h5]
   rfl
 have e2:YR a0 n ((c:Int)::za ts) (m,(d:Int)::za us)=(!(m==n)&&(mtA c ts d us).isSome):=by unfold YR; rw[e]; rfl
 refine ⟨by rw[e,e2],fun c' d' ts' us' h6 h7 h8 h9 => ?_⟩
 injection h6 with a1 a2;injection h7 with a3 a4;have b1:c=c':=by omega
 have b2:d=d':=by omega
 have b3:=yH _ ts ts' (aC _) h1 h8 a2;have b4:=yH _ us us' (aC _) h3 h9 a4;subst b1; subst b2; subst b3; subst b4;rw[e2,ay,Bool.not_eq_true',beq_eq_false_iff_ne]
section
variable {a0:List zg} {n:Bool} {A:List Int} {q:zc->Bool}
theorem CR {xs:List zc} (hq:∀ e∈xs,xJ e.1 e.2 n A a0=some (!q e)):(es:List zc)->(i:Nat)->xs.drop i=es ->
  (zK n A a0 es i=some (.inl ())∧∀ e∈es,q e=true) ∨
  ∃ pre e post,es=pre++e::post∧(∀ x∈pre,q x=true)∧q e=false∧zK n A a0 es i=some (.inr ((i+pre.length:Nat):Int))
 | [],i,_=>.inl ⟨rfl,fun _ h=>(nomatch h)⟩
 | e::es,i,h=>by
  have ih:=CR hq es (i+1) (zj h);have he:=hq e (aJ (zr h));unfold zK;rw[he,aa];cases hqe:q e with
  | false=>exact .inr ⟨[],e,es,rfl,fun _ h=>(nomatch h),hqe,rfl⟩
  | true =>
   rw[az,cond_false];rcases ih with ⟨h1,h2⟩ | ⟨pre,d,post,rfl,h2,h3,h4⟩
   ·refine .inl ⟨h1,fun x hx => ?_⟩;rcases aG.1 hx with rfl | hx
    ·exact hqe
    ·exact h2 x hx
   ·refine .inr ⟨e::pre,d,post,rfl,fun x hx => ?_,h3,?_⟩
    ·rcases aG.1 hx with rfl | hx
     ·exact hqe
     ·exact h2 x hx
    ·rw[h4,ak,show i+1+pre.length=i+(pre.length+1) by omega]
theorem BK:(es:List zc)->(i j k:Nat)->(xs:List zc)->xs.length<=1000->xs.drop j=es->i<=j->i<=xs.length->es.length<k->(∀ e∈es,xJ e.1 e.2 n A a0=some (!q e)) ->
  ∃(xs':List zc) (i':Nat),lp yi k ((i:Int),(j:Int),xs,n,A,a0)=some ((i':Int),xs')∧xs'.length=xs.length∧i'<=xs.length∧xs'.take i'=xs.take i++es.filter q
 | _,_,_,0,_,_,_,_,_,h,_=>by omega
 | [],i,j,k+1,xs,hl,h,hij,hi,_,_=>by
  rw[zv];generalize lp yi k=rec;unfold yi;simp only[jD (vd h),cond_false];exact ⟨xs,i,rfl,rfl,hi,by simp⟩
 | e::es,i,j,k+1,xs,hl,h,hij,hi0,hk,hq=>by
  have hj:=qr h;have hM:xs.length<=maxLen:=by unfold maxLen; omega
  have hq':∀ e∈es,xJ e.1 e.2 n A a0=some (!q e):=fun x hx=>hq x (ai _ hx);have hqe:=hq e (aj ..);have ih1:=BK es (i+1) (j+1) k (xs.set i e);have ih2:=BK es i (j+1) k xs hl (zj h) (by omega) hi0 (by simpa using hk) hq'
  rw[zv];generalize lp yi k=rec at ih1 ih2 ⊢;unfold yi;simp only[ZZ hj,cond_true,ym hj,zr h,aa,hqe,j5 hj hM];cases he:q e with
  | true =>
   have hi:i<xs.length:=by omega
   rw[az,bE,cond_true,ym hi,aa,al hi,aa,j5 hi hM];obtain⟨xs',i',h1,h2,h3,h4⟩:=ih1 (by rw[bY]; exact hl) (by
    rw[← zj h,List.drop_set];rw[if_pos (by omega)]) (by omega) (by rw[bY]; omega) (by simpa using hk) hq'
   rw[bY] at h2 h3;refine ⟨xs',i',h1,h2,h3,?_⟩;rw[h4,dc (by simpa using he),List.take_add_one]
   rw[bU hi,List.take_set,List.set_eq_of_length_le (by rw[cH]; omega)]
   simp
  | false =>
   rw[bE,az,cond_false];obtain⟨xs',i',h1,h2,h3,h4⟩:=ih2;exact ⟨xs',i',h1,h2,h3,by rw[h4,cQ (by simpa using he)]⟩
theorem Hg {xs:List zc} (hl:xs.length<=1000) (hq:∀ e∈xs,xJ e.1 e.2 n A a0=some (!q e)):vI xs n A a0=some (xs.filter q):=by
 unfold vI tz;rw[rR _ _ _ _ (by unfold maxLen; omega)]
 rcases CR hq xs 0 rfl with ⟨h1,h2⟩ | ⟨pre,e,post,h1,h2,h3,h4⟩
 ·rw[h1];show some xs=_;rw[fU.2 fun e he=>h2 e he]
 ·rw[h4];have hpl:pre.length<xs.length:=by rw[h1]; simp
  have hpost:xs.drop (pre.length+1)=post:=by rw[h1,show pre.length+1=(pre++[e]).length by simp,show pre++e::post=(pre++[e])++post by simp,List.drop_left]
  have hM:xs.length<=maxLen:=by unfold maxLen; omega
  simp only[aa,yb,aP];rw[show ((((pre.length:Nat):Int)) == -1)=false by simp,cond_false,j5 hpl hM]
  obtain⟨xs',i',g1,g2,g3,g4⟩:=BK post pre.length (pre.length+1) ze xs hl hpost (by omega) (by omega) (cO (show post.length<=1000 by rw[← hpost,List.length_drop]; omega) (by decide)) (fun x hx=>hq x (by rw[h1]; simp [hx]))
  rw[g1,aa,decide_eq_true (by omega),cond_true,decide_eq_true (show (i':Int)<=((af xs':Nat):Int) by omega),cond_true,decide_eq_true (by omega),cond_true]
  simp only[bo,aP];have e1:(BF (false,([]:List Int)) xs' i' (xs'.length - i')).take i'=xs'.take i':=by
   unfold BF;rw[aW,gH (by rw[cH]; omega)]
  rw[IH _ (by unfold BF; simp only[am,cH]; omega),aa,e1,g4,h1]
  rw[List.filter_append,fU.2 fun e he=>h2 e he,cQ (by simpa using h3),gH rfl]
end
theorem Vu {a0:List zg} {L:List zc} {T:List jI} {C:List zc} (h:qy a0 L T C=true) (q:zc->Bool):qy a0 (L.filter q) T C=true:=by
 obtain⟨h0,h1,h2,h3,h4,h5,h6,h7⟩:=zz h;refine AK h0 (aT (dP _ _) h1) h2 h3 (aD.2 fun l hl=>aD.1 h4 l (dp.1 hl).1) h5 h6 ?_;have:zk ((L.filter q).map (·.2))<=zk (L.map (·.2)):=by
  clear h h1 h4 h7
  induction L with
  | nil=>exact aC _
  | cons l L ih =>
   unfold zk at ih ⊢;cases hq:q l with
   | true=>rw[dc hq]; simp only[aK,cD]; omega
   | false=>rw[cQ (by rw[hq]; simp)]; simp only[aK,cD]; omega
 omega
theorem Jg {a0:List zg} {n:Bool} {A:List Int} (hA:vq a0 A=true) {L:List zc} {T:List jI} {C:List zc} (h:qy a0 L T C=true) :
  Km a0 n A L T C=some ((x5 (L.filter fun l => !YR a0 n A l) T C).1,(x5 (L.filter fun l => !YR a0 n A l) T C).2.1,((L.length - (L.filter fun l => !YR a0 n A l).length:Nat):Int),0,(x5 (L.filter fun l => !YR a0 n A l) T C).2.2):=by
 obtain⟨h0,h1,h2,h3,h4,-⟩:=zz h;have hs:=ut h0;have hlm:Qg a0 n A=some true:=by rw[Fh,hA]
 have hfl:(L.filter fun l => !YR a0 n A l).length<=L.length:=dP _ _;unfold Km;rw[hlm,aa,zG,h,aa,Za h];simp only[az,cond_false,aa];rw[Hg (q:=fun l => !YR a0 n A l) (by omega) (fun e he=>by rw[(Nu hs hA (aD.1 h4 e he)).1,Bool.not_not]),aa,xK,Vu h]
 simp only[cond_true,aa];rw[zo (by omega) (by omega),show ((L.length:Nat):Int) - (((L.filter fun l => !YR a0 n A l).length:Nat):Int)=((L.length - (L.filter fun l => !YR a0 n A l).length:Nat):Int) by omega]
def LRw (a0:List zg) (l rr:Tm) (e e':zc) (m:Nat):Prop:=∃(c:Nat) (us ws:List Tm),e.2=(c:Int)::za us∧okR a0 24 us∧e'=(e.1,(c:Int)::za ws)∧Rew a0 l rr us 0 (za ws,(m:Int),true)
inductive LRws (a0:List zg) (l rr:Tm):List zc->List zc->Nat->Prop
 | nil:LRws a0 l rr [] [] 0
 | cons (e e':zc) (es es':List zc) (m k:Nat):LRw a0 l rr e e' m->LRws a0 l rr es es' k->LRws a0 l rr (e::es) (e'::es') (m+k)
theorem O9 {a0:List zg} {l rr:Tm} {us:List Tm} {n:Nat} {res:List Int×Int×Bool} (h:Rew a0 l rr us n res) (hn:n<=100) (hul:(za us).length<=48):res=([],0,false)∨∃(ws:List Tm) (m:Nat),res=(za ws,(m:Int),true)∧n<=m∧m<=100∧(za ws).length<=48:=by
 induction h with
 | stop us n _=>exact .inr ⟨us,n,rfl,aC _,hn,hul⟩
 | full=>exact .inl rfl
 | next us ws n σ res _ h2 h3 _ _ _ _ ih =>
  rcases ih (by omega) h3 with h | ⟨vs,m,h,h4,h5⟩
  ·exact .inl h
  ·exact .inr ⟨vs,m,h,by omega,h5⟩
theorem PN {a0:List zg} {l rr:Tm} (hl:l.ok a0 24) (hr:rr.ok a0 24) (hll:l.codes.length<=48) (hrl:rr.codes.length<=48):uH a0 l.codes rr.codes=some false∨uH a0 l.codes rr.codes=some true∨uU a0=false:=by
 cases hb:uU a0 with
 | false=>exact .inr (.inr rfl)
 | true =>
  obtain⟨k,-,h1,-⟩:=kh hb hl hr hll hrl;unfold uH rx;rw[jH hb hl hll,jH hb hr hrl,h1];simp only[aa,cond_true,beq_self_eq_true];cases k==2
  ·exact .inl rfl
  ·exact .inr (.inl rfl)
section
variable {a0:List zg} (hs:SignOk a0) {l rr:Tm} (hl:l.ok a0 24) (hr:rr.ok a0 24) (hll:l.codes.length<=48) (hrl:rr.codes.length<=48)
include hs hl hr hll hrl
theorem VS (T:List jI) (C:List zc):(es done:List zc)->(k all:Nat)->es.length<k->(∀ e∈es,vq a0 e.2=true)->all+100*es.length<=100000->done.length+es.length<=1000 ->
  ∃ r,lp ve k (a0,(all:Int),((done.length+es.length:Nat):Int),((done.length:Nat):Int),l.codes,rr.codes,T,C,done++es)=some r ∧
   (r = .inr (0,1601)∨∃ es' m,LRws a0 l rr es es' m∧r = .inl (((all+m:Nat):Int),T,C,done++es'))
 | _,_,0,_,h,_,_,_=>by omega
 | [],done,k+1,all,_,_,_,_=>by
  rw[zv];generalize lp ve k=rec;unfold ve;simp only;rw[decide_eq_false (show ¬(((done.length:Nat):Int)<((done.length+([]:List zc).length:Nat):Int)) by simp),cond_false]
  exact ⟨_,rfl,.inr ⟨[],0,.nil,rfl⟩⟩
 | e::es,done,k+1,all,hk,ha,hal,hdl=>by
  rw[ak] at hk hal hdl;have he:=ha e (aj ..);obtain⟨c,us,-,hc,ho,-,-,-,h48,-⟩:=v6 he;obtain⟨res,hrew⟩:=HN hs hl hr hrl 100 0 rfl (bN _) us ho h48;have hrw:=Fc hs hl hr hll hrl h48 hrew;have ih:=fun (e':zc) (m:Nat) (hm:m<=100)=>VS T C es (done++[e']) k (all+m) (by omega) (fun x hx=>ha x (ai _ hx)) (by omega) (by rw[am,aX]; omega)
  rw[zv];generalize lp ve k=rec at ih ⊢;unfold ve;simp only;rw[decide_eq_true (show ((done.length:Nat):Int)<((done.length+(e::es).length:Nat):Int) by rw[ak]; omega),cond_true,ym (by rw[am,ak]; omega),aa,QQ,aa,hc,wW,aa,hrw,aa]
  rcases O9 hrew (bN _) h48 with rfl | ⟨ws,m,rfl,-,hm,hwl⟩
  ·exact ⟨_,rfl,.inl rfl⟩
  ·simp only[az,cond_false];rw[z6,aB,aa,zp (by simp; omega),cond_true,aa,QQ,aa,Cl]
   obtain⟨r,g1,g2⟩:=ih (e.1,(c:Int)::za ws) m hm;rw[am,aX,aW,show done.length+1+es.length=done.length+(e::es).length by rw[ak]; omega] at g1
   have w1:ag .i64 ((all:Int)+(m:Int))=((all+m:Nat):Int):=by rw[zo]<;>omega
   have w2:ag .i64 (((done.length:Nat):Int)+1)=((done.length+1:Nat):Int):=by rw[zo]<;>omega
   refine ⟨r,by rw[w1,w2]; exact g1,g2.imp id ?_⟩
   rintro⟨es',k',g3,rfl⟩;refine ⟨(e.1,(c:Int)::za ws)::es',m+k',.cons _ _ _ _ _ _ ⟨c,us,ws,hc,ho,rfl,hrew⟩ g3,?_⟩;rw[aW,Nat.add_assoc];rfl
theorem YI {L:List zc} {T:List jI} {C:List zc} (h:qy a0 L T C=true) :
  ∃ r,Z7 a0 l.codes rr.codes L T C=some r∧((∃ m k,(k=1600∨k=1601)∧r=([],[],m,k,[]))∨∃ L' m,LRws a0 l rr L L' m∧qy a0 L' T C=true∧r=((x5 L' T C).1,(x5 L' T C).2.1,(m:Int),0,(x5 L' T C).2.2)):=by
 obtain⟨h0,h1,h2,h3,h4,-⟩:=zz h;unfold Z7;rcases PN hl hr hll hrl with h5 | h5 | h5
 ·rw[h5];exact ⟨_,rfl,.inl ⟨0,1600,.inl rfl,rfl⟩⟩
 ·rw[h5,aa,zG,h];simp only[az,cond_false,aa];rw[Za h,aa];obtain⟨r,g1,g2⟩:=VS hs hl hr hll hrl T C L [] ze 0 (cO h1 (by decide)) (aD.1 h4) (by omega) (by simp; omega)
  rw[bm,aP,bl] at g1;rw[show (0:Int)=((0:Nat):Int) from rfl,g1,aa]
  rcases g2 with rfl | ⟨L',m,g2,rfl⟩
  ·exact ⟨_,rfl,.inl ⟨0,1601,.inr rfl,rfl⟩⟩
  ·simp only[yb,bl,aP];rw[xK];cases hm:qy a0 L' T C with
   | false=>exact ⟨_,rfl,.inl ⟨0,1601,.inr rfl,rfl⟩⟩
   | true=>exact ⟨_,rfl,.inr ⟨L',m,g2,hm,rfl⟩⟩
 ·rw[h5] at h0; cases h0
end
theorem Ax (L:List zc) (T:List jI) (C:List zc):jh L T C=some (decide (L.length=1∧T=[]∧C=[])):=by
 unfold jh;by_cases h1:L.length=1
 ·rw[show (((af L:Nat):Int)==1)=true from by rw[beq_iff_eq]; omega,cond_true]
  cases T with
  | nil =>
   cases C with
   | nil=>rw[decide_eq_true ⟨h1,rfl,rfl⟩]; rfl
   | cons _ _=>rw[decide_eq_false (by rintro⟨-,-,h⟩; cases h)]; rw[show (((af ([]:List jI):Nat):Int)==0)=true from rfl,cond_true]; congr 1
  | cons _ _=>rw[decide_eq_false (by rintro⟨-,h,-⟩; cases h),show (((af (_::_:List jI):Nat):Int)==0)=false from by rw[beq_eq_false_iff_ne,ak]; omega]; rfl
 ·rw[show (((af L:Nat):Int)==1)=false from by rw[beq_eq_false_iff_ne]; omega,decide_eq_false (fun h=>h1 h.1)]; rfl
theorem Xl (a0:List zg) (L:List zc) (T:List jI) (C:List zc) (h:qy a0 L T C=true):∃ r,Wg a0 L T C=some r∧(r.1=true->∃ s0 s1 l rr:Tm,L=[(false,0::za [s0,s1])]∧T=[]∧C=[]∧((l=s0∧rr=s1)∨(l=s1∧rr=s0))∧l.ok a0 24∧rr.ok a0 24∧l.codes.length<=48∧rr.codes.length<=48∧r=(true,0,l.codes,rr.codes)):=by
 obtain⟨h0,h1,h2,h3,h4,-⟩:=zz h;have hs:=ut h0;unfold Wg;rw[zG,h,aa,Ax];simp only[az,cond_false,aa];by_cases hu:L.length=1∧T=[]∧C=[]
 ·rw[decide_eq_true hu];obtain⟨hu1,rfl,rfl⟩:=hu;obtain⟨⟨n,A⟩,rfl⟩:∃ e,L=[e]:=by
   match L,hu1 with
   | [e],_=>exact ⟨e,rfl⟩
  have hA:vq a0 A=true:=aD.1 h4 (n,A) (aj ..);simp only[az,cond_false,z6,aB,aa];cases n with
  | true=>exact ⟨_,rfl,fun h=>nomatch h⟩
  | false =>
   simp only[cond_false];obtain⟨c,hc⟩:=Wp hA;rw[z6] at hc;rw[hc,aa];by_cases hc0:c=0
   ·subst hc0;obtain⟨s0,s1,rfl,o0,o1,hl⟩:=Ik hA (by rw[z6]; exact hc)
    have l0:s0.codes.length<=48:=aT (uR (aj ..)) hl;have l1:s1.codes.length<=48:=aT (uR (ai _ (aj ..))) hl;rw[show (((0:Nat):Int) != 0)=false from rfl,cond_false,(IK hs o0 o1 hl).1,aa]
    obtain⟨k0,-,m0,-⟩:=kh h0 o0 o1 l0 l1;obtain⟨k1,-,m1,-⟩:=kh h0 o1 o0 l1 l0;have e0:rx a0 s0.codes s1.codes=some (k0==2):=by unfold rx; rw[m0]; rfl
    have e1:rx a0 s1.codes s0.codes=some (k1==2):=by unfold rx; rw[m1]; rfl
    have hx:∃ r,lp ry ze (a0,[s0.codes,s1.codes],((af [s0.codes,s1.codes]:Nat):Int),0)=some r∧(r = .inl ()∨r = .inr (true,0,s0.codes,s1.codes)∨r = .inr (true,0,s1.codes,s0.codes)):=by
     rw[show ze=(ze - 3)+1+1+1 from rfl,zv,zv,zv]
     generalize lp ry (ze - 3)=rec;have q0:zD s0.codes=some s0.codes:=yc (by omega)
     have q1:zD s1.codes=some s1.codes:=yc (by omega)
     generalize s0.codes=p0 at e0 e1 q0 q1 ⊢;generalize s1.codes=p1 at e0 e1 q0 q1 ⊢;unfold ry;simp only[show gx [p0,p1] 0=some p0 from rfl,show gx [p0,p1] (ag .i64 (1 - 0))=some p1 from rfl,show gx [p0,p1] (ag .i64 (0+1))=some p1 from rfl,show gx [p0,p1] (ag .i64 (1 - ag .i64 (0+1)))=some p0 from rfl,
      show decide ((0:Int)<((af [p0,p1]:Nat):Int))=true from rfl,show decide (ag .i64 (0+1)<((af [p0,p1]:Nat):Int))=true from rfl,show decide (ag .i64 (ag .i64 (0+1)+1)<((af [p0,p1]:Nat):Int))=false from rfl,aa,cond_true,cond_false,e0,e1,q0,q1]
     cases k0==2 with
     | true=>exact ⟨_,rfl,.inr (.inl rfl)⟩
     | false =>
      cases k1==2 with
      | true=>exact ⟨_,rfl,.inr (.inr rfl)⟩
      | false=>exact ⟨_,rfl,.inl rfl⟩
    obtain⟨r,g1,g2⟩:=hx;rw[g1,aa];rcases g2 with rfl | rfl | rfl
    ·exact ⟨_,rfl,fun h=>nomatch h⟩
    ·exact ⟨_,rfl,fun _=>⟨s0,s1,s0,s1,rfl,trivial,trivial,.inl ⟨rfl,rfl⟩,o0,o1,l0,l1,rfl⟩⟩
    ·exact ⟨_,rfl,fun _=>⟨s0,s1,s1,s0,rfl,trivial,trivial,.inr ⟨rfl,rfl⟩,o1,o0,l1,l0,rfl⟩⟩
   ·rw[show (((c:Nat):Int) != 0)=true from by rw[bne_iff_ne]; omega]
    exact ⟨_,rfl,fun h=>nomatch h⟩
 ·rw[decide_eq_false hu];exact ⟨_,rfl,fun h=>nomatch h⟩
theorem GJ {a0:List zg} (rule:Int) {L:List zc} {T:List jI} {C:List zc} (h:qy a0 L T C=true) {L':List zc} {T':List jI} {C':List zc} (h':qy a0 L' T' C'=true) :
  ∃ r,vJ a0 rule L T C L' T' C'=some r∧(r.2.2.1=true->qy a0 r.1 r.2.1 r.2.2.2=true):=by
 unfold vJ;cases rule==6 with
 | true =>
  simp only[cond_true];rw[Ax,aa];by_cases hu:L'.length=1∧T'=[]∧C'=[]
  ·rw[decide_eq_true hu];obtain⟨⟨n,A⟩,rfl⟩:∃ e,L'=[e]:=by
    match L',hu.1 with
    | [e],_=>exact ⟨e,rfl⟩
   have hA:vq a0 A=true:=aD.1 (zz h').2.2.2.2.1 (n,A) (aj ..);simp only[az,cond_false,z6,aB,aa];rw[Jg hA h,aa];exact ⟨_,rfl,fun _=>Kc (Vu h _)⟩
  ·rw[decide_eq_false hu];exact ⟨_,rfl,fun h=>nomatch h⟩
 | false =>
  simp only[cond_false];obtain⟨r,h1,h2⟩:=Xl a0 L' T' C' h';rw[h1,aa];cases hr:r.1 with
  | false=>exact ⟨_,rfl,fun h=>nomatch h⟩
  | true =>
   obtain⟨s0,s1,l,rr,-,-,-,-,o0,o1,l0,l1,rfl⟩:=h2 hr;simp only[az,cond_false];obtain⟨q,g1,g2⟩:=YI (ut (zz h).1) o0 o1 l0 l1 h;rw[g1,aa];rcases g2 with ⟨m,k,hk,rfl⟩ | ⟨L2,m,g2,g3,rfl⟩
   ·simp only;rw[show (k==0)=false from by rw[beq_eq_false_iff_ne]; omega]
    exact ⟨_,rfl,fun h=>nomatch h⟩
   ·exact ⟨_,rfl,fun _=>Kc g3⟩
def wiB (x lo hi:Int):Bool:=decide (lo<=x)&&decide (x<=hi)
theorem OR (x lo hi:Int):w9 x lo hi=some (wiB x lo hi):=by
 unfold w9 wiB;cases h:decide (x≥lo) with
 | true=>rfl
 | false=>rfl
def LH (r a i s b j t:Int):Bool:=wiB r 0 7&&(wiB a (-1) 199&&(wiB b (-1) 199&&(wiB i 0 4&&(wiB j 0 4&&(wiB s 0 1&&wiB t 0 48)))))
theorem zbL (r a i s b j t:Int) (L:List zc) (T:List jI) (C:List zc):tX r a i s b j t L T C=some (LH r a i s b j t):=by
 unfold tX LH;simp only[OR,aa];cases wiB r 0 7<;>cases wiB a (-1) 199<;>cases wiB b (-1) 199<;>cases wiB i 0 4<;>cases wiB j 0 4<;>cases wiB s 0 1<;>rfl
def JC (a0:List zg) (x:u5):Bool:=LH x.1 x.2.1 x.2.2.1 x.2.2.2.1 x.2.2.2.2.1 x.2.2.2.2.2.1 x.2.2.2.2.2.2.1&&qy a0 x.2.2.2.2.2.2.2.1 x.2.2.2.2.2.2.2.2.1 x.2.2.2.2.2.2.2.2.2
theorem BU (a0:List zg) (x:u5):Ka a0 x.1 x.2.1 x.2.2.1 x.2.2.2.1 x.2.2.2.2.1 x.2.2.2.2.2.1 x.2.2.2.2.2.2.1 x.2.2.2.2.2.2.2.1 x.2.2.2.2.2.2.2.2.1 x.2.2.2.2.2.2.2.2.2=some (JC a0 x):=by
 unfold Ka JC;rw[zbL,aa,zG];cases LH x.1 x.2.1 x.2.2.1 x.2.2.2.1 x.2.2.2.2.1 x.2.2.2.2.2.1 x.2.2.2.2.2.2.1<;>rfl
theorem H4 (a0:List zg):(es:List u5)->(i:Nat)->(es.all (JC a0)=true->zI a0 es i=some (.inl ()))∧(es.all (JC a0)=false->∃ j:Nat,zI a0 es i=some (.inr (j:Int)))
 | [],_=>⟨fun _=>rfl,(fun h=>nomatch h)⟩
 | e::es,i=>by
  obtain⟨h1,h2⟩:=H4 a0 es (i+1);unfold zI sq;rw[BU,aa,aa,List.all_cons];cases JC a0 e with
  | true=>exact ⟨h1,h2⟩
  | false=>exact ⟨(fun h=>nomatch h),fun _=>⟨i,rfl⟩⟩
def HC (a0:List zg) (log:List u5):Bool:=uU a0&&(decide (log.length<=200)&&log.all (JC a0))
theorem D9 (a0:List zg) (log:List u5):tQ a0 log=some (HC a0 log):=by
 unfold tQ HC;rw[XJ,aa];cases uU a0 with
 | false=>rfl
 | true =>
  simp only[cond_true,aN];by_cases hl:log.length<=200
  ·rw[decide_eq_true (show ((log.length:Nat):Int)<=200 by omega),decide_eq_true hl,cond_true,aN]
   unfold uE tD;rw[rH log a0 (aT hl (by decide))]
   obtain⟨h1,h2⟩:=H4 a0 log 0;cases ha:log.all (JC a0) with
   | true=>rw[h1 ha]; rfl
   | false =>
    obtain⟨j,hj⟩:=h2 ha;rw[hj];simp only[aa,yb];rw[decide_eq_true (show (j:Int)≥0 by omega)]
    rfl
  ·rw[decide_eq_false (show ¬((log.length:Nat):Int)<=200 by omega),decide_eq_false hl]
   rfl
theorem ZB {a0:List zg} {log:List u5} (h:HC a0 log=true):uU a0=true∧log.length<=200∧∀ s∈log,JC a0 s=true:=by
 unfold HC at h;rw[ay,ay] at h;exact ⟨h.1,of_decide_eq_true h.2.1,aD.1 h.2.2⟩
theorem Y9 {a0:List zg} {x:u5} (h:JC a0 x=true):qy a0 x.2.2.2.2.2.2.2.1 x.2.2.2.2.2.2.2.2.1 x.2.2.2.2.2.2.2.2.2=true:=by
 unfold JC at h;exact ((ay _ _).mp h).2
def DO (r a i s b j t:Int):Bool :=
 if r=0 then decide (a = -1∧i=0∧s=0∧b = -1∧j=0∧t=0)
 else if r=1 then decide (s=0∧t=0)
 else if r=2 then decide (s=0∧b = -1∧t=0)
 else if r=3 then true
 else if r=4 then decide (s=0∧b = -1∧j=0∧t=0)
 else if r=7 then decide (s=0∧b = -1∧j=0∧t=0)
 else if r=5 then decide (i=0∧s=0∧j=0∧t=0)
 else if r=6 then decide (i=0∧s=0∧j=0∧t=0)
 else decide (i=0∧s=0∧b = -1∧j=0∧t=0)
theorem xg (a0 a1 a2 a3 a4 a5 a6 b0 b1 b2 b3 b4 b5 b6:Int) (L:List zc) (T:List jI) (C:List zc) (L':List zc) (T':List jI) (C':List zc) :
  vy a0 a1 a2 a3 a4 a5 a6 L T C b0 b1 b2 b3 b4 b5 b6 L' T' C'=some ((a0==b0)&&((a1==b1)&&((a2==b2)&&((a3==b3)&&((a4==b4)&&((a5==b5)&&(a6==b6))))))):=by
 unfold vy;cases a0==b0<;>cases a1==b1<;>cases a2==b2<;>cases a3==b3<;>cases a4==b4<;>cases a5==b5<;>rfl
theorem R2 (r a i s b j t:Int) (L:List zc) (T:List jI) (C:List zc):∃ p,Yy r a i s b j t L T C=some p∧∀ L' T' C',vy p.1 p.2.1 p.2.2.1 p.2.2.2.1 p.2.2.2.2.1 p.2.2.2.2.2.1 p.2.2.2.2.2.2 [] [] [] r a i s b j t L' T' C'=some (DO r a i s b j t):=by
 unfold Yy DO;have q:∀ x y:Int,(x==y)=decide (y=x):=fun x y=>by
  by_cases h:x=y
  ·subst h; simp
  ·rw[beq_eq_false_iff_ne.2 h,decide_eq_false (fun e=>h e.symm)]
 have q':∀ x:Int,(x==x)=true:=fun x=>by simp
 by_cases h0:r=0
 ·rw[if_pos h0,show (r==0)=true from by simp [h0],cond_true]
  refine ⟨_,rfl,fun _ _ _ => ?_⟩;rw[xg,q',aN];simp only[q,df]
 rw[if_neg h0,show (r==0)=false from by simp [h0],cond_false]
 by_cases h1:r=1
 ·rw[if_pos h1,show (r==1)=true from by simp [h1],cond_true]
  refine ⟨_,rfl,fun _ _ _ => ?_⟩;rw[xg];simp only[q',aN,q,df]
 rw[if_neg h1,show (r==1)=false from by simp [h1],cond_false]
 by_cases h2:r=2
 ·rw[if_pos h2,show (r==2)=true from by simp [h2],cond_true]
  refine ⟨_,rfl,fun _ _ _ => ?_⟩;rw[xg];simp only[q',aN,q,df]
 rw[if_neg h2,show (r==2)=false from by simp [h2],cond_false]
 by_cases h3:r=3
 ·rw[if_pos h3,show (r==3)=true from by simp [h3],cond_true]
  refine ⟨_,rfl,fun _ _ _ => ?_⟩;rw[xg];simp only[q',aN]
 rw[if_neg h3,show (r==3)=false from by simp [h3],cond_false]
 by_cases h4:r=4
 ·rw[if_pos h4,show (r==4)=true from by simp [h4],cond_true]
  refine ⟨_,rfl,fun _ _ _ => ?_⟩;rw[xg];simp only[q',aN,q,df]
 rw[if_neg h4,show (r==4)=false from by simp [h4],cond_false]
 by_cases h7:r=7
 ·rw[if_pos h7,show (r==7)=true from by simp [h7],cond_true]
  refine ⟨_,rfl,fun _ _ _ => ?_⟩;rw[xg];simp only[q',aN,q,df]
 rw[if_neg h7,show (r==7)=false from by simp [h7],cond_false]
 by_cases h5:r=5
 ·rw[if_pos h5,show (r==5)=true from by simp [h5],cond_true]
  refine ⟨_,rfl,fun _ _ _ => ?_⟩;rw[xg];simp only[q',aN,q,df]
 rw[if_neg h5,show (r==5)=false from by simp [h5],cond_false]
 by_cases h6:r=6
 ·rw[if_pos h6,show (r==6)=true from by simp [h6],cond_true]
  refine ⟨_,rfl,fun _ _ _ => ?_⟩;rw[xg];simp only[q',aN,q,df]
 rw[if_neg h6,show (r==6)=false from by simp [h6],cond_false]
 refine ⟨_,rfl,fun _ _ _ => ?_⟩;rw[xg];simp only[q',aN,q,df]
theorem SG (ys:List zc):(es:List zc)->(i:Nat)->(∀ e∈es,e.2.length<=maxLen)->(ys.drop i).length=es.length->yl ys es i=some (cond (decide (es=ys.drop i)) (.inl ()) (.inr false))
 | [],i,_,h=>by
  rw[decide_eq_true (cn.1 h).symm];rfl
 | e::es,i,hm,h=>by
  match hd:ys.drop i,h with
  | y::rest,h =>
   have hy:ys[i]? = some y:=zr hd;have hr:ys.drop (i+1)=rest:=zj hd;have ih:=SG ys es (i+1) (fun x hx=>hm x (ai _ hx)) (by rw[hr]; exact ia h)
   rw[hr] at ih;unfold yl;rw[y8,hy,aa,KK (hm e (aj ..)),aa,ih];by_cases h1:e=y
   ·subst h1;by_cases h2:es=rest
    ·subst h2; simp
    ·simp [h2]
   ·rw[decide_eq_false (fun h=>h1 h),decide_eq_false (fun h:e::es=y::rest=>h1 (gV h).1)];rfl
theorem Bj {xs ys:List zc} (hl:xs.length<=maxLen) (hm:∀ e∈xs,e.2.length<=maxLen):vY xs ys=some (decide (xs=ys)):=by
 unfold vY;by_cases h:xs.length=ys.length
 ·rw[show (((af xs:Nat):Int) != ((af ys:Nat):Int))=false from by rw[h]; simp,cond_false,jm ys xs hl,SG ys xs 0 hm h.symm,bQ]
  cases decide (xs=ys)<;>rfl
 ·rw[show (((af xs:Nat):Int) != ((af ys:Nat):Int))=true from by rw[bne_iff_ne]; omega,decide_eq_false (fun e=>h (by rw[e]))]
  rfl
theorem Mq (ys:List jI):(es:List jI)->(i:Nat)->(∀ e∈es,e.length<=maxLen)->(ys.drop i).length=es.length->zU ys es i=some (cond (decide (es=ys.drop i)) (.inl ()) (.inr false))
 | [],i,_,h=>by
  rw[decide_eq_true (cn.1 h).symm];rfl
 | e::es,i,hm,h=>by
  match hd:ys.drop i,h with
  | y::rest,h =>
   have hy:ys[i]? = some y:=zr hd;have hr:ys.drop (i+1)=rest:=zj hd;have ih:=Mq ys es (i+1) (fun x hx=>hm x (ai _ hx)) (by rw[hr]; exact ia h)
   rw[hr] at ih;unfold zU;rw[y8,hy,aa,uC (hm e (aj ..)),aa,ih];by_cases h1:e=y
   ·subst h1;by_cases h2:es=rest
    ·subst h2; simp
    ·simp [h2]
   ·rw[decide_eq_false (fun h=>h1 h),decide_eq_false (fun h:e::es=y::rest=>h1 (gV h).1)];rfl
theorem FT {xs ys:List jI} (hl:xs.length<=maxLen) (hm:∀ e∈xs,e.length<=maxLen):uv xs ys=some (decide (xs=ys)):=by
 unfold uv;by_cases h:xs.length=ys.length
 ·rw[show (((af xs:Nat):Int) != ((af ys:Nat):Int))=false from by rw[h]; simp,cond_false,rW ys xs hl,Mq ys xs 0 hm h.symm,bQ]
  cases decide (xs=ys)<;>rfl
 ·rw[show (((af xs:Nat):Int) != ((af ys:Nat):Int))=true from by rw[bne_iff_ne]; omega,decide_eq_false (fun e=>h (by rw[e]))]
  rfl
theorem J3 {a0:List zg} {L:List zc} {T:List jI} {C:List zc} (h:qy a0 L T C=true) (L':List zc) (T':List jI) (C':List zc):ZY L T C L' T' C'=some (decide ((L,T,C)=(L',T',C'))):=by
 obtain⟨-,h1,h2,h3,h4,h5,h6,-⟩:=zz h;have w:(1000:Nat)<=maxLen:=by decide
 unfold ZY;rw[Bj (aT h1 (by decide)) (fun e he=>aT (wh h4 e he).1 w),aa,FT (aT h2 (by decide)) (fun e he=>aT (Yp h5 e he).1 w),aa,Bj (aT h3 (by decide)) (fun e he=>aT (wh h6 e he).1 w)]
 by_cases e1:L=L'<;>by_cases e2:T=T'<;>by_cases e3:C=C'<;>simp [e1,e2,e3]
theorem An (a0:List zg) (L:List zc) (T:List jI) (C:List zc) (i:Int) (L':List zc) (T':List jI) (C':List zc) (j:Int):OkR a0 (sH a0 L T C i L' T' C' j):=by
 rw[Xm];cases hmay:qy a0 L T C with
 | false=>exact qN (k:=1300) rfl
 | true =>
  cases hmay':qy a0 L' T' C' with
  | false=>exact qN (k:=1300) rfl
  | true =>
   rw[aN,aN];cases hpi:zW L i with
   | false=>exact qN (k:=1300) rfl
   | true =>
    rw[aN];cases hpj:zW L' j with
    | false=>exact qN (k:=1300) rfl
    | true =>
     rw[cond_true];have hs:=ut (zz hmay).1;obtain⟨⟨n,A⟩,hi⟩:=wq hpi;obtain⟨⟨n',A'⟩,hj⟩:=wq hpj;rcases YN hs hmay hmay' hi hj with ⟨-,r1⟩ | ⟨hnn,b,c,ts,us,hb,-,rfl,rfl,ho,ho',hll,⟨r1,-⟩ | ⟨hnear,⟨r1,-⟩ | ⟨σ,hmgu,hok,⟨-,r1⟩ | ⟨-,r1⟩⟩⟩⟩
     ·exact qN r1
     ·exact qN r1
     ·exact qN r1
     ·exact qN r1
     ·rw[r1];exact Q1
theorem OV (a0:List zg) (L:List zc) (T:List jI) (C:List zc) (i:Int):∃ r,wQ a0 L T C i=some r∧(r.2.2.1=0->qy a0 r.1 r.2.1 r.2.2.2=true):=by
 rw[YK];cases hmay:qy a0 L T C with
 | false=>exact ⟨_,rfl,fun h=>by cases h⟩
 | true =>
  rw[aN];cases hpi:zW L i with
  | false=>exact ⟨_,rfl,fun h=>by cases h⟩
  | true =>
   rw[cond_true];by_cases h3:C.length=3
   ·rw[decide_eq_true h3]; exact ⟨_,rfl,fun h=>by cases h⟩
   ·rw[decide_eq_false h3,cond_false];refine ⟨_,rfl,fun _ => ?_⟩;obtain⟨x,hi⟩:=wq hpi;obtain⟨-,-,-,n3,-⟩:=zz hmay;unfold gx at hi;by_cases h0:0<=i
    ·rw[decide_eq_true h0,cond_true] at hi;have hm2:=Vl hmay h0 hi (by omega)
     unfold XB;rw[hi];exact Kc hm2
    ·rw[decide_eq_false h0] at hi; cases hi
abbrev V4:=List zc×List jI×Bool×List zc
abbrev Pu:=List zc×List jI×List zc
def Bk (a0:List zg) (r i s j t:Int) (c d:Pu):Option V4:=wA a0 r 0 i s 0 j t [] [] [] c.1 c.2.1 c.2.2 d.1 d.2.1 d.2.2
theorem zby {a0:List zg} (r i s j t:Int) {c d:Pu} (hc:qy a0 c.1 c.2.1 c.2.2=true) (hd:qy a0 d.1 d.2.1 d.2.2=true∨(r≠5∧r≠6)) (hi:0<=i):∃ q,Bk a0 r i s j t c d=some q∧(q.2.2.1=true->qy a0 q.1 q.2.1 q.2.2.2=true):=by
 have fin:∀{o:Option Xc},OkR a0 o->∃ q,(o.bind fun r11=>cond r11.2.2.1 (some (r11.1,r11.2.1,(r11.2.2.2.1==0),r11.2.2.2.2)) (some (r11.1,r11.2.1,false,r11.2.2.2.2)))=some q∧(q.2.2.1=true->qy a0 q.1 q.2.1 q.2.2.2=true):=by
  rintro o ⟨x,rfl,-,hx⟩;rw[aa];cases hok:x.2.2.1 with
  | false=>exact ⟨_,rfl,fun h=>nomatch h⟩
  | true=>exact ⟨_,rfl,fun h=>hx hok (by simpa using h)⟩
 have asm:∃ q,(cond (decide (i<((af c.1:Nat):Int)))
   ((gx c.1 i).bind fun e16 =>
    cond e16.1
    ((wQ a0 c.1 c.2.1 c.2.2 i).bind fun r17 =>
     cond e16.1
     (some (r17.1,r17.2.1,(r17.2.2.1==0),r17.2.2.2))
     (some (r17.1,r17.2.1,false,r17.2.2.2)))
    (cond e16.1
     (some (([]:jQ),([]:jR),true,([]:jQ)))
     (some (([]:jQ),([]:jR),false,([]:jQ)))))
   (some (([]:jQ),([]:jR),false,([]:jQ))))=some q∧(q.2.2.1=true->qy a0 q.1 q.2.1 q.2.2.2=true):=by
  by_cases hil:i<((af c.1:Nat):Int)
  ·rw[decide_eq_true hil,cond_true];obtain⟨e,g1,-⟩:=WN hi hil;rw[g1,aa];cases e.1 with
   | false=>exact ⟨_,rfl,fun h=>nomatch h⟩
   | true =>
    obtain⟨x,g2,g3⟩:=OV a0 c.1 c.2.1 c.2.2 i;simp only[cond_true,g2,aa];exact ⟨_,rfl,fun h=>g3 (by simpa using h)⟩
  ·rw[decide_eq_false hil];exact ⟨_,rfl,fun h=>nomatch h⟩
 unfold Bk wA;cases h1:r==1 with
 | true=>exact fin (An ..)
 | false =>
  cases h2:r==2 with
  | true=>exact fin (EQ ..)
  | false =>
   cases h3:r==3 with
   | true=>exact fin (Dg ..).2
   | false =>
    cases h4:r==4 with
    | true=>exact fin (Jd ..).2
    | false =>
     cases h5:r==5 with
     | true =>
      obtain⟨q,g1,g2⟩:=GJ r hc (hd.resolve_right fun h=>h.1 (by simpa using h5))
      simp only[cond_true,cond_false,g1,aa];exact ⟨_,rfl,g2⟩
     | false =>
      cases h6:r==6 with
      | true =>
       obtain⟨q,g1,g2⟩:=GJ r hc (hd.resolve_right fun h=>h.2 (by simpa using h6))
       simp only[cond_true,cond_false,g1,aa];exact ⟨_,rfl,g2⟩
      | false =>
       cases h7:r==7 with
       | true=>exact asm
       | false=>exact ⟨_,rfl,fun h=>nomatch h⟩
def Vp (x:u5):Pu:=(x.2.2.2.2.2.2.2.1,x.2.2.2.2.2.2.2.2.1,x.2.2.2.2.2.2.2.2.2)
def zc9:Pu:=([],[],[])
def Br:V4:=([],[],false,[])
def FP (o:Option V4):Option V4:=o.bind fun r=>cond (!r.2.2.1) (some Br) (some (r.1,r.2.1,true,r.2.2.2))
def CQ (x:u5):Bool:=DO x.1 x.2.1 x.2.2.1 x.2.2.2.1 x.2.2.2.2.1 x.2.2.2.2.2.1 x.2.2.2.2.2.2.1
def Ts (r:Int):Bool:=r==1||(r==3||(r==5||r==6))
def BJ (a0:List zg) (x:u5) (k:Int) (g:Int->Option u5):Option V4 :=
 cond (!CQ x) (some Br)
 (cond (x.1==0) ((tx x.2.2.2.2.2.2.2.1 x.2.2.2.2.2.2.2.2.1 x.2.2.2.2.2.2.2.2.2).bind fun r=>some (r.1,r.2.1,true,r.2.2))
  (cond (decide (x.2.1<0)) (some Br)
   (cond (decide (x.2.1≥k)) (some Br)
    (cond (Ts x.1)
     (cond (decide (x.2.2.2.2.1<0)) (some Br)
      (cond (decide (x.2.2.2.2.1≥k)) (some Br)
       ((g x.2.2.2.2.1).bind fun sb=>(g x.2.1).bind fun sa=>FP (Bk a0 x.1 x.2.2.1 x.2.2.2.1 x.2.2.2.2.2.1 x.2.2.2.2.2.2.1 (Vp sa) (Vp sb)))))
     ((g x.2.1).bind fun sa=>FP (Bk a0 x.1 x.2.2.1 x.2.2.2.1 x.2.2.2.2.2.1 x.2.2.2.2.2.2.1 (Vp sa) zc9))))))
theorem zbX (a0:List zg) (log:List u5) (k:Int):kx a0 log k=(gx log k).bind fun x=>BJ a0 x k (gx log):=by
 unfold kx;cases gx log k with
 | none=>rfl
 | some x =>
  obtain⟨p,h1,h2⟩:=R2 x.1 x.2.1 x.2.2.1 x.2.2.2.1 x.2.2.2.2.1 x.2.2.2.2.2.1 x.2.2.2.2.2.2.1 x.2.2.2.2.2.2.2.1 x.2.2.2.2.2.2.2.2.1 x.2.2.2.2.2.2.2.2.2;simp only[aa];rw[h1,aa,h2,aa];unfold BJ;rw[show CQ x=DO x.1 x.2.1 x.2.2.1 x.2.2.2.1 x.2.2.2.2.1 x.2.2.2.2.2.1 x.2.2.2.2.2.2.1 from rfl]
  cases DO x.1 x.2.1 x.2.2.1 x.2.2.2.1 x.2.2.2.2.1 x.2.2.2.2.2.1 x.2.2.2.2.2.2.1 with
  | false=>rfl
  | true =>
   unfold Ts;cases x.1==0 with
   | true=>rfl
   | false =>
    cases decide (x.2.1<0) with
    | true=>rfl
    | false =>
     cases decide (x.2.1≥k) with
     | true=>rfl
     | false =>
      cases x.1==1 with
      | true=>rfl
      | false =>
       cases x.1==3 with
       | true=>rfl
       | false =>
        cases x.1==5 with
        | true=>rfl
        | false =>
         cases x.1==6 with
         | true=>rfl
         | false=>rfl
def AG (a0:List zg) (log:List u5) (k:Nat):Prop:=∃ x,log[k]? = some x∧BJ a0 x (k:Int) (gx log)=some (x.2.2.2.2.2.2.2.1,x.2.2.2.2.2.2.2.2.1,true,x.2.2.2.2.2.2.2.2.2)
theorem zak {a0:List zg} {log:List u5} (h:HC a0 log=true) {k:Nat} {x:u5} (hk:log[k]? = some x):∃ q,BJ a0 x (k:Int) (gx log)=some q∧(q.2.2.1=true->qy a0 q.1 q.2.1 q.2.2.2=true):=by
 obtain⟨hs,hl,hall⟩:=ZB h;have hx:=hall x (aJ hk);obtain⟨hkl,-⟩:=List.getElem?_eq_some_iff.1 hk;have bad:∃ q,some Br=some q∧(q.2.2.1=true->qy a0 q.1 q.2.1 q.2.2.2=true):=⟨_,rfl,fun h=>nomatch h⟩;unfold BJ;cases CQ x with
 | false=>exact bad
 | true =>
  cases x.1==0 with
  | true =>
   have hm:=Y9 hx;simp only[az,cond_true,cond_false];rw[Za hm];exact ⟨_,rfl,fun _=>hm⟩
  | false =>
   simp only[az,cond_false];by_cases ha:x.2.1<0
   ·rw[decide_eq_true ha]; exact bad
   rw[decide_eq_false ha,cond_false];by_cases hak:x.2.1≥(k:Int)
   ·rw[decide_eq_true hak]; exact bad
   rw[decide_eq_false hak,cond_false];obtain⟨sa,ga,gm,-⟩:=WN (xs:=log) (i:=x.2.1) (by omega) (by omega)
   have hma:=Y9 (hall sa gm);have fin:∀{d:Pu},(qy a0 d.1 d.2.1 d.2.2=true∨(x.1≠5∧x.1≠6))->∃ q,FP (Bk a0 x.1 x.2.2.1 x.2.2.2.1 x.2.2.2.2.2.1 x.2.2.2.2.2.2.1 (Vp sa) d)=some q∧(q.2.2.1=true->qy a0 q.1 q.2.1 q.2.2.2=true):=by
    intro d hd;have hi:0<=x.2.2.1:=by
     unfold JC LH wiB at hx;simp only[ay,decide_eq_true_eq] at hx;exact hx.1.2.2.2.1.1
    obtain⟨q,g1,g2⟩:=zby (a0:=a0) x.1 x.2.2.1 x.2.2.2.1 x.2.2.2.2.2.1 x.2.2.2.2.2.2.1 (c:=Vp sa) (d:=d) hma hd hi;unfold FP;rw[g1,aa];cases hq:q.2.2.1 with
    | false=>exact bad
    | true=>exact ⟨_,rfl,fun _=>g2 hq⟩
   cases ht:Ts x.1 with
   | true =>
    rw[cond_true];by_cases hb:x.2.2.2.2.1<0
    ·rw[decide_eq_true hb]; exact bad
    rw[decide_eq_false hb,cond_false];by_cases hbk:x.2.2.2.2.1≥(k:Int)
    ·rw[decide_eq_true hbk]; exact bad
    rw[decide_eq_false hbk,cond_false];obtain⟨sb,gb,gmb,-⟩:=WN (xs:=log) (i:=x.2.2.2.2.1) (by omega) (by omega)
    rw[gb,aa,ga,aa];exact fin (.inl (Y9 (hall sb gmb)))
   | false =>
    rw[cond_false,ga,aa];refine fin (.inr ?_);unfold Ts at ht;simp only[Bool.or_eq_false_iff,beq_eq_false_iff_ne] at ht;exact ⟨ht.2.2.1,ht.2.2.2⟩
theorem Ee {a0:List zg} {log:List u5} (h:HC a0 log=true):(es:List u5)->(k i:Nat)->es.length<k->log.drop i=es ->
  (lp xU k (a0,log,((log.length:Nat):Int),(i:Int))=some (.inl ())∧∀ m,i<=m->m<log.length->AG a0 log m) ∨
  ∃ m:Nat,i<=m∧m<log.length∧¬ AG a0 log m∧lp xU k (a0,log,((log.length:Nat):Int),(i:Int))=some (.inr ((m:Int),0))
 | _,0,_,h,_=>by omega
 | [],k+1,i,_,hd=>by
  refine .inl ⟨?_,fun m h1 h2 => ?_⟩
  ·rw[zv];generalize lp xU k=rec;unfold xU;simp only[jD (vd hd),cond_false]
  ·have:=vd hd; omega
 | x::es,k+1,i,hk,hd=>by
  have hx:=zr hd;have hi:=qr hd;have hl:log.length<=maxLen:=aT (ZB h).2.1 (by decide)
  obtain⟨q,g1,g2⟩:=zak h hx;have e1:kx a0 log (i:Int)=some q:=by rw[zbX,y8,hx]; exact g1
  have ih:=Ee h es k (i+1) (by rw[ak] at hk; omega) (zj hd)
  rw[zv];generalize lp xU k=rec at ih ⊢;unfold xU;simp only[ZZ hi,cond_true,e1,aa,y8,hx,j5 hi hl];cases hq:q.2.2.1 with
  | false =>
   refine .inr ⟨i,aC _,hi,?_,rfl⟩;rintro⟨y,h1,h2⟩;rw[hx] at h1;cases h1
   rw[g1] at h2;rw[fG h2] at hq;cases hq
  | true =>
   rw[J3 (g2 hq),aa];simp only[az,cond_false];by_cases he:(q.1,q.2.1,q.2.2.2)=(x.2.2.2.2.2.2.2.1,x.2.2.2.2.2.2.2.2.1,x.2.2.2.2.2.2.2.2.2)
   ·rw[decide_eq_true he];simp only[az,cond_false];refine ih.imp (fun h=>⟨h.1,fun m h1 h2 => ?_⟩) (fun ⟨m,h1,h2⟩=>⟨m,by omega,h2⟩)
    by_cases hm:m=i
    ·subst hm;refine ⟨x,hx,?_⟩;rw[g1];obtain⟨q1,q2,q3,q4⟩:=q;simp only[aM] at he hq;rw[he.1,he.2.1,he.2.2,hq]
    ·exact h.2 m (by omega) h2
   ·rw[decide_eq_false he];refine .inr ⟨i,aC _,hi,?_,rfl⟩;rintro⟨y,h1,h2⟩;rw[hx] at h1;cases h1
    rw[g1] at h2;apply he;rw[fG h2]
theorem E8 {a0:List zg} {log:List u5} (h:HC a0 log=true):(vQ a0 log=some (-1,0)∧∀ m,m<log.length->AG a0 log m)∨∃ m:Nat,m<log.length∧¬ AG a0 log m∧vQ a0 log=some ((m:Int),0):=by
 unfold vQ;rw[D9,h,aa];simp only[az,cond_false];rcases Ee h log ze 0 (cO (ZB h).2.1 (by decide)) rfl with ⟨g1,g2⟩ | ⟨m,g1,g2,g3,g4⟩
 ·refine .inl ⟨?_,fun m hm=>g2 m (bN _) hm⟩;rw[show (0:Int)=((0:Nat):Int) from rfl,g1]
  rfl
 ·refine .inr ⟨m,g2,g3,?_⟩;rw[show (0:Int)=((0:Nat):Int) from rfl,g4]
  rfl
theorem MB {a0:List zg} {log:List u5} (h:HC a0 log=false):vQ a0 log=some (0,1800):=by
 unfold vQ;rw[D9,h];rfl
theorem JO:XT=some true:=by kernel_rfl
def Par (x:u5) (p:Nat):Prop:=(p:Int)=x.2.1∨(p:Int)=x.2.2.2.2.1
section
variable {a0:List zg} {log:List u5} (h:HC a0 log=true) (hr:∀ m,m<log.length->AG a0 log m)
include h hr
end
section
variable {a0:List zg} {log:List u5} (h:HC a0 log=true) (hr:∀ m,m<log.length->AG a0 log m)
 {ns:List Nat} (hp:ns.Pairwise (fun a b=>a<b)) (hlt:∀ u∈ns,u<log.length) (hclo:∀ u∈ns,∀ x,log[u]? = some x->∀ p,Par x p->p∈ns)
include h hr hp hlt hclo
end
section
variable {a0:List zg} {c d:Pu} (hc:qy a0 c.1 c.2.1 c.2.2=true) (hd:qy a0 d.1 d.2.1 d.2.2=true) (a b:Int)
include hc hd
end
section
variable {a0:List zg} {L:List zc} {T:List jI} {C:List zc} (hmay:qy a0 L T C=true)
include hmay
end
def zb7 (x:u5):V4:=(x.2.2.2.2.2.2.2.1,x.2.2.2.2.2.2.2.2.1,true,x.2.2.2.2.2.2.2.2.2)
theorem zfm {P:V4->Prop} {o:Option Xc} (h:∃ x,o=some x∧(x.2.2.2.1=0->x.2.2.1=true->P (x.1,x.2.1,true,x.2.2.2.2))) {q:V4} (hq:(o.bind fun r11=>cond r11.2.2.1 (some (r11.1,r11.2.1,(r11.2.2.2.1==0),r11.2.2.2.2)) (some (r11.1,r11.2.1,false,r11.2.2.2.2)))=some q) (hok:q.2.2.1=true):P q:=by
 obtain⟨x,rfl,hx⟩:=h;rw[aa] at hq;cases h1:x.2.2.1 with
 | false =>
  rw[h1,cond_false] at hq;cases hq
  cases hok
 | true =>
  rw[h1,cond_true] at hq;cases hq
  have h2:(x.2.2.2.1==0)=true:=hok;have:=hx (by simpa using h2) h1
  rw[h2];exact this
theorem P2 {a0:List zg} {L:List zc} {T:List jI} {C:List zc} {i side:Int} {L':List zc} {T':List jI} {C':List zc} {j t:Int} {r:Xc} (h:qy a0 L T C=true) (h':qy a0 L' T' C'=true) (hr:sc a0 L T C i side L' T' C' j t=some r) (hk:r.2.2.1=true) :
  eqB L i false=true∧(side=0∨side=1)∧0<=j∧j<L'.length∧1<=t∧t<Xk L' j:=by
 have bad:∀{k:Int},wb k=some r->False:=fun e=>by
  injection e with e;rw[← e] at hk;cases hk
 have hL:∀ l∈L,vq a0 l.2=true:=fun l hl=>aD.1 (zz h).2.2.2.2.1 l hl;unfold sc at hr;rw[zG,aa,h,zG,aa,h',vX hL] at hr;simp only[az,cond_false,aa] at hr;cases he:eqB L i false with
 | false=>rw[he] at hr; exact (bad (k:=1500) hr).elim
 | true =>
  rw[he] at hr;simp only[az,cond_false] at hr;have rest:∀{o:Option Xc},o=some r->o=cond (decide (j<0)) (wb 1500) (cond (decide (j≥((af L':Nat):Int))) (wb 1500) (cond (decide (t<1)) (wb 1500) ((gx L' j).bind fun e11=>cond (decide (t≥((af e11.2:Nat):Int))) (wb 1500) ((sZ a0 L T C i side L' T' C' j t).bind fun r12=>some (r12.1,r12.2.1,r12.2.2.1,r12.2.2.2.1,r12.2.2.2.2)))))->0<=j∧j<L'.length∧1<=t∧t<Xk L' j:=by
   intro o h1 h2;rw[h1] at h2;by_cases j0:j<0
   ·rw[decide_eq_true j0] at h2; exact (bad h2.symm).elim
   rw[decide_eq_false j0,cond_false] at h2;by_cases j1:j≥((af L':Nat):Int)
   ·rw[decide_eq_true j1] at h2; exact (bad h2.symm).elim
   rw[decide_eq_false j1,cond_false] at h2;by_cases t0:t<1
   ·rw[decide_eq_true t0] at h2; exact (bad h2.symm).elim
   rw[decide_eq_false t0,cond_false] at h2;obtain⟨e,he,-⟩:=WN (xs:=L') (i:=j) (by omega) (by omega)
   rw[he,aa] at h2;by_cases t1:t≥((af e.2:Nat):Int)
   ·rw[decide_eq_true t1] at h2; exact (bad h2.symm).elim
   have hrl:Xk L' j=e.2.length:=by unfold Xk; rw[he]
   rw[hrl];omega
  refine ⟨rfl,?_⟩;by_cases s0:side=0
  ·subst s0;exact ⟨.inl rfl,rest hr rfl⟩
  ·rw[show (side != 0)=true from by rw[bne_iff_ne]; exact s0,cond_true] at hr
   by_cases s1:side=1
   ·subst s1;exact ⟨.inr rfl,rest hr rfl⟩
   ·rw[show (side != 1)=true from by rw[bne_iff_ne]; exact s1] at hr
    exact (bad (k:=1500) hr).elim
theorem Fe {a0:List zg} {L:List zc} {T:List jI} {C:List zc} {i:Int} {r:Xc} (h:qy a0 L T C=true) (hr:tE a0 L T C i=some r) (hk:r.2.2.1=true):eqB L i true=true∧uD a0 L T C i=some r:=by
 have hL:∀ l∈L,vq a0 l.2=true:=fun l hl=>aD.1 (zz h).2.2.2.2.1 l hl;unfold tE at hr;rw[zG,aa,h,vX hL] at hr;simp only[az,cond_false,aa] at hr;cases he:eqB L i true with
 | false =>
  rw[he] at hr;injection hr with e;rw[← e] at hk;cases hk
 | true =>
  rw[he] at hr;simp only[az,cond_false] at hr;rw[zfg] at hr;exact ⟨rfl,hr⟩
theorem zbB {a0:List zg} {m:Int} {nums:List Int} {l rr:Tm} {us:List Tm} {n:Nat} {res:List Int×Int×Bool} (h:Rew a0 l rr us n res) (hu:okR a0 24 us) (hok:res.2.2=true) :
  ∃ vs,okR a0 24 vs∧za vs=res.1∧∀ env:Nat->Int,(∀ σ:Sb,(∀ x,x<24->(σ x).ok a0 24)->uy m nums env (l.sub σ)=uy m nums env (rr.sub σ))->rq m nums env us=rq m nums env vs:=by
 induction h with
 | stop us n _=>exact ⟨us,hu,rfl,fun _ _=>rfl⟩
 | full=>cases hok
 | next us ws n σ res _ _ _ h4 h5 h6 _ ih =>
  obtain⟨vs,v1,v2,v3⟩:=ih h6 hok;exact ⟨vs,v1,v2,fun env he=>by rw[← v3 env he]; exact RR.val h5 (he σ h4)⟩
theorem So {a0:List zg} {m:Int} {nums:List Int} {l rr:Tm} {L L':List zc} {k:Nat} (h:LRws a0 l rr L L' k):(Lt:List wR)->L=Lt.map cl->(∀ l∈Lt,okR a0 24 l.2.2) ->
  ∃ Lt':List wR,L'=Lt'.map cl∧(∀ l∈Lt',okR a0 24 l.2.2)∧∀ env:Nat->Int,(∀ σ:Sb,(∀ x,x<24->(σ x).ok a0 24)->uy m nums env (l.sub σ)=uy m nums env (rr.sub σ))->Lt'.any (Zw m nums env)=Lt.any (Zw m nums env):=by
 induction h with
 | nil =>
  intro Lt hL _;cases Lt with
  | nil=>exact ⟨[],rfl,(fun _ h=>nomatch h),fun _ _=>rfl⟩
  | cons _ _=>cases hL
 | cons e e' es es' m' k' h1 _ ih =>
  intro Lt hL ho;cases Lt with
  | nil=>cases hL
  | cons x xs =>
   rw[aK] at hL;injection hL with hx hxs;obtain⟨ys,y1,y2,y3⟩:=ih xs hxs (fun z hz=>ho z (ai _ hz));obtain⟨c,us,ws,g1,g2,g3,g4⟩:=h1;obtain⟨vs,v1,v2,v3⟩:=zbB (m:=m) (nums:=nums) g4 g2 rfl;have hx2:x.2.2=us∧x.2.1=c∧x.1=e.1:=by
    rw[hx] at g1;have g1:((x.2.1:Nat):Int)::za x.2.2=(c:Int)::za us:=g1;injection g1 with a1 a2;exact ⟨yH _ x.2.2 us (aC _) (ho x (aj ..)) g2 a2,by omega,by rw[hx]; rfl⟩
   refine ⟨(e.1,c,vs)::ys,by rw[aK,y1,g3]; unfold cl; rw[v2],fun z hz => ?_,fun env he => ?_⟩
   ·rcases aG.1 hz with rfl | hz
    ·exact v1
    ·exact y2 z hz
   ·rw[ee,ee,y3 env he]
    congr 1
    unfold Zw Wz;simp only;rw[hx2.1,hx2.2.1,hx2.2.2,v3 env he]
section
variable {m:Nat} (hm:0<m) (hm3:m<=3) {nums:List Int} (hn:tN nums) {a0:List zg} (hs:SignOk a0)
include hm hm3 hn hs
theorem GH {L:List wR} {T:List (List Tm)} {C:List wR} (hmay:qy a0 (L.map cl) (T.map za) (C.map cl)=true) (hL:∀ l∈L,okR a0 24 l.2.2) (hT:∀ r∈T,okR a0 24 r) (hC:∀ l∈C,okR a0 24 l.2.2) (H:Holds m nums L T C) :
  zy (m:Int) nums a0 (x5 (L.map cl) (T.map za) (C.map cl)).1 (x5 (L.map cl) (T.map za) (C.map cl)).2.1 (x5 (L.map cl) (T.map za) (C.map cl)).2.2=some true:=by
 have i1:∀ X:List wR,X.map (xp fun n=>Tm.v n)=X:=fun X=>by
  have:∀ x:wR,xp (fun n=>Tm.v n) x=x:=fun x=>by
   unfold xp;rw[Vm]
  rw[bx fun x _=>this x,fE]
 have i2:T.map (qO fun n=>Tm.v n)=T:=by
  rw[bx fun x _=>Vm x,fE]
 have e1:∀ X:List wR,qK (fun n=>Tm.v n) (X.map cl)=X.map cl:=fun X=>by rw[Yl,i1]
 have e2:(T.map za).map (vn fun n=>Tm.v n)=T.map za:=by rw[jb,i2]
 obtain⟨-,k2⟩:=kz (m:=m) hm hm3 hn hs (σ:=fun n=>Tm.v n) (fun x hx=>hx) hL hT hC (by rw[e1,e2,e1]; exact hmay)
 rw[e1,e2,e1] at k2;exact k2 fun E hE=>H E hE
theorem Fg {L:List wR} {T:List (List Tm)} {C:List wR} (hL:∀ l∈L,okR a0 24 l.2.2) (hT:∀ r∈T,okR a0 24 r) (hC:∀ l∈C,okR a0 24 l.2.2) (H:Holds m nums L T C)
  {s0 s1 l rr:Tm} (o0:s0.ok a0 24) (o1:s1.ok a0 24) (hlr:(l=s0∧rr=s1)∨(l=s1∧rr=s0)) (HE:Holds m nums [(false,0,[s0,s1])] [] []) {L':List zc} {k:Nat} (hrw:LRws a0 l rr (L.map cl) L' k) (hmay':qy a0 L' (T.map za) (C.map cl)=true) :
  zy (m:Int) nums a0 (x5 L' (T.map za) (C.map cl)).1 (x5 L' (T.map za) (C.map cl)).2.1 (x5 L' (T.map za) (C.map cl)).2.2=some true:=by
 obtain⟨Lt',rfl,ok',hv⟩:=So (m:=(m:Int)) (nums:=nums) hrw L rfl hL;refine GH hm hm3 hn hs hmay' ok' hT hC fun E hE => ?_;have hany:=hv (xM E) (fun σ hσ=>by
  have h24:∀ x,Kr [((false,0,[s0,s1]):wR)] [] [] x->x<24:=fun x hx=>by
   rcases hx with ⟨y,hy,hx⟩ | ⟨y,hy,hx⟩ | ⟨y,hy,hx⟩
   ·rw[bb.1 hy] at hx;exact wZ _ (show okR a0 24 [s0,s1] from ⟨o0,o1,trivial⟩) hx
   ·cases hy
   ·cases hy
  have h1:=HE.inst hm hn hs hσ h24 hE;have h2:Zw (m:Int) nums (fun n=>uy (m:Int) nums (xM E) (σ n)) (false,0,[s0,s1])=true:=by
   rcases zF.1 h1 with ⟨y,hy,-⟩ | ⟨y,hy,hv⟩ | ⟨y,hy,-⟩
   ·cases hy
   ·rw[← bb.1 hy]; exact hv
   ·cases hy
  unfold Zw Wz at h2;have h3:uy (m:Int) nums (fun n=>uy (m:Int) nums (xM E) (σ n)) s0=uy (m:Int) nums (fun n=>uy (m:Int) nums (xM E) (σ n)) s1:=by
   simpa[rq] using h2
  rw[Yc,Yc];rcases hlr with ⟨rfl,rfl⟩ | ⟨rfl,rfl⟩
  ·exact h3
  ·exact h3.symm)
 have h0:=H E hE;unfold rK at h0 ⊢;rw[hany];exact h0
theorem Pk {L:List wR} {T:List (List Tm)} {C:List wR} (hmay:qy a0 (L.map cl) (T.map za) (C.map cl)=true) (hL:∀ l∈L,WfL a0 l) (hT:∀ r∈T,okR a0 24 r) (hC:∀ l∈C,okR a0 24 l.2.2) (H:Holds m nums L T C)
  {u:wR} (hu:WfL a0 u) (hua:vq a0 (cl u).2=true) (HU:Holds m nums [u] [] []) :
  zy (m:Int) nums a0 (x5 ((L.map cl).filter fun l => !YR a0 (cl u).1 (cl u).2 l) (T.map za) (C.map cl)).1 (x5 ((L.map cl).filter fun l => !YR a0 (cl u).1 (cl u).2 l) (T.map za) (C.map cl)).2.1 (x5 ((L.map cl).filter fun l => !YR a0 (cl u).1 (cl u).2 l) (T.map za) (C.map cl)).2.2=some true:=by
 have hmay2:=Vu hmay (fun l => !YR a0 (cl u).1 (cl u).2 l);rw[List.filter_map] at hmay2 ⊢;refine GH hm hm3 hn hs hmay2 (fun l hl=>(hL l (dp.1 hl).1).1) hT hC fun E hE => ?_;rcases zF.1 (H E hE) with h | ⟨l,hl,hv⟩ | h
 ·exact zF.2 (.inl h)
 ·refine zF.2 (.inr (.inl ⟨l,dp.2 ⟨hl,?_⟩,hv⟩));show (!YR a0 (cl u).1 (cl u).2 (cl l))=true;cases hg:YR a0 (cl u).1 (cl u).2 (cl l) with
  | false=>rfl
  | true =>
   exfalso;have hla:vq a0 (cl l).2=true:=aD.1 (zz hmay).2.2.2.2.1 (cl l) (List.mem_map_of_mem hl);obtain⟨hne,hmt⟩:=((Nu hs (n:=(cl u).1) (m:=(cl l).1) hua hla).2 u.2.1 l.2.1 u.2.2 l.2.2 rfl rfl hu.1 (hL l hl).1).1 hg;unfold mtA at hmt;by_cases hcd:u.2.1=l.2.1
   ·rw[if_pos hcd] at hmt;obtain⟨B,hB⟩:=Option.isSome_iff_exists.1 hmt;have hlen:∀ t∈l.2.2,t.codes.length<=1000:=fun t ht=>aT (uR ht) (aT (hL l hl).2.2 (by omega))
    have hBo:=DL _ u.2.2 l.2.2 hu.1 (hL l hl).1 hlen _ B (BOk.zero a0) hB;have hsub:=(Wm _ u.2.2 l.2.2 hu.1 (hL l hl).1 hlen _ B (BOk.zero a0) hB).2.1 (sbB B) (BSub.sb B);have hσ:∀ x,x<24->(sbB B x).ok a0 24:=fun x hx=>by
     unfold sbB;cases hx2:B x with
     | none=>exact hx
     | some t=>exact (hBo.ok x t hx2).1
    have h24:∀ x,Kr [u] [] [] x->x<24:=fun x hx=>by
     rcases hx with ⟨y,hy,hx⟩ | ⟨y,hy,hx⟩ | ⟨y,hy,hx⟩
     ·rw[bb.1 hy] at hx;exact wZ _ hu.1 hx
     ·cases hy
     ·cases hy
    have h1:=HU.inst hm hn hs hσ h24 hE;have h2:Zw (m:Int) nums (fun n=>uy (m:Int) nums (xM E) (sbB B n)) u=true:=by
     rcases zF.1 h1 with ⟨y,hy,-⟩ | ⟨y,hy,hv⟩ | ⟨y,hy,-⟩
     ·cases hy
     ·rw[← bb.1 hy]; exact hv
     ·cases hy
    unfold Zw Wz at h2 hv;rw[← km,hsub,hcd] at h2;have hne':l.1≠u.1:=hne
    revert h2 hv hne'
    generalize (cond (l.2.1==0) _ _:Bool)=z;cases z<;>cases l.1<;>cases u.1<;>simp
   ·rw[if_neg hcd] at hmt;cases hmt
 ·exact zF.2 (.inr (.inr h))
end
theorem PG {a0:List zg} {x:u5} {k:Int} {g:Int->Option u5} (h:BJ a0 x k g=some (zb7 x)) (h0:x.1≠0) :
  ∃(sa:u5) (d:Pu),g x.2.1=some sa∧0<=x.2.1∧x.2.1<k∧Bk a0 x.1 x.2.2.1 x.2.2.2.1 x.2.2.2.2.2.1 x.2.2.2.2.2.2.1 (Vp sa) d=some (zb7 x)∧(Ts x.1=true->∃ sb,d=Vp sb∧g x.2.2.2.2.1=some sb∧0<=x.2.2.2.2.1∧x.2.2.2.2.1<k):=by
 have bad:∀{P:Prop},some Br=some (zb7 x)->P:=fun h=>by injection h with h; injection h with _ h; injection h with _ h; injection h with h; cases h
 have fin:∀{o:Option V4},FP o=some (zb7 x)->o=some (zb7 x):=fun {o} h=>by
  unfold FP at h;cases o with
  | none=>cases h
  | some r =>
   rw[aa] at h;cases hr:r.2.2.1 with
   | false=>rw[hr] at h; exact bad h
   | true =>
    rw[hr] at h;obtain⟨r1,r2,r3,r4⟩:=r;simp only at hr;subst hr;exact h
 unfold BJ at h;cases hn:CQ x with
 | false=>rw[hn] at h; exact bad h
 | true =>
  rw[hn,show (x.1==0)=false from by rw[beq_eq_false_iff_ne]; exact h0] at h
  simp only[az,cond_false] at h;by_cases ha:x.2.1<0
  ·rw[decide_eq_true ha] at h; exact bad h
  rw[decide_eq_false ha,cond_false] at h;by_cases hak:x.2.1≥k
  ·rw[decide_eq_true hak] at h; exact bad h
  rw[decide_eq_false hak,cond_false] at h;cases ht:Ts x.1 with
  | true =>
   rw[ht,cond_true] at h;by_cases hb:x.2.2.2.2.1<0
   ·rw[decide_eq_true hb] at h; exact bad h
   rw[decide_eq_false hb,cond_false] at h;by_cases hbk:x.2.2.2.2.1≥k
   ·rw[decide_eq_true hbk] at h; exact bad h
   rw[decide_eq_false hbk,cond_false] at h;cases hgb:g x.2.2.2.2.1 with
   | none=>rw[hgb] at h; cases h
   | some sb =>
    rw[hgb,aa] at h;cases hga:g x.2.1 with
    | none=>rw[hga] at h; cases h
    | some sa =>
     rw[hga,aa] at h;exact ⟨sa,Vp sb,rfl,by omega,by omega,fin h,fun _=>⟨sb,rfl,rfl,by omega,by omega⟩⟩
  | false =>
   rw[ht,cond_false] at h;cases hga:g x.2.1 with
   | none=>rw[hga] at h; cases h
   | some sa =>
    rw[hga,aa] at h;exact ⟨sa,zc9,rfl,by omega,by omega,fin h,fun h=>nomatch h⟩
section
variable {m:Nat} (hm:0<m) (hm3:m<=3) {nums:List Int} (hn:tN nums) {a0:List zg} (hs:SignOk a0)
include hm hm3 hn hs
def W1 (m:Nat) (nums:List Int) (a0:List zg) (c:Pu):Prop:=zy (m:Int) nums a0 c.1 c.2.1 c.2.2=some true
theorem Q8 {c:Pu} (hc:qy a0 c.1 c.2.1 c.2.2=true) (H:W1 m nums a0 c):∃(L:List wR) (T:List (List Tm)) (C:List wR),c=(L.map cl,T.map za,C.map cl)∧(∀ l∈L,WfL a0 l)∧(∀ r∈T,WfR a0 r)∧(∀ l∈C,WfL a0 l)∧Holds m nums L T C:=by
 obtain⟨cL,cT,cC⟩:=c;obtain⟨L,T,C,e1,e2,e3,h1,h2,h3⟩:=Is hc;simp only at e1 e2 e3;subst e1; subst e2; subst e3;obtain⟨b,g1,g2⟩:=Xs hm hm3 hn hs hc h1 h2 h3;unfold W1 at H;simp only at H;rw[g1] at H;injection H with H;exact ⟨L,T,C,rfl,h1,h2,h3,g2.1 H⟩
theorem E4 (r i s j t:Int) {c d:Pu} (hc:qy a0 c.1 c.2.1 c.2.2=true) (Hc:W1 m nums a0 c) (hd:Ts r=true->qy a0 d.1 d.2.1 d.2.2=true∧W1 m nums a0 d) {q:V4} (hq:Bk a0 r i s j t c d=some q) (hok:q.2.2.1=true):W1 m nums a0 (q.1,q.2.1,q.2.2.2):=by
 obtain⟨L,T,C,rfl,wL,wT,wC,H⟩:=Q8 hm hm3 hn hs hc Hc;simp only at hc;have bad:∀{P:Prop} {x:V4},some x=some q->x.2.2.1=false->P:=fun h h'=>by
  injection h with h;rw[h,hok] at h';cases h'
 unfold Bk wA at hq;simp only at hq;cases h1:r==1 with
 | true =>
  rw[h1,cond_true] at hq;have hr:r=1:=by simpa using h1
  obtain⟨md,Hd⟩:=hd (by rw[hr]; rfl)
  obtain⟨L',T',C',rfl,wL',wT',wC',H'⟩:=Q8 hm hm3 hn hs md Hd;refine zfm (P:=fun q=>W1 m nums a0 (q.1,q.2.1,q.2.2.2)) ?_ hq hok;obtain⟨x,e1,e2⟩:=G9 hm hm3 hn hs hc wL wT wC md wL' wT' wC' i j;exact ⟨x,e1,fun z1 z2=>(e2 z1 z2).2 H H'⟩
 | false =>
  rw[h1,cond_false] at hq;cases h2:r==2 with
  | true =>
   rw[h2,cond_true] at hq;refine zfm (P:=fun q=>W1 m nums a0 (q.1,q.2.1,q.2.2.2)) ?_ hq hok;obtain⟨x,e1,e2⟩:=DU hm hm3 hn hs hc wL wT wC i j;exact ⟨x,e1,fun z1 z2=>(e2 z1 z2).2 H⟩
  | false =>
   rw[h2,cond_false] at hq;cases h3:r==3 with
   | true =>
    rw[h3,cond_true] at hq;have hr:r=3:=by simpa using h3
    obtain⟨md,Hd⟩:=hd (by rw[hr]; rfl)
    obtain⟨L',T',C',rfl,wL',wT',wC',H'⟩:=Q8 hm hm3 hn hs md Hd;refine zfm (P:=fun q=>W1 m nums a0 (q.1,q.2.1,q.2.2.2)) ?_ hq hok;obtain⟨x,e1,-,-⟩:=(Dg a0 (L.map cl) (T.map za) (C.map cl) i s (L'.map cl) (T'.map za) (C'.map cl) j t).2;refine ⟨x,e1,fun z1 z2 => ?_⟩;obtain⟨p1,p2,p3,p4,p5,p6⟩:=P2 hc md e1 z2;obtain⟨t,rfl⟩:=dA (show 0<=t by omega)
    exact FE hm hm3 hn hs hc wL wT wC md wL' wT' wC' p1 p2 p3 p4 (by omega) (Int.ofNat_lt.1 p6) e1 z2 z1 H H'
   | false =>
    rw[h3,cond_false] at hq;cases h4:r==4 with
    | true =>
     rw[h4,cond_true] at hq;refine zfm (P:=fun q=>W1 m nums a0 (q.1,q.2.1,q.2.2.2)) ?_ hq hok;obtain⟨x,e1,-,-⟩:=(Jd a0 (L.map cl) (T.map za) (C.map cl) i).2;refine ⟨x,e1,fun z1 z2 => ?_⟩;obtain⟨p1,p2⟩:=Fe hc e1 z2;exact Dz hm hm3 hn hs hc wL wT wC p1 p2 z2 z1 H
    | false =>
     rw[h4,cond_false] at hq;have simp5:Ts r=true->∀{o:Option V4},o=some q->(vJ a0 r (L.map cl) (T.map za) (C.map cl) d.1 d.2.1 d.2.2).bind (fun r15=>some (r15.1,r15.2.1,r15.2.2.1,r15.2.2.2))=o->W1 m nums a0 (q.1,q.2.1,q.2.2.2):=by
      intro htw o ho hck;rw[ho] at hck;obtain⟨md,Hd⟩:=hd htw;obtain⟨L',T',C',rfl,wL',wT',wC',H'⟩:=Q8 hm hm3 hn hs md Hd;simp only at md hck;unfold vJ at hck;cases h6:r==6 with
      | true =>
       rw[h6,cond_true,Ax,aa] at hck;by_cases hu:(L'.map cl).length=1∧T'.map za=[]∧C'.map cl=[]
       ·rw[decide_eq_true hu] at hck;obtain⟨u,rfl⟩:∃ u,L'=[u]:=by
         rw[aF] at hu;exact fF.1 hu.1
        obtain rfl:T'=[]:=d7.1 hu.2.1;obtain rfl:C'=[]:=d7.1 hu.2.2;have hA:vq a0 (cl u).2=true:=aD.1 (zz md).2.2.2.2.1 (cl u) (aj ..);simp only[az,cond_false,aK,List.map_nil,z6,aB,aa] at hck;rw[Jg hA hc] at hck;simp only[aa,show ((0:Int)==0)=true from rfl,cond_true] at hck
        injection hck with hck;rw[← hck];exact Pk hm hm3 hn hs hc wL (fun r hr=>(wT r hr).1) (fun l hl=>(wC l hl).1) H (wL' u (aj ..)) hA H'
       ·rw[decide_eq_false hu] at hck;exact bad hck rfl
      | false =>
       rw[h6,cond_false] at hck;obtain⟨z,g1,g2⟩:=Xl a0 (L'.map cl) (T'.map za) (C'.map cl) md;rw[g1,aa] at hck;cases hz:z.1 with
       | false=>rw[hz] at hck; exact bad hck rfl
       | true =>
        obtain⟨s0,s1,l,rr,e1,e2,e3,hlr,o0,o1,l0,l1,rfl⟩:=g2 hz;have oo:s0.ok a0 24∧s1.ok a0 24:=by rcases hlr with ⟨rfl,rfl⟩ | ⟨rfl,rfl⟩<;>exact ⟨by assumption,by assumption⟩
        obtain⟨u,rfl⟩:∃ u,L'=[u]:=by
         have:=congrArg af e1;rw[aF] at this;exact fF.1 this
        obtain rfl:T'=[]:=d7.1 e2;obtain rfl:C'=[]:=d7.1 e3;have hu:u=(false,0,[s0,s1]):=by
         have e1:[cl u]=[(false,(0:Int)::za [s0,s1])]:=e1;injection e1 with e1 _;injection e1 with e1 e4;injection e4 with e4 e5;have e6:=yH _ u.2.2 [s0,s1] (aC _) (wL' u (aj ..)).1 ⟨oo.1,oo.2,trivial⟩ e5;obtain⟨u1,u2,u3⟩:=u;simp only at e1 e4 e6;rw[e1,e6,show u2=0 by omega]
        subst hu;obtain⟨y,f1,f2⟩:=YI hs o0 o1 l0 l1 hc;simp only[az,cond_false] at hck;rw[f1,aa] at hck;rcases f2 with ⟨n,k,hk,rfl⟩ | ⟨L2,n,f3,f4,rfl⟩
        ·simp only at hck;rw[show (k==0)=false from by rw[beq_eq_false_iff_ne]; omega] at hck
         exact bad hck rfl
        ·simp only[show ((0:Int)==0)=true from rfl,cond_true,aa] at hck
         injection hck with hck;rw[← hck];exact Fg hm hm3 hn hs (fun l hl=>(wL l hl).1) (fun r hr=>(wT r hr).1) (fun l hl=>(wC l hl).1) H oo.1 oo.2 hlr H' f3 f4
     cases h5:r==5 with
     | true =>
      rw[h5] at hq;simp only[cond_true] at hq;have hr:r=5:=by simpa using h5
      exact simp5 (by rw[hr]; rfl) hq rfl
     | false =>
      rw[h5,cond_false] at hq;cases h6:r==6 with
      | true =>
       rw[h6] at hq;simp only[cond_true] at hq;have hr:r=6:=by simpa using h6
       exact simp5 (by rw[hr]; rfl) hq rfl
      | false =>
       rw[h6,cond_false] at hq;cases h7:r==7 with
       | false=>rw[h7] at hq; exact bad hq rfl
       | true =>
        rw[h7,cond_true] at hq;by_cases hil:i<(((L.map cl).length:Nat):Int)
        ·rw[decide_eq_true hil,cond_true] at hq;cases hg:gx (L.map cl) i with
         | none=>rw[hg] at hq; cases hq
         | some e =>
          rw[hg,aa] at hq;cases he:e.1 with
          | false=>rw[he] at hq; exact bad hq rfl
          | true =>
           obtain⟨x,e1,e2⟩:=D6 hm hm3 hn hs hc wL wT wC i;rw[he] at hq;simp only[cond_true,e1,aa] at hq;injection hq with hq;rw[← hq] at hok ⊢;exact (e2 (by simpa using hok)).2 H
        ·rw[decide_eq_false hil] at hq;exact bad hq rfl
theorem Gs {log:List u5} (h:HC a0 log=true) (hr:∀ k,k<log.length->AG a0 log k):(es:List u5)->(i:Nat)->log.drop i=es->(∀(k:Nat) (y:u5),k<i->log[k]? = some y->W1 m nums a0 (Vp y)) ->
  ∃ z,yj a0 (m:Int) nums es=some z∧(z = .inl ()∨z = .inr true)
 | [],_,_,_=>⟨_,rfl,.inl rfl⟩
 | x::es,i,hd,hb=>by
  have hx:=zr hd;have hi:=qr hd;have hall:=(ZB h).2.2;have hmx:=Y9 (hall x (aJ hx));obtain⟨ws,hv,-,-⟩:=rM hs hmx;have hcl:∃ b,zy (m:Int) nums a0 x.2.2.2.2.2.2.2.1 x.2.2.2.2.2.2.2.2.1 x.2.2.2.2.2.2.2.2.2=some b:=by
   obtain⟨L,T,C,e1,e2,e3,h1,h2,h3⟩:=Is hmx;rw[e1,e2,e3] at hmx ⊢;obtain⟨b,g1,-⟩:=Xs hm hm3 hn hs hmx h1 h2 h3;exact ⟨b,g1⟩
  obtain⟨b,hb1⟩:=hcl;obtain⟨f,hf⟩:∃ f,Kl ws=some f:=⟨_,rfl⟩;unfold yj;rw[hv,aa];simp only[show tl 0=some 0 from rfl,aa,show ((0:Int) != 0)=false from rfl,cond_false,hf]
  cases f with
  | false=>exact ⟨_,rfl,.inr rfl⟩
  | true =>
   simp only[az,cond_false,hb1,aa];cases b with
   | true =>
    refine Gs h hr es (i+1) (zj hd) fun k y hk hy => ?_;by_cases hki:k=i
    ·subst hki;rw[hx] at hy;cases hy
     exact hb1
    ·exact hb k y (by omega) hy
   | false =>
    by_cases h0:x.1=0
    ·rw[h0];exact ⟨_,rfl,.inr rfl⟩
    ·exfalso;obtain⟨y,g1,g2⟩:=hr i hi;rw[hx] at g1;cases g1
     obtain⟨sa,d,q1,q2,q3,q4,q5⟩:=PG g2 h0;have at':∀{p:Int} {s:u5},gx log p=some s->0<=p->p<(i:Int)->qy a0 (Vp s).1 (Vp s).2.1 (Vp s).2.2=true∧W1 m nums a0 (Vp s):=fun {p s} e1 e2 e3=>by
      obtain⟨p,rfl⟩:=dA e2;rw[y8] at e1;exact ⟨Y9 (hall s (aJ e1)),hb p s (by omega) e1⟩
     obtain⟨ma,Ha⟩:=at' q1 q2 q3;have:=E4 hm hm3 hn hs x.1 x.2.2.1 x.2.2.2.1 x.2.2.2.2.2.1 x.2.2.2.2.2.2.1 ma Ha (fun ht=>by
      obtain⟨sb,rfl,q6,q7,q8⟩:=q5 ht;exact at' q6 q7 q8) q4 rfl
     unfold W1 zb7 at this;simp only at this;rw[hb1] at this;cases this
end
theorem QM (a0:List zg) (log:List u5) (k:Int) (nums:List Int) (hl:nums.length<=9223372036854775807):xL a0 log k nums=some true:=by
 unfold xL;rw[JO,aa];simp only[az,cond_false];cases h:HC a0 log with
 | false=>rw[MB h]; rfl
 | true =>
  rcases E8 h with ⟨g1,g2⟩ | ⟨m,-,-,g1⟩
  ·rw[g1,aa];simp only[show tl 0=some 0 from rfl,aa,show ((0:Int) != 0)=false from rfl,show ((-1:Int) != -1)=false from rfl,cond_false]
   by_cases he:nums=[]
   ·subst he; rfl
   ·obtain⟨m,hm,hm3,hnew⟩:=Sn k nums;rw[show (((af nums:Nat):Int)==0)=false from by simp; exact he,cond_false,hnew,aa]
    have hs:=ut (ZB h).1;obtain⟨z,e1,e2⟩:=Gs hm hm3 ⟨he,hl⟩ hs h g2 log 0 rfl (fun j y hj=>by omega)
    rw[jl _ _ _ _ (aT (ZB h).2.1 (by decide)),e1,aa]
    rcases e2 with rfl | rfl<;>rfl
  ·rw[g1,aa];simp only[show tl 0=some 0 from rfl,aa,show ((0:Int) != 0)=false from rfl,cond_false]
   rw[show ((m:Int) != -1)=true from by rw[bne_iff_ne]; omega]
   rfl
end Go.Abs.Q
