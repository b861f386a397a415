import Derived.Test.YtgjajclncfhidaaGreatDoorQa
/-
  What the functions make of plain values, and what the law says of that.
-/
open Bool renaming and_eq_true -> ax, not_false -> bu, not_true -> ay, or_eq_true -> bR
open Function renaming comp_apply -> g9
open Go.IntKind renaming bits -> dm, signed -> eP, wrap -> ag
open Int renaming fdiv -> gC, tmod -> dx, toNat -> bc, toNat_natCast -> bl, toNat_of_nonneg -> cG
open List renaming all_eq_true -> aC, append_assoc -> aU, append_nil -> bG, append_of_mem -> ed, concat_eq_append -> fB, countP_append -> fU, countP_cons_of_neg -> eg, countP_cons_of_pos -> dw, countP_le_length -> er, drop_eq_getElem_cons -> aX, drop_zero -> bM, eq_nil_or_concat -> fA, filter_cons_of_neg -> cO, filter_cons_of_pos -> db, flatMap -> gP, flatMap_cons -> br, getD_eq_getElem?_getD -> aG, getElem?_append_left -> bw, getElem?_append_right -> bA, getElem?_cons_zero -> aB, getElem?_eq_getElem -> al, getElem?_eq_some_iff -> au, getElem?_replicate -> bJ, getElem?_set_ne -> cw, getElem?_set_self -> bZ, getElem_mem -> dv, length -> af, length_append -> am, length_cons -> ak, length_map -> aP, length_nil -> bb, length_range -> eo, length_set -> cg, length_singleton -> aV, length_zip -> gn, map -> c5, map_append -> dk, map_congr_left -> bV, map_cons -> aM, map_id -> gY, map_map -> cJ, mem_append -> aJ, mem_append_left -> bN, mem_append_right -> bX, mem_cons -> aD, mem_cons_of_mem -> ai, mem_cons_self -> aj, mem_filter -> d6, mem_iff_getElem? -> cR, mem_map -> aY, mem_map_of_mem -> bi, mem_of_getElem? -> aI, mem_range -> ci, mem_singleton -> bq, nil_append -> bm, of_mem_zip -> gp, pairwise_cons -> cy, range -> aK, replicate -> az, set -> bP, set_eq_take_append_cons_drop -> eh, sum_cons -> cA, take_append_drop -> bU, zip_cons_cons -> ee
open List.Pairwise renaming nil -> fX
open Nat renaming add_assoc -> bK, add_comm -> dg, add_mul -> bf, le_refl -> aF, le_trans -> aH, lt_or_ge -> bD, mul_le_mul_left -> dX, mul_le_mul_right -> aS, pow_le_pow_right -> fG, pow_pos -> gh, strongRecOn -> cQ, sub_self -> ej, zero_add -> aQ, zero_le -> bI
open Ne renaming symm -> dB
open Option renaming bind_some -> aa, getD_some -> ba, isNone_none -> cV, isNone_some -> co, map_some -> bx
open Sum renaming inl -> aT, inr -> aE
namespace Go.Abs.Q
open Go Go.Abs
def sd (a0:jQ) (_a1:jR) (_a2:jQ) (a3:Int):Option Bool :=
 cond (decide (a3≥0))
 (some (decide (a3<((af a0:Nat):Int))))
 (some false)
def Wn (a0:Int):Option Bool :=
 some (a0 != a0)
def Kg (a0:Int) (a1:Int):Option Bool :=
 (Wn a0).bind fun r3 =>
 cond r3
 ((Wn a1).bind fun r4 =>
  cond (!r4)
  (some true)
  (some (decide (a0<a1))))
 (some (decide (a0<a1)))
def rC (a0:Int):Option Bool :=
 some (a0 != a0)
def yZ (rec:(jI×Int×Int×Int×Int)->Option Int) (x:(jI×Int×Int×Int×Int)):Option Int :=
 cond (decide (x.2.2.2.1<x.2.2.2.2))
 ((gx x.1 (ag .i64 (gC (ag .u64 (ag .i64 (x.2.2.2.1+x.2.2.2.2))) (2 ^ min (bc 1) (dm .u64))))).bind fun e3 =>
  (Kg e3 x.2.1).bind fun r4 =>
  cond r4
  (rec (x.1,x.2.1,x.2.2.1,(ag .i64 ((ag .i64 (gC (ag .u64 (ag .i64 (x.2.2.2.1+x.2.2.2.2))) (2 ^ min (bc 1) (dm .u64))))+1)),x.2.2.2.2))
  (rec (x.1,x.2.1,x.2.2.1,x.2.2.2.1,(ag .i64 (gC (ag .u64 (ag .i64 (x.2.2.2.1+x.2.2.2.2))) (2 ^ min (bc 1) (dm .u64)))))))
 (some x.2.2.2.1)
def wx (a0:jI) (a1:Int):Option (Int×Bool) :=
 ((lp yZ ze) (a0,a1,((af a0:Nat):Int),0,((af a0:Nat):Int))).bind fun r10 =>
 cond (decide (r10<((af a0:Nat):Int)))
 ((gx a0 r10).bind fun e11 =>
  cond (e11==a1)
  (some (r10,true))
  ((gx a0 r10).bind fun e12 =>
   (rC e12).bind fun r13 =>
   cond r13
   ((rC a1).bind fun r14 =>
    some (r10,r14))
   (some (r10,false))))
 (some (r10,false))
def kl (a0:Int) (a1:jI) (a2:jI):Option jI:=zcN a0 a1 a2
def uD (rec:(jI×Int×Int×jI)->Option jI) (x:(jI×Int×Int×jI)):Option jI :=
 cond (decide (x.2.2.1<x.2.1))
 ((gx x.1 x.2.2.1).bind fun e11 =>
  cond (decide (e11≥0))
  (rec (x.1,x.2.1,(ag .i64 (x.2.2.1+1)),x.2.2.2))
  ((zP e11).bind fun r12 =>
   (wx x.2.2.2 r12).bind fun r13 =>
   cond (!r13.2)
   ((zP e11).bind fun r14 =>
    (kl r13.1 x.2.2.2 ([r14]:List Int)).bind fun r15 =>
    rec (x.1,x.2.1,(ag .i64 (x.2.2.1+1)),r15))
   (rec (x.1,x.2.1,(ag .i64 (x.2.2.1+1)),x.2.2.2))))
 (some x.2.2.2)
def tH (a0:jI) (a1:jI):Option jI :=
 ((lp uD ze) (a0,((af a0:Nat):Int),0,a1)).bind fun r17 =>
 some r17
def ux (rec:(jR×Int×Int×jI)->Option jI) (x:(jR×Int×Int×jI)):Option jI :=
 cond (decide (x.2.2.1<x.2.1))
 ((gx x.1 x.2.2.1).bind fun e12 =>
  (tH e12 x.2.2.2).bind fun r13 =>
  rec (x.1,x.2.1,(ag .i64 (x.2.2.1+1)),r13))
 (some x.2.2.2)
def un (rec:(jQ×Int×Int×jQ×jR×jQ×jI)->Option jI) (x:(jQ×Int×Int×jQ×jR×jQ×jI)):Option jI :=
 cond (decide (x.2.2.1<x.2.1))
 ((gx x.1 x.2.2.1).bind fun e7 =>
  (tH e7.2 x.2.2.2.2.2.2).bind fun r8 =>
  rec (x.1,x.2.1,(ag .i64 (x.2.2.1+1)),x.2.2.2.1,x.2.2.2.2.1,x.2.2.2.2.2.1,r8))
 (some x.2.2.2.2.2.2)
def qH (a0:jS) (a1:jQ) (a2:jR) (a3:jQ):Option (Int×jI) :=
 (yq a0 a1 a2 a3).bind fun r15 =>
 cond (!r15)
 (some (800,([]:jI)))
 ((uR ([a1,a3]:List jQ)).bind fun r16 =>
  ((lp un ze) (r16,((af r16:Nat):Int),0,a1,a2,a3,([]:jI))).bind fun r17 =>
  ((lp ux ze) (a2,((af a2:Nat):Int),0,r17)).bind fun r18 =>
  some (0,r18))
def qK (rec:(Int×Int×Int×jI)->Option jI) (x:(Int×Int×Int×jI)):Option jI :=
 cond (decide (x.2.1<x.1))
 ((inR x.2.1 (af x.2.2.2)).bind fun k6 =>
  (x.2.2.2[k6]?).bind fun x7 =>
  cond (decide (x7<0))
  ((inR x.2.1 (af x.2.2.2)).bind fun k8 =>
   (x.2.2.2[k8]?).bind fun _x9 =>
   rec (x.1,(ag .i64 (x.2.1+1)),x.2.2.1,(bP x.2.2.2 k8 (ag .i64 (x7 - x.2.2.1)))))
  (rec (x.1,(ag .i64 (x.2.1+1)),x.2.2.1,x.2.2.2)))
 (some x.2.2.2)
def qI (a0:jI) (a1:Int):Option jI :=
 (zC a0).bind fun r11 =>
 ((lp qK ze) (((af r11:Nat):Int),0,a1,r11)).bind fun r12 =>
 some r12
def wP (rec:(jQ×Int×Int×Int×jQ×jR×jQ)->Option (jQ×jR×jQ)) (x:(jQ×Int×Int×Int×jQ×jR×jQ)):Option (jQ×jR×jQ) :=
 cond (decide (x.2.2.1<x.2.1))
 ((gx x.1 x.2.2.1).bind fun e19 =>
  (qI e19.2 x.2.2.2.1).bind fun r20 =>
  cond (yp (af x.2.2.2.2.2.2+af ([(e19.1,r20)]:List zc)) 32)
  (rec (x.1,x.2.1,(ag .i64 (x.2.2.1+1)),x.2.2.2.1,x.2.2.2.2.1,x.2.2.2.2.2.1,(x.2.2.2.2.2.2++([(e19.1,r20)]:List zc))))
  (none))
 (some (x.2.2.2.2.1,x.2.2.2.2.2.1,x.2.2.2.2.2.2))
def wS (rec:(jR×Int×Int×Int×jQ×jR×jQ×jQ×jR)->Option (jQ×jR)) (x:(jR×Int×Int×Int×jQ×jR×jQ×jQ×jR)):Option (jQ×jR) :=
 cond (decide (x.2.2.1<x.2.1))
 ((gx x.1 x.2.2.1).bind fun e12 =>
  (qI e12 x.2.2.2.1).bind fun r13 =>
  cond (yp (af x.2.2.2.2.2.2.2.2+af ([r13]:List jI)) 24)
  (rec (x.1,x.2.1,(ag .i64 (x.2.2.1+1)),x.2.2.2.1,x.2.2.2.2.1,x.2.2.2.2.2.1,x.2.2.2.2.2.2.1,x.2.2.2.2.2.2.2.1,(x.2.2.2.2.2.2.2.2++([r13]:List jI))))
  (none))
 (some (x.2.2.2.2.2.2.2.1,x.2.2.2.2.2.2.2.2))
def wM (rec:(jQ×Int×Int×Int×jQ×jR×jQ×jQ)->Option jQ) (x:(jQ×Int×Int×Int×jQ×jR×jQ×jQ)):Option jQ :=
 cond (decide (x.2.2.1<x.2.1))
 ((gx x.1 x.2.2.1).bind fun e5 =>
  (qI e5.2 x.2.2.2.1).bind fun r6 =>
  cond (yp (af x.2.2.2.2.2.2.2+af ([(e5.1,r6)]:List zc)) 32)
  (rec (x.1,x.2.1,(ag .i64 (x.2.2.1+1)),x.2.2.2.1,x.2.2.2.2.1,x.2.2.2.2.2.1,x.2.2.2.2.2.2.1,(x.2.2.2.2.2.2.2++([(e5.1,r6)]:List zc))))
  (none))
 (some x.2.2.2.2.2.2.2)
def YI (a0:jQ) (a1:jR) (a2:jQ) (a3:Int):Option (jQ×jR×jQ) :=
 ((lp wM ze) (a0,((af a0:Nat):Int),0,a3,a0,a1,a2,([]:jQ))).bind fun r22 =>
 ((lp wS ze) (a1,((af a1:Nat):Int),0,a3,a0,a1,a2,r22,([]:jR))).bind fun r23 =>
 ((lp wP ze) (a2,((af a2:Nat):Int),0,a3,r23.1,r23.2,([]:jQ))).bind fun r24 =>
 some (r24.1,r24.2.1,r24.2.2)
def zH (a0:jQ) (a1:jR) (a2:jQ) (a3:Int):Option (jQ×jR×jQ) :=
 (YI a0 a1 a2 a3).bind fun r2 =>
 some (r2.1,r2.2.1,r2.2.2)
def vV (a0:jS) (a1:jQ) (a2:jR) (a3:jQ) (a4:jQ) (a5:jR) (a6:jQ):Option (jQ×jR×Bool×jQ) :=
 (qH a0 a1 a2 a3).bind fun r14 =>
 cond (decide (((af r14.2:Nat):Int)>0))
 ((inR (ag .i64 (((af r14.2:Nat):Int) - 1)) (af r14.2)).bind fun k15 =>
  (r14.2[k15]?).bind fun x16 =>
  (qH a0 a4 a5 a6).bind fun r17 =>
  cond (decide (((af r17.2:Nat):Int)>0))
  ((inR (ag .i64 (((af r17.2:Nat):Int) - 1)) (af r17.2)).bind fun k18 =>
   (r17.2[k18]?).bind fun x19 =>
   cond (decide ((ag .i64 (x19+(ag .i64 (x16+1))))>23))
   (some (([]:jQ),([]:jR),false,([]:jQ)))
   ((zH a4 a5 a6 (ag .i64 (x16+1))).bind fun r20 =>
    some (r20.1,r20.2.1,true,r20.2.2)))
  ((zH a4 a5 a6 (ag .i64 (x16+1))).bind fun r21 =>
   some (r21.1,r21.2.1,true,r21.2.2)))
 ((qH a0 a4 a5 a6).bind fun r22 =>
  cond (decide (((af r22.2:Nat):Int)>0))
  ((inR (ag .i64 (((af r22.2:Nat):Int) - 1)) (af r22.2)).bind fun k23 =>
   (r22.2[k23]?).bind fun x24 =>
   cond (decide ((ag .i64 (x24+0))>23))
   (some (([]:jQ),([]:jR),false,([]:jQ)))
   ((zH a4 a5 a6 0).bind fun r25 =>
    some (r25.1,r25.2.1,true,r25.2.2)))
  ((zH a4 a5 a6 0).bind fun r26 =>
   some (r26.1,r26.2.1,true,r26.2.2)))
def xI (a0:jS) (a1:jQ) (a2:jR) (a3:jQ) (a4:Int) (a5:jQ) (a6:jR) (a7:jQ) (a8:Int):Option (jQ×jR×Bool×Int×jQ) :=
 (gx a1 a4).bind fun e16 =>
 (gx a5 a8).bind fun e17 =>
 cond (e16.1==e17.1)
 (some (([]:jQ),([]:jR),false,0,([]:jQ)))
 ((gx a1 a4).bind fun e18 =>
  (gx e18.2 0).bind fun e19 =>
  (gx a5 a8).bind fun e20 =>
  (gx e20.2 0).bind fun e21 =>
  cond (e19 != e21)
  (some (([]:jQ),([]:jR),false,0,([]:jQ)))
  ((vV a0 a1 a2 a3 a5 a6 a7).bind fun r22 =>
   cond (!r22.2.2.1)
   (some (([]:jQ),([]:jR),false,1301,([]:jQ)))
   ((gx a1 a4).bind fun e23 =>
    (vM e23.2 (some 1) none).bind fun y24 =>
    (gx r22.1 a8).bind fun e25 =>
    (vM e25.2 (some 1) none).bind fun y26 =>
    (uO a0 y24 y26).bind fun r27 =>
    cond (r27.2.1 != 0)
    (some (([]:jQ),([]:jR),false,1302,([]:jQ)))
    (cond (!r27.1)
     (some (([]:jQ),([]:jR),false,0,([]:jQ)))
     ((vP a1 a2 a3 a4 r22.1 r22.2.1 r22.2.2.2 a8).bind fun r28 =>
      (rU r27.2.2 r28.2.1 r28.1 r28.2.2).bind fun r29 =>
      (xi a0 r29.1 r29.2.1 r29.2.2).bind fun r30 =>
      cond (r30.2.2.1 != 0)
      (some (([]:jQ),([]:jR),false,1302,([]:jQ)))
      (some (r30.1,r30.2.1,true,0,r30.2.2.2)))))))
def sP (a0:jS) (a1:jQ) (a2:jR) (a3:jQ) (a4:Int) (a5:jQ) (a6:jR) (a7:jQ) (a8:Int):Option (jQ×jR×Bool×Int×jQ) :=
 (yq a0 a1 a2 a3).bind fun r6 =>
 cond (!r6)
 (some (([]:jQ),([]:jR),false,1300,([]:jQ)))
 ((yq a0 a5 a6 a7).bind fun r7 =>
  cond (!r7)
  (some (([]:jQ),([]:jR),false,1300,([]:jQ)))
  ((sd a1 a2 a3 a4).bind fun r8 =>
   cond (!r8)
   (some (([]:jQ),([]:jR),false,1300,([]:jQ)))
   ((sd a5 a6 a7 a8).bind fun r9 =>
    cond (!r9)
    (some (([]:jQ),([]:jR),false,1300,([]:jQ)))
    ((xI a0 a1 a2 a3 a4 a5 a6 a7 a8).bind fun r10 =>
     some (r10.1,r10.2.1,r10.2.2.1,r10.2.2.2.1,r10.2.2.2.2)))))
def vq (rec:(jS×Int×Int×jI×Int×jI×Int×Int×jI×Int×Int×jQ×jR×jQ×jQ×jR×jQ×jS×Int×jT)->Option (jS×Int×jT)) (x:(jS×Int×Int×jI×Int×jI×Int×Int×jI×Int×Int×jQ×jR×jQ×jQ×jR×jQ×jS×Int×jT)):Option (jS×Int×jT) :=
 cond (decide (x.2.2.2.2.2.2.2.2.2.2.1<x.2.2.2.2.2.2.2.2.2.1))
 ((gx x.2.2.2.2.2.2.2.2.1 x.2.2.2.2.2.2.2.2.2.2.1).bind fun e12 =>
  (xI x.1 x.2.2.2.2.2.2.2.2.2.2.2.1 x.2.2.2.2.2.2.2.2.2.2.2.2.1 x.2.2.2.2.2.2.2.2.2.2.2.2.2.1 x.2.2.2.2.1 x.2.2.2.2.2.2.2.2.2.2.2.2.2.2.1 x.2.2.2.2.2.2.2.2.2.2.2.2.2.2.2.1 x.2.2.2.2.2.2.2.2.2.2.2.2.2.2.2.2.1 e12).bind fun r13 =>
  (yn 1 x.2.1 x.2.2.2.2.1 0 x.2.2.1 e12 0 ([]:jQ) ([]:jR) ([]:jQ) r13.1 r13.2.1 r13.2.2.2.2 r13.2.2.1 r13.2.2.2.1 x.2.2.2.2.2.2.2.2.2.2.2.2.2.2.2.2.2.1 x.2.2.2.2.2.2.2.2.2.2.2.2.2.2.2.2.2.2.1 x.2.2.2.2.2.2.2.2.2.2.2.2.2.2.2.2.2.2.2).bind fun r14 =>
  rec (x.1,x.2.1,x.2.2.1,x.2.2.2.1,x.2.2.2.2.1,x.2.2.2.2.2.1,x.2.2.2.2.2.2.1,x.2.2.2.2.2.2.2.1,x.2.2.2.2.2.2.2.2.1,x.2.2.2.2.2.2.2.2.2.1,(ag .i64 (x.2.2.2.2.2.2.2.2.2.2.1+1)),x.2.2.2.2.2.2.2.2.2.2.2.1,x.2.2.2.2.2.2.2.2.2.2.2.2.1,x.2.2.2.2.2.2.2.2.2.2.2.2.2.1,x.2.2.2.2.2.2.2.2.2.2.2.2.2.2.1,x.2.2.2.2.2.2.2.2.2.2.2.2.2.2.2.1,x.2.2.2.2.2.2.2.2.2.2.2.2.2.2.2.2.1,r14.1,r14.2.1,r14.2.2))
 (some (x.2.2.2.2.2.2.2.2.2.2.2.2.2.2.2.2.2.1,x.2.2.2.2.2.2.2.2.2.2.2.2.2.2.2.2.2.2.1,x.2.2.2.2.2.2.2.2.2.2.2.2.2.2.2.2.2.2.2))
def uC (rec:(jS×Int×Int×jI×jI×Int×Int×jQ×jR×jQ×jQ×jR×jQ×jS×Int×jT)->Option (jS×Int×jT)) (x:(jS×Int×Int×jI×jI×Int×Int×jQ×jR×jQ×jQ×jR×jQ×jS×Int×jT)):Option (jS×Int×jT) :=
 cond (decide (x.2.2.2.2.2.2.1<x.2.2.2.2.2.1))
 ((gx x.2.2.2.2.1 x.2.2.2.2.2.2.1).bind fun e18 =>
  ((lp vq ze) (x.1,x.2.1,x.2.2.1,x.2.2.2.1,e18,x.2.2.2.2.1,x.2.2.2.2.2.1,x.2.2.2.2.2.2.1,x.2.2.2.1,((af x.2.2.2.1:Nat):Int),0,x.2.2.2.2.2.2.2.1,x.2.2.2.2.2.2.2.2.1,x.2.2.2.2.2.2.2.2.2.1,x.2.2.2.2.2.2.2.2.2.2.1,x.2.2.2.2.2.2.2.2.2.2.2.1,x.2.2.2.2.2.2.2.2.2.2.2.2.1,x.2.2.2.2.2.2.2.2.2.2.2.2.2.1,x.2.2.2.2.2.2.2.2.2.2.2.2.2.2.1,x.2.2.2.2.2.2.2.2.2.2.2.2.2.2.2)).bind fun r19 =>
  rec (x.1,x.2.1,x.2.2.1,x.2.2.2.1,x.2.2.2.2.1,x.2.2.2.2.2.1,(ag .i64 (x.2.2.2.2.2.2.1+1)),x.2.2.2.2.2.2.2.1,x.2.2.2.2.2.2.2.2.1,x.2.2.2.2.2.2.2.2.2.1,x.2.2.2.2.2.2.2.2.2.2.1,x.2.2.2.2.2.2.2.2.2.2.2.1,x.2.2.2.2.2.2.2.2.2.2.2.2.1,r19.1,r19.2.1,r19.2.2))
 (some (x.2.2.2.2.2.2.2.2.2.2.2.2.2.1,x.2.2.2.2.2.2.2.2.2.2.2.2.2.2.1,x.2.2.2.2.2.2.2.2.2.2.2.2.2.2.2))
def Yp (a0:jS) (a1:jQ) (a2:jR) (a3:jQ) (a4:Int) (a5:jQ) (a6:jR) (a7:jQ) (a8:Int):Option (Int×Int×jT) :=
 (yq a0 a1 a2 a3).bind fun r21 =>
 cond (!r21)
 (some (0,1300,([]:jT)))
 ((yq a0 a5 a6 a7).bind fun r22 =>
  cond (!r22)
  (some (0,1300,([]:jT)))
  ((Xf a0 a1).bind fun r23 =>
   (Xf a0 a5).bind fun r24 =>
   ((lp uC ze) (a0,a4,a8,r24.2,r23.2,((af r23.2:Nat):Int),0,a1,a2,a3,a5,a6,a7,a0,0,([]:jT))).bind fun r25 =>
   some (r25.2.1,0,r25.2.2)))
def yL:List Int->jI->Option jI
 | [],s3=>some s3
 | e::es,s3 =>
  cond (decide (e≥0))
  (yL es s3)
  ((zP e).bind fun r12 =>
   (wx s3 r12).bind fun r13 =>
   cond (!r13.2)
   ((zP e).bind fun r14 =>
    (kl r13.1 s3 ([r14]:List Int)).bind fun r15 =>
    yL es r15)
   (yL es s3))
theorem Qb (s0:jI) (s3:jI) (hl:af s0<=maxLen):lp uD ze (s0,((af s0:Nat):Int),0,s3)=yL s0 s3:=xR uD (fun i s3=>(s0,((af s0:Nat):Int),i,s3)) (fun es i s3=>yL es s3) hl (fun r i s3 h=>by unfold uD yL; simp only[h,cond_false]) (fun r i s3 e es h g w k=>by unfold uD yL; simp only[h,cond_true,g,aa,w,k]) s3
def qZ:List jI->jI->Option jI
 | [],s3=>some s3
 | e::es,s3 =>
  (tH e s3).bind fun r13 =>
  qZ es r13
theorem QA (s0:jR) (s3:jI) (hl:af s0<=maxLen):lp ux ze (s0,((af s0:Nat):Int),0,s3)=qZ s0 s3:=xR ux (fun i s3=>(s0,((af s0:Nat):Int),i,s3)) (fun es i s3=>qZ es s3) hl (fun r i s3 h=>by unfold ux qZ; simp only[h,cond_false]) (fun r i s3 e es h g w k=>by unfold ux qZ; simp only[h,cond_true,g,aa,w,k]) s3
def q5:List zc->jI->Option jI
 | [],s6=>some s6
 | e::es,s6 =>
  (tH e.2 s6).bind fun r8 =>
  q5 es r8
theorem QX (s0:jQ) (s3:jQ) (s4:jR) (s5:jQ) (s6:jI) (hl:af s0<=maxLen):lp un ze (s0,((af s0:Nat):Int),0,s3,s4,s5,s6)=q5 s0 s6:=xR un (fun i s6=>(s0,((af s0:Nat):Int),i,s3,s4,s5,s6)) (fun es i s6=>q5 es s6) hl (fun r i s6 h=>by unfold un q5; simp only[h,cond_false]) (fun r i s6 e es h g w k=>by unfold un q5; simp only[h,cond_true,g,aa,w,k]) s6
def yz (s3:Int) (s4:jQ) (s5:jR):List zc->jQ->Option (jQ×jR×jQ)
 | [],s6=>some (s4,s5,s6)
 | e::es,s6 =>
  (qI e.2 s3).bind fun r20 =>
  cond (yp (af s6+af ([(e.1,r20)]:List zc)) 32)
  (yz s3 s4 s5 es (s6++([(e.1,r20)]:List zc)))
  (none)
theorem YE (s0:jQ) (s3:Int) (s4:jQ) (s5:jR) (s6:jQ) (hl:af s0<=maxLen):lp wP ze (s0,((af s0:Nat):Int),0,s3,s4,s5,s6)=yz s3 s4 s5 s0 s6:=xR wP (fun i s6=>(s0,((af s0:Nat):Int),i,s3,s4,s5,s6)) (fun es i s6=>yz s3 s4 s5 es s6) hl (fun r i s6 h=>by unfold wP yz; simp only[h,cond_false]) (fun r i s6 e es h g w k=>by unfold wP yz; simp only[h,cond_true,g,aa,w,k]) s6
def yv (s3:Int) (s7:jQ):List jI->jR->Option (jQ×jR)
 | [],s8=>some (s7,s8)
 | e::es,s8 =>
  (qI e s3).bind fun r13 =>
  cond (yp (af s8+af ([r13]:List jI)) 24)
  (yv s3 s7 es (s8++([r13]:List jI)))
  (none)
theorem Z4 (s0:jR) (s3:Int) (s4:jQ) (s5:jR) (s6:jQ) (s7:jQ) (s8:jR) (hl:af s0<=maxLen):lp wS ze (s0,((af s0:Nat):Int),0,s3,s4,s5,s6,s7,s8)=yv s3 s7 s0 s8:=xR wS (fun i s8=>(s0,((af s0:Nat):Int),i,s3,s4,s5,s6,s7,s8)) (fun es i s8=>yv s3 s7 es s8) hl (fun r i s8 h=>by unfold wS yv; simp only[h,cond_false]) (fun r i s8 e es h g w k=>by unfold wS yv; simp only[h,cond_true,g,aa,w,k]) s8
def yt (s3:Int):List zc->jQ->Option jQ
 | [],s7=>some s7
 | e::es,s7 =>
  (qI e.2 s3).bind fun r6 =>
  cond (yp (af s7+af ([(e.1,r6)]:List zc)) 32)
  (yt s3 es (s7++([(e.1,r6)]:List zc)))
  (none)
theorem ZY (s0:jQ) (s3:Int) (s4:jQ) (s5:jR) (s6:jQ) (s7:jQ) (hl:af s0<=maxLen):lp wM ze (s0,((af s0:Nat):Int),0,s3,s4,s5,s6,s7)=yt s3 s0 s7:=xR wM (fun i s7=>(s0,((af s0:Nat):Int),i,s3,s4,s5,s6,s7)) (fun es i s7=>yt s3 es s7) hl (fun r i s7 h=>by unfold wM yt; simp only[h,cond_false]) (fun r i s7 e es h g w k=>by unfold wM yt; simp only[h,cond_true,g,aa,w,k]) s7
def xc (s0:jS) (s1:Int) (s2:Int) (s4:Int) (s11:jQ) (s12:jR) (s13:jQ) (s14:jQ) (s15:jR) (s16:jQ):List Int->jS->Int->jT->Option (jS×Int×jT)
 | [],s17,s18,s19=>some (s17,s18,s19)
 | e::es,s17,s18,s19 =>
  (xI s0 s11 s12 s13 s4 s14 s15 s16 e).bind fun r13 =>
  (yn 1 s1 s4 0 s2 e 0 ([]:jQ) ([]:jR) ([]:jQ) r13.1 r13.2.1 r13.2.2.2.2 r13.2.2.1 r13.2.2.2.1 s17 s18 s19).bind fun r14 =>
  xc s0 s1 s2 s4 s11 s12 s13 s14 s15 s16 es r14.1 r14.2.1 r14.2.2
theorem Qu (s0:jS) (s1:Int) (s2:Int) (s3:jI) (s4:Int) (s5:jI) (s6:Int) (s7:Int) (s8:jI) (s11:jQ) (s12:jR) (s13:jQ) (s14:jQ) (s15:jR) (s16:jQ) (s17:jS) (s18:Int) (s19:jT) (hl:af s8<=maxLen):lp vq ze (s0,s1,s2,s3,s4,s5,s6,s7,s8,((af s8:Nat):Int),0,s11,s12,s13,s14,s15,s16,s17,s18,s19)=xc s0 s1 s2 s4 s11 s12 s13 s14 s15 s16 s8 s17 s18 s19:=Hd vq (fun i s17 s18 s19=>(s0,s1,s2,s3,s4,s5,s6,s7,s8,((af s8:Nat):Int),i,s11,s12,s13,s14,s15,s16,s17,s18,s19)) (fun es i s17 s18 s19=>xc s0 s1 s2 s4 s11 s12 s13 s14 s15 s16 es s17 s18 s19) hl (fun r i s17 s18 s19 h=>by unfold vq xc; simp only[h,cond_false]) (fun r i s17 s18 s19 e es h g w k=>by unfold vq xc; simp only[h,cond_true,g,aa,w,k]) s17 s18 s19
def qY (s0:jS) (s1:Int) (s2:Int) (s3:jI) (s4:jI) (s7:jQ) (s8:jR) (s9:jQ) (s10:jQ) (s11:jR) (s12:jQ):List Int->Nat->jS->Int->jT->Option (jS×Int×jT)
 | [],_i,s13,s14,s15=>some (s13,s14,s15)
 | e::es,i,s13,s14,s15 =>
  ((lp vq ze) (s0,s1,s2,s3,e,s4,((af s4:Nat):Int),(i:Int),s3,((af s3:Nat):Int),0,s7,s8,s9,s10,s11,s12,s13,s14,s15)).bind fun r19 =>
  qY s0 s1 s2 s3 s4 s7 s8 s9 s10 s11 s12 es (i+1) r19.1 r19.2.1 r19.2.2
theorem Qs (s0:jS) (s1:Int) (s2:Int) (s3:jI) (s4:jI) (s7:jQ) (s8:jR) (s9:jQ) (s10:jQ) (s11:jR) (s12:jQ) (s13:jS) (s14:Int) (s15:jT) (hl:af s4<=maxLen):lp uC ze (s0,s1,s2,s3,s4,((af s4:Nat):Int),0,s7,s8,s9,s10,s11,s12,s13,s14,s15)=qY s0 s1 s2 s3 s4 s7 s8 s9 s10 s11 s12 s4 0 s13 s14 s15:=Hd uC (fun i s13 s14 s15=>(s0,s1,s2,s3,s4,((af s4:Nat):Int),i,s7,s8,s9,s10,s11,s12,s13,s14,s15)) (fun es i s13 s14 s15=>qY s0 s1 s2 s3 s4 s7 s8 s9 s10 s11 s12 es i s13 s14 s15) hl (fun r i s13 s14 s15 h=>by unfold uC qY; simp only[h,cond_false]) (fun r i s13 s14 s15 e es h g w k=>by unfold uC qY; simp only[h,cond_true,g,aa,w,k]) s13 s14 s15
inductive Tm where
 | v (n:Nat)
 | f (c:Nat) (as:List Tm)
mutual
def Tm.codes:Tm->List Int
 | .v n=>[-1 - (n:Int)]
 | .f c as=>(c:Int)::za as
def za:List Tm->List Int
 | []=>[]
 | t::ts=>t.codes++za ts
end
mutual
def Tm.size:Tm->Nat
 | .v _=>1
 | .f _ as=>xK as+1
def xK:List Tm->Nat
 | []=>0
 | t::ts=>t.size+xK ts
end
abbrev Sb:=Nat->Tm
mutual
def Tm.sub (s:Sb):Tm->Tm
 | .v n=>s n
 | .f c as=>.f c (ve s as)
def ve (s:Sb):List Tm->List Tm
 | []=>[]
 | t::ts=>t.sub s::ve s ts
end
mutual
def Tm.has (x:Nat):Tm->Prop
 | .v n=>n=x
 | .f _ as=>Zm x as
def Zm (x:Nat):List Tm->Prop
 | []=>False
 | t::ts=>t.has x∨Zm x ts
end
mutual
def Tm.ok (a0:List zg) (N:Nat):Tm->Prop
 | .v n=>n<N
 | .f c as=>uX a0 (c:Int)=some as.length∧okR a0 N as
def okR (a0:List zg) (N:Nat):List Tm->Prop
 | []=>True
 | t::ts=>t.ok a0 N∧okR a0 N ts
end
theorem ja (s:Sb):(ts:List Tm)->(ve s ts).length=ts.length
 | []=>rfl
 | t::ts=>by simp [ve,ja s ts]
theorem vI {a0:List zg} {N:Nat}:{ts:List Tm}->(okR a0 N ts↔∀ t∈ts,t.ok a0 N)
 | []=>by simp [okR]
 | t::ts=>by simp [okR,vI (ts:=ts)]
theorem kq {x:Nat}:{ts:List Tm}->(Zm x ts↔∃ t∈ts,t.has x)
 | []=>by simp [Zm]
 | t::ts=>by simp [Zm,kq (ts:=ts)]
theorem QI (s:Sb):(ts:List Tm)->ve s ts=ts.map (Tm.sub s)
 | []=>rfl
 | t::ts=>by simp [ve,QI s ts]
theorem WF:(ts:List Tm)->za ts=ts.flatMap Tm.codes
 | []=>rfl
 | t::ts=>by simp [za,WF ts]
theorem IX:(ts:List Tm)->xK ts=(ts.map Tm.size).sum
 | []=>rfl
 | t::ts=>by simp [xK,IX ts]
theorem uV (ts us:List Tm):za (ts++us)=za ts++za us:=by simp [WF]
theorem Jw (ts us:List Tm):xK (ts++us)=xK ts+xK us:=by simp [IX]
theorem Rc (s:Sb) (ts us:List Tm):ve s (ts++us)=ve s ts++ve s us:=by simp [QI]
mutual
theorem Tm.codes_len:(t:Tm)->t.codes.length=t.size
 | .v _=>rfl
 | .f c as=>by simp [Tm.codes,Tm.size,tO as]
theorem tO:(ts:List Tm)->(za ts).length=xK ts
 | []=>rfl
 | t::ts=>by simp [za,xK,Tm.codes_len t,tO ts]
end
theorem Tm.size_pos (t:Tm):0<t.size:=by cases t<;>simp [Tm.size]
mutual
theorem Tm.sub_ext {s u:Sb}:(t:Tm)->(∀ x,t.has x->s x=u x)->t.sub s=t.sub u
 | .v n,h=>h n rfl
 | .f c as,h=>by rw[Tm.sub,Tm.sub,E9 as h]
theorem E9 {s u:Sb}:(ts:List Tm)->(∀ x,Zm x ts->s x=u x)->ve s ts=ve u ts
 | [],_=>rfl
 | t::ts,h=>by rw[ve,ve,Tm.sub_ext t fun x hx=>h x (.inl hx),E9 ts fun x hx=>h x (.inr hx)]
end
mutual
theorem Tm.sub_sub (s u:Sb):(t:Tm)->(t.sub s).sub u=t.sub fun x=>(s x).sub u
 | .v n=>rfl
 | .f c as=>by rw[Tm.sub,Tm.sub,Tm.sub,DW s u as]
theorem DW (s u:Sb):(ts:List Tm)->ve u (ve s ts)=ve (fun x=>(s x).sub u) ts
 | []=>rfl
 | t::ts=>by rw[ve,ve,ve,Tm.sub_sub s u t,DW s u ts]
end
mutual
theorem Tm.sub_v:(t:Tm)->t.sub .v=t
 | .v n=>rfl
 | .f c as=>by rw[Tm.sub,UP as]
theorem UP:(ts:List Tm)->ve .v ts=ts
 | []=>rfl
 | t::ts=>by rw[ve,Tm.sub_v t,UP ts]
end
mutual
theorem Tm.has_sub {s:Sb} {y:Nat}:(t:Tm)->((t.sub s).has y↔∃ x,t.has x∧(s x).has y)
 | .v n=>⟨fun h=>⟨n,rfl,h⟩,fun ⟨x,hx,h⟩=>by cases hx; exact h⟩
 | .f c as=>by show Zm y (ve s as)↔_; rw[j4 as]; rfl
theorem j4 {s:Sb} {y:Nat}:(ts:List Tm)->(Zm y (ve s ts)↔∃ x,Zm x ts∧(s x).has y)
 | []=>⟨fun h=>h.elim,fun ⟨_,h,_⟩=>h.elim⟩
 | t::ts=>by
  show (t.sub s).has y∨Zm y (ve s ts)↔∃ x,(t.has x∨Zm x ts)∧_;rw[Tm.has_sub t,j4 ts];constructor
  ·rintro (⟨x,h1,h2⟩ | ⟨x,h1,h2⟩)
   ·exact ⟨x,.inl h1,h2⟩
   ·exact ⟨x,.inr h1,h2⟩
  ·rintro⟨x,h1 | h1,h2⟩
   ·exact .inl ⟨x,h1,h2⟩
   ·exact .inr ⟨x,h1,h2⟩
end
mutual
theorem Tm.size_has {s:Sb} {x:Nat}:(t:Tm)->t.has x->(s x).size<=(t.sub s).size
 | .v n,h=>by cases h; exact aF _
 | .f c as,h=>by have:=ZB (s:=s) as h; show _<=xK (ve s as)+1; omega
theorem ZB {s:Sb} {x:Nat}:(ts:List Tm)->Zm x ts->(s x).size<=xK (ve s ts)
 | [],h=>h.elim
 | t::ts,h=>by
  show _<=(t.sub s).size+xK (ve s ts);rcases h with h | h
  ·have:=Tm.size_has (s:=s) t h; omega
  ·have:=ZB (s:=s) ts h; omega
end
mutual
theorem Tm.size_sub {s:Sb} {M:Nat}:(t:Tm)->(1<=M)->(∀ x,t.has x->(s x).size<=M)->(t.sub s).size<=t.size*M
 | .v n,_,h=>by have:=h n rfl; simpa[Tm.sub,Tm.size] using this
 | .f c as,hM,h=>by
  have:=Dc (s:=s) as hM h;show xK (ve s as)+1<=(xK as+1)*M;rw[bf]; omega
theorem Dc {s:Sb} {M:Nat}:(ts:List Tm)->(1<=M)->(∀ x,Zm x ts->(s x).size<=M)->xK (ve s ts)<=xK ts*M
 | [],_,_=>by simp [ve,xK]
 | t::ts,hM,h=>by
  have h1:=Tm.size_sub (s:=s) t hM fun x hx=>h x (.inl hx);have h2:=Dc (s:=s) ts hM fun x hx=>h x (.inr hx);show (t.sub s).size+xK (ve s ts)<=(t.size+xK ts)*M;rw[bf]; omega
end
mutual
theorem Tm.ok_sub {a0:List zg} {N M:Nat} {s:Sb}:(t:Tm)->t.ok a0 N->(∀ x,t.has x->(s x).ok a0 M)->(t.sub s).ok a0 M
 | .v n,_,h=>h n rfl
 | .f c as,ho,h=>⟨by rw[ja]; exact ho.1,IK as ho.2 h⟩
theorem IK {a0:List zg} {N M:Nat} {s:Sb}:(ts:List Tm)->okR a0 N ts->(∀ x,Zm x ts->(s x).ok a0 M)->okR a0 M (ve s ts)
 | [],_,_=>trivial
 | t::ts,ho,h=>⟨Tm.ok_sub t ho.1 fun x hx=>h x (.inl hx),IK ts ho.2 fun x hx=>h x (.inr hx)⟩
end
mutual
theorem Tm.ok_has {a0:List zg} {N x:Nat}:(t:Tm)->t.ok a0 N->t.has x->x<N
 | .v n,ho,h=>by cases h; exact ho
 | .f c as,ho,h=>A0 as ho.2 h
theorem A0 {a0:List zg} {N x:Nat}:(ts:List Tm)->okR a0 N ts->Zm x ts->x<N
 | [],_,h=>h.elim
 | t::ts,ho,h=>h.elim (Tm.ok_has t ho.1) (A0 ts ho.2)
end
mutual
theorem Tm.ok_mono {a0:List zg} {N M:Nat} (hNM:N<=M):(t:Tm)->t.ok a0 N->t.ok a0 M
 | .v _n,ho=>Nat.lt_of_lt_of_le ho hNM
 | .f _c as,ho=>⟨ho.1,E3 hNM as ho.2⟩
theorem E3 {a0:List zg} {N M:Nat} (hNM:N<=M):(ts:List Tm)->okR a0 N ts->okR a0 M ts
 | [],_=>trivial
 | t::ts,ho=>⟨Tm.ok_mono hNM t ho.1,E3 hNM ts ho.2⟩
end
mutual
theorem Tm.mem_codes {c:Int} (hc:c<0):(t:Tm)->(c∈t.codes↔t.has (-1 - c).toNat)
 | .v n=>by
  show c∈[-1 - (n:Int)]↔n=_;rw[bq];omega
 | .f d as=>by
  show c∈(d:Int)::za as↔Zm _ as;rw[aD,← kG hc as];have:c≠(d:Int):=by omega
  simp [this]
theorem kG {c:Int} (hc:c<0):(ts:List Tm)->(c∈za ts↔Zm (-1 - c).toNat ts)
 | []=>by simp [za,Zm]
 | t::ts=>by
  show c∈t.codes++za ts↔_∨_;rw[aJ,Tm.mem_codes hc t,kG hc ts]
end
theorem Hv {a0:List zg} {x:Int} {q:Nat} (h:uX a0 x=some q):(x<0 ∧ -24<=x∧q=0)∨∃ c:Nat,x=(c:Int):=by
 unfold uX at h;by_cases h0:x<0
 ·rw[decide_eq_true h0,cond_true] at h;by_cases h1 : -24<=x
  ·rw[decide_eq_true h1] at h; injection h with h; exact .inl ⟨h0,h1,h.symm⟩
  ·rw[decide_eq_false h1] at h; cases h
 ·exact .inr ⟨x.toNat,by omega⟩
theorem RN {a0:List zg}:∀(n:Nat) (ps:List jI),(∀ p∈ps,p.length<=n)->(∀ p∈ps,sk a0 1 p=some p.length)->∃ ts:List Tm,okR a0 24 ts∧ps=ts.map Tm.codes:=by
 intro n
 induction n with
 | zero =>
  intro ps h hs;cases ps with
  | nil=>exact ⟨[],trivial,rfl⟩
  | cons p ps =>
   have h1:=h p (aj ..);have h2:=K4 (hs p (aj ..));omega
 | succ n ih =>
  intro ps
  induction ps with
  | nil=>intro _ _; exact ⟨[],trivial,rfl⟩
  | cons p ps ihp =>
   intro h hs;obtain⟨ts,h1,h2⟩:=ihp (fun q hq=>h q (ai _ hq)) (fun q hq=>hs q (ai _ hq));obtain⟨x,r,q,rfl,ha,hr⟩:=A7 (hs p (aj ..));have hl:=h _ (aj ..);rw[ak] at hl;rcases Hv ha with ⟨h3,h4,rfl⟩ | ⟨c,rfl⟩
   ·have hr0:r=[]:=by
     have:sk a0 0 r=some 0:=by cases r<;>rfl
     rw[this] at hr;exact List.length_eq_zero_iff.1 (by injection hr with hr; omega)
    subst hr0;refine ⟨.v (-1 - x).toNat::ts,⟨by show (-1 - x).toNat<24; omega,h1⟩,?_⟩
    rw[aM,← h2];show [x]::ps=[-1 - (((-1 - x).toNat:Nat):Int)]::ps;rw[show -1 - (((-1 - x).toNat:Nat):Int)=x from by omega]
   ·obtain⟨qs,hq,hql⟩:=za2 q r hr;obtain⟨hf,hqs⟩:=Qm r.length r qs (aF _) hq;have hlen:∀ p∈qs,p.length<=n:=fun p hp=>by
     have h5:p.length<=qs.flatten.length:=by
      obtain⟨l1,l2,rfl⟩:=ed hp;simp; omega
     rw[hf] at h5;omega
    obtain⟨us,h5,h6⟩:=ih qs hlen fun p hp=>(hqs p hp).2;refine ⟨.f c us::ts,⟨⟨by rw[ha,← hql,h6,aP],h5⟩,h1⟩,?_⟩
    rw[aM,← h2];show ((c:Int)::r)::ps=((c:Int)::za us)::ps;rw[WF,gP,← h6,hf]
theorem TG {a0:List zg} {xs:List Int} {ps:List jI} (h:VP a0 xs=some ps):∃ ts:List Tm,okR a0 24 ts∧ps=ts.map Tm.codes∧xs=za ts:=by
 obtain⟨h1,h2⟩:=Qm xs.length xs ps (aF _) h;obtain⟨ts,h3,h4⟩:=RN (a0:=a0) xs.length ps (fun p hp=>by
  have:p.length<=ps.flatten.length:=by
   obtain⟨l1,l2,rfl⟩:=ed hp;simp; omega
  rwa [h1] at this) fun p hp=>(h2 p hp).2
 exact ⟨ts,h3,h4,by rw[WF,gP,← h4,h1]⟩
theorem Ok {a0:List zg} {n:Nat} (h:n<24):uX a0 (-1 - (n:Int))=some 0:=by
 unfold uX;rw[decide_eq_true (show -1 - (n:Int)<0 by omega),cond_true,decide_eq_true (show -24 <= -1 - (n:Int) by omega)]
 rfl
mutual
theorem Tm.sk_codes {a0:List zg}:(t:Tm)->t.ok a0 24->sk a0 1 t.codes=some t.codes.length
 | .v n,h=>by
  show sk a0 1 [-1 - (n:Int)]=some 1;unfold sk;rw[Ok h];rfl
 | .f c as,h=>by
  have:=I6 as h.2;show sk a0 1 ((c:Int)::za as)=some (za as).length.succ;unfold sk;rw[h.1];simp only[aQ,this,bx]
theorem I6 {a0:List zg}:(ts:List Tm)->okR a0 24 ts->sk a0 ts.length (za ts)=some (za ts).length
 | [],_=>rfl
 | t::ts,h=>by
  show sk a0 (ts.length+1) (t.codes++za ts)=_;rw[dg];exact Ud (Tm.sk_codes t h.1) (I6 ts h.2)
end
theorem Ap {a0:List zg}:{xs:List Int}->{n k:Nat}->(ys:List Int)->sk a0 n xs=some k->sk a0 n (xs++ys)=some k
 | [],0,k,ys,h=>by simp [sk] at h; subst h; cases ys<;>rfl
 | [],n+1,k,ys,h=>by simp [sk] at h
 | x::xs,0,k,ys,h=>by simp [sk] at h; subst h; rfl
 | x::xs,n+1,k,ys,h=>by
  unfold sk at h;cases ha:uX a0 x with
  | none=>rw[ha] at h; cases h
  | some m =>
   rw[ha] at h;simp only[Option.map_eq_some_iff] at h;obtain⟨j,hj,rfl⟩:=h;rw[List.cons_append];unfold sk;rw[ha];simp only[Ap ys hj,bx]
theorem yK {a0:List zg}:(ts:List Tm)->okR a0 24 ts->VP a0 (za ts)=some (ts.map Tm.codes)
 | [],_=>rfl
 | t::ts,h=>by
  have hp:=t.size_pos;have hl:=t.codes_len;have h1:=Tm.sk_codes t h.1;show VP a0 (t.codes++za ts)=_;have hne:t.codes++za ts≠[]:=fun e=>by
   have:=congrArg af e;rw[am,bb] at this;omega
  rw[rB hne,Ap _ h1];simp only[List.drop_left,List.take_left,yK ts h.2,bx,aM]
def Tm.up (d:Nat) (t:Tm):Tm:=t.sub fun n=>.v (n+d)
theorem Tm.up_zero (t:Tm):t.up 0=t:=t.sub_v
theorem Tm.up_size (d:Nat) (t:Tm):(t.up d).size=t.size:=by
 have h1:(t.up d).size<=t.size*1:=Tm.size_sub t (aF _) fun x _=>aF _;have h2:((t.up d).sub fun n=>.v (n - d)).size<=(t.up d).size*1:=Tm.size_sub _ (aF _) fun x _=>aF _;have h3:(t.up d).sub (fun n=>.v (n - d))=t:=by
  unfold Tm.up;rw[Tm.sub_sub,show (fun x=>(Tm.v (x+d)).sub fun n=>.v (n - d))=Tm.v from by
   funext x
   show Tm.v (x+d - d)=_;rw[Nat.add_sub_cancel],Tm.sub_v]
 rw[h3] at h2;omega
theorem Tm.up_ok {a0:List zg} {N d:Nat} {t:Tm} (h:t.ok a0 N):(t.up d).ok a0 (N+d):=Tm.ok_sub t h fun x hx=>by
 have:=Tm.ok_has t h hx;show x+d<N+d;omega
theorem Tm.up_has {d y:Nat} {t:Tm}:(t.up d).has y↔∃ x,t.has x∧x+d=y:=Tm.has_sub t
abbrev Bd:=Nat->Option Tm
def SolB (θ:Sb) (B:Bd):Prop:=∀ x t,B x=some t->θ x=t.sub θ
def Sol (θ:Sb) (E:List (Tm×Tm)):Prop:=∀ p∈E,p.1.sub θ=p.2.sub θ
theorem Sol.nil {θ:Sb}:Sol θ []:=fun _ h=>nomatch h
theorem Sol.cons {θ:Sb} {p:Tm×Tm} {E:List (Tm×Tm)}:Sol θ (p::E)↔p.1.sub θ=p.2.sub θ∧Sol θ E:=by simp [Sol]
theorem Sol.append {θ:Sb} {E F:List (Tm×Tm)}:Sol θ (E++F)↔Sol θ E∧Sol θ F:=by
 simp only[Sol,aJ];exact ⟨fun h=>⟨fun p hp=>h p (.inl hp),fun p hp=>h p (.inr hp)⟩,fun h p hp=>hp.elim (h.1 p) (h.2 p)⟩
theorem Sol.zip {θ:Sb}:{ts us:List Tm}->ts.length=us.length->(Sol θ (ts.zip us)↔ve θ ts=ve θ us)
 | [],[],_=>by simp [Sol,ve]
 | [],_::_,h=>by simp at h
 | _::_,[],h=>by simp at h
 | t::ts,u::us,h=>by
  rw[ee,Sol.cons,Sol.zip (by simpa using h)]
  simp [ve]
structure Good (B:Bd) (σ:Sb):Prop where
 free:∀ x,B x=none->σ x = .v x
 bound:∀ x t,B x=some t->σ x=t.sub σ
 down:∀ x y,B x=some (.v y)->y<x
theorem Good.empty:Good (fun _=>none) .v:=⟨fun _ _=>rfl,fun _ _ h=>(nomatch h),fun _ _ h=>(nomatch h)⟩
theorem Good.ind {B:Bd} {σ:Sb} (h:Good B σ) {P:Nat->Prop} (hf:∀ x,B x=none->P x) (hb:∀ x t,B x=some t->(∀ y,t.has y->P y)->P x):∀ x,P x:=by
 have key:∀ n x,(σ x).size=n->P x:=by
  intro n
  induction n using cQ with
  | _ n ihn =>
   intro x
   induction x using cQ with
   | _ x ihx =>
    intro hn;cases hx:B x with
    | none=>exact hf x hx
    | some t =>
     refine hb x t hx fun y hy => ?_;have hs:=h.bound x t hx;cases t with
     | v z =>
      have hz:z=y:=hy;subst hz;exact ihx z (h.down x z hx) (by rw[← hn,hs]; rfl)
     | f c as =>
      have:=ZB (s:=σ) as hy;refine ihn (σ y).size ?_ y rfl;rw[← hn,hs];show _<xK (ve σ as)+1;omega
 exact fun x=>key _ x rfl
theorem Good.fac {B:Bd} {σ θ:Sb} (h:Good B σ) (hθ:SolB θ B):∀ x,(σ x).sub θ=θ x:=by
 refine h.ind (fun x hx=>by rw[h.free x hx]; rfl) fun x t hx ih => ?_
 rw[h.bound x t hx,Tm.sub_sub,hθ x t hx];exact Tm.sub_ext t fun y hy=>ih y hy
theorem Good.facT {B:Bd} {σ θ:Sb} (h:Good B σ) (hθ:SolB θ B) (t:Tm):(t.sub σ).sub θ=t.sub θ:=by
 rw[Tm.sub_sub];exact Tm.sub_ext t fun y _=>h.fac hθ y
theorem Good.root {B:Bd} {σ:Sb} (h:Good B σ):∀ x y,(σ x).has y->B y=none:=by
 refine h.ind (fun x hx y hy => ?_) fun x t hx ih y hy => ?_
 ·rw[h.free x hx] at hy;have hy:x=y:=hy;exact hy▸hx
 ·rw[h.bound x t hx] at hy;obtain⟨z,h1,h2⟩:=(Tm.has_sub t).1 hy;exact ih z h1 y h2
theorem Good.idem {B:Bd} {σ:Sb} (h:Good B σ) (t:Tm):(t.sub σ).sub σ=t.sub σ:=h.facT h.bound t
theorem Good.le {B:Bd} {σ:Sb} (h:Good B σ):∀ x y,σ x = .v y->y<=x:=by
 refine h.ind (fun x hx y hy => ?_) fun x t hx ih y hy => ?_
 ·rw[h.free x hx] at hy; injection hy with hy; omega
 ·rw[h.bound x t hx] at hy;cases t with
  | v z =>
   have h1:=h.down x z hx;have h2:=ih z rfl y hy;omega
  | f c as=>cases hy
theorem Good.moved {B:Bd} {σ:Sb} (h:Good B σ) {x:Nat}:B x≠none↔σ x ≠ .v x:=by
 constructor
 ·intro hb he;cases hx:B x with
  | none=>exact hb hx
  | some t =>
   have h1:=h.bound x t hx;rw[he] at h1;cases t with
   | v z =>
    have h2:=h.down x z hx;have h3:=h.le z x h1.symm;omega
   | f c as=>cases h1
 ·intro hs hb;exact hs (h.free x hb)
theorem Good.unique {B B':Bd} {σ σ':Sb} (h:Good B σ) (h':Good B' σ') (hs:∀ θ,SolB θ B↔SolB θ B'):σ=σ':=by
 have f1:∀ x,(σ x).sub σ'=σ' x:=h.fac ((hs σ').2 h'.bound);have f2:∀ x,(σ' x).sub σ=σ x:=h'.fac ((hs σ).1 h.bound);have root:∀ y,B y=none->σ' y = .v y:=by
  intro y hy;have h1:(σ' y).sub σ = .v y:=by rw[f2,h.free y hy]
  cases hz:σ' y with
  | f c as=>rw[hz] at h1; cases h1
  | v z =>
   rw[hz] at h1;have h2:=h'.le y z hz;have h3:=h.le z y h1;have:z=y:=by omega
   rw[this]
 funext x
 rw[← f1 x]
 conv=>lhs; rw[← Tm.sub_v (σ x)]
 exact Tm.sub_ext _ fun y hy=>(root y (h.root x y hy)).symm
def one (x:Nat) (u:Tm):Sb:=fun y=>if y=x then u else .v y
def PN (B:Bd) (x:Nat) (t:Tm):Bd:=fun y=>if y=x then some t else B y
theorem rX (B:Bd) (x:Nat) (t:Tm):PN B x t x=some t:=by simp [PN]
theorem Yh (B:Bd) {x y:Nat} (t:Tm) (h:y≠x):PN B x t y=B y:=by simp [PN,h]
theorem SolB.upd {B:Bd} {x:Nat} {t:Tm} {θ:Sb} (hx:B x=none):SolB θ (PN B x t)↔SolB θ B∧θ x=t.sub θ:=by
 constructor
 ·intro h;refine ⟨fun y u hy=>h y u ?_,h x t (rX ..)⟩;rw[Yh _ _ fun e=>by rw[e,hx] at hy; cases hy]
  exact hy
 ·rintro⟨h1,h2⟩ y u hy;by_cases he:y=x
  ·subst he;rw[rX] at hy;injection hy with hy;subst hy;exact h2
  ·rw[Yh _ _ he] at hy;exact h1 y u hy
theorem zae {x:Nat} {u t:Tm} (h:¬ t.has x):t.sub (one x u)=t:=by
 conv=>rhs; rw[← Tm.sub_v t]
 refine Tm.sub_ext t fun y hy => ?_;have hne:y≠x:=fun e=>h (e▸hy);unfold one;rw[if_neg hne]
theorem Good.bind {B:Bd} {σ:Sb} (h:Good B σ) {x:Nat} {t:Tm} (hx:B x=none) (hn:¬(t.sub σ).has x) (hd:∀ y,t = .v y->y<x):Good (PN B x t) fun y=>(σ y).sub (one x (t.sub σ)) where
 free:=fun y hy=>by
  have hne:y≠x:=fun e=>by rw[e,rX] at hy; cases hy
  rw[Yh _ _ hne] at hy;rw[h.free y hy];show one x _ y=_;simp [one,hne]
 bound:=fun y u hy=>by
  by_cases he:y=x
  ·subst he;rw[rX] at hy;injection hy with hy;subst hy;rw[h.free y hx,← Tm.sub_sub,zae hn];show one y _ y=_;simp [one]
  ·rw[Yh _ _ he] at hy;rw[h.bound y u hy,Tm.sub_sub]
 down:=fun y z hy=>by
  by_cases he:y=x
  ·subst he;rw[rX] at hy;injection hy with hy;exact hd z hy
  ·rw[Yh _ _ he] at hy;exact h.down y z hy
theorem Good.occurs {B:Bd} {σ θ:Sb} (h:Good B σ) {x c:Nat} {as:List Tm} (hh:((Tm.f c as).sub σ).has x) (hθ:SolB θ B) (he:θ x=(Tm.f c as).sub θ):False:=by
 have h1:=h.facT hθ (.f c as);rw[← he] at h1;have h2:=ZB (s:=θ) (ve σ as) hh;have h3:(((Tm.f c as).sub σ).sub θ).size=(θ x).size:=by rw[h1]
 have h4:xK (ve θ (ve σ as))+1=(θ x).size:=h3;omega
def V1 (B:Bd):Prop:=∀ x t,B x=some t->x<48∧t.size<=48
def Good.less (σ:Sb) (y x:Nat):Bool:=decide ((σ y).size<(σ x).size)||(decide ((σ y).size=(σ x).size)&&decide (y<x))
def Good.rank (σ:Sb) (x:Nat):Nat:=(aK 48).countP fun y=>Good.less σ y x
theorem Jk {α:Type} {p q:α->Bool} {a:α}:{l:List α}->a∈l->(∀ x∈l,p x=true->q x=true)->p a=false->q a=true->l.countP p<l.countP q
 | [],h,_,_,_=>nomatch h
 | b::l,hm,hi,hp,hq=>by
  have h2:l.countP p<=l.countP q:=List.countP_mono_left fun x hx h=>hi x (ai _ hx) h;rcases aD.1 hm with rfl | hm
  ·rw[eg (by simp [hp]),dw hq]
   omega
  ·have h1:=Jk hm (fun x hx=>hi x (ai _ hx)) hp hq;cases hb:p b with
   | true=>rw[dw hb,dw (hi b (aj ..) hb)]; omega
   | false =>
    rw[eg (by simp [hb])]
    cases hc:q b with
    | true=>rw[dw hc]; omega
    | false=>rw[eg (by simp [hc])]; exact h1
theorem Good.small {B:Bd} {σ:Sb} (h:Good B σ) (hb:V1 B):∀ x,(σ x).size<=48 ^ 49:=by
 have key:∀ x,B x≠none->(σ x).size<=48 ^ (Good.rank σ x+1):=by
  refine h.ind (fun x hx hn=>absurd hx hn) fun x t hx ih _ => ?_;obtain⟨hx48,ht⟩:=hb x t hx;rw[h.bound x t hx];have h1:1<=48 ^ Good.rank σ x:=gh (by omega)
  refine aH (Tm.size_sub t h1 fun y hy => ?_) ?_
  ·cases hy0:B y with
   | none=>rw[h.free y hy0]; exact h1
   | some u =>
    refine aH (ih y hy (by rw[hy0]; simp)) (fG (by omega) ?_)
    have hlt:Good.less σ y x=true:=by
     unfold Good.less;have hs:=h.bound x t hx;cases t with
     | v z =>
      have hz:z=y:=hy;subst hz;have h2:=h.down x z hx;have h3:(σ z).size=(σ x).size:=by rw[hs]; rfl
      simp [h3,h2]
     | f c as =>
      have h2:=ZB (s:=σ) as hy;have h3:(σ x).size=xK (ve σ as)+1:=by rw[hs]; rfl
      rw[decide_eq_true (show (σ y).size<(σ x).size by omega)]
      rfl
    refine Jk (a:=y) (ci.2 (hb y u hy0).1) (fun z _ hz => ?_) (by simp [Good.less]) hlt
    simp only[Good.less,bR,ax,decide_eq_true_eq] at hz hlt ⊢;omega
  ·rw[Nat.pow_succ,Nat.mul_comm];exact dX _ ht
 intro x;by_cases hx:B x=none
 ·rw[h.free x hx];exact gh (by omega)
 ·refine aH (key x hx) (fG (by omega) ?_)
  have:Good.rank σ x<=(aK 48).length:=er;rw[eo] at this;omega
theorem Good.small_sub {B:Bd} {σ:Sb} (h:Good B σ) (hb:V1 B) (t:Tm):(t.sub σ).size<=t.size*48 ^ 49 :=
 Tm.size_sub t (gh (by omega)) fun x _=>h.small hb x
def Out (B:Bd) (E:List (Tm×Tm)):Option Bd->Prop
 | none=>∀ θ,SolB θ B->Sol θ E->False
 | some B'=>(∃ σ,Good B' σ)∧V1 B'∧∀ θ,SolB θ B'↔SolB θ B∧Sol θ E
theorem Out.via {B B1:Bd} {E E1:List (Tm×Tm)} (h:∀ θ,(SolB θ B1∧Sol θ E1)↔(SolB θ B∧Sol θ E)) {o:Option Bd} (ho:Out B1 E1 o):Out B E o:=by
 cases o with
 | none=>exact fun θ h1 h2=>ho θ ((h θ).2 ⟨h1,h2⟩).1 ((h θ).2 ⟨h1,h2⟩).2
 | some B'=>exact ⟨ho.1,ho.2.1,fun θ=>(ho.2.2 θ).trans (h θ)⟩
theorem Out.done {B:Bd} {σ:Sb} (h:Good B σ) (hs:V1 B):Out B [] (some B):=⟨⟨σ,h⟩,hs,fun _=>⟨fun h=>⟨h,Sol.nil⟩,fun h=>h.1⟩⟩
theorem zde {θ:Sb} {c d:Nat} {as bs:List Tm}:(Tm.f c as).sub θ=(Tm.f d bs).sub θ↔c=d∧ve θ as=ve θ bs:=by
 simp [Tm.sub]
abbrev PI:=List Int×Int
abbrev PO:=Option jI×Int
def Pc (a0:List zg) (N:Nat) (p:List Int) (d:Int) (t:Tm):Prop:=∃ u n,Tm.ok a0 24 u∧p=u.codes∧d=((n:Nat):Int)∧n<=N∧t=u.up n∧p.length<=48
def Pr (a0:List zg) (N:Nat) (p:List Int) (d:Int) (ts:List Tm):Prop:=∃ us n,okR a0 24 us∧p=za us∧d=((n:Nat):Int)∧n<=N∧ts=us.map (Tm.up n)∧p.length<=48
theorem Pc.size {a0:List zg} {N:Nat} {p:List Int} {d:Int} {t:Tm} (h:Pc a0 N p d t):t.size=p.length∧t.size<=48:=by
 obtain⟨u,n,h1,rfl,h2,h3,rfl,h4⟩:=h;rw[Tm.up_size,Tm.codes_len];rw[Tm.codes_len] at h4;exact ⟨rfl,h4⟩
theorem Pc.lt {a0:List zg} {N:Nat} (hN:N<=24) {p:List Int} {d:Int} {t:Tm} (h:Pc a0 N p d t) {x:Nat} (hx:t.has x):x<48:=by
 obtain⟨u,n,h1,rfl,h2,h3,rfl,h4⟩:=h;have:=Tm.ok_has _ (Tm.up_ok (d:=n) h1) hx;omega
theorem Pc.cases {a0:List zg} {N:Nat} {p:List Int} {d:Int} {t:Tm} (h:Pc a0 N p d t) :
  (∃ k n:Nat,p=[-1 - (k:Int)]∧d=(n:Int)∧k<24∧n<=N∧t = .v (k+n))∨∃ c r ts,p=((c:Nat):Int)::r∧t = .f c ts∧uX a0 (c:Int)=some ts.length∧Pr a0 N r d ts:=by
 obtain⟨u,n,h1,rfl,h2,h3,rfl,h4⟩:=h;cases u with
 | v k=>exact .inl ⟨k,n,rfl,h2,h1,h3,rfl⟩
 | f c as =>
  have h4:(za as).length+1<=48:=h4;refine .inr ⟨c,za as,as.map (Tm.up n),rfl,?_,by rw[aP]; exact h1.1,as,n,h1.2,rfl,h2,h3,rfl,by omega⟩
  show Tm.f c (ve _ as)=_;rw[QI];rfl
def Pq (a0:List zg) (N:Nat) (q:List Int×Int×List Int×Int) (e:Tm×Tm):Prop:=Pc a0 N q.1 q.2.1 e.1∧Pc a0 N q.2.2.1 q.2.2.2 e.2
def PqL (a0:List zg) (N:Nat):List (List Int×Int×List Int×Int)->List (Tm×Tm)->Prop
 | [],es=>es=[]
 | q::qs,es=>∃ e es',es=e::es'∧Pq a0 N q e∧PqL a0 N qs es'
theorem PqL.append {a0:List zg} {N:Nat}:{qs:List (List Int×Int×List Int×Int)}->{es:List (Tm×Tm)}->{qs':List (List Int×Int×List Int×Int)}->{es':List (Tm×Tm)}->PqL a0 N qs es->PqL a0 N qs' es'->PqL a0 N (qs++qs') (es++es')
 | [],_,_,_,h,h'=>by have h:_=[]:=h; subst h; exact h'
 | q::qs,_,_,_,h,h'=>by
  obtain⟨e,es,rfl,h1,h2⟩:=h;exact ⟨e,_,rfl,h1,PqL.append h2 h'⟩
theorem PqL.length {a0:List zg} {N:Nat}:{qs:List (List Int×Int×List Int×Int)}->{es:List (Tm×Tm)}->PqL a0 N qs es->es.length=qs.length
 | [],_,h=>by have h:_=[]:=h; subst h; rfl
 | q::qs,_,h=>by
  obtain⟨e,es,rfl,h1,h2⟩:=h;simp [PqL.length h2]
theorem PqL.split {a0:List zg} {N:Nat}:{qs:List (List Int×Int×List Int×Int)}->{qs':List (List Int×Int×List Int×Int)}->{es:List (Tm×Tm)}->PqL a0 N (qs++qs') es->∃ e1 e2,es=e1++e2∧PqL a0 N qs e1∧PqL a0 N qs' e2
 | [],_,es,h=>⟨[],es,rfl,rfl,h⟩
 | q::qs,_,_,h=>by
  obtain⟨e,es,rfl,h1,h2⟩:=h;obtain⟨e1,e2,rfl,h3,h4⟩:=PqL.split h2;exact ⟨e::e1,e2,rfl,⟨e,e1,rfl,h1,h3⟩,h4⟩
def PcO (a0:List zg) (N:Nat) (e:PO) (o:Option Tm):Prop:=match e.1 with
 | none=>o=none
 | some p=>∃ t,o=some t∧Pc a0 N p e.2 t
structure RepT (a0:List zg) (N:Nat) (to:List PO) (B:Bd):Prop where
 len:to.length=48
 at_:∀ x e,to[x]? = some e->PcO a0 N e (B x)
 out:∀ x,48<=x->B x=none
theorem RepT.small {a0:List zg} {N:Nat} {to:List PO} {B:Bd} (h:RepT a0 N to B):V1 B:=by
 intro x t hx;have hlt:x<48:=by
  rcases bD x 48 with h' | h'
  ·exact h'
  ·rw[h.out x h'] at hx; cases hx
 refine ⟨hlt,?_⟩;have hl:x<to.length:=by rw[h.len]; exact hlt
 have hg:to[x]? = some to[x]:=al hl;have:=h.at_ x _ hg;unfold PcO at this;split at this
 ·rw[hx] at this; cases this
 ·obtain⟨u,h1,h2⟩:=this;rw[hx] at h1; injection h1 with h1; subst h1;exact h2.size.2
theorem RepT.get {a0:List zg} {N:Nat} {to:List PO} {B:Bd} (h:RepT a0 N to B) {x:Nat} (hx:x<48):∃ e,to[x]? = some e∧PcO a0 N e (B x):=by
 have hl:x<to.length:=by rw[h.len]; exact hx
 have hg:to[x]? = some to[x]:=al hl;exact ⟨_,hg,h.at_ x _ hg⟩
theorem RepT.set {a0:List zg} {N:Nat} {to:List PO} {B:Bd} (h:RepT a0 N to B) {x:Nat} (hx:x<48) {p:List Int} {d:Int} {t:Tm} (hp:Pc a0 N p d t):RepT a0 N (to.set x (some p,d)) (PN B x t) where
 len:=by rw[cg]; exact h.len
 at_:=fun y e hy=>by
  by_cases he:y=x
  ·subst he;rw[bZ (by rw[h.len]; exact hx)] at hy
   injection hy with hy;subst hy;rw[rX];exact ⟨t,rfl,hp⟩
  ·rw[cw (dB he)] at hy;rw[Yh _ _ he];exact h.at_ y e hy
 out:=fun y hy=>by
  rw[Yh _ _ (by omega)]
  exact h.out y hy
theorem WO {N:Nat} (hN:N<=24) {k n:Nat} (hk:k<24) (hn:n<=N) (p:List Int):yT p (n:Int) (-1 - (k:Int))=some ((k+n:Nat):Int):=by
 unfold yT;rw[qA (by omega) (by omega),aa]
 congr 1
 rw[zp]<;>omega
def Xj:Tm->Nat
 | .v x=>x+2
 | .f _ _=>1
theorem Si {a0:List zg} {N:Nat} (hN:N<=24) {to:List PO} {B:Bd} {σ:Sb} (hT:RepT a0 N to B) (hG:Good B σ):∀(m k:Nat) (p:List Int) (d:Int) (t:Tm) (z:Int),Xj t<=m->m<=k->Pc a0 N p d t ->
  ∃ p' d' t',lp vH k (a0,to,p,d,z)=some (p',d')∧Pc a0 N p' d' t'∧(∀ θ,SolB θ B->t.sub θ=t'.sub θ)∧∀ y,t' = .v y->B y=none:=by
 intro m
 induction m with
 | zero=>intro k p d t z hm; cases t<;>simp [Xj] at hm
 | succ m ih =>
  intro k p d t z hm hk hp;obtain⟨k,rfl⟩:∃ k',k=k'+1:=⟨k - 1,by omega⟩
  rw[zu];have key:=fun p d t (h1:Xj t<=m) h2=>ih k p d t z h1 (by omega) h2
  generalize lp vH k=rec at key ⊢;unfold vH;rcases hp.cases with ⟨x,n,rfl,rfl,hx,hn,rfl⟩ | ⟨c,r,ts,rfl,rfl,hc,hr⟩
  ·simp only[yc,aB,aa];rw[decide_eq_true (show -1 - (x:Int)<0 by omega),cond_true,WO hN hx hn,aa,yN (by omega),aa]
   obtain⟨e,he,hpe⟩:=hT.get (x:=x+n) (by omega)
   rw[he,aa];unfold PcO at hpe;split at hpe
   ·rename_i h1;rw[h1];exact ⟨_,_,_,rfl,hp,fun θ _=>rfl,fun y hy=>by injection hy with hy; rw[← hy]; exact hpe⟩
   ·rename_i q h1;obtain⟨u,hu,hq⟩:=hpe;rw[h1];simp only[co,cond_false,ba];obtain⟨p',d',t',h2,h3,h4,h5⟩:=key q e.2 u (by
     cases u with
     | v y=>have:=hG.down _ y hu; simp only[Xj] at hm ⊢; omega
     | f c as=>simp only[Xj] at hm ⊢; omega) hq
    exact ⟨p',d',t',h2,h3,fun θ hθ=>(hθ _ u hu).trans (h4 θ hθ),h5⟩
  ·simp only[yc,aB,aa];rw[decide_eq_false (show ¬(c:Int)<0 by omega),cond_false]
   exact ⟨_,_,_,rfl,hp,fun θ _=>rfl,fun y hy=>by cases hy⟩
theorem DU {a0:List zg} {N:Nat} (hN:N<=24) {to:List PO} {B:Bd} {σ:Sb} (hT:RepT a0 N to B) (hG:Good B σ) {p:List Int} {d:Int} {t:Tm} (hp:Pc a0 N p d t) :
  ∃ p' d' t',vl p d a0 to=some (p',d')∧Pc a0 N p' d' t'∧(∀ θ,SolB θ B->t.sub θ=t'.sub θ)∧∀ y,t' = .v y->B y=none:=by
 obtain⟨p',d',t',h1,h2⟩:=Si hN hT hG (Xj t) ze p d t 0 (aF _) (by
  cases t with
  | v x=>have:=hp.lt hN (x:=x) rfl; simp only[Xj]; unfold ze; omega
  | f c as=>simp only[Xj]; unfold ze; omega) hp
 refine ⟨p',d',t',?_,h2⟩;unfold vl;rw[h1];rfl
section
variable {a0:List zg} {N:Nat} {to:List PO} {B:Bd} {σ:Sb} {v:Nat}
def DoneV (B:Bd) (v:Nat) (seen:List Bool) (y:Nat):Prop:=y≠v∧(B y≠none->seen[y]? = some true)
def PcL (a0:List zg) (N:Nat):List PI->List Tm->Prop
 | [],ts=>ts=[]
 | p::ps,ts=>∃ t ts',ts=t::ts'∧Pc a0 N p.1 p.2 t∧PcL a0 N ps ts'
theorem PcL.append:{ps:List PI}->{ts:List Tm}->{ps':List PI}->{ts':List Tm}->PcL a0 N ps ts->PcL a0 N ps' ts'->PcL a0 N (ps++ps') (ts++ts')
 | [],_,_,_,h,h'=>by have h:_=[]:=h; subst h; exact h'
 | q::qs,_,_,_,h,h'=>by
  obtain⟨e,es,rfl,h1,h2⟩:=h;exact ⟨e,_,rfl,h1,PcL.append h2 h'⟩
theorem PcL.split:{ps:List PI}->{ps':List PI}->{ts:List Tm}->PcL a0 N (ps++ps') ts->∃ t1 t2,ts=t1++t2∧PcL a0 N ps t1∧PcL a0 N ps' t2
 | [],_,ts,h=>⟨[],ts,rfl,rfl,h⟩
 | q::qs,_,_,h=>by
  obtain⟨e,es,rfl,h1,h2⟩:=h;obtain⟨e1,e2,rfl,h3,h4⟩:=PcL.split h2;exact ⟨e::e1,e2,rfl,⟨e,e1,rfl,h1,h3⟩,h4⟩
theorem PcL.length:{ps:List PI}->{ts:List Tm}->PcL a0 N ps ts->ts.length=ps.length
 | [],_,h=>by have h:_=[]:=h; subst h; rfl
 | q::qs,_,h=>by
  obtain⟨e,es,rfl,h1,h2⟩:=h;simp [PcL.length h2]
def QN (seen:List Bool):Nat:=seen.countP fun b => !b
theorem FB {seen:List Bool} {x:Nat} (h:seen[x]? = some false):QN (seen.set x true)+1=QN seen:=by
 unfold QN;obtain⟨hx,he⟩:=au.1 h;have h1:=bU x seen;have h2:seen.drop x=false::seen.drop (x+1):=by rw[aX hx,he]
 have h3:seen.set x true=seen.take x++true::seen.drop (x+1):=by rw[eh,if_pos hx]
 conv=>rhs; rw[← h1,h2]
 rw[h3];simp [fU];omega
theorem KX (hN:N<=24) (hT:RepT a0 N to B) {n:Nat} (hn:n<=N) (p0:List Int):∀(es:List Int) (seen:List Bool) (todo:List PI) (ts:List Tm),(∀ c∈es,-24<=c)->seen.length=48->todo.length+QN seen<=1000->PcL a0 N todo ts ->
  (zl (v:Int) to p0 (n:Int) es seen todo=some (.inr true)∧∃ c∈es,c<0∧(-1 - c).toNat+n=v) ∨
  ∃ seen' more us,zl (v:Int) to p0 (n:Int) es seen todo=some (.inl (seen',todo++more))∧seen'.length=48∧more.length+QN seen'=QN seen∧PcL a0 N more us ∧
   (∀ y:Nat,seen[y]? = some true->seen'[y]? = some true)∧(∀ c∈es,c<0->DoneV B v seen' ((-1 - c).toNat+n))∧(∀ y:Nat,seen'[y]? = some true->seen[y]? = some true∨∃ u,B y=some u∧u∈us) ∧
   (∀ u∈us,∃ c∈es,c<0∧B ((-1 - c).toNat+n)=some u)
 | [],seen,todo,ts,_,hs,_,_=>.inr ⟨seen,[],[],by rw[bG]; rfl,hs,by simp,rfl,fun _ h=>h,fun c h=>(nomatch h),fun y h=>.inl h,fun u h=>(nomatch h)⟩
 | e::es,seen,todo,ts,hc,hs,hl,hp=>by
  have he:=hc e (aj ..);have hc':∀ c∈es,-24<=c:=fun c h=>hc c (ai _ h)
  -- the variable is passed over
  have pass:∀ f:List Bool->List PI->Option ((List Bool×List PI)⊕Bool),f seen todo=zl (v:Int) to p0 (n:Int) es seen todo->(e<0->DoneV B v seen ((-1 - e).toNat+n)) ->
    ((f seen todo=some (.inr true)∧∃ c∈e::es,c<0∧(-1 - c).toNat+n=v) ∨
    ∃ seen' more us,f seen todo=some (.inl (seen',todo++more))∧seen'.length=48∧more.length+QN seen'=QN seen∧PcL a0 N more us ∧
     (∀ y:Nat,seen[y]? = some true->seen'[y]? = some true)∧(∀ c∈e::es,c<0->DoneV B v seen' ((-1 - c).toNat+n))∧(∀ y:Nat,seen'[y]? = some true->seen[y]? = some true∨∃ u,B y=some u∧u∈us) ∧
     (∀ u∈us,∃ c∈e::es,c<0∧B ((-1 - c).toNat+n)=some u)):=by
   intro f hf hd;rw[hf];rcases KX hN hT hn p0 es seen todo ts hc' hs hl hp with ⟨h1,c,h2,h3⟩ | ⟨seen',more,us,h1,h2,h3,h4,h5,h6,h7,h8⟩
   ·exact .inl ⟨h1,c,ai _ h2,h3⟩
   ·refine .inr ⟨seen',more,us,h1,h2,h3,h4,h5,fun c hcm hc0 => ?_,h7,fun u hu => ?_⟩
    ·rcases aD.1 hcm with rfl | hcm
     ·exact ⟨(hd hc0).1,fun hb=>h5 _ ((hd hc0).2 hb)⟩
     ·exact h6 c hcm hc0
    ·obtain⟨c,h9,h10⟩:=h8 u hu;exact ⟨c,ai _ h9,h10⟩
  unfold zl;by_cases h0:e≥0
  ·rw[decide_eq_true h0,cond_true];exact pass (fun seen todo=>zl (v:Int) to p0 (n:Int) es seen todo) rfl fun h=>by omega
  ·rw[decide_eq_false h0,cond_false];obtain⟨k,hk,rfl⟩:∃ k:Nat,k<24∧e = -1 - (k:Int):=⟨(-1 - e).toNat,by omega,by omega⟩
   have hk2:(-1 - (-1 - (k:Int))).toNat=k:=by omega
   rw[WO hN hk hn,aa];by_cases hv:k+n=v
   ·rw[hv,show (((v:Nat):Int)==(v:Int))=true from by simp,cond_true]
    exact .inl ⟨rfl,_,aj ..,by omega,by rw[hk2]; exact hv⟩
   ·rw[show (((k+n:Nat):Int)==(v:Int))=false from by simp; omega,cond_false,yN (show k+n<48 by omega),aa]
    obtain⟨b,hb⟩:∃ b,seen[k+n]? = some b:=⟨seen[k+n]'(by omega),al (by omega)⟩
    rw[hb,aa];obtain⟨q,hq,hpq⟩:=hT.get (x:=k+n) (by omega)
    cases b with
    | true =>
     simp only[ay,cond_false];exact pass (fun seen todo=>zl (v:Int) to p0 (n:Int) es seen todo) rfl fun _=>by rw[hk2]; exact ⟨hv,fun _=>hb⟩
    | false =>
     simp only[bu,cond_true,aa,hq];unfold PcO at hpq;split at hpq
     ·rename_i h1;rw[h1];simp only[cV,ay,cond_false];exact pass (fun seen todo=>zl (v:Int) to p0 (n:Int) es seen todo) rfl fun _=>by rw[hk2]; exact ⟨hv,fun hn=>absurd hpq hn⟩
     ·rename_i q1 h1;obtain⟨u,hu,hpu⟩:=hpq;rw[h1];simp only[co,bu,cond_true,ba,hb,aa];have hun:=FB hb;rw[zk (show (todo.length+([(q1,q.2)]:List PI).length)*32<=140737488351232 by simp; omega),cond_true]
      have hset:(seen.set (k+n) true)[k+n]? = some true:=bZ (by omega)
      have hmono:∀ y:Nat,seen[y]? = some true->(seen.set (k+n) true)[y]? = some true:=fun y hy=>by
       by_cases hyk:y=k+n
       ·subst hyk; exact hset
       ·rw[cw (dB hyk)]; exact hy
      have hbk:∀ y:Nat,(seen.set (k+n) true)[y]? = some true->seen[y]? = some true∨y=k+n:=fun y hy=>by
       by_cases hyk:y=k+n
       ·exact .inr hyk
       ·rw[cw (dB hyk)] at hy; exact .inl hy
      rcases KX hN hT hn p0 es (seen.set (k+n) true) (todo++[(q1,q.2)]) (ts++[u]) hc' (by rw[cg]; exact hs) (by simp; omega) (hp.append ⟨u,[],rfl,hpu,rfl⟩) with ⟨h2,c,h3,h4⟩ | ⟨seen',more,us,h2,h3,h4,h5,h6,h7,h8,h9⟩
      ·exact .inl ⟨h2,c,ai _ h3,h4⟩
      ·refine .inr ⟨seen',(q1,q.2)::more,u::us,by rw[h2,aU]; rfl,h3,by simp; omega,⟨u,us,rfl,hpu,h5⟩,fun y hy=>h6 y (hmono y hy),fun c hcm hc0 => ?_,fun y hy => ?_,fun w hw => ?_⟩
       ·rcases aD.1 hcm with rfl | hcm
        ·rw[hk2]; exact ⟨hv,fun _=>h6 _ hset⟩
        ·exact h7 c hcm hc0
       ·rcases h8 y hy with h10 | ⟨w,h10,h11⟩
        ·rcases hbk y h10 with h12 | rfl
         ·exact .inl h12
         ·exact .inr ⟨u,hu,aj ..⟩
        ·exact .inr ⟨w,h10,ai _ h11⟩
       ·rcases aD.1 hw with rfl | hw
        ·exact ⟨_,aj ..,by omega,by rw[hk2]; exact hu⟩
        ·obtain⟨c,h10,h11⟩:=h9 w hw;exact ⟨c,ai _ h10,h11⟩
theorem Pc.vars {p:List Int} {d:Int} {t:Tm} (h:Pc a0 N p d t):∃ n:Nat,d=(n:Int)∧n<=N∧(∀ c∈p,-24<=c)∧∀ y,t.has y↔∃ c∈p,c<0∧(-1 - c).toNat+n=y:=by
 obtain⟨u,n,h1,rfl,h2,h3,rfl,h4⟩:=h;refine ⟨n,h2,h3,fun c hc => ?_,fun y => ?_⟩
 ·by_cases h0:c<0
  ·have:=Tm.ok_has u h1 ((Tm.mem_codes h0 u).1 hc); omega
  ·omega
 ·rw[Tm.up_has];constructor
  ·rintro⟨x,hx,rfl⟩;have hc:(-1 - (x:Int))<0:=by omega
   refine ⟨-1 - (x:Int),(Tm.mem_codes hc u).2 (by rw[show (-1 - (-1 - (x:Int))).toNat=x from by omega]; exact hx),hc,by omega⟩
  ·rintro⟨c,hc,h0,rfl⟩;exact ⟨_,(Tm.mem_codes h0 u).1 hc,rfl⟩
structure WInv (B:Bd) (σ:Sb) (v:Nat) (t:Tm) (seen:List Bool) (ts:List Tm):Prop where
 snd:∀ u∈ts,(u.sub σ).has v->(t.sub σ).has v
 top:t∈ts∨∀ y,t.has y->DoneV B v seen y
 cls:∀ x u,seen[x]? = some true->B x=some u->u∈ts∨∀ y,u.has y->DoneV B v seen y
theorem DoneV.mono {seen seen':List Bool} (h:∀ y:Nat,seen[y]? = some true->seen'[y]? = some true) {y:Nat} (hd:DoneV B v seen y):DoneV B v seen' y:=⟨hd.1,fun hb=>h y (hd.2 hb)⟩
theorem Hg (hN:N<=24) (hT:RepT a0 N to B) (hG:Good B σ) (hv:B v=none) (t:Tm):∀(m k:Nat) (seen:List Bool) (todo:List PI) (ts:List Tm) (z:List Int) (z2:Int),todo.length+QN seen=m->m<k->m<=100->seen.length=48->PcL a0 N todo ts->WInv B σ v t seen ts ->
  ∃ r,lp wn k ((v:Int),a0,to,z,z2,seen,todo)=some r∧((r = .inr true∧(t.sub σ).has v)∨(r = .inl ()∧¬(t.sub σ).has v)):=by
 intro m
 induction m using cQ with
 | _ m ih =>
  intro k seen todo ts z z2 hm hk hm1 hs hp hI;obtain⟨k,rfl⟩:∃ k',k=k'+1:=⟨k - 1,by omega⟩
  rw[zu];have key:=fun (m':Nat) (h:m'<m) seen todo ts z z2 h1 h2 h3 h4=>ih m' h k seen todo ts z z2 h1 (by omega) (by omega) h2 h3 h4
  generalize lp wn k=rec at key ⊢;unfold wn;rcases fA todo with rfl | ⟨todo',p,rfl⟩
  ·have hts:ts=[]:=hp;subst hts;refine ⟨_,rfl,.inr ⟨rfl,?_⟩⟩;have hcl:∀ x u,seen[x]? = some true->B x=some u->∀ y,u.has y->DoneV B v seen y:=fun x u h1 h2=>(hI.cls x u h1 h2).resolve_left (fun h=>nomatch h);have hno:∀ x,DoneV B v seen x->¬(σ x).has v:=by
    refine hG.ind (fun x hx hd hh => ?_) fun x u hx ihx hd hh => ?_
    ·rw[hG.free x hx] at hh;exact hd.1 hh
    ·rw[hG.bound x u hx] at hh;obtain⟨y,h1,h2⟩:=(Tm.has_sub u).1 hh;exact ihx y h1 (hcl x u (hd.2 (by rw[hx]; simp)) hx y h1) h2
   intro hh;obtain⟨y,h1,h2⟩:=(Tm.has_sub t).1 hh;exact hno y ((hI.top.resolve_left fun h=>nomatch h) y h1) h2
  ·rw[fB] at *;obtain⟨ts',us0,rfl,hp1,hp2⟩:=PcL.split hp;obtain⟨u0,us1,rfl,hu0,hus1⟩:=hp2;have hus1:us1=[]:=hus1;subst hus1;simp only[am,aV] at hm;obtain⟨q,d⟩:=p;obtain⟨n,rfl,hn,hcs,hvars⟩:=hu0.vars;have e1:ag .i64 (((af (todo'++[(q,(n:Int))]):Nat):Int) - 1)=((todo'.length:Nat):Int):=by
    rw[am,aV,zp]<;>omega
   have e2:inR ((todo'.length:Nat):Int) (af (todo'++[(q,(n:Int))]))=some todo'.length:=yN (by simp)
   have e3:(todo'++[(q,(n:Int))])[todo'.length]? = some (q,(n:Int)):=QQ _ [] _;have e4:decide (((af (todo'++[(q,(n:Int))]):Nat):Int)>0)=true:=decide_eq_true (by rw[am,aV]; omega)
   simp only[e1,e2,e3,e4,aa,cond_true,C4];have hsz:u0.size=q.length∧u0.size<=48:=hu0.size;rw[jz _ _ _ _ _ _ _ _ (by unfold maxLen; omega)]
   rcases KX (v:=v) hN hT hn q q seen todo' ts' hcs hs (by omega) hp1 with ⟨h1,c,h2,h3,h4⟩ | ⟨seen',more,us,h1,h2,h3,h4,h5,h6,h7,h8⟩
   ·rw[h1];refine ⟨_,rfl,.inl ⟨rfl,hI.snd u0 (by simp) ?_⟩⟩
    refine (Tm.has_sub u0).2 ⟨v,(hvars v).2 ⟨c,h2,h3,h4⟩,?_⟩;rw[hG.free v hv];rfl
   ·rw[h1];simp only[aa,sr];refine key (todo'.length+more.length+QN seen') (by omega) seen' (todo'++more) (ts'++us) q (n:Int) (by simp) h2 (hp1.append h4) ⟨fun w hw hh => ?_,?_,fun x w hx hw => ?_⟩
    ·rcases aJ.1 hw with hw | hw
     ·exact hI.snd w (by simp [hw]) hh
     ·obtain⟨c,h9,h10,h11⟩:=h8 w hw;refine hI.snd u0 (by simp) ((Tm.has_sub u0).2 ⟨_,(hvars _).2 ⟨c,h9,h10,rfl⟩,?_⟩)
      rw[hG.bound _ w h11];exact hh
    ·have hdone:∀ y,u0.has y->DoneV B v seen' y:=fun y hy=>by
      obtain⟨c,h9,h10,rfl⟩:=(hvars y).1 hy;exact h6 c h9 h10
     rcases hI.top with ht | ht
     ·rcases aJ.1 ht with ht | ht
      ·exact .inl (by simp [ht])
      ·rw[bq.1 ht]; exact .inr hdone
     ·exact .inr fun y hy=>(ht y hy).mono h5
    ·have hdone:∀ y,u0.has y->DoneV B v seen' y:=fun y hy=>by
      obtain⟨c,h9,h10,rfl⟩:=(hvars y).1 hy;exact h6 c h9 h10
     rcases h7 x hx with h9 | ⟨w',h9,h10⟩
     ·rcases hI.cls x w h9 hw with ht | ht
      ·rcases aJ.1 ht with ht | ht
       ·exact .inl (by simp [ht])
       ·rw[bq.1 ht]; exact .inr hdone
      ·exact .inr fun y hy=>(ht y hy).mono h5
     ·rw[hw] at h9; injection h9 with h9; subst h9;exact .inl (by simp [h10])
theorem AA (hN:N<=24) (hT:RepT a0 N to B) (hG:Good B σ) (hv:B v=none) {p:List Int} {d:Int} {t:Tm} (hp:Pc a0 N p d t) :
  ∃ r,tu (v:Int) p d a0 to=some r∧(r=true↔(t.sub σ).has v):=by
 have hun:QN (az 48 false)=48:=by decide
 obtain⟨r,h1,h2⟩:=Hg hN hT hG hv t 49 ze (az 48 false) [(p,d)] [t] p d (by rw[hun]; rfl) (by unfold ze; omega) (by omega) (by simp) ⟨t,[],rfl,hp,rfl⟩
  ⟨fun u hu h=>by rw[bq.1 hu] at h; exact h,.inl (by simp),fun x u hx _=>by
   rw[bJ] at hx;split at hx<;>simp at hx⟩
 unfold tu;rw[h1];rcases h2 with ⟨rfl,h2⟩ | ⟨rfl,h2⟩
 ·exact ⟨true,rfl,by simp [h2]⟩
 ·exact ⟨false,rfl,by simp [h2]⟩
end
mutual
def Tm.ht:Tm->Nat
 | .v _=>1
 | .f _ as=>htR as+1
def htR:List Tm->Nat
 | []=>0
 | t::ts=>max t.ht (htR ts)
end
mutual
theorem Tm.ht_size:(t:Tm)->t.ht<=t.size
 | .v _=>aF _
 | .f _ as=>by have:=EU as; simp only[Tm.ht,Tm.size]; omega
theorem EU:(ts:List Tm)->htR ts<=xK ts
 | []=>aF _
 | t::ts=>by have:=t.ht_size; have:=EU ts; simp only[htR,xK]; omega
end
mutual
theorem Tm.ht_sub {s:Sb} {M:Nat}:(t:Tm)->(∀ x,t.has x->(s x).ht<=M)->(t.sub s).ht<=t.ht+M
 | .v n,h=>by have:=h n rfl; simp only[Tm.sub,Tm.ht]; omega
 | .f _ as,h=>by have:=Lm as h; simp only[Tm.sub,Tm.ht]; omega
theorem Lm {s:Sb} {M:Nat}:(ts:List Tm)->(∀ x,Zm x ts->(s x).ht<=M)->htR (ve s ts)<=htR ts+M
 | [],_=>by simp [ve,htR]
 | t::ts,h=>by
  have h1:=Tm.ht_sub t fun x hx=>h x (.inl hx);have h2:=Lm ts fun x hx=>h x (.inr hx);simp only[ve,htR]; omega
end
theorem Ar:{ts:List Tm}->{t:Tm}->t∈ts->t.ht<=htR ts
 | u::us,t,h=>by
  rcases aD.1 h with rfl | h
  ·simp only[htR]; omega
  ·have:=Ar h; simp only[htR]; omega
theorem Good.rank_lt {B:Bd} {σ:Sb} (h:Good B σ) {x y:Nat} {t:Tm} (hx:B x=some t) (hy:t.has y) (h48:y<48):Good.rank σ y<Good.rank σ x:=by
 have hlt:Good.less σ y x=true:=by
  unfold Good.less;have hs:=h.bound x t hx;cases t with
  | v z =>
   have hz:z=y:=hy;subst hz;have h2:=h.down x z hx;have h3:(σ z).size=(σ x).size:=by rw[hs]; rfl
   simp [h3,h2]
  | f c as =>
   have h2:=ZB (s:=σ) as hy;have h3:(σ x).size=xK (ve σ as)+1:=by rw[hs]; rfl
   rw[decide_eq_true (show (σ y).size<(σ x).size by omega)]
   rfl
 refine Jk (a:=y) (ci.2 h48) (fun z _ hz => ?_) (by simp [Good.less]) hlt
 simp only[Good.less,bR,ax,decide_eq_true_eq] at hz hlt ⊢;omega
theorem Good.rank_le (σ:Sb) (x:Nat):Good.rank σ x<=48:=by
 have:Good.rank σ x<=(aK 48).length:=er;rwa [eo] at this
theorem Good.low {B:Bd} {σ:Sb} (h:Good B σ) (hb:V1 B):∀ x,(σ x).ht<=49*49:=by
 have key:∀ x,B x≠none->(σ x).ht<=49*(Good.rank σ x+1):=by
  refine h.ind (fun x hx hn=>absurd hx hn) fun x t hx ih _ => ?_;obtain⟨hx48,ht⟩:=hb x t hx;rw[h.bound x t hx];have h0:=t.ht_size;have:=Tm.ht_sub (s:=σ) (M:=49*Good.rank σ x+1) t fun y hy=>(by
   cases hy0:B y with
   | none=>rw[h.free y hy0]; simp only[Tm.ht]; omega
   | some u =>
    have h1:=ih y hy (by rw[hy0]; simp)
    have h2:=h.rank_lt hx hy (hb y u hy0).1;have:49*(Good.rank σ y+1)<=49*Good.rank σ x:=dX _ (by omega)
    omega)
  omega
 intro x;by_cases hx:B x=none
 ·rw[h.free x hx]; simp [Tm.ht]
 ·have h1:=key x hx;have h2:=Good.rank_le σ x;have:49*(Good.rank σ x+1)<=49*49:=dX _ (by omega)
  omega
def zcS (n m:Nat) (us ws:List Tm):List (List Int×Int×List Int×Int):=List.zipWith (fun a b=>(a.codes,(n:Int),b.codes,(m:Int))) us ws
theorem u6 {ts:List Tm} {t:Tm} (h:t∈ts):t.codes.length<=(za ts).length:=by
 obtain⟨l1,l2,rfl⟩:=ed h;rw[uV];simp [za];omega
theorem E4 {a0:List zg} {N n m:Nat} (hn:n<=N) (hm:m<=N):{us ws:List Tm}->okR a0 24 us->okR a0 24 ws->(∀ t∈us,t.codes.length<=48)->(∀ t∈ws,t.codes.length<=48) ->
  PqL a0 N (zcS n m us ws) ((us.map (Tm.up n)).zip (ws.map (Tm.up m)))
 | [],_,_,_,_,_=>rfl
 | _::_,[],_,_,_,_=>rfl
 | u::_us,w::_ws,hu,hw,hlu,hlw =>
  ⟨(u.up n,w.up m),_,rfl,⟨⟨u,n,hu.1,rfl,rfl,hn,rfl,hlu u (aj ..)⟩,⟨w,m,hw.1,rfl,rfl,hm,rfl,hlw w (aj ..)⟩⟩,
   E4 hn hm hu.2 hw.2 (fun t h=>hlu t (ai _ h)) fun t h=>hlw t (ai _ h)⟩
theorem DD (ps2:List jI) (n m:Nat):(us ws:List Tm)->(i:Nat)->(out:List (List Int×Int×List Int×Int))->ps2.drop i=ws.map Tm.codes->us.length=ws.length->out.length+us.length<=1000000 ->
  zM ps2 (n:Int) (m:Int) (us.map Tm.codes) i out=some (out++zcS n m us ws)
 | [],ws,i,out,_,_,_=>by simp [zM,zcS]
 | u::us,[],i,out,_,h,_=>by simp at h
 | u::us,w::ws,i,out,h,hl,hr=>by
  simp only[ak] at hl hr;rw[aM] at h;rw[aM];unfold zM;rw[yH,zw h,aa,zk (by simp only[aV]; omega),cond_true,DD ps2 n m us ws (i+1) _ (zj h) (by omega) (by simp only[am,aV]; omega)]
  simp [zcS]
theorem Gs {a0:List zg} (h:SignOk a0) {N:Nat} {p q:List Int} {d e:Int} {ts us:List Tm} (hp:Pr a0 N p d ts) (hq:Pr a0 N q e us) (hl:ts.length=us.length) (to:List PO) {out:List (List Int×Int×List Int×Int)} (ho:out.length<=100000) :
  ∃ more,q9 p d q e a0 to out=some (out++more)∧PqL a0 N more (ts.zip us):=by
 obtain⟨us0,n,h1,rfl,rfl,h2,rfl,h3⟩:=hp;obtain⟨ws0,m,h4,rfl,rfl,h5,rfl,h6⟩:=hq;simp only[aP] at hl;have hls:us0.length<=48:=by
  have:=Q7 (yK us0 h1);rw[aP] at this;omega
 refine ⟨zcS n m us0 ws0,?_,E4 h2 h5 h1 h4 (fun t ht=>aH (u6 ht) h3) fun t ht=>aH (u6 ht) h6⟩;unfold q9;rw[ur h (by omega) (yK us0 h1),aa,ur h (by omega) (yK ws0 h4),aa,
  ji _ _ _ _ _ _ _ (by rw[aP]; unfold maxLen; omega),DD _ n m us0 ws0 0 out rfl hl (by omega)]
 rfl
theorem Id {a0:List zg} {N:Nat} {p:List Int} {d:Int} {t:Tm} (h:Pc a0 N p d t):nn p=some p:=by
 have h1:=h.size;have h2:=t.size_pos;cases p with
 | nil=>simp at h1; omega
 | cons x r=>rfl
theorem EW {a0:List zg} {N:Nat} (hN:N<=24) {to:List PO} {B:Bd} {σ:Sb} (hT:RepT a0 N to B) (hG:Good B σ) {p q:List Int} {d e:Int} {v:Nat} {u:Tm} (hp:Pc a0 N p d (.v v)) (hq:Pc a0 N q e u) (hv:B v=none) (hu:∀ y,u = .v y->B y=none) :
  ∃ r to',qF p d q e a0 to=some (r,a0,to')∧((r=false∧∀ θ,SolB θ B->θ v=u.sub θ->False)∨(r=true∧∃ B' σ',RepT a0 N to' B'∧Good B' σ'∧∀ θ,SolB θ B'↔SolB θ B∧θ v=u.sub θ)):=by
 have hv48:v<48:=hp.lt hN rfl;rcases hp.cases with ⟨k,n,rfl,rfl,hk,hn,he⟩ | ⟨_,_,_,_,he,_⟩
 case inr=>cases he
 injection he with he;subst he;unfold qF;simp only[yc,aB,aa,WO hN hk hn];rcases hq.cases with ⟨k2,n2,rfl,rfl,hk2,hn2,rfl⟩ | ⟨c,r,ts,rfl,rfl,hc,hr⟩
 ·simp only[aB,aa,WO hN hk2 hn2];rw[decide_eq_false (show ¬(-1 - (k2:Int)≥0) by omega),cond_false]
  have hw:=hu _ rfl;by_cases h1:k2+n2>k+n
  ·rw[decide_eq_true (show ((k2+n2:Nat):Int)>((k+n:Nat):Int) by omega),cond_true,yN (by omega),aa]
   obtain⟨x,hx,-⟩:=hT.get (x:=k2+n2) (by omega)
   rw[hx,aa,Id hp,aa];refine ⟨true,_,rfl,.inr ⟨rfl,_,_,hT.set (by omega) hp,hG.bind hw ?_ ?_,fun θ=>(SolB.upd hw).trans ?_⟩⟩
   ·show ¬(σ (k+n)).has (k2+n2);rw[hG.free _ hv];show ¬(k+n=k2+n2);omega
   ·intro y hy;injection hy with hy;omega
   ·show _∧θ (k2+n2)=θ (k+n)↔_∧θ (k+n)=θ (k2+n2);exact ⟨fun h=>⟨h.1,h.2.symm⟩,fun h=>⟨h.1,h.2.symm⟩⟩
  ·rw[decide_eq_false (show ¬(((k2+n2:Nat):Int)>((k+n:Nat):Int)) by omega),cond_false]
   by_cases h2:k2+n2<k+n
   ·rw[decide_eq_true (show ((k2+n2:Nat):Int)<((k+n:Nat):Int) by omega),cond_true,yN (by omega),aa]
    obtain⟨x,hx,-⟩:=hT.get (x:=k+n) (by omega)
    rw[hx,aa,Id hq,aa];refine ⟨true,_,rfl,.inr ⟨rfl,_,_,hT.set (by omega) hq,hG.bind hv ?_ ?_,fun θ=>SolB.upd hv⟩⟩
    ·show ¬(σ (k2+n2)).has (k+n);rw[hG.free _ hw];show ¬(k2+n2=k+n);omega
    ·intro y hy;injection hy with hy;omega
   ·rw[decide_eq_false (show ¬(((k2+n2:Nat):Int)<((k+n:Nat):Int)) by omega),cond_false]
    have:k2+n2=k+n:=by omega
    refine ⟨true,_,rfl,.inr ⟨rfl,B,σ,hT,hG,fun θ=>⟨fun h=>⟨h,?_⟩,fun h=>h.1⟩⟩⟩;show θ (k+n)=θ (k2+n2);rw[this]
 ·simp only[aB,aa];rw[decide_eq_true (show (c:Int)≥0 by omega),cond_true]
  obtain⟨w,hw1,hw2⟩:=AA hN hT hG hv hq;rw[hw1,aa];cases w with
  | true =>
   refine ⟨false,_,rfl,.inl ⟨rfl,fun θ h1 h2=>hG.occurs (hw2.1 rfl) h1 h2⟩⟩
  | false =>
   rw[cond_false,yN (by omega),aa]
   obtain⟨x,hx,-⟩:=hT.get (x:=k+n) (by omega)
   rw[hx,aa,Id hq,aa];refine ⟨true,_,rfl,.inr ⟨rfl,_,_,hT.set (by omega) hq,hG.bind hv (fun h=>by have:=hw2.2 h; cases this) (fun y hy=>by cases hy),fun θ=>SolB.upd hv⟩⟩
def wt (σ:Sb) (E:List (Tm×Tm)):Nat:=(E.map fun e=>(e.1.sub σ).size).sum
theorem Ju (σ:Sb) (E F:List (Tm×Tm)):wt σ (E++F)=wt σ E+wt σ F:=by simp [wt]
theorem TH (σ:Sb) (e:Tm×Tm):wt σ [e]=(e.1.sub σ).size:=by simp [wt]
theorem Nm (σ:Sb):{ts us:List Tm}->ts.length=us.length->wt σ (ts.zip us)=xK (ve σ ts)
 | [],_,_=>rfl
 | _::_,[],h=>by simp at h
 | t::ts,u::us,h=>by
  have:=Nm σ (ts:=ts) (us:=us) (by simpa using h)
  simp only[wt] at this ⊢;simp only[ee,aM,cA,ve,xK,this]
def HtOk (R:List Tm) (B:Bd) (i:Nat) (t:Tm):Prop:=∃ δ:Nat,i<=47+3*δ∧∀ θ,SolB θ B->∃ c∈R,δ+(t.sub θ).ht<=(c.sub θ).ht
def StkOk (R:List Tm) (B:Bd) (E:List (Tm×Tm)):Prop:=∀(i:Nat) e,E[i]? = some e->HtOk R B i e.1
theorem HtOk.mono {R:List Tm} {B B':Bd} {i:Nat} {t:Tm} (h:HtOk R B i t) (hB:∀ θ,SolB θ B'->SolB θ B):HtOk R B' i t:=by
 obtain⟨δ,h1,h2⟩:=h;exact ⟨δ,h1,fun θ hθ=>h2 θ (hB θ hθ)⟩
theorem StkOk.mono {R:List Tm} {B B':Bd} {E:List (Tm×Tm)} (h:StkOk R B E) (hB:∀ θ,SolB θ B'->SolB θ B):StkOk R B' E:=fun i e he=>(h i e he).mono hB
theorem StkOk.left {R:List Tm} {B:Bd} {E F:List (Tm×Tm)} (h:StkOk R B (E++F)):StkOk R B E:=fun i e he=>h i e (by
 rw[bw (au.1 he).1]; exact he)
theorem StkOk.len {R:List Tm} {B:Bd} {σ:Sb} {E:List (Tm×Tm)} (h:StkOk R B E) (hG:Good B σ) (hS:V1 B) (hR:∀ c∈R,c.size<=48):E.length<=8000:=by
 rcases Nat.eq_zero_or_pos E.length with h0 | h0
 ·omega
 ·obtain⟨δ,h1,h2⟩:=h (E.length - 1) E[E.length - 1] (al (by omega))
  obtain⟨c,hc,h3⟩:=h2 σ hG.bound;have h4:=Tm.ht_sub (s:=σ) c fun x _=>hG.low hS x;have h5:=c.ht_size;have h6:=hR c hc;omega
theorem zdJ (t:Tm):0<t.ht:=by cases t<;>simp [Tm.ht]
def SameR (a0:List zg) (N:Nat) (B:Bd) (E:List (Tm×Tm)) (r:Bool×List zg×List PO):Prop :=
 r.2.1=a0∧((r.1=false∧Out B E none)∨(r.1=true∧∃ B',RepT a0 N r.2.2 B'∧Out B E (some B')))
theorem SameR.via {a0:List zg} {N:Nat} {B B1:Bd} {E E1:List (Tm×Tm)} (h:∀ θ,(SolB θ B1∧Sol θ E1)↔(SolB θ B∧Sol θ E)) {r:Bool×List zg×List PO} (hr:SameR a0 N B1 E1 r):SameR a0 N B E r :=
 ⟨hr.1,hr.2.imp (fun h1=>⟨h1.1,Out.via h h1.2⟩) fun ⟨h1,B',h2,h3⟩=>⟨h1,B',h2,Out.via h h3⟩⟩
theorem Sy {a0:List zg} (hs:SignOk a0) {N:Nat} (hN:N<=24) (R:List Tm) (hR:∀ c∈R,c.size<=48):∀(n:Nat) (to:List PO) (B:Bd) (σ:Sb) (todo:List (List Int×Int×List Int×Int)) (E:List (Tm×Tm)),
  RepT a0 N to B->Good B σ->PqL a0 N todo E->StkOk R B E ->
  (∃ r,(∀ k,lp zy (k+n) (a0,to,todo)=some r)∧SameR a0 N B E r)∨∃ B' σ',Good B' σ'∧V1 B'∧(∀ θ,SolB θ B'->SolB θ B)∧n<=wt σ' E:=by
 intro n
 induction n with
 | zero=>intro to B σ todo E hT hG _ _; exact .inr ⟨B,σ,hG,hT.small,fun _ h=>h,bI _⟩
 | succ n ih =>
  intro to B σ todo E hT hG hP hK;have hlen:=hK.len hG hT.small hR;have hpl:=hP.length
  -- one round, and what is left
  have go:∀(to1:List PO) (B1:Bd) (σ1:Sb) (todo1:List (List Int×Int×List Int×Int)) (E1:List (Tm×Tm)),RepT a0 N to1 B1->Good B1 σ1->PqL a0 N todo1 E1->StkOk R B1 E1 ->
    (∀ θ,(SolB θ B1∧Sol θ E1)↔(SolB θ B∧Sol θ E))->(∀ θ,SolB θ B1->SolB θ B)->(∀ σ',SolB σ' B1->wt σ' E1+1<=wt σ' E)->(∀ rec,zy rec (a0,to,todo)=rec (a0,to1,todo1)) ->
    ((∃ r,(∀ k,lp zy (k+(n+1)) (a0,to,todo)=some r)∧SameR a0 N B E r)∨∃ B' σ',Good B' σ'∧V1 B'∧(∀ θ,SolB θ B'->SolB θ B)∧n+1<=wt σ' E):=by
   intro to1 B1 σ1 todo1 E1 h1 h2 h3 h4 h5 h6 h7 h8;rcases ih to1 B1 σ1 todo1 E1 h1 h2 h3 h4 with ⟨r,h9,h10⟩ | ⟨B',σ',h9,h10,h11,h12⟩
   ·refine .inl ⟨r,fun k => ?_,h10.via h5⟩;rw[← bK,zu,h8];exact h9 k
   ·have:=h7 σ' (h11 _ h9.bound);exact .inr ⟨B',σ',h9,h10,fun θ hθ=>h6 θ (h11 θ hθ),by omega⟩
  have stop:∀ r,SameR a0 N B E r->(∀ rec,zy rec (a0,to,todo)=some r) ->
    ((∃ r,(∀ k,lp zy (k+(n+1)) (a0,to,todo)=some r)∧SameR a0 N B E r)∨∃ B' σ',Good B' σ'∧V1 B'∧(∀ θ,SolB θ B'->SolB θ B)∧n+1<=wt σ' E) :=
   fun r h1 h2=>.inl ⟨r,fun k=>by rw[← bK,zu,h2],h1⟩
  rcases fA todo with rfl | ⟨todo',t,rfl⟩
  ·have hE:E=[]:=hP;subst hE;exact stop (true,a0,to) ⟨rfl,.inr ⟨rfl,B,hT,Out.done hG hT.small⟩⟩ fun rec=>rfl
  ·rw[fB] at *;obtain⟨p,d,q,e⟩:=t;obtain⟨E',F,rfl,hP',hF⟩:=PqL.split hP;obtain⟨⟨s,u⟩,F',rfl,⟨hps,hqu⟩,hF'⟩:=hF;have hF':F'=[]:=hF';subst hF';have hps:Pc a0 N p d s:=hps;have hqu:Pc a0 N q e u:=hqu;obtain⟨p1,d1,s1,hw1,hp1,hs1,hb1⟩:=DU hN hT hG hps;obtain⟨q1,e1,u1,hw2,hq1,hu1,hb2⟩:=DU hN hT hG hqu;simp only[am,aV] at hlen hpl;have x1:ag .i64 (((af (todo'++[(p,d,q,e)]):Nat):Int) - 1)=((todo'.length:Nat):Int):=by
    rw[am,aV,zp]<;>omega
   have x2:inR ((todo'.length:Nat):Int) (af (todo'++[(p,d,q,e)]))=some todo'.length:=yN (by simp)
   have x3:(todo'++[(p,d,q,e)])[todo'.length]? = some (p,d,q,e):=QQ _ [] _;have x4:(((af (todo'++[(p,d,q,e)]):Nat):Int)==0)=false:=by simp; omega
   have hsol:∀ θ,SolB θ B->(Sol θ (E'++[(s,u)])↔Sol θ E'∧s1.sub θ=u1.sub θ):=fun θ hθ=>by
    rw[Sol.append,Sol.cons,hs1 θ hθ,hu1 θ hθ];exact ⟨fun h=>⟨h.1,h.2.1⟩,fun h=>⟨h.1,h.2,Sol.nil⟩⟩
   -- one round
   have round:∀ rec,zy rec (a0,to,todo'++[(p,d,q,e)])=(gx p1 0).bind fun e34=>cond (decide (e34<0))
     ((qF p1 d1 q1 e1 a0 to).bind fun r35=>cond r35.1 (rec (r35.2.1,r35.2.2,todo')) (some (false,r35.2.1,r35.2.2)))
     ((gx q1 0).bind fun e36=>cond (decide (e36<0))
      ((qF q1 e1 p1 d1 a0 to).bind fun r37=>cond r37.1 (rec (r37.2.1,r37.2.2,todo')) (some (false,r37.2.1,r37.2.2)))
      ((gx p1 0).bind fun e38=>(gx q1 0).bind fun e39=>cond (e38 != e39) (some (false,a0,to))
       ((vM p1 (some 1) none).bind fun y40=>(vM q1 (some 1) none).bind fun y41=>(q9 y40 d1 y41 e1 a0 to todo').bind fun r42=>rec (a0,to,r42)))):=by
    intro rec;unfold zy;simp only[x1,x2,x3,x4,aa,cond_false,C4,hw1,hw2]
   have hbind:∀{B1:Bd} {v:Nat} {w:Tm},(∀ θ,SolB θ B1↔SolB θ B∧θ v=w.sub θ)->(∀ θ,SolB θ B->(s1.sub θ=u1.sub θ↔θ v=w.sub θ))->∀ θ,(SolB θ B1∧Sol θ E')↔(SolB θ B∧Sol θ (E'++[(s,u)])):=by
    intro B1 v w h1 h2 θ;rw[h1 θ];constructor
    ·rintro⟨⟨h3,h4⟩,h5⟩;exact ⟨h3,(hsol θ h3).2 ⟨h5,(h2 θ h3).2 h4⟩⟩
    ·rintro⟨h3,h4⟩;have h6:=(hsol θ h3).1 h4;exact ⟨⟨h3,(h2 θ h3).1 h6.2⟩,h6.1⟩
   have hwt:∀ σ',wt σ' E'+1<=wt σ' (E'++[(s,u)]):=fun σ'=>by
    rw[Ju,TH];have:=(s.sub σ').size_pos;show wt σ' E'+1<=wt σ' E'+(s.sub σ').size;omega
   rcases hp1.cases with ⟨k1,n1,rfl,rfl,hk1,hn1,rfl⟩ | ⟨c1,r1,ts1,rfl,rfl,hc1,hr1⟩
   ·-- a variable on the left
    obtain⟨r,to1,hput,hres⟩:=EW hN hT hG hp1 hq1 (hb1 _ rfl) hb2;rcases hres with ⟨rfl,hno⟩ | ⟨rfl,B1,σ1,hT1,hG1,hB1⟩
    ·refine stop (false,a0,to1) ⟨rfl,.inl ⟨rfl,fun θ h1 h2=>hno θ h1 ((hsol θ h1).1 h2).2⟩⟩ fun rec => ?_;rw[round,yc,aB,aa,decide_eq_true (show -1 - (k1:Int)<0 by omega),cond_true,hput]
     rfl
    ·refine go to1 B1 σ1 todo' E' hT1 hG1 hP' (hK.left.mono fun θ h=>((hB1 θ).1 h).1) (hbind hB1 fun θ _=>Iff.rfl) (fun θ h=>((hB1 θ).1 h).1) (fun σ' _=>hwt σ') fun rec => ?_;rw[round,yc,aB,aa,decide_eq_true (show -1 - (k1:Int)<0 by omega),cond_true,hput]
     rfl
   ·rcases hq1.cases with ⟨k2,n2,rfl,rfl,hk2,hn2,rfl⟩ | ⟨c2,r2,ts2,rfl,rfl,hc2,hr2⟩
    ·obtain⟨r,to1,hput,hres⟩:=EW hN hT hG hq1 hp1 (hb2 _ rfl) hb1;rcases hres with ⟨rfl,hno⟩ | ⟨rfl,B1,σ1,hT1,hG1,hB1⟩
     ·refine stop (false,a0,to1) ⟨rfl,.inl ⟨rfl,fun θ h1 h2=>hno θ h1 ((hsol θ h1).1 h2).2.symm⟩⟩ fun rec => ?_;rw[round];simp only[yc,aB,aa];rw[decide_eq_false (show ¬(c1:Int)<0 by omega),cond_false,decide_eq_true (show -1 - (k2:Int)<0 by omega),cond_true,hput]
      rfl
     ·refine go to1 B1 σ1 todo' E' hT1 hG1 hP' (hK.left.mono fun θ h=>((hB1 θ).1 h).1) (hbind hB1 fun θ _=>⟨fun h=>h.symm,fun h=>h.symm⟩) (fun θ h=>((hB1 θ).1 h).1) (fun σ' _=>hwt σ') fun rec => ?_;rw[round];simp only[yc,aB,aa];rw[decide_eq_false (show ¬(c1:Int)<0 by omega),cond_false,decide_eq_true (show -1 - (k2:Int)<0 by omega),cond_true,hput]
      rfl
    ·by_cases hcc:c1=c2
     ·subst hcc;have hl:ts1.length=ts2.length:=by rw[hc1] at hc2; injection hc2
      have hl3:ts1.length<=3:=IG hs hc1;obtain⟨more,hm1,hm2⟩:=Gs hs hr1 hr2 hl to (out:=todo') (by omega)
      refine go to B σ (todo'++more) (E'++ts1.zip ts2) hT hG (hP'.append hm2) ?_ ?_ (fun _ h=>h) ?_ fun rec => ?_
      ·intro i e hi;rcases bD i E'.length with hlt | hge
       ·rw[bw hlt] at hi;exact hK.left i e hi
       ·rw[bA hge] at hi;have hi3:i - E'.length<3:=by
         have:=(au.1 hi).1;rw[gn] at this;omega
        obtain⟨δ,h1,h2⟩:=hK E'.length (s,u) (by rw[bA (aF _),ej]; rfl)
        refine ⟨δ+1,by omega,fun θ hθ => ?_⟩
        obtain⟨c,hc,h3⟩:=h2 θ hθ;refine ⟨c,hc,?_⟩;have h3:δ+(s.sub θ).ht<=(c.sub θ).ht:=h3;rw[hs1 θ hθ] at h3;have h4:e.1∈ts1:=(gp (a:=e.1) (b:=e.2) (aI hi)).1;have h5:(e.1.sub θ).ht<=htR (ve θ ts1):=Ar (by rw[QI]; exact bi h4)
        have h6:((Tm.f c1 ts1).sub θ).ht=htR (ve θ ts1)+1:=rfl;omega
      ·intro θ;rw[Sol.append,Sol.zip hl];constructor
       ·rintro⟨h1,h2,h3⟩;exact ⟨h1,(hsol θ h1).2 ⟨h2,zde.2 ⟨rfl,h3⟩⟩⟩
       ·rintro⟨h1,h2⟩;have h3:=(hsol θ h1).1 h2;exact ⟨h1,h3.1,(zde.1 h3.2).2⟩
      ·intro σ' hσ';rw[Ju,Ju,TH,Nm σ' hl];show _<=wt σ' E'+(s.sub σ').size;rw[hs1 σ' hσ'];show _<=wt σ' E'+(xK (ve σ' ts1)+1);omega
      ·rw[round];simp only[yc,aB,aa];rw[decide_eq_false (show ¬(c1:Int)<0 by omega),cond_false,cond_false,show ((c1:Int) != (c1:Int))=false from by simp,cond_false,wB,aa,wB,aa,hm1]
       rfl
     ·refine stop (false,a0,to) ⟨rfl,.inl ⟨rfl,fun θ h1 h2=>hcc (zde.1 ((hsol θ h1).1 h2).2).1⟩⟩ fun rec => ?_;rw[round];simp only[yc,aB,aa];rw[decide_eq_false (show ¬(c1:Int)<0 by omega),cond_false,decide_eq_false (show ¬(c2:Int)<0 by omega),cond_false,show ((c1:Int) != (c2:Int))=true from by simp; omega,cond_true]
theorem NU {a0:List zg} (hs:SignOk a0) {N:Nat} (hN:N<=24) {to:List PO} {B:Bd} {σ:Sb} (hT:RepT a0 N to B) (hG:Good B σ) {p q:List Int} {d e:Int} {ts us:List Tm} (hp:Pr a0 N p d ts) (hq:Pr a0 N q e us) (hl:ts.length=us.length) :
  ∃ r,wY p d q e a0 to=some r∧SameR a0 N B (ts.zip us) r:=by
 have eta:∀ o:Option (Bool×List zg×List PO),(o.bind fun r=>some (r.1,r.2.1,r.2.2))=o:=fun o=>by cases o<;>rfl
 obtain⟨more,hm1,hm2⟩:=Gs hs hp hq hl to (out:=[]) (by simp)
 have e0:wY p d q e a0 to=lp zy (ze+1) (a0,to,more):=by
  unfold wY;rw[hm1,aa,zu,bm];generalize lp zy ze=rec;unfold zy;simp only[eta]
 have hsz:∀ c∈ts,c.size<=48:=fun c hc=>by
  obtain⟨us0,n,h1,rfl,h2,h3,rfl,h4⟩:=hp;obtain⟨c0,h5,rfl⟩:=aY.1 hc;rw[Tm.up_size,← Tm.codes_len];exact aH (u6 h5) h4
 have hlen:ts.length<=48:=by
  obtain⟨us0,n,h1,rfl,h2,h3,rfl,h4⟩:=hp;have:=Q7 (yK us0 h1);rw[aP] at this ⊢;omega
 have hK:StkOk ts B (ts.zip us):=fun i x hi=>by
  have hi0:=(au.1 hi).1;rw[gn] at hi0;exact ⟨0,by omega,fun θ _=>⟨x.1,(gp (a:=x.1) (b:=x.2) (aI hi)).1,by omega⟩⟩
 rw[e0];rcases Sy hs hN ts hsz (48*(48*48 ^ 49)+1) to B σ more (ts.zip us) hT hG hm2 hK with ⟨r,h1,h2⟩ | ⟨B',σ',h1,h2,h3,h4⟩
 ·have:=h1 (ze+1 - (48*(48*48 ^ 49)+1));rw[show ze+1 - (48*(48*48 ^ 49)+1)+(48*(48*48 ^ 49)+1)=ze+1 from by unfold ze; omega] at this
  exact ⟨r,this,h2⟩
 ·exfalso;rw[Nm σ' hl,QI,IX,cJ] at h4;have h5:∀ l:List Tm,(∀ c∈l,c.size<=48)->(l.map (Tm.size ∘ Tm.sub σ')).sum<=l.length*(48*48 ^ 49):=by
   intro l
   induction l with
   | nil=>intro _; simp
   | cons c l ih =>
    intro h;have h6:=ih fun c hc=>h c (ai _ hc);have h7:=h1.small_sub h2 c;have h8:=h c (aj ..);have h9:c.size*48 ^ 49<=48*48 ^ 49:=aS _ h8;simp only[aM,cA,ak,g9];rw[bf,Nat.one_mul];omega
  have h6:=h5 ts hsz;have h7:ts.length*(48*48 ^ 49)<=48*(48*48 ^ 49):=aS _ hlen;omega
def Yj (s:Sb) (c:Int):List Int:=if c<0 then (s (-1 - c).toNat).codes else [c]
mutual
theorem Tm.codes_sub (s:Sb):(t:Tm)->(t.sub s).codes=t.codes.flatMap (Yj s)
 | .v n=>by
  show (s n).codes=[-1 - (n:Int)].flatMap (Yj s);simp only[br,List.flatMap_nil,bG,Yj];rw[if_pos (by omega),show (-1 - (-1 - (n:Int))).toNat=n from by omega]
 | .f c as=>by
  show (c:Int)::za (ve s as)=((c:Int)::za as).flatMap (Yj s);rw[br,kH s as];unfold Yj;rw[if_neg (by omega)]
  rfl
theorem kH (s:Sb):(ts:List Tm)->za (ve s ts)=(za ts).flatMap (Yj s)
 | []=>rfl
 | t::ts=>by
  show (t.sub s).codes++za (ve s ts)=(t.codes++za ts).flatMap (Yj s);rw[Tm.codes_sub s t,kH s ts,List.flatMap_append]
end
theorem HK {k:Nat} (hk:k<24) (p:Option jI):xO p 0 (-1 - (k:Int))=some (k:Int):=by
 unfold xO;rw[qA (by omega) (by omega),aa]
 congr 1
 rw[zp]<;>omega
section
variable {a0:List zg} {to:List PO} {B:Bd} {σ:Sb}
def zcq (o:List Int):Option jI:=if o.length<=48 then some o else none
theorem AO (hT:RepT a0 0 to B) (hG:Good B σ) (p:List Int) (hp48:p.length<=48) (rf:((Option jI)×Int×jS×(List PO))->Option (Option jI))
  (hrf:∀(y:Nat) q d u,(-1 - (y:Int))∈p->to[y]? = some (some q,d)->B y=some u->rf (some q,d,a0,to)=some (zcq (u.sub σ).codes)):∀(es:List Int) (i k:Nat) (out:List Int),p.drop i=es->es.length<k->(∀ c∈es,-24<=c)->out.length<=48 ->
  lp (yS rf) k (some p,((p.length:Nat):Int),(i:Int),a0,to,some p,0,out)=some (if out.length+(es.flatMap (Yj σ)).length<=48 then .inl (out++es.flatMap (Yj σ)) else .inr ()):=by
 intro es
 induction es with
 | nil =>
  intro i k out h hk _ ho;obtain⟨k,rfl⟩:∃ k',k=k'+1:=⟨k - 1,by simp at hk; omega⟩
  rw[zu];generalize lp (yS rf) k=rec;unfold yS;have hi:p.length<=i:=by
   have:=congrArg af h;simp at this; omega
  rw[decide_eq_false (show ¬((i:Int)<((p.length:Nat):Int)) by omega),cond_false]
  simp [ho]
 | cons c es ih =>
  intro i k out h hk hc ho;obtain⟨k,rfl⟩:∃ k',k=k'+1:=⟨k - 1,by simp at hk; omega⟩
  rw[zu];have key:=fun out' ho'=>ih (i+1) k out' (zj h) (by simp at hk; omega) (fun c h=>hc c (ai _ h)) ho'
  generalize lp (yS rf) k=rec at key ⊢;unfold yS;have hget:=zw h;have hi:i<p.length:=(au.1 hget).1;have hmem:c∈p:=aI hget;have hw:ag .i64 ((i:Int)+1)=((i+1:Nat):Int):=by rw[zp]<;>omega
  rw[decide_eq_true (show ((i:Int)<((p.length:Nat):Int)) by omega),cond_true]
  simp only[ba,yH,hget,aa,hw]
  -- one code that stays
  have stay:Yj σ c=[c]->(((nn ([c]:List Int)).bind fun _=>some false).bind fun z=>cond z (some (aE ()))
    (cond (decide ((ag .i64 (((af out:Nat):Int)+((af ([c]:List Int):Nat):Int)))>48)) (some (aE ()))
     (cond (yp (af out+af ([c]:List Int)) 8) (rec (some p,((p.length:Nat):Int),((i+1:Nat):Int),a0,to,some p,0,(out++([c]:List Int)))) none))) =
    some (if out.length+((c::es).flatMap (Yj σ)).length<=48 then .inl (out++(c::es).flatMap (Yj σ)) else .inr ()):=by
   intro he;have e1:(nn ([c]:List Int))=some [c]:=rfl;rw[e1,br,he];have w2:ag .i64 (((af out:Nat):Int)+((af ([c]:List Int):Nat):Int))=((out.length+1:Nat):Int):=by
    rw[zp]<;>simp only[aV]<;>omega
   simp only[aa,cond_false,w2];simp only[am,aV];by_cases h48:out.length+1<=48
   ·rw[decide_eq_false (show ¬(((out.length+1:Nat):Int)>48) by omega),cond_false,zk (by omega),cond_true,key _ (by simp; omega)]
    simp only[am,aV,aU];have:out.length+1+(es.flatMap (Yj σ)).length=out.length+(1+(es.flatMap (Yj σ)).length):=by omega
    rw[this]
   ·rw[decide_eq_true (show (((out.length+1:Nat):Int)>48) by omega),cond_true,if_neg (by omega)]
  by_cases h0:c<0
  ·obtain⟨y,hy,rfl⟩:∃ y:Nat,y<24∧c = -1 - (y:Int):=⟨(-1 - c).toNat,by have:=hc c (aj ..); omega,by omega⟩
   rw[decide_eq_true h0,cond_true,HK hy,aa,yN (show y<48 by omega),aa]
   obtain⟨e,he,hpe⟩:=hT.get (x:=y) (by omega)
   rw[he,aa];have hexp:Yj σ (-1 - (y:Int))=(σ y).codes:=by
    unfold Yj;rw[if_pos h0,show (-1 - (-1 - (y:Int))).toNat=y from by omega]
   unfold PcO at hpe;split at hpe
   ·rename_i h1;rw[h1];simp only[cV,ay,cond_false];exact stay (by rw[hexp,hG.free y hpe]; rfl)
   ·rename_i q h1;obtain⟨u,hu,hq⟩:=hpe;rw[h1];simp only[co,bu,cond_true,aa,yN (show y<48 by omega),he]
    rw[h1,hrf y q e.2 u hmem (by rw[he,← h1]) hu,aa]
    rw[br,hexp,hG.bound y u hu];unfold zcq;by_cases hsz:(u.sub σ).codes.length<=48
    ·rw[if_pos hsz];have w2:ag .i64 (((af out:Nat):Int)+(((u.sub σ).codes.length:Nat):Int))=((out.length+(u.sub σ).codes.length:Nat):Int):=by
      rw[zp]<;>omega
     simp only[co,cond_false,ba,w2];simp only[am];by_cases h48:out.length+(u.sub σ).codes.length<=48
     ·rw[decide_eq_false (show ¬(((out.length+(u.sub σ).codes.length:Nat):Int)>48) by omega),cond_false,zk (by omega),cond_true,key _ (by simp; omega)]
      simp only[am,aU];rw[bK]
     ·rw[decide_eq_true (show (((out.length+(u.sub σ).codes.length:Nat):Int)>48) by omega),cond_true,if_neg (by omega)]
    ·rw[if_neg hsz];simp only[cV,cond_true,am];rw[if_neg (by omega)]
  ·rw[decide_eq_false h0,cond_false];exact stay (by unfold Yj; rw[if_neg h0])
theorem PD (hT:RepT a0 0 to B) (hG:Good B σ):∀(k m:Nat) (p:List Int) (d:Int) (t:Tm),Pc a0 0 p d t->(∀ y,t.has y->B y≠none->Good.rank σ y<m)->m<k ->
  xb k (some p,d,a0,to)=some (zcq (t.sub σ).codes):=by
 intro k
 induction k with
 | zero=>intro m p d t _ _ h; omega
 | succ k ih =>
  intro m p d t hp hm hk;obtain⟨u,n,h1,rfl,rfl,h2,rfl,h3⟩:=hp;have hn:n=0:=by omega
  subst hn;rw[Tm.up_zero] at hm ⊢;have hsmall:∀ c∈u.codes,-24<=c:=fun c hc=>by
   by_cases h0:c<0
   ·have:=Tm.ok_has u h1 ((Tm.mem_codes h0 u).1 hc); omega
   ·omega
  show sW (xb k) (some u.codes) ((0:Nat):Int) a0 to=_;unfold sW;have hr:=AO hT hG u.codes h3 (xb k) (fun y q d w hy hto hw=>by
   have hyu:u.has y:=by
    have:=(Tm.mem_codes (by omega) u).1 hy
    rwa [show (-1 - (-1 - (y:Int))).toNat=y from by omega] at this
   have hpc:Pc a0 0 q d w:=by
    have:=hT.at_ y _ hto;obtain⟨t',h5,h6⟩:=(show ∃ t,B y=some t∧Pc a0 0 q d t from this)
    rw[hw] at h5; injection h5 with h5; subst h5;exact h6
   have hlt:=hm y hyu (by rw[hw]; simp)
   exact ih (Good.rank σ y) q d w hpc (fun z hz hb=>hG.rank_lt hw hz (by
    cases hbz:B z with
    | none=>exact absurd hbz hb
    | some x=>exact (hT.small z x hbz).1)) (by omega)) u.codes 0 ze [] rfl (by unfold ze; omega) hsmall (by simp)
  simp only[ba];have hr:lp (yS (xb k)) ze (some u.codes,((u.codes.length:Nat):Int),0,a0,to,some u.codes,((0:Nat):Int),[])=_:=hr;rw[hr,← Tm.codes_sub];unfold zcq;have hne:nn (u.sub σ).codes=some (u.sub σ).codes:=Vo fun e=>by
   have:=congrArg af e;rw[Tm.codes_len] at this;have:=(u.sub σ).size_pos;simp at *; omega
  by_cases h48:(u.sub σ).codes.length<=48
  ·simp only[bb,aQ,bm];rw[if_pos h48,if_pos h48];simp only[aa,sr,hne]
  ·simp only[bb,aQ];rw[if_neg h48,if_neg h48];rfl
theorem Hr (hT:RepT a0 0 to B) (hG:Good B σ) {p:List Int} {d:Int} {t:Tm} (hp:Pc a0 0 p d t):jr (some p) d a0 to=some (zcq (t.sub σ).codes):=by
 refine PD hT hG ze 49 p d t hp (fun y _ _ => ?_) (by unfold ze; omega)
 have:=Good.rank_le σ y;omega
def F0 (B:Bd) (v:Nat):Bool:=(B v).isSome
def ue (B:Bd) (σ:Sb) (vs:List Nat):List (Int×List Int):=(vs.filter (F0 B)).map fun v:Nat=>((v:Int),(σ v).codes)
def qT (σ:Sb) (vs:List Nat):Bool:=vs.all fun x=>decide ((σ x).size<=48)
theorem CM (hT:RepT a0 0 to B) (hG:Good B σ):∀(m v k:Nat) (out:List (Int×List Int)),24 - v=m->v<=24->m<k->out.length<=v ->
  lp vh k ((v:Int),a0,to,out)=some (cond (qT σ ((aK 24).drop v)) (.inl (out++ue B σ ((aK 24).drop v))) (.inr (false,401))):=by
 intro m
 induction m with
 | zero =>
  intro v k out hm hv hk ho;obtain⟨k,rfl⟩:∃ k',k=k'+1:=⟨k - 1,by omega⟩
  rw[zu];generalize lp vh k=rec;unfold vh;have:v=24:=by omega
  subst this;rw[show (aK 24).drop 24=[] from rfl]
  simp [ue,qT]
 | succ m ih =>
  intro v k out hm hv hk ho;obtain⟨k,rfl⟩:∃ k',k=k'+1:=⟨k - 1,by omega⟩
  rw[zu];have key:=fun out' ho'=>ih (v+1) k out' (by omega) (by omega) (by omega) ho'
  generalize lp vh k=rec at key ⊢;unfold vh;have w:ag .i64 ((v:Int)+1)=((v+1:Nat):Int):=by rw[zp]<;>omega
  obtain⟨e,he,hpe⟩:=hT.get (x:=v) (by omega)
  have hdr:(aK 24).drop v=v::(aK 24).drop (v+1):=by
   rw[aX (by simp; omega)]
   simp
  simp only[decide_eq_true (show (v:Int)<24 by omega),cond_true,yN (show v<48 by omega),aa,he,w]
  rw[hdr];unfold PcO at hpe;split at hpe
  ·rename_i h1;rw[h1];simp only[cV,cond_true];rw[key out (by omega)]
   have hs:(σ v).size<=48:=by rw[hG.free v hpe]; simp [Tm.size]
   have hb:F0 B v=false:=by simp [F0,hpe]
   simp [ue,qT,hb,hs]
  ·rename_i q h1;obtain⟨u,hu,hq⟩:=hpe;rw[h1];simp only[co,cond_false];rw[Hr hT hG hq,aa,← hG.bound v u hu];unfold zcq;rw[Tm.codes_len];by_cases hs:(σ v).size<=48
   ·rw[if_pos hs];simp only[co,cond_false,ba];rw[ye (by rw[Tm.codes_len]; omega),aa,zk (by simp only[aV]; omega),cond_true,key _ (by simp only[am,aV]; omega)]
    have hb:F0 B v=true:=by simp [F0,hu]
    simp [ue,qT,hb,hs]
   ·rw[if_neg hs];simp only[cV,cond_true];simp [qT,hs]
end
structure Mgu (σ:Sb) (E:List (Tm×Tm)):Prop where
 sol:Sol σ E
 gen:∀ θ,Sol θ E->∀ x,(σ x).sub θ=θ x
 le:∀ x y,σ x = .v y->y<=x
 idem:∀ x,(σ x).sub σ=σ x
theorem Mgu.of {B:Bd} {σ:Sb} {E:List (Tm×Tm)} (hG:Good B σ) (h:∀ θ,SolB θ B↔SolB θ (fun _=>none)∧Sol θ E):Mgu σ E where
 sol:=((h σ).1 hG.bound).2
 gen:=fun θ hθ=>hG.fac ((h θ).2 ⟨fun _ _ h=>(nomatch h),hθ⟩)
 le:=hG.le
 idem:=fun x=>by rw[← hG.fac hG.bound x]; exact hG.idem _
theorem Mgu.unique {σ σ':Sb} {E:List (Tm×Tm)} (h:Mgu σ E) (h':Mgu σ' E):σ=σ':=by
 have f1:∀ x,(σ x).sub σ'=σ' x:=h.gen σ' h'.sol;have f2:∀ x,(σ' x).sub σ=σ x:=h'.gen σ h.sol;have root:∀ y,σ y = .v y->σ' y = .v y:=by
  intro y hy;have h1:(σ' y).sub σ = .v y:=by rw[f2,hy]
  cases hz:σ' y with
  | f c as=>rw[hz] at h1; cases h1
  | v z =>
   rw[hz] at h1;have h2:=h'.le y z hz;have h3:=h.le z y h1;have:z=y:=by omega
   rw[this]
 have fix:∀ t:Tm,t.sub σ=t->∀ y,t.has y->σ y = .v y:=by
  intro t;have key:∀ n,(∀ t:Tm,t.size<=n->t.sub σ=t->∀ y,t.has y->σ y = .v y)∧∀ ts:List Tm,xK ts<=n->ve σ ts=ts->∀ y,Zm y ts->σ y = .v y:=by
   intro n
   induction n with
   | zero =>
    refine ⟨fun t ht=>absurd t.size_pos (by omega),fun ts hts he y hy => ?_⟩
    cases ts with
    | nil=>exact hy.elim
    | cons t ts=>have:=t.size_pos; simp only[xK] at hts; omega
   | succ n ih =>
    have h1:∀ t:Tm,t.size<=n+1->t.sub σ=t->∀ y,t.has y->σ y = .v y:=by
     intro t ht he y hy;cases t with
     | v z =>
      have hy:z=y:=hy;subst hy;exact he
     | f c as =>
      have he:Tm.f c (ve σ as)=Tm.f c as:=he;injection he with _ he;simp only[Tm.size] at ht;exact ih.2 as (by omega) he y hy
    refine ⟨h1,fun ts => ?_⟩
    induction ts with
    | nil=>intro _ _ y hy; exact hy.elim
    | cons t ts iht =>
     intro hts he y hy;have he:t.sub σ::ve σ ts=t::ts:=he;injection he with he1 he2;simp only[xK] at hts;have:=t.size_pos;rcases hy with hy | hy
     ·exact h1 t (by omega) he1 y hy
     ·exact ih.2 ts (by omega) he2 y hy
  exact (key t.size).1 t (aF _)
 funext x
 rw[← f1 x]
 conv=>lhs; rw[← Tm.sub_v (σ x)]
 exact Tm.sub_ext _ fun y hy=>(root y (fix _ (h.idem x) y hy)).symm
def moved (σ:Sb) (v:Nat):Bool:=match σ v with
 | .v y => !(y==v)
 | .f _ _=>true
theorem N0 {B:Bd} {σ:Sb} (h:Good B σ) (v:Nat):F0 B v=moved σ v:=by
 have:=h.moved (x:=v);unfold F0 moved;cases hb:B v with
 | none =>
  rw[h.free v hb];simp
 | some t =>
  have h1:=this.1 (by rw[hb]; simp)
  cases hs:σ v with
  | f c as=>rfl
  | v y =>
   rw[hs] at h1;have:y≠v:=fun e=>h1 (by rw[e])
   simp [this]
def tn (σ:Sb):List (Int×List Int):=((aK 24).filter (moved σ)).map fun v:Nat=>((v:Int),(σ v).codes)
theorem zhm (a0:List zg) (N:Nat):RepT a0 N to0 (fun _=>none) where
 len:=by simp [to0]
 at_:=fun x e h=>by
  have hx:x<48:=by
   have:=(au.1 h).1;simpa[to0] using this
  rw[zb2 hx] at h;injection h with h;rw[← h];rfl
 out:=fun _ _=>rfl
theorem Zf {a0:List zg} {xs ys:List Int} {ts us:List Tm} (hs:SignOk a0) (hx:xs=za ts) (hy:ys=za us) (ht:okR a0 24 ts) (hu:okR a0 24 us) (hb:uP a0=true) (hlx:xs.length<=48) (hly:ys.length<=48) :
  (uO a0 xs ys=some (false,0,[])∧(ts.length≠us.length∨∀ θ,¬ Sol θ (ts.zip us))) ∨
  (ts.length=us.length∧∃ σ,Mgu σ (ts.zip us)∧(∀ x,x<24->(σ x).ok a0 24)∧uO a0 xs ys=some (cond (qT σ (aK 24)) (true,0,tn σ) (false,401,[]))):=by
 have hr:∀{zs:List Int} {ws:List Tm},zs=za ws->okR a0 24 ws->zs.length<=48->Y0 a0 zs=some ws.length:=by
  intro zs ws h1 h2 h3;unfold Y0 vW;rw[hb,decide_eq_true h3,h1,yK ws h2];simp
 unfold uO;rw[ZV,hr hx ht hlx,aa,ZV,hr hy hu hly,aa];simp only;rw[show ((0:Int) != 0)=false from rfl,cond_false,cond_false]
 by_cases hl:ts.length=us.length
 ·rw[hl,show (((us.length:Nat):Int) != ((us.length:Nat):Int))=false from by simp,cond_false]
  obtain⟨r,h1,h2,h3⟩:=NU hs (N:=0) (by omega) (zhm a0 0) Good.empty (p:=xs) (q:=ys) (d:=0) (e:=0) (ts:=ts) (us:=us)
   ⟨ts,0,ht,hx,rfl,aF _,by rw[show Tm.up 0=id from funext Tm.up_zero,gY],hlx⟩ ⟨us,0,hu,hy,rfl,aF _,by rw[show Tm.up 0=id from funext Tm.up_zero,gY],hly⟩ hl
  have h1:wY xs 0 ys 0 a0 (az 48 ((none:Option jI),(0:Int)))=some r:=h1;rw[h1,aa];rcases h3 with ⟨h3,h4⟩ | ⟨h3,B',h4,⟨σ,h5⟩,-,h6⟩
  ·rw[h3];exact .inl ⟨rfl,.inr fun θ h=>h4 θ (fun _ _ h=>(nomatch h)) h⟩
  ·rw[h3];have hok:∀ x,x<24->(σ x).ok a0 24:=by
    refine h5.ind (fun x hx hlt=>by rw[h5.free x hx]; exact hlt) fun x t hx ih _ => ?_
    have hto:Pc a0 0 t.codes 0 t:=by
     obtain⟨e,he,hpe⟩:=h4.get (x:=x) (h4.small x t hx).1;unfold PcO at hpe;split at hpe
     ·rw[hx] at hpe; cases hpe
     ·obtain⟨u,hu,hq⟩:=hpe;rw[hx] at hu; injection hu with hu; subst hu;obtain⟨u0,n,g1,g2,g3,g4,g5,g6⟩:=hq;have:n=0:=by omega
      subst this;rw[Tm.up_zero] at g5;subst g5;exact ⟨t,0,g1,rfl,rfl,aF _,(Tm.up_zero t).symm,by rw[← g2]; exact g6⟩
    obtain⟨u0,n,g1,g2,g3,g4,g5,g6⟩:=hto;have:n=0:=by omega
    subst this;rw[Tm.up_zero] at g5;subst g5;rw[h5.bound x t hx];exact Tm.ok_sub t g1 fun y hy=>ih y hy (Tm.ok_has t g1 hy)
   refine .inr ⟨rfl,σ,Mgu.of h5 h6,hok,?_⟩;simp only[ay,cond_false];have:=CM (a0:=r.2.1) (by rw[h2]; exact h4) h5 24 0 ze [] rfl (by omega) (by unfold ze; omega) (by simp)
   rw[show ((0:Nat):Int)=0 from rfl] at this
   rw[this,bM];have he:ue B' σ (aK 24)=tn σ:=by
    unfold ue tn;rw[show F0 B'=moved σ from funext (N0 h5)]
   cases qT σ (aK 24) with
   | true=>simp only[cond_true,aa,sr,bm,he]
   | false=>rfl
 ·rw[show (((ts.length:Nat):Int) != ((us.length:Nat):Int))=true from by simp; omega,cond_true]
  exact .inl ⟨rfl,.inl hl⟩
theorem LF {n:Int} (h1:0<=n) (h2:n<=9223372036854775807):ag .u64 n=n:=by
 simp [ag,eP,dm];omega
theorem zcF {l h:Nat} (hl:l+h<=1000000000):ag .i64 (gC (ag .u64 (ag .i64 ((l:Int)+(h:Int)))) (2 ^ min (bc 1) (dm .u64)))=(((l+h) / 2:Nat):Int):=by
 rw[zp (n:=(l:Int)+(h:Int)) (by omega) (by omega),LF (by omega) (by omega)]
 have:(2:Int) ^ min (bc 1) (dm .u64)=2:=by decide
 rw[this,Int.fdiv_eq_ediv_of_nonneg _ (by omega)]
 rw[zp]<;>omega
theorem AZ (a b:Int):Kg a b=some (decide (a<b)):=by
 unfold Kg Wn;simp
abbrev Rise (xs:List Int):Prop:=xs.Pairwise (· < ·)
theorem Rise.lt {xs:List Int} (h:Rise xs) {i j:Nat} {x y:Int} (hi:xs[i]? = some x) (hj:xs[j]? = some y) (hij:i<j):x<y:=by
 obtain⟨h1,rfl⟩:=au.1 hi;obtain⟨h2,rfl⟩:=au.1 hj;exact List.pairwise_iff_getElem.1 h i j h1 h2 hij
theorem Sn {xs:List Int} (h:Rise xs) (hl:xs.length<=1000000) (t:Int) (z:Int):∀(m l r k:Nat),r - l=m->l<=r->r<=xs.length->m<k->(∀(i:Nat) x,xs[i]? = some x->i<l->x<t)->(∀(i:Nat) x,xs[i]? = some x->r<=i->t<=x) ->
  ∃ q:Nat,lp yZ k (xs,t,z,(l:Int),(r:Int))=some (q:Int)∧q<=xs.length∧(∀(i:Nat) x,xs[i]? = some x->i<q->x<t)∧∀(i:Nat) x,xs[i]? = some x->q<=i->t<=x:=by
 intro m
 induction m using cQ with
 | _ m ih =>
  intro l r k hm hlr hr hk h1 h2;obtain⟨k,rfl⟩:∃ k',k=k'+1:=⟨k - 1,by omega⟩
  rw[zu];have key:=fun l r (h3:r - l<m) h4 h5 h6 h7=>ih (r - l) h3 l r k rfl h4 h5 (by omega) h6 h7
  generalize lp yZ k=rec at key ⊢;unfold yZ;by_cases hlt:l<r
  ·have hml:(l+r) / 2<xs.length:=by omega
   simp only[decide_eq_true (show (l:Int)<(r:Int) by omega),cond_true,zcF (show l+r<=1000000000 by omega),yH,al hml,aa,AZ]
   have hget:=al hml;have w:ag .i64 ((((l+r) / 2:Nat):Int)+1)=(((l+r) / 2+1:Nat):Int):=by rw[zp]<;>omega
   by_cases hc:xs[(l+r) / 2]<t
   ·rw[decide_eq_true hc,cond_true,w];refine key ((l+r) / 2+1) r (by omega) (by omega) hr (fun i x hi hil => ?_) h2
    rcases bD i ((l+r) / 2) with hi2 | hi2
    ·have:=h.lt hi hget hi2; omega
    ·have:i=(l+r) / 2:=by omega
     subst this;rw[hget] at hi; injection hi with hi; omega
   ·rw[decide_eq_false hc,cond_false];refine key l ((l+r) / 2) (by omega) (by omega) (by omega) h1 (fun i x hi hil => ?_)
    rcases bD ((l+r) / 2) i with hi2 | hi2
    ·have:=h.lt hget hi hi2; omega
    ·have:i=(l+r) / 2:=by omega
     subst this;rw[hget] at hi; injection hi with hi; omega
  ·rw[decide_eq_false (show ¬((l:Int)<(r:Int)) by omega),cond_false]
   have:l=r:=by omega
   subst this;exact ⟨l,rfl,hr,h1,h2⟩
theorem zbD {xs:List Int} (h:Rise xs) (hl:xs.length<=1000000) (t:Int):∃(q:Nat) (b:Bool),wx xs t=some ((q:Int),b)∧q<=xs.length∧(∀(i:Nat) x,xs[i]? = some x->i<q->x<t)∧(∀(i:Nat) x,xs[i]? = some x->q<=i->t<=x)∧(b=true↔t∈xs):=by
 obtain⟨q,h1,h2,h3,h4⟩:=Sn h hl t ((xs.length:Nat):Int) xs.length 0 xs.length ze rfl (bI _) (aF _) (by unfold ze; omega) (fun i x _ h=>by omega) (fun i x hi h=>by
  have:=(au.1 hi).1; omega)
 have h1:lp yZ ze (xs,t,((xs.length:Nat):Int),0,((xs.length:Nat):Int))=some (q:Int):=h1;unfold wx;rw[h1,aa];by_cases hq:q<xs.length
 ·rw[decide_eq_true (show ((q:Int)<((xs.length:Nat):Int)) by omega),cond_true,yH,al hq,aa]
  have hget:=al hq;by_cases he:xs[q]=t
  ·rw[show (xs[q]==t)=true from by simp [he],cond_true]
   exact ⟨q,true,rfl,h2,h3,h4,by simp only[true_iff]; rw[← he]; exact dv hq⟩
  ·rw[show (xs[q]==t)=false from by simp [he],cond_false,aa]
   have hn:rC xs[q]=some false:=by unfold rC; simp
   rw[hn,aa,cond_false];refine ⟨q,false,rfl,h2,h3,h4,?_⟩;constructor
   ·intro h; cases h
   ·intro hm;exfalso;obtain⟨i,hi⟩:=cR.1 hm;rcases Nat.lt_trichotomy i q with h5 | h5 | h5
    ·have:=h3 i t hi h5; omega
    ·subst h5; rw[hget] at hi; injection hi with hi; exact he hi
    ·have:=h.lt hget hi h5;have:=h4 q _ hget (aF _);omega
 ·rw[decide_eq_false (show ¬((q:Int)<((xs.length:Nat):Int)) by omega),cond_false]
  refine ⟨q,false,rfl,h2,h3,h4,?_⟩;constructor
  ·intro h; cases h
  ·intro hm;exfalso;obtain⟨i,hi⟩:=cR.1 hm;have:=h3 i t hi (by have:=(au.1 hi).1; omega)
   omega
theorem Cd {xs:List Int} (h:Rise xs) {q:Nat} {t:Int} (_hq:q<=xs.length) (h1:∀(i:Nat) x,xs[i]? = some x->i<q->x<t) (h2:∀(i:Nat) x,xs[i]? = some x->q<=i->t<=x) (h3:t∉xs):Rise (Qd xs q [t]):=by
 unfold Qd Rise;have ht:∀ x∈xs.take q,x<t:=fun x hx=>by
  obtain⟨i,hi⟩:=cR.1 hx;rw[List.getElem?_take] at hi;split at hi
  ·exact h1 i x hi (by assumption)
  ·cases hi
 have hd:∀ x∈xs.drop q,t<x:=fun x hx=>by
  obtain⟨i,hi⟩:=cR.1 hx;rw[List.getElem?_drop] at hi;have h4:=h2 _ x hi (by omega)
  have:x≠t:=fun e=>h3 (e▸aI hi);omega
 rw[List.pairwise_append];refine ⟨h.sublist (List.take_sublist ..),?_,fun x hx y hy => ?_⟩
 ·rw[List.singleton_append,cy];exact ⟨hd,h.sublist (List.drop_sublist ..)⟩
 ·have h5:=ht x hx;rcases aJ.1 hy with hy | hy
  ·rw[bq.1 hy]; exact h5
  ·have:=hd y hy; omega
theorem M9 {xs:List Int} {q:Nat} {t x:Int}:x∈Qd xs q [t]↔x∈xs∨x=t:=by
 unfold Qd;simp only[aJ,bq];constructor
 ·rintro (h | h | h)
  ·exact .inl (List.mem_of_mem_take h)
  ·exact .inr h
  ·exact .inl (List.mem_of_mem_drop h)
 ·rintro (h | h)
  ·rw[← bU q xs] at h;rcases aJ.1 h with h | h
   ·exact .inl h
   ·exact .inr (.inr h)
  ·exact .inr (.inl h)
def HQ (r:List Int) (x:Int):Prop:=∃ c∈r,c<0∧x = -1 - c
theorem IC:(es vs:List Int)->Rise vs->vs.length+es.length<=1000000->(∀ c∈es,-1000000<=c∧c<=1000000)->∃ ws,yL es vs=some ws∧Rise ws∧(∀ x,x∈ws↔x∈vs∨HQ es x)∧ws.length<=vs.length+es.length
 | [],vs,h,_,_=>⟨vs,rfl,h,fun x=>⟨.inl,fun h=>h.elim (fun h=>h) fun ⟨c,hc,_⟩=>(nomatch hc)⟩,aF _⟩
 | e::es,vs,h,hl,hc=>by
  rw[ak] at hl;have he:=hc e (aj ..);have hc':∀ c∈es,-1000000<=c∧c<=1000000:=fun c h=>hc c (ai _ h);unfold yL;by_cases h0:e≥0
  ·rw[decide_eq_true h0,cond_true];obtain⟨ws,h1,h2,h3,h4⟩:=IC es vs h (by omega) hc'
   refine ⟨ws,h1,h2,fun x=>(h3 x).trans ?_,by rw[ak]; omega⟩
   constructor
   ·rintro (h5 | ⟨c,h5,h6⟩)
    ·exact .inl h5
    ·exact .inr ⟨c,ai _ h5,h6⟩
   ·rintro (h5 | ⟨c,h5,h6,h7⟩)
    ·exact .inl h5
    ·rcases aD.1 h5 with rfl | h5
     ·omega
     ·exact .inr ⟨c,h5,h6,h7⟩
  ·rw[decide_eq_false h0,cond_false,qA (by omega) (by omega),aa]
   obtain⟨q,b,h1,h2,h3,h4,h5⟩:=zbD h (by omega) (-1 - e)
   rw[h1,aa];have fin:∀{vs':List Int},(∀ x,x∈vs'↔x∈vs∨x = -1 - e)->∀ x,(x∈vs'∨HQ es x)↔(x∈vs∨HQ (e::es) x):=by
    intro vs' hv x;rw[hv x];constructor
    ·rintro ((h6 | h6) | ⟨c,h6,h7⟩)
     ·exact .inl h6
     ·exact .inr ⟨e,aj ..,by omega,h6⟩
     ·exact .inr ⟨c,ai _ h6,h7⟩
    ·rintro (h6 | ⟨c,h6,h7,h8⟩)
     ·exact .inl (.inl h6)
     ·rcases aD.1 h6 with rfl | h6
      ·exact .inl (.inr h8)
      ·exact .inr ⟨c,h6,h7,h8⟩
   cases b with
   | true =>
    simp only[ay,cond_false];obtain⟨ws,h6,h7,h8,h9⟩:=IC es vs h (by omega) hc'
    refine ⟨ws,h6,h7,fun x=>(h8 x).trans (fin (fun x=>⟨.inl,fun h=>h.elim (fun h=>h) fun h => ?_⟩) x),by rw[ak]; omega⟩
    rw[h];exact h5.1 rfl
   | false =>
    simp only[bu,cond_true,aa];have hn : -1 - e∉vs:=fun h=>by have:=h5.2 h; cases this
    have hi:kl (q:Int) vs [-1 - e]=some (Qd vs q [-1 - e]):=by
     unfold kl zcN;rw[zk (by simp; omega)]
     have e1:Rq (q:Int)=true:=by simp [Rq]
     have e2:decide ((q:Int)<=(af vs:Int))=true:=by simp; omega
     have e3:E7 ((af [-1 - e]:Nat):Int)=true:=by simp [E7]
     rw[e1,e2,e3,bl];rfl
    rw[hi,aa];have hlen:(Qd vs q [-1 - e]).length=vs.length+1:=Vs vs _ h2;obtain⟨ws,h6,h7,h8,h9⟩:=IC es (Qd vs q [-1 - e]) (Cd h h2 h3 h4 hn) (by omega) hc'
    exact ⟨ws,h6,h7,fun x=>(h8 x).trans (fin (fun x=>M9) x),by rw[ak]; omega⟩
theorem DH {r vs:List Int} (h:Rise vs) (hl:vs.length+r.length<=1000000) (hc:∀ c∈r,-1000000<=c∧c<=1000000):∃ ws,tH r vs=some ws∧Rise ws∧(∀ x,x∈ws↔x∈vs∨HQ r x)∧ws.length<=vs.length+r.length:=by
 obtain⟨ws,h1,h2⟩:=IC r vs h hl hc;refine ⟨ws,?_,h2⟩;unfold tH;rw[Qb _ _ (by unfold maxLen; omega),h1]
 rfl
def ZM (rs:List jI) (x:Int):Prop:=∃ r∈rs,HQ r x
theorem WE {r:List Int} {rs:List jI} {x:Int}:ZM (r::rs) x↔HQ r x∨ZM rs x:=by simp [ZM]
theorem tv {rs ss:List jI} {x:Int}:ZM (rs++ss) x↔ZM rs x∨ZM ss x:=by
 simp only[ZM,aJ];constructor
 ·rintro⟨r,h | h,h2⟩
  ·exact .inl ⟨r,h,h2⟩
  ·exact .inr ⟨r,h,h2⟩
 ·rintro (⟨r,h,h2⟩ | ⟨r,h,h2⟩)
  ·exact ⟨r,.inl h,h2⟩
  ·exact ⟨r,.inr h,h2⟩
theorem jg (r:List Int) (rs:List jI):zi (r::rs)=r.length+zi rs:=by simp [zi]
theorem w9 (rs ss:List jI):zi (rs++ss)=zi rs+zi ss:=by simp [zi]
theorem Nj:(es:List zc)->(vs:List Int)->Rise vs->vs.length+zi (es.map (·.2))<=1000000->(∀ l∈es,tV l.2) ->
  ∃ ws,q5 es vs=some ws∧Rise ws∧(∀ x,x∈ws↔x∈vs∨ZM (es.map (·.2)) x)∧ws.length<=vs.length+zi (es.map (·.2))
 | [],vs,h,_,_=>⟨vs,rfl,h,fun x=>⟨.inl,fun h=>h.elim (fun h=>h) fun ⟨c,hc,_⟩=>(nomatch hc)⟩,by simp [zi]⟩
 | e::es,vs,h,hl,hn=>by
  rw[aM,jg] at hl;unfold q5;obtain⟨ws,h1,h2,h3,h4⟩:=DH h (r:=e.2) (by omega) (hn e (aj ..)).2
  rw[h1,aa];obtain⟨xs,h5,h6,h7,h8⟩:=Nj es ws h2 (by omega) fun l hl=>hn l (ai _ hl)
  refine ⟨xs,h5,h6,fun x => ?_,by rw[aM,jg]; omega⟩
  rw[h7 x,h3 x,aM,WE,or_assoc]
theorem O3:(es:List jI)->(vs:List Int)->Rise vs->vs.length+zi es<=1000000->(∀ l∈es,tV l) ->
  ∃ ws,qZ es vs=some ws∧Rise ws∧(∀ x,x∈ws↔x∈vs∨ZM es x)∧ws.length<=vs.length+zi es
 | [],vs,h,_,_=>⟨vs,rfl,h,fun x=>⟨.inl,fun h=>h.elim (fun h=>h) fun ⟨c,hc,_⟩=>(nomatch hc)⟩,by simp [zi]⟩
 | e::es,vs,h,hl,hn=>by
  rw[jg] at hl;unfold qZ;obtain⟨ws,h1,h2,h3,h4⟩:=DH h (r:=e) (by omega) (hn e (aj ..)).2
  rw[h1,aa];obtain⟨xs,h5,h6,h7,h8⟩:=O3 es ws h2 (by omega) fun l hl=>hn l (ai _ hl)
  refine ⟨xs,h5,h6,fun x => ?_,by rw[jg]; omega⟩
  rw[h7 x,h3 x,WE,or_assoc]
def yg (L:List zc) (T:List jI) (C:List zc):List jI:=L.map (·.2)++C.map (·.2)++T
theorem YS {a0:List zg} (hs:SignOk a0) {L:List zc} {T:List jI} {C:List zc} (h:xD a0 L T C=true):∃ ws,qH a0 L T C=some (0,ws)∧Rise ws∧∀ x,x∈ws↔ZM (yg L T C) x:=by
 obtain⟨-,h1,h2,h3,h4,h5,h6,h7⟩:=zn h;have n1:=kE hs h4;have n2:=Vr hs h5;have n3:=kE hs h6;unfold qH;rw[zD,aa,h];simp only[ay,cond_false];rw[jY (by omega),aa,QX _ _ _ _ _ (by unfold maxLen; simp; omega)]
 obtain⟨ws,h8,h9,h10,h11⟩:=Nj (L++C) [] fX (by rw[dk,w9]; simp; omega) (fun l hl=>(aJ.1 hl).elim (n1 l) (n3 l))
 rw[h8,aa,QA _ _ (by unfold maxLen; omega)]
 rw[dk,w9] at h11;obtain⟨xs,h12,h13,h14,-⟩:=O3 T ws h9 (by simp at h11; omega) n2
 rw[h12];refine ⟨xs,rfl,h13,fun x => ?_⟩;rw[h14 x,h10 x,dk];unfold yg;rw[tv,tv,tv];simp
def upC (by_:Int) (c:Int):Int:=cond (decide (c<0)) (c - by_) c
def ju (b:Int) (ls:List zc):List zc:=ls.map fun l=>(l.1,l.2.map (upC b))
theorem KP (b:Int) (hb:0<=b∧b<=1000):(es done:List Int)->(k:Nat)->es.length<k->done.length+es.length<=1000000->(∀ c∈es,-1000000<=c∧c<=1000000) ->
  lp qK k (((done.length+es.length:Nat):Int),(done.length:Int),b,done++es)=some (done++es.map (upC b))
 | [],done,k,hk,hl,hc=>by
  obtain⟨k,rfl⟩:∃ k',k=k'+1:=⟨k - 1,by omega⟩
  rw[zu];generalize lp qK k=rec;unfold qK;simp
 | e::es,done,k,hk,hl,hc=>by
  obtain⟨k,rfl⟩:∃ k',k=k'+1:=⟨k - 1,by omega⟩
  rw[zu];have he:=hc e (aj ..);have hl':done.length+(es.length+1)<=1000000:=hl;have key:=fun e'=>KP b hb es (done++[e']) k (Nat.lt_of_succ_lt_succ hk) (by simp; omega) (fun c hx=>hc c (ai _ hx))
  generalize lp qK k=rec at key ⊢;unfold qK;have e1:decide (((done.length:Nat):Int)<((done.length+(e::es).length:Nat):Int))=true:=by rw[decide_eq_true_eq,ak]; omega
  have e2:inR ((done.length:Nat):Int) (af (done++e::es))=some done.length:=yN (by simp)
  have e3:ag .i64 (((done.length:Nat):Int)+1)=((done.length+1:Nat):Int):=by rw[zp]<;>omega
  have key2:=fun e'=>by
   have:=key e';rw[aU,am,aV,bK,dg 1 es.length] at this;exact this
  simp only[e1,cond_true,e2,aa,QQ,e3];by_cases h0:e<0
  ·have hu:upC b e=e - b:=by unfold upC; rw[decide_eq_true h0]; rfl
   have w:ag .i64 (e - b)=e - b:=by rw[zp]<;>omega
   rw[decide_eq_true h0,cond_true,w];have hset:(done++e::es).set done.length (e - b)=done++(e - b)::es:=by
    rw[List.set_append_right _ _ (aF _),ej]; rfl
   rw[hset,aM,hu];have:=key2 (e - b);exact this.trans (by simp)
  ·have hu:upC b e=e:=by unfold upC; rw[decide_eq_false h0]; rfl
   rw[decide_eq_false h0,cond_false,aM,hu];have:=key2 e;exact this.trans (by simp)
theorem Ie {b:Int} (hb:0<=b∧b<=1000) {r:List Int} (hn:tV r):qI r b=some (r.map (upC b)):=by
 unfold qI;rw[ye (by have:=hn.1; omega),aa]
 have:=KP b hb r [] ze (by have:=hn.1; unfold ze; omega) (by have:=hn.1; simp; omega) hn.2
 simp only[bb,aQ,bm] at this;have h0:((0:Nat):Int)=0:=rfl;rw[h0] at this;rw[this];rfl
theorem BC {b:Int} (hb:0<=b∧b<=1000):(es out:List zc)->(∀ l∈es,tV l.2)->out.length+es.length<=1000000->yt b es out=some (out++ju b es)
 | [],out,_,_=>by simp [yt,ju]
 | e::es,out,hn,hl=>by
  rw[ak] at hl;unfold yt;rw[Ie hb (hn e (aj ..)),aa,zk (show (out.length+([(e.1,e.2.map (upC b))]:List zc).length)*32<=140737488351232 by simp; omega),cond_true,
   BC hb es _ (fun l hl=>hn l (ai _ hl)) (by simp; omega)]
  simp [ju]
theorem BM {b:Int} (hb:0<=b∧b<=1000) (s7:List zc):(es out:List jI)->(∀ l∈es,tV l)->out.length+es.length<=1000000->yv b s7 es out=some (s7,out++es.map (c5 (upC b)))
 | [],out,_,_=>by simp [yv]
 | e::es,out,hn,hl=>by
  rw[ak] at hl;unfold yv;rw[Ie hb (hn e (aj ..)),aa,zk (show (out.length+([e.map (upC b)]:List jI).length)*24<=140737488351232 by simp; omega),cond_true,
   BM hb s7 es _ (fun l hl=>hn l (ai _ hl)) (by simp; omega)]
  simp
theorem Dw {b:Int} (hb:0<=b∧b<=1000) (s4:List zc) (s5:List jI):(es out:List zc)->(∀ l∈es,tV l.2)->out.length+es.length<=1000000->yz b s4 s5 es out=some (s4,s5,out++ju b es)
 | [],out,_,_=>by simp [yz,ju]
 | e::es,out,hn,hl=>by
  rw[ak] at hl;unfold yz;rw[Ie hb (hn e (aj ..)),aa,zk (show (out.length+([(e.1,e.2.map (upC b))]:List zc).length)*32<=140737488351232 by simp; omega),cond_true,
   Dw hb s4 s5 es _ (fun l hl=>hn l (ai _ hl)) (by simp; omega)]
  simp [ju]
theorem JE {b:Int} (hb:0<=b∧b<=1000) {L:List zc} {T:List jI} {C:List zc} (hL:∀ l∈L,tV l.2) (hT:∀ l∈T,tV l) (hC:∀ l∈C,tV l.2) (h1:L.length<=1000) (h2:T.length<=1000) (h3:C.length<=1000) :
  zH L T C b=some (ju b L,T.map (c5 (upC b)),ju b C):=by
 unfold zH YI;rw[ZY _ _ _ _ _ _ (by unfold maxLen; omega),BC hb L [] hL (by simp; omega),aa,
  Z4 _ _ _ _ _ _ _ (by unfold maxLen; omega),BM hb _ T [] hT (by simp; omega),aa,
  YE _ _ _ _ _ (by unfold maxLen; omega),Dw hb _ _ C [] hC (by simp; omega),aa]
 simp
def TopV (rs:List jI) (m:Int):Prop:=(∀ x,ZM rs x->x<m)∧(m=0∨ZM rs (m - 1))
theorem MI {ws:List Int} {rs:List jI} (h:Rise ws) (hm:∀ x,x∈ws↔ZM rs x):(ws=[]∧TopV rs 0)∨∃ x,ws[ws.length - 1]? = some x∧0<ws.length∧TopV rs (x+1):=by
 cases hw:ws with
 | nil=>exact .inl ⟨rfl,⟨fun x hx=>(by have:=(hm x).2 hx; rw[hw] at this; cases this),.inl rfl⟩⟩
 | cons w ws' =>
  rw[← hw];have hl:0<ws.length:=by rw[hw]; simp
  refine .inr ⟨ws[ws.length - 1],al (by omega),hl,⟨fun x hx => ?_,.inr ?_⟩⟩
  ·obtain⟨i,hi⟩:=cR.1 ((hm x).2 hx);have hil:=(au.1 hi).1;rcases bD i (ws.length - 1) with h1 | h1
   ·have:=h.lt hi (al (show ws.length - 1<ws.length by omega)) h1; omega
   ·have:i=ws.length - 1:=by omega
    subst this;rw[al (by omega)] at hi
    injection hi with hi; omega
  ·rw[show ws[ws.length - 1]+1 - 1=ws[ws.length - 1] from by omega]
   exact (hm _).1 (dv _)
def tG (s:Sb) (r:List Int):List Int:=r.flatMap (Yj s)
theorem G8 (σ:Sb) (v:Nat):(vs:List Nat)->ke ((vs.filter (moved σ)).map fun v:Nat=>((v:Int),(σ v).codes)) (v:Int)=if v∈vs∧moved σ v=true then some (σ v).codes else none
 | []=>by simp [ke]
 | w::vs=>by
  have ih:=G8 σ v vs;cases hm:moved σ w with
  | false =>
   rw[cO (by simp [hm]),ih]
   by_cases hv:v=w
   ·subst hv;simp [hm]
   ·simp [hv]
  | true =>
   rw[db hm,aM];unfold ke at ih ⊢;rw[List.find?_cons];by_cases hv:v=w
   ·subst hv;simp [hm]
   ·rw[show (((w:Nat):Int)==(v:Int))=false from by simp; omega,ih]
    simp [hv]
theorem CL {σ:Sb} {r:List Int} (h:∀ c∈r,-24<=c):onB (tn σ) r=tG σ r:=by
 unfold onB tG
 induction r with
 | nil=>rfl
 | cons c r ih =>
  rw[br,br,ih fun c hc=>h c (ai _ hc)]
  congr 1
  have hc:=h c (aj ..);unfold onC Yj;by_cases h0:c≥0
  ·rw[decide_eq_true h0,cond_true,if_neg (by omega)]
  ·rw[decide_eq_false h0,cond_false,if_pos (by omega)]
   obtain⟨k,hk,rfl⟩:∃ k:Nat,k<24∧c = -1 - (k:Int):=⟨(-1 - c).toNat,by omega,by omega⟩
   have e1:(-1:Int) - (-1 - (k:Int))=(k:Int):=by omega
   rw[e1,bl];unfold tn;rw[G8 σ k];cases hm:moved σ k with
   | true=>simp [hk]
   | false =>
    have:σ k = .v k:=by
     unfold moved at hm;split at hm
     ·rename_i y hy;have:y=k:=by simpa using hm
      rw[hy,this]
     ·cases hm
    rw[this];simp [Tm.codes]
theorem Q9 {σ:Sb} (h:qT σ (aK 24)=true):BindsOk (tn σ) where
 len:=by
  unfold tn;rw[aP];have:=List.length_filter_le (moved σ) (aK 24);simp at this;omega
 all:=fun b hb=>by
  unfold tn at hb;obtain⟨v,hv,rfl⟩:=aY.1 hb;have hv:=(d6.1 hv).1;have h1:=aC.1 h v hv;have h2:=(σ v).size_pos;have h3:=(σ v).codes_len;have h4:(σ v).size<=48:=of_decide_eq_true h1;refine ⟨fun e => ?_,?_⟩
  ·have:=congrArg af e;simp only[bb] at this;omega
  ·show (σ v).codes.length<=1000;omega
def ug (s:Sb) (ls:List zc):List zc:=ls.map fun l=>(l.1,tG s l.2)
theorem Kf {σ:Sb} {ls:List zc} (h:∀ l∈ls,∀ c∈l.2,-24<=c):J7 (tn σ) ls=ug σ ls:=by
 unfold J7 ug;exact bV fun l hl=>by rw[CL (h l hl)]
theorem EL {σ:Sb} {rs:List jI} (h:∀ r∈rs,∀ c∈r,-24<=c):HR (tn σ) rs=rs.map (tG σ):=by
 unfold HR;exact bV fun r hr=>CL (h r hr)
theorem xP {a0:List zg} {xs:List Int} (h:qN a0 xs=true):∃(c:Nat) (ts:List Tm) (e:zg),xs=(c:Int)::za ts∧okR a0 24 ts∧a0[c]? = some e∧e.2.1=0∧((ts.length:Nat):Int)=e.2.2.1∧(za ts).length<=48∧uP a0=true:=by
 obtain⟨x,r,e,ps,rfl,h0,h1,-,h2,h3,h4,h5,h6⟩:=Q6 h;obtain⟨ts,h7,h8,h9⟩:=TG h5;refine ⟨x.toNat,ts,e,by rw[← h9,cG h0],h7,h1,h2,?_,by rw[← h9]; exact h4,h3⟩
 rw[← h6,h8,aP]
theorem Re {a0:List zg} {c:Nat} {ts:List Tm} {e:zg} (h1:okR a0 24 ts) (h2:a0[c]? = some e) (h3:e.2.1=0) (h4:((ts.length:Nat):Int)=e.2.2.1) (h5:(za ts).length<=48) (h6:uP a0=true):qN a0 ((c:Int)::za ts)=true:=by
 unfold qN;simp only[bl,h2];unfold vW;rw[h6,decide_eq_true h5];simp [h3,yK ts h1,h4]
theorem IV (b:Nat):(ts:List Tm)->(za ts).map (upC (b:Int))=za (ts.map (Tm.up b)):=by
 intro ts;have h:=kH (fun n=>Tm.v (n+b)) ts;have e:ts.map (Tm.up b)=ve (fun n=>Tm.v (n+b)) ts:=by rw[QI]; rfl
 rw[e,h];generalize za ts=r
 induction r with
 | nil=>rfl
 | cons c r ih =>
  rw[aM,br,ih]
  congr 1
  unfold upC Yj;by_cases h0:c<0
  ·rw[decide_eq_true h0,cond_true,if_pos h0];show [c - (b:Int)]++_=[-1 - (((-1 - c).toNat+b:Nat):Int)]++_;rw[show -1 - (((-1 - c).toNat+b:Nat):Int)=c - (b:Int) from by omega]
   rfl
  ·rw[decide_eq_false h0,cond_false,if_neg h0];rfl
theorem kN {ts:List Tm} {x:Int}:HQ (za ts) x↔∃ k:Nat,x=(k:Int)∧Zm k ts:=by
 constructor
 ·rintro⟨c,h1,h2,rfl⟩;exact ⟨(-1 - c).toNat,by omega,(kG h2 ts).1 h1⟩
 ·rintro⟨k,rfl,hk⟩;refine ⟨-1 - (k:Int),(kG (by omega) ts).2 (by rwa [show (-1 - (-1 - (k:Int))).toNat=k from by omega]),by omega,by omega⟩
theorem KD {a0:List zg} {L:List zc} {T:List jI} {C:List zc} (h:xD a0 L T C=true):∀ r∈yg L T C,rD r:=by
 obtain⟨-,-,-,-,h4,h5,h6,-⟩:=zn h;intro r hr;unfold yg at hr;rcases aJ.1 hr with hr | hr
 ·rcases aJ.1 hr with hr | hr
  ·obtain⟨l,hl,rfl⟩:=aY.1 hr; exact qX h4 l hl
  ·obtain⟨l,hl,rfl⟩:=aY.1 hr; exact qX h6 l hl
 ·exact ZQ h5 r hr
theorem Yb {a0:List zg} {L:List zc} {T:List jI} {C:List zc} (h:xD a0 L T C=true) {x:Int} (hx:ZM (yg L T C) x):0<=x∧x<24:=by
 obtain⟨r,hr,c,hc,h0,rfl⟩:=hx;have:=(KD h r hr).2 c hc;omega
abbrev ApR:=List zc×List jI×Bool×List zc
theorem apart_spec {a0:List zg} (hs:SignOk a0) {L:List zc} {T:List jI} {C:List zc} {L':List zc} {T':List jI} {C':List zc} (h:xD a0 L T C=true) (h':xD a0 L' T' C'=true) :
  ∃ b:Nat,b<=24∧TopV (yg L T C) (b:Int) ∧
   ((vV a0 L T C L' T' C'=some ([],[],false,[])∧∃ x,ZM (yg L' T' C') x∧23<x+(b:Int)) ∨
    (vV a0 L T C L' T' C'=some (ju (b:Int) L',T'.map (c5 (upC (b:Int))),true,ju (b:Int) C')∧∀ x,ZM (yg L' T' C') x->x+(b:Int)<=23)):=by
 obtain⟨ws,h1,h2,h3⟩:=YS hs h;obtain⟨ws',h1',h2',h3'⟩:=YS hs h';obtain⟨-,l1,l2,l3,l4,l5,l6,-⟩:=zn h';have hsh:∀ b:Nat,b<=24->zH L' T' C' (b:Int)=some (ju (b:Int) L',T'.map (c5 (upC (b:Int))),ju (b:Int) C'):=fun b hb =>
  JE (by omega) (kE hs l4) (Vr hs l5) (kE hs l6) (by omega) (by omega) (by omega)
 -- the second half
 have second:∀ b:Nat,b<=24->∃ o:Option ApR,((qH a0 L' T' C').bind fun r17 =>
   cond (decide (((af r17.2:Nat):Int)>0))
   ((inR (ag .i64 (((af r17.2:Nat):Int) - 1)) (af r17.2)).bind fun k18 =>
    (r17.2[k18]?).bind fun x19 =>
    cond (decide ((ag .i64 (x19+(b:Int)))>23))
    (some (([]:jQ),([]:jR),false,([]:jQ)))
    ((zH L' T' C' (b:Int)).bind fun r20 =>
     some (r20.1,r20.2.1,true,r20.2.2)))
   ((zH L' T' C' (b:Int)).bind fun r21 =>
    some (r21.1,r21.2.1,true,r21.2.2)))=o∧((o=some ([],[],false,[])∧∃ x,ZM (yg L' T' C') x∧23<x+(b:Int)) ∨
    (o=some (ju (b:Int) L',T'.map (c5 (upC (b:Int))),true,ju (b:Int) C')∧∀ x,ZM (yg L' T' C') x->x+(b:Int)<=23)):=by
  intro b hb;refine ⟨_,rfl,?_⟩;rw[h1',aa];simp only;rcases MI h2' h3' with ⟨rfl,h4⟩ | ⟨x,h4,h5,h6,h7⟩
  ·rw[show decide (((af ([]:List Int):Nat):Int)>0)=false from rfl,cond_false,hsh b hb]
   refine .inr ⟨rfl,fun x hx => ?_⟩;have:=h4.1 x hx;have:=(Yb h' hx).1;omega
  ·have hvx:ZM (yg L' T' C') x:=by
    rcases h7 with h7 | h7
    ·have:=(h3' x).1 (aI h4); exact this
    ·rwa [show x+1 - 1=x from by omega] at h7
   have hx:=Yb h' hvx;have hwl:ws'.length<=1000000∨True:=.inr trivial;have e1:ag .i64 (((af ws':Nat):Int) - 1)=((ws'.length - 1:Nat):Int)∨ws'.length>1000000:=by
    rcases bD 1000000 ws'.length with h8 | h8
    ·exact .inr h8
    ·left; rw[zp]<;>omega
   have hlen:ws'.length<=24:=by
    -- numbers below 24 that rise
    have key:∀(ys:List Int) (m:Int),Rise ys->(∀ y∈ys,m<=y∧y<24)->(ys.length:Int)<=24 - m∨ys=[]:=by
     intro ys
     induction ys with
     | nil=>intro m _ _; exact .inr rfl
     | cons y ys ih =>
      intro m hr hy;have hr:=cy.1 hr;have hy0:=hy y (aj ..);rcases ih (y+1) hr.2 (fun z hz=>⟨by have:=hr.1 z hz; omega,(hy z (ai _ hz)).2⟩) with h8 | h8
      ·left; rw[ak]; omega
      ·subst h8; left; simp; omega
    rcases key ws' 0 h2' fun y hy=>Yb h' ((h3' y).1 hy) with h8 | h8
    ·omega
    ·rw[h8]; simp
   have e1:ag .i64 (((af ws':Nat):Int) - 1)=((ws'.length - 1:Nat):Int):=by rw[zp]<;>omega
   rw[decide_eq_true (show ((af ws':Nat):Int)>0 by omega),cond_true,e1,yN (by omega),aa,h4,aa]
   have e2:ag .i64 (x+(b:Int))=x+(b:Int):=by rw[zp]<;>omega
   simp only[e2];by_cases hf:x+(b:Int)>23
   ·rw[decide_eq_true hf,cond_true];exact .inl ⟨rfl,x,hvx,by omega⟩
   ·rw[decide_eq_false hf,cond_false,hsh b hb];refine .inr ⟨rfl,fun y hy => ?_⟩;have:=h6 y hy;omega
 unfold vV;rw[h1,aa];simp only;rcases MI h2 h3 with ⟨rfl,h4⟩ | ⟨x,h4,h5,h6⟩
 ·rw[show decide (((af ([]:List Int):Nat):Int)>0)=false from rfl,cond_false]
  obtain⟨o,h8,h9⟩:=second 0 (by omega)
  rw[show ((0:Nat):Int)=0 from rfl] at h8 h9
  refine ⟨0,by omega,h4,?_⟩
  have h8':=h8;rw[show ((0:Nat):Int)=0 from rfl]
  refine h9.imp (fun h=>⟨?_,h.2⟩) fun h=>⟨?_,h.2⟩
  ·exact h8.trans h.1
  ·exact h8.trans h.1
 ·have hvx:ZM (yg L T C) x:=(h3 x).1 (aI h4);have hx:=Yb h hvx;have hlen:ws.length<=24:=by
   have key:∀(ys:List Int) (m:Int),Rise ys->(∀ y∈ys,m<=y∧y<24)->(ys.length:Int)<=24 - m∨ys=[]:=by
    intro ys
    induction ys with
    | nil=>intro m _ _; exact .inr rfl
    | cons y ys ih =>
     intro m hr hy;have hr:=cy.1 hr;have hy0:=hy y (aj ..);rcases ih (y+1) hr.2 (fun z hz=>⟨by have:=hr.1 z hz; omega,(hy z (ai _ hz)).2⟩) with h8 | h8
     ·left; rw[ak]; omega
     ·subst h8; left; simp; omega
   rcases key ws 0 h2 fun y hy=>Yb h ((h3 y).1 hy) with h8 | h8
   ·omega
   ·rw[h8]; simp
  have e1:ag .i64 (((af ws:Nat):Int) - 1)=((ws.length - 1:Nat):Int):=by rw[zp]<;>omega
  rw[decide_eq_true (show ((af ws:Nat):Int)>0 by omega),cond_true,e1,yN (by omega),aa,h4,aa]
  have e2:ag .i64 (x+1)=(((x+1).toNat:Nat):Int):=by rw[zp]<;>omega
  rw[e2];obtain⟨o,h8,h9⟩:=second (x+1).toNat (by omega)
  refine ⟨(x+1).toNat,by omega,by rw[cG (show (0:Int)<=x+1 by omega)]; exact h6,?_⟩
  refine h9.imp (fun h=>⟨?_,h.2⟩) fun h=>⟨?_,h.2⟩
  ·exact h8.trans h.1
  ·exact h8.trans h.1
abbrev Vf:=List zc×List jI×Bool×Int×List zc
def vN (k:Int):Option Vf:=some ([],[],false,k,[])
theorem Ua {α β:Type} (f:α->β) {xs:List α} {i:Int} {x:α} (h:gx xs i=some x):gx (xs.map f) i=some (f x):=by
 unfold gx at h ⊢;cases hd:decide (0<=i) with
 | false=>rw[hd] at h; cases h
 | true =>
  rw[hd,cond_true] at h;rw[cond_true,List.getElem?_map,h];rfl
theorem rL {α:Type} {xs:List α} {i:Int} {x:α} (h:gx xs i=some x):x∈xs:=by
 unfold gx at h;cases hd:decide (0<=i) with
 | false=>rw[hd] at h; cases h
 | true =>
  rw[hd,cond_true] at h;exact aI h
def Cds (r:List Int):Prop:=r.length<=1000∧∀ c∈r,-24<=c∧c<=1000000
theorem Cds.near {r:List Int} (h:Cds r):tV r:=⟨h.1,fun c hc=>by have:=h.2 c hc; omega⟩
theorem jm {a0:List zg} (hs:SignOk a0) {L:List zc} {T:List jI} {C:List zc} (h:xD a0 L T C=true):∀ r∈yg L T C,Cds r:=by
 intro r hr;have h1:=KD h r hr;obtain⟨-,-,-,-,h4,h5,h6,-⟩:=zn h;have h2:tV r:=by
  unfold yg at hr;rcases aJ.1 hr with hr | hr
  ·rcases aJ.1 hr with hr | hr
   ·obtain⟨l,hl,rfl⟩:=aY.1 hr; exact kE hs h4 l hl
   ·obtain⟨l,hl,rfl⟩:=aY.1 hr; exact kE hs h6 l hl
  ·exact Vr hs h5 r hr
 exact ⟨h2.1,fun c hc=>⟨h1.2 c hc,(h2.2 c hc).2⟩⟩
theorem SJ {b:Nat} {r:List Int} (h:Cds r) (hb:∀ x,HQ r x->x+(b:Int)<=23):Cds (r.map (upC (b:Int))):=by
 refine ⟨by rw[aP]; exact h.1,fun c hc => ?_⟩
 obtain⟨d,hd,rfl⟩:=aY.1 hc;have h1:=h.2 d hd;unfold upC;by_cases h0:d<0
 ·have:=hb (-1 - d) ⟨d,hd,h0,rfl⟩;rw[decide_eq_true h0,cond_true]; omega
 ·rw[decide_eq_false h0,cond_false]; omega
theorem LD {a0:List zg} {b:Nat} {ts:List Tm} (h:okR a0 24 ts) (hb:∀ k:Nat,Zm k ts->k+b<24):okR a0 24 (ts.map (Tm.up b)):=by
 have e:ts.map (Tm.up b)=ve (fun n=>Tm.v (n+b)) ts:=by rw[QI]; rfl
 rw[e];exact IK ts h fun x hx=>hb x hx
theorem Ec (b:Nat) (c:Nat) (ts:List Tm):((c:Int)::za ts).map (upC (b:Int))=(c:Int)::za (ts.map (Tm.up b)):=by
 rw[aM,IV];unfold upC;rw[decide_eq_false (show ¬((c:Int)<0) by omega)]
 rfl
theorem yE {L:List zc} {T:List jI} {C:List zc} {l:zc} (h:l∈L):l.2∈yg L T C:=by
 unfold yg;exact bN _ (bN _ (bi h))
theorem qC {L:List zc} {T:List jI} {C:List zc} {l:zc} (h:l∈C):l.2∈yg L T C:=by
 unfold yg;exact bN _ (bX _ (bi h))
theorem qn {L:List zc} {T:List jI} {C:List zc} {r:List Int} (h:r∈T):r∈yg L T C:=by
 unfold yg;exact bX _ h
theorem D0 {σ:Sb} (hsh:qT σ (aK 24)=true) {L:List zc} {T:List jI} {C:List zc} (hL:∀ l∈L,Cds l.2) (hT:∀ r∈T,Cds r) (hC:∀ l∈C,Cds l.2) (h1:L.length<=1000) (h2:T.length<=1000) (h3:C.length<=1000) :
  rU (tn σ) L T C=some (ug σ L,T.map (tG σ),ug σ C):=by
 rw[I4 (Q9 hsh) (fun l hl=>(hL l hl).near) (fun r hr=>(hT r hr).near) (fun l hl=>(hC l hl).near) h1 h2 h3,
  Kf fun l hl c hc=>((hL l hl).2 c hc).1,Kf fun l hl c hc=>((hC l hl).2 c hc).1,EL fun r hr c hc=>((hT r hr).2 c hc).1]
def zeS (i j:Int) (b:Nat) (L L':List zc):List zc:=zv i L 0++zv j (ju (b:Int) L') 0
def IE (b:Nat) (T T':List jI):List jI:=T++T'.map (c5 (upC (b:Int)))
def IM (b:Nat) (C C':List zc):List zc:=C++ju (b:Int) C'
def ZE (a0:List zg) (σ:Sb) (L:List zc) (T:List jI) (C:List zc) (k:Int):Option Vf :=
 cond (xD a0 (ug σ L) (T.map (tG σ)) (ug σ C)) (some ((tX (ug σ L) (T.map (tG σ)) (ug σ C)).1,(tX (ug σ L) (T.map (tG σ)) (ug σ C)).2.1,true,0,(tX (ug σ L) (T.map (tG σ)) (ug σ C)).2.2)) (vN k)
theorem V2 {a0:List zg} (hs:SignOk a0) {L:List zc} {T:List jI} {C:List zc} {L':List zc} {T':List jI} {C':List zc} (h:xD a0 L T C=true) (h':xD a0 L' T' C'=true) {i j:Int} {n n':Bool} {A A':List Int}
  (hi:gx L i=some (n,A)) (hj:gx L' j=some (n',A')) :
  ((n=n'∨gx A 0≠gx A' 0)∧xI a0 L T C i L' T' C' j=vN 0) ∨
  (n≠n'∧∃(b c:Nat) (ts us:List Tm),b<=24∧TopV (yg L T C) (b:Int)∧A=(c:Int)::za ts∧A'=(c:Int)::za us∧okR a0 24 ts∧okR a0 24 us∧ts.length=us.length ∧
   ((xI a0 L T C i L' T' C' j=vN 1301∧∃ x,ZM (yg L' T' C') x∧23<x+(b:Int)) ∨
    ((∀ x,ZM (yg L' T' C') x->x+(b:Int)<=23) ∧
    ((xI a0 L T C i L' T' C' j=vN 0∧∀ θ,¬ Sol θ (ts.zip (us.map (Tm.up b)))) ∨
     ∃ σ,Mgu σ (ts.zip (us.map (Tm.up b)))∧(∀ x,x<24->(σ x).ok a0 24) ∧
      ((qT σ (aK 24)=false∧xI a0 L T C i L' T' C' j=vN 1302) ∨
      (qT σ (aK 24)=true∧xI a0 L T C i L' T' C' j=ZE a0 σ (zeS i j b L L') (IE b T T') (IM b C C') 1302)))))):=by
 obtain⟨hsb,l1,l2,l3,l4,l5,l6,-⟩:=zn h;obtain⟨-,l1',l2',l3',l4',l5',l6',-⟩:=zn h';have hA:=aC.1 l4 (n,A) (rL hi);have hA':=aC.1 l4' (n',A') (rL hj);obtain⟨c,ts,e,rfl,ho,he,-,hlen,hl48,-⟩:=xP hA;obtain⟨c',us,e',rfl,ho',he',-,hlen',hl48',-⟩:=xP hA';unfold xI;rw[hi,aa,hj,aa];simp only[aa];by_cases hn:n=n'
 ·subst hn;rw[show (n==n)=true from by simp,cond_true]
  exact .inl ⟨.inl rfl,rfl⟩
 ·rw[show (n==n')=false from by simp [hn],cond_false]
  simp only[yc,aB,aa];by_cases hc:c=c'
  ·subst hc;rw[show ((c:Int) != (c:Int))=false from by simp,cond_false]
   have hll:ts.length=us.length:=by
    rw[he] at he'; injection he' with he'; subst he';omega
   refine .inr ⟨hn,?_⟩;obtain⟨b,hb,htop,hap⟩:=apart_spec hs h h';refine ⟨b,c,ts,us,hb,htop,rfl,rfl,ho,ho',hll,?_⟩;rcases hap with ⟨hap,hfar⟩ | ⟨hap,hnear⟩
   ·rw[hap];exact .inl ⟨rfl,hfar⟩
   ·rw[hap];simp only[aa,ay,cond_false];refine .inr ⟨hnear,?_⟩;have hj2:gx (ju (b:Int) L') j=some (n',((c:Int)::za us).map (upC (b:Int))):=Ua _ hj;rw[hj2];simp only[wB,aa];rw[Ec,wB];simp only[aa];have hvar:∀ k:Nat,Zm k us->k+b<24:=fun k hk=>by
     have:=hnear (k:Int) ⟨_,yE (rL hj),by
      obtain⟨c0,h1,h2,h3⟩:=kN.2 ⟨k,rfl,hk⟩;exact ⟨c0,ai _ h1,h2,h3⟩⟩
     omega
    have hlu:(za (us.map (Tm.up b))).length<=48:=by rw[← IV,aP]; exact hl48'
    rcases Zf hs (xs:=za ts) (ys:=za (us.map (Tm.up b))) rfl rfl ho (LD ho' hvar) hsb hl48 hlu with ⟨hu,hno⟩ | ⟨-,σ,hm,hok,hu⟩
    ·rw[hu];refine .inl ⟨rfl,?_⟩;rcases hno with hno | hno
     ·rw[aP] at hno; exact absurd hll hno
     ·exact hno
    ·rw[hu];refine .inr ⟨σ,hm,hok,?_⟩;cases hsh:qT σ (aK 24) with
     | false=>exact .inl ⟨rfl,rfl⟩
     | true =>
      refine .inr ⟨rfl,?_⟩;simp only[cond_true,aa,show ((0:Int) != 0)=false from rfl,cond_false,ay]
      have hul:(ju (b:Int) L').length=L'.length:=by simp [ju]
      have hucl:(ju (b:Int) C').length=C'.length:=by simp [ju]
      rw[vC i j (by omega) (by omega) (by omega) (by omega) (by simp; omega) (by omega),aa]
      simp only;have hcd:=jm hs h;have hcd':=jm hs h';have hwl:=tF i L 0;have hwl':=tF j (ju (b:Int) L') 0;have hup:∀ r∈yg L' T' C',Cds (r.map (upC (b:Int))):=fun r hr=>SJ (hcd' r hr) fun x hx=>hnear x ⟨r,hr,hx⟩;have hupl:∀ ls:List zc,(∀ l∈ls,l.2∈yg L' T' C')->∀ l∈ju (b:Int) ls,Cds l.2:=fun ls hls l hl=>by
       obtain⟨l0,h0,rfl⟩:=aY.1 hl;exact hup _ (hls l0 h0)
      rw[D0 hsh (fun l hl => ?_) (fun r hr => ?_) (fun l hl => ?_) (by rw[am]; omega) (by rw[am,aP]; omega) (by rw[am]; omega),aa,qO,aa]
      ·unfold ZE zeS IE IM;cases hmy:xD a0 (ug σ (zv i L 0++zv j (ju (b:Int) L') 0)) ((T++T'.map (c5 (upC (b:Int)))).map (tG σ)) (ug σ (C++ju (b:Int) C')) with
       | true=>rfl
       | false=>rfl
      ·rcases aJ.1 hl with hl | hl
       ·exact hcd _ (yE (v7 L 0 hl))
       ·exact hupl L' (fun l hl=>yE hl) l (v7 _ 0 hl)
      ·rcases aJ.1 hr with hr | hr
       ·exact hcd _ (qn hr)
       ·obtain⟨r0,h0,rfl⟩:=aY.1 hr;exact hup _ (qn h0)
      ·rcases aJ.1 hl with hl | hl
       ·exact hcd _ (qC hl)
       ·exact hupl C' (fun l hl=>qC hl) l hl
  ·rw[show ((c:Int) != (c':Int))=true from by simp; omega,cond_true]
   refine .inl ⟨.inr ?_,rfl⟩;intro hcc;injection hcc with hcc;omega
theorem u3 {a0:List zg}:∀(n:Nat) (ts us:List Tm),xK ts<=n->okR a0 24 ts->okR a0 24 us->za ts=za us->ts=us:=by
 intro n
 induction n with
 | zero =>
  intro ts us hn _ _ he;cases ts with
  | cons t ts=>have:=t.size_pos; simp only[xK] at hn; omega
  | nil =>
   cases us with
   | nil=>rfl
   | cons u us =>
    have:=congrArg af he;rw[tO,tO] at this;have:=u.size_pos;simp only[xK] at *; omega
 | succ n ih =>
  intro ts us hn ho ho' he;cases ts with
  | nil =>
   cases us with
   | nil=>rfl
   | cons u us =>
    have:=congrArg af he;rw[tO,tO] at this;have:=u.size_pos;simp only[xK] at *; omega
  | cons t ts =>
   cases us with
   | nil =>
    have:=congrArg af he;rw[tO,tO] at this;have:=t.size_pos;simp only[xK] at *; omega
   | cons u us =>
    have he:t.codes++za ts=u.codes++za us:=he;cases t with
    | v k =>
     cases u with
     | v k' =>
      have he:(-1 - (k:Int))::za ts=(-1 - (k':Int))::za us:=he;injection he with h1 h2;have:k=k':=by omega
      rw[this,ih ts us (by simp only[xK,Tm.size] at hn; omega) ho.2 ho'.2 h2]
     | f c as =>
      have he:(-1 - (k:Int))::za ts=(c:Int)::(za as++za us):=he;injection he with h1 h2;omega
    | f c as =>
     cases u with
     | v k' =>
      have he:(c:Int)::(za as++za ts)=(-1 - (k':Int))::za us:=he;injection he with h1 h2;omega
     | f c' bs =>
      have he:(c:Int)::(za as++za ts)=(c':Int)::(za bs++za us):=he;injection he with h1 h2;have hc:c=c':=by omega
      subst hc;rw[← uV,← uV] at h2;have ha:=ho.1.1;have hb:=ho'.1.1;rw[ha] at hb;injection hb with hb;have:=ih (as++ts) (bs++us) (by rw[Jw]; simp only[xK,Tm.size] at hn; omega)
       (vI.2 fun t ht=>(aJ.1 ht).elim (vI.1 ho.1.2 t) (vI.1 ho.2 t))
       (vI.2 fun t ht=>(aJ.1 ht).elim (vI.1 ho'.1.2 t) (vI.1 ho'.2 t)) h2
      obtain⟨h3,h4⟩:=List.append_inj this hb;rw[h3,h4]
theorem YL (L:List zc) (T:List jI) (C:List zc) (i:Int):sd L T C i=some (z5 L i):=by
 unfold sd z5;by_cases h:i≥0
 ·rw[decide_eq_true h,cond_true,Bool.true_and]
 ·rw[decide_eq_false h,cond_false,Bool.false_and]
theorem Xs (a0:List zg) (L:List zc) (T:List jI) (C:List zc) (i:Int) (L':List zc) (T':List jI) (C':List zc) (j:Int) :
  sP a0 L T C i L' T' C' j=cond (xD a0 L T C&&xD a0 L' T' C'&&z5 L i&&z5 L' j) (xI a0 L T C i L' T' C' j) (vN 1300):=by
 unfold sP;rw[zD,aa,zD,aa,YL,aa,YL,aa];have eta:∀ o:Option Vf,(o.bind fun r=>some (r.1,r.2.1,r.2.2.1,r.2.2.2.1,r.2.2.2.2))=o:=fun o=>by cases o<;>rfl
 cases xD a0 L T C with
 | false=>rfl
 | true =>
  cases xD a0 L' T' C' with
  | false=>rfl
  | true =>
   cases z5 L i with
   | false=>rfl
   | true =>
    cases z5 L' j with
    | false=>rfl
    | true=>exact eta _
theorem FT (a0:List zg) (n:Bool) (A:List Int):sY a0 n A=some (qN a0 A):=by
 unfold sY;rw[uB];rfl
theorem ID {α:Type} [DecidableEq α]:(a b:List α)->a.Nodup->(∀ x∈a,x∈b)->a.length<=b.length
 | [],_,_,_=>bI _
 | x::a,b,hn,hs=>by
  have hn:=List.nodup_cons.1 hn;have hx:=hs x (aj ..);have h1:∀ y∈a,y∈b.erase x:=fun y hy=>by
   have hne:y≠x:=fun e=>hn.1 (e▸hy);exact (List.mem_erase_of_ne hne).2 (hs y (ai _ hy))
  have h2:=ID a (b.erase x) hn.2 h1;rw[List.length_erase_of_mem hx] at h2;have:=List.length_pos_of_mem hx;simp only[ak];omega
theorem uh {L:List zc} {i:Int} (h:z5 L i=true):∃ l,gx L i=some l:=by
 unfold z5 at h;simp only[ax,decide_eq_true_eq] at h;obtain⟨l,h1,-⟩:=JZ (xs:=L) h.1 h.2;exact ⟨l,h1⟩
def Zv (rec:(jI×Int×Int)->Option (Unit⊕Bool)) (x:(jI×Int×Int)):Option (Unit⊕Bool) :=
 cond (decide (x.2.2<((af x.1:Nat):Int)))
 ((gx x.1 x.2.2).bind fun e2 =>
  cond (e2==(ag .i64 ((-1) - x.2.1)))
  (some (aE true))
  (rec (x.1,x.2.1,(ag .i64 (x.2.2+1)))))
 (some (aT ()))
def Aw (a0:jI) (a1:Int):Option Bool :=
 ((lp Zv ze) (a0,a1,0)).bind fun r6 =>
 zR r6
 (fun _z7=>some false)
 (fun z8=>some z8)
def uu (rec:(jI×Int×jI)->Option jI) (x:(jI×Int×jI)):Option jI :=
 cond (decide (x.2.1<=23))
 ((Aw x.1 x.2.1).bind fun r3 =>
  cond r3
  (cond (yp (af x.2.2+af ([x.2.1]:List Int)) 8)
   (rec (x.1,(ag .i64 (x.2.1+1)),(x.2.2++([x.2.1]:List Int))))
   (none))
  (rec (x.1,(ag .i64 (x.2.1+1)),x.2.2)))
 (some x.2.2)
def Ja (a0:jI):Option jI :=
 ((lp uu ze) (a0,0,([]:jI))).bind fun r5 =>
 some r5
def tm (rec:(jR×Int×jI)->Option jI) (x:(jR×Int×jI)):Option jI :=
 cond (decide (x.2.1<((af x.1:Nat):Int)))
 ((gx x.1 x.2.1).bind fun e4 =>
  cond (yp (af x.2.2+af e4) 8)
  (rec (x.1,(ag .i64 (x.2.1+1)),(x.2.2++e4)))
  (none))
 (some x.2.2)
def jh (a0:jQ) (a1:jR) (a2:jQ):Option jI :=
 (Qc a0 a1 a2).bind fun r7 =>
 ((lp tm ze) (r7,0,([]:jI))).bind fun r8 =>
 (Ja r8).bind fun r9 =>
 some r9
def Wl (rec:(jI×Int×Int×Int×jI)->Option Int) (x:(jI×Int×Int×Int×jI)):Option Int :=
 cond (decide (x.2.2.1<((af x.1:Nat):Int)))
 ((gx x.1 x.2.2.1).bind fun e2 =>
  rec (x.1,(ag .u64 ((ag .u64 ((ag .u64 (x.2.1*5))+(ag .u64 e2)))+3)),(ag .i64 (x.2.2.1+1)),x.2.2.2.1,x.2.2.2.2))
 (some x.2.1)
def Kw (a0:Int) (a1:jI) (a2:Int) (a3:jI):Option Int :=
 cond (((af a1:Nat):Int)==0)
 (some 0)
 (((lp Wl ze) (a3,(ag .u64 (ag .i64 ((ag .i64 (a2*7))+1))),0,a0,a1)).bind fun r6 =>
  cond (decide ((ag .u64 ((af a1:Nat):Int))=0))
  (none)
  ((gx a1 (ag .i64 (dx r6 (ag .u64 ((af a1:Nat):Int))))).bind fun e7 =>
   (zg2 .and .i64 e7 255).bind fun b8 =>
   some b8))
def vU (s1:Int):List Int->Option (Unit⊕Bool)
 | []=>some (aT ())
 | e::es =>
  cond (e==(ag .i64 ((-1) - s1)))
  (some (aE true))
  (vU s1 es)
theorem WW (s0:jI) (s1:Int) (hl:af s0<=maxLen):lp Zv ze (s0,s1,0)=vU s1 s0:=tw Zv (fun i=>(s0,s1,i)) (fun es i=>vU s1 es) hl (fun r i h=>by unfold Zv vU; simp only[h,cond_false]) (fun r i e es h g w k=>by unfold Zv vU; simp only[h,cond_true,g,aa,w,k])
def qi:List jI->jI->Option jI
 | [],s2=>some s2
 | e::es,s2 =>
  cond (yp (af s2+af e) 8)
  (qi es (s2++e))
  (none)
theorem QO (s0:jR) (s2:jI) (hl:af s0<=maxLen):lp tm ze (s0,0,s2)=qi s0 s2:=xR tm (fun i s2=>(s0,i,s2)) (fun es i s2=>qi es s2) hl (fun r i s2 h=>by unfold tm qi; simp only[h,cond_false]) (fun r i s2 e es h g w k=>by unfold tm qi; simp only[h,cond_true,g,aa,w,k]) s2
def Da (nums:List Int):Prop:=nums≠[]∧nums.length<=9223372036854775807
theorem Gc (n:Int):0<=ag .u64 n∧ag .u64 n<18446744073709551616:=by
 simp [ag,eP,dm];omega
def Rv (m:Int) (nums:List Int) (c:Int) (xs:List Int):Int:=(Kw m nums c xs).getD 0
section
variable (m:Int) (nums:List Int)
mutual
def IY (env:Nat->Int):Tm->Int
 | .v n=>env n
 | .f c ts=>dx (Rv m nums (c:Int) (BX env ts)) m
def BX (env:Nat->Int):List Tm->List Int
 | []=>[]
 | t::ts=>IY env t::BX env ts
end
mutual
theorem RQ (env:Nat->Int) (s:Sb):(t:Tm)->IY m nums env (t.sub s)=IY m nums (fun n=>IY m nums env (s n)) t
 | .v n=>rfl
 | .f c ts=>by
  show dx (Rv m nums (c:Int) (BX m nums env (ve s ts))) m=_;rw[E5 env s ts];rfl
theorem E5 (env:Nat->Int) (s:Sb):(ts:List Tm)->BX m nums env (ve s ts)=BX m nums (fun n=>IY m nums env (s n)) ts
 | []=>rfl
 | t::ts=>by
  show IY m nums env (t.sub s)::BX m nums env (ve s ts)=_;rw[RQ env s t,E5 env s ts];rfl
end
mutual
theorem PY {e e':Nat->Int}:(t:Tm)->(∀ x,t.has x->e x=e' x)->IY m nums e t=IY m nums e' t
 | .v n,h=>h n rfl
 | .f c ts,h=>by
  show dx (Rv m nums (c:Int) (BX m nums e ts)) m=dx (Rv m nums (c:Int) (BX m nums e' ts)) m;rw[EO ts h]
theorem EO {e e':Nat->Int}:(ts:List Tm)->(∀ x,Zm x ts->e x=e' x)->BX m nums e ts=BX m nums e' ts
 | [],_=>rfl
 | t::ts,h=>by
  show IY m nums e t::BX m nums e ts=IY m nums e' t::BX m nums e' ts;rw[PY t fun x hx=>h x (.inl hx),EO ts fun x hx=>h x (.inr hx)]
end
end
structure EnvOk (m:Int) (E:List Int):Prop where
 len:E.length=24
 rng:∀ x∈E,0<=x∧x<m
def zfF (E:List Int) (n:Nat):Int:=E.getD n 0
theorem EnvOk.get {m:Int} {E:List Int} (h:EnvOk m E) {n:Nat} (hn:n<24):E[n]? = some (zfF E n):=by
 unfold zfF;rw[aG,al (by rw[h.len]; exact hn)]
 rfl
theorem EnvOk.val {m:Int} {E:List Int} (h:EnvOk m E) {n:Nat} (hn:n<24):0<=zfF E n∧zfF E n<m:=h.rng _ (aI (h.get hn))
theorem Ea {a0:List zg} (hs:SignOk a0) {c q:Nat} (h:uX a0 (c:Int)=some q):∃ e,gx a0 (c:Int)=some e∧e.2.2.1=(q:Int):=by
 unfold uX at h;rw[decide_eq_false (show ¬(c:Int)<0 by omega),cond_false,bl] at h
 cases he:a0[c]? with
 | none=>rw[he] at h; cases h
 | some e =>
  rw[he] at h;simp only at h;refine ⟨e,by rw[yH,he],?_⟩
  have:=hs.at he;cases hk:(e.2.1==0) with
  | true=>rw[hk] at h; cases h
  | false=>rw[hk] at h; injection h with h; omega
abbrev J3:=Bool×Nat×List Tm
def cl (l:J3):zc:=(l.1,(l.2.1:Int)::za l.2.2)
def WfL (a0:List zg) (l:J3):Prop:=okR a0 24 l.2.2∧(∃ e,a0[l.2.1]? = some e∧e.2.1=0∧((l.2.2.length:Nat):Int)=e.2.2.1)∧(za l.2.2).length<=48
def WfR (a0:List zg) (ts:List Tm):Prop:=okR a0 24 ts∧(za ts).length<=48
theorem JQ {a0:List zg}:(ls:List zc)->sN a0 ls=true->∃ lt:List J3,ls=lt.map cl∧∀ l∈lt,WfL a0 l
 | [],_=>⟨[],rfl,fun _ h=>(nomatch h)⟩
 | l::ls,h=>by
  unfold sN at h;rw[List.all_cons,ax] at h;obtain⟨lt,h1,h2⟩:=JQ ls h.2;obtain⟨c,ts,e,h3,h4,h5,h6,h7,h8,-⟩:=xP h.1;refine ⟨(l.1,c,ts)::lt,by rw[aM,← h1]; show l::ls=(l.1,(c:Int)::za ts)::ls; rw[← h3],fun x hx => ?_⟩
  rcases aD.1 hx with rfl | hx
  ·exact ⟨h4,⟨e,h5,h6,h7⟩,h8⟩
  ·exact h2 x hx
theorem OX {a0:List zg} {rs:List jI} (h:ZZ a0 rs=true):∃ rt:List (List Tm),rs=rt.map za∧∀ r∈rt,WfR a0 r:=by
 obtain⟨n,hn⟩:=WJ h;clear h
 induction rs with
 | nil=>exact ⟨[],rfl,fun _ h=>(nomatch h)⟩
 | cons r rs ih =>
  obtain⟨rt,h1,h2⟩:=ih fun q hq=>hn q (ai _ hq);obtain⟨ps,hc,-,hl,-⟩:=JM (hn r (aj ..));obtain⟨ts,h3,-,h4⟩:=TG hc;refine ⟨ts::rt,by rw[aM,← h1,← h4],fun x hx => ?_⟩
  rcases aD.1 hx with rfl | hx
  ·exact ⟨h3,by rw[← h4]; exact hl⟩
  ·exact h2 x hx
theorem RK {a0:List zg} {L:List zc} {T:List jI} {C:List zc} (h:xD a0 L T C=true):∃(Lt:List J3) (Tt:List (List Tm)) (Ct:List J3),L=Lt.map cl∧T=Tt.map za∧C=Ct.map cl∧(∀ l∈Lt,WfL a0 l)∧(∀ r∈Tt,WfR a0 r)∧∀ l∈Ct,WfL a0 l:=by
 obtain⟨-,-,-,-,h4,h5,h6,-⟩:=zn h;obtain⟨Lt,a1,a2⟩:=JQ L h4;obtain⟨Tt,b1,b2⟩:=OX h5;obtain⟨Ct,c1,c2⟩:=JQ C h6;exact ⟨Lt,Tt,Ct,a1,b1,c1,a2,b2,c2⟩
section
variable {m:Int} (hm:0<m) {nums:List Int} (hn:Da nums) {a0:List zg} (hs:SignOk a0) {E:List Int} (hE:EnvOk m E)
include hm hn hs hE
end
theorem EnvOk.set {m:Int} {E:List Int} (h:EnvOk m E) {v:Nat} {x:Int} (hx:0<=x∧x<m):EnvOk m (E.set v x) where
 len:=by rw[cg]; exact h.len
 rng:=fun y hy=>by
  rcases List.mem_or_eq_of_mem_set hy with hy | hy
  ·exact h.rng y hy
  ·rw[hy]; exact hx
theorem zeZ (v:Nat) (hv:v<24):(es:List Int)->vU (v:Int) es=some (cond (decide (-1 - (v:Int)∈es)) (.inr true) (.inl ()))
 | []=>rfl
 | e::es=>by
  unfold vU;have w:ag .i64 ((-1) - (v:Int)) = -1 - (v:Int):=by rw[zp]<;>omega
  rw[w,zeZ v hv es];by_cases he:e = -1 - (v:Int)
  ·rw[show (e == -1 - (v:Int))=true from by simp [he],decide_eq_true (show -1 - (v:Int)∈e::es by rw[he]; exact aj ..)]
   rfl
  ·rw[show (e == -1 - (v:Int))=false from by simp [he],cond_false]
   by_cases hm:(-1 - (v:Int))∈es
   ·rw[decide_eq_true hm,decide_eq_true (ai _ hm)]
   ·rw[decide_eq_false hm,decide_eq_false fun h=>(aD.1 h).elim (fun h=>he h.symm) hm]
theorem Hu {v:Nat} (hv:v<24) {r:List Int} (hl:r.length<=1000000):Aw r (v:Int)=some (decide (-1 - (v:Int)∈r)):=by
 unfold Aw;rw[WW _ _ (by unfold maxLen; omega),zeZ v hv,aa]
 cases decide (-1 - (v:Int)∈r)<;>rfl
def zcp (r:List Int) (v:Nat):Bool:=decide (-1 - (v:Int)∈r)
theorem D1 {r:List Int} (hl:r.length<=1000000):∀(d v k:Nat) (out:List Int),24 - v=d->v<=24->d<k->out.length<=v ->
  lp uu k (r,(v:Int),out)=some (out++(((aK 24).drop v).filter (zcp r)).map fun v:Nat=>(v:Int)):=by
 intro d
 induction d with
 | zero =>
  intro v k out hd hv hk ho;obtain⟨k,rfl⟩:∃ k',k=k'+1:=⟨k - 1,by omega⟩
  rw[zu];generalize lp uu k=rec;unfold uu;have:v=24:=by omega
  subst this;rw[show (aK 24).drop 24=[] from rfl]
  simp
 | succ d ih =>
  intro v k out hd hv hk ho;obtain⟨k,rfl⟩:∃ k',k=k'+1:=⟨k - 1,by omega⟩
  rw[zu];have key:=fun out ho=>ih (v+1) k out (by omega) (by omega) (by omega) ho
  generalize lp uu k=rec at key ⊢;unfold uu;have w:ag .i64 ((v:Int)+1)=((v+1:Nat):Int):=by rw[zp]<;>omega
  have hdr:(aK 24).drop v=v::(aK 24).drop (v+1):=by
   rw[aX (by simp; omega)]
   simp
  simp only[decide_eq_true (show (v:Int)<=23 by omega),cond_true,Hu (show v<24 by omega) hl,aa,w]
  rw[hdr];by_cases hm:(-1 - (v:Int))∈r
  ·rw[decide_eq_true hm,cond_true,zk (by simp; omega),cond_true,key _ (by simp; omega)]
   have:zcp r v=true:=decide_eq_true hm;rw[db this];simp
  ·rw[decide_eq_false hm,cond_false,key _ (by omega)]
   have:¬(zcp r v=true):=by unfold zcp; rw[decide_eq_false hm]; simp
   rw[cO this]
theorem PG:(es:List jI)->(out:List Int)->out.length+zi es<=1000000->qi es out=some (out++es.flatten)
 | [],out,_=>by simp [qi]
 | e::es,out,h=>by
  rw[jg] at h;unfold qi;rw[zk (by omega),cond_true,PG es _ (by rw[am]; omega)]
  simp
def Xi (L:List zc) (T:List jI) (C:List zc):List Nat:=(aK 24).filter (zcp (L.map (·.2)++T++C.map (·.2)).flatten)
theorem KE (L:List zc) (T:List jI) (C:List zc):(Xi L T C).Nodup:=List.nodup_range.sublist List.filter_sublist
theorem Wt {L:List zc} {T:List jI} {C:List zc}:∀ v∈Xi L T C,v<24:=fun _v hv=>ci.1 (d6.1 hv).1
theorem Wf {L:List zc} {T:List jI} {C:List zc} {v:Nat} (hv:v<24):v∈Xi L T C↔ZM (yg L T C) (v:Int):=by
 unfold Xi zcp;rw[d6];simp only[ci,hv,true_and,decide_eq_true_eq,List.mem_flatten];constructor
 ·rintro⟨r,hr,hc⟩;refine ⟨r,?_,_,hc,by omega,by omega⟩
  unfold yg;simp only[aJ] at hr ⊢;rcases hr with (hr | hr) | hr
  ·exact .inl (.inl hr)
  ·exact .inr hr
  ·exact .inl (.inr hr)
 ·rintro⟨r,hr,c,hc,h0,he⟩;refine ⟨r,?_,by rw[show -1 - (v:Int)=c from by omega]; exact hc⟩
  unfold yg at hr;simp only[aJ] at hr ⊢;rcases hr with (hr | hr) | hr
  ·exact .inl (.inl hr)
  ·exact .inr hr
  ·exact .inl (.inr hr)
theorem j8 {L:List zc} {T:List jI} {C:List zc} (h1:L.length<=1000) (h2:T.length<=1000) (h3:C.length<=1000) (hl:zi (L.map (·.2))+zi T+zi (C.map (·.2))<=1000000) :
  jh L T C=some ((Xi L T C).map fun v:Nat=>(v:Int)):=by
 unfold jh;rw[Qn L T C h1 h2 h3,aa,QO _ _ (by simp; unfold maxLen; omega),PG _ _ (by rw[w9,w9]; simp; omega),aa]
 unfold Ja;have hf:((L.map (·.2)++T++C.map (·.2)).flatten).length<=1000000:=by
  rw[← So,w9,w9]; omega
 have:=D1 hf 24 0 ze [] rfl (by omega) (by unfold ze; omega) (by simp)
 rw[show ((0:Nat):Int)=0 from rfl,bM] at this
 simp only[bm] at this ⊢;rw[this];rfl
def TC (L:List J3) (T:List (List Tm)) (C:List J3) (x:Nat):Prop:=(∃ l∈L,Zm x l.2.2)∨(∃ r∈T,Zm x r)∨∃ l∈C,Zm x l.2.2
theorem IW {l:J3} {x:Nat}:HQ (cl l).2 (x:Int)↔Zm x l.2.2:=by
 constructor
 ·rintro⟨c,hc,h0,he⟩;rcases aD.1 hc with rfl | hc
  ·omega
  ·obtain⟨k,h1,h2⟩:=kN.1 ⟨c,hc,h0,he⟩;have:x=k:=by omega
   rw[this]; exact h2
 ·intro h;obtain⟨c,hc,h0,he⟩:=kN.2 ⟨x,rfl,h⟩;exact ⟨c,ai _ hc,h0,he⟩
theorem Jd {L:List J3} {T:List (List Tm)} {C:List J3} {x:Nat}:ZM (yg (L.map cl) (T.map za) (C.map cl)) (x:Int)↔TC L T C x:=by
 unfold yg TC;rw[tv,tv];constructor
 ·rintro ((⟨r,hr,h⟩ | ⟨r,hr,h⟩) | ⟨r,hr,h⟩)
  ·obtain⟨q,hq,rfl⟩:=aY.1 hr;obtain⟨l,hl,rfl⟩:=aY.1 hq;exact .inl ⟨l,hl,IW.1 h⟩
  ·obtain⟨q,hq,rfl⟩:=aY.1 hr;obtain⟨l,hl,rfl⟩:=aY.1 hq;exact .inr (.inr ⟨l,hl,IW.1 h⟩)
  ·obtain⟨l,hl,rfl⟩:=aY.1 hr;obtain⟨k,h1,h2⟩:=kN.1 h;have:x=k:=by omega
   exact .inr (.inl ⟨l,hl,by rw[this]; exact h2⟩)
 ·rintro (⟨l,hl,h⟩ | ⟨r,hr,h⟩ | ⟨l,hl,h⟩)
  ·exact .inl (.inl ⟨_,bi (bi hl),IW.2 h⟩)
  ·exact .inr ⟨_,bi hr,kN.2 ⟨x,rfl,h⟩⟩
  ·exact .inl (.inr ⟨_,bi (bi hl),IW.2 h⟩)
abbrev Ib:=List Int×Int
def rho (s:Ib) (v:Nat):Nat:=(s.1.getD v 0).toNat - 1
structure RenI (s:Ib):Prop where
 len:s.1.length=24
 rng:∀ v,0<=s.1.getD v 0∧s.1.getD v 0<=s.2
 inj:∀ v w,s.1.getD v 0=s.1.getD w 0->s.1.getD v 0≠0->v=w
 cnt:((s.1.countP (fun x=>x != 0):Nat):Int)=s.2
def ExtS (s s':Ib):Prop:=∀ v,s.1.getD v 0≠0->s'.1.getD v 0=s.1.getD v 0
theorem ExtS.refl (s:Ib):ExtS s s:=fun _ _=>rfl
theorem ExtS.trans {s t u:Ib} (h:ExtS s t) (h':ExtS t u):ExtS s u:=fun v hv=>(h' v (by rw[h v hv]; exact hv)).trans (h v hv)
theorem RenI.next {s:Ib} (h:RenI s):0<=s.2∧s.2<=24:=by
 have h1:=h.cnt;have h2:s.1.countP (fun x=>x != 0)<=s.1.length:=er;rw[h.len] at h2;omega
theorem RenI.rho_lt {s:Ib} (h:RenI s) {v:Nat} (_hv:s.1.getD v 0≠0):rho s v<24:=by
 have h1:=h.rng v;have h2:=h.next;unfold rho;omega
theorem RenI.rho_inj {s:Ib} (h:RenI s) {v w:Nat} (hv:s.1.getD v 0≠0) (hw:s.1.getD w 0≠0) (he:rho s v=rho s w):v=w:=by
 have h1:=h.rng v;have h2:=h.rng w;unfold rho at he;exact h.inj v w (by omega) hv
theorem zgR:RenI (az 24 (0:Int),0) where
 len:=by simp
 rng:=fun v=>by
  rw[aG,bJ];split<;>simp
 inj:=fun v w _ h=>by
  exfalso;apply h;rw[aG,bJ];split<;>rfl
 cnt:=by decide
theorem FX {xs:List Int} {v:Nat} {y:Int} (hv:xs[v]? = some 0) (hy:y≠0):(xs.set v y).countP (fun x=>x != 0)=xs.countP (fun x=>x != 0)+1:=by
 obtain⟨hx,he⟩:=au.1 hv;have h1:=bU v xs;have h2:xs.drop v=0::xs.drop (v+1):=by rw[aX hx,he]
 have h3:xs.set v y=xs.take v++y::xs.drop (v+1):=by rw[eh,if_pos hx]
 conv=>rhs; rw[← h1,h2]
 rw[h3];simp [fU,hy];omega
theorem ry {xs:List Int} {v w:Nat} {y:Int} (hv:v<xs.length):(xs.set v y).getD w 0=if w=v then y else xs.getD w 0:=by
 rw[aG,aG];by_cases h:w=v
 ·subst h; rw[bZ hv,if_pos rfl]; rfl
 ·rw[cw (dB h),if_neg h]
theorem I2 {s:Ib} (h:RenI s) {c:Int} (hc : -24<=c):RenI (Kl s c).2∧ExtS s (Kl s c).2∧(c<0->(Kl s c).2.1.getD (-1 - c).toNat 0≠0)∧∀ f,ExtS (Kl s c).2 f->[(Kl s c).1]=Yj (fun v=>.v (rho f v)) c:=by
 unfold Kl;by_cases h0:c≥0
 ·rw[decide_eq_true h0,cond_true];refine ⟨h,ExtS.refl s,fun h1=>by omega,fun f _ => ?_⟩
  unfold Yj;rw[if_neg (by omega)]
 ·rw[decide_eq_false h0,cond_false];have hv:(-1 - c).toNat<s.1.length:=by rw[h.len]; omega
  have hexp:∀ f:Ib,Yj (fun v=>.v (rho f v)) c=[-1 - ((rho f (-1 - c).toNat:Nat):Int)]:=fun f=>by
   unfold Yj;rw[if_pos (by omega)]
   rfl
  by_cases hz:s.1.getD (-1 - c).toNat 0=0
  ·rw[show (s.1.getD (-1 - c).toNat 0==0)=true from by rw[hz]; rfl,cond_true]
   have hn:=h.next;have hget:s.1[(-1 - c).toNat]? = some 0:=by
    rw[aG,al hv] at hz;rw[al hv];exact congrArg some hz
   refine ⟨⟨by simpa using h.len,fun v => ?_,fun v w he hnz => ?_,?_⟩,fun v hvz => ?_,fun _ => ?_,fun f hf => ?_⟩
   ·show 0<=(s.1.set _ _).getD v 0∧(s.1.set _ _).getD v 0<=s.2+1;rw[ry hv];have:=h.rng v;split<;>omega
   ·have he:(s.1.set (-1 - c).toNat (s.2+1)).getD v 0=(s.1.set (-1 - c).toNat (s.2+1)).getD w 0:=he;have hnz:(s.1.set (-1 - c).toNat (s.2+1)).getD v 0≠0:=hnz;rw[ry hv] at he hnz;rw[ry hv] at he;have h1:=h.rng v;have h2:=h.rng w;by_cases e1:v=(-1 - c).toNat
    ·rw[if_pos e1] at he hnz;by_cases e2:w=(-1 - c).toNat
     ·rw[e1,e2]
     ·rw[if_neg e2] at he; omega
    ·rw[if_neg e1] at he hnz;by_cases e2:w=(-1 - c).toNat
     ·rw[if_pos e2] at he; omega
     ·rw[if_neg e2] at he;exact h.inj v w he hnz
   ·show (((s.1.set (-1 - c).toNat (s.2+1)).countP (fun x=>x != 0):Nat):Int)=s.2+1;rw[FX hget (by omega),← h.cnt]
    omega
   ·show (s.1.set _ _).getD v 0=_;rw[ry hv];split
    ·rename_i e; rw[e,hz] at hvz; exact absurd rfl hvz
    ·rfl
   ·show (s.1.set _ _).getD _ 0≠0;rw[ry hv,if_pos rfl];omega
   ·rw[hexp];have hf2:=hf (-1 - c).toNat (by
     show (s.1.set _ _).getD _ 0≠0;rw[ry hv,if_pos rfl];omega)
    have hf2:f.1.getD (-1 - c).toNat 0=(s.1.set (-1 - c).toNat (s.2+1)).getD (-1 - c).toNat 0:=hf2;rw[ry hv,if_pos rfl] at hf2;unfold rho;rw[hf2];show [-(s.2+1)]=_
    congr 1
    omega
  ·rw[show (s.1.getD (-1 - c).toNat 0==0)=false from by simpa using hz,cond_false]
   refine ⟨h,ExtS.refl s,fun _=>hz,fun f hf => ?_⟩;rw[hexp];have hf2:f.1.getD (-1 - c).toNat 0=s.1.getD (-1 - c).toNat 0:=hf _ hz;have:=h.rng (-1 - c).toNat;unfold rho;rw[hf2];show [-(s.1.getD (-1 - c).toNat 0)]=_
   congr 1
   omega
theorem QV:(r:List Int)->{s:Ib}->RenI s->(∀ c∈r,-24<=c)->RenI (rZ s r).2∧ExtS s (rZ s r).2∧(∀ x,HQ r x->(rZ s r).2.1.getD x.toNat 0≠0)∧∀ f,ExtS (rZ s r).2 f->(rZ s r).1=tG (fun v=>.v (rho f v)) r
 | [],s,h,_=>⟨h,ExtS.refl s,fun x ⟨c,hc,_⟩=>(nomatch hc),fun _ _=>rfl⟩
 | c::r,s,h,hc=>by
  obtain⟨h1,h2,h3,h4⟩:=I2 h (hc c (aj ..));obtain⟨g1,g2,g3,g4⟩:=QV r h1 fun d hd=>hc d (ai _ hd);refine ⟨g1,h2.trans g2,fun x ⟨d,hd,hd0,hx⟩ => ?_,fun f hf => ?_⟩
  ·rcases aD.1 hd with rfl | hd
   ·subst hx;show (rZ (Kl s d).2 r).2.1.getD (-1 - d).toNat 0≠0;rw[g2 _ (h3 hd0)];exact h3 hd0
   ·exact g3 x ⟨d,hd,hd0,hx⟩
  ·have hf:ExtS (rZ (Kl s c).2 r).2 f:=hf;show (Kl s c).1::(rZ (Kl s c).2 r).1=_;unfold tG;rw[br,← h4 f (g2.trans hf),g4 f hf];rfl
theorem ZA:(ls:List zc)->{s:Ib}->RenI s->(∀ l∈ls,∀ c∈l.2,-24<=c)->RenI (vo s ls).2∧ExtS s (vo s ls).2∧(∀ x,ZM (ls.map (·.2)) x->(vo s ls).2.1.getD x.toNat 0≠0)∧∀ f,ExtS (vo s ls).2 f->(vo s ls).1=ug (fun v=>.v (rho f v)) ls
 | [],s,h,_=>⟨h,ExtS.refl s,fun x ⟨c,hc,_⟩=>(nomatch hc),fun _ _=>rfl⟩
 | l::ls,s,h,hc=>by
  obtain⟨h1,h2,h3,h4⟩:=QV l.2 h (hc l (aj ..));obtain⟨g1,g2,g3,g4⟩:=ZA ls h1 fun d hd=>hc d (ai _ hd);refine ⟨g1,h2.trans g2,fun x hx => ?_,fun f hf => ?_⟩
  ·rw[aM,WE] at hx;rcases hx with hx | hx
   ·show (vo (rZ s l.2).2 ls).2.1.getD x.toNat 0≠0;rw[g2 _ (h3 x hx)];exact h3 x hx
   ·exact g3 x hx
  ·have hf:ExtS (vo (rZ s l.2).2 ls).2 f:=hf;show (l.1,(rZ s l.2).1)::(vo (rZ s l.2).2 ls).1=_;rw[h4 f (g2.trans hf),g4 f hf];rfl
theorem Vc:(ls:List jI)->{s:Ib}->RenI s->(∀ l∈ls,∀ c∈l,-24<=c)->RenI (tW s ls).2∧ExtS s (tW s ls).2∧(∀ x,ZM ls x->(tW s ls).2.1.getD x.toNat 0≠0)∧∀ f,ExtS (tW s ls).2 f->(tW s ls).1=ls.map (tG (fun v=>.v (rho f v)))
 | [],s,h,_=>⟨h,ExtS.refl s,fun x ⟨c,hc,_⟩=>(nomatch hc),fun _ _=>rfl⟩
 | l::ls,s,h,hc=>by
  obtain⟨h1,h2,h3,h4⟩:=QV l h (hc l (aj ..));obtain⟨g1,g2,g3,g4⟩:=Vc ls h1 fun d hd=>hc d (ai _ hd);refine ⟨g1,h2.trans g2,fun x hx => ?_,fun f hf => ?_⟩
  ·rw[WE] at hx;rcases hx with hx | hx
   ·show (tW (rZ s l).2 ls).2.1.getD x.toNat 0≠0;rw[g2 _ (h3 x hx)];exact h3 x hx
   ·exact g3 x hx
  ·have hf:ExtS (tW (rZ s l).2 ls).2 f:=hf;show (rZ s l).1::(tW (rZ s l).2 ls).1=_;rw[h4 f (g2.trans hf),g4 f hf];rfl
theorem NF {L:List zc} {T:List jI} {C:List zc} (hc:∀ r∈yg L T C,∀ c∈r,-24<=c):∃ ρ:Nat->Nat,
  tX L T C=(ug (fun v=>.v (ρ v)) (zU L []),(zU T []).map (tG (fun v=>.v (ρ v))),ug (fun v=>.v (ρ v)) (zU C [])) ∧
  (∀ x,ZM (yg L T C) x->ρ x.toNat<24)∧∀ x y,ZM (yg L T C) x->ZM (yg L T C) y->ρ x.toNat=ρ y.toNat->x.toNat=y.toNat:=by
 have mL:∀ l,l∈zU L []↔l∈L:=fun l=>by simpa using xl (x:=l) L []
 have mT:∀ l,l∈zU T []↔l∈T:=fun l=>by simpa using xl (x:=l) T []
 have mC:∀ l,l∈zU C []↔l∈C:=fun l=>by simpa using xl (x:=l) C []
 obtain⟨a1,a2,a3,a4⟩:=ZA (zU L []) zgR fun l hl=>hc _ (yE ((mL l).1 hl));obtain⟨b1,b2,b3,b4⟩:=Vc (zU T []) a1 fun l hl=>hc _ (qn ((mT l).1 hl));obtain⟨c1,c2,c3,c4⟩:=ZA (zU C []) b1 fun l hl=>hc _ (qC ((mC l).1 hl));have nz:∀ x,ZM (yg L T C) x->(vo (tW (vo (az 24 0,0) (zU L [])).2 (zU T [])).2 (zU C [])).2.1.getD x.toNat 0≠0:=by
  intro x hx;unfold yg at hx;rw[tv,tv] at hx;rcases hx with (⟨r,hr,hx⟩ | ⟨r,hr,hx⟩) | ⟨r,hr,hx⟩
  ·obtain⟨l,hl,rfl⟩:=aY.1 hr;have:=a3 x ⟨_,bi ((mL l).2 hl),hx⟩;rw[c2 _ (by rw[b2 _ this]; exact this),b2 _ this]
   exact this
  ·obtain⟨l,hl,rfl⟩:=aY.1 hr;exact c3 x ⟨_,bi ((mC l).2 hl),hx⟩
  ·have:=b3 x ⟨_,(mT r).2 hr,hx⟩;rw[c2 _ this];exact this
 refine ⟨rho (vo (tW (vo (az 24 0,0) (zU L [])).2 (zU T [])).2 (zU C [])).2,?_,fun x hx=>c1.rho_lt (nz x hx),fun x y hx hy he=>c1.rho_inj (nz x hx) (nz y hy) he⟩;unfold tX zfv;rw[a4 _ (b2.trans c2),b4 _ c2,c4 _ (ExtS.refl _)]
def Va (s:Sb) (l:J3):J3:=(l.1,l.2.1,ve s l.2.2)
theorem IS (s:Sb) (ls:List J3):ug s (ls.map cl)=(ls.map (Va s)).map cl:=by
 unfold ug;rw[cJ,cJ];refine bV fun l _ => ?_;show (l.1,tG s ((l.2.1:Int)::za l.2.2))=(l.1,(l.2.1:Int)::za (ve s l.2.2));rw[kH];unfold tG;rw[br];have:Yj s (l.2.1:Int)=[(l.2.1:Int)]:=by unfold Yj; rw[if_neg (by omega)]
 rw[this];rfl
theorem JD (s:Sb) (rs:List (List Tm)):(rs.map za).map (tG s)=(rs.map (ve s)).map za:=by
 rw[cJ,cJ];refine bV fun r _ => ?_;show tG s (za r)=za (ve s r);rw[kH];rfl
theorem Gt {a0:List zg} (hb:uP a0=true) {ts:List Tm} (h:WfR a0 ts):Y0 a0 (za ts)=some ts.length:=by
 unfold Y0 vW;rw[hb,decide_eq_true h.2,yK ts h.1];simp
theorem RS {a0:List zg} {rs:List jI} {n:Nat} (h:∀ r∈rs,Y0 a0 r=some n):ZZ a0 rs=true:=by
 cases rs with
 | nil=>rfl
 | cons r rs =>
  unfold ZZ;show (match Y0 a0 r with | none=>false | some n=>rs.all fun q=>Y0 a0 q==some n)=true
  rw[h r (aj ..)];exact aC.2 fun q hq=>by rw[h q (ai _ hq)]; simp
theorem GN {a0:List zg} (hb:uP a0=true) {l:J3} (h:WfL a0 l):qN a0 (cl l).2=true:=by
 obtain⟨h1,⟨e,h2,h3,h4⟩,h5⟩:=h;exact Re h1 h2 h3 h4 h5 hb
theorem Tc {a0:List zg} {l k:J3} (hl:WfL a0 l) (hk:WfL a0 k) (h:cl l=cl k):l=k:=by
 obtain⟨n,c,ts⟩:=l;obtain⟨n',c',us⟩:=k;have h:((n,(c:Int)::za ts):zc)=(n',(c':Int)::za us):=h;injection h with h1 h2;injection h2 with h2 h3;have h3:=u3 _ ts us (aF _) hl.1 hk.1 h3;have:c=c':=by omega
 rw[h1,this,h3]
theorem WM {α β:Type} (f:α->β) {as:List α}:(bs:List β)->(∀ b∈bs,b∈as.map f)->∃ as':List α,bs=as'.map f∧∀ a∈as',a∈as
 | [],_=>⟨[],rfl,fun _ h=>(nomatch h)⟩
 | b::bs,h=>by
  obtain⟨as',h1,h2⟩:=WM f bs fun x hx=>h x (ai _ hx);obtain⟨a,ha,rfl⟩:=aY.1 (h b (aj ..));refine ⟨a::as',by rw[aM,← h1],fun x hx => ?_⟩
  rcases aD.1 hx with rfl | hx
  ·exact ha
  ·exact h2 x hx
theorem Z7 {α:Type} [DecidableEq α] (f:α->Nat):(es out:List α)->((zU es out).map f).sum<=(out.map f).sum+(es.map f).sum
 | [],out=>by simp [zU]
 | e::es,out=>by
  unfold zU;by_cases h:e∈out
  ·rw[decide_eq_true h,cond_true];have:=Z7 f es out;simp only[aM,cA];omega
  ·rw[decide_eq_false h,cond_false];have:=Z7 f es (out++[e]);simp only[aM,cA,dk,List.sum_append,List.map_nil,List.sum_nil] at this ⊢;omega
abbrev vS (ρ:Nat->Nat):Sb:=fun v=>.v (ρ v)
theorem My (ρ:Nat->Nat) (r:List Int):(tG (vS ρ) r).length=r.length:=by
 unfold tG
 induction r with
 | nil=>rfl
 | cons c r ih =>
  rw[br,am,ih,ak];unfold Yj;split
  ·simp [Tm.codes]; omega
  ·simp; omega
theorem UR {a0:List zg} {ρ:Nat->Nat} {ts:List Tm} (h:WfR a0 ts) (hρ:∀ x,Zm x ts->ρ x<24):WfR a0 (ve (vS ρ) ts):=by
 refine ⟨IK ts h.1 fun x hx=>hρ x hx,?_⟩;rw[kH];have:=My ρ (za ts);unfold tG at this;rw[this];exact h.2
theorem Th {a0:List zg} {ρ:Nat->Nat} {l:J3} (h:WfL a0 l) (hρ:∀ x,Zm x l.2.2->ρ x<24):WfL a0 (Va (vS ρ) l):=by
 obtain⟨h1,⟨e,h2,h3,h4⟩,h5⟩:=h;have:=UR (a0:=a0) ⟨h1,h5⟩ hρ;exact ⟨this.1,⟨e,h2,h3,by show (((ve (vS ρ) l.2.2).length:Nat):Int)=_; rw[ja]; exact h4⟩,this.2⟩
theorem AU {a0:List zg} {L:List J3} {T:List (List Tm)} {C:List J3} (hmay:xD a0 (L.map cl) (T.map za) (C.map cl)=true) (hL:∀ l∈L,WfL a0 l) (hT:∀ r∈T,WfR a0 r) (hC:∀ l∈C,WfL a0 l) :
  ∃(L1:List J3) (T1:List (List Tm)) (C1:List J3) (ρ:Nat->Nat),tX (L.map cl) (T.map za) (C.map cl)=((L1.map (Va (vS ρ))).map cl,(T1.map (ve (vS ρ))).map za,(C1.map (Va (vS ρ))).map cl)∧(∀ l∈L1.map (Va (vS ρ)),WfL a0 l)∧(∀ r∈T1.map (ve (vS ρ)),WfR a0 r)∧(∀ l∈C1.map (Va (vS ρ)),WfL a0 l) ∧
   xD a0 ((L1.map (Va (vS ρ))).map cl) ((T1.map (ve (vS ρ))).map za) ((C1.map (Va (vS ρ))).map cl)=true∧(∀ x,TC L T C x->ρ x<24)∧(∀ x y,TC L T C x->TC L T C y->ρ x=ρ y->x=y)∧(∀ x,TC (L1.map (Va (vS ρ))) (T1.map (ve (vS ρ))) (C1.map (Va (vS ρ))) x↔∃ y,TC L T C y∧ρ y=x) ∧
   (∀ l,l∈L1↔l∈L)∧(∀ l,l∈T1↔l∈T)∧∀ l,l∈C1↔l∈C:=by
 obtain⟨hsb,g1,g2,g3,g4,g5,g6,g7⟩:=zn hmay;obtain⟨ρ,hn,hr1,hr2⟩:=NF (L:=L.map cl) (T:=T.map za) (C:=C.map cl) fun r hr c hc=>(KD hmay r hr).2 c hc;have hρ:∀ x,TC L T C x->ρ x<24:=fun x hx=>by
  have:=hr1 x (Jd.2 hx);rwa [bl] at this
 have mL:∀ l,l∈zU (L.map cl) []↔l∈L.map cl:=fun l=>by simpa using xl (x:=l) (L.map cl) []
 have mT:∀ l,l∈zU (T.map za) []↔l∈T.map za:=fun l=>by simpa using xl (x:=l) (T.map za) []
 have mC:∀ l,l∈zU (C.map cl) []↔l∈C.map cl:=fun l=>by simpa using xl (x:=l) (C.map cl) []
 obtain⟨L1,eL,sL⟩:=WM cl (zU (L.map cl) []) fun b hb=>(mL b).1 hb;obtain⟨T1,eT,sT⟩:=WM za (zU (T.map za) []) fun b hb=>(mT b).1 hb;obtain⟨C1,eC,sC⟩:=WM cl (zU (C.map cl) []) fun b hb=>(mC b).1 hb;have bL:∀ l,l∈L1↔l∈L:=fun l=>⟨sL l,fun hl=>by
  have h1:=(mL (cl l)).2 (bi hl);rw[eL] at h1;obtain⟨k,hk,he⟩:=aY.1 h1;rw[← Tc (hL k (sL k hk)) (hL l hl) he];exact hk⟩
 have bC:∀ l,l∈C1↔l∈C:=fun l=>⟨sC l,fun hl=>by
  have h1:=(mC (cl l)).2 (bi hl);rw[eC] at h1;obtain⟨k,hk,he⟩:=aY.1 h1;rw[← Tc (hC k (sC k hk)) (hC l hl) he];exact hk⟩
 have bT:∀ l,l∈T1↔l∈T:=fun l=>⟨sT l,fun hl=>by
  have h1:=(mT (za l)).2 (bi hl);rw[eT] at h1;obtain⟨k,hk,he⟩:=aY.1 h1;rw[← u3 _ k l (aF _) (hT k (sT k hk)).1 (hT l hl).1 he];exact hk⟩
 have wL:∀ l∈L1.map (Va (vS ρ)),WfL a0 l:=fun l hl=>by
  obtain⟨k,hk,rfl⟩:=aY.1 hl;exact Th (hL k (sL k hk)) fun x hx=>hρ x (.inl ⟨k,sL k hk,hx⟩)
 have wC:∀ l∈C1.map (Va (vS ρ)),WfL a0 l:=fun l hl=>by
  obtain⟨k,hk,rfl⟩:=aY.1 hl;exact Th (hC k (sC k hk)) fun x hx=>hρ x (.inr (.inr ⟨k,sC k hk,hx⟩))
 have wT:∀ l∈T1.map (ve (vS ρ)),WfR a0 l:=fun l hl=>by
  obtain⟨k,hk,rfl⟩:=aY.1 hl;exact UR (hT k (sT k hk)) fun x hx=>hρ x (.inr (.inl ⟨k,sT k hk,hx⟩))
 have lL:L1.length<=5:=by
  have h1:=congrArg af eL;have h2:=w8 (L.map cl) [];rw[aP] at h1 h2 g1;simp at h2; omega
 have lT:T1.length<=3:=by
  have h1:=congrArg af eT;have h2:=w8 (T.map za) [];rw[aP] at h1 h2 g2;simp at h2; omega
 have lC:C1.length<=3:=by
  have h1:=congrArg af eC;have h2:=w8 (C.map cl) [];rw[aP] at h1 h2 g3;simp at h2; omega
 refine ⟨L1,T1,C1,ρ,?_,wL,wT,wC,?_,hρ,fun x y hx hy he => ?_,fun x => ?_,bL,bT,bC⟩
 ·rw[hn,eL,eT,eC,IS,JD,IS]
 ·refine Cz hsb (by simpa using lL) (by simpa using lT) (by simpa using lC) ?_ ?_ ?_ ?_
  ·refine aC.2 fun l hl => ?_;obtain⟨k,hk,rfl⟩:=aY.1 hl;exact GN hsb (wL k hk)
  ·obtain⟨n,hw⟩:=WJ g5;refine RS (n:=n) fun r hr => ?_;obtain⟨k,hk,rfl⟩:=aY.1 hr;rw[Gt hsb (wT k hk)];obtain⟨j,hj,rfl⟩:=aY.1 hk;rw[ja];have:=hw (za j) (bi (sT j hj));rwa [Gt hsb (hT j (sT j hj))] at this
  ·refine aC.2 fun l hl => ?_;obtain⟨k,hk,rfl⟩:=aY.1 hl;exact GN hsb (wC k hk)
  ·have sumL:∀(X X1:List J3),zU (X.map cl) []=X1.map cl->zi (((X1.map (Va (vS ρ))).map cl).map (·.2))<=zi ((X.map cl).map (·.2)):=by
    intro X X1 he;rw[← IS];have h1:(ug (vS ρ) (X1.map cl)).map (·.2.length)=(X1.map cl).map (·.2.length):=by
     unfold ug;rw[cJ];exact bV fun l _=>My ρ l.2
    unfold zi;rw[cJ,cJ];have h2:=Z7 (fun l:zc=>l.2.length) (X.map cl) [];rw[he] at h2;have h3:c5 (af ∘ fun x=>x.2) (ug (vS ρ) (X1.map cl))=(X1.map cl).map (·.2.length):=h1;rw[h3];have h4:(([]:List zc).map (fun l:zc=>l.2.length)).sum=0:=rfl;have h5:c5 (af ∘ fun x=>x.2) (X.map cl)=(X.map cl).map (fun l:zc=>l.2.length):=rfl;rw[h4,aQ] at h2;exact h2
   have sumT:zi ((T1.map (ve (vS ρ))).map za)<=zi (T.map za):=by
    rw[← JD];have h2:=Z7 af (T.map za) [];rw[eT] at h2;unfold zi;rw[cJ];have h3:c5 (af ∘ tG (vS ρ)) (T1.map za)=(T1.map za).map af:=bV fun r _=>My ρ r;rw[h3];simpa using h2
   have h1:=sumL L L1 eL;have h2:=sumL C C1 eC;omega
 ·have:=hr2 x y (Jd.2 hx) (Jd.2 hy) (by rw[bl,bl]; exact he)
  rwa [bl,bl] at this
 ·constructor
  ·rintro (⟨l,hl,hx⟩ | ⟨r,hr,hx⟩ | ⟨l,hl,hx⟩)
   ·obtain⟨k,hk,rfl⟩:=aY.1 hl;obtain⟨y,hy,he⟩:=(j4 k.2.2).1 hx;exact ⟨y,.inl ⟨k,sL k hk,hy⟩,he⟩
   ·obtain⟨k,hk,rfl⟩:=aY.1 hr;obtain⟨y,hy,he⟩:=(j4 k).1 hx;exact ⟨y,.inr (.inl ⟨k,sT k hk,hy⟩),he⟩
   ·obtain⟨k,hk,rfl⟩:=aY.1 hl;obtain⟨y,hy,he⟩:=(j4 k.2.2).1 hx;exact ⟨y,.inr (.inr ⟨k,sC k hk,hy⟩),he⟩
  ·rintro⟨y,⟨l,hl,hy⟩ | ⟨r,hr,hy⟩ | ⟨l,hl,hy⟩,he⟩
   ·exact .inl ⟨_,bi ((bL l).2 hl),(j4 l.2.2).2 ⟨y,hy,he⟩⟩
   ·exact .inr (.inl ⟨_,bi ((bT r).2 hr),(j4 r).2 ⟨y,hy,he⟩⟩)
   ·exact .inr (.inr ⟨_,bi ((bC l).2 hl),(j4 l.2.2).2 ⟨y,hy,he⟩⟩)
mutual
theorem Tm.sub_id:(t:Tm)->t.sub (fun n=>Tm.v n)=t
 | .v n=>rfl
 | .f c as=>by rw[Tm.sub,OF as]
theorem OF:(ts:List Tm)->ve (fun n=>Tm.v n) ts=ts
 | []=>rfl
 | t::ts=>by rw[ve,Tm.sub_id t,OF ts]
end
theorem K0 {a0:List zg} (hs:SignOk a0) {L:List zc} {T:List jI} {C:List zc} (h:xD a0 L T C=true) {i j:Int} {n n':Bool} {A A':List Int} (hi:gx L i=some (n,A)) (hj:gx L j=some (n',A')) :
  (∃ k,uF a0 L T C i j=vN k) ∨
  (n=n'∧∃(c:Nat) (ts us:List Tm) (σ:Sb),A=(c:Int)::za ts∧A'=(c:Int)::za us∧okR a0 24 ts∧okR a0 24 us∧ts.length=us.length∧Mgu σ (ts.zip us)∧(∀ x,x<24->(σ x).ok a0 24)∧uF a0 L T C i j=ZE a0 σ (zv j L 0) T C 1401):=by
 obtain⟨hsb,l1,l2,l3,l4,l5,l6,-⟩:=zn h;have hA:=aC.1 l4 (n,A) (rL hi);have hA':=aC.1 l4 (n',A') (rL hj);obtain⟨c,ts,e,rfl,ho,he,-,hlen,hl48,-⟩:=xP hA;obtain⟨c',us,e',rfl,ho',he',-,hlen',hl48',-⟩:=xP hA';unfold uF;rw[hi,aa,hj,aa];simp only;by_cases hn:n=n'
 ·subst hn;rw[show (!(n==n))=false from by simp,cond_false]
  simp only[yc,aB,aa];by_cases hc:c=c'
  ·subst hc;rw[show ((c:Int) != (c:Int))=false from by simp,cond_false,wB,aa,wB,aa]
   rcases Zf hs (xs:=za ts) (ys:=za us) rfl rfl ho ho' hsb hl48 hl48' with ⟨hu,-⟩ | ⟨hll,σ,hm,hok,hu⟩
   ·rw[hu];exact .inl ⟨0,rfl⟩
   ·rw[hu];cases hsh:qT σ (aK 24) with
    | false=>exact .inl ⟨1401,rfl⟩
    | true =>
     refine .inr ⟨trivial,c,ts,us,σ,rfl,rfl,ho,ho',hll,hm,hok,?_⟩;simp only[cond_true,aa,show ((0:Int) != 0)=false from rfl,cond_false,ay]
     have hcd:=jm hs h;have hwl:=tF j L 0;rw[vC j (-1) (by omega) (by omega) (by omega) (by simp) (by simp) (by simp),aa]
     simp only[bG,zv];rw[D0 hsh (fun l hl=>hcd _ (yE (v7 L 0 hl))) (fun r hr=>hcd _ (qn hr)) (fun l hl=>hcd _ (qC hl)) (by omega) (by omega) (by omega),aa,qO,aa]
     unfold ZE;cases xD a0 (ug σ (zv j L 0)) (T.map (tG σ)) (ug σ C) with
     | true=>rfl
     | false=>rfl
  ·rw[show ((c:Int) != (c':Int))=true from by simp; omega,cond_true]
   exact .inl ⟨0,rfl⟩
 ·rw[show (!(n==n'))=true from by simp [hn],cond_true]
  exact .inl ⟨0,rfl⟩
section
variable {m:Nat} (hm:0<m) (hm3:m<=3) {nums:List Int} (hn:Da nums) {a0:List zg} (hs:SignOk a0)
include hm hm3 hn hs
end
section
variable {m:Nat} (hm:0<m) (hm3:m<=3) {nums:List Int} (hn:Da nums) {a0:List zg} (hs:SignOk a0)
include hm hm3 hn hs
end
theorem CS (x:Int):(es:List Int)->(i:Nat)->(x∈es->∃ j:Nat,yR x es i=some (.inr (j:Int)))∧(x∉es->yR x es i=some (.inl ()))
 | [],i=>⟨fun h=>(nomatch h),fun _=>rfl⟩
 | e::es,i=>by
  obtain⟨h1,h2⟩:=CS x es (i+1);unfold yR;by_cases he:x=e
  ·rw[show (x==e)=true from by simp [he],cond_true]
   exact ⟨fun _=>⟨i,rfl⟩,fun h=>absurd (by rw[he]; exact aj ..) h⟩
  ·rw[show (x==e)=false from by simp [he],cond_false]
   refine ⟨fun h=>h1 ?_,fun h=>h2 fun h'=>h (ai _ h')⟩;rcases aD.1 h with h | h
   ·exact absurd h he
   ·exact h
theorem B7 {xs:List Int} (x:Int) (hl:xs.length<=maxLen):vy xs x=some (decide (x∈xs)):=by
 unfold vy Qr;rw[Y3 _ _ hl];obtain⟨h1,h2⟩:=CS x xs 0;by_cases h:x∈xs
 ·obtain⟨j,hj⟩:=h1 h;rw[hj,decide_eq_true h];show some (decide ((j:Int)≥0))=_;rw[decide_eq_true (by omega)]
 ·rw[h2 h,decide_eq_false h];rfl
theorem Im {α:Type} (xs:List α) {i:Nat} (h:i<=xs.length):vM xs none (some (i:Int))=some (xs.take i):=by
 show slc xs 0 (i:Int)=some _;unfold slc;rw[decide_eq_true (show (0:Int)<=0 by omega),decide_eq_true (show (0:Int)<=(i:Int) by omega),decide_eq_true (show (i:Int)<=((xs.length:Nat):Int) by omega)]
 simp
section
variable {m:Nat} (hm:0<m) (hm3:m<=3) {nums:List Int} (hn:Da nums) {a0:List zg} (hs:SignOk a0)
include hm hm3 hn hs
end
def tK (a0:jQ) (_a1:jR) (_a2:jQ) (a3:Int):Option Bool :=
 cond (decide (a3≥0))
 (some (decide (a3<((af a0:Nat):Int))))
 (some false)
def ZL (rec:((List (Int×jI))×Int×Int)->Option (Unit⊕Int)) (x:((List (Int×jI))×Int×Int)):Option (Unit⊕Int) :=
 cond (decide (x.2.2<((af x.1:Nat):Int)))
 ((gx x.1 x.2.2).bind fun e2 =>
  cond (e2.1==x.2.1)
  (some (aE x.2.2))
  (rec (x.1,x.2.1,(ag .i64 (x.2.2+1)))))
 (some (aT ()))
def Vd (a0:(List (Int×jI))) (a1:Int):Option Int :=
 ((lp ZL ze) (a0,a1,0)).bind fun r6 =>
 zR r6
 (fun _z7=>some (-1))
 (fun z8=>some z8)
def kW (rec:((List (Int×jI))×jI×Int×jI)->Option jI) (x:((List (Int×jI))×jI×Int×jI)):Option jI :=
 cond (decide (x.2.2.1<((af x.2.1:Nat):Int)))
 ((gx x.2.1 x.2.2.1).bind fun e16 =>
  cond (decide (e16<0))
  ((gx x.2.1 x.2.2.1).bind fun e17 =>
   (Vd x.1 (ag .i64 ((-1) - e17))).bind fun r18 =>
   cond (decide (r18<0))
   ((gx x.2.1 x.2.2.1).bind fun e19 =>
    cond (yp (af x.2.2.2+af ([e19]:List Int)) 8)
    (rec (x.1,x.2.1,(ag .i64 (x.2.2.1+1)),(x.2.2.2++([e19]:List Int))))
    (none))
   ((gx x.1 r18).bind fun e20 =>
    cond (yp (af x.2.2.2+af e20.2) 8)
    (rec (x.1,x.2.1,(ag .i64 (x.2.2.1+1)),(x.2.2.2++e20.2)))
    (none)))
  ((gx x.2.1 x.2.2.1).bind fun e21 =>
   cond (yp (af x.2.2.2+af ([e21]:List Int)) 8)
   (rec (x.1,x.2.1,(ag .i64 (x.2.2.1+1)),(x.2.2.2++([e21]:List Int))))
   (none)))
 (some x.2.2.2)
def tt (a0:(List (Int×jI))) (a1:jI):Option jI :=
 ((lp kW ze) (a0,a1,0,([]:jI))).bind fun r23 =>
 some r23
def rJ (rec:((List (Int×jI))×Int×jQ×jR×jQ×jQ×jR×jQ)->Option (jQ×jR×jQ)) (x:((List (Int×jI))×Int×jQ×jR×jQ×jQ×jR×jQ)):Option (jQ×jR×jQ) :=
 cond (decide (x.2.1<((af x.2.2.2.2.1:Nat):Int)))
 ((gx x.2.2.2.2.1 x.2.1).bind fun e24 =>
  (gx x.2.2.2.2.1 x.2.1).bind fun e25 =>
  (tt x.1 e25.2).bind fun r26 =>
  cond (yp (af x.2.2.2.2.2.2.2+af ([(e24.1,r26)]:List zc)) 32)
  (rec (x.1,(ag .i64 (x.2.1+1)),x.2.2.1,x.2.2.2.1,x.2.2.2.2.1,x.2.2.2.2.2.1,x.2.2.2.2.2.2.1,(x.2.2.2.2.2.2.2++([(e24.1,r26)]:List zc))))
  (none))
 (some (x.2.2.2.2.2.1,x.2.2.2.2.2.2.1,x.2.2.2.2.2.2.2))
def rG (rec:((List (Int×jI))×Int×jQ×jR×jQ×jQ×jR)->Option (jQ×jR)) (x:((List (Int×jI))×Int×jQ×jR×jQ×jQ×jR)):Option (jQ×jR) :=
 cond (decide (x.2.1<((af x.2.2.2.1:Nat):Int)))
 ((gx x.2.2.2.1 x.2.1).bind fun e15 =>
  (tt x.1 e15).bind fun r16 =>
  cond (yp (af x.2.2.2.2.2.2+af ([r16]:List jI)) 24)
  (rec (x.1,(ag .i64 (x.2.1+1)),x.2.2.1,x.2.2.2.1,x.2.2.2.2.1,x.2.2.2.2.2.1,(x.2.2.2.2.2.2++([r16]:List jI))))
  (none))
 (some (x.2.2.2.2.2.1,x.2.2.2.2.2.2))
def rV (rec:((List (Int×jI))×Int×jQ×jR×jQ×jQ)->Option jQ) (x:((List (Int×jI))×Int×jQ×jR×jQ×jQ)):Option jQ :=
 cond (decide (x.2.1<((af x.2.2.1:Nat):Int)))
 ((gx x.2.2.1 x.2.1).bind fun e7 =>
  (gx x.2.2.1 x.2.1).bind fun e8 =>
  (tt x.1 e8.2).bind fun r9 =>
  cond (yp (af x.2.2.2.2.2+af ([(e7.1,r9)]:List zc)) 32)
  (rec (x.1,(ag .i64 (x.2.1+1)),x.2.2.1,x.2.2.2.1,x.2.2.2.2.1,(x.2.2.2.2.2++([(e7.1,r9)]:List zc))))
  (none))
 (some x.2.2.2.2.2)
def rN (a0:(List (Int×jI))) (a1:jQ) (a2:jR) (a3:jQ):Option (jQ×jR×jQ) :=
 ((lp rV ze) (a0,0,a1,a2,a3,([]:jQ))).bind fun r28 =>
 ((lp rG ze) (a0,0,a1,a2,a3,r28,([]:jR))).bind fun r29 =>
 ((lp rJ ze) (a0,0,a1,a2,a3,r29.1,r29.2,([]:jQ))).bind fun r30 =>
 some (r30.1,r30.2.1,r30.2.2)
def vf (rec:(Int×jI×Int×jQ×jR×jQ×(List (Int×jI)))->Option ((List (Int×jI))⊕Bool)) (x:(Int×jI×Int×jQ×jR×jQ×(List (Int×jI)))):Option ((List (Int×jI))⊕Bool) :=
 cond (decide (x.2.2.1<((af x.2.1:Nat):Int)))
 ((gx x.2.1 x.2.2.1).bind fun e11 =>
  cond (decide ((ag .i64 (e11+x.1))>23))
  (some (aE false))
  ((gx x.2.1 x.2.2.1).bind fun e12 =>
   (gx x.2.1 x.2.2.1).bind fun e13 =>
   cond (yp (af x.2.2.2.2.2.2+af ([(e12,([(ag .i64 ((ag .i64 ((-1) - e13)) - x.1))]:List Int))]:List (Int×jI))) 32)
   (rec (x.1,x.2.1,(ag .i64 (x.2.2.1+1)),x.2.2.2.1,x.2.2.2.2.1,x.2.2.2.2.2.1,(x.2.2.2.2.2.2++([(e12,([(ag .i64 ((ag .i64 ((-1) - e13)) - x.1))]:List Int))]:List (Int×jI)))))
   (none)))
 (some (aT x.2.2.2.2.2.2))
def jl (a0:jQ) (a1:jR) (a2:jQ) (a3:jQ) (a4:jR) (a5:jQ):Option (jQ×jR×Bool×jQ) :=
 (jh a0 a1 a2).bind fun r23 =>
 cond (decide (((af r23:Nat):Int)>0))
 ((inR (ag .i64 (((af r23:Nat):Int) - 1)) (af r23)).bind fun k24 =>
  (r23[k24]?).bind fun x25 =>
  (jh a3 a4 a5).bind fun r26 =>
  ((lp vf ze) ((ag .i64 (x25+1)),r26,0,a3,a4,a5,([]:(List (Int×jI))))).bind fun r27 =>
  zR r27
  (fun z28=>(rN z28 a3 a4 a5).bind fun r29 =>
   some (r29.1,r29.2.1,true,r29.2.2))
  (fun z30=>some (([]:jQ),([]:jR),z30,([]:jQ))))
 ((jh a3 a4 a5).bind fun r31 =>
  ((lp vf ze) (0,r31,0,a3,a4,a5,([]:(List (Int×jI))))).bind fun r32 =>
  zR r32
  (fun z33=>(rN z33 a3 a4 a5).bind fun r34 =>
   some (r34.1,r34.2.1,true,r34.2.2))
  (fun z35=>some (([]:jQ),([]:jR),z35,([]:jQ))))
def uH (rec:(jI×jR)->Option jI) (x:(jI×jR)):Option jI :=
 cond (((af x.1:Nat):Int)==1)
 ((gx x.1 0).bind fun e8 =>
  cond (decide (e8<0))
  ((gx x.1 0).bind fun e9 =>
   (inR (ag .i64 ((-1) - e9)) 48).bind fun k10 =>
   (x.2[k10]?).bind fun x11 =>
   cond (decide (((af x11:Nat):Int)>0))
   ((gx x.1 0).bind fun e12 =>
    (inR (ag .i64 ((-1) - e12)) 48).bind fun k13 =>
    (x.2[k13]?).bind fun x14 =>
    rec (x14,x.2))
   (some x.1))
  (some x.1))
 (some x.1)
def sj (a0:jI) (a1:jR):Option jI :=
 ((lp uH ze) (a0,a1)).bind fun r16 =>
 some r16
def rM (rec:(jI×jI×Int)->Option (Unit⊕Bool)) (x:(jI×jI×Int)):Option (Unit⊕Bool) :=
 cond (decide (x.2.2<((af x.1:Nat):Int)))
 ((gx x.1 x.2.2).bind fun e3 =>
  (gx x.2.1 x.2.2).bind fun e4 =>
  cond (e3 != e4)
  (some (aE false))
  (rec (x.1,x.2.1,(ag .i64 (x.2.2+1)))))
 (some (aT ()))
def vd (a0:jI) (a1:jI):Option Bool :=
 cond (((af a0:Nat):Int) != ((af a1:Nat):Int))
 (some false)
 (((lp rM ze) (a0,a1,0)).bind fun r8 =>
  zR r8
  (fun _z9=>some true)
  (fun z10=>some z10))
def xQ (rf:((Int×jI×jR)->Option Bool)) (rec:(Int×jI×Int×jR)->Option (Unit⊕Bool)) (x:(Int×jI×Int×jR)):Option (Unit⊕Bool) :=
 cond (decide (x.2.2.1<((af x.2.1:Nat):Int)))
 ((gx x.2.1 x.2.2.1).bind fun e8 =>
  cond (decide (e8≥0))
  (rec (x.1,x.2.1,(ag .i64 (x.2.2.1+1)),x.2.2.2))
  ((gx x.2.1 x.2.2.1).bind fun e9 =>
   cond ((ag .i64 ((-1) - e9))==x.1)
   (some (aE true))
   ((inR (ag .i64 ((-1) - e9)) 48).bind fun k10 =>
    (x.2.2.2[k10]?).bind fun x11 =>
    cond (decide (((af x11:Nat):Int)>0))
    ((inR (ag .i64 ((-1) - e9)) 48).bind fun k12 =>
     (x.2.2.2[k12]?).bind fun x13 =>
     (rf (x.1,x13,x.2.2.2)).bind fun r14 =>
     cond r14
     (some (aE true))
     (rec (x.1,x.2.1,(ag .i64 (x.2.2.1+1)),x.2.2.2)))
    (rec (x.1,x.2.1,(ag .i64 (x.2.2.1+1)),x.2.2.2)))))
 (some (aT ()))
def tz (rf:((Int×jI×jR)->Option Bool)) (a0:Int) (a1:jI) (a2:jR):Option Bool :=
 ((lp (xQ rf) ze) (a0,a1,0,a2)).bind fun r18 =>
 zR r18
 (fun _z19=>some false)
 (fun z20=>some z20)
def Zs (rf:((Int×jI×jR)->Option Bool)):((Int×jI×jR)->Option Bool) :=
 fun (x:(Int×jI×jR))=>tz rf x.1 x.2.1 x.2.2
def ZD:((Int×jI×jR)->Option Bool):=fun _=>none
def wq (k:Nat):((Int×jI×jR)->Option Bool):=lpR ZD Zs k
def Zk (a0:Int) (a1:jI) (a2:jR):Option Bool:=(wq ze) (a0,a1,a2)
def zz (a0:jI) (a1:jI) (a2:Bool) (a3:jR):Option (Bool×jR) :=
 (gx a0 0).bind fun e8 =>
 cond a2
 ((gx a1 0).bind fun e9 =>
  (inR (ag .i64 ((-1) - e9)) 48).bind fun k10 =>
  (a3[k10]?).bind fun _x11 =>
  some (true,(bP a3 k10 a0)))
 ((Zk (ag .i64 ((-1) - e8)) a1 a3).bind fun r12 =>
  cond r12
  (some (false,a3))
  ((inR (ag .i64 ((-1) - e8)) 48).bind fun k13 =>
   (a3[k13]?).bind fun _x14 =>
   some (true,(bP a3 k13 a1))))
def vZ (rf:(((jS×jI×jI×jR)->Option (Bool×jR))×((jS×jR×jR×jR)->Option (Bool×jR)))) (a0:jS) (a1:jI) (a2:jI) (a3:jR):Option (Bool×jR) :=
 (sj a1 a3).bind fun r82 =>
 (sj a2 a3).bind fun r83 =>
 (vd r82 r83).bind fun r84 =>
 cond r84
 (some (true,a3))
 ((gx r82 0).bind fun e85 =>
  cond (decide (e85<0))
  ((gx r83 0).bind fun e86 =>
   cond (decide (e86<0))
   ((gx r82 0).bind fun e87 =>
    (gx r83 0).bind fun e88 =>
    cond (decide (e87<e88))
    ((gx r82 0).bind fun e89 =>
     (zz r83 r82 (decide (e89<0)) a3).bind fun r90 =>
     some (r90.1,r90.2))
    ((gx r82 0).bind fun e91 =>
     cond (decide (e91≥0))
     ((gx r83 0).bind fun e92 =>
      cond (decide (e92<0))
      ((gx r82 0).bind fun e93 =>
       (zz r83 r82 (decide (e93<0)) a3).bind fun r94 =>
       some (r94.1,r94.2))
      ((gx r82 0).bind fun e95 =>
       cond (decide (e95<0))
       ((gx r83 0).bind fun e96 =>
        (zz r82 r83 (decide (e96<0)) a3).bind fun r97 =>
        some (r97.1,r97.2))
       ((gx r82 0).bind fun e98 =>
        (gx r83 0).bind fun e99 =>
        cond (e98 != e99)
        (some (false,a3))
        ((vM r82 (some 1) none).bind fun y100 =>
         (zQ a0 y100).bind fun r101 =>
         (vM r83 (some 1) none).bind fun y102 =>
         (zQ a0 y102).bind fun r103 =>
         (rf.2 (a0,r101,r103,a3)).bind fun r104 =>
         some (r104.1,r104.2)))))
     ((gx r82 0).bind fun e105 =>
      cond (decide (e105<0))
      ((gx r83 0).bind fun e106 =>
       (zz r82 r83 (decide (e106<0)) a3).bind fun r107 =>
       some (r107.1,r107.2))
      ((gx r82 0).bind fun e108 =>
       (gx r83 0).bind fun e109 =>
       cond (e108 != e109)
       (some (false,a3))
       ((vM r82 (some 1) none).bind fun y110 =>
        (zQ a0 y110).bind fun r111 =>
        (vM r83 (some 1) none).bind fun y112 =>
        (zQ a0 y112).bind fun r113 =>
        (rf.2 (a0,r111,r113,a3)).bind fun r114 =>
        some (r114.1,r114.2))))))
   ((gx r82 0).bind fun e115 =>
    cond (decide (e115≥0))
    ((gx r83 0).bind fun e116 =>
     cond (decide (e116<0))
     ((gx r82 0).bind fun e117 =>
      (zz r83 r82 (decide (e117<0)) a3).bind fun r118 =>
      some (r118.1,r118.2))
     ((gx r82 0).bind fun e119 =>
      cond (decide (e119<0))
      ((gx r83 0).bind fun e120 =>
       (zz r82 r83 (decide (e120<0)) a3).bind fun r121 =>
       some (r121.1,r121.2))
      ((gx r82 0).bind fun e122 =>
       (gx r83 0).bind fun e123 =>
       cond (e122 != e123)
       (some (false,a3))
       ((vM r82 (some 1) none).bind fun y124 =>
        (zQ a0 y124).bind fun r125 =>
        (vM r83 (some 1) none).bind fun y126 =>
        (zQ a0 y126).bind fun r127 =>
        (rf.2 (a0,r125,r127,a3)).bind fun r128 =>
        some (r128.1,r128.2)))))
    ((gx r82 0).bind fun e129 =>
     cond (decide (e129<0))
     ((gx r83 0).bind fun e130 =>
      (zz r82 r83 (decide (e130<0)) a3).bind fun r131 =>
      some (r131.1,r131.2))
     ((gx r82 0).bind fun e132 =>
      (gx r83 0).bind fun e133 =>
      cond (e132 != e133)
      (some (false,a3))
      ((vM r82 (some 1) none).bind fun y134 =>
       (zQ a0 y134).bind fun r135 =>
       (vM r83 (some 1) none).bind fun y136 =>
       (zQ a0 y136).bind fun r137 =>
       (rf.2 (a0,r135,r137,a3)).bind fun r138 =>
       some (r138.1,r138.2))))))
  ((gx r82 0).bind fun e139 =>
   cond (decide (e139≥0))
   ((gx r83 0).bind fun e140 =>
    cond (decide (e140<0))
    ((gx r82 0).bind fun e141 =>
     (zz r83 r82 (decide (e141<0)) a3).bind fun r142 =>
     some (r142.1,r142.2))
    ((gx r82 0).bind fun e143 =>
     cond (decide (e143<0))
     ((gx r83 0).bind fun e144 =>
      (zz r82 r83 (decide (e144<0)) a3).bind fun r145 =>
      some (r145.1,r145.2))
     ((gx r82 0).bind fun e146 =>
      (gx r83 0).bind fun e147 =>
      cond (e146 != e147)
      (some (false,a3))
      ((vM r82 (some 1) none).bind fun y148 =>
       (zQ a0 y148).bind fun r149 =>
       (vM r83 (some 1) none).bind fun y150 =>
       (zQ a0 y150).bind fun r151 =>
       (rf.2 (a0,r149,r151,a3)).bind fun r152 =>
       some (r152.1,r152.2)))))
   ((gx r82 0).bind fun e153 =>
    cond (decide (e153<0))
    ((gx r83 0).bind fun e154 =>
     (zz r82 r83 (decide (e154<0)) a3).bind fun r155 =>
     some (r155.1,r155.2))
    ((gx r82 0).bind fun e156 =>
     (gx r83 0).bind fun e157 =>
     cond (e156 != e157)
     (some (false,a3))
     ((vM r82 (some 1) none).bind fun y158 =>
      (zQ a0 y158).bind fun r159 =>
      (vM r83 (some 1) none).bind fun y160 =>
      (zQ a0 y160).bind fun r161 =>
      (rf.2 (a0,r159,r161,a3)).bind fun r162 =>
      some (r162.1,r162.2))))))
def wz (rf:(((jS×jI×jI×jR)->Option (Bool×jR))×((jS×jR×jR×jR)->Option (Bool×jR)))) (rec:(jS×jR×jR×Int×jR)->Option (jR⊕(Bool×jR))) (x:(jS×jR×jR×Int×jR)):Option (jR⊕(Bool×jR)) :=
 cond (decide (x.2.2.2.1<((af x.2.1:Nat):Int)))
 ((gx x.2.1 x.2.2.2.1).bind fun e7 =>
  (gx x.2.2.1 x.2.2.2.1).bind fun e8 =>
  (rf.1 (x.1,e7,e8,x.2.2.2.2)).bind fun r9 =>
  cond (!r9.1)
  (some (aE (false,r9.2)))
  (rec (x.1,x.2.1,x.2.2.1,(ag .i64 (x.2.2.2.1+1)),r9.2)))
 (some (aT x.2.2.2.2))
def sf (rf:(((jS×jI×jI×jR)->Option (Bool×jR))×((jS×jR×jR×jR)->Option (Bool×jR)))) (a0:jS) (a1:jR) (a2:jR) (a3:jR):Option (Bool×jR) :=
 ((lp (wz rf) ze) (a0,a1,a2,0,a3)).bind fun r13 =>
 zR r13
 (fun z14=>some (true,z14))
 (fun z15=>some (z15.1,z15.2))
def YJ (rf:(((jS×jI×jI×jR)->Option (Bool×jR))×((jS×jR×jR×jR)->Option (Bool×jR)))):(((jS×jI×jI×jR)->Option (Bool×jR))×((jS×jR×jR×jR)->Option (Bool×jR))) :=
 (fun (x:(jS×jI×jI×jR))=>vZ rf x.1 x.2.1 x.2.2.1 x.2.2.2,fun (x:(jS×jR×jR×jR))=>sf rf x.1 x.2.1 x.2.2.1 x.2.2.2)
def Yv:(((jS×jI×jI×jR)->Option (Bool×jR))×((jS×jR×jR×jR)->Option (Bool×jR))):=(fun _=>none,fun _=>none)
def yU (k:Nat):(((jS×jI×jI×jR)->Option (Bool×jR))×((jS×jR×jR×jR)->Option (Bool×jR))):=lpR Yv YJ k
def YV (a0:jS) (a1:jR) (a2:jR) (a3:jR):Option (Bool×jR):=(yU ze).2 (a0,a1,a2,a3)
def xN (rf:((jI×jR×jI)->Option jI)) (rec:(jI×Int×jR×jI)->Option jI) (x:(jI×Int×jR×jI)):Option jI :=
 cond (decide (x.2.1<((af x.1:Nat):Int)))
 (cond (decide (((af x.2.2.2:Nat):Int)<=48))
  ((gx x.1 x.2.1).bind fun e19 =>
   cond (decide (e19<0))
   ((gx x.1 x.2.1).bind fun e20 =>
    (inR (ag .i64 ((-1) - e20)) 48).bind fun k21 =>
    (x.2.2.1[k21]?).bind fun x22 =>
    cond (decide (((af x22:Nat):Int)>0))
    ((gx x.1 x.2.1).bind fun e23 =>
     (inR (ag .i64 ((-1) - e23)) 48).bind fun k24 =>
     (x.2.2.1[k24]?).bind fun x25 =>
     (rf (x25,x.2.2.1,x.2.2.2)).bind fun r26 =>
     rec (x.1,(ag .i64 (x.2.1+1)),x.2.2.1,r26))
    ((gx x.1 x.2.1).bind fun e27 =>
     cond (yp (af x.2.2.2+af ([e27]:List Int)) 8)
     (rec (x.1,(ag .i64 (x.2.1+1)),x.2.2.1,(x.2.2.2++([e27]:List Int))))
     (none)))
   ((gx x.1 x.2.1).bind fun e28 =>
    cond (yp (af x.2.2.2+af ([e28]:List Int)) 8)
    (rec (x.1,(ag .i64 (x.2.1+1)),x.2.2.1,(x.2.2.2++([e28]:List Int))))
    (none)))
  (some x.2.2.2))
 (some x.2.2.2)
def tD (rf:((jI×jR×jI)->Option jI)) (a0:jI) (a1:jR) (a2:jI):Option jI :=
 ((lp (xN rf) ze) (a0,0,a1,a2)).bind fun r30 =>
 some r30
def Zu (rf:((jI×jR×jI)->Option jI)):((jI×jR×jI)->Option jI) :=
 fun (x:(jI×jR×jI))=>tD rf x.1 x.2.1 x.2.2
def ZF:((jI×jR×jI)->Option jI):=fun _=>none
def xf (k:Nat):((jI×jR×jI)->Option jI):=lpR ZF Zu k
def ra (a0:jI) (a1:jR) (a2:jI):Option jI:=(xf ze) (a0,a1,a2)
def wG (rec:(Int×jR×(List (Int×jI)))->Option ((List (Int×jI))⊕(Bool×Bool))) (x:(Int×jR×(List (Int×jI)))):Option ((List (Int×jI))⊕(Bool×Bool)) :=
 cond (decide (x.1<=23))
 ((inR x.1 48).bind fun k14 =>
  (x.2.1[k14]?).bind fun x15 =>
  cond (((af x15:Nat):Int)==0)
  (rec ((ag .i64 (x.1+1)),x.2.1,x.2.2))
  ((inR x.1 48).bind fun k16 =>
   (x.2.1[k16]?).bind fun x17 =>
   (ra x17 x.2.1 ([]:jI)).bind fun r18 =>
   cond (decide (((af r18:Nat):Int)>48))
   (some (aE (true,false)))
   (cond (yp (af x.2.2+af ([(x.1,r18)]:List (Int×jI))) 32)
    (rec ((ag .i64 (x.1+1)),x.2.1,(x.2.2++([(x.1,r18)]:List (Int×jI)))))
    (none))))
 (some (aT x.2.2))
def ua (a0:jS) (a1:jI) (a2:jI):Option (Bool×Bool×(List (Int×jI))) :=
 (zQ a0 a1).bind fun r22 =>
 (zQ a0 a2).bind fun r23 =>
 cond (((af r22:Nat):Int) != ((af r23:Nat):Int))
 (some (false,true,([]:(List (Int×jI)))))
 ((YV a0 r22 r23 (az 48 ([]:jI))).bind fun r24 =>
  cond (!r24.1)
  (some (false,true,([]:(List (Int×jI)))))
  (((lp wG ze) (0,r24.2,([]:(List (Int×jI))))).bind fun r25 =>
   zR r25
   (fun z26=>some (true,true,z26))
   (fun z27=>some (z27.1,z27.2,([]:(List (Int×jI)))))))
def u5 (a0:jQ) (a1:Int):Option jQ :=
 (vM a0 none (some a1)).bind fun y3 =>
 cond (yp (af ([]:List zc)+af y3) 32)
 ((vM a0 (some (ag .i64 (a1+1))) none).bind fun y4 =>
  cond (yp (af (([]:List zc)++y3)+af y4) 32)
  (some ((([]:List zc)++y3)++y4))
  (none))
 (none)
def WS (a0:jQ) (_a1:jQ) (a2:jR) (a3:jQ) (_a4:jQ) (a5:jR) (a6:jQ):Option (jQ×jR×jQ) :=
 cond (yp (af a2) 24)
 (cond (yp (af a2+af a5) 24)
  (cond (yp (af a3) 32)
   (cond (yp (af a3+af a6) 32)
    (some (a0,(a2++a5),(a3++a6)))
    (none))
   (none))
  (none))
 (none)
def jF (a0:Bool) (a1:jI) (a2:Bool) (a3:jI):Option Bool :=
 cond (a0==a2)
 ((vd a1 a3).bind fun r2 =>
  some r2)
 (some false)
def tR (rec:(jQ×Int×Bool×Int×jQ)->Option (Bool×jQ)) (x:(jQ×Int×Bool×Int×jQ)):Option (Bool×jQ) :=
 cond (decide (x.2.2.2.1<((af x.2.2.2.2:Nat):Int)))
 (cond x.2.2.1
  (rec (x.1,x.2.1,true,(ag .i64 (x.2.2.2.1+1)),x.2.2.2.2))
  ((inR x.2.2.2.1 (af x.2.2.2.2)).bind fun k7 =>
   (x.2.2.2.2[k7]?).bind fun x8 =>
   (gx x.1 x.2.1).bind fun e9 =>
   (jF x8.1 x8.2 e9.1 e9.2).bind fun r10 =>
   rec (x.1,x.2.1,r10,(ag .i64 (x.2.2.2.1+1)),x.2.2.2.2)))
 (some (x.2.2.1,x.2.2.2.2))
def rz (rec:(jQ×Int×jQ)->Option jQ) (x:(jQ×Int×jQ)):Option jQ :=
 cond (decide (x.2.1<((af x.1:Nat):Int)))
 (((lp tR ze) (x.1,x.2.1,false,0,x.2.2)).bind fun r13 =>
  cond (!r13.1)
  ((gx x.1 x.2.1).bind fun e14 =>
   cond (yp (af r13.2+af ([(e14.1,e14.2)]:List zc)) 32)
   (rec (x.1,(ag .i64 (x.2.1+1)),(r13.2++([(e14.1,e14.2)]:List zc))))
   (none))
  (rec (x.1,(ag .i64 (x.2.1+1)),r13.2)))
 (some x.2.2)
def Wk (a0:jQ):Option jQ :=
 ((lp rz ze) (a0,0,([]:jQ))).bind fun r16 =>
 some r16
def uQ (rec:(jR×Int×Int×jQ×jR×jQ×(List (Int×jI)))->Option (List (Int×jI))) (x:(jR×Int×Int×jQ×jR×jQ×(List (Int×jI)))):Option (List (Int×jI)) :=
 (gx x.1 x.2.1).bind fun e29 =>
 cond (decide (x.2.2.1<((af e29:Nat):Int)))
 ((gx x.1 x.2.1).bind fun e30 =>
  (gx e30 x.2.2.1).bind fun e31 =>
  cond (decide (e31<0))
  ((Vd x.2.2.2.2.2.2 (ag .i64 ((-1) - e31))).bind fun r32 =>
   cond (decide (r32<0))
   (cond (yp (af x.2.2.2.2.2.2+af ([((ag .i64 ((-1) - e31)),([(ag .i64 ((-1) - ((af x.2.2.2.2.2.2:Nat):Int)))]:List Int))]:List (Int×jI))) 32)
    (rec (x.1,x.2.1,(ag .i64 (x.2.2.1+1)),x.2.2.2.1,x.2.2.2.2.1,x.2.2.2.2.2.1,(x.2.2.2.2.2.2++([((ag .i64 ((-1) - e31)),([(ag .i64 ((-1) - ((af x.2.2.2.2.2.2:Nat):Int)))]:List Int))]:List (Int×jI)))))
    (none))
   (rec (x.1,x.2.1,(ag .i64 (x.2.2.1+1)),x.2.2.2.1,x.2.2.2.2.1,x.2.2.2.2.2.1,x.2.2.2.2.2.2)))
  (rec (x.1,x.2.1,(ag .i64 (x.2.2.1+1)),x.2.2.2.1,x.2.2.2.2.1,x.2.2.2.2.2.1,x.2.2.2.2.2.2)))
 (some x.2.2.2.2.2.2)
def tN (rec:(Int×Bool×Int×jQ×jR×jQ×jQ×jQ×jR)->Option (Bool×jQ×jQ×jR)) (x:(Int×Bool×Int×jQ×jR×jQ×jQ×jQ×jR)):Option (Bool×jQ×jQ×jR) :=
 cond (decide (x.2.2.1<((af x.2.2.2.2.2.2.2.2:Nat):Int)))
 (cond x.2.1
  (rec (x.1,true,(ag .i64 (x.2.2.1+1)),x.2.2.2.1,x.2.2.2.2.1,x.2.2.2.2.2.1,x.2.2.2.2.2.2.1,x.2.2.2.2.2.2.2.1,x.2.2.2.2.2.2.2.2))
  ((inR x.2.2.1 (af x.2.2.2.2.2.2.2.2)).bind fun k9 =>
   (x.2.2.2.2.2.2.2.2[k9]?).bind fun x10 =>
   (gx x.2.2.2.2.1 x.1).bind fun e11 =>
   (vd x10 e11).bind fun r12 =>
   rec (x.1,r12,(ag .i64 (x.2.2.1+1)),x.2.2.2.1,x.2.2.2.2.1,x.2.2.2.2.2.1,x.2.2.2.2.2.2.1,x.2.2.2.2.2.2.2.1,x.2.2.2.2.2.2.2.2)))
 (some (x.2.1,x.2.2.2.2.2.2.1,x.2.2.2.2.2.2.2.1,x.2.2.2.2.2.2.2.2))
def rR (rec:(jR×Int×jQ×jR×jQ×(List (Int×jI)))->Option (List (Int×jI))) (x:(jR×Int×jQ×jR×jQ×(List (Int×jI)))):Option (List (Int×jI)) :=
 cond (decide (x.2.1<((af x.1:Nat):Int)))
 (((lp uQ ze) (x.1,x.2.1,0,x.2.2.1,x.2.2.2.1,x.2.2.2.2.1,x.2.2.2.2.2)).bind fun r35 =>
  rec (x.1,(ag .i64 (x.2.1+1)),x.2.2.1,x.2.2.2.1,x.2.2.2.2.1,r35))
 (some x.2.2.2.2.2)
def rS (rec:(Int×jQ×jR×jQ×jQ×jQ×jR)->Option (jQ×jQ×jR)) (x:(Int×jQ×jR×jQ×jQ×jQ×jR)):Option (jQ×jQ×jR) :=
 cond (decide (x.1<((af x.2.2.1:Nat):Int)))
 (((lp tN ze) (x.1,false,0,x.2.1,x.2.2.1,x.2.2.2.1,x.2.2.2.2.1,x.2.2.2.2.2.1,x.2.2.2.2.2.2)).bind fun r17 =>
  cond (!r17.1)
  ((gx x.2.2.1 x.1).bind fun e18 =>
   cond (yp (af r17.2.2.2+af ([e18]:List jI)) 24)
   (rec ((ag .i64 (x.1+1)),x.2.1,x.2.2.1,x.2.2.2.1,r17.2.1,r17.2.2.1,(r17.2.2.2++([e18]:List jI))))
   (none))
  (rec ((ag .i64 (x.1+1)),x.2.1,x.2.2.1,x.2.2.2.1,r17.2.1,r17.2.2.1,r17.2.2.2)))
 (some (x.2.2.2.2.1,x.2.2.2.2.2.1,x.2.2.2.2.2.2))
def JI (a0:jQ) (a1:jR) (a2:jQ):Option (jQ×jR×jQ) :=
 (Wk a0).bind fun r38 =>
 (Wk a2).bind fun r39 =>
 ((lp rS ze) (0,a0,a1,a2,r38,r39,([]:jR))).bind fun r40 =>
 (Qc r40.1 r40.2.2 r40.2.1).bind fun r41 =>
 ((lp rR ze) (r41,0,r40.1,r40.2.2,r40.2.1,([]:(List (Int×jI))))).bind fun r42 =>
 (rN r42 r40.1 r40.2.2 r40.2.1).bind fun r43 =>
 some (r43.1,r43.2.1,r43.2.2)
def kF (a0:jS) (a1:(List (Int×jI))) (a2:jQ) (a3:jR) (a4:jQ):Option (jQ×jR×Bool×jQ) :=
 (rN a1 a2 a3 a4).bind fun r4 =>
 (jX a0 r4.1 r4.2.1 r4.2.2).bind fun r5 =>
 cond (!r5)
 (some (([]:jQ),([]:jR),false,([]:jQ)))
 ((JI r4.1 r4.2.1 r4.2.2).bind fun r6 =>
  some (r6.1,r6.2.1,true,r6.2.2))
def w7 (s1:Int):List (Int×jI)->Nat->Option (Unit⊕Int)
 | [],_i=>some (aT ())
 | e::es,i =>
  cond (e.1==s1)
  (some (aE (i:Int)))
  (w7 s1 es (i+1))
theorem W0 (s0:(List (Int×jI))) (s1:Int) (hl:af s0<=maxLen):lp ZL ze (s0,s1,0)=w7 s1 s0 0:=tw ZL (fun i=>(s0,s1,i)) (fun es i=>w7 s1 es i) hl (fun r i h=>by unfold ZL w7; simp only[h,cond_false]) (fun r i e es h g w k=>by unfold ZL w7; simp only[h,cond_true,g,aa,w,k])
def y0 (s0:(List (Int×jI))):List Int->jI->Option jI
 | [],s3=>some s3
 | e::es,s3 =>
  cond (decide (e<0))
  ((Vd s0 (ag .i64 ((-1) - e))).bind fun r18 =>
   cond (decide (r18<0))
   (cond (yp (af s3+af ([e]:List Int)) 8)
    (y0 s0 es (s3++([e]:List Int)))
    (none))
   ((gx s0 r18).bind fun e20 =>
    cond (yp (af s3+af e20.2) 8)
    (y0 s0 es (s3++e20.2))
    (none)))
  (cond (yp (af s3+af ([e]:List Int)) 8)
   (y0 s0 es (s3++([e]:List Int)))
   (none))
theorem Wu (s0:(List (Int×jI))) (s1:jI) (s3:jI) (hl:af s1<=maxLen):lp kW ze (s0,s1,0,s3)=y0 s0 s1 s3:=xR kW (fun i s3=>(s0,s1,i,s3)) (fun es i s3=>y0 s0 es s3) hl (fun r i s3 h=>by unfold kW y0; simp only[h,cond_false]) (fun r i s3 e es h g w k=>by unfold kW y0; simp only[h,cond_true,g,aa,w,k]) s3
def xA (s0:(List (Int×jI))) (s5:jQ) (s6:jR):List zc->jQ->Option (jQ×jR×jQ)
 | [],s7=>some (s5,s6,s7)
 | e::es,s7 =>
  (tt s0 e.2).bind fun r26 =>
  cond (yp (af s7+af ([(e.1,r26)]:List zc)) 32)
  (xA s0 s5 s6 es (s7++([(e.1,r26)]:List zc)))
  (none)
theorem Xy (s0:(List (Int×jI))) (s2:jQ) (s3:jR) (s4:jQ) (s5:jQ) (s6:jR) (s7:jQ) (hl:af s4<=maxLen):lp rJ ze (s0,0,s2,s3,s4,s5,s6,s7)=xA s0 s5 s6 s4 s7:=xR rJ (fun i s7=>(s0,i,s2,s3,s4,s5,s6,s7)) (fun es i s7=>xA s0 s5 s6 es s7) hl (fun r i s7 h=>by unfold rJ xA; simp only[h,cond_false]) (fun r i s7 e es h g w k=>by unfold rJ xA; simp only[h,cond_true,g,aa,w,k]) s7
def xm (s0:(List (Int×jI))) (s5:jQ):List jI->jR->Option (jQ×jR)
 | [],s6=>some (s5,s6)
 | e::es,s6 =>
  (tt s0 e).bind fun r16 =>
  cond (yp (af s6+af ([r16]:List jI)) 24)
  (xm s0 s5 es (s6++([r16]:List jI)))
  (none)
theorem XU (s0:(List (Int×jI))) (s2:jQ) (s3:jR) (s4:jQ) (s5:jQ) (s6:jR) (hl:af s3<=maxLen):lp rG ze (s0,0,s2,s3,s4,s5,s6)=xm s0 s5 s3 s6:=xR rG (fun i s6=>(s0,i,s2,s3,s4,s5,s6)) (fun es i s6=>xm s0 s5 es s6) hl (fun r i s6 h=>by unfold rG xm; simp only[h,cond_false]) (fun r i s6 e es h g w k=>by unfold rG xm; simp only[h,cond_true,g,aa,w,k]) s6
def xt (s0:(List (Int×jI))):List zc->jQ->Option jQ
 | [],s5=>some s5
 | e::es,s5 =>
  (tt s0 e.2).bind fun r9 =>
  cond (yp (af s5+af ([(e.1,r9)]:List zc)) 32)
  (xt s0 es (s5++([(e.1,r9)]:List zc)))
  (none)
theorem XF (s0:(List (Int×jI))) (s2:jQ) (s3:jR) (s4:jQ) (s5:jQ) (hl:af s2<=maxLen):lp rV ze (s0,0,s2,s3,s4,s5)=xt s0 s2 s5:=xR rV (fun i s5=>(s0,i,s2,s3,s4,s5)) (fun es i s5=>xt s0 es s5) hl (fun r i s5 h=>by unfold rV xt; simp only[h,cond_false]) (fun r i s5 e es h g w k=>by unfold rV xt; simp only[h,cond_true,g,aa,w,k]) s5
def qy (s0:Int):List Int->(List (Int×jI))->Option ((List (Int×jI))⊕Bool)
 | [],s6=>some (aT s6)
 | e::es,s6 =>
  cond (decide ((ag .i64 (e+s0))>23))
  (some (aE false))
  (cond (yp (af s6+af ([(e,([(ag .i64 ((ag .i64 ((-1) - e)) - s0))]:List Int))]:List (Int×jI))) 32)
   (qy s0 es (s6++([(e,([(ag .i64 ((ag .i64 ((-1) - e)) - s0))]:List Int))]:List (Int×jI))))
   (none))
theorem Qa (s0:Int) (s1:jI) (s3:jQ) (s4:jR) (s5:jQ) (s6:(List (Int×jI))) (hl:af s1<=maxLen):lp vf ze (s0,s1,0,s3,s4,s5,s6)=qy s0 s1 s6:=xR vf (fun i s6=>(s0,s1,i,s3,s4,s5,s6)) (fun es i s6=>qy s0 es s6) hl (fun r i s6 h=>by unfold vf qy; simp only[h,cond_false]) (fun r i s6 e es h g w k=>by unfold vf qy; simp only[h,cond_true,g,aa,w,k]) s6
def ww (s1:jI):List Int->Nat->Option (Unit⊕Bool)
 | [],_i=>some (aT ())
 | e::es,i =>
  (gx s1 (i:Int)).bind fun e4 =>
  cond (e != e4)
  (some (aE false))
  (ww s1 es (i+1))
theorem XX (s0:jI) (s1:jI) (hl:af s0<=maxLen):lp rM ze (s0,s1,0)=ww s1 s0 0:=tw rM (fun i=>(s0,s1,i)) (fun es i=>ww s1 es i) hl (fun r i h=>by unfold rM ww; simp only[h,cond_false]) (fun r i e es h g w k=>by unfold rM ww; simp only[h,cond_true,g,aa,w,k])
def zF (rf:((Int×jI×jR)->Option Bool)) (s0:Int) (s3:jR):List Int->Option (Unit⊕Bool)
 | []=>some (aT ())
 | e::es =>
  cond (decide (e≥0))
  (zF rf s0 s3 es)
  (cond ((ag .i64 ((-1) - e))==s0)
   (some (aE true))
   ((inR (ag .i64 ((-1) - e)) 48).bind fun k10 =>
    (s3[k10]?).bind fun x11 =>
    cond (decide (((af x11:Nat):Int)>0))
    ((inR (ag .i64 ((-1) - e)) 48).bind fun k12 =>
     (s3[k12]?).bind fun x13 =>
     (rf (s0,x13,s3)).bind fun r14 =>
     cond r14
     (some (aE true))
     (zF rf s0 s3 es))
    (zF rf s0 s3 es)))
theorem je (rf:((Int×jI×jR)->Option Bool)) (s0:Int) (s1:jI) (s3:jR) (hl:af s1<=maxLen):lp (xQ rf) ze (s0,s1,0,s3)=zF rf s0 s3 s1:=tw (xQ rf) (fun i=>(s0,s1,i,s3)) (fun es i=>zF rf s0 s3 es) hl (fun r i h=>by unfold xQ zF; simp only[h,cond_false]) (fun r i e es h g w k=>by unfold xQ zF; simp only[h,cond_true,g,aa,w,k])
def zS (rf:(((jS×jI×jI×jR)->Option (Bool×jR))×((jS×jR×jR×jR)->Option (Bool×jR)))) (s0:jS) (s2:jR):List jI->Nat->jR->Option (jR⊕(Bool×jR))
 | [],_i,s4=>some (aT s4)
 | e::es,i,s4 =>
  (gx s2 (i:Int)).bind fun e8 =>
  (rf.1 (s0,e,e8,s4)).bind fun r9 =>
  cond (!r9.1)
  (some (aE (false,r9.2)))
  (zS rf s0 s2 es (i+1) r9.2)
theorem jy (rf:(((jS×jI×jI×jR)->Option (Bool×jR))×((jS×jR×jR×jR)->Option (Bool×jR)))) (s0:jS) (s1:jR) (s2:jR) (s4:jR) (hl:af s1<=maxLen):lp (wz rf) ze (s0,s1,s2,0,s4)=zS rf s0 s2 s1 0 s4:=xR (wz rf) (fun i s4=>(s0,s1,s2,i,s4)) (fun es i s4=>zS rf s0 s2 es i s4) hl (fun r i s4 h=>by unfold wz zS; simp only[h,cond_false]) (fun r i s4 e es h g w k=>by unfold wz zS; simp only[h,cond_true,g,aa,w,k]) s4
def zB (rf:((jI×jR×jI)->Option jI)) (s2:jR):List Int->jI->Option jI
 | [],s3=>some s3
 | e::es,s3 =>
  cond (decide (((af s3:Nat):Int)<=48))
  (cond (decide (e<0))
   ((inR (ag .i64 ((-1) - e)) 48).bind fun k21 =>
    (s2[k21]?).bind fun x22 =>
    cond (decide (((af x22:Nat):Int)>0))
    ((inR (ag .i64 ((-1) - e)) 48).bind fun k24 =>
     (s2[k24]?).bind fun x25 =>
     (rf (x25,s2,s3)).bind fun r26 =>
     zB rf s2 es r26)
    (cond (yp (af s3+af ([e]:List Int)) 8)
     (zB rf s2 es (s3++([e]:List Int)))
     (none)))
   (cond (yp (af s3+af ([e]:List Int)) 8)
    (zB rf s2 es (s3++([e]:List Int)))
    (none)))
  (some s3)
theorem jt (rf:((jI×jR×jI)->Option jI)) (s0:jI) (s2:jR) (s3:jI) (hl:af s0<=maxLen):lp (xN rf) ze (s0,0,s2,s3)=zB rf s2 s0 s3:=xR (xN rf) (fun i s3=>(s0,i,s2,s3)) (fun es i s3=>zB rf s2 es s3) hl (fun r i s3 h=>by unfold xN zB; simp only[h,cond_false]) (fun r i s3 e es h g w k=>by unfold xN zB; simp only[h,cond_true,g,aa,w,k]) s3
def qD (s0:jQ) (s1:Int) (s4:jQ):List zc->Nat->Bool->Option (Bool×jQ)
 | [],_i,s2=>some (s2,s4)
 | _e::es,i,s2 =>
  cond s2
  (qD s0 s1 s4 es (i+1) true)
  ((inR (i:Int) (af s4)).bind fun k7 =>
   (s4[k7]?).bind fun x8 =>
   (gx s0 s1).bind fun e9 =>
   (jF x8.1 x8.2 e9.1 e9.2).bind fun r10 =>
   qD s0 s1 s4 es (i+1) r10)
theorem X2 (s0:jQ) (s1:Int) (s4:jQ) (s2:Bool) (hl:af s4<=maxLen):lp tR ze (s0,s1,s2,0,s4)=qD s0 s1 s4 s4 0 s2:=xR tR (fun i s2=>(s0,s1,s2,i,s4)) (fun es i s2=>qD s0 s1 s4 es i s2) hl (fun r i s2 h=>by unfold tR qD; simp only[h,cond_false]) (fun r i s2 e es h _ w k=>by unfold tR qD; simp only[h,cond_true,w,k]) s2
def xz (s0:jQ):List zc->Nat->jQ->Option jQ
 | [],_i,s2=>some s2
 | e::es,i,s2 =>
  ((lp tR ze) (s0,(i:Int),false,0,s2)).bind fun r13 =>
  cond (!r13.1)
  (cond (yp (af r13.2+af ([(e.1,e.2)]:List zc)) 32)
   (xz s0 es (i+1) (r13.2++([(e.1,e.2)]:List zc)))
   (none))
  (xz s0 es (i+1) r13.2)
theorem X6 (s0:jQ) (s2:jQ) (hl:af s0<=maxLen):lp rz ze (s0,0,s2)=xz s0 s0 0 s2:=xR rz (fun i s2=>(s0,i,s2)) (fun es i s2=>xz s0 es i s2) hl (fun r i s2 h=>by unfold rz xz; simp only[h,cond_false]) (fun r i s2 e es h g w k=>by unfold rz xz; simp only[h,cond_true,g,aa,w,k]) s2
def qL (s0:Int) (s4:jR) (s6:jQ) (s7:jQ) (s8:jR):List jI->Nat->Bool->Option (Bool×jQ×jQ×jR)
 | [],_i,s1=>some (s1,s6,s7,s8)
 | _e::es,i,s1 =>
  cond s1
  (qL s0 s4 s6 s7 s8 es (i+1) true)
  ((inR (i:Int) (af s8)).bind fun k9 =>
   (s8[k9]?).bind fun x10 =>
   (gx s4 s0).bind fun e11 =>
   (vd x10 e11).bind fun r12 =>
   qL s0 s4 s6 s7 s8 es (i+1) r12)
theorem XG (s0:Int) (s3:jQ) (s4:jR) (s5:jQ) (s6:jQ) (s7:jQ) (s8:jR) (s1:Bool) (hl:af s8<=maxLen):lp tN ze (s0,s1,0,s3,s4,s5,s6,s7,s8)=qL s0 s4 s6 s7 s8 s8 0 s1:=xR tN (fun i s1=>(s0,s1,i,s3,s4,s5,s6,s7,s8)) (fun es i s1=>qL s0 s4 s6 s7 s8 es i s1) hl (fun r i s1 h=>by unfold tN qL; simp only[h,cond_false]) (fun r i s1 e es h _ w k=>by unfold tN qL; simp only[h,cond_true,w,k]) s1
def wm (s0:jR) (s2:jQ) (s3:jR) (s4:jQ):List jI->Nat->(List (Int×jI))->Option (List (Int×jI))
 | [],_i,s5=>some s5
 | _e::es,i,s5 =>
  ((lp uQ ze) (s0,(i:Int),0,s2,s3,s4,s5)).bind fun r35 =>
  wm s0 s2 s3 s4 es (i+1) r35
theorem XR (s0:jR) (s2:jQ) (s3:jR) (s4:jQ) (s5:(List (Int×jI))) (hl:af s0<=maxLen):lp rR ze (s0,0,s2,s3,s4,s5)=wm s0 s2 s3 s4 s0 0 s5:=xR rR (fun i s5=>(s0,i,s2,s3,s4,s5)) (fun es i s5=>wm s0 s2 s3 s4 es i s5) hl (fun r i s5 h=>by unfold rR wm; simp only[h,cond_false]) (fun r i s5 e es h _ w k=>by unfold rR wm; simp only[h,cond_true,w,k]) s5
def xy (s1:jQ) (s2:jR) (s3:jQ):List jI->Nat->jQ->jQ->jR->Option (jQ×jQ×jR)
 | [],_i,s4,s5,s6=>some (s4,s5,s6)
 | e::es,i,s4,s5,s6 =>
  ((lp tN ze) ((i:Int),false,0,s1,s2,s3,s4,s5,s6)).bind fun r17 =>
  cond (!r17.1)
  (cond (yp (af r17.2.2.2+af ([e]:List jI)) 24)
   (xy s1 s2 s3 es (i+1) r17.2.1 r17.2.2.1 (r17.2.2.2++([e]:List jI)))
   (none))
  (xy s1 s2 s3 es (i+1) r17.2.1 r17.2.2.1 r17.2.2.2)
theorem Xu (s1:jQ) (s2:jR) (s3:jQ) (s4:jQ) (s5:jQ) (s6:jR) (hl:af s2<=maxLen):lp rS ze (0,s1,s2,s3,s4,s5,s6)=xy s1 s2 s3 s2 0 s4 s5 s6:=Hd rS (fun i s4 s5 s6=>(i,s1,s2,s3,s4,s5,s6)) (fun es i s4 s5 s6=>xy s1 s2 s3 es i s4 s5 s6) hl (fun r i s4 s5 s6 h=>by unfold rS xy; simp only[h,cond_false]) (fun r i s4 s5 s6 e es h g w k=>by unfold rS xy; simp only[h,cond_true,g,aa,w,k]) s4 s5 s6
theorem Es (b:List Int):(es:List Int)->(i:Nat)->i+es.length=b.length->ww b es i=some (cond (decide (es=b.drop i)) (.inl ()) (.inr false))
 | [],i,h=>by
  rw[List.drop_of_length_le (by simp at h; omega)]
  rfl
 | e::es,i,h=>by
  simp only[ak] at h;obtain⟨x,hx⟩:∃ x,b[i]? = some x:=⟨_,al (by omega)⟩
  have hd:b.drop i=x::b.drop (i+1):=by
   have h1:=(au.1 hx).1;rw[aX h1];rw[(au.1 hx).2]
  unfold ww;rw[yH,hx,aa,Es b es (i+1) (by omega),hd]
  by_cases he:e=x
  ·subst he;rw[show (e != e)=false from by simp,cond_false]
   simp
  ·rw[show (e != x)=true from by simp [he],cond_true]
   simp [he]
theorem Yw {a b:List Int} (h:a.length<=1000000):vd a b=some (decide (a=b)):=by
 unfold vd;by_cases hl:a.length=b.length
 ·rw[show (((af a:Nat):Int) != ((af b:Nat):Int))=false from by simp [hl],cond_false,XX _ _ (by unfold maxLen; omega),Es b a 0 (by omega),aa,bM]
  cases decide (a=b)<;>rfl
 ·rw[show (((af a:Nat):Int) != ((af b:Nat):Int))=true from by simp; omega,cond_true]
  have:a≠b:=fun e=>hl (by rw[e])
  simp [this]
def za9 (o:Option Tm):List Int:=match o with
 | none=>[]
 | some t=>t.codes
structure RepW (a0:List zg) (w:List jI) (B:Bd):Prop where
 len:w.length=48
 at_:∀ x,x<48->w[x]? = some (za9 (B x))
 ok:∀ x t,B x=some t->x<24∧t.ok a0 24∧t.codes.length<=48
theorem RepW.small {a0:List zg} {w:List jI} {B:Bd} (h:RepW a0 w B):V1 B:=fun x t ht=>by
 obtain⟨h1,h2,h3⟩:=h.ok x t ht;rw[Tm.codes_len] at h3;exact ⟨by omega,h3⟩
theorem RepW.set {a0:List zg} {w:List jI} {B:Bd} (h:RepW a0 w B) {x:Nat} (hx:x<24) {t:Tm} (ht:t.ok a0 24) (hl:t.codes.length<=48):RepW a0 (w.set x t.codes) (PN B x t) where
 len:=by rw[cg]; exact h.len
 at_:=fun y hy=>by
  have:=h.len;by_cases he:y=x
  ·subst he;rw[bZ (by omega),rX]
   rfl
  ·rw[cw (dB he),Yh _ _ he];exact h.at_ y hy
 ok:=fun y u hy=>by
  by_cases he:y=x
  ·subst he;rw[rX] at hy;injection hy with hy;subst hy;exact ⟨hx,ht,hl⟩
  ·rw[Yh _ _ he] at hy;exact h.ok y u hy
theorem uf (t:Tm):0<t.codes.length:=by rw[Tm.codes_len]; exact t.size_pos
section
variable {a0:List zg} {w:List jI} {B:Bd} {σ:Sb} (hT:RepW a0 w B) (hG:Good B σ)
include hT hG
theorem RM:∀(m k:Nat) (t:Tm),Xj t<=m->m<=k->t.ok a0 24->t.codes.length<=48 ->
  ∃ u:Tm,lp uH k (t.codes,w)=some u.codes∧u.ok a0 24∧u.codes.length<=48∧(∀ θ,SolB θ B->t.sub θ=u.sub θ)∧∀ y,u = .v y->B y=none:=by
 intro m
 induction m with
 | zero=>intro k t hm; cases t<;>simp [Xj] at hm
 | succ m ih =>
  intro k t hm hk ho hl;obtain⟨k,rfl⟩:∃ k',k=k'+1:=⟨k - 1,by omega⟩
  rw[zu];have key:=fun t (h1:Xj t<=m) h2 h3=>ih k t h1 (by omega) h2 h3
  generalize lp uH k=rec at key ⊢;unfold uH;cases t with
  | v x =>
   have hx:x<24:=ho;have hc:(Tm.v x).codes=[-1 - (x:Int)]:=rfl;have w1:ag .i64 ((-1) - (-1 - (x:Int)))=(x:Int):=by rw[zp]<;>omega
   rw[hc];simp only[ak,bb,yc,aB,aa,w1];rw[show ((((0+1:Nat):Int))==1)=true from rfl,cond_true,decide_eq_true (show -1 - (x:Int)<0 by omega),cond_true,yN (show x<48 by omega),aa,hT.at_ x (by omega),aa]
   cases hb:B x with
   | none =>
    refine ⟨.v x,rfl,ho,hl,fun θ _=>rfl,fun y hy=>by injection hy with hy; rw[← hy]; exact hb⟩
   | some u =>
    obtain⟨-,h2,h3⟩:=hT.ok x u hb;have hp:=uf u;show ∃ u1,(cond (decide (((af u.codes:Nat):Int)>0)) _ _)=_∧_;rw[decide_eq_true (show ((af u.codes:Nat):Int)>0 by omega),cond_true]
    obtain⟨u',g1,g2,g3,g4,g5⟩:=key u (by
     cases u with
     | v y=>have:=hG.down _ y hb; simp only[Xj] at hm ⊢; omega
     | f c as=>simp only[Xj] at hm ⊢; omega) h2 h3
    refine ⟨u',?_,g2,g3,fun θ hθ=>(hθ _ u hb).trans (g4 θ hθ),g5⟩;show (w[x]?).bind _=_;rw[hT.at_ x (by omega),hb]
    exact g1
  | f c as =>
   refine ⟨.f c as,?_,ho,hl,fun θ _=>rfl,fun y hy=>by cases hy⟩
   have hc:(Tm.f c as).codes=(c:Int)::za as:=rfl;rw[hc];simp only[yc,aB,aa];rw[decide_eq_false (show ¬(c:Int)<0 by omega),cond_false]
   cases (((af ((c:Int)::za as):Nat):Int)==1)<;>rfl
theorem BP {t:Tm} (ho:t.ok a0 24) (hl:t.codes.length<=48) :
  ∃ u:Tm,sj t.codes w=some u.codes∧u.ok a0 24∧u.codes.length<=48∧(∀ θ,SolB θ B->t.sub θ=u.sub θ)∧∀ y,u = .v y->B y=none:=by
 obtain⟨u,h1,h2⟩:=RM hT hG (Xj t) ze t (aF _) (by
  cases t with
  | v x=>have:x<24:=ho; simp only[Xj]; unfold ze; omega
  | f c as=>simp only[Xj]; unfold ze; omega) ho hl
 refine ⟨u,?_,h2⟩;unfold sj;rw[h1];rfl
theorem FF {v:Nat} (hv0:B v=none):∀(k m:Nat) (es:List Int),(∀ c∈es,-24<=c)->es.length<=1000->(∀ c∈es,c<0->B (-1 - c).toNat≠none->Good.rank σ (-1 - c).toNat<m)->m<k ->
  ∃ b,wq k ((v:Int),es,w)=some b∧(b=true↔∃ c∈es,c<0∧(σ (-1 - c).toNat).has v):=by
 intro k
 induction k with
 | zero=>intro m es _ _ _ h; omega
 | succ k ih =>
  intro m es hc hl hr hm;show ∃ b,tz (wq k) (v:Int) es w=some b∧_;unfold tz;rw[je _ _ _ _ (by unfold maxLen; omega)]
  have go:∀ es:List Int,(∀ c∈es,-24<=c)->(∀ c∈es,c<0->B (-1 - c).toNat≠none->Good.rank σ (-1 - c).toNat<m) ->
    ∃ b,zF (wq k) (v:Int) w es=some (cond b (.inr true) (.inl ()))∧(b=true↔∃ c∈es,c<0∧(σ (-1 - c).toNat).has v):=by
   intro es
   induction es with
   | nil=>intro _ _; exact ⟨false,rfl,by simp⟩
   | cons e es ihe =>
    intro hc hr;obtain⟨b,g1,g2⟩:=ihe (fun c h=>hc c (ai _ h)) fun c h=>hr c (ai _ h);have he:=hc e (aj ..);unfold zF;by_cases h0:e≥0
    ·rw[decide_eq_true h0,cond_true];refine ⟨b,g1,g2.trans ?_⟩;constructor
     ·rintro⟨c,h1,h2⟩; exact ⟨c,ai _ h1,h2⟩
     ·rintro⟨c,h1,h2,h3⟩;rcases aD.1 h1 with rfl | h1
      ·omega
      ·exact ⟨c,h1,h2,h3⟩
    ·rw[decide_eq_false h0,cond_false];obtain⟨u,rfl⟩:∃ u:Nat,e = -1 - (u:Int):=⟨(-1 - e).toNat,by omega⟩
     have hu:u<24:=by omega
     have hn:(-1 - (-1 - (u:Int))).toNat=u:=by omega
     have w1:ag .i64 ((-1) - (-1 - (u:Int)))=(u:Int):=by rw[zp]<;>omega
     rw[w1];by_cases huv:u=v
     ·subst huv;rw[show (((u:Nat):Int)==((u:Nat):Int))=true from by simp,cond_true]
      exact ⟨true,rfl,⟨fun _=>⟨_,aj ..,by omega,by rw[hn,hG.free _ hv0]; rfl⟩,fun _=>rfl⟩⟩
     ·rw[show (((u:Nat):Int)==((v:Nat):Int))=false from by simp; omega,cond_false]
      simp only[yN (show u<48 by omega),aa,hT.at_ u (by omega)]
      cases hb:B u with
      | none =>
       show ∃ b,(cond (decide (((af ([]:List Int):Nat):Int)>0)) _ _)=_∧_;refine ⟨b,g1,g2.trans ?_⟩;constructor
       ·rintro⟨c,h1,h2⟩; exact ⟨c,ai _ h1,h2⟩
       ·rintro⟨c,h1,h2,h3⟩;rcases aD.1 h1 with rfl | h1
        ·rw[hn,hG.free _ hb] at h3;have h3:u=v:=h3;exact absurd h3 huv
        ·exact ⟨c,h1,h2,h3⟩
      | some t =>
       obtain⟨-,h2,h3⟩:=hT.ok u t hb;have hp:=uf t;show ∃ b,(cond (decide (((af t.codes:Nat):Int)>0)) _ _)=_∧_;rw[decide_eq_true (show ((af t.codes:Nat):Int)>0 by omega),cond_true]
       have hcodes:∀ c∈t.codes,-24<=c∧(c<0->t.has (-1 - c).toNat):=fun c hcm=>by
        have h1:c∈za [t]:=by simp [za,hcm]
        by_cases hc0:c<0
        ·have h4:=(kG hc0 [t]).1 h1;have h5:t.has (-1 - c).toNat:=by rcases h4 with h4 | h4; exact h4; exact absurd h4 (by simp [Zm])
         have h6:=Tm.ok_has t h2 h5;exact ⟨by omega,fun _=>h5⟩
        ·exact ⟨by omega,fun h=>absurd h hc0⟩
       obtain⟨b1,k1,k2⟩:=ih (Good.rank σ u) t.codes (fun c h=>(hcodes c h).1) (by omega) (fun c hcm h0 _=>hG.rank_lt hb ((hcodes c hcm).2 h0) (by have:=(hcodes c hcm).1; omega)) (by
        have:=hr _ (aj ..) (by omega) (by rw[hn,hb]; simp)
        rw[hn] at this;omega)
       have k1:wq k ((v:Int),za9 (some t),w)=some b1:=k1;rw[k1,aa];have hb1:b1=true↔(σ u).has v:=by
        rw[k2,hG.bound u t hb,Tm.has_sub];constructor
        ·rintro⟨c,h4,h5,h6⟩;exact ⟨_,(hcodes c h4).2 h5,h6⟩
        ·rintro⟨y,h4,h5⟩;refine ⟨-1 - (y:Int),?_,by omega,by rw[show (-1 - (-1 - (y:Int))).toNat=y by omega]; exact h5⟩
         have:=(kG (c := -1 - (y:Int)) (by omega) [t]).2 (by rw[show (-1 - (-1 - (y:Int))).toNat=y by omega]; exact .inl h4)
         simpa[za] using this
       cases b1 with
       | true =>
        refine ⟨true,rfl,⟨fun _=>⟨_,aj ..,by omega,?_⟩,fun _=>rfl⟩⟩
        rw[hn];exact hb1.1 rfl
       | false =>
        refine ⟨b,g1,g2.trans ?_⟩;constructor
        ·rintro⟨c,h1,h2⟩; exact ⟨c,ai _ h1,h2⟩
        ·rintro⟨c,h1,h2,h3⟩;rcases aD.1 h1 with rfl | h1
         ·rw[hn] at h3;exact absurd (hb1.2 h3) (by simp)
         ·exact ⟨c,h1,h2,h3⟩
  obtain⟨b,g1,g2⟩:=go es hc hr;rw[g1,aa];exact ⟨b,by cases b<;>rfl,g2⟩
end
structure Qf (out E r:List Int):Prop where
 fits:out.length+E.length<=48->r=out++E
 over:48<out.length+E.length->48<r.length
 len:r.length<=max out.length 49
theorem Qf.step {out E1 E2 r1 r:List Int} (h:Qf out E1 r1) (h':Qf r1 E2 r):Qf out (E1++E2) r where
 fits:=fun hl=>by
  rw[am] at hl;have e:=h.fits (by omega)
  have e2:=h'.fits (by rw[e,am]; omega)
  rw[e2,e,aU]
 over:=fun hl=>by
  rw[am] at hl;by_cases h1:out.length+E1.length<=48
  ·have e:=h.fits h1;refine h'.over ?_;rw[e,am]; omega
  ·exact h'.over (by have:=h.over (by omega); omega)
 len:=by have:=h.len; have:=h'.len; omega
theorem Qf.full {out E:List Int} (h:48<out.length):Qf out E out:=⟨fun hl=>by omega,fun _=>h,by omega⟩
theorem Qf.one {out:List Int} (c:Int) (h:out.length<=48):Qf out [c] (out++[c]):=⟨fun _=>rfl,fun hl=>by rw[am]; exact hl,by rw[am]; simp; omega⟩
theorem Qf.nil (out:List Int):Qf out [] out:=⟨fun _=>by simp,fun h=>by simpa using h,by omega⟩
theorem ZC {a0:List zg} {t:Tm} (ho:t.ok a0 24):∀ c∈t.codes,-24<=c∧(c<0->t.has (-1 - c).toNat):=fun c hcm=>by
 by_cases hc0:c<0
 ·have h5:=(Tm.mem_codes hc0 t).1 hcm;have h6:=Tm.ok_has t ho h5;exact ⟨by omega,fun _=>h5⟩
 ·exact ⟨by omega,fun h=>absurd h hc0⟩
section
variable {a0:List zg} {w:List jI} {B:Bd} {σ:Sb} (hT:RepW a0 w B) (hG:Good B σ)
include hT hG
theorem Rp:∀(k m:Nat) (es out:List Int),(∀ c∈es,-24<=c)->es.length<=1000->(∀ c∈es,c<0->B (-1 - c).toNat≠none->Good.rank σ (-1 - c).toNat<m)->m<k->out.length<=1000 ->
  ∃ r,xf k (es,w,out)=some r∧Qf out (es.flatMap (Yj σ)) r:=by
 intro k
 induction k with
 | zero=>intro m es out _ _ _ h; omega
 | succ k ih =>
  intro m es out hc hl hr hm ho;show ∃ r,tD (xf k) es w out=some r∧_;unfold tD;rw[jt _ _ _ _ (by unfold maxLen; omega)]
  have go:∀(es out:List Int),(∀ c∈es,-24<=c)->(∀ c∈es,c<0->B (-1 - c).toNat≠none->Good.rank σ (-1 - c).toNat<m)->out.length<=1000 ->
    ∃ r,zB (xf k) w es out=some r∧Qf out (es.flatMap (Yj σ)) r:=by
   intro es
   induction es with
   | nil=>intro out _ _ _; exact ⟨out,rfl,Qf.nil out⟩
   | cons e es ihe =>
    intro out hc hr ho;have ihe:=fun out ho=>ihe out (fun c h=>hc c (ai _ h)) (fun c h=>hr c (ai _ h)) ho;have he:=hc e (aj ..);unfold zB;by_cases h48:out.length<=48
    ·rw[decide_eq_true (show ((af out:Nat):Int)<=48 by omega),cond_true,br]
     have plain:Yj σ e=[e]->∃ r,(cond (yp (af out+af ([e]:List Int)) 8) (zB (xf k) w es (out++([e]:List Int))) none)=some r∧Qf out (Yj σ e++es.flatMap (Yj σ)) r:=fun hx=>by
      obtain⟨r,g1,g2⟩:=ihe (out++[e]) (by simp; omega)
      rw[zk (by simp; omega),cond_true,g1,hx]
      exact ⟨r,rfl,(Qf.one e h48).step g2⟩
     by_cases h0:e<0
     ·rw[decide_eq_true h0,cond_true];obtain⟨u,rfl⟩:∃ u:Nat,e = -1 - (u:Int):=⟨(-1 - e).toNat,by omega⟩
      have hu:u<24:=by omega
      have hn:(-1 - (-1 - (u:Int))).toNat=u:=by omega
      have w1:ag .i64 ((-1) - (-1 - (u:Int)))=(u:Int):=by rw[zp]<;>omega
      rw[w1];simp only[yN (show u<48 by omega),aa,hT.at_ u (by omega)]
      cases hb:B u with
      | none =>
       show ∃ r,(cond (decide (((af ([]:List Int):Nat):Int)>0)) _ _)=_∧_;refine plain ?_;unfold Yj;rw[if_pos h0,hn,hG.free u hb];rfl
      | some t =>
       obtain⟨-,h2,h3⟩:=hT.ok u t hb;have hp:=uf t;show ∃ r,(cond (decide (((af t.codes:Nat):Int)>0)) _ _)=_∧_;rw[decide_eq_true (show ((af t.codes:Nat):Int)>0 by omega),cond_true]
       have hcodes:=ZC h2;obtain⟨r1,k1,k2⟩:=ih (Good.rank σ u) t.codes out (fun c h=>(hcodes c h).1) (by omega) (fun c hcm h0 _=>hG.rank_lt hb ((hcodes c hcm).2 h0) (by have:=(hcodes c hcm).1; omega)) (by
        have:=hr _ (aj ..) (by omega) (by rw[hn,hb]; simp)
        rw[hn] at this;omega) ho
       have k1:xf k (za9 (some t),w,out)=some r1:=k1;rw[k1,aa];obtain⟨r,g1,g2⟩:=ihe r1 (by have:=k2.len; omega)
       refine ⟨r,g1,Qf.step (r1:=r1) ?_ g2⟩;have:Yj σ (-1 - (u:Int))=t.codes.flatMap (Yj σ):=by
        unfold Yj;rw[if_pos h0,hn,hG.bound u t hb,Tm.codes_sub];rfl
       rw[this];exact k2
     ·rw[decide_eq_false h0,cond_false];refine plain ?_;unfold Yj;rw[if_neg h0]
    ·rw[decide_eq_false (show ¬((af out:Nat):Int)<=48 by omega),cond_false]
     exact ⟨out,rfl,Qf.full (by omega)⟩
  obtain⟨r,g1,g2⟩:=go es out hc hr ho;rw[g1,aa];exact ⟨r,rfl,g2⟩
theorem L3 {t:Tm} (ho:t.ok a0 24) (hl:t.codes.length<=48):∃ r,ra t.codes w []=some r∧Qf [] (t.sub σ).codes r:=by
 rw[Tm.codes_sub];refine Rp hT hG ze 100 t.codes [] (fun c h=>(ZC ho c h).1) (by omega) (fun c _ _ _ => ?_) (by unfold ze; omega) (by simp)
 have:=Good.rank_le σ (-1 - c).toNat;omega
theorem Az {v:Nat} (hv0:B v=none) {t:Tm} (ho:t.ok a0 24) (hl:t.codes.length<=48):∃ b,Zk (v:Int) t.codes w=some b∧(b=true↔(t.sub σ).has v):=by
 obtain⟨b,h1,h2⟩:=FF hT hG hv0 ze 100 t.codes (fun c h=>(ZC ho c h).1) (by omega) (fun c _ _ _=>by have:=Good.rank_le σ (-1 - c).toNat; omega) (by unfold ze; omega)
 refine ⟨b,h1,h2.trans ?_⟩;rw[Tm.has_sub];constructor
 ·rintro⟨c,h4,h5,h6⟩;exact ⟨_,(ZC ho c h4).2 h5,h6⟩
 ·rintro⟨y,h4,h5⟩;refine ⟨-1 - (y:Int),(Tm.mem_codes (by omega) t).2 (by rw[show (-1 - (-1 - (y:Int))).toNat=y by omega]; exact h4),by omega,by rw[show (-1 - (-1 - (y:Int))).toNat=y by omega]; exact h5⟩
end
structure OutW (a0:List zg) (B:Bd) (E:List (Tm×Tm)) (r:Bool×List jI):Prop where
 yes:r.1=true->∃ B' σ',RepW a0 r.2 B'∧Good B' σ'∧∀ θ,SolB θ B'↔SolB θ B∧Sol θ E
 no:r.1=false->∀ θ,SolB θ B->Sol θ E->False
theorem rb {θ:Sb} {t u:Tm}:Sol θ [(t,u)]↔t.sub θ=u.sub θ:=by simp [Sol]
theorem Ic {a0:List zg} {w:List jI} {B:Bd} {σ:Sb} (hT:RepW a0 w B) (hG:Good B σ) {x:Nat} (hx:x<24) (hb:B x=none) {c:Nat} {as:List Tm} (ho:(Tm.f c as).ok a0 24) (hl:(Tm.f c as).codes.length<=48) :
  ∃ r,zz [-1 - (x:Int)] (Tm.f c as).codes false w=some r∧OutW a0 B [(.v x,.f c as)] r:=by
 unfold zz;have w1:ag .i64 ((-1) - (-1 - (x:Int)))=(x:Int):=by rw[zp]<;>omega
 simp only[yc,aB,aa,cond_false,w1];obtain⟨b,h1,h2⟩:=Az hT hG hb ho hl;rw[h1,aa];cases b with
 | true =>
  refine ⟨_,rfl,⟨fun h=>(nomatch h),fun _ θ h3 h4=>hG.occurs (h2.1 rfl) h3 (rb.1 h4)⟩⟩
 | false =>
  simp only[cond_false,yN (show x<48 by omega),aa,hT.at_ x (by omega)]
  have hn:¬((Tm.f c as).sub σ).has x:=fun h=>by have:=h2.2 h; cases this
  refine ⟨_,rfl,⟨fun _=>⟨_,_,hT.set hx ho hl,hG.bind hb hn (fun y hy=>by cases hy),fun θ => ?_⟩,fun h=>(nomatch h)⟩⟩
  rw[SolB.upd hb,rb];rfl
theorem DB {a0:List zg} {w:List jI} {B:Bd} {σ:Sb} (hT:RepW a0 w B) (hG:Good B σ) {x y:Nat} (hx:x<24) (hy:y<x) (hbx:B x=none) (hby:B y=none) :
  ∃ r,zz [-1 - (y:Int)] [-1 - (x:Int)] true w=some r∧OutW a0 B [(.v x,.v y)] r:=by
 unfold zz;have w1:ag .i64 ((-1) - (-1 - (x:Int)))=(x:Int):=by rw[zp]<;>omega
 simp only[yc,aB,aa,cond_true,w1,yN (show x<48 by omega),hT.at_ x (by omega)]
 have hn:¬((Tm.v y).sub σ).has x:=by
  show ¬(σ y).has x;rw[hG.free y hby];intro h;have h:y=x:=h;omega
 have hset:RepW a0 (w.set x (Tm.v y).codes) (PN B x (.v y)):=hT.set hx (show y<24 by omega) (by show 1<=48; omega)
 refine ⟨_,rfl,⟨fun _=>⟨_,_,hset,hG.bind hbx hn (fun z hz=>by injection hz with hz; omega),fun θ => ?_⟩,fun h=>(nomatch h)⟩⟩
 rw[SolB.upd hbx,rb];rfl
theorem OutW.via {a0:List zg} {B:Bd} {E E':List (Tm×Tm)} {r:Bool×List jI} (h:OutW a0 B E r) (he:∀ θ,SolB θ B->(Sol θ E↔Sol θ E')):OutW a0 B E' r where
 yes:=fun hr=>by
  obtain⟨B',σ',h1,h2,h3⟩:=h.yes hr;exact ⟨B',σ',h1,h2,fun θ=>(h3 θ).trans ⟨fun ⟨a,b⟩=>⟨a,(he θ a).1 b⟩,fun ⟨a,b⟩=>⟨a,(he θ a).2 b⟩⟩⟩
 no:=fun hr θ h1 h2=>h.no hr θ h1 ((he θ h1).2 h2)
def Dep (R:List Tm) (B:Bd) (δ:Nat) (t:Tm):Prop:=∀ θ,SolB θ B->∃ c∈R,δ+(t.sub θ).ht<=(c.sub θ).ht
theorem Dep.mono {R:List Tm} {B B':Bd} {δ:Nat} {t:Tm} (h:Dep R B δ t) (hB:∀ θ,SolB θ B'->SolB θ B):Dep R B' δ t:=fun θ hθ=>h θ (hB θ hθ)
theorem Dep.lt {R:List Tm} {B:Bd} {σ:Sb} {δ:Nat} {t:Tm} (h:Dep R B δ t) (hG:Good B σ) (hS:V1 B) (hR:∀ c∈R,c.size<=48):δ<2500:=by
 obtain⟨c,hc,h1⟩:=h σ hG.bound;have h2:=Tm.ht_sub (s:=σ) (M:=49*49) c fun x _=>hG.low hS x;have h3:=c.ht_size;have h4:=hR c hc;have h5:=zdJ (t.sub σ);omega
end Go.Abs.Q
