import Derived.Test.YtgjajclncfhidaaGreatDoorQb
/-
  What the functions make of plain values, and what the law says of that.
-/
open Bool renaming and_eq_true -> ay, and_false -> cB, eq_iff_iff -> eg, false_and -> bt, false_or -> eG, not_false -> bE, not_true -> az, or_eq_true -> b9, true_and -> aN
open Eq renaming symm -> fQ
open Go.IntKind renaming wrap -> ag
open Int renaming eq_ofNat_of_zero_le -> dA, toNat_natCast -> bo, toNat_of_nonneg -> cy
open List renaming all_cons -> bX, all_eq_true -> aD, append_assoc -> aW, drop_eq_getElem_cons -> aY, drop_left -> dy, drop_zero -> bQ, find?_cons -> ef, flatMap_cons -> bv, foldl_append -> ff, getD_eq_getElem?_getD -> aE, getElem?_cons_zero -> aB, getElem?_eq_getElem -> al, getElem?_eq_some_iff -> aw, getElem?_map -> bh, getElem?_replicate -> bF, length -> af, length_append -> am, length_cons -> ak, length_map -> aF, length_nil -> bm, length_set -> bY, length_singleton -> aX, map -> cV, map_append -> cd, map_congr_left -> bx, map_cons -> aK, map_map -> cm, mem_append -> aI, mem_append_left -> bk, mem_append_right -> bp, mem_cons -> aG, mem_cons_of_mem -> ai, mem_cons_self -> aj, mem_iff_getElem -> cg, mem_map -> aR, mem_map_of_mem -> aZ, mem_of_getElem? -> aJ, mem_range -> bZ, mem_singleton -> bb, nil_append -> bl, pairwise_cons -> cA, range -> aL, replicate -> ax, set -> bw, zip_cons_cons -> el
open List.Pairwise renaming sublist -> ic
open Nat renaming le_refl -> aC, le_trans -> aT, reduceAdd -> gU, zero_add -> aP, zero_le -> bN
open Ne renaming symm -> dD
open Option renaming bind_eq_some_iff -> ah, bind_some -> aa, map_some -> bD
open Sum renaming inl -> aU, inr -> aH
namespace Go.Abs.Q
open Go Go.Abs
def kS (a0:jQ) (_a1:jR) (_a2:jQ) (a3:Int):Option Bool :=
 cond (decide (a3≥0))
 (some (decide (a3<((af a0:Nat):Int))))
 (some false)
def Zy (rec:((List (Int×jI))×Int×Int)->Option (Unit⊕Int)) (x:((List (Int×jI))×Int×Int)):Option (Unit⊕Int) :=
 cond (decide (x.2.2<((af x.1:Nat):Int)))
 ((gx x.1 x.2.2).bind fun e2 =>
  cond (e2.1==x.2.1)
  (some (aH x.2.2))
  (rec (x.1,x.2.1,(ag .i64 (x.2.2+1)))))
 (some (aU ()))
def Vt (a0:(List (Int×jI))) (a1:Int):Option Int :=
 ((lp Zy ze) (a0,a1,0)).bind fun r6 =>
 yb r6
 (fun _z7=>some (-1))
 (fun z8=>some z8)
def kP (rec:((List (Int×jI))×jI×Int×jI)->Option jI) (x:((List (Int×jI))×jI×Int×jI)):Option jI :=
 cond (decide (x.2.2.1<((af x.2.1:Nat):Int)))
 ((gx x.2.1 x.2.2.1).bind fun e16 =>
  cond (decide (e16<0))
  ((gx x.2.1 x.2.2.1).bind fun e17 =>
   (Vt x.1 (ag .i64 ((-1) - e17))).bind fun r18 =>
   cond (decide (r18<0))
   ((gx x.2.1 x.2.2.1).bind fun e19 =>
    cond (yK (af x.2.2.2+af ([e19]:List Int)) 8)
    (rec (x.1,x.2.1,(ag .i64 (x.2.2.1+1)),(x.2.2.2++([e19]:List Int))))
    (none))
   ((gx x.1 r18).bind fun e20 =>
    cond (yK (af x.2.2.2+af e20.2) 8)
    (rec (x.1,x.2.1,(ag .i64 (x.2.2.1+1)),(x.2.2.2++e20.2)))
    (none)))
  ((gx x.2.1 x.2.2.1).bind fun e21 =>
   cond (yK (af x.2.2.2+af ([e21]:List Int)) 8)
   (rec (x.1,x.2.1,(ag .i64 (x.2.2.1+1)),(x.2.2.2++([e21]:List Int))))
   (none)))
 (some x.2.2.2)
def th (a0:(List (Int×jI))) (a1:jI):Option jI :=
 ((lp kP ze) (a0,a1,0,([]:jI))).bind fun r23 =>
 some r23
def ru (rec:((List (Int×jI))×Int×jQ×jR×jQ×jQ×jR×jQ)->Option (jQ×jR×jQ)) (x:((List (Int×jI))×Int×jQ×jR×jQ×jQ×jR×jQ)):Option (jQ×jR×jQ) :=
 cond (decide (x.2.1<((af x.2.2.2.2.1:Nat):Int)))
 ((gx x.2.2.2.2.1 x.2.1).bind fun e24 =>
  (gx x.2.2.2.2.1 x.2.1).bind fun e25 =>
  (th x.1 e25.2).bind fun r26 =>
  cond (yK (af x.2.2.2.2.2.2.2+af ([(e24.1,r26)]:List zc)) 32)
  (rec (x.1,(ag .i64 (x.2.1+1)),x.2.2.1,x.2.2.2.1,x.2.2.2.2.1,x.2.2.2.2.2.1,x.2.2.2.2.2.2.1,(x.2.2.2.2.2.2.2++([(e24.1,r26)]:List zc))))
  (none))
 (some (x.2.2.2.2.2.1,x.2.2.2.2.2.2.1,x.2.2.2.2.2.2.2))
def rC (rec:((List (Int×jI))×Int×jQ×jR×jQ×jQ×jR)->Option (jQ×jR)) (x:((List (Int×jI))×Int×jQ×jR×jQ×jQ×jR)):Option (jQ×jR) :=
 cond (decide (x.2.1<((af x.2.2.2.1:Nat):Int)))
 ((gx x.2.2.2.1 x.2.1).bind fun e15 =>
  (th x.1 e15).bind fun r16 =>
  cond (yK (af x.2.2.2.2.2.2+af ([r16]:List jI)) 24)
  (rec (x.1,(ag .i64 (x.2.1+1)),x.2.2.1,x.2.2.2.1,x.2.2.2.2.1,x.2.2.2.2.2.1,(x.2.2.2.2.2.2++([r16]:List jI))))
  (none))
 (some (x.2.2.2.2.2.1,x.2.2.2.2.2.2))
def rB (rec:((List (Int×jI))×Int×jQ×jR×jQ×jQ)->Option jQ) (x:((List (Int×jI))×Int×jQ×jR×jQ×jQ)):Option jQ :=
 cond (decide (x.2.1<((af x.2.2.1:Nat):Int)))
 ((gx x.2.2.1 x.2.1).bind fun e7 =>
  (gx x.2.2.1 x.2.1).bind fun e8 =>
  (th x.1 e8.2).bind fun r9 =>
  cond (yK (af x.2.2.2.2.2+af ([(e7.1,r9)]:List zc)) 32)
  (rec (x.1,(ag .i64 (x.2.1+1)),x.2.2.1,x.2.2.2.1,x.2.2.2.2.1,(x.2.2.2.2.2++([(e7.1,r9)]:List zc))))
  (none))
 (some x.2.2.2.2.2)
def rd (a0:(List (Int×jI))) (a1:jQ) (a2:jR) (a3:jQ):Option (jQ×jR×jQ) :=
 ((lp rB ze) (a0,0,a1,a2,a3,([]:jQ))).bind fun r28 =>
 ((lp rC ze) (a0,0,a1,a2,a3,r28,([]:jR))).bind fun r29 =>
 ((lp ru ze) (a0,0,a1,a2,a3,r29.1,r29.2,([]:jQ))).bind fun r30 =>
 some (r30.1,r30.2.1,r30.2.2)
def wY (rec:(Int×jI×Int×jQ×jR×jQ×(List (Int×jI)))->Option ((List (Int×jI))⊕Bool)) (x:(Int×jI×Int×jQ×jR×jQ×(List (Int×jI)))):Option ((List (Int×jI))⊕Bool) :=
 cond (decide (x.2.2.1<((af x.2.1:Nat):Int)))
 ((gx x.2.1 x.2.2.1).bind fun e11 =>
  cond (decide ((ag .i64 (e11+x.1))>23))
  (some (aH false))
  ((gx x.2.1 x.2.2.1).bind fun e12 =>
   (gx x.2.1 x.2.2.1).bind fun e13 =>
   cond (yK (af x.2.2.2.2.2.2+af ([(e12,([(ag .i64 ((ag .i64 ((-1) - e13)) - x.1))]:List Int))]:List (Int×jI))) 32)
   (rec (x.1,x.2.1,(ag .i64 (x.2.2.1+1)),x.2.2.2.1,x.2.2.2.2.1,x.2.2.2.2.2.1,(x.2.2.2.2.2.2++([(e12,([(ag .i64 ((ag .i64 ((-1) - e13)) - x.1))]:List Int))]:List (Int×jI)))))
   (none)))
 (some (aU x.2.2.2.2.2.2))
def kC (a0:jQ) (a1:jR) (a2:jQ) (a3:jQ) (a4:jR) (a5:jQ):Option (jQ×jR×Bool×jQ) :=
 (tw a0 a1 a2).bind fun r23 =>
 cond (decide (((af r23:Nat):Int)>0))
 ((inR (ag .i64 (((af r23:Nat):Int) - 1)) (af r23)).bind fun k24 =>
  (r23[k24]?).bind fun x25 =>
  (tw a3 a4 a5).bind fun r26 =>
  ((lp wY ze) ((ag .i64 (x25+1)),r26,0,a3,a4,a5,([]:(List (Int×jI))))).bind fun r27 =>
  yb r27
  (fun z28=>(rd z28 a3 a4 a5).bind fun r29 =>
   some (r29.1,r29.2.1,true,r29.2.2))
  (fun z30=>some (([]:jQ),([]:jR),z30,([]:jQ))))
 ((tw a3 a4 a5).bind fun r31 =>
  ((lp wY ze) (0,r31,0,a3,a4,a5,([]:(List (Int×jI))))).bind fun r32 =>
  yb r32
  (fun z33=>(rd z33 a3 a4 a5).bind fun r34 =>
   some (r34.1,r34.2.1,true,r34.2.2))
  (fun z35=>some (([]:jQ),([]:jR),z35,([]:jQ))))
def uu (rec:(jI×jR)->Option jI) (x:(jI×jR)):Option jI :=
 cond (((af x.1:Nat):Int)==1)
 ((gx x.1 0).bind fun e8 =>
  cond (decide (e8<0))
  ((gx x.1 0).bind fun e9 =>
   (inR (ag .i64 ((-1) - e9)) 48).bind fun k10 =>
   (x.2[k10]?).bind fun x11 =>
   cond (decide (((af x11:Nat):Int)>0))
   ((gx x.1 0).bind fun e12 =>
    (inR (ag .i64 ((-1) - e12)) 48).bind fun k13 =>
    (x.2[k13]?).bind fun x14 =>
    rec (x14,x.2))
   (some x.1))
  (some x.1))
 (some x.1)
def sd (a0:jI) (a1:jR):Option jI :=
 ((lp uu ze) (a0,a1)).bind fun r16 =>
 some r16
def rg (rec:(jI×jI×Int)->Option (Unit⊕Bool)) (x:(jI×jI×Int)):Option (Unit⊕Bool) :=
 cond (decide (x.2.2<((af x.1:Nat):Int)))
 ((gx x.1 x.2.2).bind fun e3 =>
  (gx x.2.1 x.2.2).bind fun e4 =>
  cond (e3 != e4)
  (some (aH false))
  (rec (x.1,x.2.1,(ag .i64 (x.2.2+1)))))
 (some (aU ()))
def sj (a0:jI) (a1:jI):Option Bool :=
 cond (((af a0:Nat):Int) != ((af a1:Nat):Int))
 (some false)
 (((lp rg ze) (a0,a1,0)).bind fun r8 =>
  yb r8
  (fun _z9=>some true)
  (fun z10=>some z10))
def xQ (rf:((Int×jI×jR)->Option Bool)) (rec:(Int×jI×Int×jR)->Option (Unit⊕Bool)) (x:(Int×jI×Int×jR)):Option (Unit⊕Bool) :=
 cond (decide (x.2.2.1<((af x.2.1:Nat):Int)))
 ((gx x.2.1 x.2.2.1).bind fun e8 =>
  cond (decide (e8≥0))
  (rec (x.1,x.2.1,(ag .i64 (x.2.2.1+1)),x.2.2.2))
  ((gx x.2.1 x.2.2.1).bind fun e9 =>
   cond ((ag .i64 ((-1) - e9))==x.1)
   (some (aH true))
   ((inR (ag .i64 ((-1) - e9)) 48).bind fun k10 =>
    (x.2.2.2[k10]?).bind fun x11 =>
    cond (decide (((af x11:Nat):Int)>0))
    ((inR (ag .i64 ((-1) - e9)) 48).bind fun k12 =>
     (x.2.2.2[k12]?).bind fun x13 =>
     (rf (x.1,x13,x.2.2.2)).bind fun r14 =>
     cond r14
     (some (aH true))
     (rec (x.1,x.2.1,(ag .i64 (x.2.2.1+1)),x.2.2.2)))
    (rec (x.1,x.2.1,(ag .i64 (x.2.2.1+1)),x.2.2.2)))))
 (some (aU ()))
def tp (rf:((Int×jI×jR)->Option Bool)) (a0:Int) (a1:jI) (a2:jR):Option Bool :=
 ((lp (xQ rf) ze) (a0,a1,0,a2)).bind fun r18 =>
 yb r18
 (fun _z19=>some false)
 (fun z20=>some z20)
def Zk (rf:((Int×jI×jR)->Option Bool)):((Int×jI×jR)->Option Bool) :=
 fun (x:(Int×jI×jR))=>tp rf x.1 x.2.1 x.2.2
def Zj:((Int×jI×jR)->Option Bool):=fun _=>none
def wm (k:Nat):((Int×jI×jR)->Option Bool):=lpR Zj Zk k
def Zq (a0:Int) (a1:jI) (a2:jR):Option Bool:=(wm ze) (a0,a1,a2)
def zA (a0:jI) (a1:jI) (a2:Bool) (a3:jR):Option (Bool×jR) :=
 (gx a0 0).bind fun e8 =>
 cond a2
 ((gx a1 0).bind fun e9 =>
  (inR (ag .i64 ((-1) - e9)) 48).bind fun k10 =>
  (a3[k10]?).bind fun _x11 =>
  some (true,(bw a3 k10 a0)))
 ((Zq (ag .i64 ((-1) - e8)) a1 a3).bind fun r12 =>
  cond r12
  (some (false,a3))
  ((inR (ag .i64 ((-1) - e8)) 48).bind fun k13 =>
   (a3[k13]?).bind fun _x14 =>
   some (true,(bw a3 k13 a1))))
def vO (rf:(((jS×jI×jI×jR)->Option (Bool×jR))×((jS×jR×jR×jR)->Option (Bool×jR)))) (a0:jS) (a1:jI) (a2:jI) (a3:jR):Option (Bool×jR) :=
 (sd a1 a3).bind fun r82 =>
 (sd a2 a3).bind fun r83 =>
 (sj r82 r83).bind fun r84 =>
 cond r84
 (some (true,a3))
 ((gx r82 0).bind fun e85 =>
  cond (decide (e85<0))
  ((gx r83 0).bind fun e86 =>
   cond (decide (e86<0))
   ((gx r82 0).bind fun e87 =>
    (gx r83 0).bind fun e88 =>
    cond (decide (e87<e88))
    ((gx r82 0).bind fun e89 =>
     (zA r83 r82 (decide (e89<0)) a3).bind fun r90 =>
     some (r90.1,r90.2))
    ((gx r82 0).bind fun e91 =>
     cond (decide (e91≥0))
     ((gx r83 0).bind fun e92 =>
      cond (decide (e92<0))
      ((gx r82 0).bind fun e93 =>
       (zA r83 r82 (decide (e93<0)) a3).bind fun r94 =>
       some (r94.1,r94.2))
      ((gx r82 0).bind fun e95 =>
       cond (decide (e95<0))
       ((gx r83 0).bind fun e96 =>
        (zA r82 r83 (decide (e96<0)) a3).bind fun r97 =>
        some (r97.1,r97.2))
       ((gx r82 0).bind fun e98 =>
        (gx r83 0).bind fun e99 =>
        cond (e98 != e99)
        (some (false,a3))
        ((uh r82 (some 1) none).bind fun y100 =>
         (yd a0 y100).bind fun r101 =>
         (uh r83 (some 1) none).bind fun y102 =>
         (yd a0 y102).bind fun r103 =>
         (rf.2 (a0,r101,r103,a3)).bind fun r104 =>
         some (r104.1,r104.2)))))
     ((gx r82 0).bind fun e105 =>
      cond (decide (e105<0))
      ((gx r83 0).bind fun e106 =>
       (zA r82 r83 (decide (e106<0)) a3).bind fun r107 =>
       some (r107.1,r107.2))
      ((gx r82 0).bind fun e108 =>
       (gx r83 0).bind fun e109 =>
       cond (e108 != e109)
       (some (false,a3))
       ((uh r82 (some 1) none).bind fun y110 =>
        (yd a0 y110).bind fun r111 =>
        (uh r83 (some 1) none).bind fun y112 =>
        (yd a0 y112).bind fun r113 =>
        (rf.2 (a0,r111,r113,a3)).bind fun r114 =>
        some (r114.1,r114.2))))))
   ((gx r82 0).bind fun e115 =>
    cond (decide (e115≥0))
    ((gx r83 0).bind fun e116 =>
     cond (decide (e116<0))
     ((gx r82 0).bind fun e117 =>
      (zA r83 r82 (decide (e117<0)) a3).bind fun r118 =>
      some (r118.1,r118.2))
     ((gx r82 0).bind fun e119 =>
      cond (decide (e119<0))
      ((gx r83 0).bind fun e120 =>
       (zA r82 r83 (decide (e120<0)) a3).bind fun r121 =>
       some (r121.1,r121.2))
      ((gx r82 0).bind fun e122 =>
       (gx r83 0).bind fun e123 =>
       cond (e122 != e123)
       (some (false,a3))
       ((uh r82 (some 1) none).bind fun y124 =>
        (yd a0 y124).bind fun r125 =>
        (uh r83 (some 1) none).bind fun y126 =>
        (yd a0 y126).bind fun r127 =>
        (rf.2 (a0,r125,r127,a3)).bind fun r128 =>
        some (r128.1,r128.2)))))
    ((gx r82 0).bind fun e129 =>
     cond (decide (e129<0))
     ((gx r83 0).bind fun e130 =>
      (zA r82 r83 (decide (e130<0)) a3).bind fun r131 =>
      some (r131.1,r131.2))
     ((gx r82 0).bind fun e132 =>
      (gx r83 0).bind fun e133 =>
      cond (e132 != e133)
      (some (false,a3))
      ((uh r82 (some 1) none).bind fun y134 =>
       (yd a0 y134).bind fun r135 =>
       (uh r83 (some 1) none).bind fun y136 =>
       (yd a0 y136).bind fun r137 =>
       (rf.2 (a0,r135,r137,a3)).bind fun r138 =>
       some (r138.1,r138.2))))))
  ((gx r82 0).bind fun e139 =>
   cond (decide (e139≥0))
   ((gx r83 0).bind fun e140 =>
    cond (decide (e140<0))
    ((gx r82 0).bind fun e141 =>
     (zA r83 r82 (decide (e141<0)) a3).bind fun r142 =>
     some (r142.1,r142.2))
    ((gx r82 0).bind fun e143 =>
     cond (decide (e143<0))
     ((gx r83 0).bind fun e144 =>
      (zA r82 r83 (decide (e144<0)) a3).bind fun r145 =>
      some (r145.1,r145.2))
     ((gx r82 0).bind fun e146 =>
      (gx r83 0).bind fun e147 =>
      cond (e146 != e147)
      (some (false,a3))
      ((uh r82 (some 1) none).bind fun y148 =>
       (yd a0 y148).bind fun r149 =>
       (uh r83 (some 1) none).bind fun y150 =>
       (yd a0 y150).bind fun r151 =>
       (rf.2 (a0,r149,r151,a3)).bind fun r152 =>
       some (r152.1,r152.2)))))
   ((gx r82 0).bind fun e153 =>
    cond (decide (e153<0))
    ((gx r83 0).bind fun e154 =>
     (zA r82 r83 (decide (e154<0)) a3).bind fun r155 =>
     some (r155.1,r155.2))
    ((gx r82 0).bind fun e156 =>
     (gx r83 0).bind fun e157 =>
     cond (e156 != e157)
     (some (false,a3))
     ((uh r82 (some 1) none).bind fun y158 =>
      (yd a0 y158).bind fun r159 =>
      (uh r83 (some 1) none).bind fun y160 =>
      (yd a0 y160).bind fun r161 =>
      (rf.2 (a0,r159,r161,a3)).bind fun r162 =>
      some (r162.1,r162.2))))))
def wo (rf:(((jS×jI×jI×jR)->Option (Bool×jR))×((jS×jR×jR×jR)->Option (Bool×jR)))) (rec:(jS×jR×jR×Int×jR)->Option (jR⊕(Bool×jR))) (x:(jS×jR×jR×Int×jR)):Option (jR⊕(Bool×jR)) :=
 cond (decide (x.2.2.2.1<((af x.2.1:Nat):Int)))
 ((gx x.2.1 x.2.2.2.1).bind fun e7 =>
  (gx x.2.2.1 x.2.2.2.1).bind fun e8 =>
  (rf.1 (x.1,e7,e8,x.2.2.2.2)).bind fun r9 =>
  cond (!r9.1)
  (some (aH (false,r9.2)))
  (rec (x.1,x.2.1,x.2.2.1,(ag .i64 (x.2.2.2.1+1)),r9.2)))
 (some (aU x.2.2.2.2))
def sn (rf:(((jS×jI×jI×jR)->Option (Bool×jR))×((jS×jR×jR×jR)->Option (Bool×jR)))) (a0:jS) (a1:jR) (a2:jR) (a3:jR):Option (Bool×jR) :=
 ((lp (wo rf) ze) (a0,a1,a2,0,a3)).bind fun r13 =>
 yb r13
 (fun z14=>some (true,z14))
 (fun z15=>some (z15.1,z15.2))
def YD (rf:(((jS×jI×jI×jR)->Option (Bool×jR))×((jS×jR×jR×jR)->Option (Bool×jR)))):(((jS×jI×jI×jR)->Option (Bool×jR))×((jS×jR×jR×jR)->Option (Bool×jR))) :=
 (fun (x:(jS×jI×jI×jR))=>vO rf x.1 x.2.1 x.2.2.1 x.2.2.2,fun (x:(jS×jR×jR×jR))=>sn rf x.1 x.2.1 x.2.2.1 x.2.2.2)
def Z8:(((jS×jI×jI×jR)->Option (Bool×jR))×((jS×jR×jR×jR)->Option (Bool×jR))):=(fun _=>none,fun _=>none)
def yS (k:Nat):(((jS×jI×jI×jR)->Option (Bool×jR))×((jS×jR×jR×jR)->Option (Bool×jR))):=lpR Z8 YD k
def YM (a0:jS) (a1:jR) (a2:jR) (a3:jR):Option (Bool×jR):=(yS ze).2 (a0,a1,a2,a3)
def xP (rf:((jI×jR×jI)->Option jI)) (rec:(jI×Int×jR×jI)->Option jI) (x:(jI×Int×jR×jI)):Option jI :=
 cond (decide (x.2.1<((af x.1:Nat):Int)))
 (cond (decide (((af x.2.2.2:Nat):Int)<=48))
  ((gx x.1 x.2.1).bind fun e19 =>
   cond (decide (e19<0))
   ((gx x.1 x.2.1).bind fun e20 =>
    (inR (ag .i64 ((-1) - e20)) 48).bind fun k21 =>
    (x.2.2.1[k21]?).bind fun x22 =>
    cond (decide (((af x22:Nat):Int)>0))
    ((gx x.1 x.2.1).bind fun e23 =>
     (inR (ag .i64 ((-1) - e23)) 48).bind fun k24 =>
     (x.2.2.1[k24]?).bind fun x25 =>
     (rf (x25,x.2.2.1,x.2.2.2)).bind fun r26 =>
     rec (x.1,(ag .i64 (x.2.1+1)),x.2.2.1,r26))
    ((gx x.1 x.2.1).bind fun e27 =>
     cond (yK (af x.2.2.2+af ([e27]:List Int)) 8)
     (rec (x.1,(ag .i64 (x.2.1+1)),x.2.2.1,(x.2.2.2++([e27]:List Int))))
     (none)))
   ((gx x.1 x.2.1).bind fun e28 =>
    cond (yK (af x.2.2.2+af ([e28]:List Int)) 8)
    (rec (x.1,(ag .i64 (x.2.1+1)),x.2.2.1,(x.2.2.2++([e28]:List Int))))
    (none)))
  (some x.2.2.2))
 (some x.2.2.2)
def tq (rf:((jI×jR×jI)->Option jI)) (a0:jI) (a1:jR) (a2:jI):Option jI :=
 ((lp (xP rf) ze) (a0,0,a1,a2)).bind fun r30 =>
 some r30
def Zu (rf:((jI×jR×jI)->Option jI)):((jI×jR×jI)->Option jI) :=
 fun (x:(jI×jR×jI))=>tq rf x.1 x.2.1 x.2.2
def Zn:((jI×jR×jI)->Option jI):=fun _=>none
def xa (k:Nat):((jI×jR×jI)->Option jI):=lpR Zn Zu k
def sN (a0:jI) (a1:jR) (a2:jI):Option jI:=(xa ze) (a0,a1,a2)
def wx (rec:(Int×jR×(List (Int×jI)))->Option ((List (Int×jI))⊕(Bool×Bool))) (x:(Int×jR×(List (Int×jI)))):Option ((List (Int×jI))⊕(Bool×Bool)) :=
 cond (decide (x.1<=23))
 ((inR x.1 48).bind fun k14 =>
  (x.2.1[k14]?).bind fun x15 =>
  cond (((af x15:Nat):Int)==0)
  (rec ((ag .i64 (x.1+1)),x.2.1,x.2.2))
  ((inR x.1 48).bind fun k16 =>
   (x.2.1[k16]?).bind fun x17 =>
   (sN x17 x.2.1 ([]:jI)).bind fun r18 =>
   cond (decide (((af r18:Nat):Int)>48))
   (some (aH (true,false)))
   (cond (yK (af x.2.2+af ([(x.1,r18)]:List (Int×jI))) 32)
    (rec ((ag .i64 (x.1+1)),x.2.1,(x.2.2++([(x.1,r18)]:List (Int×jI)))))
    (none))))
 (some (aU x.2.2))
def uW (a0:jS) (a1:jI) (a2:jI):Option (Bool×Bool×(List (Int×jI))) :=
 (yd a0 a1).bind fun r22 =>
 (yd a0 a2).bind fun r23 =>
 cond (((af r22:Nat):Int) != ((af r23:Nat):Int))
 (some (false,true,([]:(List (Int×jI)))))
 ((YM a0 r22 r23 (ax 48 ([]:jI))).bind fun r24 =>
  cond (!r24.1)
  (some (false,true,([]:(List (Int×jI)))))
  (((lp wx ze) (0,r24.2,([]:(List (Int×jI))))).bind fun r25 =>
   yb r25
   (fun z26=>some (true,true,z26))
   (fun z27=>some (z27.1,z27.2,([]:(List (Int×jI)))))))
def se (a0:jQ) (a1:Int):Option jQ :=
 (uh a0 none (some a1)).bind fun y3 =>
 cond (yK (af ([]:List zc)+af y3) 32)
 ((uh a0 (some (ag .i64 (a1+1))) none).bind fun y4 =>
  cond (yK (af (([]:List zc)++y3)+af y4) 32)
  (some ((([]:List zc)++y3)++y4))
  (none))
 (none)
def WU (a0:jQ) (_a1:jQ) (a2:jR) (a3:jQ) (_a4:jQ) (a5:jR) (a6:jQ):Option (jQ×jR×jQ) :=
 cond (yK (af a2) 24)
 (cond (yK (af a2+af a5) 24)
  (cond (yK (af a3) 32)
   (cond (yK (af a3+af a6) 32)
    (some (a0,(a2++a5),(a3++a6)))
    (none))
   (none))
  (none))
 (none)
def jw (a0:Bool) (a1:jI) (a2:Bool) (a3:jI):Option Bool :=
 cond (a0==a2)
 ((sj a1 a3).bind fun r2 =>
  some r2)
 (some false)
def tH (rec:(jQ×Int×Bool×Int×jQ)->Option (Bool×jQ)) (x:(jQ×Int×Bool×Int×jQ)):Option (Bool×jQ) :=
 cond (decide (x.2.2.2.1<((af x.2.2.2.2:Nat):Int)))
 (cond x.2.2.1
  (rec (x.1,x.2.1,true,(ag .i64 (x.2.2.2.1+1)),x.2.2.2.2))
  ((inR x.2.2.2.1 (af x.2.2.2.2)).bind fun k7 =>
   (x.2.2.2.2[k7]?).bind fun x8 =>
   (gx x.1 x.2.1).bind fun e9 =>
   (jw x8.1 x8.2 e9.1 e9.2).bind fun r10 =>
   rec (x.1,x.2.1,r10,(ag .i64 (x.2.2.2.1+1)),x.2.2.2.2)))
 (some (x.2.2.1,x.2.2.2.2))
def rD (rec:(jQ×Int×jQ)->Option jQ) (x:(jQ×Int×jQ)):Option jQ :=
 cond (decide (x.2.1<((af x.1:Nat):Int)))
 (((lp tH ze) (x.1,x.2.1,false,0,x.2.2)).bind fun r13 =>
  cond (!r13.1)
  ((gx x.1 x.2.1).bind fun e14 =>
   cond (yK (af r13.2+af ([(e14.1,e14.2)]:List zc)) 32)
   (rec (x.1,(ag .i64 (x.2.1+1)),(r13.2++([(e14.1,e14.2)]:List zc))))
   (none))
  (rec (x.1,(ag .i64 (x.2.1+1)),r13.2)))
 (some x.2.2)
def X7 (a0:jQ):Option jQ :=
 ((lp rD ze) (a0,0,([]:jQ))).bind fun r16 =>
 some r16
def ux (rec:(jR×Int×Int×jQ×jR×jQ×(List (Int×jI)))->Option (List (Int×jI))) (x:(jR×Int×Int×jQ×jR×jQ×(List (Int×jI)))):Option (List (Int×jI)) :=
 (gx x.1 x.2.1).bind fun e29 =>
 cond (decide (x.2.2.1<((af e29:Nat):Int)))
 ((gx x.1 x.2.1).bind fun e30 =>
  (gx e30 x.2.2.1).bind fun e31 =>
  cond (decide (e31<0))
  ((Vt x.2.2.2.2.2.2 (ag .i64 ((-1) - e31))).bind fun r32 =>
   cond (decide (r32<0))
   (cond (yK (af x.2.2.2.2.2.2+af ([((ag .i64 ((-1) - e31)),([(ag .i64 ((-1) - ((af x.2.2.2.2.2.2:Nat):Int)))]:List Int))]:List (Int×jI))) 32)
    (rec (x.1,x.2.1,(ag .i64 (x.2.2.1+1)),x.2.2.2.1,x.2.2.2.2.1,x.2.2.2.2.2.1,(x.2.2.2.2.2.2++([((ag .i64 ((-1) - e31)),([(ag .i64 ((-1) - ((af x.2.2.2.2.2.2:Nat):Int)))]:List Int))]:List (Int×jI)))))
    (none))
   (rec (x.1,x.2.1,(ag .i64 (x.2.2.1+1)),x.2.2.2.1,x.2.2.2.2.1,x.2.2.2.2.2.1,x.2.2.2.2.2.2)))
  (rec (x.1,x.2.1,(ag .i64 (x.2.2.1+1)),x.2.2.2.1,x.2.2.2.2.1,x.2.2.2.2.2.1,x.2.2.2.2.2.2)))
 (some x.2.2.2.2.2.2)
def tF (rec:(Int×Bool×Int×jQ×jR×jQ×jQ×jQ×jR)->Option (Bool×jQ×jQ×jR)) (x:(Int×Bool×Int×jQ×jR×jQ×jQ×jQ×jR)):Option (Bool×jQ×jQ×jR) :=
 cond (decide (x.2.2.1<((af x.2.2.2.2.2.2.2.2:Nat):Int)))
 (cond x.2.1
  (rec (x.1,true,(ag .i64 (x.2.2.1+1)),x.2.2.2.1,x.2.2.2.2.1,x.2.2.2.2.2.1,x.2.2.2.2.2.2.1,x.2.2.2.2.2.2.2.1,x.2.2.2.2.2.2.2.2))
  ((inR x.2.2.1 (af x.2.2.2.2.2.2.2.2)).bind fun k9 =>
   (x.2.2.2.2.2.2.2.2[k9]?).bind fun x10 =>
   (gx x.2.2.2.2.1 x.1).bind fun e11 =>
   (sj x10 e11).bind fun r12 =>
   rec (x.1,r12,(ag .i64 (x.2.2.1+1)),x.2.2.2.1,x.2.2.2.2.1,x.2.2.2.2.2.1,x.2.2.2.2.2.2.1,x.2.2.2.2.2.2.2.1,x.2.2.2.2.2.2.2.2)))
 (some (x.2.1,x.2.2.2.2.2.2.1,x.2.2.2.2.2.2.2.1,x.2.2.2.2.2.2.2.2))
def rA (rec:(jR×Int×jQ×jR×jQ×(List (Int×jI)))->Option (List (Int×jI))) (x:(jR×Int×jQ×jR×jQ×(List (Int×jI)))):Option (List (Int×jI)) :=
 cond (decide (x.2.1<((af x.1:Nat):Int)))
 (((lp ux ze) (x.1,x.2.1,0,x.2.2.1,x.2.2.2.1,x.2.2.2.2.1,x.2.2.2.2.2)).bind fun r35 =>
  rec (x.1,(ag .i64 (x.2.1+1)),x.2.2.1,x.2.2.2.1,x.2.2.2.2.1,r35))
 (some x.2.2.2.2.2)
def rk (rec:(Int×jQ×jR×jQ×jQ×jQ×jR)->Option (jQ×jQ×jR)) (x:(Int×jQ×jR×jQ×jQ×jQ×jR)):Option (jQ×jQ×jR) :=
 cond (decide (x.1<((af x.2.2.1:Nat):Int)))
 (((lp tF ze) (x.1,false,0,x.2.1,x.2.2.1,x.2.2.2.1,x.2.2.2.2.1,x.2.2.2.2.2.1,x.2.2.2.2.2.2)).bind fun r17 =>
  cond (!r17.1)
  ((gx x.2.2.1 x.1).bind fun e18 =>
   cond (yK (af r17.2.2.2+af ([e18]:List jI)) 24)
   (rec ((ag .i64 (x.1+1)),x.2.1,x.2.2.1,x.2.2.2.1,r17.2.1,r17.2.2.1,(r17.2.2.2++([e18]:List jI))))
   (none))
  (rec ((ag .i64 (x.1+1)),x.2.1,x.2.2.1,x.2.2.2.1,r17.2.1,r17.2.2.1,r17.2.2.2)))
 (some (x.2.2.2.2.1,x.2.2.2.2.2.1,x.2.2.2.2.2.2))
def Ku (a0:jQ) (a1:jR) (a2:jQ):Option (jQ×jR×jQ) :=
 (X7 a0).bind fun r38 =>
 (X7 a2).bind fun r39 =>
 ((lp rk ze) (0,a0,a1,a2,r38,r39,([]:jR))).bind fun r40 =>
 (ZF r40.1 r40.2.2 r40.2.1).bind fun r41 =>
 ((lp rA ze) (r41,0,r40.1,r40.2.2,r40.2.1,([]:(List (Int×jI))))).bind fun r42 =>
 (rd r42 r40.1 r40.2.2 r40.2.1).bind fun r43 =>
 some (r43.1,r43.2.1,r43.2.2)
def Zm (a0:jS) (a1:(List (Int×jI))) (a2:jQ) (a3:jR) (a4:jQ):Option (jQ×jR×Bool×jQ) :=
 (rd a1 a2 a3 a4).bind fun r4 =>
 (Q7 a0 r4.1 r4.2.1 r4.2.2).bind fun r5 =>
 cond (!r5)
 (some (([]:jQ),([]:jR),false,([]:jQ)))
 ((Ku r4.1 r4.2.1 r4.2.2).bind fun r6 =>
  some (r6.1,r6.2.1,true,r6.2.2))
def wU (s1:Int):List (Int×jI)->Nat->Option (Unit⊕Int)
 | [],_i=>some (aU ())
 | e::es,i =>
  cond (e.1==s1)
  (some (aH (i:Int)))
  (wU s1 es (i+1))
theorem W8 (s0:(List (Int×jI))) (s1:Int) (hl:af s0<=maxLen):lp Zy ze (s0,s1,0)=wU s1 s0 0:=sr Zy (fun i=>(s0,s1,i)) (fun es i=>wU s1 es i) hl (fun r i h=>by unfold Zy wU; simp only[h,cond_false]) (fun r i e es h g w k=>by unfold Zy wU; simp only[h,cond_true,g,aa,w,k])
def yY (s0:(List (Int×jI))):List Int->jI->Option jI
 | [],s3=>some s3
 | e::es,s3 =>
  cond (decide (e<0))
  ((Vt s0 (ag .i64 ((-1) - e))).bind fun r18 =>
   cond (decide (r18<0))
   (cond (yK (af s3+af ([e]:List Int)) 8)
    (yY s0 es (s3++([e]:List Int)))
    (none))
   ((gx s0 r18).bind fun e20 =>
    cond (yK (af s3+af e20.2) 8)
    (yY s0 es (s3++e20.2))
    (none)))
  (cond (yK (af s3+af ([e]:List Int)) 8)
   (yY s0 es (s3++([e]:List Int)))
   (none))
theorem WL (s0:(List (Int×jI))) (s1:jI) (s3:jI) (hl:af s1<=maxLen):lp kP ze (s0,s1,0,s3)=yY s0 s1 s3:=x9 kP (fun i s3=>(s0,s1,i,s3)) (fun es i s3=>yY s0 es s3) hl (fun r i s3 h=>by unfold kP yY; simp only[h,cond_false]) (fun r i s3 e es h g w k=>by unfold kP yY; simp only[h,cond_true,g,aa,w,k]) s3
def xn (s0:(List (Int×jI))) (s5:jQ) (s6:jR):List zc->jQ->Option (jQ×jR×jQ)
 | [],s7=>some (s5,s6,s7)
 | e::es,s7 =>
  (th s0 e.2).bind fun r26 =>
  cond (yK (af s7+af ([(e.1,r26)]:List zc)) 32)
  (xn s0 s5 s6 es (s7++([(e.1,r26)]:List zc)))
  (none)
theorem Xu (s0:(List (Int×jI))) (s2:jQ) (s3:jR) (s4:jQ) (s5:jQ) (s6:jR) (s7:jQ) (hl:af s4<=maxLen):lp ru ze (s0,0,s2,s3,s4,s5,s6,s7)=xn s0 s5 s6 s4 s7:=x9 ru (fun i s7=>(s0,i,s2,s3,s4,s5,s6,s7)) (fun es i s7=>xn s0 s5 s6 es s7) hl (fun r i s7 h=>by unfold ru xn; simp only[h,cond_false]) (fun r i s7 e es h g w k=>by unfold ru xn; simp only[h,cond_true,g,aa,w,k]) s7
def xm (s0:(List (Int×jI))) (s5:jQ):List jI->jR->Option (jQ×jR)
 | [],s6=>some (s5,s6)
 | e::es,s6 =>
  (th s0 e).bind fun r16 =>
  cond (yK (af s6+af ([r16]:List jI)) 24)
  (xm s0 s5 es (s6++([r16]:List jI)))
  (none)
theorem Xr (s0:(List (Int×jI))) (s2:jQ) (s3:jR) (s4:jQ) (s5:jQ) (s6:jR) (hl:af s3<=maxLen):lp rC ze (s0,0,s2,s3,s4,s5,s6)=xm s0 s5 s3 s6:=x9 rC (fun i s6=>(s0,i,s2,s3,s4,s5,s6)) (fun es i s6=>xm s0 s5 es s6) hl (fun r i s6 h=>by unfold rC xm; simp only[h,cond_false]) (fun r i s6 e es h g w k=>by unfold rC xm; simp only[h,cond_true,g,aa,w,k]) s6
def xh (s0:(List (Int×jI))):List zc->jQ->Option jQ
 | [],s5=>some s5
 | e::es,s5 =>
  (th s0 e.2).bind fun r9 =>
  cond (yK (af s5+af ([(e.1,r9)]:List zc)) 32)
  (xh s0 es (s5++([(e.1,r9)]:List zc)))
  (none)
theorem Xw (s0:(List (Int×jI))) (s2:jQ) (s3:jR) (s4:jQ) (s5:jQ) (hl:af s2<=maxLen):lp rB ze (s0,0,s2,s3,s4,s5)=xh s0 s2 s5:=x9 rB (fun i s5=>(s0,i,s2,s3,s4,s5)) (fun es i s5=>xh s0 es s5) hl (fun r i s5 h=>by unfold rB xh; simp only[h,cond_false]) (fun r i s5 e es h g w k=>by unfold rB xh; simp only[h,cond_true,g,aa,w,k]) s5
def qo (s0:Int):List Int->(List (Int×jI))->Option ((List (Int×jI))⊕Bool)
 | [],s6=>some (aU s6)
 | e::es,s6 =>
  cond (decide ((ag .i64 (e+s0))>23))
  (some (aH false))
  (cond (yK (af s6+af ([(e,([(ag .i64 ((ag .i64 ((-1) - e)) - s0))]:List Int))]:List (Int×jI))) 32)
   (qo s0 es (s6++([(e,([(ag .i64 ((ag .i64 ((-1) - e)) - s0))]:List Int))]:List (Int×jI))))
   (none))
theorem QN (s0:Int) (s1:jI) (s3:jQ) (s4:jR) (s5:jQ) (s6:(List (Int×jI))) (hl:af s1<=maxLen):lp wY ze (s0,s1,0,s3,s4,s5,s6)=qo s0 s1 s6:=x9 wY (fun i s6=>(s0,s1,i,s3,s4,s5,s6)) (fun es i s6=>qo s0 es s6) hl (fun r i s6 h=>by unfold wY qo; simp only[h,cond_false]) (fun r i s6 e es h g w k=>by unfold wY qo; simp only[h,cond_true,g,aa,w,k]) s6
def wi (s1:jI):List Int->Nat->Option (Unit⊕Bool)
 | [],_i=>some (aU ())
 | e::es,i =>
  (gx s1 (i:Int)).bind fun e4 =>
  cond (e != e4)
  (some (aH false))
  (wi s1 es (i+1))
theorem XV (s0:jI) (s1:jI) (hl:af s0<=maxLen):lp rg ze (s0,s1,0)=wi s1 s0 0:=sr rg (fun i=>(s0,s1,i)) (fun es i=>wi s1 es i) hl (fun r i h=>by unfold rg wi; simp only[h,cond_false]) (fun r i e es h g w k=>by unfold rg wi; simp only[h,cond_true,g,aa,w,k])
def zH (rf:((Int×jI×jR)->Option Bool)) (s0:Int) (s3:jR):List Int->Option (Unit⊕Bool)
 | []=>some (aU ())
 | e::es =>
  cond (decide (e≥0))
  (zH rf s0 s3 es)
  (cond ((ag .i64 ((-1) - e))==s0)
   (some (aH true))
   ((inR (ag .i64 ((-1) - e)) 48).bind fun k10 =>
    (s3[k10]?).bind fun x11 =>
    cond (decide (((af x11:Nat):Int)>0))
    ((inR (ag .i64 ((-1) - e)) 48).bind fun k12 =>
     (s3[k12]?).bind fun x13 =>
     (rf (s0,x13,s3)).bind fun r14 =>
     cond r14
     (some (aH true))
     (zH rf s0 s3 es))
    (zH rf s0 s3 es)))
theorem kY (rf:((Int×jI×jR)->Option Bool)) (s0:Int) (s1:jI) (s3:jR) (hl:af s1<=maxLen):lp (xQ rf) ze (s0,s1,0,s3)=zH rf s0 s3 s1:=sr (xQ rf) (fun i=>(s0,s1,i,s3)) (fun es i=>zH rf s0 s3 es) hl (fun r i h=>by unfold xQ zH; simp only[h,cond_false]) (fun r i e es h g w k=>by unfold xQ zH; simp only[h,cond_true,g,aa,w,k])
def zR (rf:(((jS×jI×jI×jR)->Option (Bool×jR))×((jS×jR×jR×jR)->Option (Bool×jR)))) (s0:jS) (s2:jR):List jI->Nat->jR->Option (jR⊕(Bool×jR))
 | [],_i,s4=>some (aU s4)
 | e::es,i,s4 =>
  (gx s2 (i:Int)).bind fun e8 =>
  (rf.1 (s0,e,e8,s4)).bind fun r9 =>
  cond (!r9.1)
  (some (aH (false,r9.2)))
  (zR rf s0 s2 es (i+1) r9.2)
theorem jq (rf:(((jS×jI×jI×jR)->Option (Bool×jR))×((jS×jR×jR×jR)->Option (Bool×jR)))) (s0:jS) (s1:jR) (s2:jR) (s4:jR) (hl:af s1<=maxLen):lp (wo rf) ze (s0,s1,s2,0,s4)=zR rf s0 s2 s1 0 s4:=x9 (wo rf) (fun i s4=>(s0,s1,s2,i,s4)) (fun es i s4=>zR rf s0 s2 es i s4) hl (fun r i s4 h=>by unfold wo zR; simp only[h,cond_false]) (fun r i s4 e es h g w k=>by unfold wo zR; simp only[h,cond_true,g,aa,w,k]) s4
def zC (rf:((jI×jR×jI)->Option jI)) (s2:jR):List Int->jI->Option jI
 | [],s3=>some s3
 | e::es,s3 =>
  cond (decide (((af s3:Nat):Int)<=48))
  (cond (decide (e<0))
   ((inR (ag .i64 ((-1) - e)) 48).bind fun k21 =>
    (s2[k21]?).bind fun x22 =>
    cond (decide (((af x22:Nat):Int)>0))
    ((inR (ag .i64 ((-1) - e)) 48).bind fun k24 =>
     (s2[k24]?).bind fun x25 =>
     (rf (x25,s2,s3)).bind fun r26 =>
     zC rf s2 es r26)
    (cond (yK (af s3+af ([e]:List Int)) 8)
     (zC rf s2 es (s3++([e]:List Int)))
     (none)))
   (cond (yK (af s3+af ([e]:List Int)) 8)
    (zC rf s2 es (s3++([e]:List Int)))
    (none)))
  (some s3)
theorem kU (rf:((jI×jR×jI)->Option jI)) (s0:jI) (s2:jR) (s3:jI) (hl:af s0<=maxLen):lp (xP rf) ze (s0,0,s2,s3)=zC rf s2 s0 s3:=x9 (xP rf) (fun i s3=>(s0,i,s2,s3)) (fun es i s3=>zC rf s2 es s3) hl (fun r i s3 h=>by unfold xP zC; simp only[h,cond_false]) (fun r i s3 e es h g w k=>by unfold xP zC; simp only[h,cond_true,g,aa,w,k]) s3
def qE (s0:jQ) (s1:Int) (s4:jQ):List zc->Nat->Bool->Option (Bool×jQ)
 | [],_i,s2=>some (s2,s4)
 | _e::es,i,s2 =>
  cond s2
  (qE s0 s1 s4 es (i+1) true)
  ((inR (i:Int) (af s4)).bind fun k7 =>
   (s4[k7]?).bind fun x8 =>
   (gx s0 s1).bind fun e9 =>
   (jw x8.1 x8.2 e9.1 e9.2).bind fun r10 =>
   qE s0 s1 s4 es (i+1) r10)
theorem XK (s0:jQ) (s1:Int) (s4:jQ) (s2:Bool) (hl:af s4<=maxLen):lp tH ze (s0,s1,s2,0,s4)=qE s0 s1 s4 s4 0 s2:=x9 tH (fun i s2=>(s0,s1,s2,i,s4)) (fun es i s2=>qE s0 s1 s4 es i s2) hl (fun r i s2 h=>by unfold tH qE; simp only[h,cond_false]) (fun r i s2 e es h _ w k=>by unfold tH qE; simp only[h,cond_true,w,k]) s2
def xw (s0:jQ):List zc->Nat->jQ->Option jQ
 | [],_i,s2=>some s2
 | e::es,i,s2 =>
  ((lp tH ze) (s0,(i:Int),false,0,s2)).bind fun r13 =>
  cond (!r13.1)
  (cond (yK (af r13.2+af ([(e.1,e.2)]:List zc)) 32)
   (xw s0 es (i+1) (r13.2++([(e.1,e.2)]:List zc)))
   (none))
  (xw s0 es (i+1) r13.2)
theorem X3 (s0:jQ) (s2:jQ) (hl:af s0<=maxLen):lp rD ze (s0,0,s2)=xw s0 s0 0 s2:=x9 rD (fun i s2=>(s0,i,s2)) (fun es i s2=>xw s0 es i s2) hl (fun r i s2 h=>by unfold rD xw; simp only[h,cond_false]) (fun r i s2 e es h g w k=>by unfold rD xw; simp only[h,cond_true,g,aa,w,k]) s2
def qG (s0:Int) (s4:jR) (s6:jQ) (s7:jQ) (s8:jR):List jI->Nat->Bool->Option (Bool×jQ×jQ×jR)
 | [],_i,s1=>some (s1,s6,s7,s8)
 | _e::es,i,s1 =>
  cond s1
  (qG s0 s4 s6 s7 s8 es (i+1) true)
  ((inR (i:Int) (af s8)).bind fun k9 =>
   (s8[k9]?).bind fun x10 =>
   (gx s4 s0).bind fun e11 =>
   (sj x10 e11).bind fun r12 =>
   qG s0 s4 s6 s7 s8 es (i+1) r12)
theorem Xy (s0:Int) (s3:jQ) (s4:jR) (s5:jQ) (s6:jQ) (s7:jQ) (s8:jR) (s1:Bool) (hl:af s8<=maxLen):lp tF ze (s0,s1,0,s3,s4,s5,s6,s7,s8)=qG s0 s4 s6 s7 s8 s8 0 s1:=x9 tF (fun i s1=>(s0,s1,i,s3,s4,s5,s6,s7,s8)) (fun es i s1=>qG s0 s4 s6 s7 s8 es i s1) hl (fun r i s1 h=>by unfold tF qG; simp only[h,cond_false]) (fun r i s1 e es h _ w k=>by unfold tF qG; simp only[h,cond_true,w,k]) s1
def wn (s0:jR) (s2:jQ) (s3:jR) (s4:jQ):List jI->Nat->(List (Int×jI))->Option (List (Int×jI))
 | [],_i,s5=>some s5
 | _e::es,i,s5 =>
  ((lp ux ze) (s0,(i:Int),0,s2,s3,s4,s5)).bind fun r35 =>
  wn s0 s2 s3 s4 es (i+1) r35
theorem XA (s0:jR) (s2:jQ) (s3:jR) (s4:jQ) (s5:(List (Int×jI))) (hl:af s0<=maxLen):lp rA ze (s0,0,s2,s3,s4,s5)=wn s0 s2 s3 s4 s0 0 s5:=x9 rA (fun i s5=>(s0,i,s2,s3,s4,s5)) (fun es i s5=>wn s0 s2 s3 s4 es i s5) hl (fun r i s5 h=>by unfold rA wn; simp only[h,cond_false]) (fun r i s5 e es h _ w k=>by unfold rA wn; simp only[h,cond_true,w,k]) s5
def xi (s1:jQ) (s2:jR) (s3:jQ):List jI->Nat->jQ->jQ->jR->Option (jQ×jQ×jR)
 | [],_i,s4,s5,s6=>some (s4,s5,s6)
 | e::es,i,s4,s5,s6 =>
  ((lp tF ze) ((i:Int),false,0,s1,s2,s3,s4,s5,s6)).bind fun r17 =>
  cond (!r17.1)
  (cond (yK (af r17.2.2.2+af ([e]:List jI)) 24)
   (xi s1 s2 s3 es (i+1) r17.2.1 r17.2.2.1 (r17.2.2.2++([e]:List jI)))
   (none))
  (xi s1 s2 s3 es (i+1) r17.2.1 r17.2.2.1 r17.2.2.2)
theorem XI (s1:jQ) (s2:jR) (s3:jQ) (s4:jQ) (s5:jQ) (s6:jR) (hl:af s2<=maxLen):lp rk ze (0,s1,s2,s3,s4,s5,s6)=xi s1 s2 s3 s2 0 s4 s5 s6:=RQ rk (fun i s4 s5 s6=>(i,s1,s2,s3,s4,s5,s6)) (fun es i s4 s5 s6=>xi s1 s2 s3 es i s4 s5 s6) hl (fun r i s4 s5 s6 h=>by unfold rk xi; simp only[h,cond_false]) (fun r i s4 s5 s6 e es h g w k=>by unfold rk xi; simp only[h,cond_true,g,aa,w,k]) s4 s5 s6
theorem CD (b:List Int):(es:List Int)->(i:Nat)->i+es.length=b.length->wi b es i=some (cond (decide (es=b.drop i)) (.inl ()) (.inr false))
 | [],i,h=>by
  rw[List.drop_of_length_le (by simp at h; omega)]
  rfl
 | e::es,i,h=>by
  simp only[ak] at h;obtain⟨x,hx⟩:∃ x,b[i]? = some x:=⟨_,al (by omega)⟩
  have hd:b.drop i=x::b.drop (i+1):=by
   have h1:=(aw.1 hx).1;rw[aY h1];rw[(aw.1 hx).2]
  unfold wi;rw[y8,hx,aa,CD b es (i+1) (by omega),hd]
  by_cases he:e=x
  ·subst he;rw[show (e != e)=false from by simp,cond_false]
   simp
  ·rw[show (e != x)=true from by simp [he],cond_true]
   simp [he]
theorem Wk {a b:List Int} (h:a.length<=1000000):sj a b=some (decide (a=b)):=by
 unfold sj;by_cases hl:a.length=b.length
 ·rw[show (((af a:Nat):Int) != ((af b:Nat):Int))=false from by simp [hl],cond_false,XV _ _ (by unfold maxLen; omega),CD b a 0 (by omega),aa,bQ]
  cases decide (a=b)<;>rfl
 ·rw[show (((af a:Nat):Int) != ((af b:Nat):Int))=true from by simp; omega,cond_true]
  have:a≠b:=fun e=>hl (by rw[e])
  simp [this]
def zaf (o:Option Tm):List Int:=match o with
 | none=>[]
 | some t=>t.codes
structure RepW (a0:List zg) (w:List jI) (B:Bd):Prop where
 len:w.length=48
 at_:∀ x,x<48->w[x]? = some (zaf (B x))
 ok:∀ x t,B x=some t->x<24∧t.ok a0 24∧t.codes.length<=48
theorem RepW.small {a0:List zg} {w:List jI} {B:Bd} (h:RepW a0 w B):VY B:=fun x t ht=>by
 obtain⟨h1,h2,h3⟩:=h.ok x t ht;rw[Tm.codes_len] at h3;exact ⟨by omega,h3⟩
theorem RepW.set {a0:List zg} {w:List jI} {B:Bd} (h:RepW a0 w B) {x:Nat} (hx:x<24) {t:Tm} (ht:t.ok a0 24) (hl:t.codes.length<=48):RepW a0 (w.set x t.codes) (PH B x t) where
 len:=by rw[bY]; exact h.len
 at_:=fun y hy=>by
  have:=h.len;by_cases he:y=x
  ·subst he;rw[List.getElem?_set_self (by omega),re]
   rfl
  ·rw[List.getElem?_set_ne (dD he),Yb _ _ he];exact h.at_ y hy
 ok:=fun y u hy=>by
  by_cases he:y=x
  ·subst he;rw[re] at hy;injection hy with hy;subst hy;exact ⟨hx,ht,hl⟩
  ·rw[Yb _ _ he] at hy;exact h.ok y u hy
theorem vZ (t:Tm):0<t.codes.length:=by rw[Tm.codes_len]; exact t.size_pos
section
variable {a0:List zg} {w:List jI} {B:Bd} {σ:Sb} (hT:RepW a0 w B) (hG:Good B σ)
include hT hG
theorem R0:∀(m k:Nat) (t:Tm),Xf t<=m->m<=k->t.ok a0 24->t.codes.length<=48 ->
  ∃ u:Tm,lp uu k (t.codes,w)=some u.codes∧u.ok a0 24∧u.codes.length<=48∧(∀ θ,SolB θ B->t.sub θ=u.sub θ)∧∀ y,u = .v y->B y=none:=by
 intro m
 induction m with
 | zero=>intro k t hm; cases t<;>simp [Xf] at hm
 | succ m ih =>
  intro k t hm hk ho hl;obtain⟨k,rfl⟩:∃ k',k=k'+1:=⟨k - 1,by omega⟩
  rw[zv];have key:=fun t (h1:Xf t<=m) h2 h3=>ih k t h1 (by omega) h2 h3
  generalize lp uu k=rec at key ⊢;unfold uu;cases t with
  | v x =>
   have hx:x<24:=ho;have hc:(Tm.v x).codes=[-1 - (x:Int)]:=rfl;have w1:ag .i64 ((-1) - (-1 - (x:Int)))=(x:Int):=by rw[zo]<;>omega
   rw[hc];simp only[ak,bm,z6,aB,aa,w1];rw[show ((((0+1:Nat):Int))==1)=true from rfl,cond_true,decide_eq_true (show -1 - (x:Int)<0 by omega),cond_true,ym (show x<48 by omega),aa,hT.at_ x (by omega),aa]
   cases hb:B x with
   | none =>
    refine ⟨.v x,rfl,ho,hl,fun θ _=>rfl,fun y hy=>by injection hy with hy; rw[← hy]; exact hb⟩
   | some u =>
    obtain⟨-,h2,h3⟩:=hT.ok x u hb;have hp:=vZ u;show ∃ u1,(cond (decide (((af u.codes:Nat):Int)>0)) _ _)=_∧_;rw[decide_eq_true (show ((af u.codes:Nat):Int)>0 by omega),cond_true]
    obtain⟨u',g1,g2,g3,g4,g5⟩:=key u (by
     cases u with
     | v y=>have:=hG.down _ y hb; simp only[Xf] at hm ⊢; omega
     | f c as=>simp only[Xf] at hm ⊢; omega) h2 h3
    refine ⟨u',?_,g2,g3,fun θ hθ=>(hθ _ u hb).trans (g4 θ hθ),g5⟩;show (w[x]?).bind _=_;rw[hT.at_ x (by omega),hb]
    exact g1
  | f c as =>
   refine ⟨.f c as,?_,ho,hl,fun θ _=>rfl,fun y hy=>by cases hy⟩
   have hc:(Tm.f c as).codes=(c:Int)::za as:=rfl;rw[hc];simp only[z6,aB,aa];rw[decide_eq_false (show ¬(c:Int)<0 by omega),cond_false]
   cases (((af ((c:Int)::za as):Nat):Int)==1)<;>rfl
theorem Bz {t:Tm} (ho:t.ok a0 24) (hl:t.codes.length<=48) :
  ∃ u:Tm,sd t.codes w=some u.codes∧u.ok a0 24∧u.codes.length<=48∧(∀ θ,SolB θ B->t.sub θ=u.sub θ)∧∀ y,u = .v y->B y=none:=by
 obtain⟨u,h1,h2⟩:=R0 hT hG (Xf t) ze t (aC _) (by
  cases t with
  | v x=>have:x<24:=ho; simp only[Xf]; unfold ze; omega
  | f c as=>simp only[Xf]; unfold ze; omega) ho hl
 refine ⟨u,?_,h2⟩;unfold sd;rw[h1];rfl
theorem Hk {v:Nat} (hv0:B v=none):∀(k m:Nat) (es:List Int),(∀ c∈es,-24<=c)->es.length<=1000->(∀ c∈es,c<0->B (-1 - c).toNat≠none->Good.rank σ (-1 - c).toNat<m)->m<k ->
  ∃ b,wm k ((v:Int),es,w)=some b∧(b=true↔∃ c∈es,c<0∧(σ (-1 - c).toNat).has v):=by
 intro k
 induction k with
 | zero=>intro m es _ _ _ h; omega
 | succ k ih =>
  intro m es hc hl hr hm;show ∃ b,tp (wm k) (v:Int) es w=some b∧_;unfold tp;rw[kY _ _ _ _ (by unfold maxLen; omega)]
  have go:∀ es:List Int,(∀ c∈es,-24<=c)->(∀ c∈es,c<0->B (-1 - c).toNat≠none->Good.rank σ (-1 - c).toNat<m) ->
    ∃ b,zH (wm k) (v:Int) w es=some (cond b (.inr true) (.inl ()))∧(b=true↔∃ c∈es,c<0∧(σ (-1 - c).toNat).has v):=by
   intro es
   induction es with
   | nil=>intro _ _; exact ⟨false,rfl,by simp⟩
   | cons e es ihe =>
    intro hc hr;obtain⟨b,g1,g2⟩:=ihe (fun c h=>hc c (ai _ h)) fun c h=>hr c (ai _ h);have he:=hc e (aj ..);unfold zH;by_cases h0:e≥0
    ·rw[decide_eq_true h0,cond_true];refine ⟨b,g1,g2.trans ?_⟩;constructor
     ·rintro⟨c,h1,h2⟩; exact ⟨c,ai _ h1,h2⟩
     ·rintro⟨c,h1,h2,h3⟩;rcases aG.1 h1 with rfl | h1
      ·omega
      ·exact ⟨c,h1,h2,h3⟩
    ·rw[decide_eq_false h0,cond_false];obtain⟨u,rfl⟩:∃ u:Nat,e = -1 - (u:Int):=⟨(-1 - e).toNat,by omega⟩
     have hu:u<24:=by omega
     have hn:(-1 - (-1 - (u:Int))).toNat=u:=by omega
     have w1:ag .i64 ((-1) - (-1 - (u:Int)))=(u:Int):=by rw[zo]<;>omega
     rw[w1];by_cases huv:u=v
     ·subst huv;rw[show (((u:Nat):Int)==((u:Nat):Int))=true from by simp,cond_true]
      exact ⟨true,rfl,⟨fun _=>⟨_,aj ..,by omega,by rw[hn,hG.free _ hv0]; rfl⟩,fun _=>rfl⟩⟩
     ·rw[show (((u:Nat):Int)==((v:Nat):Int))=false from by simp; omega,cond_false]
      simp only[ym (show u<48 by omega),aa,hT.at_ u (by omega)]
      cases hb:B u with
      | none =>
       show ∃ b,(cond (decide (((af ([]:List Int):Nat):Int)>0)) _ _)=_∧_;refine ⟨b,g1,g2.trans ?_⟩;constructor
       ·rintro⟨c,h1,h2⟩; exact ⟨c,ai _ h1,h2⟩
       ·rintro⟨c,h1,h2,h3⟩;rcases aG.1 h1 with rfl | h1
        ·rw[hn,hG.free _ hb] at h3;have h3:u=v:=h3;exact absurd h3 huv
        ·exact ⟨c,h1,h2,h3⟩
      | some t =>
       obtain⟨-,h2,h3⟩:=hT.ok u t hb;have hp:=vZ t;show ∃ b,(cond (decide (((af t.codes:Nat):Int)>0)) _ _)=_∧_;rw[decide_eq_true (show ((af t.codes:Nat):Int)>0 by omega),cond_true]
       have hcodes:∀ c∈t.codes,-24<=c∧(c<0->t.has (-1 - c).toNat):=fun c hcm=>by
        have h1:c∈za [t]:=by simp [za,hcm]
        by_cases hc0:c<0
        ·have h4:=(kv hc0 [t]).1 h1;have h5:t.has (-1 - c).toNat:=by rcases h4 with h4 | h4; exact h4; exact absurd h4 (by simp [jr])
         have h6:=Tm.ok_has t h2 h5;exact ⟨by omega,fun _=>h5⟩
        ·exact ⟨by omega,fun h=>absurd h hc0⟩
       obtain⟨b1,k1,k2⟩:=ih (Good.rank σ u) t.codes (fun c h=>(hcodes c h).1) (by omega) (fun c hcm h0 _=>hG.rank_lt hb ((hcodes c hcm).2 h0) (by have:=(hcodes c hcm).1; omega)) (by
        have:=hr _ (aj ..) (by omega) (by rw[hn,hb]; simp)
        rw[hn] at this;omega)
       have k1:wm k ((v:Int),zaf (some t),w)=some b1:=k1;rw[k1,aa];have hb1:b1=true↔(σ u).has v:=by
        rw[k2,hG.bound u t hb,Tm.has_sub];constructor
        ·rintro⟨c,h4,h5,h6⟩;exact ⟨_,(hcodes c h4).2 h5,h6⟩
        ·rintro⟨y,h4,h5⟩;refine ⟨-1 - (y:Int),?_,by omega,by rw[show (-1 - (-1 - (y:Int))).toNat=y by omega]; exact h5⟩
         have:=(kv (c := -1 - (y:Int)) (by omega) [t]).2 (by rw[show (-1 - (-1 - (y:Int))).toNat=y by omega]; exact .inl h4)
         simpa[za] using this
       cases b1 with
       | true =>
        refine ⟨true,rfl,⟨fun _=>⟨_,aj ..,by omega,?_⟩,fun _=>rfl⟩⟩
        rw[hn];exact hb1.1 rfl
       | false =>
        refine ⟨b,g1,g2.trans ?_⟩;constructor
        ·rintro⟨c,h1,h2⟩; exact ⟨c,ai _ h1,h2⟩
        ·rintro⟨c,h1,h2,h3⟩;rcases aG.1 h1 with rfl | h1
         ·rw[hn] at h3;exact absurd (hb1.2 h3) (by simp)
         ·exact ⟨c,h1,h2,h3⟩
  obtain⟨b,g1,g2⟩:=go es hc hr;rw[g1,aa];exact ⟨b,by cases b<;>rfl,g2⟩
end
structure Qf (out E r:List Int):Prop where
 fits:out.length+E.length<=48->r=out++E
 over:48<out.length+E.length->48<r.length
 len:r.length<=max out.length 49
theorem Qf.step {out E1 E2 r1 r:List Int} (h:Qf out E1 r1) (h':Qf r1 E2 r):Qf out (E1++E2) r where
 fits:=fun hl=>by
  rw[am] at hl;have e:=h.fits (by omega)
  have e2:=h'.fits (by rw[e,am]; omega)
  rw[e2,e,aW]
 over:=fun hl=>by
  rw[am] at hl;by_cases h1:out.length+E1.length<=48
  ·have e:=h.fits h1;refine h'.over ?_;rw[e,am]; omega
  ·exact h'.over (by have:=h.over (by omega); omega)
 len:=by have:=h.len; have:=h'.len; omega
theorem Qf.full {out E:List Int} (h:48<out.length):Qf out E out:=⟨fun hl=>by omega,fun _=>h,by omega⟩
theorem Qf.one {out:List Int} (c:Int) (h:out.length<=48):Qf out [c] (out++[c]):=⟨fun _=>rfl,fun hl=>by rw[am]; exact hl,by rw[am]; simp; omega⟩
theorem Qf.nil (out:List Int):Qf out [] out:=⟨fun _=>by simp,fun h=>by simpa using h,by omega⟩
theorem Zh {a0:List zg} {t:Tm} (ho:t.ok a0 24):∀ c∈t.codes,-24<=c∧(c<0->t.has (-1 - c).toNat):=fun c hcm=>by
 by_cases hc0:c<0
 ·have h5:=(Tm.mem_codes hc0 t).1 hcm;have h6:=Tm.ok_has t ho h5;exact ⟨by omega,fun _=>h5⟩
 ·exact ⟨by omega,fun h=>absurd h hc0⟩
section
variable {a0:List zg} {w:List jI} {B:Bd} {σ:Sb} (hT:RepW a0 w B) (hG:Good B σ)
include hT hG
theorem PX:∀(k m:Nat) (es out:List Int),(∀ c∈es,-24<=c)->es.length<=1000->(∀ c∈es,c<0->B (-1 - c).toNat≠none->Good.rank σ (-1 - c).toNat<m)->m<k->out.length<=1000 ->
  ∃ r,xa k (es,w,out)=some r∧Qf out (es.flatMap (Yt σ)) r:=by
 intro k
 induction k with
 | zero=>intro m es out _ _ _ h; omega
 | succ k ih =>
  intro m es out hc hl hr hm ho;show ∃ r,tq (xa k) es w out=some r∧_;unfold tq;rw[kU _ _ _ _ (by unfold maxLen; omega)]
  have go:∀(es out:List Int),(∀ c∈es,-24<=c)->(∀ c∈es,c<0->B (-1 - c).toNat≠none->Good.rank σ (-1 - c).toNat<m)->out.length<=1000 ->
    ∃ r,zC (xa k) w es out=some r∧Qf out (es.flatMap (Yt σ)) r:=by
   intro es
   induction es with
   | nil=>intro out _ _ _; exact ⟨out,rfl,Qf.nil out⟩
   | cons e es ihe =>
    intro out hc hr ho;have ihe:=fun out ho=>ihe out (fun c h=>hc c (ai _ h)) (fun c h=>hr c (ai _ h)) ho;have he:=hc e (aj ..);unfold zC;by_cases h48:out.length<=48
    ·rw[decide_eq_true (show ((af out:Nat):Int)<=48 by omega),cond_true,bv]
     have plain:Yt σ e=[e]->∃ r,(cond (yK (af out+af ([e]:List Int)) 8) (zC (xa k) w es (out++([e]:List Int))) none)=some r∧Qf out (Yt σ e++es.flatMap (Yt σ)) r:=fun hx=>by
      obtain⟨r,g1,g2⟩:=ihe (out++[e]) (by simp; omega)
      rw[zp (by simp; omega),cond_true,g1,hx]
      exact ⟨r,rfl,(Qf.one e h48).step g2⟩
     by_cases h0:e<0
     ·rw[decide_eq_true h0,cond_true];obtain⟨u,rfl⟩:∃ u:Nat,e = -1 - (u:Int):=⟨(-1 - e).toNat,by omega⟩
      have hu:u<24:=by omega
      have hn:(-1 - (-1 - (u:Int))).toNat=u:=by omega
      have w1:ag .i64 ((-1) - (-1 - (u:Int)))=(u:Int):=by rw[zo]<;>omega
      rw[w1];simp only[ym (show u<48 by omega),aa,hT.at_ u (by omega)]
      cases hb:B u with
      | none =>
       show ∃ r,(cond (decide (((af ([]:List Int):Nat):Int)>0)) _ _)=_∧_;refine plain ?_;unfold Yt;rw[if_pos h0,hn,hG.free u hb];rfl
      | some t =>
       obtain⟨-,h2,h3⟩:=hT.ok u t hb;have hp:=vZ t;show ∃ r,(cond (decide (((af t.codes:Nat):Int)>0)) _ _)=_∧_;rw[decide_eq_true (show ((af t.codes:Nat):Int)>0 by omega),cond_true]
       have hcodes:=Zh h2;obtain⟨r1,k1,k2⟩:=ih (Good.rank σ u) t.codes out (fun c h=>(hcodes c h).1) (by omega) (fun c hcm h0 _=>hG.rank_lt hb ((hcodes c hcm).2 h0) (by have:=(hcodes c hcm).1; omega)) (by
        have:=hr _ (aj ..) (by omega) (by rw[hn,hb]; simp)
        rw[hn] at this;omega) ho
       have k1:xa k (zaf (some t),w,out)=some r1:=k1;rw[k1,aa];obtain⟨r,g1,g2⟩:=ihe r1 (by have:=k2.len; omega)
       refine ⟨r,g1,Qf.step (r1:=r1) ?_ g2⟩;have:Yt σ (-1 - (u:Int))=t.codes.flatMap (Yt σ):=by
        unfold Yt;rw[if_pos h0,hn,hG.bound u t hb,Tm.codes_sub];rfl
       rw[this];exact k2
     ·rw[decide_eq_false h0,cond_false];refine plain ?_;unfold Yt;rw[if_neg h0]
    ·rw[decide_eq_false (show ¬((af out:Nat):Int)<=48 by omega),cond_false]
     exact ⟨out,rfl,Qf.full (by omega)⟩
  obtain⟨r,g1,g2⟩:=go es out hc hr ho;rw[g1,aa];exact ⟨r,rfl,g2⟩
theorem H9 {t:Tm} (ho:t.ok a0 24) (hl:t.codes.length<=48):∃ r,sN t.codes w []=some r∧Qf [] (t.sub σ).codes r:=by
 rw[Tm.codes_sub];refine PX hT hG ze 100 t.codes [] (fun c h=>(Zh ho c h).1) (by omega) (fun c _ _ _ => ?_) (by unfold ze; omega) (by simp)
 have:=Good.rank_le σ (-1 - c).toNat;omega
theorem Ad {v:Nat} (hv0:B v=none) {t:Tm} (ho:t.ok a0 24) (hl:t.codes.length<=48):∃ b,Zq (v:Int) t.codes w=some b∧(b=true↔(t.sub σ).has v):=by
 obtain⟨b,h1,h2⟩:=Hk hT hG hv0 ze 100 t.codes (fun c h=>(Zh ho c h).1) (by omega) (fun c _ _ _=>by have:=Good.rank_le σ (-1 - c).toNat; omega) (by unfold ze; omega)
 refine ⟨b,h1,h2.trans ?_⟩;rw[Tm.has_sub];constructor
 ·rintro⟨c,h4,h5,h6⟩;exact ⟨_,(Zh ho c h4).2 h5,h6⟩
 ·rintro⟨y,h4,h5⟩;refine ⟨-1 - (y:Int),(Tm.mem_codes (by omega) t).2 (by rw[show (-1 - (-1 - (y:Int))).toNat=y by omega]; exact h4),by omega,by rw[show (-1 - (-1 - (y:Int))).toNat=y by omega]; exact h5⟩
end
structure OutW (a0:List zg) (B:Bd) (E:List (Tm×Tm)) (r:Bool×List jI):Prop where
 yes:r.1=true->∃ B' σ',RepW a0 r.2 B'∧Good B' σ'∧∀ θ,SolB θ B'↔SolB θ B∧Sol θ E
 no:r.1=false->∀ θ,SolB θ B->Sol θ E->False
theorem sP {θ:Sb} {t u:Tm}:Sol θ [(t,u)]↔t.sub θ=u.sub θ:=by simp [Sol]
theorem GA {a0:List zg} {w:List jI} {B:Bd} {σ:Sb} (hT:RepW a0 w B) (hG:Good B σ) {x:Nat} (hx:x<24) (hb:B x=none) {c:Nat} {as:List Tm} (ho:(Tm.f c as).ok a0 24) (hl:(Tm.f c as).codes.length<=48) :
  ∃ r,zA [-1 - (x:Int)] (Tm.f c as).codes false w=some r∧OutW a0 B [(.v x,.f c as)] r:=by
 unfold zA;have w1:ag .i64 ((-1) - (-1 - (x:Int)))=(x:Int):=by rw[zo]<;>omega
 simp only[z6,aB,aa,cond_false,w1];obtain⟨b,h1,h2⟩:=Ad hT hG hb ho hl;rw[h1,aa];cases b with
 | true =>
  refine ⟨_,rfl,⟨fun h=>(nomatch h),fun _ θ h3 h4=>hG.occurs (h2.1 rfl) h3 (sP.1 h4)⟩⟩
 | false =>
  simp only[cond_false,ym (show x<48 by omega),aa,hT.at_ x (by omega)]
  have hn:¬((Tm.f c as).sub σ).has x:=fun h=>by have:=h2.2 h; cases this
  refine ⟨_,rfl,⟨fun _=>⟨_,_,hT.set hx ho hl,hG.bind hb hn (fun y hy=>by cases hy),fun θ => ?_⟩,fun h=>(nomatch h)⟩⟩
  rw[SolB.upd hb,sP];rfl
theorem By {a0:List zg} {w:List jI} {B:Bd} {σ:Sb} (hT:RepW a0 w B) (hG:Good B σ) {x y:Nat} (hx:x<24) (hy:y<x) (hbx:B x=none) (hby:B y=none) :
  ∃ r,zA [-1 - (y:Int)] [-1 - (x:Int)] true w=some r∧OutW a0 B [(.v x,.v y)] r:=by
 unfold zA;have w1:ag .i64 ((-1) - (-1 - (x:Int)))=(x:Int):=by rw[zo]<;>omega
 simp only[z6,aB,aa,cond_true,w1,ym (show x<48 by omega),hT.at_ x (by omega)]
 have hn:¬((Tm.v y).sub σ).has x:=by
  show ¬(σ y).has x;rw[hG.free y hby];intro h;have h:y=x:=h;omega
 have hset:RepW a0 (w.set x (Tm.v y).codes) (PH B x (.v y)):=hT.set hx (show y<24 by omega) (by show 1<=48; omega)
 refine ⟨_,rfl,⟨fun _=>⟨_,_,hset,hG.bind hbx hn (fun z hz=>by injection hz with hz; omega),fun θ => ?_⟩,fun h=>(nomatch h)⟩⟩
 rw[SolB.upd hbx,sP];rfl
theorem OutW.via {a0:List zg} {B:Bd} {E E':List (Tm×Tm)} {r:Bool×List jI} (h:OutW a0 B E r) (he:∀ θ,SolB θ B->(Sol θ E↔Sol θ E')):OutW a0 B E' r where
 yes:=fun hr=>by
  obtain⟨B',σ',h1,h2,h3⟩:=h.yes hr;exact ⟨B',σ',h1,h2,fun θ=>(h3 θ).trans ⟨fun ⟨a,b⟩=>⟨a,(he θ a).1 b⟩,fun ⟨a,b⟩=>⟨a,(he θ a).2 b⟩⟩⟩
 no:=fun hr θ h1 h2=>h.no hr θ h1 ((he θ h1).2 h2)
def Dep (R:List Tm) (B:Bd) (δ:Nat) (t:Tm):Prop:=∀ θ,SolB θ B->∃ c∈R,δ+(t.sub θ).ht<=(c.sub θ).ht
theorem Dep.mono {R:List Tm} {B B':Bd} {δ:Nat} {t:Tm} (h:Dep R B δ t) (hB:∀ θ,SolB θ B'->SolB θ B):Dep R B' δ t:=fun θ hθ=>h θ (hB θ hθ)
theorem Dep.lt {R:List Tm} {B:Bd} {σ:Sb} {δ:Nat} {t:Tm} (h:Dep R B δ t) (hG:Good B σ) (hS:VY B) (hR:∀ c∈R,c.size<=48):δ<2500:=by
 obtain⟨c,hc,h1⟩:=h σ hG.bound;have h2:=Tm.ht_sub (s:=σ) (M:=49*49) c fun x _=>hG.low hS x;have h3:=c.ht_size;have h4:=hR c hc;have h5:=zc1 (t.sub σ);omega
theorem BD {a0:List zg} {t u:Tm} (ht:t.ok a0 24) (hu:u.ok a0 24) (h:t.codes=u.codes):t=u:=by
 have:=yH (a0:=a0) _ [t] [u] (aC _) ⟨ht,trivial⟩ ⟨hu,trivial⟩ (by simp [za,h])
 injection this
def Sm (a0:List zg) (t:Tm):Prop:=t.ok a0 24∧t.codes.length<=48
def M9 (a0:List zg) (R:List Tm) (k:Nat):Prop:=∀(δ:Nat) (w:List jI) (B:Bd) (σ:Sb) (t u:Tm),RepW a0 w B->Good B σ->Sm a0 t->Sm a0 u->Dep R B δ t->2*(2600 - δ)<=k ->
 ∃ r,(yS k).1 (a0,t.codes,u.codes,w)=some r∧OutW a0 B [(t,u)] r
def zba (a0:List zg) (R:List Tm) (k:Nat):Prop:=∀(δ:Nat) (w:List jI) (B:Bd) (σ:Sb) (ts us:List Tm),RepW a0 w B->Good B σ->(∀ t∈ts,Sm a0 t)->(∀ t∈us,Sm a0 t)->ts.length=us.length->ts.length<=1000->(∀ t∈ts,Dep R B δ t)->2*(2600 - δ)+1<=k ->
 ∃ r,(yS k).2 (a0,ts.map Tm.codes,us.map Tm.codes,w)=some r∧OutW a0 B (ts.zip us) r
theorem Sl {a0:List zg} {R:List Tm} {k:Nat} (hp:M9 a0 R k):zba a0 R (k+1):=by
 intro δ w B σ ts us hT hG hts hus hl hlen hd hk;show ∃ r,sn (yS k) a0 (ts.map Tm.codes) (us.map Tm.codes) w=some r∧_;unfold sn;rw[jq _ _ _ _ _ (by rw[aF]; unfold maxLen; omega)]
 have go:∀(ts vs:List Tm) (i:Nat) (w:List jI) (B:Bd) (σ:Sb),RepW a0 w B->Good B σ->us.drop i=vs->(∀ t∈ts,Sm a0 t)->ts.length=vs.length->(∀ t∈ts,Dep R B δ t) ->
   (∃ w',zR (yS k) a0 (us.map Tm.codes) (ts.map Tm.codes) i w=some (.inl w')∧OutW a0 B (ts.zip vs) (true,w')) ∨
   (∃ w',zR (yS k) a0 (us.map Tm.codes) (ts.map Tm.codes) i w=some (.inr (false,w'))∧OutW a0 B (ts.zip vs) (false,w')):=by
  intro ts
  induction ts with
  | nil =>
   intro vs i w B σ hT hG hdr _ hl _;exact .inl ⟨w,rfl,⟨fun _=>⟨B,σ,hT,hG,fun θ=>⟨fun h=>⟨h,Sol.nil⟩,fun h=>h.1⟩⟩,fun h=>(nomatch h)⟩⟩
  | cons t ts ih =>
   intro vs i w B σ hT hG hdr hts hl hd;cases vs with
   | nil=>simp at hl
   | cons v vs =>
    have hgv:us[i]? = some v:=zr hdr;have hvm:v∈us:=aJ hgv;obtain⟨r,h1,h2⟩:=hp δ w B σ t v hT hG (hts t (aj ..)) (hus v hvm) (hd t (aj ..)) (by omega)
    rw[aK];unfold zR;rw[y8,bh,hgv];simp only[bD,aa];rw[h1,aa];obtain⟨b,w1⟩:=r;cases b with
    | false =>
     refine .inr ⟨w1,rfl,⟨fun h=>(nomatch h),fun _ θ h3 h4=>h2.no rfl θ h3 ?_⟩⟩;rw[el,Sol.cons] at h4;exact sP.2 h4.1
    | true =>
     obtain⟨B',σ',g1,g2,g3⟩:=h2.yes rfl;have comb:∀{r2:Bool×List jI},OutW a0 B' (ts.zip vs) r2->OutW a0 B ((t::ts).zip (v::vs)) r2:=fun {r2} h=>by
      rw[el];refine ⟨fun hr => ?_,fun hr θ h3 h4 => ?_⟩
      ·obtain⟨B2,σ2,k1,k2,k3⟩:=h.yes hr;refine ⟨B2,σ2,k1,k2,fun θ => ?_⟩;rw[k3,g3,sP,and_assoc,Sol.cons (p:=(t,v)) (E:=ts.zip vs)]
      ·rw[Sol.cons] at h4;exact h.no hr θ ((g3 θ).2 ⟨h3,sP.2 h4.1⟩) h4.2
     rcases ih vs (i+1) w1 B' σ' g1 g2 (zj hdr) (fun t h=>hts t (ai _ h)) (by simpa using hl) (fun t h=>(hd t (ai _ h)).mono fun θ hθ=>((g3 θ).1 hθ).1) with ⟨w',q1,q2⟩ | ⟨w',q1,q2⟩
     ·exact .inl ⟨w',q1,comb q2⟩
     ·exact .inr ⟨w',q1,comb q2⟩
 rcases go ts us 0 w B σ hT hG rfl hts hl hd with ⟨w',h1,h2⟩ | ⟨w',h1,h2⟩
 ·rw[h1]; exact ⟨_,rfl,h2⟩
 ·rw[h1]; exact ⟨_,rfl,h2⟩
theorem Oc {a0:List zg} (hs:SignOk a0) {R:List Tm} (hR:∀ c∈R,c.size<=48) {k:Nat} (ha:zba a0 R k):M9 a0 R (k+1):=by
 intro δ w B σ t u hT hG ht hu hd hk;show ∃ r,vO (yS k) a0 t.codes u.codes w=some r∧_;obtain⟨t1,a1,a2,a3,a4,a5⟩:=Bz hT hG ht.1 ht.2;obtain⟨u1,b1,b2,b3,b4,b5⟩:=Bz hT hG hu.1 hu.2
 -- it is enough to speak of these
 suffices h:∃ r,vO (yS k) a0 t.codes u.codes w=some r∧OutW a0 B [(t1,u1)] r by
  obtain⟨r,h1,h2⟩:=h;exact ⟨r,h1,h2.via fun θ hθ=>by rw[sP,sP,a4 θ hθ,b4 θ hθ]⟩
 have eta:∀{o:Option (Bool×List jI)} {E:List (Tm×Tm)},(∃ r,o=some r∧OutW a0 B E r)->∃ r,(o.bind fun r=>some (r.1,r.2))=some r∧OutW a0 B E r:=fun ⟨r,h1,h2⟩=>⟨r,by rw[h1]; rfl,h2⟩
 have flip:∀{o:Option (Bool×List jI)} {p q:Tm},(∃ r,o=some r∧OutW a0 B [(p,q)] r)->∃ r,o=some r∧OutW a0 B [(q,p)] r:=fun ⟨r,h1,h2⟩=>⟨r,h1,h2.via fun θ _=>by rw[sP,sP]; exact eq_comm⟩
 unfold vO;rw[a1,aa,b1,aa,Wk (by omega),aa]
 by_cases he:t1.codes=u1.codes
 ·have:=BD a2 b2 he;subst this;rw[decide_eq_true he,cond_true];exact ⟨_,rfl,⟨fun _=>⟨B,σ,hT,hG,fun θ=>⟨fun h=>⟨h,sP.2 rfl⟩,fun h=>h.1⟩⟩,fun h=>(nomatch h)⟩⟩
 rw[decide_eq_false he,cond_false];have hne:t1≠u1:=fun h=>he (by rw[h])
 clear he a1 b1;cases t1 with
 | v x =>
  have hx:x<24:=a2;have hbx:=a5 x rfl;have c1:(Tm.v x).codes=[-1 - (x:Int)]:=rfl;have d1:decide (-1 - (x:Int)<0)=true:=decide_eq_true (by omega)
  have d2:decide (-1 - (x:Int)≥0)=false:=decide_eq_false (by omega)
  cases u1 with
  | v y =>
   have hy:y<24:=b2;have hby:=b5 y rfl;have c2:(Tm.v y).codes=[-1 - (y:Int)]:=rfl;have d3:decide (-1 - (y:Int)<0)=true:=decide_eq_true (by omega)
   have hxy:x≠y:=fun h=>hne (by rw[h])
   rw[c1,c2];by_cases hlt:y<x
   ·have d4:decide (-1 - (x:Int) < -1 - (y:Int))=true:=decide_eq_true (by omega)
    simp only[z6,aB,aa,d1,d3,d4,cond_true];exact eta (By hT hG hx hlt hbx hby)
   ·have d4:decide (-1 - (x:Int) < -1 - (y:Int))=false:=decide_eq_false (by omega)
    simp only[z6,aB,aa,d1,d2,d3,d4,cond_true,cond_false];exact eta (flip (By hT hG hy (by omega) hby hbx))
  | f c as =>
   have c2:(Tm.f c as).codes=(c:Int)::za as:=rfl;have d3:decide ((c:Int)<0)=false:=decide_eq_false (by omega)
   have h1:=GA hT hG hx hbx b2 b3;rw[c2] at h1;rw[c1,c2];simp only[z6,aB,aa,d1,d2,d3,cond_true,cond_false];exact eta h1
 | f c as =>
  have c1:(Tm.f c as).codes=(c:Int)::za as:=rfl;have d1:decide ((c:Int)<0)=false:=decide_eq_false (by omega)
  have d2:decide ((c:Int)≥0)=true:=decide_eq_true (by omega)
  cases u1 with
  | v y =>
   have hy:y<24:=b2;have hby:=b5 y rfl;have c2:(Tm.v y).codes=[-1 - (y:Int)]:=rfl;have d3:decide (-1 - (y:Int)<0)=true:=decide_eq_true (by omega)
   have h1:=GA hT hG hy hby a2 a3;rw[c1] at h1;rw[c1,c2];simp only[z6,aB,aa,d1,d2,d3,cond_true,cond_false];exact eta (flip h1)
  | f d bs =>
   have c2:(Tm.f d bs).codes=(d:Int)::za bs:=rfl;have d3:decide ((d:Int)<0)=false:=decide_eq_false (by omega)
   rw[c1,c2];simp only[z6,aB,aa,d1,d2,d3,cond_true,cond_false];by_cases hcd:c=d
   ·subst hcd;rw[show ((c:Int) != (c:Int))=false from by simp,cond_false]
    have hla:as.length=bs.length:=by
     have h1:=a2.1;have h2:=b2.1;rw[h1] at h2;injection h2
    rw[c1,ak] at a3;rw[c2,ak] at b3;have hw:∀{xs:List Tm},(za xs).length<=48->∀ t∈xs,t.codes.length<=48:=fun h t ht=>aT (uR ht) h;rw[wW,aa,vK hs (by omega) (yf as a2.2),aa,wW,aa,vK hs (by omega) (yf bs b2.2),aa]
    have hlt:=hd.lt hG hT.small hR;obtain⟨r,h1,h2⟩:=ha (δ+1) w B σ as bs hT hG (fun t h=>⟨vf.1 a2.2 t h,hw (by omega) t h⟩) (fun t h=>⟨vf.1 b2.2 t h,hw (by omega) t h⟩) hla (by
      have:=ka (yf as a2.2);rw[aF] at this;omega) (fun a ham θ hθ=>by
      obtain⟨c',hc',h5⟩:=hd θ hθ;refine ⟨c',hc',?_⟩;rw[a4 θ hθ] at h5;have h6:((Tm.f c as).sub θ).ht=htR (qO θ as)+1:=rfl;have h7:=B0 (ts:=qO θ as) (t:=a.sub θ) (by rw[Ye]; exact aZ ham)
      omega) (by omega)
    rw[h1,aa];refine ⟨_,rfl,h2.via fun θ _ => ?_⟩;rw[Sol.zip hla,sP,zea];simp
   ·rw[show ((c:Int) != (d:Int))=true from by simp; omega,cond_true]
    refine ⟨_,rfl,⟨fun h=>(nomatch h),fun _ θ _ h4 => ?_⟩⟩;rw[sP,zea] at h4;exact hcd h4.1
theorem Pz {a0:List zg} (hs:SignOk a0) {R:List Tm} (hR:∀ c∈R,c.size<=48):∀ k,M9 a0 R k∧zba a0 R k:=by
 intro k
 induction k with
 | zero =>
  refine ⟨fun δ w B σ t u hT hG _ _ hd hk => ?_,fun δ w B σ ts us _ _ _ _ _ _ _ hk=>by omega⟩
  have:=hd.lt hG hT.small hR;omega
 | succ k ih=>exact ⟨Oc hs hR ih.2,Sl ih.1⟩
theorem zgi (a0:List zg):RepW a0 (ax 48 ([]:List Int)) (fun _=>none) where
 len:=by simp
 at_:=fun x hx=>by rw[bF,if_pos hx]; rfl
 ok:=fun x t h=>by cases h
theorem I9 {a0:List zg} {w:List jI} {B:Bd} {σ:Sb} (hT:RepW a0 w B) (hG:Good B σ):∀(m v k:Nat) (out:List (Int×List Int)),24 - v=m->v<=24->m<k->out.length<=v ->
  lp wx k ((v:Int),w,out)=some (cond (qZ σ ((aL 24).drop v)) (.inl (out++vU B σ ((aL 24).drop v))) (.inr (true,false))):=by
 intro m
 induction m with
 | zero =>
  intro v k out hm hv hk ho;obtain⟨k,rfl⟩:∃ k',k=k'+1:=⟨k - 1,by omega⟩
  rw[zv];generalize lp wx k=rec;unfold wx;have:v=24:=by omega
  subst this;rw[show (aL 24).drop 24=[] from rfl]
  simp [vU,qZ]
 | succ m ih =>
  intro v k out hm hv hk ho;obtain⟨k,rfl⟩:∃ k',k=k'+1:=⟨k - 1,by omega⟩
  rw[zv];have key:=fun out' ho'=>ih (v+1) k out' (by omega) (by omega) (by omega) ho'
  generalize lp wx k=rec at key ⊢;unfold wx;have w1:ag .i64 ((v:Int)+1)=((v+1:Nat):Int):=by rw[zo]<;>omega
  have hdr:(aL 24).drop v=v::(aL 24).drop (v+1):=by
   rw[aY (by simp; omega)]
   simp
  simp only[decide_eq_true (show (v:Int)<=23 by omega),cond_true,ym (show v<48 by omega),aa,hT.at_ v (by omega),w1]
  rw[hdr];cases hb:B v with
  | none =>
   show (cond (((af ([]:List Int):Nat):Int)==0) _ _)=_;rw[show (((af ([]:List Int):Nat):Int)==0)=true from rfl,cond_true,key out (by omega)]
   have hs:(σ v).size<=48:=by rw[hG.free v hb]; simp [Tm.size]
   have hb:Hm B v=false:=by simp [Hm,hb]
   simp [vU,qZ,hb,hs]
  | some t =>
   obtain⟨-,h2,h3⟩:=hT.ok v t hb;have hp:=vZ t;show (cond (((af t.codes:Nat):Int)==0) _ ((sN t.codes w []).bind _))=_;rw[show (((af t.codes:Nat):Int)==0)=false from by simp; intro h; rw[h] at hp; simp at hp,cond_false]
   obtain⟨r,g1,g2⟩:=H9 hT hG h2 h3;rw[← hG.bound v t hb] at g2;rw[g1,aa];by_cases hs:(σ v).size<=48
   ·have hr:=g2.fits (by rw[Tm.codes_len]; simpa using hs)
    rw[bl] at hr;subst hr;rw[decide_eq_false (show ¬((af (σ v).codes:Nat):Int)>48 by rw[Tm.codes_len]; omega),cond_false,zp (by simp only[aX]; omega),cond_true,key _ (by simp only[am,aX]; omega)]
    have hb:Hm B v=true:=by simp [Hm,hb]
    simp [vU,qZ,hb,hs]
   ·have hr:=g2.over (by rw[Tm.codes_len]; simp; omega)
    rw[decide_eq_true (show ((af r:Nat):Int)>48 by omega),cond_true]
    simp [qZ,hs]
theorem kl {a0:List zg} (hs:SignOk a0) {ts us:List Tm} (ht:okR a0 24 ts) (hu:okR a0 24 us) (hlx:(za ts).length<=48) (hly:(za us).length<=48) :
  (uW a0 (za ts) (za us)=some (false,true,[])∧(ts.length≠us.length∨∀ θ,¬ Sol θ (ts.zip us))) ∨
  (ts.length=us.length∧∃ σ,Mgu σ (ts.zip us)∧uW a0 (za ts) (za us)=some (true,qZ σ (aL 24),cond (qZ σ (aL 24)) (te σ) [])):=by
 unfold uW;rw[vK hs (by omega) (yf ts ht),aa,vK hs (by omega) (yf us hu),aa]
 by_cases hl:ts.length=us.length
 ·rw[show (((af (ts.map Tm.codes):Nat):Int) != ((af (us.map Tm.codes):Nat):Int))=false from by simp [hl],cond_false]
  have sm:∀{xs:List Tm},okR a0 24 xs->(za xs).length<=48->∀ t∈xs,Sm a0 t:=fun h1 h2 t h=>⟨vf.1 h1 t h,aT (uR h) h2⟩;have hR:∀ c∈ts,c.size<=48:=fun c hc=>by have:=(sm ht hlx c hc).2; rwa [Tm.codes_len] at this
  obtain⟨r,h1,h2⟩:=(Pz hs hR ze).2 0 (ax 48 []) (fun _=>none) .v ts us (zgi a0) Good.empty (sm ht hlx) (sm hu hly) hl (by
   have:=ka (yf ts ht);rw[aF] at this;omega) (fun t h θ _=>⟨t,h,by omega⟩) (by unfold ze; omega)
  have h1:YM a0 (ts.map Tm.codes) (us.map Tm.codes) (ax 48 [])=some r:=h1;rw[h1,aa];cases hb:r.1 with
  | false=>exact .inl ⟨rfl,.inr fun θ h=>h2.no hb θ (fun _ _ h=>(nomatch h)) h⟩
  | true =>
   obtain⟨B',σ,g1,g2,g3⟩:=h2.yes hb;refine .inr ⟨hl,σ,Mgu.of g2 g3,?_⟩;have:=I9 g1 g2 24 0 ze [] rfl (by omega) (by unfold ze; omega) (by simp)
   rw[show ((0:Nat):Int)=0 from rfl] at this
   rw[az,cond_false,this,bQ];have he:vU B' σ (aL 24)=te σ:=by
    unfold vU te;rw[show Hm B'=moved σ from funext (H7 g2)]
   cases qZ σ (aL 24) with
   | true=>simp only[cond_true,aa,vT,bl,he]
   | false=>rfl
 ·rw[show (((af (ts.map Tm.codes):Nat):Int) != ((af (us.map Tm.codes):Nat):Int))=true from by simp; omega,cond_true]
  exact .inl ⟨rfl,.inl hl⟩
theorem zdc (v:Int):(es:List (Int×List Int))->(i:Nat)->(rI es v=none∧wU v es i=some (.inl ()))∨∃(j:Nat) (e:Int×List Int),wU v es i=some (.inr ((i+j:Nat):Int))∧es[j]? = some e∧rI es v=some e.2
 | [],i=>.inl ⟨rfl,rfl⟩
 | e::es,i=>by
  unfold wU rI;rw[ef];cases h:e.1==v with
  | true=>exact .inr ⟨0,e,rfl,rfl,rfl⟩
  | false =>
   rw[cond_false];rcases zdc v es (i+1) with ⟨h1,h2⟩ | ⟨j,e',h1,h2,h3⟩
   ·exact .inl ⟨h1,h2⟩
   ·exact .inr ⟨j+1,e',by rw[h1,show i+1+j=i+(j+1) from by omega],by simpa using h2,h3⟩
theorem Oa {s:List (Int×List Int)} (hl:s.length<=1000) (v:Int):(rI s v=none∧Vt s v=some (-1))∨∃(j:Nat) (e:Int×List Int),Vt s v=some (j:Int)∧s[j]? = some e∧rI s v=some e.2:=by
 unfold Vt;rw[W8 _ _ (by unfold maxLen; omega)]
 rcases zdc v s 0 with ⟨h1,h2⟩ | ⟨j,e,h1,h2,h3⟩
 ·exact .inl ⟨h1,by rw[h2]; rfl⟩
 ·exact .inr ⟨j,e,by rw[h1,aP]; rfl,h2,h3⟩
theorem UL {s:List (Int×List Int)} (h:BindsOk s):(es out:List Int)->(∀ c∈es,-1000000<=c∧c<=1000000)->out.length+1000*es.length<=1000000000->yY s es out=some (out++onB s es)
 | [],out,_,_=>by simp [yY,onB]
 | c::es,out,hc,hl=>by
  have hc0:=hc c (aj ..);simp only[ak] at hl;have ih:=fun out hl=>UL h es out (fun c h=>hc c (ai _ h)) hl;unfold yY;have plain:onC s c=[c]->(cond (yK (af out+af ([c]:List Int)) 8) (yY s es (out++([c]:List Int))) none)=some (out++onB s (c::es)):=fun hx=>by
   rw[zp (by simp; omega),cond_true,ih _ (by simp; omega)]
   unfold onB;rw[bv,hx,aW]
  by_cases h0:c<0
  ·rw[decide_eq_true h0,cond_true];have w1:ag .i64 ((-1) - c) = -1 - c:=by rw[zo]<;>omega
   rw[w1];rcases Oa h.len (-1 - c) with ⟨h1,h2⟩ | ⟨j,e,h1,h2,h3⟩
   ·rw[h2,aa,show decide ((-1:Int)<0)=true from rfl,cond_true]
    refine plain ?_;unfold onC;rw[h1,decide_eq_false (show ¬ c≥0 by omega)]
    rfl
   ·have he:=(h.all e (aJ h2)).2;rw[h1,aa,decide_eq_false (show ¬(j:Int)<0 by omega),cond_false,y8,h2,aa,zp (by omega),cond_true,ih _ (by rw[am]; omega)]
    unfold onB;have:onC s c=e.2:=by
     unfold onC;rw[h3,decide_eq_false (show ¬ c≥0 by omega)]
     rfl
    rw[bv,this,aW]
  ·rw[decide_eq_false h0,cond_false];refine plain ?_;unfold onC;rw[decide_eq_true (show c≥0 by omega)]
   rfl
theorem D4 {s:List (Int×List Int)} (h:BindsOk s) {r:List Int} (hr:tS r):th s r=some (onB s r):=by
 have:=hr.1;unfold th;rw[WL _ _ _ (by unfold maxLen; omega),UL h r [] hr.2 (by simp; omega)]
 rfl
theorem MI {s:List (Int×List Int)} (h:BindsOk s):(es out:List zc)->(∀ l∈es,tS l.2)->out.length+es.length<=1000000->xh s es out=some (out++JY s es)
 | [],out,_,_=>by simp [xh,JY]
 | e::es,out,hn,hl=>by
  simp only[ak] at hl;unfold xh;rw[D4 h (hn e (aj ..)),aa,zp (by simp; omega),cond_true,MI h es _ (fun l hl=>hn l (ai _ hl)) (by simp; omega)]
  simp [JY]
theorem MQ {s:List (Int×List Int)} (h:BindsOk s) (s5:List zc):(es out:List jI)->(∀ l∈es,tS l)->out.length+es.length<=1000000->xm s s5 es out=some (s5,out++HD s es)
 | [],out,_,_=>by simp [xm,HD]
 | e::es,out,hn,hl=>by
  simp only[ak] at hl;unfold xm;rw[D4 h (hn e (aj ..)),aa,zp (by simp; omega),cond_true,MQ h s5 es _ (fun l hl=>hn l (ai _ hl)) (by simp; omega)]
  simp [HD]
theorem Ms {s:List (Int×List Int)} (h:BindsOk s) (s5:List zc) (s6:List jI):(es out:List zc)->(∀ l∈es,tS l.2)->out.length+es.length<=1000000->xn s s5 s6 es out=some (s5,s6,out++JY s es)
 | [],out,_,_=>by simp [xn,JY]
 | e::es,out,hn,hl=>by
  simp only[ak] at hl;unfold xn;rw[D4 h (hn e (aj ..)),aa,zp (by simp; omega),cond_true,Ms h s5 s6 es _ (fun l hl=>hn l (ai _ hl)) (by simp; omega)]
  simp [JY]
theorem Ci {s:List (Int×List Int)} (h:BindsOk s) {L:List zc} {T:List jI} {C:List zc} (hL:∀ l∈L,tS l.2) (hT:∀ l∈T,tS l) (hC:∀ l∈C,tS l.2) (h1:L.length<=1000) (h2:T.length<=1000) (h3:C.length<=1000) :
  rd s L T C=some (JY s L,HD s T,JY s C):=by
 unfold rd;rw[Xw _ _ _ _ _ (by unfold maxLen; omega),MI h L [] hL (by simp; omega),aa,
  Xr _ _ _ _ _ _ (by unfold maxLen; omega),MQ h _ T [] hT (by simp; omega),aa,
  Xu _ _ _ _ _ _ _ (by unfold maxLen; omega),Ms h _ _ C [] hC (by simp; omega),aa]
 simp
theorem F8 {l k:zc} (h:l.2.length<=1000000):jw l.1 l.2 k.1 k.2=some (decide (l=k)):=by
 obtain⟨n,r⟩:=l;obtain⟨n',r'⟩:=k;unfold jw;by_cases hn:n=n'
 ·subst hn;simp only[beq_self_eq_true,cond_true];rw[Wk h,aa];simp
 ·rw[show (n==n')=false from by simp [hn],cond_false]
  simp [hn]
theorem Mu {s0 out:List zc} {i0:Nat} {e0:zc} (he:s0[i0]? = some e0) (ho:∀ l∈out,l.2.length<=1000000):(es:List zc)->(i:Nat)->(b:Bool)->out.drop i=es->qE s0 (i0:Int) out es i b=some (b||decide (e0∈es),out)
 | [],i,b,_=>by simp [qE]
 | e::es,i,b,hd=>by
  have ih:=fun b=>Mu he ho es (i+1) b (zj hd);unfold qE;cases b with
  | true=>rw[cond_true,ih true]; rfl
  | false =>
   have hi:=qr hd;have hg:=zr hd;rw[cond_false,ym hi,aa,hg,aa,y8,he,aa,F8 (ho e (aJ hg)),aa,ih]
   congr 2
   rw[eg,eG,b9,decide_eq_true_iff,decide_eq_true_iff,decide_eq_true_iff,aG];exact ⟨fun h=>h.imp fQ id,fun h=>h.imp fQ id⟩
theorem A1 {s0:List zc} (hs:∀ l∈s0,l.2.length<=1000000):(es:List zc)->(i:Nat)->(out:List zc)->s0.drop i=es->(∀ l∈out,l.2.length<=1000000)->out.length+es.length<=1000000->xw s0 es i out=some (zT es out)
 | [],i,out,_,_,_=>rfl
 | e::es,i,out,hd,ho,hl=>by
  simp only[ak] at hl;have hg:=zr hd;have hem:=aJ hg;unfold xw zT;rw[XK _ _ _ _ (by unfold maxLen; omega),Mu hg ho out 0 false rfl,aa,eG]
  by_cases hm:e∈out
  ·have e1:∀ inst:Decidable (e∈out),@decide (e∈out) inst=true:=fun _=>decide_eq_true hm;simp only[e1,az,cond_false,cond_true];exact A1 hs es (i+1) out (zj hd) ho (by omega)
  ·have e1:∀ inst:Decidable (e∈out),@decide (e∈out) inst=false:=fun _=>decide_eq_false hm;simp only[e1,bE,cond_true,cond_false];rw[zp (by simp; omega),cond_true]
   exact A1 hs es (i+1) _ (zj hd) (fun l hl=>by
    rcases aI.1 hl with hl | hl
    ·exact ho l hl
    ·rw[bb.1 hl]; exact hs e hem) (by simp; omega)
theorem HW {L:List zc} (hs:∀ l∈L,l.2.length<=1000000) (hl:L.length<=1000):X7 L=some (zT L []):=by
 unfold X7;rw[X3 _ _ (by unfold maxLen; omega),A1 hs L 0 [] rfl (fun _ h=>(nomatch h)) (by simp; omega)]
 rfl
theorem Nq {s4 out:List jI} {s6 s7:List zc} {i0:Nat} {e0:List Int} (he:s4[i0]? = some e0) (ho:∀ l∈out,l.length<=1000000):(es:List jI)->(i:Nat)->(b:Bool)->out.drop i=es->qG (i0:Int) s4 s6 s7 out es i b=some (b||decide (e0∈es),s6,s7,out)
 | [],i,b,_=>by simp [qG]
 | e::es,i,b,hd=>by
  have ih:=fun b=>Nq (s6:=s6) (s7:=s7) he ho es (i+1) b (zj hd);unfold qG;cases b with
  | true=>rw[cond_true,ih true]; rfl
  | false =>
   have hi:=qr hd;have hg:=zr hd;rw[cond_false,ym hi,aa,hg,aa,y8,he,aa,Wk (ho e (aJ hg)),aa,ih]
   congr 2
   rw[eg,eG,b9,decide_eq_true_iff,decide_eq_true_iff,decide_eq_true_iff,aG];exact ⟨fun h=>h.imp fQ id,fun h=>h.imp fQ id⟩
theorem AU {s1 s3 s4 s5:List zc} {s2:List jI} (hs:∀ l∈s2,l.length<=1000000):(es:List jI)->(i:Nat)->(out:List jI)->s2.drop i=es->(∀ l∈out,l.length<=1000000)->out.length+es.length<=1000000->xi s1 s2 s3 es i s4 s5 out=some (s4,s5,zT es out)
 | [],i,out,_,_,_=>rfl
 | e::es,i,out,hd,ho,hl=>by
  simp only[ak] at hl;have hg:=zr hd;have hem:=aJ hg;unfold xi zT;rw[Xy _ _ _ _ _ _ _ _ (by unfold maxLen; omega),Nq hg ho out 0 false rfl,aa,eG]
  by_cases hm:e∈out
  ·have e1:∀ inst:Decidable (e∈out),@decide (e∈out) inst=true:=fun _=>decide_eq_true hm;simp only[e1,az,cond_false,cond_true];exact AU hs es (i+1) out (zj hd) ho (by omega)
  ·have e1:∀ inst:Decidable (e∈out),@decide (e∈out) inst=false:=fun _=>decide_eq_false hm;simp only[e1,bE,cond_true,cond_false];rw[zp (by simp; omega),cond_true]
   exact AU hs es (i+1) _ (zj hd) (fun l hl=>by
    rcases aI.1 hl with hl | hl
    ·exact ho l hl
    ·rw[bb.1 hl]; exact hs e hem) (by simp; omega)
def Ud (bs:List (Int×List Int)) (c:Int):List (Int×List Int):=cond (decide (c<0)&&(rI bs (-1 - c)).isNone) (bs++[(-1 - c,[-1 - (bs.length:Int)])]) bs
def Ub (bs:List (Int×List Int)) (r:List Int):List (Int×List Int):=r.foldl Ud bs
theorem RD (bs:List (Int×List Int)) (c:Int):(Ud bs c).length<=bs.length+1:=by
 unfold Ud;cases decide (c<0)&&(rI bs (-1 - c)).isNone<;>simp
theorem P8 (r:List Int):(bs:List (Int×List Int))->(Ub bs r).length<=bs.length+r.length:=by
 unfold Ub
 induction r with
 | nil=>intro bs; simp
 | cons c r ih =>
  intro bs;have:=ih (Ud bs c);have:=RD bs c;simp only[List.foldl_cons,ak];omega
theorem LG {rows:List jI} {i:Nat} {r:List Int} (hr:rows[i]? = some r) (L:List zc) (T:List jI) (C:List zc) (hrl:r.length<=1000):∀(es:List Int) (j k:Nat) (bs:List (Int×List Int)),r.drop j=es->(∀ c∈es,-1000000<=c∧c<=1000000)->es.length<k->bs.length+es.length<=1000 ->
  lp ux k (rows,(i:Int),(j:Int),L,T,C,bs)=some (Ub bs es)
 | [],j,k,bs,hd,_,hk,_=>by
  obtain⟨k,rfl⟩:∃ k',k=k'+1:=⟨k - 1,by simp at hk; omega⟩
  rw[zv];generalize lp ux k=rec;unfold ux;have:=vd hd;rw[y8,hr,aa,decide_eq_false (show ¬(j:Int)<((af r:Nat):Int) by omega),cond_false]
  rfl
 | c::es,j,k,bs,hd,hc,hk,hb=>by
  obtain⟨k,rfl⟩:∃ k',k=k'+1:=⟨k - 1,by simp at hk; omega⟩
  simp only[ak] at hk hb;have hlt:=qr hd;have hc0:=hc c (aj ..);rw[zv];have key:=fun bs hb=>LG hr L T C hrl es (j+1) k bs (zj hd) (fun c h=>hc c (ai _ h)) (by omega) hb
  generalize lp ux k=rec at key ⊢;unfold ux;have w1:ag .i64 ((j:Int)+1)=((j+1:Nat):Int):=by rw[zo]<;>omega
  have w2:ag .i64 ((-1) - c) = -1 - c:=by rw[zo]<;>omega
  have w3:ag .i64 ((-1) - ((af bs:Nat):Int)) = -1 - (bs.length:Int):=by rw[zo]<;>omega
  simp only[y8,hr,aa,zr hd,w1,w2,w3];rw[decide_eq_true (show (j:Int)<((af r:Nat):Int) by omega),cond_true]
  show _=some (Ub (Ud bs c) es);unfold Ud;by_cases h0:c<0
  ·rw[decide_eq_true h0,cond_true,aN];rcases Oa (s:=bs) (by omega) (-1 - c) with ⟨h1,h2⟩ | ⟨q,e,h1,h2,h3⟩
   ·rw[h2,aa,show decide ((-1:Int)<0)=true from rfl,cond_true,zp (by simp; omega),cond_true,key _ (by simp; omega),h1]
    rfl
   ·rw[h1,aa,decide_eq_false (show ¬(q:Int)<0 by omega),cond_false,key _ (by omega),h3]
    rfl
  ·rw[decide_eq_false h0,cond_false,bt,cond_false,key _ (by omega)]
theorem L6 {rows:List jI} (L:List zc) (T:List jI) (C:List zc) (hrows:∀ r∈rows,tS r):(es:List jI)->(i:Nat)->(bs:List (Int×List Int))->rows.drop i=es->bs.length+zk es<=1000 ->
  wn rows L T C es i bs=some (es.foldl Ub bs)
 | [],_,_,_,_=>rfl
 | e::es,i,bs,hd,hb=>by
  have hg:=zr hd;have he:=hrows e (aJ hg);have hs:zk (e::es)=e.length+zk es:=by simp [zk]
  unfold wn;have:=LG hg L T C he.1 e 0 ze bs rfl he.2 (by have:=he.1; unfold ze; omega) (by omega)
  rw[show ((0:Nat):Int)=0 from rfl] at this
  have hl:=P8 e bs;rw[this,aa,L6 L T C hrows es (i+1) _ (zj hd) (by omega)]
  rfl
structure Rl (s:GT) (bs:List (Int×List Int)):Prop where
 cnt:(bs.length:Int)=s.2
 at_:∀ v:Nat,rI bs (v:Int)=if s.1.getD v 0=0 then none else some [-(s.1.getD v 0)]
 one:∀ b∈bs,b.2.length=1
theorem Dd (bs:List (Int×List Int)) (v w:Int) (t:List Int):rI (bs++[(v,t)]) w=match rI bs w with
  | some u=>some u
  | none=>cond (v==w) (some t) none:=by
 unfold rI;rw[List.find?_append];cases h:bs.find? fun b=>b.1==w with
 | some b=>rfl
 | none =>
  simp only[Option.none_or,ef,List.find?_nil,Option.map_none];cases v==w<;>rfl
theorem rl0:Rl (ax 24 (0:Int),0) [] where
 cnt:=rfl
 at_:=fun v=>by
  rw[if_pos]
  ·rfl
  ·show (ax 24 (0:Int)).getD v 0=0;rw[aE,bF];split<;>rfl
 one:=fun _ h=>(nomatch h)
theorem Rl.ok {s:GT} {bs:List (Int×List Int)} (h:Rl s bs) (hI:RenI s):BindsOk bs where
 len:=by have:=h.cnt; have:=hI.next; omega
 all:=fun b hb=>by
  have:=h.one b hb;exact ⟨fun e=>by rw[e] at this; simp at this,by omega⟩
theorem Rl.step {s:GT} {bs:List (Int×List Int)} (h:Rl s bs) (hI:RenI s) {c:Int} (hc : -24<=c):Rl (Kp s c).2 (Ud bs c):=by
 unfold Kp Ud;by_cases h0:c≥0
 ·rw[decide_eq_true h0,cond_true,decide_eq_false (show ¬ c<0 by omega),bt,cond_false]
  exact h
 ·rw[decide_eq_false h0,cond_false,decide_eq_true (show c<0 by omega),aN]
  obtain⟨v,rfl⟩:∃ v:Nat,c = -1 - (v:Int):=⟨(-1 - c).toNat,by omega⟩
  have e1:(-1 - (-1 - (v:Int)))=(v:Int):=by omega
  rw[e1,bo,h.at_ v];by_cases hz:s.1.getD v 0=0
  ·rw[if_pos hz,show (s.1.getD v 0==0)=true from by rw[hz]; rfl,cond_true,show (none:Option jI).isNone=true from rfl,cond_true]
   have hv:v<s.1.length:=by rw[hI.len]; omega
   have hcnt:=h.cnt;refine ⟨by show (((bs++[_]).length:Nat):Int)=s.2+1; rw[am,← hcnt]; simp,fun w => ?_,fun b hb => ?_⟩
   ·rw[Dd,h.at_ w];show _=if (s.1.set v (s.2+1)).getD w 0=0 then none else some [-((s.1.set v (s.2+1)).getD w 0)]
    rw[sU hv];have hn:=hI.next;by_cases hw:w=v
    ·subst hw;rw[if_pos hz,if_pos rfl,if_neg (show ¬ s.2+1=0 by omega)]
     simp only[beq_self_eq_true,cond_true];rw[show -1 - (bs.length:Int) = -(s.2+1) from by omega]
    ·rw[if_neg hw];by_cases hz2:s.1.getD w 0=0
     ·rw[if_pos hz2];simp only;rw[show (((v:Nat):Int)==((w:Nat):Int))=false from by simp; omega]
      rfl
     ·rw[if_neg hz2]
   ·rcases aI.1 hb with hb | hb
    ·exact h.one b hb
    ·rw[bb.1 hb]; rfl
  ·rw[if_neg hz,show (s.1.getD v 0==0)=false from by simpa using hz,cond_false]
   exact h
theorem Rl.row:(r:List Int)->{s:GT}->{bs:List (Int×List Int)}->Rl s bs->RenI s->(∀ c∈r,-24<=c)->Rl (rO s r).2 (Ub bs r)
 | [],_,_,h,_,_=>h
 | c::r,s,bs,h,hI,hc=>by
  have h1:=h.step hI (hc c (aj ..));exact Rl.row r h1 (Bv hI (hc c (aj ..))).1 fun d hd=>hc d (ai _ hd)
theorem Rl.lits:(ls:List zc)->{s:GT}->{bs:List (Int×List Int)}->Rl s bs->RenI s->(∀ l∈ls,∀ c∈l.2,-24<=c)->Rl (vh s ls).2 ((ls.map (·.2)).foldl Ub bs)
 | [],_,_,h,_,_=>h
 | l::ls,s,bs,h,hI,hc=>by
  have h1:=h.row l.2 hI (hc l (aj ..));exact Rl.lits ls h1 (QL l.2 hI (hc l (aj ..))).1 fun d hd=>hc d (ai _ hd)
theorem Rl.rows:(ls:List jI)->{s:GT}->{bs:List (Int×List Int)}->Rl s bs->RenI s->(∀ l∈ls,∀ c∈l,-24<=c)->Rl (tT s ls).2 (ls.foldl Ub bs)
 | [],_,_,h,_,_=>h
 | l::ls,s,bs,h,hI,hc=>by
  have h1:=h.row l hI (hc l (aj ..));exact Rl.rows ls h1 (QL l hI (hc l (aj ..))).1 fun d hd=>hc d (ai _ hd)
theorem Ig {f:GT} (hI:RenI f) {bs:List (Int×List Int)} (h:Rl f bs):(r:List Int)->(∀ c∈r,-24<=c)->(∀ x,HH r x->f.1.getD x.toNat 0≠0)->onB bs r=vn (fun v=>.v (rho f v)) r
 | [],_,_=>rfl
 | c::r,hc,hz=>by
  have ih:=Ig hI h r (fun d hd=>hc d (ai _ hd)) fun x ⟨d,hd,h1⟩=>hz x ⟨d,ai _ hd,h1⟩;have hc0:=hc c (aj ..);unfold onB vn at ih ⊢;rw[bv,bv,ih]
  congr 1
  unfold onC Yt;by_cases h0:c≥0
  ·rw[decide_eq_true h0,cond_true,if_neg (by omega)]
  ·rw[decide_eq_false h0,cond_false,if_pos (by omega)]
   obtain⟨v,rfl⟩:∃ v:Nat,c = -1 - (v:Int):=⟨(-1 - c).toNat,by omega⟩
   have e1:(-1 - (-1 - (v:Int)))=(v:Int):=by omega
   have hv:=hz (v:Int) ⟨_,aj ..,by omega,by omega⟩
   rw[bo] at hv;rw[e1,h.at_ v,if_neg hv,bo];have:=hI.rng v;unfold rho;show [-(f.1.getD v 0)]=[-1 - (((f.1.getD v 0).toNat - 1:Nat):Int)]
   congr 1
   omega
theorem zaR {L:List zc} {T:List jI} {C:List zc} (hc:∀ r∈yh L T C,Cds r) (hl:L.length<=100) (ht:T.length<=100) (hcl:C.length<=100) (hsum:zk (L.map (·.2))+zk T+zk (C.map (·.2))<=1000):Ku L T C=some (x5 L T C):=by
 have cL:∀ l∈L,Cds l.2:=fun l h=>hc _ (yQ h);have cT:∀ l∈T,Cds l:=fun l h=>hc _ (xu h);have cC:∀ l∈C,Cds l.2:=fun l h=>hc _ (xc h);have mL:∀ l,l∈zT L []↔l∈L:=fun l=>by simpa using xk (x:=l) L []
 have mT:∀ l,l∈zT T []↔l∈T:=fun l=>by simpa using xk (x:=l) T []
 have mC:∀ l,l∈zT C []↔l∈C:=fun l=>by simpa using xk (x:=l) C []
 have lL:=wP L [];have lT:=wP T [];have lC:=wP C [];simp only[bm,aP] at lL lT lC;have big:∀ r:List Int,Cds r->r.length<=1000000:=fun r h=>by have:=h.1; omega
 unfold Ku;rw[HW (fun l h=>big _ (cL l h)) (by omega),aa,HW (fun l h=>big _ (cC l h)) (by omega),aa,
  XI _ _ _ _ _ _ (by unfold maxLen; omega),AU (fun l h=>big _ (cT l h)) T 0 [] rfl (fun _ h=>(nomatch h)) (by simp; omega),aa]
 simp only;rw[Y7 _ _ _ (by omega) (by omega) (by omega),aa]
 have nr:∀ r∈(zT L []).map (·.2)++zT T []++(zT C []).map (·.2),Cds r:=fun r hr=>by
  rcases aI.1 hr with hr | hr
  ·rcases aI.1 hr with hr | hr
   ·obtain⟨l,hl,rfl⟩:=aR.1 hr; exact cL l ((mL l).1 hl)
   ·exact cT r ((mT r).1 hr)
  ·obtain⟨l,hl,rfl⟩:=aR.1 hr; exact cC l ((mC l).1 hl)
 have sL:zk ((zT L []).map (·.2))<=zk (L.map (·.2)):=by
  have:=Yw (fun l:zc=>l.2.length) L [];have h4:(([]:List zc).map (fun l:zc=>l.2.length)).sum=0:=rfl;rw[h4,aP] at this;unfold zk;rw[cm,cm];exact this
 have sC:zk ((zT C []).map (·.2))<=zk (C.map (·.2)):=by
  have:=Yw (fun l:zc=>l.2.length) C [];have h4:(([]:List zc).map (fun l:zc=>l.2.length)).sum=0:=rfl;rw[h4,aP] at this;unfold zk;rw[cm,cm];exact this
 have sT:zk (zT T [])<=zk T:=by
  have:=Yw af T [];unfold zk;simpa using this
 rw[XA _ _ _ _ _ (by simp only[am,aF]; unfold maxLen; omega),L6 _ _ _ (fun r hr=>(nr r hr).near) _ 0 [] bQ (by rw[wV,wV]; simp only[bm]; omega),aa,ff,ff]
 -- the numbering
 obtain⟨a1,a2,a3,a4⟩:=ZH (zT L []) zgv fun l hl=>fun c h=>((cL l ((mL l).1 hl)).2 c h).1;obtain⟨b1,b2,b3,b4⟩:=Vn (zT T []) a1 fun l hl=>fun c h=>((cT l ((mT l).1 hl)).2 c h).1;obtain⟨c1,c2,c3,c4⟩:=ZH (zT C []) b1 fun l hl=>fun c h=>((cC l ((mC l).1 hl)).2 c h).1;have r1:=rl0.lits (zT L []) zgv fun l hl=>fun c h=>((cL l ((mL l).1 hl)).2 c h).1;have r2:=r1.rows (zT T []) a1 fun l hl=>fun c h=>((cT l ((mT l).1 hl)).2 c h).1;have r3:=r2.lits (zT C []) b1 fun l hl=>fun c h=>((cC l ((mC l).1 hl)).2 c h).1;have nz1:∀ x,ZK ((zT L []).map (·.2)) x->(vh (tT (vh (ax 24 0,0) (zT L [])).2 (zT T [])).2 (zT C [])).2.1.getD x.toNat 0≠0:=fun x hx=>by
  have:=a3 x hx;rw[c2 _ (by rw[b2 _ this]; exact this),b2 _ this]
  exact this
 have nz2:∀ x,ZK (zT T []) x->(vh (tT (vh (ax 24 0,0) (zT L [])).2 (zT T [])).2 (zT C [])).2.1.getD x.toNat 0≠0:=fun x hx=>by
  have:=b3 x hx;rw[c2 _ this];exact this
 rw[Ci (r3.ok c1) (fun l h=>(cL l ((mL l).1 h)).near) (fun l h=>(cT l ((mT l).1 h)).near) (fun l h=>(cC l ((mC l).1 h)).near) (by omega) (by omega) (by omega),aa]
 unfold x5 zcs;rw[a4 _ (b2.trans c2),b4 _ c2,c4 _ (ExtS.refl _)];have eL:JY _ (zT L [])=qK _ (zT L []):=bx fun l h=>by
  show (l.1,_)=(l.1,_);rw[Ig c1 r3 l.2 (fun c hh=>((cL l ((mL l).1 h)).2 c hh).1) fun x hx=>nz1 x ⟨_,aZ h,hx⟩]
 have eT:HD _ (zT T [])=(zT T []).map _:=bx fun l h=>Ig c1 r3 l (fun c hh=>((cT l ((mT l).1 h)).2 c hh).1) fun x hx=>nz2 x ⟨_,h,hx⟩;have eC:JY _ (zT C [])=qK _ (zT C []):=bx fun l h=>by
  show (l.1,_)=(l.1,_);rw[Ig c1 r3 l.2 (fun c hh=>((cC l ((mC l).1 h)).2 c hh).1) fun x hx=>c3 x ⟨_,aZ h,hx⟩]
 rw[eL,eT,eC]
theorem TopV.unique {rs:List jI} {m m':Int} (h:TopV rs m) (h':TopV rs m') (h0:0<=m) (h0':0<=m'):m=m':=by
 have a:m'<=m:=by
  rcases h'.2 with e | e
  ·omega
  ·have:=h.1 _ e; omega
 have b:m<=m':=by
  rcases h.2 with e | e
  ·omega
  ·have:=h'.1 _ e; omega
 omega
def upB (b:Nat) (vs:List Nat):List (Int×List Int):=vs.map fun v:Nat=>((v:Int),[-1 - (v:Int) - (b:Int)])
theorem J8 {b:Nat} (hb:b<=24):(vs:List Nat)->(bs:List (Int×List Int))->(∀ v∈vs,v<24)->bs.length+vs.length<=1000->qo (b:Int) (vs.map fun v:Nat=>(v:Int)) bs=some (cond (vs.all fun v=>decide (v+b<=23)) (.inl (bs++upB b vs)) (.inr false))
 | [],bs,_,_=>by simp [qo,upB]
 | v::vs,bs,h,hl=>by
  have hv:=h v (aj ..);simp only[ak] at hl;rw[aK];unfold qo;have w1:ag .i64 ((v:Int)+(b:Int))=(v:Int)+(b:Int):=by rw[zo]<;>omega
  have w2:ag .i64 ((-1) - (v:Int)) = -1 - (v:Int):=by rw[zo]<;>omega
  have w3:ag .i64 (-1 - (v:Int) - (b:Int)) = -1 - (v:Int) - (b:Int):=by rw[zo]<;>omega
  rw[w1,w2,w3,bX];by_cases hvb:v+b<=23
  ·rw[decide_eq_false (show ¬(v:Int)+(b:Int)>23 by omega),cond_false,zp (by simp; omega),cond_true,J8 hb vs _ (fun x hx=>h x (ai _ hx)) (by simp; omega),decide_eq_true hvb,aN]
   simp [upB]
  ·rw[decide_eq_true (show (v:Int)+(b:Int)>23 by omega),cond_true,decide_eq_false hvb]
   rfl
theorem Jj {α β:Type} (f:α->β):(r:List α)->(g:α->List β)->(∀ c∈r,g c=[f c])->r.flatMap g=r.map f
 | [],_,_=>rfl
 | c::r,g,h=>by rw[bv,h c (aj ..),Jj f r g fun d hd=>h d (ai _ hd)]; rfl
theorem CK (b:Nat) (v:Nat):(vs:List Nat)->v∈vs->rI (upB b vs) (v:Int)=some [-1 - (v:Int) - (b:Int)]
 | [],h=>(nomatch h)
 | w::vs,h=>by
  have ih:=CK b v vs;unfold rI upB at ih ⊢;rw[aK,ef];by_cases hw:w=v
  ·subst hw;simp
  ·rw[show (((w:Nat):Int)==((v:Nat):Int))=false from by simp; omega]
   rcases aG.1 h with h | h
   ·exact absurd h.symm hw
   ·exact ih h
theorem Td {b:Nat} {vs:List Nat} {r:List Int} (h:∀ x,HH r x->0<=x∧x.toNat∈vs):onB (upB b vs) r=r.map (upC (b:Int)):=by
 unfold onB;refine Jj _ r _ fun c hc => ?_;unfold onC upC;by_cases h0:c<0
 ·obtain⟨h1,h2⟩:=h (-1 - c) ⟨c,hc,h0,rfl⟩;have:=CK b (-1 - c).toNat vs h2;rw[cy h1] at this;rw[decide_eq_false (show ¬ c≥0 by omega),cond_false,this,decide_eq_true h0,cond_true]
  show [_]=[_]
  congr 1
  omega
 ·rw[decide_eq_true (show c≥0 by omega),cond_true,decide_eq_false h0,cond_false]
theorem zeM (b:Nat) (vs:List Nat) (h:vs.length<=1000):BindsOk (upB b vs) where
 len:=by unfold upB; rw[aF]; exact h
 all:=fun q hq=>by
  obtain⟨v,-,rfl⟩:=aR.1 hq;exact ⟨by simp,by simp⟩
theorem A4 {a0:List zg} (_hs:SignOk a0) {L:List zc} {T:List jI} {C:List zc} (h:qy a0 L T C=true):L.length<=5∧T.length<=3∧C.length<=3∧zk (L.map (·.2))+zk T+zk (C.map (·.2))<=1000:=by
 obtain⟨-,h1,h2,h3,-,-,-,h7⟩:=zz h;exact ⟨h1,h2,h3,by omega⟩
theorem VC {a0:List zg} (hs:SignOk a0) {L:List zc} {T:List jI} {C:List zc} {L':List zc} {T':List jI} {C':List zc} (h:qy a0 L T C=true) (h':qy a0 L' T' C'=true) {b:Nat} (hb:b<=24) (htop:TopV (yh L T C) (b:Int)) :
  (kC L T C L' T' C'=some ([],[],false,[])∧∃ x,ZK (yh L' T' C') x∧23<x+(b:Int)) ∨
  (kC L T C L' T' C'=some (rN (b:Int) L',T'.map (cV (upC (b:Int))),true,rN (b:Int) C')∧∀ x,ZK (yh L' T' C') x->x+(b:Int)<=23):=by
 obtain⟨l1,l2,l3,l4⟩:=A4 hs h;obtain⟨m1,m2,m3,m4⟩:=A4 hs h';have hcd:=Z3 hs h';have hwm:∀ x,x∈(rU L T C).map (fun v:Nat=>(v:Int))↔ZK (yh L T C) x:=fun x=>by
  constructor
  ·intro hx;obtain⟨v,hv,rfl⟩:=aR.1 hx;exact (Qx (ZV v hv)).1 hv
  ·intro hx;have:=Zb h hx;obtain⟨v,rfl⟩:∃ v:Nat,x=(v:Int):=⟨x.toNat,by omega⟩
   exact aZ ((Qx (by omega)).2 hx)
 have hrise:Rise ((rU L T C).map fun v:Nat=>(v:Int)):=by
  have h1:(rU L T C).Pairwise (· < ·):=ic List.filter_sublist List.pairwise_lt_range;unfold Rise;rw[List.pairwise_map];exact h1.imp fun h=>by omega
 have hv':∀ x,ZK (yh L' T' C') x->0<=x∧x.toNat∈rU L' T' C':=fun x hx=>by
  have:=Zb h' hx;refine ⟨this.1,(Qx (by omega)).2 ?_⟩
  rw[cy this.1]; exact hx
 have hvl:(rU L' T' C').length<=24:=by
  have:=WP _ (aL 24) (Z4 L' T' C') fun v hv=>bZ.2 (ZV v hv);simpa using this
 -- the last part, whatever the way to it
 have fin:∀ o:Option (List zc×List jI×Bool×List zc),o=((lp wY ze) ((b:Int),(rU L' T' C').map (fun v:Nat=>(v:Int)),0,L',T',C',([]:List (Int×List Int)))).bind (fun r27=>yb r27 (fun z28=>(rd z28 L' T' C').bind fun r29=>some (r29.1,r29.2.1,true,r29.2.2)) (fun z30=>some (([]:List zc),([]:List jI),z30,([]:List zc)))) ->
   (o=some ([],[],false,[])∧∃ x,ZK (yh L' T' C') x∧23<x+(b:Int))∨(o=some (rN (b:Int) L',T'.map (cV (upC (b:Int))),true,rN (b:Int) C')∧∀ x,ZK (yh L' T' C') x->x+(b:Int)<=23):=by
  intro o ho;rw[ho,QN _ _ _ _ _ _ (by rw[aF]; unfold maxLen; omega),J8 hb _ [] ZV (by simp; omega)]
  cases ha:(rU L' T' C').all fun v=>decide (v+b<=23) with
  | false =>
   refine .inl ⟨rfl,?_⟩;obtain⟨v,hv,hvb⟩:=List.all_eq_false.1 ha;have hvb:¬ v+b<=23:=by simpa using hvb
   exact ⟨(v:Int),(Qx (ZV v hv)).1 hv,by omega⟩
  | true =>
   refine .inr ⟨?_,fun x hx => ?_⟩
   ·simp only[cond_true,aa,vT,bl];rw[Ci (zeM b _ (by omega)) (fun l hl=>(hcd _ (yQ hl)).near) (fun l hl=>(hcd _ (xu hl)).near) (fun l hl=>(hcd _ (xc hl)).near) (by omega) (by omega) (by omega),aa]
    have eL:∀ ls:List zc,(∀ l∈ls,l.2∈yh L' T' C')->JY (upB b (rU L' T' C')) ls=rN (b:Int) ls:=fun ls hls=>bx fun l hl=>by
     show (l.1,_)=(l.1,_);rw[Td fun x hx=>hv' x ⟨_,hls l hl,hx⟩]
    have eT:HD (upB b (rU L' T' C')) T'=T'.map (cV (upC (b:Int))):=bx fun l hl=>Td fun x hx=>hv' x ⟨_,xu hl,hx⟩;rw[eL L' fun l hl=>yQ hl,eL C' fun l hl=>xc hl,eT]
   ·obtain⟨h1,h2⟩:=hv' x hx;have:=aD.1 ha _ h2;have:x.toNat+b<=23:=by simpa using this
    omega
 unfold kC;rw[rb (by omega) (by omega) (by omega) (by omega),aa]
 rcases O0 hrise hwm with ⟨h1,h2⟩ | ⟨x,h1,h2,h3⟩
 ·have e0:(b:Int)=0:=htop.unique h2 (by omega) (by omega)
  rw[h1];refine fin _ ?_;rw[e0,show decide (((af ([]:List Int):Nat):Int)>0)=false from rfl,cond_false,rb (by omega) (by omega) (by omega) (by omega),aa]
 ·have hx0:0<=x:=by
   have:=(hwm x).1 (aJ h1);exact (Zb h this).1
  have hx24:=(Zb h ((hwm x).1 (aJ h1))).2;have e0:(b:Int)=x+1:=htop.unique h3 (by omega) (by omega)
  refine fin _ ?_;have hl24:((rU L T C).map fun v:Nat=>(v:Int)).length<=24:=by
   have:=WP _ (aL 24) (Z4 L T C) fun v hv=>bZ.2 (ZV v hv);simpa using this
  generalize (rU L T C).map (fun v:Nat=>(v:Int))=ws at h1 h2 hl24 ⊢;have w1:ag .i64 (((af ws:Nat):Int) - 1)=((ws.length - 1:Nat):Int):=by rw[zo]<;>omega
  have w2:ag .i64 (x+1)=(b:Int):=by rw[zo]<;>omega
  rw[decide_eq_true (show ((af ws:Nat):Int)>0 by omega),cond_true,w1,ym (by omega),aa,h1,aa,rb (by omega) (by omega) (by omega) (by omega),aa,w2]
theorem CW {α:Type} (xs:List α) {i:Nat} (h:i<=xs.length):uh xs (some (i:Int)) none=some (xs.drop i):=by
 show slc xs (i:Int) (xs.length:Int)=some _;unfold slc;rw[decide_eq_true (show (0:Int)<=(i:Int) by omega),decide_eq_true (show (i:Int)<=(xs.length:Int) by omega),decide_eq_true (show (xs.length:Int)<=((xs.length:Nat):Int) by omega)]
 simp
theorem Jq {α:Type} (s:Nat):(es:List α)->(i:Nat)->s<i->zh (s:Int) es i=es
 | [],_,_=>rfl
 | e::es,i,h=>by
  show cond ((i:Int) != (s:Int)) (e::zh (s:Int) es (i+1)) (zh (s:Int) es (i+1))=_;rw[show ((i:Int) != (s:Int))=true from by simp; omega,cond_true,Jq s es (i+1) (by omega)]
theorem ZL {α:Type} (s:Nat):(es:List α)->(i:Nat)->i<=s->s<i+es.length->zh (s:Int) es i=es.take (s - i)++es.drop (s - i+1)
 | [],i,h,h2=>by simp at h2; omega
 | e::es,i,h,h2=>by
  show cond ((i:Int) != (s:Int)) (e::zh (s:Int) es (i+1)) (zh (s:Int) es (i+1))=_;simp only[ak] at h2;by_cases he:i=s
  ·subst he;rw[show ((i:Int) != (i:Int))=false from by simp,cond_false,Jq i es (i+1) (by omega)]
   simp
  ·rw[show ((i:Int) != (s:Int))=true from by simp; omega,cond_true,ZL s es (i+1) (by omega) (by omega)]
   rw[show s - i=(s - (i+1))+1 from by omega]
   rfl
theorem VP {L:List zc} {i:Int} (h:zW L i=true) (hl:L.length<=1000):se L i=some (zh i L 0):=by
 unfold zW at h;simp only[ay,decide_eq_true_eq] at h;obtain⟨k,rfl⟩:∃ k:Nat,i=(k:Int):=⟨i.toNat,by omega⟩
 have w1:ag .i64 ((k:Int)+1)=((k+1:Nat):Int):=by rw[zo]<;>omega
 unfold se;rw[w1,IH L (by omega),aa,zp (by simp; omega),cond_true,CW L (by omega),aa,zp (by simp; omega),cond_true,ZL k L 0 (by omega) (by omega)]
 simp
theorem RZ {σ:Sb} (hsh:qZ σ (aL 24)=true) {L:List zc} {T:List jI} {C:List zc} (hL:∀ l∈L,Cds l.2) (hT:∀ r∈T,Cds r) (hC:∀ l∈C,Cds l.2) (h1:L.length<=1000) (h2:T.length<=1000) (h3:C.length<=1000) :
  rd (te σ) L T C=some (qK σ L,T.map (vn σ),qK σ C):=by
 rw[Ci (Q0 hsh) (fun l hl=>(hL l hl).near) (fun r hr=>(hT r hr).near) (fun l hl=>(hC l hl).near) h1 h2 h3,
  Ke fun l hl c hc=>((hL l hl).2 c hc).1,Ke fun l hl c hc=>((hC l hl).2 c hc).1,CT fun r hr c hc=>((hT r hr).2 c hc).1]
theorem Dx {a0:List zg} {σ:Sb} (hs:SignOk a0) (hsh:qZ σ (aL 24)=true) {L:List zc} {T:List jI} {C:List zc} (hL:∀ l∈L,Cds l.2) (hT:∀ r∈T,Cds r) (hC:∀ l∈C,Cds l.2) (h1:L.length<=1000) (h2:T.length<=1000) (h3:C.length<=1000) (k:Int) :
  ((Zm a0 (te σ) L T C).bind fun r40=>cond (!r40.2.2.1) (wb k) (some (r40.1,r40.2.1,true,(0:Int),r40.2.2.2)))=jJ a0 σ L T C k:=by
 unfold Zm jJ;rw[RZ hsh hL hT hC h1 h2 h3,aa];simp only;rw[ya,aa];cases hm:qy a0 (qK σ L) (T.map (vn σ)) (qK σ C) with
 | false=>rfl
 | true =>
  obtain⟨l1,l2,l3,l4⟩:=A4 hs hm;rw[az,cond_false,zaR (Z3 hs hm) (by omega) (by omega) (by omega) l4]
  rfl
theorem jN (L:List zc) (T:List jI) (C:List zc) (i:Int):kS L T C i=some (zW L i):=by
 unfold kS zW;by_cases h:i≥0
 ·rw[decide_eq_true h,cond_true,aN]
 ·rw[decide_eq_false h,cond_false,bt]
def sf (rec:(jS×jI×Int×Int)->Option Int) (x:(jS×jI×Int×Int)):Option Int :=
 cond (decide (x.2.2.2<((af x.2.1:Nat):Int)))
 ((gx x.2.1 x.2.2.2).bind fun e4 =>
  cond (decide (e4<0))
  (rec (x.1,x.2.1,(ag .i64 (x.2.2.1+1)),(ag .i64 (x.2.2.2+1))))
  ((gx x.2.1 x.2.2.2).bind fun e5 =>
   (gx x.1 e5).bind fun e6 =>
   rec (x.1,x.2.1,(ag .i64 (x.2.2.1+e6.2.2.2)),(ag .i64 (x.2.2.2+1)))))
 (some x.2.2.1)
def Xb (a0:jS) (a1:jI):Option Int :=
 ((lp sf ze) (a0,a1,0,0)).bind fun r8 =>
 some r8
def t9 (rec:(jI×jI×Int×Int×Int)->Option Int) (x:(jI×jI×Int×Int×Int)):Option Int :=
 cond (decide (x.2.2.2.2<((af x.2.1:Nat):Int)))
 ((gx x.2.1 x.2.2.2.2).bind fun e5 =>
  cond (e5==(ag .i64 ((-1) - x.2.2.1)))
  (rec (x.1,x.2.1,x.2.2.1,(ag .i64 (x.2.2.2.1 - 1)),(ag .i64 (x.2.2.2.2+1))))
  (rec (x.1,x.2.1,x.2.2.1,x.2.2.2.1,(ag .i64 (x.2.2.2.2+1)))))
 (some x.2.2.2.1)
def tW (rec:(jI×jI×Int×Int×Int)->Option Int) (x:(jI×jI×Int×Int×Int)):Option Int :=
 cond (decide (x.2.2.2.2<((af x.1:Nat):Int)))
 ((gx x.1 x.2.2.2.2).bind fun e2 =>
  cond (e2==(ag .i64 ((-1) - x.2.2.1)))
  (rec (x.1,x.2.1,x.2.2.1,(ag .i64 (x.2.2.2.1+1)),(ag .i64 (x.2.2.2.2+1))))
  (rec (x.1,x.2.1,x.2.2.1,x.2.2.2.1,(ag .i64 (x.2.2.2.2+1)))))
 (some x.2.2.2.1)
def uT (rec:(jI×jI×Int)->Option (Unit⊕Bool)) (x:(jI×jI×Int)):Option (Unit⊕Bool) :=
 cond (decide (x.2.2<=23))
 (((lp tW ze) (x.1,x.2.1,x.2.2,0,0)).bind fun r7 =>
  ((lp t9 ze) (x.1,x.2.1,x.2.2,r7,0)).bind fun r8 =>
  cond (decide (r8<0))
  (some (aH false))
  (rec (x.1,x.2.1,(ag .i64 (x.2.2+1)))))
 (some (aU ()))
def Vo (a0:jI) (a1:jI):Option Bool :=
 ((lp uT ze) (a0,a1,0)).bind fun r12 =>
 yb r12
 (fun _z13=>some true)
 (fun z14=>some z14)
def rp (rf:((jS×jI×jI)->Option Bool)) (rec:(jS×jR×jR×Int)->Option (Unit⊕Bool)) (x:(jS×jR×jR×Int)):Option (Unit⊕Bool) :=
 cond (decide (x.2.2.2<((af x.2.1:Nat):Int)))
 ((gx x.2.1 x.2.2.2).bind fun e20 =>
  (gx x.2.2.1 x.2.2.2).bind fun e21 =>
  (sj e20 e21).bind fun r22 =>
  cond (!r22)
  ((gx x.2.1 x.2.2.2).bind fun e23 =>
   (gx x.2.2.1 x.2.2.2).bind fun e24 =>
   (rf (x.1,e23,e24)).bind fun r25 =>
   some (aH r25))
  (rec (x.1,x.2.1,x.2.2.1,(ag .i64 (x.2.2.2+1)))))
 (some (aU ()))
def XD (rf:((jS×jI×jI)->Option Bool)) (a0:jS) (a1:jI) (a2:jI):Option Bool :=
 (Xb a0 a1).bind fun r29 =>
 (Xb a0 a2).bind fun r30 =>
 (Vo a1 a2).bind fun r31 =>
 cond (!r31)
 (some false)
 (cond (decide (r29<r30))
  (some false)
  (cond (decide (r29>r30))
   (cond (decide (r29>r30))
    (some true)
    ((gx a1 0).bind fun e32 =>
     (gx a2 0).bind fun e33 =>
     some (decide (e32>e33))))
   ((gx a1 0).bind fun e34 =>
    (gx a2 0).bind fun e35 =>
    cond (e34 != e35)
    (cond (decide (r29>r30))
     (some true)
     ((gx a1 0).bind fun e36 =>
      (gx a2 0).bind fun e37 =>
      some (decide (e36>e37))))
    ((uh a1 (some 1) none).bind fun y38 =>
     (yd a0 y38).bind fun r39 =>
     (uh a2 (some 1) none).bind fun y40 =>
     (yd a0 y40).bind fun r41 =>
     ((lp (rp rf) ze) (a0,r39,r41,0)).bind fun r42 =>
     yb r42
     (fun _z43=>some false)
     (fun z44=>some z44)))))
def V2 (rf:((jS×jI×jI)->Option Bool)):((jS×jI×jI)->Option Bool) :=
 fun (x:(jS×jI×jI))=>XD rf x.1 x.2.1 x.2.2
def VW:((jS×jI×jI)->Option Bool):=fun _=>none
def XC (k:Nat):((jS×jI×jI)->Option Bool):=lpR VW V2 k
def Jh (a0:jS) (a1:jI) (a2:jI):Option Bool:=(XC ze) (a0,a1,a2)
def kw (a0:jS) (a1:jI) (a2:jI):Option Int :=
 (sj a1 a2).bind fun r4 =>
 cond r4
 (some 1)
 ((Jh a0 a1 a2).bind fun r5 =>
  cond r5
  (some 2)
  ((Jh a0 a2 a1).bind fun r6 =>
   cond r6
   (some 0)
   (some 3)))
def qL (s0:jS):List Int->Int->Option Int
 | [],s2=>some s2
 | e::es,s2 =>
  cond (decide (e<0))
  (qL s0 es (ag .i64 (s2+1)))
  ((gx s0 e).bind fun e6 =>
   qL s0 es (ag .i64 (s2+e6.2.2.2)))
theorem Xe (s0:jS) (s1:jI) (s2:Int) (hl:af s1<=maxLen):lp sf ze (s0,s1,s2,0)=qL s0 s1 s2:=x9 sf (fun i s2=>(s0,s1,s2,i)) (fun es i s2=>qL s0 es s2) hl (fun r i s2 h=>by unfold sf qL; simp only[h,cond_false]) (fun r i s2 e es h g w k=>by unfold sf qL; simp only[h,cond_true,g,aa,w,k]) s2
def y0 (s2:Int):List Int->Int->Option Int
 | [],s3=>some s3
 | e::es,s3 =>
  cond (e==(ag .i64 ((-1) - s2)))
  (y0 s2 es (ag .i64 (s3 - 1)))
  (y0 s2 es s3)
theorem Xd (s0:jI) (s1:jI) (s2:Int) (s3:Int) (hl:af s1<=maxLen):lp t9 ze (s0,s1,s2,s3,0)=y0 s2 s1 s3:=x9 t9 (fun i s3=>(s0,s1,s2,s3,i)) (fun es i s3=>y0 s2 es s3) hl (fun r i s3 h=>by unfold t9 y0; simp only[h,cond_false]) (fun r i s3 e es h g w k=>by unfold t9 y0; simp only[h,cond_true,g,aa,w,k]) s3
def y5 (s2:Int):List Int->Int->Option Int
 | [],s3=>some s3
 | e::es,s3 =>
  cond (e==(ag .i64 ((-1) - s2)))
  (y5 s2 es (ag .i64 (s3+1)))
  (y5 s2 es s3)
theorem Xg (s0:jI) (s1:jI) (s2:Int) (s3:Int) (hl:af s0<=maxLen):lp tW ze (s0,s1,s2,s3,0)=y5 s2 s0 s3:=x9 tW (fun i s3=>(s0,s1,s2,s3,i)) (fun es i s3=>y5 s2 es s3) hl (fun r i s3 h=>by unfold tW y5; simp only[h,cond_false]) (fun r i s3 e es h g w k=>by unfold tW y5; simp only[h,cond_true,g,aa,w,k]) s3
def wj (rf:((jS×jI×jI)->Option Bool)) (s0:jS) (s2:jR):List jI->Nat->Option (Unit⊕Bool)
 | [],_i=>some (aU ())
 | e::es,i =>
  (gx s2 (i:Int)).bind fun e21 =>
  (sj e e21).bind fun r22 =>
  cond (!r22)
  ((gx s2 (i:Int)).bind fun e24 =>
   (rf (s0,e,e24)).bind fun r25 =>
   some (aH r25))
  (wj rf s0 s2 es (i+1))
theorem Xv (rf:((jS×jI×jI)->Option Bool)) (s0:jS) (s1:jR) (s2:jR) (hl:af s1<=maxLen):lp (rp rf) ze (s0,s1,s2,0)=wj rf s0 s2 s1 0:=sr (rp rf) (fun i=>(s0,s1,s2,i)) (fun es i=>wj rf s0 s2 es i) hl (fun r i h=>by unfold rp wj; simp only[h,cond_false]) (fun r i e es h g w k=>by unfold rp wj; simp only[h,cond_true,g,aa,w,k])
theorem G1 (a0:List zg):(es:List Int)->(s:Int)->qL a0 es s=qw a0 es s
 | [],_=>rfl
 | e::es,s=>by
  unfold qL qw;rw[G1 a0 es]
  congr 1
  congr 1
  funext e6
  exact G1 a0 es _
theorem C7 (a0:List zg) {r:List Int} (h:r.length<=1000000):Xb a0 r=Yh a0 r:=by
 unfold Xb Yh;rw[Xe _ _ _ (by unfold maxLen; omega),jt _ _ _ (by unfold maxLen; omega),G1]
def Wq (r:List Int) (v:Nat):Nat:=r.count (-1 - (v:Int))
theorem ME (r:List Int) (v:Nat):Wq r v<=r.length:=List.count_le_length
theorem Wx (c:Int) (r:List Int) (v:Nat):Wq (c::r) v=Wq r v+cond (c == -1 - (v:Int)) 1 0:=by
 unfold Wq;rw[List.count_cons];cases c == -1 - (v:Int)<;>rfl
theorem Im {v:Nat} (hv:v<24):(es:List Int)->(s:Int) -> -1000000000<=s->s+es.length<=1000000000->y5 (v:Int) es s=some (s+(Wq es v:Int))
 | [],s,_,_=>by simp [y5,Wq]
 | e::es,s,h0,h1=>by
  simp only[ak] at h1;unfold y5;have w1:ag .i64 ((-1) - (v:Int)) = -1 - (v:Int):=by rw[zo]<;>omega
  have w2:ag .i64 (s+1)=s+1:=by rw[zo]<;>omega
  rw[w1,w2,Wx];cases e == -1 - (v:Int) with
  | true=>rw[cond_true,cond_true,Im hv es _ (by omega) (by omega)]; congr 1; omega
  | false=>rw[cond_false,cond_false,Im hv es _ (by omega) (by omega)]; congr 1
theorem Ic {v:Nat} (hv:v<24):(es:List Int)->(s:Int) -> -1000000000<=s - es.length->s<=1000000000->y0 (v:Int) es s=some (s - (Wq es v:Int))
 | [],s,_,_=>by simp [y0,Wq]
 | e::es,s,h0,h1=>by
  simp only[ak] at h0;unfold y0;have w1:ag .i64 ((-1) - (v:Int)) = -1 - (v:Int):=by rw[zo]<;>omega
  have w2:ag .i64 (s - 1)=s - 1:=by rw[zo]<;>omega
  rw[w1,w2,Wx];cases e == -1 - (v:Int) with
  | true=>rw[cond_true,cond_true,Ic hv es _ (by omega) (by omega)]; congr 1; omega
  | false=>rw[cond_false,cond_false,Ic hv es _ (by omega) (by omega)]; congr 1
def WF (a b:List Int) (vs:List Nat):Bool:=vs.all fun v=>decide (Wq b v<=Wq a v)
theorem PS {a b:List Int} (ha:a.length<=1000000) (hb:b.length<=1000000):∀(m v k:Nat),24 - v=m->v<=24->m<k->lp uT k (a,b,(v:Int))=some (cond (WF a b ((aL 24).drop v)) (.inl ()) (.inr false)):=by
 intro m
 induction m with
 | zero =>
  intro v k hm hv hk;obtain⟨k,rfl⟩:∃ k',k=k'+1:=⟨k - 1,by omega⟩
  rw[zv];generalize lp uT k=rec;unfold uT;have:v=24:=by omega
  subst this;rw[show (aL 24).drop 24=[] from rfl]
  rfl
 | succ m ih =>
  intro v k hm hv hk;obtain⟨k,rfl⟩:∃ k',k=k'+1:=⟨k - 1,by omega⟩
  rw[zv];have key:=ih (v+1) k (by omega) (by omega) (by omega)
  generalize lp uT k=rec at key ⊢;unfold uT;have w1:ag .i64 ((v:Int)+1)=((v+1:Nat):Int):=by rw[zo]<;>omega
  have hdr:(aL 24).drop v=v::(aL 24).drop (v+1):=by
   rw[aY (by simp; omega)]
   simp
  have hca:=ME a v;have hcb:=ME b v;simp only[decide_eq_true (show (v:Int)<=23 by omega),cond_true,w1]
  rw[Xg _ _ _ _ (by unfold maxLen; omega),Im (by omega) a 0 (by omega) (by omega),aa,Xd _ _ _ _ (by unfold maxLen; omega),Ic (by omega) b _ (by omega) (by omega),aa,key,hdr]
  unfold WF;rw[bX];by_cases hc:Wq b v<=Wq a v
  ·rw[decide_eq_false (show ¬(0+(Wq a v:Int) - (Wq b v:Int)<0) by omega),cond_false,decide_eq_true hc,aN]
  ·rw[decide_eq_true (show 0+(Wq a v:Int) - (Wq b v:Int)<0 by omega),cond_true,decide_eq_false hc,bt,cond_false]
theorem Rf {a b:List Int} (ha:a.length<=1000000) (hb:b.length<=1000000):Vo a b=some (WF a b (aL 24)):=by
 unfold Vo;have:=PS ha hb 24 0 ze rfl (by omega) (by unfold ze; omega)
 rw[show ((0:Nat):Int)=0 from rfl,bQ] at this
 rw[this];cases WF a b (aL 24)<;>rfl
theorem Id:(es:List Int)->(xs:List Int)->(∀ c∈es,-24<=c)->xs.length=24->(∀ v,v<24->0<=xs.getD v 0∧xs.getD v 0+es.length<=1000000000)->∃ ys,qh es xs=some ys∧ys.length=24∧∀ v,v<24->ys.getD v 0=xs.getD v 0+(Wq es v:Int)
 | [],xs,_,hl,_=>⟨xs,rfl,hl,fun v _=>by simp [Wq]⟩
 | c::es,xs,hc,hl,hb=>by
  have hc0:=hc c (aj ..);simp only[ak] at hb;unfold qh;by_cases h0:c<0
  ·obtain⟨u,rfl⟩:∃ u:Nat,c = -1 - (u:Int):=⟨(-1 - c).toNat,by omega⟩
   have hu:u<24:=by omega
   have hbu:=hb u hu;have hg:xs[u]? = some (xs.getD u 0):=by
    rw[aE,al (by omega)]
    rfl
   have w1:ag .i64 (xs.getD u 0+1)=xs.getD u 0+1:=by rw[zo]<;>omega
   rw[decide_eq_true h0,cond_true,qx (by omega) (by omega),aa,show -1 - (-1 - (u:Int))=(u:Int) from by omega,ym hu,aa,hg,aa,aa,hg,aa,w1]
   obtain⟨ys,g1,g2,g3⟩:=Id es (xs.set u (xs.getD u 0+1)) (fun d hd=>hc d (ai _ hd)) (by rw[bY]; exact hl) (fun v hv=>by
    rw[sU (by omega)]
    have:=hb v hv;split<;>omega)
   refine ⟨ys,g1,g2,fun v hv => ?_⟩;rw[g3 v hv,sU (by omega),Wx]
   by_cases hvu:v=u
   ·subst hvu;rw[if_pos rfl,show ((-1 - (v:Int)) == -1 - (v:Int))=true from by simp,cond_true]
    omega
   ·rw[if_neg hvu,show ((-1 - (u:Int)) == -1 - (v:Int))=false from by simp; omega,cond_false]
    omega
  ·rw[decide_eq_false h0,cond_false];obtain⟨ys,g1,g2,g3⟩:=Id es xs (fun d hd=>hc d (ai _ hd)) hl (fun v hv=>by have:=hb v hv; omega)
   refine ⟨ys,g1,g2,fun v hv => ?_⟩;rw[g3 v hv,Wx,show (c == -1 - (v:Int))=false from by simp; omega,cond_false]
   omega
theorem EL {r:List Int} (hl:r.length<=1000000) (hc:∀ c∈r,-24<=c):∃ ys,ji r=some ys∧ys.length=24∧∀ v,v<24->ys.getD v 0=(Wq r v:Int):=by
 have hz:∀ v,(ax 24 (0:Int)).getD v 0=0:=fun v=>by
  rw[aE,bF];split<;>rfl
 obtain⟨ys,g1,g2,g3⟩:=Id r (ax 24 (0:Int)) hc (by simp) (fun v _=>by rw[hz]; omega)
 refine ⟨ys,?_,g2,fun v hv=>by rw[g3 v hv,hz]; omega⟩
 unfold ji;rw[QA _ _ (by unfold maxLen; omega),g1,aa,g2]
 rfl
theorem Hf {a b xs ys:List Int} (hx:xs.length=24) (hy:ys.length=24) (gx:∀ v,v<24->xs.getD v 0=(Wq a v:Int)) (gy:∀ v,v<24->ys.getD v 0=(Wq b v:Int)):∀(m v k:Nat),24 - v=m->v<=24->m<k->lp wc k ((v:Int),xs,ys)=some (cond (WF a b ((aL 24).drop v)) (.inl ()) (.inr false)):=by
 intro m
 induction m with
 | zero =>
  intro v k hm hv hk;obtain⟨k,rfl⟩:∃ k',k=k'+1:=⟨k - 1,by omega⟩
  rw[zv];generalize lp wc k=rec;unfold wc;have:v=24:=by omega
  subst this;rw[show (aL 24).drop 24=[] from rfl]
  rfl
 | succ m ih =>
  intro v k hm hv hk;obtain⟨k,rfl⟩:∃ k',k=k'+1:=⟨k - 1,by omega⟩
  rw[zv];have key:=ih (v+1) k (by omega) (by omega) (by omega)
  generalize lp wc k=rec at key ⊢;unfold wc;have w1:ag .i64 ((v:Int)+1)=((v+1:Nat):Int):=by rw[zo]<;>omega
  have hdr:(aL 24).drop v=v::(aL 24).drop (v+1):=by
   rw[aY (by simp; omega)]
   simp
  have h1:xs[v]? = some (Wq a v:Int):=by
   rw[← gx v (by omega),aE,al (by omega)]
   rfl
  have h2:ys[v]? = some (Wq b v:Int):=by
   rw[← gy v (by omega),aE,al (by omega)]
   rfl
  simp only[decide_eq_true (show (v:Int)<24 by omega),cond_true,w1,ym (show v<24 by omega),aa,h1,h2]
  rw[key,hdr];unfold WF;rw[bX];by_cases hc:Wq b v<=Wq a v
  ·rw[decide_eq_false (show ¬((Wq a v:Int)<(Wq b v:Int)) by omega),cond_false,decide_eq_true hc,aN]
  ·rw[decide_eq_true (show (Wq a v:Int)<(Wq b v:Int) by omega),cond_true,decide_eq_false hc,bt,cond_false]
theorem Oz {a b:List Int} (ha:a.length<=1000000) (hb:b.length<=1000000) (ca:∀ c∈a,-24<=c) (cb:∀ c∈b,-24<=c):jE a b=some (WF a b (aL 24)):=by
 obtain⟨xs,h1,h2,h3⟩:=EL ha ca;obtain⟨ys,g1,g2,g3⟩:=EL hb cb;unfold jE;rw[h1,aa,g1,aa];have:=Hf (a:=a) (b:=b) h2 g2 h3 g3 24 0 ze rfl (by omega) (by unfold ze; omega)
 rw[show ((0:Nat):Int)=0 from rfl,bQ] at this
 rw[show Nat.beq (af (ax 24 (0:Int))) 24=true from by simp,cond_true,cond_true,this]
 cases WF a b (aL 24)<;>rfl
structure HF (a0:List zg) (a:List Int) (c:Int) (ts:List Tm):Prop where
 eq:a=c::za ts
 ok:okR a0 24 ts
 len:a.length<=1000
 low : -24<=c
 sym:0<=c->∃ e,gx a0 c=some e
theorem OL {a0:List zg} (hs:SignOk a0) {t:Tm} (ho:t.ok a0 24) (hl:t.codes.length<=1000):∃ c ts,HF a0 t.codes c ts∧(∀ d us u,u=t->u.codes=d::za us->True)∧qJ ts<t.size:=by
 cases t with
 | v n =>
  have hn:n<24:=ho;exact ⟨-1 - (n:Int),[],⟨rfl,trivial,hl,by omega,fun h=>by omega⟩,fun _ _ _ _ _=>trivial,by simp [qJ,Tm.size]⟩
 | f c as =>
  obtain⟨e,he,-⟩:=Ib hs ho.1;exact ⟨(c:Int),as,⟨rfl,ho.2,hl,by omega,fun _=>⟨e,he⟩⟩,fun _ _ _ _ _=>trivial,by simp [Tm.size]⟩
mutual
theorem Tm.syms {a0:List zg} (hs:SignOk a0):(t:Tm)->t.ok a0 24->∀ c∈t.codes,-24<=c∧(0<=c->∃ e,gx a0 c=some e)
 | .v n,ho,c,hc=>by
  have hn:n<24:=ho;have hc:c = -1 - (n:Int):=by simpa[Tm.codes] using hc
  exact ⟨by omega,fun h=>by omega⟩
 | .f d as,ho,c,hc=>by
  rcases aG.1 (show c∈(d:Int)::za as from hc) with rfl | hc
  ·obtain⟨e,he,-⟩:=Ib hs ho.1;exact ⟨by omega,fun _=>⟨e,he⟩⟩
  ·exact za8 hs as ho.2 c hc
theorem za8 {a0:List zg} (hs:SignOk a0):(ts:List Tm)->okR a0 24 ts->∀ c∈za ts,-24<=c∧(0<=c->∃ e,gx a0 c=some e)
 | [],_,_,hc=>by simp [za] at hc
 | t::ts,ho,c,hc=>by
  rcases aI.1 (show c∈t.codes++za ts from hc) with hc | hc
  ·exact Tm.syms hs t ho.1 c hc
  ·exact za8 hs ts ho.2 c hc
end
theorem HF.syms {a0:List zg} (hs:SignOk a0) {a:List Int} {c:Int} {ts:List Tm} (h:HF a0 a c ts):∀ d∈a,-24<=d∧(0<=d->∃ e,gx a0 d=some e):=fun d hd=>by
 rw[h.eq] at hd;rcases aG.1 hd with rfl | hd
 ·exact ⟨h.low,h.sym⟩
 ·exact za8 hs ts h.ok d hd
theorem VU {a0:List zg}:(es:List Int)->(s:Int)->(∀ d∈es,-24<=d∧(0<=d->∃ e,gx a0 d=some e))->∃ r,qw a0 es s=some r
 | [],s,_=>⟨s,rfl⟩
 | e::es,s,h=>by
  unfold qw;have ih:=fun s=>VU es s fun d hd=>h d (ai _ hd);by_cases h0:e<0
  ·rw[decide_eq_true h0]; exact ih _
  ·obtain⟨x,hx⟩:=(h e (aj ..)).2 (by omega)
   rw[decide_eq_false h0,cond_false,hx];exact ih _
theorem HF.sum {a0:List zg} (hs:SignOk a0) {a:List Int} {c:Int} {ts:List Tm} (h:HF a0 a c ts):∃ r,Yh a0 a=some r:=by
 have:=h.len;obtain⟨r,hr⟩:=VU a 0 (h.syms hs);refine ⟨r,?_⟩;unfold Yh;rw[jt _ _ _ (by unfold maxLen; omega),hr]
 rfl
def Xh:List Tm->List Tm->Option (Tm×Tm)
 | t::ts,u::us=>if t.codes=u.codes then Xh ts us else some (t,u)
 | _,_=>none
theorem KC:{ts us:List Tm}->{p:Tm×Tm}->Xh ts us=some p->p.1∈ts∧p.2∈us∧p.1.codes≠p.2.codes
 | [],_,_,h=>by cases h
 | _::_,[],_,h=>by cases h
 | t::ts,u::us,p,h=>by
  unfold Xh at h;split at h
  ·obtain⟨h1,h2,h3⟩:=KC h;exact ⟨ai _ h1,ai _ h2,h3⟩
  ·rename_i hne;injection h with h;subst h;exact ⟨aj ..,aj ..,hne⟩
theorem K4:{ts us:List Tm}->ts.length=us.length->Xh ts us=none->za ts=za us
 | [],[],_,_=>rfl
 | [],_::_,h,_=>by simp at h
 | _::_,[],h,_=>by simp at h
 | t::ts,u::us,hl,h=>by
  unfold Xh at h;split at h
  ·rename_i he;show t.codes++za ts=u.codes++za us;rw[he,K4 (by simpa using hl) h]
  ·cases h
theorem IQ {usA:List Tm} (hsm:∀ t∈usA,t.codes.length<=1000):(ts us:List Tm)->(i:Nat)->usA.drop i=us->ts.length=us.length->(∀ t∈ts,t.codes.length<=1000)->yO (usA.map Tm.codes) (ts.map Tm.codes) i=some (match Xh ts us with
  | none=>.inl ()
  | some p=>.inr (p.1.codes,p.2.codes))
 | [],[],i,_,_,_=>rfl
 | [],_::_,_,_,h,_=>by simp at h
 | _::_,[],_,_,h,_=>by simp at h
 | t::ts,u::us,i,hd,hl,hsmt=>by
  have hi:=qr hd;have hg:=zr hd;have ht:=hsmt t (aj ..);rw[aK];unfold yO Xh;rw[aF,decide_eq_true (show (i:Int)<(usA.length:Int) by omega),cond_true,y8,bh,hg]
  simp only[bD,aa];rw[uC (by unfold maxLen; omega),aa]
  by_cases he:t.codes=u.codes
  ·rw[decide_eq_true he,az,cond_false,if_pos he];exact IQ hsm ts us (i+1) (zj hd) (by simpa using hl) fun t h=>hsmt t (ai _ h)
  ·rw[decide_eq_false he,bE,cond_true,if_neg he]
theorem ND {a0:List zg} {rf:(List zg×List Int×List Int)->Option Bool} {usA:List Tm}:(ts us:List Tm)->(i:Nat)->usA.drop i=us->ts.length=us.length->(∀ t∈ts,t.codes.length<=1000)->wj rf a0 (usA.map Tm.codes) (ts.map Tm.codes) i=(match Xh ts us with
  | none=>some (.inl ())
  | some p=>(rf (a0,p.1.codes,p.2.codes)).bind fun r=>some (.inr r))
 | [],[],i,_,_,_=>rfl
 | [],_::_,_,_,h,_=>by simp at h
 | _::_,[],_,_,h,_=>by simp at h
 | t::ts,u::us,i,hd,hl,hsmt=>by
  have hg:=zr hd;have ht:=hsmt t (aj ..);rw[aK];unfold wj Xh;rw[y8,bh,hg];simp only[bD,aa];rw[Wk (by omega),aa]
  by_cases he:t.codes=u.codes
  ·rw[decide_eq_true he,az,cond_false,if_pos he];exact ND ts us (i+1) (zj hd) (by simpa using hl) fun t h=>hsmt t (ai _ h)
  ·rw[decide_eq_false he,bE,cond_true,if_neg he]
theorem CA {a0:List zg} (hs:SignOk a0) {t u:Tm} (ht:t.ok a0 24) (hu:u.ok a0 24) (hlt:t.codes.length<=1000) (hlu:u.codes.length<=1000):∃ c ts d us,HF a0 t.codes c ts∧HF a0 u.codes d us∧(c=d->ts.length=us.length):=by
 obtain⟨c,ts,h1,-,-⟩:=OL hs ht hlt;obtain⟨d,us,h2,-,-⟩:=OL hs hu hlu;have inj:∀{c c':Int} {r r':List Int},c::r=c'::r'->c=c'∧r=r':=fun h=>by injection h with a b; exact ⟨a,b⟩
 refine ⟨c,ts,d,us,h1,h2,fun hcd => ?_⟩;cases t with
 | v n =>
  obtain⟨e1,e2⟩:=inj (show (-1 - (n:Int))::[]=c::za ts from h1.eq)
  have e3:ts=[]:=yH (a0:=a0) _ ts [] (aC _) h1.ok trivial e2.symm;cases u with
  | v m =>
   obtain⟨-,e5⟩:=inj (show (-1 - (m:Int))::[]=d::za us from h2.eq)
   have e6:us=[]:=yH (a0:=a0) _ us [] (aC _) h2.ok trivial e5.symm;rw[e3,e6]
  | f q bs =>
   obtain⟨e4,-⟩:=inj (show (q:Int)::za bs=d::za us from h2.eq)
   omega
 | f p as =>
  obtain⟨e1,e2⟩:=inj (show (p:Int)::za as=c::za ts from h1.eq)
  have e3:as=ts:=yH (a0:=a0) _ as ts (aC _) ht.2 h1.ok e2;cases u with
  | v m =>
   obtain⟨e4,-⟩:=inj (show (-1 - (m:Int))::[]=d::za us from h2.eq)
   omega
  | f q bs =>
   obtain⟨e4,e5⟩:=inj (show (q:Int)::za bs=d::za us from h2.eq)
   have e6:bs=us:=yH (a0:=a0) _ bs us (aC _) hu.2 h2.ok e5;have hpq:p=q:=by omega
   subst hpq;have h3:=ht.1;have h4:=hu.1;rw[h3] at h4;injection h4 with h4;rw[← e3,← e6,h4]
theorem Ru {a0:List zg} (hs:SignOk a0):∀(n:Nat) (a b:List Int) (c d:Int) (ts us:List Tm),a.length<=n->HF a0 a c ts->HF a0 b d us->(c=d->ts.length=us.length)->a≠b->∀ k k',n<k->n<k' ->
  ∃(r:Bool) (z:Unit⊕Bool),XC k (a0,a,b)=some r∧lp so k' (a0,a,b)=some z∧yb z (fun _=>false) (fun x=>x)=r:=by
 intro n
 induction n with
 | zero =>
  intro a b c d ts us hn h;rw[h.eq] at hn;simp at hn
 | succ n ih =>
  intro a b c d ts us hn ha hb har hne k k' hk hk';obtain⟨k,rfl⟩:∃ q,k=q+1:=⟨k - 1,by omega⟩
  obtain⟨k',rfl⟩:∃ q,k'=q+1:=⟨k' - 1,by omega⟩
  show ∃ r z,XD (XC k) a0 a b=some r∧_;rw[zv];have key:=fun a b c d ts us h1 h2 h3 h4 h5=>ih a b c d ts us h1 h2 h3 h4 h5 k k' (by omega) (by omega)
  generalize lp so k'=rec at key ⊢;have la:=ha.len;have lb:=hb.len;obtain⟨x,hx⟩:=ha.sum hs;obtain⟨y,hy⟩:=hb.sum hs;unfold XD so;simp only;have hnn:nn a=some a:=by rw[ha.eq]; rfl
  rw[C7 a0 (by omega),hx,aa,C7 a0 (by omega),hy,aa,Rf (by omega) (by omega),aa,hnn,aa,aa,bE,cond_true,
   Oz (by omega) (by omega) (fun e he=>(ha.syms hs e he).1) (fun e he=>(hb.syms hs e he).1),aa]
  cases WF a b (aL 24) with
  | false=>exact ⟨false,.inl (),rfl,rfl,rfl⟩
  | true =>
   rw[az,cond_false,cond_true];simp only[aa];by_cases hxy:x=y
   ·subst hxy;rw[decide_eq_false (Int.lt_irrefl x),show (x != x)=false from by simp]
    simp only[cond_false];have ga:gx a 0=some c:=by rw[ha.eq]; rfl
    have gb:gx b 0=some d:=by rw[hb.eq]; rfl
    simp only[ga,gb,aa];by_cases hcd:c=d
    ·subst hcd;have hl:=har rfl;rw[show (c != c)=false from by simp,cond_false,cond_false]
     have ea:=ha.eq;have eb:=hb.eq;have hlt:(za ts).length+1=a.length:=by rw[ea]; rfl
     have hlu:(za us).length+1=b.length:=by rw[eb]; rfl
     have sa:uh a (some 1) none=some (za ts):=by rw[ea]; exact wW _ _
     have sb:uh b (some 1) none=some (za us):=by rw[eb]; exact wW _ _
     have ct:∀ t∈ts,t.codes.length<=1000:=fun t h=>by have:=uR h; omega
     have cu:∀ t∈us,t.codes.length<=1000:=fun t h=>by have:=uR h; omega
     have cuts1:=yf ts ha.ok;have cuts2:=yf us hb.ok;have lts:=ka cuts1;have lus:=ka cuts2;rw[aF] at lts lus;have pa:=vK hs (a1:=za ts) (by omega) cuts1
     have pb:=vK hs (a1:=za us) (by omega) cuts2
     have ta:=tc hs (a1:=za ts) (by omega) cuts1
     have tb:=tc hs (a1:=za us) (by omega) cuts2
     unfold QI;simp only[sa,sb,pa,pb,ta,tb,aa];rw[YS _ _ (by rw[aF]; unfold maxLen; omega),IQ cu ts us 0 rfl hl ct,aa,
      Xv _ _ _ _ (by rw[aF]; unfold maxLen; omega),ND ts us 0 rfl hl ct]
     cases hf:Xh ts us with
     | none =>
      exfalso;exact hne (by rw[ea,eb,K4 hl hf])
     | some p =>
      obtain⟨q1,q2,q3⟩:=KC hf;obtain⟨c1,ts1,d1,us1,f1,f2,f3⟩:=CA hs (vf.1 ha.ok _ q1) (vf.1 hb.ok _ q2) (ct _ q1) (cu _ q2);have:=uR q1;obtain⟨r,z,g1,g2,g3⟩:=key p.1.codes p.2.codes c1 d1 ts1 us1 (by omega) f1 f2 f3 q3
      refine ⟨r,z,?_,g2,g3⟩;simp only;rw[g1];rfl
    ·rw[show (c != d)=true from by simp [hcd],cond_true,cond_true]
     exact ⟨decide (c>d),.inr (decide (c>d)),rfl,rfl,rfl⟩
   ·rw[show (x != y)=true from by simp [hxy],cond_true]
    by_cases hlt:x<y
    ·rw[decide_eq_true hlt,cond_true];refine ⟨false,.inr (decide (x>y)),rfl,rfl,?_⟩;rw[decide_eq_false (show ¬ x>y by omega)]
     rfl
    ·rw[decide_eq_false hlt,cond_false,decide_eq_true (show x>y by omega),cond_true]
     exact ⟨true,.inr true,rfl,rfl,rfl⟩
theorem Or {a0:List zg} (hs:SignOk a0) {a b:List Int} {c d:Int} {ts us:List Tm} (ha:HF a0 a c ts) (hb:HF a0 b d us) (har:c=d->ts.length=us.length) (hne:a≠b):∃ r,Jh a0 a b=some r∧x6 a0 a b=some r:=by
 have la:=ha.len;obtain⟨r,z,h1,h2,h3⟩:=Ru hs a.length a b c d ts us (aC _) ha hb har hne ze ze (by unfold ze; omega) (by unfold ze; omega)
 refine ⟨r,h1,?_⟩;unfold x6;rw[h2,aa,← h3];cases z<;>rfl
def Vc (a0:List zg) (a b:List Int):Option (Int×Int) :=
 (yR a b).bind fun r34=>cond r34 (some (1,0)) ((x6 a0 a b).bind fun r35=>cond r35 (some (2,0)) ((x6 a0 b a).bind fun r36=>cond r36 (some (0,0)) (some (3,0))))
theorem R8 {a0:List zg} (hs:SignOk a0) {a b:List Int} {c d:Int} {ts us:List Tm} (ha:HF a0 a c ts) (hb:HF a0 b d us) (har:c=d->ts.length=us.length):∃ k,kw a0 a b=some k∧Vc a0 a b=some (k,0):=by
 have la:=ha.len;unfold kw Vc;rw[Wk (by omega),aa,uC (by unfold maxLen; omega),aa]
 by_cases he:a=b
 ·rw[decide_eq_true he]; exact ⟨1,rfl,rfl⟩
 ·rw[decide_eq_false he,cond_false,cond_false];obtain⟨r,h1,h2⟩:=Or hs ha hb har he;rw[h1,h2,aa,aa];cases r with
  | true=>exact ⟨2,rfl,rfl⟩
  | false =>
   obtain⟨r',g1,g2⟩:=Or hs hb ha (fun h=>(har h.symm).symm) (dD he);rw[cond_false,cond_false,g1,g2,aa,aa];cases r' with
   | true=>exact ⟨0,rfl,rfl⟩
   | false=>exact ⟨3,rfl,rfl⟩
theorem In {a0:List zg} (hs:SignOk a0) {t u:Tm} (ht:t.ok a0 24) (hu:u.ok a0 24) (hlt:t.codes.length<=1000) (hlu:u.codes.length<=1000):∃ k,kw a0 t.codes u.codes=some k∧Vc a0 t.codes u.codes=some (k,0):=by
 obtain⟨c,ts,d,us,h1,h2,h3⟩:=CA hs ht hu hlt hlu;exact R8 hs h1 h2 h3
def zcL (l e:zc):Bool:=(l.1 != e.1)&&decide (l.2=e.2)
def EM (L:List zc) (T:List jI) (C:List zc):Prop:=vw L T C L T C=some true
theorem Fv:EM [] [] []:=by
 unfold EM;exact rS (by simp) (by simp) (by simp) (by simp) (by simp) (by simp)
theorem Kc {a0:List zg} {L:List zc} {T:List jI} {C:List zc} (h:qy a0 L T C=true):qy a0 (x5 L T C).1 (x5 L T C).2.1 (x5 L T C).2.2=true:=by
 obtain⟨Lt,Tt,Ct,rfl,rfl,rfl,hL,hT,hC⟩:=Is h;obtain⟨L1,T1,C1,ρ,e,-,-,-,hm,-⟩:=JF h hL hT hC;rw[e];exact hm
def OkR (a0:List zg) (o:Option Xc):Prop:=∃ r,o=some r∧EM r.1 r.2.1 r.2.2.2.2∧(r.2.2.1=true->r.2.2.2.1=0->qy a0 r.1 r.2.1 r.2.2.2.2=true)
theorem qN {a0:List zg} {o:Option Xc} {k:Int} (h:o=wb k):OkR a0 o:=⟨_,h,Fv,fun h=>by cases h⟩
theorem Q1 {a0:List zg} {σ:Sb} {L:List zc} {T:List jI} {C:List zc} {k:Int}:OkR a0 (jJ a0 σ L T C k):=by
 unfold jJ;cases hm:qy a0 (qK σ L) (T.map (vn σ)) (qK σ C) with
 | true=>exact ⟨_,rfl,Hy hm,fun _ _=>Kc hm⟩
 | false=>exact qN rfl
theorem EQ (a0:List zg) (L:List zc) (T:List jI) (C:List zc) (i j:Int):OkR a0 (ku a0 L T C i j):=by
 unfold ku;rw[zG,aa];cases hmay:qy a0 L T C with
 | false=>exact qN (k:=1400) rfl
 | true =>
  rw[az,cond_false,uF,aa];cases hpi:zW L i with
  | false=>exact qN (k:=1400) rfl
  | true =>
   rw[az,cond_false,uF,aa];cases hpj:zW L j with
   | false=>exact qN (k:=1400) rfl
   | true =>
    rw[az,cond_false];by_cases hij:i=j
    ·rw[show (i==j)=true from by simp [hij],cond_true]
     exact qN (k:=1400) rfl
    ·rw[show (i==j)=false from by simp [hij],cond_false]
     have eta:∀ o:Option Xc,(o.bind fun r=>some (r.1,r.2.1,r.2.2.1,r.2.2.2.1,r.2.2.2.2))=o:=fun o=>by cases o<;>rfl
     rw[eta];have hs:=ut (zz hmay).1;obtain⟨⟨n,A⟩,hi⟩:=wq hpi;obtain⟨⟨n',A'⟩,hj⟩:=wq hpj;rcases Qs hs hmay hi hj with ⟨k,r1⟩ | ⟨hnn,c,ts,us,σ,rfl,rfl,ho,ho',hll,hmgu,hok,r1⟩
     ·exact qN r1
     ·rw[r1];exact Q1
abbrev u5:=Int×Int×Int×Int×Int×Int×Int×List zc×List jI×List zc
section
variable {a0:List zg} {L:List zc} {T:List jI} {C:List zc} (hmay:qy a0 L T C=true)
include hmay
end
section
variable {a0:List zg} {L:List zc} {T:List jI} {C:List zc} (hmay:qy a0 L T C=true)
include hmay
end
def t6 (a0:jQ) (_a1:jR) (_a2:jQ) (a3:Int) (a4:Bool):Option Bool :=
 cond (decide (a3≥0))
 (cond (decide (a3<((af a0:Nat):Int)))
  ((gx a0 a3).bind fun e4 =>
   (gx e4.2 0).bind fun e5 =>
   cond (e5==0)
   ((gx a0 a3).bind fun e6 =>
    some (e6.1==a4))
   (some false))
  (some false))
 (some false)
def si (a0:jS) (a1:jQ) (a2:jR) (a3:jQ) (a4:jQ) (a5:jR) (a6:jQ):Option (Bool×jQ×jR×jQ) :=
 (yL a0 a1 a2 a3).bind fun r14 =>
 cond (decide (((af r14.2:Nat):Int)>0))
 ((inR (ag .i64 (((af r14.2:Nat):Int) - 1)) (af r14.2)).bind fun k15 =>
  (r14.2[k15]?).bind fun x16 =>
  (yL a0 a4 a5 a6).bind fun r17 =>
  cond (decide (((af r17.2:Nat):Int)>0))
  ((inR (ag .i64 (((af r17.2:Nat):Int) - 1)) (af r17.2)).bind fun k18 =>
   (r17.2[k18]?).bind fun x19 =>
   cond (decide ((ag .i64 (x19+(ag .i64 (x16+1))))>23))
   (some (false,([]:jQ),([]:jR),([]:jQ)))
   ((zJ a4 a5 a6 (ag .i64 (x16+1))).bind fun r20 =>
    some (true,r20.1,r20.2.1,r20.2.2)))
  ((zJ a4 a5 a6 (ag .i64 (x16+1))).bind fun r21 =>
   some (true,r21.1,r21.2.1,r21.2.2)))
 ((yL a0 a4 a5 a6).bind fun r22 =>
  cond (decide (((af r22.2:Nat):Int)>0))
  ((inR (ag .i64 (((af r22.2:Nat):Int) - 1)) (af r22.2)).bind fun k23 =>
   (r22.2[k23]?).bind fun x24 =>
   cond (decide ((ag .i64 (x24+0))>23))
   (some (false,([]:jQ),([]:jR),([]:jQ)))
   ((zJ a4 a5 a6 0).bind fun r25 =>
    some (true,r25.1,r25.2.1,r25.2.2)))
  ((zJ a4 a5 a6 0).bind fun r26 =>
   some (true,r26.1,r26.2.1,r26.2.2)))
def uQ (a0:jS) (a1:jI):Option jR :=
 (uh a1 (some 1) none).bind fun y3 =>
 (uA a0 y3).bind fun r4 =>
 some r4
def XF (a0:jS) (a1:jI) (a2:jI):Option Bool :=
 (uO a0 a1 a2).bind fun r2 =>
 cond (r2.1 != 2)
 (some (r2.1 != 3))
 (some false)
def Qc (a0:jS) (a1:jI) (a2:Int) (a3:jI):Option jI :=
 (wd a0 a1 a2).bind fun r5 =>
 (uh a1 none (some a2)).bind fun y6 =>
 (uh a1 (some r5.1) none).bind fun y7 =>
 (vo ([y6,a3,y7]:List jI)).bind fun r8 =>
 some r8
def sZ (a0:jS) (a1:jQ) (a2:jR) (a3:jQ) (a4:Int) (a5:Int) (a6:jQ) (a7:jR) (a8:jQ) (a9:Int) (a10:Int):Option (jQ×jR×Bool×Int×jQ) :=
 (gx a6 a9).bind fun e28 =>
 (gx e28.2 a10).bind fun e29 =>
 cond (decide (e29<0))
 (some (([]:jQ),([]:jR),false,0,([]:jQ)))
 ((si a0 a1 a2 a3 a6 a7 a8).bind fun r30 =>
  cond (!r30.1)
  (some (([]:jQ),([]:jR),false,1501,([]:jQ)))
  ((gx a1 a4).bind fun e31 =>
   (uQ a0 e31.2).bind fun r32 =>
   (inR a9 (af r30.2.1)).bind fun k33 =>
   (r30.2.1[k33]?).bind fun x34 =>
   (wd a0 x34.2 a10).bind fun r35 =>
   (inR a5 (af r32)).bind fun k36 =>
   (r32[k36]?).bind fun x37 =>
   (uh x34.2 (some a10) (some r35.1)).bind fun y38 =>
   (uI a0 x37 y38).bind fun r39 =>
   cond (r39.2.1 != 0)
   (some (([]:jQ),([]:jR),false,1502,([]:jQ)))
   (cond (!r39.1)
    (some (([]:jQ),([]:jR),false,0,([]:jQ)))
    ((inR a5 (af r32)).bind fun k40 =>
     (r32[k40]?).bind fun x41 =>
     (Z6 r39.2.2 x41).bind fun r42 =>
     (inR (ag .i64 (1 - a5)) (af r32)).bind fun k43 =>
     (r32[k43]?).bind fun x44 =>
     (Z6 r39.2.2 x44).bind fun r45 =>
     cond (decide (((af r42:Nat):Int)>48))
     (some (([]:jQ),([]:jR),false,1502,([]:jQ)))
     (cond (decide (((af r45:Nat):Int)>48))
      (some (([]:jQ),([]:jR),false,1502,([]:jQ)))
      ((XF a0 r42 r45).bind fun r46 =>
       cond r46
       (some (([]:jQ),([]:jR),false,0,([]:jQ)))
       ((inR (ag .i64 (1 - a5)) (af r32)).bind fun k47 =>
        (r32[k47]?).bind fun x48 =>
        (Qc a0 x34.2 a10 x48).bind fun r49 =>
        (inR a9 (af r30.2.1)).bind fun k50 =>
        (r30.2.1[k50]?).bind fun x51 =>
        (vG a1 a2 a3 a4 (bw r30.2.1 k50 (x51.1,r49)) r30.2.2.1 r30.2.2.2 (-1)).bind fun r52 =>
        (rE r39.2.2 r52.2.1 r52.1 r52.2.2).bind fun r53 =>
        (xd a0 r53.1 r53.2.1 r53.2.2).bind fun r54 =>
        cond (r54.2.2.1 != 0)
        (some (([]:jQ),([]:jR),false,1502,([]:jQ)))
        (some (r54.1,r54.2.1,true,0,r54.2.2.2)))))))))
def sc (a0:jS) (a1:jQ) (a2:jR) (a3:jQ) (a4:Int) (a5:Int) (a6:jQ) (a7:jR) (a8:jQ) (a9:Int) (a10:Int):Option (jQ×jR×Bool×Int×jQ) :=
 (qI a0 a1 a2 a3).bind fun r8 =>
 cond (!r8)
 (some (([]:jQ),([]:jR),false,1500,([]:jQ)))
 ((qI a0 a6 a7 a8).bind fun r9 =>
  cond (!r9)
  (some (([]:jQ),([]:jR),false,1500,([]:jQ)))
  ((t6 a1 a2 a3 a4 false).bind fun r10 =>
   cond (!r10)
   (some (([]:jQ),([]:jR),false,1500,([]:jQ)))
   (cond (a5 != 0)
    (cond (a5 != 1)
     (some (([]:jQ),([]:jR),false,1500,([]:jQ)))
     (cond (decide (a9<0))
      (some (([]:jQ),([]:jR),false,1500,([]:jQ)))
      (cond (decide (a9≥((af a6:Nat):Int)))
       (some (([]:jQ),([]:jR),false,1500,([]:jQ)))
       (cond (decide (a10<1))
        (some (([]:jQ),([]:jR),false,1500,([]:jQ)))
        ((gx a6 a9).bind fun e11 =>
         cond (decide (a10≥((af e11.2:Nat):Int)))
         (some (([]:jQ),([]:jR),false,1500,([]:jQ)))
         ((sZ a0 a1 a2 a3 a4 a5 a6 a7 a8 a9 a10).bind fun r12 =>
          some (r12.1,r12.2.1,r12.2.2.1,r12.2.2.2.1,r12.2.2.2.2)))))))
    (cond (decide (a9<0))
     (some (([]:jQ),([]:jR),false,1500,([]:jQ)))
     (cond (decide (a9≥((af a6:Nat):Int)))
      (some (([]:jQ),([]:jR),false,1500,([]:jQ)))
      (cond (decide (a10<1))
       (some (([]:jQ),([]:jR),false,1500,([]:jQ)))
       ((gx a6 a9).bind fun e13 =>
        cond (decide (a10≥((af e13.2:Nat):Int)))
        (some (([]:jQ),([]:jR),false,1500,([]:jQ)))
        ((sZ a0 a1 a2 a3 a4 a5 a6 a7 a8 a9 a10).bind fun r14 =>
         some (r14.1,r14.2.1,r14.2.2.1,r14.2.2.2.1,r14.2.2.2.2)))))))))
def sW (a0:jQ) (a1:jR) (a2:jQ) (a3:Int):Option Bool :=
 (kS a0 a1 a2 a3).bind fun r5 =>
 cond r5
 ((gx a0 a3).bind fun e6 =>
  cond (!e6.1)
  ((gx a0 a3).bind fun e7 =>
   (gx e7.2 0).bind fun e8 =>
   some (e8==0))
  (some false))
 (some false)
def Yo (a0:jI) (a1:Int) (a2:Int) (a3:jI):Option jI :=
 (uh a0 none (some a1)).bind fun y3 =>
 cond (yK (af ([]:List Int)+af y3) 8)
 (cond (yK (af (([]:List Int)++y3)+af a3) 8)
  ((uh a0 (some a2) none).bind fun y4 =>
   cond (yK (af ((([]:List Int)++y3)++a3)+af y4) 8)
   (some (((([]:List Int)++y3)++a3)++y4))
   (none))
  (none))
 (none)
def ql (a0:jS) (a1:jQ) (a2:jR) (a3:jQ) (a4:Int) (a5:Int) (a6:jQ) (a7:jR) (a8:jQ) (a9:Int) (a10:Int):Option (jQ×jR×Bool×Int×jQ) :=
 (Q7 a0 a1 a2 a3).bind fun r30 =>
 cond (!r30)
 (some (([]:jQ),([]:jR),false,1500,([]:jQ)))
 ((Q7 a0 a6 a7 a8).bind fun r31 =>
  cond (!r31)
  (some (([]:jQ),([]:jR),false,1500,([]:jQ)))
  ((sW a1 a2 a3 a4).bind fun r32 =>
   cond (!r32)
   (some (([]:jQ),([]:jR),false,1500,([]:jQ)))
   (cond (decide (a5<0))
    (some (([]:jQ),([]:jR),false,1500,([]:jQ)))
    (cond (decide (a5>1))
     (some (([]:jQ),([]:jR),false,1500,([]:jQ)))
     ((kS a6 a7 a8 a9).bind fun r33 =>
      cond (!r33)
      (some (([]:jQ),([]:jR),false,1500,([]:jQ)))
      (cond (decide (a10<1))
       (some (([]:jQ),([]:jR),false,1500,([]:jQ)))
       ((gx a6 a9).bind fun e34 =>
        cond (decide (a10≥((af e34.2:Nat):Int)))
        (some (([]:jQ),([]:jR),false,1500,([]:jQ)))
        ((gx a6 a9).bind fun e35 =>
         (gx e35.2 a10).bind fun e36 =>
         cond (decide (e36<0))
         (some (([]:jQ),([]:jR),false,0,([]:jQ)))
         ((kC a1 a2 a3 a6 a7 a8).bind fun r37 =>
          cond (!r37.2.2.1)
          (some (([]:jQ),([]:jR),false,1501,([]:jQ)))
          ((gx a1 a4).bind fun e38 =>
           (uh e38.2 (some 1) none).bind fun y39 =>
           (yd a0 y39).bind fun r40 =>
           (inR a5 (af r40)).bind fun k41 =>
           (r40[k41]?).bind fun x42 =>
           (inR (ag .i64 (1 - a5)) (af r40)).bind fun k43 =>
           (r40[k43]?).bind fun x44 =>
           (gx r37.1 a9).bind fun e45 =>
           (QV a0 e45.2 a10).bind fun r46 =>
           (uh e45.2 (some a10) (some r46)).bind fun y47 =>
           (uW a0 x42 y47).bind fun r48 =>
           cond (!r48.2.1)
           (some (([]:jQ),([]:jR),false,1502,([]:jQ)))
           (cond (!r48.1)
            (some (([]:jQ),([]:jR),false,0,([]:jQ)))
            ((th r48.2.2 x42).bind fun r49 =>
             (th r48.2.2 x44).bind fun r50 =>
             cond (decide (((af r49:Nat):Int)>48))
             (some (([]:jQ),([]:jR),false,1502,([]:jQ)))
             (cond (decide (((af r50:Nat):Int)>48))
              (some (([]:jQ),([]:jR),false,1502,([]:jQ)))
              ((kw a0 r49 r50).bind fun r51 =>
               cond (r51==0)
               (some (([]:jQ),([]:jR),false,0,([]:jQ)))
               (cond (r51==1)
                (some (([]:jQ),([]:jR),false,0,([]:jQ)))
                ((se a1 a4).bind fun r52 =>
                 cond (yK (af r52+af r37.1) 32)
                 ((gx r37.1 a9).bind fun e53 =>
                  (Yo e45.2 a10 r46 x44).bind fun r54 =>
                  (inR (ag .i64 ((ag .i64 (((af a1:Nat):Int) - 1))+a9)) (af (r52++r37.1))).bind fun k55 =>
                  ((r52++r37.1)[k55]?).bind fun _x56 =>
                  (WU (bw (r52++r37.1) k55 (e53.1,r54)) a1 a2 a3 r37.1 r37.2.1 r37.2.2.2).bind fun r57 =>
                  (Zm a0 r48.2.2 r57.1 r57.2.1 r57.2.2).bind fun r58 =>
                  cond (!r58.2.2.1)
                  (some (([]:jQ),([]:jR),false,1502,([]:jQ)))
                  (some (r58.1,r58.2.1,true,0,r58.2.2.2)))
                 (none)))))))))))))))))
def uD (a0:jS) (a1:jQ) (a2:jR) (a3:jQ) (a4:Int):Option (jQ×jR×Bool×Int×jQ) :=
 (gx a1 a4).bind fun e11 =>
 (uQ a0 e11.2).bind fun r12 =>
 (inR 0 (af r12)).bind fun k13 =>
 (r12[k13]?).bind fun x14 =>
 (inR 1 (af r12)).bind fun k15 =>
 (r12[k15]?).bind fun x16 =>
 (uI a0 x14 x16).bind fun r17 =>
 cond (r17.2.1 != 0)
 (some (([]:jQ),([]:jR),false,1502,([]:jQ)))
 (cond (!r17.1)
  (some (([]:jQ),([]:jR),false,0,([]:jQ)))
  ((vG a1 a2 a3 a4 ([]:jQ) ([]:jR) ([]:jQ) (-1)).bind fun r18 =>
   (rE r17.2.2 r18.2.1 r18.1 r18.2.2).bind fun r19 =>
   (xd a0 r19.1 r19.2.1 r19.2.2).bind fun r20 =>
   cond (r20.2.2.1 != 0)
   (some (([]:jQ),([]:jR),false,1502,([]:jQ)))
   (some (r20.1,r20.2.1,true,0,r20.2.2.2))))
def tE (a0:jS) (a1:jQ) (a2:jR) (a3:jQ) (a4:Int):Option (jQ×jR×Bool×Int×jQ) :=
 (qI a0 a1 a2 a3).bind fun r4 =>
 cond (!r4)
 (some (([]:jQ),([]:jR),false,1500,([]:jQ)))
 ((t6 a1 a2 a3 a4 true).bind fun r5 =>
  cond (!r5)
  (some (([]:jQ),([]:jR),false,1500,([]:jQ)))
  ((uD a0 a1 a2 a3 a4).bind fun r6 =>
   some (r6.1,r6.2.1,r6.2.2.1,r6.2.2.2.1,r6.2.2.2.2)))
def tR (a0:jS) (a1:jQ) (a2:jR) (a3:jQ) (a4:Int):Option (jQ×jR×Bool×Int×jQ) :=
 (Q7 a0 a1 a2 a3).bind fun r16 =>
 cond (!r16)
 (some (([]:jQ),([]:jR),false,1500,([]:jQ)))
 ((kS a1 a2 a3 a4).bind fun r17 =>
  cond (!r17)
  (some (([]:jQ),([]:jR),false,1500,([]:jQ)))
  ((gx a1 a4).bind fun e18 =>
   cond (!e18.1)
   (some (([]:jQ),([]:jR),false,1500,([]:jQ)))
   ((gx a1 a4).bind fun e19 =>
    (gx e19.2 0).bind fun e20 =>
    cond (e20 != 0)
    (some (([]:jQ),([]:jR),false,1500,([]:jQ)))
    ((gx a1 a4).bind fun e21 =>
     (uh e21.2 (some 1) none).bind fun y22 =>
     (yd a0 y22).bind fun r23 =>
     (inR 0 (af r23)).bind fun k24 =>
     (r23[k24]?).bind fun x25 =>
     (inR 1 (af r23)).bind fun k26 =>
     (r23[k26]?).bind fun x27 =>
     (uW a0 x25 x27).bind fun r28 =>
     cond (!r28.2.1)
     (some (([]:jQ),([]:jR),false,1502,([]:jQ)))
     (cond (!r28.1)
      (some (([]:jQ),([]:jR),false,0,([]:jQ)))
      ((se a1 a4).bind fun r29 =>
       (Zm a0 r28.2.2 r29 a2 a3).bind fun r30 =>
       cond (!r30.2.2.1)
       (some (([]:jQ),([]:jR),false,1502,([]:jQ)))
       (some (r30.1,r30.2.1,true,0,r30.2.2.2))))))))
inductive RT (t u:Tm):Tm->Tm->Prop
 | here:RT t u t u
 | arg (c:Nat) (l r:List Tm) {a b:Tm}:RT t u a b->RT t u (.f c (l++a::r)) (.f c (l++b::r))
theorem Jt:(ts:List Tm)->(p:Nat)->p<(za ts).length->∃ l a r,ts=l++a::r∧(za l).length<=p∧p<(za l).length+a.codes.length
 | [],p,h=>by simp [za] at h
 | t::ts,p,h=>by
  simp only[za,am] at h;by_cases hp:p<t.codes.length
  ·exact ⟨[],t,ts,rfl,bN _,by simpa[za] using hp⟩
  ·obtain⟨l,a,r,rfl,h1,h2⟩:=Jt ts (p - t.codes.length) (by omega)
   exact ⟨t::l,a,r,rfl,by simp only[za,am]; omega,by simp only[za,am]; omega⟩
theorem Ni {a0:List zg} {N:Nat} {l r:List Tm} {a:Tm} (h:okR a0 N (l++a::r)):a.ok a0 N:=vf.1 h a (by simp)
theorem Nk {a0:List zg}:∀(n:Nat) (a:Tm) (p:Nat),a.size<=n->a.ok a0 24->p<a.codes.length->∃ t:Tm,t.ok a0 24∧(∃ x y,a.codes=x++t.codes++y∧x.length=p∧∀ u:Tm,∃ b,RT t u a b∧b.codes=x++u.codes++y)
 | 0,a,p,h,_,_=>by have:=a.size_pos; omega
 | n+1,a,0,_,ho,_=>⟨a,ho,[],[],by simp,rfl,fun u=>⟨u,.here,by simp⟩⟩
 | n+1,.v m,p+1,_,_,h=>by simp [Tm.codes] at h
 | n+1,.f c as,p+1,hn,ho,h=>by
  simp only[Tm.codes,ak] at h;obtain⟨l,a,r,rfl,h1,h2⟩:=Jt as p (by omega)
  simp only[Tm.size,Wr,qJ] at hn;obtain⟨t,h3,x,y,h4,h5,h6⟩:=Nk n a (p - (za l).length) (by omega) (Ni ho.2) (by omega)
  refine ⟨t,h3,(c:Int)::za l++x,y++za r,?_,?_,fun u => ?_⟩
  ·simp only[Tm.codes,uY,za,h4]; simp
  ·simp only[List.cons_append,ak,am]; omega
  ·obtain⟨b,g1,g2⟩:=h6 u;refine ⟨.f c (l++b::r),.arg c l r g1,?_⟩;simp only[Tm.codes,uY,za,g2]; simp
def RR (t u:Tm) (ts us:List Tm):Prop:=∃ l a b r,ts=l++a::r∧us=l++b::r∧RT t u a b
theorem Ta {a0:List zg} {ts:List Tm} {p:Nat} (ho:okR a0 24 ts) (h:p<(za ts).length):∃ t:Tm,t.ok a0 24∧∃ x y,za ts=x++t.codes++y∧x.length=p∧∀ u:Tm,∃ us,RR t u ts us∧za us=x++u.codes++y:=by
 obtain⟨l,a,r,rfl,h1,h2⟩:=Jt ts p h;obtain⟨t,h3,x,y,h4,h5,h6⟩:=Nk a.size a (p - (za l).length) (aC _) (Ni ho) (by omega)
 refine ⟨t,h3,za l++x,y++za r,by simp only[uY,za,h4]; simp,by simp only[am]; omega,fun u => ?_⟩
 obtain⟨b,g1,g2⟩:=h6 u;exact ⟨l++b::r,⟨l,a,b,r,rfl,rfl,g1⟩,by simp only[uY,za,g2]; simp⟩
theorem RT.ok {a0:List zg} {N:Nat} {t u a b:Tm} (h:RT t u a b) (hu:u.ok a0 N) (ha:a.ok a0 N):b.ok a0 N:=by
 induction h with
 | here=>exact hu
 | arg c l r h ih =>
  refine ⟨by have:=ha.1; simpa using this,vf.2 fun w hw => ?_⟩
  have h2:=vf.1 ha.2;rcases aI.1 hw with hw | hw
  ·exact h2 w (bk _ hw)
  ·rcases aG.1 hw with rfl | hw
   ·exact ih (h2 _ (by simp))
   ·exact h2 w (by simp [hw])
theorem RR.ok {a0:List zg} {N:Nat} {t u:Tm} {ts us:List Tm} (h:RR t u ts us) (hu:u.ok a0 N) (ha:okR a0 N ts):okR a0 N us:=by
 obtain⟨l,a,b,r,rfl,rfl,h⟩:=h;refine vf.2 fun w hw => ?_;have h2:=vf.1 ha;rcases aI.1 hw with hw | hw
 ·exact h2 w (bk _ hw)
 ·rcases aG.1 hw with rfl | hw
  ·exact h.ok hu (h2 _ (by simp))
  ·exact h2 w (by simp [hw])
theorem RR.len {t u:Tm} {ts us:List Tm} (h:RR t u ts us):us.length=ts.length:=by
 obtain⟨l,a,b,r,rfl,rfl,h⟩:=h;simp
theorem S8 {a0:List zg} {t:Tm} (ht:t.ok a0 24) (x y:List Int):sk a0 1 ((x++t.codes++y).drop x.length)=some t.codes.length:=by
 rw[aW,dy];exact BM y (t.sk_codes ht)
theorem QR {a0:List zg} (hs:SignOk a0) {t:Tm} (ht:t.ok a0 24) (x y:List Int) (hl:(x++t.codes++y).length<=1000):wd a0 (x++t.codes++y) (x.length:Int)=some (((x.length+t.codes.length:Nat):Int),true):=by
 rw[jK hs _ (by omega),S8 ht]
theorem zaZ {a0:List zg} (hs:SignOk a0) {t:Tm} (ht:t.ok a0 24) (x y:List Int) (hl:(x++t.codes++y).length<=1000):QV a0 (x++t.codes++y) (x.length:Int)=some ((x.length+t.codes.length:Nat):Int):=by
 rw[K8 hs _ (by omega) _ (by simp only[am]; omega),S8 ht]
 rfl
theorem AW (x z y:List Int):uh (x++z++y) (some (x.length:Int)) (some ((x.length+z.length:Nat):Int))=some z:=by
 show slc (x++z++y) (x.length:Int) ((x.length+z.length:Nat):Int)=_;unfold slc;rw[decide_eq_true (show (0:Int)<=(x.length:Int) by omega),decide_eq_true (show (x.length:Int)<=((x.length+z.length:Nat):Int) by omega),decide_eq_true (show ((x.length+z.length:Nat):Int)<=(((x++z++y).length:Nat):Int) by simp only[am]; omega)]
 simp only[cond_true,bo];have e:(x++z++y).take (x.length+z.length)=x++z:=by rw[show x.length+z.length=(x++z).length by simp,List.take_left]
 rw[e,dy]
theorem Dp (x z y:List Int):uh (x++z++y) none (some (x.length:Int))=some x:=by
 rw[IH _ (by simp only[am]; omega)]
 simp
theorem Ep (x z y:List Int):uh (x++z++y) (some ((x.length+z.length:Nat):Int)) none=some y:=by
 rw[CW _ (by simp only[am]; omega)]
 rw[show x.length+z.length=(x++z).length by simp,dy]
theorem jH {a0:List zg} (hb:uU a0=true) {t:Tm} (ht:t.ok a0 24) (hl:t.codes.length<=48):tA a0 t.codes=some true:=by
 have h:=yf (a0:=a0) [t] ⟨ht,trivial⟩;have e:za [t]=t.codes:=by simp [za]
 rw[e] at h;unfold tA;rw[j9,aa];unfold uq;rw[hb,decide_eq_true hl];simp only[Bool.and_self,cond_true,h];rfl
theorem JB (a0:List zg) (xs:List Int):∃ b,vP a0 xs=some b:=⟨_,Zd a0 xs⟩
theorem Sq {a0:List zg} {a b:List Int} {k:Int} (h:Vc a0 a b=some (k,0)):k=0∨k=1∨k=2∨k=3:=by
 unfold Vc at h;simp only[ah] at h;obtain⟨r,-,h⟩:=h;cases r with
 | true=>injection h with h; injection h with h; exact .inr (.inl h.symm)
 | false =>
  simp only[cond_false,ah] at h;obtain⟨r,-,h⟩:=h;cases r with
  | true=>injection h with h; injection h with h; exact .inr (.inr (.inl h.symm))
  | false =>
   simp only[cond_false,ah] at h;obtain⟨r,-,h⟩:=h;cases r with
   | true=>injection h with h; injection h with h; exact .inl h.symm
   | false=>injection h with h; injection h with h; exact .inr (.inr (.inr h.symm))
theorem kh {a0:List zg} (hb:uU a0=true) {t u:Tm} (ht:t.ok a0 24) (hu:u.ok a0 24) (hlt:t.codes.length<=48) (hlu:u.codes.length<=48):∃ k,kw a0 t.codes u.codes=some k∧uO a0 t.codes u.codes=some (k,0)∧Vc a0 t.codes u.codes=some (k,0)∧(k=0∨k=1∨k=2∨k=3):=by
 obtain⟨k,h1,h2⟩:=In (ut hb) ht hu (by omega) (by omega)
 refine ⟨k,h1,?_,h2,Sq h2⟩;rw[← h2];obtain⟨b1,e1⟩:=JB a0 t.codes;obtain⟨b2,e2⟩:=JB a0 u.codes;unfold uO;rw[jH hb ht hlt,jH hb hu hlu,e1,e2];cases b1<;>cases b2<;>rfl
theorem Gc (a0:List zg) (L:List zc) (T:List jI) (C:List zc) (L':List zc) (T':List jI) (C':List zc) :
  si a0 L T C L' T' C'=(vN a0 L T C L' T' C').bind fun r=>some (r.2.2.1,r.1,r.2.1,r.2.2.2):=by
 have half:∀(n:Int),((yL a0 L' T' C').bind fun r17 =>
   cond (decide (((af r17.2:Nat):Int)>0))
   ((inR (ag .i64 (((af r17.2:Nat):Int) - 1)) (af r17.2)).bind fun k18 =>
    (r17.2[k18]?).bind fun x19 =>
    cond (decide ((ag .i64 (x19+n))>23))
    (some (false,([]:jQ),([]:jR),([]:jQ)))
    ((zJ L' T' C' n).bind fun r20=>some (true,r20.1,r20.2.1,r20.2.2)))
   ((zJ L' T' C' n).bind fun r21=>some (true,r21.1,r21.2.1,r21.2.2))) =
  ((yL a0 L' T' C').bind fun r17 =>
   cond (decide (((af r17.2:Nat):Int)>0))
   ((inR (ag .i64 (((af r17.2:Nat):Int) - 1)) (af r17.2)).bind fun k18 =>
    (r17.2[k18]?).bind fun x19 =>
    cond (decide ((ag .i64 (x19+n))>23))
    (some (([]:jQ),([]:jR),false,([]:jQ)))
    ((zJ L' T' C' n).bind fun r20=>some (r20.1,r20.2.1,true,r20.2.2)))
   ((zJ L' T' C' n).bind fun r21=>some (r21.1,r21.2.1,true,r21.2.2))).bind fun r=>some (r.2.2.1,r.1,r.2.1,r.2.2.2):=by
  intro n;cases yL a0 L' T' C' with
  | none=>rfl
  | some r17 =>
   simp only[aa];have fin:((zJ L' T' C' n).bind fun r20=>some (true,r20.1,r20.2.1,r20.2.2))=((zJ L' T' C' n).bind fun r20=>some (r20.1,r20.2.1,true,r20.2.2)).bind fun r=>some (r.2.2.1,r.1,r.2.1,r.2.2.2):=by
    cases zJ L' T' C' n<;>rfl
   cases decide (((af r17.2:Nat):Int)>0) with
   | false=>exact fin
   | true =>
    simp only[cond_true];cases inR (ag .i64 (((af r17.2:Nat):Int) - 1)) (af r17.2) with
    | none=>rfl
    | some k18 =>
     simp only[aa];cases r17.2[k18]? with
     | none=>rfl
     | some x19 =>
      simp only[aa];cases decide (ag .i64 (x19+n)>23) with
      | true=>rfl
      | false=>exact fin
 unfold si vN;cases yL a0 L T C with
 | none=>rfl
 | some r14 =>
  simp only[aa];cases decide (((af r14.2:Nat):Int)>0) with
  | false=>exact half 0
  | true =>
   simp only[cond_true];cases inR (ag .i64 (((af r14.2:Nat):Int) - 1)) (af r14.2) with
   | none=>rfl
   | some k15 =>
    simp only[aa];cases r14.2[k15]? with
    | none=>rfl
    | some x16=>exact half _
theorem KF:(es:List zc)->(i:Nat)->zh (-1) es i=es
 | [],_=>rfl
 | e::es,i=>by
  unfold zh;rw[show ((i:Int) != -1)=true from by simp,cond_true,KF es (i+1)]
theorem Dt {L:List zc} {i:Int} (h:zW L i=true):(zh i L 0).length+1=L.length:=by
 unfold zW at h;simp only[ay,decide_eq_true_eq] at h;obtain⟨k,rfl⟩:∃ k:Nat,i=(k:Int):=⟨i.toNat,by omega⟩
 rw[ZL k L 0 (by omega) (by omega)]
 simp; omega
theorem P9 {side:Int} (hside:side=0∨side=1) (s0 s1:Tm):∃(ks kt:Nat) (fr to:Tm),inR side 2=some ks∧inR (ag .i64 (1 - side)) 2=some kt∧([s0.codes,s1.codes])[ks]? = some fr.codes∧([s0.codes,s1.codes])[kt]? = some to.codes ∧
  ((side=0∧fr=s0∧to=s1)∨(side=1∧fr=s1∧to=s0))∧decide (side<0)=false∧decide (side>1)=false:=by
 rcases hside with rfl | rfl
 ·exact ⟨0,1,s0,s1,rfl,rfl,rfl,rfl,.inl ⟨rfl,rfl,rfl⟩,rfl,rfl⟩
 ·exact ⟨1,0,s1,s0,rfl,rfl,rfl,rfl,.inr ⟨rfl,rfl,rfl⟩,rfl,rfl⟩
def PSpec (a0:List zg) (L:List zc) (T:List jI) (C:List zc) (i:Int) (fr to:Tm) (L':List zc) (T':List jI) (C':List zc) (j:Int) (n':Bool) (A':List Int) (at':Nat) (o:Option Xc):Prop :=
 (∃ v,A'[at']? = some v∧v<0∧o=wb 0) ∨
 ∃(v:Int) (b c:Nat) (us:List Tm),A'[at']? = some v∧0<=v∧b<=24∧TopV (yh L T C) (b:Int)∧A'=(c:Int)::za us∧okR a0 24 us ∧
  ((o=wb 1501∧∃ x,ZK (yh L' T' C') x∧23<x+(b:Int)) ∨
   ((∀ x,ZK (yh L' T' C') x->x+(b:Int)<=23)∧∃(t:Tm) (x y:List Int),t.ok a0 24∧za (us.map (Tm.up b))=x++t.codes++y∧at'=x.length+1∧okR a0 24 (us.map (Tm.up b))∧(∀ u:Tm,∃ ws,RR t u (us.map (Tm.up b)) ws∧za ws=x++u.codes++y) ∧
    ((o=wb 0∧∀ θ,¬ Sol θ ([fr].zip [t])) ∨
    ∃ σ,Mgu σ ([fr].zip [t])∧(∀ x,x<24->(σ x).ok a0 24) ∧
     ((o=wb 1502∧(qZ σ (aL 24)=false∨48<(fr.sub σ).codes.length∨48<(to.sub σ).codes.length)) ∨
      (qZ σ (aL 24)=true∧(fr.sub σ).codes.length<=48∧(to.sub σ).codes.length<=48∧∃ k,uO a0 (fr.sub σ).codes (to.sub σ).codes=some (k,0) ∧
       ((o=wb 0∧(k=0∨k=1)) ∨
       (o=jJ a0 σ (zh i L 0++(rN (b:Int) L').set j.toNat (n',(c:Int)::(x++to.codes++y))) (Vb b T T') (Vj b C C') 1502∧(k=2∨k=3))))))))
theorem qP (t:Tm):t.codes=za [t]:=by simp [za]
theorem BL {α:Type} {x y:α}:{xs:List α}->{i:Nat}->y∈xs.set i x->y∈xs∨y=x
 | [],i,h=>by simp at h
 | z::zs,0,h=>by
  rcases aG.1 h with h | h
  ·exact .inr h
  ·exact .inl (ai _ h)
 | z::zs,i+1,h=>by
  rcases aG.1 h with h | h
  ·exact .inl (h▸aj ..)
  ·rcases BL h with h | h
   ·exact .inl (ai _ h)
   ·exact .inr h
theorem Ik {a0:List zg} {A:List Int} (h:vq a0 A=true) (h0:gx A 0=some 0):∃ s0 s1:Tm,A=0::za [s0,s1]∧s0.ok a0 24∧s1.ok a0 24∧(za [s0,s1]).length<=48:=by
 obtain⟨c,ts,e,rfl,ho,he,-,hlen,hl48,hb⟩:=v6 h;rw[z6,aB] at h0;injection h0 with h0;obtain rfl:c=0:=by omega
 rw[(ut hb).eq] at he;injection he with he;subst he
 match ts,hlen,ho,hl48 with
 | [],hlen,_,_=>exact absurd hlen (by decide)
 | [_],hlen,_,_=>exact absurd hlen (by show ¬(((1:Nat):Int)=(2:Int)); decide)
 | _::_::_::_,hlen,_,_=>simp only[ak] at hlen; exact absurd hlen (by show ¬(_=(2:Int)); omega)
 | [s0,s1],_,ho,hl48=>exact ⟨s0,s1,rfl,ho.1,ho.2.1,hl48⟩
theorem IK {a0:List zg} (hs:SignOk a0) {s0 s1:Tm} (h0:s0.ok a0 24) (h1:s1.ok a0 24) (hl:(za [s0,s1]).length<=48):uQ a0 (0::za [s0,s1])=some [s0.codes,s1.codes]∧yd a0 (za [s0,s1])=some [s0.codes,s1.codes]:=by
 have hc:=yf (a0:=a0) [s0,s1] ⟨h0,h1,trivial⟩;refine ⟨?_,vK hs (by omega) hc⟩
 unfold uQ;rw[wW,aa,tc hs (by omega) hc]
 rfl
theorem Ah {σ:Sb} (t:Tm) (h:∀ c∈t.codes,-24<=c):onB (te σ) t.codes=(t.sub σ).codes:=by
 rw[Ay h,Tm.codes_sub];rfl
theorem Do {a0:List zg} {L:List zc} {T:List jI} {C:List zc} {L':List zc} {T':List jI} {C':List zc} (h:qy a0 L T C=true) (h':qy a0 L' T' C'=true) {i j:Int} {n':Bool} {A A':List Int}
  (hi:gx L i=some (false,A)) (h0:gx A 0=some 0) (hj:gx L' j=some (n',A')) {side:Int} (hside:side=0∨side=1) {at':Nat} (h1:1<=at') (h2:at'<A'.length) :
  ∃ s0 s1 fr to:Tm,A=0::za [s0,s1]∧s0.ok a0 24∧s1.ok a0 24∧((side=0∧fr=s0∧to=s1)∨(side=1∧fr=s1∧to=s0))∧∃ o,sZ a0 L T C i side L' T' C' j (at':Int)=o∧ql a0 L T C i side L' T' C' j (at':Int)=o∧PSpec a0 L T C i fr to L' T' C' j n' A' at' o:=by
 obtain⟨hsb,l1,l2,l3,l4,l5,l6,-⟩:=zz h;obtain⟨-,l1',l2',l3',l4',l5',l6',-⟩:=zz h';have hs:=ut hsb;obtain⟨s0,s1,rfl,ok0,ok1,hA48⟩:=Ik (aD.1 l4 _ (jA hi)) h0;obtain⟨c,us,e',rfl,ho',he',-,hlen',hl48',-⟩:=v6 (aD.1 l4' (n',A') (jA hj));obtain⟨ks,kt,fr,to,e1,e2,e3,e4,hft,hsd1,hsd2⟩:=P9 hside s0 s1;refine ⟨s0,s1,fr,to,rfl,ok0,ok1,hft,?_⟩;obtain⟨sd1,sd2⟩:=IK hs ok0 ok1 hA48;have hcd:=Z3 hs h;have hcd':=Z3 hs h';have hcA:Cds (0::za [s0,s1]):=hcd _ (yQ (jA hi));have hs0:s0.codes.length+s1.codes.length<=48:=by simpa[za] using hA48
 have hfr:fr.ok a0 24∧fr.codes.length<=48∧∀ c∈fr.codes,-24<=c∧c<=1000000:=by
  rcases hft with ⟨-,rfl,rfl⟩ | ⟨-,rfl,rfl⟩
  ·exact ⟨ok0,by omega,fun c hc=>hcA.2 c (by simp [za,hc])⟩
  ·exact ⟨ok1,by omega,fun c hc=>hcA.2 c (by simp [za,hc])⟩
 have hto:to.ok a0 24∧to.codes.length<=48∧∀ c∈to.codes,-24<=c∧c<=1000000:=by
  rcases hft with ⟨-,rfl,rfl⟩ | ⟨-,rfl,rfl⟩
  ·exact ⟨ok1,by omega,fun c hc=>hcA.2 c (by simp [za,hc])⟩
  ·exact ⟨ok0,by omega,fun c hc=>hcA.2 c (by simp [za,hc])⟩
 obtain⟨hjp,hjl,hjm⟩:0<=j∧j<L'.length∧L'[j.toNat]? = some (n',(c:Int)::za us):=by
  have hj0:=hj;unfold gx at hj0;by_cases hn:0<=j
  ·rw[decide_eq_true hn,cond_true] at hj0;have:=(aw.1 hj0).1;exact ⟨hn,by omega,hj0⟩
  ·rw[decide_eq_false hn] at hj0; cases hj0
 have hpi:zW L i=true:=by
  unfold gx at hi;by_cases hn:0<=i
  ·rw[decide_eq_true hn,cond_true] at hi;have:=(aw.1 hi).1;unfold zW;simp only[ay,decide_eq_true_eq];omega
  ·rw[decide_eq_false hn] at hi; cases hi
 have hpj:zW L' j=true:=by
  unfold zW;simp only[ay,decide_eq_true_eq];omega
 obtain⟨v,hv⟩:∃ v,((c:Int)::za us)[at']? = some v:=⟨_,al h2⟩;have hvat:gx ((c:Int)::za us) (at':Int)=some v:=by rw[y8]; exact hv
 -- the reference's guards
 have href:ql a0 L T C i side L' T' C' j (at':Int)=(cond (decide (v<0)) (wb 0)
   ((kC L T C L' T' C').bind fun r37 =>
          cond (!r37.2.2.1)
          (wb 1501)
           ((gx r37.1 j).bind fun e45 =>
           (QV a0 e45.2 (at':Int)).bind fun r46 =>
           (uh e45.2 (some (at':Int)) (some r46)).bind fun y47 =>
           (uW a0 fr.codes y47).bind fun r48 =>
           cond (!r48.2.1)
           (wb 1502)
           (cond (!r48.1)
            (wb 0)
            ((th r48.2.2 fr.codes).bind fun r49 =>
             (th r48.2.2 to.codes).bind fun r50 =>
             cond (decide (((af r49:Nat):Int)>48))
             (wb 1502)
             (cond (decide (((af r50:Nat):Int)>48))
              (wb 1502)
              ((kw a0 r49 r50).bind fun r51 =>
               cond (r51==0)
               (wb 0)
               (cond (r51==1)
                (wb 0)
                ((se L i).bind fun r52 =>
                 cond (yK (af r52+af r37.1) 32)
                 ((gx r37.1 j).bind fun e53 =>
                  (Yo e45.2 (at':Int) r46 to.codes).bind fun r54 =>
                  (inR (ag .i64 ((ag .i64 (((af L:Nat):Int) - 1))+j)) (af (r52++r37.1))).bind fun k55 =>
                  ((r52++r37.1)[k55]?).bind fun x56 =>
                  (WU (bw (r52++r37.1) k55 (e53.1,r54)) L T C r37.1 r37.2.1 r37.2.2.2).bind fun r57 =>
                  (Zm a0 r48.2.2 r57.1 r57.2.1 r57.2.2).bind fun r58 =>
                  cond (!r58.2.2.1)
                  (wb 1502)
                  (some (r58.1,r58.2.1,true,(0:Int),r58.2.2.2)))
                 (none)))))))))):=by
  unfold ql sW;rw[ya,h,aa,ya,h',aa,jN,hpi,jN,hpj];simp only[az,cond_false,aa,cond_true,hi,h0,bE,beq_self_eq_true,hsd1,hsd2,hj,hvat];rw[decide_eq_false (show ¬((at':Int)<1) by omega),cond_false,decide_eq_false (show ¬((at':Int)≥((af ((c:Int)::za us):Nat):Int)) by omega),cond_false]
  cases decide (v<0) with
  | true=>rfl
  | false =>
   simp only[cond_false,wW,aa,sd2,ak,bm,aP,gU,e1,e2,e3,e4];rfl
 rw[href];unfold sZ;rw[hj,aa];simp only[hvat,aa];by_cases hv0:v<0
 ·rw[decide_eq_true hv0];exact ⟨wb 0,rfl,rfl,.inl ⟨v,hv,hv0,rfl⟩⟩
 ·rw[decide_eq_false hv0,cond_false,cond_false];obtain⟨b,hb,htop,hap⟩:=apart_spec hs h h';have fin:∀{o1 o2:Option Xc} {o:Option Xc},o1=o->o2=o->PSpec a0 L T C i fr to L' T' C' j n' ((c:Int)::za us) at' o->∃ o,o1=o∧o2=o∧PSpec a0 L T C i fr to L' T' C' j n' ((c:Int)::za us) at' o:=fun h1 h2 h3=>⟨_,h1,h2,h3⟩;have mk:=fun {o:Option Xc} (hq:_)=>show PSpec a0 L T C i fr to L' T' C' j n' ((c:Int)::za us) at' o from .inr ⟨v,b,c,us,hv,by omega,hb,htop,rfl,ho',hq⟩
  rcases hap with ⟨hap,hfar⟩ | ⟨hap,hnear⟩
  ·rcases VC hs h h' hb htop with ⟨ap,-⟩ | ⟨ap,hn2⟩
   ·rw[Gc,hap,ap];exact fin rfl rfl (mk (.inl ⟨rfl,hfar⟩))
   ·obtain⟨x,hx,hfar⟩:=hfar;have:=hn2 x hx; omega
  ·rcases VC hs h h' hb htop with ⟨ap,x,hx,hfar⟩ | ⟨ap,-⟩
   ·have:=hnear x hx; omega
   ·rw[Gc,hap,ap];simp only[aa,az,cond_false];have hj2:gx (rN (b:Int) L') j=some (n',(c:Int)::za (us.map (Tm.up b))):=by
     have:=Th (fun l:zc=>(l.1,l.2.map (upC (b:Int)))) hj;rw[IA] at this;exact this
    have hvar:∀ k:Nat,jr k us->k+b<24:=fun k hk=>by
     have:=hnear (k:Int) ⟨_,yQ (jA hj),by
      obtain⟨c0,h1,h2,h3⟩:=kn.2 ⟨k,rfl,hk⟩;exact ⟨c0,ai _ h1,h2,h3⟩⟩
     omega
    have hou:=MG ho' hvar;have hlu:(za (us.map (Tm.up b))).length=(za us).length:=by rw[← V8,aF]
    obtain⟨p,rfl⟩:∃ p,at'=p+1:=⟨at' - 1,by omega⟩
    rw[ak] at h2;obtain⟨t,ht,x,y,e5,e6,hrep⟩:=Ta hou (p:=p) (by omega)
    subst e6;have hlx:x.length+t.codes.length+y.length<=48:=by
     have:=congrArg af e5;simp only[am] at this;omega
    have mk2:=fun {o:Option Xc} (hq:_)=>mk (o:=o) (.inr ⟨hnear,t,x,y,ht,e5,rfl,hou,hrep,hq⟩);have e7:(c:Int)::za (us.map (Tm.up b))=((c:Int)::x)++t.codes++y:=by rw[e5]; simp
    have e8:((x.length+1:Nat):Int)=((((c:Int)::x).length:Nat):Int):=by simp
    have hl1:(((c:Int)::x)++t.codes++y).length<=1000:=by simp only[am,ak]; omega
    have hjn:inR j (rN (b:Int) L').length=some j.toNat:=by
     obtain⟨k,rfl⟩:=dA hjp;exact ym (by simp [rN]; omega)
    have hjd:(rN (b:Int) L')[j.toNat]? = some (n',(c:Int)::za (us.map (Tm.up b))):=by
     have h3:=hj2;unfold gx at h3;rwa [decide_eq_true hjp,cond_true] at h3
    rw[hi,aa,hj2,aa];simp only[sd1,aa,ak,bm,aP,gU,e1,e2,e3,e4,hjn,hjd];rw[e8,e7,QR hs ht _ _ hl1,zaZ hs ht _ _ hl1];simp only[aa,AW];rw[qP fr,qP t];rcases Q5 hs (xs:=za [fr]) (ys:=za [t]) rfl rfl ⟨hfr.1,trivial⟩ ⟨ht,trivial⟩ hsb (by rw[← qP]; omega) (by rw[← qP]; omega) with ⟨hu,hno⟩ | ⟨-,σ,hm,hok,hu⟩
    ·rcases kl hs (ts:=[fr]) (us:=[t]) ⟨hfr.1,trivial⟩ ⟨ht,trivial⟩ (by rw[← qP]; omega) (by rw[← qP]; omega) with ⟨tg,-⟩ | ⟨-,σ',hm',tg⟩
     ·rw[hu,tg];exact fin rfl rfl (mk2 (.inl ⟨rfl,hno.resolve_left fun h=>h rfl⟩))
     ·exact absurd hm'.sol (hno.resolve_left (fun h=>h rfl) σ')
    ·rcases kl hs (ts:=[fr]) (us:=[t]) ⟨hfr.1,trivial⟩ ⟨ht,trivial⟩ (by rw[← qP]; omega) (by rw[← qP]; omega) with ⟨tg,hno⟩ | ⟨-,σ',hm',tg⟩
     ·exact absurd hm.sol (hno.resolve_left (fun h=>h rfl) σ)
     ·have:=hm.unique hm';subst this;rw[hu,tg];have mk3:=fun {o:Option Xc} (hq:_)=>mk2 (o:=o) (.inr ⟨σ,hm,hok,hq⟩);cases hsh:qZ σ (aL 24) with
      | false=>exact fin rfl rfl (mk3 (.inl ⟨rfl,.inl hsh⟩))
      | true =>
       simp only[cond_true,aa,show ((0:Int) != 0)=false from rfl,cond_false,az]
       rw[← qP fr,← qP t];have nfr:tS fr.codes:=⟨by omega,fun c hc=>by have:=hfr.2.2 c hc; omega⟩
       have nto:tS to.codes:=⟨by omega,fun c hc=>by have:=hto.2.2 c hc; omega⟩
       rw[ko (Q0 hsh) nfr.1 nfr.2,D4 (Q0 hsh) nfr,ko (Q0 hsh) nto.1 nto.2,D4 (Q0 hsh) nto,Ah fr fun c hc=>(hfr.2.2 c hc).1,Ah to fun c hc=>(hto.2.2 c hc).1];simp only[aa];have okf:(fr.sub σ).ok a0 24:=Tm.ok_sub fr hfr.1 fun x hx=>hok x (Tm.ok_has fr hfr.1 hx);have okt:(to.sub σ).ok a0 24:=Tm.ok_sub to hto.1 fun x hx=>hok x (Tm.ok_has to hto.1 hx);by_cases g1:48<(fr.sub σ).codes.length
       ·rw[decide_eq_true (show ((af (fr.sub σ).codes:Nat):Int)>48 by omega)]
        exact fin rfl rfl (mk3 (.inl ⟨rfl,.inr (.inl g1)⟩))
       ·rw[decide_eq_false (show ¬((af (fr.sub σ).codes:Nat):Int)>48 by omega),cond_false,cond_false]
        by_cases g2:48<(to.sub σ).codes.length
        ·rw[decide_eq_true (show ((af (to.sub σ).codes:Nat):Int)>48 by omega)]
         exact fin rfl rfl (mk3 (.inl ⟨rfl,.inr (.inr g2)⟩))
        ·rw[decide_eq_false (show ¬((af (to.sub σ).codes:Nat):Int)>48 by omega),cond_false,cond_false]
         obtain⟨k,w1,w2,-,w4⟩:=kh hsb okf okt (by omega) (by omega)
         unfold XF;rw[w1,w2];simp only[aa];have mk4:=fun {o:Option Xc} (hq:_)=>mk3 (o:=o) (.inr ⟨hsh,by omega,by omega,k,w2,hq⟩)
         by_cases hk:k=0∨k=1
         ·refine fin (o:=wb 0) ?_ ?_ (mk4 (.inl ⟨rfl,hk⟩))
          ·rcases hk with rfl | rfl<;>rfl
          ·rcases hk with rfl | rfl<;>rfl
         ·have hk2:k=2∨k=3:=by omega
          have hb1:(cond (k != 2) (some (k != 3)) (some false):Option Bool)=some false:=by rcases hk2 with rfl | rfl<;>rfl
          rw[hb1,aa,cond_false,show (k==0)=false by simp; omega,show (k==1)=false by simp; omega,cond_false,cond_false]
          unfold Qc Yo;have hlto:to.codes.length<=48:=hto.2.1;have hul:(rN (b:Int) L').length=L'.length:=by simp [rN]
          have hucl:(rN (b:Int) C').length=C'.length:=by simp [rN]
          have hwl:=Dt hpi;rw[QR hs ht _ _ hl1];simp only[aa,Dp,Ep];rw[AN (by simp only[ak]; omega),VP hpi (by omega),zp (by first | omega | (simp only[ak,bm]; omega)),cond_true,zp (by first | omega | (simp only[am,ak,bm]; omega)),cond_true,zp (by first | omega | (simp only[am,ak,bm]; omega)),cond_true]
          simp only[aa];rw[zp (by first | omega | (simp only[am,ak,bm,aF]; omega)),cond_true]
          have w5:inR (ag .i64 ((ag .i64 (((af L:Nat):Int) - 1))+j)) (af (zh i L 0++rN (b:Int) L'))=some ((zh i L 0).length+j.toNat):=by
           rw[show ag .i64 (((af L:Nat):Int) - 1)=(((zh i L 0).length:Nat):Int) by rw[zo]<;>omega,show ag .i64 ((((zh i L 0).length:Nat):Int)+j)=(((zh i L 0).length+j.toNat:Nat):Int) by rw[zo]<;>omega]
           exact ym (by rw[am]; omega)
          have w6:(zh i L 0++rN (b:Int) L')[(zh i L 0).length+j.toNat]? = some (n',(c:Int)::za (us.map (Tm.up b))):=by
           rw[List.getElem?_append_right (by omega),show (zh i L 0).length+j.toNat - (zh i L 0).length=j.toNat by omega]
           exact hjd
          rw[w5,aa,w6,aa,List.set_append_right _ _ (by omega),show (zh i L 0).length+j.toNat - (zh i L 0).length=j.toNat by omega]
          have e9:(((([]:List Int)++(c:Int)::x))++to.codes)++y=(c:Int)::(x++to.codes++y):=by simp
          have e10:(((c:Int)::x)++to.codes)++y=(c:Int)::(x++to.codes++y):=by simp
          rw[e9,e10];have hul2:((rN (b:Int) L').set j.toNat (n',(c:Int)::(x++to.codes++y))).length=L'.length:=by rw[bY]; exact hul
          unfold WU;rw[uB i (-1) (by omega) (by omega) (by omega) (by omega) (by simp; omega) (by omega),aa,KF,
           zp (by first | omega | (simp only[am,ak,bm,aF]; omega)),cond_true,zp (by first | omega | (simp only[aF]; omega)),cond_true,zp (by first | omega | (simp only[am,ak,bm,aF]; omega)),cond_true,zp (by first | omega | (simp only[am,ak,bm,aF]; omega)),cond_true,aa]
          have hup:∀ r∈yh L' T' C',Cds (r.map (upC (b:Int))):=fun r hr=>T7 (hcd' r hr) fun x hx=>hnear x ⟨r,hr,hx⟩;have hupl:∀ ls:List zc,(∀ l∈ls,l.2∈yh L' T' C')->∀ l∈rN (b:Int) ls,Cds l.2:=fun ls hls l hl=>by
           obtain⟨l0,h0,rfl⟩:=aR.1 hl;exact hup _ (hls l0 h0)
          have hA2:Cds ((c:Int)::za (us.map (Tm.up b))):=hupl L' (fun l hl=>yQ hl) _ (jA hj2);have hnew:Cds ((c:Int)::(x++to.codes++y)):=by
           refine ⟨by simp only[ak,am]; omega,fun d hd => ?_⟩
           rcases aG.1 hd with rfl | hd
           ·exact hA2.2 _ (aj ..)
           ·rcases aI.1 hd with hd | hd
            ·rcases aI.1 hd with hd | hd
             ·exact hA2.2 d (by rw[e5]; simp [hd])
             ·exact hto.2.2 d hd
            ·exact hA2.2 d (by rw[e5]; simp [hd])
          have cL:∀ l∈zh i L 0++(rN (b:Int) L').set j.toNat (n',(c:Int)::(x++to.codes++y)),Cds l.2:=fun l hl=>by
           rcases aI.1 hl with hl | hl
           ·exact hcd _ (yQ (qC L 0 hl))
           ·rcases BL hl with hl | rfl
            ·exact hupl L' (fun l hl=>yQ hl) l hl
            ·exact hnew
          have cT:∀ r∈Vb b T T',Cds r:=fun r hr=>by
           unfold Vb at hr;rcases aI.1 hr with hr | hr
           ·exact hcd _ (xu hr)
           ·obtain⟨r0,h0,rfl⟩:=aR.1 hr;exact hup _ (xu h0)
          have cC:∀ l∈Vj b C C',Cds l.2:=fun l hl=>by
           unfold Vj at hl;rcases aI.1 hl with hl | hl
           ·exact hcd _ (xc hl)
           ·exact hupl C' (fun l hl=>xc hl) l hl
          have nL:(zh i L 0++(rN (b:Int) L').set j.toNat (n',(c:Int)::(x++to.codes++y))).length<=100:=by rw[am]; omega
          have nT:(Vb b T T').length<=100:=by unfold Vb; rw[am,aF]; omega
          have nC:(Vj b C C').length<=100:=by unfold Vj; rw[am]; omega
          refine fin ?_ (Dx (a0:=a0) hs hsh cL cT cC (by omega) (by omega) (by omega) 1502) (mk4 (.inr ⟨rfl,hk2⟩))
          simp only;rw[show T++T'.map (cV (upC (b:Int)))=Vb b T T' from rfl,show C++rN (b:Int) C'=Vj b C C' from rfl,ED hsh cL cT cC (by omega) (by omega) (by omega),aa,xK,aa]
          unfold jJ;cases qy a0 (qK σ (zh i L 0++(rN (b:Int) L').set j.toNat (n',(c:Int)::(x++to.codes++y)))) ((Vb b T T').map (vn σ)) (qK σ (Vj b C C')) with
          | true=>rfl
          | false=>rfl
theorem PSpec.okR {a0:List zg} {L:List zc} {T:List jI} {C:List zc} {i:Int} {fr to:Tm} {L':List zc} {T':List jI} {C':List zc} {j:Int} {n':Bool} {A':List Int} {at':Nat} {o:Option Xc} (h:PSpec a0 L T C i fr to L' T' C' j n' A' at' o):OkR a0 o:=by
 rcases h with ⟨_,_,_,h⟩ | ⟨_,_,_,_,_,_,_,_,_,_,⟨h,_⟩ | ⟨_,_,_,_,_,_,_,_,_,⟨h,_⟩ | ⟨_,_,_,⟨h,_⟩ | ⟨_,_,_,_,_,⟨h,_⟩ | ⟨h,_⟩⟩⟩⟩⟩
 ·exact qN h
 ·exact qN h
 ·exact qN h
 ·exact qN h
 ·exact qN h
 ·rw[h]; exact Q1
def eqB (L:List zc) (i:Int) (neg:Bool):Bool:=zW L i&&(match gx L i with
 | some l=>(gx l.2 0==some 0)&&(l.1==neg)
 | none=>false)
theorem It {L:List zc} {i:Int} {neg:Bool} (h:eqB L i neg=true):∃ A,gx L i=some (neg,A)∧gx A 0=some 0:=by
 unfold eqB at h;cases hp:zW L i with
 | false=>rw[hp] at h; cases h
 | true =>
  rw[hp,aN] at h;cases hg:gx L i with
  | none=>rw[hg] at h; cases h
  | some l =>
   rw[hg] at h;simp only[ay,beq_iff_eq] at h;exact ⟨l.2,by rw[← h.2],h.1⟩
theorem NZ {L:List zc} {i:Int} {n neg:Bool} {A:List Int} (h:gx L i=some (n,A)) (hp:zW L i=true):eqB L i neg=((gx A 0==some 0)&&(n==neg)):=by
 unfold eqB;rw[hp,h,aN]
theorem Wp {a0:List zg} {A:List Int} (h:vq a0 A=true):∃ c:Nat,gx A 0=some (c:Int):=by
 obtain⟨c,ts,e,rfl,-⟩:=v6 h;exact ⟨c,by rw[z6]; rfl⟩
theorem vX {a0:List zg} {L:List zc} (hL:∀ l∈L,vq a0 l.2=true) (T:List jI) (C:List zc) (i:Int) (neg:Bool):t6 L T C i neg=some (eqB L i neg):=by
 unfold t6;by_cases h0:i≥0
 ·rw[decide_eq_true h0,cond_true];by_cases h1:i<((af L:Nat):Int)
  ·have hp:zW L i=true:=by unfold zW; simp only[ay,decide_eq_true_eq]; exact ⟨h0,h1⟩
   obtain⟨⟨n,A⟩,hg⟩:=wq hp;obtain⟨c,hc⟩:=Wp (hL _ (jA hg));rw[decide_eq_true h1,cond_true,hg,aa,hc,aa,aa,NZ hg hp,hc];by_cases e:(c:Int)=0
   ·rw[e]; rfl
   ·rw[show ((c:Int)==0)=false by simpa using e,show (some (c:Int)==some 0)=false by simpa using e]; rfl
  ·have hp:zW L i=false:=by unfold zW; rw[decide_eq_false h1,cB]
   rw[decide_eq_false h1,cond_false];unfold eqB;rw[hp]; rfl
 ·have hp:zW L i=false:=by unfold zW; rw[decide_eq_false h0,bt]
  rw[decide_eq_false h0,cond_false];unfold eqB;rw[hp]; rfl
theorem vA {a0:List zg} {L:List zc} (hL:∀ l∈L,vq a0 l.2=true) (T:List jI) (C:List zc) (i:Int):sW L T C i=some (eqB L i false):=by
 unfold sW;rw[jN,aa];cases hp:zW L i with
 | false=>unfold eqB; rw[hp]; rfl
 | true =>
  obtain⟨⟨n,A⟩,hg⟩:=wq hp;obtain⟨c,hc⟩:=Wp (hL _ (jA hg));rw[cond_true,hg,aa,aa,hc,aa,NZ hg hp,hc];have e:(some (c:Int)==some 0)=((c:Int)==0):=rfl;rw[e];cases n<;>cases (c:Int)==0<;>rfl
theorem zfg (o:Option Xc):(o.bind fun r=>some (r.1,r.2.1,r.2.2.1,r.2.2.2.1,r.2.2.2.2))=o:=by cases o<;>rfl
theorem Dg (a0:List zg) (L:List zc) (T:List jI) (C:List zc) (i side:Int) (L':List zc) (T':List jI) (C':List zc) (j at':Int) :
  ql a0 L T C i side L' T' C' j at'=sc a0 L T C i side L' T' C' j at'∧OkR a0 (sc a0 L T C i side L' T' C' j at'):=by
 have bad:∀{o o':Option Xc} {k:Int},o=wb k->o'=wb k->o=o'∧OkR a0 o':=fun h h'=>⟨h.trans h'.symm,qN h'⟩;have key:qy a0 L T C=true->qy a0 L' T' C'=true->eqB L i false=true->(side=0∨side=1)->0<=j->j<L'.length->1<=at'->(∀ l,gx L' j=some l->at'<l.2.length)->ql a0 L T C i side L' T' C' j at'=sZ a0 L T C i side L' T' C' j at'∧OkR a0 (sZ a0 L T C i side L' T' C' j at'):=by
  intro h h' he hsd hj0 hj1 ha hal;obtain⟨A,g1,g2⟩:=It he;obtain⟨⟨n',A'⟩,g3,-⟩:=WN hj0 hj1;obtain⟨k,rfl⟩:=dA (show 0<=at' by omega)
  obtain⟨s0,s1,fr,to,-,-,-,-,o,o1,o2,o3⟩:=Do h h' g1 g2 g3 hsd (show 1<=k by omega) (by have:=hal _ g3; exact Int.ofNat_lt.1 this)
  rw[o1,o2];exact ⟨rfl,o3.okR⟩
 unfold sc;rw[zG,aa];cases h:qy a0 L T C with
 | false=>unfold ql; rw[ya,h]; exact bad (k:=1500) rfl rfl
 | true =>
  rw[az,cond_false,zG,aa];cases h':qy a0 L' T' C' with
  | false=>unfold ql; rw[ya,h,aa,ya,h']; exact bad (k:=1500) rfl rfl
  | true =>
   have hL:∀ l∈L,vq a0 l.2=true:=fun l hl=>aD.1 (zz h).2.2.2.2.1 l hl;rw[az,cond_false,vX hL,aa];cases he:eqB L i false with
   | false=>unfold ql; rw[ya,h,aa,ya,h',aa,vA hL,he]; exact bad (k:=1500) rfl rfl
   | true =>
    rw[az,cond_false];have refl:∀{b:Bool},(decide (side<0)||decide (side>1))=b->ql a0 L T C i side L' T' C' j at'=cond b (wb 1500) (ql a0 L T C i side L' T' C' j at'):=by
     intro b hb;cases b with
     | false=>rfl
     | true =>
      unfold ql;rw[ya,h,aa,ya,h',aa,vA hL,he];simp only[aa,az,cond_false];cases h1:decide (side<0) with
      | true=>rfl
      | false=>rw[h1,eG] at hb; rw[hb]; rfl
    have ref2:(side=0∨side=1)->∀{o:Option Xc},o=cond (decide (j<0)) (wb 1500) (cond (decide (j≥((af L':Nat):Int))) (wb 1500) (cond (decide (at'<1)) (wb 1500) ((gx L' j).bind fun e11=>cond (decide (at'≥((af e11.2:Nat):Int))) (wb 1500) ((sZ a0 L T C i side L' T' C' j at').bind fun r12=>some (r12.1,r12.2.1,r12.2.2.1,r12.2.2.2.1,r12.2.2.2.2))))) ->
      ql a0 L T C i side L' T' C' j at'=o∧OkR a0 o:=by
     intro hsd o ho;have hsd1:decide (side<0)=false:=by rcases hsd with rfl | rfl<;>rfl
     have hsd2:decide (side>1)=false:=by rcases hsd with rfl | rfl<;>rfl
     have step:ql a0 L T C i side L' T' C' j at'=cond (!zW L' j) (wb 1500) (cond (decide (at'<1)) (wb 1500) ((gx L' j).bind fun e=>cond (decide (at'≥((af e.2:Nat):Int))) (wb 1500) (ql a0 L T C i side L' T' C' j at'))):=by
      cases hp:zW L' j with
      | false=>unfold ql; rw[ya,h,aa,ya,h',aa,vA hL,he,jN,hp,hsd1,hsd2]; rfl
      | true =>
       rw[az,cond_false];cases h1:decide (at'<1) with
       | true=>unfold ql; rw[ya,h,aa,ya,h',aa,vA hL,he,jN,hp,hsd1,hsd2,h1]; rfl
       | false =>
        obtain⟨l,hg⟩:=wq hp;rw[cond_false,hg,aa];cases h2:decide (at'≥((af l.2:Nat):Int)) with
        | true =>
         rw[cond_true];unfold ql;rw[ya,h,aa,ya,h',aa,vA hL,he,jN,hp,hsd1,hsd2,h1,hg];simp only[aa,az,cond_false,h2];rfl
        | false=>rfl
     rw[ho];by_cases j0:j<0
     ·have hp:zW L' j=false:=by unfold zW; rw[decide_eq_false (show ¬ j≥0 by omega),bt]
      rw[decide_eq_true j0];refine bad (k:=1500) ?_ rfl;rw[step,hp]; rfl
     ·rw[decide_eq_false j0,cond_false];by_cases j1:j≥((af L':Nat):Int)
      ·have hp:zW L' j=false:=by unfold zW; rw[decide_eq_false (show ¬ j<((af L':Nat):Int) by omega),cB]
       rw[decide_eq_true j1];refine bad (k:=1500) ?_ rfl;rw[step,hp]; rfl
      ·have hp:zW L' j=true:=by unfold zW; simp only[ay,decide_eq_true_eq]; omega
       rw[decide_eq_false j1,cond_false];by_cases a1:at'<1
       ·rw[decide_eq_true a1];refine bad (k:=1500) ?_ rfl;rw[step,hp,decide_eq_true a1]; rfl
       ·obtain⟨l,hg⟩:=wq hp;rw[decide_eq_false a1,cond_false,hg,aa];by_cases a2:at'≥((af l.2:Nat):Int)
        ·rw[decide_eq_true a2];refine bad (k:=1500) ?_ rfl;rw[step,hp,decide_eq_false a1,hg,aa,decide_eq_true a2]; rfl
        ·rw[decide_eq_false a2,cond_false,zfg];exact key h h' he hsd (by omega) (by omega) (by omega) fun l2 hl2=>by
          rw[hg] at hl2; injection hl2 with hl2; subst hl2; omega
    by_cases s0:side=0
    ·rw[show (side != 0)=false by simp [s0],cond_false]
     exact ref2 (.inl s0) rfl
    ·rw[show (side != 0)=true by simp [s0],cond_true]
     by_cases s1:side=1
     ·rw[show (side != 1)=false by simp [s1],cond_false]
      exact ref2 (.inr s1) rfl
     ·rw[show (side != 1)=true by simp [s1],cond_true]
      refine bad (k:=1500) ?_ rfl;rw[refl (b:=true) (by simp only[b9,decide_eq_true_eq]; omega)]
      rfl
theorem Kz {a0:List zg} {L:List zc} {T:List jI} {C:List zc} (h:qy a0 L T C=true) {i:Int} (he:eqB L i true=true) :
  ∃ A s0 s1,gx L i=some (true,A)∧A=0::za [s0,s1]∧s0.ok a0 24∧s1.ok a0 24∧∃ o,uD a0 L T C i=o∧tR a0 L T C i=o ∧
   ((∃ k,o=wb k)∨∃ σ,Mgu σ ([s0].zip [s1])∧(∀ x,x<24->(σ x).ok a0 24)∧o=jJ a0 σ (zh i L 0) T C 1502):=by
 obtain⟨A,hi,h0⟩:=It he;obtain⟨hsb,l1,l2,l3,l4,l5,l6,-⟩:=zz h;have hs:=ut hsb;obtain⟨s0,s1,rfl,ok0,ok1,hA48⟩:=Ik (aD.1 l4 _ (jA hi)) h0;obtain⟨sd1,sd2⟩:=IK hs ok0 ok1 hA48;have hcd:=Z3 hs h;have hs0:s0.codes.length+s1.codes.length<=48:=by simpa[za] using hA48
 refine ⟨_,s0,s1,hi,rfl,ok0,ok1,?_⟩;have hpi:zW L i=true:=by
  unfold eqB at he;cases hp:zW L i with
  | true=>rfl
  | false=>rw[hp] at he; cases he
 have fin:∀{o1 o2:Option Xc} {o:Option Xc} {P:Option Xc->Prop},o1=o->o2=o->P o->∃ o,o1=o∧o2=o∧P o:=fun h1 h2 h3=>⟨_,h1,h2,h3⟩;unfold uD tR;rw[ya,h,jN,hpi,hi];simp only[aa,az,cond_false,h0,bne_self_eq_false,wW,sd1,sd2,show inR 0 ([s0.codes,s1.codes]).length=some 0 from rfl,show inR 1 ([s0.codes,s1.codes]).length=some 1 from rfl,aB,List.getElem?_cons_succ]
 rw[qP s0,qP s1];rcases Q5 hs (xs:=za [s0]) (ys:=za [s1]) rfl rfl ⟨ok0,trivial⟩ ⟨ok1,trivial⟩ hsb (by rw[← qP]; omega) (by rw[← qP]; omega) with ⟨hu,hno⟩ | ⟨-,σ,hm,hok,hu⟩
 ·rcases kl hs (ts:=[s0]) (us:=[s1]) ⟨ok0,trivial⟩ ⟨ok1,trivial⟩ (by rw[← qP]; omega) (by rw[← qP]; omega) with ⟨tg,-⟩ | ⟨-,σ',hm',tg⟩
  ·rw[hu,tg];exact fin (o:=wb 0) rfl rfl (.inl ⟨_,rfl⟩)
  ·exact absurd hm'.sol (hno.resolve_left (fun h=>h rfl) σ')
 ·rcases kl hs (ts:=[s0]) (us:=[s1]) ⟨ok0,trivial⟩ ⟨ok1,trivial⟩ (by rw[← qP]; omega) (by rw[← qP]; omega) with ⟨tg,hno⟩ | ⟨-,σ',hm',tg⟩
  ·exact absurd hm.sol (hno.resolve_left (fun h=>h rfl) σ)
  ·have:=hm.unique hm';subst this;rw[hu,tg];cases hsh:qZ σ (aL 24) with
   | false=>exact fin (o:=wb 1502) rfl rfl (.inl ⟨_,rfl⟩)
   | true =>
    simp only[cond_true,aa,show ((0:Int) != 0)=false from rfl,cond_false,az]
    have hwl:=sG i L 0;have cW:∀ l∈zh i L 0,Cds l.2:=fun l hl=>hcd _ (yQ (qC L 0 hl));have cT:∀ r∈T,Cds r:=fun r hr=>hcd _ (xu hr);have cC:∀ l∈C,Cds l.2:=fun l hl=>hcd _ (xc hl);rw[VP hpi (by omega),aa,uB i (-1) (by omega) (by omega) (by omega) (by simp) (by simp) (by simp),aa]
    simp only[List.append_nil,zh];refine fin ?_ (Dx (a0:=a0) hs hsh cW cT cC (by omega) (by omega) (by omega) 1502) (.inr ⟨σ,hm,hok,rfl⟩)
    rw[ED hsh cW cT cC (by omega) (by omega) (by omega),aa,xK,aa]
    unfold jJ;cases qy a0 (qK σ (zh i L 0)) (T.map (vn σ)) (qK σ C) with
    | true=>rfl
    | false=>rfl
theorem EX {a0:List zg} {L:List zc} {T:List jI} {C:List zc} (h:qy a0 L T C=true) {i:Int} (he:eqB L i true=true):tR a0 L T C i=uD a0 L T C i∧OkR a0 (uD a0 L T C i):=by
 obtain⟨A,s0,s1,-,-,-,-,o,o1,o2,o3⟩:=Kz h he;rw[o1,o2];refine ⟨rfl,?_⟩;rcases o3 with ⟨k,h⟩ | ⟨σ,-,-,h⟩
 ·exact qN h
 ·rw[h]; exact Q1
theorem Jd (a0:List zg) (L:List zc) (T:List jI) (C:List zc) (i:Int):tR a0 L T C i=tE a0 L T C i∧OkR a0 (tE a0 L T C i):=by
 have bad:∀{o o':Option Xc} {k:Int},o=wb k->o'=wb k->o=o'∧OkR a0 o':=fun h h'=>⟨h.trans h'.symm,qN h'⟩;unfold tE;rw[zG,aa];cases h:qy a0 L T C with
 | false=>unfold tR; rw[ya,h]; exact bad (k:=1500) rfl rfl
 | true =>
  have hL:∀ l∈L,vq a0 l.2=true:=fun l hl=>aD.1 (zz h).2.2.2.2.1 l hl;rw[az,cond_false,vX hL,aa];cases he:eqB L i true with
  | true =>
   rw[az,cond_false,zfg];exact EX h he
  | false =>
   refine bad (k:=1500) ?_ rfl;unfold tR;rw[ya,h,aa,jN,aa];cases hp:zW L i with
   | false=>rfl
   | true =>
    obtain⟨⟨n,A⟩,hg⟩:=wq hp;obtain⟨c,hc⟩:=Wp (hL _ (jA hg));rw[NZ hg hp,hc] at he;rw[hg,az,cond_false,cond_false,aa];cases n with
    | false=>rfl
    | true =>
     simp only[aa,hc,az,cond_false];have hcc:(c:Int)≠0:=fun e=>by rw[e] at he; exact absurd he (by decide)
     rw[show ((c:Int) != 0)=true by simpa using hcc]
     rfl
section
variable {a0:List zg} {L:List zc} (hL:∀ l∈L,vq a0 l.2=true) (T:List jI) (C:List zc)
include hL
end
section
variable (a0:List zg) (L:List zc) (T:List jI) (C:List zc) (a b:Int) (L':List zc) (T':List jI) (C':List zc)
def Xk (j:Int):Nat:=match gx L' j with
 | some l=>l.2.length
 | none=>0
variable {a0 L T C a b L' T' C'} (h:qy a0 L T C=true) (h':qy a0 L' T' C'=true)
include h h'
theorem zaA {i side j:Int} {at':Nat} (hi:eqB L i false=true) (hs:side=0∨side=1) (hj0:0<=j) (hj1:j<L'.length) (h1:1<=at') (h2:at'<Xk L' j):sc a0 L T C i side L' T' C' j (at':Int)=sZ a0 L T C i side L' T' C' j (at':Int):=by
 have hL:∀ l∈L,vq a0 l.2=true:=fun l hl=>aD.1 (zz h).2.2.2.2.1 l hl;obtain⟨l,hg,-⟩:=WN hj0 hj1;have h2:at'<l.2.length:=by unfold Xk at h2; rwa [hg] at h2
 unfold sc;rw[zG,h,aa,az,cond_false,zG,h',aa,az,cond_false,vX hL,aa,hi,az,cond_false,
  decide_eq_false (show ¬ j<0 by omega),decide_eq_false (show ¬ j≥((af L':Nat):Int) by omega),decide_eq_false (show ¬(at':Int)<1 by omega)]
 simp only[cond_false,hg,aa];rw[decide_eq_false (show ¬(at':Int)≥((af l.2:Nat):Int) by omega),cond_false,zfg]
 rcases hs with rfl | rfl<;>rfl
end
section
variable {a0:List zg} {L:List zc} {T:List jI} {C:List zc} {a b:Int} {L':List zc} {T':List jI} {C':List zc} (h:qy a0 L T C=true) (h':qy a0 L' T' C'=true)
 {P:u5->Prop} (hP:∀(i side j:Int) (at':Nat) (r:Xc),eqB L i false=true->(side=0∨side=1)->0<=j->j<L'.length->1<=at'->at'<Xk L' j->sc a0 L T C i side L' T' C' j (at':Int)=some r->r.2.2.1=true->r.2.2.2.1=0->qy a0 r.1 r.2.1 r.2.2.2.2=true->EM r.1 r.2.1 r.2.2.2.2->P (3,a,i,side,b,j,(at':Int),r.1,r.2.1,r.2.2.2.2))
include h h' hP
end
section
variable (a0:List zg) (L:List zc) (T:List jI) (C:List zc) (a:Int)
variable {a0 L T C a} (h:qy a0 L T C=true)
include h
end
theorem BS {m:Int} {nums:List Int} {env:Nat->Int}:(ts:List Tm)->rq m nums env ts=ts.map (uy m nums env)
 | []=>rfl
 | t::ts=>by rw[rq,BS ts]; rfl
theorem RT.val {m:Int} {nums:List Int} {env:Nat->Int} {t u a b:Tm} (h:RT t u a b) (hv:uy m nums env t=uy m nums env u):uy m nums env a=uy m nums env b:=by
 induction h with
 | here=>exact hv
 | arg c l r h ih=>simp only[uy,BS,cd,aK,ih]
theorem RR.val {m:Int} {nums:List Int} {env:Nat->Int} {t u:Tm} {ts us:List Tm} (h:RR t u ts us) (hv:uy m nums env t=uy m nums env u):rq m nums env ts=rq m nums env us:=by
 obtain⟨l,a,b,r,rfl,rfl,h⟩:=h;simp only[BS,cd,aK,h.val hv]
theorem Cx {θ:Sb} {t u:Tm} (h:Sol θ ([t].zip [u])):t.sub θ=u.sub θ:=by
 have:=(Sol.zip (ts:=[t]) (us:=[u]) rfl).1 h;simpa[qO] using this
theorem zcH {ls:List wR} {k:Nat} {x:wR}:(ls.map cl).set k (cl x)=(ls.set k x).map cl:=by rw[List.map_set]
section
variable {m:Nat} (hm:0<m) (hm3:m<=3) {nums:List Int} (hn:tN nums) {a0:List zg} (hs:SignOk a0)
include hm hm3 hn hs
theorem FE {L:List wR} {T:List (List Tm)} {C:List wR} (hmay:qy a0 (L.map cl) (T.map za) (C.map cl)=true) (hL:∀ l∈L,WfL a0 l) (hT:∀ r∈T,WfR a0 r) (hC:∀ l∈C,WfL a0 l)
  {L':List wR} {T':List (List Tm)} {C':List wR} (hmay':qy a0 (L'.map cl) (T'.map za) (C'.map cl)=true) (hL':∀ l∈L',WfL a0 l) (hT':∀ r∈T',WfR a0 r) (hC':∀ l∈C',WfL a0 l) {i side j:Int} {at':Nat} {r:Xc}
  (hi:eqB (L.map cl) i false=true) (hsd:side=0∨side=1) (hj0:0<=j) (hj1:j<(L'.map cl).length) (h1:1<=at') (h2:at'<Xk (L'.map cl) j) (hr:sc a0 (L.map cl) (T.map za) (C.map cl) i side (L'.map cl) (T'.map za) (C'.map cl) j (at':Int)=some r) (g1:r.2.2.1=true) (g2:r.2.2.2.1=0)
  (H:Holds m nums L T C) (H':Holds m nums L' T' C'):zy (m:Int) nums a0 r.1 r.2.1 r.2.2.2.2=some true:=by
 obtain⟨A,k1,k2⟩:=It hi;obtain⟨⟨n',A'⟩,k3,-⟩:=WN hj0 hj1;have h2:at'<A'.length:=by unfold Xk at h2; rwa [k3] at h2
 rw[zaA hmay hmay' hi hsd hj0 hj1 h1 (by unfold Xk; rw[k3]; exact h2)] at hr
 obtain⟨s0,s1,fr,to,rfl,ok0,ok1,hft,o,o1,-,o3⟩:=Do hmay hmay' k1 k2 k3 hsd h1 h2;rw[hr] at o1;subst o1;have no:∀{k:Int},some r=wb k->False:=fun e=>by
  injection e with e;rw[e] at g1;cases g1
 rcases o3 with ⟨_,_,_,e⟩ | ⟨v,b,c,us,-,-,hb,-,rfl,ho',⟨e,_⟩ | ⟨hnear,t,x,y,ht,e5,-,hou,hrep,⟨e,_⟩ | ⟨σ,hmgu,hok,⟨e,_⟩ | ⟨-,-,-,k,-,⟨e,_⟩ | ⟨e,-⟩⟩⟩⟩⟩
 ·exact (no e).elim
 ·exact (no e).elim
 ·exact (no e).elim
 ·exact (no e).elim
 ·exact (no e).elim
 obtain⟨ws,hrr,hws⟩:=hrep to;have okto:to.ok a0 24:=by rcases hft with ⟨-,-,rfl⟩ | ⟨-,-,rfl⟩<;>assumption
 have okws:=hrr.ok okto hou;obtain⟨hj0',lj,hlj,ej⟩:=I5 k3;obtain⟨hi0',li,hli,ei⟩:=I5 k1;have near:∀ x,Kr L' T' C' x->x+b<24:=fun x hx=>by
  have:=hnear (x:Int) (ZD.2 hx);omega
 have eset:(rN (b:Int) (L'.map cl)).set j.toNat (n',(c:Int)::(x++to.codes++y))=((L'.map (xp (upS b))).set j.toNat (n',c,ws)).map cl:=by
  rw[G4,← zcH];unfold cl;rw[hws]
 have eL:zh i (L.map cl) 0++(rN (b:Int) (L'.map cl)).set j.toNat (n',(c:Int)::(x++to.codes++y))=(zh i L 0++(L'.map (xp (upS b))).set j.toNat (n',c,ws)).map cl:=by
  rw[eset,uM,cd]
 have eT:Vb b (T.map za) (T'.map za)=(T++T'.map (qO (upS b))).map za:=by
  unfold Vb;rw[GC,cd]
 have eC:Vj b (C.map cl) (C'.map cl)=(C++C'.map (xp (upS b))).map cl:=by
  unfold Vj;rw[G4,cd]
 rw[eL,eT,eC] at e;obtain⟨r',q1,q2⟩:=jL (a0:=a0) (σ:=σ) (L:=(zh i L 0++(L'.map (xp (upS b))).set j.toNat (n',c,ws)).map cl) (T:=(T++T'.map (qO (upS b))).map za) (C:=(C++C'.map (xp (upS b))).map cl) (k:=1502) (by omega)
 rw[q1] at e;injection e with e;subst e;obtain⟨g3,g4⟩:=q2 g2;have okU:∀{ts:List Tm},okR a0 24 ts->(∀ x,jr x ts->x+b<24)->okR a0 24 (qO (upS b) ts):=fun {ts} h h2=>XS ts h h2;have oL':∀ l∈L'.map (xp (upS b)),okR a0 24 l.2.2:=fun l hl=>by
  obtain⟨k,hk,rfl⟩:=aR.1 hl;exact okU (hL' k hk).1 fun x hx=>near x (.inl ⟨k,hk,hx⟩)
 have oL:∀ l∈zh i L 0++(L'.map (xp (upS b))).set j.toNat (n',c,ws),okR a0 24 l.2.2:=fun l hl=>by
  rcases aI.1 hl with hl | hl
  ·exact (hL l (qC L 0 hl)).1
  ·rcases BL hl with hl | rfl
   ·exact oL' l hl
   ·exact okws
 have oT:∀ r∈T++T'.map (qO (upS b)),okR a0 24 r:=fun l hl=>by
  rcases aI.1 hl with hl | hl
  ·exact (hT l hl).1
  ·obtain⟨k,hk,rfl⟩:=aR.1 hl;exact okU (hT' k hk).1 fun x hx=>near x (.inr (.inl ⟨k,hk,hx⟩))
 have oC:∀ l∈C++C'.map (xp (upS b)),okR a0 24 l.2.2:=fun l hl=>by
  rcases aI.1 hl with hl | hl
  ·exact (hC l hl).1
  ·obtain⟨k,hk,rfl⟩:=aR.1 hl;exact okU (hC' k hk).1 fun x hx=>near x (.inr (.inr ⟨k,hk,hx⟩))
 obtain⟨-,f2⟩:=kz hm hm3 hn hs hok oL oT oC g3;rw[← g4] at f2;refine f2 fun E hE => ?_;have hv:∀ x,Kr L T C x->x<24:=fun x hx=>by
  rcases hx with ⟨l,hl,hx⟩ | ⟨l,hl,hx⟩ | ⟨l,hl,hx⟩
  ·exact wZ _ (hL l hl).1 hx
  ·exact wZ _ (hT l hl).1 hx
  ·exact wZ _ (hC l hl).1 hx
 have H1:=H.inst hm hn hs hok hv hE;have H2:rK (m:Int) nums (fun n=>uy (m:Int) nums (xM E) (σ n)) (L'.map (xp (upS b))) (T'.map (qO (upS b))) (C'.map (xp (upS b)))=true:=by
  rw[Wv];obtain⟨E',hE',he'⟩:=Kf hm hn hs (env:=xM E) (fun x hx=>hE.val hx) (σ:=fun x=>σ (if x+b<24 then x+b else 0)) (fun x _=>hok _ (by split<;>omega))
  rw[← H' E' hE'];refine YY fun x hx => ?_;have:=near x hx;rw[he' x (by omega),if_pos this]
  rfl
 -- the literal of the equation, if it is that which is true
 have zeu:Zw (m:Int) nums (fun n=>uy (m:Int) nums (xM E) (σ n)) li=true->uy (m:Int) nums (fun n=>uy (m:Int) nums (xM E) (σ n)) t=uy (m:Int) nums (fun n=>uy (m:Int) nums (xM E) (σ n)) to:=by
  intro hl;have hv1:uy (m:Int) nums (fun n=>uy (m:Int) nums (xM E) (σ n)) fr=uy (m:Int) nums (fun n=>uy (m:Int) nums (xM E) (σ n)) t:=by
   rw[← Yc,← Yc,Cx hmgu.sol]
  injection ei with a1 a2;injection a2 with a2 a3;have a3:=yH _ [s0,s1] li.2.2 (aC _) ⟨ok0,ok1,trivial⟩ (hL li (aJ hli)).1 a3;have a2:li.2.1=0:=by omega
  unfold Zw Wz at hl;rw[← a1,← a3,a2] at hl;have hv2:uy (m:Int) nums (fun n=>uy (m:Int) nums (xM E) (σ n)) s0=uy (m:Int) nums (fun n=>uy (m:Int) nums (xM E) (σ n)) s1:=by
   simpa[rq] using hl
  rcases hft with ⟨-,rfl,rfl⟩ | ⟨-,rfl,rfl⟩
  ·rw[← hv1,hv2]
  ·rw[← hv1,hv2]
 rcases zF.1 H1 with ⟨k,hk,hkv⟩ | ⟨lk,hk,hkv⟩ | ⟨k,hk,hkv⟩
 ·exact zF.2 (.inl ⟨k,bk _ hk,hkv⟩)
 ·obtain⟨q,hq,he⟩:=cg.1 hk;have hg:L[q]? = some lk:=by rw[al hq,he]
  by_cases hqi:(q:Int)=i
  ·have hlk:lk=li:=by
    have:q=i.toNat:=by omega
    rw[this,hli] at hg;injection hg with hg;exact hg.symm
   subst hlk;have hsw:=zeu hkv;rcases zF.1 H2 with ⟨k',hk',hkv'⟩ | ⟨l2,hk',hkv'⟩ | ⟨k',hk',hkv'⟩
   ·exact zF.2 (.inl ⟨k',bp _ hk',hkv'⟩)
   ·obtain⟨q',hq',he'⟩:=cg.1 hk';have hg':(L'.map (xp (upS b)))[q']? = some l2:=by rw[al hq',he']
    by_cases hqj:q'=j.toNat
    ·subst hqj;refine zF.2 (.inr (.inl ⟨(n',c,ws),bp _ (cg.2 ⟨j.toNat,by rw[bY]; exact hq',by rw[List.getElem_set_self]⟩),?_⟩))
     rw[bh,hlj] at hg';injection hg' with hg';have hg':xp (upS b) lj=l2:=hg';injection ej with b1 b2;injection b2 with b2 b3;have b3:=yH _ us lj.2.2 (aC _) ho' (hL' lj (aJ hlj)).1 b3;rw[← hg'] at hkv';rw[← hkv'];unfold Zw Wz xp;simp only;have hc:lj.2.1=c:=by omega
     have hval:rq (m:Int) nums (fun n=>uy (m:Int) nums (xM E) (σ n)) ws=rq (m:Int) nums (fun n=>uy (m:Int) nums (xM E) (σ n)) (qO (upS b) lj.2.2):=by
      rw[← b3,← Rx];exact (hrr.val hsw).symm
     rw[hval,hc,b1]
    ·refine zF.2 (.inr (.inl ⟨l2,bp _ (cg.2 ⟨q',by rw[bY]; exact hq',?_⟩),hkv'⟩))
     rw[List.getElem_set_ne (dD hqj)];exact he'
   ·exact zF.2 (.inr (.inr ⟨k',bp _ hk',hkv'⟩))
  ·exact zF.2 (.inr (.inl ⟨lk,bk _ ((tu _ 0).2 ⟨q,hg,by simpa using hqi⟩),hkv⟩))
 ·exact zF.2 (.inr (.inr ⟨k,bk _ hk,hkv⟩))
theorem Dz {L:List wR} {T:List (List Tm)} {C:List wR} (hmay:qy a0 (L.map cl) (T.map za) (C.map cl)=true) (hL:∀ l∈L,WfL a0 l) (hT:∀ r∈T,WfR a0 r) (hC:∀ l∈C,WfL a0 l) {i:Int} {r:Xc}
  (hi:eqB (L.map cl) i true=true) (hr:uD a0 (L.map cl) (T.map za) (C.map cl) i=some r) (g1:r.2.2.1=true) (g2:r.2.2.2.1=0) (H:Holds m nums L T C):zy (m:Int) nums a0 r.1 r.2.1 r.2.2.2.2=some true:=by
 obtain⟨A,s0,s1,k1,rfl,ok0,ok1,o,o1,-,o3⟩:=Kz hmay hi;rw[hr] at o1;subst o1;rcases o3 with ⟨k,e⟩ | ⟨σ,hmgu,hok,e⟩
 ·injection e with e;rw[e] at g1;cases g1
 ·obtain⟨hi0',li,hli,ei⟩:=I5 k1;rw[uM] at e;obtain⟨r',q1,q2⟩:=jL (a0:=a0) (σ:=σ) (L:=(zh i L 0).map cl) (T:=T.map za) (C:=C.map cl) (k:=1502) (by omega)
  rw[q1] at e;injection e with e;subst e;obtain⟨g3,g4⟩:=q2 g2;obtain⟨-,f2⟩:=kz hm hm3 hn hs hok (fun l hl=>(hL l (qC L 0 hl)).1) (fun r hr=>(hT r hr).1) (fun l hl=>(hC l hl).1) g3;rw[← g4] at f2;refine f2 fun E hE => ?_;have hv:∀ x,Kr L T C x->x<24:=fun x hx=>by
   rcases hx with ⟨l,hl,hx⟩ | ⟨l,hl,hx⟩ | ⟨l,hl,hx⟩
   ·exact wZ _ (hL l hl).1 hx
   ·exact wZ _ (hT l hl).1 hx
   ·exact wZ _ (hC l hl).1 hx
  refine GU (H.inst hm hn hs hok hv hE) fun k hk l hl hlv => ?_;exfalso;have:l=li:=by
   have:k=i.toNat:=by omega
   rw[this,hli] at hl;injection hl with hl;exact hl.symm
  subst this;injection ei with a1 a2;injection a2 with a2 a3;have a3:=yH _ [s0,s1] l.2.2 (aC _) ⟨ok0,ok1,trivial⟩ (hL l (aJ hl)).1 a3;have a2:l.2.1=0:=by omega
  have hval:uy (m:Int) nums (fun n=>uy (m:Int) nums (xM E) (σ n)) s0=uy (m:Int) nums (fun n=>uy (m:Int) nums (xM E) (σ n)) s1:=by
   rw[← Yc,← Yc,Cx hmgu.sol]
  unfold Zw Wz at hlv;rw[← a1,← a3,a2] at hlv;simp [rq,hval] at hlv
end
theorem Rise.ext:{xs ys:List Int}->Rise xs->Rise ys->(∀ x,x∈xs↔x∈ys)->xs=ys
 | [],[],_,_,_=>rfl
 | [],y::ys,_,_,h=>nomatch (h y).2 (aj ..)
 | x::xs,[],_,_,h=>nomatch (h x).1 (aj ..)
 | x::xs,y::ys,hx,hy,h=>by
  have hx:=cA.1 hx;have hy:=cA.1 hy;have e:x=y:=by
   rcases aG.1 ((h x).1 (aj ..)) with h1 | h1
   ·exact h1
   ·rcases aG.1 ((h y).2 (aj ..)) with h2 | h2
    ·exact h2.symm
    ·have:=hx.1 y h2;have:=hy.1 x h1;omega
  subst e;rw[Rise.ext hx.2 hy.2 fun z => ?_];constructor
  ·intro hz;rcases aG.1 ((h z).1 (ai _ hz)) with h1 | h1
   ·have:=hx.1 z hz; omega
   ·exact h1
  ·intro hz;rcases aG.1 ((h z).2 (ai _ hz)) with h1 | h1
   ·have:=hy.1 z hz; omega
   ·exact h1
theorem Rise.bound {n:Nat}:{xs:List Int}->{a:Int}->Rise xs->(∀ x∈xs,a<=x∧x<a+n)->xs.length<=n
 | [],_,_,_=>bN _
 | x::xs,a,h,hb=>by
  have h:=cA.1 h;have h0:=hb x (aj ..);have:xs.length<=n - 1:=Rise.bound (n:=n - 1) (a:=a+1) h.2 fun y hy=>by
   have:=h.1 y hy;have:=hb y (ai _ hy);omega
  rw[ak];omega
def Ext (sg sg':List zg):Prop:=∃ l,sg'=sg++l∧∀ e∈l,e.2.1=2∧e.2.2.2=1
theorem Ext.refl (sg:List zg):Ext sg sg:=⟨[],by simp,fun e h=>nomatch h⟩
theorem Ext.trans {a b c:List zg} (h:Ext a b) (h':Ext b c):Ext a c:=by
 obtain⟨l,rfl,hl⟩:=h;obtain⟨m,rfl,hm⟩:=h';exact ⟨l++m,by rw[aW],fun e he=>(aI.1 he).elim (hl e) (hm e)⟩
theorem Ext.get {a b:List zg} (h:Ext a b) {i:Nat} {e:zg} (he:a[i]? = some e):b[i]? = some e:=by
 obtain⟨l,rfl,-⟩:=h;rw[List.getElem?_append_left (aw.1 he).1,he]
theorem EP {a b:List zg} (h:Ext a b) {x:Int} {k:Nat} (hk:uV a x=some k):uV b x=some k:=by
 unfold uV at hk ⊢;cases hx:decide (x<0) with
 | true=>rw[hx] at hk; exact hk
 | false =>
  rw[hx] at hk;simp only[cond_false] at hk ⊢;cases he:a[x.toNat]? with
  | none=>rw[he] at hk; cases hk
  | some e=>rw[he] at hk; rw[h.get he]; exact hk
mutual
theorem zag {a b:List zg} (h:Ext a b) {N:Nat}:(t:Tm)->t.ok a N->t.ok b N
 | .v _,ht=>ht
 | .f _ as,ht=>⟨EP h ht.1,CO h as ht.2⟩
theorem CO {a b:List zg} (h:Ext a b) {N:Nat}:(ts:List Tm)->okR a N ts->okR b N ts
 | [],_=>trivial
 | t::ts,ht=>⟨zag h t ht.1,CO h ts ht.2⟩
end
def J2 (σ:Sb) (v:Nat) (t:Tm):Sb:=fun x=>if x=v then t else σ x
end Go.Abs.Q
