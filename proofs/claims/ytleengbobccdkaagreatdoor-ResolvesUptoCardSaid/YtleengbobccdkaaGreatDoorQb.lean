import Derived.Test.YtleengbobccdkaaGreatDoorQa
/-
  What the functions make of plain values, and what the law says of that.
-/
namespace Go.Abs.Q
open Go Go.Abs
def zos (rec:zQ→Option Int) (x:zQ):Option Int :=
 cond (decide (x.2.2.2<x.2.2.1))
 ((gx x.1 x.2.2.2).bind fun c2 =>
  rec (x.1,(IntKind.wrap .i64 ((IntKind.wrap .i64 (10*x.2.1))+(IntKind.wrap .i64 (IntKind.wrap .u8 (((UInt8.toNat c2:Nat):Int) - 48))))),x.2.2.1,(IntKind.wrap .i64 (x.2.2.2+1))))
 (some x.2.1)
def znD (a0:Str):Option Int :=
 ((lp zos zp) (a0,0,((List.length a0:Nat):Int),0)).bind fun r4 =>
 some r4
def z1 (a0:Str) (a1:jS) (a2:(List (Int×Str))) (a3:Bool):Option (Bool×jS×(List (Int×Str))×Bool) :=
 cond (((List.length a2:Nat):Int)==0)
 (some (false,a1,a2,a3))
 ((gx a2 0).bind fun e4 =>
  cond (e4.1 != 3)
  (some (false,a1,a2,a3))
  ((gx a2 0).bind fun e5 =>
   cond (!(e5.2==a0))
   (some (false,a1,a2,a3))
   ((zck a2 (some 1) none).bind fun y6 =>
    some (true,a1,y6,a3))))
def zfI (a0:jS) (a1:(List (Int×Str))) (a2:Bool):Option (Int×Int×Bool×jS×(List (Int×Str))×Bool) :=
 cond (decide (((List.length a1:Nat):Int)<2))
 (some (0,0,false,a0,a1,a2))
 ((gx a1 0).bind fun e9 =>
  cond (e9.1 != 0)
  (some (0,0,false,a0,a1,a2))
  ((gx a1 1).bind fun e10 =>
   cond (e10.1 != 1)
   (some (0,0,false,a0,a1,a2))
   ((gx a1 1).bind fun e11 =>
    (zck e11.2 (some 1) none).bind fun y12 =>
    (znD y12).bind fun r13 =>
    (gx a1 0).bind fun e14 =>
    cond (e14.2==([101,120]:Str))
    ((zck a1 (some 2) none).bind fun y15 =>
     some (6,r13,true,a0,y15,a2))
    (cond (e14.2==([97,108,108]:Str))
     ((zck a1 (some 2) none).bind fun y16 =>
      some (5,r13,true,a0,y16,a2))
     (some (0,0,false,a0,a1,a2))))))
def zzT (a0:jS) (a1:Str):Option (Int×Int) :=
 (zfC a0).bind fun r3 =>
 cond (!r3)
 (some (0,100))
 ((zeV a0 a1).bind fun r4 =>
  some (r4,0))
def zco (a0:jS) (a1:(List (Int×Str))) (a2:Bool):Option (Int×Bool×jS×(List (Int×Str))×Bool) :=
 cond (((List.length a1:Nat):Int)==0)
 (some (0,false,a0,a1,a2))
 ((gx a1 0).bind fun e5 =>
  cond (e5.1 != 0)
  (some (0,false,a0,a1,a2))
  ((gx a1 0).bind fun e6 =>
   (zzT a0 e6.2).bind fun r7 =>
   cond (decide (r7.1<0))
   (some (0,false,a0,a1,a2))
   ((zck a1 (some 1) none).bind fun y8 =>
    some (r7.1,true,a0,y8,a2))))
def zhx (a0:jS) (a1:(List (Int×Str))) (a2:Bool):Option (Int×Bool×jS×(List (Int×Str))×Bool) :=
 cond (((List.length a1:Nat):Int)==0)
 (some (0,false,a0,a1,a2))
 ((gx a1 0).bind fun e6 =>
  cond (e6.1 != 1)
  (some (0,false,a0,a1,a2))
  ((gx a1 0).bind fun e7 =>
   (zck e7.2 (some 1) none).bind fun y8 =>
   (znD y8).bind fun r9 =>
   (zck a1 (some 1) none).bind fun y10 =>
   some (r9,true,a0,y10,a2)))
def zfg (rf:(((jS×(List (Int×Str))×Bool)→Option (Bool×jI×jS×(List (Int×Str))×Bool))×((Int×jS×(List (Int×Str))×Bool)→Option (Bool×jI×jS×(List (Int×Str))×Bool)))) (a0:jS) (a1:(List (Int×Str))) (a2:Bool):Option (Bool×jI×jS×(List (Int×Str))×Bool) :=
 (zhx a0 a1 a2).bind fun r6 =>
 cond r6.2.1
 ((yo r6.1).bind fun r7 =>
  some (true,([r7]:List Int),r6.2.2.1,r6.2.2.2.1,r6.2.2.2.2))
 ((zco r6.2.2.1 r6.2.2.2.1 r6.2.2.2.2).bind fun r8 =>
  cond (!r8.2.1)
  (some (false,([]:jI),r8.2.2.1,r8.2.2.2.1,r8.2.2.2.2))
  ((gx r8.2.2.1 r8.1).bind fun e9 =>
   cond (e9.2.1==0)
   (some (false,([]:jI),r8.2.2.1,r8.2.2.2.1,r8.2.2.2.2))
   ((rf.2 (r8.1,r8.2.2.1,r8.2.2.2.1,r8.2.2.2.2)).bind fun r10 =>
    some (r10.1,r10.2.1,r10.2.2.1,r10.2.2.2.1,r10.2.2.2.2))))
def zd9 (rf:(((jS×(List (Int×Str))×Bool)→Option (Bool×jI×jS×(List (Int×Str))×Bool))×((Int×jS×(List (Int×Str))×Bool)→Option (Bool×jI×jS×(List (Int×Str))×Bool)))) (rec:(Int×Int×Int×jS×(List (Int×Str))×Bool×jI)→Option ((jS×(List (Int×Str))×Bool×jI)⊕(Bool×jS×(List (Int×Str))×Bool))) (x:(Int×Int×Int×jS×(List (Int×Str))×Bool×jI)):Option ((jS×(List (Int×Str))×Bool×jI)⊕(Bool×jS×(List (Int×Str))×Bool)) :=
 cond (decide (x.2.2.1<x.2.1))
 (cond (x.2.2.1==0)
  ((z1 ([40]:Str) x.2.2.2.1 x.2.2.2.2.1 x.2.2.2.2.2.1).bind fun r8 =>
   cond (!r8.1)
   (some (Sum.inr (false,r8.2.1,r8.2.2.1,r8.2.2.2)))
   ((rf.1 (r8.2.1,r8.2.2.1,r8.2.2.2)).bind fun r9 =>
    cond (!r9.1)
    (some (Sum.inr (false,r9.2.2.1,r9.2.2.2.1,r9.2.2.2.2)))
    (cond (yY (List.length x.2.2.2.2.2.2+List.length r9.2.1) 8)
     (rec (x.1,x.2.1,(IntKind.wrap .i64 (x.2.2.1+1)),r9.2.2.1,r9.2.2.2.1,r9.2.2.2.2,(x.2.2.2.2.2.2++r9.2.1)))
     (none))))
  ((z1 ([44]:Str) x.2.2.2.1 x.2.2.2.2.1 x.2.2.2.2.2.1).bind fun r10 =>
   cond (!r10.1)
   (some (Sum.inr (false,r10.2.1,r10.2.2.1,r10.2.2.2)))
   ((rf.1 (r10.2.1,r10.2.2.1,r10.2.2.2)).bind fun r11 =>
    cond (!r11.1)
    (some (Sum.inr (false,r11.2.2.1,r11.2.2.2.1,r11.2.2.2.2)))
    (cond (yY (List.length x.2.2.2.2.2.2+List.length r11.2.1) 8)
     (rec (x.1,x.2.1,(IntKind.wrap .i64 (x.2.2.1+1)),r11.2.2.1,r11.2.2.2.1,r11.2.2.2.2,(x.2.2.2.2.2.2++r11.2.1)))
     (none)))))
 (some (Sum.inl (x.2.2.2.1,x.2.2.2.2.1,x.2.2.2.2.2.1,x.2.2.2.2.2.2)))
def zet (rf:(((jS×(List (Int×Str))×Bool)→Option (Bool×jI×jS×(List (Int×Str))×Bool))×((Int×jS×(List (Int×Str))×Bool)→Option (Bool×jI×jS×(List (Int×Str))×Bool)))) (a0:Int) (a1:jS) (a2:(List (Int×Str))) (a3:Bool):Option (Bool×jI×jS×(List (Int×Str))×Bool) :=
 (gx a1 a0).bind fun e17 =>
 ((lp (zd9 rf) zp) (a0,e17.2.2.1,0,a1,a2,a3,([a0]:List Int))).bind fun r18 =>
 qL r18
 (fun z19=>(gx z19.1 a0).bind fun e20 =>
  cond (e20.2.2.1==0)
  (some (true,z19.2.2.2,z19.1,z19.2.1,z19.2.2.1))
  ((z1 ([41]:Str) z19.1 z19.2.1 z19.2.2.1).bind fun r21 =>
   some (r21.1,z19.2.2.2,r21.2.1,r21.2.2.1,r21.2.2.2)))
 (fun z22=>some (z22.1,([]:jI),z22.2.1,z22.2.2.1,z22.2.2.2))
def zdf (rf:(((jS×(List (Int×Str))×Bool)→Option (Bool×jI×jS×(List (Int×Str))×Bool))×((Int×jS×(List (Int×Str))×Bool)→Option (Bool×jI×jS×(List (Int×Str))×Bool)))):(((jS×(List (Int×Str))×Bool)→Option (Bool×jI×jS×(List (Int×Str))×Bool))×((Int×jS×(List (Int×Str))×Bool)→Option (Bool×jI×jS×(List (Int×Str))×Bool))) :=
 (fun (x:(jS×(List (Int×Str))×Bool))=>zfg rf x.1 x.2.1 x.2.2,fun (x:(Int×jS×(List (Int×Str))×Bool))=>zet rf x.1 x.2.1 x.2.2.1 x.2.2.2)
def zdi:(((jS×(List (Int×Str))×Bool)→Option (Bool×jI×jS×(List (Int×Str))×Bool))×((Int×jS×(List (Int×Str))×Bool)→Option (Bool×jI×jS×(List (Int×Str))×Bool))):=(fun _=>none,fun _=>none)
def zb7 (k:Nat):(((jS×(List (Int×Str))×Bool)→Option (Bool×jI×jS×(List (Int×Str))×Bool))×((Int×jS×(List (Int×Str))×Bool)→Option (Bool×jI×jS×(List (Int×Str))×Bool))):=lpR zdi zdf k
def za0 (a0:jS) (a1:(List (Int×Str))) (a2:Bool):Option (Bool×jI×jS×(List (Int×Str))×Bool):=(zb7 zp).1 (a0,a1,a2)
def zfl (a0:Int) (a1:jS) (a2:(List (Int×Str))) (a3:Bool):Option (Bool×jI×jS×(List (Int×Str))×Bool):=(zb7 zp).2 (a0,a1,a2,a3)
def zpf (a0:Int):Option jI :=
 cond (decide (a0<0))
 (none)
 (cond (decide ((IntKind.wrap .i64 (a0 - 0))>0))
  (cond (eqI 0 0&&eqI 0 0)
   (cond (zuF (IntKind.wrap .i64 (a0 - 0)))
    (cond (yY (Int.toNat (IntKind.wrap .i64 (a0 - 0))) 8)
     ((zck (List.replicate (Int.toNat (IntKind.wrap .i64 (a0 - 0))) (0:Int)) none (some 0)).bind fun y2 =>
      some y2)
     (none))
    (none))
   (none))
  (some ([]:jI)))
def ziW (rec:(jR×Int×Int×jI)→Option jI) (x:(jR×Int×Int×jI)):Option jI :=
 cond (decide (x.2.2.1<x.2.1))
 ((gx x.1 x.2.2.1).bind fun e7 =>
  cond (yY (List.length x.2.2.2+List.length e7) 8)
  (rec (x.1,x.2.1,(IntKind.wrap .i64 (x.2.2.1+1)),(x.2.2.2++e7)))
  (none))
 (some x.2.2.2)
def ziD (rec:(jR×Int×jR×Int×Int)→Option Int) (x:(jR×Int×jR×Int×Int)):Option Int :=
 cond (decide (x.2.2.2.2<x.2.2.2.1))
 ((gx x.2.2.1 x.2.2.2.2).bind fun e2 =>
  cond (decide ((IntKind.wrap .i64 (x.2.1+((List.length e2:Nat):Int)))<0))
  (none)
  (rec (x.1,(IntKind.wrap .i64 (x.2.1+((List.length e2:Nat):Int))),x.2.2.1,x.2.2.2.1,(IntKind.wrap .i64 (x.2.2.2.2+1)))))
 (some x.2.1)
def zgO (a0:jR):Option jI :=
 ((lp ziD zp) (a0,0,a0,((List.length a0:Nat):Int),0)).bind fun r9 =>
 (zpf r9).bind fun r10 =>
 ((lp ziW zp) (a0,((List.length a0:Nat):Int),0,r10)).bind fun r11 =>
 some r11
def zg6 (a0:jS) (a1:(List (Int×Str))) (a2:Bool):Option (Bool×jI×jS×(List (Int×Str))×Bool) :=
 (zco a0 a1 a2).bind fun r12 =>
 cond r12.2.1
 ((gx r12.2.2.1 r12.1).bind fun e13 =>
  cond (e13.2.1==0)
  ((zfl r12.1 r12.2.2.1 r12.2.2.2.1 r12.2.2.2.2).bind fun r14 =>
   cond r14.2.2.2.2
   (some (r14.1,r14.2.1,r14.2.2.1,r14.2.2.2.1,true))
   (some (r14.1,r14.2.1,r14.2.2.1,r14.2.2.2.1,(decide (((List.length r14.2.1:Nat):Int)>49)))))
  ((za0 r12.2.2.1 a1 r12.2.2.2.2).bind fun r15 =>
   cond (!r15.1)
   (some (false,([]:jI),r15.2.2.1,r15.2.2.2.1,r15.2.2.2.2))
   ((z1 ([61]:Str) r15.2.2.1 r15.2.2.2.1 r15.2.2.2.2).bind fun r16 =>
    cond (!r16.1)
    (some (false,([]:jI),r16.2.1,r16.2.2.1,r16.2.2.2))
    ((za0 r16.2.1 r16.2.2.1 r16.2.2.2).bind fun r17 =>
     (zgO ([([0]:List Int),r15.2.1,r17.2.1]:List jI)).bind fun r18 =>
     cond r17.2.2.2.2
     (some (r17.1,r18,r17.2.2.1,r17.2.2.2.1,true))
     (some (r17.1,r18,r17.2.2.1,r17.2.2.2.1,(decide (((List.length r18:Nat):Int)>49))))))))
 ((za0 r12.2.2.1 a1 r12.2.2.2.2).bind fun r19 =>
  cond (!r19.1)
  (some (false,([]:jI),r19.2.2.1,r19.2.2.2.1,r19.2.2.2.2))
  ((z1 ([61]:Str) r19.2.2.1 r19.2.2.2.1 r19.2.2.2.2).bind fun r20 =>
   cond (!r20.1)
   (some (false,([]:jI),r20.2.1,r20.2.2.1,r20.2.2.2))
   ((za0 r20.2.1 r20.2.2.1 r20.2.2.2).bind fun r21 =>
    (zgO ([([0]:List Int),r19.2.1,r21.2.1]:List jI)).bind fun r22 =>
    cond r21.2.2.2.2
    (some (r21.1,r22,r21.2.2.1,r21.2.2.2.1,true))
    (some (r21.1,r22,r21.2.2.1,r21.2.2.2.1,(decide (((List.length r22:Nat):Int)>49)))))))
def zex (rec:((List Str)×Int×Int×jS×(List (Int×Str))×Bool)→Option ((jS×(List (Int×Str))×Bool)⊕(Int×Bool×jS×(List (Int×Str))×Bool))) (x:((List Str)×Int×Int×jS×(List (Int×Str))×Bool)):Option ((jS×(List (Int×Str))×Bool)⊕(Int×Bool×jS×(List (Int×Str))×Bool)) :=
 cond (decide (x.2.2.1<x.2.1))
 ((gx x.1 x.2.2.1).bind fun e5 =>
  (z1 e5 x.2.2.2.1 x.2.2.2.2.1 x.2.2.2.2.2).bind fun r6 =>
  cond r6.1
  (some (Sum.inr ((IntKind.wrap .i64 (2+x.2.2.1)),true,r6.2.1,r6.2.2.1,r6.2.2.2)))
  (rec (x.1,x.2.1,(IntKind.wrap .i64 (x.2.2.1+1)),r6.2.1,r6.2.2.1,r6.2.2.2)))
 (some (Sum.inl (x.2.2.2.1,x.2.2.2.2.1,x.2.2.2.2.2)))
def zgb (a0:jS) (a1:(List (Int×Str))) (a2:Bool):Option (Int×Bool×jS×(List (Int×Str))×Bool) :=
 ((lp zex zp) (([([38]:Str),([124]:Str),([45,62]:Str)]:List Str),((List.length ([([38]:Str),([124]:Str),([45,62]:Str)]:List Str):Nat):Int),0,a0,a1,a2)).bind fun r10 =>
 qL r10
 (fun z11=>some (0,false,z11.1,z11.2.1,z11.2.2))
 (fun z12=>some (z12.1,z12.2.1,z12.2.2.1,z12.2.2.2.1,z12.2.2.2.2))
def zbI (rec:((jS×(List (Int×Str))×Bool×(List (Int×Int×jI))×(List (Int×Bool)))⊕(jS×(List (Int×Str))×Bool×(List (Int×Int×jI))×(List (Int×Bool))))→Option (Bool×jS×(List (Int×Str))×Bool×(List (Int×Int×jI)))) (y:((jS×(List (Int×Str))×Bool×(List (Int×Int×jI))×(List (Int×Bool)))⊕(jS×(List (Int×Str))×Bool×(List (Int×Int×jI))×(List (Int×Bool))))):Option (Bool×jS×(List (Int×Str))×Bool×(List (Int×Int×jI))) :=
 qL y
 (fun x=>(z1 ([126]:Str) x.1 x.2.1 x.2.2.1).bind fun r26 =>
  cond r26.1
  (cond (yY (List.length x.2.2.2.1+List.length ([(1,0,([]:jI))]:List (Int×Int×jI))) 40)
   (rec (Sum.inl (r26.2.1,r26.2.2.1,r26.2.2.2,(x.2.2.2.1++([(1,0,([]:jI))]:List (Int×Int×jI))),x.2.2.2.2)))
   (none))
  ((zfI r26.2.1 r26.2.2.1 r26.2.2.2).bind fun r27 =>
   cond r27.2.2.1
   (cond (yY (List.length x.2.2.2.1+List.length ([(r27.1,r27.2.1,([]:jI))]:List (Int×Int×jI))) 40)
    (rec (Sum.inl (r27.2.2.2.1,r27.2.2.2.2.1,r27.2.2.2.2.2,(x.2.2.2.1++([(r27.1,r27.2.1,([]:jI))]:List (Int×Int×jI))),x.2.2.2.2)))
    (none))
   ((z1 ([40]:Str) r27.2.2.2.1 r27.2.2.2.2.1 r27.2.2.2.2.2).bind fun r28 =>
    cond r28.1
    (cond (yY (List.length x.2.2.2.2+List.length ([(((List.length x.2.2.2.1:Nat):Int),false)]:List (Int×Bool))) 16)
     (cond (yY (List.length x.2.2.2.1+List.length ([(0,0,([]:jI))]:List (Int×Int×jI))) 40)
      (rec (Sum.inl (r28.2.1,r28.2.2.1,r28.2.2.2,(x.2.2.2.1++([(0,0,([]:jI))]:List (Int×Int×jI))),(x.2.2.2.2++([(((List.length x.2.2.2.1:Nat):Int),false)]:List (Int×Bool))))))
      (none))
     (none))
    ((zg6 r28.2.1 r28.2.2.1 r28.2.2.2).bind fun r29 =>
     cond r29.1
     (cond (yY (List.length x.2.2.2.1+List.length ([(0,0,r29.2.1)]:List (Int×Int×jI))) 40)
      (rec (Sum.inr (r29.2.2.1,r29.2.2.2.1,r29.2.2.2.2,(x.2.2.2.1++([(0,0,r29.2.1)]:List (Int×Int×jI))),x.2.2.2.2)))
      (none))
     (some (false,r29.2.2.1,r29.2.2.2.1,r29.2.2.2.2,([]:(List (Int×Int×jI)))))))))
 (fun x=>cond (((List.length x.2.2.2.2:Nat):Int)==0)
  (some (true,x.1,x.2.1,x.2.2.1,x.2.2.2.1))
  ((inR (IntKind.wrap .i64 (((List.length x.2.2.2.2:Nat):Int) - 1)) (List.length x.2.2.2.2)).bind fun k30 =>
   (zgb x.1 x.2.1 x.2.2.1).bind fun r31 =>
   cond r31.2.1
   ((x.2.2.2.2[k30]?).bind fun x32 =>
    cond (!x32.2)
    ((x.2.2.2.2[k30]?).bind fun x33 =>
     (inR x33.1 (List.length x.2.2.2.1)).bind fun k34 =>
     (x.2.2.2.1[k34]?).bind fun x35 =>
     (x.2.2.2.2[k30]?).bind fun x36 =>
     rec (Sum.inl (r31.2.2.1,r31.2.2.2.1,r31.2.2.2.2,(List.set x.2.2.2.1 k34 (r31.1,x35.2)),(List.set x.2.2.2.2 k30 (x36.1,true)))))
    (cond r31.2.1
     (some (false,r31.2.2.1,r31.2.2.2.1,r31.2.2.2.2,([]:(List (Int×Int×jI)))))
     ((x.2.2.2.2[k30]?).bind fun x37 =>
      cond (!x37.2)
      (some (false,r31.2.2.1,r31.2.2.2.1,r31.2.2.2.2,([]:(List (Int×Int×jI)))))
      ((z1 ([41]:Str) r31.2.2.1 r31.2.2.2.1 r31.2.2.2.2).bind fun r38 =>
       cond (!r38.1)
       (some (false,r38.2.1,r38.2.2.1,r38.2.2.2,([]:(List (Int×Int×jI)))))
       ((zck x.2.2.2.2 none (some (IntKind.wrap .i64 (((List.length x.2.2.2.2:Nat):Int) - 1)))).bind fun y39 =>
        rec (Sum.inr (r38.2.1,r38.2.2.1,r38.2.2.2,x.2.2.2.1,y39)))))))
   (cond r31.2.1
    (some (false,r31.2.2.1,r31.2.2.2.1,r31.2.2.2.2,([]:(List (Int×Int×jI)))))
    ((x.2.2.2.2[k30]?).bind fun x40 =>
     cond (!x40.2)
     (some (false,r31.2.2.1,r31.2.2.2.1,r31.2.2.2.2,([]:(List (Int×Int×jI)))))
     ((z1 ([41]:Str) r31.2.2.1 r31.2.2.2.1 r31.2.2.2.2).bind fun r41 =>
      cond (!r41.1)
      (some (false,r41.2.1,r41.2.2.1,r41.2.2.2,([]:(List (Int×Int×jI)))))
      ((zck x.2.2.2.2 none (some (IntKind.wrap .i64 (((List.length x.2.2.2.2:Nat):Int) - 1)))).bind fun y42 =>
       rec (Sum.inr (r41.2.1,r41.2.2.1,r41.2.2.2,x.2.2.2.1,y42))))))))
end Go.Abs.Q
namespace Go.Abs.Q
open Go Go.Abs
end Go.Abs.Q
namespace Go.Abs.Q
open Go Go.Abs
section
end
end Go.Abs.Q
namespace Go.Abs.Q
open Go Go.Abs
end Go.Abs.Q
namespace Go.Abs.Q
open Go Go.Abs
end Go.Abs.Q
namespace Go.Abs.Q
open Go Go.Abs
section
abbrev zGj:=Int×Int×List Int
inductive Fm where
 | atom (a:List Int)
 | not (f:Fm)
 | qu (k v:Int) (f:Fm)
 | bin (k:Int) (f g:Fm)
def Fm.flat:Fm→List zGj
 | .atom a=>[(0,0,a)]
 | .not f=>(1,0,[])::f.flat
 | .qu k v f=>(k,v,[])::f.flat
 | .bin k f g=>(k,0,[])::(f.flat++g.flat)
def Fm.ok (a0:List zQ):Fm→Bool
 | .atom a=>zf9 a0 a
 | .not f=>f.ok a0
 | .qu k v f=>(k==5||k==6)&&decide (0≤v)&&decide (v≤23)&&f.ok a0
 | .bin k f g=>(k==2||k==3||k==4)&&f.ok a0&&g.ok a0
def zOg (k:Int):Str:=cond (k==5) [97,108,108] [101,120]
end
end Go.Abs.Q
namespace Go.Abs.Q
open Go Go.Abs
section
end
end Go.Abs.Q
namespace Go.Abs.Q
open Go Go.Abs
section
end
end Go.Abs.Q
namespace Go.Abs.Q
open Go Go.Abs
section
end
end Go.Abs.Q
namespace Go.Abs.Q
open Go Go.Abs
section
abbrev zd7:=Int×Str
def zPn (c:UInt8):Bool:=ziK ((UInt8.toNat c:Nat):Int)
def zOM (c:UInt8):Bool:=decide (((UInt8.toNat c:Nat):Int)≥48)&&decide (((UInt8.toNat c:Nat):Int)≤57)
def zt5 (b:Bool) (c:UInt8):Bool:=zOM c||(b&&zPn c)
def zO4 (d:Str) (most:Nat):Bool:=match d with
 | []=>false
 | c::r=>decide ((c::r).length≤most)&&(c != 48||(c::r).length==1)
def zO6 (d:Str):Nat:=d.foldl (fun n c=>10*n+(c.toNat - 48)) 0
def zN0 (c:UInt8):Bool:=decide (c∈([40,41,44,61,126,38,124,58]:Str))
def zNy (s:Str):Option (zd7×Str):=match s with
 | []=>none
 | c::r =>
  cond (zPn c) (cond (decide (((c::r).takeWhile (zt5 true)).length≤8)) (some ((0,(c::r).takeWhile (zt5 true)),(c::r).drop ((c::r).takeWhile (zt5 true)).length)) none)
  (cond (c==88) (cond (zO4 (r.takeWhile (zt5 false)) 2&&decide (zO6 (r.takeWhile (zt5 false))≤23)) (some ((1,c::r.takeWhile (zt5 false)),r.drop (r.takeWhile (zt5 false)).length)) none)
  (cond (zOM c) (cond (zO4 ((c::r).takeWhile (zt5 false)) 4) (some ((2,(c::r).takeWhile (zt5 false)),(c::r).drop ((c::r).takeWhile (zt5 false)).length)) none)
  (cond ((c::r).take 2==[45,62]) (some ((3,[45,62]),r.drop 1))
  (cond (zN0 c) (some ((3,[c]),r)) none))))
def zO9:Nat→Str→Option (List zd7)
 | 0,_=>some []
 | n+1,s=>match s.dropWhile (· == 32) with
  | []=>some []
  | c::r=>match zNy (c::r) with
   | none=>none
   | some (w,rest)=>(zO9 n rest).map (w :: ·)
def zMQ (s:Str):Option (List zd7):=zO9 s.length s
end
end Go.Abs.Q
namespace Go.Abs.Q
open Go Go.Abs
section
end
end Go.Abs.Q
namespace Go.Abs.Q
open Go Go.Abs
section
end
end Go.Abs.Q
namespace Go.Abs.Q
open Go Go.Abs
section
def Stop (c:Str):Prop:=c.takeWhile (zt5 true)=[]
theorem zAa {x:UInt8} {c:Str} (h:zt5 true x=false):Stop (x::c):=by unfold Stop; rw[List.takeWhile_cons,h]; rfl
def Lx (t:Str) (ws:List zd7):Prop:=∀ c,Stop c→zMQ (t++c)=(zMQ c).map (ws ++ ·)
theorem zti {ws vs:List zd7} (o:Option (List zd7)):(o.map (vs ++ ·)).map (ws ++ ·)=o.map ((ws++vs) ++ ·):=by
 cases o with
 | none=>rfl
 | some x=>simp
def LxM (t:Str) (ws:List zd7):Prop:=∀ c,zMQ (t++c)=(zMQ c).map (ws ++ ·)
theorem LxM.then {s t:Str} {ws vs:List zd7} (hs:LxM s ws) (ht:Lx t vs):Lx (s++t) (ws++vs):=by
 intro c hc
 rw[List.append_assoc,hs,ht c hc,zti]
theorem Lx.then {s t:Str} {ws vs:List zd7} {x:UInt8} (hs:Lx s ws) (ht:LxM (x::t) vs) (hx:zt5 true x=false):LxM (s++x::t) (ws++vs):=by
 intro c
 rw[List.append_assoc,hs (x::t++c) (zAa hx),ht,zti]
def zJo (a0:List zQ) (f:List Int→List zd7):List Int→List zd7
 | []=>[]
 | x::r=>cond (decide (x<0)) [(1,88::zO7 (-1 - x).toNat)] (cond r.isEmpty [(0,ztd a0 x)] ((([(0,ztd a0 x)]++[(3,[40])])++f r)++[(3,[41])]))
def zLw:List (List zd7)→List zd7
 | []=>[]
 | w::ws=>[(3,[44])]++(w++zLw ws)
def zMU:List (List zd7)→List zd7
 | []=>[]
 | w::ws=>w++zLw ws
def zEj (a0:List zQ):Nat→List Int→List zd7
 | 0,_=>[]
 | n+1,xs=>zMU (((zjK a0 xs).getD []).map (zJo a0 (zEj a0 n)))
def zrH (a0:List zQ) (xs:List Int):List zd7:=zEj a0 (xs.length+1) xs
def zOh (a0:List zQ):List Int→List zd7
 | []=>[]
 | x::r=>cond (x==0) (match (zjK a0 r).getD [] with
  | [p,q]=>(zrH a0 p++[(3,[61])])++zrH a0 q
  | _=>[]) (cond r.isEmpty [(0,ztd a0 x)] ((([(0,ztd a0 x)]++[(3,[40])])++zrH a0 r)++[(3,[41])]))
def zMZ (k:Int):Str:=cond (k==2) [38] (cond (k==3) [124] [45,62])
def Fm.words (a0:List zQ):Fm→List zd7
 | .atom a=>zOh a0 a
 | .not f=>[(3,[126])]++f.words a0
 | .qu k v f=>([(0,zOg k)]++[(1,88::zO7 v.toNat)])++f.words a0
 | .bin k f g=>((([(3,[40])]++f.words a0)++[(3,zMZ k)])++g.words a0)++[(3,[41])]
end
end Go.Abs.Q
namespace Go.Abs.Q
open Go Go.Abs
section
abbrev QWs:=List zd7
def WOk (ws:QWs):Prop:=∀ w∈ws,w.1=1→∃ d,w.2=88::d∧(∀ c∈d,zOM c=true)∧d.length≤2∧zO6 d≤23
theorem WOk.tail {w:zd7} {ws:QWs} (h:WOk (w::ws)):WOk ws:=fun x hx=>h x (List.mem_cons_of_mem _ hx)
def Suf (ws' ws:QWs):Prop:=∃ pre,ws=pre++ws'
theorem Suf.refl (ws:QWs):Suf ws ws:=⟨[],rfl⟩
theorem Suf.trans {a b c:QWs} (h:Suf a b) (h':Suf b c):Suf a c:=by
 obtain⟨p,rfl⟩:=h
 obtain⟨q,rfl⟩:=h'
 exact ⟨q++p,by simp⟩
theorem Suf.cons {w:zd7} {a b:QWs} (h:Suf a b):Suf a (w::b):=by
 obtain⟨p,rfl⟩:=h
 exact ⟨w::p,rfl⟩
theorem Suf.len {a b:QWs} (h:Suf a b):a.length≤b.length:=by
 obtain⟨p,rfl⟩:=h
 simp
end
end Go.Abs.Q
namespace Go.Abs.Q
open Go Go.Abs
section
abbrev RdR:=Bool×List Int×List zQ×QWs×Bool
def TR (a0:List zQ) (l:Bool) (o:Option (List Int×QWs)) (r:RdR):Prop:=match o with
 | some p=>r=(true,p.1,a0,p.2,l)
 | none=>r.1=false∧r.2.2.1=a0∧r.2.2.2.2=l∧r.2.1.length≤1000000
theorem TR.some {a0:List zQ} {l:Bool} {t:List Int} {ws:QWs}:TR a0 l (Option.some (t,ws)) (true,t,a0,ws,l):=rfl
end
end Go.Abs.Q
namespace Go.Abs.Q
open Go Go.Abs
section
end
end Go.Abs.Q
namespace Go.Abs.Q
open Go Go.Abs
section
end
end Go.Abs.Q
namespace Go.Abs.Q
open Go Go.Abs
section
abbrev FmS:=(List zQ×QWs×Bool×List zGj×List (Int×Bool))⊕(List zQ×QWs×Bool×List zGj×List (Int×Bool))
def Goes (c:Nat) (s s':FmS):Prop:=∀ k,lp zbI (k+c) s=lp zbI k s'
theorem Goes.trans {c d:Nat} {s s' s'':FmS} (h:Goes c s s') (h':Goes d s' s''):Goes (d+c) s s'':=fun k=>by
 rw[← Nat.add_assoc,h (k+d),h' k]
end
end Go.Abs.Q
namespace Go.Abs.Q
open Go Go.Abs
section
end
end Go.Abs.Q
namespace Go.Abs.Q
open Go Go.Abs
section
end
end Go.Abs.Q
namespace Go.Abs.Q
open Go Go.Abs
section
end
end Go.Abs.Q
namespace Go.Abs.Q
open Go Go.Abs
section
end
end Go.Abs.Q
namespace Go.Abs.Q
open Go Go.Abs
section
theorem zE1 {a0:List zQ}:{xs:List Int}→{n m:Nat}→{ys:List Int}→sk a0 n xs=some xs.length→sk a0 m ys=some ys.length→sk a0 (n+m) (xs++ys)=some (xs++ys).length
 | [],0,m,ys,_,h=>by rw[Nat.zero_add]; exact h
 | [],n+1,m,ys,h,_=>by simp [sk] at h
 | x::xs,0,m,ys,h,_=>by simp [sk] at h
 | x::xs,n+1,m,ys,h,h'=>by
  unfold sk at h
  cases ha:zcp a0 x with
  | none=>rw[ha] at h; cases h
  | some k =>
   rw[ha] at h
   simp only[Option.map_eq_some_iff,List.length_cons] at h
   obtain⟨j,hj,hjl⟩:=h
   have hj2:j=xs.length:=by omega
   subst hj2
   have ih:=zE1 hj h'
   rw[show n+1+m=(n+m)+1 from by omega,List.cons_append]
   unfold sk
   rw[ha]
   simp only
   rw[show n+m+k=n+k+m from by omega,ih]
   rfl
end
end Go.Abs.Q
namespace Go.Abs.Q
open Go Go.Abs
section
theorem zAD {a0:List zQ} {x:Int} {q:Nat} (h:zcp a0 x=some q):x<0∨x<a0.length:=by
 by_cases hx:x<0
 ·exact .inl hx
 ·obtain⟨e,-,he,-⟩:=zpQ h hx
  have:=(List.getElem?_eq_some_iff.1 he).1
  exact .inr (by omega)
theorem zli {a0:List zQ}:{xs:List Int}→{n k:Nat}→sk a0 n xs=some k→∀ c∈xs.take k,c<0∨c<a0.length
 | [],n,k,h,c,hc=>by simp at hc
 | x::xs,0,k,h,c,hc=>by
  simp [sk] at h; subst h; simp at hc
 | x::xs,n+1,k,h,c,hc=>by
  unfold sk at h
  cases ha:zcp a0 x with
  | none=>rw[ha] at h; cases h
  | some m =>
   rw[ha] at h
   simp only[Option.map_eq_some_iff] at h
   obtain⟨j,hj,rfl⟩:=h
   rw[List.take_succ_cons] at hc
   rcases List.mem_cons.1 hc with rfl | hc
   ·exact zAD ha
   ·exact zli hj c hc
theorem zqP {a0:List zQ} (hs:SignOk a0) {xs:List Int} {ps:List jI} (h:zjK a0 xs=some ps):∀ c∈xs,-24≤c∧c<20:=by
 obtain⟨h1,h2⟩:=zgS xs.length xs ps (Nat.le_refl _) h
 have hl:=hs.len
 intro c hc
 refine ⟨zjL h c hc,?_⟩
 rw[← h1] at hc
 obtain⟨p,hp,hcp⟩:=List.mem_flatten.1 hc
 have:=zli (h2 p hp).2 c
 rw[List.take_length] at this
 rcases this hcp with h | h<;>omega
theorem zuf {a0:List zQ} (hs:SignOk a0) {xs:List Int} (h:zf9 a0 xs=true):zcB xs:=by
 obtain⟨x,r,e,ps,rfl,h0,he,-,-,-,hl,hc,-⟩:=zhj h
 have:=(List.getElem?_eq_some_iff.1 he).1
 have hl2:=hs.len
 refine ⟨by simp; omega,fun c hcm => ?_⟩
 rcases List.mem_cons.1 hcm with rfl | hcm
 ·omega
 ·have:=zqP hs hc c hcm; omega
theorem zdI {a0:List zQ} (hs:SignOk a0) {ls:List zt} (h:zeD a0 ls=true):∀ l∈ls,zcB l.2:=fun l hl=>zuf hs (List.all_eq_true.1 h l hl)
theorem zjB {a0:List zQ} (hs:SignOk a0) {rs:List jI} (h:zih a0 rs=true):∀ r∈rs,zcB r:=fun r hr=>by
 obtain⟨n,hn⟩:=zqV h
 obtain⟨ps,hc,-,hl,-⟩:=zpF (hn r hr)
 exact ⟨by omega,fun c hcm=>by have:=zqP hs hc c hcm; omega⟩
end
end Go.Abs.Q
namespace Go.Abs.Q
open Go Go.Abs
def zd4:Option jS :=
 some ([(([61]:Str),0,2,1),(([97]:Str),1,0,1),(([98]:Str),1,0,2),(([102]:Str),1,1,1),(([103]:Str),1,2,3),(([112]:Str),0,1,1),(([114]:Str),0,2,2)]:List zQ)
def zcl (a0:jQ) (a1:jR) (a2:jQ) (a3:Int):Option Bool :=
 cond (decide (a3≥0))
 (some (decide (a3<((List.length a0:Nat):Int))))
 (some false)
def ziI (a0:Int):Option Bool :=
 some (a0 != a0)
def zk3 (a0:Int) (a1:Int):Option Bool :=
 (ziI a0).bind fun r3 =>
 cond r3
 ((ziI a1).bind fun r4 =>
  cond (!r4)
  (some true)
  (some (decide (a0<a1))))
 (some (decide (a0<a1)))
def zc6 (a0:Int):Option Bool :=
 some (a0 != a0)
def yq (rec:(jI×Int×Int×Int×Int)→Option Int) (x:(jI×Int×Int×Int×Int)):Option Int :=
 cond (decide (x.2.2.2.1<x.2.2.2.2))
 ((gx x.1 (IntKind.wrap .i64 (Int.fdiv (IntKind.wrap .u64 (IntKind.wrap .i64 (x.2.2.2.1+x.2.2.2.2))) (2 ^ min (Int.toNat 1) (IntKind.bits .u64))))).bind fun e3 =>
  (zk3 e3 x.2.1).bind fun r4 =>
  cond r4
  (rec (x.1,x.2.1,x.2.2.1,(IntKind.wrap .i64 ((IntKind.wrap .i64 (Int.fdiv (IntKind.wrap .u64 (IntKind.wrap .i64 (x.2.2.2.1+x.2.2.2.2))) (2 ^ min (Int.toNat 1) (IntKind.bits .u64))))+1)),x.2.2.2.2))
  (rec (x.1,x.2.1,x.2.2.1,x.2.2.2.1,(IntKind.wrap .i64 (Int.fdiv (IntKind.wrap .u64 (IntKind.wrap .i64 (x.2.2.2.1+x.2.2.2.2))) (2 ^ min (Int.toNat 1) (IntKind.bits .u64)))))))
 (some x.2.2.2.1)
def zaG (a0:jI) (a1:Int):Option (Int×Bool) :=
 ((lp yq zp) (a0,a1,((List.length a0:Nat):Int),0,((List.length a0:Nat):Int))).bind fun r10 =>
 cond (decide (r10<((List.length a0:Nat):Int)))
 ((gx a0 r10).bind fun e11 =>
  cond (e11==a1)
  (some (r10,true))
  ((gx a0 r10).bind fun e12 =>
   (zc6 e12).bind fun r13 =>
   cond r13
   ((zc6 a1).bind fun r14 =>
    some (r10,r14))
   (some (r10,false))))
 (some (r10,false))
def zdF (a0:Int) (a1:jI) (a2:jI):Option jI:=zLe a0 a1 a2
def qV (rec:(jI×Int×Int×jI)→Option jI) (x:(jI×Int×Int×jI)):Option jI :=
 cond (decide (x.2.2.1<x.2.1))
 ((gx x.1 x.2.2.1).bind fun e11 =>
  cond (decide (e11≥0))
  (rec (x.1,x.2.1,(IntKind.wrap .i64 (x.2.2.1+1)),x.2.2.2))
  ((yo e11).bind fun r12 =>
   (zaG x.2.2.2 r12).bind fun r13 =>
   cond (!r13.2)
   ((yo e11).bind fun r14 =>
    (zdF r13.1 x.2.2.2 ([r14]:List Int)).bind fun r15 =>
    rec (x.1,x.2.1,(IntKind.wrap .i64 (x.2.2.1+1)),r15))
   (rec (x.1,x.2.1,(IntKind.wrap .i64 (x.2.2.1+1)),x.2.2.2))))
 (some x.2.2.2)
def zb9 (a0:jI) (a1:jI):Option jI :=
 ((lp qV zp) (a0,((List.length a0:Nat):Int),0,a1)).bind fun r17 =>
 some r17
def q4 (rec:(jR×Int×Int×jI)→Option jI) (x:(jR×Int×Int×jI)):Option jI :=
 cond (decide (x.2.2.1<x.2.1))
 ((gx x.1 x.2.2.1).bind fun e12 =>
  (zb9 e12 x.2.2.2).bind fun r13 =>
  rec (x.1,x.2.1,(IntKind.wrap .i64 (x.2.2.1+1)),r13))
 (some x.2.2.2)
def qW (rec:(jQ×Int×Int×jQ×jR×jQ×jI)→Option jI) (x:(jQ×Int×Int×jQ×jR×jQ×jI)):Option jI :=
 cond (decide (x.2.2.1<x.2.1))
 ((gx x.1 x.2.2.1).bind fun e7 =>
  (zb9 e7.2 x.2.2.2.2.2.2).bind fun r8 =>
  rec (x.1,x.2.1,(IntKind.wrap .i64 (x.2.2.1+1)),x.2.2.2.1,x.2.2.2.2.1,x.2.2.2.2.2.1,r8))
 (some x.2.2.2.2.2.2)
def zce (a0:jS) (a1:jQ) (a2:jR) (a3:jQ):Option (Int×jI) :=
 (zbz a0 a1 a2 a3).bind fun r15 =>
 cond (!r15)
 (some (800,([]:jI)))
 ((zbR ([a1,a3]:List jQ)).bind fun r16 =>
  ((lp qW zp) (r16,((List.length r16:Nat):Int),0,a1,a2,a3,([]:jI))).bind fun r17 =>
  ((lp q4 zp) (a2,((List.length a2:Nat):Int),0,r17)).bind fun r18 =>
  some (0,r18))
def yQ (rec:(Int×Int×Int×jI)→Option jI) (x:(Int×Int×Int×jI)):Option jI :=
 cond (decide (x.2.1<x.1))
 ((inR x.2.1 (List.length x.2.2.2)).bind fun k6 =>
  (x.2.2.2[k6]?).bind fun x7 =>
  cond (decide (x7<0))
  ((inR x.2.1 (List.length x.2.2.2)).bind fun k8 =>
   (x.2.2.2[k8]?).bind fun x9 =>
   rec (x.1,(IntKind.wrap .i64 (x.2.1+1)),x.2.2.1,(List.set x.2.2.2 k8 (IntKind.wrap .i64 (x7 - x.2.2.1)))))
  (rec (x.1,(IntKind.wrap .i64 (x.2.1+1)),x.2.2.1,x.2.2.2)))
 (some x.2.2.2)
def qy (a0:jI) (a1:Int):Option jI :=
 (zb2 a0).bind fun r11 =>
 ((lp yQ zp) (((List.length r11:Nat):Int),0,a1,r11)).bind fun r12 =>
 some r12
def qe (rec:(jQ×Int×Int×Int×jQ×jR×jQ)→Option (jQ×jR×jQ)) (x:(jQ×Int×Int×Int×jQ×jR×jQ)):Option (jQ×jR×jQ) :=
 cond (decide (x.2.2.1<x.2.1))
 ((gx x.1 x.2.2.1).bind fun e19 =>
  (qy e19.2 x.2.2.2.1).bind fun r20 =>
  cond (yY (List.length x.2.2.2.2.2.2+List.length ([(e19.1,r20)]:List zt)) 32)
  (rec (x.1,x.2.1,(IntKind.wrap .i64 (x.2.2.1+1)),x.2.2.2.1,x.2.2.2.2.1,x.2.2.2.2.2.1,(x.2.2.2.2.2.2++([(e19.1,r20)]:List zt))))
  (none))
 (some (x.2.2.2.2.1,x.2.2.2.2.2.1,x.2.2.2.2.2.2))
def yX (rec:(jR×Int×Int×Int×jQ×jR×jQ×jQ×jR)→Option (jQ×jR)) (x:(jR×Int×Int×Int×jQ×jR×jQ×jQ×jR)):Option (jQ×jR) :=
 cond (decide (x.2.2.1<x.2.1))
 ((gx x.1 x.2.2.1).bind fun e12 =>
  (qy e12 x.2.2.2.1).bind fun r13 =>
  cond (yY (List.length x.2.2.2.2.2.2.2.2+List.length ([r13]:List jI)) 24)
  (rec (x.1,x.2.1,(IntKind.wrap .i64 (x.2.2.1+1)),x.2.2.2.1,x.2.2.2.2.1,x.2.2.2.2.2.1,x.2.2.2.2.2.2.1,x.2.2.2.2.2.2.2.1,(x.2.2.2.2.2.2.2.2++([r13]:List jI))))
  (none))
 (some (x.2.2.2.2.2.2.2.1,x.2.2.2.2.2.2.2.2))
def qa (rec:(jQ×Int×Int×Int×jQ×jR×jQ×jQ)→Option jQ) (x:(jQ×Int×Int×Int×jQ×jR×jQ×jQ)):Option jQ :=
 cond (decide (x.2.2.1<x.2.1))
 ((gx x.1 x.2.2.1).bind fun e5 =>
  (qy e5.2 x.2.2.2.1).bind fun r6 =>
  cond (yY (List.length x.2.2.2.2.2.2.2+List.length ([(e5.1,r6)]:List zt)) 32)
  (rec (x.1,x.2.1,(IntKind.wrap .i64 (x.2.2.1+1)),x.2.2.2.1,x.2.2.2.2.1,x.2.2.2.2.2.1,x.2.2.2.2.2.2.1,(x.2.2.2.2.2.2.2++([(e5.1,r6)]:List zt))))
  (none))
 (some x.2.2.2.2.2.2.2)
def zfn (a0:jQ) (a1:jR) (a2:jQ) (a3:Int):Option (jQ×jR×jQ) :=
 ((lp qa zp) (a0,((List.length a0:Nat):Int),0,a3,a0,a1,a2,([]:jQ))).bind fun r22 =>
 ((lp yX zp) (a1,((List.length a1:Nat):Int),0,a3,a0,a1,a2,r22,([]:jR))).bind fun r23 =>
 ((lp qe zp) (a2,((List.length a2:Nat):Int),0,a3,r23.1,r23.2,([]:jQ))).bind fun r24 =>
 some (r24.1,r24.2.1,r24.2.2)
def zax (a0:jQ) (a1:jR) (a2:jQ) (a3:Int):Option (jQ×jR×jQ) :=
 (zfn a0 a1 a2 a3).bind fun r2 =>
 some (r2.1,r2.2.1,r2.2.2)
def zcA (a0:jS) (a1:jQ) (a2:jR) (a3:jQ) (a4:jQ) (a5:jR) (a6:jQ):Option (jQ×jR×Bool×jQ) :=
 (zce a0 a1 a2 a3).bind fun r14 =>
 cond (decide (((List.length r14.2:Nat):Int)>0))
 ((inR (IntKind.wrap .i64 (((List.length r14.2:Nat):Int) - 1)) (List.length r14.2)).bind fun k15 =>
  (r14.2[k15]?).bind fun x16 =>
  (zce a0 a4 a5 a6).bind fun r17 =>
  cond (decide (((List.length r17.2:Nat):Int)>0))
  ((inR (IntKind.wrap .i64 (((List.length r17.2:Nat):Int) - 1)) (List.length r17.2)).bind fun k18 =>
   (r17.2[k18]?).bind fun x19 =>
   cond (decide ((IntKind.wrap .i64 (x19+(IntKind.wrap .i64 (x16+1))))>23))
   (some (([]:jQ),([]:jR),false,([]:jQ)))
   ((zax a4 a5 a6 (IntKind.wrap .i64 (x16+1))).bind fun r20 =>
    some (r20.1,r20.2.1,true,r20.2.2)))
  ((zax a4 a5 a6 (IntKind.wrap .i64 (x16+1))).bind fun r21 =>
   some (r21.1,r21.2.1,true,r21.2.2)))
 ((zce a0 a4 a5 a6).bind fun r22 =>
  cond (decide (((List.length r22.2:Nat):Int)>0))
  ((inR (IntKind.wrap .i64 (((List.length r22.2:Nat):Int) - 1)) (List.length r22.2)).bind fun k23 =>
   (r22.2[k23]?).bind fun x24 =>
   cond (decide ((IntKind.wrap .i64 (x24+0))>23))
   (some (([]:jQ),([]:jR),false,([]:jQ)))
   ((zax a4 a5 a6 0).bind fun r25 =>
    some (r25.1,r25.2.1,true,r25.2.2)))
  ((zax a4 a5 a6 0).bind fun r26 =>
   some (r26.1,r26.2.1,true,r26.2.2)))
def za7 (a0:jS) (a1:jQ) (a2:jR) (a3:jQ) (a4:Int) (a5:jQ) (a6:jR) (a7:jQ) (a8:Int):Option (jQ×jR×Bool×Int×jQ) :=
 (gx a1 a4).bind fun e16 =>
 (gx a5 a8).bind fun e17 =>
 cond (e16.1==e17.1)
 (some (([]:jQ),([]:jR),false,0,([]:jQ)))
 ((gx a1 a4).bind fun e18 =>
  (gx e18.2 0).bind fun e19 =>
  (gx a5 a8).bind fun e20 =>
  (gx e20.2 0).bind fun e21 =>
  cond (e19 != e21)
  (some (([]:jQ),([]:jR),false,0,([]:jQ)))
  ((zcA a0 a1 a2 a3 a5 a6 a7).bind fun r22 =>
   cond (!r22.2.2.1)
   (some (([]:jQ),([]:jR),false,1301,([]:jQ)))
   ((gx a1 a4).bind fun e23 =>
    (zck e23.2 (some 1) none).bind fun y24 =>
    (gx r22.1 a8).bind fun e25 =>
    (zck e25.2 (some 1) none).bind fun y26 =>
    (zd0 a0 y24 y26).bind fun r27 =>
    cond (r27.2.1 != 0)
    (some (([]:jQ),([]:jR),false,1302,([]:jQ)))
    (cond (!r27.1)
     (some (([]:jQ),([]:jR),false,0,([]:jQ)))
     ((zem a1 a2 a3 a4 r22.1 r22.2.1 r22.2.2.2 a8).bind fun r28 =>
      (zgj r27.2.2 r28.2.1 r28.1 r28.2.2).bind fun r29 =>
      (zdz a0 r29.1 r29.2.1 r29.2.2).bind fun r30 =>
      cond (r30.2.2.1 != 0)
      (some (([]:jQ),([]:jR),false,1302,([]:jQ)))
      (some (r30.1,r30.2.1,true,0,r30.2.2.2)))))))
def zbs (a0:jS) (a1:jQ) (a2:jR) (a3:jQ) (a4:Int) (a5:jQ) (a6:jR) (a7:jQ) (a8:Int):Option (jQ×jR×Bool×Int×jQ) :=
 (zbz a0 a1 a2 a3).bind fun r6 =>
 cond (!r6)
 (some (([]:jQ),([]:jR),false,1300,([]:jQ)))
 ((zbz a0 a5 a6 a7).bind fun r7 =>
  cond (!r7)
  (some (([]:jQ),([]:jR),false,1300,([]:jQ)))
  ((zcl a1 a2 a3 a4).bind fun r8 =>
   cond (!r8)
   (some (([]:jQ),([]:jR),false,1300,([]:jQ)))
   ((zcl a5 a6 a7 a8).bind fun r9 =>
    cond (!r9)
    (some (([]:jQ),([]:jR),false,1300,([]:jQ)))
    ((za7 a0 a1 a2 a3 a4 a5 a6 a7 a8).bind fun r10 =>
     some (r10.1,r10.2.1,r10.2.2.1,r10.2.2.2.1,r10.2.2.2.2)))))
def zeE (rec:(jS×Int×Int×jI×Int×jI×Int×Int×jI×Int×Int×jQ×jR×jQ×jQ×jR×jQ×jS×Int×jT)→Option (jS×Int×jT)) (x:(jS×Int×Int×jI×Int×jI×Int×Int×jI×Int×Int×jQ×jR×jQ×jQ×jR×jQ×jS×Int×jT)):Option (jS×Int×jT) :=
 cond (decide (x.2.2.2.2.2.2.2.2.2.2.1<x.2.2.2.2.2.2.2.2.2.1))
 ((gx x.2.2.2.2.2.2.2.2.1 x.2.2.2.2.2.2.2.2.2.2.1).bind fun e12 =>
  (za7 x.1 x.2.2.2.2.2.2.2.2.2.2.2.1 x.2.2.2.2.2.2.2.2.2.2.2.2.1 x.2.2.2.2.2.2.2.2.2.2.2.2.2.1 x.2.2.2.2.1 x.2.2.2.2.2.2.2.2.2.2.2.2.2.2.1 x.2.2.2.2.2.2.2.2.2.2.2.2.2.2.2.1 x.2.2.2.2.2.2.2.2.2.2.2.2.2.2.2.2.1 e12).bind fun r13 =>
  (zep 1 x.2.1 x.2.2.2.2.1 0 x.2.2.1 e12 0 ([]:jQ) ([]:jR) ([]:jQ) r13.1 r13.2.1 r13.2.2.2.2 r13.2.2.1 r13.2.2.2.1 x.2.2.2.2.2.2.2.2.2.2.2.2.2.2.2.2.2.1 x.2.2.2.2.2.2.2.2.2.2.2.2.2.2.2.2.2.2.1 x.2.2.2.2.2.2.2.2.2.2.2.2.2.2.2.2.2.2.2).bind fun r14 =>
  rec (x.1,x.2.1,x.2.2.1,x.2.2.2.1,x.2.2.2.2.1,x.2.2.2.2.2.1,x.2.2.2.2.2.2.1,x.2.2.2.2.2.2.2.1,x.2.2.2.2.2.2.2.2.1,x.2.2.2.2.2.2.2.2.2.1,(IntKind.wrap .i64 (x.2.2.2.2.2.2.2.2.2.2.1+1)),x.2.2.2.2.2.2.2.2.2.2.2.1,x.2.2.2.2.2.2.2.2.2.2.2.2.1,x.2.2.2.2.2.2.2.2.2.2.2.2.2.1,x.2.2.2.2.2.2.2.2.2.2.2.2.2.2.1,x.2.2.2.2.2.2.2.2.2.2.2.2.2.2.2.1,x.2.2.2.2.2.2.2.2.2.2.2.2.2.2.2.2.1,r14.1,r14.2.1,r14.2.2))
 (some (x.2.2.2.2.2.2.2.2.2.2.2.2.2.2.2.2.2.1,x.2.2.2.2.2.2.2.2.2.2.2.2.2.2.2.2.2.2.1,x.2.2.2.2.2.2.2.2.2.2.2.2.2.2.2.2.2.2.2))
def zeH (rec:(jS×Int×Int×jI×jI×Int×Int×jQ×jR×jQ×jQ×jR×jQ×jS×Int×jT)→Option (jS×Int×jT)) (x:(jS×Int×Int×jI×jI×Int×Int×jQ×jR×jQ×jQ×jR×jQ×jS×Int×jT)):Option (jS×Int×jT) :=
 cond (decide (x.2.2.2.2.2.2.1<x.2.2.2.2.2.1))
 ((gx x.2.2.2.2.1 x.2.2.2.2.2.2.1).bind fun e18 =>
  ((lp zeE zp) (x.1,x.2.1,x.2.2.1,x.2.2.2.1,e18,x.2.2.2.2.1,x.2.2.2.2.2.1,x.2.2.2.2.2.2.1,x.2.2.2.1,((List.length x.2.2.2.1:Nat):Int),0,x.2.2.2.2.2.2.2.1,x.2.2.2.2.2.2.2.2.1,x.2.2.2.2.2.2.2.2.2.1,x.2.2.2.2.2.2.2.2.2.2.1,x.2.2.2.2.2.2.2.2.2.2.2.1,x.2.2.2.2.2.2.2.2.2.2.2.2.1,x.2.2.2.2.2.2.2.2.2.2.2.2.2.1,x.2.2.2.2.2.2.2.2.2.2.2.2.2.2.1,x.2.2.2.2.2.2.2.2.2.2.2.2.2.2.2)).bind fun r19 =>
  rec (x.1,x.2.1,x.2.2.1,x.2.2.2.1,x.2.2.2.2.1,x.2.2.2.2.2.1,(IntKind.wrap .i64 (x.2.2.2.2.2.2.1+1)),x.2.2.2.2.2.2.2.1,x.2.2.2.2.2.2.2.2.1,x.2.2.2.2.2.2.2.2.2.1,x.2.2.2.2.2.2.2.2.2.2.1,x.2.2.2.2.2.2.2.2.2.2.2.1,x.2.2.2.2.2.2.2.2.2.2.2.2.1,r19.1,r19.2.1,r19.2.2))
 (some (x.2.2.2.2.2.2.2.2.2.2.2.2.2.1,x.2.2.2.2.2.2.2.2.2.2.2.2.2.2.1,x.2.2.2.2.2.2.2.2.2.2.2.2.2.2.2))
def zlJ (a0:jS) (a1:jQ) (a2:jR) (a3:jQ) (a4:Int) (a5:jQ) (a6:jR) (a7:jQ) (a8:Int):Option (Int×Int×jT) :=
 (zbz a0 a1 a2 a3).bind fun r21 =>
 cond (!r21)
 (some (0,1300,([]:jT)))
 ((zbz a0 a5 a6 a7).bind fun r22 =>
  cond (!r22)
  (some (0,1300,([]:jT)))
  ((znW a0 a1).bind fun r23 =>
   (znW a0 a5).bind fun r24 =>
   ((lp zeH zp) (a0,a4,a8,r24.2,r23.2,((List.length r23.2:Nat):Int),0,a1,a2,a3,a5,a6,a7,a0,0,([]:jT))).bind fun r25 =>
   some (r25.2.1,0,r25.2.2)))
def zim:Option Bool :=
 (zd4).bind fun r15 =>
 (zbs r15 ([(true,([5,(-1)]:List Int)),(false,([6,(-1),(-2)]:List Int))]:List zt) ([]:jR) ([]:jQ) 0 ([(false,([5,3,(-1)]:List Int))]:List zt) ([([(-1)]:List Int)]:List jI) ([]:jQ) 0).bind fun r16 =>
 (zd4).bind fun r17 =>
 (zbs r17 ([(true,([5,(-1)]:List Int)),(false,([6,(-1),(-2)]:List Int))]:List zt) ([]:jR) ([]:jQ) 1 ([(false,([5,3,(-1)]:List Int))]:List zt) ([([(-1)]:List Int)]:List jI) ([]:jQ) 0).bind fun r18 =>
 (zd4).bind fun r19 =>
 (zlJ r19 ([(false,([5,3,(-1)]:List Int))]:List zt) ([([(-1)]:List Int)]:List jI) ([]:jQ) 7 ([(true,([5,(-1)]:List Int))]:List zt) ([]:jR) ([]:jQ) 8).bind fun r20 =>
 (zd4).bind fun r21 =>
 (zbs r21 ([(true,([5,(-1)]:List Int)),(false,([6,(-1),(-2)]:List Int))]:List zt) ([]:jR) ([]:jQ) 2 ([(false,([5,3,(-1)]:List Int))]:List zt) ([([(-1)]:List Int)]:List jI) ([]:jQ) 0).bind fun r22 =>
 cond r16.2.2.1
 ((zfD r16.2.2.2.1).bind fun r23 =>
  cond (r23==0)
  ((yU r16.1 r16.2.1 r16.2.2.2.2 ([(false,([6,3,(-1),(-2)]:List Int))]:List zt) ([([(-1)]:List Int)]:List jI) ([]:jQ)).bind fun r24 =>
   cond r24
   (cond (!r18.2.2.1)
    ((zfD r18.2.2.2.1).bind fun r25 =>
     cond (r25==0)
     ((zfD r20.2.1).bind fun r26 =>
      cond (r26==0)
      (cond (r20.1==0)
       ((zhN r20.2.2 ([(1,7,0,0,8,0,0,([]:jQ),([([(-1)]:List Int)]:List jI),([]:jQ))]:List jU)).bind fun r27 =>
        cond r27
        ((zfD r22.2.2.2.1).bind fun r28 =>
         some (r28==1300))
        (some false))
       (some false))
      (some false))
     (some false))
    (some false))
   (some false))
  (some false))
 (some false)
end Go.Abs.Q
namespace Go.Abs.Q
open Go Go.Abs
def yN:List Int→jI→Option jI
 | [],s3=>some s3
 | e::es,s3 =>
  cond (decide (e≥0))
  (yN es s3)
  ((yo e).bind fun r12 =>
   (zaG s3 r12).bind fun r13 =>
   cond (!r13.2)
   ((yo e).bind fun r14 =>
    (zdF r13.1 s3 ([r14]:List Int)).bind fun r15 =>
    yN es r15)
   (yN es s3))
theorem zhy (s0:jI) (hl:List.length s0≤maxLen):∀(es:List Int) (i:Nat) (k:Nat) (s3:jI),s0.drop i=es→es.length<k→lp qV k (s0,((List.length s0:Nat):Int),(i:Int),s3)=yN es s3:=by
 intro es
 induction es with
 | nil =>
  intro i k s3 h hk
  obtain⟨k,rfl⟩:∃ k',k=k'+1:=⟨k - 1,by omega⟩
  rw[zk]
  generalize lp qV k=rec
  unfold qV yN
  simp only[zu (zm h),cond_false]
 | cons e es ih =>
  intro i k s3 h hk
  obtain⟨k,rfl⟩:∃ k',k=k'+1:=⟨k - 1,by omega⟩
  rw[zk]
  have hi:=zl h
  have hk2:es.length<k:=Nat.lt_of_succ_lt_succ hk
  have key:=fun s3=>ih (i+1) k s3 (zh h) hk2
  generalize lp qV k=rec at key ⊢
  unfold qV yN
  simp only[zE hi,cond_true,zJ,zj h,Option.bind_some,zF hi hl,key]
theorem zgM (s0:jI) (s3:jI) (hl:List.length s0≤maxLen):lp qV zp (s0,((List.length s0:Nat):Int),0,s3)=yN s0 s3 :=
 zhy s0 hl s0 0 zp s3 rfl (Nat.lt_of_le_of_lt hl (by decide))
def qO:List jI→jI→Option jI
 | [],s3=>some s3
 | e::es,s3 =>
  (zb9 e s3).bind fun r13 =>
  qO es r13
theorem zhv (s0:jR) (hl:List.length s0≤maxLen):∀(es:List jI) (i:Nat) (k:Nat) (s3:jI),s0.drop i=es→es.length<k→lp q4 k (s0,((List.length s0:Nat):Int),(i:Int),s3)=qO es s3:=by
 intro es
 induction es with
 | nil =>
  intro i k s3 h hk
  obtain⟨k,rfl⟩:∃ k',k=k'+1:=⟨k - 1,by omega⟩
  rw[zk]
  generalize lp q4 k=rec
  unfold q4 qO
  simp only[zu (zm h),cond_false]
 | cons e es ih =>
  intro i k s3 h hk
  obtain⟨k,rfl⟩:∃ k',k=k'+1:=⟨k - 1,by omega⟩
  rw[zk]
  have hi:=zl h
  have hk2:es.length<k:=Nat.lt_of_succ_lt_succ hk
  have key:=fun s3=>ih (i+1) k s3 (zh h) hk2
  generalize lp q4 k=rec at key ⊢
  unfold q4 qO
  simp only[zE hi,cond_true,zJ,zj h,Option.bind_some,zF hi hl,key]
theorem zhb (s0:jR) (s3:jI) (hl:List.length s0≤maxLen):lp q4 zp (s0,((List.length s0:Nat):Int),0,s3)=qO s0 s3 :=
 zhv s0 hl s0 0 zp s3 rfl (Nat.lt_of_le_of_lt hl (by decide))
def qP:List zt→jI→Option jI
 | [],s6=>some s6
 | e::es,s6 =>
  (zb9 e.2 s6).bind fun r8 =>
  qP es r8
theorem zhC (s0:jQ) (s3:jQ) (s4:jR) (s5:jQ) (hl:List.length s0≤maxLen):∀(es:List zt) (i:Nat) (k:Nat) (s6:jI),s0.drop i=es→es.length<k→lp qW k (s0,((List.length s0:Nat):Int),(i:Int),s3,s4,s5,s6)=qP es s6:=by
 intro es
 induction es with
 | nil =>
  intro i k s6 h hk
  obtain⟨k,rfl⟩:∃ k',k=k'+1:=⟨k - 1,by omega⟩
  rw[zk]
  generalize lp qW k=rec
  unfold qW qP
  simp only[zu (zm h),cond_false]
 | cons e es ih =>
  intro i k s6 h hk
  obtain⟨k,rfl⟩:∃ k',k=k'+1:=⟨k - 1,by omega⟩
  rw[zk]
  have hi:=zl h
  have hk2:es.length<k:=Nat.lt_of_succ_lt_succ hk
  have key:=fun s6=>ih (i+1) k s6 (zh h) hk2
  generalize lp qW k=rec at key ⊢
  unfold qW qP
  simp only[zE hi,cond_true,zJ,zj h,Option.bind_some,zF hi hl,key]
theorem zgF (s0:jQ) (s3:jQ) (s4:jR) (s5:jQ) (s6:jI) (hl:List.length s0≤maxLen):lp qW zp (s0,((List.length s0:Nat):Int),0,s3,s4,s5,s6)=qP s0 s6 :=
 zhC s0 s3 s4 s5 hl s0 0 zp s6 rfl (Nat.lt_of_le_of_lt hl (by decide))
def yH (s3:Int) (s4:jQ) (s5:jR):List zt→jQ→Option (jQ×jR×jQ)
 | [],s6=>some (s4,s5,s6)
 | e::es,s6 =>
  (qy e.2 s3).bind fun r20 =>
  cond (yY (List.length s6+List.length ([(e.1,r20)]:List zt)) 32)
  (yH s3 s4 s5 es (s6++([(e.1,r20)]:List zt)))
  (none)
theorem zf4 (s0:jQ) (s3:Int) (s4:jQ) (s5:jR) (hl:List.length s0≤maxLen):∀(es:List zt) (i:Nat) (k:Nat) (s6:jQ),s0.drop i=es→es.length<k→lp qe k (s0,((List.length s0:Nat):Int),(i:Int),s3,s4,s5,s6)=yH s3 s4 s5 es s6:=by
 intro es
 induction es with
 | nil =>
  intro i k s6 h hk
  obtain⟨k,rfl⟩:∃ k',k=k'+1:=⟨k - 1,by omega⟩
  rw[zk]
  generalize lp qe k=rec
  unfold qe yH
  simp only[zu (zm h),cond_false]
 | cons e es ih =>
  intro i k s6 h hk
  obtain⟨k,rfl⟩:∃ k',k=k'+1:=⟨k - 1,by omega⟩
  rw[zk]
  have hi:=zl h
  have hk2:es.length<k:=Nat.lt_of_succ_lt_succ hk
  have key:=fun s6=>ih (i+1) k s6 (zh h) hk2
  generalize lp qe k=rec at key ⊢
  unfold qe yH
  simp only[zE hi,cond_true,zJ,zj h,Option.bind_some,zF hi hl,key]
theorem zfB (s0:jQ) (s3:Int) (s4:jQ) (s5:jR) (s6:jQ) (hl:List.length s0≤maxLen):lp qe zp (s0,((List.length s0:Nat):Int),0,s3,s4,s5,s6)=yH s3 s4 s5 s0 s6 :=
 zf4 s0 s3 s4 s5 hl s0 0 zp s6 rfl (Nat.lt_of_le_of_lt hl (by decide))
def yC (s3:Int) (s7:jQ):List jI→jR→Option (jQ×jR)
 | [],s8=>some (s7,s8)
 | e::es,s8 =>
  (qy e s3).bind fun r13 =>
  cond (yY (List.length s8+List.length ([r13]:List jI)) 24)
  (yC s3 s7 es (s8++([r13]:List jI)))
  (none)
theorem zf5 (s0:jR) (s3:Int) (s4:jQ) (s5:jR) (s6:jQ) (s7:jQ) (hl:List.length s0≤maxLen):∀(es:List jI) (i:Nat) (k:Nat) (s8:jR),s0.drop i=es→es.length<k→lp yX k (s0,((List.length s0:Nat):Int),(i:Int),s3,s4,s5,s6,s7,s8)=yC s3 s7 es s8:=by
 intro es
 induction es with
 | nil =>
  intro i k s8 h hk
  obtain⟨k,rfl⟩:∃ k',k=k'+1:=⟨k - 1,by omega⟩
  rw[zk]
  generalize lp yX k=rec
  unfold yX yC
  simp only[zu (zm h),cond_false]
 | cons e es ih =>
  intro i k s8 h hk
  obtain⟨k,rfl⟩:∃ k',k=k'+1:=⟨k - 1,by omega⟩
  rw[zk]
  have hi:=zl h
  have hk2:es.length<k:=Nat.lt_of_succ_lt_succ hk
  have key:=fun s8=>ih (i+1) k s8 (zh h) hk2
  generalize lp yX k=rec at key ⊢
  unfold yX yC
  simp only[zE hi,cond_true,zJ,zj h,Option.bind_some,zF hi hl,key]
theorem zft (s0:jR) (s3:Int) (s4:jQ) (s5:jR) (s6:jQ) (s7:jQ) (s8:jR) (hl:List.length s0≤maxLen):lp yX zp (s0,((List.length s0:Nat):Int),0,s3,s4,s5,s6,s7,s8)=yC s3 s7 s0 s8 :=
 zf5 s0 s3 s4 s5 s6 s7 hl s0 0 zp s8 rfl (Nat.lt_of_le_of_lt hl (by decide))
def yI (s3:Int):List zt→jQ→Option jQ
 | [],s7=>some s7
 | e::es,s7 =>
  (qy e.2 s3).bind fun r6 =>
  cond (yY (List.length s7+List.length ([(e.1,r6)]:List zt)) 32)
  (yI s3 es (s7++([(e.1,r6)]:List zt)))
  (none)
theorem zgc (s0:jQ) (s3:Int) (s4:jQ) (s5:jR) (s6:jQ) (hl:List.length s0≤maxLen):∀(es:List zt) (i:Nat) (k:Nat) (s7:jQ),s0.drop i=es→es.length<k→lp qa k (s0,((List.length s0:Nat):Int),(i:Int),s3,s4,s5,s6,s7)=yI s3 es s7:=by
 intro es
 induction es with
 | nil =>
  intro i k s7 h hk
  obtain⟨k,rfl⟩:∃ k',k=k'+1:=⟨k - 1,by omega⟩
  rw[zk]
  generalize lp qa k=rec
  unfold qa yI
  simp only[zu (zm h),cond_false]
 | cons e es ih =>
  intro i k s7 h hk
  obtain⟨k,rfl⟩:∃ k',k=k'+1:=⟨k - 1,by omega⟩
  rw[zk]
  have hi:=zl h
  have hk2:es.length<k:=Nat.lt_of_succ_lt_succ hk
  have key:=fun s7=>ih (i+1) k s7 (zh h) hk2
  generalize lp qa k=rec at key ⊢
  unfold qa yI
  simp only[zE hi,cond_true,zJ,zj h,Option.bind_some,zF hi hl,key]
theorem zfG (s0:jQ) (s3:Int) (s4:jQ) (s5:jR) (s6:jQ) (s7:jQ) (hl:List.length s0≤maxLen):lp qa zp (s0,((List.length s0:Nat):Int),0,s3,s4,s5,s6,s7)=yI s3 s0 s7 :=
 zgc s0 s3 s4 s5 s6 hl s0 0 zp s7 rfl (Nat.lt_of_le_of_lt hl (by decide))
end Go.Abs.Q
namespace Go.Abs.Q
open Go Go.Abs
section
inductive Tm where
 | v (n:Nat)
 | f (c:Nat) (as:List Tm)
mutual
def Tm.codes:Tm→List Int
 | .v n=>[-1 - (n:Int)]
 | .f c as=>(c:Int)::zD as
def zD:List Tm→List Int
 | []=>[]
 | t::ts=>t.codes++zD ts
end
mutual
def Tm.size:Tm→Nat
 | .v _=>1
 | .f _ as=>zbu as+1
def zbu:List Tm→Nat
 | []=>0
 | t::ts=>t.size+zbu ts
end
abbrev Sb:=Nat→Tm
mutual
def Tm.sub (s:Sb):Tm→Tm
 | .v n=>s n
 | .f c as=>.f c (zb6 s as)
def zb6 (s:Sb):List Tm→List Tm
 | []=>[]
 | t::ts=>t.sub s::zb6 s ts
end
mutual
def Tm.has (x:Nat):Tm→Prop
 | .v n=>n=x
 | .f _ as=>zl9 x as
def zl9 (x:Nat):List Tm→Prop
 | []=>False
 | t::ts=>t.has x∨zl9 x ts
end
mutual
def Tm.ok (a0:List zQ) (N:Nat):Tm→Prop
 | .v n=>n<N
 | .f c as=>zcp a0 (c:Int)=some as.length∧okR a0 N as
def okR (a0:List zQ) (N:Nat):List Tm→Prop
 | []=>True
 | t::ts=>t.ok a0 N∧okR a0 N ts
end
theorem zmj (s:Sb):(ts:List Tm)→(zb6 s ts).length=ts.length
 | []=>rfl
 | t::ts=>by simp [zb6,zmj s ts]
theorem zeB {a0:List zQ} {N:Nat}:{ts:List Tm}→(okR a0 N ts↔∀ t∈ts,t.ok a0 N)
 | []=>by simp [okR]
 | t::ts=>by simp [okR,zeB (ts:=ts)]
theorem zhW (s:Sb):(ts:List Tm)→zb6 s ts=ts.map (Tm.sub s)
 | []=>rfl
 | t::ts=>by simp [zb6,zhW s ts]
theorem zjh:(ts:List Tm)→zD ts=ts.flatMap Tm.codes
 | []=>rfl
 | t::ts=>by simp [zD,zjh ts]
theorem znX:(ts:List Tm)→zbu ts=(ts.map Tm.size).sum
 | []=>rfl
 | t::ts=>by simp [zbu,znX ts]
theorem zkb (ts us:List Tm):zD (ts++us)=zD ts++zD us:=by simp [zjh]
theorem zzS (ts us:List Tm):zbu (ts++us)=zbu ts+zbu us:=by simp [znX]
mutual
theorem Tm.codes_len:(t:Tm)→t.codes.length=t.size
 | .v _=>rfl
 | .f c as=>by simp [Tm.codes,Tm.size,zch as]
theorem zch:(ts:List Tm)→(zD ts).length=zbu ts
 | []=>rfl
 | t::ts=>by simp [zD,zbu,Tm.codes_len t,zch ts]
end
theorem Tm.size_pos (t:Tm):0<t.size:=by cases t<;>simp [Tm.size]
mutual
theorem Tm.sub_ext {s u:Sb}:(t:Tm)→(∀ x,t.has x→s x=u x)→t.sub s=t.sub u
 | .v n,h=>h n rfl
 | .f c as,h=>by rw[Tm.sub,Tm.sub,zsS as h]
theorem zsS {s u:Sb}:(ts:List Tm)→(∀ x,zl9 x ts→s x=u x)→zb6 s ts=zb6 u ts
 | [],_=>rfl
 | t::ts,h=>by rw[zb6,zb6,Tm.sub_ext t fun x hx=>h x (.inl hx),zsS ts fun x hx=>h x (.inr hx)]
end
mutual
theorem Tm.sub_sub (s u:Sb):(t:Tm)→(t.sub s).sub u=t.sub fun x=>(s x).sub u
 | .v n=>rfl
 | .f c as=>by rw[Tm.sub,Tm.sub,Tm.sub,zp7 s u as]
theorem zp7 (s u:Sb):(ts:List Tm)→zb6 u (zb6 s ts)=zb6 (fun x=>(s x).sub u) ts
 | []=>rfl
 | t::ts=>by rw[zb6,zb6,zb6,Tm.sub_sub s u t,zp7 s u ts]
end
mutual
theorem Tm.sub_v:(t:Tm)→t.sub .v=t
 | .v n=>rfl
 | .f c as=>by rw[Tm.sub,zED as]
theorem zED:(ts:List Tm)→zb6 .v ts=ts
 | []=>rfl
 | t::ts=>by rw[zb6,Tm.sub_v t,zED ts]
end
mutual
theorem Tm.has_sub {s:Sb} {y:Nat}:(t:Tm)→((t.sub s).has y↔∃ x,t.has x∧(s x).has y)
 | .v n=>⟨fun h=>⟨n,rfl,h⟩,fun ⟨x,hx,h⟩=>by cases hx; exact h⟩
 | .f c as=>by show zl9 y (zb6 s as)↔_; rw[zth as]; rfl
theorem zth {s:Sb} {y:Nat}:(ts:List Tm)→(zl9 y (zb6 s ts)↔∃ x,zl9 x ts∧(s x).has y)
 | []=>⟨fun h=>h.elim,fun ⟨_,h,_⟩=>h.elim⟩
 | t::ts=>by
  show (t.sub s).has y∨zl9 y (zb6 s ts)↔∃ x,(t.has x∨zl9 x ts)∧_
  rw[Tm.has_sub t,zth ts]
  constructor
  ·rintro (⟨x,h1,h2⟩ | ⟨x,h1,h2⟩)
   ·exact ⟨x,.inl h1,h2⟩
   ·exact ⟨x,.inr h1,h2⟩
  ·rintro⟨x,h1 | h1,h2⟩
   ·exact .inl ⟨x,h1,h2⟩
   ·exact .inr ⟨x,h1,h2⟩
end
mutual
theorem Tm.size_has {s:Sb} {x:Nat}:(t:Tm)→t.has x→(s x).size≤(t.sub s).size
 | .v n,h=>by cases h; exact Nat.le_refl _
 | .f c as,h=>by have:=ze4 (s:=s) as h; show _≤zbu (zb6 s as)+1; omega
theorem ze4 {s:Sb} {x:Nat}:(ts:List Tm)→zl9 x ts→(s x).size≤zbu (zb6 s ts)
 | [],h=>h.elim
 | t::ts,h=>by
  show _≤(t.sub s).size+zbu (zb6 s ts)
  rcases h with h | h
  ·have:=Tm.size_has (s:=s) t h; omega
  ·have:=ze4 (s:=s) ts h; omega
end
mutual
theorem Tm.size_sub {s:Sb} {M:Nat}:(t:Tm)→(1≤M)→(∀ x,t.has x→(s x).size≤M)→(t.sub s).size≤t.size*M
 | .v n,_,h=>by have:=h n rfl; simpa[Tm.sub,Tm.size] using this
 | .f c as,hM,h=>by
  have:=zpH (s:=s) as hM h
  show zbu (zb6 s as)+1≤(zbu as+1)*M
  rw[Nat.add_mul]; omega
theorem zpH {s:Sb} {M:Nat}:(ts:List Tm)→(1≤M)→(∀ x,zl9 x ts→(s x).size≤M)→zbu (zb6 s ts)≤zbu ts*M
 | [],_,_=>by simp [zb6,zbu]
 | t::ts,hM,h=>by
  have h1:=Tm.size_sub (s:=s) t hM fun x hx=>h x (.inl hx)
  have h2:=zpH (s:=s) ts hM fun x hx=>h x (.inr hx)
  show (t.sub s).size+zbu (zb6 s ts)≤(t.size+zbu ts)*M
  rw[Nat.add_mul]; omega
end
mutual
theorem Tm.ok_sub {a0:List zQ} {N M:Nat} {s:Sb}:(t:Tm)→t.ok a0 N→(∀ x,t.has x→(s x).ok a0 M)→(t.sub s).ok a0 M
 | .v n,_,h=>h n rfl
 | .f c as,ho,h=>⟨by rw[zmj]; exact ho.1,zsD as ho.2 h⟩
theorem zsD {a0:List zQ} {N M:Nat} {s:Sb}:(ts:List Tm)→okR a0 N ts→(∀ x,zl9 x ts→(s x).ok a0 M)→okR a0 M (zb6 s ts)
 | [],_,_=>trivial
 | t::ts,ho,h=>⟨Tm.ok_sub t ho.1 fun x hx=>h x (.inl hx),zsD ts ho.2 fun x hx=>h x (.inr hx)⟩
end
mutual
theorem Tm.ok_has {a0:List zQ} {N x:Nat}:(t:Tm)→t.ok a0 N→t.has x→x<N
 | .v n,ho,h=>by cases h; exact ho
 | .f c as,ho,h=>zv3 as ho.2 h
theorem zv3 {a0:List zQ} {N x:Nat}:(ts:List Tm)→okR a0 N ts→zl9 x ts→x<N
 | [],_,h=>h.elim
 | t::ts,ho,h=>h.elim (Tm.ok_has t ho.1) (zv3 ts ho.2)
end
mutual
theorem Tm.ok_mono {a0:List zQ} {N M:Nat} (hNM:N≤M):(t:Tm)→t.ok a0 N→t.ok a0 M
 | .v n,ho=>Nat.lt_of_lt_of_le ho hNM
 | .f c as,ho=>⟨ho.1,zsR hNM as ho.2⟩
theorem zsR {a0:List zQ} {N M:Nat} (hNM:N≤M):(ts:List Tm)→okR a0 N ts→okR a0 M ts
 | [],_=>trivial
 | t::ts,ho=>⟨Tm.ok_mono hNM t ho.1,zsR hNM ts ho.2⟩
end
mutual
theorem Tm.mem_codes {c:Int} (hc:c<0):(t:Tm)→(c∈t.codes↔t.has (-1 - c).toNat)
 | .v n=>by
  show c∈[-1 - (n:Int)]↔n=_
  rw[List.mem_singleton]
  omega
 | .f d as=>by
  show c∈(d:Int)::zD as↔zl9 _ as
  rw[List.mem_cons,← zdH hc as]
  have:c≠(d:Int):=by omega
  simp [this]
theorem zdH {c:Int} (hc:c<0):(ts:List Tm)→(c∈zD ts↔zl9 (-1 - c).toNat ts)
 | []=>by simp [zD,zl9]
 | t::ts=>by
  show c∈t.codes++zD ts↔_∨_
  rw[List.mem_append,Tm.mem_codes hc t,zdH hc ts]
end
theorem zus {a0:List zQ} {x:Int} {q:Nat} (h:zcp a0 x=some q):(x<0 ∧ -24≤x∧q=0)∨∃ c:Nat,x=(c:Int):=by
 unfold zcp at h
 by_cases h0:x<0
 ·rw[decide_eq_true h0,cond_true] at h
  by_cases h1 : -24≤x
  ·rw[decide_eq_true h1] at h; injection h with h; exact .inl ⟨h0,h1,h.symm⟩
  ·rw[decide_eq_false h1] at h; cases h
 ·exact .inr ⟨x.toNat,by omega⟩
theorem zCZ {a0:List zQ}:∀(n:Nat) (ps:List jI),(∀ p∈ps,p.length≤n)→(∀ p∈ps,sk a0 1 p=some p.length)→∃ ts:List Tm,okR a0 24 ts∧ps=ts.map Tm.codes:=by
 intro n
 induction n with
 | zero =>
  intro ps h hs
  cases ps with
  | nil=>exact ⟨[],trivial,rfl⟩
  | cons p ps =>
   have h1:=h p (List.mem_cons_self ..)
   have h2:=zmG (hs p (List.mem_cons_self ..))
   omega
 | succ n ih =>
  intro ps
  induction ps with
  | nil=>intro _ _; exact ⟨[],trivial,rfl⟩
  | cons p ps ihp =>
   intro h hs
   obtain⟨ts,h1,h2⟩:=ihp (fun q hq=>h q (List.mem_cons_of_mem _ hq)) (fun q hq=>hs q (List.mem_cons_of_mem _ hq))
   obtain⟨x,r,q,rfl,ha,hr⟩:=zr5 (hs p (List.mem_cons_self ..))
   have hl:=h _ (List.mem_cons_self ..)
   rw[List.length_cons] at hl
   rcases zus ha with ⟨h3,h4,rfl⟩ | ⟨c,rfl⟩
   ·have hr0:r=[]:=by
     have:sk a0 0 r=some 0:=by cases r<;>rfl
     rw[this] at hr
     exact List.length_eq_zero_iff.1 (by injection hr with hr; omega)
    subst hr0
    refine ⟨.v (-1 - x).toNat::ts,⟨by show (-1 - x).toNat<24; omega,h1⟩,?_⟩
    rw[List.map_cons,← h2]
    show [x]::ps=[-1 - (((-1 - x).toNat:Nat):Int)]::ps
    rw[show -1 - (((-1 - x).toNat:Nat):Int)=x from by omega]
   ·obtain⟨qs,hq,hql⟩:=zIh q r hr
    obtain⟨hf,hqs⟩:=zgS r.length r qs (Nat.le_refl _) hq
    have hlen:∀ p∈qs,p.length≤n:=fun p hp=>by
     have h5:p.length≤qs.flatten.length:=by
      obtain⟨l1,l2,rfl⟩:=List.append_of_mem hp
      simp; omega
     rw[hf] at h5
     omega
    obtain⟨us,h5,h6⟩:=ih qs hlen fun p hp=>(hqs p hp).2
    refine ⟨.f c us::ts,⟨⟨by rw[ha,← hql,h6,List.length_map],h5⟩,h1⟩,?_⟩
    rw[List.map_cons,← h2]
    show ((c:Int)::r)::ps=((c:Int)::zD us)::ps
    rw[zjh,List.flatMap,← h6,hf]
theorem zKs {a0:List zQ} {xs:List Int} {ps:List jI} (h:zjK a0 xs=some ps):∃ ts:List Tm,okR a0 24 ts∧ps=ts.map Tm.codes∧xs=zD ts:=by
 obtain⟨h1,h2⟩:=zgS xs.length xs ps (Nat.le_refl _) h
 obtain⟨ts,h3,h4⟩:=zCZ (a0:=a0) xs.length ps (fun p hp=>by
  have:p.length≤ps.flatten.length:=by
   obtain⟨l1,l2,rfl⟩:=List.append_of_mem hp
   simp; omega
  rwa [h1] at this) fun p hp=>(h2 p hp).2
 exact ⟨ts,h3,h4,by rw[zjh,List.flatMap,← h4,h1]⟩
theorem zvP {a0:List zQ} {n:Nat} (h:n<24):zcp a0 (-1 - (n:Int))=some 0:=by
 unfold zcp
 rw[decide_eq_true (show -1 - (n:Int)<0 by omega),cond_true,decide_eq_true (show -24 ≤ -1 - (n:Int) by omega)]
 rfl
mutual
theorem Tm.sk_codes {a0:List zQ}:(t:Tm)→t.ok a0 24→sk a0 1 t.codes=some t.codes.length
 | .v n,h=>by
  show sk a0 1 [-1 - (n:Int)]=some 1
  unfold sk
  rw[zvP h]
  rfl
 | .f c as,h=>by
  have:=zqX as h.2
  show sk a0 1 ((c:Int)::zD as)=some (zD as).length.succ
  unfold sk
  rw[h.1]
  simp only[Nat.zero_add,this,Option.map_some]
theorem zqX {a0:List zQ}:(ts:List Tm)→okR a0 24 ts→sk a0 ts.length (zD ts)=some (zD ts).length
 | [],_=>rfl
 | t::ts,h=>by
  show sk a0 (ts.length+1) (t.codes++zD ts)=_
  rw[Nat.add_comm]
  exact zE1 (Tm.sk_codes t h.1) (zqX ts h.2)
end
theorem zxm {a0:List zQ}:{xs:List Int}→{n k:Nat}→(ys:List Int)→sk a0 n xs=some k→sk a0 n (xs++ys)=some k
 | [],0,k,ys,h=>by simp [sk] at h; subst h; cases ys<;>rfl
 | [],n+1,k,ys,h=>by simp [sk] at h
 | x::xs,0,k,ys,h=>by simp [sk] at h; subst h; rfl
 | x::xs,n+1,k,ys,h=>by
  unfold sk at h
  cases ha:zcp a0 x with
  | none=>rw[ha] at h; cases h
  | some m =>
   rw[ha] at h
   simp only[Option.map_eq_some_iff] at h
   obtain⟨j,hj,rfl⟩:=h
   rw[List.cons_append]
   unfold sk
   rw[ha]
   simp only[zxm ys hj,Option.map_some]
theorem zaM {a0:List zQ}:(ts:List Tm)→okR a0 24 ts→zjK a0 (zD ts)=some (ts.map Tm.codes)
 | [],_=>rfl
 | t::ts,h=>by
  have hp:=t.size_pos
  have hl:=t.codes_len
  have h1:=Tm.sk_codes t h.1
  show zjK a0 (t.codes++zD ts)=_
  have hne:t.codes++zD ts≠[]:=fun e=>by
   have:=congrArg List.length e
   rw[List.length_append,List.length_nil] at this
   omega
  rw[zc9 hne,zxm _ h1]
  simp only[List.drop_left,List.take_left,zaM ts h.2,Option.map_some,List.map_cons]
def Tm.up (d:Nat) (t:Tm):Tm:=t.sub fun n=>.v (n+d)
theorem Tm.up_zero (t:Tm):t.up 0=t:=t.sub_v
theorem Tm.up_size (d:Nat) (t:Tm):(t.up d).size=t.size:=by
 have h1:(t.up d).size≤t.size*1:=Tm.size_sub t (Nat.le_refl _) fun x _=>Nat.le_refl _
 have h2:((t.up d).sub fun n=>.v (n - d)).size≤(t.up d).size*1:=Tm.size_sub _ (Nat.le_refl _) fun x _=>Nat.le_refl _
 have h3:(t.up d).sub (fun n=>.v (n - d))=t:=by
  unfold Tm.up
  rw[Tm.sub_sub,show (fun x=>(Tm.v (x+d)).sub fun n=>.v (n - d))=Tm.v from by
   funext x
   show Tm.v (x+d - d)=_
   rw[Nat.add_sub_cancel],Tm.sub_v]
 rw[h3] at h2
 omega
theorem Tm.up_ok {a0:List zQ} {N d:Nat} {t:Tm} (h:t.ok a0 N):(t.up d).ok a0 (N+d):=Tm.ok_sub t h fun x hx=>by
 have:=Tm.ok_has t h hx
 show x+d<N+d
 omega
theorem Tm.up_has {d y:Nat} {t:Tm}:(t.up d).has y↔∃ x,t.has x∧x+d=y:=Tm.has_sub t
end
end Go.Abs.Q
namespace Go.Abs.Q
open Go Go.Abs
section
abbrev Bd:=Nat→Option Tm
def SolB (θ:Sb) (B:Bd):Prop:=∀ x t,B x=some t→θ x=t.sub θ
def Sol (θ:Sb) (E:List (Tm×Tm)):Prop:=∀ p∈E,p.1.sub θ=p.2.sub θ
theorem Sol.nil {θ:Sb}:Sol θ []:=fun _ h=>nomatch h
theorem Sol.cons {θ:Sb} {p:Tm×Tm} {E:List (Tm×Tm)}:Sol θ (p::E)↔p.1.sub θ=p.2.sub θ∧Sol θ E:=by simp [Sol]
theorem Sol.append {θ:Sb} {E F:List (Tm×Tm)}:Sol θ (E++F)↔Sol θ E∧Sol θ F:=by
 simp only[Sol,List.mem_append]
 exact ⟨fun h=>⟨fun p hp=>h p (.inl hp),fun p hp=>h p (.inr hp)⟩,fun h p hp=>hp.elim (h.1 p) (h.2 p)⟩
theorem Sol.zip {θ:Sb}:{ts us:List Tm}→ts.length=us.length→(Sol θ (ts.zip us)↔zb6 θ ts=zb6 θ us)
 | [],[],_=>by simp [Sol,zb6]
 | [],_::_,h=>by simp at h
 | _::_,[],h=>by simp at h
 | t::ts,u::us,h=>by
  rw[List.zip_cons_cons,Sol.cons,Sol.zip (by simpa using h)]
  simp [zb6]
structure Good (B:Bd) (σ:Sb):Prop where
 free:∀ x,B x=none→σ x = .v x
 bound:∀ x t,B x=some t→σ x=t.sub σ
 down:∀ x y,B x=some (.v y)→y<x
theorem Good.empty:Good (fun _=>none) .v:=⟨fun _ _=>rfl,fun _ _ h=>(nomatch h),fun _ _ h=>(nomatch h)⟩
theorem Good.ind {B:Bd} {σ:Sb} (h:Good B σ) {P:Nat→Prop} (hf:∀ x,B x=none→P x) (hb:∀ x t,B x=some t→(∀ y,t.has y→P y)→P x):∀ x,P x:=by
 have key:∀ n x,(σ x).size=n→P x:=by
  intro n
  induction n using Nat.strongRecOn with
  | _ n ihn =>
   intro x
   induction x using Nat.strongRecOn with
   | _ x ihx =>
    intro hn
    cases hx:B x with
    | none=>exact hf x hx
    | some t =>
     refine hb x t hx fun y hy => ?_
     have hs:=h.bound x t hx
     cases t with
     | v z =>
      have hz:z=y:=hy
      subst hz
      exact ihx z (h.down x z hx) (by rw[← hn,hs]; rfl)
     | f c as =>
      have:=ze4 (s:=σ) as hy
      refine ihn (σ y).size ?_ y rfl
      rw[← hn,hs]
      show _<zbu (zb6 σ as)+1
      omega
 exact fun x=>key _ x rfl
theorem Good.fac {B:Bd} {σ θ:Sb} (h:Good B σ) (hθ:SolB θ B):∀ x,(σ x).sub θ=θ x:=by
 refine h.ind (fun x hx=>by rw[h.free x hx]; rfl) fun x t hx ih => ?_
 rw[h.bound x t hx,Tm.sub_sub,hθ x t hx]
 exact Tm.sub_ext t fun y hy=>ih y hy
theorem Good.facT {B:Bd} {σ θ:Sb} (h:Good B σ) (hθ:SolB θ B) (t:Tm):(t.sub σ).sub θ=t.sub θ:=by
 rw[Tm.sub_sub]
 exact Tm.sub_ext t fun y _=>h.fac hθ y
theorem Good.root {B:Bd} {σ:Sb} (h:Good B σ):∀ x y,(σ x).has y→B y=none:=by
 refine h.ind (fun x hx y hy => ?_) fun x t hx ih y hy => ?_
 ·rw[h.free x hx] at hy
  have hy:x=y:=hy
  exact hy▸hx
 ·rw[h.bound x t hx] at hy
  obtain⟨z,h1,h2⟩:=(Tm.has_sub t).1 hy
  exact ih z h1 y h2
theorem Good.idem {B:Bd} {σ:Sb} (h:Good B σ) (t:Tm):(t.sub σ).sub σ=t.sub σ:=h.facT h.bound t
theorem Good.le {B:Bd} {σ:Sb} (h:Good B σ):∀ x y,σ x = .v y→y≤x:=by
 refine h.ind (fun x hx y hy => ?_) fun x t hx ih y hy => ?_
 ·rw[h.free x hx] at hy; injection hy with hy; omega
 ·rw[h.bound x t hx] at hy
  cases t with
  | v z =>
   have h1:=h.down x z hx
   have h2:=ih z rfl y hy
   omega
  | f c as=>cases hy
theorem Good.moved {B:Bd} {σ:Sb} (h:Good B σ) {x:Nat}:B x≠none↔σ x ≠ .v x:=by
 constructor
 ·intro hb he
  cases hx:B x with
  | none=>exact hb hx
  | some t =>
   have h1:=h.bound x t hx
   rw[he] at h1
   cases t with
   | v z =>
    have h2:=h.down x z hx
    have h3:=h.le z x h1.symm
    omega
   | f c as=>cases h1
 ·intro hs hb
  exact hs (h.free x hb)
theorem Good.unique {B B':Bd} {σ σ':Sb} (h:Good B σ) (h':Good B' σ') (hs:∀ θ,SolB θ B↔SolB θ B'):σ=σ':=by
 have f1:∀ x,(σ x).sub σ'=σ' x:=h.fac ((hs σ').2 h'.bound)
 have f2:∀ x,(σ' x).sub σ=σ x:=h'.fac ((hs σ).1 h.bound)
 have root:∀ y,B y=none→σ' y = .v y:=by
  intro y hy
  have h1:(σ' y).sub σ = .v y:=by rw[f2,h.free y hy]
  cases hz:σ' y with
  | f c as=>rw[hz] at h1; cases h1
  | v z =>
   rw[hz] at h1
   have h2:=h'.le y z hz
   have h3:=h.le z y h1
   have:z=y:=by omega
   rw[this]
 funext x
 rw[← f1 x]
 conv=>lhs; rw[← Tm.sub_v (σ x)]
 exact Tm.sub_ext _ fun y hy=>(root y (h.root x y hy)).symm
def one (x:Nat) (u:Tm):Sb:=fun y=>if y=x then u else .v y
def zCq (B:Bd) (x:Nat) (t:Tm):Bd:=fun y=>if y=x then some t else B y
theorem zc4 (B:Bd) (x:Nat) (t:Tm):zCq B x t x=some t:=by simp [zCq]
theorem zfr (B:Bd) {x y:Nat} (t:Tm) (h:y≠x):zCq B x t y=B y:=by simp [zCq,h]
theorem SolB.upd {B:Bd} {x:Nat} {t:Tm} {θ:Sb} (hx:B x=none):SolB θ (zCq B x t)↔SolB θ B∧θ x=t.sub θ:=by
 constructor
 ·intro h
  refine ⟨fun y u hy=>h y u ?_,h x t (zc4 ..)⟩
  rw[zfr _ _ fun e=>by rw[e,hx] at hy; cases hy]
  exact hy
 ·rintro⟨h1,h2⟩ y u hy
  by_cases he:y=x
  ·subst he
   rw[zc4] at hy
   injection hy with hy
   subst hy
   exact h2
  ·rw[zfr _ _ he] at hy
   exact h1 y u hy
theorem zGV {x:Nat} {u t:Tm} (h:¬ t.has x):t.sub (one x u)=t:=by
 conv=>rhs; rw[← Tm.sub_v t]
 refine Tm.sub_ext t fun y hy => ?_
 have hne:y≠x:=fun e=>h (e▸hy)
 unfold one
 rw[if_neg hne]
theorem Good.bind {B:Bd} {σ:Sb} (h:Good B σ) {x:Nat} {t:Tm} (hx:B x=none) (hn:¬(t.sub σ).has x) (hd:∀ y,t = .v y→y<x):Good (zCq B x t) fun y=>(σ y).sub (one x (t.sub σ)) where
 free:=fun y hy=>by
  have hne:y≠x:=fun e=>by rw[e,zc4] at hy; cases hy
  rw[zfr _ _ hne] at hy
  rw[h.free y hy]
  show one x _ y=_
  simp [one,hne]
 bound:=fun y u hy=>by
  by_cases he:y=x
  ·subst he
   rw[zc4] at hy
   injection hy with hy
   subst hy
   rw[h.free y hx,← Tm.sub_sub,zGV hn]
   show one y _ y=_
   simp [one]
  ·rw[zfr _ _ he] at hy
   rw[h.bound y u hy,Tm.sub_sub]
 down:=fun y z hy=>by
  by_cases he:y=x
  ·subst he
   rw[zc4] at hy
   injection hy with hy
   exact hd z hy
  ·rw[zfr _ _ he] at hy
   exact h.down y z hy
theorem Good.occurs {B:Bd} {σ θ:Sb} (h:Good B σ) {x c:Nat} {as:List Tm} (hh:((Tm.f c as).sub σ).has x) (hθ:SolB θ B) (he:θ x=(Tm.f c as).sub θ):False:=by
 have h1:=h.facT hθ (.f c as)
 rw[← he] at h1
 have h2:=ze4 (s:=θ) (zb6 σ as) hh
 have h3:(((Tm.f c as).sub σ).sub θ).size=(θ x).size:=by rw[h1]
 have h4:zbu (zb6 θ (zb6 σ as))+1=(θ x).size:=h3
 omega
def zkK (B:Bd):Prop:=∀ x t,B x=some t→x<48∧t.size≤48
def Good.less (σ:Sb) (y x:Nat):Bool:=decide ((σ y).size<(σ x).size)||(decide ((σ y).size=(σ x).size)&&decide (y<x))
def Good.rank (σ:Sb) (x:Nat):Nat:=(List.range 48).countP fun y=>Good.less σ y x
theorem zmr {α:Type} {p q:α→Bool} {a:α}:{l:List α}→a∈l→(∀ x∈l,p x=true→q x=true)→p a=false→q a=true→l.countP p<l.countP q
 | [],h,_,_,_=>nomatch h
 | b::l,hm,hi,hp,hq=>by
  have h2:l.countP p≤l.countP q:=List.countP_mono_left fun x hx h=>hi x (List.mem_cons_of_mem _ hx) h
  rcases List.mem_cons.1 hm with rfl | hm
  ·rw[List.countP_cons_of_neg (by simp [hp]),List.countP_cons_of_pos hq]
   omega
  ·have h1:=zmr hm (fun x hx=>hi x (List.mem_cons_of_mem _ hx)) hp hq
   cases hb:p b with
   | true=>rw[List.countP_cons_of_pos hb,List.countP_cons_of_pos (hi b (List.mem_cons_self ..) hb)]; omega
   | false =>
    rw[List.countP_cons_of_neg (by simp [hb])]
    cases hc:q b with
    | true=>rw[List.countP_cons_of_pos hc]; omega
    | false=>rw[List.countP_cons_of_neg (by simp [hc])]; exact h1
theorem Good.small {B:Bd} {σ:Sb} (h:Good B σ) (hb:zkK B):∀ x,(σ x).size≤48 ^ 49:=by
 have key:∀ x,B x≠none→(σ x).size≤48 ^ (Good.rank σ x+1):=by
  refine h.ind (fun x hx hn=>absurd hx hn) fun x t hx ih _ => ?_
  obtain⟨hx48,ht⟩:=hb x t hx
  rw[h.bound x t hx]
  have h1:1≤48 ^ Good.rank σ x:=Nat.pow_pos (by omega)
  refine Nat.le_trans (Tm.size_sub t h1 fun y hy => ?_) ?_
  ·cases hy0:B y with
   | none=>rw[h.free y hy0]; exact h1
   | some u =>
    refine Nat.le_trans (ih y hy (by rw[hy0]; simp)) (Nat.pow_le_pow_right (by omega) ?_)
    have hlt:Good.less σ y x=true:=by
     unfold Good.less
     have hs:=h.bound x t hx
     cases t with
     | v z =>
      have hz:z=y:=hy
      subst hz
      have h2:=h.down x z hx
      have h3:(σ z).size=(σ x).size:=by rw[hs]; rfl
      simp [h3,h2]
     | f c as =>
      have h2:=ze4 (s:=σ) as hy
      have h3:(σ x).size=zbu (zb6 σ as)+1:=by rw[hs]; rfl
      rw[decide_eq_true (show (σ y).size<(σ x).size by omega)]
      rfl
    refine zmr (a:=y) (List.mem_range.2 (hb y u hy0).1) (fun z _ hz => ?_) (by simp [Good.less]) hlt
    simp only[Good.less,Bool.or_eq_true,Bool.and_eq_true,decide_eq_true_eq] at hz hlt ⊢
    omega
  ·rw[Nat.pow_succ,Nat.mul_comm]
   exact Nat.mul_le_mul_left _ ht
 intro x
 by_cases hx:B x=none
 ·rw[h.free x hx]
  exact Nat.pow_pos (by omega)
 ·refine Nat.le_trans (key x hx) (Nat.pow_le_pow_right (by omega) ?_)
  have:Good.rank σ x≤(List.range 48).length:=List.countP_le_length
  rw[List.length_range] at this
  omega
theorem Good.small_sub {B:Bd} {σ:Sb} (h:Good B σ) (hb:zkK B) (t:Tm):(t.sub σ).size≤t.size*48 ^ 49 :=
 Tm.size_sub t (Nat.pow_pos (by omega)) fun x _=>h.small hb x
def Out (B:Bd) (E:List (Tm×Tm)):Option Bd→Prop
 | none=>∀ θ,SolB θ B→Sol θ E→False
 | some B'=>(∃ σ,Good B' σ)∧zkK B'∧∀ θ,SolB θ B'↔SolB θ B∧Sol θ E
theorem Out.via {B B1:Bd} {E E1:List (Tm×Tm)} (h:∀ θ,(SolB θ B1∧Sol θ E1)↔(SolB θ B∧Sol θ E)) {o:Option Bd} (ho:Out B1 E1 o):Out B E o:=by
 cases o with
 | none=>exact fun θ h1 h2=>ho θ ((h θ).2 ⟨h1,h2⟩).1 ((h θ).2 ⟨h1,h2⟩).2
 | some B'=>exact ⟨ho.1,ho.2.1,fun θ=>(ho.2.2 θ).trans (h θ)⟩
theorem Out.done {B:Bd} {σ:Sb} (h:Good B σ) (hs:zkK B):Out B [] (some B):=⟨⟨σ,h⟩,hs,fun _=>⟨fun h=>⟨h,Sol.nil⟩,fun h=>h.1⟩⟩
theorem zLv {θ:Sb} {c d:Nat} {as bs:List Tm}:(Tm.f c as).sub θ=(Tm.f d bs).sub θ↔c=d∧zb6 θ as=zb6 θ bs:=by
 simp [Tm.sub]
end
end Go.Abs.Q
namespace Go.Abs.Q
open Go Go.Abs
section
abbrev PI:=List Int×Int
abbrev PO:=Option jI×Int
def Pc (a0:List zQ) (N:Nat) (p:List Int) (d:Int) (t:Tm):Prop:=∃ u n,Tm.ok a0 24 u∧p=u.codes∧d=((n:Nat):Int)∧n≤N∧t=u.up n∧p.length≤48
def Pr (a0:List zQ) (N:Nat) (p:List Int) (d:Int) (ts:List Tm):Prop:=∃ us n,okR a0 24 us∧p=zD us∧d=((n:Nat):Int)∧n≤N∧ts=us.map (Tm.up n)∧p.length≤48
theorem Pc.size {a0:List zQ} {N:Nat} {p:List Int} {d:Int} {t:Tm} (h:Pc a0 N p d t):t.size=p.length∧t.size≤48:=by
 obtain⟨u,n,h1,rfl,h2,h3,rfl,h4⟩:=h
 rw[Tm.up_size,Tm.codes_len]
 rw[Tm.codes_len] at h4
 exact ⟨rfl,h4⟩
theorem Pc.lt {a0:List zQ} {N:Nat} (hN:N≤24) {p:List Int} {d:Int} {t:Tm} (h:Pc a0 N p d t) {x:Nat} (hx:t.has x):x<48:=by
 obtain⟨u,n,h1,rfl,h2,h3,rfl,h4⟩:=h
 have:=Tm.ok_has _ (Tm.up_ok (d:=n) h1) hx
 omega
theorem Pc.cases {a0:List zQ} {N:Nat} {p:List Int} {d:Int} {t:Tm} (h:Pc a0 N p d t) :
  (∃ k n:Nat,p=[-1 - (k:Int)]∧d=(n:Int)∧k<24∧n≤N∧t = .v (k+n))∨∃ c r ts,p=((c:Nat):Int)::r∧t = .f c ts∧zcp a0 (c:Int)=some ts.length∧Pr a0 N r d ts:=by
 obtain⟨u,n,h1,rfl,h2,h3,rfl,h4⟩:=h
 cases u with
 | v k=>exact .inl ⟨k,n,rfl,h2,h1,h3,rfl⟩
 | f c as =>
  have h4:(zD as).length+1≤48:=h4
  refine .inr ⟨c,zD as,as.map (Tm.up n),rfl,?_,by rw[List.length_map]; exact h1.1,as,n,h1.2,rfl,h2,h3,rfl,by omega⟩
  show Tm.f c (zb6 _ as)=_
  rw[zhW]
  rfl
def Pq (a0:List zQ) (N:Nat) (q:List Int×Int×List Int×Int) (e:Tm×Tm):Prop:=Pc a0 N q.1 q.2.1 e.1∧Pc a0 N q.2.2.1 q.2.2.2 e.2
def PqL (a0:List zQ) (N:Nat):List (List Int×Int×List Int×Int)→List (Tm×Tm)→Prop
 | [],es=>es=[]
 | q::qs,es=>∃ e es',es=e::es'∧Pq a0 N q e∧PqL a0 N qs es'
theorem PqL.append {a0:List zQ} {N:Nat}:{qs:List (List Int×Int×List Int×Int)}→{es:List (Tm×Tm)}→{qs':List (List Int×Int×List Int×Int)}→{es':List (Tm×Tm)}→PqL a0 N qs es→PqL a0 N qs' es'→PqL a0 N (qs++qs') (es++es')
 | [],_,_,_,h,h'=>by have h:_=[]:=h; subst h; exact h'
 | q::qs,_,_,_,h,h'=>by
  obtain⟨e,es,rfl,h1,h2⟩:=h
  exact ⟨e,_,rfl,h1,PqL.append h2 h'⟩
theorem PqL.length {a0:List zQ} {N:Nat}:{qs:List (List Int×Int×List Int×Int)}→{es:List (Tm×Tm)}→PqL a0 N qs es→es.length=qs.length
 | [],_,h=>by have h:_=[]:=h; subst h; rfl
 | q::qs,_,h=>by
  obtain⟨e,es,rfl,h1,h2⟩:=h
  simp [PqL.length h2]
theorem PqL.split {a0:List zQ} {N:Nat}:{qs:List (List Int×Int×List Int×Int)}→{qs':List (List Int×Int×List Int×Int)}→{es:List (Tm×Tm)}→PqL a0 N (qs++qs') es→∃ e1 e2,es=e1++e2∧PqL a0 N qs e1∧PqL a0 N qs' e2
 | [],_,es,h=>⟨[],es,rfl,rfl,h⟩
 | q::qs,_,_,h=>by
  obtain⟨e,es,rfl,h1,h2⟩:=h
  obtain⟨e1,e2,rfl,h3,h4⟩:=PqL.split h2
  exact ⟨e::e1,e2,rfl,⟨e,e1,rfl,h1,h3⟩,h4⟩
def PcO (a0:List zQ) (N:Nat) (e:PO) (o:Option Tm):Prop:=match e.1 with
 | none=>o=none
 | some p=>∃ t,o=some t∧Pc a0 N p e.2 t
structure RepT (a0:List zQ) (N:Nat) (to:List PO) (B:Bd):Prop where
 len:to.length=48
 at_:∀ x e,to[x]? = some e→PcO a0 N e (B x)
 out:∀ x,48≤x→B x=none
theorem RepT.small {a0:List zQ} {N:Nat} {to:List PO} {B:Bd} (h:RepT a0 N to B):zkK B:=by
 intro x t hx
 have hlt:x<48:=by
  rcases Nat.lt_or_ge x 48 with h' | h'
  ·exact h'
  ·rw[h.out x h'] at hx; cases hx
 refine ⟨hlt,?_⟩
 have hl:x<to.length:=by rw[h.len]; exact hlt
 have hg:to[x]? = some to[x]:=List.getElem?_eq_getElem hl
 have:=h.at_ x _ hg
 unfold PcO at this
 split at this
 ·rw[hx] at this; cases this
 ·obtain⟨u,h1,h2⟩:=this
  rw[hx] at h1; injection h1 with h1; subst h1
  exact h2.size.2
theorem RepT.get {a0:List zQ} {N:Nat} {to:List PO} {B:Bd} (h:RepT a0 N to B) {x:Nat} (hx:x<48):∃ e,to[x]? = some e∧PcO a0 N e (B x):=by
 have hl:x<to.length:=by rw[h.len]; exact hx
 have hg:to[x]? = some to[x]:=List.getElem?_eq_getElem hl
 exact ⟨_,hg,h.at_ x _ hg⟩
theorem RepT.set {a0:List zQ} {N:Nat} {to:List PO} {B:Bd} (h:RepT a0 N to B) {x:Nat} (hx:x<48) {p:List Int} {d:Int} {t:Tm} (hp:Pc a0 N p d t):RepT a0 N (to.set x (some p,d)) (zCq B x t) where
 len:=by rw[List.length_set]; exact h.len
 at_:=fun y e hy=>by
  by_cases he:y=x
  ·subst he
   rw[List.getElem?_set_self (by rw[h.len]; exact hx)] at hy
   injection hy with hy
   subst hy
   rw[zc4]
   exact ⟨t,rfl,hp⟩
  ·rw[List.getElem?_set_ne (Ne.symm he)] at hy
   rw[zfr _ _ he]
   exact h.at_ y e hy
 out:=fun y hy=>by
  rw[zfr _ _ (by omega)]
  exact h.out y hy
theorem ziL {N:Nat} (hN:N≤24) {k n:Nat} (hk:k<24) (hn:n≤N) (p:List Int):yR p (n:Int) (-1 - (k:Int))=some ((k+n:Nat):Int):=by
 unfold yR
 rw[zbB (by omega) (by omega),Option.bind_some]
 congr 1
 rw[zT]<;>omega
def zhq:Tm→Nat
 | .v x=>x+2
 | .f _ _=>1
theorem zAR {a0:List zQ} {N:Nat} (hN:N≤24) {to:List PO} {B:Bd} {σ:Sb} (hT:RepT a0 N to B) (hG:Good B σ):∀(m k:Nat) (p:List Int) (d:Int) (t:Tm) (z:Int),zhq t≤m→m≤k→Pc a0 N p d t →
  ∃ p' d' t',lp zaA k (a0,to,p,d,z)=some (p',d')∧Pc a0 N p' d' t'∧(∀ θ,SolB θ B→t.sub θ=t'.sub θ)∧∀ y,t' = .v y→B y=none:=by
 intro m
 induction m with
 | zero=>intro k p d t z hm; cases t<;>simp [zhq] at hm
 | succ m ih =>
  intro k p d t z hm hk hp
  obtain⟨k,rfl⟩:∃ k',k=k'+1:=⟨k - 1,by omega⟩
  rw[zk]
  have key:=fun p d t (h1:zhq t≤m) h2=>ih k p d t z h1 (by omega) h2
  generalize lp zaA k=rec at key ⊢
  unfold zaA
  rcases hp.cases with ⟨x,n,rfl,rfl,hx,hn,rfl⟩ | ⟨c,r,ts,rfl,rfl,hc,hr⟩
  ·simp only[qK,List.getElem?_cons_zero,Option.bind_some]
   rw[decide_eq_true (show -1 - (x:Int)<0 by omega),cond_true,ziL hN hx hn,Option.bind_some,zap (by omega),Option.bind_some]
   obtain⟨e,he,hpe⟩:=hT.get (x:=x+n) (by omega)
   rw[he,Option.bind_some]
   unfold PcO at hpe
   split at hpe
   ·rename_i h1
    rw[h1]
    exact ⟨_,_,_,rfl,hp,fun θ _=>rfl,fun y hy=>by injection hy with hy; rw[← hy]; exact hpe⟩
   ·rename_i q h1
    obtain⟨u,hu,hq⟩:=hpe
    rw[h1]
    simp only[Option.isNone_some,cond_false,Option.getD_some]
    obtain⟨p',d',t',h2,h3,h4,h5⟩:=key q e.2 u (by
     cases u with
     | v y=>have:=hG.down _ y hu; simp only[zhq] at hm ⊢; omega
     | f c as=>simp only[zhq] at hm ⊢; omega) hq
    exact ⟨p',d',t',h2,h3,fun θ hθ=>(hθ _ u hu).trans (h4 θ hθ),h5⟩
  ·simp only[qK,List.getElem?_cons_zero,Option.bind_some]
   rw[decide_eq_false (show ¬(c:Int)<0 by omega),cond_false]
   exact ⟨_,_,_,rfl,hp,fun θ _=>rfl,fun y hy=>by cases hy⟩
theorem zqb {a0:List zQ} {N:Nat} (hN:N≤24) {to:List PO} {B:Bd} {σ:Sb} (hT:RepT a0 N to B) (hG:Good B σ) {p:List Int} {d:Int} {t:Tm} (hp:Pc a0 N p d t) :
  ∃ p' d' t',za6 p d a0 to=some (p',d')∧Pc a0 N p' d' t'∧(∀ θ,SolB θ B→t.sub θ=t'.sub θ)∧∀ y,t' = .v y→B y=none:=by
 obtain⟨p',d',t',h1,h2⟩:=zAR hN hT hG (zhq t) zp p d t 0 (Nat.le_refl _) (by
  cases t with
  | v x=>have:=hp.lt hN (x:=x) rfl; simp only[zhq]; unfold zp; omega
  | f c as=>simp only[zhq]; unfold zp; omega) hp
 refine ⟨p',d',t',?_,h2⟩
 unfold za6
 rw[h1]
 rfl
section
variable {a0:List zQ} {N:Nat} {to:List PO} {B:Bd} {σ:Sb} {v:Nat}
def DoneV (B:Bd) (v:Nat) (seen:List Bool) (y:Nat):Prop:=y≠v∧(B y≠none→seen[y]? = some true)
def PcL (a0:List zQ) (N:Nat):List PI→List Tm→Prop
 | [],ts=>ts=[]
 | p::ps,ts=>∃ t ts',ts=t::ts'∧Pc a0 N p.1 p.2 t∧PcL a0 N ps ts'
theorem PcL.append:{ps:List PI}→{ts:List Tm}→{ps':List PI}→{ts':List Tm}→PcL a0 N ps ts→PcL a0 N ps' ts'→PcL a0 N (ps++ps') (ts++ts')
 | [],_,_,_,h,h'=>by have h:_=[]:=h; subst h; exact h'
 | q::qs,_,_,_,h,h'=>by
  obtain⟨e,es,rfl,h1,h2⟩:=h
  exact ⟨e,_,rfl,h1,PcL.append h2 h'⟩
theorem PcL.split:{ps:List PI}→{ps':List PI}→{ts:List Tm}→PcL a0 N (ps++ps') ts→∃ t1 t2,ts=t1++t2∧PcL a0 N ps t1∧PcL a0 N ps' t2
 | [],_,ts,h=>⟨[],ts,rfl,rfl,h⟩
 | q::qs,_,_,h=>by
  obtain⟨e,es,rfl,h1,h2⟩:=h
  obtain⟨e1,e2,rfl,h3,h4⟩:=PcL.split h2
  exact ⟨e::e1,e2,rfl,⟨e,e1,rfl,h1,h3⟩,h4⟩
theorem PcL.length:{ps:List PI}→{ts:List Tm}→PcL a0 N ps ts→ts.length=ps.length
 | [],_,h=>by have h:_=[]:=h; subst h; rfl
 | q::qs,_,h=>by
  obtain⟨e,es,rfl,h1,h2⟩:=h
  simp [PcL.length h2]
def zgQ (seen:List Bool):Nat:=seen.countP fun b => !b
theorem zup {seen:List Bool} {x:Nat} (h:seen[x]? = some false):zgQ (seen.set x true)+1=zgQ seen:=by
 unfold zgQ
 obtain⟨hx,he⟩:=List.getElem?_eq_some_iff.1 h
 have h1:=List.take_append_drop x seen
 have h2:seen.drop x=false::seen.drop (x+1):=by rw[List.drop_eq_getElem_cons hx,he]
 have h3:seen.set x true=seen.take x++true::seen.drop (x+1):=by rw[List.set_eq_take_append_cons_drop,if_pos hx]
 conv=>rhs; rw[← h1,h2]
 rw[h3]
 simp [List.countP_append,List.countP_cons]
 omega
theorem zmt (hN:N≤24) (hT:RepT a0 N to B) {n:Nat} (hn:n≤N) (p0:List Int):∀(es:List Int) (seen:List Bool) (todo:List PI) (ts:List Tm),(∀ c∈es,-24≤c)→seen.length=48→todo.length+zgQ seen≤1000→PcL a0 N todo ts →
  (zv (v:Int) to p0 (n:Int) es seen todo=some (.inr true)∧∃ c∈es,c<0∧(-1 - c).toNat+n=v) ∨
  ∃ seen' more us,zv (v:Int) to p0 (n:Int) es seen todo=some (.inl (seen',todo++more))∧seen'.length=48∧more.length+zgQ seen'=zgQ seen∧PcL a0 N more us ∧
   (∀ y:Nat,seen[y]? = some true→seen'[y]? = some true)∧(∀ c∈es,c<0→DoneV B v seen' ((-1 - c).toNat+n))∧(∀ y:Nat,seen'[y]? = some true→seen[y]? = some true∨∃ u,B y=some u∧u∈us) ∧
   (∀ u∈us,∃ c∈es,c<0∧B ((-1 - c).toNat+n)=some u)
 | [],seen,todo,ts,_,hs,_,_=>.inr ⟨seen,[],[],by rw[List.append_nil]; rfl,hs,by simp,rfl,fun _ h=>h,fun c h=>(nomatch h),fun y h=>.inl h,fun u h=>(nomatch h)⟩
 | e::es,seen,todo,ts,hc,hs,hl,hp=>by
  have he:=hc e (List.mem_cons_self ..)
  have hc':∀ c∈es,-24≤c:=fun c h=>hc c (List.mem_cons_of_mem _ h)
  -- the variable is passed over
  have pass:∀ f:List Bool→List PI→Option ((List Bool×List PI)⊕Bool),f seen todo=zv (v:Int) to p0 (n:Int) es seen todo→(e<0→DoneV B v seen ((-1 - e).toNat+n)) →
    ((f seen todo=some (.inr true)∧∃ c∈e::es,c<0∧(-1 - c).toNat+n=v) ∨
    ∃ seen' more us,f seen todo=some (.inl (seen',todo++more))∧seen'.length=48∧more.length+zgQ seen'=zgQ seen∧PcL a0 N more us ∧
     (∀ y:Nat,seen[y]? = some true→seen'[y]? = some true)∧(∀ c∈e::es,c<0→DoneV B v seen' ((-1 - c).toNat+n))∧(∀ y:Nat,seen'[y]? = some true→seen[y]? = some true∨∃ u,B y=some u∧u∈us) ∧
     (∀ u∈us,∃ c∈e::es,c<0∧B ((-1 - c).toNat+n)=some u)):=by
   intro f hf hd
   rw[hf]
   rcases zmt hN hT hn p0 es seen todo ts hc' hs hl hp with ⟨h1,c,h2,h3⟩ | ⟨seen',more,us,h1,h2,h3,h4,h5,h6,h7,h8⟩
   ·exact .inl ⟨h1,c,List.mem_cons_of_mem _ h2,h3⟩
   ·refine .inr ⟨seen',more,us,h1,h2,h3,h4,h5,fun c hcm hc0 => ?_,h7,fun u hu => ?_⟩
    ·rcases List.mem_cons.1 hcm with rfl | hcm
     ·exact ⟨(hd hc0).1,fun hb=>h5 _ ((hd hc0).2 hb)⟩
     ·exact h6 c hcm hc0
    ·obtain⟨c,h9,h10⟩:=h8 u hu
     exact ⟨c,List.mem_cons_of_mem _ h9,h10⟩
  unfold zv
  by_cases h0:e≥0
  ·rw[decide_eq_true h0,cond_true]
   exact pass (fun seen todo=>zv (v:Int) to p0 (n:Int) es seen todo) rfl fun h=>by omega
  ·rw[decide_eq_false h0,cond_false]
   obtain⟨k,hk,rfl⟩:∃ k:Nat,k<24∧e = -1 - (k:Int):=⟨(-1 - e).toNat,by omega,by omega⟩
   have hk2:(-1 - (-1 - (k:Int))).toNat=k:=by omega
   rw[ziL hN hk hn,Option.bind_some]
   by_cases hv:k+n=v
   ·rw[hv,show (((v:Nat):Int)==(v:Int))=true from by simp,cond_true]
    exact .inl ⟨rfl,_,List.mem_cons_self ..,by omega,by rw[hk2]; exact hv⟩
   ·rw[show (((k+n:Nat):Int)==(v:Int))=false from by simp; omega,cond_false,zap (show k+n<48 by omega),Option.bind_some]
    obtain⟨b,hb⟩:∃ b,seen[k+n]? = some b:=⟨seen[k+n]'(by omega),List.getElem?_eq_getElem (by omega)⟩
    rw[hb,Option.bind_some]
    obtain⟨q,hq,hpq⟩:=hT.get (x:=k+n) (by omega)
    cases b with
    | true =>
     simp only[Bool.not_true,cond_false]
     exact pass (fun seen todo=>zv (v:Int) to p0 (n:Int) es seen todo) rfl fun _=>by rw[hk2]; exact ⟨hv,fun _=>hb⟩
    | false =>
     simp only[Bool.not_false,cond_true,Option.bind_some,hq]
     unfold PcO at hpq
     split at hpq
     ·rename_i h1
      rw[h1]
      simp only[Option.isNone_none,Bool.not_true,cond_false]
      exact pass (fun seen todo=>zv (v:Int) to p0 (n:Int) es seen todo) rfl fun _=>by rw[hk2]; exact ⟨hv,fun hn=>absurd hpq hn⟩
     ·rename_i q1 h1
      obtain⟨u,hu,hpu⟩:=hpq
      rw[h1]
      simp only[Option.isNone_some,Bool.not_false,cond_true,Option.getD_some,hb,Option.bind_some]
      have hun:=zup hb
      rw[zP (show (todo.length+([(q1,q.2)]:List PI).length)*32≤140737488351232 by simp; omega),cond_true]
      have hset:(seen.set (k+n) true)[k+n]? = some true:=List.getElem?_set_self (by omega)
      have hmono:∀ y:Nat,seen[y]? = some true→(seen.set (k+n) true)[y]? = some true:=fun y hy=>by
       by_cases hyk:y=k+n
       ·subst hyk; exact hset
       ·rw[List.getElem?_set_ne (Ne.symm hyk)]; exact hy
      have hbk:∀ y:Nat,(seen.set (k+n) true)[y]? = some true→seen[y]? = some true∨y=k+n:=fun y hy=>by
       by_cases hyk:y=k+n
       ·exact .inr hyk
       ·rw[List.getElem?_set_ne (Ne.symm hyk)] at hy; exact .inl hy
      rcases zmt hN hT hn p0 es (seen.set (k+n) true) (todo++[(q1,q.2)]) (ts++[u]) hc' (by rw[List.length_set]; exact hs) (by simp; omega) (hp.append ⟨u,[],rfl,hpu,rfl⟩) with ⟨h2,c,h3,h4⟩ | ⟨seen',more,us,h2,h3,h4,h5,h6,h7,h8,h9⟩
      ·exact .inl ⟨h2,c,List.mem_cons_of_mem _ h3,h4⟩
      ·refine .inr ⟨seen',(q1,q.2)::more,u::us,by rw[h2,List.append_assoc]; rfl,h3,by simp; omega,⟨u,us,rfl,hpu,h5⟩,fun y hy=>h6 y (hmono y hy),fun c hcm hc0 => ?_,fun y hy => ?_,fun w hw => ?_⟩
       ·rcases List.mem_cons.1 hcm with rfl | hcm
        ·rw[hk2]; exact ⟨hv,fun _=>h6 _ hset⟩
        ·exact h7 c hcm hc0
       ·rcases h8 y hy with h10 | ⟨w,h10,h11⟩
        ·rcases hbk y h10 with h12 | rfl
         ·exact .inl h12
         ·exact .inr ⟨u,hu,List.mem_cons_self ..⟩
        ·exact .inr ⟨w,h10,List.mem_cons_of_mem _ h11⟩
       ·rcases List.mem_cons.1 hw with rfl | hw
        ·exact ⟨_,List.mem_cons_self ..,by omega,by rw[hk2]; exact hu⟩
        ·obtain⟨c,h10,h11⟩:=h9 w hw
         exact ⟨c,List.mem_cons_of_mem _ h10,h11⟩
theorem Pc.vars {p:List Int} {d:Int} {t:Tm} (h:Pc a0 N p d t):∃ n:Nat,d=(n:Int)∧n≤N∧(∀ c∈p,-24≤c)∧∀ y,t.has y↔∃ c∈p,c<0∧(-1 - c).toNat+n=y:=by
 obtain⟨u,n,h1,rfl,h2,h3,rfl,h4⟩:=h
 refine ⟨n,h2,h3,fun c hc => ?_,fun y => ?_⟩
 ·by_cases h0:c<0
  ·have:=Tm.ok_has u h1 ((Tm.mem_codes h0 u).1 hc); omega
  ·omega
 ·rw[Tm.up_has]
  constructor
  ·rintro⟨x,hx,rfl⟩
   have hc:(-1 - (x:Int))<0:=by omega
   refine ⟨-1 - (x:Int),(Tm.mem_codes hc u).2 (by rw[show (-1 - (-1 - (x:Int))).toNat=x from by omega]; exact hx),hc,by omega⟩
  ·rintro⟨c,hc,h0,rfl⟩
   exact ⟨_,(Tm.mem_codes h0 u).1 hc,rfl⟩
structure WInv (B:Bd) (σ:Sb) (v:Nat) (t:Tm) (seen:List Bool) (ts:List Tm):Prop where
 snd:∀ u∈ts,(u.sub σ).has v→(t.sub σ).has v
 top:t∈ts∨∀ y,t.has y→DoneV B v seen y
 cls:∀ x u,seen[x]? = some true→B x=some u→u∈ts∨∀ y,u.has y→DoneV B v seen y
theorem DoneV.mono {seen seen':List Bool} (h:∀ y:Nat,seen[y]? = some true→seen'[y]? = some true) {y:Nat} (hd:DoneV B v seen y):DoneV B v seen' y:=⟨hd.1,fun hb=>h y (hd.2 hb)⟩
theorem zt1 (hN:N≤24) (hT:RepT a0 N to B) (hG:Good B σ) (hv:B v=none) (t:Tm):∀(m k:Nat) (seen:List Bool) (todo:List PI) (ts:List Tm) (z:List Int) (z2:Int),todo.length+zgQ seen=m→m<k→m≤100→seen.length=48→PcL a0 N todo ts→WInv B σ v t seen ts →
  ∃ r,lp qQ k ((v:Int),a0,to,z,z2,seen,todo)=some r∧((r = .inr true∧(t.sub σ).has v)∨(r = .inl ()∧¬(t.sub σ).has v)):=by
 intro m
 induction m using Nat.strongRecOn with
 | _ m ih =>
  intro k seen todo ts z z2 hm hk hm1 hs hp hI
  obtain⟨k,rfl⟩:∃ k',k=k'+1:=⟨k - 1,by omega⟩
  rw[zk]
  have key:=fun (m':Nat) (h:m'<m) seen todo ts z z2 h1 h2 h3 h4=>ih m' h k seen todo ts z z2 h1 (by omega) (by omega) h2 h3 h4
  generalize lp qQ k=rec at key ⊢
  unfold qQ
  rcases List.eq_nil_or_concat todo with rfl | ⟨todo',p,rfl⟩
  ·have hts:ts=[]:=hp
   subst hts
   refine ⟨_,rfl,.inr ⟨rfl,?_⟩⟩
   have hcl:∀ x u,seen[x]? = some true→B x=some u→∀ y,u.has y→DoneV B v seen y:=fun x u h1 h2=>(hI.cls x u h1 h2).resolve_left (fun h=>nomatch h)
   have hno:∀ x,DoneV B v seen x→¬(σ x).has v:=by
    refine hG.ind (fun x hx hd hh => ?_) fun x u hx ihx hd hh => ?_
    ·rw[hG.free x hx] at hh
     exact hd.1 hh
    ·rw[hG.bound x u hx] at hh
     obtain⟨y,h1,h2⟩:=(Tm.has_sub u).1 hh
     exact ihx y h1 (hcl x u (hd.2 (by rw[hx]; simp)) hx y h1) h2
   intro hh
   obtain⟨y,h1,h2⟩:=(Tm.has_sub t).1 hh
   exact hno y ((hI.top.resolve_left fun h=>nomatch h) y h1) h2
  ·rw[List.concat_eq_append] at *
   obtain⟨ts',us0,rfl,hp1,hp2⟩:=PcL.split hp
   obtain⟨u0,us1,rfl,hu0,hus1⟩:=hp2
   have hus1:us1=[]:=hus1
   subst hus1
   simp only[List.length_append,List.length_singleton] at hm
   obtain⟨q,d⟩:=p
   obtain⟨n,rfl,hn,hcs,hvars⟩:=hu0.vars
   have e1:IntKind.wrap .i64 (((List.length (todo'++[(q,(n:Int))]):Nat):Int) - 1)=((todo'.length:Nat):Int):=by
    rw[List.length_append,List.length_singleton,zT]<;>omega
   have e2:inR ((todo'.length:Nat):Int) (List.length (todo'++[(q,(n:Int))]))=some todo'.length:=zap (by simp)
   have e3:(todo'++[(q,(n:Int))])[todo'.length]? = some (q,(n:Int)):=zpr _ [] _
   have e4:decide (((List.length (todo'++[(q,(n:Int))]):Nat):Int)>0)=true:=decide_eq_true (by rw[List.length_append,List.length_singleton]; omega)
   simp only[e1,e2,e3,e4,Option.bind_some,cond_true,zsM]
   have hsz:u0.size=q.length∧u0.size≤48:=hu0.size
   rw[zec _ _ _ _ _ _ _ _ (by unfold maxLen; omega)]
   rcases zmt (v:=v) hN hT hn q q seen todo' ts' hcs hs (by omega) hp1 with ⟨h1,c,h2,h3,h4⟩ | ⟨seen',more,us,h1,h2,h3,h4,h5,h6,h7,h8⟩
   ·rw[h1]
    refine ⟨_,rfl,.inl ⟨rfl,hI.snd u0 (by simp) ?_⟩⟩
    refine (Tm.has_sub u0).2 ⟨v,(hvars v).2 ⟨c,h2,h3,h4⟩,?_⟩
    rw[hG.free v hv]
    rfl
   ·rw[h1]
    simp only[Option.bind_some,zcr]
    refine key (todo'.length+more.length+zgQ seen') (by omega) seen' (todo'++more) (ts'++us) q (n:Int) (by simp) h2 (hp1.append h4) ⟨fun w hw hh => ?_,?_,fun x w hx hw => ?_⟩
    ·rcases List.mem_append.1 hw with hw | hw
     ·exact hI.snd w (by simp [hw]) hh
     ·obtain⟨c,h9,h10,h11⟩:=h8 w hw
      refine hI.snd u0 (by simp) ((Tm.has_sub u0).2 ⟨_,(hvars _).2 ⟨c,h9,h10,rfl⟩,?_⟩)
      rw[hG.bound _ w h11]
      exact hh
    ·have hdone:∀ y,u0.has y→DoneV B v seen' y:=fun y hy=>by
      obtain⟨c,h9,h10,rfl⟩:=(hvars y).1 hy
      exact h6 c h9 h10
     rcases hI.top with ht | ht
     ·rcases List.mem_append.1 ht with ht | ht
      ·exact .inl (by simp [ht])
      ·rw[List.mem_singleton.1 ht]; exact .inr hdone
     ·exact .inr fun y hy=>(ht y hy).mono h5
    ·have hdone:∀ y,u0.has y→DoneV B v seen' y:=fun y hy=>by
      obtain⟨c,h9,h10,rfl⟩:=(hvars y).1 hy
      exact h6 c h9 h10
     rcases h7 x hx with h9 | ⟨w',h9,h10⟩
     ·rcases hI.cls x w h9 hw with ht | ht
      ·rcases List.mem_append.1 ht with ht | ht
       ·exact .inl (by simp [ht])
       ·rw[List.mem_singleton.1 ht]; exact .inr hdone
      ·exact .inr fun y hy=>(ht y hy).mono h5
     ·rw[hw] at h9; injection h9 with h9; subst h9
      exact .inl (by simp [h10])
theorem zss (hN:N≤24) (hT:RepT a0 N to B) (hG:Good B σ) (hv:B v=none) {p:List Int} {d:Int} {t:Tm} (hp:Pc a0 N p d t) :
  ∃ r,zb8 (v:Int) p d a0 to=some r∧(r=true↔(t.sub σ).has v):=by
 have hun:zgQ (List.replicate 48 false)=48:=by decide
 obtain⟨r,h1,h2⟩:=zt1 hN hT hG hv t 49 zp (List.replicate 48 false) [(p,d)] [t] p d (by rw[hun]; rfl) (by unfold zp; omega) (by omega) (by simp) ⟨t,[],rfl,hp,rfl⟩
  ⟨fun u hu h=>by rw[List.mem_singleton.1 hu] at h; exact h,.inl (by simp),fun x u hx _=>by
   rw[List.getElem?_replicate] at hx
   split at hx<;>simp at hx⟩
 unfold zb8
 rw[h1]
 rcases h2 with ⟨rfl,h2⟩ | ⟨rfl,h2⟩
 ·exact ⟨true,rfl,by simp [h2]⟩
 ·exact ⟨false,rfl,by simp [h2]⟩
end
end
end Go.Abs.Q
namespace Go.Abs.Q
open Go Go.Abs
section
mutual
def Tm.ht:Tm→Nat
 | .v _=>1
 | .f _ as=>htR as+1
def htR:List Tm→Nat
 | []=>0
 | t::ts=>max t.ht (htR ts)
end
mutual
theorem Tm.ht_size:(t:Tm)→t.ht≤t.size
 | .v _=>Nat.le_refl _
 | .f _ as=>by have:=zts as; simp only[Tm.ht,Tm.size]; omega
theorem zts:(ts:List Tm)→htR ts≤zbu ts
 | []=>Nat.le_refl _
 | t::ts=>by have:=t.ht_size; have:=zts ts; simp only[htR,zbu]; omega
end
mutual
theorem Tm.ht_sub {s:Sb} {M:Nat}:(t:Tm)→(∀ x,t.has x→(s x).ht≤M)→(t.sub s).ht≤t.ht+M
 | .v n,h=>by have:=h n rfl; simp only[Tm.sub,Tm.ht]; omega
 | .f _ as,h=>by have:=zAj as h; simp only[Tm.sub,Tm.ht]; omega
theorem zAj {s:Sb} {M:Nat}:(ts:List Tm)→(∀ x,zl9 x ts→(s x).ht≤M)→htR (zb6 s ts)≤htR ts+M
 | [],_=>by simp [zb6,htR]
 | t::ts,h=>by
  have h1:=Tm.ht_sub t fun x hx=>h x (.inl hx)
  have h2:=zAj ts fun x hx=>h x (.inr hx)
  simp only[zb6,htR]; omega
end
theorem zsi:{ts:List Tm}→{t:Tm}→t∈ts→t.ht≤htR ts
 | u::us,t,h=>by
  rcases List.mem_cons.1 h with rfl | h
  ·simp only[htR]; omega
  ·have:=zsi h; simp only[htR]; omega
theorem Good.rank_lt {B:Bd} {σ:Sb} (h:Good B σ) {x y:Nat} {t:Tm} (hx:B x=some t) (hy:t.has y) (h48:y<48):Good.rank σ y<Good.rank σ x:=by
 have hlt:Good.less σ y x=true:=by
  unfold Good.less
  have hs:=h.bound x t hx
  cases t with
  | v z =>
   have hz:z=y:=hy
   subst hz
   have h2:=h.down x z hx
   have h3:(σ z).size=(σ x).size:=by rw[hs]; rfl
   simp [h3,h2]
  | f c as =>
   have h2:=ze4 (s:=σ) as hy
   have h3:(σ x).size=zbu (zb6 σ as)+1:=by rw[hs]; rfl
   rw[decide_eq_true (show (σ y).size<(σ x).size by omega)]
   rfl
 refine zmr (a:=y) (List.mem_range.2 h48) (fun z _ hz => ?_) (by simp [Good.less]) hlt
 simp only[Good.less,Bool.or_eq_true,Bool.and_eq_true,decide_eq_true_eq] at hz hlt ⊢
 omega
theorem Good.rank_le (σ:Sb) (x:Nat):Good.rank σ x≤48:=by
 have:Good.rank σ x≤(List.range 48).length:=List.countP_le_length
 rwa [List.length_range] at this
theorem Good.low {B:Bd} {σ:Sb} (h:Good B σ) (hb:zkK B):∀ x,(σ x).ht≤49*49:=by
 have key:∀ x,B x≠none→(σ x).ht≤49*(Good.rank σ x+1):=by
  refine h.ind (fun x hx hn=>absurd hx hn) fun x t hx ih _ => ?_
  obtain⟨hx48,ht⟩:=hb x t hx
  rw[h.bound x t hx]
  have h0:=t.ht_size
  have:=Tm.ht_sub (s:=σ) (M:=49*Good.rank σ x+1) t fun y hy=>(by
   cases hy0:B y with
   | none=>rw[h.free y hy0]; simp only[Tm.ht]; omega
   | some u =>
    have h1:=ih y hy (by rw[hy0]; simp)
    have h2:=h.rank_lt hx hy (hb y u hy0).1
    have:49*(Good.rank σ y+1)≤49*Good.rank σ x:=Nat.mul_le_mul_left _ (by omega)
    omega)
  omega
 intro x
 by_cases hx:B x=none
 ·rw[h.free x hx]; simp [Tm.ht]
 ·have h1:=key x hx
  have h2:=Good.rank_le σ x
  have:49*(Good.rank σ x+1)≤49*49:=Nat.mul_le_mul_left _ (by omega)
  omega
def zLF (n m:Nat) (us ws:List Tm):List (List Int×Int×List Int×Int):=List.zipWith (fun a b=>(a.codes,(n:Int),b.codes,(m:Int))) us ws
theorem zi4 {ts:List Tm} {t:Tm} (h:t∈ts):t.codes.length≤(zD ts).length:=by
 obtain⟨l1,l2,rfl⟩:=List.append_of_mem h
 rw[zkb]
 simp [zD]
 omega
theorem zs5 {a0:List zQ} {N n m:Nat} (hn:n≤N) (hm:m≤N):{us ws:List Tm}→okR a0 24 us→okR a0 24 ws→(∀ t∈us,t.codes.length≤48)→(∀ t∈ws,t.codes.length≤48) →
  PqL a0 N (zLF n m us ws) ((us.map (Tm.up n)).zip (ws.map (Tm.up m)))
 | [],_,_,_,_,_=>rfl
 | _::_,[],_,_,_,_=>rfl
 | u::us,w::ws,hu,hw,hlu,hlw =>
  ⟨(u.up n,w.up m),_,rfl,⟨⟨u,n,hu.1,rfl,rfl,hn,rfl,hlu u (List.mem_cons_self ..)⟩,⟨w,m,hw.1,rfl,rfl,hm,rfl,hlw w (List.mem_cons_self ..)⟩⟩,
   zs5 hn hm hu.2 hw.2 (fun t h=>hlu t (List.mem_cons_of_mem _ h)) fun t h=>hlw t (List.mem_cons_of_mem _ h)⟩
theorem zpG (ps2:List jI) (n m:Nat):(us ws:List Tm)→(i:Nat)→(out:List (List Int×Int×List Int×Int))→ps2.drop i=ws.map Tm.codes→us.length=ws.length→out.length+us.length≤1000000 →
  zY ps2 (n:Int) (m:Int) (us.map Tm.codes) i out=some (out++zLF n m us ws)
 | [],ws,i,out,_,_,_=>by simp [zY,zLF]
 | u::us,[],i,out,_,h,_=>by simp at h
 | u::us,w::ws,i,out,h,hl,hr=>by
  simp only[List.length_cons] at hl hr
  rw[List.map_cons] at h
  rw[List.map_cons]
  unfold zY
  rw[zJ,zj h,Option.bind_some,zP (by simp only[List.length_singleton]; omega),cond_true,zpG ps2 n m us ws (i+1) _ (zh h) (by omega) (by simp only[List.length_append,List.length_singleton]; omega)]
  simp [zLF]
theorem zno {a0:List zQ} (h:SignOk a0) {N:Nat} {p q:List Int} {d e:Int} {ts us:List Tm} (hp:Pr a0 N p d ts) (hq:Pr a0 N q e us) (hl:ts.length=us.length) (to:List PO) {out:List (List Int×Int×List Int×Int)} (ho:out.length≤100000) :
  ∃ more,qN p d q e a0 to out=some (out++more)∧PqL a0 N more (ts.zip us):=by
 obtain⟨us0,n,h1,rfl,rfl,h2,rfl,h3⟩:=hp
 obtain⟨ws0,m,h4,rfl,rfl,h5,rfl,h6⟩:=hq
 simp only[List.length_map] at hl
 have hls:us0.length≤48:=by
  have:=zkS (zaM us0 h1)
  rw[List.length_map] at this
  omega
 refine ⟨zLF n m us0 ws0,?_,zs5 h2 h5 h1 h4 (fun t ht=>Nat.le_trans (zi4 ht) h3) fun t ht=>Nat.le_trans (zi4 ht) h6⟩
 unfold qN
 rw[zhI h (by omega) (zaM us0 h1),Option.bind_some,zhI h (by omega) (zaM ws0 h4),Option.bind_some,
  zd6 _ _ _ _ _ _ _ (by rw[List.length_map]; unfold maxLen; omega),zpG _ n m us0 ws0 0 out rfl hl (by omega)]
 rfl
theorem zpj {a0:List zQ} {N:Nat} {p:List Int} {d:Int} {t:Tm} (h:Pc a0 N p d t):nn p=some p:=by
 have h1:=h.size
 have h2:=t.size_pos
 cases p with
 | nil=>simp at h1; omega
 | cons x r=>rfl
theorem ztt {a0:List zQ} {N:Nat} (hN:N≤24) {to:List PO} {B:Bd} {σ:Sb} (hT:RepT a0 N to B) (hG:Good B σ) {p q:List Int} {d e:Int} {v:Nat} {u:Tm} (hp:Pc a0 N p d (.v v)) (hq:Pc a0 N q e u) (hv:B v=none) (hu:∀ y,u = .v y→B y=none) :
  ∃ r to',qx p d q e a0 to=some (r,a0,to')∧((r=false∧∀ θ,SolB θ B→θ v=u.sub θ→False)∨(r=true∧∃ B' σ',RepT a0 N to' B'∧Good B' σ'∧∀ θ,SolB θ B'↔SolB θ B∧θ v=u.sub θ)):=by
 have hv48:v<48:=hp.lt hN rfl
 rcases hp.cases with ⟨k,n,rfl,rfl,hk,hn,he⟩ | ⟨_,_,_,_,he,_⟩
 case inr=>cases he
 injection he with he
 subst he
 unfold qx
 simp only[qK,List.getElem?_cons_zero,Option.bind_some,ziL hN hk hn]
 rcases hq.cases with ⟨k2,n2,rfl,rfl,hk2,hn2,rfl⟩ | ⟨c,r,ts,rfl,rfl,hc,hr⟩
 ·simp only[List.getElem?_cons_zero,Option.bind_some,ziL hN hk2 hn2]
  rw[decide_eq_false (show ¬(-1 - (k2:Int)≥0) by omega),cond_false]
  have hw:=hu _ rfl
  by_cases h1:k2+n2>k+n
  ·rw[decide_eq_true (show ((k2+n2:Nat):Int)>((k+n:Nat):Int) by omega),cond_true,zap (by omega),Option.bind_some]
   obtain⟨x,hx,-⟩:=hT.get (x:=k2+n2) (by omega)
   rw[hx,Option.bind_some,zpj hp,Option.bind_some]
   refine ⟨true,_,rfl,.inr ⟨rfl,_,_,hT.set (by omega) hp,hG.bind hw ?_ ?_,fun θ=>(SolB.upd hw).trans ?_⟩⟩
   ·show ¬(σ (k+n)).has (k2+n2)
    rw[hG.free _ hv]
    show ¬(k+n=k2+n2)
    omega
   ·intro y hy
    injection hy with hy
    omega
   ·show _∧θ (k2+n2)=θ (k+n)↔_∧θ (k+n)=θ (k2+n2)
    exact ⟨fun h=>⟨h.1,h.2.symm⟩,fun h=>⟨h.1,h.2.symm⟩⟩
  ·rw[decide_eq_false (show ¬(((k2+n2:Nat):Int)>((k+n:Nat):Int)) by omega),cond_false]
   by_cases h2:k2+n2<k+n
   ·rw[decide_eq_true (show ((k2+n2:Nat):Int)<((k+n:Nat):Int) by omega),cond_true,zap (by omega),Option.bind_some]
    obtain⟨x,hx,-⟩:=hT.get (x:=k+n) (by omega)
    rw[hx,Option.bind_some,zpj hq,Option.bind_some]
    refine ⟨true,_,rfl,.inr ⟨rfl,_,_,hT.set (by omega) hq,hG.bind hv ?_ ?_,fun θ=>SolB.upd hv⟩⟩
    ·show ¬(σ (k2+n2)).has (k+n)
     rw[hG.free _ hw]
     show ¬(k2+n2=k+n)
     omega
    ·intro y hy
     injection hy with hy
     omega
   ·rw[decide_eq_false (show ¬(((k2+n2:Nat):Int)<((k+n:Nat):Int)) by omega),cond_false]
    have:k2+n2=k+n:=by omega
    refine ⟨true,_,rfl,.inr ⟨rfl,B,σ,hT,hG,fun θ=>⟨fun h=>⟨h,?_⟩,fun h=>h.1⟩⟩⟩
    show θ (k+n)=θ (k2+n2)
    rw[this]
 ·simp only[List.getElem?_cons_zero,Option.bind_some]
  rw[decide_eq_true (show (c:Int)≥0 by omega),cond_true]
  obtain⟨w,hw1,hw2⟩:=zss hN hT hG hv hq
  rw[hw1,Option.bind_some]
  cases w with
  | true =>
   refine ⟨false,_,rfl,.inl ⟨rfl,fun θ h1 h2=>hG.occurs (hw2.1 rfl) h1 h2⟩⟩
  | false =>
   rw[cond_false,zap (by omega),Option.bind_some]
   obtain⟨x,hx,-⟩:=hT.get (x:=k+n) (by omega)
   rw[hx,Option.bind_some,zpj hq,Option.bind_some]
   refine ⟨true,_,rfl,.inr ⟨rfl,_,_,hT.set (by omega) hq,hG.bind hv (fun h=>by have:=hw2.2 h; cases this) (fun y hy=>by cases hy),fun θ=>SolB.upd hv⟩⟩
end
end Go.Abs.Q
namespace Go.Abs.Q
open Go Go.Abs
section
def wt (σ:Sb) (E:List (Tm×Tm)):Nat:=(E.map fun e=>(e.1.sub σ).size).sum
theorem zmh (σ:Sb) (E F:List (Tm×Tm)):wt σ (E++F)=wt σ E+wt σ F:=by simp [wt]
theorem zEN (σ:Sb) (e:Tm×Tm):wt σ [e]=(e.1.sub σ).size:=by simp [wt]
theorem zvi (σ:Sb):{ts us:List Tm}→ts.length=us.length→wt σ (ts.zip us)=zbu (zb6 σ ts)
 | [],_,_=>rfl
 | _::_,[],h=>by simp at h
 | t::ts,u::us,h=>by
  have:=zvi σ (ts:=ts) (us:=us) (by simpa using h)
  simp only[wt] at this ⊢
  simp only[List.zip_cons_cons,List.map_cons,List.sum_cons,zb6,zbu,this]
def HtOk (R:List Tm) (B:Bd) (i:Nat) (t:Tm):Prop:=∃ δ:Nat,i≤47+3*δ∧∀ θ,SolB θ B→∃ c∈R,δ+(t.sub θ).ht≤(c.sub θ).ht
def StkOk (R:List Tm) (B:Bd) (E:List (Tm×Tm)):Prop:=∀(i:Nat) e,E[i]? = some e→HtOk R B i e.1
theorem HtOk.mono {R:List Tm} {B B':Bd} {i:Nat} {t:Tm} (h:HtOk R B i t) (hB:∀ θ,SolB θ B'→SolB θ B):HtOk R B' i t:=by
 obtain⟨δ,h1,h2⟩:=h
 exact ⟨δ,h1,fun θ hθ=>h2 θ (hB θ hθ)⟩
theorem StkOk.mono {R:List Tm} {B B':Bd} {E:List (Tm×Tm)} (h:StkOk R B E) (hB:∀ θ,SolB θ B'→SolB θ B):StkOk R B' E:=fun i e he=>(h i e he).mono hB
theorem StkOk.left {R:List Tm} {B:Bd} {E F:List (Tm×Tm)} (h:StkOk R B (E++F)):StkOk R B E:=fun i e he=>h i e (by
 rw[List.getElem?_append_left (List.getElem?_eq_some_iff.1 he).1]; exact he)
theorem StkOk.len {R:List Tm} {B:Bd} {σ:Sb} {E:List (Tm×Tm)} (h:StkOk R B E) (hG:Good B σ) (hS:zkK B) (hR:∀ c∈R,c.size≤48):E.length≤8000:=by
 rcases Nat.eq_zero_or_pos E.length with h0 | h0
 ·omega
 ·obtain⟨δ,h1,h2⟩:=h (E.length - 1) E[E.length - 1] (List.getElem?_eq_getElem (by omega))
  obtain⟨c,hc,h3⟩:=h2 σ hG.bound
  have h4:=Tm.ht_sub (s:=σ) c fun x _=>hG.low hS x
  have h5:=c.ht_size
  have h6:=hR c hc
  omega
theorem zJB (t:Tm):0<t.ht:=by cases t<;>simp [Tm.ht]
def SameR (a0:List zQ) (N:Nat) (B:Bd) (E:List (Tm×Tm)) (r:Bool×List zQ×List PO):Prop :=
 r.2.1=a0∧((r.1=false∧Out B E none)∨(r.1=true∧∃ B',RepT a0 N r.2.2 B'∧Out B E (some B')))
theorem SameR.via {a0:List zQ} {N:Nat} {B B1:Bd} {E E1:List (Tm×Tm)} (h:∀ θ,(SolB θ B1∧Sol θ E1)↔(SolB θ B∧Sol θ E)) {r:Bool×List zQ×List PO} (hr:SameR a0 N B1 E1 r):SameR a0 N B E r :=
 ⟨hr.1,hr.2.imp (fun h1=>⟨h1.1,Out.via h h1.2⟩) fun ⟨h1,B',h2,h3⟩=>⟨h1,B',h2,Out.via h h3⟩⟩
theorem zC9 {a0:List zQ} (hs:SignOk a0) {N:Nat} (hN:N≤24) (R:List Tm) (hR:∀ c∈R,c.size≤48):∀(n:Nat) (to:List PO) (B:Bd) (σ:Sb) (todo:List (List Int×Int×List Int×Int)) (E:List (Tm×Tm)),
  RepT a0 N to B→Good B σ→PqL a0 N todo E→StkOk R B E →
  (∃ r,(∀ k,lp zI (k+n) (a0,to,todo)=some r)∧SameR a0 N B E r)∨∃ B' σ',Good B' σ'∧zkK B'∧(∀ θ,SolB θ B'→SolB θ B)∧n≤wt σ' E:=by
 intro n
 induction n with
 | zero=>intro to B σ todo E hT hG _ _; exact .inr ⟨B,σ,hG,hT.small,fun _ h=>h,Nat.zero_le _⟩
 | succ n ih =>
  intro to B σ todo E hT hG hP hK
  have hlen:=hK.len hG hT.small hR
  have hpl:=hP.length
  -- one round, and what is left
  have go:∀(to1:List PO) (B1:Bd) (σ1:Sb) (todo1:List (List Int×Int×List Int×Int)) (E1:List (Tm×Tm)),RepT a0 N to1 B1→Good B1 σ1→PqL a0 N todo1 E1→StkOk R B1 E1 →
    (∀ θ,(SolB θ B1∧Sol θ E1)↔(SolB θ B∧Sol θ E))→(∀ θ,SolB θ B1→SolB θ B)→(∀ σ',SolB σ' B1→wt σ' E1+1≤wt σ' E)→(∀ rec,zI rec (a0,to,todo)=rec (a0,to1,todo1)) →
    ((∃ r,(∀ k,lp zI (k+(n+1)) (a0,to,todo)=some r)∧SameR a0 N B E r)∨∃ B' σ',Good B' σ'∧zkK B'∧(∀ θ,SolB θ B'→SolB θ B)∧n+1≤wt σ' E):=by
   intro to1 B1 σ1 todo1 E1 h1 h2 h3 h4 h5 h6 h7 h8
   rcases ih to1 B1 σ1 todo1 E1 h1 h2 h3 h4 with ⟨r,h9,h10⟩ | ⟨B',σ',h9,h10,h11,h12⟩
   ·refine .inl ⟨r,fun k => ?_,h10.via h5⟩
    rw[← Nat.add_assoc,zk,h8]
    exact h9 k
   ·have:=h7 σ' (h11 _ h9.bound)
    exact .inr ⟨B',σ',h9,h10,fun θ hθ=>h6 θ (h11 θ hθ),by omega⟩
  have stop:∀ r,SameR a0 N B E r→(∀ rec,zI rec (a0,to,todo)=some r) →
    ((∃ r,(∀ k,lp zI (k+(n+1)) (a0,to,todo)=some r)∧SameR a0 N B E r)∨∃ B' σ',Good B' σ'∧zkK B'∧(∀ θ,SolB θ B'→SolB θ B)∧n+1≤wt σ' E) :=
   fun r h1 h2=>.inl ⟨r,fun k=>by rw[← Nat.add_assoc,zk,h2],h1⟩
  rcases List.eq_nil_or_concat todo with rfl | ⟨todo',t,rfl⟩
  ·have hE:E=[]:=hP
   subst hE
   exact stop (true,a0,to) ⟨rfl,.inr ⟨rfl,B,hT,Out.done hG hT.small⟩⟩ fun rec=>rfl
  ·rw[List.concat_eq_append] at *
   obtain⟨p,d,q,e⟩:=t
   obtain⟨E',F,rfl,hP',hF⟩:=PqL.split hP
   obtain⟨⟨s,u⟩,F',rfl,⟨hps,hqu⟩,hF'⟩:=hF
   have hF':F'=[]:=hF'
   subst hF'
   have hps:Pc a0 N p d s:=hps
   have hqu:Pc a0 N q e u:=hqu
   obtain⟨p1,d1,s1,hw1,hp1,hs1,hb1⟩:=zqb hN hT hG hps
   obtain⟨q1,e1,u1,hw2,hq1,hu1,hb2⟩:=zqb hN hT hG hqu
   simp only[List.length_append,List.length_singleton] at hlen hpl
   have x1:IntKind.wrap .i64 (((List.length (todo'++[(p,d,q,e)]):Nat):Int) - 1)=((todo'.length:Nat):Int):=by
    rw[List.length_append,List.length_singleton,zT]<;>omega
   have x2:inR ((todo'.length:Nat):Int) (List.length (todo'++[(p,d,q,e)]))=some todo'.length:=zap (by simp)
   have x3:(todo'++[(p,d,q,e)])[todo'.length]? = some (p,d,q,e):=zpr _ [] _
   have x4:(((List.length (todo'++[(p,d,q,e)]):Nat):Int)==0)=false:=by simp; omega
   have hsol:∀ θ,SolB θ B→(Sol θ (E'++[(s,u)])↔Sol θ E'∧s1.sub θ=u1.sub θ):=fun θ hθ=>by
    rw[Sol.append,Sol.cons,hs1 θ hθ,hu1 θ hθ]
    exact ⟨fun h=>⟨h.1,h.2.1⟩,fun h=>⟨h.1,h.2,Sol.nil⟩⟩
   -- one round
   have round:∀ rec,zI rec (a0,to,todo'++[(p,d,q,e)])=(gx p1 0).bind fun e34=>cond (decide (e34<0))
     ((qx p1 d1 q1 e1 a0 to).bind fun r35=>cond r35.1 (rec (r35.2.1,r35.2.2,todo')) (some (false,r35.2.1,r35.2.2)))
     ((gx q1 0).bind fun e36=>cond (decide (e36<0))
      ((qx q1 e1 p1 d1 a0 to).bind fun r37=>cond r37.1 (rec (r37.2.1,r37.2.2,todo')) (some (false,r37.2.1,r37.2.2)))
      ((gx p1 0).bind fun e38=>(gx q1 0).bind fun e39=>cond (e38 != e39) (some (false,a0,to))
       ((zck p1 (some 1) none).bind fun y40=>(zck q1 (some 1) none).bind fun y41=>(qN y40 d1 y41 e1 a0 to todo').bind fun r42=>rec (a0,to,r42)))):=by
    intro rec
    unfold zI
    simp only[x1,x2,x3,x4,Option.bind_some,cond_false,zsM,hw1,hw2]
   have hbind:∀{B1:Bd} {v:Nat} {w:Tm},(∀ θ,SolB θ B1↔SolB θ B∧θ v=w.sub θ)→(∀ θ,SolB θ B→(s1.sub θ=u1.sub θ↔θ v=w.sub θ))→∀ θ,(SolB θ B1∧Sol θ E')↔(SolB θ B∧Sol θ (E'++[(s,u)])):=by
    intro B1 v w h1 h2 θ
    rw[h1 θ]
    constructor
    ·rintro⟨⟨h3,h4⟩,h5⟩
     exact ⟨h3,(hsol θ h3).2 ⟨h5,(h2 θ h3).2 h4⟩⟩
    ·rintro⟨h3,h4⟩
     have h6:=(hsol θ h3).1 h4
     exact ⟨⟨h3,(h2 θ h3).1 h6.2⟩,h6.1⟩
   have hwt:∀ σ',wt σ' E'+1≤wt σ' (E'++[(s,u)]):=fun σ'=>by
    rw[zmh,zEN]
    have:=(s.sub σ').size_pos
    show wt σ' E'+1≤wt σ' E'+(s.sub σ').size
    omega
   rcases hp1.cases with ⟨k1,n1,rfl,rfl,hk1,hn1,rfl⟩ | ⟨c1,r1,ts1,rfl,rfl,hc1,hr1⟩
   ·-- a variable on the left
    obtain⟨r,to1,hput,hres⟩:=ztt hN hT hG hp1 hq1 (hb1 _ rfl) hb2
    rcases hres with ⟨rfl,hno⟩ | ⟨rfl,B1,σ1,hT1,hG1,hB1⟩
    ·refine stop (false,a0,to1) ⟨rfl,.inl ⟨rfl,fun θ h1 h2=>hno θ h1 ((hsol θ h1).1 h2).2⟩⟩ fun rec => ?_
     rw[round,qK,List.getElem?_cons_zero,Option.bind_some,decide_eq_true (show -1 - (k1:Int)<0 by omega),cond_true,hput]
     rfl
    ·refine go to1 B1 σ1 todo' E' hT1 hG1 hP' (hK.left.mono fun θ h=>((hB1 θ).1 h).1) (hbind hB1 fun θ _=>Iff.rfl) (fun θ h=>((hB1 θ).1 h).1) (fun σ' _=>hwt σ') fun rec => ?_
     rw[round,qK,List.getElem?_cons_zero,Option.bind_some,decide_eq_true (show -1 - (k1:Int)<0 by omega),cond_true,hput]
     rfl
   ·rcases hq1.cases with ⟨k2,n2,rfl,rfl,hk2,hn2,rfl⟩ | ⟨c2,r2,ts2,rfl,rfl,hc2,hr2⟩
    ·obtain⟨r,to1,hput,hres⟩:=ztt hN hT hG hq1 hp1 (hb2 _ rfl) hb1
     rcases hres with ⟨rfl,hno⟩ | ⟨rfl,B1,σ1,hT1,hG1,hB1⟩
     ·refine stop (false,a0,to1) ⟨rfl,.inl ⟨rfl,fun θ h1 h2=>hno θ h1 ((hsol θ h1).1 h2).2.symm⟩⟩ fun rec => ?_
      rw[round]
      simp only[qK,List.getElem?_cons_zero,Option.bind_some]
      rw[decide_eq_false (show ¬(c1:Int)<0 by omega),cond_false,decide_eq_true (show -1 - (k2:Int)<0 by omega),cond_true,hput]
      rfl
     ·refine go to1 B1 σ1 todo' E' hT1 hG1 hP' (hK.left.mono fun θ h=>((hB1 θ).1 h).1) (hbind hB1 fun θ _=>⟨fun h=>h.symm,fun h=>h.symm⟩) (fun θ h=>((hB1 θ).1 h).1) (fun σ' _=>hwt σ') fun rec => ?_
      rw[round]
      simp only[qK,List.getElem?_cons_zero,Option.bind_some]
      rw[decide_eq_false (show ¬(c1:Int)<0 by omega),cond_false,decide_eq_true (show -1 - (k2:Int)<0 by omega),cond_true,hput]
      rfl
    ·by_cases hcc:c1=c2
     ·subst hcc
      have hl:ts1.length=ts2.length:=by rw[hc1] at hc2; injection hc2
      have hl3:ts1.length≤3:=znP hs hc1
      obtain⟨more,hm1,hm2⟩:=zno hs hr1 hr2 hl to (out:=todo') (by omega)
      refine go to B σ (todo'++more) (E'++ts1.zip ts2) hT hG (hP'.append hm2) ?_ ?_ (fun _ h=>h) ?_ fun rec => ?_
      ·intro i e hi
       rcases Nat.lt_or_ge i E'.length with hlt | hge
       ·rw[List.getElem?_append_left hlt] at hi
        exact hK.left i e hi
       ·rw[List.getElem?_append_right hge] at hi
        have hi3:i - E'.length<3:=by
         have:=(List.getElem?_eq_some_iff.1 hi).1
         rw[List.length_zip] at this
         omega
        obtain⟨δ,h1,h2⟩:=hK E'.length (s,u) (by rw[List.getElem?_append_right (Nat.le_refl _),Nat.sub_self]; rfl)
        refine ⟨δ+1,by omega,fun θ hθ => ?_⟩
        obtain⟨c,hc,h3⟩:=h2 θ hθ
        refine ⟨c,hc,?_⟩
        have h3:δ+(s.sub θ).ht≤(c.sub θ).ht:=h3
        rw[hs1 θ hθ] at h3
        have h4:e.1∈ts1:=(List.of_mem_zip (a:=e.1) (b:=e.2) (List.mem_of_getElem? hi)).1
        have h5:(e.1.sub θ).ht≤htR (zb6 θ ts1):=zsi (by rw[zhW]; exact List.mem_map_of_mem h4)
        have h6:((Tm.f c1 ts1).sub θ).ht=htR (zb6 θ ts1)+1:=rfl
        omega
      ·intro θ
       rw[Sol.append,Sol.zip hl]
       constructor
       ·rintro⟨h1,h2,h3⟩
        exact ⟨h1,(hsol θ h1).2 ⟨h2,zLv.2 ⟨rfl,h3⟩⟩⟩
       ·rintro⟨h1,h2⟩
        have h3:=(hsol θ h1).1 h2
        exact ⟨h1,h3.1,(zLv.1 h3.2).2⟩
      ·intro σ' hσ'
       rw[zmh,zmh,zEN,zvi σ' hl]
       show _≤wt σ' E'+(s.sub σ').size
       rw[hs1 σ' hσ']
       show _≤wt σ' E'+(zbu (zb6 σ' ts1)+1)
       omega
      ·rw[round]
       simp only[qK,List.getElem?_cons_zero,Option.bind_some]
       rw[decide_eq_false (show ¬(c1:Int)<0 by omega),cond_false,cond_false,show ((c1:Int) != (c1:Int))=false from by simp,cond_false,zc0,Option.bind_some,zc0,Option.bind_some,hm1]
       rfl
     ·refine stop (false,a0,to) ⟨rfl,.inl ⟨rfl,fun θ h1 h2=>hcc (zLv.1 ((hsol θ h1).1 h2).2).1⟩⟩ fun rec => ?_
      rw[round]
      simp only[qK,List.getElem?_cons_zero,Option.bind_some]
      rw[decide_eq_false (show ¬(c1:Int)<0 by omega),cond_false,decide_eq_false (show ¬(c2:Int)<0 by omega),cond_false,show ((c1:Int) != (c2:Int))=true from by simp; omega,cond_true]
theorem zAt {a0:List zQ} (hs:SignOk a0) {N:Nat} (hN:N≤24) {to:List PO} {B:Bd} {σ:Sb} (hT:RepT a0 N to B) (hG:Good B σ) {p q:List Int} {d e:Int} {ts us:List Tm} (hp:Pr a0 N p d ts) (hq:Pr a0 N q e us) (hl:ts.length=us.length) :
  ∃ r,zaL p d q e a0 to=some r∧SameR a0 N B (ts.zip us) r:=by
 have eta:∀ o:Option (Bool×List zQ×List PO),(o.bind fun r=>some (r.1,r.2.1,r.2.2))=o:=fun o=>by cases o<;>rfl
 obtain⟨more,hm1,hm2⟩:=zno hs hp hq hl to (out:=[]) (by simp)
 have e0:zaL p d q e a0 to=lp zI (zp+1) (a0,to,more):=by
  unfold zaL
  rw[hm1,Option.bind_some,zk,List.nil_append]
  generalize lp zI zp=rec
  unfold zI
  simp only[eta]
 have hsz:∀ c∈ts,c.size≤48:=fun c hc=>by
  obtain⟨us0,n,h1,rfl,h2,h3,rfl,h4⟩:=hp
  obtain⟨c0,h5,rfl⟩:=List.mem_map.1 hc
  rw[Tm.up_size,← Tm.codes_len]
  exact Nat.le_trans (zi4 h5) h4
 have hlen:ts.length≤48:=by
  obtain⟨us0,n,h1,rfl,h2,h3,rfl,h4⟩:=hp
  have:=zkS (zaM us0 h1)
  rw[List.length_map] at this ⊢
  omega
 have hK:StkOk ts B (ts.zip us):=fun i x hi=>by
  have hi0:=(List.getElem?_eq_some_iff.1 hi).1
  rw[List.length_zip] at hi0
  exact ⟨0,by omega,fun θ _=>⟨x.1,(List.of_mem_zip (a:=x.1) (b:=x.2) (List.mem_of_getElem? hi)).1,by omega⟩⟩
 rw[e0]
 rcases zC9 hs hN ts hsz (48*(48*48 ^ 49)+1) to B σ more (ts.zip us) hT hG hm2 hK with ⟨r,h1,h2⟩ | ⟨B',σ',h1,h2,h3,h4⟩
 ·have:=h1 (zp+1 - (48*(48*48 ^ 49)+1))
  rw[show zp+1 - (48*(48*48 ^ 49)+1)+(48*(48*48 ^ 49)+1)=zp+1 from by unfold zp; omega] at this
  exact ⟨r,this,h2⟩
 ·exfalso
  rw[zvi σ' hl,zhW,znX,List.map_map] at h4
  have h5:∀ l:List Tm,(∀ c∈l,c.size≤48)→(l.map (Tm.size ∘ Tm.sub σ')).sum≤l.length*(48*48 ^ 49):=by
   intro l
   induction l with
   | nil=>intro _; simp
   | cons c l ih =>
    intro h
    have h6:=ih fun c hc=>h c (List.mem_cons_of_mem _ hc)
    have h7:=h1.small_sub h2 c
    have h8:=h c (List.mem_cons_self ..)
    have h9:c.size*48 ^ 49≤48*48 ^ 49:=Nat.mul_le_mul_right _ h8
    simp only[List.map_cons,List.sum_cons,List.length_cons,Function.comp_apply]
    rw[Nat.add_mul,Nat.one_mul]
    omega
  have h6:=h5 ts hsz
  have h7:ts.length*(48*48 ^ 49)≤48*(48*48 ^ 49):=Nat.mul_le_mul_right _ hlen
  omega
end
end Go.Abs.Q
namespace Go.Abs.Q
open Go Go.Abs
section
def zgR (s:Sb) (c:Int):List Int:=if c<0 then (s (-1 - c).toNat).codes else [c]
mutual
theorem Tm.codes_sub (s:Sb):(t:Tm)→(t.sub s).codes=t.codes.flatMap (zgR s)
 | .v n=>by
  show (s n).codes=[-1 - (n:Int)].flatMap (zgR s)
  simp only[List.flatMap_cons,List.flatMap_nil,List.append_nil,zgR]
  rw[if_pos (by omega),show (-1 - (-1 - (n:Int))).toNat=n from by omega]
 | .f c as=>by
  show (c:Int)::zD (zb6 s as)=((c:Int)::zD as).flatMap (zgR s)
  rw[List.flatMap_cons,zjH s as]
  unfold zgR
  rw[if_neg (by omega)]
  rfl
theorem zjH (s:Sb):(ts:List Tm)→zD (zb6 s ts)=(zD ts).flatMap (zgR s)
 | []=>rfl
 | t::ts=>by
  show (t.sub s).codes++zD (zb6 s ts)=(t.codes++zD ts).flatMap (zgR s)
  rw[Tm.codes_sub s t,zjH s ts,List.flatMap_append]
end
theorem znj {k:Nat} (hk:k<24) (p:Option jI):zao p 0 (-1 - (k:Int))=some (k:Int):=by
 unfold zao
 rw[zbB (by omega) (by omega),Option.bind_some]
 congr 1
 rw[zT]<;>omega
section
variable {a0:List zQ} {to:List PO} {B:Bd} {σ:Sb}
def zI4 (o:List Int):Option jI:=if o.length≤48 then some o else none
theorem zrl (hT:RepT a0 0 to B) (hG:Good B σ) (p:List Int) (hp48:p.length≤48) (rf:((Option jI)×Int×jS×(List PO))→Option (Option jI))
  (hrf:∀(y:Nat) q d u,(-1 - (y:Int))∈p→to[y]? = some (some q,d)→B y=some u→rf (some q,d,a0,to)=some (zI4 (u.sub σ).codes)):∀(es:List Int) (i k:Nat) (out:List Int),p.drop i=es→es.length<k→(∀ c∈es,-24≤c)→out.length≤48 →
  lp (yr rf) k (some p,((p.length:Nat):Int),(i:Int),a0,to,some p,0,out)=some (if out.length+(es.flatMap (zgR σ)).length≤48 then .inl (out++es.flatMap (zgR σ)) else .inr ()):=by
 intro es
 induction es with
 | nil =>
  intro i k out h hk _ ho
  obtain⟨k,rfl⟩:∃ k',k=k'+1:=⟨k - 1,by simp at hk; omega⟩
  rw[zk]
  generalize lp (yr rf) k=rec
  unfold yr
  have hi:p.length≤i:=by
   have:=congrArg List.length h
   simp at this; omega
  rw[decide_eq_false (show ¬((i:Int)<((p.length:Nat):Int)) by omega),cond_false]
  simp [ho]
 | cons c es ih =>
  intro i k out h hk hc ho
  obtain⟨k,rfl⟩:∃ k',k=k'+1:=⟨k - 1,by simp at hk; omega⟩
  rw[zk]
  have key:=fun out' ho'=>ih (i+1) k out' (zh h) (by simp at hk; omega) (fun c h=>hc c (List.mem_cons_of_mem _ h)) ho'
  generalize lp (yr rf) k=rec at key ⊢
  unfold yr
  have hget:=zj h
  have hi:i<p.length:=(List.getElem?_eq_some_iff.1 hget).1
  have hmem:c∈p:=List.mem_of_getElem? hget
  have hw:IntKind.wrap .i64 ((i:Int)+1)=((i+1:Nat):Int):=by rw[zT]<;>omega
  rw[decide_eq_true (show ((i:Int)<((p.length:Nat):Int)) by omega),cond_true]
  simp only[Option.getD_some,zJ,hget,Option.bind_some,hw]
  -- one code that stays
  have stay:zgR σ c=[c]→(((nn ([c]:List Int)).bind fun _=>some false).bind fun z=>cond z (some (Sum.inr ()))
    (cond (decide ((IntKind.wrap .i64 (((List.length out:Nat):Int)+((List.length ([c]:List Int):Nat):Int)))>48)) (some (Sum.inr ()))
     (cond (yY (List.length out+List.length ([c]:List Int)) 8) (rec (some p,((p.length:Nat):Int),((i+1:Nat):Int),a0,to,some p,0,(out++([c]:List Int)))) none))) =
    some (if out.length+((c::es).flatMap (zgR σ)).length≤48 then .inl (out++(c::es).flatMap (zgR σ)) else .inr ()):=by
   intro he
   have e1:(nn ([c]:List Int))=some [c]:=rfl
   rw[e1,List.flatMap_cons,he]
   have w2:IntKind.wrap .i64 (((List.length out:Nat):Int)+((List.length ([c]:List Int):Nat):Int))=((out.length+1:Nat):Int):=by
    rw[zT]<;>simp only[List.length_singleton]<;>omega
   simp only[Option.bind_some,cond_false,w2]
   simp only[List.length_append,List.length_singleton]
   by_cases h48:out.length+1≤48
   ·rw[decide_eq_false (show ¬(((out.length+1:Nat):Int)>48) by omega),cond_false,zP (by omega),cond_true,key _ (by simp; omega)]
    simp only[List.length_append,List.length_singleton,List.append_assoc]
    have:out.length+1+(es.flatMap (zgR σ)).length=out.length+(1+(es.flatMap (zgR σ)).length):=by omega
    rw[this]
   ·rw[decide_eq_true (show (((out.length+1:Nat):Int)>48) by omega),cond_true,if_neg (by omega)]
  by_cases h0:c<0
  ·obtain⟨y,hy,rfl⟩:∃ y:Nat,y<24∧c = -1 - (y:Int):=⟨(-1 - c).toNat,by have:=hc c (List.mem_cons_self ..); omega,by omega⟩
   rw[decide_eq_true h0,cond_true,znj hy,Option.bind_some,zap (show y<48 by omega),Option.bind_some]
   obtain⟨e,he,hpe⟩:=hT.get (x:=y) (by omega)
   rw[he,Option.bind_some]
   have hexp:zgR σ (-1 - (y:Int))=(σ y).codes:=by
    unfold zgR
    rw[if_pos h0,show (-1 - (-1 - (y:Int))).toNat=y from by omega]
   unfold PcO at hpe
   split at hpe
   ·rename_i h1
    rw[h1]
    simp only[Option.isNone_none,Bool.not_true,cond_false]
    exact stay (by rw[hexp,hG.free y hpe]; rfl)
   ·rename_i q h1
    obtain⟨u,hu,hq⟩:=hpe
    rw[h1]
    simp only[Option.isNone_some,Bool.not_false,cond_true,znj hy,Option.bind_some,zap (show y<48 by omega),he]
    rw[h1,hrf y q e.2 u hmem (by rw[he,← h1]) hu,Option.bind_some]
    rw[List.flatMap_cons,hexp,hG.bound y u hu]
    unfold zI4
    by_cases hsz:(u.sub σ).codes.length≤48
    ·rw[if_pos hsz]
     have w2:IntKind.wrap .i64 (((List.length out:Nat):Int)+(((u.sub σ).codes.length:Nat):Int))=((out.length+(u.sub σ).codes.length:Nat):Int):=by
      rw[zT]<;>omega
     simp only[Option.isNone_some,cond_false,Option.getD_some,w2]
     simp only[List.length_append]
     by_cases h48:out.length+(u.sub σ).codes.length≤48
     ·rw[decide_eq_false (show ¬(((out.length+(u.sub σ).codes.length:Nat):Int)>48) by omega),cond_false,zP (by omega),cond_true,key _ (by simp; omega)]
      simp only[List.length_append,List.append_assoc]
      rw[Nat.add_assoc]
     ·rw[decide_eq_true (show (((out.length+(u.sub σ).codes.length:Nat):Int)>48) by omega),cond_true,if_neg (by omega)]
    ·rw[if_neg hsz]
     simp only[Option.isNone_none,cond_true,List.length_append]
     rw[if_neg (by omega)]
  ·rw[decide_eq_false h0,cond_false]
   exact stay (by unfold zgR; rw[if_neg h0])
theorem zz9 (hT:RepT a0 0 to B) (hG:Good B σ):∀(k m:Nat) (p:List Int) (d:Int) (t:Tm),Pc a0 0 p d t→(∀ y,t.has y→B y≠none→Good.rank σ y<m)→m<k →
  qr k (some p,d,a0,to)=some (zI4 (t.sub σ).codes):=by
 intro k
 induction k with
 | zero=>intro m p d t _ _ h; omega
 | succ k ih =>
  intro m p d t hp hm hk
  obtain⟨u,n,h1,rfl,rfl,h2,rfl,h3⟩:=hp
  have hn:n=0:=by omega
  subst hn
  rw[Tm.up_zero] at hm ⊢
  have hsmall:∀ c∈u.codes,-24≤c:=fun c hc=>by
   by_cases h0:c<0
   ·have:=Tm.ok_has u h1 ((Tm.mem_codes h0 u).1 hc); omega
   ·omega
  show zcS (qr k) (some u.codes) ((0:Nat):Int) a0 to=_
  unfold zcS
  have hr:=zrl hT hG u.codes h3 (qr k) (fun y q d w hy hto hw=>by
   have hyu:u.has y:=by
    have:=(Tm.mem_codes (by omega) u).1 hy
    rwa [show (-1 - (-1 - (y:Int))).toNat=y from by omega] at this
   have hpc:Pc a0 0 q d w:=by
    have:=hT.at_ y _ hto
    obtain⟨t',h5,h6⟩:=(show ∃ t,B y=some t∧Pc a0 0 q d t from this)
    rw[hw] at h5; injection h5 with h5; subst h5
    exact h6
   have hlt:=hm y hyu (by rw[hw]; simp)
   exact ih (Good.rank σ y) q d w hpc (fun z hz hb=>hG.rank_lt hw hz (by
    cases hbz:B z with
    | none=>exact absurd hbz hb
    | some x=>exact (hT.small z x hbz).1)) (by omega)) u.codes 0 zp [] rfl (by unfold zp; omega) hsmall (by simp)
  simp only[Option.getD_some]
  have hr:lp (yr (qr k)) zp (some u.codes,((u.codes.length:Nat):Int),0,a0,to,some u.codes,((0:Nat):Int),[])=_:=hr
  rw[hr,← Tm.codes_sub]
  unfold zI4
  have hne:nn (u.sub σ).codes=some (u.sub σ).codes:=zj0 fun e=>by
   have:=congrArg List.length e
   rw[Tm.codes_len] at this
   have:=(u.sub σ).size_pos
   simp at *; omega
  by_cases h48:(u.sub σ).codes.length≤48
  ·simp only[List.length_nil,Nat.zero_add,List.nil_append]
   rw[if_pos h48,if_pos h48]
   simp only[Option.bind_some,zcr,hne]
  ·simp only[List.length_nil,Nat.zero_add]
   rw[if_neg h48,if_neg h48]
   rfl
theorem ztE (hT:RepT a0 0 to B) (hG:Good B σ) {p:List Int} {d:Int} {t:Tm} (hp:Pc a0 0 p d t):zdM (some p) d a0 to=some (zI4 (t.sub σ).codes):=by
 refine zz9 hT hG zp 49 p d t hp (fun y _ _ => ?_) (by unfold zp; omega)
 have:=Good.rank_le σ y
 omega
def ztY (B:Bd) (v:Nat):Bool:=(B v).isSome
def zbv (B:Bd) (σ:Sb) (vs:List Nat):List (Int×List Int):=(vs.filter (ztY B)).map fun v:Nat=>((v:Int),(σ v).codes)
def zaK (σ:Sb) (vs:List Nat):Bool:=vs.all fun x=>decide ((σ x).size≤48)
theorem zrc (hT:RepT a0 0 to B) (hG:Good B σ):∀(m v k:Nat) (out:List (Int×List Int)),24 - v=m→v≤24→m<k→out.length≤v →
  lp zay k ((v:Int),a0,to,out)=some (cond (zaK σ ((List.range 24).drop v)) (.inl (out++zbv B σ ((List.range 24).drop v))) (.inr (false,401))):=by
 intro m
 induction m with
 | zero =>
  intro v k out hm hv hk ho
  obtain⟨k,rfl⟩:∃ k',k=k'+1:=⟨k - 1,by omega⟩
  rw[zk]
  generalize lp zay k=rec
  unfold zay
  have:v=24:=by omega
  subst this
  rw[show (List.range 24).drop 24=[] from rfl]
  simp [zbv,zaK]
 | succ m ih =>
  intro v k out hm hv hk ho
  obtain⟨k,rfl⟩:∃ k',k=k'+1:=⟨k - 1,by omega⟩
  rw[zk]
  have key:=fun out' ho'=>ih (v+1) k out' (by omega) (by omega) (by omega) ho'
  generalize lp zay k=rec at key ⊢
  unfold zay
  have w:IntKind.wrap .i64 ((v:Int)+1)=((v+1:Nat):Int):=by rw[zT]<;>omega
  obtain⟨e,he,hpe⟩:=hT.get (x:=v) (by omega)
  have hdr:(List.range 24).drop v=v::(List.range 24).drop (v+1):=by
   rw[List.drop_eq_getElem_cons (by simp; omega)]
   simp
  simp only[decide_eq_true (show (v:Int)<24 by omega),cond_true,zap (show v<48 by omega),Option.bind_some,he,w]
  rw[hdr]
  unfold PcO at hpe
  split at hpe
  ·rename_i h1
   rw[h1]
   simp only[Option.isNone_none,cond_true]
   rw[key out (by omega)]
   have hs:(σ v).size≤48:=by rw[hG.free v hpe]; simp [Tm.size]
   have hb:ztY B v=false:=by simp [ztY,hpe]
   simp [zbv,zaK,hb,hs]
  ·rename_i q h1
   obtain⟨u,hu,hq⟩:=hpe
   rw[h1]
   simp only[Option.isNone_some,cond_false]
   rw[ztE hT hG hq,Option.bind_some,← hG.bound v u hu]
   unfold zI4
   rw[Tm.codes_len]
   by_cases hs:(σ v).size≤48
   ·rw[if_pos hs]
    simp only[Option.isNone_some,cond_false,Option.getD_some]
    rw[zdm (by rw[Tm.codes_len]; omega),Option.bind_some,zP (by simp only[List.length_singleton]; omega),cond_true,key _ (by simp only[List.length_append,List.length_singleton]; omega)]
    have hb:ztY B v=true:=by simp [ztY,hu]
    simp [zbv,zaK,hb,hs]
   ·rw[if_neg hs]
    simp only[Option.isNone_none,cond_true]
    simp [zaK,hs]
end
structure Mgu (σ:Sb) (E:List (Tm×Tm)):Prop where
 sol:Sol σ E
 gen:∀ θ,Sol θ E→∀ x,(σ x).sub θ=θ x
 le:∀ x y,σ x = .v y→y≤x
 idem:∀ x,(σ x).sub σ=σ x
theorem Mgu.of {B:Bd} {σ:Sb} {E:List (Tm×Tm)} (hG:Good B σ) (h:∀ θ,SolB θ B↔SolB θ (fun _=>none)∧Sol θ E):Mgu σ E where
 sol:=((h σ).1 hG.bound).2
 gen:=fun θ hθ=>hG.fac ((h θ).2 ⟨fun _ _ h=>(nomatch h),hθ⟩)
 le:=hG.le
 idem:=fun x=>by rw[← hG.fac hG.bound x]; exact hG.idem _
theorem Mgu.unique {σ σ':Sb} {E:List (Tm×Tm)} (h:Mgu σ E) (h':Mgu σ' E):σ=σ':=by
 have f1:∀ x,(σ x).sub σ'=σ' x:=h.gen σ' h'.sol
 have f2:∀ x,(σ' x).sub σ=σ x:=h'.gen σ h.sol
 have root:∀ y,σ y = .v y→σ' y = .v y:=by
  intro y hy
  have h1:(σ' y).sub σ = .v y:=by rw[f2,hy]
  cases hz:σ' y with
  | f c as=>rw[hz] at h1; cases h1
  | v z =>
   rw[hz] at h1
   have h2:=h'.le y z hz
   have h3:=h.le z y h1
   have:z=y:=by omega
   rw[this]
 have fix:∀ t:Tm,t.sub σ=t→∀ y,t.has y→σ y = .v y:=by
  intro t
  have key:∀ n,(∀ t:Tm,t.size≤n→t.sub σ=t→∀ y,t.has y→σ y = .v y)∧∀ ts:List Tm,zbu ts≤n→zb6 σ ts=ts→∀ y,zl9 y ts→σ y = .v y:=by
   intro n
   induction n with
   | zero =>
    refine ⟨fun t ht=>absurd t.size_pos (by omega),fun ts hts he y hy => ?_⟩
    cases ts with
    | nil=>exact hy.elim
    | cons t ts=>have:=t.size_pos; simp only[zbu] at hts; omega
   | succ n ih =>
    have h1:∀ t:Tm,t.size≤n+1→t.sub σ=t→∀ y,t.has y→σ y = .v y:=by
     intro t ht he y hy
     cases t with
     | v z =>
      have hy:z=y:=hy
      subst hy
      exact he
     | f c as =>
      have he:Tm.f c (zb6 σ as)=Tm.f c as:=he
      injection he with _ he
      simp only[Tm.size] at ht
      exact ih.2 as (by omega) he y hy
    refine ⟨h1,fun ts => ?_⟩
    induction ts with
    | nil=>intro _ _ y hy; exact hy.elim
    | cons t ts iht =>
     intro hts he y hy
     have he:t.sub σ::zb6 σ ts=t::ts:=he
     injection he with he1 he2
     simp only[zbu] at hts
     have:=t.size_pos
     rcases hy with hy | hy
     ·exact h1 t (by omega) he1 y hy
     ·exact ih.2 ts (by omega) he2 y hy
  exact (key t.size).1 t (Nat.le_refl _)
 funext x
 rw[← f1 x]
 conv=>lhs; rw[← Tm.sub_v (σ x)]
 exact Tm.sub_ext _ fun y hy=>(root y (fix _ (h.idem x) y hy)).symm
def moved (σ:Sb) (v:Nat):Bool:=match σ v with
 | .v y => !(y==v)
 | .f _ _=>true
theorem zwv {B:Bd} {σ:Sb} (h:Good B σ) (v:Nat):ztY B v=moved σ v:=by
 have:=h.moved (x:=v)
 unfold ztY moved
 cases hb:B v with
 | none =>
  rw[h.free v hb]
  simp
 | some t =>
  have h1:=this.1 (by rw[hb]; simp)
  cases hs:σ v with
  | f c as=>rfl
  | v y =>
   rw[hs] at h1
   have:y≠v:=fun e=>h1 (by rw[e])
   simp [this]
def zds (σ:Sb):List (Int×List Int):=((List.range 24).filter (moved σ)).map fun v:Nat=>((v:Int),(σ v).codes)
theorem zPy (a0:List zQ) (N:Nat):RepT a0 N to0 (fun _=>none) where
 len:=by simp [to0]
 at_:=fun x e h=>by
  have hx:x<48:=by
   have:=(List.getElem?_eq_some_iff.1 h).1
   simpa[to0] using this
  rw[zHH hx] at h
  injection h with h
  rw[← h]
  rfl
 out:=fun _ _=>rfl
theorem ztR {a0:List zQ} {xs ys:List Int} {ts us:List Tm} (hs:SignOk a0) (hx:xs=zD ts) (hy:ys=zD us) (ht:okR a0 24 ts) (hu:okR a0 24 us) (hb:zdU a0=true) (hlx:xs.length≤48) (hly:ys.length≤48) :
  (zd0 a0 xs ys=some (false,0,[])∧(ts.length≠us.length∨∀ θ,¬ Sol θ (ts.zip us))) ∨
  (ts.length=us.length∧∃ σ,Mgu σ (ts.zip us)∧(∀ x,x<24→(σ x).ok a0 24)∧zd0 a0 xs ys=some (cond (zaK σ (List.range 24)) (true,0,zds σ) (false,401,[]))):=by
 have hr:∀{zs:List Int} {ws:List Tm},zs=zD ws→okR a0 24 ws→zs.length≤48→zhP a0 zs=some ws.length:=by
  intro zs ws h1 h2 h3
  unfold zhP zcb
  rw[hb,decide_eq_true h3,h1,zaM ws h2]
  simp
 unfold zd0
 rw[zfo,hr hx ht hlx,Option.bind_some,zfo,hr hy hu hly,Option.bind_some]
 simp only
 rw[show ((0:Int) != 0)=false from rfl,cond_false,cond_false]
 by_cases hl:ts.length=us.length
 ·rw[hl,show (((us.length:Nat):Int) != ((us.length:Nat):Int))=false from by simp,cond_false]
  obtain⟨r,h1,h2,h3⟩:=zAt hs (N:=0) (by omega) (zPy a0 0) Good.empty (p:=xs) (q:=ys) (d:=0) (e:=0) (ts:=ts) (us:=us)
   ⟨ts,0,ht,hx,rfl,Nat.le_refl _,by rw[show Tm.up 0=id from funext Tm.up_zero,List.map_id],hlx⟩ ⟨us,0,hu,hy,rfl,Nat.le_refl _,by rw[show Tm.up 0=id from funext Tm.up_zero,List.map_id],hly⟩ hl
  have h1:zaL xs 0 ys 0 a0 (List.replicate 48 ((none:Option jI),(0:Int)))=some r:=h1
  rw[h1,Option.bind_some]
  rcases h3 with ⟨h3,h4⟩ | ⟨h3,B',h4,⟨σ,h5⟩,-,h6⟩
  ·rw[h3]
   exact .inl ⟨rfl,.inr fun θ h=>h4 θ (fun _ _ h=>(nomatch h)) h⟩
  ·rw[h3]
   have hok:∀ x,x<24→(σ x).ok a0 24:=by
    refine h5.ind (fun x hx hlt=>by rw[h5.free x hx]; exact hlt) fun x t hx ih _ => ?_
    have hto:Pc a0 0 t.codes 0 t:=by
     obtain⟨e,he,hpe⟩:=h4.get (x:=x) (h4.small x t hx).1
     unfold PcO at hpe
     split at hpe
     ·rw[hx] at hpe; cases hpe
     ·obtain⟨u,hu,hq⟩:=hpe
      rw[hx] at hu; injection hu with hu; subst hu
      obtain⟨u0,n,g1,g2,g3,g4,g5,g6⟩:=hq
      have:n=0:=by omega
      subst this
      rw[Tm.up_zero] at g5
      subst g5
      exact ⟨t,0,g1,rfl,rfl,Nat.le_refl _,(Tm.up_zero t).symm,by rw[← g2]; exact g6⟩
    obtain⟨u0,n,g1,g2,g3,g4,g5,g6⟩:=hto
    have:n=0:=by omega
    subst this
    rw[Tm.up_zero] at g5
    subst g5
    rw[h5.bound x t hx]
    exact Tm.ok_sub t g1 fun y hy=>ih y hy (Tm.ok_has t g1 hy)
   refine .inr ⟨rfl,σ,Mgu.of h5 h6,hok,?_⟩
   simp only[Bool.not_true,cond_false]
   have:=zrc (a0:=r.2.1) (by rw[h2]; exact h4) h5 24 0 zp [] rfl (by omega) (by unfold zp; omega) (by simp)
   rw[show ((0:Nat):Int)=0 from rfl] at this
   rw[this,List.drop_zero]
   have he:zbv B' σ (List.range 24)=zds σ:=by
    unfold zbv zds
    rw[show ztY B'=moved σ from funext (zwv h5)]
   cases zaK σ (List.range 24) with
   | true=>simp only[cond_true,Option.bind_some,zcr,List.nil_append,he]
   | false=>rfl
 ·rw[show (((ts.length:Nat):Int) != ((us.length:Nat):Int))=true from by simp; omega,cond_true]
  exact .inl ⟨rfl,.inl hl⟩
end
end Go.Abs.Q
namespace Go.Abs.Q
open Go Go.Abs
section
theorem zGb {n:Int} (h1:0≤n) (h2:n≤9223372036854775807):IntKind.wrap .u64 n=n:=by
 simp [IntKind.wrap,IntKind.signed,IntKind.bits]
 omega
theorem zMp {l h:Nat} (hl:l+h≤1000000000):IntKind.wrap .i64 (Int.fdiv (IntKind.wrap .u64 (IntKind.wrap .i64 ((l:Int)+(h:Int)))) (2 ^ min (Int.toNat 1) (IntKind.bits .u64)))=(((l+h) / 2:Nat):Int):=by
 rw[zT (n:=(l:Int)+(h:Int)) (by omega) (by omega),zGb (by omega) (by omega)]
 have:(2:Int) ^ min (Int.toNat 1) (IntKind.bits .u64)=2:=by decide
 rw[this,Int.fdiv_eq_ediv_of_nonneg _ (by omega)]
 rw[zT]<;>omega
theorem zrF (a b:Int):zk3 a b=some (decide (a<b)):=by
 unfold zk3 ziI
 simp
abbrev Rise (xs:List Int):Prop:=xs.Pairwise (· < ·)
theorem Rise.lt {xs:List Int} (h:Rise xs) {i j:Nat} {x y:Int} (hi:xs[i]? = some x) (hj:xs[j]? = some y) (hij:i<j):x<y:=by
 obtain⟨h1,rfl⟩:=List.getElem?_eq_some_iff.1 hi
 obtain⟨h2,rfl⟩:=List.getElem?_eq_some_iff.1 hj
 exact List.pairwise_iff_getElem.1 h i j h1 h2 hij
theorem zDH {xs:List Int} (h:Rise xs) (hl:xs.length≤1000000) (t:Int) (z:Int):∀(m l r k:Nat),r - l=m→l≤r→r≤xs.length→m<k→(∀(i:Nat) x,xs[i]? = some x→i<l→x<t)→(∀(i:Nat) x,xs[i]? = some x→r≤i→t≤x) →
  ∃ q:Nat,lp yq k (xs,t,z,(l:Int),(r:Int))=some (q:Int)∧q≤xs.length∧(∀(i:Nat) x,xs[i]? = some x→i<q→x<t)∧∀(i:Nat) x,xs[i]? = some x→q≤i→t≤x:=by
 intro m
 induction m using Nat.strongRecOn with
 | _ m ih =>
  intro l r k hm hlr hr hk h1 h2
  obtain⟨k,rfl⟩:∃ k',k=k'+1:=⟨k - 1,by omega⟩
  rw[zk]
  have key:=fun l r (h3:r - l<m) h4 h5 h6 h7=>ih (r - l) h3 l r k rfl h4 h5 (by omega) h6 h7
  generalize lp yq k=rec at key ⊢
  unfold yq
  by_cases hlt:l<r
  ·have hml:(l+r) / 2<xs.length:=by omega
   simp only[decide_eq_true (show (l:Int)<(r:Int) by omega),cond_true,zMp (show l+r≤1000000000 by omega),zJ,List.getElem?_eq_getElem hml,Option.bind_some,zrF]
   have hget:=List.getElem?_eq_getElem hml
   have w:IntKind.wrap .i64 ((((l+r) / 2:Nat):Int)+1)=(((l+r) / 2+1:Nat):Int):=by rw[zT]<;>omega
   by_cases hc:xs[(l+r) / 2]<t
   ·rw[decide_eq_true hc,cond_true,w]
    refine key ((l+r) / 2+1) r (by omega) (by omega) hr (fun i x hi hil => ?_) h2
    rcases Nat.lt_or_ge i ((l+r) / 2) with hi2 | hi2
    ·have:=h.lt hi hget hi2; omega
    ·have:i=(l+r) / 2:=by omega
     subst this
     rw[hget] at hi; injection hi with hi; omega
   ·rw[decide_eq_false hc,cond_false]
    refine key l ((l+r) / 2) (by omega) (by omega) (by omega) h1 (fun i x hi hil => ?_)
    rcases Nat.lt_or_ge ((l+r) / 2) i with hi2 | hi2
    ·have:=h.lt hget hi hi2; omega
    ·have:i=(l+r) / 2:=by omega
     subst this
     rw[hget] at hi; injection hi with hi; omega
  ·rw[decide_eq_false (show ¬((l:Int)<(r:Int)) by omega),cond_false]
   have:l=r:=by omega
   subst this
   exact ⟨l,rfl,hr,h1,h2⟩
theorem zF2 {xs:List Int} (h:Rise xs) (hl:xs.length≤1000000) (t:Int):∃(q:Nat) (b:Bool),zaG xs t=some ((q:Int),b)∧q≤xs.length∧(∀(i:Nat) x,xs[i]? = some x→i<q→x<t)∧(∀(i:Nat) x,xs[i]? = some x→q≤i→t≤x)∧(b=true↔t∈xs):=by
 obtain⟨q,h1,h2,h3,h4⟩:=zDH h hl t ((xs.length:Nat):Int) xs.length 0 xs.length zp rfl (Nat.zero_le _) (Nat.le_refl _) (by unfold zp; omega) (fun i x _ h=>by omega) (fun i x hi h=>by
  have:=(List.getElem?_eq_some_iff.1 hi).1; omega)
 have h1:lp yq zp (xs,t,((xs.length:Nat):Int),0,((xs.length:Nat):Int))=some (q:Int):=h1
 unfold zaG
 rw[h1,Option.bind_some]
 by_cases hq:q<xs.length
 ·rw[decide_eq_true (show ((q:Int)<((xs.length:Nat):Int)) by omega),cond_true,zJ,List.getElem?_eq_getElem hq,Option.bind_some]
  have hget:=List.getElem?_eq_getElem hq
  by_cases he:xs[q]=t
  ·rw[show (xs[q]==t)=true from by simp [he],cond_true]
   exact ⟨q,true,rfl,h2,h3,h4,by simp only[true_iff]; rw[← he]; exact List.getElem_mem hq⟩
  ·rw[show (xs[q]==t)=false from by simp [he],cond_false,Option.bind_some]
   have hn:zc6 xs[q]=some false:=by unfold zc6; simp
   rw[hn,Option.bind_some,cond_false]
   refine ⟨q,false,rfl,h2,h3,h4,?_⟩
   constructor
   ·intro h; cases h
   ·intro hm
    exfalso
    obtain⟨i,hi⟩:=List.mem_iff_getElem?.1 hm
    rcases Nat.lt_trichotomy i q with h5 | h5 | h5
    ·have:=h3 i t hi h5; omega
    ·subst h5; rw[hget] at hi; injection hi with hi; exact he hi
    ·have:=h.lt hget hi h5
     have:=h4 q _ hget (Nat.le_refl _)
     omega
 ·rw[decide_eq_false (show ¬((q:Int)<((xs.length:Nat):Int)) by omega),cond_false]
  refine ⟨q,false,rfl,h2,h3,h4,?_⟩
  constructor
  ·intro h; cases h
  ·intro hm
   exfalso
   obtain⟨i,hi⟩:=List.mem_iff_getElem?.1 hm
   have:=h3 i t hi (by have:=(List.getElem?_eq_some_iff.1 hi).1; omega)
   omega
theorem zrO {xs:List Int} (h:Rise xs) {q:Nat} {t:Int} (hq:q≤xs.length) (h1:∀(i:Nat) x,xs[i]? = some x→i<q→x<t) (h2:∀(i:Nat) x,xs[i]? = some x→q≤i→t≤x) (h3:t∉xs):Rise (zgn xs q [t]):=by
 unfold zgn Rise
 have ht:∀ x∈xs.take q,x<t:=fun x hx=>by
  obtain⟨i,hi⟩:=List.mem_iff_getElem?.1 hx
  rw[List.getElem?_take] at hi
  split at hi
  ·exact h1 i x hi (by assumption)
  ·cases hi
 have hd:∀ x∈xs.drop q,t<x:=fun x hx=>by
  obtain⟨i,hi⟩:=List.mem_iff_getElem?.1 hx
  rw[List.getElem?_drop] at hi
  have h4:=h2 _ x hi (by omega)
  have:x≠t:=fun e=>h3 (e▸List.mem_of_getElem? hi)
  omega
 rw[List.pairwise_append]
 refine ⟨h.sublist (List.take_sublist ..),?_,fun x hx y hy => ?_⟩
 ·rw[List.singleton_append,List.pairwise_cons]
  exact ⟨hd,h.sublist (List.drop_sublist ..)⟩
 ·have h5:=ht x hx
  rcases List.mem_append.1 hy with hy | hy
  ·rw[List.mem_singleton.1 hy]; exact h5
  ·have:=hd y hy; omega
theorem zAs {xs:List Int} {q:Nat} {t x:Int}:x∈zgn xs q [t]↔x∈xs∨x=t:=by
 unfold zgn
 simp only[List.mem_append,List.mem_singleton]
 constructor
 ·rintro (h | h | h)
  ·exact .inl (List.mem_of_mem_take h)
  ·exact .inr h
  ·exact .inl (List.mem_of_mem_drop h)
 ·rintro (h | h)
  ·rw[← List.take_append_drop q xs] at h
   rcases List.mem_append.1 h with h | h
   ·exact .inl h
   ·exact .inr (.inr h)
  ·exact .inr (.inl h)
def zzz (r:List Int) (x:Int):Prop:=∃ c∈r,c<0∧x = -1 - c
theorem zn5:(es vs:List Int)→Rise vs→vs.length+es.length≤1000000→(∀ c∈es,-1000000≤c∧c≤1000000)→∃ ws,yN es vs=some ws∧Rise ws∧(∀ x,x∈ws↔x∈vs∨zzz es x)∧ws.length≤vs.length+es.length
 | [],vs,h,_,_=>⟨vs,rfl,h,fun x=>⟨.inl,fun h=>h.elim (fun h=>h) fun ⟨c,hc,_⟩=>(nomatch hc)⟩,Nat.le_refl _⟩
 | e::es,vs,h,hl,hc=>by
  rw[List.length_cons] at hl
  have he:=hc e (List.mem_cons_self ..)
  have hc':∀ c∈es,-1000000≤c∧c≤1000000:=fun c h=>hc c (List.mem_cons_of_mem _ h)
  unfold yN
  by_cases h0:e≥0
  ·rw[decide_eq_true h0,cond_true]
   obtain⟨ws,h1,h2,h3,h4⟩:=zn5 es vs h (by omega) hc'
   refine ⟨ws,h1,h2,fun x=>(h3 x).trans ?_,by rw[List.length_cons]; omega⟩
   constructor
   ·rintro (h5 | ⟨c,h5,h6⟩)
    ·exact .inl h5
    ·exact .inr ⟨c,List.mem_cons_of_mem _ h5,h6⟩
   ·rintro (h5 | ⟨c,h5,h6,h7⟩)
    ·exact .inl h5
    ·rcases List.mem_cons.1 h5 with rfl | h5
     ·omega
     ·exact .inr ⟨c,h5,h6,h7⟩
  ·rw[decide_eq_false h0,cond_false,zbB (by omega) (by omega),Option.bind_some]
   obtain⟨q,b,h1,h2,h3,h4,h5⟩:=zF2 h (by omega) (-1 - e)
   rw[h1,Option.bind_some]
   have fin:∀{vs':List Int},(∀ x,x∈vs'↔x∈vs∨x = -1 - e)→∀ x,(x∈vs'∨zzz es x)↔(x∈vs∨zzz (e::es) x):=by
    intro vs' hv x
    rw[hv x]
    constructor
    ·rintro ((h6 | h6) | ⟨c,h6,h7⟩)
     ·exact .inl h6
     ·exact .inr ⟨e,List.mem_cons_self ..,by omega,h6⟩
     ·exact .inr ⟨c,List.mem_cons_of_mem _ h6,h7⟩
    ·rintro (h6 | ⟨c,h6,h7,h8⟩)
     ·exact .inl (.inl h6)
     ·rcases List.mem_cons.1 h6 with rfl | h6
      ·exact .inl (.inr h8)
      ·exact .inr ⟨c,h6,h7,h8⟩
   cases b with
   | true =>
    simp only[Bool.not_true,cond_false]
    obtain⟨ws,h6,h7,h8,h9⟩:=zn5 es vs h (by omega) hc'
    refine ⟨ws,h6,h7,fun x=>(h8 x).trans (fin (fun x=>⟨.inl,fun h=>h.elim (fun h=>h) fun h => ?_⟩) x),by rw[List.length_cons]; omega⟩
    rw[h]
    exact h5.1 rfl
   | false =>
    simp only[Bool.not_false,cond_true,Option.bind_some]
    have hn : -1 - e∉vs:=fun h=>by have:=h5.2 h; cases this
    have hi:zdF (q:Int) vs [-1 - e]=some (zgn vs q [-1 - e]):=by
     unfold zdF zLe
     rw[zP (by simp; omega)]
     have e1:zEQ (q:Int)=true:=by simp [zEQ]
     have e2:decide ((q:Int)≤(List.length vs:Int))=true:=by simp; omega
     have e3:zuF ((List.length [-1 - e]:Nat):Int)=true:=by simp [zuF]
     rw[e1,e2,e3,Int.toNat_natCast]
     rfl
    rw[hi,Option.bind_some]
    have hlen:(zgn vs q [-1 - e]).length=vs.length+1:=zkp vs _ h2
    obtain⟨ws,h6,h7,h8,h9⟩:=zn5 es (zgn vs q [-1 - e]) (zrO h h2 h3 h4 hn) (by omega) hc'
    exact ⟨ws,h6,h7,fun x=>(h8 x).trans (fin (fun x=>zAs) x),by rw[List.length_cons]; omega⟩
theorem zpT {r vs:List Int} (h:Rise vs) (hl:vs.length+r.length≤1000000) (hc:∀ c∈r,-1000000≤c∧c≤1000000):∃ ws,zb9 r vs=some ws∧Rise ws∧(∀ x,x∈ws↔x∈vs∨zzz r x)∧ws.length≤vs.length+r.length:=by
 obtain⟨ws,h1,h2⟩:=zn5 r vs h hl hc
 refine ⟨ws,?_,h2⟩
 unfold zb9
 rw[zgM _ _ (by unfold maxLen; omega),h1]
 rfl
def zhH (rs:List jI) (x:Int):Prop:=∃ r∈rs,zzz r x
theorem zjo {r:List Int} {rs:List jI} {x:Int}:zhH (r::rs) x↔zzz r x∨zhH rs x:=by simp [zhH]
theorem zig {rs ss:List jI} {x:Int}:zhH (rs++ss) x↔zhH rs x∨zhH ss x:=by
 simp only[zhH,List.mem_append]
 constructor
 ·rintro⟨r,h | h,h2⟩
  ·exact .inl ⟨r,h,h2⟩
  ·exact .inr ⟨r,h,h2⟩
 ·rintro (⟨r,h,h2⟩ | ⟨r,h,h2⟩)
  ·exact ⟨r,.inl h,h2⟩
  ·exact ⟨r,.inr h,h2⟩
theorem zdZ (r:List Int) (rs:List jI):zG (r::rs)=r.length+zG rs:=by simp [zG]
theorem za4 (rs ss:List jI):zG (rs++ss)=zG rs+zG ss:=by simp [zG]
theorem zu7:(es:List zt)→(vs:List Int)→Rise vs→vs.length+zG (es.map (·.2))≤1000000→(∀ l∈es,zcB l.2) →
  ∃ ws,qP es vs=some ws∧Rise ws∧(∀ x,x∈ws↔x∈vs∨zhH (es.map (·.2)) x)∧ws.length≤vs.length+zG (es.map (·.2))
 | [],vs,h,_,_=>⟨vs,rfl,h,fun x=>⟨.inl,fun h=>h.elim (fun h=>h) fun ⟨c,hc,_⟩=>(nomatch hc)⟩,by simp [zG]⟩
 | e::es,vs,h,hl,hn=>by
  rw[List.map_cons,zdZ] at hl
  unfold qP
  obtain⟨ws,h1,h2,h3,h4⟩:=zpT h (r:=e.2) (by omega) (hn e (List.mem_cons_self ..)).2
  rw[h1,Option.bind_some]
  obtain⟨xs,h5,h6,h7,h8⟩:=zu7 es ws h2 (by omega) fun l hl=>hn l (List.mem_cons_of_mem _ hl)
  refine ⟨xs,h5,h6,fun x => ?_,by rw[List.map_cons,zdZ]; omega⟩
  rw[h7 x,h3 x,List.map_cons,zjo,or_assoc]
theorem zxY:(es:List jI)→(vs:List Int)→Rise vs→vs.length+zG es≤1000000→(∀ l∈es,zcB l) →
  ∃ ws,qO es vs=some ws∧Rise ws∧(∀ x,x∈ws↔x∈vs∨zhH es x)∧ws.length≤vs.length+zG es
 | [],vs,h,_,_=>⟨vs,rfl,h,fun x=>⟨.inl,fun h=>h.elim (fun h=>h) fun ⟨c,hc,_⟩=>(nomatch hc)⟩,by simp [zG]⟩
 | e::es,vs,h,hl,hn=>by
  rw[zdZ] at hl
  unfold qO
  obtain⟨ws,h1,h2,h3,h4⟩:=zpT h (r:=e) (by omega) (hn e (List.mem_cons_self ..)).2
  rw[h1,Option.bind_some]
  obtain⟨xs,h5,h6,h7,h8⟩:=zxY es ws h2 (by omega) fun l hl=>hn l (List.mem_cons_of_mem _ hl)
  refine ⟨xs,h5,h6,fun x => ?_,by rw[zdZ]; omega⟩
  rw[h7 x,h3 x,zjo,or_assoc]
def qE (L:List zt) (T:List jI) (C:List zt):List jI:=L.map (·.2)++C.map (·.2)++T
theorem zfP {a0:List zQ} (hs:SignOk a0) {L:List zt} {T:List jI} {C:List zt} (h:zhL a0 L T C=true):∃ ws,zce a0 L T C=some (0,ws)∧Rise ws∧∀ x,x∈ws↔zhH (qE L T C) x:=by
 obtain⟨-,h1,h2,h3,h4,h5,h6,h7⟩:=zaF h
 have n1:=zdI hs h4
 have n2:=zjB hs h5
 have n3:=zdI hs h6
 unfold zce
 rw[zdu,Option.bind_some,h]
 simp only[Bool.not_true,cond_false]
 rw[zel (by omega),Option.bind_some,zgF _ _ _ _ _ (by unfold maxLen; simp; omega)]
 obtain⟨ws,h8,h9,h10,h11⟩:=zu7 (L++C) [] List.Pairwise.nil (by rw[List.map_append,za4]; simp; omega) (fun l hl=>(List.mem_append.1 hl).elim (n1 l) (n3 l))
 rw[h8,Option.bind_some,zhb _ _ (by unfold maxLen; omega)]
 rw[List.map_append,za4] at h11
 obtain⟨xs,h12,h13,h14,-⟩:=zxY T ws h9 (by simp at h11; omega) n2
 rw[h12]
 refine ⟨xs,rfl,h13,fun x => ?_⟩
 rw[h14 x,h10 x,List.map_append]
 unfold qE
 rw[zig,zig,zig]
 simp
def upC (by_:Int) (c:Int):Int:=cond (decide (c<0)) (c - by_) c
def ze5 (b:Int) (ls:List zt):List zt:=ls.map fun l=>(l.1,l.2.map (upC b))
theorem zlX (b:Int) (hb:0≤b∧b≤1000):(es done:List Int)→(k:Nat)→es.length<k→done.length+es.length≤1000000→(∀ c∈es,-1000000≤c∧c≤1000000) →
  lp yQ k (((done.length+es.length:Nat):Int),(done.length:Int),b,done++es)=some (done++es.map (upC b))
 | [],done,k,hk,hl,hc=>by
  obtain⟨k,rfl⟩:∃ k',k=k'+1:=⟨k - 1,by omega⟩
  rw[zk]
  generalize lp yQ k=rec
  unfold yQ
  simp
 | e::es,done,k,hk,hl,hc=>by
  obtain⟨k,rfl⟩:∃ k',k=k'+1:=⟨k - 1,by omega⟩
  rw[zk]
  have he:=hc e (List.mem_cons_self ..)
  have hl':done.length+(es.length+1)≤1000000:=hl
  have key:=fun e'=>zlX b hb es (done++[e']) k (Nat.lt_of_succ_lt_succ hk) (by simp; omega) (fun c hx=>hc c (List.mem_cons_of_mem _ hx))
  generalize lp yQ k=rec at key ⊢
  unfold yQ
  have e1:decide (((done.length:Nat):Int)<((done.length+(e::es).length:Nat):Int))=true:=by rw[decide_eq_true_eq,List.length_cons]; omega
  have e2:inR ((done.length:Nat):Int) (List.length (done++e::es))=some done.length:=zap (by simp)
  have e3:IntKind.wrap .i64 (((done.length:Nat):Int)+1)=((done.length+1:Nat):Int):=by rw[zT]<;>omega
  have key2:=fun e'=>by
   have:=key e'
   rw[List.append_assoc,List.length_append,List.length_singleton,Nat.add_assoc,Nat.add_comm 1 es.length] at this
   exact this
  simp only[e1,cond_true,e2,Option.bind_some,zpr,e3]
  by_cases h0:e<0
  ·have hu:upC b e=e - b:=by unfold upC; rw[decide_eq_true h0]; rfl
   have w:IntKind.wrap .i64 (e - b)=e - b:=by rw[zT]<;>omega
   rw[decide_eq_true h0,cond_true,w]
   have hset:(done++e::es).set done.length (e - b)=done++(e - b)::es:=by
    rw[List.set_append_right _ _ (Nat.le_refl _),Nat.sub_self]; rfl
   rw[hset,List.map_cons,hu]
   have:=key2 (e - b)
   exact this.trans (by simp)
  ·have hu:upC b e=e:=by unfold upC; rw[decide_eq_false h0]; rfl
   rw[decide_eq_false h0,cond_false,List.map_cons,hu]
   have:=key2 e
   exact this.trans (by simp)
theorem zoj {b:Int} (hb:0≤b∧b≤1000) {r:List Int} (hn:zcB r):qy r b=some (r.map (upC b)):=by
 unfold qy
 rw[zdm (by have:=hn.1; omega),Option.bind_some]
 have:=zlX b hb r [] zp (by have:=hn.1; unfold zp; omega) (by have:=hn.1; simp; omega) hn.2
 simp only[List.length_nil,Nat.zero_add,List.nil_append] at this
 have h0:((0:Nat):Int)=0:=rfl
 rw[h0] at this
 rw[this]
 rfl
theorem zpR {b:Int} (hb:0≤b∧b≤1000):(es out:List zt)→(∀ l∈es,zcB l.2)→out.length+es.length≤1000000→yI b es out=some (out++ze5 b es)
 | [],out,_,_=>by simp [yI,ze5]
 | e::es,out,hn,hl=>by
  rw[List.length_cons] at hl
  unfold yI
  rw[zoj hb (hn e (List.mem_cons_self ..)),Option.bind_some,zP (show (out.length+([(e.1,e.2.map (upC b))]:List zt).length)*32≤140737488351232 by simp; omega),cond_true,
   zpR hb es _ (fun l hl=>hn l (List.mem_cons_of_mem _ hl)) (by simp; omega)]
  simp [ze5]
theorem zq3 {b:Int} (hb:0≤b∧b≤1000) (s7:List zt):(es out:List jI)→(∀ l∈es,zcB l)→out.length+es.length≤1000000→yC b s7 es out=some (s7,out++es.map (List.map (upC b)))
 | [],out,_,_=>by simp [yC]
 | e::es,out,hn,hl=>by
  rw[List.length_cons] at hl
  unfold yC
  rw[zoj hb (hn e (List.mem_cons_self ..)),Option.bind_some,zP (show (out.length+([e.map (upC b)]:List jI).length)*24≤140737488351232 by simp; omega),cond_true,
   zq3 hb s7 es _ (fun l hl=>hn l (List.mem_cons_of_mem _ hl)) (by simp; omega)]
  simp
theorem zqd {b:Int} (hb:0≤b∧b≤1000) (s4:List zt) (s5:List jI):(es out:List zt)→(∀ l∈es,zcB l.2)→out.length+es.length≤1000000→yH b s4 s5 es out=some (s4,s5,out++ze5 b es)
 | [],out,_,_=>by simp [yH,ze5]
 | e::es,out,hn,hl=>by
  rw[List.length_cons] at hl
  unfold yH
  rw[zoj hb (hn e (List.mem_cons_self ..)),Option.bind_some,zP (show (out.length+([(e.1,e.2.map (upC b))]:List zt).length)*32≤140737488351232 by simp; omega),cond_true,
   zqd hb s4 s5 es _ (fun l hl=>hn l (List.mem_cons_of_mem _ hl)) (by simp; omega)]
  simp [ze5]
theorem zmB {b:Int} (hb:0≤b∧b≤1000) {L:List zt} {T:List jI} {C:List zt} (hL:∀ l∈L,zcB l.2) (hT:∀ l∈T,zcB l) (hC:∀ l∈C,zcB l.2) (h1:L.length≤1000) (h2:T.length≤1000) (h3:C.length≤1000) :
  zax L T C b=some (ze5 b L,T.map (List.map (upC b)),ze5 b C):=by
 unfold zax zfn
 rw[zfG _ _ _ _ _ _ (by unfold maxLen; omega),zpR hb L [] hL (by simp; omega),Option.bind_some,
  zft _ _ _ _ _ _ _ (by unfold maxLen; omega),zq3 hb _ T [] hT (by simp; omega),Option.bind_some,
  zfB _ _ _ _ _ (by unfold maxLen; omega),zqd hb _ _ C [] hC (by simp; omega),Option.bind_some]
 simp
def TopV (rs:List jI) (m:Int):Prop:=(∀ x,zhH rs x→x<m)∧(m=0∨zhH rs (m - 1))
theorem zvk {ws:List Int} {rs:List jI} (h:Rise ws) (hm:∀ x,x∈ws↔zhH rs x):(ws=[]∧TopV rs 0)∨∃ x,ws[ws.length - 1]? = some x∧0<ws.length∧TopV rs (x+1):=by
 cases hw:ws with
 | nil=>exact .inl ⟨rfl,⟨fun x hx=>(by have:=(hm x).2 hx; rw[hw] at this; cases this),.inl rfl⟩⟩
 | cons w ws' =>
  rw[← hw]
  have hl:0<ws.length:=by rw[hw]; simp
  refine .inr ⟨ws[ws.length - 1],List.getElem?_eq_getElem (by omega),hl,⟨fun x hx => ?_,.inr ?_⟩⟩
  ·obtain⟨i,hi⟩:=List.mem_iff_getElem?.1 ((hm x).2 hx)
   have hil:=(List.getElem?_eq_some_iff.1 hi).1
   rcases Nat.lt_or_ge i (ws.length - 1) with h1 | h1
   ·have:=h.lt hi (List.getElem?_eq_getElem (show ws.length - 1<ws.length by omega)) h1; omega
   ·have:i=ws.length - 1:=by omega
    subst this
    rw[List.getElem?_eq_getElem (by omega)] at hi
    injection hi with hi; omega
  ·rw[show ws[ws.length - 1]+1 - 1=ws[ws.length - 1] from by omega]
   exact (hm _).1 (List.getElem_mem _)
end
end Go.Abs.Q
namespace Go.Abs.Q
open Go Go.Abs
section
def zf8 (s:Sb) (r:List Int):List Int:=r.flatMap (zgR s)
theorem znc (σ:Sb) (v:Nat):(vs:List Nat)→zdk ((vs.filter (moved σ)).map fun v:Nat=>((v:Int),(σ v).codes)) (v:Int)=if v∈vs∧moved σ v=true then some (σ v).codes else none
 | []=>by simp [zdk]
 | w::vs=>by
  have ih:=znc σ v vs
  cases hm:moved σ w with
  | false =>
   rw[List.filter_cons_of_neg (by simp [hm]),ih]
   by_cases hv:v=w
   ·subst hv
    simp [hm]
   ·simp [hv]
  | true =>
   rw[List.filter_cons_of_pos hm,List.map_cons]
   unfold zdk at ih ⊢
   rw[List.find?_cons]
   by_cases hv:v=w
   ·subst hv
    simp [hm]
   ·rw[show (((w:Nat):Int)==(v:Int))=false from by simp; omega,ih]
    simp [hv]
theorem zvL {σ:Sb} {r:List Int} (h:∀ c∈r,-24≤c):onB (zds σ) r=zf8 σ r:=by
 unfold onB zf8
 induction r with
 | nil=>rfl
 | cons c r ih =>
  rw[List.flatMap_cons,List.flatMap_cons,ih fun c hc=>h c (List.mem_cons_of_mem _ hc)]
  congr 1
  have hc:=h c (List.mem_cons_self ..)
  unfold onC zgR
  by_cases h0:c≥0
  ·rw[decide_eq_true h0,cond_true,if_neg (by omega)]
  ·rw[decide_eq_false h0,cond_false,if_pos (by omega)]
   obtain⟨k,hk,rfl⟩:∃ k:Nat,k<24∧c = -1 - (k:Int):=⟨(-1 - c).toNat,by omega,by omega⟩
   have e1:(-1:Int) - (-1 - (k:Int))=(k:Int):=by omega
   rw[e1,Int.toNat_natCast]
   unfold zds
   rw[znc σ k]
   cases hm:moved σ k with
   | true=>simp [hk]
   | false =>
    have:σ k = .v k:=by
     unfold moved at hm
     split at hm
     ·rename_i y hy
      have:y=k:=by simpa using hm
      rw[hy,this]
     ·cases hm
    rw[this]
    simp [Tm.codes]
theorem zsY {σ:Sb} (h:zaK σ (List.range 24)=true):BindsOk (zds σ) where
 len:=by
  unfold zds
  rw[List.length_map]
  have:=List.length_filter_le (moved σ) (List.range 24)
  simp at this
  omega
 all:=fun b hb=>by
  unfold zds at hb
  obtain⟨v,hv,rfl⟩:=List.mem_map.1 hb
  have hv:=(List.mem_filter.1 hv).1
  have h1:=List.all_eq_true.1 h v hv
  have h2:=(σ v).size_pos
  have h3:=(σ v).codes_len
  have h4:(σ v).size≤48:=of_decide_eq_true h1
  refine ⟨fun e => ?_,?_⟩
  ·have:=congrArg List.length e
   simp only[List.length_nil] at this
   omega
  ·show (σ v).codes.length≤1000
   omega
def zdV (s:Sb) (ls:List zt):List zt:=ls.map fun l=>(l.1,zf8 s l.2)
theorem zkO {σ:Sb} {ls:List zt} (h:∀ l∈ls,∀ c∈l.2,-24≤c):zmZ (zds σ) ls=zdV σ ls:=by
 unfold zmZ zdV
 exact List.map_congr_left fun l hl=>by rw[zvL (h l hl)]
theorem zte {σ:Sb} {rs:List jI} (h:∀ r∈rs,∀ c∈r,-24≤c):zuO (zds σ) rs=rs.map (zf8 σ):=by
 unfold zuO
 exact List.map_congr_left fun r hr=>zvL (h r hr)
theorem ziS {a0:List zQ} {xs:List Int} (h:zf9 a0 xs=true):∃(c:Nat) (ts:List Tm) (e:zQ),xs=(c:Int)::zD ts∧okR a0 24 ts∧a0[c]? = some e∧e.2.1=0∧((ts.length:Nat):Int)=e.2.2.1∧(zD ts).length≤48∧zdU a0=true:=by
 obtain⟨x,r,e,ps,rfl,h0,h1,-,h2,h3,h4,h5,h6⟩:=zhj h
 obtain⟨ts,h7,h8,h9⟩:=zKs h5
 refine ⟨x.toNat,ts,e,by rw[← h9,Int.toNat_of_nonneg h0],h7,h1,h2,?_,by rw[← h9]; exact h4,h3⟩
 rw[← h6,h8,List.length_map]
theorem zn8 (b:Nat):(ts:List Tm)→(zD ts).map (upC (b:Int))=zD (ts.map (Tm.up b)):=by
 intro ts
 have h:=zjH (fun n=>Tm.v (n+b)) ts
 have e:ts.map (Tm.up b)=zb6 (fun n=>Tm.v (n+b)) ts:=by rw[zhW]; rfl
 rw[e,h]
 generalize zD ts=r
 induction r with
 | nil=>rfl
 | cons c r ih =>
  rw[List.map_cons,List.flatMap_cons,ih]
  congr 1
  unfold upC zgR
  by_cases h0:c<0
  ·rw[decide_eq_true h0,cond_true,if_pos h0]
   show [c - (b:Int)]++_=[-1 - (((-1 - c).toNat+b:Nat):Int)]++_
   rw[show -1 - (((-1 - c).toNat+b:Nat):Int)=c - (b:Int) from by omega]
   rfl
  ·rw[decide_eq_false h0,cond_false,if_neg h0]
   rfl
theorem zm5 {ts:List Tm} {x:Int}:zzz (zD ts) x↔∃ k:Nat,x=(k:Int)∧zl9 k ts:=by
 constructor
 ·rintro⟨c,h1,h2,rfl⟩
  exact ⟨(-1 - c).toNat,by omega,(zdH h2 ts).1 h1⟩
 ·rintro⟨k,rfl,hk⟩
  refine ⟨-1 - (k:Int),(zdH (by omega) ts).2 (by rwa [show (-1 - (-1 - (k:Int))).toNat=k from by omega]),by omega,by omega⟩
end
end Go.Abs.Q
namespace Go.Abs.Q
open Go Go.Abs
section
theorem zpL {a0:List zQ} {L:List zt} {T:List jI} {C:List zt} (h:zhL a0 L T C=true):∀ r∈qE L T C,zc7 r:=by
 obtain⟨-,-,-,-,h4,h5,h6,-⟩:=zaF h
 intro r hr
 unfold qE at hr
 rcases List.mem_append.1 hr with hr | hr
 ·rcases List.mem_append.1 hr with hr | hr
  ·obtain⟨l,hl,rfl⟩:=List.mem_map.1 hr; exact zcT h4 l hl
  ·obtain⟨l,hl,rfl⟩:=List.mem_map.1 hr; exact zcT h6 l hl
 ·exact zhY h5 r hr
theorem zfL {a0:List zQ} {L:List zt} {T:List jI} {C:List zt} (h:zhL a0 L T C=true) {x:Int} (hx:zhH (qE L T C) x):0≤x∧x<24:=by
 obtain⟨r,hr,c,hc,h0,rfl⟩:=hx
 have:=(zpL h r hr).2 c hc
 omega
abbrev ApR:=List zt×List jI×Bool×List zt
theorem apart_spec {a0:List zQ} (hs:SignOk a0) {L:List zt} {T:List jI} {C:List zt} {L':List zt} {T':List jI} {C':List zt} (h:zhL a0 L T C=true) (h':zhL a0 L' T' C'=true) :
  ∃ b:Nat,b≤24∧TopV (qE L T C) (b:Int) ∧
   ((zcA a0 L T C L' T' C'=some ([],[],false,[])∧∃ x,zhH (qE L' T' C') x∧23<x+(b:Int)) ∨
    (zcA a0 L T C L' T' C'=some (ze5 (b:Int) L',T'.map (List.map (upC (b:Int))),true,ze5 (b:Int) C')∧∀ x,zhH (qE L' T' C') x→x+(b:Int)≤23)):=by
 obtain⟨ws,h1,h2,h3⟩:=zfP hs h
 obtain⟨ws',h1',h2',h3'⟩:=zfP hs h'
 obtain⟨-,l1,l2,l3,l4,l5,l6,-⟩:=zaF h'
 have hsh:∀ b:Nat,b≤24→zax L' T' C' (b:Int)=some (ze5 (b:Int) L',T'.map (List.map (upC (b:Int))),ze5 (b:Int) C'):=fun b hb =>
  zmB (by omega) (zdI hs l4) (zjB hs l5) (zdI hs l6) (by omega) (by omega) (by omega)
 -- the second half
 have second:∀ b:Nat,b≤24→∃ o:Option ApR,((zce a0 L' T' C').bind fun r17 =>
   cond (decide (((List.length r17.2:Nat):Int)>0))
   ((inR (IntKind.wrap .i64 (((List.length r17.2:Nat):Int) - 1)) (List.length r17.2)).bind fun k18 =>
    (r17.2[k18]?).bind fun x19 =>
    cond (decide ((IntKind.wrap .i64 (x19+(b:Int)))>23))
    (some (([]:jQ),([]:jR),false,([]:jQ)))
    ((zax L' T' C' (b:Int)).bind fun r20 =>
     some (r20.1,r20.2.1,true,r20.2.2)))
   ((zax L' T' C' (b:Int)).bind fun r21 =>
    some (r21.1,r21.2.1,true,r21.2.2)))=o∧((o=some ([],[],false,[])∧∃ x,zhH (qE L' T' C') x∧23<x+(b:Int)) ∨
    (o=some (ze5 (b:Int) L',T'.map (List.map (upC (b:Int))),true,ze5 (b:Int) C')∧∀ x,zhH (qE L' T' C') x→x+(b:Int)≤23)):=by
  intro b hb
  refine ⟨_,rfl,?_⟩
  rw[h1',Option.bind_some]
  simp only
  rcases zvk h2' h3' with ⟨rfl,h4⟩ | ⟨x,h4,h5,h6,h7⟩
  ·rw[show decide (((List.length ([]:List Int):Nat):Int)>0)=false from rfl,cond_false,hsh b hb]
   refine .inr ⟨rfl,fun x hx => ?_⟩
   have:=h4.1 x hx
   have:=(zfL h' hx).1
   omega
  ·have hvx:zhH (qE L' T' C') x:=by
    rcases h7 with h7 | h7
    ·have:=(h3' x).1 (List.mem_of_getElem? h4); exact this
    ·rwa [show x+1 - 1=x from by omega] at h7
   have hx:=zfL h' hvx
   have hwl:ws'.length≤1000000∨True:=.inr trivial
   have e1:IntKind.wrap .i64 (((List.length ws':Nat):Int) - 1)=((ws'.length - 1:Nat):Int)∨ws'.length>1000000:=by
    rcases Nat.lt_or_ge 1000000 ws'.length with h8 | h8
    ·exact .inr h8
    ·left; rw[zT]<;>omega
   have hlen:ws'.length≤24:=by
    -- numbers below 24 that rise
    have key:∀(ys:List Int) (m:Int),Rise ys→(∀ y∈ys,m≤y∧y<24)→(ys.length:Int)≤24 - m∨ys=[]:=by
     intro ys
     induction ys with
     | nil=>intro m _ _; exact .inr rfl
     | cons y ys ih =>
      intro m hr hy
      have hr:=List.pairwise_cons.1 hr
      have hy0:=hy y (List.mem_cons_self ..)
      rcases ih (y+1) hr.2 (fun z hz=>⟨by have:=hr.1 z hz; omega,(hy z (List.mem_cons_of_mem _ hz)).2⟩) with h8 | h8
      ·left; rw[List.length_cons]; omega
      ·subst h8; left; simp; omega
    rcases key ws' 0 h2' fun y hy=>zfL h' ((h3' y).1 hy) with h8 | h8
    ·omega
    ·rw[h8]; simp
   have e1:IntKind.wrap .i64 (((List.length ws':Nat):Int) - 1)=((ws'.length - 1:Nat):Int):=by rw[zT]<;>omega
   rw[decide_eq_true (show ((List.length ws':Nat):Int)>0 by omega),cond_true,e1,zap (by omega),Option.bind_some,h4,Option.bind_some]
   have e2:IntKind.wrap .i64 (x+(b:Int))=x+(b:Int):=by rw[zT]<;>omega
   simp only[e2]
   by_cases hf:x+(b:Int)>23
   ·rw[decide_eq_true hf,cond_true]
    exact .inl ⟨rfl,x,hvx,by omega⟩
   ·rw[decide_eq_false hf,cond_false,hsh b hb]
    refine .inr ⟨rfl,fun y hy => ?_⟩
    have:=h6 y hy
    omega
 unfold zcA
 rw[h1,Option.bind_some]
 simp only
 rcases zvk h2 h3 with ⟨rfl,h4⟩ | ⟨x,h4,h5,h6⟩
 ·rw[show decide (((List.length ([]:List Int):Nat):Int)>0)=false from rfl,cond_false]
  obtain⟨o,h8,h9⟩:=second 0 (by omega)
  rw[show ((0:Nat):Int)=0 from rfl] at h8 h9
  refine ⟨0,by omega,h4,?_⟩
  have h8':=h8
  rw[show ((0:Nat):Int)=0 from rfl]
  refine h9.imp (fun h=>⟨?_,h.2⟩) fun h=>⟨?_,h.2⟩
  ·exact h8.trans h.1
  ·exact h8.trans h.1
 ·have hvx:zhH (qE L T C) x:=(h3 x).1 (List.mem_of_getElem? h4)
  have hx:=zfL h hvx
  have hlen:ws.length≤24:=by
   have key:∀(ys:List Int) (m:Int),Rise ys→(∀ y∈ys,m≤y∧y<24)→(ys.length:Int)≤24 - m∨ys=[]:=by
    intro ys
    induction ys with
    | nil=>intro m _ _; exact .inr rfl
    | cons y ys ih =>
     intro m hr hy
     have hr:=List.pairwise_cons.1 hr
     have hy0:=hy y (List.mem_cons_self ..)
     rcases ih (y+1) hr.2 (fun z hz=>⟨by have:=hr.1 z hz; omega,(hy z (List.mem_cons_of_mem _ hz)).2⟩) with h8 | h8
     ·left; rw[List.length_cons]; omega
     ·subst h8; left; simp; omega
   rcases key ws 0 h2 fun y hy=>zfL h ((h3 y).1 hy) with h8 | h8
   ·omega
   ·rw[h8]; simp
  have e1:IntKind.wrap .i64 (((List.length ws:Nat):Int) - 1)=((ws.length - 1:Nat):Int):=by rw[zT]<;>omega
  rw[decide_eq_true (show ((List.length ws:Nat):Int)>0 by omega),cond_true,e1,zap (by omega),Option.bind_some,h4,Option.bind_some]
  have e2:IntKind.wrap .i64 (x+1)=(((x+1).toNat:Nat):Int):=by rw[zT]<;>omega
  rw[e2]
  obtain⟨o,h8,h9⟩:=second (x+1).toNat (by omega)
  refine ⟨(x+1).toNat,by omega,by rw[Int.toNat_of_nonneg (show (0:Int)≤x+1 by omega)]; exact h6,?_⟩
  refine h9.imp (fun h=>⟨?_,h.2⟩) fun h=>⟨?_,h.2⟩
  ·exact h8.trans h.1
  ·exact h8.trans h.1
end
end Go.Abs.Q
namespace Go.Abs.Q
open Go Go.Abs
section
abbrev zMG:=List zt×List jI×Bool×Int×List zt
def zqJ (k:Int):Option zMG:=some ([],[],false,k,[])
theorem zFG {α β:Type} (f:α→β) {xs:List α} {i:Int} {x:α} (h:gx xs i=some x):gx (xs.map f) i=some (f x):=by
 unfold gx at h ⊢
 cases hd:decide (0≤i) with
 | false=>rw[hd] at h; cases h
 | true =>
  rw[hd,cond_true] at h
  rw[cond_true,List.getElem?_map,h]
  rfl
theorem zkx {α:Type} {xs:List α} {i:Int} {x:α} (h:gx xs i=some x):x∈xs:=by
 unfold gx at h
 cases hd:decide (0≤i) with
 | false=>rw[hd] at h; cases h
 | true =>
  rw[hd,cond_true] at h
  exact List.mem_of_getElem? h
def Cds (r:List Int):Prop:=r.length≤1000∧∀ c∈r,-24≤c∧c≤1000000
theorem Cds.near {r:List Int} (h:Cds r):zcB r:=⟨h.1,fun c hc=>by have:=h.2 c hc; omega⟩
theorem zj6 {a0:List zQ} (hs:SignOk a0) {L:List zt} {T:List jI} {C:List zt} (h:zhL a0 L T C=true):∀ r∈qE L T C,Cds r:=by
 intro r hr
 have h1:=zpL h r hr
 obtain⟨-,-,-,-,h4,h5,h6,-⟩:=zaF h
 have h2:zcB r:=by
  unfold qE at hr
  rcases List.mem_append.1 hr with hr | hr
  ·rcases List.mem_append.1 hr with hr | hr
   ·obtain⟨l,hl,rfl⟩:=List.mem_map.1 hr; exact zdI hs h4 l hl
   ·obtain⟨l,hl,rfl⟩:=List.mem_map.1 hr; exact zdI hs h6 l hl
  ·exact zjB hs h5 r hr
 exact ⟨h2.1,fun c hc=>⟨h1.2 c hc,(h2.2 c hc).2⟩⟩
theorem zFC {b:Nat} {r:List Int} (h:Cds r) (hb:∀ x,zzz r x→x+(b:Int)≤23):Cds (r.map (upC (b:Int))):=by
 refine ⟨by rw[List.length_map]; exact h.1,fun c hc => ?_⟩
 obtain⟨d,hd,rfl⟩:=List.mem_map.1 hc
 have h1:=h.2 d hd
 unfold upC
 by_cases h0:d<0
 ·have:=hb (-1 - d) ⟨d,hd,h0,rfl⟩
  rw[decide_eq_true h0,cond_true]; omega
 ·rw[decide_eq_false h0,cond_false]; omega
theorem zvC {a0:List zQ} {b:Nat} {ts:List Tm} (h:okR a0 24 ts) (hb:∀ k:Nat,zl9 k ts→k+b<24):okR a0 24 (ts.map (Tm.up b)):=by
 have e:ts.map (Tm.up b)=zb6 (fun n=>Tm.v (n+b)) ts:=by rw[zhW]; rfl
 rw[e]
 exact zsD ts h fun x hx=>hb x hx
theorem zs9 (b:Nat) (c:Nat) (ts:List Tm):((c:Int)::zD ts).map (upC (b:Int))=(c:Int)::zD (ts.map (Tm.up b)):=by
 rw[List.map_cons,zn8]
 unfold upC
 rw[decide_eq_false (show ¬((c:Int)<0) by omega)]
 rfl
theorem zaZ {L:List zt} {T:List jI} {C:List zt} {l:zt} (h:l∈L):l.2∈qE L T C:=by
 unfold qE
 exact List.mem_append_left _ (List.mem_append_left _ (List.mem_map_of_mem h))
theorem zbm {L:List zt} {T:List jI} {C:List zt} {l:zt} (h:l∈C):l.2∈qE L T C:=by
 unfold qE
 exact List.mem_append_left _ (List.mem_append_right _ (List.mem_map_of_mem h))
theorem zbJ {L:List zt} {T:List jI} {C:List zt} {r:List Int} (h:r∈T):r∈qE L T C:=by
 unfold qE
 exact List.mem_append_right _ h
theorem zLA {σ:Sb} (hsh:zaK σ (List.range 24)=true) {L:List zt} {T:List jI} {C:List zt} (hL:∀ l∈L,Cds l.2) (hT:∀ r∈T,Cds r) (hC:∀ l∈C,Cds l.2) (h1:L.length≤1000) (h2:T.length≤1000) (h3:C.length≤1000) :
  zgj (zds σ) L T C=some (zdV σ L,T.map (zf8 σ),zdV σ C):=by
 rw[zpJ (zsY hsh) (fun l hl=>(hL l hl).near) (fun r hr=>(hT r hr).near) (fun l hl=>(hC l hl).near) h1 h2 h3,
  zkO fun l hl c hc=>((hL l hl).2 c hc).1,zkO fun l hl c hc=>((hC l hl).2 c hc).1,zte fun r hr c hc=>((hT r hr).2 c hc).1]
def zzr (i j:Int) (b:Nat) (L L':List zt):List zt:=zal i L 0++zal j (ze5 (b:Int) L') 0
def zvN (b:Nat) (T T':List jI):List jI:=T++T'.map (List.map (upC (b:Int)))
def zwW (b:Nat) (C C':List zt):List zt:=C++ze5 (b:Int) C'
def zni (a0:List zQ) (σ:Sb) (L:List zt) (T:List jI) (C:List zt) (k:Int):Option zMG :=
 cond (zhL a0 (zdV σ L) (T.map (zf8 σ)) (zdV σ C)) (some ((zgA (zdV σ L) (T.map (zf8 σ)) (zdV σ C)).1,(zgA (zdV σ L) (T.map (zf8 σ)) (zdV σ C)).2.1,true,0,(zgA (zdV σ L) (T.map (zf8 σ)) (zdV σ C)).2.2)) (zqJ k)
theorem zfR {a0:List zQ} (hs:SignOk a0) {L:List zt} {T:List jI} {C:List zt} {L':List zt} {T':List jI} {C':List zt} (h:zhL a0 L T C=true) (h':zhL a0 L' T' C'=true) {i j:Int} {n n':Bool} {A A':List Int}
  (hi:gx L i=some (n,A)) (hj:gx L' j=some (n',A')) :
  ((n=n'∨gx A 0≠gx A' 0)∧za7 a0 L T C i L' T' C' j=zqJ 0) ∨
  (n≠n'∧∃(b c:Nat) (ts us:List Tm),b≤24∧TopV (qE L T C) (b:Int)∧A=(c:Int)::zD ts∧A'=(c:Int)::zD us∧okR a0 24 ts∧okR a0 24 us∧ts.length=us.length ∧
   ((za7 a0 L T C i L' T' C' j=zqJ 1301∧∃ x,zhH (qE L' T' C') x∧23<x+(b:Int)) ∨
    ((∀ x,zhH (qE L' T' C') x→x+(b:Int)≤23) ∧
    ((za7 a0 L T C i L' T' C' j=zqJ 0∧∀ θ,¬ Sol θ (ts.zip (us.map (Tm.up b)))) ∨
     ∃ σ,Mgu σ (ts.zip (us.map (Tm.up b)))∧(∀ x,x<24→(σ x).ok a0 24) ∧
      ((zaK σ (List.range 24)=false∧za7 a0 L T C i L' T' C' j=zqJ 1302) ∨
      (zaK σ (List.range 24)=true∧za7 a0 L T C i L' T' C' j=zni a0 σ (zzr i j b L L') (zvN b T T') (zwW b C C') 1302)))))):=by
 obtain⟨hsb,l1,l2,l3,l4,l5,l6,-⟩:=zaF h
 obtain⟨-,l1',l2',l3',l4',l5',l6',-⟩:=zaF h'
 have hA:=List.all_eq_true.1 l4 (n,A) (zkx hi)
 have hA':=List.all_eq_true.1 l4' (n',A') (zkx hj)
 obtain⟨c,ts,e,rfl,ho,he,-,hlen,hl48,-⟩:=ziS hA
 obtain⟨c',us,e',rfl,ho',he',-,hlen',hl48',-⟩:=ziS hA'
 unfold za7
 rw[hi,Option.bind_some,hj,Option.bind_some]
 simp only[Option.bind_some]
 by_cases hn:n=n'
 ·subst hn
  rw[show (n==n)=true from by simp,cond_true]
  exact .inl ⟨.inl rfl,rfl⟩
 ·rw[show (n==n')=false from by simp [hn],cond_false]
  simp only[qK,List.getElem?_cons_zero,Option.bind_some]
  by_cases hc:c=c'
  ·subst hc
   rw[show ((c:Int) != (c:Int))=false from by simp,cond_false]
   have hll:ts.length=us.length:=by
    rw[he] at he'; injection he' with he'; subst he'
    omega
   refine .inr ⟨hn,?_⟩
   obtain⟨b,hb,htop,hap⟩:=apart_spec hs h h'
   refine ⟨b,c,ts,us,hb,htop,rfl,rfl,ho,ho',hll,?_⟩
   rcases hap with ⟨hap,hfar⟩ | ⟨hap,hnear⟩
   ·rw[hap]
    exact .inl ⟨rfl,hfar⟩
   ·rw[hap]
    simp only[Option.bind_some,Bool.not_true,cond_false]
    refine .inr ⟨hnear,?_⟩
    have hj2:gx (ze5 (b:Int) L') j=some (n',((c:Int)::zD us).map (upC (b:Int))):=zFG _ hj
    rw[hj2]
    simp only[zc0,Option.bind_some]
    rw[zs9,zc0]
    simp only[Option.bind_some]
    have hvar:∀ k:Nat,zl9 k us→k+b<24:=fun k hk=>by
     have:=hnear (k:Int) ⟨_,zaZ (zkx hj),by
      obtain⟨c0,h1,h2,h3⟩:=zm5.2 ⟨k,rfl,hk⟩
      exact ⟨c0,List.mem_cons_of_mem _ h1,h2,h3⟩⟩
     omega
    have hlu:(zD (us.map (Tm.up b))).length≤48:=by rw[← zn8,List.length_map]; exact hl48'
    rcases ztR hs (xs:=zD ts) (ys:=zD (us.map (Tm.up b))) rfl rfl ho (zvC ho' hvar) hsb hl48 hlu with ⟨hu,hno⟩ | ⟨-,σ,hm,hok,hu⟩
    ·rw[hu]
     refine .inl ⟨rfl,?_⟩
     rcases hno with hno | hno
     ·rw[List.length_map] at hno; exact absurd hll hno
     ·exact hno
    ·rw[hu]
     refine .inr ⟨σ,hm,hok,?_⟩
     cases hsh:zaK σ (List.range 24) with
     | false=>exact .inl ⟨rfl,rfl⟩
     | true =>
      refine .inr ⟨rfl,?_⟩
      simp only[cond_true,Option.bind_some,show ((0:Int) != 0)=false from rfl,cond_false,Bool.not_true]
      have hul:(ze5 (b:Int) L').length=L'.length:=by simp [ze5]
      have hucl:(ze5 (b:Int) C').length=C'.length:=by simp [ze5]
      rw[zl8 i j (by omega) (by omega) (by omega) (by omega) (by simp; omega) (by omega),Option.bind_some]
      simp only
      have hcd:=zj6 hs h
      have hcd':=zj6 hs h'
      have hwl:=zcP i L 0
      have hwl':=zcP j (ze5 (b:Int) L') 0
      have hup:∀ r∈qE L' T' C',Cds (r.map (upC (b:Int))):=fun r hr=>zFC (hcd' r hr) fun x hx=>hnear x ⟨r,hr,hx⟩
      have hupl:∀ ls:List zt,(∀ l∈ls,l.2∈qE L' T' C')→∀ l∈ze5 (b:Int) ls,Cds l.2:=fun ls hls l hl=>by
       obtain⟨l0,h0,rfl⟩:=List.mem_map.1 hl
       exact hup _ (hls l0 h0)
      rw[zLA hsh (fun l hl => ?_) (fun r hr => ?_) (fun l hl => ?_) (by rw[List.length_append]; omega) (by rw[List.length_append,List.length_map]; omega) (by rw[List.length_append]; omega),Option.bind_some,zkJ,Option.bind_some]
      ·unfold zni zzr zvN zwW
       cases hmy:zhL a0 (zdV σ (zal i L 0++zal j (ze5 (b:Int) L') 0)) ((T++T'.map (List.map (upC (b:Int)))).map (zf8 σ)) (zdV σ (C++ze5 (b:Int) C')) with
       | true=>rfl
       | false=>rfl
      ·rcases List.mem_append.1 hl with hl | hl
       ·exact hcd _ (zaZ (zcI L 0 hl))
       ·exact hupl L' (fun l hl=>zaZ hl) l (zcI _ 0 hl)
      ·rcases List.mem_append.1 hr with hr | hr
       ·exact hcd _ (zbJ hr)
       ·obtain⟨r0,h0,rfl⟩:=List.mem_map.1 hr
        exact hup _ (zbJ h0)
      ·rcases List.mem_append.1 hl with hl | hl
       ·exact hcd _ (zbm hl)
       ·exact hupl C' (fun l hl=>zbm hl) l hl
  ·rw[show ((c:Int) != (c':Int))=true from by simp; omega,cond_true]
   refine .inl ⟨.inr ?_,rfl⟩
   intro hcc
   injection hcc with hcc
   omega
end
end Go.Abs.Q
namespace Go.Abs.Q
open Go Go.Abs
section
theorem ztM {a0:List zQ}:∀(n:Nat) (ts us:List Tm),zbu ts≤n→okR a0 24 ts→okR a0 24 us→zD ts=zD us→ts=us:=by
 intro n
 induction n with
 | zero =>
  intro ts us hn _ _ he
  cases ts with
  | cons t ts=>have:=t.size_pos; simp only[zbu] at hn; omega
  | nil =>
   cases us with
   | nil=>rfl
   | cons u us =>
    have:=congrArg List.length he
    rw[zch,zch] at this
    have:=u.size_pos
    simp only[zbu] at *; omega
 | succ n ih =>
  intro ts us hn ho ho' he
  cases ts with
  | nil =>
   cases us with
   | nil=>rfl
   | cons u us =>
    have:=congrArg List.length he
    rw[zch,zch] at this
    have:=u.size_pos
    simp only[zbu] at *; omega
  | cons t ts =>
   cases us with
   | nil =>
    have:=congrArg List.length he
    rw[zch,zch] at this
    have:=t.size_pos
    simp only[zbu] at *; omega
   | cons u us =>
    have he:t.codes++zD ts=u.codes++zD us:=he
    cases t with
    | v k =>
     cases u with
     | v k' =>
      have he:(-1 - (k:Int))::zD ts=(-1 - (k':Int))::zD us:=he
      injection he with h1 h2
      have:k=k':=by omega
      rw[this,ih ts us (by simp only[zbu,Tm.size] at hn; omega) ho.2 ho'.2 h2]
     | f c as =>
      have he:(-1 - (k:Int))::zD ts=(c:Int)::(zD as++zD us):=he
      injection he with h1 h2
      omega
    | f c as =>
     cases u with
     | v k' =>
      have he:(c:Int)::(zD as++zD ts)=(-1 - (k':Int))::zD us:=he
      injection he with h1 h2
      omega
     | f c' bs =>
      have he:(c:Int)::(zD as++zD ts)=(c':Int)::(zD bs++zD us):=he
      injection he with h1 h2
      have hc:c=c':=by omega
      subst hc
      rw[← zkb,← zkb] at h2
      have ha:=ho.1.1
      have hb:=ho'.1.1
      rw[ha] at hb
      injection hb with hb
      have:=ih (as++ts) (bs++us) (by rw[zzS]; simp only[zbu,Tm.size] at hn; omega)
       (zeB.2 fun t ht=>(List.mem_append.1 ht).elim (zeB.1 ho.1.2 t) (zeB.1 ho.2 t))
       (zeB.2 fun t ht=>(List.mem_append.1 ht).elim (zeB.1 ho'.1.2 t) (zeB.1 ho'.2 t)) h2
      obtain⟨h3,h4⟩:=List.append_inj this hb
      rw[h3,h4]
theorem zfV (L:List zt) (T:List jI) (C:List zt) (i:Int):zcl L T C i=some (zcG L i):=by
 unfold zcl zcG
 by_cases h:i≥0
 ·rw[decide_eq_true h,cond_true,Bool.true_and]
 ·rw[decide_eq_false h,cond_false,Bool.false_and]
theorem zhR (a0:List zQ) (L:List zt) (T:List jI) (C:List zt) (i:Int) (L':List zt) (T':List jI) (C':List zt) (j:Int) :
  zbs a0 L T C i L' T' C' j=cond (zhL a0 L T C&&zhL a0 L' T' C'&&zcG L i&&zcG L' j) (za7 a0 L T C i L' T' C' j) (zqJ 1300):=by
 unfold zbs
 rw[zdu,Option.bind_some,zdu,Option.bind_some,zfV,Option.bind_some,zfV,Option.bind_some]
 have eta:∀ o:Option zMG,(o.bind fun r=>some (r.1,r.2.1,r.2.2.1,r.2.2.2.1,r.2.2.2.2))=o:=fun o=>by cases o<;>rfl
 cases zhL a0 L T C with
 | false=>rfl
 | true =>
  cases zhL a0 L' T' C' with
  | false=>rfl
  | true =>
   cases zcG L i with
   | false=>rfl
   | true =>
    cases zcG L' j with
    | false=>rfl
    | true=>exact eta _
theorem zmL:zim=some true:=by kernel_rfl
end
end Go.Abs.Q
namespace Go.Abs.Q
open Go Go.Abs
section
theorem zox {α:Type} [DecidableEq α]:(a b:List α)→a.Nodup→(∀ x∈a,x∈b)→a.length≤b.length
 | [],_,_,_=>Nat.zero_le _
 | x::a,b,hn,hs=>by
  have hn:=List.nodup_cons.1 hn
  have hx:=hs x (List.mem_cons_self ..)
  have h1:∀ y∈a,y∈b.erase x:=fun y hy=>by
   have hne:y≠x:=fun e=>hn.1 (e▸hy)
   exact (List.mem_erase_of_ne hne).2 (hs y (List.mem_cons_of_mem _ hy))
  have h2:=zox a (b.erase x) hn.2 h1
  rw[List.length_erase_of_mem hx] at h2
  have:=List.length_pos_of_mem hx
  simp only[List.length_cons]
  omega
theorem ziz {L:List zt} {i:Int} (h:zcG L i=true):∃ l,gx L i=some l:=by
 unfold zcG at h
 simp only[Bool.and_eq_true,decide_eq_true_eq] at h
 obtain⟨l,h1,-⟩:=zvw (xs:=L) h.1 h.2
 exact ⟨l,h1⟩
end
end Go.Abs.Q
namespace Go.Abs.Q
open Go Go.Abs
def zb1 (rec:(jI×Int×Int)→Option (Unit⊕Bool)) (x:(jI×Int×Int)):Option (Unit⊕Bool) :=
 cond (decide (x.2.2<((List.length x.1:Nat):Int)))
 ((gx x.1 x.2.2).bind fun e2 =>
  cond (e2==(IntKind.wrap .i64 ((-1) - x.2.1)))
  (some (Sum.inr true))
  (rec (x.1,x.2.1,(IntKind.wrap .i64 (x.2.2+1)))))
 (some (Sum.inl ()))
def zo0 (a0:jI) (a1:Int):Option Bool :=
 ((lp zb1 zp) (a0,a1,0)).bind fun r6 =>
 qL r6
 (fun z7=>some false)
 (fun z8=>some z8)
def zaz (rec:(jI×Int×jI)→Option jI) (x:(jI×Int×jI)):Option jI :=
 cond (decide (x.2.1≤23))
 ((zo0 x.1 x.2.1).bind fun r3 =>
  cond r3
  (cond (yY (List.length x.2.2+List.length ([x.2.1]:List Int)) 8)
   (rec (x.1,(IntKind.wrap .i64 (x.2.1+1)),(x.2.2++([x.2.1]:List Int))))
   (none))
  (rec (x.1,(IntKind.wrap .i64 (x.2.1+1)),x.2.2)))
 (some x.2.2)
def zh3 (a0:jI):Option jI :=
 ((lp zaz zp) (a0,0,([]:jI))).bind fun r5 =>
 some r5
def qT (rec:(jR×Int×jI)→Option jI) (x:(jR×Int×jI)):Option jI :=
 cond (decide (x.2.1<((List.length x.1:Nat):Int)))
 ((gx x.1 x.2.1).bind fun e4 =>
  cond (yY (List.length x.2.2+List.length e4) 8)
  (rec (x.1,(IntKind.wrap .i64 (x.2.1+1)),(x.2.2++e4)))
  (none))
 (some x.2.2)
def zcO (a0:jQ) (a1:jR) (a2:jQ):Option jI :=
 (zeO a0 a1 a2).bind fun r7 =>
 ((lp qT zp) (r7,0,([]:jI))).bind fun r8 =>
 (zh3 r8).bind fun r9 =>
 some r9
def ziA (rec:(jI×Int×Int×Int×jI)→Option Int) (x:(jI×Int×Int×Int×jI)):Option Int :=
 cond (decide (x.2.2.1<((List.length x.1:Nat):Int)))
 ((gx x.1 x.2.2.1).bind fun e2 =>
  rec (x.1,(IntKind.wrap .u64 ((IntKind.wrap .u64 ((IntKind.wrap .u64 (x.2.1*5))+(IntKind.wrap .u64 e2)))+3)),(IntKind.wrap .i64 (x.2.2.1+1)),x.2.2.2.1,x.2.2.2.2))
 (some x.2.1)
def zmx (a0:Int) (a1:jI) (a2:Int) (a3:jI):Option Int :=
 cond (((List.length a1:Nat):Int)==0)
 (some 0)
 (((lp ziA zp) (a3,(IntKind.wrap .u64 (IntKind.wrap .i64 ((IntKind.wrap .i64 (a2*7))+1))),0,a0,a1)).bind fun r6 =>
  cond (decide ((IntKind.wrap .u64 ((List.length a1:Nat):Int))=0))
  (none)
  ((gx a1 (IntKind.wrap .i64 (Int.tmod r6 (IntKind.wrap .u64 ((List.length a1:Nat):Int))))).bind fun e7 =>
   (zPc .and .i64 e7 255).bind fun b8 =>
   some b8))
end Go.Abs.Q
namespace Go.Abs.Q
open Go Go.Abs
def zbi (s1:Int):List Int→Option (Unit⊕Bool)
 | []=>some (Sum.inl ())
 | e::es =>
  cond (e==(IntKind.wrap .i64 ((-1) - s1)))
  (some (Sum.inr true))
  (zbi s1 es)
theorem zkH (s0:jI) (s1:Int) (hl:List.length s0≤maxLen):∀(es:List Int) (i:Nat) (k:Nat),s0.drop i=es→es.length<k→lp zb1 k (s0,s1,(i:Int))=zbi s1 es:=by
 intro es
 induction es with
 | nil =>
  intro i k h hk
  obtain⟨k,rfl⟩:∃ k',k=k'+1:=⟨k - 1,by omega⟩
  rw[zk]
  generalize lp zb1 k=rec
  unfold zb1 zbi
  simp only[zu (zm h),cond_false]
 | cons e es ih =>
  intro i k h hk
  obtain⟨k,rfl⟩:∃ k',k=k'+1:=⟨k - 1,by omega⟩
  rw[zk]
  have hi:=zl h
  have hk2:es.length<k:=Nat.lt_of_succ_lt_succ hk
  have key:=fun (_:Unit)=>ih (i+1) k (zh h) hk2
  generalize lp zb1 k=rec at key ⊢
  unfold zb1 zbi
  simp only[zE hi,cond_true,zJ,zj h,Option.bind_some,zF hi hl,key ()]
theorem zjN (s0:jI) (s1:Int) (hl:List.length s0≤maxLen):lp zb1 zp (s0,s1,0)=zbi s1 s0 :=
 zkH s0 s1 hl s0 0 zp rfl (Nat.lt_of_le_of_lt hl (by decide))
def qk:List jI→jI→Option jI
 | [],s2=>some s2
 | e::es,s2 =>
  cond (yY (List.length s2+List.length e) 8)
  (qk es (s2++e))
  (none)
theorem zhw (s0:jR) (hl:List.length s0≤maxLen):∀(es:List jI) (i:Nat) (k:Nat) (s2:jI),s0.drop i=es→es.length<k→lp qT k (s0,(i:Int),s2)=qk es s2:=by
 intro es
 induction es with
 | nil =>
  intro i k s2 h hk
  obtain⟨k,rfl⟩:∃ k',k=k'+1:=⟨k - 1,by omega⟩
  rw[zk]
  generalize lp qT k=rec
  unfold qT qk
  simp only[zu (zm h),cond_false]
 | cons e es ih =>
  intro i k s2 h hk
  obtain⟨k,rfl⟩:∃ k',k=k'+1:=⟨k - 1,by omega⟩
  rw[zk]
  have hi:=zl h
  have hk2:es.length<k:=Nat.lt_of_succ_lt_succ hk
  have key:=fun s2=>ih (i+1) k s2 (zh h) hk2
  generalize lp qT k=rec at key ⊢
  unfold qT qk
  simp only[zE hi,cond_true,zJ,zj h,Option.bind_some,zF hi hl,key]
theorem zgu (s0:jR) (s2:jI) (hl:List.length s0≤maxLen):lp qT zp (s0,0,s2)=qk s0 s2 :=
 zhw s0 hl s0 0 zp s2 rfl (Nat.lt_of_le_of_lt hl (by decide))
end Go.Abs.Q
namespace Go.Abs.Q
open Go Go.Abs
section
def zsI (nums:List Int):Prop:=nums≠[]∧nums.length≤9223372036854775807
def zDR (m:Int) (nums:List Int) (c:Int) (xs:List Int):Int:=(zmx m nums c xs).getD 0
section
variable (m:Int) (nums:List Int)
mutual
def zAF (env:Nat→Int):Tm→Int
 | .v n=>env n
 | .f c ts=>Int.tmod (zDR m nums (c:Int) (zuP env ts)) m
def zuP (env:Nat→Int):List Tm→List Int
 | []=>[]
 | t::ts=>zAF env t::zuP env ts
end
mutual
theorem zCM (env:Nat→Int) (s:Sb):(t:Tm)→zAF m nums env (t.sub s)=zAF m nums (fun n=>zAF m nums env (s n)) t
 | .v n=>rfl
 | .f c ts=>by
  show Int.tmod (zDR m nums (c:Int) (zuP m nums env (zb6 s ts))) m=_
  rw[ztg env s ts]
  rfl
theorem ztg (env:Nat→Int) (s:Sb):(ts:List Tm)→zuP m nums env (zb6 s ts)=zuP m nums (fun n=>zAF m nums env (s n)) ts
 | []=>rfl
 | t::ts=>by
  show zAF m nums env (t.sub s)::zuP m nums env (zb6 s ts)=_
  rw[zCM env s t,ztg env s ts]
  rfl
end
mutual
theorem zDh {e e':Nat→Int}:(t:Tm)→(∀ x,t.has x→e x=e' x)→zAF m nums e t=zAF m nums e' t
 | .v n,h=>h n rfl
 | .f c ts,h=>by
  show Int.tmod (zDR m nums (c:Int) (zuP m nums e ts)) m=Int.tmod (zDR m nums (c:Int) (zuP m nums e' ts)) m
  rw[zsH ts h]
theorem zsH {e e':Nat→Int}:(ts:List Tm)→(∀ x,zl9 x ts→e x=e' x)→zuP m nums e ts=zuP m nums e' ts
 | [],_=>rfl
 | t::ts,h=>by
  show zAF m nums e t::zuP m nums e ts=zAF m nums e' t::zuP m nums e' ts
  rw[zDh t fun x hx=>h x (.inl hx),zsH ts fun x hx=>h x (.inr hx)]
end
end
structure EnvOk (m:Int) (E:List Int):Prop where
 len:E.length=24
 rng:∀ x∈E,0≤x∧x<m
def zMP (E:List Int) (n:Nat):Int:=E.getD n 0
theorem EnvOk.get {m:Int} {E:List Int} (h:EnvOk m E) {n:Nat} (hn:n<24):E[n]? = some (zMP E n):=by
 unfold zMP
 rw[List.getD_eq_getElem?_getD,List.getElem?_eq_getElem (by rw[h.len]; exact hn)]
 rfl
theorem EnvOk.val {m:Int} {E:List Int} (h:EnvOk m E) {n:Nat} (hn:n<24):0≤zMP E n∧zMP E n<m:=h.rng _ (List.mem_of_getElem? (h.get hn))
end
end Go.Abs.Q
namespace Go.Abs.Q
open Go Go.Abs
section
section
variable {m:Int} (hm:0<m) {nums:List Int} (hn:zsI nums) {a0:List zQ} (hs:SignOk a0) {E:List Int} (hE:EnvOk m E)
include hm hn hs hE
end
theorem EnvOk.set {m:Int} {E:List Int} (h:EnvOk m E) {v:Nat} {x:Int} (hx:0≤x∧x<m):EnvOk m (E.set v x) where
 len:=by rw[List.length_set]; exact h.len
 rng:=fun y hy=>by
  rcases List.mem_or_eq_of_mem_set hy with hy | hy
  ·exact h.rng y hy
  ·rw[hy]; exact hx
end
end Go.Abs.Q
namespace Go.Abs.Q
open Go Go.Abs
section
theorem zLX (v:Nat) (hv:v<24):(es:List Int)→zbi (v:Int) es=some (cond (decide (-1 - (v:Int)∈es)) (.inr true) (.inl ()))
 | []=>rfl
 | e::es=>by
  unfold zbi
  have w:IntKind.wrap .i64 ((-1) - (v:Int)) = -1 - (v:Int):=by rw[zT]<;>omega
  rw[w,zLX v hv es]
  by_cases he:e = -1 - (v:Int)
  ·rw[show (e == -1 - (v:Int))=true from by simp [he],decide_eq_true (show -1 - (v:Int)∈e::es by rw[he]; exact List.mem_cons_self ..)]
   rfl
  ·rw[show (e == -1 - (v:Int))=false from by simp [he],cond_false]
   by_cases hm:(-1 - (v:Int))∈es
   ·rw[decide_eq_true hm,decide_eq_true (List.mem_cons_of_mem _ hm)]
   ·rw[decide_eq_false hm,decide_eq_false fun h=>(List.mem_cons.1 h).elim (fun h=>he h.symm) hm]
theorem ztU {v:Nat} (hv:v<24) {r:List Int} (hl:r.length≤1000000):zo0 r (v:Int)=some (decide (-1 - (v:Int)∈r)):=by
 unfold zo0
 rw[zjN _ _ (by unfold maxLen; omega),zLX v hv,Option.bind_some]
 cases decide (-1 - (v:Int)∈r)<;>rfl
def zIZ (r:List Int) (v:Nat):Bool:=decide (-1 - (v:Int)∈r)
theorem zqQ {r:List Int} (hl:r.length≤1000000):∀(d v k:Nat) (out:List Int),24 - v=d→v≤24→d<k→out.length≤v →
  lp zaz k (r,(v:Int),out)=some (out++(((List.range 24).drop v).filter (zIZ r)).map fun v:Nat=>(v:Int)):=by
 intro d
 induction d with
 | zero =>
  intro v k out hd hv hk ho
  obtain⟨k,rfl⟩:∃ k',k=k'+1:=⟨k - 1,by omega⟩
  rw[zk]
  generalize lp zaz k=rec
  unfold zaz
  have:v=24:=by omega
  subst this
  rw[show (List.range 24).drop 24=[] from rfl]
  simp
 | succ d ih =>
  intro v k out hd hv hk ho
  obtain⟨k,rfl⟩:∃ k',k=k'+1:=⟨k - 1,by omega⟩
  rw[zk]
  have key:=fun out ho=>ih (v+1) k out (by omega) (by omega) (by omega) ho
  generalize lp zaz k=rec at key ⊢
  unfold zaz
  have w:IntKind.wrap .i64 ((v:Int)+1)=((v+1:Nat):Int):=by rw[zT]<;>omega
  have hdr:(List.range 24).drop v=v::(List.range 24).drop (v+1):=by
   rw[List.drop_eq_getElem_cons (by simp; omega)]
   simp
  simp only[decide_eq_true (show (v:Int)≤23 by omega),cond_true,ztU (show v<24 by omega) hl,Option.bind_some,w]
  rw[hdr]
  by_cases hm:(-1 - (v:Int))∈r
  ·rw[decide_eq_true hm,cond_true,zP (by simp; omega),cond_true,key _ (by simp; omega)]
   have:zIZ r v=true:=decide_eq_true hm
   rw[List.filter_cons_of_pos this]
   simp
  ·rw[decide_eq_false hm,cond_false,key _ (by omega)]
   have:¬(zIZ r v=true):=by unfold zIZ; rw[decide_eq_false hm]; simp
   rw[List.filter_cons_of_neg this]
theorem zxT:(es:List jI)→(out:List Int)→out.length+zG es≤1000000→qk es out=some (out++es.flatten)
 | [],out,_=>by simp [qk]
 | e::es,out,h=>by
  rw[zdZ] at h
  unfold qk
  rw[zP (by omega),cond_true,zxT es _ (by rw[List.length_append]; omega)]
  simp
def zhz (L:List zt) (T:List jI) (C:List zt):List Nat:=(List.range 24).filter (zIZ (L.map (·.2)++T++C.map (·.2)).flatten)
theorem zl5 (L:List zt) (T:List jI) (C:List zt):(zhz L T C).Nodup:=List.nodup_range.sublist List.filter_sublist
theorem zjw {L:List zt} {T:List jI} {C:List zt}:∀ v∈zhz L T C,v<24:=fun v hv=>List.mem_range.1 (List.mem_filter.1 hv).1
theorem zi8 {L:List zt} {T:List jI} {C:List zt} {v:Nat} (hv:v<24):v∈zhz L T C↔zhH (qE L T C) (v:Int):=by
 unfold zhz zIZ
 rw[List.mem_filter]
 simp only[List.mem_range,hv,true_and,decide_eq_true_eq,List.mem_flatten]
 constructor
 ·rintro⟨r,hr,hc⟩
  refine ⟨r,?_,_,hc,by omega,by omega⟩
  unfold qE
  simp only[List.mem_append] at hr ⊢
  rcases hr with (hr | hr) | hr
  ·exact .inl (.inl hr)
  ·exact .inr hr
  ·exact .inl (.inr hr)
 ·rintro⟨r,hr,c,hc,h0,he⟩
  refine ⟨r,?_,by rw[show -1 - (v:Int)=c from by omega]; exact hc⟩
  unfold qE at hr
  simp only[List.mem_append] at hr ⊢
  rcases hr with (hr | hr) | hr
  ·exact .inl (.inl hr)
  ·exact .inr hr
  ·exact .inl (.inr hr)
theorem zes {L:List zt} {T:List jI} {C:List zt} (h1:L.length≤1000) (h2:T.length≤1000) (h3:C.length≤1000) (hl:zG (L.map (·.2))+zG T+zG (C.map (·.2))≤1000000) :
  zcO L T C=some ((zhz L T C).map fun v:Nat=>(v:Int)):=by
 unfold zcO
 rw[zgW L T C h1 h2 h3,Option.bind_some,zgu _ _ (by simp; unfold maxLen; omega),zxT _ _ (by rw[za4,za4]; simp; omega),Option.bind_some]
 unfold zh3
 have hf:((L.map (·.2)++T++C.map (·.2)).flatten).length≤1000000:=by
  rw[← zBZ,za4,za4]; omega
 have:=zqQ hf 24 0 zp [] rfl (by omega) (by unfold zp; omega) (by simp)
 rw[show ((0:Nat):Int)=0 from rfl,List.drop_zero] at this
 simp only[List.nil_append] at this ⊢
 rw[this]
 rfl
end
end Go.Abs.Q
namespace Go.Abs.Q
open Go Go.Abs
section
abbrev zpD:=List Int×Int
def rho (s:zpD) (v:Nat):Nat:=(s.1.getD v 0).toNat - 1
structure RenI (s:zpD):Prop where
 len:s.1.length=24
 rng:∀ v,0≤s.1.getD v 0∧s.1.getD v 0≤s.2
 inj:∀ v w,s.1.getD v 0=s.1.getD w 0→s.1.getD v 0≠0→v=w
 cnt:((s.1.countP (fun x=>x != 0):Nat):Int)=s.2
def ExtS (s s':zpD):Prop:=∀ v,s.1.getD v 0≠0→s'.1.getD v 0=s.1.getD v 0
theorem ExtS.refl (s:zpD):ExtS s s:=fun _ _=>rfl
theorem ExtS.trans {s t u:zpD} (h:ExtS s t) (h':ExtS t u):ExtS s u:=fun v hv=>(h' v (by rw[h v hv]; exact hv)).trans (h v hv)
theorem RenI.next {s:zpD} (h:RenI s):0≤s.2∧s.2≤24:=by
 have h1:=h.cnt
 have h2:s.1.countP (fun x=>x != 0)≤s.1.length:=List.countP_le_length
 rw[h.len] at h2
 omega
theorem zPq:RenI (List.replicate 24 (0:Int),0) where
 len:=by simp
 rng:=fun v=>by
  rw[List.getD_eq_getElem?_getD,List.getElem?_replicate]
  split<;>simp
 inj:=fun v w _ h=>by
  exfalso
  apply h
  rw[List.getD_eq_getElem?_getD,List.getElem?_replicate]
  split<;>rfl
 cnt:=by decide
theorem zuJ {xs:List Int} {v:Nat} {y:Int} (hv:xs[v]? = some 0) (hy:y≠0):(xs.set v y).countP (fun x=>x != 0)=xs.countP (fun x=>x != 0)+1:=by
 obtain⟨hx,he⟩:=List.getElem?_eq_some_iff.1 hv
 have h1:=List.take_append_drop v xs
 have h2:xs.drop v=0::xs.drop (v+1):=by rw[List.drop_eq_getElem_cons hx,he]
 have h3:xs.set v y=xs.take v++y::xs.drop (v+1):=by rw[List.set_eq_take_append_cons_drop,if_pos hx]
 conv=>rhs; rw[← h1,h2]
 rw[h3]
 simp [List.countP_append,List.countP_cons,hy]
 omega
theorem zeo {xs:List Int} {v w:Nat} {y:Int} (hv:v<xs.length):(xs.set v y).getD w 0=if w=v then y else xs.getD w 0:=by
 rw[List.getD_eq_getElem?_getD,List.getD_eq_getElem?_getD]
 by_cases h:w=v
 ·subst h; rw[List.getElem?_set_self hv,if_pos rfl]; rfl
 ·rw[List.getElem?_set_ne (Ne.symm h),if_neg h]
theorem zqs {s:zpD} (h:RenI s) {c:Int} (hc : -24≤c):RenI (zk1 s c).2∧ExtS s (zk1 s c).2∧(c<0→(zk1 s c).2.1.getD (-1 - c).toNat 0≠0)∧∀ f,ExtS (zk1 s c).2 f→[(zk1 s c).1]=zgR (fun v=>.v (rho f v)) c:=by
 unfold zk1
 by_cases h0:c≥0
 ·rw[decide_eq_true h0,cond_true]
  refine ⟨h,ExtS.refl s,fun h1=>by omega,fun f _ => ?_⟩
  unfold zgR
  rw[if_neg (by omega)]
 ·rw[decide_eq_false h0,cond_false]
  have hv:(-1 - c).toNat<s.1.length:=by rw[h.len]; omega
  have hexp:∀ f:zpD,zgR (fun v=>.v (rho f v)) c=[-1 - ((rho f (-1 - c).toNat:Nat):Int)]:=fun f=>by
   unfold zgR
   rw[if_pos (by omega)]
   rfl
  by_cases hz:s.1.getD (-1 - c).toNat 0=0
  ·rw[show (s.1.getD (-1 - c).toNat 0==0)=true from by rw[hz]; rfl,cond_true]
   have hn:=h.next
   have hget:s.1[(-1 - c).toNat]? = some 0:=by
    rw[List.getD_eq_getElem?_getD,List.getElem?_eq_getElem hv] at hz
    rw[List.getElem?_eq_getElem hv]
    exact congrArg some hz
   refine ⟨⟨by simpa using h.len,fun v => ?_,fun v w he hnz => ?_,?_⟩,fun v hvz => ?_,fun _ => ?_,fun f hf => ?_⟩
   ·show 0≤(s.1.set _ _).getD v 0∧(s.1.set _ _).getD v 0≤s.2+1
    rw[zeo hv]
    have:=h.rng v
    split<;>omega
   ·have he:(s.1.set (-1 - c).toNat (s.2+1)).getD v 0=(s.1.set (-1 - c).toNat (s.2+1)).getD w 0:=he
    have hnz:(s.1.set (-1 - c).toNat (s.2+1)).getD v 0≠0:=hnz
    rw[zeo hv] at he hnz
    rw[zeo hv] at he
    have h1:=h.rng v
    have h2:=h.rng w
    by_cases e1:v=(-1 - c).toNat
    ·rw[if_pos e1] at he hnz
     by_cases e2:w=(-1 - c).toNat
     ·rw[e1,e2]
     ·rw[if_neg e2] at he; omega
    ·rw[if_neg e1] at he hnz
     by_cases e2:w=(-1 - c).toNat
     ·rw[if_pos e2] at he; omega
     ·rw[if_neg e2] at he
      exact h.inj v w he hnz
   ·show (((s.1.set (-1 - c).toNat (s.2+1)).countP (fun x=>x != 0):Nat):Int)=s.2+1
    rw[zuJ hget (by omega),← h.cnt]
    omega
   ·show (s.1.set _ _).getD v 0=_
    rw[zeo hv]
    split
    ·rename_i e; rw[e,hz] at hvz; exact absurd rfl hvz
    ·rfl
   ·show (s.1.set _ _).getD _ 0≠0
    rw[zeo hv,if_pos rfl]
    omega
   ·rw[hexp]
    have hf2:=hf (-1 - c).toNat (by
     show (s.1.set _ _).getD _ 0≠0
     rw[zeo hv,if_pos rfl]
     omega)
    have hf2:f.1.getD (-1 - c).toNat 0=(s.1.set (-1 - c).toNat (s.2+1)).getD (-1 - c).toNat 0:=hf2
    rw[zeo hv,if_pos rfl] at hf2
    unfold rho
    rw[hf2]
    show [-(s.2+1)]=_
    congr 1
    omega
  ·rw[show (s.1.getD (-1 - c).toNat 0==0)=false from by simpa using hz,cond_false]
   refine ⟨h,ExtS.refl s,fun _=>hz,fun f hf => ?_⟩
   rw[hexp]
   have hf2:f.1.getD (-1 - c).toNat 0=s.1.getD (-1 - c).toNat 0:=hf _ hz
   have:=h.rng (-1 - c).toNat
   unfold rho
   rw[hf2]
   show [-(s.1.getD (-1 - c).toNat 0)]=_
   congr 1
   omega
theorem zgT:(r:List Int)→{s:zpD}→RenI s→(∀ c∈r,-24≤c)→RenI (zdp s r).2∧ExtS s (zdp s r).2∧(∀ x,zzz r x→(zdp s r).2.1.getD x.toNat 0≠0)∧∀ f,ExtS (zdp s r).2 f→(zdp s r).1=zf8 (fun v=>.v (rho f v)) r
 | [],s,h,_=>⟨h,ExtS.refl s,fun x ⟨c,hc,_⟩=>(nomatch hc),fun _ _=>rfl⟩
 | c::r,s,h,hc=>by
  obtain⟨h1,h2,h3,h4⟩:=zqs h (hc c (List.mem_cons_self ..))
  obtain⟨g1,g2,g3,g4⟩:=zgT r h1 fun d hd=>hc d (List.mem_cons_of_mem _ hd)
  refine ⟨g1,h2.trans g2,fun x ⟨d,hd,hd0,hx⟩ => ?_,fun f hf => ?_⟩
  ·rcases List.mem_cons.1 hd with rfl | hd
   ·subst hx
    show (zdp (zk1 s d).2 r).2.1.getD (-1 - d).toNat 0≠0
    rw[g2 _ (h3 hd0)]
    exact h3 hd0
   ·exact g3 x ⟨d,hd,hd0,hx⟩
  ·have hf:ExtS (zdp (zk1 s c).2 r).2 f:=hf
   show (zk1 s c).1::(zdp (zk1 s c).2 r).1=_
   unfold zf8
   rw[List.flatMap_cons,← h4 f (g2.trans hf),g4 f hf]
   rfl
theorem zjP:(ls:List zt)→{s:zpD}→RenI s→(∀ l∈ls,∀ c∈l.2,-24≤c)→RenI (zbq s ls).2∧ExtS s (zbq s ls).2∧(∀ x,zhH (ls.map (·.2)) x→(zbq s ls).2.1.getD x.toNat 0≠0)∧∀ f,ExtS (zbq s ls).2 f→(zbq s ls).1=zdV (fun v=>.v (rho f v)) ls
 | [],s,h,_=>⟨h,ExtS.refl s,fun x ⟨c,hc,_⟩=>(nomatch hc),fun _ _=>rfl⟩
 | l::ls,s,h,hc=>by
  obtain⟨h1,h2,h3,h4⟩:=zgT l.2 h (hc l (List.mem_cons_self ..))
  obtain⟨g1,g2,g3,g4⟩:=zjP ls h1 fun d hd=>hc d (List.mem_cons_of_mem _ hd)
  refine ⟨g1,h2.trans g2,fun x hx => ?_,fun f hf => ?_⟩
  ·rw[List.map_cons,zjo] at hx
   rcases hx with hx | hx
   ·show (zbq (zdp s l.2).2 ls).2.1.getD x.toNat 0≠0
    rw[g2 _ (h3 x hx)]
    exact h3 x hx
   ·exact g3 x hx
  ·have hf:ExtS (zbq (zdp s l.2).2 ls).2 f:=hf
   show (l.1,(zdp s l.2).1)::(zbq (zdp s l.2).2 ls).1=_
   rw[h4 f (g2.trans hf),g4 f hf]
   rfl
theorem znm:(ls:List jI)→{s:zpD}→RenI s→(∀ l∈ls,∀ c∈l,-24≤c)→RenI (zcD s ls).2∧ExtS s (zcD s ls).2∧(∀ x,zhH ls x→(zcD s ls).2.1.getD x.toNat 0≠0)∧∀ f,ExtS (zcD s ls).2 f→(zcD s ls).1=ls.map (zf8 (fun v=>.v (rho f v)))
 | [],s,h,_=>⟨h,ExtS.refl s,fun x ⟨c,hc,_⟩=>(nomatch hc),fun _ _=>rfl⟩
 | l::ls,s,h,hc=>by
  obtain⟨h1,h2,h3,h4⟩:=zgT l h (hc l (List.mem_cons_self ..))
  obtain⟨g1,g2,g3,g4⟩:=znm ls h1 fun d hd=>hc d (List.mem_cons_of_mem _ hd)
  refine ⟨g1,h2.trans g2,fun x hx => ?_,fun f hf => ?_⟩
  ·rw[zjo] at hx
   rcases hx with hx | hx
   ·show (zcD (zdp s l).2 ls).2.1.getD x.toNat 0≠0
    rw[g2 _ (h3 x hx)]
    exact h3 x hx
   ·exact g3 x hx
  ·have hf:ExtS (zcD (zdp s l).2 ls).2 f:=hf
   show (zdp s l).1::(zcD (zdp s l).2 ls).1=_
   rw[h4 f (g2.trans hf),g4 f hf]
   rfl
end
end Go.Abs.Q
namespace Go.Abs.Q
open Go Go.Abs
section
theorem ziF {α:Type} [DecidableEq α] (f:α→Nat):(es out:List α)→((qp es out).map f).sum≤(out.map f).sum+(es.map f).sum
 | [],out=>by simp [qp]
 | e::es,out=>by
  unfold qp
  by_cases h:e∈out
  ·rw[decide_eq_true h,cond_true]
   have:=ziF f es out
   simp only[List.map_cons,List.sum_cons]
   omega
  ·rw[decide_eq_false h,cond_false]
   have:=ziF f es (out++[e])
   simp only[List.map_cons,List.sum_cons,List.map_append,List.sum_append,List.map_nil,List.sum_nil] at this ⊢
   omega
end
end Go.Abs.Q
namespace Go.Abs.Q
open Go Go.Abs
section
mutual
theorem Tm.sub_id:(t:Tm)→t.sub (fun n=>Tm.v n)=t
 | .v n=>rfl
 | .f c as=>by rw[Tm.sub,zu8 as]
theorem zu8:(ts:List Tm)→zb6 (fun n=>Tm.v n) ts=ts
 | []=>rfl
 | t::ts=>by rw[zb6,Tm.sub_id t,zu8 ts]
end
section
variable {m:Nat} (hm:0<m) (hm3:m≤3) {nums:List Int} (hn:zsI nums) {a0:List zQ} (hs:SignOk a0)
include hm hm3 hn hs
end
end
end Go.Abs.Q
namespace Go.Abs.Q
open Go Go.Abs
section
section
variable {m:Nat} (hm:0<m) (hm3:m≤3) {nums:List Int} (hn:zsI nums) {a0:List zQ} (hs:SignOk a0)
include hm hm3 hn hs
end
end
end Go.Abs.Q
namespace Go.Abs.Q
open Go Go.Abs
section
theorem zAM {α:Type} (xs:List α) {i:Nat} (h:i≤xs.length):zck xs none (some (i:Int))=some (xs.take i):=by
 show slc xs 0 (i:Int)=some _
 unfold slc
 rw[decide_eq_true (show (0:Int)≤0 by omega),decide_eq_true (show (0:Int)≤(i:Int) by omega),decide_eq_true (show (i:Int)≤((xs.length:Nat):Int) by omega)]
 simp
end
end Go.Abs.Q
namespace Go.Abs.Q
open Go Go.Abs
section
section
variable {m:Nat} (hm:0<m) (hm3:m≤3) {nums:List Int} (hn:zsI nums) {a0:List zQ} (hs:SignOk a0)
include hm hm3 hn hs
end
end
end Go.Abs.Q
namespace Go.Abs.Q
open Go Go.Abs
section
end
end Go.Abs.Q
namespace Go.Abs.Q
open Go Go.Abs
def zd1 (a0:jQ) (a1:jR) (a2:jQ) (a3:Int):Option Bool :=
 cond (decide (a3≥0))
 (some (decide (a3<((List.length a0:Nat):Int))))
 (some false)
def zbU (rec:((List (Int×jI))×Int×Int)→Option (Unit⊕Int)) (x:((List (Int×jI))×Int×Int)):Option (Unit⊕Int) :=
 cond (decide (x.2.2<((List.length x.1:Nat):Int)))
 ((gx x.1 x.2.2).bind fun e2 =>
  cond (e2.1==x.2.1)
  (some (Sum.inr x.2.2))
  (rec (x.1,x.2.1,(IntKind.wrap .i64 (x.2.2+1)))))
 (some (Sum.inl ()))
def zio (a0:(List (Int×jI))) (a1:Int):Option Int :=
 ((lp zbU zp) (a0,a1,0)).bind fun r6 =>
 qL r6
 (fun z7=>some (-1))
 (fun z8=>some z8)
def zbt (rec:((List (Int×jI))×jI×Int×jI)→Option jI) (x:((List (Int×jI))×jI×Int×jI)):Option jI :=
 cond (decide (x.2.2.1<((List.length x.2.1:Nat):Int)))
 ((gx x.2.1 x.2.2.1).bind fun e16 =>
  cond (decide (e16<0))
  ((gx x.2.1 x.2.2.1).bind fun e17 =>
   (zio x.1 (IntKind.wrap .i64 ((-1) - e17))).bind fun r18 =>
   cond (decide (r18<0))
   ((gx x.2.1 x.2.2.1).bind fun e19 =>
    cond (yY (List.length x.2.2.2+List.length ([e19]:List Int)) 8)
    (rec (x.1,x.2.1,(IntKind.wrap .i64 (x.2.2.1+1)),(x.2.2.2++([e19]:List Int))))
    (none))
   ((gx x.1 r18).bind fun e20 =>
    cond (yY (List.length x.2.2.2+List.length e20.2) 8)
    (rec (x.1,x.2.1,(IntKind.wrap .i64 (x.2.2.1+1)),(x.2.2.2++e20.2)))
    (none)))
  ((gx x.2.1 x.2.2.1).bind fun e21 =>
   cond (yY (List.length x.2.2.2+List.length ([e21]:List Int)) 8)
   (rec (x.1,x.2.1,(IntKind.wrap .i64 (x.2.2.1+1)),(x.2.2.2++([e21]:List Int))))
   (none)))
 (some x.2.2.2)
def zdD (a0:(List (Int×jI))) (a1:jI):Option jI :=
 ((lp zbt zp) (a0,a1,0,([]:jI))).bind fun r23 =>
 some r23
def zaN (rec:((List (Int×jI))×Int×jQ×jR×jQ×jQ×jR×jQ)→Option (jQ×jR×jQ)) (x:((List (Int×jI))×Int×jQ×jR×jQ×jQ×jR×jQ)):Option (jQ×jR×jQ) :=
 cond (decide (x.2.1<((List.length x.2.2.2.2.1:Nat):Int)))
 ((gx x.2.2.2.2.1 x.2.1).bind fun e24 =>
  (gx x.2.2.2.2.1 x.2.1).bind fun e25 =>
  (zdD x.1 e25.2).bind fun r26 =>
  cond (yY (List.length x.2.2.2.2.2.2.2+List.length ([(e24.1,r26)]:List zt)) 32)
  (rec (x.1,(IntKind.wrap .i64 (x.2.1+1)),x.2.2.1,x.2.2.2.1,x.2.2.2.2.1,x.2.2.2.2.2.1,x.2.2.2.2.2.2.1,(x.2.2.2.2.2.2.2++([(e24.1,r26)]:List zt))))
  (none))
 (some (x.2.2.2.2.2.1,x.2.2.2.2.2.2.1,x.2.2.2.2.2.2.2))
def zaT (rec:((List (Int×jI))×Int×jQ×jR×jQ×jQ×jR)→Option (jQ×jR)) (x:((List (Int×jI))×Int×jQ×jR×jQ×jQ×jR)):Option (jQ×jR) :=
 cond (decide (x.2.1<((List.length x.2.2.2.1:Nat):Int)))
 ((gx x.2.2.2.1 x.2.1).bind fun e15 =>
  (zdD x.1 e15).bind fun r16 =>
  cond (yY (List.length x.2.2.2.2.2.2+List.length ([r16]:List jI)) 24)
  (rec (x.1,(IntKind.wrap .i64 (x.2.1+1)),x.2.2.1,x.2.2.2.1,x.2.2.2.2.1,x.2.2.2.2.2.1,(x.2.2.2.2.2.2++([r16]:List jI))))
  (none))
 (some (x.2.2.2.2.2.1,x.2.2.2.2.2.2))
def zaP (rec:((List (Int×jI))×Int×jQ×jR×jQ×jQ)→Option jQ) (x:((List (Int×jI))×Int×jQ×jR×jQ×jQ)):Option jQ :=
 cond (decide (x.2.1<((List.length x.2.2.1:Nat):Int)))
 ((gx x.2.2.1 x.2.1).bind fun e7 =>
  (gx x.2.2.1 x.2.1).bind fun e8 =>
  (zdD x.1 e8.2).bind fun r9 =>
  cond (yY (List.length x.2.2.2.2.2+List.length ([(e7.1,r9)]:List zt)) 32)
  (rec (x.1,(IntKind.wrap .i64 (x.2.1+1)),x.2.2.1,x.2.2.2.1,x.2.2.2.2.1,(x.2.2.2.2.2++([(e7.1,r9)]:List zt))))
  (none))
 (some x.2.2.2.2.2)
def zcz (a0:(List (Int×jI))) (a1:jQ) (a2:jR) (a3:jQ):Option (jQ×jR×jQ) :=
 ((lp zaP zp) (a0,0,a1,a2,a3,([]:jQ))).bind fun r28 =>
 ((lp zaT zp) (a0,0,a1,a2,a3,r28,([]:jR))).bind fun r29 =>
 ((lp zaN zp) (a0,0,a1,a2,a3,r29.1,r29.2,([]:jQ))).bind fun r30 =>
 some (r30.1,r30.2.1,r30.2.2)
def yS (rec:(Int×jI×Int×jQ×jR×jQ×(List (Int×jI)))→Option ((List (Int×jI))⊕Bool)) (x:(Int×jI×Int×jQ×jR×jQ×(List (Int×jI)))):Option ((List (Int×jI))⊕Bool) :=
 cond (decide (x.2.2.1<((List.length x.2.1:Nat):Int)))
 ((gx x.2.1 x.2.2.1).bind fun e11 =>
  cond (decide ((IntKind.wrap .i64 (e11+x.1))>23))
  (some (Sum.inr false))
  ((gx x.2.1 x.2.2.1).bind fun e12 =>
   (gx x.2.1 x.2.2.1).bind fun e13 =>
   cond (yY (List.length x.2.2.2.2.2.2+List.length ([(e12,([(IntKind.wrap .i64 ((IntKind.wrap .i64 ((-1) - e13)) - x.1))]:List Int))]:List (Int×jI))) 32)
   (rec (x.1,x.2.1,(IntKind.wrap .i64 (x.2.2.1+1)),x.2.2.2.1,x.2.2.2.2.1,x.2.2.2.2.2.1,(x.2.2.2.2.2.2++([(e12,([(IntKind.wrap .i64 ((IntKind.wrap .i64 ((-1) - e13)) - x.1))]:List Int))]:List (Int×jI)))))
   (none)))
 (some (Sum.inl x.2.2.2.2.2.2))
def zdX (a0:jQ) (a1:jR) (a2:jQ) (a3:jQ) (a4:jR) (a5:jQ):Option (jQ×jR×Bool×jQ) :=
 (zcO a0 a1 a2).bind fun r23 =>
 cond (decide (((List.length r23:Nat):Int)>0))
 ((inR (IntKind.wrap .i64 (((List.length r23:Nat):Int) - 1)) (List.length r23)).bind fun k24 =>
  (r23[k24]?).bind fun x25 =>
  (zcO a3 a4 a5).bind fun r26 =>
  ((lp yS zp) ((IntKind.wrap .i64 (x25+1)),r26,0,a3,a4,a5,([]:(List (Int×jI))))).bind fun r27 =>
  qL r27
  (fun z28=>(zcz z28 a3 a4 a5).bind fun r29 =>
   some (r29.1,r29.2.1,true,r29.2.2))
  (fun z30=>some (([]:jQ),([]:jR),z30,([]:jQ))))
 ((zcO a3 a4 a5).bind fun r31 =>
  ((lp yS zp) (0,r31,0,a3,a4,a5,([]:(List (Int×jI))))).bind fun r32 =>
  qL r32
  (fun z33=>(zcz z33 a3 a4 a5).bind fun r34 =>
   some (r34.1,r34.2.1,true,r34.2.2))
  (fun z35=>some (([]:jQ),([]:jR),z35,([]:jQ))))
def zaj (rec:(jI×jR)→Option jI) (x:(jI×jR)):Option jI :=
 cond (((List.length x.1:Nat):Int)==1)
 ((gx x.1 0).bind fun e8 =>
  cond (decide (e8<0))
  ((gx x.1 0).bind fun e9 =>
   (inR (IntKind.wrap .i64 ((-1) - e9)) 48).bind fun k10 =>
   (x.2[k10]?).bind fun x11 =>
   cond (decide (((List.length x11:Nat):Int)>0))
   ((gx x.1 0).bind fun e12 =>
    (inR (IntKind.wrap .i64 ((-1) - e12)) 48).bind fun k13 =>
    (x.2[k13]?).bind fun x14 =>
    rec (x14,x.2))
   (some x.1))
  (some x.1))
 (some x.1)
def zbQ (a0:jI) (a1:jR):Option jI :=
 ((lp zaj zp) (a0,a1)).bind fun r16 =>
 some r16
def za3 (rec:(jI×jI×Int)→Option (Unit⊕Bool)) (x:(jI×jI×Int)):Option (Unit⊕Bool) :=
 cond (decide (x.2.2<((List.length x.1:Nat):Int)))
 ((gx x.1 x.2.2).bind fun e3 =>
  (gx x.2.1 x.2.2).bind fun e4 =>
  cond (e3 != e4)
  (some (Sum.inr false))
  (rec (x.1,x.2.1,(IntKind.wrap .i64 (x.2.2+1)))))
 (some (Sum.inl ()))
def zdQ (a0:jI) (a1:jI):Option Bool :=
 cond (((List.length a0:Nat):Int) != ((List.length a1:Nat):Int))
 (some false)
 (((lp za3 zp) (a0,a1,0)).bind fun r8 =>
  qL r8
  (fun z9=>some true)
  (fun z10=>some z10))
def ya (rf:((Int×jI×jR)→Option Bool)) (rec:(Int×jI×Int×jR)→Option (Unit⊕Bool)) (x:(Int×jI×Int×jR)):Option (Unit⊕Bool) :=
 cond (decide (x.2.2.1<((List.length x.2.1:Nat):Int)))
 ((gx x.2.1 x.2.2.1).bind fun e8 =>
  cond (decide (e8≥0))
  (rec (x.1,x.2.1,(IntKind.wrap .i64 (x.2.2.1+1)),x.2.2.2))
  ((gx x.2.1 x.2.2.1).bind fun e9 =>
   cond ((IntKind.wrap .i64 ((-1) - e9))==x.1)
   (some (Sum.inr true))
   ((inR (IntKind.wrap .i64 ((-1) - e9)) 48).bind fun k10 =>
    (x.2.2.2[k10]?).bind fun x11 =>
    cond (decide (((List.length x11:Nat):Int)>0))
    ((inR (IntKind.wrap .i64 ((-1) - e9)) 48).bind fun k12 =>
     (x.2.2.2[k12]?).bind fun x13 =>
     (rf (x.1,x13,x.2.2.2)).bind fun r14 =>
     cond r14
     (some (Sum.inr true))
     (rec (x.1,x.2.1,(IntKind.wrap .i64 (x.2.2.1+1)),x.2.2.2)))
    (rec (x.1,x.2.1,(IntKind.wrap .i64 (x.2.2.1+1)),x.2.2.2)))))
 (some (Sum.inl ()))
def zcf (rf:((Int×jI×jR)→Option Bool)) (a0:Int) (a1:jI) (a2:jR):Option Bool :=
 ((lp (ya rf) zp) (a0,a1,0,a2)).bind fun r18 =>
 qL r18
 (fun z19=>some false)
 (fun z20=>some z20)
def zeX (rf:((Int×jI×jR)→Option Bool)):((Int×jI×jR)→Option Bool) :=
 fun (x:(Int×jI×jR))=>zcf rf x.1 x.2.1 x.2.2
def zeW:((Int×jI×jR)→Option Bool):=fun _=>none
def yA (k:Nat):((Int×jI×jR)→Option Bool):=lpR zeW zeX k
def zcJ (a0:Int) (a1:jI) (a2:jR):Option Bool:=(yA zp) (a0,a1,a2)
def zO (a0:jI) (a1:jI) (a2:Bool) (a3:jR):Option (Bool×jR) :=
 (gx a0 0).bind fun e8 =>
 cond a2
 ((gx a1 0).bind fun e9 =>
  (inR (IntKind.wrap .i64 ((-1) - e9)) 48).bind fun k10 =>
  (a3[k10]?).bind fun x11 =>
  some (true,(List.set a3 k10 a0)))
 ((zcJ (IntKind.wrap .i64 ((-1) - e8)) a1 a3).bind fun r12 =>
  cond r12
  (some (false,a3))
  ((inR (IntKind.wrap .i64 ((-1) - e8)) 48).bind fun k13 =>
   (a3[k13]?).bind fun x14 =>
   some (true,(List.set a3 k13 a1))))
def zbr (rf:(((jS×jI×jI×jR)→Option (Bool×jR))×((jS×jR×jR×jR)→Option (Bool×jR)))) (a0:jS) (a1:jI) (a2:jI) (a3:jR):Option (Bool×jR) :=
 (zbQ a1 a3).bind fun r82 =>
 (zbQ a2 a3).bind fun r83 =>
 (zdQ r82 r83).bind fun r84 =>
 cond r84
 (some (true,a3))
 ((gx r82 0).bind fun e85 =>
  cond (decide (e85<0))
  ((gx r83 0).bind fun e86 =>
   cond (decide (e86<0))
   ((gx r82 0).bind fun e87 =>
    (gx r83 0).bind fun e88 =>
    cond (decide (e87<e88))
    ((gx r82 0).bind fun e89 =>
     (zO r83 r82 (decide (e89<0)) a3).bind fun r90 =>
     some (r90.1,r90.2))
    ((gx r82 0).bind fun e91 =>
     cond (decide (e91≥0))
     ((gx r83 0).bind fun e92 =>
      cond (decide (e92<0))
      ((gx r82 0).bind fun e93 =>
       (zO r83 r82 (decide (e93<0)) a3).bind fun r94 =>
       some (r94.1,r94.2))
      ((gx r82 0).bind fun e95 =>
       cond (decide (e95<0))
       ((gx r83 0).bind fun e96 =>
        (zO r82 r83 (decide (e96<0)) a3).bind fun r97 =>
        some (r97.1,r97.2))
       ((gx r82 0).bind fun e98 =>
        (gx r83 0).bind fun e99 =>
        cond (e98 != e99)
        (some (false,a3))
        ((zck r82 (some 1) none).bind fun y100 =>
         (qo a0 y100).bind fun r101 =>
         (zck r83 (some 1) none).bind fun y102 =>
         (qo a0 y102).bind fun r103 =>
         (rf.2 (a0,r101,r103,a3)).bind fun r104 =>
         some (r104.1,r104.2)))))
     ((gx r82 0).bind fun e105 =>
      cond (decide (e105<0))
      ((gx r83 0).bind fun e106 =>
       (zO r82 r83 (decide (e106<0)) a3).bind fun r107 =>
       some (r107.1,r107.2))
      ((gx r82 0).bind fun e108 =>
       (gx r83 0).bind fun e109 =>
       cond (e108 != e109)
       (some (false,a3))
       ((zck r82 (some 1) none).bind fun y110 =>
        (qo a0 y110).bind fun r111 =>
        (zck r83 (some 1) none).bind fun y112 =>
        (qo a0 y112).bind fun r113 =>
        (rf.2 (a0,r111,r113,a3)).bind fun r114 =>
        some (r114.1,r114.2))))))
   ((gx r82 0).bind fun e115 =>
    cond (decide (e115≥0))
    ((gx r83 0).bind fun e116 =>
     cond (decide (e116<0))
     ((gx r82 0).bind fun e117 =>
      (zO r83 r82 (decide (e117<0)) a3).bind fun r118 =>
      some (r118.1,r118.2))
     ((gx r82 0).bind fun e119 =>
      cond (decide (e119<0))
      ((gx r83 0).bind fun e120 =>
       (zO r82 r83 (decide (e120<0)) a3).bind fun r121 =>
       some (r121.1,r121.2))
      ((gx r82 0).bind fun e122 =>
       (gx r83 0).bind fun e123 =>
       cond (e122 != e123)
       (some (false,a3))
       ((zck r82 (some 1) none).bind fun y124 =>
        (qo a0 y124).bind fun r125 =>
        (zck r83 (some 1) none).bind fun y126 =>
        (qo a0 y126).bind fun r127 =>
        (rf.2 (a0,r125,r127,a3)).bind fun r128 =>
        some (r128.1,r128.2)))))
    ((gx r82 0).bind fun e129 =>
     cond (decide (e129<0))
     ((gx r83 0).bind fun e130 =>
      (zO r82 r83 (decide (e130<0)) a3).bind fun r131 =>
      some (r131.1,r131.2))
     ((gx r82 0).bind fun e132 =>
      (gx r83 0).bind fun e133 =>
      cond (e132 != e133)
      (some (false,a3))
      ((zck r82 (some 1) none).bind fun y134 =>
       (qo a0 y134).bind fun r135 =>
       (zck r83 (some 1) none).bind fun y136 =>
       (qo a0 y136).bind fun r137 =>
       (rf.2 (a0,r135,r137,a3)).bind fun r138 =>
       some (r138.1,r138.2))))))
  ((gx r82 0).bind fun e139 =>
   cond (decide (e139≥0))
   ((gx r83 0).bind fun e140 =>
    cond (decide (e140<0))
    ((gx r82 0).bind fun e141 =>
     (zO r83 r82 (decide (e141<0)) a3).bind fun r142 =>
     some (r142.1,r142.2))
    ((gx r82 0).bind fun e143 =>
     cond (decide (e143<0))
     ((gx r83 0).bind fun e144 =>
      (zO r82 r83 (decide (e144<0)) a3).bind fun r145 =>
      some (r145.1,r145.2))
     ((gx r82 0).bind fun e146 =>
      (gx r83 0).bind fun e147 =>
      cond (e146 != e147)
      (some (false,a3))
      ((zck r82 (some 1) none).bind fun y148 =>
       (qo a0 y148).bind fun r149 =>
       (zck r83 (some 1) none).bind fun y150 =>
       (qo a0 y150).bind fun r151 =>
       (rf.2 (a0,r149,r151,a3)).bind fun r152 =>
       some (r152.1,r152.2)))))
   ((gx r82 0).bind fun e153 =>
    cond (decide (e153<0))
    ((gx r83 0).bind fun e154 =>
     (zO r82 r83 (decide (e154<0)) a3).bind fun r155 =>
     some (r155.1,r155.2))
    ((gx r82 0).bind fun e156 =>
     (gx r83 0).bind fun e157 =>
     cond (e156 != e157)
     (some (false,a3))
     ((zck r82 (some 1) none).bind fun y158 =>
      (qo a0 y158).bind fun r159 =>
      (zck r83 (some 1) none).bind fun y160 =>
      (qo a0 y160).bind fun r161 =>
      (rf.2 (a0,r159,r161,a3)).bind fun r162 =>
      some (r162.1,r162.2))))))
def yg (rf:(((jS×jI×jI×jR)→Option (Bool×jR))×((jS×jR×jR×jR)→Option (Bool×jR)))) (rec:(jS×jR×jR×Int×jR)→Option (jR⊕(Bool×jR))) (x:(jS×jR×jR×Int×jR)):Option (jR⊕(Bool×jR)) :=
 cond (decide (x.2.2.2.1<((List.length x.2.1:Nat):Int)))
 ((gx x.2.1 x.2.2.2.1).bind fun e7 =>
  (gx x.2.2.1 x.2.2.2.1).bind fun e8 =>
  (rf.1 (x.1,e7,e8,x.2.2.2.2)).bind fun r9 =>
  cond (!r9.1)
  (some (Sum.inr (false,r9.2)))
  (rec (x.1,x.2.1,x.2.2.1,(IntKind.wrap .i64 (x.2.2.2.1+1)),r9.2)))
 (some (Sum.inl x.2.2.2.2))
def zcu (rf:(((jS×jI×jI×jR)→Option (Bool×jR))×((jS×jR×jR×jR)→Option (Bool×jR)))) (a0:jS) (a1:jR) (a2:jR) (a3:jR):Option (Bool×jR) :=
 ((lp (yg rf) zp) (a0,a1,a2,0,a3)).bind fun r13 =>
 qL r13
 (fun z14=>some (true,z14))
 (fun z15=>some (z15.1,z15.2))
def zfi (rf:(((jS×jI×jI×jR)→Option (Bool×jR))×((jS×jR×jR×jR)→Option (Bool×jR)))):(((jS×jI×jI×jR)→Option (Bool×jR))×((jS×jR×jR×jR)→Option (Bool×jR))) :=
 (fun (x:(jS×jI×jI×jR))=>zbr rf x.1 x.2.1 x.2.2.1 x.2.2.2,fun (x:(jS×jR×jR×jR))=>zcu rf x.1 x.2.1 x.2.2.1 x.2.2.2)
def zfp:(((jS×jI×jI×jR)→Option (Bool×jR))×((jS×jR×jR×jR)→Option (Bool×jR))):=(fun _=>none,fun _=>none)
def zS (k:Nat):(((jS×jI×jI×jR)→Option (Bool×jR))×((jS×jR×jR×jR)→Option (Bool×jR))):=lpR zfp zfi k
def zjT (a0:jS) (a1:jI) (a2:jI) (a3:jR):Option (Bool×jR):=(zS zp).1 (a0,a1,a2,a3)
def zdl (a0:jS) (a1:jR) (a2:jR) (a3:jR):Option (Bool×jR):=(zS zp).2 (a0,a1,a2,a3)
def yb (rf:((jI×jR×jI)→Option jI)) (rec:(jI×Int×jR×jI)→Option jI) (x:(jI×Int×jR×jI)):Option jI :=
 cond (decide (x.2.1<((List.length x.1:Nat):Int)))
 (cond (decide (((List.length x.2.2.2:Nat):Int)≤48))
  ((gx x.1 x.2.1).bind fun e19 =>
   cond (decide (e19<0))
   ((gx x.1 x.2.1).bind fun e20 =>
    (inR (IntKind.wrap .i64 ((-1) - e20)) 48).bind fun k21 =>
    (x.2.2.1[k21]?).bind fun x22 =>
    cond (decide (((List.length x22:Nat):Int)>0))
    ((gx x.1 x.2.1).bind fun e23 =>
     (inR (IntKind.wrap .i64 ((-1) - e23)) 48).bind fun k24 =>
     (x.2.2.1[k24]?).bind fun x25 =>
     (rf (x25,x.2.2.1,x.2.2.2)).bind fun r26 =>
     rec (x.1,(IntKind.wrap .i64 (x.2.1+1)),x.2.2.1,r26))
    ((gx x.1 x.2.1).bind fun e27 =>
     cond (yY (List.length x.2.2.2+List.length ([e27]:List Int)) 8)
     (rec (x.1,(IntKind.wrap .i64 (x.2.1+1)),x.2.2.1,(x.2.2.2++([e27]:List Int))))
     (none)))
   ((gx x.1 x.2.1).bind fun e28 =>
    cond (yY (List.length x.2.2.2+List.length ([e28]:List Int)) 8)
    (rec (x.1,(IntKind.wrap .i64 (x.2.1+1)),x.2.2.1,(x.2.2.2++([e28]:List Int))))
    (none)))
  (some x.2.2.2))
 (some x.2.2.2)
def zcc (rf:((jI×jR×jI)→Option jI)) (a0:jI) (a1:jR) (a2:jI):Option jI :=
 ((lp (yb rf) zp) (a0,0,a1,a2)).bind fun r30 =>
 some r30
def zeY (rf:((jI×jR×jI)→Option jI)):((jI×jR×jI)→Option jI) :=
 fun (x:(jI×jR×jI))=>zcc rf x.1 x.2.1 x.2.2
def zeM:((jI×jR×jI)→Option jI):=fun _=>none
def yi (k:Nat):((jI×jR×jI)→Option jI):=lpR zeM zeY k
def zb0 (a0:jI) (a1:jR) (a2:jI):Option jI:=(yi zp) (a0,a1,a2)
def qJ (rec:(Int×jR×(List (Int×jI)))→Option ((List (Int×jI))⊕(Bool×Bool))) (x:(Int×jR×(List (Int×jI)))):Option ((List (Int×jI))⊕(Bool×Bool)) :=
 cond (decide (x.1≤23))
 ((inR x.1 48).bind fun k14 =>
  (x.2.1[k14]?).bind fun x15 =>
  cond (((List.length x15:Nat):Int)==0)
  (rec ((IntKind.wrap .i64 (x.1+1)),x.2.1,x.2.2))
  ((inR x.1 48).bind fun k16 =>
   (x.2.1[k16]?).bind fun x17 =>
   (zb0 x17 x.2.1 ([]:jI)).bind fun r18 =>
   cond (decide (((List.length r18:Nat):Int)>48))
   (some (Sum.inr (true,false)))
   (cond (yY (List.length x.2.2+List.length ([(x.1,r18)]:List (Int×jI))) 32)
    (rec ((IntKind.wrap .i64 (x.1+1)),x.2.1,(x.2.2++([(x.1,r18)]:List (Int×jI)))))
    (none))))
 (some (Sum.inl x.2.2))
def zcs (a0:jS) (a1:jI) (a2:jI):Option (Bool×Bool×(List (Int×jI))) :=
 (qo a0 a1).bind fun r22 =>
 (qo a0 a2).bind fun r23 =>
 cond (((List.length r22:Nat):Int) != ((List.length r23:Nat):Int))
 (some (false,true,([]:(List (Int×jI)))))
 ((zdl a0 r22 r23 (List.replicate 48 ([]:jI))).bind fun r24 =>
  cond (!r24.1)
  (some (false,true,([]:(List (Int×jI)))))
  (((lp qJ zp) (0,r24.2,([]:(List (Int×jI))))).bind fun r25 =>
   qL r25
   (fun z26=>some (true,true,z26))
   (fun z27=>some (z27.1,z27.2,([]:(List (Int×jI)))))))
def zcy (a0:jQ) (a1:Int):Option jQ :=
 (zck a0 none (some a1)).bind fun y3 =>
 cond (yY (List.length ([]:List zt)+List.length y3) 32)
 ((zck a0 (some (IntKind.wrap .i64 (a1+1))) none).bind fun y4 =>
  cond (yY (List.length (([]:List zt)++y3)+List.length y4) 32)
  (some ((([]:List zt)++y3)++y4))
  (none))
 (none)
def zj3 (a0:jQ) (a1:jQ) (a2:jR) (a3:jQ) (a4:jQ) (a5:jR) (a6:jQ):Option (jQ×jR×jQ) :=
 cond (yY (List.length a2) 24)
 (cond (yY (List.length a2+List.length a5) 24)
  (cond (yY (List.length a3) 32)
   (cond (yY (List.length a3+List.length a6) 32)
    (some (a0,(a2++a5),(a3++a6)))
    (none))
   (none))
  (none))
 (none)
def zdg (a0:Bool) (a1:jI) (a2:Bool) (a3:jI):Option Bool :=
 cond (a0==a2)
 ((zdQ a1 a3).bind fun r2 =>
  some r2)
 (some false)
def zaw (rec:(jQ×Int×Bool×Int×jQ)→Option (Bool×jQ)) (x:(jQ×Int×Bool×Int×jQ)):Option (Bool×jQ) :=
 cond (decide (x.2.2.2.1<((List.length x.2.2.2.2:Nat):Int)))
 (cond x.2.2.1
  (rec (x.1,x.2.1,true,(IntKind.wrap .i64 (x.2.2.2.1+1)),x.2.2.2.2))
  ((inR x.2.2.2.1 (List.length x.2.2.2.2)).bind fun k7 =>
   (x.2.2.2.2[k7]?).bind fun x8 =>
   (gx x.1 x.2.1).bind fun e9 =>
   (zdg x8.1 x8.2 e9.1 e9.2).bind fun r10 =>
   rec (x.1,x.2.1,r10,(IntKind.wrap .i64 (x.2.2.2.1+1)),x.2.2.2.2)))
 (some (x.2.2.1,x.2.2.2.2))
def za1 (rec:(jQ×Int×jQ)→Option jQ) (x:(jQ×Int×jQ)):Option jQ :=
 cond (decide (x.2.1<((List.length x.1:Nat):Int)))
 (((lp zaw zp) (x.1,x.2.1,false,0,x.2.2)).bind fun r13 =>
  cond (!r13.1)
  ((gx x.1 x.2.1).bind fun e14 =>
   cond (yY (List.length r13.2+List.length ([(e14.1,e14.2)]:List zt)) 32)
   (rec (x.1,(IntKind.wrap .i64 (x.2.1+1)),(r13.2++([(e14.1,e14.2)]:List zt))))
   (none))
  (rec (x.1,(IntKind.wrap .i64 (x.2.1+1)),r13.2)))
 (some x.2.2)
def zgY (a0:jQ):Option jQ :=
 ((lp za1 zp) (a0,0,([]:jQ))).bind fun r16 =>
 some r16
def za2 (rec:(jR×Int×Int×jQ×jR×jQ×(List (Int×jI)))→Option (List (Int×jI))) (x:(jR×Int×Int×jQ×jR×jQ×(List (Int×jI)))):Option (List (Int×jI)) :=
 (gx x.1 x.2.1).bind fun e29 =>
 cond (decide (x.2.2.1<((List.length e29:Nat):Int)))
 ((gx x.1 x.2.1).bind fun e30 =>
  (gx e30 x.2.2.1).bind fun e31 =>
  cond (decide (e31<0))
  ((zio x.2.2.2.2.2.2 (IntKind.wrap .i64 ((-1) - e31))).bind fun r32 =>
   cond (decide (r32<0))
   (cond (yY (List.length x.2.2.2.2.2.2+List.length ([((IntKind.wrap .i64 ((-1) - e31)),([(IntKind.wrap .i64 ((-1) - ((List.length x.2.2.2.2.2.2:Nat):Int)))]:List Int))]:List (Int×jI))) 32)
    (rec (x.1,x.2.1,(IntKind.wrap .i64 (x.2.2.1+1)),x.2.2.2.1,x.2.2.2.2.1,x.2.2.2.2.2.1,(x.2.2.2.2.2.2++([((IntKind.wrap .i64 ((-1) - e31)),([(IntKind.wrap .i64 ((-1) - ((List.length x.2.2.2.2.2.2:Nat):Int)))]:List Int))]:List (Int×jI)))))
    (none))
   (rec (x.1,x.2.1,(IntKind.wrap .i64 (x.2.2.1+1)),x.2.2.2.1,x.2.2.2.2.1,x.2.2.2.2.2.1,x.2.2.2.2.2.2)))
  (rec (x.1,x.2.1,(IntKind.wrap .i64 (x.2.2.1+1)),x.2.2.2.1,x.2.2.2.2.1,x.2.2.2.2.2.1,x.2.2.2.2.2.2)))
 (some x.2.2.2.2.2.2)
def zar (rec:(Int×Bool×Int×jQ×jR×jQ×jQ×jQ×jR)→Option (Bool×jQ×jQ×jR)) (x:(Int×Bool×Int×jQ×jR×jQ×jQ×jQ×jR)):Option (Bool×jQ×jQ×jR) :=
 cond (decide (x.2.2.1<((List.length x.2.2.2.2.2.2.2.2:Nat):Int)))
 (cond x.2.1
  (rec (x.1,true,(IntKind.wrap .i64 (x.2.2.1+1)),x.2.2.2.1,x.2.2.2.2.1,x.2.2.2.2.2.1,x.2.2.2.2.2.2.1,x.2.2.2.2.2.2.2.1,x.2.2.2.2.2.2.2.2))
  ((inR x.2.2.1 (List.length x.2.2.2.2.2.2.2.2)).bind fun k9 =>
   (x.2.2.2.2.2.2.2.2[k9]?).bind fun x10 =>
   (gx x.2.2.2.2.1 x.1).bind fun e11 =>
   (zdQ x10 e11).bind fun r12 =>
   rec (x.1,r12,(IntKind.wrap .i64 (x.2.2.1+1)),x.2.2.2.1,x.2.2.2.2.1,x.2.2.2.2.2.1,x.2.2.2.2.2.2.1,x.2.2.2.2.2.2.2.1,x.2.2.2.2.2.2.2.2)))
 (some (x.2.1,x.2.2.2.2.2.2.1,x.2.2.2.2.2.2.2.1,x.2.2.2.2.2.2.2.2))
def zaW (rec:(jR×Int×jQ×jR×jQ×(List (Int×jI)))→Option (List (Int×jI))) (x:(jR×Int×jQ×jR×jQ×(List (Int×jI)))):Option (List (Int×jI)) :=
 cond (decide (x.2.1<((List.length x.1:Nat):Int)))
 (((lp za2 zp) (x.1,x.2.1,0,x.2.2.1,x.2.2.2.1,x.2.2.2.2.1,x.2.2.2.2.2)).bind fun r35 =>
  rec (x.1,(IntKind.wrap .i64 (x.2.1+1)),x.2.2.1,x.2.2.2.1,x.2.2.2.2.1,r35))
 (some x.2.2.2.2.2)
def zaR (rec:(Int×jQ×jR×jQ×jQ×jQ×jR)→Option (jQ×jQ×jR)) (x:(Int×jQ×jR×jQ×jQ×jQ×jR)):Option (jQ×jQ×jR) :=
 cond (decide (x.1<((List.length x.2.2.1:Nat):Int)))
 (((lp zar zp) (x.1,false,0,x.2.1,x.2.2.1,x.2.2.2.1,x.2.2.2.2.1,x.2.2.2.2.2.1,x.2.2.2.2.2.2)).bind fun r17 =>
  cond (!r17.1)
  ((gx x.2.2.1 x.1).bind fun e18 =>
   cond (yY (List.length r17.2.2.2+List.length ([e18]:List jI)) 24)
   (rec ((IntKind.wrap .i64 (x.1+1)),x.2.1,x.2.2.1,x.2.2.2.1,r17.2.1,r17.2.2.1,(r17.2.2.2++([e18]:List jI))))
   (none))
  (rec ((IntKind.wrap .i64 (x.1+1)),x.2.1,x.2.2.1,x.2.2.2.1,r17.2.1,r17.2.2.1,r17.2.2.2)))
 (some (x.2.2.2.2.1,x.2.2.2.2.2.1,x.2.2.2.2.2.2))
def zjm (a0:jQ) (a1:jR) (a2:jQ):Option (jQ×jR×jQ) :=
 (zgY a0).bind fun r38 =>
 (zgY a2).bind fun r39 =>
 ((lp zaR zp) (0,a0,a1,a2,r38,r39,([]:jR))).bind fun r40 =>
 (zeO r40.1 r40.2.2 r40.2.1).bind fun r41 =>
 ((lp zaW zp) (r41,0,r40.1,r40.2.2,r40.2.1,([]:(List (Int×jI))))).bind fun r42 =>
 (zcz r42 r40.1 r40.2.2 r40.2.1).bind fun r43 =>
 some (r43.1,r43.2.1,r43.2.2)
def zhp (a0:jS) (a1:(List (Int×jI))) (a2:jQ) (a3:jR) (a4:jQ):Option (jQ×jR×Bool×jQ) :=
 (zcz a1 a2 a3 a4).bind fun r4 =>
 (zhn a0 r4.1 r4.2.1 r4.2.2).bind fun r5 =>
 cond (!r5)
 (some (([]:jQ),([]:jR),false,([]:jQ)))
 ((zjm r4.1 r4.2.1 r4.2.2).bind fun r6 =>
  some (r6.1,r6.2.1,true,r6.2.2))
def zdB (a0:jS) (a1:jQ) (a2:jR) (a3:jQ) (a4:Int) (a5:jQ) (a6:jR) (a7:jQ) (a8:Int):Option (jQ×jR×Bool×Int×jQ) :=
 (zhn a0 a1 a2 a3).bind fun r21 =>
 cond (!r21)
 (some (([]:jQ),([]:jR),false,1300,([]:jQ)))
 ((zhn a0 a5 a6 a7).bind fun r22 =>
  cond (!r22)
  (some (([]:jQ),([]:jR),false,1300,([]:jQ)))
  ((zd1 a1 a2 a3 a4).bind fun r23 =>
   cond (!r23)
   (some (([]:jQ),([]:jR),false,1300,([]:jQ)))
   ((zd1 a5 a6 a7 a8).bind fun r24 =>
    cond (!r24)
    (some (([]:jQ),([]:jR),false,1300,([]:jQ)))
    ((gx a1 a4).bind fun e25 =>
     (gx a5 a8).bind fun e26 =>
     cond (e25.1==e26.1)
     (some (([]:jQ),([]:jR),false,0,([]:jQ)))
     ((gx a1 a4).bind fun e27 =>
      (gx e27.2 0).bind fun e28 =>
      (gx a5 a8).bind fun e29 =>
      (gx e29.2 0).bind fun e30 =>
      cond (e28 != e30)
      (some (([]:jQ),([]:jR),false,0,([]:jQ)))
      ((zdX a1 a2 a3 a5 a6 a7).bind fun r31 =>
       cond (!r31.2.2.1)
       (some (([]:jQ),([]:jR),false,1301,([]:jQ)))
       ((gx a1 a4).bind fun e32 =>
        (zck e32.2 (some 1) none).bind fun y33 =>
        (gx r31.1 a8).bind fun e34 =>
        (zck e34.2 (some 1) none).bind fun y35 =>
        (zcs a0 y33 y35).bind fun r36 =>
        cond (!r36.2.1)
        (some (([]:jQ),([]:jR),false,1302,([]:jQ)))
        (cond (!r36.1)
         (some (([]:jQ),([]:jR),false,0,([]:jQ)))
         ((zcy a1 a4).bind fun r37 =>
          (zcy r31.1 a8).bind fun r38 =>
          cond (yY (List.length r37+List.length r38) 32)
          ((zj3 (r37++r38) a1 a2 a3 r31.1 r31.2.1 r31.2.2.2).bind fun r39 =>
           (zhp a0 r36.2.2 r39.1 r39.2.1 r39.2.2).bind fun r40 =>
           cond (!r40.2.2.1)
           (some (([]:jQ),([]:jR),false,1302,([]:jQ)))
           (some (r40.1,r40.2.1,true,0,r40.2.2.2)))
          (none))))))))))
end Go.Abs.Q
