import Derived.Test.YtleengbobccdkaaGreatDoorQb
/-
  What the functions make of plain values, and what the law says of that.
-/
namespace Go.Abs.Q
open Go Go.Abs
def zeI (a0:jQ) (a1:jR) (a2:jQ) (a3:Int):Option Bool :=
 cond (decide (a3≥0))
 (some (decide (a3<((List.length a0:Nat):Int))))
 (some false)
def zc0 (rec:((List (Int×jI))×Int×Int)→Option (Unit⊕Int)) (x:((List (Int×jI))×Int×Int)):Option (Unit⊕Int) :=
 cond (decide (x.2.2<((List.length x.1:Nat):Int)))
 ((gx x.1 x.2.2).bind fun e2 =>
  cond (e2.1==x.2.1)
  (some (Sum.inr x.2.2))
  (rec (x.1,x.2.1,(IntKind.wrap .i64 (x.2.2+1)))))
 (some (Sum.inl ()))
def zjm (a0:(List (Int×jI))) (a1:Int):Option Int :=
 ((lp zc0 zi) (a0,a1,0)).bind fun r6 =>
 yg r6
 (fun z7=>some (-1))
 (fun z8=>some z8)
def zb9 (rec:((List (Int×jI))×jI×Int×jI)→Option jI) (x:((List (Int×jI))×jI×Int×jI)):Option jI :=
 cond (decide (x.2.2.1<((List.length x.2.1:Nat):Int)))
 ((gx x.2.1 x.2.2.1).bind fun e16 =>
  cond (decide (e16<0))
  ((gx x.2.1 x.2.2.1).bind fun e17 =>
   (zjm x.1 (IntKind.wrap .i64 ((-1) - e17))).bind fun r18 =>
   cond (decide (r18<0))
   ((gx x.2.1 x.2.2.1).bind fun e19 =>
    cond (qi (List.length x.2.2.2+List.length ([e19]:List Int)) 8)
    (rec (x.1,x.2.1,(IntKind.wrap .i64 (x.2.2.1+1)),(x.2.2.2++([e19]:List Int))))
    (none))
   ((gx x.1 r18).bind fun e20 =>
    cond (qi (List.length x.2.2.2+List.length e20.2) 8)
    (rec (x.1,x.2.1,(IntKind.wrap .i64 (x.2.2.1+1)),(x.2.2.2++e20.2)))
    (none)))
  ((gx x.2.1 x.2.2.1).bind fun e21 =>
   cond (qi (List.length x.2.2.2+List.length ([e21]:List Int)) 8)
   (rec (x.1,x.2.1,(IntKind.wrap .i64 (x.2.2.1+1)),(x.2.2.2++([e21]:List Int))))
   (none)))
 (some x.2.2.2)
def zef (a0:(List (Int×jI))) (a1:jI):Option jI :=
 ((lp zb9 zi) (a0,a1,0,([]:jI))).bind fun r23 =>
 some r23
def zbH (rec:((List (Int×jI))×Int×jQ×jR×jQ×jQ×jR×jQ)→Option (jQ×jR×jQ)) (x:((List (Int×jI))×Int×jQ×jR×jQ×jQ×jR×jQ)):Option (jQ×jR×jQ) :=
 cond (decide (x.2.1<((List.length x.2.2.2.2.1:Nat):Int)))
 ((gx x.2.2.2.2.1 x.2.1).bind fun e24 =>
  (gx x.2.2.2.2.1 x.2.1).bind fun e25 =>
  (zef x.1 e25.2).bind fun r26 =>
  cond (qi (List.length x.2.2.2.2.2.2.2+List.length ([(e24.1,r26)]:List zl)) 32)
  (rec (x.1,(IntKind.wrap .i64 (x.2.1+1)),x.2.2.1,x.2.2.2.1,x.2.2.2.2.1,x.2.2.2.2.2.1,x.2.2.2.2.2.2.1,(x.2.2.2.2.2.2.2++([(e24.1,r26)]:List zl))))
  (none))
 (some (x.2.2.2.2.2.1,x.2.2.2.2.2.2.1,x.2.2.2.2.2.2.2))
def zbx (rec:((List (Int×jI))×Int×jQ×jR×jQ×jQ×jR)→Option (jQ×jR)) (x:((List (Int×jI))×Int×jQ×jR×jQ×jQ×jR)):Option (jQ×jR) :=
 cond (decide (x.2.1<((List.length x.2.2.2.1:Nat):Int)))
 ((gx x.2.2.2.1 x.2.1).bind fun e15 =>
  (zef x.1 e15).bind fun r16 =>
  cond (qi (List.length x.2.2.2.2.2.2+List.length ([r16]:List jI)) 24)
  (rec (x.1,(IntKind.wrap .i64 (x.2.1+1)),x.2.2.1,x.2.2.2.1,x.2.2.2.2.1,x.2.2.2.2.2.1,(x.2.2.2.2.2.2++([r16]:List jI))))
  (none))
 (some (x.2.2.2.2.2.1,x.2.2.2.2.2.2))
def zbw (rec:((List (Int×jI))×Int×jQ×jR×jQ×jQ)→Option jQ) (x:((List (Int×jI))×Int×jQ×jR×jQ×jQ)):Option jQ :=
 cond (decide (x.2.1<((List.length x.2.2.1:Nat):Int)))
 ((gx x.2.2.1 x.2.1).bind fun e7 =>
  (gx x.2.2.1 x.2.1).bind fun e8 =>
  (zef x.1 e8.2).bind fun r9 =>
  cond (qi (List.length x.2.2.2.2.2+List.length ([(e7.1,r9)]:List zl)) 32)
  (rec (x.1,(IntKind.wrap .i64 (x.2.1+1)),x.2.2.1,x.2.2.2.1,x.2.2.2.2.1,(x.2.2.2.2.2++([(e7.1,r9)]:List zl))))
  (none))
 (some x.2.2.2.2.2)
def zf0 (a0:(List (Int×jI))) (a1:jQ) (a2:jR) (a3:jQ):Option (jQ×jR×jQ) :=
 ((lp zbw zi) (a0,0,a1,a2,a3,([]:jQ))).bind fun r28 =>
 ((lp zbx zi) (a0,0,a1,a2,a3,r28,([]:jR))).bind fun r29 =>
 ((lp zbH zi) (a0,0,a1,a2,a3,r29.1,r29.2,([]:jQ))).bind fun r30 =>
 some (r30.1,r30.2.1,r30.2.2)
def za2 (rec:(jI×jR)→Option jI) (x:(jI×jR)):Option jI :=
 cond (((List.length x.1:Nat):Int)==1)
 ((gx x.1 0).bind fun e8 =>
  cond (decide (e8<0))
  ((gx x.1 0).bind fun e9 =>
   (inR (IntKind.wrap .i64 ((-1) - e9)) 48).bind fun k10 =>
   (x.2[k10]?).bind fun x11 =>
   cond (decide (((List.length x11:Nat):Int)>0))
   ((gx x.1 0).bind fun e12 =>
    (inR (IntKind.wrap .i64 ((-1) - e12)) 48).bind fun k13 =>
    (x.2[k13]?).bind fun x14 =>
    rec (x14,x.2))
   (some x.1))
  (some x.1))
 (some x.1)
def zco (a0:jI) (a1:jR):Option jI :=
 ((lp za2 zi) (a0,a1)).bind fun r16 =>
 some r16
def zby (rec:(jI×jI×Int)→Option (Unit⊕Bool)) (x:(jI×jI×Int)):Option (Unit⊕Bool) :=
 cond (decide (x.2.2<((List.length x.1:Nat):Int)))
 ((gx x.1 x.2.2).bind fun e3 =>
  (gx x.2.1 x.2.2).bind fun e4 =>
  cond (e3 != e4)
  (some (Sum.inr false))
  (rec (x.1,x.2.1,(IntKind.wrap .i64 (x.2.2+1)))))
 (some (Sum.inl ()))
def zaL (a0:jI) (a1:jI):Option Bool :=
 cond (((List.length a0:Nat):Int) != ((List.length a1:Nat):Int))
 (some false)
 (((lp zby zi) (a0,a1,0)).bind fun r8 =>
  yg r8
  (fun z9=>some true)
  (fun z10=>some z10))
def yb (rf:((Int×jI×jR)→Option Bool)) (rec:(Int×jI×Int×jR)→Option (Unit⊕Bool)) (x:(Int×jI×Int×jR)):Option (Unit⊕Bool) :=
 cond (decide (x.2.2.1<((List.length x.2.1:Nat):Int)))
 ((gx x.2.1 x.2.2.1).bind fun e8 =>
  cond (decide (e8≥0))
  (rec (x.1,x.2.1,(IntKind.wrap .i64 (x.2.2.1+1)),x.2.2.2))
  ((gx x.2.1 x.2.2.1).bind fun e9 =>
   cond ((IntKind.wrap .i64 ((-1) - e9))==x.1)
   (some (Sum.inr true))
   ((inR (IntKind.wrap .i64 ((-1) - e9)) 48).bind fun k10 =>
    (x.2.2.2[k10]?).bind fun x11 =>
    cond (decide (((List.length x11:Nat):Int)>0))
    ((inR (IntKind.wrap .i64 ((-1) - e9)) 48).bind fun k12 =>
     (x.2.2.2[k12]?).bind fun x13 =>
     (rf (x.1,x13,x.2.2.2)).bind fun r14 =>
     cond r14
     (some (Sum.inr true))
     (rec (x.1,x.2.1,(IntKind.wrap .i64 (x.2.2.1+1)),x.2.2.2)))
    (rec (x.1,x.2.1,(IntKind.wrap .i64 (x.2.2.1+1)),x.2.2.2)))))
 (some (Sum.inl ()))
def zcR (rf:((Int×jI×jR)→Option Bool)) (a0:Int) (a1:jI) (a2:jR):Option Bool :=
 ((lp (yb rf) zi) (a0,a1,0,a2)).bind fun r18 =>
 yg r18
 (fun z19=>some false)
 (fun z20=>some z20)
def zf3 (rf:((Int×jI×jR)→Option Bool)):((Int×jI×jR)→Option Bool) :=
 fun (x:(Int×jI×jR))=>zcR rf x.1 x.2.1 x.2.2
def zf4:((Int×jI×jR)→Option Bool):=fun _=>none
def yT (k:Nat):((Int×jI×jR)→Option Bool):=lpR zf4 zf3 k
def zdD (a0:Int) (a1:jI) (a2:jR):Option Bool:=(yT zi) (a0,a1,a2)
def zA (a0:jI) (a1:jI) (a2:Bool) (a3:jR):Option (Bool×jR) :=
 (gx a0 0).bind fun e8 =>
 cond a2
 ((gx a1 0).bind fun e9 =>
  (inR (IntKind.wrap .i64 ((-1) - e9)) 48).bind fun k10 =>
  (a3[k10]?).bind fun x11 =>
  some (true,(List.set a3 k10 a0)))
 ((zdD (IntKind.wrap .i64 ((-1) - e8)) a1 a3).bind fun r12 =>
  cond r12
  (some (false,a3))
  ((inR (IntKind.wrap .i64 ((-1) - e8)) 48).bind fun k13 =>
   (a3[k13]?).bind fun x14 =>
   some (true,(List.set a3 k13 a1))))
def zbO (rf:(((jS×jI×jI×jR)→Option (Bool×jR))×((jS×jR×jR×jR)→Option (Bool×jR)))) (a0:jS) (a1:jI) (a2:jI) (a3:jR):Option (Bool×jR) :=
 (zco a1 a3).bind fun r82 =>
 (zco a2 a3).bind fun r83 =>
 (zaL r82 r83).bind fun r84 =>
 cond r84
 (some (true,a3))
 ((gx r82 0).bind fun e85 =>
  cond (decide (e85<0))
  ((gx r83 0).bind fun e86 =>
   cond (decide (e86<0))
   ((gx r82 0).bind fun e87 =>
    (gx r83 0).bind fun e88 =>
    cond (decide (e87<e88))
    ((gx r82 0).bind fun e89 =>
     (zA r83 r82 (decide (e89<0)) a3).bind fun r90 =>
     some (r90.1,r90.2))
    ((gx r82 0).bind fun e91 =>
     cond (decide (e91≥0))
     ((gx r83 0).bind fun e92 =>
      cond (decide (e92<0))
      ((gx r82 0).bind fun e93 =>
       (zA r83 r82 (decide (e93<0)) a3).bind fun r94 =>
       some (r94.1,r94.2))
      ((gx r82 0).bind fun e95 =>
       cond (decide (e95<0))
       ((gx r83 0).bind fun e96 =>
        (zA r82 r83 (decide (e96<0)) a3).bind fun r97 =>
        some (r97.1,r97.2))
       ((gx r82 0).bind fun e98 =>
        (gx r83 0).bind fun e99 =>
        cond (e98 != e99)
        (some (false,a3))
        ((zcv r82 (some 1) none).bind fun y100 =>
         (z1 a0 y100).bind fun r101 =>
         (zcv r83 (some 1) none).bind fun y102 =>
         (z1 a0 y102).bind fun r103 =>
         (rf.2 (a0,r101,r103,a3)).bind fun r104 =>
         some (r104.1,r104.2)))))
     ((gx r82 0).bind fun e105 =>
      cond (decide (e105<0))
      ((gx r83 0).bind fun e106 =>
       (zA r82 r83 (decide (e106<0)) a3).bind fun r107 =>
       some (r107.1,r107.2))
      ((gx r82 0).bind fun e108 =>
       (gx r83 0).bind fun e109 =>
       cond (e108 != e109)
       (some (false,a3))
       ((zcv r82 (some 1) none).bind fun y110 =>
        (z1 a0 y110).bind fun r111 =>
        (zcv r83 (some 1) none).bind fun y112 =>
        (z1 a0 y112).bind fun r113 =>
        (rf.2 (a0,r111,r113,a3)).bind fun r114 =>
        some (r114.1,r114.2))))))
   ((gx r82 0).bind fun e115 =>
    cond (decide (e115≥0))
    ((gx r83 0).bind fun e116 =>
     cond (decide (e116<0))
     ((gx r82 0).bind fun e117 =>
      (zA r83 r82 (decide (e117<0)) a3).bind fun r118 =>
      some (r118.1,r118.2))
     ((gx r82 0).bind fun e119 =>
      cond (decide (e119<0))
      ((gx r83 0).bind fun e120 =>
       (zA r82 r83 (decide (e120<0)) a3).bind fun r121 =>
       some (r121.1,r121.2))
      ((gx r82 0).bind fun e122 =>
       (gx r83 0).bind fun e123 =>
       cond (e122 != e123)
       (some (false,a3))
       ((zcv r82 (some 1) none).bind fun y124 =>
        (z1 a0 y124).bind fun r125 =>
        (zcv r83 (some 1) none).bind fun y126 =>
        (z1 a0 y126).bind fun r127 =>
        (rf.2 (a0,r125,r127,a3)).bind fun r128 =>
        some (r128.1,r128.2)))))
    ((gx r82 0).bind fun e129 =>
     cond (decide (e129<0))
     ((gx r83 0).bind fun e130 =>
      (zA r82 r83 (decide (e130<0)) a3).bind fun r131 =>
      some (r131.1,r131.2))
     ((gx r82 0).bind fun e132 =>
      (gx r83 0).bind fun e133 =>
      cond (e132 != e133)
      (some (false,a3))
      ((zcv r82 (some 1) none).bind fun y134 =>
       (z1 a0 y134).bind fun r135 =>
       (zcv r83 (some 1) none).bind fun y136 =>
       (z1 a0 y136).bind fun r137 =>
       (rf.2 (a0,r135,r137,a3)).bind fun r138 =>
       some (r138.1,r138.2))))))
  ((gx r82 0).bind fun e139 =>
   cond (decide (e139≥0))
   ((gx r83 0).bind fun e140 =>
    cond (decide (e140<0))
    ((gx r82 0).bind fun e141 =>
     (zA r83 r82 (decide (e141<0)) a3).bind fun r142 =>
     some (r142.1,r142.2))
    ((gx r82 0).bind fun e143 =>
     cond (decide (e143<0))
     ((gx r83 0).bind fun e144 =>
      (zA r82 r83 (decide (e144<0)) a3).bind fun r145 =>
      some (r145.1,r145.2))
     ((gx r82 0).bind fun e146 =>
      (gx r83 0).bind fun e147 =>
      cond (e146 != e147)
      (some (false,a3))
      ((zcv r82 (some 1) none).bind fun y148 =>
       (z1 a0 y148).bind fun r149 =>
       (zcv r83 (some 1) none).bind fun y150 =>
       (z1 a0 y150).bind fun r151 =>
       (rf.2 (a0,r149,r151,a3)).bind fun r152 =>
       some (r152.1,r152.2)))))
   ((gx r82 0).bind fun e153 =>
    cond (decide (e153<0))
    ((gx r83 0).bind fun e154 =>
     (zA r82 r83 (decide (e154<0)) a3).bind fun r155 =>
     some (r155.1,r155.2))
    ((gx r82 0).bind fun e156 =>
     (gx r83 0).bind fun e157 =>
     cond (e156 != e157)
     (some (false,a3))
     ((zcv r82 (some 1) none).bind fun y158 =>
      (z1 a0 y158).bind fun r159 =>
      (zcv r83 (some 1) none).bind fun y160 =>
      (z1 a0 y160).bind fun r161 =>
      (rf.2 (a0,r159,r161,a3)).bind fun r162 =>
      some (r162.1,r162.2))))))
def yx (rf:(((jS×jI×jI×jR)→Option (Bool×jR))×((jS×jR×jR×jR)→Option (Bool×jR)))) (rec:(jS×jR×jR×Int×jR)→Option (jR⊕(Bool×jR))) (x:(jS×jR×jR×Int×jR)):Option (jR⊕(Bool×jR)) :=
 cond (decide (x.2.2.2.1<((List.length x.2.1:Nat):Int)))
 ((gx x.2.1 x.2.2.2.1).bind fun e7 =>
  (gx x.2.2.1 x.2.2.2.1).bind fun e8 =>
  (rf.1 (x.1,e7,e8,x.2.2.2.2)).bind fun r9 =>
  cond (!r9.1)
  (some (Sum.inr (false,r9.2)))
  (rec (x.1,x.2.1,x.2.2.1,(IntKind.wrap .i64 (x.2.2.2.1+1)),r9.2)))
 (some (Sum.inl x.2.2.2.2))
def zdp (rf:(((jS×jI×jI×jR)→Option (Bool×jR))×((jS×jR×jR×jR)→Option (Bool×jR)))) (a0:jS) (a1:jR) (a2:jR) (a3:jR):Option (Bool×jR) :=
 ((lp (yx rf) zi) (a0,a1,a2,0,a3)).bind fun r13 =>
 yg r13
 (fun z14=>some (true,z14))
 (fun z15=>some (z15.1,z15.2))
def zf9 (rf:(((jS×jI×jI×jR)→Option (Bool×jR))×((jS×jR×jR×jR)→Option (Bool×jR)))):(((jS×jI×jI×jR)→Option (Bool×jR))×((jS×jR×jR×jR)→Option (Bool×jR))) :=
 (fun (x:(jS×jI×jI×jR))=>zbO rf x.1 x.2.1 x.2.2.1 x.2.2.2,fun (x:(jS×jR×jR×jR))=>zdp rf x.1 x.2.1 x.2.2.1 x.2.2.2)
def zgy:(((jS×jI×jI×jR)→Option (Bool×jR))×((jS×jR×jR×jR)→Option (Bool×jR))):=(fun _=>none,fun _=>none)
def zG (k:Nat):(((jS×jI×jI×jR)→Option (Bool×jR))×((jS×jR×jR×jR)→Option (Bool×jR))):=lpR zgy zf9 k
def zlG (a0:jS) (a1:jI) (a2:jI) (a3:jR):Option (Bool×jR):=(zG zi).1 (a0,a1,a2,a3)
def zd8 (a0:jS) (a1:jR) (a2:jR) (a3:jR):Option (Bool×jR):=(zG zi).2 (a0,a1,a2,a3)
def ya (rf:((jI×jR×jI)→Option jI)) (rec:(jI×Int×jR×jI)→Option jI) (x:(jI×Int×jR×jI)):Option jI :=
 cond (decide (x.2.1<((List.length x.1:Nat):Int)))
 (cond (decide (((List.length x.2.2.2:Nat):Int)≤48))
  ((gx x.1 x.2.1).bind fun e19 =>
   cond (decide (e19<0))
   ((gx x.1 x.2.1).bind fun e20 =>
    (inR (IntKind.wrap .i64 ((-1) - e20)) 48).bind fun k21 =>
    (x.2.2.1[k21]?).bind fun x22 =>
    cond (decide (((List.length x22:Nat):Int)>0))
    ((gx x.1 x.2.1).bind fun e23 =>
     (inR (IntKind.wrap .i64 ((-1) - e23)) 48).bind fun k24 =>
     (x.2.2.1[k24]?).bind fun x25 =>
     (rf (x25,x.2.2.1,x.2.2.2)).bind fun r26 =>
     rec (x.1,(IntKind.wrap .i64 (x.2.1+1)),x.2.2.1,r26))
    ((gx x.1 x.2.1).bind fun e27 =>
     cond (qi (List.length x.2.2.2+List.length ([e27]:List Int)) 8)
     (rec (x.1,(IntKind.wrap .i64 (x.2.1+1)),x.2.2.1,(x.2.2.2++([e27]:List Int))))
     (none)))
   ((gx x.1 x.2.1).bind fun e28 =>
    cond (qi (List.length x.2.2.2+List.length ([e28]:List Int)) 8)
    (rec (x.1,(IntKind.wrap .i64 (x.2.1+1)),x.2.2.1,(x.2.2.2++([e28]:List Int))))
    (none)))
  (some x.2.2.2))
 (some x.2.2.2)
def zcT (rf:((jI×jR×jI)→Option jI)) (a0:jI) (a1:jR) (a2:jI):Option jI :=
 ((lp (ya rf) zi) (a0,0,a1,a2)).bind fun r30 =>
 some r30
def zfA (rf:((jI×jR×jI)→Option jI)):((jI×jR×jI)→Option jI) :=
 fun (x:(jI×jR×jI))=>zcT rf x.1 x.2.1 x.2.2
def zfV:((jI×jR×jI)→Option jI):=fun _=>none
def yu (k:Nat):((jI×jR×jI)→Option jI):=lpR zfV zfA k
def zct (a0:jI) (a1:jR) (a2:jI):Option jI:=(yu zi) (a0,a1,a2)
def zaq (rec:(Int×jR×(List (Int×jI)))→Option ((List (Int×jI))⊕(Bool×Bool))) (x:(Int×jR×(List (Int×jI)))):Option ((List (Int×jI))⊕(Bool×Bool)) :=
 cond (decide (x.1≤23))
 ((inR x.1 48).bind fun k14 =>
  (x.2.1[k14]?).bind fun x15 =>
  cond (((List.length x15:Nat):Int)==0)
  (rec ((IntKind.wrap .i64 (x.1+1)),x.2.1,x.2.2))
  ((inR x.1 48).bind fun k16 =>
   (x.2.1[k16]?).bind fun x17 =>
   (zct x17 x.2.1 ([]:jI)).bind fun r18 =>
   cond (decide (((List.length r18:Nat):Int)>48))
   (some (Sum.inr (true,false)))
   (cond (qi (List.length x.2.2+List.length ([(x.1,r18)]:List (Int×jI))) 32)
    (rec ((IntKind.wrap .i64 (x.1+1)),x.2.1,(x.2.2++([(x.1,r18)]:List (Int×jI)))))
    (none))))
 (some (Sum.inl x.2.2))
def zc9 (a0:jS) (a1:jI) (a2:jI):Option (Bool×Bool×(List (Int×jI))) :=
 (z1 a0 a1).bind fun r22 =>
 (z1 a0 a2).bind fun r23 =>
 cond (((List.length r22:Nat):Int) != ((List.length r23:Nat):Int))
 (some (false,true,([]:(List (Int×jI)))))
 ((zd8 a0 r22 r23 (List.replicate 48 ([]:jI))).bind fun r24 =>
  cond (!r24.1)
  (some (false,true,([]:(List (Int×jI)))))
  (((lp zaq zi) (0,r24.2,([]:(List (Int×jI))))).bind fun r25 =>
   yg r25
   (fun z26=>some (true,true,z26))
   (fun z27=>some (z27.1,z27.2,([]:(List (Int×jI)))))))
def zer (a0:jQ) (a1:Int):Option jQ :=
 (zcv a0 none (some a1)).bind fun y3 =>
 cond (qi (List.length ([]:List zl)+List.length y3) 32)
 ((zcv a0 (some (IntKind.wrap .i64 (a1+1))) none).bind fun y4 =>
  cond (qi (List.length (([]:List zl)++y3)+List.length y4) 32)
  (some ((([]:List zl)++y3)++y4))
  (none))
 (none)
def zdR (a0:Bool) (a1:jI) (a2:Bool) (a3:jI):Option Bool :=
 cond (a0==a2)
 ((zaL a1 a3).bind fun r2 =>
  some r2)
 (some false)
def za4 (rec:(jQ×Int×Bool×Int×jQ)→Option (Bool×jQ)) (x:(jQ×Int×Bool×Int×jQ)):Option (Bool×jQ) :=
 cond (decide (x.2.2.2.1<((List.length x.2.2.2.2:Nat):Int)))
 (cond x.2.2.1
  (rec (x.1,x.2.1,true,(IntKind.wrap .i64 (x.2.2.2.1+1)),x.2.2.2.2))
  ((inR x.2.2.2.1 (List.length x.2.2.2.2)).bind fun k7 =>
   (x.2.2.2.2[k7]?).bind fun x8 =>
   (gx x.1 x.2.1).bind fun e9 =>
   (zdR x8.1 x8.2 e9.1 e9.2).bind fun r10 =>
   rec (x.1,x.2.1,r10,(IntKind.wrap .i64 (x.2.2.2.1+1)),x.2.2.2.2)))
 (some (x.2.2.1,x.2.2.2.2))
def zbG (rec:(jQ×Int×jQ)→Option jQ) (x:(jQ×Int×jQ)):Option jQ :=
 cond (decide (x.2.1<((List.length x.1:Nat):Int)))
 (((lp za4 zi) (x.1,x.2.1,false,0,x.2.2)).bind fun r13 =>
  cond (!r13.1)
  ((gx x.1 x.2.1).bind fun e14 =>
   cond (qi (List.length r13.2+List.length ([(e14.1,e14.2)]:List zl)) 32)
   (rec (x.1,(IntKind.wrap .i64 (x.2.1+1)),(r13.2++([(e14.1,e14.2)]:List zl))))
   (none))
  (rec (x.1,(IntKind.wrap .i64 (x.2.1+1)),r13.2)))
 (some x.2.2)
def zhZ (a0:jQ):Option jQ :=
 ((lp zbG zi) (a0,0,([]:jQ))).bind fun r16 =>
 some r16
def zbs (rec:(jR×Int×Int×jQ×jR×jQ×(List (Int×jI)))→Option (List (Int×jI))) (x:(jR×Int×Int×jQ×jR×jQ×(List (Int×jI)))):Option (List (Int×jI)) :=
 (gx x.1 x.2.1).bind fun e29 =>
 cond (decide (x.2.2.1<((List.length e29:Nat):Int)))
 ((gx x.1 x.2.1).bind fun e30 =>
  (gx e30 x.2.2.1).bind fun e31 =>
  cond (decide (e31<0))
  ((zjm x.2.2.2.2.2.2 (IntKind.wrap .i64 ((-1) - e31))).bind fun r32 =>
   cond (decide (r32<0))
   (cond (qi (List.length x.2.2.2.2.2.2+List.length ([((IntKind.wrap .i64 ((-1) - e31)),([(IntKind.wrap .i64 ((-1) - ((List.length x.2.2.2.2.2.2:Nat):Int)))]:List Int))]:List (Int×jI))) 32)
    (rec (x.1,x.2.1,(IntKind.wrap .i64 (x.2.2.1+1)),x.2.2.2.1,x.2.2.2.2.1,x.2.2.2.2.2.1,(x.2.2.2.2.2.2++([((IntKind.wrap .i64 ((-1) - e31)),([(IntKind.wrap .i64 ((-1) - ((List.length x.2.2.2.2.2.2:Nat):Int)))]:List Int))]:List (Int×jI)))))
    (none))
   (rec (x.1,x.2.1,(IntKind.wrap .i64 (x.2.2.1+1)),x.2.2.2.1,x.2.2.2.2.1,x.2.2.2.2.2.1,x.2.2.2.2.2.2)))
  (rec (x.1,x.2.1,(IntKind.wrap .i64 (x.2.2.1+1)),x.2.2.2.1,x.2.2.2.2.1,x.2.2.2.2.2.1,x.2.2.2.2.2.2)))
 (some x.2.2.2.2.2.2)
def zaZ (rec:(Int×Bool×Int×jQ×jR×jQ×jQ×jQ×jR)→Option (Bool×jQ×jQ×jR)) (x:(Int×Bool×Int×jQ×jR×jQ×jQ×jQ×jR)):Option (Bool×jQ×jQ×jR) :=
 cond (decide (x.2.2.1<((List.length x.2.2.2.2.2.2.2.2:Nat):Int)))
 (cond x.2.1
  (rec (x.1,true,(IntKind.wrap .i64 (x.2.2.1+1)),x.2.2.2.1,x.2.2.2.2.1,x.2.2.2.2.2.1,x.2.2.2.2.2.2.1,x.2.2.2.2.2.2.2.1,x.2.2.2.2.2.2.2.2))
  ((inR x.2.2.1 (List.length x.2.2.2.2.2.2.2.2)).bind fun k9 =>
   (x.2.2.2.2.2.2.2.2[k9]?).bind fun x10 =>
   (gx x.2.2.2.2.1 x.1).bind fun e11 =>
   (zaL x10 e11).bind fun r12 =>
   rec (x.1,r12,(IntKind.wrap .i64 (x.2.2.1+1)),x.2.2.2.1,x.2.2.2.2.1,x.2.2.2.2.2.1,x.2.2.2.2.2.2.1,x.2.2.2.2.2.2.2.1,x.2.2.2.2.2.2.2.2)))
 (some (x.2.1,x.2.2.2.2.2.2.1,x.2.2.2.2.2.2.2.1,x.2.2.2.2.2.2.2.2))
def zbE (rec:(jR×Int×jQ×jR×jQ×(List (Int×jI)))→Option (List (Int×jI))) (x:(jR×Int×jQ×jR×jQ×(List (Int×jI)))):Option (List (Int×jI)) :=
 cond (decide (x.2.1<((List.length x.1:Nat):Int)))
 (((lp zbs zi) (x.1,x.2.1,0,x.2.2.1,x.2.2.2.1,x.2.2.2.2.1,x.2.2.2.2.2)).bind fun r35 =>
  rec (x.1,(IntKind.wrap .i64 (x.2.1+1)),x.2.2.1,x.2.2.2.1,x.2.2.2.2.1,r35))
 (some x.2.2.2.2.2)
def zbA (rec:(Int×jQ×jR×jQ×jQ×jQ×jR)→Option (jQ×jQ×jR)) (x:(Int×jQ×jR×jQ×jQ×jQ×jR)):Option (jQ×jQ×jR) :=
 cond (decide (x.1<((List.length x.2.2.1:Nat):Int)))
 (((lp zaZ zi) (x.1,false,0,x.2.1,x.2.2.1,x.2.2.2.1,x.2.2.2.2.1,x.2.2.2.2.2.1,x.2.2.2.2.2.2)).bind fun r17 =>
  cond (!r17.1)
  ((gx x.2.2.1 x.1).bind fun e18 =>
   cond (qi (List.length r17.2.2.2+List.length ([e18]:List jI)) 24)
   (rec ((IntKind.wrap .i64 (x.1+1)),x.2.1,x.2.2.1,x.2.2.2.1,r17.2.1,r17.2.2.1,(r17.2.2.2++([e18]:List jI))))
   (none))
  (rec ((IntKind.wrap .i64 (x.1+1)),x.2.1,x.2.2.1,x.2.2.2.1,r17.2.1,r17.2.2.1,r17.2.2.2)))
 (some (x.2.2.2.2.1,x.2.2.2.2.2.1,x.2.2.2.2.2.2))
def zkg (a0:jQ) (a1:jR) (a2:jQ):Option (jQ×jR×jQ) :=
 (zhZ a0).bind fun r38 =>
 (zhZ a2).bind fun r39 =>
 ((lp zbA zi) (0,a0,a1,a2,r38,r39,([]:jR))).bind fun r40 =>
 (zf6 r40.1 r40.2.2 r40.2.1).bind fun r41 =>
 ((lp zbE zi) (r41,0,r40.1,r40.2.2,r40.2.1,([]:(List (Int×jI))))).bind fun r42 =>
 (zf0 r42 r40.1 r40.2.2 r40.2.1).bind fun r43 =>
 some (r43.1,r43.2.1,r43.2.2)
def ziC (a0:jS) (a1:(List (Int×jI))) (a2:jQ) (a3:jR) (a4:jQ):Option (jQ×jR×Bool×jQ) :=
 (zf0 a1 a2 a3 a4).bind fun r4 =>
 (ziG a0 r4.1 r4.2.1 r4.2.2).bind fun r5 =>
 cond (!r5)
 (some (([]:jQ),([]:jR),false,([]:jQ)))
 ((zkg r4.1 r4.2.1 r4.2.2).bind fun r6 =>
  some (r6.1,r6.2.1,true,r6.2.2))
end Go.Abs.Q
namespace Go.Abs.Q
open Go Go.Abs
def za1 (s1:Int):List (Int×jI)→Nat→Option (Unit⊕Int)
 | [],i=>some (Sum.inl ())
 | e::es,i =>
  cond (e.1==s1)
  (some (Sum.inr (i:Int)))
  (za1 s1 es (i+1))
theorem zmd (s0:(List (Int×jI))) (s1:Int) (hl:List.length s0≤maxLen):∀(es:List (Int×jI)) (i:Nat) (k:Nat),s0.drop i=es→es.length<k→lp zc0 k (s0,s1,(i:Int))=za1 s1 es i:=by
 intro es
 induction es with
 | nil =>
  intro i k h hk
  obtain⟨k,rfl⟩:∃ k',k=k'+1:=⟨k - 1,by omega⟩
  rw[zc]
  generalize lp zc0 k=rec
  unfold zc0 za1
  simp only[zk (zg h),cond_false]
 | cons e es ih =>
  intro i k h hk
  obtain⟨k,rfl⟩:∃ k',k=k'+1:=⟨k - 1,by omega⟩
  rw[zc]
  have hi:=ze h
  have hk2:es.length<k:=Nat.lt_of_succ_lt_succ hk
  have key:=fun (_:Unit)=>ih (i+1) k (za h) hk2
  generalize lp zc0 k=rec at key ⊢
  unfold zc0 za1
  simp only[zn hi,cond_true,zp,zb h,Option.bind_some,zo hi hl,key ()]
theorem zlI (s0:(List (Int×jI))) (s1:Int) (hl:List.length s0≤maxLen):lp zc0 zi (s0,s1,0)=za1 s1 s0 0 :=
 zmd s0 s1 hl s0 0 zi rfl (Nat.lt_of_le_of_lt hl (by decide))
def yM (s0:(List (Int×jI))):List Int→jI→Option jI
 | [],s3=>some s3
 | e::es,s3 =>
  cond (decide (e<0))
  ((zjm s0 (IntKind.wrap .i64 ((-1) - e))).bind fun r18 =>
   cond (decide (r18<0))
   (cond (qi (List.length s3+List.length ([e]:List Int)) 8)
    (yM s0 es (s3++([e]:List Int)))
    (none))
   ((gx s0 r18).bind fun e20 =>
    cond (qi (List.length s3+List.length e20.2) 8)
    (yM s0 es (s3++e20.2))
    (none)))
  (cond (qi (List.length s3+List.length ([e]:List Int)) 8)
   (yM s0 es (s3++([e]:List Int)))
   (none))
theorem zlc (s0:(List (Int×jI))) (s1:jI) (hl:List.length s1≤maxLen):∀(es:List Int) (i:Nat) (k:Nat) (s3:jI),s1.drop i=es→es.length<k→lp zb9 k (s0,s1,(i:Int),s3)=yM s0 es s3:=by
 intro es
 induction es with
 | nil =>
  intro i k s3 h hk
  obtain⟨k,rfl⟩:∃ k',k=k'+1:=⟨k - 1,by omega⟩
  rw[zc]
  generalize lp zb9 k=rec
  unfold zb9 yM
  simp only[zk (zg h),cond_false]
 | cons e es ih =>
  intro i k s3 h hk
  obtain⟨k,rfl⟩:∃ k',k=k'+1:=⟨k - 1,by omega⟩
  rw[zc]
  have hi:=ze h
  have hk2:es.length<k:=Nat.lt_of_succ_lt_succ hk
  have key:=fun s3=>ih (i+1) k s3 (za h) hk2
  generalize lp zb9 k=rec at key ⊢
  unfold zb9 yM
  simp only[zn hi,cond_true,zp,zb h,Option.bind_some,zo hi hl,key]
theorem zku (s0:(List (Int×jI))) (s1:jI) (s3:jI) (hl:List.length s1≤maxLen):lp zb9 zi (s0,s1,0,s3)=yM s0 s1 s3 :=
 zlc s0 s1 hl s1 0 zi s3 rfl (Nat.lt_of_le_of_lt hl (by decide))
def zan (s0:(List (Int×jI))) (s5:jQ) (s6:jR):List zl→jQ→Option (jQ×jR×jQ)
 | [],s7=>some (s5,s6,s7)
 | e::es,s7 =>
  (zef s0 e.2).bind fun r26 =>
  cond (qi (List.length s7+List.length ([(e.1,r26)]:List zl)) 32)
  (zan s0 s5 s6 es (s7++([(e.1,r26)]:List zl)))
  (none)
theorem zkP (s0:(List (Int×jI))) (s2:jQ) (s3:jR) (s4:jQ) (s5:jQ) (s6:jR) (hl:List.length s4≤maxLen):∀(es:List zl) (i:Nat) (k:Nat) (s7:jQ),s4.drop i=es→es.length<k→lp zbH k (s0,(i:Int),s2,s3,s4,s5,s6,s7)=zan s0 s5 s6 es s7:=by
 intro es
 induction es with
 | nil =>
  intro i k s7 h hk
  obtain⟨k,rfl⟩:∃ k',k=k'+1:=⟨k - 1,by omega⟩
  rw[zc]
  generalize lp zbH k=rec
  unfold zbH zan
  simp only[zk (zg h),cond_false]
 | cons e es ih =>
  intro i k s7 h hk
  obtain⟨k,rfl⟩:∃ k',k=k'+1:=⟨k - 1,by omega⟩
  rw[zc]
  have hi:=ze h
  have hk2:es.length<k:=Nat.lt_of_succ_lt_succ hk
  have key:=fun s7=>ih (i+1) k s7 (za h) hk2
  generalize lp zbH k=rec at key ⊢
  unfold zbH zan
  simp only[zn hi,cond_true,zp,zb h,Option.bind_some,zo hi hl,key]
theorem zjG (s0:(List (Int×jI))) (s2:jQ) (s3:jR) (s4:jQ) (s5:jQ) (s6:jR) (s7:jQ) (hl:List.length s4≤maxLen):lp zbH zi (s0,0,s2,s3,s4,s5,s6,s7)=zan s0 s5 s6 s4 s7 :=
 zkP s0 s2 s3 s4 s5 s6 hl s4 0 zi s7 rfl (Nat.lt_of_le_of_lt hl (by decide))
def zai (s0:(List (Int×jI))) (s5:jQ):List jI→jR→Option (jQ×jR)
 | [],s6=>some (s5,s6)
 | e::es,s6 =>
  (zef s0 e).bind fun r16 =>
  cond (qi (List.length s6+List.length ([r16]:List jI)) 24)
  (zai s0 s5 es (s6++([r16]:List jI)))
  (none)
theorem zko (s0:(List (Int×jI))) (s2:jQ) (s3:jR) (s4:jQ) (s5:jQ) (hl:List.length s3≤maxLen):∀(es:List jI) (i:Nat) (k:Nat) (s6:jR),s3.drop i=es→es.length<k→lp zbx k (s0,(i:Int),s2,s3,s4,s5,s6)=zai s0 s5 es s6:=by
 intro es
 induction es with
 | nil =>
  intro i k s6 h hk
  obtain⟨k,rfl⟩:∃ k',k=k'+1:=⟨k - 1,by omega⟩
  rw[zc]
  generalize lp zbx k=rec
  unfold zbx zai
  simp only[zk (zg h),cond_false]
 | cons e es ih =>
  intro i k s6 h hk
  obtain⟨k,rfl⟩:∃ k',k=k'+1:=⟨k - 1,by omega⟩
  rw[zc]
  have hi:=ze h
  have hk2:es.length<k:=Nat.lt_of_succ_lt_succ hk
  have key:=fun s6=>ih (i+1) k s6 (za h) hk2
  generalize lp zbx k=rec at key ⊢
  unfold zbx zai
  simp only[zn hi,cond_true,zp,zb h,Option.bind_some,zo hi hl,key]
theorem zjV (s0:(List (Int×jI))) (s2:jQ) (s3:jR) (s4:jQ) (s5:jQ) (s6:jR) (hl:List.length s3≤maxLen):lp zbx zi (s0,0,s2,s3,s4,s5,s6)=zai s0 s5 s3 s6 :=
 zko s0 s2 s3 s4 s5 hl s3 0 zi s6 rfl (Nat.lt_of_le_of_lt hl (by decide))
def zak (s0:(List (Int×jI))):List zl→jQ→Option jQ
 | [],s5=>some s5
 | e::es,s5 =>
  (zef s0 e.2).bind fun r9 =>
  cond (qi (List.length s5+List.length ([(e.1,r9)]:List zl)) 32)
  (zak s0 es (s5++([(e.1,r9)]:List zl)))
  (none)
theorem zkB (s0:(List (Int×jI))) (s2:jQ) (s3:jR) (s4:jQ) (hl:List.length s2≤maxLen):∀(es:List zl) (i:Nat) (k:Nat) (s5:jQ),s2.drop i=es→es.length<k→lp zbw k (s0,(i:Int),s2,s3,s4,s5)=zak s0 es s5:=by
 intro es
 induction es with
 | nil =>
  intro i k s5 h hk
  obtain⟨k,rfl⟩:∃ k',k=k'+1:=⟨k - 1,by omega⟩
  rw[zc]
  generalize lp zbw k=rec
  unfold zbw zak
  simp only[zk (zg h),cond_false]
 | cons e es ih =>
  intro i k s5 h hk
  obtain⟨k,rfl⟩:∃ k',k=k'+1:=⟨k - 1,by omega⟩
  rw[zc]
  have hi:=ze h
  have hk2:es.length<k:=Nat.lt_of_succ_lt_succ hk
  have key:=fun s5=>ih (i+1) k s5 (za h) hk2
  generalize lp zbw k=rec at key ⊢
  unfold zbw zak
  simp only[zn hi,cond_true,zp,zb h,Option.bind_some,zo hi hl,key]
theorem zjk (s0:(List (Int×jI))) (s2:jQ) (s3:jR) (s4:jQ) (s5:jQ) (hl:List.length s2≤maxLen):lp zbw zi (s0,0,s2,s3,s4,s5)=zak s0 s2 s5 :=
 zkB s0 s2 s3 s4 hl s2 0 zi s5 rfl (Nat.lt_of_le_of_lt hl (by decide))
def zaN (s1:jI):List Int→Nat→Option (Unit⊕Bool)
 | [],i=>some (Sum.inl ())
 | e::es,i =>
  (gx s1 (i:Int)).bind fun e4 =>
  cond (e != e4)
  (some (Sum.inr false))
  (zaN s1 es (i+1))
theorem zkm (s0:jI) (s1:jI) (hl:List.length s0≤maxLen):∀(es:List Int) (i:Nat) (k:Nat),s0.drop i=es→es.length<k→lp zby k (s0,s1,(i:Int))=zaN s1 es i:=by
 intro es
 induction es with
 | nil =>
  intro i k h hk
  obtain⟨k,rfl⟩:∃ k',k=k'+1:=⟨k - 1,by omega⟩
  rw[zc]
  generalize lp zby k=rec
  unfold zby zaN
  simp only[zk (zg h),cond_false]
 | cons e es ih =>
  intro i k h hk
  obtain⟨k,rfl⟩:∃ k',k=k'+1:=⟨k - 1,by omega⟩
  rw[zc]
  have hi:=ze h
  have hk2:es.length<k:=Nat.lt_of_succ_lt_succ hk
  have key:=fun (_:Unit)=>ih (i+1) k (za h) hk2
  generalize lp zby k=rec at key ⊢
  unfold zby zaN
  simp only[zn hi,cond_true,zp,zb h,Option.bind_some,zo hi hl,key ()]
theorem zjE (s0:jI) (s1:jI) (hl:List.length s0≤maxLen):lp zby zi (s0,s1,0)=zaN s1 s0 0 :=
 zkm s0 s1 hl s0 0 zi rfl (Nat.lt_of_le_of_lt hl (by decide))
def zF (rf:((Int×jI×jR)→Option Bool)) (s0:Int) (s3:jR):List Int→Option (Unit⊕Bool)
 | []=>some (Sum.inl ())
 | e::es =>
  cond (decide (e≥0))
  (zF rf s0 s3 es)
  (cond ((IntKind.wrap .i64 ((-1) - e))==s0)
   (some (Sum.inr true))
   ((inR (IntKind.wrap .i64 ((-1) - e)) 48).bind fun k10 =>
    (s3[k10]?).bind fun x11 =>
    cond (decide (((List.length x11:Nat):Int)>0))
    ((inR (IntKind.wrap .i64 ((-1) - e)) 48).bind fun k12 =>
     (s3[k12]?).bind fun x13 =>
     (rf (s0,x13,s3)).bind fun r14 =>
     cond r14
     (some (Sum.inr true))
     (zF rf s0 s3 es))
    (zF rf s0 s3 es)))
theorem zeX (rf:((Int×jI×jR)→Option Bool)) (s0:Int) (s1:jI) (s3:jR) (hl:List.length s1≤maxLen):∀(es:List Int) (i:Nat) (k:Nat),s1.drop i=es→es.length<k→lp (yb rf) k (s0,s1,(i:Int),s3)=zF rf s0 s3 es:=by
 intro es
 induction es with
 | nil =>
  intro i k h hk
  obtain⟨k,rfl⟩:∃ k',k=k'+1:=⟨k - 1,by omega⟩
  rw[zc]
  generalize lp (yb rf) k=rec
  unfold yb zF
  simp only[zk (zg h),cond_false]
 | cons e es ih =>
  intro i k h hk
  obtain⟨k,rfl⟩:∃ k',k=k'+1:=⟨k - 1,by omega⟩
  rw[zc]
  have hi:=ze h
  have hk2:es.length<k:=Nat.lt_of_succ_lt_succ hk
  have key:=fun (_:Unit)=>ih (i+1) k (za h) hk2
  generalize lp (yb rf) k=rec at key ⊢
  unfold yb zF
  simp only[zn hi,cond_true,zp,zb h,Option.bind_some,zo hi hl,key ()]
theorem zeG (rf:((Int×jI×jR)→Option Bool)) (s0:Int) (s1:jI) (s3:jR) (hl:List.length s1≤maxLen):lp (yb rf) zi (s0,s1,0,s3)=zF rf s0 s3 s1 :=
 zeX rf s0 s1 s3 hl s1 0 zi rfl (Nat.lt_of_le_of_lt hl (by decide))
def zM (rf:(((jS×jI×jI×jR)→Option (Bool×jR))×((jS×jR×jR×jR)→Option (Bool×jR)))) (s0:jS) (s2:jR):List jI→Nat→jR→Option (jR⊕(Bool×jR))
 | [],i,s4=>some (Sum.inl s4)
 | e::es,i,s4 =>
  (gx s2 (i:Int)).bind fun e8 =>
  (rf.1 (s0,e,e8,s4)).bind fun r9 =>
  cond (!r9.1)
  (some (Sum.inr (false,r9.2)))
  (zM rf s0 s2 es (i+1) r9.2)
theorem zfu (rf:(((jS×jI×jI×jR)→Option (Bool×jR))×((jS×jR×jR×jR)→Option (Bool×jR)))) (s0:jS) (s1:jR) (s2:jR) (hl:List.length s1≤maxLen):∀(es:List jI) (i:Nat) (k:Nat) (s4:jR),s1.drop i=es→es.length<k→lp (yx rf) k (s0,s1,s2,(i:Int),s4)=zM rf s0 s2 es i s4:=by
 intro es
 induction es with
 | nil =>
  intro i k s4 h hk
  obtain⟨k,rfl⟩:∃ k',k=k'+1:=⟨k - 1,by omega⟩
  rw[zc]
  generalize lp (yx rf) k=rec
  unfold yx zM
  simp only[zk (zg h),cond_false]
 | cons e es ih =>
  intro i k s4 h hk
  obtain⟨k,rfl⟩:∃ k',k=k'+1:=⟨k - 1,by omega⟩
  rw[zc]
  have hi:=ze h
  have hk2:es.length<k:=Nat.lt_of_succ_lt_succ hk
  have key:=fun s4=>ih (i+1) k s4 (za h) hk2
  generalize lp (yx rf) k=rec at key ⊢
  unfold yx zM
  simp only[zn hi,cond_true,zp,zb h,Option.bind_some,zo hi hl,key]
theorem zeY (rf:(((jS×jI×jI×jR)→Option (Bool×jR))×((jS×jR×jR×jR)→Option (Bool×jR)))) (s0:jS) (s1:jR) (s2:jR) (s4:jR) (hl:List.length s1≤maxLen):lp (yx rf) zi (s0,s1,s2,0,s4)=zM rf s0 s2 s1 0 s4 :=
 zfu rf s0 s1 s2 hl s1 0 zi s4 rfl (Nat.lt_of_le_of_lt hl (by decide))
def zC (rf:((jI×jR×jI)→Option jI)) (s2:jR):List Int→jI→Option jI
 | [],s3=>some s3
 | e::es,s3 =>
  cond (decide (((List.length s3:Nat):Int)≤48))
  (cond (decide (e<0))
   ((inR (IntKind.wrap .i64 ((-1) - e)) 48).bind fun k21 =>
    (s2[k21]?).bind fun x22 =>
    cond (decide (((List.length x22:Nat):Int)>0))
    ((inR (IntKind.wrap .i64 ((-1) - e)) 48).bind fun k24 =>
     (s2[k24]?).bind fun x25 =>
     (rf (x25,s2,s3)).bind fun r26 =>
     zC rf s2 es r26)
    (cond (qi (List.length s3+List.length ([e]:List Int)) 8)
     (zC rf s2 es (s3++([e]:List Int)))
     (none)))
   (cond (qi (List.length s3+List.length ([e]:List Int)) 8)
    (zC rf s2 es (s3++([e]:List Int)))
    (none)))
  (some s3)
theorem ze0 (rf:((jI×jR×jI)→Option jI)) (s0:jI) (s2:jR) (hl:List.length s0≤maxLen):∀(es:List Int) (i:Nat) (k:Nat) (s3:jI),s0.drop i=es→es.length<k→lp (ya rf) k (s0,(i:Int),s2,s3)=zC rf s2 es s3:=by
 intro es
 induction es with
 | nil =>
  intro i k s3 h hk
  obtain⟨k,rfl⟩:∃ k',k=k'+1:=⟨k - 1,by omega⟩
  rw[zc]
  generalize lp (ya rf) k=rec
  unfold ya zC
  simp only[zk (zg h),cond_false]
 | cons e es ih =>
  intro i k s3 h hk
  obtain⟨k,rfl⟩:∃ k',k=k'+1:=⟨k - 1,by omega⟩
  rw[zc]
  have hi:=ze h
  have hk2:es.length<k:=Nat.lt_of_succ_lt_succ hk
  have key:=fun s3=>ih (i+1) k s3 (za h) hk2
  generalize lp (ya rf) k=rec at key ⊢
  unfold ya zC
  simp only[zn hi,cond_true,zp,zb h,Option.bind_some,zo hi hl,key]
theorem zeU (rf:((jI×jR×jI)→Option jI)) (s0:jI) (s2:jR) (s3:jI) (hl:List.length s0≤maxLen):lp (ya rf) zi (s0,0,s2,s3)=zC rf s2 s0 s3 :=
 ze0 rf s0 s2 hl s0 0 zi s3 rfl (Nat.lt_of_le_of_lt hl (by decide))
def qp (s0:jQ) (s1:Int) (s4:jQ):List zl→Nat→Bool→Option (Bool×jQ)
 | [],i,s2=>some (s2,s4)
 | e::es,i,s2 =>
  cond s2
  (qp s0 s1 s4 es (i+1) true)
  ((inR (i:Int) (List.length s4)).bind fun k7 =>
   (s4[k7]?).bind fun x8 =>
   (gx s0 s1).bind fun e9 =>
   (zdR x8.1 x8.2 e9.1 e9.2).bind fun r10 =>
   qp s0 s1 s4 es (i+1) r10)
theorem zjZ (s0:jQ) (s1:Int) (s4:jQ) (hl:List.length s4≤maxLen):∀(es:List zl) (i:Nat) (k:Nat) (s2:Bool),s4.drop i=es→es.length<k→lp za4 k (s0,s1,s2,(i:Int),s4)=qp s0 s1 s4 es i s2:=by
 intro es
 induction es with
 | nil =>
  intro i k s2 h hk
  obtain⟨k,rfl⟩:∃ k',k=k'+1:=⟨k - 1,by omega⟩
  rw[zc]
  generalize lp za4 k=rec
  unfold za4 qp
  simp only[zk (zg h),cond_false]
 | cons e es ih =>
  intro i k s2 h hk
  obtain⟨k,rfl⟩:∃ k',k=k'+1:=⟨k - 1,by omega⟩
  rw[zc]
  have hi:=ze h
  have hk2:es.length<k:=Nat.lt_of_succ_lt_succ hk
  have key:=fun s2=>ih (i+1) k s2 (za h) hk2
  generalize lp za4 k=rec at key ⊢
  unfold za4 qp
  simp only[zn hi,cond_true,zp,zb h,Option.bind_some,zo hi hl,key]
theorem zjw (s0:jQ) (s1:Int) (s4:jQ) (s2:Bool) (hl:List.length s4≤maxLen):lp za4 zi (s0,s1,s2,0,s4)=qp s0 s1 s4 s4 0 s2 :=
 zjZ s0 s1 s4 hl s4 0 zi s2 rfl (Nat.lt_of_le_of_lt hl (by decide))
def zam (s0:jQ):List zl→Nat→jQ→Option jQ
 | [],i,s2=>some s2
 | e::es,i,s2 =>
  ((lp za4 zi) (s0,(i:Int),false,0,s2)).bind fun r13 =>
  cond (!r13.1)
  (cond (qi (List.length r13.2+List.length ([(e.1,e.2)]:List zl)) 32)
   (zam s0 es (i+1) (r13.2++([(e.1,e.2)]:List zl)))
   (none))
  (zam s0 es (i+1) r13.2)
theorem zj2 (s0:jQ) (hl:List.length s0≤maxLen):∀(es:List zl) (i:Nat) (k:Nat) (s2:jQ),s0.drop i=es→es.length<k→lp zbG k (s0,(i:Int),s2)=zam s0 es i s2:=by
 intro es
 induction es with
 | nil =>
  intro i k s2 h hk
  obtain⟨k,rfl⟩:∃ k',k=k'+1:=⟨k - 1,by omega⟩
  rw[zc]
  generalize lp zbG k=rec
  unfold zbG zam
  simp only[zk (zg h),cond_false]
 | cons e es ih =>
  intro i k s2 h hk
  obtain⟨k,rfl⟩:∃ k',k=k'+1:=⟨k - 1,by omega⟩
  rw[zc]
  have hi:=ze h
  have hk2:es.length<k:=Nat.lt_of_succ_lt_succ hk
  have key:=fun s2=>ih (i+1) k s2 (za h) hk2
  generalize lp zbG k=rec at key ⊢
  unfold zbG zam
  simp only[zn hi,cond_true,zp,zb h,Option.bind_some,zo hi hl,key]
theorem zju (s0:jQ) (s2:jQ) (hl:List.length s0≤maxLen):lp zbG zi (s0,0,s2)=zam s0 s0 0 s2 :=
 zj2 s0 hl s0 0 zi s2 rfl (Nat.lt_of_le_of_lt hl (by decide))
def qr (s0:Int) (s4:jR) (s6:jQ) (s7:jQ) (s8:jR):List jI→Nat→Bool→Option (Bool×jQ×jQ×jR)
 | [],i,s1=>some (s1,s6,s7,s8)
 | e::es,i,s1 =>
  cond s1
  (qr s0 s4 s6 s7 s8 es (i+1) true)
  ((inR (i:Int) (List.length s8)).bind fun k9 =>
   (s8[k9]?).bind fun x10 =>
   (gx s4 s0).bind fun e11 =>
   (zaL x10 e11).bind fun r12 =>
   qr s0 s4 s6 s7 s8 es (i+1) r12)
theorem zkc (s0:Int) (s3:jQ) (s4:jR) (s5:jQ) (s6:jQ) (s7:jQ) (s8:jR) (hl:List.length s8≤maxLen):∀(es:List jI) (i:Nat) (k:Nat) (s1:Bool),s8.drop i=es→es.length<k→lp zaZ k (s0,s1,(i:Int),s3,s4,s5,s6,s7,s8)=qr s0 s4 s6 s7 s8 es i s1:=by
 intro es
 induction es with
 | nil =>
  intro i k s1 h hk
  obtain⟨k,rfl⟩:∃ k',k=k'+1:=⟨k - 1,by omega⟩
  rw[zc]
  generalize lp zaZ k=rec
  unfold zaZ qr
  simp only[zk (zg h),cond_false]
 | cons e es ih =>
  intro i k s1 h hk
  obtain⟨k,rfl⟩:∃ k',k=k'+1:=⟨k - 1,by omega⟩
  rw[zc]
  have hi:=ze h
  have hk2:es.length<k:=Nat.lt_of_succ_lt_succ hk
  have key:=fun s1=>ih (i+1) k s1 (za h) hk2
  generalize lp zaZ k=rec at key ⊢
  unfold zaZ qr
  simp only[zn hi,cond_true,zp,zb h,Option.bind_some,zo hi hl,key]
theorem zjF (s0:Int) (s3:jQ) (s4:jR) (s5:jQ) (s6:jQ) (s7:jQ) (s8:jR) (s1:Bool) (hl:List.length s8≤maxLen):lp zaZ zi (s0,s1,0,s3,s4,s5,s6,s7,s8)=qr s0 s4 s6 s7 s8 s8 0 s1 :=
 zkc s0 s3 s4 s5 s6 s7 s8 hl s8 0 zi s1 rfl (Nat.lt_of_le_of_lt hl (by decide))
def zaG (s0:jR) (s2:jQ) (s3:jR) (s4:jQ):List jI→Nat→(List (Int×jI))→Option (List (Int×jI))
 | [],i,s5=>some s5
 | e::es,i,s5 =>
  ((lp zbs zi) (s0,(i:Int),0,s2,s3,s4,s5)).bind fun r35 =>
  zaG s0 s2 s3 s4 es (i+1) r35
theorem zkz (s0:jR) (s2:jQ) (s3:jR) (s4:jQ) (hl:List.length s0≤maxLen):∀(es:List jI) (i:Nat) (k:Nat) (s5:(List (Int×jI))),s0.drop i=es→es.length<k→lp zbE k (s0,(i:Int),s2,s3,s4,s5)=zaG s0 s2 s3 s4 es i s5:=by
 intro es
 induction es with
 | nil =>
  intro i k s5 h hk
  obtain⟨k,rfl⟩:∃ k',k=k'+1:=⟨k - 1,by omega⟩
  rw[zc]
  generalize lp zbE k=rec
  unfold zbE zaG
  simp only[zk (zg h),cond_false]
 | cons e es ih =>
  intro i k s5 h hk
  obtain⟨k,rfl⟩:∃ k',k=k'+1:=⟨k - 1,by omega⟩
  rw[zc]
  have hi:=ze h
  have hk2:es.length<k:=Nat.lt_of_succ_lt_succ hk
  have key:=fun s5=>ih (i+1) k s5 (za h) hk2
  generalize lp zbE k=rec at key ⊢
  unfold zbE zaG
  simp only[zn hi,cond_true,zp,zb h,Option.bind_some,zo hi hl,key]
theorem zjt (s0:jR) (s2:jQ) (s3:jR) (s4:jQ) (s5:(List (Int×jI))) (hl:List.length s0≤maxLen):lp zbE zi (s0,0,s2,s3,s4,s5)=zaG s0 s2 s3 s4 s0 0 s5 :=
 zkz s0 s2 s3 s4 hl s0 0 zi s5 rfl (Nat.lt_of_le_of_lt hl (by decide))
def zag (s1:jQ) (s2:jR) (s3:jQ):List jI→Nat→jQ→jQ→jR→Option (jQ×jQ×jR)
 | [],i,s4,s5,s6=>some (s4,s5,s6)
 | e::es,i,s4,s5,s6 =>
  ((lp zaZ zi) ((i:Int),false,0,s1,s2,s3,s4,s5,s6)).bind fun r17 =>
  cond (!r17.1)
  (cond (qi (List.length r17.2.2.2+List.length ([e]:List jI)) 24)
   (zag s1 s2 s3 es (i+1) r17.2.1 r17.2.2.1 (r17.2.2.2++([e]:List jI)))
   (none))
  (zag s1 s2 s3 es (i+1) r17.2.1 r17.2.2.1 r17.2.2.2)
theorem zkt (s1:jQ) (s2:jR) (s3:jQ) (hl:List.length s2≤maxLen):∀(es:List jI) (i:Nat) (k:Nat) (s4:jQ) (s5:jQ) (s6:jR),s2.drop i=es→es.length<k→lp zbA k ((i:Int),s1,s2,s3,s4,s5,s6)=zag s1 s2 s3 es i s4 s5 s6:=by
 intro es
 induction es with
 | nil =>
  intro i k s4 s5 s6 h hk
  obtain⟨k,rfl⟩:∃ k',k=k'+1:=⟨k - 1,by omega⟩
  rw[zc]
  generalize lp zbA k=rec
  unfold zbA zag
  simp only[zk (zg h),cond_false]
 | cons e es ih =>
  intro i k s4 s5 s6 h hk
  obtain⟨k,rfl⟩:∃ k',k=k'+1:=⟨k - 1,by omega⟩
  rw[zc]
  have hi:=ze h
  have hk2:es.length<k:=Nat.lt_of_succ_lt_succ hk
  have key:=fun s4 s5 s6=>ih (i+1) k s4 s5 s6 (za h) hk2
  generalize lp zbA k=rec at key ⊢
  unfold zbA zag
  simp only[zn hi,cond_true,zp,zb h,Option.bind_some,zo hi hl,key]
theorem zjH (s1:jQ) (s2:jR) (s3:jQ) (s4:jQ) (s5:jQ) (s6:jR) (hl:List.length s2≤maxLen):lp zbA zi (0,s1,s2,s3,s4,s5,s6)=zag s1 s2 s3 s2 0 s4 s5 s6 :=
 zkt s1 s2 s3 hl s2 0 zi s4 s5 s6 rfl (Nat.lt_of_le_of_lt hl (by decide))
end Go.Abs.Q
namespace Go.Abs.Q
open Go Go.Abs
section
theorem ztJ (b:List Int):(es:List Int)→(i:Nat)→i+es.length=b.length→zaN b es i=some (cond (decide (es=b.drop i)) (.inl ()) (.inr false))
 | [],i,h=>by
  rw[List.drop_of_length_le (by simp at h; omega)]
  rfl
 | e::es,i,h=>by
  simp only[List.length_cons] at h
  obtain⟨x,hx⟩:∃ x,b[i]? = some x:=⟨_,List.getElem?_eq_getElem (by omega)⟩
  have hd:b.drop i=x::b.drop (i+1):=by
   have h1:=(List.getElem?_eq_some_iff.1 hx).1
   rw[List.drop_eq_getElem_cons h1]
   rw[(List.getElem?_eq_some_iff.1 hx).2]
  unfold zaN
  rw[zp,hx,Option.bind_some,ztJ b es (i+1) (by omega),hd]
  by_cases he:e=x
  ·subst he
   rw[show (e != e)=false from by simp,cond_false]
   simp
  ·rw[show (e != x)=true from by simp [he],cond_true]
   simp [he]
theorem zgI {a b:List Int} (h:a.length≤1000000):zaL a b=some (decide (a=b)):=by
 unfold zaL
 by_cases hl:a.length=b.length
 ·rw[show (((List.length a:Nat):Int) != ((List.length b:Nat):Int))=false from by simp [hl],cond_false,zjE _ _ (by unfold maxLen; omega),ztJ b a 0 (by omega),Option.bind_some,List.drop_zero]
  cases decide (a=b)<;>rfl
 ·rw[show (((List.length a:Nat):Int) != ((List.length b:Nat):Int))=true from by simp; omega,cond_true]
  have:a≠b:=fun e=>hl (by rw[e])
  simp [this]
def zEk (o:Option Tm):List Int:=match o with
 | none=>[]
 | some t=>t.codes
structure RepW (a0:List zq) (w:List jI) (B:Bd):Prop where
 len:w.length=48
 at_:∀ x,x<48→w[x]? = some (zEk (B x))
 ok:∀ x t,B x=some t→x<24∧t.ok a0 24∧t.codes.length≤48
theorem RepW.small {a0:List zq} {w:List jI} {B:Bd} (h:RepW a0 w B):zmc B:=fun x t ht=>by
 obtain⟨h1,h2,h3⟩:=h.ok x t ht
 rw[Tm.codes_len] at h3
 exact ⟨by omega,h3⟩
theorem RepW.set {a0:List zq} {w:List jI} {B:Bd} (h:RepW a0 w B) {x:Nat} (hx:x<24) {t:Tm} (ht:t.ok a0 24) (hl:t.codes.length≤48):RepW a0 (w.set x t.codes) (zAn B x t) where
 len:=by rw[List.length_set]; exact h.len
 at_:=fun y hy=>by
  have:=h.len
  by_cases he:y=x
  ·subst he
   rw[List.getElem?_set_self (by omega),zd1]
   rfl
  ·rw[List.getElem?_set_ne (Ne.symm he),zgH _ _ he]
   exact h.at_ y hy
 ok:=fun y u hy=>by
  by_cases he:y=x
  ·subst he
   rw[zd1] at hy
   injection hy with hy
   subst hy
   exact ⟨hx,ht,hl⟩
  ·rw[zgH _ _ he] at hy
   exact h.ok y u hy
theorem zkb (t:Tm):0<t.codes.length:=by rw[Tm.codes_len]; exact t.size_pos
section
variable {a0:List zq} {w:List jI} {B:Bd} {σ:Sb} (hT:RepW a0 w B) (hG:Good B σ)
include hT hG
theorem zAw:∀(m k:Nat) (t:Tm),ziZ t≤m→m≤k→t.ok a0 24→t.codes.length≤48 →
  ∃ u:Tm,lp za2 k (t.codes,w)=some u.codes∧u.ok a0 24∧u.codes.length≤48∧(∀ θ,SolB θ B→t.sub θ=u.sub θ)∧∀ y,u = .v y→B y=none:=by
 intro m
 induction m with
 | zero=>intro k t hm; cases t<;>simp [ziZ] at hm
 | succ m ih =>
  intro k t hm hk ho hl
  obtain⟨k,rfl⟩:∃ k',k=k'+1:=⟨k - 1,by omega⟩
  rw[zc]
  have key:=fun t (h1:ziZ t≤m) h2 h3=>ih k t h1 (by omega) h2 h3
  generalize lp za2 k=rec at key ⊢
  unfold za2
  cases t with
  | v x =>
   have hx:x<24:=ho
   have hc:(Tm.v x).codes=[-1 - (x:Int)]:=rfl
   have w1:IntKind.wrap .i64 ((-1) - (-1 - (x:Int)))=(x:Int):=by rw[zE]<;>omega
   rw[hc]
   simp only[List.length_cons,List.length_nil,ql,List.getElem?_cons_zero,Option.bind_some,w1]
   rw[show ((((0+1:Nat):Int))==1)=true from rfl,cond_true,decide_eq_true (show -1 - (x:Int)<0 by omega),cond_true,zac (show x<48 by omega),Option.bind_some,hT.at_ x (by omega),Option.bind_some]
   cases hb:B x with
   | none =>
    refine ⟨.v x,rfl,ho,hl,fun θ _=>rfl,fun y hy=>by injection hy with hy; rw[← hy]; exact hb⟩
   | some u =>
    obtain⟨-,h2,h3⟩:=hT.ok x u hb
    have hp:=zkb u
    show ∃ u1,(cond (decide (((List.length u.codes:Nat):Int)>0)) _ _)=_∧_
    rw[decide_eq_true (show ((List.length u.codes:Nat):Int)>0 by omega),cond_true]
    obtain⟨u',g1,g2,g3,g4,g5⟩:=key u (by
     cases u with
     | v y=>have:=hG.down _ y hb; simp only[ziZ] at hm ⊢; omega
     | f c as=>simp only[ziZ] at hm ⊢; omega) h2 h3
    refine ⟨u',?_,g2,g3,fun θ hθ=>(hθ _ u hb).trans (g4 θ hθ),g5⟩
    show (w[x]?).bind _=_
    rw[hT.at_ x (by omega),hb]
    exact g1
  | f c as =>
   refine ⟨.f c as,?_,ho,hl,fun θ _=>rfl,fun y hy=>by cases hy⟩
   have hc:(Tm.f c as).codes=(c:Int)::zh as:=rfl
   rw[hc]
   simp only[ql,List.getElem?_cons_zero,Option.bind_some]
   rw[decide_eq_false (show ¬(c:Int)<0 by omega),cond_false]
   cases (((List.length ((c:Int)::zh as):Nat):Int)==1)<;>rfl
theorem zqr {t:Tm} (ho:t.ok a0 24) (hl:t.codes.length≤48) :
  ∃ u:Tm,zco t.codes w=some u.codes∧u.ok a0 24∧u.codes.length≤48∧(∀ θ,SolB θ B→t.sub θ=u.sub θ)∧∀ y,u = .v y→B y=none:=by
 obtain⟨u,h1,h2⟩:=zAw hT hG (ziZ t) zi t (Nat.le_refl _) (by
  cases t with
  | v x=>have:x<24:=ho; simp only[ziZ]; unfold zi; omega
  | f c as=>simp only[ziZ]; unfold zi; omega) ho hl
 refine ⟨u,?_,h2⟩
 unfold zco
 rw[h1]
 rfl
theorem zug {v:Nat} (hv0:B v=none):∀(k m:Nat) (es:List Int),(∀ c∈es,-24≤c)→es.length≤1000→(∀ c∈es,c<0→B (-1 - c).toNat≠none→Good.rank σ (-1 - c).toNat<m)→m<k →
  ∃ b,yT k ((v:Int),es,w)=some b∧(b=true↔∃ c∈es,c<0∧(σ (-1 - c).toNat).has v):=by
 intro k
 induction k with
 | zero=>intro m es _ _ _ h; omega
 | succ k ih =>
  intro m es hc hl hr hm
  show ∃ b,zcR (yT k) (v:Int) es w=some b∧_
  unfold zcR
  rw[zeG _ _ _ _ (by unfold maxLen; omega)]
  have go:∀ es:List Int,(∀ c∈es,-24≤c)→(∀ c∈es,c<0→B (-1 - c).toNat≠none→Good.rank σ (-1 - c).toNat<m) →
    ∃ b,zF (yT k) (v:Int) w es=some (cond b (.inr true) (.inl ()))∧(b=true↔∃ c∈es,c<0∧(σ (-1 - c).toNat).has v):=by
   intro es
   induction es with
   | nil=>intro _ _; exact ⟨false,rfl,by simp⟩
   | cons e es ihe =>
    intro hc hr
    obtain⟨b,g1,g2⟩:=ihe (fun c h=>hc c (List.mem_cons_of_mem _ h)) fun c h=>hr c (List.mem_cons_of_mem _ h)
    have he:=hc e (List.mem_cons_self ..)
    unfold zF
    by_cases h0:e≥0
    ·rw[decide_eq_true h0,cond_true]
     refine ⟨b,g1,g2.trans ?_⟩
     constructor
     ·rintro⟨c,h1,h2⟩; exact ⟨c,List.mem_cons_of_mem _ h1,h2⟩
     ·rintro⟨c,h1,h2,h3⟩
      rcases List.mem_cons.1 h1 with rfl | h1
      ·omega
      ·exact ⟨c,h1,h2,h3⟩
    ·rw[decide_eq_false h0,cond_false]
     obtain⟨u,rfl⟩:∃ u:Nat,e = -1 - (u:Int):=⟨(-1 - e).toNat,by omega⟩
     have hu:u<24:=by omega
     have hn:(-1 - (-1 - (u:Int))).toNat=u:=by omega
     have w1:IntKind.wrap .i64 ((-1) - (-1 - (u:Int)))=(u:Int):=by rw[zE]<;>omega
     rw[w1]
     by_cases huv:u=v
     ·subst huv
      rw[show (((u:Nat):Int)==((u:Nat):Int))=true from by simp,cond_true]
      exact ⟨true,rfl,⟨fun _=>⟨_,List.mem_cons_self ..,by omega,by rw[hn,hG.free _ hv0]; rfl⟩,fun _=>rfl⟩⟩
     ·rw[show (((u:Nat):Int)==((v:Nat):Int))=false from by simp; omega,cond_false]
      simp only[zac (show u<48 by omega),Option.bind_some,hT.at_ u (by omega)]
      cases hb:B u with
      | none =>
       show ∃ b,(cond (decide (((List.length ([]:List Int):Nat):Int)>0)) _ _)=_∧_
       refine ⟨b,g1,g2.trans ?_⟩
       constructor
       ·rintro⟨c,h1,h2⟩; exact ⟨c,List.mem_cons_of_mem _ h1,h2⟩
       ·rintro⟨c,h1,h2,h3⟩
        rcases List.mem_cons.1 h1 with rfl | h1
        ·rw[hn,hG.free _ hb] at h3
         have h3:u=v:=h3
         exact absurd h3 huv
        ·exact ⟨c,h1,h2,h3⟩
      | some t =>
       obtain⟨-,h2,h3⟩:=hT.ok u t hb
       have hp:=zkb t
       show ∃ b,(cond (decide (((List.length t.codes:Nat):Int)>0)) _ _)=_∧_
       rw[decide_eq_true (show ((List.length t.codes:Nat):Int)>0 by omega),cond_true]
       have hcodes:∀ c∈t.codes,-24≤c∧(c<0→t.has (-1 - c).toNat):=fun c hcm=>by
        have h1:c∈zh [t]:=by simp [zh,hcm]
        by_cases hc0:c<0
        ·have h4:=(zes hc0 [t]).1 h1
         have h5:t.has (-1 - c).toNat:=by rcases h4 with h4 | h4; exact h4; exact absurd h4 (by simp [zk2])
         have h6:=Tm.ok_has t h2 h5
         exact ⟨by omega,fun _=>h5⟩
        ·exact ⟨by omega,fun h=>absurd h hc0⟩
       obtain⟨b1,k1,k2⟩:=ih (Good.rank σ u) t.codes (fun c h=>(hcodes c h).1) (by omega) (fun c hcm h0 _=>hG.rank_lt hb ((hcodes c hcm).2 h0) (by have:=(hcodes c hcm).1; omega)) (by
        have:=hr _ (List.mem_cons_self ..) (by omega) (by rw[hn,hb]; simp)
        rw[hn] at this
        omega)
       have k1:yT k ((v:Int),zEk (some t),w)=some b1:=k1
       rw[k1,Option.bind_some]
       have hb1:b1=true↔(σ u).has v:=by
        rw[k2,hG.bound u t hb,Tm.has_sub]
        constructor
        ·rintro⟨c,h4,h5,h6⟩
         exact ⟨_,(hcodes c h4).2 h5,h6⟩
        ·rintro⟨y,h4,h5⟩
         refine ⟨-1 - (y:Int),?_,by omega,by rw[show (-1 - (-1 - (y:Int))).toNat=y by omega]; exact h5⟩
         have:=(zes (c := -1 - (y:Int)) (by omega) [t]).2 (by rw[show (-1 - (-1 - (y:Int))).toNat=y by omega]; exact .inl h4)
         simpa[zh] using this
       cases b1 with
       | true =>
        refine ⟨true,rfl,⟨fun _=>⟨_,List.mem_cons_self ..,by omega,?_⟩,fun _=>rfl⟩⟩
        rw[hn]
        exact hb1.1 rfl
       | false =>
        refine ⟨b,g1,g2.trans ?_⟩
        constructor
        ·rintro⟨c,h1,h2⟩; exact ⟨c,List.mem_cons_of_mem _ h1,h2⟩
        ·rintro⟨c,h1,h2,h3⟩
         rcases List.mem_cons.1 h1 with rfl | h1
         ·rw[hn] at h3
          exact absurd (hb1.2 h3) (by simp)
         ·exact ⟨c,h1,h2,h3⟩
  obtain⟨b,g1,g2⟩:=go es hc hr
  rw[g1,Option.bind_some]
  exact ⟨b,by cases b<;>rfl,g2⟩
end
end
end Go.Abs.Q
namespace Go.Abs.Q
open Go Go.Abs
section
structure Qf (out E r:List Int):Prop where
 fits:out.length+E.length≤48→r=out++E
 over:48<out.length+E.length→48<r.length
 len:r.length≤max out.length 49
theorem Qf.step {out E1 E2 r1 r:List Int} (h:Qf out E1 r1) (h':Qf r1 E2 r):Qf out (E1++E2) r where
 fits:=fun hl=>by
  rw[List.length_append] at hl
  have e:=h.fits (by omega)
  have e2:=h'.fits (by rw[e,List.length_append]; omega)
  rw[e2,e,List.append_assoc]
 over:=fun hl=>by
  rw[List.length_append] at hl
  by_cases h1:out.length+E1.length≤48
  ·have e:=h.fits h1
   refine h'.over ?_
   rw[e,List.length_append]; omega
  ·exact h'.over (by have:=h.over (by omega); omega)
 len:=by have:=h.len; have:=h'.len; omega
theorem Qf.full {out E:List Int} (h:48<out.length):Qf out E out:=⟨fun hl=>by omega,fun _=>h,by omega⟩
theorem Qf.one {out:List Int} (c:Int) (h:out.length≤48):Qf out [c] (out++[c]):=⟨fun _=>rfl,fun hl=>by rw[List.length_append]; exact hl,by rw[List.length_append]; simp; omega⟩
theorem Qf.nil (out:List Int):Qf out [] out:=⟨fun _=>by simp,fun h=>by simpa using h,by omega⟩
theorem ziB {a0:List zq} {t:Tm} (ho:t.ok a0 24):∀ c∈t.codes,-24≤c∧(c<0→t.has (-1 - c).toNat):=fun c hcm=>by
 by_cases hc0:c<0
 ·have h5:=(Tm.mem_codes hc0 t).1 hcm
  have h6:=Tm.ok_has t ho h5
  exact ⟨by omega,fun _=>h5⟩
 ·exact ⟨by omega,fun h=>absurd h hc0⟩
section
variable {a0:List zq} {w:List jI} {B:Bd} {σ:Sb} (hT:RepW a0 w B) (hG:Good B σ)
include hT hG
theorem zA1:∀(k m:Nat) (es out:List Int),(∀ c∈es,-24≤c)→es.length≤1000→(∀ c∈es,c<0→B (-1 - c).toNat≠none→Good.rank σ (-1 - c).toNat<m)→m<k→out.length≤1000 →
  ∃ r,yu k (es,w,out)=some r∧Qf out (es.flatMap (zhh σ)) r:=by
 intro k
 induction k with
 | zero=>intro m es out _ _ _ h; omega
 | succ k ih =>
  intro m es out hc hl hr hm ho
  show ∃ r,zcT (yu k) es w out=some r∧_
  unfold zcT
  rw[zeU _ _ _ _ (by unfold maxLen; omega)]
  have go:∀(es out:List Int),(∀ c∈es,-24≤c)→(∀ c∈es,c<0→B (-1 - c).toNat≠none→Good.rank σ (-1 - c).toNat<m)→out.length≤1000 →
    ∃ r,zC (yu k) w es out=some r∧Qf out (es.flatMap (zhh σ)) r:=by
   intro es
   induction es with
   | nil=>intro out _ _ _; exact ⟨out,rfl,Qf.nil out⟩
   | cons e es ihe =>
    intro out hc hr ho
    have ihe:=fun out ho=>ihe out (fun c h=>hc c (List.mem_cons_of_mem _ h)) (fun c h=>hr c (List.mem_cons_of_mem _ h)) ho
    have he:=hc e (List.mem_cons_self ..)
    unfold zC
    by_cases h48:out.length≤48
    ·rw[decide_eq_true (show ((List.length out:Nat):Int)≤48 by omega),cond_true,List.flatMap_cons]
     have plain:zhh σ e=[e]→∃ r,(cond (qi (List.length out+List.length ([e]:List Int)) 8) (zC (yu k) w es (out++([e]:List Int))) none)=some r∧Qf out (zhh σ e++es.flatMap (zhh σ)) r:=fun hx=>by
      obtain⟨r,g1,g2⟩:=ihe (out++[e]) (by simp; omega)
      rw[zD (by simp; omega),cond_true,g1,hx]
      exact ⟨r,rfl,(Qf.one e h48).step g2⟩
     by_cases h0:e<0
     ·rw[decide_eq_true h0,cond_true]
      obtain⟨u,rfl⟩:∃ u:Nat,e = -1 - (u:Int):=⟨(-1 - e).toNat,by omega⟩
      have hu:u<24:=by omega
      have hn:(-1 - (-1 - (u:Int))).toNat=u:=by omega
      have w1:IntKind.wrap .i64 ((-1) - (-1 - (u:Int)))=(u:Int):=by rw[zE]<;>omega
      rw[w1]
      simp only[zac (show u<48 by omega),Option.bind_some,hT.at_ u (by omega)]
      cases hb:B u with
      | none =>
       show ∃ r,(cond (decide (((List.length ([]:List Int):Nat):Int)>0)) _ _)=_∧_
       refine plain ?_
       unfold zhh
       rw[if_pos h0,hn,hG.free u hb]
       rfl
      | some t =>
       obtain⟨-,h2,h3⟩:=hT.ok u t hb
       have hp:=zkb t
       show ∃ r,(cond (decide (((List.length t.codes:Nat):Int)>0)) _ _)=_∧_
       rw[decide_eq_true (show ((List.length t.codes:Nat):Int)>0 by omega),cond_true]
       have hcodes:=ziB h2
       obtain⟨r1,k1,k2⟩:=ih (Good.rank σ u) t.codes out (fun c h=>(hcodes c h).1) (by omega) (fun c hcm h0 _=>hG.rank_lt hb ((hcodes c hcm).2 h0) (by have:=(hcodes c hcm).1; omega)) (by
        have:=hr _ (List.mem_cons_self ..) (by omega) (by rw[hn,hb]; simp)
        rw[hn] at this
        omega) ho
       have k1:yu k (zEk (some t),w,out)=some r1:=k1
       rw[k1,Option.bind_some]
       obtain⟨r,g1,g2⟩:=ihe r1 (by have:=k2.len; omega)
       refine ⟨r,g1,Qf.step (r1:=r1) ?_ g2⟩
       have:zhh σ (-1 - (u:Int))=t.codes.flatMap (zhh σ):=by
        unfold zhh
        rw[if_pos h0,hn,hG.bound u t hb,Tm.codes_sub]
        rfl
       rw[this]
       exact k2
     ·rw[decide_eq_false h0,cond_false]
      refine plain ?_
      unfold zhh
      rw[if_neg h0]
    ·rw[decide_eq_false (show ¬((List.length out:Nat):Int)≤48 by omega),cond_false]
     exact ⟨out,rfl,Qf.full (by omega)⟩
  obtain⟨r,g1,g2⟩:=go es out hc hr ho
  rw[g1,Option.bind_some]
  exact ⟨r,rfl,g2⟩
theorem zy6 {t:Tm} (ho:t.ok a0 24) (hl:t.codes.length≤48):∃ r,zct t.codes w []=some r∧Qf [] (t.sub σ).codes r:=by
 rw[Tm.codes_sub]
 refine zA1 hT hG zi 100 t.codes [] (fun c h=>(ziB ho c h).1) (by omega) (fun c _ _ _ => ?_) (by unfold zi; omega) (by simp)
 have:=Good.rank_le σ (-1 - c).toNat
 omega
theorem zsg {v:Nat} (hv0:B v=none) {t:Tm} (ho:t.ok a0 24) (hl:t.codes.length≤48):∃ b,zdD (v:Int) t.codes w=some b∧(b=true↔(t.sub σ).has v):=by
 obtain⟨b,h1,h2⟩:=zug hT hG hv0 zi 100 t.codes (fun c h=>(ziB ho c h).1) (by omega) (fun c _ _ _=>by have:=Good.rank_le σ (-1 - c).toNat; omega) (by unfold zi; omega)
 refine ⟨b,h1,h2.trans ?_⟩
 rw[Tm.has_sub]
 constructor
 ·rintro⟨c,h4,h5,h6⟩
  exact ⟨_,(ziB ho c h4).2 h5,h6⟩
 ·rintro⟨y,h4,h5⟩
  refine ⟨-1 - (y:Int),(Tm.mem_codes (by omega) t).2 (by rw[show (-1 - (-1 - (y:Int))).toNat=y by omega]; exact h4),by omega,by rw[show (-1 - (-1 - (y:Int))).toNat=y by omega]; exact h5⟩
end
structure OutW (a0:List zq) (B:Bd) (E:List (Tm×Tm)) (r:Bool×List jI):Prop where
 yes:r.1=true→∃ B' σ',RepW a0 r.2 B'∧Good B' σ'∧∀ θ,SolB θ B'↔SolB θ B∧Sol θ E
 no:r.1=false→∀ θ,SolB θ B→Sol θ E→False
theorem zdB {θ:Sb} {t u:Tm}:Sol θ [(t,u)]↔t.sub θ=u.sub θ:=by simp [Sol]
theorem zoy {a0:List zq} {w:List jI} {B:Bd} {σ:Sb} (hT:RepW a0 w B) (hG:Good B σ) {x:Nat} (hx:x<24) (hb:B x=none) {c:Nat} {as:List Tm} (ho:(Tm.f c as).ok a0 24) (hl:(Tm.f c as).codes.length≤48) :
  ∃ r,zA [-1 - (x:Int)] (Tm.f c as).codes false w=some r∧OutW a0 B [(.v x,.f c as)] r:=by
 unfold zA
 have w1:IntKind.wrap .i64 ((-1) - (-1 - (x:Int)))=(x:Int):=by rw[zE]<;>omega
 simp only[ql,List.getElem?_cons_zero,Option.bind_some,cond_false,w1]
 obtain⟨b,h1,h2⟩:=zsg hT hG hb ho hl
 rw[h1,Option.bind_some]
 cases b with
 | true =>
  refine ⟨_,rfl,⟨fun h=>(nomatch h),fun _ θ h3 h4=>hG.occurs (h2.1 rfl) h3 (zdB.1 h4)⟩⟩
 | false =>
  simp only[cond_false,zac (show x<48 by omega),Option.bind_some,hT.at_ x (by omega)]
  have hn:¬((Tm.f c as).sub σ).has x:=fun h=>by have:=h2.2 h; cases this
  refine ⟨_,rfl,⟨fun _=>⟨_,_,hT.set hx ho hl,hG.bind hb hn (fun y hy=>by cases hy),fun θ => ?_⟩,fun h=>(nomatch h)⟩⟩
  rw[SolB.upd hb,zdB]
  rfl
theorem zqQ {a0:List zq} {w:List jI} {B:Bd} {σ:Sb} (hT:RepW a0 w B) (hG:Good B σ) {x y:Nat} (hx:x<24) (hy:y<x) (hbx:B x=none) (hby:B y=none) :
  ∃ r,zA [-1 - (y:Int)] [-1 - (x:Int)] true w=some r∧OutW a0 B [(.v x,.v y)] r:=by
 unfold zA
 have w1:IntKind.wrap .i64 ((-1) - (-1 - (x:Int)))=(x:Int):=by rw[zE]<;>omega
 simp only[ql,List.getElem?_cons_zero,Option.bind_some,cond_true,w1,zac (show x<48 by omega),hT.at_ x (by omega)]
 have hn:¬((Tm.v y).sub σ).has x:=by
  show ¬(σ y).has x
  rw[hG.free y hby]
  intro h
  have h:y=x:=h
  omega
 have hset:RepW a0 (w.set x (Tm.v y).codes) (zAn B x (.v y)):=hT.set hx (show y<24 by omega) (by show 1≤48; omega)
 refine ⟨_,rfl,⟨fun _=>⟨_,_,hset,hG.bind hbx hn (fun z hz=>by injection hz with hz; omega),fun θ => ?_⟩,fun h=>(nomatch h)⟩⟩
 rw[SolB.upd hbx,zdB]
 rfl
theorem OutW.via {a0:List zq} {B:Bd} {E E':List (Tm×Tm)} {r:Bool×List jI} (h:OutW a0 B E r) (he:∀ θ,SolB θ B→(Sol θ E↔Sol θ E')):OutW a0 B E' r where
 yes:=fun hr=>by
  obtain⟨B',σ',h1,h2,h3⟩:=h.yes hr
  exact ⟨B',σ',h1,h2,fun θ=>(h3 θ).trans ⟨fun ⟨a,b⟩=>⟨a,(he θ a).1 b⟩,fun ⟨a,b⟩=>⟨a,(he θ a).2 b⟩⟩⟩
 no:=fun hr θ h1 h2=>h.no hr θ h1 ((he θ h1).2 h2)
def Dep (R:List Tm) (B:Bd) (δ:Nat) (t:Tm):Prop:=∀ θ,SolB θ B→∃ c∈R,δ+(t.sub θ).ht≤(c.sub θ).ht
theorem Dep.mono {R:List Tm} {B B':Bd} {δ:Nat} {t:Tm} (h:Dep R B δ t) (hB:∀ θ,SolB θ B'→SolB θ B):Dep R B' δ t:=fun θ hθ=>h θ (hB θ hθ)
theorem Dep.lt {R:List Tm} {B:Bd} {σ:Sb} {δ:Nat} {t:Tm} (h:Dep R B δ t) (hG:Good B σ) (hS:zmc B) (hR:∀ c∈R,c.size≤48):δ<2500:=by
 obtain⟨c,hc,h1⟩:=h σ hG.bound
 have h2:=Tm.ht_sub (s:=σ) (M:=49*49) c fun x _=>hG.low hS x
 have h3:=c.ht_size
 have h4:=hR c hc
 have h5:=zGl (t.sub σ)
 omega
end
end Go.Abs.Q
namespace Go.Abs.Q
open Go Go.Abs
section
theorem zza {a0:List zq} {t u:Tm} (ht:t.ok a0 24) (hu:u.ok a0 24) (h:t.codes=u.codes):t=u:=by
 have:=zb0 (a0:=a0) _ [t] [u] (Nat.le_refl _) ⟨ht,trivial⟩ ⟨hu,trivial⟩ (by simp [zh,h])
 injection this
def Sm (a0:List zq) (t:Tm):Prop:=t.ok a0 24∧t.codes.length≤48
def zwk (a0:List zq) (R:List Tm) (k:Nat):Prop:=∀(δ:Nat) (w:List jI) (B:Bd) (σ:Sb) (t u:Tm),RepW a0 w B→Good B σ→Sm a0 t→Sm a0 u→Dep R B δ t→2*(2600 - δ)≤k →
 ∃ r,(zG k).1 (a0,t.codes,u.codes,w)=some r∧OutW a0 B [(t,u)] r
def zFr (a0:List zq) (R:List Tm) (k:Nat):Prop:=∀(δ:Nat) (w:List jI) (B:Bd) (σ:Sb) (ts us:List Tm),RepW a0 w B→Good B σ→(∀ t∈ts,Sm a0 t)→(∀ t∈us,Sm a0 t)→ts.length=us.length→ts.length≤1000→(∀ t∈ts,Dep R B δ t)→2*(2600 - δ)+1≤k →
 ∃ r,(zG k).2 (a0,ts.map Tm.codes,us.map Tm.codes,w)=some r∧OutW a0 B (ts.zip us) r
theorem zAy {a0:List zq} {R:List Tm} {k:Nat} (hp:zwk a0 R k):zFr a0 R (k+1):=by
 intro δ w B σ ts us hT hG hts hus hl hlen hd hk
 show ∃ r,zdp (zG k) a0 (ts.map Tm.codes) (us.map Tm.codes) w=some r∧_
 unfold zdp
 rw[zeY _ _ _ _ _ (by rw[List.length_map]; unfold maxLen; omega)]
 have go:∀(ts vs:List Tm) (i:Nat) (w:List jI) (B:Bd) (σ:Sb),RepW a0 w B→Good B σ→us.drop i=vs→(∀ t∈ts,Sm a0 t)→ts.length=vs.length→(∀ t∈ts,Dep R B δ t) →
   (∃ w',zM (zG k) a0 (us.map Tm.codes) (ts.map Tm.codes) i w=some (.inl w')∧OutW a0 B (ts.zip vs) (true,w')) ∨
   (∃ w',zM (zG k) a0 (us.map Tm.codes) (ts.map Tm.codes) i w=some (.inr (false,w'))∧OutW a0 B (ts.zip vs) (false,w')):=by
  intro ts
  induction ts with
  | nil =>
   intro vs i w B σ hT hG hdr _ hl _
   exact .inl ⟨w,rfl,⟨fun _=>⟨B,σ,hT,hG,fun θ=>⟨fun h=>⟨h,Sol.nil⟩,fun h=>h.1⟩⟩,fun h=>(nomatch h)⟩⟩
  | cons t ts ih =>
   intro vs i w B σ hT hG hdr hts hl hd
   cases vs with
   | nil=>simp at hl
   | cons v vs =>
    have hgv:us[i]? = some v:=zb hdr
    have hvm:v∈us:=List.mem_of_getElem? hgv
    obtain⟨r,h1,h2⟩:=hp δ w B σ t v hT hG (hts t (List.mem_cons_self ..)) (hus v hvm) (hd t (List.mem_cons_self ..)) (by omega)
    rw[List.map_cons]
    unfold zM
    rw[zp,List.getElem?_map,hgv]
    simp only[Option.map_some,Option.bind_some]
    rw[h1,Option.bind_some]
    obtain⟨b,w1⟩:=r
    cases b with
    | false =>
     refine .inr ⟨w1,rfl,⟨fun h=>(nomatch h),fun _ θ h3 h4=>h2.no rfl θ h3 ?_⟩⟩
     rw[List.zip_cons_cons,Sol.cons] at h4
     exact zdB.2 h4.1
    | true =>
     obtain⟨B',σ',g1,g2,g3⟩:=h2.yes rfl
     have comb:∀{r2:Bool×List jI},OutW a0 B' (ts.zip vs) r2→OutW a0 B ((t::ts).zip (v::vs)) r2:=fun {r2} h=>by
      rw[List.zip_cons_cons]
      refine ⟨fun hr => ?_,fun hr θ h3 h4 => ?_⟩
      ·obtain⟨B2,σ2,k1,k2,k3⟩:=h.yes hr
       refine ⟨B2,σ2,k1,k2,fun θ => ?_⟩
       rw[k3,g3,zdB,and_assoc,Sol.cons (p:=(t,v)) (E:=ts.zip vs)]
      ·rw[Sol.cons] at h4
       exact h.no hr θ ((g3 θ).2 ⟨h3,zdB.2 h4.1⟩) h4.2
     rcases ih vs (i+1) w1 B' σ' g1 g2 (za hdr) (fun t h=>hts t (List.mem_cons_of_mem _ h)) (by simpa using hl) (fun t h=>(hd t (List.mem_cons_of_mem _ h)).mono fun θ hθ=>((g3 θ).1 hθ).1) with ⟨w',q1,q2⟩ | ⟨w',q1,q2⟩
     ·exact .inl ⟨w',q1,comb q2⟩
     ·exact .inr ⟨w',q1,comb q2⟩
 rcases go ts us 0 w B σ hT hG rfl hts hl hd with ⟨w',h1,h2⟩ | ⟨w',h1,h2⟩
 ·rw[h1]; exact ⟨_,rfl,h2⟩
 ·rw[h1]; exact ⟨_,rfl,h2⟩
theorem zvF {a0:List zq} (hs:SignOk a0) {R:List Tm} (hR:∀ c∈R,c.size≤48) {k:Nat} (ha:zFr a0 R k):zwk a0 R (k+1):=by
 intro δ w B σ t u hT hG ht hu hd hk
 show ∃ r,zbO (zG k) a0 t.codes u.codes w=some r∧_
 obtain⟨t1,a1,a2,a3,a4,a5⟩:=zqr hT hG ht.1 ht.2
 obtain⟨u1,b1,b2,b3,b4,b5⟩:=zqr hT hG hu.1 hu.2
 -- it is enough to speak of these
 suffices h:∃ r,zbO (zG k) a0 t.codes u.codes w=some r∧OutW a0 B [(t1,u1)] r by
  obtain⟨r,h1,h2⟩:=h
  exact ⟨r,h1,h2.via fun θ hθ=>by rw[zdB,zdB,a4 θ hθ,b4 θ hθ]⟩
 have eta:∀{o:Option (Bool×List jI)} {E:List (Tm×Tm)},(∃ r,o=some r∧OutW a0 B E r)→∃ r,(o.bind fun r=>some (r.1,r.2))=some r∧OutW a0 B E r:=fun ⟨r,h1,h2⟩=>⟨r,by rw[h1]; rfl,h2⟩
 have flip:∀{o:Option (Bool×List jI)} {p q:Tm},(∃ r,o=some r∧OutW a0 B [(p,q)] r)→∃ r,o=some r∧OutW a0 B [(q,p)] r:=fun ⟨r,h1,h2⟩=>⟨r,h1,h2.via fun θ _=>by rw[zdB,zdB]; exact eq_comm⟩
 unfold zbO
 rw[a1,Option.bind_some,b1,Option.bind_some,zgI (by omega),Option.bind_some]
 by_cases he:t1.codes=u1.codes
 ·have:=zza a2 b2 he
  subst this
  rw[decide_eq_true he,cond_true]
  exact ⟨_,rfl,⟨fun _=>⟨B,σ,hT,hG,fun θ=>⟨fun h=>⟨h,zdB.2 rfl⟩,fun h=>h.1⟩⟩,fun h=>(nomatch h)⟩⟩
 rw[decide_eq_false he,cond_false]
 have hne:t1≠u1:=fun h=>he (by rw[h])
 clear he a1 b1
 cases t1 with
 | v x =>
  have hx:x<24:=a2
  have hbx:=a5 x rfl
  have c1:(Tm.v x).codes=[-1 - (x:Int)]:=rfl
  have d1:decide (-1 - (x:Int)<0)=true:=decide_eq_true (by omega)
  have d2:decide (-1 - (x:Int)≥0)=false:=decide_eq_false (by omega)
  cases u1 with
  | v y =>
   have hy:y<24:=b2
   have hby:=b5 y rfl
   have c2:(Tm.v y).codes=[-1 - (y:Int)]:=rfl
   have d3:decide (-1 - (y:Int)<0)=true:=decide_eq_true (by omega)
   have hxy:x≠y:=fun h=>hne (by rw[h])
   rw[c1,c2]
   by_cases hlt:y<x
   ·have d4:decide (-1 - (x:Int) < -1 - (y:Int))=true:=decide_eq_true (by omega)
    simp only[ql,List.getElem?_cons_zero,Option.bind_some,d1,d3,d4,cond_true]
    exact eta (zqQ hT hG hx hlt hbx hby)
   ·have d4:decide (-1 - (x:Int) < -1 - (y:Int))=false:=decide_eq_false (by omega)
    simp only[ql,List.getElem?_cons_zero,Option.bind_some,d1,d2,d3,d4,cond_true,cond_false]
    exact eta (flip (zqQ hT hG hy (by omega) hby hbx))
  | f c as =>
   have c2:(Tm.f c as).codes=(c:Int)::zh as:=rfl
   have d3:decide ((c:Int)<0)=false:=decide_eq_false (by omega)
   have h1:=zoy hT hG hx hbx b2 b3
   rw[c2] at h1
   rw[c1,c2]
   simp only[ql,List.getElem?_cons_zero,Option.bind_some,d1,d2,d3,cond_true,cond_false]
   exact eta h1
 | f c as =>
  have c1:(Tm.f c as).codes=(c:Int)::zh as:=rfl
  have d1:decide ((c:Int)<0)=false:=decide_eq_false (by omega)
  have d2:decide ((c:Int)≥0)=true:=decide_eq_true (by omega)
  cases u1 with
  | v y =>
   have hy:y<24:=b2
   have hby:=b5 y rfl
   have c2:(Tm.v y).codes=[-1 - (y:Int)]:=rfl
   have d3:decide (-1 - (y:Int)<0)=true:=decide_eq_true (by omega)
   have h1:=zoy hT hG hy hby a2 a3
   rw[c1] at h1
   rw[c1,c2]
   simp only[ql,List.getElem?_cons_zero,Option.bind_some,d1,d2,d3,cond_true,cond_false]
   exact eta (flip h1)
  | f d bs =>
   have c2:(Tm.f d bs).codes=(d:Int)::zh bs:=rfl
   have d3:decide ((d:Int)<0)=false:=decide_eq_false (by omega)
   rw[c1,c2]
   simp only[ql,List.getElem?_cons_zero,Option.bind_some,d1,d2,d3,cond_true,cond_false]
   by_cases hcd:c=d
   ·subst hcd
    rw[show ((c:Int) != (c:Int))=false from by simp,cond_false]
    have hla:as.length=bs.length:=by
     have h1:=a2.1
     have h2:=b2.1
     rw[h1] at h2
     injection h2
    rw[c1,List.length_cons] at a3
    rw[c2,List.length_cons] at b3
    have hw:∀{xs:List Tm},(zh xs).length≤48→∀ t∈xs,t.codes.length≤48:=fun h t ht=>Nat.le_trans (zeo ht) h
    rw[zcA,Option.bind_some,zbP hs (by omega) (yh as a2.2),Option.bind_some,zcA,Option.bind_some,zbP hs (by omega) (yh bs b2.2),Option.bind_some]
    have hlt:=hd.lt hG hT.small hR
    obtain⟨r,h1,h2⟩:=ha (δ+1) w B σ as bs hT hG (fun t h=>⟨zdE.1 a2.2 t h,hw (by omega) t h⟩) (fun t h=>⟨zdE.1 b2.2 t h,hw (by omega) t h⟩) hla (by
      have:=zec (yh as a2.2)
      rw[List.length_map] at this
      omega) (fun a ham θ hθ=>by
      obtain⟨c',hc',h5⟩:=hd θ hθ
      refine ⟨c',hc',?_⟩
      rw[a4 θ hθ] at h5
      have h6:((Tm.f c as).sub θ).ht=htR (zbR θ as)+1:=rfl
      have h7:=zsQ (ts:=zbR θ as) (t:=a.sub θ) (by rw[znT]; exact List.mem_map_of_mem ham)
      omega) (by omega)
    rw[h1,Option.bind_some]
    refine ⟨_,rfl,h2.via fun θ _ => ?_⟩
    rw[Sol.zip hla,zdB,zGy]
    simp
   ·rw[show ((c:Int) != (d:Int))=true from by simp; omega,cond_true]
    refine ⟨_,rfl,⟨fun h=>(nomatch h),fun _ θ _ h4 => ?_⟩⟩
    rw[zdB,zGy] at h4
    exact hcd h4.1
theorem zBd {a0:List zq} (hs:SignOk a0) {R:List Tm} (hR:∀ c∈R,c.size≤48):∀ k,zwk a0 R k∧zFr a0 R k:=by
 intro k
 induction k with
 | zero =>
  refine ⟨fun δ w B σ t u hT hG _ _ hd hk => ?_,fun δ w B σ ts us _ _ _ _ _ _ _ hk=>by omega⟩
  have:=hd.lt hG hT.small hR
  omega
 | succ k ih=>exact ⟨zvF hs hR ih.2,zAy ih.1⟩
end
end Go.Abs.Q
namespace Go.Abs.Q
open Go Go.Abs
section
theorem zJw (a0:List zq):RepW a0 (List.replicate 48 ([]:List Int)) (fun _=>none) where
 len:=by simp
 at_:=fun x hx=>by rw[List.getElem?_replicate,if_pos hx]; rfl
 ok:=fun x t h=>by cases h
theorem zpX {a0:List zq} {w:List jI} {B:Bd} {σ:Sb} (hT:RepW a0 w B) (hG:Good B σ):∀(m v k:Nat) (out:List (Int×List Int)),24 - v=m→v≤24→m<k→out.length≤v →
  lp zaq k ((v:Int),w,out)=some (cond (za9 σ ((List.range 24).drop v)) (.inl (out++zbS B σ ((List.range 24).drop v))) (.inr (true,false))):=by
 intro m
 induction m with
 | zero =>
  intro v k out hm hv hk ho
  obtain⟨k,rfl⟩:∃ k',k=k'+1:=⟨k - 1,by omega⟩
  rw[zc]
  generalize lp zaq k=rec
  unfold zaq
  have:v=24:=by omega
  subst this
  rw[show (List.range 24).drop 24=[] from rfl]
  simp [zbS,za9]
 | succ m ih =>
  intro v k out hm hv hk ho
  obtain⟨k,rfl⟩:∃ k',k=k'+1:=⟨k - 1,by omega⟩
  rw[zc]
  have key:=fun out' ho'=>ih (v+1) k out' (by omega) (by omega) (by omega) ho'
  generalize lp zaq k=rec at key ⊢
  unfold zaq
  have w1:IntKind.wrap .i64 ((v:Int)+1)=((v+1:Nat):Int):=by rw[zE]<;>omega
  have hdr:(List.range 24).drop v=v::(List.range 24).drop (v+1):=by
   rw[List.drop_eq_getElem_cons (by simp; omega)]
   simp
  simp only[decide_eq_true (show (v:Int)≤23 by omega),cond_true,zac (show v<48 by omega),Option.bind_some,hT.at_ v (by omega),w1]
  rw[hdr]
  cases hb:B v with
  | none =>
   show (cond (((List.length ([]:List Int):Nat):Int)==0) _ _)=_
   rw[show (((List.length ([]:List Int):Nat):Int)==0)=true from rfl,cond_true,key out (by omega)]
   have hs:(σ v).size≤48:=by rw[hG.free v hb]; simp [Tm.size]
   have hb:zuJ B v=false:=by simp [zuJ,hb]
   simp [zbS,za9,hb,hs]
  | some t =>
   obtain⟨-,h2,h3⟩:=hT.ok v t hb
   have hp:=zkb t
   show (cond (((List.length t.codes:Nat):Int)==0) _ ((zct t.codes w []).bind _))=_
   rw[show (((List.length t.codes:Nat):Int)==0)=false from by simp; intro h; rw[h] at hp; simp at hp,cond_false]
   obtain⟨r,g1,g2⟩:=zy6 hT hG h2 h3
   rw[← hG.bound v t hb] at g2
   rw[g1,Option.bind_some]
   by_cases hs:(σ v).size≤48
   ·have hr:=g2.fits (by rw[Tm.codes_len]; simpa using hs)
    rw[List.nil_append] at hr
    subst hr
    rw[decide_eq_false (show ¬((List.length (σ v).codes:Nat):Int)>48 by rw[Tm.codes_len]; omega),cond_false,zD (by simp only[List.length_singleton]; omega),cond_true,key _ (by simp only[List.length_append,List.length_singleton]; omega)]
    have hb:zuJ B v=true:=by simp [zuJ,hb]
    simp [zbS,za9,hb,hs]
   ·have hr:=g2.over (by rw[Tm.codes_len]; simp; omega)
    rw[decide_eq_true (show ((List.length r:Nat):Int)>48 by omega),cond_true]
    simp [za9,hs]
theorem zkQ {a0:List zq} (hs:SignOk a0) {ts us:List Tm} (ht:okR a0 24 ts) (hu:okR a0 24 us) (hlx:(zh ts).length≤48) (hly:(zh us).length≤48) :
  (zc9 a0 (zh ts) (zh us)=some (false,true,[])∧(ts.length≠us.length∨∀ θ,¬ Sol θ (ts.zip us))) ∨
  (ts.length=us.length∧∃ σ,Mgu σ (ts.zip us)∧zc9 a0 (zh ts) (zh us)=some (true,za9 σ (List.range 24),cond (za9 σ (List.range 24)) (zd9 σ) [])):=by
 unfold zc9
 rw[zbP hs (by omega) (yh ts ht),Option.bind_some,zbP hs (by omega) (yh us hu),Option.bind_some]
 by_cases hl:ts.length=us.length
 ·rw[show (((List.length (ts.map Tm.codes):Nat):Int) != ((List.length (us.map Tm.codes):Nat):Int))=false from by simp [hl],cond_false]
  have sm:∀{xs:List Tm},okR a0 24 xs→(zh xs).length≤48→∀ t∈xs,Sm a0 t:=fun h1 h2 t h=>⟨zdE.1 h1 t h,Nat.le_trans (zeo h) h2⟩
  have hR:∀ c∈ts,c.size≤48:=fun c hc=>by have:=(sm ht hlx c hc).2; rwa [Tm.codes_len] at this
  obtain⟨r,h1,h2⟩:=(zBd hs hR zi).2 0 (List.replicate 48 []) (fun _=>none) .v ts us (zJw a0) Good.empty (sm ht hlx) (sm hu hly) hl (by
   have:=zec (yh ts ht)
   rw[List.length_map] at this
   omega) (fun t h θ _=>⟨t,h,by omega⟩) (by unfold zi; omega)
  have h1:zd8 a0 (ts.map Tm.codes) (us.map Tm.codes) (List.replicate 48 [])=some r:=h1
  rw[h1,Option.bind_some]
  cases hb:r.1 with
  | false=>exact .inl ⟨rfl,.inr fun θ h=>h2.no hb θ (fun _ _ h=>(nomatch h)) h⟩
  | true =>
   obtain⟨B',σ,g1,g2,g3⟩:=h2.yes hb
   refine .inr ⟨hl,σ,Mgu.of g2 g3,?_⟩
   have:=zpX g1 g2 24 0 zi [] rfl (by omega) (by unfold zi; omega) (by simp)
   rw[show ((0:Nat):Int)=0 from rfl] at this
   rw[Bool.not_true,cond_false,this,List.drop_zero]
   have he:zbS B' σ (List.range 24)=zd9 σ:=by
    unfold zbS zd9
    rw[show zuJ B'=moved σ from funext (zxa g2)]
   cases za9 σ (List.range 24) with
   | true=>simp only[cond_true,Option.bind_some,zcj,List.nil_append,he]
   | false=>rfl
 ·rw[show (((List.length (ts.map Tm.codes):Nat):Int) != ((List.length (us.map Tm.codes):Nat):Int))=true from by simp; omega,cond_true]
  exact .inl ⟨rfl,.inl hl⟩
end
end Go.Abs.Q
namespace Go.Abs.Q
open Go Go.Abs
section
theorem zIF (v:Int):(es:List (Int×List Int))→(i:Nat)→(zey es v=none∧za1 v es i=some (.inl ()))∨∃(j:Nat) (e:Int×List Int),za1 v es i=some (.inr ((i+j:Nat):Int))∧es[j]? = some e∧zey es v=some e.2
 | [],i=>.inl ⟨rfl,rfl⟩
 | e::es,i=>by
  unfold za1 zey
  rw[List.find?_cons]
  cases h:e.1==v with
  | true=>exact .inr ⟨0,e,rfl,rfl,rfl⟩
  | false =>
   rw[cond_false]
   rcases zIF v es (i+1) with ⟨h1,h2⟩ | ⟨j,e',h1,h2,h3⟩
   ·exact .inl ⟨h1,h2⟩
   ·exact .inr ⟨j+1,e',by rw[h1,show i+1+j=i+(j+1) from by omega],by simpa using h2,h3⟩
theorem zw9 {s:List (Int×List Int)} (hl:s.length≤1000) (v:Int):(zey s v=none∧zjm s v=some (-1))∨∃(j:Nat) (e:Int×List Int),zjm s v=some (j:Int)∧s[j]? = some e∧zey s v=some e.2:=by
 unfold zjm
 rw[zlI _ _ (by unfold maxLen; omega)]
 rcases zIF v s 0 with ⟨h1,h2⟩ | ⟨j,e,h1,h2,h3⟩
 ·exact .inl ⟨h1,by rw[h2]; rfl⟩
 ·exact .inr ⟨j,e,by rw[h1,Nat.zero_add]; rfl,h2,h3⟩
theorem zCV {s:List (Int×List Int)} (h:BindsOk s):(es out:List Int)→(∀ c∈es,-1000000≤c∧c≤1000000)→out.length+1000*es.length≤1000000000→yM s es out=some (out++onB s es)
 | [],out,_,_=>by simp [yM,onB]
 | c::es,out,hc,hl=>by
  have hc0:=hc c (List.mem_cons_self ..)
  simp only[List.length_cons] at hl
  have ih:=fun out hl=>zCV h es out (fun c h=>hc c (List.mem_cons_of_mem _ h)) hl
  unfold yM
  have plain:onC s c=[c]→(cond (qi (List.length out+List.length ([c]:List Int)) 8) (yM s es (out++([c]:List Int))) none)=some (out++onB s (c::es)):=fun hx=>by
   rw[zD (by simp; omega),cond_true,ih _ (by simp; omega)]
   unfold onB
   rw[List.flatMap_cons,hx,List.append_assoc]
  by_cases h0:c<0
  ·rw[decide_eq_true h0,cond_true]
   have w1:IntKind.wrap .i64 ((-1) - c) = -1 - c:=by rw[zE]<;>omega
   rw[w1]
   rcases zw9 h.len (-1 - c) with ⟨h1,h2⟩ | ⟨j,e,h1,h2,h3⟩
   ·rw[h2,Option.bind_some,show decide ((-1:Int)<0)=true from rfl,cond_true]
    refine plain ?_
    unfold onC
    rw[h1,decide_eq_false (show ¬ c≥0 by omega)]
    rfl
   ·have he:=(h.all e (List.mem_of_getElem? h2)).2
    rw[h1,Option.bind_some,decide_eq_false (show ¬(j:Int)<0 by omega),cond_false,zp,h2,Option.bind_some,zD (by omega),cond_true,ih _ (by rw[List.length_append]; omega)]
    unfold onB
    have:onC s c=e.2:=by
     unfold onC
     rw[h3,decide_eq_false (show ¬ c≥0 by omega)]
     rfl
    rw[List.flatMap_cons,this,List.append_assoc]
  ·rw[decide_eq_false h0,cond_false]
   refine plain ?_
   unfold onC
   rw[decide_eq_true (show c≥0 by omega)]
   rfl
theorem zy7 {s:List (Int×List Int)} (h:BindsOk s) {r:List Int} (hr:zgQ r):zef s r=some (onB s r):=by
 have:=hr.1
 unfold zef
 rw[zku _ _ _ (by unfold maxLen; omega),zCV h r [] hr.2 (by simp; omega)]
 rfl
theorem zxT {s:List (Int×List Int)} (h:BindsOk s):(es out:List zl)→(∀ l∈es,zgQ l.2)→out.length+es.length≤1000000→zak s es out=some (out++zoA s es)
 | [],out,_,_=>by simp [zak,zoA]
 | e::es,out,hn,hl=>by
  simp only[List.length_cons] at hl
  unfold zak
  rw[zy7 h (hn e (List.mem_cons_self ..)),Option.bind_some,zD (by simp; omega),cond_true,zxT h es _ (fun l hl=>hn l (List.mem_cons_of_mem _ hl)) (by simp; omega)]
  simp [zoA]
theorem zwA {s:List (Int×List Int)} (h:BindsOk s) (s5:List zl):(es out:List jI)→(∀ l∈es,zgQ l)→out.length+es.length≤1000000→zai s s5 es out=some (s5,out++zwU s es)
 | [],out,_,_=>by simp [zai,zwU]
 | e::es,out,hn,hl=>by
  simp only[List.length_cons] at hl
  unfold zai
  rw[zy7 h (hn e (List.mem_cons_self ..)),Option.bind_some,zD (by simp; omega),cond_true,zwA h s5 es _ (fun l hl=>hn l (List.mem_cons_of_mem _ hl)) (by simp; omega)]
  simp [zwU]
theorem zx3 {s:List (Int×List Int)} (h:BindsOk s) (s5:List zl) (s6:List jI):(es out:List zl)→(∀ l∈es,zgQ l.2)→out.length+es.length≤1000000→zan s s5 s6 es out=some (s5,s6,out++zoA s es)
 | [],out,_,_=>by simp [zan,zoA]
 | e::es,out,hn,hl=>by
  simp only[List.length_cons] at hl
  unfold zan
  rw[zy7 h (hn e (List.mem_cons_self ..)),Option.bind_some,zD (by simp; omega),cond_true,zx3 h s5 s6 es _ (fun l hl=>hn l (List.mem_cons_of_mem _ hl)) (by simp; omega)]
  simp [zoA]
theorem zyP {s:List (Int×List Int)} (h:BindsOk s) {L:List zl} {T:List jI} {C:List zl} (hL:∀ l∈L,zgQ l.2) (hT:∀ l∈T,zgQ l) (hC:∀ l∈C,zgQ l.2) (h1:L.length≤1000) (h2:T.length≤1000) (h3:C.length≤1000) :
  zf0 s L T C=some (zoA s L,zwU s T,zoA s C):=by
 unfold zf0
 rw[zjk _ _ _ _ _ (by unfold maxLen; omega),zxT h L [] hL (by simp; omega),Option.bind_some,
  zjV _ _ _ _ _ _ (by unfold maxLen; omega),zwA h _ T [] hT (by simp; omega),Option.bind_some,
  zjG _ _ _ _ _ _ _ (by unfold maxLen; omega),zx3 h _ _ C [] hC (by simp; omega),Option.bind_some]
 simp
theorem zud {l k:zl} (h:l.2.length≤1000000):zdR l.1 l.2 k.1 k.2=some (decide (l=k)):=by
 obtain⟨n,r⟩:=l
 obtain⟨n',r'⟩:=k
 unfold zdR
 by_cases hn:n=n'
 ·subst hn
  simp only[beq_self_eq_true,cond_true]
  rw[zgI h,Option.bind_some]
  simp
 ·rw[show (n==n')=false from by simp [hn],cond_false]
  simp [hn]
theorem zwK {s0 out:List zl} {i0:Nat} {e0:zl} (he:s0[i0]? = some e0) (ho:∀ l∈out,l.2.length≤1000000):(es:List zl)→(i:Nat)→(b:Bool)→out.drop i=es→qp s0 (i0:Int) out es i b=some (b||decide (e0∈es),out)
 | [],i,b,_=>by simp [qp]
 | e::es,i,b,hd=>by
  have ih:=fun b=>zwK he ho es (i+1) b (za hd)
  unfold qp
  cases b with
  | true=>rw[cond_true,ih true]; rfl
  | false =>
   have hi:=ze hd
   have hg:=zb hd
   rw[cond_false,zac hi,Option.bind_some,hg,Option.bind_some,zp,he,Option.bind_some,zud (ho e (List.mem_of_getElem? hg)),Option.bind_some,ih]
   congr 2
   rw[Bool.eq_iff_iff,Bool.false_or,Bool.or_eq_true,decide_eq_true_iff,decide_eq_true_iff,decide_eq_true_iff,List.mem_cons]
   exact ⟨fun h=>h.imp Eq.symm id,fun h=>h.imp Eq.symm id⟩
theorem zrL {s0:List zl} (hs:∀ l∈s0,l.2.length≤1000000):(es:List zl)→(i:Nat)→(out:List zl)→s0.drop i=es→(∀ l∈out,l.2.length≤1000000)→out.length+es.length≤1000000→zam s0 es i out=some (zN es out)
 | [],i,out,_,_,_=>rfl
 | e::es,i,out,hd,ho,hl=>by
  simp only[List.length_cons] at hl
  have hg:=zb hd
  have hem:=List.mem_of_getElem? hg
  unfold zam zN
  rw[zjw _ _ _ _ (by unfold maxLen; omega),zwK hg ho out 0 false rfl,Option.bind_some,Bool.false_or]
  by_cases hm:e∈out
  ·have e1:∀ inst:Decidable (e∈out),@decide (e∈out) inst=true:=fun _=>decide_eq_true hm
   simp only[e1,Bool.not_true,cond_false,cond_true]
   exact zrL hs es (i+1) out (za hd) ho (by omega)
  ·have e1:∀ inst:Decidable (e∈out),@decide (e∈out) inst=false:=fun _=>decide_eq_false hm
   simp only[e1,Bool.not_false,cond_true,cond_false]
   rw[zD (by simp; omega),cond_true]
   exact zrL hs es (i+1) _ (za hd) (fun l hl=>by
    rcases List.mem_append.1 hl with hl | hl
    ·exact ho l hl
    ·rw[List.mem_singleton.1 hl]; exact hs e hem) (by simp; omega)
theorem zvw {L:List zl} (hs:∀ l∈L,l.2.length≤1000000) (hl:L.length≤1000):zhZ L=some (zN L []):=by
 unfold zhZ
 rw[zju _ _ (by unfold maxLen; omega),zrL hs L 0 [] rfl (fun _ h=>(nomatch h)) (by simp; omega)]
 rfl
theorem zvG {s4 out:List jI} {s6 s7:List zl} {i0:Nat} {e0:List Int} (he:s4[i0]? = some e0) (ho:∀ l∈out,l.length≤1000000):(es:List jI)→(i:Nat)→(b:Bool)→out.drop i=es→qr (i0:Int) s4 s6 s7 out es i b=some (b||decide (e0∈es),s6,s7,out)
 | [],i,b,_=>by simp [qr]
 | e::es,i,b,hd=>by
  have ih:=fun b=>zvG (s6:=s6) (s7:=s7) he ho es (i+1) b (za hd)
  unfold qr
  cases b with
  | true=>rw[cond_true,ih true]; rfl
  | false =>
   have hi:=ze hd
   have hg:=zb hd
   rw[cond_false,zac hi,Option.bind_some,hg,Option.bind_some,zp,he,Option.bind_some,zgI (ho e (List.mem_of_getElem? hg)),Option.bind_some,ih]
   congr 2
   rw[Bool.eq_iff_iff,Bool.false_or,Bool.or_eq_true,decide_eq_true_iff,decide_eq_true_iff,decide_eq_true_iff,List.mem_cons]
   exact ⟨fun h=>h.imp Eq.symm id,fun h=>h.imp Eq.symm id⟩
theorem zsN {s1 s3 s4 s5:List zl} {s2:List jI} (hs:∀ l∈s2,l.length≤1000000):(es:List jI)→(i:Nat)→(out:List jI)→s2.drop i=es→(∀ l∈out,l.length≤1000000)→out.length+es.length≤1000000→zag s1 s2 s3 es i s4 s5 out=some (s4,s5,zN es out)
 | [],i,out,_,_,_=>rfl
 | e::es,i,out,hd,ho,hl=>by
  simp only[List.length_cons] at hl
  have hg:=zb hd
  have hem:=List.mem_of_getElem? hg
  unfold zag zN
  rw[zjF _ _ _ _ _ _ _ _ (by unfold maxLen; omega),zvG hg ho out 0 false rfl,Option.bind_some,Bool.false_or]
  by_cases hm:e∈out
  ·have e1:∀ inst:Decidable (e∈out),@decide (e∈out) inst=true:=fun _=>decide_eq_true hm
   simp only[e1,Bool.not_true,cond_false,cond_true]
   exact zsN hs es (i+1) out (za hd) ho (by omega)
  ·have e1:∀ inst:Decidable (e∈out),@decide (e∈out) inst=false:=fun _=>decide_eq_false hm
   simp only[e1,Bool.not_false,cond_true,cond_false]
   rw[zD (by simp; omega),cond_true]
   exact zsN hs es (i+1) _ (za hd) (fun l hl=>by
    rcases List.mem_append.1 hl with hl | hl
    ·exact ho l hl
    ·rw[List.mem_singleton.1 hl]; exact hs e hem) (by simp; omega)
end
end Go.Abs.Q
namespace Go.Abs.Q
open Go Go.Abs
section
def zCf (bs:List (Int×List Int)) (c:Int):List (Int×List Int):=cond (decide (c<0)&&(zey bs (-1 - c)).isNone) (bs++[(-1 - c,[-1 - (bs.length:Int)])]) bs
def zDC (bs:List (Int×List Int)) (r:List Int):List (Int×List Int):=r.foldl zCf bs
theorem zAR (bs:List (Int×List Int)) (c:Int):(zCf bs c).length≤bs.length+1:=by
 unfold zCf
 cases decide (c<0)&&(zey bs (-1 - c)).isNone<;>simp
theorem zAl (r:List Int):(bs:List (Int×List Int))→(zDC bs r).length≤bs.length+r.length:=by
 unfold zDC
 induction r with
 | nil=>intro bs; simp
 | cons c r ih =>
  intro bs
  have:=ih (zCf bs c)
  have:=zAR bs c
  simp only[List.foldl_cons,List.length_cons]
  omega
theorem zxn {rows:List jI} {i:Nat} {r:List Int} (hr:rows[i]? = some r) (L:List zl) (T:List jI) (C:List zl) (hrl:r.length≤1000):∀(es:List Int) (j k:Nat) (bs:List (Int×List Int)),r.drop j=es→(∀ c∈es,-1000000≤c∧c≤1000000)→es.length<k→bs.length+es.length≤1000 →
  lp zbs k (rows,(i:Int),(j:Int),L,T,C,bs)=some (zDC bs es)
 | [],j,k,bs,hd,_,hk,_=>by
  obtain⟨k,rfl⟩:∃ k',k=k'+1:=⟨k - 1,by simp at hk; omega⟩
  rw[zc]
  generalize lp zbs k=rec
  unfold zbs
  have:=zg hd
  rw[zp,hr,Option.bind_some,decide_eq_false (show ¬(j:Int)<((List.length r:Nat):Int) by omega),cond_false]
  rfl
 | c::es,j,k,bs,hd,hc,hk,hb=>by
  obtain⟨k,rfl⟩:∃ k',k=k'+1:=⟨k - 1,by simp at hk; omega⟩
  simp only[List.length_cons] at hk hb
  have hlt:=ze hd
  have hc0:=hc c (List.mem_cons_self ..)
  rw[zc]
  have key:=fun bs hb=>zxn hr L T C hrl es (j+1) k bs (za hd) (fun c h=>hc c (List.mem_cons_of_mem _ h)) (by omega) hb
  generalize lp zbs k=rec at key ⊢
  unfold zbs
  have w1:IntKind.wrap .i64 ((j:Int)+1)=((j+1:Nat):Int):=by rw[zE]<;>omega
  have w2:IntKind.wrap .i64 ((-1) - c) = -1 - c:=by rw[zE]<;>omega
  have w3:IntKind.wrap .i64 ((-1) - ((List.length bs:Nat):Int)) = -1 - (bs.length:Int):=by rw[zE]<;>omega
  simp only[zp,hr,Option.bind_some,zb hd,w1,w2,w3]
  rw[decide_eq_true (show (j:Int)<((List.length r:Nat):Int) by omega),cond_true]
  show _=some (zDC (zCf bs c) es)
  unfold zCf
  by_cases h0:c<0
  ·rw[decide_eq_true h0,cond_true,Bool.true_and]
   rcases zw9 (s:=bs) (by omega) (-1 - c) with ⟨h1,h2⟩ | ⟨q,e,h1,h2,h3⟩
   ·rw[h2,Option.bind_some,show decide ((-1:Int)<0)=true from rfl,cond_true,zD (by simp; omega),cond_true,key _ (by simp; omega),h1]
    rfl
   ·rw[h1,Option.bind_some,decide_eq_false (show ¬(q:Int)<0 by omega),cond_false,key _ (by omega),h3]
    rfl
  ·rw[decide_eq_false h0,cond_false,Bool.false_and,cond_false,key _ (by omega)]
theorem zzI {rows:List jI} (L:List zl) (T:List jI) (C:List zl) (hrows:∀ r∈rows,zgQ r):(es:List jI)→(i:Nat)→(bs:List (Int×List Int))→rows.drop i=es→bs.length+zv es≤1000 →
  zaG rows L T C es i bs=some (es.foldl zDC bs)
 | [],_,_,_,_=>rfl
 | e::es,i,bs,hd,hb=>by
  have hg:=zb hd
  have he:=hrows e (List.mem_of_getElem? hg)
  have hs:zv (e::es)=e.length+zv es:=by simp [zv]
  unfold zaG
  have:=zxn hg L T C he.1 e 0 zi bs rfl he.2 (by have:=he.1; unfold zi; omega) (by omega)
  rw[show ((0:Nat):Int)=0 from rfl] at this
  have hl:=zAl e bs
  rw[this,Option.bind_some,zzI L T C hrows es (i+1) _ (za hd) (by omega)]
  rfl
structure Rl (s:zo1) (bs:List (Int×List Int)):Prop where
 cnt:(bs.length:Int)=s.2
 at_:∀ v:Nat,zey bs (v:Int)=if s.1.getD v 0=0 then none else some [-(s.1.getD v 0)]
 one:∀ b∈bs,b.2.length=1
theorem zrt (bs:List (Int×List Int)) (v w:Int) (t:List Int):zey (bs++[(v,t)]) w=match zey bs w with
  | some u=>some u
  | none=>cond (v==w) (some t) none:=by
 unfold zey
 rw[List.find?_append]
 cases h:bs.find? fun b=>b.1==w with
 | some b=>rfl
 | none =>
  simp only[Option.none_or,List.find?_cons,List.find?_nil,Option.map_none]
  cases v==w<;>rfl
theorem rl0:Rl (List.replicate 24 (0:Int),0) [] where
 cnt:=rfl
 at_:=fun v=>by
  rw[if_pos]
  ·rfl
  ·show (List.replicate 24 (0:Int)).getD v 0=0
   rw[List.getD_eq_getElem?_getD,List.getElem?_replicate]
   split<;>rfl
 one:=fun _ h=>(nomatch h)
theorem Rl.ok {s:zo1} {bs:List (Int×List Int)} (h:Rl s bs) (hI:RenI s):BindsOk bs where
 len:=by have:=h.cnt; have:=hI.next; omega
 all:=fun b hb=>by
  have:=h.one b hb
  exact ⟨fun e=>by rw[e] at this; simp at this,by omega⟩
theorem Rl.step {s:zo1} {bs:List (Int×List Int)} (h:Rl s bs) (hI:RenI s) {c:Int} (hc : -24≤c):Rl (zmu s c).2 (zCf bs c):=by
 unfold zmu zCf
 by_cases h0:c≥0
 ·rw[decide_eq_true h0,cond_true,decide_eq_false (show ¬ c<0 by omega),Bool.false_and,cond_false]
  exact h
 ·rw[decide_eq_false h0,cond_false,decide_eq_true (show c<0 by omega),Bool.true_and]
  obtain⟨v,rfl⟩:∃ v:Nat,c = -1 - (v:Int):=⟨(-1 - c).toNat,by omega⟩
  have e1:(-1 - (-1 - (v:Int)))=(v:Int):=by omega
  rw[e1,Int.toNat_natCast,h.at_ v]
  by_cases hz:s.1.getD v 0=0
  ·rw[if_pos hz,show (s.1.getD v 0==0)=true from by rw[hz]; rfl,cond_true,show (none:Option jI).isNone=true from rfl,cond_true]
   have hv:v<s.1.length:=by rw[hI.len]; omega
   have hcnt:=h.cnt
   refine ⟨by show (((bs++[_]).length:Nat):Int)=s.2+1; rw[List.length_append,← hcnt]; simp,fun w => ?_,fun b hb => ?_⟩
   ·rw[zrt,h.at_ w]
    show _=if (s.1.set v (s.2+1)).getD w 0=0 then none else some [-((s.1.set v (s.2+1)).getD w 0)]
    rw[zdL hv]
    have hn:=hI.next
    by_cases hw:w=v
    ·subst hw
     rw[if_pos hz,if_pos rfl,if_neg (show ¬ s.2+1=0 by omega)]
     simp only[beq_self_eq_true,cond_true]
     rw[show -1 - (bs.length:Int) = -(s.2+1) from by omega]
    ·rw[if_neg hw]
     by_cases hz2:s.1.getD w 0=0
     ·rw[if_pos hz2]
      simp only
      rw[show (((v:Nat):Int)==((w:Nat):Int))=false from by simp; omega]
      rfl
     ·rw[if_neg hz2]
   ·rcases List.mem_append.1 hb with hb | hb
    ·exact h.one b hb
    ·rw[List.mem_singleton.1 hb]; rfl
  ·rw[if_neg hz,show (s.1.getD v 0==0)=false from by simpa using hz,cond_false]
   exact h
theorem Rl.row:(r:List Int)→{s:zo1}→{bs:List (Int×List Int)}→Rl s bs→RenI s→(∀ c∈r,-24≤c)→Rl (zd3 s r).2 (zDC bs r)
 | [],_,_,h,_,_=>h
 | c::r,s,bs,h,hI,hc=>by
  have h1:=h.step hI (hc c (List.mem_cons_self ..))
  exact Rl.row r h1 (zqd hI (hc c (List.mem_cons_self ..))).1 fun d hd=>hc d (List.mem_cons_of_mem _ hd)
theorem Rl.lits:(ls:List zl)→{s:zo1}→{bs:List (Int×List Int)}→Rl s bs→RenI s→(∀ l∈ls,∀ c∈l.2,-24≤c)→Rl (za7 s ls).2 ((ls.map (·.2)).foldl zDC bs)
 | [],_,_,h,_,_=>h
 | l::ls,s,bs,h,hI,hc=>by
  have h1:=h.row l.2 hI (hc l (List.mem_cons_self ..))
  exact Rl.lits ls h1 (zim l.2 hI (hc l (List.mem_cons_self ..))).1 fun d hd=>hc d (List.mem_cons_of_mem _ hd)
theorem Rl.rows:(ls:List jI)→{s:zo1}→{bs:List (Int×List Int)}→Rl s bs→RenI s→(∀ l∈ls,∀ c∈l,-24≤c)→Rl (zc2 s ls).2 (ls.foldl zDC bs)
 | [],_,_,h,_,_=>h
 | l::ls,s,bs,h,hI,hc=>by
  have h1:=h.row l hI (hc l (List.mem_cons_self ..))
  exact Rl.rows ls h1 (zim l hI (hc l (List.mem_cons_self ..))).1 fun d hd=>hc d (List.mem_cons_of_mem _ hd)
theorem zpn {f:zo1} (hI:RenI f) {bs:List (Int×List Int)} (h:Rl f bs):(r:List Int)→(∀ c∈r,-24≤c)→(∀ x,zFJ r x→f.1.getD x.toNat 0≠0)→onB bs r=zbT (fun v=>.v (rho f v)) r
 | [],_,_=>rfl
 | c::r,hc,hz=>by
  have ih:=zpn hI h r (fun d hd=>hc d (List.mem_cons_of_mem _ hd)) fun x ⟨d,hd,h1⟩=>hz x ⟨d,List.mem_cons_of_mem _ hd,h1⟩
  have hc0:=hc c (List.mem_cons_self ..)
  unfold onB zbT at ih ⊢
  rw[List.flatMap_cons,List.flatMap_cons,ih]
  congr 1
  unfold onC zhh
  by_cases h0:c≥0
  ·rw[decide_eq_true h0,cond_true,if_neg (by omega)]
  ·rw[decide_eq_false h0,cond_false,if_pos (by omega)]
   obtain⟨v,rfl⟩:∃ v:Nat,c = -1 - (v:Int):=⟨(-1 - c).toNat,by omega⟩
   have e1:(-1 - (-1 - (v:Int)))=(v:Int):=by omega
   have hv:=hz (v:Int) ⟨_,List.mem_cons_self ..,by omega,by omega⟩
   rw[Int.toNat_natCast] at hv
   rw[e1,h.at_ v,if_neg hv,Int.toNat_natCast]
   have:=hI.rng v
   unfold rho
   show [-(f.1.getD v 0)]=[-1 - (((f.1.getD v 0).toNat - 1:Nat):Int)]
   congr 1
   omega
theorem zEF {L:List zl} {T:List jI} {C:List zl} (hc:∀ r∈zcm L T C,Cds r) (hl:L.length≤100) (ht:T.length≤100) (hcl:C.length≤100) (hsum:zv (L.map (·.2))+zv T+zv (C.map (·.2))≤1000):zkg L T C=some (zdx L T C):=by
 have cL:∀ l∈L,Cds l.2:=fun l h=>hc _ (ze9 h)
 have cT:∀ l∈T,Cds l:=fun l h=>hc _ (ze7 h)
 have cC:∀ l∈C,Cds l.2:=fun l h=>hc _ (zem h)
 have mL:∀ l,l∈zN L []↔l∈L:=fun l=>by simpa using q6 (x:=l) L []
 have mT:∀ l,l∈zN T []↔l∈T:=fun l=>by simpa using q6 (x:=l) T []
 have mC:∀ l,l∈zN C []↔l∈C:=fun l=>by simpa using q6 (x:=l) C []
 have lL:=zaW L []
 have lT:=zaW T []
 have lC:=zaW C []
 simp only[List.length_nil,Nat.zero_add] at lL lT lC
 have big:∀ r:List Int,Cds r→r.length≤1000000:=fun r h=>by have:=h.1; omega
 unfold zkg
 rw[zvw (fun l h=>big _ (cL l h)) (by omega),Option.bind_some,zvw (fun l h=>big _ (cC l h)) (by omega),Option.bind_some,
  zjH _ _ _ _ _ _ (by unfold maxLen; omega),zsN (fun l h=>big _ (cT l h)) T 0 [] rfl (fun _ h=>(nomatch h)) (by simp; omega),Option.bind_some]
 simp only
 rw[ziq _ _ _ (by omega) (by omega) (by omega),Option.bind_some]
 have nr:∀ r∈(zN L []).map (·.2)++zN T []++(zN C []).map (·.2),Cds r:=fun r hr=>by
  rcases List.mem_append.1 hr with hr | hr
  ·rcases List.mem_append.1 hr with hr | hr
   ·obtain⟨l,hl,rfl⟩:=List.mem_map.1 hr; exact cL l ((mL l).1 hl)
   ·exact cT r ((mT r).1 hr)
  ·obtain⟨l,hl,rfl⟩:=List.mem_map.1 hr; exact cC l ((mC l).1 hl)
 have sL:zv ((zN L []).map (·.2))≤zv (L.map (·.2)):=by
  have:=zgK (fun l:zl=>l.2.length) L []
  have h4:(([]:List zl).map (fun l:zl=>l.2.length)).sum=0:=rfl
  rw[h4,Nat.zero_add] at this
  unfold zv
  rw[List.map_map,List.map_map]
  exact this
 have sC:zv ((zN C []).map (·.2))≤zv (C.map (·.2)):=by
  have:=zgK (fun l:zl=>l.2.length) C []
  have h4:(([]:List zl).map (fun l:zl=>l.2.length)).sum=0:=rfl
  rw[h4,Nat.zero_add] at this
  unfold zv
  rw[List.map_map,List.map_map]
  exact this
 have sT:zv (zN T [])≤zv T:=by
  have:=zgK List.length T []
  unfold zv
  simpa using this
 rw[zjt _ _ _ _ _ (by simp only[List.length_append,List.length_map]; unfold maxLen; omega),zzI _ _ _ (fun r hr=>(nr r hr).near) _ 0 [] List.drop_zero (by rw[zcq,zcq]; simp only[List.length_nil]; omega),Option.bind_some,List.foldl_append,List.foldl_append]
 -- the numbering
 obtain⟨a1,a2,a3,a4⟩:=zfQ (zN L []) zJX fun l hl=>fun c h=>((cL l ((mL l).1 hl)).2 c h).1
 obtain⟨b1,b2,b3,b4⟩:=zld (zN T []) a1 fun l hl=>fun c h=>((cT l ((mT l).1 hl)).2 c h).1
 obtain⟨c1,c2,c3,c4⟩:=zfQ (zN C []) b1 fun l hl=>fun c h=>((cC l ((mC l).1 hl)).2 c h).1
 have r1:=rl0.lits (zN L []) zJX fun l hl=>fun c h=>((cL l ((mL l).1 hl)).2 c h).1
 have r2:=r1.rows (zN T []) a1 fun l hl=>fun c h=>((cT l ((mT l).1 hl)).2 c h).1
 have r3:=r2.lits (zN C []) b1 fun l hl=>fun c h=>((cC l ((mC l).1 hl)).2 c h).1
 have nz1:∀ x,zoR ((zN L []).map (·.2)) x→(za7 (zc2 (za7 (List.replicate 24 0,0) (zN L [])).2 (zN T [])).2 (zN C [])).2.1.getD x.toNat 0≠0:=fun x hx=>by
  have:=a3 x hx
  rw[c2 _ (by rw[b2 _ this]; exact this),b2 _ this]
  exact this
 have nz2:∀ x,zoR (zN T []) x→(za7 (zc2 (za7 (List.replicate 24 0,0) (zN L [])).2 (zN T [])).2 (zN C [])).2.1.getD x.toNat 0≠0:=fun x hx=>by
  have:=b3 x hx
  rw[c2 _ this]
  exact this
 rw[zyP (r3.ok c1) (fun l h=>(cL l ((mL l).1 h)).near) (fun l h=>(cT l ((mT l).1 h)).near) (fun l h=>(cC l ((mC l).1 h)).near) (by omega) (by omega) (by omega),Option.bind_some]
 unfold zdx zFQ
 rw[a4 _ (b2.trans c2),b4 _ c2,c4 _ (ExtS.refl _)]
 have eL:zoA _ (zN L [])=zao _ (zN L []):=List.map_congr_left fun l h=>by
  show (l.1,_)=(l.1,_)
  rw[zpn c1 r3 l.2 (fun c hh=>((cL l ((mL l).1 h)).2 c hh).1) fun x hx=>nz1 x ⟨_,List.mem_map_of_mem h,hx⟩]
 have eT:zwU _ (zN T [])=(zN T []).map _:=List.map_congr_left fun l h=>zpn c1 r3 l (fun c hh=>((cT l ((mT l).1 h)).2 c hh).1) fun x hx=>nz2 x ⟨_,h,hx⟩
 have eC:zoA _ (zN C [])=zao _ (zN C []):=List.map_congr_left fun l h=>by
  show (l.1,_)=(l.1,_)
  rw[zpn c1 r3 l.2 (fun c hh=>((cC l ((mC l).1 h)).2 c hh).1) fun x hx=>c3 x ⟨_,List.mem_map_of_mem h,hx⟩]
 rw[eL,eT,eC]
end
end Go.Abs.Q
namespace Go.Abs.Q
open Go Go.Abs
section
theorem TopV.unique {rs:List jI} {m m':Int} (h:TopV rs m) (h':TopV rs m') (h0:0≤m) (h0':0≤m'):m=m':=by
 have a:m'≤m:=by
  rcases h'.2 with e | e
  ·omega
  ·have:=h.1 _ e; omega
 have b:m≤m':=by
  rcases h.2 with e | e
  ·omega
  ·have:=h'.1 _ e; omega
 omega
theorem zpv {a0:List zq} (hs:SignOk a0) {L:List zl} {T:List jI} {C:List zl} (h:zfs a0 L T C=true):L.length≤5∧T.length≤3∧C.length≤3∧zv (L.map (·.2))+zv T+zv (C.map (·.2))≤1000:=by
 obtain⟨-,h1,h2,h3,-,-,-,h7⟩:=z4 h
 exact ⟨h1,h2,h3,by omega⟩
theorem zAX {α:Type} (xs:List α) {i:Nat} (h:i≤xs.length):zcv xs (some (i:Int)) none=some (xs.drop i):=by
 show slc xs (i:Int) (xs.length:Int)=some _
 unfold slc
 rw[decide_eq_true (show (0:Int)≤(i:Int) by omega),decide_eq_true (show (i:Int)≤(xs.length:Int) by omega),decide_eq_true (show (xs.length:Int)≤((xs.length:Nat):Int) by omega)]
 simp
theorem zm6 {α:Type} (s:Nat):(es:List α)→(i:Nat)→s<i→zS (s:Int) es i=es
 | [],_,_=>rfl
 | e::es,i,h=>by
  show cond ((i:Int) != (s:Int)) (e::zS (s:Int) es (i+1)) (zS (s:Int) es (i+1))=_
  rw[show ((i:Int) != (s:Int))=true from by simp; omega,cond_true,zm6 s es (i+1) (by omega)]
theorem zki {α:Type} (s:Nat):(es:List α)→(i:Nat)→i≤s→s<i+es.length→zS (s:Int) es i=es.take (s - i)++es.drop (s - i+1)
 | [],i,h,h2=>by simp at h2; omega
 | e::es,i,h,h2=>by
  show cond ((i:Int) != (s:Int)) (e::zS (s:Int) es (i+1)) (zS (s:Int) es (i+1))=_
  simp only[List.length_cons] at h2
  by_cases he:i=s
  ·subst he
   rw[show ((i:Int) != (i:Int))=false from by simp,cond_false,zm6 i es (i+1) (by omega)]
   simp
  ·rw[show ((i:Int) != (s:Int))=true from by simp; omega,cond_true,zki s es (i+1) (by omega) (by omega)]
   rw[show s - i=(s - (i+1))+1 from by omega]
   rfl
theorem zqf {L:List zl} {i:Int} (h:zea L i=true) (hl:L.length≤1000):zer L i=some (zS i L 0):=by
 unfold zea at h
 simp only[Bool.and_eq_true,decide_eq_true_eq] at h
 obtain⟨k,rfl⟩:∃ k:Nat,i=(k:Int):=⟨i.toNat,by omega⟩
 have w1:IntKind.wrap .i64 ((k:Int)+1)=((k+1:Nat):Int):=by rw[zE]<;>omega
 unfold zer
 rw[w1,zBk L (by omega),Option.bind_some,zD (by simp; omega),cond_true,zAX L (by omega),Option.bind_some,zD (by simp; omega),cond_true,zki k L 0 (by omega) (by omega)]
 simp
theorem zAS {σ:Sb} (hsh:za9 σ (List.range 24)=true) {L:List zl} {T:List jI} {C:List zl} (hL:∀ l∈L,Cds l.2) (hT:∀ r∈T,Cds r) (hC:∀ l∈C,Cds l.2) (h1:L.length≤1000) (h2:T.length≤1000) (h3:C.length≤1000) :
  zf0 (zd9 σ) L T C=some (zao σ L,T.map (zbT σ),zao σ C):=by
 rw[zyP (ztS hsh) (fun l hl=>(hL l hl).near) (fun r hr=>(hT r hr).near) (fun l hl=>(hC l hl).near) h1 h2 h3,
  zmr fun l hl c hc=>((hL l hl).2 c hc).1,zmr fun l hl c hc=>((hC l hl).2 c hc).1,zs5 fun r hr c hc=>((hT r hr).2 c hc).1]
theorem zw4 {a0:List zq} {σ:Sb} (hs:SignOk a0) (hsh:za9 σ (List.range 24)=true) {L:List zl} {T:List jI} {C:List zl} (hL:∀ l∈L,Cds l.2) (hT:∀ r∈T,Cds r) (hC:∀ l∈C,Cds l.2) (h1:L.length≤1000) (h2:T.length≤1000) (h3:C.length≤1000) (k:Int) :
  ((ziC a0 (zd9 σ) L T C).bind fun r40=>cond (!r40.2.2.1) (zwJ k) (some (r40.1,r40.2.1,true,(0:Int),r40.2.2.2)))=zkX a0 σ L T C k:=by
 unfold ziC zkX
 rw[zAS hsh hL hT hC h1 h2 h3,Option.bind_some]
 simp only
 rw[zgE,Option.bind_some]
 cases hm:zfs a0 (zao σ L) (T.map (zbT σ)) (zao σ C) with
 | false=>rfl
 | true =>
  obtain⟨l1,l2,l3,l4⟩:=zpv hs hm
  rw[Bool.not_true,cond_false,zEF (zsk hs hm) (by omega) (by omega) (by omega) l4]
  rfl
end
end Go.Abs.Q
namespace Go.Abs.Q
open Go Go.Abs
section
theorem ztN (L:List zl) (T:List jI) (C:List zl) (i:Int):zeI L T C i=some (zea L i):=by
 unfold zeI zea
 by_cases h:i≥0
 ·rw[decide_eq_true h,cond_true,Bool.true_and]
 ·rw[decide_eq_false h,cond_false,Bool.false_and]
end
end Go.Abs.Q
namespace Go.Abs.Q
open Go Go.Abs
def zbF (a0:jS) (a1:jQ) (a2:jR) (a3:jQ) (a4:Int) (a5:Int):Option (jQ×jR×Bool×Int×jQ) :=
 (ziG a0 a1 a2 a3).bind fun r17 =>
 cond (!r17)
 (some (([]:jQ),([]:jR),false,1400,([]:jQ)))
 ((zeI a1 a2 a3 a4).bind fun r18 =>
  cond (!r18)
  (some (([]:jQ),([]:jR),false,1400,([]:jQ)))
  ((zeI a1 a2 a3 a5).bind fun r19 =>
   cond (!r19)
   (some (([]:jQ),([]:jR),false,1400,([]:jQ)))
   (cond (a4==a5)
    (some (([]:jQ),([]:jR),false,1400,([]:jQ)))
    ((gx a1 a4).bind fun e20 =>
     (gx a1 a5).bind fun e21 =>
     cond (!(e20.1==e21.1))
     (some (([]:jQ),([]:jR),false,0,([]:jQ)))
     ((gx a1 a4).bind fun e22 =>
      (gx e22.2 0).bind fun e23 =>
      (gx a1 a5).bind fun e24 =>
      (gx e24.2 0).bind fun e25 =>
      cond (e23 != e25)
      (some (([]:jQ),([]:jR),false,0,([]:jQ)))
      ((gx a1 a4).bind fun e26 =>
       (zcv e26.2 (some 1) none).bind fun y27 =>
       (gx a1 a5).bind fun e28 =>
       (zcv e28.2 (some 1) none).bind fun y29 =>
       (zc9 a0 y27 y29).bind fun r30 =>
       cond (!r30.2.1)
       (some (([]:jQ),([]:jR),false,1401,([]:jQ)))
       (cond (!r30.1)
        (some (([]:jQ),([]:jR),false,0,([]:jQ)))
        ((zer a1 a5).bind fun r31 =>
         (ziC a0 r30.2.2 r31 a2 a3).bind fun r32 =>
         cond (!r32.2.2.1)
         (some (([]:jQ),([]:jR),false,1401,([]:jQ)))
         (some (r32.1,r32.2.1,true,0,r32.2.2.2))))))))))
def za5 (rec:(jS×jI×Int×Int)→Option Int) (x:(jS×jI×Int×Int)):Option Int :=
 cond (decide (x.2.2.2<((List.length x.2.1:Nat):Int)))
 ((gx x.2.1 x.2.2.2).bind fun e4 =>
  cond (decide (e4<0))
  (rec (x.1,x.2.1,(IntKind.wrap .i64 (x.2.2.1+1)),(IntKind.wrap .i64 (x.2.2.2+1))))
  ((gx x.2.1 x.2.2.2).bind fun e5 =>
   (gx x.1 e5).bind fun e6 =>
   rec (x.1,x.2.1,(IntKind.wrap .i64 (x.2.2.1+e6.2.2.2)),(IntKind.wrap .i64 (x.2.2.2+1)))))
 (some x.2.2.1)
def zfz (a0:jS) (a1:jI):Option Int :=
 ((lp za5 zi) (a0,a1,0,0)).bind fun r8 =>
 some r8
def zaX (rec:(jI×jI×Int×Int×Int)→Option Int) (x:(jI×jI×Int×Int×Int)):Option Int :=
 cond (decide (x.2.2.2.2<((List.length x.2.1:Nat):Int)))
 ((gx x.2.1 x.2.2.2.2).bind fun e5 =>
  cond (e5==(IntKind.wrap .i64 ((-1) - x.2.2.1)))
  (rec (x.1,x.2.1,x.2.2.1,(IntKind.wrap .i64 (x.2.2.2.1 - 1)),(IntKind.wrap .i64 (x.2.2.2.2+1))))
  (rec (x.1,x.2.1,x.2.2.1,x.2.2.2.1,(IntKind.wrap .i64 (x.2.2.2.2+1)))))
 (some x.2.2.2.1)
def zaY (rec:(jI×jI×Int×Int×Int)→Option Int) (x:(jI×jI×Int×Int×Int)):Option Int :=
 cond (decide (x.2.2.2.2<((List.length x.1:Nat):Int)))
 ((gx x.1 x.2.2.2.2).bind fun e2 =>
  cond (e2==(IntKind.wrap .i64 ((-1) - x.2.2.1)))
  (rec (x.1,x.2.1,x.2.2.1,(IntKind.wrap .i64 (x.2.2.2.1+1)),(IntKind.wrap .i64 (x.2.2.2.2+1))))
  (rec (x.1,x.2.1,x.2.2.1,x.2.2.2.1,(IntKind.wrap .i64 (x.2.2.2.2+1)))))
 (some x.2.2.2.1)
def zbM (rec:(jI×jI×Int)→Option (Unit⊕Bool)) (x:(jI×jI×Int)):Option (Unit⊕Bool) :=
 cond (decide (x.2.2≤23))
 (((lp zaY zi) (x.1,x.2.1,x.2.2,0,0)).bind fun r7 =>
  ((lp zaX zi) (x.1,x.2.1,x.2.2,r7,0)).bind fun r8 =>
  cond (decide (r8<0))
  (some (Sum.inr false))
  (rec (x.1,x.2.1,(IntKind.wrap .i64 (x.2.2+1)))))
 (some (Sum.inl ()))
def ziI (a0:jI) (a1:jI):Option Bool :=
 ((lp zbM zi) (a0,a1,0)).bind fun r12 =>
 yg r12
 (fun z13=>some true)
 (fun z14=>some z14)
def zbt (rf:((jS×jI×jI)→Option Bool)) (rec:(jS×jR×jR×Int)→Option (Unit⊕Bool)) (x:(jS×jR×jR×Int)):Option (Unit⊕Bool) :=
 cond (decide (x.2.2.2<((List.length x.2.1:Nat):Int)))
 ((gx x.2.1 x.2.2.2).bind fun e20 =>
  (gx x.2.2.1 x.2.2.2).bind fun e21 =>
  (zaL e20 e21).bind fun r22 =>
  cond (!r22)
  ((gx x.2.1 x.2.2.2).bind fun e23 =>
   (gx x.2.2.1 x.2.2.2).bind fun e24 =>
   (rf (x.1,e23,e24)).bind fun r25 =>
   some (Sum.inr r25))
  (rec (x.1,x.2.1,x.2.2.1,(IntKind.wrap .i64 (x.2.2.2+1)))))
 (some (Sum.inl ()))
def zjA (rf:((jS×jI×jI)→Option Bool)) (a0:jS) (a1:jI) (a2:jI):Option Bool :=
 (zfz a0 a1).bind fun r29 =>
 (zfz a0 a2).bind fun r30 =>
 (ziI a1 a2).bind fun r31 =>
 cond (!r31)
 (some false)
 (cond (decide (r29<r30))
  (some false)
  (cond (decide (r29>r30))
   (cond (decide (r29>r30))
    (some true)
    ((gx a1 0).bind fun e32 =>
     (gx a2 0).bind fun e33 =>
     some (decide (e32>e33))))
   ((gx a1 0).bind fun e34 =>
    (gx a2 0).bind fun e35 =>
    cond (e34 != e35)
    (cond (decide (r29>r30))
     (some true)
     ((gx a1 0).bind fun e36 =>
      (gx a2 0).bind fun e37 =>
      some (decide (e36>e37))))
    ((zcv a1 (some 1) none).bind fun y38 =>
     (z1 a0 y38).bind fun r39 =>
     (zcv a2 (some 1) none).bind fun y40 =>
     (z1 a0 y40).bind fun r41 =>
     ((lp (zbt rf) zi) (a0,r39,r41,0)).bind fun r42 =>
     yg r42
     (fun z43=>some false)
     (fun z44=>some z44)))))
def zmi (rf:((jS×jI×jI)→Option Bool)):((jS×jI×jI)→Option Bool) :=
 fun (x:(jS×jI×jI))=>zjA rf x.1 x.2.1 x.2.2
def zmf:((jS×jI×jI)→Option Bool):=fun _=>none
def zeE (k:Nat):((jS×jI×jI)→Option Bool):=lpR zmf zmi k
def zkD (a0:jS) (a1:jI) (a2:jI):Option Bool:=(zeE zi) (a0,a1,a2)
def zfB (a0:jS) (a1:jI) (a2:jI):Option Int :=
 (zaL a1 a2).bind fun r4 =>
 cond r4
 (some 1)
 ((zkD a0 a1 a2).bind fun r5 =>
  cond r5
  (some 2)
  ((zkD a0 a2 a1).bind fun r6 =>
   cond r6
   (some 0)
   (some 3)))
def zet (a0:jS) (a1:Bool) (a2:jI) (a3:Bool) (a4:jI):Option Int :=
 (zfB a0 a2 a4).bind fun r2 =>
 cond (r2 != 1)
 (some r2)
 (cond (a1==a3)
  (some r2)
  (cond a1
   (some 2)
   (some 0)))
def zcn (rec:(jS×jQ×Int×Int)→Option (Unit⊕Bool)) (x:(jS×jQ×Int×Int)):Option (Unit⊕Bool) :=
 cond (decide (x.2.2.2<((List.length x.2.1:Nat):Int)))
 ((gx x.2.1 x.2.2.2).bind fun e4 =>
  (gx x.2.1 x.2.2.1).bind fun e5 =>
  (zet x.1 e4.1 e4.2 e5.1 e5.2).bind fun r6 =>
  cond (r6==2)
  (some (Sum.inr false))
  (rec (x.1,x.2.1,x.2.2.1,(IntKind.wrap .i64 (x.2.2.2+1)))))
 (some (Sum.inl ()))
def ziP (a0:jS) (a1:jQ) (a2:Int):Option Bool :=
 ((lp zcn zi) (a0,a1,a2,0)).bind fun r10 =>
 yg r10
 (fun z11=>some true)
 (fun z12=>some z12)
def qG (rec:(jS×Int×jI×Int×jQ×jR×jQ)→Option (Unit⊕Bool)) (x:(jS×Int×jI×Int×jQ×jR×jQ)):Option (Unit⊕Bool) :=
 cond (decide (x.2.2.2.1<x.2.1))
 ((gx x.2.2.2.2.1 x.2.2.2.1).bind fun e15 =>
  (gx x.2.2.2.2.1 x.2.1).bind fun e16 =>
  cond (!(e15.1==e16.1))
  ((gx x.2.2.2.2.1 x.2.2.2.1).bind fun e17 =>
   (zaL e17.2 x.2.2.1).bind fun r18 =>
   cond r18
   (some (Sum.inr true))
   (rec (x.1,x.2.1,x.2.2.1,(IntKind.wrap .i64 (x.2.2.2.1+1)),x.2.2.2.2.1,x.2.2.2.2.2.1,x.2.2.2.2.2.2)))
  (rec (x.1,x.2.1,x.2.2.1,(IntKind.wrap .i64 (x.2.2.2.1+1)),x.2.2.2.2.1,x.2.2.2.2.2.1,x.2.2.2.2.2.2)))
 (some (Sum.inl ()))
def zbC (rec:(jS×Int×jQ×jR×jQ)→Option (Unit⊕Bool)) (x:(jS×Int×jQ×jR×jQ)):Option (Unit⊕Bool) :=
 cond (decide (x.2.1<((List.length x.2.2.1:Nat):Int)))
 ((gx x.2.2.1 x.2.1).bind fun e28 =>
  (gx x.2.2.1 x.2.1).bind fun e29 =>
  cond (!e29.1)
  ((gx e28.2 0).bind fun e30 =>
   cond (e30==0)
   ((zcv e28.2 (some 1) none).bind fun y31 =>
    (z1 x.1 y31).bind fun r32 =>
    (inR 0 (List.length r32)).bind fun k33 =>
    (r32[k33]?).bind fun x34 =>
    (inR 1 (List.length r32)).bind fun k35 =>
    (r32[k35]?).bind fun x36 =>
    (zaL x34 x36).bind fun r37 =>
    cond r37
    (some (Sum.inr true))
    (((lp qG zi) (x.1,x.2.1,e28.2,0,x.2.2.1,x.2.2.2.1,x.2.2.2.2)).bind fun r38 =>
     yg r38
     (fun z39=>rec (x.1,(IntKind.wrap .i64 (x.2.1+1)),x.2.2.1,x.2.2.2.1,x.2.2.2.2))
     (fun z40=>some (Sum.inr z40))))
   (((lp qG zi) (x.1,x.2.1,e28.2,0,x.2.2.1,x.2.2.2.1,x.2.2.2.2)).bind fun r41 =>
    yg r41
    (fun z42=>rec (x.1,(IntKind.wrap .i64 (x.2.1+1)),x.2.2.1,x.2.2.2.1,x.2.2.2.2))
    (fun z43=>some (Sum.inr z43))))
  (((lp qG zi) (x.1,x.2.1,e28.2,0,x.2.2.1,x.2.2.2.1,x.2.2.2.2)).bind fun r44 =>
   yg r44
   (fun z45=>rec (x.1,(IntKind.wrap .i64 (x.2.1+1)),x.2.2.1,x.2.2.2.1,x.2.2.2.2))
   (fun z46=>some (Sum.inr z46))))
 (some (Sum.inl ()))
def zkA (a0:jS) (a1:jQ) (a2:jR) (a3:jQ):Option Bool :=
 ((lp zbC zi) (a0,0,a1,a2,a3)).bind fun r50 =>
 yg r50
 (fun z51=>some false)
 (fun z52=>some z52)
def qZ (a0:jS) (a1:Int) (a2:Int) (a3:Int) (a4:Int) (a5:Int) (a6:Int) (a7:Int) (a8:Int) (a9:jQ) (a10:jR) (a11:jQ) (a12:Bool) (a13:Int) (a14:jT):Option (Int×jT) :=
 cond (a13 != 0)
 (some ((IntKind.wrap .i64 (a1+1)),a14))
 (cond a12
  ((zkA a0 a9 a10 a11).bind fun r2 =>
   cond (!r2)
   (cond (qi (List.length a14+List.length ([(a2,a3,a4,a5,a6,a7,a8,a9,a10,a11)]:List jU)) 128)
    (some (a1,(a14++([(a2,a3,a4,a5,a6,a7,a8,a9,a10,a11)]:List jU))))
    (none))
   (some (a1,a14)))
  (some (a1,a14)))
def yQ (rec:(jS×Int×Int×Int×Int×jQ×jR×jQ×jT)→Option (Int×jT)) (x:(jS×Int×Int×Int×Int×jQ×jR×jQ×jT)):Option (Int×jT) :=
 cond (decide (x.2.2.2.2.1<((List.length x.2.2.2.2.2.1:Nat):Int)))
 ((ziP x.1 x.2.2.2.2.2.1 x.2.2.2.1).bind fun r11 =>
  cond r11
  ((zbF x.1 x.2.2.2.2.2.1 x.2.2.2.2.2.2.1 x.2.2.2.2.2.2.2.1 x.2.2.2.1 x.2.2.2.2.1).bind fun r12 =>
   (qZ x.1 x.2.2.1 2 x.2.1 x.2.2.2.1 0 (-1) x.2.2.2.2.1 0 r12.1 r12.2.1 r12.2.2.2.2 r12.2.2.1 r12.2.2.2.1 x.2.2.2.2.2.2.2.2).bind fun r13 =>
   rec (x.1,x.2.1,r13.1,x.2.2.2.1,(IntKind.wrap .i64 (x.2.2.2.2.1+1)),x.2.2.2.2.2.1,x.2.2.2.2.2.2.1,x.2.2.2.2.2.2.2.1,r13.2))
  ((ziP x.1 x.2.2.2.2.2.1 x.2.2.2.2.1).bind fun r14 =>
   cond r14
   ((zbF x.1 x.2.2.2.2.2.1 x.2.2.2.2.2.2.1 x.2.2.2.2.2.2.2.1 x.2.2.2.1 x.2.2.2.2.1).bind fun r15 =>
    (qZ x.1 x.2.2.1 2 x.2.1 x.2.2.2.1 0 (-1) x.2.2.2.2.1 0 r15.1 r15.2.1 r15.2.2.2.2 r15.2.2.1 r15.2.2.2.1 x.2.2.2.2.2.2.2.2).bind fun r16 =>
    rec (x.1,x.2.1,r16.1,x.2.2.2.1,(IntKind.wrap .i64 (x.2.2.2.2.1+1)),x.2.2.2.2.2.1,x.2.2.2.2.2.2.1,x.2.2.2.2.2.2.2.1,r16.2))
   (rec (x.1,x.2.1,x.2.2.1,x.2.2.2.1,(IntKind.wrap .i64 (x.2.2.2.2.1+1)),x.2.2.2.2.2.1,x.2.2.2.2.2.2.1,x.2.2.2.2.2.2.2.1,x.2.2.2.2.2.2.2.2))))
 (some (x.2.2.1,x.2.2.2.2.2.2.2.2))
def yP (rec:(jS×Int×Int×Int×jQ×jR×jQ×jT)→Option (Int×jT)) (x:(jS×Int×Int×Int×jQ×jR×jQ×jT)):Option (Int×jT) :=
 cond (decide (x.2.2.2.1<((List.length x.2.2.2.2.1:Nat):Int)))
 (((lp yQ zi) (x.1,x.2.1,x.2.2.1,x.2.2.2.1,(IntKind.wrap .i64 (x.2.2.2.1+1)),x.2.2.2.2.1,x.2.2.2.2.2.1,x.2.2.2.2.2.2.1,x.2.2.2.2.2.2.2)).bind fun r19 =>
  rec (x.1,x.2.1,r19.1,(IntKind.wrap .i64 (x.2.2.2.1+1)),x.2.2.2.2.1,x.2.2.2.2.2.1,x.2.2.2.2.2.2.1,r19.2))
 (some (x.2.2.1,x.2.2.2.2.2.2.2))
def zcB (a0:jS) (a1:jQ) (a2:jR) (a3:jQ) (a4:Int):Option (Int×Int×jT) :=
 (ziG a0 a1 a2 a3).bind fun r21 =>
 cond (!r21)
 (some (0,1400,([]:jT)))
 (((lp yP zi) (a0,a4,0,0,a1,a2,a3,([]:jT))).bind fun r22 =>
  some (r22.1,0,r22.2))
end Go.Abs.Q
namespace Go.Abs.Q
open Go Go.Abs
def qJ (s0:jS):List Int→Int→Option Int
 | [],s2=>some s2
 | e::es,s2 =>
  cond (decide (e<0))
  (qJ s0 es (IntKind.wrap .i64 (s2+1)))
  ((gx s0 e).bind fun e6 =>
   qJ s0 es (IntKind.wrap .i64 (s2+e6.2.2.2)))
theorem zjy (s0:jS) (s1:jI) (hl:List.length s1≤maxLen):∀(es:List Int) (i:Nat) (k:Nat) (s2:Int),s1.drop i=es→es.length<k→lp za5 k (s0,s1,s2,(i:Int))=qJ s0 es s2:=by
 intro es
 induction es with
 | nil =>
  intro i k s2 h hk
  obtain⟨k,rfl⟩:∃ k',k=k'+1:=⟨k - 1,by omega⟩
  rw[zc]
  generalize lp za5 k=rec
  unfold za5 qJ
  simp only[zk (zg h),cond_false]
 | cons e es ih =>
  intro i k s2 h hk
  obtain⟨k,rfl⟩:∃ k',k=k'+1:=⟨k - 1,by omega⟩
  rw[zc]
  have hi:=ze h
  have hk2:es.length<k:=Nat.lt_of_succ_lt_succ hk
  have key:=fun s2=>ih (i+1) k s2 (za h) hk2
  generalize lp za5 k=rec at key ⊢
  unfold za5 qJ
  simp only[zn hi,cond_true,zp,zb h,Option.bind_some,zo hi hl,key]
theorem zi2 (s0:jS) (s1:jI) (s2:Int) (hl:List.length s1≤maxLen):lp za5 zi (s0,s1,s2,0)=qJ s0 s1 s2 :=
 zjy s0 s1 hl s1 0 zi s2 rfl (Nat.lt_of_le_of_lt hl (by decide))
def yR (s2:Int):List Int→Int→Option Int
 | [],s3=>some s3
 | e::es,s3 =>
  cond (e==(IntKind.wrap .i64 ((-1) - s2)))
  (yR s2 es (IntKind.wrap .i64 (s3 - 1)))
  (yR s2 es s3)
theorem zjB (s0:jI) (s1:jI) (s2:Int) (hl:List.length s1≤maxLen):∀(es:List Int) (i:Nat) (k:Nat) (s3:Int),s1.drop i=es→es.length<k→lp zaX k (s0,s1,s2,s3,(i:Int))=yR s2 es s3:=by
 intro es
 induction es with
 | nil =>
  intro i k s3 h hk
  obtain⟨k,rfl⟩:∃ k',k=k'+1:=⟨k - 1,by omega⟩
  rw[zc]
  generalize lp zaX k=rec
  unfold zaX yR
  simp only[zk (zg h),cond_false]
 | cons e es ih =>
  intro i k s3 h hk
  obtain⟨k,rfl⟩:∃ k',k=k'+1:=⟨k - 1,by omega⟩
  rw[zc]
  have hi:=ze h
  have hk2:es.length<k:=Nat.lt_of_succ_lt_succ hk
  have key:=fun s3=>ih (i+1) k s3 (za h) hk2
  generalize lp zaX k=rec at key ⊢
  unfold zaX yR
  simp only[zn hi,cond_true,zp,zb h,Option.bind_some,zo hi hl,key]
theorem zja (s0:jI) (s1:jI) (s2:Int) (s3:Int) (hl:List.length s1≤maxLen):lp zaX zi (s0,s1,s2,s3,0)=yR s2 s1 s3 :=
 zjB s0 s1 s2 hl s1 0 zi s3 rfl (Nat.lt_of_le_of_lt hl (by decide))
def yN (s2:Int):List Int→Int→Option Int
 | [],s3=>some s3
 | e::es,s3 =>
  cond (e==(IntKind.wrap .i64 ((-1) - s2)))
  (yN s2 es (IntKind.wrap .i64 (s3+1)))
  (yN s2 es s3)
theorem zjj (s0:jI) (s1:jI) (s2:Int) (hl:List.length s0≤maxLen):∀(es:List Int) (i:Nat) (k:Nat) (s3:Int),s0.drop i=es→es.length<k→lp zaY k (s0,s1,s2,s3,(i:Int))=yN s2 es s3:=by
 intro es
 induction es with
 | nil =>
  intro i k s3 h hk
  obtain⟨k,rfl⟩:∃ k',k=k'+1:=⟨k - 1,by omega⟩
  rw[zc]
  generalize lp zaY k=rec
  unfold zaY yN
  simp only[zk (zg h),cond_false]
 | cons e es ih =>
  intro i k s3 h hk
  obtain⟨k,rfl⟩:∃ k',k=k'+1:=⟨k - 1,by omega⟩
  rw[zc]
  have hi:=ze h
  have hk2:es.length<k:=Nat.lt_of_succ_lt_succ hk
  have key:=fun s3=>ih (i+1) k s3 (za h) hk2
  generalize lp zaY k=rec at key ⊢
  unfold zaY yN
  simp only[zn hi,cond_true,zp,zb h,Option.bind_some,zo hi hl,key]
theorem zjc (s0:jI) (s1:jI) (s2:Int) (s3:Int) (hl:List.length s0≤maxLen):lp zaY zi (s0,s1,s2,s3,0)=yN s2 s0 s3 :=
 zjj s0 s1 s2 hl s0 0 zi s3 rfl (Nat.lt_of_le_of_lt hl (by decide))
def zaR (rf:((jS×jI×jI)→Option Bool)) (s0:jS) (s2:jR):List jI→Nat→Option (Unit⊕Bool)
 | [],i=>some (Sum.inl ())
 | e::es,i =>
  (gx s2 (i:Int)).bind fun e21 =>
  (zaL e e21).bind fun r22 =>
  cond (!r22)
  ((gx s2 (i:Int)).bind fun e24 =>
   (rf (s0,e,e24)).bind fun r25 =>
   some (Sum.inr r25))
  (zaR rf s0 s2 es (i+1))
theorem zkV (rf:((jS×jI×jI)→Option Bool)) (s0:jS) (s1:jR) (s2:jR) (hl:List.length s1≤maxLen):∀(es:List jI) (i:Nat) (k:Nat),s1.drop i=es→es.length<k→lp (zbt rf) k (s0,s1,s2,(i:Int))=zaR rf s0 s2 es i:=by
 intro es
 induction es with
 | nil =>
  intro i k h hk
  obtain⟨k,rfl⟩:∃ k',k=k'+1:=⟨k - 1,by omega⟩
  rw[zc]
  generalize lp (zbt rf) k=rec
  unfold zbt zaR
  simp only[zk (zg h),cond_false]
 | cons e es ih =>
  intro i k h hk
  obtain⟨k,rfl⟩:∃ k',k=k'+1:=⟨k - 1,by omega⟩
  rw[zc]
  have hi:=ze h
  have hk2:es.length<k:=Nat.lt_of_succ_lt_succ hk
  have key:=fun (_:Unit)=>ih (i+1) k (za h) hk2
  generalize lp (zbt rf) k=rec at key ⊢
  unfold zbt zaR
  simp only[zn hi,cond_true,zp,zb h,Option.bind_some,zo hi hl,key ()]
theorem zjx (rf:((jS×jI×jI)→Option Bool)) (s0:jS) (s1:jR) (s2:jR) (hl:List.length s1≤maxLen):lp (zbt rf) zi (s0,s1,s2,0)=zaR rf s0 s2 s1 0 :=
 zkV rf s0 s1 s2 hl s1 0 zi rfl (Nat.lt_of_le_of_lt hl (by decide))
def zbc (s0:jS) (s1:jQ) (s2:Int):List zl→Option (Unit⊕Bool)
 | []=>some (Sum.inl ())
 | e::es =>
  (gx s1 s2).bind fun e5 =>
  (zet s0 e.1 e.2 e5.1 e5.2).bind fun r6 =>
  cond (r6==2)
  (some (Sum.inr false))
  (zbc s0 s1 s2 es)
theorem zk9 (s0:jS) (s1:jQ) (s2:Int) (hl:List.length s1≤maxLen):∀(es:List zl) (i:Nat) (k:Nat),s1.drop i=es→es.length<k→lp zcn k (s0,s1,s2,(i:Int))=zbc s0 s1 s2 es:=by
 intro es
 induction es with
 | nil =>
  intro i k h hk
  obtain⟨k,rfl⟩:∃ k',k=k'+1:=⟨k - 1,by omega⟩
  rw[zc]
  generalize lp zcn k=rec
  unfold zcn zbc
  simp only[zk (zg h),cond_false]
 | cons e es ih =>
  intro i k h hk
  obtain⟨k,rfl⟩:∃ k',k=k'+1:=⟨k - 1,by omega⟩
  rw[zc]
  have hi:=ze h
  have hk2:es.length<k:=Nat.lt_of_succ_lt_succ hk
  have key:=fun (_:Unit)=>ih (i+1) k (za h) hk2
  generalize lp zcn k=rec at key ⊢
  unfold zcn zbc
  simp only[zn hi,cond_true,zp,zb h,Option.bind_some,zo hi hl,key ()]
theorem zkv (s0:jS) (s1:jQ) (s2:Int) (hl:List.length s1≤maxLen):lp zcn zi (s0,s1,s2,0)=zbc s0 s1 s2 s1 :=
 zk9 s0 s1 s2 hl s1 0 zi rfl (Nat.lt_of_le_of_lt hl (by decide))
def qA (s0:jS) (s2:jQ) (s3:jR) (s4:jQ):List zl→Nat→Option (Unit⊕Bool)
 | [],i=>some (Sum.inl ())
 | e::es,i =>
  cond (!e.1)
  ((gx e.2 0).bind fun e30 =>
   cond (e30==0)
   ((zcv e.2 (some 1) none).bind fun y31 =>
    (z1 s0 y31).bind fun r32 =>
    (inR 0 (List.length r32)).bind fun k33 =>
    (r32[k33]?).bind fun x34 =>
    (inR 1 (List.length r32)).bind fun k35 =>
    (r32[k35]?).bind fun x36 =>
    (zaL x34 x36).bind fun r37 =>
    cond r37
    (some (Sum.inr true))
    (((lp qG zi) (s0,(i:Int),e.2,0,s2,s3,s4)).bind fun r38 =>
     yg r38
     (fun z39=>qA s0 s2 s3 s4 es (i+1))
     (fun z40=>some (Sum.inr z40))))
   (((lp qG zi) (s0,(i:Int),e.2,0,s2,s3,s4)).bind fun r41 =>
    yg r41
    (fun z42=>qA s0 s2 s3 s4 es (i+1))
    (fun z43=>some (Sum.inr z43))))
  (((lp qG zi) (s0,(i:Int),e.2,0,s2,s3,s4)).bind fun r44 =>
   yg r44
   (fun z45=>qA s0 s2 s3 s4 es (i+1))
   (fun z46=>some (Sum.inr z46)))
theorem zkf (s0:jS) (s2:jQ) (s3:jR) (s4:jQ) (hl:List.length s2≤maxLen):∀(es:List zl) (i:Nat) (k:Nat),s2.drop i=es→es.length<k→lp zbC k (s0,(i:Int),s2,s3,s4)=qA s0 s2 s3 s4 es i:=by
 intro es
 induction es with
 | nil =>
  intro i k h hk
  obtain⟨k,rfl⟩:∃ k',k=k'+1:=⟨k - 1,by omega⟩
  rw[zc]
  generalize lp zbC k=rec
  unfold zbC qA
  simp only[zk (zg h),cond_false]
 | cons e es ih =>
  intro i k h hk
  obtain⟨k,rfl⟩:∃ k',k=k'+1:=⟨k - 1,by omega⟩
  rw[zc]
  have hi:=ze h
  have hk2:es.length<k:=Nat.lt_of_succ_lt_succ hk
  have key:=fun (_:Unit)=>ih (i+1) k (za h) hk2
  generalize lp zbC k=rec at key ⊢
  unfold zbC qA
  simp only[zn hi,cond_true,zp,zb h,Option.bind_some,zo hi hl,key ()]
theorem zjD (s0:jS) (s2:jQ) (s3:jR) (s4:jQ) (hl:List.length s2≤maxLen):lp zbC zi (s0,0,s2,s3,s4)=qA s0 s2 s3 s4 s2 0 :=
 zkf s0 s2 s3 s4 hl s2 0 zi rfl (Nat.lt_of_le_of_lt hl (by decide))
end Go.Abs.Q
namespace Go.Abs.Q
open Go Go.Abs
section
theorem zrU (a0:List zq) (L:List zl) (T:List jI) (C:List zl) (i j:Int):zbF a0 L T C i j=qR a0 L T C i j:=by
 unfold zbF qR
 rw[zgE,Option.bind_some,za3,Option.bind_some]
 cases h:zfs a0 L T C with
 | false=>rfl
 | true =>
  rw[Bool.not_true,cond_false,cond_false,ztN,Option.bind_some,zad,Option.bind_some]
  cases hpi:zea L i with
  | false=>rfl
  | true =>
   rw[Bool.not_true,cond_false,cond_false,ztN,Option.bind_some,zad,Option.bind_some]
   cases hpj:zea L j with
   | false=>rfl
   | true =>
    rw[Bool.not_true,cond_false,cond_false]
    cases i==j with
    | true=>rfl
    | false =>
     rw[cond_false,cond_false]
     have eta:∀ o:Option zAg,(o.bind fun r=>some (r.1,r.2.1,r.2.2.1,r.2.2.2.1,r.2.2.2.2))=o:=fun o=>by cases o<;>rfl
     rw[eta]
     have hs:=zdM (z4 h).1
     obtain⟨⟨n,A⟩,hi⟩:=zf7 hpi
     obtain⟨⟨n',A'⟩,hj⟩:=zf7 hpj
     obtain⟨m1,m2,m3,-⟩:=zpv hs h
     have hcd:=zsk hs h
     obtain⟨hsb,-,-,-,l4,-,-,-⟩:=z4 h
     obtain⟨c,ts,e,rfl,ho,he,-,hlen,hl48,-⟩:=zda (List.all_eq_true.1 l4 (n,A) (zql hi))
     obtain⟨c',us,e',rfl,ho',he',-,hlen',hl48',-⟩:=zda (List.all_eq_true.1 l4 (n',A') (zql hj))
     unfold zbX
     simp only[hi,hj,Option.bind_some,ql,List.getElem?_cons_zero]
     cases !(n==n') with
     | true=>rfl
     | false =>
      rw[cond_false,cond_false]
      by_cases hc:c=c'
      ·subst hc
       rw[show ((c:Int) != (c:Int))=false from by simp,cond_false,cond_false]
       simp only[zcA,Option.bind_some]
       rcases zoB hs (xs:=zh ts) (ys:=zh us) rfl rfl ho ho' hsb hl48 hl48' with ⟨hu,hno⟩ | ⟨hll,σ,hm,hok,hu⟩
       ·rcases zkQ hs ho ho' hl48 hl48' with ⟨tg,-⟩ | ⟨hll',σ',hm',tg⟩
        ·rw[hu,tg]; rfl
        ·rcases hno with hno | hno
         ·exact absurd hll' hno
         ·exact absurd hm'.sol (hno σ')
       ·rcases zkQ hs ho ho' hl48 hl48' with ⟨tg,hno⟩ | ⟨hll',σ',hm',tg⟩
        ·rcases hno with hno | hno
         ·exact absurd hll hno
         ·exact absurd hm.sol (hno σ)
        ·have:=hm.unique hm'
         subst this
         rw[hu,tg]
         cases hsh:za9 σ (List.range 24) with
         | false=>rfl
         | true =>
          simp only[cond_true,Option.bind_some,show ((0:Int) != 0)=false from rfl,cond_false,Bool.not_true]
          have hwl:=zge j L 0
          have cW:∀ l∈zS j L 0,Cds l.2:=fun l hl=>hcd _ (ze9 (zeD L 0 hl))
          have cT:∀ r∈T,Cds r:=fun r hr=>hcd _ (ze7 hr)
          have cC:∀ l∈C,Cds l.2:=fun l hl=>hcd _ (zem hl)
          rw[zqf hpj (by omega),Option.bind_some,zhz j (-1) (by omega) (by omega) (by omega) (by simp) (by simp) (by simp),Option.bind_some]
          simp only[List.append_nil,zS]
          rw[zB2 hsh cW cT cC (by omega) (by omega) (by omega),Option.bind_some,zg2,Option.bind_some]
          refine (zw4 (a0:=a0) hs hsh cW cT cC (by omega) (by omega) (by omega) 1401).trans ?_
          unfold zkX
          cases zfs a0 (zao σ (zS j L 0)) (T.map (zbT σ)) (zao σ C) with
          | true=>rfl
          | false=>rfl
      ·rw[show ((c:Int) != (c':Int))=true from by simp; omega]
       rfl
end
end Go.Abs.Q
namespace Go.Abs.Q
open Go Go.Abs
section
theorem zpe (a0:List zq):(es:List Int)→(s:Int)→qJ a0 es s=qh a0 es s
 | [],_=>rfl
 | e::es,s=>by
  unfold qJ qh
  rw[zpe a0 es]
  congr 1
  congr 1
  funext e6
  exact zpe a0 es _
theorem ztM (a0:List zq) {r:List Int} (h:r.length≤1000000):zfz a0 r=zgT a0 r:=by
 unfold zfz zgT
 rw[zi2 _ _ _ (by unfold maxLen; omega),zfb _ _ _ (by unfold maxLen; omega),zpe]
def zkk (r:List Int) (v:Nat):Nat:=r.count (-1 - (v:Int))
theorem zyR (r:List Int) (v:Nat):zkk r v≤r.length:=List.count_le_length
theorem zkO (c:Int) (r:List Int) (v:Nat):zkk (c::r) v=zkk r v+cond (c == -1 - (v:Int)) 1 0:=by
 unfold zkk
 rw[List.count_cons]
 cases c == -1 - (v:Int)<;>rfl
theorem zpK {v:Nat} (hv:v<24):(es:List Int)→(s:Int) → -1000000000≤s→s+es.length≤1000000000→yN (v:Int) es s=some (s+(zkk es v:Int))
 | [],s,_,_=>by simp [yN,zkk]
 | e::es,s,h0,h1=>by
  simp only[List.length_cons] at h1
  unfold yN
  have w1:IntKind.wrap .i64 ((-1) - (v:Int)) = -1 - (v:Int):=by rw[zE]<;>omega
  have w2:IntKind.wrap .i64 (s+1)=s+1:=by rw[zE]<;>omega
  rw[w1,w2,zkO]
  cases e == -1 - (v:Int) with
  | true=>rw[cond_true,cond_true,zpK hv es _ (by omega) (by omega)]; congr 1; omega
  | false=>rw[cond_false,cond_false,zpK hv es _ (by omega) (by omega)]; congr 1
theorem zpt {v:Nat} (hv:v<24):(es:List Int)→(s:Int) → -1000000000≤s - es.length→s≤1000000000→yR (v:Int) es s=some (s - (zkk es v:Int))
 | [],s,_,_=>by simp [yR,zkk]
 | e::es,s,h0,h1=>by
  simp only[List.length_cons] at h0
  unfold yR
  have w1:IntKind.wrap .i64 ((-1) - (v:Int)) = -1 - (v:Int):=by rw[zE]<;>omega
  have w2:IntKind.wrap .i64 (s - 1)=s - 1:=by rw[zE]<;>omega
  rw[w1,w2,zkO]
  cases e == -1 - (v:Int) with
  | true=>rw[cond_true,cond_true,zpt hv es _ (by omega) (by omega)]; congr 1; omega
  | false=>rw[cond_false,cond_false,zpt hv es _ (by omega) (by omega)]; congr 1
def zkR (a b:List Int) (vs:List Nat):Bool:=vs.all fun v=>decide (zkk b v≤zkk a v)
theorem zBq {a b:List Int} (ha:a.length≤1000000) (hb:b.length≤1000000):∀(m v k:Nat),24 - v=m→v≤24→m<k→lp zbM k (a,b,(v:Int))=some (cond (zkR a b ((List.range 24).drop v)) (.inl ()) (.inr false)):=by
 intro m
 induction m with
 | zero =>
  intro v k hm hv hk
  obtain⟨k,rfl⟩:∃ k',k=k'+1:=⟨k - 1,by omega⟩
  rw[zc]
  generalize lp zbM k=rec
  unfold zbM
  have:v=24:=by omega
  subst this
  rw[show (List.range 24).drop 24=[] from rfl]
  rfl
 | succ m ih =>
  intro v k hm hv hk
  obtain⟨k,rfl⟩:∃ k',k=k'+1:=⟨k - 1,by omega⟩
  rw[zc]
  have key:=ih (v+1) k (by omega) (by omega) (by omega)
  generalize lp zbM k=rec at key ⊢
  unfold zbM
  have w1:IntKind.wrap .i64 ((v:Int)+1)=((v+1:Nat):Int):=by rw[zE]<;>omega
  have hdr:(List.range 24).drop v=v::(List.range 24).drop (v+1):=by
   rw[List.drop_eq_getElem_cons (by simp; omega)]
   simp
  have hca:=zyR a v
  have hcb:=zyR b v
  simp only[decide_eq_true (show (v:Int)≤23 by omega),cond_true,w1]
  rw[zjc _ _ _ _ (by unfold maxLen; omega),zpK (by omega) a 0 (by omega) (by omega),Option.bind_some,zja _ _ _ _ (by unfold maxLen; omega),zpt (by omega) b _ (by omega) (by omega),Option.bind_some,key,hdr]
  unfold zkR
  rw[List.all_cons]
  by_cases hc:zkk b v≤zkk a v
  ·rw[decide_eq_false (show ¬(0+(zkk a v:Int) - (zkk b v:Int)<0) by omega),cond_false,decide_eq_true hc,Bool.true_and]
  ·rw[decide_eq_true (show 0+(zkk a v:Int) - (zkk b v:Int)<0 by omega),cond_true,decide_eq_false hc,Bool.false_and,cond_false]
theorem zAJ {a b:List Int} (ha:a.length≤1000000) (hb:b.length≤1000000):ziI a b=some (zkR a b (List.range 24)):=by
 unfold ziI
 have:=zBq ha hb 24 0 zi rfl (by omega) (by unfold zi; omega)
 rw[show ((0:Nat):Int)=0 from rfl,List.drop_zero] at this
 rw[this]
 cases zkR a b (List.range 24)<;>rfl
theorem zpp:(es:List Int)→(xs:List Int)→(∀ c∈es,-24≤c)→xs.length=24→(∀ v,v<24→0≤xs.getD v 0∧xs.getD v 0+es.length≤1000000000)→∃ ys,yZ es xs=some ys∧ys.length=24∧∀ v,v<24→ys.getD v 0=xs.getD v 0+(zkk es v:Int)
 | [],xs,_,hl,_=>⟨xs,rfl,hl,fun v _=>by simp [zkk]⟩
 | c::es,xs,hc,hl,hb=>by
  have hc0:=hc c (List.mem_cons_self ..)
  simp only[List.length_cons] at hb
  unfold yZ
  by_cases h0:c<0
  ·obtain⟨u,rfl⟩:∃ u:Nat,c = -1 - (u:Int):=⟨(-1 - c).toNat,by omega⟩
   have hu:u<24:=by omega
   have hbu:=hb u hu
   have hg:xs[u]? = some (xs.getD u 0):=by
    rw[List.getD_eq_getElem?_getD,List.getElem?_eq_getElem (by omega)]
    rfl
   have w1:IntKind.wrap .i64 (xs.getD u 0+1)=xs.getD u 0+1:=by rw[zE]<;>omega
   rw[decide_eq_true h0,cond_true,zbY (by omega) (by omega),Option.bind_some,show -1 - (-1 - (u:Int))=(u:Int) from by omega,zac hu,Option.bind_some,hg,Option.bind_some,Option.bind_some,hg,Option.bind_some,w1]
   obtain⟨ys,g1,g2,g3⟩:=zpp es (xs.set u (xs.getD u 0+1)) (fun d hd=>hc d (List.mem_cons_of_mem _ hd)) (by rw[List.length_set]; exact hl) (fun v hv=>by
    rw[zdL (by omega)]
    have:=hb v hv
    split<;>omega)
   refine ⟨ys,g1,g2,fun v hv => ?_⟩
   rw[g3 v hv,zdL (by omega),zkO]
   by_cases hvu:v=u
   ·subst hvu
    rw[if_pos rfl,show ((-1 - (v:Int)) == -1 - (v:Int))=true from by simp,cond_true]
    omega
   ·rw[if_neg hvu,show ((-1 - (u:Int)) == -1 - (v:Int))=false from by simp; omega,cond_false]
    omega
  ·rw[decide_eq_false h0,cond_false]
   obtain⟨ys,g1,g2,g3⟩:=zpp es xs (fun d hd=>hc d (List.mem_cons_of_mem _ hd)) hl (fun v hv=>by have:=hb v hv; omega)
   refine ⟨ys,g1,g2,fun v hv => ?_⟩
   rw[g3 v hv,zkO,show (c == -1 - (v:Int))=false from by simp; omega,cond_false]
   omega
theorem ztt {r:List Int} (hl:r.length≤1000000) (hc:∀ c∈r,-24≤c):∃ ys,zex r=some ys∧ys.length=24∧∀ v,v<24→ys.getD v 0=(zkk r v:Int):=by
 have hz:∀ v,(List.replicate 24 (0:Int)).getD v 0=0:=fun v=>by
  rw[List.getD_eq_getElem?_getD,List.getElem?_replicate]
  split<;>rfl
 obtain⟨ys,g1,g2,g3⟩:=zpp r (List.replicate 24 (0:Int)) hc (by simp) (fun v _=>by rw[hz]; omega)
 refine ⟨ys,?_,g2,fun v hv=>by rw[g3 v hv,hz]; omega⟩
 unfold zex
 rw[zh6 _ _ (by unfold maxLen; omega),g1,Option.bind_some,g2]
 rfl
theorem zup {a b xs ys:List Int} (hx:xs.length=24) (hy:ys.length=24) (gx:∀ v,v<24→xs.getD v 0=(zkk a v:Int)) (gy:∀ v,v<24→ys.getD v 0=(zkk b v:Int)):∀(m v k:Nat),24 - v=m→v≤24→m<k→lp zaJ k ((v:Int),xs,ys)=some (cond (zkR a b ((List.range 24).drop v)) (.inl ()) (.inr false)):=by
 intro m
 induction m with
 | zero =>
  intro v k hm hv hk
  obtain⟨k,rfl⟩:∃ k',k=k'+1:=⟨k - 1,by omega⟩
  rw[zc]
  generalize lp zaJ k=rec
  unfold zaJ
  have:v=24:=by omega
  subst this
  rw[show (List.range 24).drop 24=[] from rfl]
  rfl
 | succ m ih =>
  intro v k hm hv hk
  obtain⟨k,rfl⟩:∃ k',k=k'+1:=⟨k - 1,by omega⟩
  rw[zc]
  have key:=ih (v+1) k (by omega) (by omega) (by omega)
  generalize lp zaJ k=rec at key ⊢
  unfold zaJ
  have w1:IntKind.wrap .i64 ((v:Int)+1)=((v+1:Nat):Int):=by rw[zE]<;>omega
  have hdr:(List.range 24).drop v=v::(List.range 24).drop (v+1):=by
   rw[List.drop_eq_getElem_cons (by simp; omega)]
   simp
  have h1:xs[v]? = some (zkk a v:Int):=by
   rw[← gx v (by omega),List.getD_eq_getElem?_getD,List.getElem?_eq_getElem (by omega)]
   rfl
  have h2:ys[v]? = some (zkk b v:Int):=by
   rw[← gy v (by omega),List.getD_eq_getElem?_getD,List.getElem?_eq_getElem (by omega)]
   rfl
  simp only[decide_eq_true (show (v:Int)<24 by omega),cond_true,w1,zac (show v<24 by omega),Option.bind_some,h1,h2]
  rw[key,hdr]
  unfold zkR
  rw[List.all_cons]
  by_cases hc:zkk b v≤zkk a v
  ·rw[decide_eq_false (show ¬((zkk a v:Int)<(zkk b v:Int)) by omega),cond_false,decide_eq_true hc,Bool.true_and]
  ·rw[decide_eq_true (show (zkk a v:Int)<(zkk b v:Int) by omega),cond_true,decide_eq_false hc,Bool.false_and,cond_false]
theorem zzz {a b:List Int} (ha:a.length≤1000000) (hb:b.length≤1000000) (ca:∀ c∈a,-24≤c) (cb:∀ c∈b,-24≤c):zfa a b=some (zkR a b (List.range 24)):=by
 obtain⟨xs,h1,h2,h3⟩:=ztt ha ca
 obtain⟨ys,g1,g2,g3⟩:=ztt hb cb
 unfold zfa
 rw[h1,Option.bind_some,g1,Option.bind_some]
 have:=zup (a:=a) (b:=b) h2 g2 h3 g3 24 0 zi rfl (by omega) (by unfold zi; omega)
 rw[show ((0:Nat):Int)=0 from rfl,List.drop_zero] at this
 rw[show Nat.beq (List.length (List.replicate 24 (0:Int))) 24=true from by simp,cond_true,cond_true,this]
 cases zkR a b (List.range 24)<;>rfl
end
end Go.Abs.Q
namespace Go.Abs.Q
open Go Go.Abs
section
structure HF (a0:List zq) (a:List Int) (c:Int) (ts:List Tm):Prop where
 eq:a=c::zh ts
 ok:okR a0 24 ts
 len:a.length≤1000
 low : -24≤c
 sym:0≤c→∃ e,gx a0 c=some e
theorem zwE {a0:List zq} (hs:SignOk a0) {t:Tm} (ho:t.ok a0 24) (hl:t.codes.length≤1000):∃ c ts,HF a0 t.codes c ts∧(∀ d us u,u=t→u.codes=d::zh us→True)∧zaO ts<t.size:=by
 cases t with
 | v n =>
  have hn:n<24:=ho
  exact ⟨-1 - (n:Int),[],⟨rfl,trivial,hl,by omega,fun h=>by omega⟩,fun _ _ _ _ _=>trivial,by simp [zaO,Tm.size]⟩
 | f c as =>
  obtain⟨e,he,-⟩:=zpG hs ho.1
  exact ⟨(c:Int),as,⟨rfl,ho.2,hl,by omega,fun _=>⟨e,he⟩⟩,fun _ _ _ _ _=>trivial,by simp [Tm.size]⟩
mutual
theorem Tm.syms {a0:List zq} (hs:SignOk a0):(t:Tm)→t.ok a0 24→∀ c∈t.codes,-24≤c∧(0≤c→∃ e,gx a0 c=some e)
 | .v n,ho,c,hc=>by
  have hn:n<24:=ho
  have hc:c = -1 - (n:Int):=by simpa[Tm.codes] using hc
  exact ⟨by omega,fun h=>by omega⟩
 | .f d as,ho,c,hc=>by
  rcases List.mem_cons.1 (show c∈(d:Int)::zh as from hc) with rfl | hc
  ·obtain⟨e,he,-⟩:=zpG hs ho.1
   exact ⟨by omega,fun _=>⟨e,he⟩⟩
  ·exact zDR hs as ho.2 c hc
theorem zDR {a0:List zq} (hs:SignOk a0):(ts:List Tm)→okR a0 24 ts→∀ c∈zh ts,-24≤c∧(0≤c→∃ e,gx a0 c=some e)
 | [],_,_,hc=>by simp [zh] at hc
 | t::ts,ho,c,hc=>by
  rcases List.mem_append.1 (show c∈t.codes++zh ts from hc) with hc | hc
  ·exact Tm.syms hs t ho.1 c hc
  ·exact zDR hs ts ho.2 c hc
end
theorem HF.syms {a0:List zq} (hs:SignOk a0) {a:List Int} {c:Int} {ts:List Tm} (h:HF a0 a c ts):∀ d∈a,-24≤d∧(0≤d→∃ e,gx a0 d=some e):=fun d hd=>by
 rw[h.eq] at hd
 rcases List.mem_cons.1 hd with rfl | hd
 ·exact ⟨h.low,h.sym⟩
 ·exact zDR hs ts h.ok d hd
theorem zlW {a0:List zq}:(es:List Int)→(s:Int)→(∀ d∈es,-24≤d∧(0≤d→∃ e,gx a0 d=some e))→∃ r,qh a0 es s=some r
 | [],s,_=>⟨s,rfl⟩
 | e::es,s,h=>by
  unfold qh
  have ih:=fun s=>zlW es s fun d hd=>h d (List.mem_cons_of_mem _ hd)
  by_cases h0:e<0
  ·rw[decide_eq_true h0]; exact ih _
  ·obtain⟨x,hx⟩:=(h e (List.mem_cons_self ..)).2 (by omega)
   rw[decide_eq_false h0,cond_false,hx]
   exact ih _
theorem HF.sum {a0:List zq} (hs:SignOk a0) {a:List Int} {c:Int} {ts:List Tm} (h:HF a0 a c ts):∃ r,zgT a0 a=some r:=by
 have:=h.len
 obtain⟨r,hr⟩:=zlW a 0 (h.syms hs)
 refine ⟨r,?_⟩
 unfold zgT
 rw[zfb _ _ _ (by unfold maxLen; omega),hr]
 rfl
def zjd:List Tm→List Tm→Option (Tm×Tm)
 | t::ts,u::us=>if t.codes=u.codes then zjd ts us else some (t,u)
 | _,_=>none
theorem zmQ:{ts us:List Tm}→{p:Tm×Tm}→zjd ts us=some p→p.1∈ts∧p.2∈us∧p.1.codes≠p.2.codes
 | [],_,_,h=>by cases h
 | _::_,[],_,h=>by cases h
 | t::ts,u::us,p,h=>by
  unfold zjd at h
  split at h
  ·obtain⟨h1,h2,h3⟩:=zmQ h
   exact ⟨List.mem_cons_of_mem _ h1,List.mem_cons_of_mem _ h2,h3⟩
  ·rename_i hne
   injection h with h
   subst h
   exact ⟨List.mem_cons_self ..,List.mem_cons_self ..,hne⟩
theorem znN:{ts us:List Tm}→ts.length=us.length→zjd ts us=none→zh ts=zh us
 | [],[],_,_=>rfl
 | [],_::_,h,_=>by simp at h
 | _::_,[],h,_=>by simp at h
 | t::ts,u::us,hl,h=>by
  unfold zjd at h
  split at h
  ·rename_i he
   show t.codes++zh ts=u.codes++zh us
   rw[he,znN (by simpa using hl) h]
  ·cases h
theorem zqt {usA:List Tm} (hsm:∀ t∈usA,t.codes.length≤1000):(ts us:List Tm)→(i:Nat)→usA.drop i=us→ts.length=us.length→(∀ t∈ts,t.codes.length≤1000)→yK (usA.map Tm.codes) (ts.map Tm.codes) i=some (match zjd ts us with
  | none=>.inl ()
  | some p=>.inr (p.1.codes,p.2.codes))
 | [],[],i,_,_,_=>rfl
 | [],_::_,_,_,h,_=>by simp at h
 | _::_,[],_,_,h,_=>by simp at h
 | t::ts,u::us,i,hd,hl,hsmt=>by
  have hi:=ze hd
  have hg:=zb hd
  have ht:=hsmt t (List.mem_cons_self ..)
  rw[List.map_cons]
  unfold yK zjd
  rw[List.length_map,decide_eq_true (show (i:Int)<(usA.length:Int) by omega),cond_true,zp,List.getElem?_map,hg]
  simp only[Option.map_some,Option.bind_some]
  rw[zbk (by unfold maxLen; omega),Option.bind_some]
  by_cases he:t.codes=u.codes
  ·rw[decide_eq_true he,Bool.not_true,cond_false,if_pos he]
   exact zqt hsm ts us (i+1) (za hd) (by simpa using hl) fun t h=>hsmt t (List.mem_cons_of_mem _ h)
  ·rw[decide_eq_false he,Bool.not_false,cond_true,if_neg he]
theorem zxN {a0:List zq} {rf:(List zq×List Int×List Int)→Option Bool} {usA:List Tm}:(ts us:List Tm)→(i:Nat)→usA.drop i=us→ts.length=us.length→(∀ t∈ts,t.codes.length≤1000)→zaR rf a0 (usA.map Tm.codes) (ts.map Tm.codes) i=(match zjd ts us with
  | none=>some (.inl ())
  | some p=>(rf (a0,p.1.codes,p.2.codes)).bind fun r=>some (.inr r))
 | [],[],i,_,_,_=>rfl
 | [],_::_,_,_,h,_=>by simp at h
 | _::_,[],_,_,h,_=>by simp at h
 | t::ts,u::us,i,hd,hl,hsmt=>by
  have hg:=zb hd
  have ht:=hsmt t (List.mem_cons_self ..)
  rw[List.map_cons]
  unfold zaR zjd
  rw[zp,List.getElem?_map,hg]
  simp only[Option.map_some,Option.bind_some]
  rw[zgI (by omega),Option.bind_some]
  by_cases he:t.codes=u.codes
  ·rw[decide_eq_true he,Bool.not_true,cond_false,if_pos he]
   exact zxN ts us (i+1) (za hd) (by simpa using hl) fun t h=>hsmt t (List.mem_cons_of_mem _ h)
  ·rw[decide_eq_false he,Bool.not_false,cond_true,if_neg he]
end
end Go.Abs.Q
namespace Go.Abs.Q
open Go Go.Abs
section
theorem zAx {a0:List zq} (hs:SignOk a0) {t u:Tm} (ht:t.ok a0 24) (hu:u.ok a0 24) (hlt:t.codes.length≤1000) (hlu:u.codes.length≤1000):∃ c ts d us,HF a0 t.codes c ts∧HF a0 u.codes d us∧(c=d→ts.length=us.length):=by
 obtain⟨c,ts,h1,-,-⟩:=zwE hs ht hlt
 obtain⟨d,us,h2,-,-⟩:=zwE hs hu hlu
 have inj:∀{c c':Int} {r r':List Int},c::r=c'::r'→c=c'∧r=r':=fun h=>by injection h with a b; exact ⟨a,b⟩
 refine ⟨c,ts,d,us,h1,h2,fun hcd => ?_⟩
 cases t with
 | v n =>
  obtain⟨e1,e2⟩:=inj (show (-1 - (n:Int))::[]=c::zh ts from h1.eq)
  have e3:ts=[]:=zb0 (a0:=a0) _ ts [] (Nat.le_refl _) h1.ok trivial e2.symm
  cases u with
  | v m =>
   obtain⟨-,e5⟩:=inj (show (-1 - (m:Int))::[]=d::zh us from h2.eq)
   have e6:us=[]:=zb0 (a0:=a0) _ us [] (Nat.le_refl _) h2.ok trivial e5.symm
   rw[e3,e6]
  | f q bs =>
   obtain⟨e4,-⟩:=inj (show (q:Int)::zh bs=d::zh us from h2.eq)
   omega
 | f p as =>
  obtain⟨e1,e2⟩:=inj (show (p:Int)::zh as=c::zh ts from h1.eq)
  have e3:as=ts:=zb0 (a0:=a0) _ as ts (Nat.le_refl _) ht.2 h1.ok e2
  cases u with
  | v m =>
   obtain⟨e4,-⟩:=inj (show (-1 - (m:Int))::[]=d::zh us from h2.eq)
   omega
  | f q bs =>
   obtain⟨e4,e5⟩:=inj (show (q:Int)::zh bs=d::zh us from h2.eq)
   have e6:bs=us:=zb0 (a0:=a0) _ bs us (Nat.le_refl _) hu.2 h2.ok e5
   have hpq:p=q:=by omega
   subst hpq
   have h3:=ht.1
   have h4:=hu.1
   rw[h3] at h4
   injection h4 with h4
   rw[← e3,← e6,h4]
theorem zAr {a0:List zq} (hs:SignOk a0):∀(n:Nat) (a b:List Int) (c d:Int) (ts us:List Tm),a.length≤n→HF a0 a c ts→HF a0 b d us→(c=d→ts.length=us.length)→a≠b→∀ k k',n<k→n<k' →
  ∃(r:Bool) (z:Unit⊕Bool),zeE k (a0,a,b)=some r∧lp zc8 k' (a0,a,b)=some z∧yg z (fun _=>false) (fun x=>x)=r:=by
 intro n
 induction n with
 | zero =>
  intro a b c d ts us hn h
  rw[h.eq] at hn
  simp at hn
 | succ n ih =>
  intro a b c d ts us hn ha hb har hne k k' hk hk'
  obtain⟨k,rfl⟩:∃ q,k=q+1:=⟨k - 1,by omega⟩
  obtain⟨k',rfl⟩:∃ q,k'=q+1:=⟨k' - 1,by omega⟩
  show ∃ r z,zjA (zeE k) a0 a b=some r∧_
  rw[zc]
  have key:=fun a b c d ts us h1 h2 h3 h4 h5=>ih a b c d ts us h1 h2 h3 h4 h5 k k' (by omega) (by omega)
  generalize lp zc8 k'=rec at key ⊢
  have la:=ha.len
  have lb:=hb.len
  obtain⟨x,hx⟩:=ha.sum hs
  obtain⟨y,hy⟩:=hb.sum hs
  unfold zjA zc8
  simp only
  have hnn:nn a=some a:=by rw[ha.eq]; rfl
  rw[ztM a0 (by omega),hx,Option.bind_some,ztM a0 (by omega),hy,Option.bind_some,zAJ (by omega) (by omega),Option.bind_some,hnn,Option.bind_some,Option.bind_some,Bool.not_false,cond_true,
   zzz (by omega) (by omega) (fun e he=>(ha.syms hs e he).1) (fun e he=>(hb.syms hs e he).1),Option.bind_some]
  cases zkR a b (List.range 24) with
  | false=>exact ⟨false,.inl (),rfl,rfl,rfl⟩
  | true =>
   rw[Bool.not_true,cond_false,cond_true]
   simp only[Option.bind_some]
   by_cases hxy:x=y
   ·subst hxy
    rw[decide_eq_false (Int.lt_irrefl x),show (x != x)=false from by simp]
    simp only[cond_false]
    have ga:gx a 0=some c:=by rw[ha.eq]; rfl
    have gb:gx b 0=some d:=by rw[hb.eq]; rfl
    simp only[ga,gb,Option.bind_some]
    by_cases hcd:c=d
    ·subst hcd
     have hl:=har rfl
     rw[show (c != c)=false from by simp,cond_false,cond_false]
     have ea:=ha.eq
     have eb:=hb.eq
     have hlt:(zh ts).length+1=a.length:=by rw[ea]; rfl
     have hlu:(zh us).length+1=b.length:=by rw[eb]; rfl
     have sa:zcv a (some 1) none=some (zh ts):=by rw[ea]; exact zcA _ _
     have sb:zcv b (some 1) none=some (zh us):=by rw[eb]; exact zcA _ _
     have ct:∀ t∈ts,t.codes.length≤1000:=fun t h=>by have:=zeo h; omega
     have cu:∀ t∈us,t.codes.length≤1000:=fun t h=>by have:=zeo h; omega
     have cuts1:=yh ts ha.ok
     have cuts2:=yh us hb.ok
     have lts:=zec cuts1
     have lus:=zec cuts2
     rw[List.length_map] at lts lus
     have pa:=zbP hs (a1:=zh ts) (by omega) cuts1
     have pb:=zbP hs (a1:=zh us) (by omega) cuts2
     have ta:=zcF hs (a1:=zh ts) (by omega) cuts1
     have tb:=zcF hs (a1:=zh us) (by omega) cuts2
     unfold zh1
     simp only[sa,sb,pa,pb,ta,tb,Option.bind_some]
     rw[zhp _ _ (by rw[List.length_map]; unfold maxLen; omega),zqt cu ts us 0 rfl hl ct,Option.bind_some,
      zjx _ _ _ _ (by rw[List.length_map]; unfold maxLen; omega),zxN ts us 0 rfl hl ct]
     cases hf:zjd ts us with
     | none =>
      exfalso
      exact hne (by rw[ea,eb,znN hl hf])
     | some p =>
      obtain⟨q1,q2,q3⟩:=zmQ hf
      obtain⟨c1,ts1,d1,us1,f1,f2,f3⟩:=zAx hs (zdE.1 ha.ok _ q1) (zdE.1 hb.ok _ q2) (ct _ q1) (cu _ q2)
      have:=zeo q1
      obtain⟨r,z,g1,g2,g3⟩:=key p.1.codes p.2.codes c1 d1 ts1 us1 (by omega) f1 f2 f3 q3
      refine ⟨r,z,?_,g2,g3⟩
      simp only
      rw[g1]
      rfl
    ·rw[show (c != d)=true from by simp [hcd],cond_true,cond_true]
     exact ⟨decide (c>d),.inr (decide (c>d)),rfl,rfl,rfl⟩
   ·rw[show (x != y)=true from by simp [hxy],cond_true]
    by_cases hlt:x<y
    ·rw[decide_eq_true hlt,cond_true]
     refine ⟨false,.inr (decide (x>y)),rfl,rfl,?_⟩
     rw[decide_eq_false (show ¬ x>y by omega)]
     rfl
    ·rw[decide_eq_false hlt,cond_false,decide_eq_true (show x>y by omega),cond_true]
     exact ⟨true,.inr true,rfl,rfl,rfl⟩
end
end Go.Abs.Q
namespace Go.Abs.Q
open Go Go.Abs
section
theorem zyc {a0:List zq} (hs:SignOk a0) {a b:List Int} {c d:Int} {ts us:List Tm} (ha:HF a0 a c ts) (hb:HF a0 b d us) (har:c=d→ts.length=us.length) (hne:a≠b):∃ r,zkD a0 a b=some r∧zaE a0 a b=some r:=by
 have la:=ha.len
 obtain⟨r,z,h1,h2,h3⟩:=zAr hs a.length a b c d ts us (Nat.le_refl _) ha hb har hne zi zi (by unfold zi; omega) (by unfold zi; omega)
 refine ⟨r,h1,?_⟩
 unfold zaE
 rw[h2,Option.bind_some,← h3]
 cases z<;>rfl
def zyu (a0:List zq) (a b:List Int):Option (Int×Int) :=
 (yk a b).bind fun r34=>cond r34 (some (1,0)) ((zaE a0 a b).bind fun r35=>cond r35 (some (2,0)) ((zaE a0 b a).bind fun r36=>cond r36 (some (0,0)) (some (3,0))))
theorem zA9 {a0:List zq} (hs:SignOk a0) {a b:List Int} {c d:Int} {ts us:List Tm} (ha:HF a0 a c ts) (hb:HF a0 b d us) (har:c=d→ts.length=us.length):∃ k,zfB a0 a b=some k∧zyu a0 a b=some (k,0):=by
 have la:=ha.len
 unfold zfB zyu
 rw[zgI (by omega),Option.bind_some,zbk (by unfold maxLen; omega),Option.bind_some]
 by_cases he:a=b
 ·rw[decide_eq_true he]; exact ⟨1,rfl,rfl⟩
 ·rw[decide_eq_false he,cond_false,cond_false]
  obtain⟨r,h1,h2⟩:=zyc hs ha hb har he
  rw[h1,h2,Option.bind_some,Option.bind_some]
  cases r with
  | true=>exact ⟨2,rfl,rfl⟩
  | false =>
   obtain⟨r',g1,g2⟩:=zyc hs hb ha (fun h=>(har h.symm).symm) (Ne.symm he)
   rw[cond_false,cond_false,g1,g2,Option.bind_some,Option.bind_some]
   cases r' with
   | true=>exact ⟨0,rfl,rfl⟩
   | false=>exact ⟨3,rfl,rfl⟩
theorem zl0 (a0:List zq) (xs:List Int):∃ b,zeK a0 xs=some b:=by
 unfold zeK
 rw[zft,Option.bind_some]
 cases zb5 a0 xs with
 | none=>exact ⟨_,rfl⟩
 | some ps=>exact ⟨_,rfl⟩
theorem zBx {a0:List zq} {a b:List Int} (ha:zaS a0 a=true) (hb:zaS a0 b=true):∃ c ts d us,HF a0 a c ts∧HF a0 b d us∧(c=d→ts.length=us.length):=by
 obtain⟨c,ts,e,rfl,ho,he,-,hl,h48,-⟩:=zda ha
 obtain⟨d,us,e',rfl,ho',he',-,hl',h48',-⟩:=zda hb
 refine ⟨c,ts,d,us,⟨rfl,ho,by simp only[List.length_cons]; omega,by omega,fun _=>⟨e,by rw[zp,he]⟩⟩,⟨rfl,ho',by simp only[List.length_cons]; omega,by omega,fun _=>⟨e',by rw[zp,he']⟩⟩,fun h => ?_⟩
 have:c=d:=by omega
 rw[this,he'] at he
 injection he with he
 rw[he] at hl'
 omega
theorem zpB {a0:List zq} (hs:SignOk a0) {a b:List Int} (ha:zaS a0 a=true) (hb:zaS a0 b=true):∃ k,zfB a0 a b=some k∧zen a0 a b=some (k,0):=by
 obtain⟨c,ts,d,us,h1,h2,h3⟩:=zBx ha hb
 obtain⟨k,g1,g2⟩:=zA9 hs h1 h2 h3
 refine ⟨k,g1,?_⟩
 rw[← g2]
 obtain⟨b1,e1⟩:=zl0 a0 a
 obtain⟨b2,e2⟩:=zl0 a0 b
 unfold zen
 rw[e1,Option.bind_some,e2,zdN,ha,zdN,hb]
 cases b1<;>cases b2<;>rfl
end
end Go.Abs.Q
namespace Go.Abs.Q
open Go Go.Abs
section
theorem zns (a0:List zq) (n:Bool) (r:List Int):zgd a0 n r=some (zaS a0 r):=by
 unfold zgd
 rw[zdN]
 rfl
theorem zz0 {a0:List zq} (hs:SignOk a0) {l k:zl} (hl:zaS a0 l.2=true) (hk:zaS a0 k.2=true):∃ w,zet a0 l.1 l.2 k.1 k.2=some w∧zgi a0 l.1 l.2 k.1 k.2=some (w,0):=by
 obtain⟨w,h1,h2⟩:=zpB hs hl hk
 unfold zet zgi
 rw[h1,Option.bind_some,zns,hl,Option.bind_some,Bool.not_true,cond_false,zns,hk,Option.bind_some,Bool.not_true,cond_false,h2,Option.bind_some]
 simp only
 cases w != 1 with
 | true=>exact ⟨w,rfl,rfl⟩
 | false =>
  rw[cond_false,cond_false]
  cases l.1==k.1 with
  | true=>exact ⟨w,rfl,rfl⟩
  | false =>
   rw[cond_false,cond_false]
   cases l.1 with
   | true=>exact ⟨2,rfl,rfl⟩
   | false=>exact ⟨0,rfl,rfl⟩
def zqg (a0:List zq) (l k:zl):Bool:=(zet a0 l.1 l.2 k.1 k.2).getD 0==2
def zmX (a0:List zq) (L:List zl) (k:zl):Bool:=L.any fun l=>zqg a0 l k
theorem zpU {a0:List zq} (hs:SignOk a0) {k:zl} (hk:zaS a0 k.2=true):(es:List zl)→(i:Nat)→(∀ l∈es,zaS a0 l.2=true)→∃ z,zR a0 k.1 k.2 es i=some z∧yg z (fun _=>decide ((-1:Int)≥0)) (fun j=>decide (j≥0))=es.any fun l=>zqg a0 l k
 | [],i,_=>⟨.inl (),rfl,rfl⟩
 | e::es,i,h=>by
  obtain⟨w,h1,h2⟩:=zz0 hs (h e (List.mem_cons_self ..)) hk
  obtain⟨z,g1,g2⟩:=zpU hs hk es (i+1) fun l hl=>h l (List.mem_cons_of_mem _ hl)
  unfold zR zgn
  have ho:zqg a0 e k=(w==2):=by unfold zqg; rw[h1]; rfl
  rw[h2,Option.bind_some,Option.bind_some,List.any_cons,ho]
  simp only
  cases w==2 with
  | true =>
   refine ⟨.inr (i:Int),rfl,?_⟩
   show decide ((i:Int)≥0)=_
   rw[decide_eq_true (show (i:Int)≥0 by omega)]
   rfl
  | false=>exact ⟨z,g1,g2⟩
theorem zrg {a0:List zq} (hs:SignOk a0) {L:List zl} {k:zl} (hL:∀ l∈L,zaS a0 l.2=true) (hk:zaS a0 k.2=true) (hl:L.length≤1000):q5 L a0 k.1 k.2=some (zmX a0 L k):=by
 unfold q5 zdi
 obtain⟨z,g1,g2⟩:=zpU hs hk L 0 hL
 rw[zed _ _ _ _ (by unfold maxLen; omega),g1,Option.bind_some]
 unfold zmX
 rw[← g2]
 cases z<;>rfl
theorem zzM {a0:List zq} (hs:SignOk a0) {L:List zl} {i:Int} {k:zl} (hi:gx L i=some k) (hk:zaS a0 k.2=true):(es:List zl)→(∀ l∈es,zaS a0 l.2=true)→zbc a0 L i es=some (cond (es.any fun l=>zqg a0 l k) (.inr false) (.inl ()))
 | [],_=>rfl
 | e::es,h=>by
  obtain⟨w,h1,h2⟩:=zz0 hs (h e (List.mem_cons_self ..)) hk
  unfold zbc
  have ho:zqg a0 e k=(w==2):=by unfold zqg; rw[h1]; rfl
  rw[hi,Option.bind_some,h1,Option.bind_some,List.any_cons,ho,zzM hs hi hk es fun l hl=>h l (List.mem_cons_of_mem _ hl)]
  cases w==2<;>rfl
theorem zD6 {a0:List zq} (hs:SignOk a0) {L:List zl} {i:Int} {k:zl} (hi:gx L i=some k) (hL:∀ l∈L,zaS a0 l.2=true) (hl:L.length≤1000):ziP a0 L i=some (!zmX a0 L k):=by
 unfold ziP zmX
 rw[zkv _ _ _ (by unfold maxLen; omega),zzM hs hi (hL k (zql hi)) L hL,Option.bind_some]
 cases L.any fun l=>zqg a0 l k<;>rfl
def qP (a0:List zq) (L:List zl):List zl→Nat→List Int
 | [],_=>[]
 | e::es,i=>cond (zmX a0 L e) (qP a0 L es (i+1)) ((i:Int)::qP a0 L es (i+1))
theorem zrT {a0:List zq} (hs:SignOk a0) {L:List zl} (hL:∀ l∈L,zaS a0 l.2=true) (hl:L.length≤1000):(es:List zl)→(i:Nat)→(out:List Int)→(∀ l∈es,l∈L)→out.length+es.length≤100000→qY L a0 es i out=some (out++qP a0 L es i)
 | [],i,out,_,_=>by simp [qY,qP]
 | e::es,i,out,h,hlen=>by
  simp only[List.length_cons] at hlen
  unfold qY qP
  rw[zrg hs hL (hL e (h e (List.mem_cons_self ..))) hl,Option.bind_some]
  cases zmX a0 L e with
  | true=>rw[Bool.not_true,cond_false,cond_true,zrT hs hL hl es (i+1) out (fun l hl=>h l (List.mem_cons_of_mem _ hl)) (by omega)]
  | false =>
   rw[Bool.not_false,cond_true,cond_false,zD (by simp; omega),cond_true,zrT hs hL hl es (i+1) _ (fun l hl=>h l (List.mem_cons_of_mem _ hl)) (by simp; omega)]
   simp
theorem zrw {a0:List zq}:(es:List zl)→(i:Nat)→(∀ l∈es,zaS a0 l.2=true)→zP a0 es i=some (.inl ())
 | [],i,_=>rfl
 | e::es,i,h=>by
  unfold zP zgv
  rw[zns,h e (List.mem_cons_self ..),Option.bind_some,Option.bind_some,Bool.not_true,cond_false]
  exact zrw es (i+1) fun l hl=>h l (List.mem_cons_of_mem _ hl)
theorem zE4 {a0:List zq} (hb:zds a0=true) {L:List zl} (hL:∀ l∈L,zaS a0 l.2=true) (hl:L.length≤1000):zmt a0 L=some (0,qP a0 L L 0):=by
 have hs:=zdM hb
 unfold zmt zcb zc7
 rw[zjS,hb,Option.bind_some,Bool.not_true,cond_false,zel _ _ (by unfold maxLen; omega),zrw L 0 hL,Option.bind_some,zka _ _ _ _ (by unfold maxLen; omega),zrT hs hL hl L 0 [] (fun _ h=>h) (by simp; omega)]
 rfl
end
end Go.Abs.Q
namespace Go.Abs.Q
open Go Go.Abs
section
def zi8 (l e:zl):Bool:=(l.1 != e.1)&&decide (l.2=e.2)
theorem zqe (l e:zl):zi8 l e=zi8 e l:=by
 unfold zi8
 rw[Bool.eq_iff_iff]
 simp only[Bool.and_eq_true,decide_eq_true_iff,bne_iff_ne]
 exact ⟨fun h=>⟨Ne.symm h.1,h.2.symm⟩,fun h=>⟨Ne.symm h.1,h.2.symm⟩⟩
theorem zmM (e:zl):(es:List zl)→(i:Nat)→(∀ l∈es,l.2.length≤1000)→e.2.length≤1000→∃ z,zQ e.1 e.2 es i=some z∧yg z (fun _=>decide ((-1:Int)≥0)) (fun j=>decide (j≥0))=es.any fun l=>zi8 l e
 | [],i,_,_=>⟨.inl (),rfl,rfl⟩
 | l::es,i,h,he=>by
  obtain⟨z,g1,g2⟩:=zmM e es (i+1) (fun l hl=>h l (List.mem_cons_of_mem _ hl)) he
  unfold zQ zcz
  rw[List.any_cons]
  have hc:zi8 l e=(!(e.1==l.1)&&decide (e.2=l.2)):=by rw[zqe]; rfl
  cases hb : !(e.1==l.1) with
  | false =>
   rw[hb] at hc
   rw[cond_false,Option.bind_some,cond_false,hc,Bool.false_and,Bool.false_or]
   exact ⟨z,g1,g2⟩
  | true =>
   rw[hb] at hc
   rw[cond_true,zbk (by unfold maxLen; omega),Option.bind_some,Option.bind_some,hc,Bool.true_and]
   cases decide (e.2=l.2) with
   | true =>
    refine ⟨.inr (i:Int),rfl,?_⟩
    show decide ((i:Int)≥0)=_
    rw[decide_eq_true (show (i:Int)≥0 by omega)]
    rfl
   | false=>exact ⟨z,g1,g2⟩
theorem zrd {L:List zl} {e:zl} (h:∀ l∈L,l.2.length≤1000) (he:e.2.length≤1000) (hl:L.length≤1000):zal L e.1 e.2=some (L.any fun l=>zi8 l e):=by
 unfold zal zdd
 obtain⟨z,g1,g2⟩:=zmM e L 0 h he
 rw[zeh _ _ _ (by unfold maxLen; omega),g1,Option.bind_some,← g2]
 cases z<;>rfl
theorem zEq {a0:List zq} {L:List zl} {T:List jI} {C:List zl} {i:Nat} {e:zl} (hi:L[i]? = some e) (h:∀ l∈L,l.2.length≤1000) (hl:L.length≤1000):∀(m j k:Nat),i - j=m→j≤i→m<k →
  lp qG k (a0,(i:Int),e.2,(j:Int),L,T,C)=some (cond (((L.take i).drop j).any fun l=>zi8 l e) (.inr true) (.inl ())):=by
 have hil:=(List.getElem?_eq_some_iff.1 hi).1
 intro m
 induction m with
 | zero =>
  intro j k hm hj hk
  obtain⟨k,rfl⟩:∃ k',k=k'+1:=⟨k - 1,by omega⟩
  rw[zc]
  generalize lp qG k=rec
  unfold qG
  have:j=i:=by omega
  subst this
  rw[decide_eq_false (show ¬(j:Int)<(j:Int) by omega),cond_false,List.drop_of_length_le (by simp; omega)]
  rfl
 | succ m ih =>
  intro j k hm hj hk
  obtain⟨k,rfl⟩:∃ k',k=k'+1:=⟨k - 1,by omega⟩
  rw[zc]
  have key:=ih (j+1) k (by omega) (by omega) (by omega)
  generalize lp qG k=rec at key ⊢
  unfold qG
  have w1:IntKind.wrap .i64 ((j:Int)+1)=((j+1:Nat):Int):=by rw[zE]<;>omega
  obtain⟨l,hlj⟩:∃ l,L[j]? = some l:=⟨_,List.getElem?_eq_getElem (by omega)⟩
  have hlm:=h l (List.mem_of_getElem? hlj)
  have hd:(L.take i).drop j=l::(L.take i).drop (j+1):=by
   rw[List.drop_eq_getElem_cons (by simp; omega)]
   congr 1
   rw[List.getElem_take]
   exact (List.getElem?_eq_some_iff.1 hlj).2
  simp only[decide_eq_true (show (j:Int)<(i:Int) by omega),cond_true,zp,hlj,hi,Option.bind_some,w1]
  rw[hd,List.any_cons,key]
  have hc:zi8 l e=(!(l.1==e.1)&&decide (l.2=e.2)):=rfl
  cases hb : !(l.1==e.1) with
  | false =>
   rw[hb] at hc
   rw[cond_false,hc,Bool.false_and,Bool.false_or]
  | true =>
   rw[hb] at hc
   rw[cond_true,zgI (by omega),Option.bind_some,hc,Bool.true_and]
   cases decide (l.2=e.2)<;>rfl
end
end Go.Abs.Q
namespace Go.Abs.Q
open Go Go.Abs
section
def zod (a0:List zq) (e:zl):Bool:=(zbq a0 e.1 e.2).getD false
theorem zpT {a0:List zq} (hs:SignOk a0) {e:zl} (h:zaS a0 e.2=true):zbq a0 e.1 e.2=some (zod a0 e)∧∀ X Y:Option (Unit⊕Bool),
  (cond (!e.1) ((gx e.2 0).bind fun e30=>cond (e30==0) ((zcv e.2 (some 1) none).bind fun y31=>(z1 a0 y31).bind fun r32=>(inR 0 (List.length r32)).bind fun k33=>(r32[k33]?).bind fun x34=>(inR 1 (List.length r32)).bind fun k35=>(r32[k35]?).bind fun x36=>(zaL x34 x36).bind fun r37=>cond r37 X Y) Y) Y)=cond (zod a0 e) X Y:=by
 obtain⟨n,r⟩:=e
 obtain⟨c,ts,q,hr,ho,hq,-,hl,h48,-⟩:=zda h
 have hr:r=(c:Int)::zh ts:=hr
 subst hr
 unfold zod zbq
 cases n with
 | true=>exact ⟨rfl,fun X Y=>rfl⟩
 | false =>
  simp only[cond_false,Bool.not_false,cond_true,ql,List.getElem?_cons_zero,Option.bind_some]
  by_cases hc:c=0
  ·subst hc
   have h2:ts.length=2:=by
    rw[hs.eq] at hq
    injection hq with hq
    subst hq
    have:((ts.length:Nat):Int)=2:=hl
    omega
   obtain⟨t1,t2,rfl⟩:∃ t1 t2,ts=[t1,t2]:=by
    match ts,h2 with
    | [t1,t2],_=>exact ⟨t1,t2,rfl⟩
   have hcut:=yh [t1,t2] ho
   have l1:t1.codes.length≤1000:=by
    have h9:t1.codes.length≤(zh [t1,t2]).length:=zeo (List.mem_cons_self ..)
    exact Nat.le_trans h9 (Nat.le_trans h48 (by decide))
   have e8:=zcF hs (a1:=zh [t1,t2]) (Nat.le_trans h48 (by decide)) hcut
   have e9:=zbP hs (a1:=zh [t1,t2]) (Nat.le_trans h48 (by decide)) hcut
   have s8:zcv (((0:Nat):Int)::zh [t1,t2]) (some 1) none=some (zh [t1,t2]):=zcA _ _
   rw[List.map_cons,List.map_cons,List.map_nil] at e8 e9
   generalize zh [t1,t2]=row at e8 e9 s8 ⊢
   generalize t1.codes=p1 at l1 e8 e9
   generalize t2.codes=p2 at e8 e9
   have q1:yk p1 p2=some (decide (p1=p2)):=zbk (Nat.le_trans l1 (by decide))
   have q2:zaL p1 p2=some (decide (p1=p2)):=zgI (Nat.le_trans l1 (by decide))
   have i0:inR 0 (List.length [p1,p2])=some 0:=rfl
   have i1:inR 1 (List.length [p1,p2])=some 1:=rfl
   have g0:[p1,p2][0]? = some p1:=rfl
   have g1:[p1,p2][1]? = some p2:=rfl
   rw[show ((((0:Nat):Int)) != 0)=false from rfl,cond_false,show ((((0:Nat):Int))==0)=true from rfl]
   simp only[s8,Option.bind_some,e8,e9,cond_true,i0,i1,g0,g1,q1,q2,Option.getD_some,implies_true,and_self]
  ·rw[show ((c:Int) != 0)=true from by simp [hc],show ((c:Int)==0)=false from by simp [hc]]
   simp only[cond_true,cond_false,Option.getD_some,implies_true,and_self]
def zqK (a0:List zq) (L:List zl):Bool:=L.any fun e=>zod a0 e||L.any fun l=>zi8 l e
theorem zoo {a0:List zq} (hs:SignOk a0) {L:List zl} (hL:∀ l∈L,l.2.length≤1000) (hl:L.length≤1000):(es:List zl)→(∀ l∈es,zaS a0 l.2=true)→yE a0 L es=some (cond (es.any fun e=>zod a0 e||L.any fun l=>zi8 l e) (.inr (true,0)) (.inl ()))
 | [],_=>rfl
 | e::es,h=>by
  have he:=h e (List.mem_cons_self ..)
  have hel:=zih he
  unfold yE
  rw[(zpT hs he).1,Option.bind_some,zrd hL (by omega) hl,List.any_cons,zoo hs hL hl es fun l hl=>h l (List.mem_cons_of_mem _ hl)]
  cases zod a0 e with
  | true=>rfl
  | false =>
   rw[cond_false,Option.bind_some,Bool.false_or]
   cases L.any fun l=>zi8 l e<;>rfl
theorem zol {a0:List zq} {L:List zl} {T:List jI} {C:List zl} (h:zfs a0 L T C=true):zbZ a0 L T C=some (zqK a0 L,0):=by
 have hs:=zdM (z4 h).1
 obtain⟨l1,-,-,-⟩:=zpv hs h
 obtain⟨-,-,-,-,l4,-,-,-⟩:=z4 h
 have hA:∀ l∈L,zaS a0 l.2=true:=fun l hl=>List.all_eq_true.1 l4 l hl
 unfold zbZ
 rw[za3,h,Option.bind_some,Bool.not_true,cond_false,zfS _ _ _ _ _ (by unfold maxLen; omega),zoo hs (fun l hl=>by have:=zih (hA l hl); omega) (by omega) L hA,Option.bind_some]
 unfold zqK
 cases L.any fun e=>zod a0 e||L.any fun l=>zi8 l e<;>rfl
def zsI (a0:List zq) (L:List zl):List zl→Nat→Bool
 | [],_=>false
 | e::es,i=>zod a0 e||((L.take i).any (fun l=>zi8 l e)||zsI a0 L es (i+1))
theorem zvO {a0:List zq} (hs:SignOk a0) {L:List zl} {T:List jI} {C:List zl} (hA:∀ l∈L,zaS a0 l.2=true) (hl:L.length≤1000):(es:List zl)→(i:Nat)→L.drop i=es→qA a0 L T C es i=some (cond (zsI a0 L es i) (.inr true) (.inl ()))
 | [],i,_=>rfl
 | e::es,i,hd=>by
  have hg:=zb hd
  have hi:=ze hd
  have he:=hA e (List.mem_of_getElem? hg)
  unfold qA zsI
  rw[(zpT hs he).2]
  cases zod a0 e with
  | true=>rfl
  | false =>
   have:=zEq (a0:=a0) (T:=T) (C:=C) hg (fun l hl=>by have:=zih (hA l hl); omega) hl i 0 zi rfl (by omega) (by unfold zi; omega)
   rw[show ((0:Nat):Int)=0 from rfl,List.drop_zero] at this
   rw[cond_false,this,Option.bind_some,Bool.false_or]
   cases (L.take i).any fun l=>zi8 l e with
   | true=>rfl
   | false =>
    rw[Bool.false_or]
    exact zvO hs hA hl es (i+1) (za hd)
theorem zqu {a0:List zq} {L:List zl}:(es:List zl)→(i:Nat)→(zsI a0 L es i=true↔∃(k:Nat) (e:zl),es[k]? = some e∧(zod a0 e=true∨∃ l∈L.take (i+k),zi8 l e=true))
 | [],i=>by simp [zsI]
 | e::es,i=>by
  unfold zsI
  rw[Bool.or_eq_true,Bool.or_eq_true,List.any_eq_true,zqu es (i+1)]
  constructor
  ·rintro (h | h | ⟨k,e',h1,h2⟩)
   ·exact ⟨0,e,rfl,.inl h⟩
   ·exact ⟨0,e,rfl,.inr h⟩
   ·exact ⟨k+1,e',by simpa using h1,by rw[show i+(k+1)=i+1+k from by omega]; exact h2⟩
  ·rintro⟨k,e',h1,h2⟩
   cases k with
   | zero =>
    have:e=e':=by simpa using h1
    subst this
    rcases h2 with h2 | h2
    ·exact .inl h2
    ·exact .inr (.inl h2)
   | succ k=>exact .inr (.inr ⟨k,e',by simpa using h1,by rw[show i+1+k=i+(k+1) from by omega]; exact h2⟩)
theorem zxb {a0:List zq} {L:List zl}:zsI a0 L L 0=zqK a0 L:=by
 rw[Bool.eq_iff_iff,zqu]
 unfold zqK
 rw[List.any_eq_true]
 constructor
 ·rintro⟨k,e,h1,h2⟩
  refine ⟨e,List.mem_of_getElem? h1,?_⟩
  rw[Bool.or_eq_true]
  rcases h2 with h2 | ⟨l,h2,h3⟩
  ·exact .inl h2
  ·exact .inr (List.any_eq_true.2 ⟨l,List.mem_of_mem_take h2,h3⟩)
 ·rintro⟨e,he,h⟩
  obtain⟨k,hk,hke⟩:=List.mem_iff_getElem.1 he
  have hg:L[k]? = some e:=by rw[List.getElem?_eq_getElem hk,hke]
  rcases Bool.or_eq_true _ _ |>.mp h with h | h
  ·exact ⟨k,e,hg,.inl h⟩
  ·obtain⟨l,hl,hc⟩:=List.any_eq_true.1 h
   obtain⟨j,hj,hjl⟩:=List.mem_iff_getElem.1 hl
   have hgj:L[j]? = some l:=by rw[List.getElem?_eq_getElem hj,hjl]
   have mem:∀{a b:Nat} {x:zl},L[a]? = some x→a<b→x∈L.take b:=fun {a b x} hx hab=>List.mem_of_getElem? (i:=a) (by rw[List.getElem?_take,if_pos hab]; exact hx)
   rcases Nat.lt_trichotomy j k with hjk | hjk | hjk
   ·exact ⟨k,e,hg,.inr ⟨l,by rw[Nat.zero_add]; exact mem hgj hjk,hc⟩⟩
   ·exfalso
    rw[hjk,hg] at hgj
    injection hgj with hgj
    rw[hgj] at hc
    simp [zi8] at hc
   ·exact ⟨j,l,hgj,.inr ⟨e,by rw[Nat.zero_add]; exact mem hg hjk,by rw[zqe]; exact hc⟩⟩
theorem zyY {a0:List zq} {L:List zl} {T:List jI} {C:List zl} (h:zfs a0 L T C=true):zkA a0 L T C=some (zqK a0 L):=by
 have hs:=zdM (z4 h).1
 obtain⟨l1,-,-,-⟩:=zpv hs h
 obtain⟨-,-,-,-,l4,-,-,-⟩:=z4 h
 have hA:∀ l∈L,zaS a0 l.2=true:=fun l hl=>List.all_eq_true.1 l4 l hl
 unfold zkA
 rw[zjD _ _ _ _ (by unfold maxLen; omega),zvO hs hA (by omega) L 0 rfl,Option.bind_some,zxb]
 cases zqK a0 L<;>rfl
end
end Go.Abs.Q
namespace Go.Abs.Q
open Go Go.Abs
section
theorem zpN (a0:List zq) (L:List zl) (T:List jI) (C:List zl):∃ t,zbZ a0 L T C=some t:=by
 cases h:zfs a0 L T C with
 | true=>exact ⟨_,zol h⟩
 | false =>
  refine ⟨(false,800),?_⟩
  unfold zbZ
  rw[za3,h]
  rfl
theorem zAt (sig:List zq) (r a i s b j t:Int) (o1:List zl) (o2:List jI) (o3:List zl) (xL:List zl) (xT:List jI) (xC:List zl) (ok:Bool) (err left:Int) (steps:List (Int×Int×Int×Int×Int×Int×Int×List zl×List jI×List zl)) (h:ok=true→err=0→zfs sig xL xT xC=true) :
  qz r a i s b j t o1 o2 o3 xL xT xC ok err sig left steps=(qZ sig left r a i s b j t xL xT xC ok err steps).map fun q=>(sig,q.1,q.2):=by
 unfold qz qZ
 by_cases he:err=0
 ·rw[show (err != 0)=false from by simp [he],cond_false,cond_false]
  cases ok with
  | false =>
   obtain⟨q,hq⟩:=zpN sig xL xT xC
   rw[hq]
   rfl
  | true =>
   have hm:=h rfl he
   rw[zol hm,Option.bind_some,zyY hm,Bool.not_true,cond_false,cond_true,Option.bind_some]
   simp only
   cases zqK sig xL with
   | true=>rfl
   | false =>
    rw[cond_false,Bool.not_false,cond_true]
    generalize qi _ 128=q
    cases q<;>rfl
 ·rw[show (err != 0)=true from by simp [he]]
  rfl
end
end Go.Abs.Q
namespace Go.Abs.Q
open Go Go.Abs
end Go.Abs.Q
namespace Go.Abs.Q
open Go Go.Abs
def qM (a0:jS) (a1:jQ) (a2:jR) (a3:jQ) (a4:Int):Option Bool :=
 (zbl a1 a2 a3).bind fun r8 =>
 (zfM a0 a1 a2 a3 a4).bind fun r9 =>
 (zcB a0 a1 a2 a3 a4).bind fun r10 =>
 (zbW r9.2.2 r10.2.2).bind fun r11 =>
 cond (!r11)
 (some false)
 (cond (r9.1 != r10.1)
  (some false)
  ((zgB r9.2.1).bind fun r12 =>
   cond (r12 != r10.2.1)
   (some false)
   ((qo a1 a2 a3 r8.1 r8.2.1 r8.2.2).bind fun r13 =>
    cond r13
    ((zjP).bind fun r14 =>
     some r14)
    (some false))))
end Go.Abs.Q
namespace Go.Abs.Q
open Go Go.Abs
section
def zfG (L:List zl) (T:List jI) (C:List zl):Prop:=qo L T C L T C=some true
theorem zov:zfG [] [] []:=by
 unfold zfG
 exact zcE (by simp) (by simp) (by simp) (by simp) (by simp) (by simp)
theorem zsl {a0:List zq} {σ:Sb} {L:List zl} {T:List jI} {C:List zl} {k:Int}:∃ r,zkX a0 σ L T C k=some r∧zfG r.1 r.2.1 r.2.2.2.2:=by
 unfold zkX
 cases hm:zfs a0 (zao σ L) (T.map (zbT σ)) (zao σ C) with
 | true=>exact ⟨_,rfl,zuz hm⟩
 | false=>exact ⟨_,rfl,zov⟩
theorem zh3 {o:Option zAg} {k:Int} (h:o=zwJ k):∃ r,o=some r∧zfG r.1 r.2.1 r.2.2.2.2:=⟨_,h,zov⟩
theorem zqc (a0:List zq) (L:List zl) (T:List jI) (C:List zl) (i j:Int):∃ r,qR a0 L T C i j=some r∧zfG r.1 r.2.1 r.2.2.2.2:=by
 unfold qR
 rw[za3,Option.bind_some]
 cases hmay:zfs a0 L T C with
 | false=>exact zh3 (k:=1400) rfl
 | true =>
  rw[Bool.not_true,cond_false,zad,Option.bind_some]
  cases hpi:zea L i with
  | false=>exact zh3 (k:=1400) rfl
  | true =>
   rw[Bool.not_true,cond_false,zad,Option.bind_some]
   cases hpj:zea L j with
   | false=>exact zh3 (k:=1400) rfl
   | true =>
    rw[Bool.not_true,cond_false]
    by_cases hij:i=j
    ·rw[show (i==j)=true from by simp [hij],cond_true]
     exact zh3 (k:=1400) rfl
    ·rw[show (i==j)=false from by simp [hij],cond_false]
     have eta:∀ o:Option zAg,(o.bind fun r=>some (r.1,r.2.1,r.2.2.1,r.2.2.2.1,r.2.2.2.2))=o:=fun o=>by cases o<;>rfl
     rw[eta]
     have hs:=zdM (z4 hmay).1
     obtain⟨⟨n,A⟩,hi⟩:=zf7 hpi
     obtain⟨⟨n',A'⟩,hj⟩:=zf7 hpj
     rcases zhE hs hmay hi hj with ⟨k,r1⟩ | ⟨hnn,c,ts,us,σ,rfl,rfl,ho,ho',hll,hmgu,hok,r1⟩
     ·exact zh3 r1
     ·rw[r1]
      exact zsl
theorem zrG {L:List zl} {T:List jI} {C:List zl} (h1:L.length≤1048576) (h1m:∀ l∈L,l.2.length≤1048576) (h2:T.length≤1048576) (h2m:∀ l∈T,l.length≤1048576) (h3:C.length≤1048576) (h3m:∀ l∈C,l.2.length≤1048576) :
  zbl L T C=some (L,T,C)∧zfG L T C:=by
 refine ⟨?_,?_⟩
 ·unfold zbl
  rw[zg7 (fun l hl=>Nat.le_trans (h1m l hl) (by decide)) (Nat.le_trans h1 (by decide)),zl9 (fun l hl=>Nat.le_trans (h2m l hl) (by decide)) (Nat.le_trans h2 (by decide)),zg7 (fun l hl=>Nat.le_trans (h3m l hl) (by decide)) (Nat.le_trans h3 (by decide))]
  rfl
 ·have hM:1048576≤maxLen:=by decide
  exact zcE (Nat.le_trans h1 hM) (fun e he=>Nat.le_trans (h1m e he) hM) (Nat.le_trans h2 hM) (fun e he=>Nat.le_trans (h2m e he) hM) (Nat.le_trans h3 hM) (fun e he=>Nat.le_trans (h3m e he) hM)
theorem zFz {L:List zl} {T:List jI} {C:List zl} (h1:Go.Abs.wt (.sl zjY) L≤1048576) (h2:Go.Abs.wt (.sl (.one (.sl (.one (.int .i64))))) T≤1048576) (h3:Go.Abs.wt (.sl zjY) C≤1048576):zbl L T C=some (L,T,C)∧zfG L T C:=by
 obtain⟨l1,m1⟩:=zvU h1
 obtain⟨l2,m2⟩:=zEY h2
 obtain⟨l3,m3⟩:=zvU h3
 exact zrG l1 m1 l2 m2 l3 m3
end
end Go.Abs.Q
namespace Go.Abs.Q
open Go Go.Abs
section
abbrev zj1:=Int×Int×Int×Int×Int×Int×Int×List zl×List jI×List zl
theorem zhP {a0:List zq} {L:List zl}:(es:List zl)→(i:Nat)→(k:Int)→k∈qP a0 L es i↔∃(j:Nat) (l:zl),es[j]? = some l∧k=((i+j:Nat):Int)∧zmX a0 L l=false
 | [],i,k=>by simp [qP]
 | e::es,i,k=>by
  have ih:=zhP es (i+1) k (a0:=a0) (L:=L)
  have tail:k∈qP a0 L es (i+1)↔∃(j:Nat) (l:zl),(e::es)[j+1]? = some l∧k=((i+(j+1):Nat):Int)∧zmX a0 L l=false:=by
   rw[ih]
   constructor
   ·rintro⟨j,l,h1,h2,h3⟩
    exact ⟨j,l,by simpa using h1,by rw[h2]; congr 1; omega,h3⟩
   ·rintro⟨j,l,h1,h2,h3⟩
    exact ⟨j,l,by simpa using h1,by rw[h2]; congr 1; omega,h3⟩
  unfold qP
  cases ho:zmX a0 L e with
  | true =>
   rw[cond_true,tail]
   constructor
   ·rintro⟨j,l,h1,h2,h3⟩
    exact ⟨j+1,l,h1,h2,h3⟩
   ·rintro⟨j,l,h1,h2,h3⟩
    cases j with
    | zero=>injection h1 with h1; subst h1; rw[ho] at h3; cases h3
    | succ j=>exact ⟨j,l,h1,h2,h3⟩
  | false =>
   rw[cond_false,List.mem_cons,tail]
   constructor
   ·rintro (h | ⟨j,l,h1,h2,h3⟩)
    ·exact ⟨0,e,rfl,by rw[h]; rfl,ho⟩
    ·exact ⟨j+1,l,h1,h2,h3⟩
   ·rintro⟨j,l,h1,h2,h3⟩
    cases j with
    | zero=>exact .inl (by rw[h2]; rfl)
    | succ j=>exact .inr ⟨j,l,h1,h2,h3⟩
theorem zlU {a0:List zq} {L:List zl}:(es:List zl)→(i:Nat)→(qP a0 L es i).length≤es.length
 | [],_=>Nat.le_refl _
 | e::es,i=>by
  have:=zlU es (i+1) (a0:=a0) (L:=L)
  unfold qP
  cases zmX a0 L e<;>simp<;>omega
section
variable {a0:List zq} {L:List zl} {T:List jI} {C:List zl} (hmay:zfs a0 L T C=true)
include hmay
theorem zmA {i:Nat} (hi:i<L.length):zbn (qP a0 L L 0) (i:Int)=some (decide ((i:Int)∈qP a0 L L 0))∧ziP a0 L (i:Int)=some (decide ((i:Int)∈qP a0 L L 0)):=by
 obtain⟨hsb,l1,-,-,l4,-⟩:=z4 hmay
 have hs:=zdM hsb
 have hL:∀ l∈L,zaS a0 l.2=true:=fun l hl=>List.all_eq_true.1 l4 l hl
 have hlen:=zlU (a0:=a0) (L:=L) L 0
 refine ⟨zsz _ (by unfold maxLen; omega),?_⟩
 have hg:L[i]? = some L[i]:=List.getElem?_eq_getElem hi
 rw[zD6 hs (i:=(i:Int)) (k:=L[i]) (by rw[zp]; exact hg) hL (by omega)]
 congr 1
 cases ho:zmX a0 L L[i] with
 | false =>
  rw[decide_eq_true ((zhP L 0 (i:Int)).2 ⟨i,L[i],hg,by simp,ho⟩)]
  rfl
 | true =>
  rw[decide_eq_false fun h => ?_]
  ·rfl
  ·obtain⟨j,l,h1,h2,h3⟩:=(zhP L 0 (i:Int)).1 h
   have:j=i:=by omega
   subst this
   rw[hg] at h1
   injection h1 with h1
   rw[← h1,ho] at h3
   cases h3
theorem ztO {i j:Nat} (hi:i<L.length) (hj:j<L.length) (hij:i≠j):zbX a0 L T C (i:Int) (j:Int)=qR a0 L T C (i:Int) (j:Int)∧zbF a0 L T C (i:Int) (j:Int)=qR a0 L T C (i:Int) (j:Int):=by
 refine ⟨?_,zrU ..⟩
 unfold qR
 have hp:∀ k:Nat,k<L.length→zea L (k:Int)=true:=fun k hk=>by
  unfold zea
  simp
  omega
 rw[za3,Option.bind_some,hmay,Bool.not_true,cond_false,zad,Option.bind_some,hp i hi,Bool.not_true,cond_false,zad,Option.bind_some,hp j hj,Bool.not_true,cond_false,show ((i:Int)==(j:Int))=false from by simp; omega,cond_false]
 have eta:∀ o:Option zAg,(o.bind fun r=>some (r.1,r.2.1,r.2.2.1,r.2.2.2.1,r.2.2.2.2))=o:=fun o=>by cases o<;>rfl
 rw[eta]
theorem zsR (i j:Int):∃ r,qR a0 L T C i j=some r∧zfG r.1 r.2.1 r.2.2.2.2∧(r.2.2.1=true→r.2.2.2.1=0→zfs a0 r.1 r.2.1 r.2.2.2.2=true):=by
 obtain⟨r,h1,h2⟩:=zqc a0 L T C i j
 have hs:=zdM (z4 hmay).1
 obtain⟨Lt,Tt,Ct,rfl,rfl,rfl,hL,hT,hC⟩:=zBr hmay
 obtain⟨r',f1,f2⟩:=zp3 (m:=1) (by omega) (by omega) (nums:=[0]) ⟨by simp,by simp⟩ hs hmay hL hT hC i j
 rw[h1] at f1
 injection f1 with f1
 subst f1
 exact ⟨r,h1,h2,fun a b=>(f2 b a).1⟩
def zvQ (a0:List zq) (L:List zl) (T:List jI) (C:List zl) (k:Int) (i j:Int) (c:Int) (st:List zj1):Option (Int×List zj1) :=
 (qR a0 L T C i j).bind fun r=>qZ a0 c 2 k i 0 (-1) j 0 r.1 r.2.1 r.2.2.2.2 r.2.2.1 r.2.2.2.1 st
theorem zuS (k:Int) (i j:Int) (c:Int) (st:List zj1):((qR a0 L T C i j).bind fun r=>qz 2 k i 0 (-1) j 0 [] [] [] r.1 r.2.1 r.2.2.2.2 r.2.2.1 r.2.2.2.1 a0 c st)=(zvQ a0 L T C k i j c st).map fun q=>(a0,q.1,q.2):=by
 obtain⟨r,h1,-,h3⟩:=zsR hmay i j
 unfold zvQ
 rw[h1,Option.bind_some,Option.bind_some]
 exact zAt a0 2 k i 0 (-1) j 0 [] [] [] _ _ _ _ _ c st h3
theorem zsZ (k:Int) {i:Nat} (hi:i<L.length):(f:Nat)→(j:Nat)→i<j→(c:Int)→(st:List zj1)→(n:Int) →
  lp zdj f (a0,k,qP a0 L L 0,(i:Int),(j:Int),n,(i:Int),L,T,C,a0,c,st)=(lp yQ f (a0,k,c,(i:Int),(j:Int),L,T,C,st)).map fun q=>(a0,q.1,q.2)
 | 0,_,_,_,_,_=>rfl
 | f+1,j,hij,c,st,n=>by
  have ih:=zsZ k hi f
  rw[zc,zc]
  generalize lp zdj f=r1 at ih ⊢
  generalize lp yQ f=r2 at ih ⊢
  obtain⟨-,l1,-⟩:=z4 hmay
  unfold zdj yQ
  simp only
  by_cases hj:j<L.length
  ·obtain⟨t1,t2⟩:=zmA hmay hi
   obtain⟨t3,t4⟩:=zmA hmay hj
   obtain⟨o1,o2⟩:=ztO hmay hi hj (by omega)
   have hnext:=fun c st=>ih (j+1) (by omega) c st n
   have key:((zbX a0 L T C (i:Int) (j:Int)).bind fun r13=>(qz 2 k (i:Int) 0 (-1) (j:Int) 0 [] [] [] r13.1 r13.2.1 r13.2.2.2.2 r13.2.2.1 r13.2.2.2.1 a0 c st).bind fun r14=>r1 (a0,k,qP a0 L L 0,(i:Int),((j+1:Nat):Int),n,(i:Int),L,T,C,r14.1,r14.2.1,r14.2.2)) =
     ((zbF a0 L T C (i:Int) (j:Int)).bind fun r12=>(qZ a0 c 2 k (i:Int) 0 (-1) (j:Int) 0 r12.1 r12.2.1 r12.2.2.2.2 r12.2.2.1 r12.2.2.2.1 st).bind fun r13=>r2 (a0,k,r13.1,(i:Int),((j+1:Nat):Int),L,T,C,r13.2)).map fun q=>(a0,q.1,q.2):=by
    rw[o1,o2]
    have h1:=zuS hmay k (i:Int) (j:Int) c st
    unfold zvQ at h1
    obtain⟨r,h2,-,-⟩:=zsR hmay (i:Int) (j:Int)
    rw[h2,Option.bind_some,Option.bind_some] at h1
    rw[h2,Option.bind_some,Option.bind_some,h1]
    cases qZ a0 c 2 k (i:Int) 0 (-1) (j:Int) 0 r.1 r.2.1 r.2.2.2.2 r.2.2.1 r.2.2.2.1 st with
    | none=>rfl
    | some q=>exact hnext q.1 q.2
   rw[zn hj,cond_true,cond_true,t1,t2,Option.bind_some,Option.bind_some,zo hj (by unfold maxLen; omega)]
   cases decide ((i:Int)∈qP a0 L L 0) with
   | true=>exact key
   | false =>
    rw[cond_false,cond_false,t3,t4,Option.bind_some,Option.bind_some]
    cases decide ((j:Int)∈qP a0 L L 0) with
    | true=>exact key
    | false=>exact hnext c st
  ·rw[zk (by omega),cond_false,cond_false]
   rfl
theorem ztu (k:Int):(f:Nat)→(i:Nat)→(c:Int)→(st:List zj1) →
  lp zc5 f (a0,k,qP a0 L L 0,((L.length:Nat):Int),(i:Int),L,T,C,a0,c,st)=(lp yP f (a0,k,c,(i:Int),L,T,C,st)).map fun q=>(a0,q.1,q.2)
 | 0,_,_,_=>rfl
 | f+1,i,c,st=>by
  have ih:=ztu k f (i+1)
  rw[zc,zc]
  generalize lp zc5 f=r1 at ih ⊢
  generalize lp yP f=r2 at ih ⊢
  obtain⟨-,l1,-⟩:=z4 hmay
  unfold zc5 yP
  simp only
  by_cases hi:i<L.length
  ·rw[zn hi,cond_true,cond_true,zo hi (by unfold maxLen; omega),zsZ hmay k hi zi (i+1) (by omega) c st]
   cases lp yQ zi (a0,k,c,(i:Int),((i+1:Nat):Int),L,T,C,st) with
   | none=>rfl
   | some q=>exact ih q.1 q.2
  ·rw[zk (by omega),cond_false,cond_false]
   rfl
end
theorem zqM (a0:List zq) (L:List zl) (T:List jI) (C:List zl) (k:Int):zfM a0 L T C k=zcB a0 L T C k:=by
 unfold zfM zcB
 rw[zgE,Option.bind_some,za3,Option.bind_some]
 cases h:zfs a0 L T C with
 | false=>rfl
 | true =>
  rw[Bool.not_true,cond_false,cond_false]
  obtain⟨hsb,l1,-,-,l4,-⟩:=z4 h
  have hL:∀ l∈L,zaS a0 l.2=true:=fun l hl=>List.all_eq_true.1 l4 l hl
  rw[zE4 hsb hL (by omega),Option.bind_some]
  have:=ztu h k zi 0 0 []
  simp only at this ⊢
  rw[show ((0:Nat):Int)=0 from rfl] at this
  rw[this]
  cases lp yP zi (a0,k,0,0,L,T,C,[])<;>rfl
end
end Go.Abs.Q
namespace Go.Abs.Q
open Go Go.Abs
section
def zhM (s:zj1):Prop:=zfG s.2.2.2.2.2.2.2.1 s.2.2.2.2.2.2.2.2.1 s.2.2.2.2.2.2.2.2.2
theorem zpd {s:zj1} (h:zhM s) :
  zdm s.1 s.2.1 s.2.2.1 s.2.2.2.1 s.2.2.2.2.1 s.2.2.2.2.2.1 s.2.2.2.2.2.2.1 s.2.2.2.2.2.2.2.1 s.2.2.2.2.2.2.2.2.1 s.2.2.2.2.2.2.2.2.2 s.1 s.2.1 s.2.2.1 s.2.2.2.1 s.2.2.2.2.1 s.2.2.2.2.2.1 s.2.2.2.2.2.2.1 s.2.2.2.2.2.2.2.1 s.2.2.2.2.2.2.2.2.1 s.2.2.2.2.2.2.2.2.2=some true:=by
 unfold zhM zfG at h
 unfold zdm
 simp only[beq_self_eq_true,cond_true,h,Option.bind_some]
theorem zlX (xs:List zj1) (hg:∀ s∈xs,zhM s):(es:List zj1)→(i:Nat)→xs.drop i=es→yD xs es i=some (.inl ())
 | [],_,_=>rfl
 | e::es,i,h=>by
  have hi:=ze h
  have he:=zb h
  unfold yD
  rw[zp,he,Option.bind_some,zpd (hg e (List.mem_of_getElem? he)),Option.bind_some,Bool.not_true,cond_false]
  exact zlX xs hg es (i+1) (za h)
theorem zjh {xs:List zj1} (hg:∀ s∈xs,zhM s) (hl:xs.length≤maxLen):zbW xs xs=some true:=by
 unfold zbW
 rw[show (((List.length xs:Nat):Int) != ((List.length xs:Nat):Int))=false from by simp,cond_false,zfN _ _ hl,zlX xs hg xs 0 rfl]
 rfl
theorem zyl {sig:List zq} {c r a i s b j t:Int} {xL:List zl} {xT:List jI} {xC:List zl} {ok:Bool} {err:Int} {st:List zj1} (hm:ok=true→err=0→zfs sig xL xT xC=true) (hx:zfG xL xT xC) (hg:∀ s∈st,zhM s) (hl:st.length≤100000) :
  ∃ q,qZ sig c r a i s b j t xL xT xC ok err st=some q∧(∀ s∈q.2,zhM s)∧q.2.length≤st.length+1:=by
 unfold qZ
 by_cases he:err=0
 ·rw[show (err != 0)=false from by simp [he],cond_false]
  cases ok with
  | false=>exact ⟨_,rfl,hg,by simp⟩
  | true =>
   rw[cond_true,zyY (hm rfl he),Option.bind_some]
   cases zqK sig xL with
   | true=>exact ⟨_,rfl,hg,by simp⟩
   | false =>
    rw[Bool.not_false,cond_true,zD (show (List.length st+([(r,a,i,s,b,j,t,xL,xT,xC)]:List zj1).length)*128≤140737488351232 by simp; omega),cond_true]
    refine ⟨_,rfl,fun s hs => ?_,by simp⟩
    rcases List.mem_append.1 hs with hs | hs
    ·exact hg s hs
    ·rw[List.mem_singleton.1 hs]; exact hx
 ·rw[show (err != 0)=true from by simp [he],cond_true]
  exact ⟨_,rfl,hg,by simp⟩
section
variable {a0:List zq} {L:List zl} {T:List jI} {C:List zl} (hmay:zfs a0 L T C=true)
include hmay
theorem znu (k:Int) {i:Nat} (hi:i<L.length):(f:Nat)→(j:Nat)→L.length - j<f→i<j→(c:Int)→(st:List zj1)→(∀ s∈st,zhM s)→st.length+(L.length - j)≤100000 →
  ∃ q,lp yQ f (a0,k,c,(i:Int),(j:Int),L,T,C,st)=some q∧(∀ s∈q.2,zhM s)∧q.2.length≤st.length+(L.length - j)
 | 0,_,h,_,_,_,_,_=>by omega
 | f+1,j,hf,hij,c,st,hg,hl=>by
  have ih:=znu k hi f (j+1)
  rw[zc]
  generalize lp yQ f=r2 at ih ⊢
  obtain⟨-,l1,-⟩:=z4 hmay
  unfold yQ
  simp only
  by_cases hj:j<L.length
  ·obtain⟨t1,t2⟩:=zmA hmay hi
   obtain⟨t3,t4⟩:=zmA hmay hj
   obtain⟨o1,o2⟩:=ztO hmay hi hj (by omega)
   have key:∃ q,((zbF a0 L T C (i:Int) (j:Int)).bind fun r12=>(qZ a0 c 2 k (i:Int) 0 (-1) (j:Int) 0 r12.1 r12.2.1 r12.2.2.2.2 r12.2.2.1 r12.2.2.2.1 st).bind fun r13=>r2 (a0,k,r13.1,(i:Int),((j+1:Nat):Int),L,T,C,r13.2))=some q∧(∀ s∈q.2,zhM s)∧q.2.length≤st.length+(L.length - j):=by
    obtain⟨r,h1,h2,h3⟩:=zsR hmay (i:Int) (j:Int)
    rw[o2,h1,Option.bind_some]
    obtain⟨q,h4,h5,h6⟩:=zyl (sig:=a0) (c:=c) (r:=2) (a:=k) (i:=(i:Int)) (s:=0) (b := -1) (j:=(j:Int)) (t:=0) h3 h2 hg (by omega)
    rw[h4,Option.bind_some]
    obtain⟨p,h7,h8,h9⟩:=ih (by omega) (by omega) q.1 q.2 h5 (by omega)
    exact ⟨p,h7,h8,by omega⟩
   rw[zn hj,cond_true,t2,Option.bind_some,zo hj (by unfold maxLen; omega)]
   cases decide ((i:Int)∈qP a0 L L 0) with
   | true=>exact key
   | false =>
    rw[cond_false,t4,Option.bind_some]
    cases decide ((j:Int)∈qP a0 L L 0) with
    | true=>exact key
    | false =>
     obtain⟨p,h7,h8,h9⟩:=ih (by omega) (by omega) c st hg (by omega)
     exact ⟨p,h7,h8,by omega⟩
  ·rw[zk (by omega),cond_false]
   exact ⟨_,rfl,hg,by simp⟩
theorem znD (k:Int):(f:Nat)→(i:Nat)→L.length - i<f→(c:Int)→(st:List zj1)→(∀ s∈st,zhM s)→st.length+(L.length - i)*5≤1000 →
  ∃ q,lp yP f (a0,k,c,(i:Int),L,T,C,st)=some q∧(∀ s∈q.2,zhM s)∧q.2.length≤st.length+(L.length - i)*5
 | 0,_,h,_,_,_,_=>by omega
 | f+1,i,hf,c,st,hg,hl=>by
  have ih:=znD k f (i+1)
  rw[zc]
  generalize lp yP f=r2 at ih ⊢
  obtain⟨-,l1,-⟩:=z4 hmay
  unfold yP
  simp only
  by_cases hi:i<L.length
  ·have hfu:L.length - (i+1)<zi:=Nat.lt_of_le_of_lt (show L.length - (i+1)≤5 by omega) (by decide)
   obtain⟨q,h1,h2,h3⟩:=znu hmay k hi zi (i+1) hfu (by omega) c st hg (by omega)
   rw[zn hi,cond_true,zo hi (by unfold maxLen; omega),h1,Option.bind_some]
   obtain⟨p,h4,h5,h6⟩:=ih (by omega) q.1 q.2 h2 (by omega)
   exact ⟨p,h4,h5,by omega⟩
  ·rw[zk (by omega),cond_false]
   exact ⟨_,rfl,hg,by simp⟩
end
theorem zpQ (a0:List zq) (L:List zl) (T:List jI) (C:List zl) (k:Int):∃ r,zcB a0 L T C k=some r∧zbW r.2.2 r.2.2=some true:=by
 unfold zcB
 rw[zgE,Option.bind_some]
 cases h:zfs a0 L T C with
 | false=>exact ⟨_,rfl,zjh (by simp) (by simp)⟩
 | true =>
  rw[Bool.not_true,cond_false]
  obtain⟨-,l1,-⟩:=z4 h
  obtain⟨q,h1,h2,h3⟩:=znD h k zi 0 (Nat.lt_of_le_of_lt (show L.length - 0≤5 by omega) (by decide)) 0 [] (by simp) (by simp; omega)
  rw[show ((0:Nat):Int)=0 from rfl] at h1
  rw[h1,Option.bind_some]
  exact ⟨_,rfl,zjh h2 (by simp at h3; unfold maxLen; show q.2.length≤_; omega)⟩
theorem zic (a0:List zq) (L:List zl) (T:List jI) (C:List zl) (k:Int) (hc:zbl L T C=some (L,T,C)∧zfG L T C):qM a0 L T C k=some true:=by
 unfold qM
 have hnum:∀ k:Int,zgB k=some k:=fun k=>rfl
 obtain⟨r,h1,h2⟩:=zpQ a0 L T C k
 have hs:=hc.2
 unfold zfG at hs
 rw[hc.1,Option.bind_some,zqM,h1,Option.bind_some,Option.bind_some,h2,Option.bind_some]
 simp only[Bool.not_true,cond_false,hnum,Option.bind_some,bne_self_eq_false,hs,cond_true,zoc]
theorem zmj (x:List zq×List zl×List jI×List zl×Int) (h:wtL [.sl zrC,.sl zjY,.sl (.one (.sl (.one (.int .i64)))),.sl zjY,.int .i64] x≤1048576):qM x.1 x.2.1 x.2.2.1 x.2.2.2.1 x.2.2.2.2=some true:=by
 have h:Go.Abs.wt (.sl zrC) x.1+(Go.Abs.wt (.sl zjY) x.2.1+(Go.Abs.wt (.sl (.one (.sl (.one (.int .i64))))) x.2.2.1+(Go.Abs.wt (.sl zjY) x.2.2.2.1+Go.Abs.wt (.int .i64) x.2.2.2.2)))≤1048576:=h
 exact zic _ _ _ _ _ (zFz (by omega) (by omega) (by omega))
end
end Go.Abs.Q
