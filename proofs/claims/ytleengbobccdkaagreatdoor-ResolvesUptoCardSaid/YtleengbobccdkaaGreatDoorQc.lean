import Derived.Test.YtleengbobccdkaaGreatDoorQb
/-
  What the functions make of plain values, and what the law says of that.
-/
namespace Go.Abs.Q
open Go Go.Abs
def zaQ (s1:Int):List (Int×jI)→Nat→Option (Unit⊕Int)
 | [],i=>some (Sum.inl ())
 | e::es,i =>
  cond (e.1==s1)
  (some (Sum.inr (i:Int)))
  (zaQ s1 es (i+1))
theorem zkM (s0:(List (Int×jI))) (s1:Int) (hl:List.length s0≤maxLen):∀(es:List (Int×jI)) (i:Nat) (k:Nat),s0.drop i=es→es.length<k→lp zbU k (s0,s1,(i:Int))=zaQ s1 es i:=by
 intro es
 induction es with
 | nil =>
  intro i k h hk
  obtain⟨k,rfl⟩:∃ k',k=k'+1:=⟨k - 1,by omega⟩
  rw[zk]
  generalize lp zbU k=rec
  unfold zbU zaQ
  simp only[zu (zm h),cond_false]
 | cons e es ih =>
  intro i k h hk
  obtain⟨k,rfl⟩:∃ k',k=k'+1:=⟨k - 1,by omega⟩
  rw[zk]
  have hi:=zl h
  have hk2:es.length<k:=Nat.lt_of_succ_lt_succ hk
  have key:=fun (_:Unit)=>ih (i+1) k (zh h) hk2
  generalize lp zbU k=rec at key ⊢
  unfold zbU zaQ
  simp only[zE hi,cond_true,zJ,zj h,Option.bind_some,zF hi hl,key ()]
theorem zjI (s0:(List (Int×jI))) (s1:Int) (hl:List.length s0≤maxLen):lp zbU zp (s0,s1,0)=zaQ s1 s0 0 :=
 zkM s0 s1 hl s0 0 zp rfl (Nat.lt_of_le_of_lt hl (by decide))
def yT (s0:(List (Int×jI))):List Int→jI→Option jI
 | [],s3=>some s3
 | e::es,s3 =>
  cond (decide (e<0))
  ((zio s0 (IntKind.wrap .i64 ((-1) - e))).bind fun r18 =>
   cond (decide (r18<0))
   (cond (yY (List.length s3+List.length ([e]:List Int)) 8)
    (yT s0 es (s3++([e]:List Int)))
    (none))
   ((gx s0 r18).bind fun e20 =>
    cond (yY (List.length s3+List.length e20.2) 8)
    (yT s0 es (s3++e20.2))
    (none)))
  (cond (yY (List.length s3+List.length ([e]:List Int)) 8)
   (yT s0 es (s3++([e]:List Int)))
   (none))
theorem zjQ (s0:(List (Int×jI))) (s1:jI) (hl:List.length s1≤maxLen):∀(es:List Int) (i:Nat) (k:Nat) (s3:jI),s1.drop i=es→es.length<k→lp zbt k (s0,s1,(i:Int),s3)=yT s0 es s3:=by
 intro es
 induction es with
 | nil =>
  intro i k s3 h hk
  obtain⟨k,rfl⟩:∃ k',k=k'+1:=⟨k - 1,by omega⟩
  rw[zk]
  generalize lp zbt k=rec
  unfold zbt yT
  simp only[zu (zm h),cond_false]
 | cons e es ih =>
  intro i k s3 h hk
  obtain⟨k,rfl⟩:∃ k',k=k'+1:=⟨k - 1,by omega⟩
  rw[zk]
  have hi:=zl h
  have hk2:es.length<k:=Nat.lt_of_succ_lt_succ hk
  have key:=fun s3=>ih (i+1) k s3 (zh h) hk2
  generalize lp zbt k=rec at key ⊢
  unfold zbt yT
  simp only[zE hi,cond_true,zJ,zj h,Option.bind_some,zF hi hl,key]
theorem ziB (s0:(List (Int×jI))) (s1:jI) (s3:jI) (hl:List.length s1≤maxLen):lp zbt zp (s0,s1,0,s3)=yT s0 s1 s3 :=
 zjQ s0 s1 hl s1 0 zp s3 rfl (Nat.lt_of_le_of_lt hl (by decide))
def zab (s0:(List (Int×jI))) (s5:jQ) (s6:jR):List zt→jQ→Option (jQ×jR×jQ)
 | [],s7=>some (s5,s6,s7)
 | e::es,s7 =>
  (zdD s0 e.2).bind fun r26 =>
  cond (yY (List.length s7+List.length ([(e.1,r26)]:List zt)) 32)
  (zab s0 s5 s6 es (s7++([(e.1,r26)]:List zt)))
  (none)
theorem ziO (s0:(List (Int×jI))) (s2:jQ) (s3:jR) (s4:jQ) (s5:jQ) (s6:jR) (hl:List.length s4≤maxLen):∀(es:List zt) (i:Nat) (k:Nat) (s7:jQ),s4.drop i=es→es.length<k→lp zaN k (s0,(i:Int),s2,s3,s4,s5,s6,s7)=zab s0 s5 s6 es s7:=by
 intro es
 induction es with
 | nil =>
  intro i k s7 h hk
  obtain⟨k,rfl⟩:∃ k',k=k'+1:=⟨k - 1,by omega⟩
  rw[zk]
  generalize lp zaN k=rec
  unfold zaN zab
  simp only[zu (zm h),cond_false]
 | cons e es ih =>
  intro i k s7 h hk
  obtain⟨k,rfl⟩:∃ k',k=k'+1:=⟨k - 1,by omega⟩
  rw[zk]
  have hi:=zl h
  have hk2:es.length<k:=Nat.lt_of_succ_lt_succ hk
  have key:=fun s7=>ih (i+1) k s7 (zh h) hk2
  generalize lp zaN k=rec at key ⊢
  unfold zaN zab
  simp only[zE hi,cond_true,zJ,zj h,Option.bind_some,zF hi hl,key]
theorem zhX (s0:(List (Int×jI))) (s2:jQ) (s3:jR) (s4:jQ) (s5:jQ) (s6:jR) (s7:jQ) (hl:List.length s4≤maxLen):lp zaN zp (s0,0,s2,s3,s4,s5,s6,s7)=zab s0 s5 s6 s4 s7 :=
 ziO s0 s2 s3 s4 s5 s6 hl s4 0 zp s7 rfl (Nat.lt_of_le_of_lt hl (by decide))
def q9 (s0:(List (Int×jI))) (s5:jQ):List jI→jR→Option (jQ×jR)
 | [],s6=>some (s5,s6)
 | e::es,s6 =>
  (zdD s0 e).bind fun r16 =>
  cond (yY (List.length s6+List.length ([r16]:List jI)) 24)
  (q9 s0 s5 es (s6++([r16]:List jI)))
  (none)
theorem ziN (s0:(List (Int×jI))) (s2:jQ) (s3:jR) (s4:jQ) (s5:jQ) (hl:List.length s3≤maxLen):∀(es:List jI) (i:Nat) (k:Nat) (s6:jR),s3.drop i=es→es.length<k→lp zaT k (s0,(i:Int),s2,s3,s4,s5,s6)=q9 s0 s5 es s6:=by
 intro es
 induction es with
 | nil =>
  intro i k s6 h hk
  obtain⟨k,rfl⟩:∃ k',k=k'+1:=⟨k - 1,by omega⟩
  rw[zk]
  generalize lp zaT k=rec
  unfold zaT q9
  simp only[zu (zm h),cond_false]
 | cons e es ih =>
  intro i k s6 h hk
  obtain⟨k,rfl⟩:∃ k',k=k'+1:=⟨k - 1,by omega⟩
  rw[zk]
  have hi:=zl h
  have hk2:es.length<k:=Nat.lt_of_succ_lt_succ hk
  have key:=fun s6=>ih (i+1) k s6 (zh h) hk2
  generalize lp zaT k=rec at key ⊢
  unfold zaT q9
  simp only[zE hi,cond_true,zJ,zj h,Option.bind_some,zF hi hl,key]
theorem zin (s0:(List (Int×jI))) (s2:jQ) (s3:jR) (s4:jQ) (s5:jQ) (s6:jR) (hl:List.length s3≤maxLen):lp zaT zp (s0,0,s2,s3,s4,s5,s6)=q9 s0 s5 s3 s6 :=
 ziN s0 s2 s3 s4 s5 hl s3 0 zp s6 rfl (Nat.lt_of_le_of_lt hl (by decide))
def q7 (s0:(List (Int×jI))):List zt→jQ→Option jQ
 | [],s5=>some s5
 | e::es,s5 =>
  (zdD s0 e.2).bind fun r9 =>
  cond (yY (List.length s5+List.length ([(e.1,r9)]:List zt)) 32)
  (q7 s0 es (s5++([(e.1,r9)]:List zt)))
  (none)
theorem ziY (s0:(List (Int×jI))) (s2:jQ) (s3:jR) (s4:jQ) (hl:List.length s2≤maxLen):∀(es:List zt) (i:Nat) (k:Nat) (s5:jQ),s2.drop i=es→es.length<k→lp zaP k (s0,(i:Int),s2,s3,s4,s5)=q7 s0 es s5:=by
 intro es
 induction es with
 | nil =>
  intro i k s5 h hk
  obtain⟨k,rfl⟩:∃ k',k=k'+1:=⟨k - 1,by omega⟩
  rw[zk]
  generalize lp zaP k=rec
  unfold zaP q7
  simp only[zu (zm h),cond_false]
 | cons e es ih =>
  intro i k s5 h hk
  obtain⟨k,rfl⟩:∃ k',k=k'+1:=⟨k - 1,by omega⟩
  rw[zk]
  have hi:=zl h
  have hk2:es.length<k:=Nat.lt_of_succ_lt_succ hk
  have key:=fun s5=>ih (i+1) k s5 (zh h) hk2
  generalize lp zaP k=rec at key ⊢
  unfold zaP q7
  simp only[zE hi,cond_true,zJ,zj h,Option.bind_some,zF hi hl,key]
theorem zic (s0:(List (Int×jI))) (s2:jQ) (s3:jR) (s4:jQ) (s5:jQ) (hl:List.length s2≤maxLen):lp zaP zp (s0,0,s2,s3,s4,s5)=q7 s0 s2 s5 :=
 ziY s0 s2 s3 s4 hl s2 0 zp s5 rfl (Nat.lt_of_le_of_lt hl (by decide))
def qj (s0:Int):List Int→(List (Int×jI))→Option ((List (Int×jI))⊕Bool)
 | [],s6=>some (Sum.inl s6)
 | e::es,s6 =>
  cond (decide ((IntKind.wrap .i64 (e+s0))>23))
  (some (Sum.inr false))
  (cond (yY (List.length s6+List.length ([(e,([(IntKind.wrap .i64 ((IntKind.wrap .i64 ((-1) - e)) - s0))]:List Int))]:List (Int×jI))) 32)
   (qj s0 es (s6++([(e,([(IntKind.wrap .i64 ((IntKind.wrap .i64 ((-1) - e)) - s0))]:List Int))]:List (Int×jI))))
   (none))
theorem zhD (s0:Int) (s1:jI) (s3:jQ) (s4:jR) (s5:jQ) (hl:List.length s1≤maxLen):∀(es:List Int) (i:Nat) (k:Nat) (s6:(List (Int×jI))),s1.drop i=es→es.length<k→lp yS k (s0,s1,(i:Int),s3,s4,s5,s6)=qj s0 es s6:=by
 intro es
 induction es with
 | nil =>
  intro i k s6 h hk
  obtain⟨k,rfl⟩:∃ k',k=k'+1:=⟨k - 1,by omega⟩
  rw[zk]
  generalize lp yS k=rec
  unfold yS qj
  simp only[zu (zm h),cond_false]
 | cons e es ih =>
  intro i k s6 h hk
  obtain⟨k,rfl⟩:∃ k',k=k'+1:=⟨k - 1,by omega⟩
  rw[zk]
  have hi:=zl h
  have hk2:es.length<k:=Nat.lt_of_succ_lt_succ hk
  have key:=fun s6=>ih (i+1) k s6 (zh h) hk2
  generalize lp yS k=rec at key ⊢
  unfold yS qj
  simp only[zE hi,cond_true,zJ,zj h,Option.bind_some,zF hi hl,key]
theorem zgi (s0:Int) (s1:jI) (s3:jQ) (s4:jR) (s5:jQ) (s6:(List (Int×jI))) (hl:List.length s1≤maxLen):lp yS zp (s0,s1,0,s3,s4,s5,s6)=qj s0 s1 s6 :=
 zhD s0 s1 s3 s4 s5 hl s1 0 zp s6 rfl (Nat.lt_of_le_of_lt hl (by decide))
def zaE (s1:jI):List Int→Nat→Option (Unit⊕Bool)
 | [],i=>some (Sum.inl ())
 | e::es,i =>
  (gx s1 (i:Int)).bind fun e4 =>
  cond (e != e4)
  (some (Sum.inr false))
  (zaE s1 es (i+1))
theorem zi0 (s0:jI) (s1:jI) (hl:List.length s0≤maxLen):∀(es:List Int) (i:Nat) (k:Nat),s0.drop i=es→es.length<k→lp za3 k (s0,s1,(i:Int))=zaE s1 es i:=by
 intro es
 induction es with
 | nil =>
  intro i k h hk
  obtain⟨k,rfl⟩:∃ k',k=k'+1:=⟨k - 1,by omega⟩
  rw[zk]
  generalize lp za3 k=rec
  unfold za3 zaE
  simp only[zu (zm h),cond_false]
 | cons e es ih =>
  intro i k h hk
  obtain⟨k,rfl⟩:∃ k',k=k'+1:=⟨k - 1,by omega⟩
  rw[zk]
  have hi:=zl h
  have hk2:es.length<k:=Nat.lt_of_succ_lt_succ hk
  have key:=fun (_:Unit)=>ih (i+1) k (zh h) hk2
  generalize lp za3 k=rec at key ⊢
  unfold za3 zaE
  simp only[zE hi,cond_true,zJ,zj h,Option.bind_some,zF hi hl,key ()]
theorem zil (s0:jI) (s1:jI) (hl:List.length s0≤maxLen):lp za3 zp (s0,s1,0)=zaE s1 s0 0 :=
 zi0 s0 s1 hl s0 0 zp rfl (Nat.lt_of_le_of_lt hl (by decide))
def zU (rf:((Int×jI×jR)→Option Bool)) (s0:Int) (s3:jR):List Int→Option (Unit⊕Bool)
 | []=>some (Sum.inl ())
 | e::es =>
  cond (decide (e≥0))
  (zU rf s0 s3 es)
  (cond ((IntKind.wrap .i64 ((-1) - e))==s0)
   (some (Sum.inr true))
   ((inR (IntKind.wrap .i64 ((-1) - e)) 48).bind fun k10 =>
    (s3[k10]?).bind fun x11 =>
    cond (decide (((List.length x11:Nat):Int)>0))
    ((inR (IntKind.wrap .i64 ((-1) - e)) 48).bind fun k12 =>
     (s3[k12]?).bind fun x13 =>
     (rf (s0,x13,s3)).bind fun r14 =>
     cond r14
     (some (Sum.inr true))
     (zU rf s0 s3 es))
    (zU rf s0 s3 es)))
theorem zed (rf:((Int×jI×jR)→Option Bool)) (s0:Int) (s1:jI) (s3:jR) (hl:List.length s1≤maxLen):∀(es:List Int) (i:Nat) (k:Nat),s1.drop i=es→es.length<k→lp (ya rf) k (s0,s1,(i:Int),s3)=zU rf s0 s3 es:=by
 intro es
 induction es with
 | nil =>
  intro i k h hk
  obtain⟨k,rfl⟩:∃ k',k=k'+1:=⟨k - 1,by omega⟩
  rw[zk]
  generalize lp (ya rf) k=rec
  unfold ya zU
  simp only[zu (zm h),cond_false]
 | cons e es ih =>
  intro i k h hk
  obtain⟨k,rfl⟩:∃ k',k=k'+1:=⟨k - 1,by omega⟩
  rw[zk]
  have hi:=zl h
  have hk2:es.length<k:=Nat.lt_of_succ_lt_succ hk
  have key:=fun (_:Unit)=>ih (i+1) k (zh h) hk2
  generalize lp (ya rf) k=rec at key ⊢
  unfold ya zU
  simp only[zE hi,cond_true,zJ,zj h,Option.bind_some,zF hi hl,key ()]
theorem zd2 (rf:((Int×jI×jR)→Option Bool)) (s0:Int) (s1:jI) (s3:jR) (hl:List.length s1≤maxLen):lp (ya rf) zp (s0,s1,0,s3)=zU rf s0 s3 s1 :=
 zed rf s0 s1 s3 hl s1 0 zp rfl (Nat.lt_of_le_of_lt hl (by decide))
def z5 (rf:(((jS×jI×jI×jR)→Option (Bool×jR))×((jS×jR×jR×jR)→Option (Bool×jR)))) (s0:jS) (s2:jR):List jI→Nat→jR→Option (jR⊕(Bool×jR))
 | [],i,s4=>some (Sum.inl s4)
 | e::es,i,s4 =>
  (gx s2 (i:Int)).bind fun e8 =>
  (rf.1 (s0,e,e8,s4)).bind fun r9 =>
  cond (!r9.1)
  (some (Sum.inr (false,r9.2)))
  (z5 rf s0 s2 es (i+1) r9.2)
theorem zev (rf:(((jS×jI×jI×jR)→Option (Bool×jR))×((jS×jR×jR×jR)→Option (Bool×jR)))) (s0:jS) (s1:jR) (s2:jR) (hl:List.length s1≤maxLen):∀(es:List jI) (i:Nat) (k:Nat) (s4:jR),s1.drop i=es→es.length<k→lp (yg rf) k (s0,s1,s2,(i:Int),s4)=z5 rf s0 s2 es i s4:=by
 intro es
 induction es with
 | nil =>
  intro i k s4 h hk
  obtain⟨k,rfl⟩:∃ k',k=k'+1:=⟨k - 1,by omega⟩
  rw[zk]
  generalize lp (yg rf) k=rec
  unfold yg z5
  simp only[zu (zm h),cond_false]
 | cons e es ih =>
  intro i k s4 h hk
  obtain⟨k,rfl⟩:∃ k',k=k'+1:=⟨k - 1,by omega⟩
  rw[zk]
  have hi:=zl h
  have hk2:es.length<k:=Nat.lt_of_succ_lt_succ hk
  have key:=fun s4=>ih (i+1) k s4 (zh h) hk2
  generalize lp (yg rf) k=rec at key ⊢
  unfold yg z5
  simp only[zE hi,cond_true,zJ,zj h,Option.bind_some,zF hi hl,key]
theorem zea (rf:(((jS×jI×jI×jR)→Option (Bool×jR))×((jS×jR×jR×jR)→Option (Bool×jR)))) (s0:jS) (s1:jR) (s2:jR) (s4:jR) (hl:List.length s1≤maxLen):lp (yg rf) zp (s0,s1,s2,0,s4)=z5 rf s0 s2 s1 0 s4 :=
 zev rf s0 s1 s2 hl s1 0 zp s4 rfl (Nat.lt_of_le_of_lt hl (by decide))
def zR (rf:((jI×jR×jI)→Option jI)) (s2:jR):List Int→jI→Option jI
 | [],s3=>some s3
 | e::es,s3 =>
  cond (decide (((List.length s3:Nat):Int)≤48))
  (cond (decide (e<0))
   ((inR (IntKind.wrap .i64 ((-1) - e)) 48).bind fun k21 =>
    (s2[k21]?).bind fun x22 =>
    cond (decide (((List.length x22:Nat):Int)>0))
    ((inR (IntKind.wrap .i64 ((-1) - e)) 48).bind fun k24 =>
     (s2[k24]?).bind fun x25 =>
     (rf (x25,s2,s3)).bind fun r26 =>
     zR rf s2 es r26)
    (cond (yY (List.length s3+List.length ([e]:List Int)) 8)
     (zR rf s2 es (s3++([e]:List Int)))
     (none)))
   (cond (yY (List.length s3+List.length ([e]:List Int)) 8)
    (zR rf s2 es (s3++([e]:List Int)))
    (none)))
  (some s3)
theorem zee (rf:((jI×jR×jI)→Option jI)) (s0:jI) (s2:jR) (hl:List.length s0≤maxLen):∀(es:List Int) (i:Nat) (k:Nat) (s3:jI),s0.drop i=es→es.length<k→lp (yb rf) k (s0,(i:Int),s2,s3)=zR rf s2 es s3:=by
 intro es
 induction es with
 | nil =>
  intro i k s3 h hk
  obtain⟨k,rfl⟩:∃ k',k=k'+1:=⟨k - 1,by omega⟩
  rw[zk]
  generalize lp (yb rf) k=rec
  unfold yb zR
  simp only[zu (zm h),cond_false]
 | cons e es ih =>
  intro i k s3 h hk
  obtain⟨k,rfl⟩:∃ k',k=k'+1:=⟨k - 1,by omega⟩
  rw[zk]
  have hi:=zl h
  have hk2:es.length<k:=Nat.lt_of_succ_lt_succ hk
  have key:=fun s3=>ih (i+1) k s3 (zh h) hk2
  generalize lp (yb rf) k=rec at key ⊢
  unfold yb zR
  simp only[zE hi,cond_true,zJ,zj h,Option.bind_some,zF hi hl,key]
theorem zdN (rf:((jI×jR×jI)→Option jI)) (s0:jI) (s2:jR) (s3:jI) (hl:List.length s0≤maxLen):lp (yb rf) zp (s0,0,s2,s3)=zR rf s2 s0 s3 :=
 zee rf s0 s2 hl s0 0 zp s3 rfl (Nat.lt_of_le_of_lt hl (by decide))
def qA (s0:jQ) (s1:Int) (s4:jQ):List zt→Nat→Bool→Option (Bool×jQ)
 | [],i,s2=>some (s2,s4)
 | e::es,i,s2 =>
  cond s2
  (qA s0 s1 s4 es (i+1) true)
  ((inR (i:Int) (List.length s4)).bind fun k7 =>
   (s4[k7]?).bind fun x8 =>
   (gx s0 s1).bind fun e9 =>
   (zdg x8.1 x8.2 e9.1 e9.2).bind fun r10 =>
   qA s0 s1 s4 es (i+1) r10)
theorem zjd (s0:jQ) (s1:Int) (s4:jQ) (hl:List.length s4≤maxLen):∀(es:List zt) (i:Nat) (k:Nat) (s2:Bool),s4.drop i=es→es.length<k→lp zaw k (s0,s1,s2,(i:Int),s4)=qA s0 s1 s4 es i s2:=by
 intro es
 induction es with
 | nil =>
  intro i k s2 h hk
  obtain⟨k,rfl⟩:∃ k',k=k'+1:=⟨k - 1,by omega⟩
  rw[zk]
  generalize lp zaw k=rec
  unfold zaw qA
  simp only[zu (zm h),cond_false]
 | cons e es ih =>
  intro i k s2 h hk
  obtain⟨k,rfl⟩:∃ k',k=k'+1:=⟨k - 1,by omega⟩
  rw[zk]
  have hi:=zl h
  have hk2:es.length<k:=Nat.lt_of_succ_lt_succ hk
  have key:=fun s2=>ih (i+1) k s2 (zh h) hk2
  generalize lp zaw k=rec at key ⊢
  unfold zaw qA
  simp only[zE hi,cond_true,zJ,zj h,Option.bind_some,zF hi hl,key]
theorem zh6 (s0:jQ) (s1:Int) (s4:jQ) (s2:Bool) (hl:List.length s4≤maxLen):lp zaw zp (s0,s1,s2,0,s4)=qA s0 s1 s4 s4 0 s2 :=
 zjd s0 s1 s4 hl s4 0 zp s2 rfl (Nat.lt_of_le_of_lt hl (by decide))
def zaa (s0:jQ):List zt→Nat→jQ→Option jQ
 | [],i,s2=>some s2
 | e::es,i,s2 =>
  ((lp zaw zp) (s0,(i:Int),false,0,s2)).bind fun r13 =>
  cond (!r13.1)
  (cond (yY (List.length r13.2+List.length ([(e.1,e.2)]:List zt)) 32)
   (zaa s0 es (i+1) (r13.2++([(e.1,e.2)]:List zt)))
   (none))
  (zaa s0 es (i+1) r13.2)
theorem zjl (s0:jQ) (hl:List.length s0≤maxLen):∀(es:List zt) (i:Nat) (k:Nat) (s2:jQ),s0.drop i=es→es.length<k→lp za1 k (s0,(i:Int),s2)=zaa s0 es i s2:=by
 intro es
 induction es with
 | nil =>
  intro i k s2 h hk
  obtain⟨k,rfl⟩:∃ k',k=k'+1:=⟨k - 1,by omega⟩
  rw[zk]
  generalize lp za1 k=rec
  unfold za1 zaa
  simp only[zu (zm h),cond_false]
 | cons e es ih =>
  intro i k s2 h hk
  obtain⟨k,rfl⟩:∃ k',k=k'+1:=⟨k - 1,by omega⟩
  rw[zk]
  have hi:=zl h
  have hk2:es.length<k:=Nat.lt_of_succ_lt_succ hk
  have key:=fun s2=>ih (i+1) k s2 (zh h) hk2
  generalize lp za1 k=rec at key ⊢
  unfold za1 zaa
  simp only[zE hi,cond_true,zJ,zj h,Option.bind_some,zF hi hl,key]
theorem zid (s0:jQ) (s2:jQ) (hl:List.length s0≤maxLen):lp za1 zp (s0,0,s2)=zaa s0 s0 0 s2 :=
 zjl s0 hl s0 0 zp s2 rfl (Nat.lt_of_le_of_lt hl (by decide))
def qG (s0:Int) (s4:jR) (s6:jQ) (s7:jQ) (s8:jR):List jI→Nat→Bool→Option (Bool×jQ×jQ×jR)
 | [],i,s1=>some (s1,s6,s7,s8)
 | e::es,i,s1 =>
  cond s1
  (qG s0 s4 s6 s7 s8 es (i+1) true)
  ((inR (i:Int) (List.length s8)).bind fun k9 =>
   (s8[k9]?).bind fun x10 =>
   (gx s4 s0).bind fun e11 =>
   (zdQ x10 e11).bind fun r12 =>
   qG s0 s4 s6 s7 s8 es (i+1) r12)
theorem zi3 (s0:Int) (s3:jQ) (s4:jR) (s5:jQ) (s6:jQ) (s7:jQ) (s8:jR) (hl:List.length s8≤maxLen):∀(es:List jI) (i:Nat) (k:Nat) (s1:Bool),s8.drop i=es→es.length<k→lp zar k (s0,s1,(i:Int),s3,s4,s5,s6,s7,s8)=qG s0 s4 s6 s7 s8 es i s1:=by
 intro es
 induction es with
 | nil =>
  intro i k s1 h hk
  obtain⟨k,rfl⟩:∃ k',k=k'+1:=⟨k - 1,by omega⟩
  rw[zk]
  generalize lp zar k=rec
  unfold zar qG
  simp only[zu (zm h),cond_false]
 | cons e es ih =>
  intro i k s1 h hk
  obtain⟨k,rfl⟩:∃ k',k=k'+1:=⟨k - 1,by omega⟩
  rw[zk]
  have hi:=zl h
  have hk2:es.length<k:=Nat.lt_of_succ_lt_succ hk
  have key:=fun s1=>ih (i+1) k s1 (zh h) hk2
  generalize lp zar k=rec at key ⊢
  unfold zar qG
  simp only[zE hi,cond_true,zJ,zj h,Option.bind_some,zF hi hl,key]
theorem zhZ (s0:Int) (s3:jQ) (s4:jR) (s5:jQ) (s6:jQ) (s7:jQ) (s8:jR) (s1:Bool) (hl:List.length s8≤maxLen):lp zar zp (s0,s1,0,s3,s4,s5,s6,s7,s8)=qG s0 s4 s6 s7 s8 s8 0 s1 :=
 zi3 s0 s3 s4 s5 s6 s7 s8 hl s8 0 zp s1 rfl (Nat.lt_of_le_of_lt hl (by decide))
def zaD (s0:jR) (s2:jQ) (s3:jR) (s4:jQ):List jI→Nat→(List (Int×jI))→Option (List (Int×jI))
 | [],i,s5=>some s5
 | e::es,i,s5 =>
  ((lp za2 zp) (s0,(i:Int),0,s2,s3,s4,s5)).bind fun r35 =>
  zaD s0 s2 s3 s4 es (i+1) r35
theorem ziH (s0:jR) (s2:jQ) (s3:jR) (s4:jQ) (hl:List.length s0≤maxLen):∀(es:List jI) (i:Nat) (k:Nat) (s5:(List (Int×jI))),s0.drop i=es→es.length<k→lp zaW k (s0,(i:Int),s2,s3,s4,s5)=zaD s0 s2 s3 s4 es i s5:=by
 intro es
 induction es with
 | nil =>
  intro i k s5 h hk
  obtain⟨k,rfl⟩:∃ k',k=k'+1:=⟨k - 1,by omega⟩
  rw[zk]
  generalize lp zaW k=rec
  unfold zaW zaD
  simp only[zu (zm h),cond_false]
 | cons e es ih =>
  intro i k s5 h hk
  obtain⟨k,rfl⟩:∃ k',k=k'+1:=⟨k - 1,by omega⟩
  rw[zk]
  have hi:=zl h
  have hk2:es.length<k:=Nat.lt_of_succ_lt_succ hk
  have key:=fun s5=>ih (i+1) k s5 (zh h) hk2
  generalize lp zaW k=rec at key ⊢
  unfold zaW zaD
  simp only[zE hi,cond_true,zJ,zj h,Option.bind_some,zF hi hl,key]
theorem zix (s0:jR) (s2:jQ) (s3:jR) (s4:jQ) (s5:(List (Int×jI))) (hl:List.length s0≤maxLen):lp zaW zp (s0,0,s2,s3,s4,s5)=zaD s0 s2 s3 s4 s0 0 s5 :=
 ziH s0 s2 s3 s4 hl s0 0 zp s5 rfl (Nat.lt_of_le_of_lt hl (by decide))
def zae (s1:jQ) (s2:jR) (s3:jQ):List jI→Nat→jQ→jQ→jR→Option (jQ×jQ×jR)
 | [],i,s4,s5,s6=>some (s4,s5,s6)
 | e::es,i,s4,s5,s6 =>
  ((lp zar zp) ((i:Int),false,0,s1,s2,s3,s4,s5,s6)).bind fun r17 =>
  cond (!r17.1)
  (cond (yY (List.length r17.2.2.2+List.length ([e]:List jI)) 24)
   (zae s1 s2 s3 es (i+1) r17.2.1 r17.2.2.1 (r17.2.2.2++([e]:List jI)))
   (none))
  (zae s1 s2 s3 es (i+1) r17.2.1 r17.2.2.1 r17.2.2.2)
theorem zjc (s1:jQ) (s2:jR) (s3:jQ) (hl:List.length s2≤maxLen):∀(es:List jI) (i:Nat) (k:Nat) (s4:jQ) (s5:jQ) (s6:jR),s2.drop i=es→es.length<k→lp zaR k ((i:Int),s1,s2,s3,s4,s5,s6)=zae s1 s2 s3 es i s4 s5 s6:=by
 intro es
 induction es with
 | nil =>
  intro i k s4 s5 s6 h hk
  obtain⟨k,rfl⟩:∃ k',k=k'+1:=⟨k - 1,by omega⟩
  rw[zk]
  generalize lp zaR k=rec
  unfold zaR zae
  simp only[zu (zm h),cond_false]
 | cons e es ih =>
  intro i k s4 s5 s6 h hk
  obtain⟨k,rfl⟩:∃ k',k=k'+1:=⟨k - 1,by omega⟩
  rw[zk]
  have hi:=zl h
  have hk2:es.length<k:=Nat.lt_of_succ_lt_succ hk
  have key:=fun s4 s5 s6=>ih (i+1) k s4 s5 s6 (zh h) hk2
  generalize lp zaR k=rec at key ⊢
  unfold zaR zae
  simp only[zE hi,cond_true,zJ,zj h,Option.bind_some,zF hi hl,key]
theorem ziv (s1:jQ) (s2:jR) (s3:jQ) (s4:jQ) (s5:jQ) (s6:jR) (hl:List.length s2≤maxLen):lp zaR zp (0,s1,s2,s3,s4,s5,s6)=zae s1 s2 s3 s2 0 s4 s5 s6 :=
 zjc s1 s2 s3 hl s2 0 zp s4 s5 s6 rfl (Nat.lt_of_le_of_lt hl (by decide))
end Go.Abs.Q
namespace Go.Abs.Q
open Go Go.Abs
section
theorem zs2 (b:List Int):(es:List Int)→(i:Nat)→i+es.length=b.length→zaE b es i=some (cond (decide (es=b.drop i)) (.inl ()) (.inr false))
 | [],i,h=>by
  rw[List.drop_of_length_le (by simp at h; omega)]
  rfl
 | e::es,i,h=>by
  simp only[List.length_cons] at h
  obtain⟨x,hx⟩:∃ x,b[i]? = some x:=⟨_,List.getElem?_eq_getElem (by omega)⟩
  have hd:b.drop i=x::b.drop (i+1):=by
   have h1:=(List.getElem?_eq_some_iff.1 hx).1
   rw[List.drop_eq_getElem_cons h1]
   rw[(List.getElem?_eq_some_iff.1 hx).2]
  unfold zaE
  rw[zJ,hx,Option.bind_some,zs2 b es (i+1) (by omega),hd]
  by_cases he:e=x
  ·subst he
   rw[show (e != e)=false from by simp,cond_false]
   simp
  ·rw[show (e != x)=true from by simp [he],cond_true]
   simp [he]
theorem zoK {a b:List Int} (h:a.length≤1000000):zdQ a b=some (decide (a=b)):=by
 unfold zdQ
 by_cases hl:a.length=b.length
 ·rw[show (((List.length a:Nat):Int) != ((List.length b:Nat):Int))=false from by simp [hl],cond_false,zil _ _ (by unfold maxLen; omega),zs2 b a 0 (by omega),Option.bind_some,List.drop_zero]
  cases decide (a=b)<;>rfl
 ·rw[show (((List.length a:Nat):Int) != ((List.length b:Nat):Int))=true from by simp; omega,cond_true]
  have:a≠b:=fun e=>hl (by rw[e])
  simp [this]
def zHC (o:Option Tm):List Int:=match o with
 | none=>[]
 | some t=>t.codes
structure RepW (a0:List zQ) (w:List jI) (B:Bd):Prop where
 len:w.length=48
 at_:∀ x,x<48→w[x]? = some (zHC (B x))
 ok:∀ x t,B x=some t→x<24∧t.ok a0 24∧t.codes.length≤48
theorem RepW.small {a0:List zQ} {w:List jI} {B:Bd} (h:RepW a0 w B):zkK B:=fun x t ht=>by
 obtain⟨h1,h2,h3⟩:=h.ok x t ht
 rw[Tm.codes_len] at h3
 exact ⟨by omega,h3⟩
theorem RepW.set {a0:List zQ} {w:List jI} {B:Bd} (h:RepW a0 w B) {x:Nat} (hx:x<24) {t:Tm} (ht:t.ok a0 24) (hl:t.codes.length≤48):RepW a0 (w.set x t.codes) (zCq B x t) where
 len:=by rw[List.length_set]; exact h.len
 at_:=fun y hy=>by
  have:=h.len
  by_cases he:y=x
  ·subst he
   rw[List.getElem?_set_self (by omega),zc4]
   rfl
  ·rw[List.getElem?_set_ne (Ne.symm he),zfr _ _ he]
   exact h.at_ y hy
 ok:=fun y u hy=>by
  by_cases he:y=x
  ·subst he
   rw[zc4] at hy
   injection hy with hy
   subst hy
   exact ⟨hx,ht,hl⟩
  ·rw[zfr _ _ he] at hy
   exact h.ok y u hy
theorem ziR (t:Tm):0<t.codes.length:=by rw[Tm.codes_len]; exact t.size_pos
section
variable {a0:List zQ} {w:List jI} {B:Bd} {σ:Sb} (hT:RepW a0 w B) (hG:Good B σ)
include hT hG
theorem zCO:∀(m k:Nat) (t:Tm),zhq t≤m→m≤k→t.ok a0 24→t.codes.length≤48 →
  ∃ u:Tm,lp zaj k (t.codes,w)=some u.codes∧u.ok a0 24∧u.codes.length≤48∧(∀ θ,SolB θ B→t.sub θ=u.sub θ)∧∀ y,u = .v y→B y=none:=by
 intro m
 induction m with
 | zero=>intro k t hm; cases t<;>simp [zhq] at hm
 | succ m ih =>
  intro k t hm hk ho hl
  obtain⟨k,rfl⟩:∃ k',k=k'+1:=⟨k - 1,by omega⟩
  rw[zk]
  have key:=fun t (h1:zhq t≤m) h2 h3=>ih k t h1 (by omega) h2 h3
  generalize lp zaj k=rec at key ⊢
  unfold zaj
  cases t with
  | v x =>
   have hx:x<24:=ho
   have hc:(Tm.v x).codes=[-1 - (x:Int)]:=rfl
   have w1:IntKind.wrap .i64 ((-1) - (-1 - (x:Int)))=(x:Int):=by rw[zT]<;>omega
   rw[hc]
   simp only[List.length_cons,List.length_nil,qK,List.getElem?_cons_zero,Option.bind_some,w1]
   rw[show ((((0+1:Nat):Int))==1)=true from rfl,cond_true,decide_eq_true (show -1 - (x:Int)<0 by omega),cond_true,zap (show x<48 by omega),Option.bind_some,hT.at_ x (by omega),Option.bind_some]
   cases hb:B x with
   | none =>
    refine ⟨.v x,rfl,ho,hl,fun θ _=>rfl,fun y hy=>by injection hy with hy; rw[← hy]; exact hb⟩
   | some u =>
    obtain⟨-,h2,h3⟩:=hT.ok x u hb
    have hp:=ziR u
    show ∃ u1,(cond (decide (((List.length u.codes:Nat):Int)>0)) _ _)=_∧_
    rw[decide_eq_true (show ((List.length u.codes:Nat):Int)>0 by omega),cond_true]
    obtain⟨u',g1,g2,g3,g4,g5⟩:=key u (by
     cases u with
     | v y=>have:=hG.down _ y hb; simp only[zhq] at hm ⊢; omega
     | f c as=>simp only[zhq] at hm ⊢; omega) h2 h3
    refine ⟨u',?_,g2,g3,fun θ hθ=>(hθ _ u hb).trans (g4 θ hθ),g5⟩
    show (w[x]?).bind _=_
    rw[hT.at_ x (by omega),hb]
    exact g1
  | f c as =>
   refine ⟨.f c as,?_,ho,hl,fun θ _=>rfl,fun y hy=>by cases hy⟩
   have hc:(Tm.f c as).codes=(c:Int)::zD as:=rfl
   rw[hc]
   simp only[qK,List.getElem?_cons_zero,Option.bind_some]
   rw[decide_eq_false (show ¬(c:Int)<0 by omega),cond_false]
   cases (((List.length ((c:Int)::zD as):Nat):Int)==1)<;>rfl
theorem zpM {t:Tm} (ho:t.ok a0 24) (hl:t.codes.length≤48) :
  ∃ u:Tm,zbQ t.codes w=some u.codes∧u.ok a0 24∧u.codes.length≤48∧(∀ θ,SolB θ B→t.sub θ=u.sub θ)∧∀ y,u = .v y→B y=none:=by
 obtain⟨u,h1,h2⟩:=zCO hT hG (zhq t) zp t (Nat.le_refl _) (by
  cases t with
  | v x=>have:x<24:=ho; simp only[zhq]; unfold zp; omega
  | f c as=>simp only[zhq]; unfold zp; omega) ho hl
 refine ⟨u,?_,h2⟩
 unfold zbQ
 rw[h1]
 rfl
theorem zt9 {v:Nat} (hv0:B v=none):∀(k m:Nat) (es:List Int),(∀ c∈es,-24≤c)→es.length≤1000→(∀ c∈es,c<0→B (-1 - c).toNat≠none→Good.rank σ (-1 - c).toNat<m)→m<k →
  ∃ b,yA k ((v:Int),es,w)=some b∧(b=true↔∃ c∈es,c<0∧(σ (-1 - c).toNat).has v):=by
 intro k
 induction k with
 | zero=>intro m es _ _ _ h; omega
 | succ k ih =>
  intro m es hc hl hr hm
  show ∃ b,zcf (yA k) (v:Int) es w=some b∧_
  unfold zcf
  rw[zd2 _ _ _ _ (by unfold maxLen; omega)]
  have go:∀ es:List Int,(∀ c∈es,-24≤c)→(∀ c∈es,c<0→B (-1 - c).toNat≠none→Good.rank σ (-1 - c).toNat<m) →
    ∃ b,zU (yA k) (v:Int) w es=some (cond b (.inr true) (.inl ()))∧(b=true↔∃ c∈es,c<0∧(σ (-1 - c).toNat).has v):=by
   intro es
   induction es with
   | nil=>intro _ _; exact ⟨false,rfl,by simp⟩
   | cons e es ihe =>
    intro hc hr
    obtain⟨b,g1,g2⟩:=ihe (fun c h=>hc c (List.mem_cons_of_mem _ h)) fun c h=>hr c (List.mem_cons_of_mem _ h)
    have he:=hc e (List.mem_cons_self ..)
    unfold zU
    by_cases h0:e≥0
    ·rw[decide_eq_true h0,cond_true]
     refine ⟨b,g1,g2.trans ?_⟩
     constructor
     ·rintro⟨c,h1,h2⟩; exact ⟨c,List.mem_cons_of_mem _ h1,h2⟩
     ·rintro⟨c,h1,h2,h3⟩
      rcases List.mem_cons.1 h1 with rfl | h1
      ·omega
      ·exact ⟨c,h1,h2,h3⟩
    ·rw[decide_eq_false h0,cond_false]
     obtain⟨u,rfl⟩:∃ u:Nat,e = -1 - (u:Int):=⟨(-1 - e).toNat,by omega⟩
     have hu:u<24:=by omega
     have hn:(-1 - (-1 - (u:Int))).toNat=u:=by omega
     have w1:IntKind.wrap .i64 ((-1) - (-1 - (u:Int)))=(u:Int):=by rw[zT]<;>omega
     rw[w1]
     by_cases huv:u=v
     ·subst huv
      rw[show (((u:Nat):Int)==((u:Nat):Int))=true from by simp,cond_true]
      exact ⟨true,rfl,⟨fun _=>⟨_,List.mem_cons_self ..,by omega,by rw[hn,hG.free _ hv0]; rfl⟩,fun _=>rfl⟩⟩
     ·rw[show (((u:Nat):Int)==((v:Nat):Int))=false from by simp; omega,cond_false]
      simp only[zap (show u<48 by omega),Option.bind_some,hT.at_ u (by omega)]
      cases hb:B u with
      | none =>
       show ∃ b,(cond (decide (((List.length ([]:List Int):Nat):Int)>0)) _ _)=_∧_
       refine ⟨b,g1,g2.trans ?_⟩
       constructor
       ·rintro⟨c,h1,h2⟩; exact ⟨c,List.mem_cons_of_mem _ h1,h2⟩
       ·rintro⟨c,h1,h2,h3⟩
        rcases List.mem_cons.1 h1 with rfl | h1
        ·rw[hn,hG.free _ hb] at h3
         have h3:u=v:=h3
         exact absurd h3 huv
        ·exact ⟨c,h1,h2,h3⟩
      | some t =>
       obtain⟨-,h2,h3⟩:=hT.ok u t hb
       have hp:=ziR t
       show ∃ b,(cond (decide (((List.length t.codes:Nat):Int)>0)) _ _)=_∧_
       rw[decide_eq_true (show ((List.length t.codes:Nat):Int)>0 by omega),cond_true]
       have hcodes:∀ c∈t.codes,-24≤c∧(c<0→t.has (-1 - c).toNat):=fun c hcm=>by
        have h1:c∈zD [t]:=by simp [zD,hcm]
        by_cases hc0:c<0
        ·have h4:=(zdH hc0 [t]).1 h1
         have h5:t.has (-1 - c).toNat:=by rcases h4 with h4 | h4; exact h4; exact absurd h4 (by simp [zl9])
         have h6:=Tm.ok_has t h2 h5
         exact ⟨by omega,fun _=>h5⟩
        ·exact ⟨by omega,fun h=>absurd h hc0⟩
       obtain⟨b1,k1,k2⟩:=ih (Good.rank σ u) t.codes (fun c h=>(hcodes c h).1) (by omega) (fun c hcm h0 _=>hG.rank_lt hb ((hcodes c hcm).2 h0) (by have:=(hcodes c hcm).1; omega)) (by
        have:=hr _ (List.mem_cons_self ..) (by omega) (by rw[hn,hb]; simp)
        rw[hn] at this
        omega)
       have k1:yA k ((v:Int),zHC (some t),w)=some b1:=k1
       rw[k1,Option.bind_some]
       have hb1:b1=true↔(σ u).has v:=by
        rw[k2,hG.bound u t hb,Tm.has_sub]
        constructor
        ·rintro⟨c,h4,h5,h6⟩
         exact ⟨_,(hcodes c h4).2 h5,h6⟩
        ·rintro⟨y,h4,h5⟩
         refine ⟨-1 - (y:Int),?_,by omega,by rw[show (-1 - (-1 - (y:Int))).toNat=y by omega]; exact h5⟩
         have:=(zdH (c := -1 - (y:Int)) (by omega) [t]).2 (by rw[show (-1 - (-1 - (y:Int))).toNat=y by omega]; exact .inl h4)
         simpa[zD] using this
       cases b1 with
       | true =>
        refine ⟨true,rfl,⟨fun _=>⟨_,List.mem_cons_self ..,by omega,?_⟩,fun _=>rfl⟩⟩
        rw[hn]
        exact hb1.1 rfl
       | false =>
        refine ⟨b,g1,g2.trans ?_⟩
        constructor
        ·rintro⟨c,h1,h2⟩; exact ⟨c,List.mem_cons_of_mem _ h1,h2⟩
        ·rintro⟨c,h1,h2,h3⟩
         rcases List.mem_cons.1 h1 with rfl | h1
         ·rw[hn] at h3
          exact absurd (hb1.2 h3) (by simp)
         ·exact ⟨c,h1,h2,h3⟩
  obtain⟨b,g1,g2⟩:=go es hc hr
  rw[g1,Option.bind_some]
  exact ⟨b,by cases b<;>rfl,g2⟩
end
end
end Go.Abs.Q
namespace Go.Abs.Q
open Go Go.Abs
section
structure Qf (out E r:List Int):Prop where
 fits:out.length+E.length≤48→r=out++E
 over:48<out.length+E.length→48<r.length
 len:r.length≤max out.length 49
theorem Qf.step {out E1 E2 r1 r:List Int} (h:Qf out E1 r1) (h':Qf r1 E2 r):Qf out (E1++E2) r where
 fits:=fun hl=>by
  rw[List.length_append] at hl
  have e:=h.fits (by omega)
  have e2:=h'.fits (by rw[e,List.length_append]; omega)
  rw[e2,e,List.append_assoc]
 over:=fun hl=>by
  rw[List.length_append] at hl
  by_cases h1:out.length+E1.length≤48
  ·have e:=h.fits h1
   refine h'.over ?_
   rw[e,List.length_append]; omega
  ·exact h'.over (by have:=h.over (by omega); omega)
 len:=by have:=h.len; have:=h'.len; omega
theorem Qf.full {out E:List Int} (h:48<out.length):Qf out E out:=⟨fun hl=>by omega,fun _=>h,by omega⟩
theorem Qf.one {out:List Int} (c:Int) (h:out.length≤48):Qf out [c] (out++[c]):=⟨fun _=>rfl,fun hl=>by rw[List.length_append]; exact hl,by rw[List.length_append]; simp; omega⟩
theorem Qf.nil (out:List Int):Qf out [] out:=⟨fun _=>by simp,fun h=>by simpa using h,by omega⟩
theorem zhh {a0:List zQ} {t:Tm} (ho:t.ok a0 24):∀ c∈t.codes,-24≤c∧(c<0→t.has (-1 - c).toNat):=fun c hcm=>by
 by_cases hc0:c<0
 ·have h5:=(Tm.mem_codes hc0 t).1 hcm
  have h6:=Tm.ok_has t ho h5
  exact ⟨by omega,fun _=>h5⟩
 ·exact ⟨by omega,fun h=>absurd h hc0⟩
section
variable {a0:List zQ} {w:List jI} {B:Bd} {σ:Sb} (hT:RepW a0 w B) (hG:Good B σ)
include hT hG
theorem zBw:∀(k m:Nat) (es out:List Int),(∀ c∈es,-24≤c)→es.length≤1000→(∀ c∈es,c<0→B (-1 - c).toNat≠none→Good.rank σ (-1 - c).toNat<m)→m<k→out.length≤1000 →
  ∃ r,yi k (es,w,out)=some r∧Qf out (es.flatMap (zgR σ)) r:=by
 intro k
 induction k with
 | zero=>intro m es out _ _ _ h; omega
 | succ k ih =>
  intro m es out hc hl hr hm ho
  show ∃ r,zcc (yi k) es w out=some r∧_
  unfold zcc
  rw[zdN _ _ _ _ (by unfold maxLen; omega)]
  have go:∀(es out:List Int),(∀ c∈es,-24≤c)→(∀ c∈es,c<0→B (-1 - c).toNat≠none→Good.rank σ (-1 - c).toNat<m)→out.length≤1000 →
    ∃ r,zR (yi k) w es out=some r∧Qf out (es.flatMap (zgR σ)) r:=by
   intro es
   induction es with
   | nil=>intro out _ _ _; exact ⟨out,rfl,Qf.nil out⟩
   | cons e es ihe =>
    intro out hc hr ho
    have ihe:=fun out ho=>ihe out (fun c h=>hc c (List.mem_cons_of_mem _ h)) (fun c h=>hr c (List.mem_cons_of_mem _ h)) ho
    have he:=hc e (List.mem_cons_self ..)
    unfold zR
    by_cases h48:out.length≤48
    ·rw[decide_eq_true (show ((List.length out:Nat):Int)≤48 by omega),cond_true,List.flatMap_cons]
     have plain:zgR σ e=[e]→∃ r,(cond (yY (List.length out+List.length ([e]:List Int)) 8) (zR (yi k) w es (out++([e]:List Int))) none)=some r∧Qf out (zgR σ e++es.flatMap (zgR σ)) r:=fun hx=>by
      obtain⟨r,g1,g2⟩:=ihe (out++[e]) (by simp; omega)
      rw[zP (by simp; omega),cond_true,g1,hx]
      exact ⟨r,rfl,(Qf.one e h48).step g2⟩
     by_cases h0:e<0
     ·rw[decide_eq_true h0,cond_true]
      obtain⟨u,rfl⟩:∃ u:Nat,e = -1 - (u:Int):=⟨(-1 - e).toNat,by omega⟩
      have hu:u<24:=by omega
      have hn:(-1 - (-1 - (u:Int))).toNat=u:=by omega
      have w1:IntKind.wrap .i64 ((-1) - (-1 - (u:Int)))=(u:Int):=by rw[zT]<;>omega
      rw[w1]
      simp only[zap (show u<48 by omega),Option.bind_some,hT.at_ u (by omega)]
      cases hb:B u with
      | none =>
       show ∃ r,(cond (decide (((List.length ([]:List Int):Nat):Int)>0)) _ _)=_∧_
       refine plain ?_
       unfold zgR
       rw[if_pos h0,hn,hG.free u hb]
       rfl
      | some t =>
       obtain⟨-,h2,h3⟩:=hT.ok u t hb
       have hp:=ziR t
       show ∃ r,(cond (decide (((List.length t.codes:Nat):Int)>0)) _ _)=_∧_
       rw[decide_eq_true (show ((List.length t.codes:Nat):Int)>0 by omega),cond_true]
       have hcodes:=zhh h2
       obtain⟨r1,k1,k2⟩:=ih (Good.rank σ u) t.codes out (fun c h=>(hcodes c h).1) (by omega) (fun c hcm h0 _=>hG.rank_lt hb ((hcodes c hcm).2 h0) (by have:=(hcodes c hcm).1; omega)) (by
        have:=hr _ (List.mem_cons_self ..) (by omega) (by rw[hn,hb]; simp)
        rw[hn] at this
        omega) ho
       have k1:yi k (zHC (some t),w,out)=some r1:=k1
       rw[k1,Option.bind_some]
       obtain⟨r,g1,g2⟩:=ihe r1 (by have:=k2.len; omega)
       refine ⟨r,g1,Qf.step (r1:=r1) ?_ g2⟩
       have:zgR σ (-1 - (u:Int))=t.codes.flatMap (zgR σ):=by
        unfold zgR
        rw[if_pos h0,hn,hG.bound u t hb,Tm.codes_sub]
        rfl
       rw[this]
       exact k2
     ·rw[decide_eq_false h0,cond_false]
      refine plain ?_
      unfold zgR
      rw[if_neg h0]
    ·rw[decide_eq_false (show ¬((List.length out:Nat):Int)≤48 by omega),cond_false]
     exact ⟨out,rfl,Qf.full (by omega)⟩
  obtain⟨r,g1,g2⟩:=go es out hc hr ho
  rw[g1,Option.bind_some]
  exact ⟨r,rfl,g2⟩
theorem zzD {t:Tm} (ho:t.ok a0 24) (hl:t.codes.length≤48):∃ r,zb0 t.codes w []=some r∧Qf [] (t.sub σ).codes r:=by
 rw[Tm.codes_sub]
 refine zBw hT hG zp 100 t.codes [] (fun c h=>(zhh ho c h).1) (by omega) (fun c _ _ _ => ?_) (by unfold zp; omega) (by simp)
 have:=Good.rank_le σ (-1 - c).toNat
 omega
theorem zr2 {v:Nat} (hv0:B v=none) {t:Tm} (ho:t.ok a0 24) (hl:t.codes.length≤48):∃ b,zcJ (v:Int) t.codes w=some b∧(b=true↔(t.sub σ).has v):=by
 obtain⟨b,h1,h2⟩:=zt9 hT hG hv0 zp 100 t.codes (fun c h=>(zhh ho c h).1) (by omega) (fun c _ _ _=>by have:=Good.rank_le σ (-1 - c).toNat; omega) (by unfold zp; omega)
 refine ⟨b,h1,h2.trans ?_⟩
 rw[Tm.has_sub]
 constructor
 ·rintro⟨c,h4,h5,h6⟩
  exact ⟨_,(zhh ho c h4).2 h5,h6⟩
 ·rintro⟨y,h4,h5⟩
  refine ⟨-1 - (y:Int),(Tm.mem_codes (by omega) t).2 (by rw[show (-1 - (-1 - (y:Int))).toNat=y by omega]; exact h4),by omega,by rw[show (-1 - (-1 - (y:Int))).toNat=y by omega]; exact h5⟩
end
structure OutW (a0:List zQ) (B:Bd) (E:List (Tm×Tm)) (r:Bool×List jI):Prop where
 yes:r.1=true→∃ B' σ',RepW a0 r.2 B'∧Good B' σ'∧∀ θ,SolB θ B'↔SolB θ B∧Sol θ E
 no:r.1=false→∀ θ,SolB θ B→Sol θ E→False
theorem zcN {θ:Sb} {t u:Tm}:Sol θ [(t,u)]↔t.sub θ=u.sub θ:=by simp [Sol]
theorem znw {a0:List zQ} {w:List jI} {B:Bd} {σ:Sb} (hT:RepW a0 w B) (hG:Good B σ) {x:Nat} (hx:x<24) (hb:B x=none) {c:Nat} {as:List Tm} (ho:(Tm.f c as).ok a0 24) (hl:(Tm.f c as).codes.length≤48) :
  ∃ r,zO [-1 - (x:Int)] (Tm.f c as).codes false w=some r∧OutW a0 B [(.v x,.f c as)] r:=by
 unfold zO
 have w1:IntKind.wrap .i64 ((-1) - (-1 - (x:Int)))=(x:Int):=by rw[zT]<;>omega
 simp only[qK,List.getElem?_cons_zero,Option.bind_some,cond_false,w1]
 obtain⟨b,h1,h2⟩:=zr2 hT hG hb ho hl
 rw[h1,Option.bind_some]
 cases b with
 | true =>
  refine ⟨_,rfl,⟨fun h=>(nomatch h),fun _ θ h3 h4=>hG.occurs (h2.1 rfl) h3 (zcN.1 h4)⟩⟩
 | false =>
  simp only[cond_false,zap (show x<48 by omega),Option.bind_some,hT.at_ x (by omega)]
  have hn:¬((Tm.f c as).sub σ).has x:=fun h=>by have:=h2.2 h; cases this
  refine ⟨_,rfl,⟨fun _=>⟨_,_,hT.set hx ho hl,hG.bind hb hn (fun y hy=>by cases hy),fun θ => ?_⟩,fun h=>(nomatch h)⟩⟩
  rw[SolB.upd hb,zcN]
  rfl
theorem zpW {a0:List zQ} {w:List jI} {B:Bd} {σ:Sb} (hT:RepW a0 w B) (hG:Good B σ) {x y:Nat} (hx:x<24) (hy:y<x) (hbx:B x=none) (hby:B y=none) :
  ∃ r,zO [-1 - (y:Int)] [-1 - (x:Int)] true w=some r∧OutW a0 B [(.v x,.v y)] r:=by
 unfold zO
 have w1:IntKind.wrap .i64 ((-1) - (-1 - (x:Int)))=(x:Int):=by rw[zT]<;>omega
 simp only[qK,List.getElem?_cons_zero,Option.bind_some,cond_true,w1,zap (show x<48 by omega),hT.at_ x (by omega)]
 have hn:¬((Tm.v y).sub σ).has x:=by
  show ¬(σ y).has x
  rw[hG.free y hby]
  intro h
  have h:y=x:=h
  omega
 have hset:RepW a0 (w.set x (Tm.v y).codes) (zCq B x (.v y)):=hT.set hx (show y<24 by omega) (by show 1≤48; omega)
 refine ⟨_,rfl,⟨fun _=>⟨_,_,hset,hG.bind hbx hn (fun z hz=>by injection hz with hz; omega),fun θ => ?_⟩,fun h=>(nomatch h)⟩⟩
 rw[SolB.upd hbx,zcN]
 rfl
theorem OutW.via {a0:List zQ} {B:Bd} {E E':List (Tm×Tm)} {r:Bool×List jI} (h:OutW a0 B E r) (he:∀ θ,SolB θ B→(Sol θ E↔Sol θ E')):OutW a0 B E' r where
 yes:=fun hr=>by
  obtain⟨B',σ',h1,h2,h3⟩:=h.yes hr
  exact ⟨B',σ',h1,h2,fun θ=>(h3 θ).trans ⟨fun ⟨a,b⟩=>⟨a,(he θ a).1 b⟩,fun ⟨a,b⟩=>⟨a,(he θ a).2 b⟩⟩⟩
 no:=fun hr θ h1 h2=>h.no hr θ h1 ((he θ h1).2 h2)
def Dep (R:List Tm) (B:Bd) (δ:Nat) (t:Tm):Prop:=∀ θ,SolB θ B→∃ c∈R,δ+(t.sub θ).ht≤(c.sub θ).ht
theorem Dep.mono {R:List Tm} {B B':Bd} {δ:Nat} {t:Tm} (h:Dep R B δ t) (hB:∀ θ,SolB θ B'→SolB θ B):Dep R B' δ t:=fun θ hθ=>h θ (hB θ hθ)
theorem Dep.lt {R:List Tm} {B:Bd} {σ:Sb} {δ:Nat} {t:Tm} (h:Dep R B δ t) (hG:Good B σ) (hS:zkK B) (hR:∀ c∈R,c.size≤48):δ<2500:=by
 obtain⟨c,hc,h1⟩:=h σ hG.bound
 have h2:=Tm.ht_sub (s:=σ) (M:=49*49) c fun x _=>hG.low hS x
 have h3:=c.ht_size
 have h4:=hR c hc
 have h5:=zJB (t.sub σ)
 omega
end
end Go.Abs.Q
namespace Go.Abs.Q
open Go Go.Abs
section
theorem zvI {a0:List zQ} {t u:Tm} (ht:t.ok a0 24) (hu:u.ok a0 24) (h:t.codes=u.codes):t=u:=by
 have:=ztM (a0:=a0) _ [t] [u] (Nat.le_refl _) ⟨ht,trivial⟩ ⟨hu,trivial⟩ (by simp [zD,h])
 injection this
def Sm (a0:List zQ) (t:Tm):Prop:=t.ok a0 24∧t.codes.length≤48
def zAb (a0:List zQ) (R:List Tm) (k:Nat):Prop:=∀(δ:Nat) (w:List jI) (B:Bd) (σ:Sb) (t u:Tm),RepW a0 w B→Good B σ→Sm a0 t→Sm a0 u→Dep R B δ t→2*(2600 - δ)≤k →
 ∃ r,(zS k).1 (a0,t.codes,u.codes,w)=some r∧OutW a0 B [(t,u)] r
def zH8 (a0:List zQ) (R:List Tm) (k:Nat):Prop:=∀(δ:Nat) (w:List jI) (B:Bd) (σ:Sb) (ts us:List Tm),RepW a0 w B→Good B σ→(∀ t∈ts,Sm a0 t)→(∀ t∈us,Sm a0 t)→ts.length=us.length→ts.length≤1000→(∀ t∈ts,Dep R B δ t)→2*(2600 - δ)+1≤k →
 ∃ r,(zS k).2 (a0,ts.map Tm.codes,us.map Tm.codes,w)=some r∧OutW a0 B (ts.zip us) r
theorem zCi {a0:List zQ} {R:List Tm} {k:Nat} (hp:zAb a0 R k):zH8 a0 R (k+1):=by
 intro δ w B σ ts us hT hG hts hus hl hlen hd hk
 show ∃ r,zcu (zS k) a0 (ts.map Tm.codes) (us.map Tm.codes) w=some r∧_
 unfold zcu
 rw[zea _ _ _ _ _ (by rw[List.length_map]; unfold maxLen; omega)]
 have go:∀(ts vs:List Tm) (i:Nat) (w:List jI) (B:Bd) (σ:Sb),RepW a0 w B→Good B σ→us.drop i=vs→(∀ t∈ts,Sm a0 t)→ts.length=vs.length→(∀ t∈ts,Dep R B δ t) →
   (∃ w',z5 (zS k) a0 (us.map Tm.codes) (ts.map Tm.codes) i w=some (.inl w')∧OutW a0 B (ts.zip vs) (true,w')) ∨
   (∃ w',z5 (zS k) a0 (us.map Tm.codes) (ts.map Tm.codes) i w=some (.inr (false,w'))∧OutW a0 B (ts.zip vs) (false,w')):=by
  intro ts
  induction ts with
  | nil =>
   intro vs i w B σ hT hG hdr _ hl _
   exact .inl ⟨w,rfl,⟨fun _=>⟨B,σ,hT,hG,fun θ=>⟨fun h=>⟨h,Sol.nil⟩,fun h=>h.1⟩⟩,fun h=>(nomatch h)⟩⟩
  | cons t ts ih =>
   intro vs i w B σ hT hG hdr hts hl hd
   cases vs with
   | nil=>simp at hl
   | cons v vs =>
    have hgv:us[i]? = some v:=zj hdr
    have hvm:v∈us:=List.mem_of_getElem? hgv
    obtain⟨r,h1,h2⟩:=hp δ w B σ t v hT hG (hts t (List.mem_cons_self ..)) (hus v hvm) (hd t (List.mem_cons_self ..)) (by omega)
    rw[List.map_cons]
    unfold z5
    rw[zJ,List.getElem?_map,hgv]
    simp only[Option.map_some,Option.bind_some]
    rw[h1,Option.bind_some]
    obtain⟨b,w1⟩:=r
    cases b with
    | false =>
     refine .inr ⟨w1,rfl,⟨fun h=>(nomatch h),fun _ θ h3 h4=>h2.no rfl θ h3 ?_⟩⟩
     rw[List.zip_cons_cons,Sol.cons] at h4
     exact zcN.2 h4.1
    | true =>
     obtain⟨B',σ',g1,g2,g3⟩:=h2.yes rfl
     have comb:∀{r2:Bool×List jI},OutW a0 B' (ts.zip vs) r2→OutW a0 B ((t::ts).zip (v::vs)) r2:=fun {r2} h=>by
      rw[List.zip_cons_cons]
      refine ⟨fun hr => ?_,fun hr θ h3 h4 => ?_⟩
      ·obtain⟨B2,σ2,k1,k2,k3⟩:=h.yes hr
       refine ⟨B2,σ2,k1,k2,fun θ => ?_⟩
       rw[k3,g3,zcN,and_assoc,Sol.cons (p:=(t,v)) (E:=ts.zip vs)]
      ·rw[Sol.cons] at h4
       exact h.no hr θ ((g3 θ).2 ⟨h3,zcN.2 h4.1⟩) h4.2
     rcases ih vs (i+1) w1 B' σ' g1 g2 (zh hdr) (fun t h=>hts t (List.mem_cons_of_mem _ h)) (by simpa using hl) (fun t h=>(hd t (List.mem_cons_of_mem _ h)).mono fun θ hθ=>((g3 θ).1 hθ).1) with ⟨w',q1,q2⟩ | ⟨w',q1,q2⟩
     ·exact .inl ⟨w',q1,comb q2⟩
     ·exact .inr ⟨w',q1,comb q2⟩
 rcases go ts us 0 w B σ hT hG rfl hts hl hd with ⟨w',h1,h2⟩ | ⟨w',h1,h2⟩
 ·rw[h1]; exact ⟨_,rfl,h2⟩
 ·rw[h1]; exact ⟨_,rfl,h2⟩
theorem zzN {a0:List zQ} (hs:SignOk a0) {R:List Tm} (hR:∀ c∈R,c.size≤48) {k:Nat} (ha:zH8 a0 R k):zAb a0 R (k+1):=by
 intro δ w B σ t u hT hG ht hu hd hk
 show ∃ r,zbr (zS k) a0 t.codes u.codes w=some r∧_
 obtain⟨t1,a1,a2,a3,a4,a5⟩:=zpM hT hG ht.1 ht.2
 obtain⟨u1,b1,b2,b3,b4,b5⟩:=zpM hT hG hu.1 hu.2
 -- it is enough to speak of these
 suffices h:∃ r,zbr (zS k) a0 t.codes u.codes w=some r∧OutW a0 B [(t1,u1)] r by
  obtain⟨r,h1,h2⟩:=h
  exact ⟨r,h1,h2.via fun θ hθ=>by rw[zcN,zcN,a4 θ hθ,b4 θ hθ]⟩
 have eta:∀{o:Option (Bool×List jI)} {E:List (Tm×Tm)},(∃ r,o=some r∧OutW a0 B E r)→∃ r,(o.bind fun r=>some (r.1,r.2))=some r∧OutW a0 B E r:=fun ⟨r,h1,h2⟩=>⟨r,by rw[h1]; rfl,h2⟩
 have flip:∀{o:Option (Bool×List jI)} {p q:Tm},(∃ r,o=some r∧OutW a0 B [(p,q)] r)→∃ r,o=some r∧OutW a0 B [(q,p)] r:=fun ⟨r,h1,h2⟩=>⟨r,h1,h2.via fun θ _=>by rw[zcN,zcN]; exact eq_comm⟩
 unfold zbr
 rw[a1,Option.bind_some,b1,Option.bind_some,zoK (by omega),Option.bind_some]
 by_cases he:t1.codes=u1.codes
 ·have:=zvI a2 b2 he
  subst this
  rw[decide_eq_true he,cond_true]
  exact ⟨_,rfl,⟨fun _=>⟨B,σ,hT,hG,fun θ=>⟨fun h=>⟨h,zcN.2 rfl⟩,fun h=>h.1⟩⟩,fun h=>(nomatch h)⟩⟩
 rw[decide_eq_false he,cond_false]
 have hne:t1≠u1:=fun h=>he (by rw[h])
 clear he a1 b1
 cases t1 with
 | v x =>
  have hx:x<24:=a2
  have hbx:=a5 x rfl
  have c1:(Tm.v x).codes=[-1 - (x:Int)]:=rfl
  have d1:decide (-1 - (x:Int)<0)=true:=decide_eq_true (by omega)
  have d2:decide (-1 - (x:Int)≥0)=false:=decide_eq_false (by omega)
  cases u1 with
  | v y =>
   have hy:y<24:=b2
   have hby:=b5 y rfl
   have c2:(Tm.v y).codes=[-1 - (y:Int)]:=rfl
   have d3:decide (-1 - (y:Int)<0)=true:=decide_eq_true (by omega)
   have hxy:x≠y:=fun h=>hne (by rw[h])
   rw[c1,c2]
   by_cases hlt:y<x
   ·have d4:decide (-1 - (x:Int) < -1 - (y:Int))=true:=decide_eq_true (by omega)
    simp only[qK,List.getElem?_cons_zero,Option.bind_some,d1,d3,d4,cond_true]
    exact eta (zpW hT hG hx hlt hbx hby)
   ·have d4:decide (-1 - (x:Int) < -1 - (y:Int))=false:=decide_eq_false (by omega)
    simp only[qK,List.getElem?_cons_zero,Option.bind_some,d1,d2,d3,d4,cond_true,cond_false]
    exact eta (flip (zpW hT hG hy (by omega) hby hbx))
  | f c as =>
   have c2:(Tm.f c as).codes=(c:Int)::zD as:=rfl
   have d3:decide ((c:Int)<0)=false:=decide_eq_false (by omega)
   have h1:=znw hT hG hx hbx b2 b3
   rw[c2] at h1
   rw[c1,c2]
   simp only[qK,List.getElem?_cons_zero,Option.bind_some,d1,d2,d3,cond_true,cond_false]
   exact eta h1
 | f c as =>
  have c1:(Tm.f c as).codes=(c:Int)::zD as:=rfl
  have d1:decide ((c:Int)<0)=false:=decide_eq_false (by omega)
  have d2:decide ((c:Int)≥0)=true:=decide_eq_true (by omega)
  cases u1 with
  | v y =>
   have hy:y<24:=b2
   have hby:=b5 y rfl
   have c2:(Tm.v y).codes=[-1 - (y:Int)]:=rfl
   have d3:decide (-1 - (y:Int)<0)=true:=decide_eq_true (by omega)
   have h1:=znw hT hG hy hby a2 a3
   rw[c1] at h1
   rw[c1,c2]
   simp only[qK,List.getElem?_cons_zero,Option.bind_some,d1,d2,d3,cond_true,cond_false]
   exact eta (flip h1)
  | f d bs =>
   have c2:(Tm.f d bs).codes=(d:Int)::zD bs:=rfl
   have d3:decide ((d:Int)<0)=false:=decide_eq_false (by omega)
   rw[c1,c2]
   simp only[qK,List.getElem?_cons_zero,Option.bind_some,d1,d2,d3,cond_true,cond_false]
   by_cases hcd:c=d
   ·subst hcd
    rw[show ((c:Int) != (c:Int))=false from by simp,cond_false]
    have hla:as.length=bs.length:=by
     have h1:=a2.1
     have h2:=b2.1
     rw[h1] at h2
     injection h2
    rw[c1,List.length_cons] at a3
    rw[c2,List.length_cons] at b3
    have hw:∀{xs:List Tm},(zD xs).length≤48→∀ t∈xs,t.codes.length≤48:=fun h t ht=>Nat.le_trans (zi4 ht) h
    rw[zc0,Option.bind_some,zdw hs (by omega) (zaM as a2.2),Option.bind_some,zc0,Option.bind_some,zdw hs (by omega) (zaM bs b2.2),Option.bind_some]
    have hlt:=hd.lt hG hT.small hR
    obtain⟨r,h1,h2⟩:=ha (δ+1) w B σ as bs hT hG (fun t h=>⟨zeB.1 a2.2 t h,hw (by omega) t h⟩) (fun t h=>⟨zeB.1 b2.2 t h,hw (by omega) t h⟩) hla (by
      have:=zkS (zaM as a2.2)
      rw[List.length_map] at this
      omega) (fun a ham θ hθ=>by
      obtain⟨c',hc',h5⟩:=hd θ hθ
      refine ⟨c',hc',?_⟩
      rw[a4 θ hθ] at h5
      have h6:((Tm.f c as).sub θ).ht=htR (zb6 θ as)+1:=rfl
      have h7:=zsi (ts:=zb6 θ as) (t:=a.sub θ) (by rw[zhW]; exact List.mem_map_of_mem ham)
      omega) (by omega)
    rw[h1,Option.bind_some]
    refine ⟨_,rfl,h2.via fun θ _ => ?_⟩
    rw[Sol.zip hla,zcN,zLv]
    simp
   ·rw[show ((c:Int) != (d:Int))=true from by simp; omega,cond_true]
    refine ⟨_,rfl,⟨fun h=>(nomatch h),fun _ θ _ h4 => ?_⟩⟩
    rw[zcN,zLv] at h4
    exact hcd h4.1
theorem zC5 {a0:List zQ} (hs:SignOk a0) {R:List Tm} (hR:∀ c∈R,c.size≤48):∀ k,zAb a0 R k∧zH8 a0 R k:=by
 intro k
 induction k with
 | zero =>
  refine ⟨fun δ w B σ t u hT hG _ _ hd hk => ?_,fun δ w B σ ts us _ _ _ _ _ _ _ hk=>by omega⟩
  have:=hd.lt hG hT.small hR
  omega
 | succ k ih=>exact ⟨zzN hs hR ih.2,zCi ih.1⟩
end
end Go.Abs.Q
namespace Go.Abs.Q
open Go Go.Abs
section
theorem zOs (a0:List zQ):RepW a0 (List.replicate 48 ([]:List Int)) (fun _=>none) where
 len:=by simp
 at_:=fun x hx=>by rw[List.getElem?_replicate,if_pos hx]; rfl
 ok:=fun x t h=>by cases h
theorem zqo {a0:List zQ} {w:List jI} {B:Bd} {σ:Sb} (hT:RepW a0 w B) (hG:Good B σ):∀(m v k:Nat) (out:List (Int×List Int)),24 - v=m→v≤24→m<k→out.length≤v →
  lp qJ k ((v:Int),w,out)=some (cond (zaK σ ((List.range 24).drop v)) (.inl (out++zbv B σ ((List.range 24).drop v))) (.inr (true,false))):=by
 intro m
 induction m with
 | zero =>
  intro v k out hm hv hk ho
  obtain⟨k,rfl⟩:∃ k',k=k'+1:=⟨k - 1,by omega⟩
  rw[zk]
  generalize lp qJ k=rec
  unfold qJ
  have:v=24:=by omega
  subst this
  rw[show (List.range 24).drop 24=[] from rfl]
  simp [zbv,zaK]
 | succ m ih =>
  intro v k out hm hv hk ho
  obtain⟨k,rfl⟩:∃ k',k=k'+1:=⟨k - 1,by omega⟩
  rw[zk]
  have key:=fun out' ho'=>ih (v+1) k out' (by omega) (by omega) (by omega) ho'
  generalize lp qJ k=rec at key ⊢
  unfold qJ
  have w1:IntKind.wrap .i64 ((v:Int)+1)=((v+1:Nat):Int):=by rw[zT]<;>omega
  have hdr:(List.range 24).drop v=v::(List.range 24).drop (v+1):=by
   rw[List.drop_eq_getElem_cons (by simp; omega)]
   simp
  simp only[decide_eq_true (show (v:Int)≤23 by omega),cond_true,zap (show v<48 by omega),Option.bind_some,hT.at_ v (by omega),w1]
  rw[hdr]
  cases hb:B v with
  | none =>
   show (cond (((List.length ([]:List Int):Nat):Int)==0) _ _)=_
   rw[show (((List.length ([]:List Int):Nat):Int)==0)=true from rfl,cond_true,key out (by omega)]
   have hs:(σ v).size≤48:=by rw[hG.free v hb]; simp [Tm.size]
   have hb:ztY B v=false:=by simp [ztY,hb]
   simp [zbv,zaK,hb,hs]
  | some t =>
   obtain⟨-,h2,h3⟩:=hT.ok v t hb
   have hp:=ziR t
   show (cond (((List.length t.codes:Nat):Int)==0) _ ((zb0 t.codes w []).bind _))=_
   rw[show (((List.length t.codes:Nat):Int)==0)=false from by simp; intro h; rw[h] at hp; simp at hp,cond_false]
   obtain⟨r,g1,g2⟩:=zzD hT hG h2 h3
   rw[← hG.bound v t hb] at g2
   rw[g1,Option.bind_some]
   by_cases hs:(σ v).size≤48
   ·have hr:=g2.fits (by rw[Tm.codes_len]; simpa using hs)
    rw[List.nil_append] at hr
    subst hr
    rw[decide_eq_false (show ¬((List.length (σ v).codes:Nat):Int)>48 by rw[Tm.codes_len]; omega),cond_false,zP (by simp only[List.length_singleton]; omega),cond_true,key _ (by simp only[List.length_append,List.length_singleton]; omega)]
    have hb:ztY B v=true:=by simp [ztY,hb]
    simp [zbv,zaK,hb,hs]
   ·have hr:=g2.over (by rw[Tm.codes_len]; simp; omega)
    rw[decide_eq_true (show ((List.length r:Nat):Int)>48 by omega),cond_true]
    simp [zaK,hs]
theorem znQ {a0:List zQ} (hs:SignOk a0) {ts us:List Tm} (ht:okR a0 24 ts) (hu:okR a0 24 us) (hlx:(zD ts).length≤48) (hly:(zD us).length≤48) :
  (zcs a0 (zD ts) (zD us)=some (false,true,[])∧(ts.length≠us.length∨∀ θ,¬ Sol θ (ts.zip us))) ∨
  (ts.length=us.length∧∃ σ,Mgu σ (ts.zip us)∧zcs a0 (zD ts) (zD us)=some (true,zaK σ (List.range 24),cond (zaK σ (List.range 24)) (zds σ) [])):=by
 unfold zcs
 rw[zdw hs (by omega) (zaM ts ht),Option.bind_some,zdw hs (by omega) (zaM us hu),Option.bind_some]
 by_cases hl:ts.length=us.length
 ·rw[show (((List.length (ts.map Tm.codes):Nat):Int) != ((List.length (us.map Tm.codes):Nat):Int))=false from by simp [hl],cond_false]
  have sm:∀{xs:List Tm},okR a0 24 xs→(zD xs).length≤48→∀ t∈xs,Sm a0 t:=fun h1 h2 t h=>⟨zeB.1 h1 t h,Nat.le_trans (zi4 h) h2⟩
  have hR:∀ c∈ts,c.size≤48:=fun c hc=>by have:=(sm ht hlx c hc).2; rwa [Tm.codes_len] at this
  obtain⟨r,h1,h2⟩:=(zC5 hs hR zp).2 0 (List.replicate 48 []) (fun _=>none) .v ts us (zOs a0) Good.empty (sm ht hlx) (sm hu hly) hl (by
   have:=zkS (zaM ts ht)
   rw[List.length_map] at this
   omega) (fun t h θ _=>⟨t,h,by omega⟩) (by unfold zp; omega)
  have h1:zdl a0 (ts.map Tm.codes) (us.map Tm.codes) (List.replicate 48 [])=some r:=h1
  rw[h1,Option.bind_some]
  cases hb:r.1 with
  | false=>exact .inl ⟨rfl,.inr fun θ h=>h2.no hb θ (fun _ _ h=>(nomatch h)) h⟩
  | true =>
   obtain⟨B',σ,g1,g2,g3⟩:=h2.yes hb
   refine .inr ⟨hl,σ,Mgu.of g2 g3,?_⟩
   have:=zqo g1 g2 24 0 zp [] rfl (by omega) (by unfold zp; omega) (by simp)
   rw[show ((0:Nat):Int)=0 from rfl] at this
   rw[Bool.not_true,cond_false,this,List.drop_zero]
   have he:zbv B' σ (List.range 24)=zds σ:=by
    unfold zbv zds
    rw[show ztY B'=moved σ from funext (zwv g2)]
   cases zaK σ (List.range 24) with
   | true=>simp only[cond_true,Option.bind_some,zcr,List.nil_append,he]
   | false=>rfl
 ·rw[show (((List.length (ts.map Tm.codes):Nat):Int) != ((List.length (us.map Tm.codes):Nat):Int))=true from by simp; omega,cond_true]
  exact .inl ⟨rfl,.inl hl⟩
end
end Go.Abs.Q
namespace Go.Abs.Q
open Go Go.Abs
section
theorem zK0 (v:Int):(es:List (Int×List Int))→(i:Nat)→(zdk es v=none∧zaQ v es i=some (.inl ()))∨∃(j:Nat) (e:Int×List Int),zaQ v es i=some (.inr ((i+j:Nat):Int))∧es[j]? = some e∧zdk es v=some e.2
 | [],i=>.inl ⟨rfl,rfl⟩
 | e::es,i=>by
  unfold zaQ zdk
  rw[List.find?_cons]
  cases h:e.1==v with
  | true=>exact .inr ⟨0,e,rfl,rfl,rfl⟩
  | false =>
   rw[cond_false]
   rcases zK0 v es (i+1) with ⟨h1,h2⟩ | ⟨j,e',h1,h2,h3⟩
   ·exact .inl ⟨h1,h2⟩
   ·exact .inr ⟨j+1,e',by rw[h1,show i+1+j=i+(j+1) from by omega],by simpa using h2,h3⟩
theorem zvM {s:List (Int×List Int)} (hl:s.length≤1000) (v:Int):(zdk s v=none∧zio s v=some (-1))∨∃(j:Nat) (e:Int×List Int),zio s v=some (j:Int)∧s[j]? = some e∧zdk s v=some e.2:=by
 unfold zio
 rw[zjI _ _ (by unfold maxLen; omega)]
 rcases zK0 v s 0 with ⟨h1,h2⟩ | ⟨j,e,h1,h2,h3⟩
 ·exact .inl ⟨h1,by rw[h2]; rfl⟩
 ·exact .inr ⟨j,e,by rw[h1,Nat.zero_add]; rfl,h2,h3⟩
theorem zE8 {s:List (Int×List Int)} (h:BindsOk s):(es out:List Int)→(∀ c∈es,-1000000≤c∧c≤1000000)→out.length+1000*es.length≤1000000000→yT s es out=some (out++onB s es)
 | [],out,_,_=>by simp [yT,onB]
 | c::es,out,hc,hl=>by
  have hc0:=hc c (List.mem_cons_self ..)
  simp only[List.length_cons] at hl
  have ih:=fun out hl=>zE8 h es out (fun c h=>hc c (List.mem_cons_of_mem _ h)) hl
  unfold yT
  have plain:onC s c=[c]→(cond (yY (List.length out+List.length ([c]:List Int)) 8) (yT s es (out++([c]:List Int))) none)=some (out++onB s (c::es)):=fun hx=>by
   rw[zP (by simp; omega),cond_true,ih _ (by simp; omega)]
   unfold onB
   rw[List.flatMap_cons,hx,List.append_assoc]
  by_cases h0:c<0
  ·rw[decide_eq_true h0,cond_true]
   have w1:IntKind.wrap .i64 ((-1) - c) = -1 - c:=by rw[zT]<;>omega
   rw[w1]
   rcases zvM h.len (-1 - c) with ⟨h1,h2⟩ | ⟨j,e,h1,h2,h3⟩
   ·rw[h2,Option.bind_some,show decide ((-1:Int)<0)=true from rfl,cond_true]
    refine plain ?_
    unfold onC
    rw[h1,decide_eq_false (show ¬ c≥0 by omega)]
    rfl
   ·have he:=(h.all e (List.mem_of_getElem? h2)).2
    rw[h1,Option.bind_some,decide_eq_false (show ¬(j:Int)<0 by omega),cond_false,zJ,h2,Option.bind_some,zP (by omega),cond_true,ih _ (by rw[List.length_append]; omega)]
    unfold onB
    have:onC s c=e.2:=by
     unfold onC
     rw[h3,decide_eq_false (show ¬ c≥0 by omega)]
     rfl
    rw[List.flatMap_cons,this,List.append_assoc]
  ·rw[decide_eq_false h0,cond_false]
   refine plain ?_
   unfold onC
   rw[decide_eq_true (show c≥0 by omega)]
   rfl
theorem zzw {s:List (Int×List Int)} (h:BindsOk s) {r:List Int} (hr:zcB r):zdD s r=some (onB s r):=by
 have:=hr.1
 unfold zdD
 rw[ziB _ _ _ (by unfold maxLen; omega),zE8 h r [] hr.2 (by simp; omega)]
 rfl
theorem zwt {s:List (Int×List Int)} (h:BindsOk s):(es out:List zt)→(∀ l∈es,zcB l.2)→out.length+es.length≤1000000→q7 s es out=some (out++zmZ s es)
 | [],out,_,_=>by simp [q7,zmZ]
 | e::es,out,hn,hl=>by
  simp only[List.length_cons] at hl
  unfold q7
  rw[zzw h (hn e (List.mem_cons_self ..)),Option.bind_some,zP (by simp; omega),cond_true,zwt h es _ (fun l hl=>hn l (List.mem_cons_of_mem _ hl)) (by simp; omega)]
  simp [zmZ]
theorem zyY {s:List (Int×List Int)} (h:BindsOk s) (s5:List zt):(es out:List jI)→(∀ l∈es,zcB l)→out.length+es.length≤1000000→q9 s s5 es out=some (s5,out++zuO s es)
 | [],out,_,_=>by simp [q9,zuO]
 | e::es,out,hn,hl=>by
  simp only[List.length_cons] at hl
  unfold q9
  rw[zzw h (hn e (List.mem_cons_self ..)),Option.bind_some,zP (by simp; omega),cond_true,zyY h s5 es _ (fun l hl=>hn l (List.mem_cons_of_mem _ hl)) (by simp; omega)]
  simp [zuO]
theorem zy3 {s:List (Int×List Int)} (h:BindsOk s) (s5:List zt) (s6:List jI):(es out:List zt)→(∀ l∈es,zcB l.2)→out.length+es.length≤1000000→zab s s5 s6 es out=some (s5,s6,out++zmZ s es)
 | [],out,_,_=>by simp [zab,zmZ]
 | e::es,out,hn,hl=>by
  simp only[List.length_cons] at hl
  unfold zab
  rw[zzw h (hn e (List.mem_cons_self ..)),Option.bind_some,zP (by simp; omega),cond_true,zy3 h s5 s6 es _ (fun l hl=>hn l (List.mem_cons_of_mem _ hl)) (by simp; omega)]
  simp [zmZ]
theorem zr1 {s:List (Int×List Int)} (h:BindsOk s) {L:List zt} {T:List jI} {C:List zt} (hL:∀ l∈L,zcB l.2) (hT:∀ l∈T,zcB l) (hC:∀ l∈C,zcB l.2) (h1:L.length≤1000) (h2:T.length≤1000) (h3:C.length≤1000) :
  zcz s L T C=some (zmZ s L,zuO s T,zmZ s C):=by
 unfold zcz
 rw[zic _ _ _ _ _ (by unfold maxLen; omega),zwt h L [] hL (by simp; omega),Option.bind_some,
  zin _ _ _ _ _ _ (by unfold maxLen; omega),zyY h _ T [] hT (by simp; omega),Option.bind_some,
  zhX _ _ _ _ _ _ _ (by unfold maxLen; omega),zy3 h _ _ C [] hC (by simp; omega),Option.bind_some]
 simp
theorem zt2 {l k:zt} (h:l.2.length≤1000000):zdg l.1 l.2 k.1 k.2=some (decide (l=k)):=by
 obtain⟨n,r⟩:=l
 obtain⟨n',r'⟩:=k
 unfold zdg
 by_cases hn:n=n'
 ·subst hn
  simp only[beq_self_eq_true,cond_true]
  rw[zoK h,Option.bind_some]
  simp
 ·rw[show (n==n')=false from by simp [hn],cond_false]
  simp [hn]
theorem zzI {s0 out:List zt} {i0:Nat} {e0:zt} (he:s0[i0]? = some e0) (ho:∀ l∈out,l.2.length≤1000000):(es:List zt)→(i:Nat)→(b:Bool)→out.drop i=es→qA s0 (i0:Int) out es i b=some (b||decide (e0∈es),out)
 | [],i,b,_=>by simp [qA]
 | e::es,i,b,hd=>by
  have ih:=fun b=>zzI he ho es (i+1) b (zh hd)
  unfold qA
  cases b with
  | true=>rw[cond_true,ih true]; rfl
  | false =>
   have hi:=zl hd
   have hg:=zj hd
   rw[cond_false,zap hi,Option.bind_some,hg,Option.bind_some,zJ,he,Option.bind_some,zt2 (ho e (List.mem_of_getElem? hg)),Option.bind_some,ih]
   congr 2
   rw[Bool.eq_iff_iff,Bool.false_or,Bool.or_eq_true,decide_eq_true_iff,decide_eq_true_iff,decide_eq_true_iff,List.mem_cons]
   exact ⟨fun h=>h.imp Eq.symm id,fun h=>h.imp Eq.symm id⟩
theorem zsp {s0:List zt} (hs:∀ l∈s0,l.2.length≤1000000):(es:List zt)→(i:Nat)→(out:List zt)→s0.drop i=es→(∀ l∈out,l.2.length≤1000000)→out.length+es.length≤1000000→zaa s0 es i out=some (qp es out)
 | [],i,out,_,_,_=>rfl
 | e::es,i,out,hd,ho,hl=>by
  simp only[List.length_cons] at hl
  have hg:=zj hd
  have hem:=List.mem_of_getElem? hg
  unfold zaa qp
  rw[zh6 _ _ _ _ (by unfold maxLen; omega),zzI hg ho out 0 false rfl,Option.bind_some,Bool.false_or]
  by_cases hm:e∈out
  ·have e1:∀ inst:Decidable (e∈out),@decide (e∈out) inst=true:=fun _=>decide_eq_true hm
   simp only[e1,Bool.not_true,cond_false,cond_true]
   exact zsp hs es (i+1) out (zh hd) ho (by omega)
  ·have e1:∀ inst:Decidable (e∈out),@decide (e∈out) inst=false:=fun _=>decide_eq_false hm
   simp only[e1,Bool.not_false,cond_true,cond_false]
   rw[zP (by simp; omega),cond_true]
   exact zsp hs es (i+1) _ (zh hd) (fun l hl=>by
    rcases List.mem_append.1 hl with hl | hl
    ·exact ho l hl
    ·rw[List.mem_singleton.1 hl]; exact hs e hem) (by simp; omega)
theorem zvm {L:List zt} (hs:∀ l∈L,l.2.length≤1000000) (hl:L.length≤1000):zgY L=some (qp L []):=by
 unfold zgY
 rw[zid _ _ (by unfold maxLen; omega),zsp hs L 0 [] rfl (fun _ h=>(nomatch h)) (by simp; omega)]
 rfl
theorem zym {s4 out:List jI} {s6 s7:List zt} {i0:Nat} {e0:List Int} (he:s4[i0]? = some e0) (ho:∀ l∈out,l.length≤1000000):(es:List jI)→(i:Nat)→(b:Bool)→out.drop i=es→qG (i0:Int) s4 s6 s7 out es i b=some (b||decide (e0∈es),s6,s7,out)
 | [],i,b,_=>by simp [qG]
 | e::es,i,b,hd=>by
  have ih:=fun b=>zym (s6:=s6) (s7:=s7) he ho es (i+1) b (zh hd)
  unfold qG
  cases b with
  | true=>rw[cond_true,ih true]; rfl
  | false =>
   have hi:=zl hd
   have hg:=zj hd
   rw[cond_false,zap hi,Option.bind_some,hg,Option.bind_some,zJ,he,Option.bind_some,zoK (ho e (List.mem_of_getElem? hg)),Option.bind_some,ih]
   congr 2
   rw[Bool.eq_iff_iff,Bool.false_or,Bool.or_eq_true,decide_eq_true_iff,decide_eq_true_iff,decide_eq_true_iff,List.mem_cons]
   exact ⟨fun h=>h.imp Eq.symm id,fun h=>h.imp Eq.symm id⟩
theorem zrp {s1 s3 s4 s5:List zt} {s2:List jI} (hs:∀ l∈s2,l.length≤1000000):(es:List jI)→(i:Nat)→(out:List jI)→s2.drop i=es→(∀ l∈out,l.length≤1000000)→out.length+es.length≤1000000→zae s1 s2 s3 es i s4 s5 out=some (s4,s5,qp es out)
 | [],i,out,_,_,_=>rfl
 | e::es,i,out,hd,ho,hl=>by
  simp only[List.length_cons] at hl
  have hg:=zj hd
  have hem:=List.mem_of_getElem? hg
  unfold zae qp
  rw[zhZ _ _ _ _ _ _ _ _ (by unfold maxLen; omega),zym hg ho out 0 false rfl,Option.bind_some,Bool.false_or]
  by_cases hm:e∈out
  ·have e1:∀ inst:Decidable (e∈out),@decide (e∈out) inst=true:=fun _=>decide_eq_true hm
   simp only[e1,Bool.not_true,cond_false,cond_true]
   exact zrp hs es (i+1) out (zh hd) ho (by omega)
  ·have e1:∀ inst:Decidable (e∈out),@decide (e∈out) inst=false:=fun _=>decide_eq_false hm
   simp only[e1,Bool.not_false,cond_true,cond_false]
   rw[zP (by simp; omega),cond_true]
   exact zrp hs es (i+1) _ (zh hd) (fun l hl=>by
    rcases List.mem_append.1 hl with hl | hl
    ·exact ho l hl
    ·rw[List.mem_singleton.1 hl]; exact hs e hem) (by simp; omega)
end
end Go.Abs.Q
namespace Go.Abs.Q
open Go Go.Abs
section
def zEs (bs:List (Int×List Int)) (c:Int):List (Int×List Int):=cond (decide (c<0)&&(zdk bs (-1 - c)).isNone) (bs++[(-1 - c,[-1 - (bs.length:Int)])]) bs
def zEk (bs:List (Int×List Int)) (r:List Int):List (Int×List Int):=r.foldl zEs bs
theorem zCP (bs:List (Int×List Int)) (c:Int):(zEs bs c).length≤bs.length+1:=by
 unfold zEs
 cases decide (c<0)&&(zdk bs (-1 - c)).isNone<;>simp
theorem zBx (r:List Int):(bs:List (Int×List Int))→(zEk bs r).length≤bs.length+r.length:=by
 unfold zEk
 induction r with
 | nil=>intro bs; simp
 | cons c r ih =>
  intro bs
  have:=ih (zEs bs c)
  have:=zCP bs c
  simp only[List.foldl_cons,List.length_cons]
  omega
theorem zvV {rows:List jI} {i:Nat} {r:List Int} (hr:rows[i]? = some r) (L:List zt) (T:List jI) (C:List zt) (hrl:r.length≤1000):∀(es:List Int) (j k:Nat) (bs:List (Int×List Int)),r.drop j=es→(∀ c∈es,-1000000≤c∧c≤1000000)→es.length<k→bs.length+es.length≤1000 →
  lp za2 k (rows,(i:Int),(j:Int),L,T,C,bs)=some (zEk bs es)
 | [],j,k,bs,hd,_,hk,_=>by
  obtain⟨k,rfl⟩:∃ k',k=k'+1:=⟨k - 1,by simp at hk; omega⟩
  rw[zk]
  generalize lp za2 k=rec
  unfold za2
  have:=zm hd
  rw[zJ,hr,Option.bind_some,decide_eq_false (show ¬(j:Int)<((List.length r:Nat):Int) by omega),cond_false]
  rfl
 | c::es,j,k,bs,hd,hc,hk,hb=>by
  obtain⟨k,rfl⟩:∃ k',k=k'+1:=⟨k - 1,by simp at hk; omega⟩
  simp only[List.length_cons] at hk hb
  have hlt:=zl hd
  have hc0:=hc c (List.mem_cons_self ..)
  rw[zk]
  have key:=fun bs hb=>zvV hr L T C hrl es (j+1) k bs (zh hd) (fun c h=>hc c (List.mem_cons_of_mem _ h)) (by omega) hb
  generalize lp za2 k=rec at key ⊢
  unfold za2
  have w1:IntKind.wrap .i64 ((j:Int)+1)=((j+1:Nat):Int):=by rw[zT]<;>omega
  have w2:IntKind.wrap .i64 ((-1) - c) = -1 - c:=by rw[zT]<;>omega
  have w3:IntKind.wrap .i64 ((-1) - ((List.length bs:Nat):Int)) = -1 - (bs.length:Int):=by rw[zT]<;>omega
  simp only[zJ,hr,Option.bind_some,zj hd,w1,w2,w3]
  rw[decide_eq_true (show (j:Int)<((List.length r:Nat):Int) by omega),cond_true]
  show _=some (zEk (zEs bs c) es)
  unfold zEs
  by_cases h0:c<0
  ·rw[decide_eq_true h0,cond_true,Bool.true_and]
   rcases zvM (s:=bs) (by omega) (-1 - c) with ⟨h1,h2⟩ | ⟨q,e,h1,h2,h3⟩
   ·rw[h2,Option.bind_some,show decide ((-1:Int)<0)=true from rfl,cond_true,zP (by simp; omega),cond_true,key _ (by simp; omega),h1]
    rfl
   ·rw[h1,Option.bind_some,decide_eq_false (show ¬(q:Int)<0 by omega),cond_false,key _ (by omega),h3]
    rfl
  ·rw[decide_eq_false h0,cond_false,Bool.false_and,cond_false,key _ (by omega)]
theorem zwd {rows:List jI} (L:List zt) (T:List jI) (C:List zt) (hrows:∀ r∈rows,zcB r):(es:List jI)→(i:Nat)→(bs:List (Int×List Int))→rows.drop i=es→bs.length+zG es≤1000 →
  zaD rows L T C es i bs=some (es.foldl zEk bs)
 | [],_,_,_,_=>rfl
 | e::es,i,bs,hd,hb=>by
  have hg:=zj hd
  have he:=hrows e (List.mem_of_getElem? hg)
  have hs:zG (e::es)=e.length+zG es:=by simp [zG]
  unfold zaD
  have:=zvV hg L T C he.1 e 0 zp bs rfl he.2 (by have:=he.1; unfold zp; omega) (by omega)
  rw[show ((0:Nat):Int)=0 from rfl] at this
  have hl:=zBx e bs
  rw[this,Option.bind_some,zwd L T C hrows es (i+1) _ (zh hd) (by omega)]
  rfl
structure Rl (s:zpD) (bs:List (Int×List Int)):Prop where
 cnt:(bs.length:Int)=s.2
 at_:∀ v:Nat,zdk bs (v:Int)=if s.1.getD v 0=0 then none else some [-(s.1.getD v 0)]
 one:∀ b∈bs,b.2.length=1
theorem zqr (bs:List (Int×List Int)) (v w:Int) (t:List Int):zdk (bs++[(v,t)]) w=match zdk bs w with
  | some u=>some u
  | none=>cond (v==w) (some t) none:=by
 unfold zdk
 rw[List.find?_append]
 cases h:bs.find? fun b=>b.1==w with
 | some b=>rfl
 | none =>
  simp only[Option.none_or,List.find?_cons,List.find?_nil,Option.map_none]
  cases v==w<;>rfl
theorem rl0:Rl (List.replicate 24 (0:Int),0) [] where
 cnt:=rfl
 at_:=fun v=>by
  rw[if_pos]
  ·rfl
  ·show (List.replicate 24 (0:Int)).getD v 0=0
   rw[List.getD_eq_getElem?_getD,List.getElem?_replicate]
   split<;>rfl
 one:=fun _ h=>(nomatch h)
theorem Rl.ok {s:zpD} {bs:List (Int×List Int)} (h:Rl s bs) (hI:RenI s):BindsOk bs where
 len:=by have:=h.cnt; have:=hI.next; omega
 all:=fun b hb=>by
  have:=h.one b hb
  exact ⟨fun e=>by rw[e] at this; simp at this,by omega⟩
theorem Rl.step {s:zpD} {bs:List (Int×List Int)} (h:Rl s bs) (hI:RenI s) {c:Int} (hc : -24≤c):Rl (zk1 s c).2 (zEs bs c):=by
 unfold zk1 zEs
 by_cases h0:c≥0
 ·rw[decide_eq_true h0,cond_true,decide_eq_false (show ¬ c<0 by omega),Bool.false_and,cond_false]
  exact h
 ·rw[decide_eq_false h0,cond_false,decide_eq_true (show c<0 by omega),Bool.true_and]
  obtain⟨v,rfl⟩:∃ v:Nat,c = -1 - (v:Int):=⟨(-1 - c).toNat,by omega⟩
  have e1:(-1 - (-1 - (v:Int)))=(v:Int):=by omega
  rw[e1,Int.toNat_natCast,h.at_ v]
  by_cases hz:s.1.getD v 0=0
  ·rw[if_pos hz,show (s.1.getD v 0==0)=true from by rw[hz]; rfl,cond_true,show (none:Option jI).isNone=true from rfl,cond_true]
   have hv:v<s.1.length:=by rw[hI.len]; omega
   have hcnt:=h.cnt
   refine ⟨by show (((bs++[_]).length:Nat):Int)=s.2+1; rw[List.length_append,← hcnt]; simp,fun w => ?_,fun b hb => ?_⟩
   ·rw[zqr,h.at_ w]
    show _=if (s.1.set v (s.2+1)).getD w 0=0 then none else some [-((s.1.set v (s.2+1)).getD w 0)]
    rw[zeo hv]
    have hn:=hI.next
    by_cases hw:w=v
    ·subst hw
     rw[if_pos hz,if_pos rfl,if_neg (show ¬ s.2+1=0 by omega)]
     simp only[beq_self_eq_true,cond_true]
     rw[show -1 - (bs.length:Int) = -(s.2+1) from by omega]
    ·rw[if_neg hw]
     by_cases hz2:s.1.getD w 0=0
     ·rw[if_pos hz2]
      simp only
      rw[show (((v:Nat):Int)==((w:Nat):Int))=false from by simp; omega]
      rfl
     ·rw[if_neg hz2]
   ·rcases List.mem_append.1 hb with hb | hb
    ·exact h.one b hb
    ·rw[List.mem_singleton.1 hb]; rfl
  ·rw[if_neg hz,show (s.1.getD v 0==0)=false from by simpa using hz,cond_false]
   exact h
theorem Rl.row:(r:List Int)→{s:zpD}→{bs:List (Int×List Int)}→Rl s bs→RenI s→(∀ c∈r,-24≤c)→Rl (zdp s r).2 (zEk bs r)
 | [],_,_,h,_,_=>h
 | c::r,s,bs,h,hI,hc=>by
  have h1:=h.step hI (hc c (List.mem_cons_self ..))
  exact Rl.row r h1 (zqs hI (hc c (List.mem_cons_self ..))).1 fun d hd=>hc d (List.mem_cons_of_mem _ hd)
theorem Rl.lits:(ls:List zt)→{s:zpD}→{bs:List (Int×List Int)}→Rl s bs→RenI s→(∀ l∈ls,∀ c∈l.2,-24≤c)→Rl (zbq s ls).2 ((ls.map (·.2)).foldl zEk bs)
 | [],_,_,h,_,_=>h
 | l::ls,s,bs,h,hI,hc=>by
  have h1:=h.row l.2 hI (hc l (List.mem_cons_self ..))
  exact Rl.lits ls h1 (zgT l.2 hI (hc l (List.mem_cons_self ..))).1 fun d hd=>hc d (List.mem_cons_of_mem _ hd)
theorem Rl.rows:(ls:List jI)→{s:zpD}→{bs:List (Int×List Int)}→Rl s bs→RenI s→(∀ l∈ls,∀ c∈l,-24≤c)→Rl (zcD s ls).2 (ls.foldl zEk bs)
 | [],_,_,h,_,_=>h
 | l::ls,s,bs,h,hI,hc=>by
  have h1:=h.row l hI (hc l (List.mem_cons_self ..))
  exact Rl.rows ls h1 (zgT l hI (hc l (List.mem_cons_self ..))).1 fun d hd=>hc d (List.mem_cons_of_mem _ hd)
theorem zpq {f:zpD} (hI:RenI f) {bs:List (Int×List Int)} (h:Rl f bs):(r:List Int)→(∀ c∈r,-24≤c)→(∀ x,zzz r x→f.1.getD x.toNat 0≠0)→onB bs r=zf8 (fun v=>.v (rho f v)) r
 | [],_,_=>rfl
 | c::r,hc,hz=>by
  have ih:=zpq hI h r (fun d hd=>hc d (List.mem_cons_of_mem _ hd)) fun x ⟨d,hd,h1⟩=>hz x ⟨d,List.mem_cons_of_mem _ hd,h1⟩
  have hc0:=hc c (List.mem_cons_self ..)
  unfold onB zf8 at ih ⊢
  rw[List.flatMap_cons,List.flatMap_cons,ih]
  congr 1
  unfold onC zgR
  by_cases h0:c≥0
  ·rw[decide_eq_true h0,cond_true,if_neg (by omega)]
  ·rw[decide_eq_false h0,cond_false,if_pos (by omega)]
   obtain⟨v,rfl⟩:∃ v:Nat,c = -1 - (v:Int):=⟨(-1 - c).toNat,by omega⟩
   have e1:(-1 - (-1 - (v:Int)))=(v:Int):=by omega
   have hv:=hz (v:Int) ⟨_,List.mem_cons_self ..,by omega,by omega⟩
   rw[Int.toNat_natCast] at hv
   rw[e1,h.at_ v,if_neg hv,Int.toNat_natCast]
   have:=hI.rng v
   unfold rho
   show [-(f.1.getD v 0)]=[-1 - (((f.1.getD v 0).toNat - 1:Nat):Int)]
   congr 1
   omega
theorem zFN {L:List zt} {T:List jI} {C:List zt} (hc:∀ r∈qE L T C,Cds r) (hl:L.length≤100) (ht:T.length≤100) (hcl:C.length≤100) (hsum:zG (L.map (·.2))+zG T+zG (C.map (·.2))≤1000):zjm L T C=some (zgA L T C):=by
 have cL:∀ l∈L,Cds l.2:=fun l h=>hc _ (zaZ h)
 have cT:∀ l∈T,Cds l:=fun l h=>hc _ (zbJ h)
 have cC:∀ l∈C,Cds l.2:=fun l h=>hc _ (zbm h)
 have mL:∀ l,l∈qp L []↔l∈L:=fun l=>by simpa using zbH (x:=l) L []
 have mT:∀ l,l∈qp T []↔l∈T:=fun l=>by simpa using zbH (x:=l) T []
 have mC:∀ l,l∈qp C []↔l∈C:=fun l=>by simpa using zbH (x:=l) C []
 have lL:=zbE L []
 have lT:=zbE T []
 have lC:=zbE C []
 simp only[List.length_nil,Nat.zero_add] at lL lT lC
 have big:∀ r:List Int,Cds r→r.length≤1000000:=fun r h=>by have:=h.1; omega
 unfold zjm
 rw[zvm (fun l h=>big _ (cL l h)) (by omega),Option.bind_some,zvm (fun l h=>big _ (cC l h)) (by omega),Option.bind_some,
  ziv _ _ _ _ _ _ (by unfold maxLen; omega),zrp (fun l h=>big _ (cT l h)) T 0 [] rfl (fun _ h=>(nomatch h)) (by simp; omega),Option.bind_some]
 simp only
 rw[zgW _ _ _ (by omega) (by omega) (by omega),Option.bind_some]
 have nr:∀ r∈(qp L []).map (·.2)++qp T []++(qp C []).map (·.2),Cds r:=fun r hr=>by
  rcases List.mem_append.1 hr with hr | hr
  ·rcases List.mem_append.1 hr with hr | hr
   ·obtain⟨l,hl,rfl⟩:=List.mem_map.1 hr; exact cL l ((mL l).1 hl)
   ·exact cT r ((mT r).1 hr)
  ·obtain⟨l,hl,rfl⟩:=List.mem_map.1 hr; exact cC l ((mC l).1 hl)
 have sL:zG ((qp L []).map (·.2))≤zG (L.map (·.2)):=by
  have:=ziF (fun l:zt=>l.2.length) L []
  have h4:(([]:List zt).map (fun l:zt=>l.2.length)).sum=0:=rfl
  rw[h4,Nat.zero_add] at this
  unfold zG
  rw[List.map_map,List.map_map]
  exact this
 have sC:zG ((qp C []).map (·.2))≤zG (C.map (·.2)):=by
  have:=ziF (fun l:zt=>l.2.length) C []
  have h4:(([]:List zt).map (fun l:zt=>l.2.length)).sum=0:=rfl
  rw[h4,Nat.zero_add] at this
  unfold zG
  rw[List.map_map,List.map_map]
  exact this
 have sT:zG (qp T [])≤zG T:=by
  have:=ziF List.length T []
  unfold zG
  simpa using this
 rw[zix _ _ _ _ _ (by simp only[List.length_append,List.length_map]; unfold maxLen; omega),zwd _ _ _ (fun r hr=>(nr r hr).near) _ 0 [] List.drop_zero (by rw[za4,za4]; simp only[List.length_nil]; omega),Option.bind_some,List.foldl_append,List.foldl_append]
 -- the numbering
 obtain⟨a1,a2,a3,a4⟩:=zjP (qp L []) zPq fun l hl=>fun c h=>((cL l ((mL l).1 hl)).2 c h).1
 obtain⟨b1,b2,b3,b4⟩:=znm (qp T []) a1 fun l hl=>fun c h=>((cT l ((mT l).1 hl)).2 c h).1
 obtain⟨c1,c2,c3,c4⟩:=zjP (qp C []) b1 fun l hl=>fun c h=>((cC l ((mC l).1 hl)).2 c h).1
 have r1:=rl0.lits (qp L []) zPq fun l hl=>fun c h=>((cL l ((mL l).1 hl)).2 c h).1
 have r2:=r1.rows (qp T []) a1 fun l hl=>fun c h=>((cT l ((mT l).1 hl)).2 c h).1
 have r3:=r2.lits (qp C []) b1 fun l hl=>fun c h=>((cC l ((mC l).1 hl)).2 c h).1
 have nz1:∀ x,zhH ((qp L []).map (·.2)) x→(zbq (zcD (zbq (List.replicate 24 0,0) (qp L [])).2 (qp T [])).2 (qp C [])).2.1.getD x.toNat 0≠0:=fun x hx=>by
  have:=a3 x hx
  rw[c2 _ (by rw[b2 _ this]; exact this),b2 _ this]
  exact this
 have nz2:∀ x,zhH (qp T []) x→(zbq (zcD (zbq (List.replicate 24 0,0) (qp L [])).2 (qp T [])).2 (qp C [])).2.1.getD x.toNat 0≠0:=fun x hx=>by
  have:=b3 x hx
  rw[c2 _ this]
  exact this
 rw[zr1 (r3.ok c1) (fun l h=>(cL l ((mL l).1 h)).near) (fun l h=>(cT l ((mT l).1 h)).near) (fun l h=>(cC l ((mC l).1 h)).near) (by omega) (by omega) (by omega),Option.bind_some]
 unfold zgA zMO
 rw[a4 _ (b2.trans c2),b4 _ c2,c4 _ (ExtS.refl _)]
 have eL:zmZ _ (qp L [])=zdV _ (qp L []):=List.map_congr_left fun l h=>by
  show (l.1,_)=(l.1,_)
  rw[zpq c1 r3 l.2 (fun c hh=>((cL l ((mL l).1 h)).2 c hh).1) fun x hx=>nz1 x ⟨_,List.mem_map_of_mem h,hx⟩]
 have eT:zuO _ (qp T [])=(qp T []).map _:=List.map_congr_left fun l h=>zpq c1 r3 l (fun c hh=>((cT l ((mT l).1 h)).2 c hh).1) fun x hx=>nz2 x ⟨_,h,hx⟩
 have eC:zmZ _ (qp C [])=zdV _ (qp C []):=List.map_congr_left fun l h=>by
  show (l.1,_)=(l.1,_)
  rw[zpq c1 r3 l.2 (fun c hh=>((cC l ((mC l).1 h)).2 c hh).1) fun x hx=>c3 x ⟨_,List.mem_map_of_mem h,hx⟩]
 rw[eL,eT,eC]
end
end Go.Abs.Q
namespace Go.Abs.Q
open Go Go.Abs
section
theorem TopV.unique {rs:List jI} {m m':Int} (h:TopV rs m) (h':TopV rs m') (h0:0≤m) (h0':0≤m'):m=m':=by
 have a:m'≤m:=by
  rcases h'.2 with e | e
  ·omega
  ·have:=h.1 _ e; omega
 have b:m≤m':=by
  rcases h.2 with e | e
  ·omega
  ·have:=h'.1 _ e; omega
 omega
def upB (b:Nat) (vs:List Nat):List (Int×List Int):=vs.map fun v:Nat=>((v:Int),[-1 - (v:Int) - (b:Int)])
theorem znf {b:Nat} (hb:b≤24):(vs:List Nat)→(bs:List (Int×List Int))→(∀ v∈vs,v<24)→bs.length+vs.length≤1000→qj (b:Int) (vs.map fun v:Nat=>(v:Int)) bs=some (cond (vs.all fun v=>decide (v+b≤23)) (.inl (bs++upB b vs)) (.inr false))
 | [],bs,_,_=>by simp [qj,upB]
 | v::vs,bs,h,hl=>by
  have hv:=h v (List.mem_cons_self ..)
  simp only[List.length_cons] at hl
  rw[List.map_cons]
  unfold qj
  have w1:IntKind.wrap .i64 ((v:Int)+(b:Int))=(v:Int)+(b:Int):=by rw[zT]<;>omega
  have w2:IntKind.wrap .i64 ((-1) - (v:Int)) = -1 - (v:Int):=by rw[zT]<;>omega
  have w3:IntKind.wrap .i64 (-1 - (v:Int) - (b:Int)) = -1 - (v:Int) - (b:Int):=by rw[zT]<;>omega
  rw[w1,w2,w3,List.all_cons]
  by_cases hvb:v+b≤23
  ·rw[decide_eq_false (show ¬(v:Int)+(b:Int)>23 by omega),cond_false,zP (by simp; omega),cond_true,znf hb vs _ (fun x hx=>h x (List.mem_cons_of_mem _ hx)) (by simp; omega),decide_eq_true hvb,Bool.true_and]
   simp [upB]
  ·rw[decide_eq_true (show (v:Int)+(b:Int)>23 by omega),cond_true,decide_eq_false hvb]
   rfl
theorem zmw {α β:Type} (f:α→β):(r:List α)→(g:α→List β)→(∀ c∈r,g c=[f c])→r.flatMap g=r.map f
 | [],_,_=>rfl
 | c::r,g,h=>by rw[List.flatMap_cons,h c (List.mem_cons_self ..),zmw f r g fun d hd=>h d (List.mem_cons_of_mem _ hd)]; rfl
theorem ztq (b:Nat) (v:Nat):(vs:List Nat)→v∈vs→zdk (upB b vs) (v:Int)=some [-1 - (v:Int) - (b:Int)]
 | [],h=>(nomatch h)
 | w::vs,h=>by
  have ih:=ztq b v vs
  unfold zdk upB at ih ⊢
  rw[List.map_cons,List.find?_cons]
  by_cases hw:w=v
  ·subst hw
   simp
  ·rw[show (((w:Nat):Int)==((v:Nat):Int))=false from by simp; omega]
   rcases List.mem_cons.1 h with h | h
   ·exact absurd h.symm hw
   ·exact ih h
theorem zFo {b:Nat} {vs:List Nat} {r:List Int} (h:∀ x,zzz r x→0≤x∧x.toNat∈vs):onB (upB b vs) r=r.map (upC (b:Int)):=by
 unfold onB
 refine zmw _ r _ fun c hc => ?_
 unfold onC upC
 by_cases h0:c<0
 ·obtain⟨h1,h2⟩:=h (-1 - c) ⟨c,hc,h0,rfl⟩
  have:=ztq b (-1 - c).toNat vs h2
  rw[Int.toNat_of_nonneg h1] at this
  rw[decide_eq_false (show ¬ c≥0 by omega),cond_false,this,decide_eq_true h0,cond_true]
  show [_]=[_]
  congr 1
  omega
 ·rw[decide_eq_true (show c≥0 by omega),cond_true,decide_eq_false h0,cond_false]
theorem zKV (b:Nat) (vs:List Nat) (h:vs.length≤1000):BindsOk (upB b vs) where
 len:=by unfold upB; rw[List.length_map]; exact h
 all:=fun q hq=>by
  obtain⟨v,-,rfl⟩:=List.mem_map.1 hq
  exact ⟨by simp,by simp⟩
theorem zlz {a0:List zQ} (hs:SignOk a0) {L:List zt} {T:List jI} {C:List zt} (h:zhL a0 L T C=true):L.length≤5∧T.length≤3∧C.length≤3∧zG (L.map (·.2))+zG T+zG (C.map (·.2))≤1000:=by
 obtain⟨-,h1,h2,h3,-,-,-,h7⟩:=zaF h
 exact ⟨h1,h2,h3,by omega⟩
theorem zqR {a0:List zQ} (hs:SignOk a0) {L:List zt} {T:List jI} {C:List zt} {L':List zt} {T':List jI} {C':List zt} (h:zhL a0 L T C=true) (h':zhL a0 L' T' C'=true) {b:Nat} (hb:b≤24) (htop:TopV (qE L T C) (b:Int)) :
  (zdX L T C L' T' C'=some ([],[],false,[])∧∃ x,zhH (qE L' T' C') x∧23<x+(b:Int)) ∨
  (zdX L T C L' T' C'=some (ze5 (b:Int) L',T'.map (List.map (upC (b:Int))),true,ze5 (b:Int) C')∧∀ x,zhH (qE L' T' C') x→x+(b:Int)≤23):=by
 obtain⟨l1,l2,l3,l4⟩:=zlz hs h
 obtain⟨m1,m2,m3,m4⟩:=zlz hs h'
 have hcd:=zj6 hs h'
 have hwm:∀ x,x∈(zhz L T C).map (fun v:Nat=>(v:Int))↔zhH (qE L T C) x:=fun x=>by
  constructor
  ·intro hx
   obtain⟨v,hv,rfl⟩:=List.mem_map.1 hx
   exact (zi8 (zjw v hv)).1 hv
  ·intro hx
   have:=zfL h hx
   obtain⟨v,rfl⟩:∃ v:Nat,x=(v:Int):=⟨x.toNat,by omega⟩
   exact List.mem_map_of_mem ((zi8 (by omega)).2 hx)
 have hrise:Rise ((zhz L T C).map fun v:Nat=>(v:Int)):=by
  have h1:(zhz L T C).Pairwise (· < ·):=List.Pairwise.sublist List.filter_sublist List.pairwise_lt_range
  unfold Rise
  rw[List.pairwise_map]
  exact h1.imp fun h=>by omega
 have hv':∀ x,zhH (qE L' T' C') x→0≤x∧x.toNat∈zhz L' T' C':=fun x hx=>by
  have:=zfL h' hx
  refine ⟨this.1,(zi8 (by omega)).2 ?_⟩
  rw[Int.toNat_of_nonneg this.1]; exact hx
 have hvl:(zhz L' T' C').length≤24:=by
  have:=zox _ (List.range 24) (zl5 L' T' C') fun v hv=>List.mem_range.2 (zjw v hv)
  simpa using this
 -- the last part, whatever the way to it
 have fin:∀ o:Option (List zt×List jI×Bool×List zt),o=((lp yS zp) ((b:Int),(zhz L' T' C').map (fun v:Nat=>(v:Int)),0,L',T',C',([]:List (Int×List Int)))).bind (fun r27=>qL r27 (fun z28=>(zcz z28 L' T' C').bind fun r29=>some (r29.1,r29.2.1,true,r29.2.2)) (fun z30=>some (([]:List zt),([]:List jI),z30,([]:List zt)))) →
   (o=some ([],[],false,[])∧∃ x,zhH (qE L' T' C') x∧23<x+(b:Int))∨(o=some (ze5 (b:Int) L',T'.map (List.map (upC (b:Int))),true,ze5 (b:Int) C')∧∀ x,zhH (qE L' T' C') x→x+(b:Int)≤23):=by
  intro o ho
  rw[ho,zgi _ _ _ _ _ _ (by rw[List.length_map]; unfold maxLen; omega),znf hb _ [] zjw (by simp; omega)]
  cases ha:(zhz L' T' C').all fun v=>decide (v+b≤23) with
  | false =>
   refine .inl ⟨rfl,?_⟩
   obtain⟨v,hv,hvb⟩:=List.all_eq_false.1 ha
   have hvb:¬ v+b≤23:=by simpa using hvb
   exact ⟨(v:Int),(zi8 (zjw v hv)).1 hv,by omega⟩
  | true =>
   refine .inr ⟨?_,fun x hx => ?_⟩
   ·simp only[cond_true,Option.bind_some,zcr,List.nil_append]
    rw[zr1 (zKV b _ (by omega)) (fun l hl=>(hcd _ (zaZ hl)).near) (fun l hl=>(hcd _ (zbJ hl)).near) (fun l hl=>(hcd _ (zbm hl)).near) (by omega) (by omega) (by omega),Option.bind_some]
    have eL:∀ ls:List zt,(∀ l∈ls,l.2∈qE L' T' C')→zmZ (upB b (zhz L' T' C')) ls=ze5 (b:Int) ls:=fun ls hls=>List.map_congr_left fun l hl=>by
     show (l.1,_)=(l.1,_)
     rw[zFo fun x hx=>hv' x ⟨_,hls l hl,hx⟩]
    have eT:zuO (upB b (zhz L' T' C')) T'=T'.map (List.map (upC (b:Int))):=List.map_congr_left fun l hl=>zFo fun x hx=>hv' x ⟨_,zbJ hl,hx⟩
    rw[eL L' fun l hl=>zaZ hl,eL C' fun l hl=>zbm hl,eT]
   ·obtain⟨h1,h2⟩:=hv' x hx
    have:=List.all_eq_true.1 ha _ h2
    have:x.toNat+b≤23:=by simpa using this
    omega
 unfold zdX
 rw[zes (by omega) (by omega) (by omega) (by omega),Option.bind_some]
 rcases zvk hrise hwm with ⟨h1,h2⟩ | ⟨x,h1,h2,h3⟩
 ·have e0:(b:Int)=0:=htop.unique h2 (by omega) (by omega)
  rw[h1]
  refine fin _ ?_
  rw[e0,show decide (((List.length ([]:List Int):Nat):Int)>0)=false from rfl,cond_false,zes (by omega) (by omega) (by omega) (by omega),Option.bind_some]
 ·have hx0:0≤x:=by
   have:=(hwm x).1 (List.mem_of_getElem? h1)
   exact (zfL h this).1
  have hx24:=(zfL h ((hwm x).1 (List.mem_of_getElem? h1))).2
  have e0:(b:Int)=x+1:=htop.unique h3 (by omega) (by omega)
  refine fin _ ?_
  have hl24:((zhz L T C).map fun v:Nat=>(v:Int)).length≤24:=by
   have:=zox _ (List.range 24) (zl5 L T C) fun v hv=>List.mem_range.2 (zjw v hv)
   simpa using this
  generalize (zhz L T C).map (fun v:Nat=>(v:Int))=ws at h1 h2 hl24 ⊢
  have w1:IntKind.wrap .i64 (((List.length ws:Nat):Int) - 1)=((ws.length - 1:Nat):Int):=by rw[zT]<;>omega
  have w2:IntKind.wrap .i64 (x+1)=(b:Int):=by rw[zT]<;>omega
  rw[decide_eq_true (show ((List.length ws:Nat):Int)>0 by omega),cond_true,w1,zap (by omega),Option.bind_some,h1,Option.bind_some,zes (by omega) (by omega) (by omega) (by omega),Option.bind_some,w2]
theorem zCv {α:Type} (xs:List α) {i:Nat} (h:i≤xs.length):zck xs (some (i:Int)) none=some (xs.drop i):=by
 show slc xs (i:Int) (xs.length:Int)=some _
 unfold slc
 rw[decide_eq_true (show (0:Int)≤(i:Int) by omega),decide_eq_true (show (i:Int)≤(xs.length:Int) by omega),decide_eq_true (show (xs.length:Int)≤((xs.length:Nat):Int) by omega)]
 simp
theorem zlN {α:Type} (s:Nat):(es:List α)→(i:Nat)→s<i→zal (s:Int) es i=es
 | [],_,_=>rfl
 | e::es,i,h=>by
  show cond ((i:Int) != (s:Int)) (e::zal (s:Int) es (i+1)) (zal (s:Int) es (i+1))=_
  rw[show ((i:Int) != (s:Int))=true from by simp; omega,cond_true,zlN s es (i+1) (by omega)]
theorem ziQ {α:Type} (s:Nat):(es:List α)→(i:Nat)→i≤s→s<i+es.length→zal (s:Int) es i=es.take (s - i)++es.drop (s - i+1)
 | [],i,h,h2=>by simp at h2; omega
 | e::es,i,h,h2=>by
  show cond ((i:Int) != (s:Int)) (e::zal (s:Int) es (i+1)) (zal (s:Int) es (i+1))=_
  simp only[List.length_cons] at h2
  by_cases he:i=s
  ·subst he
   rw[show ((i:Int) != (i:Int))=false from by simp,cond_false,zlN i es (i+1) (by omega)]
   simp
  ·rw[show ((i:Int) != (s:Int))=true from by simp; omega,cond_true,ziQ s es (i+1) (by omega) (by omega)]
   rw[show s - i=(s - (i+1))+1 from by omega]
   rfl
theorem zki {L:List zt} {i:Int} (h:zcG L i=true) (hl:L.length≤1000):zcy L i=some (zal i L 0):=by
 unfold zcG at h
 simp only[Bool.and_eq_true,decide_eq_true_eq] at h
 obtain⟨k,rfl⟩:∃ k:Nat,i=(k:Int):=⟨i.toNat,by omega⟩
 have w1:IntKind.wrap .i64 ((k:Int)+1)=((k+1:Nat):Int):=by rw[zT]<;>omega
 unfold zcy
 rw[w1,zAM L (by omega),Option.bind_some,zP (by simp; omega),cond_true,zCv L (by omega),Option.bind_some,zP (by simp; omega),cond_true,ziQ k L 0 (by omega) (by omega)]
 simp
theorem zBg {σ:Sb} (hsh:zaK σ (List.range 24)=true) {L:List zt} {T:List jI} {C:List zt} (hL:∀ l∈L,Cds l.2) (hT:∀ r∈T,Cds r) (hC:∀ l∈C,Cds l.2) (h1:L.length≤1000) (h2:T.length≤1000) (h3:C.length≤1000) :
  zcz (zds σ) L T C=some (zdV σ L,T.map (zf8 σ),zdV σ C):=by
 rw[zr1 (zsY hsh) (fun l hl=>(hL l hl).near) (fun r hr=>(hT r hr).near) (fun l hl=>(hC l hl).near) h1 h2 h3,
  zkO fun l hl c hc=>((hL l hl).2 c hc).1,zkO fun l hl c hc=>((hC l hl).2 c hc).1,zte fun r hr c hc=>((hT r hr).2 c hc).1]
theorem zxi {a0:List zQ} {σ:Sb} (hs:SignOk a0) (hsh:zaK σ (List.range 24)=true) {L:List zt} {T:List jI} {C:List zt} (hL:∀ l∈L,Cds l.2) (hT:∀ r∈T,Cds r) (hC:∀ l∈C,Cds l.2) (h1:L.length≤1000) (h2:T.length≤1000) (h3:C.length≤1000) (k:Int) :
  ((zhp a0 (zds σ) L T C).bind fun r40=>cond (!r40.2.2.1) (zqJ k) (some (r40.1,r40.2.1,true,(0:Int),r40.2.2.2)))=zni a0 σ L T C k:=by
 unfold zhp zni
 rw[zBg hsh hL hT hC h1 h2 h3,Option.bind_some]
 simp only
 rw[zh1,Option.bind_some]
 cases hm:zhL a0 (zdV σ L) (T.map (zf8 σ)) (zdV σ C) with
 | false=>rfl
 | true =>
  obtain⟨l1,l2,l3,l4⟩:=zlz hs hm
  rw[Bool.not_true,cond_false,zFN (zj6 hs hm) (by omega) (by omega) (by omega) l4]
  rfl
end
end Go.Abs.Q
namespace Go.Abs.Q
open Go Go.Abs
section
theorem ztn (L:List zt) (T:List jI) (C:List zt) (i:Int):zd1 L T C i=some (zcG L i):=by
 unfold zd1 zcG
 by_cases h:i≥0
 ·rw[decide_eq_true h,cond_true,Bool.true_and]
 ·rw[decide_eq_false h,cond_false,Bool.false_and]
theorem zpP (a0:List zQ) (L:List zt) (T:List jI) (C:List zt) (i:Int) (L':List zt) (T':List jI) (C':List zt) (j:Int) :
  zdB a0 L T C i L' T' C' j=zbs a0 L T C i L' T' C' j:=by
 rw[zhR]
 unfold zdB
 rw[zh1,Option.bind_some]
 cases h:zhL a0 L T C with
 | false=>rfl
 | true =>
  rw[Bool.not_true,cond_false,zh1,Option.bind_some,Bool.true_and]
  cases h':zhL a0 L' T' C' with
  | false=>rfl
  | true =>
   rw[Bool.not_true,cond_false,ztn,Option.bind_some,Bool.true_and]
   cases hpi:zcG L i with
   | false=>rfl
   | true =>
    rw[Bool.not_true,cond_false,ztn,Option.bind_some,Bool.true_and]
    cases hpj:zcG L' j with
    | false=>rfl
    | true =>
     rw[Bool.not_true,cond_false,cond_true]
     have hs:=zi2 (zaF h).1
     obtain⟨⟨n,A⟩,hi⟩:=ziz hpi
     obtain⟨⟨n',A'⟩,hj⟩:=ziz hpj
     obtain⟨m1,m2,m3,-⟩:=zlz hs h
     obtain⟨m1',m2',m3',-⟩:=zlz hs h'
     have hcd:=zj6 hs h
     have hcd':=zj6 hs h'
     rw[hi,Option.bind_some,hj,Option.bind_some]
     simp only[hi,hj,Option.bind_some]
     rcases zfR hs h h' hi hj with ⟨hno,r1⟩ | ⟨hnn,b,c,ts,us,hb,htop,rfl,rfl,ho,ho',hll,r1⟩
     ·rw[r1]
      by_cases hn:n=n'
      ·rw[show (n==n')=true from by simp [hn],cond_true]
       rfl
      ·rw[show (n==n')=false from by simp [hn],cond_false]
       have hne:=hno.resolve_left hn
       obtain⟨-,-,-,-,l4,-,-,-⟩:=zaF h
       obtain⟨-,-,-,-,l4',-,-,-⟩:=zaF h'
       obtain⟨c,ts,e,rfl,-⟩:=ziS (List.all_eq_true.1 l4 (n,A) (zkx hi))
       obtain⟨c',us,e',rfl,-⟩:=ziS (List.all_eq_true.1 l4' (n',A') (zkx hj))
       simp only[qK,List.getElem?_cons_zero,Option.bind_some] at hne ⊢
       have hcc:(c:Int)≠(c':Int):=fun e=>hne (by rw[e])
       rw[show ((c:Int) != (c':Int))=true from by simpa using hcc,cond_true]
       rfl
     ·rw[show (n==n')=false from by simp [hnn],cond_false]
      simp only[qK,List.getElem?_cons_zero,Option.bind_some]
      rw[show ((c:Int) != (c:Int))=false from by simp,cond_false]
      rcases zqR hs h h' hb htop with ⟨ap,x,hx,hfar⟩ | ⟨ap,hnear⟩
      ·rw[ap,Option.bind_some]
       rcases r1 with ⟨r1,-⟩ | ⟨hnear,-⟩
       ·rw[r1]; rfl
       ·have:=hnear x hx; omega
      ·rw[ap,Option.bind_some]
       rcases r1 with ⟨-,x,hx,hfar⟩ | ⟨-,r1⟩
       ·have:=hnear x hx; omega
       ·have hj2:gx (ze5 (b:Int) L') j=some (n',((c:Int)::zD us).map (upC (b:Int))):=zFG _ hj
        simp only[Bool.not_true,cond_false]
        rw[zc0,Option.bind_some,hj2,Option.bind_some]
        simp only
        rw[zs9,zc0,Option.bind_some]
        have hvar:∀ k:Nat,zl9 k us→k+b<24:=fun k hk=>by
         have:=hnear (k:Int) ⟨_,zaZ (zkx hj),by
          obtain⟨c0,h1,h2,h3⟩:=zm5.2 ⟨k,rfl,hk⟩
          exact ⟨c0,List.mem_cons_of_mem _ h1,h2,h3⟩⟩
         omega
        have l48:(zD ts).length≤48:=by
         obtain⟨-,-,-,-,l4,-,-,-⟩:=zaF h
         have:=ziZ (List.all_eq_true.1 l4 _ (zkx hi))
         simp only[List.length_cons] at this
         omega
        have l48':(zD (us.map (Tm.up b))).length≤48:=by
         rw[← zn8,List.length_map]
         obtain⟨-,-,-,-,l4,-,-,-⟩:=zaF h'
         have:=ziZ (List.all_eq_true.1 l4 _ (zkx hj))
         simp only[List.length_cons] at this
         omega
        have hl2:ts.length=(us.map (Tm.up b)).length:=by rw[List.length_map]; exact hll
        rcases znQ hs ho (zvC ho' hvar) l48 l48' with ⟨tg,hnone⟩ | ⟨-,σ',hm',tg⟩
        ·have hnone:=hnone.resolve_left fun h=>h hl2
         rw[tg,Option.bind_some]
         rcases r1 with ⟨r1,-⟩ | ⟨σ,hm,-⟩
         ·rw[r1]; rfl
         ·exact absurd hm.sol (hnone σ)
        ·rw[tg,Option.bind_some]
         rcases r1 with ⟨-,hnone⟩ | ⟨σ,hm,hok,r1⟩
         ·exact absurd hm'.sol (hnone σ')
         ·have:=hm.unique hm'
          subst this
          rcases r1 with ⟨hsh,r1⟩ | ⟨hsh,r1⟩
          ·rw[r1,hsh]; rfl
          ·rw[r1,hsh]
           simp only[cond_true,Bool.not_true,cond_false]
           have hpj2:zcG (ze5 (b:Int) L') j=true:=by
            unfold zcG at hpj ⊢
            rw[show (ze5 (b:Int) L').length=L'.length by simp [ze5]]
            exact hpj
           have hul:(ze5 (b:Int) L').length=L'.length:=by simp [ze5]
           have hucl:(ze5 (b:Int) C').length=C'.length:=by simp [ze5]
           have hwl:=zcP i L 0
           have hwl':=zcP j (ze5 (b:Int) L') 0
           rw[zki hpi (by omega),Option.bind_some,zki hpj2 (by omega),Option.bind_some,zP (by omega),cond_true]
           unfold zj3
           rw[zP (by omega),cond_true,zP (by rw[List.length_map]; omega),cond_true,zP (by omega),cond_true,zP (by omega),cond_true,Option.bind_some]
           have hup:∀ r∈qE L' T' C',Cds (r.map (upC (b:Int))):=fun r hr=>zFC (hcd' r hr) fun x hx=>hnear x ⟨r,hr,hx⟩
           have hupl:∀ ls:List zt,(∀ l∈ls,l.2∈qE L' T' C')→∀ l∈ze5 (b:Int) ls,Cds l.2:=fun ls hls l hl=>by
            obtain⟨l0,h0,rfl⟩:=List.mem_map.1 hl
            exact hup _ (hls l0 h0)
           have:=zxi (a0:=a0) hs hsh (L:=zzr i j b L L') (T:=zvN b T T') (C:=zwW b C C') (fun l hl=>by
            unfold zzr at hl
            rcases List.mem_append.1 hl with hl | hl
            ·exact hcd _ (zaZ (zcI L 0 hl))
            ·exact hupl L' (fun l hl=>zaZ hl) l (zcI _ 0 hl)) (fun r hr=>by
            unfold zvN at hr
            rcases List.mem_append.1 hr with hr | hr
            ·exact hcd _ (zbJ hr)
            ·obtain⟨r0,h0,rfl⟩:=List.mem_map.1 hr
             exact hup _ (zbJ h0)) (fun l hl=>by
            unfold zwW at hl
            rcases List.mem_append.1 hl with hl | hl
            ·exact hcd _ (zbm hl)
            ·exact hupl C' (fun l hl=>zbm hl) l hl) (by unfold zzr; rw[List.length_append]; omega) (by unfold zvN; rw[List.length_append,List.length_map]; omega) (by unfold zwW; rw[List.length_append]; omega) 1302
           exact this
end
end Go.Abs.Q
namespace Go.Abs.Q
open Go Go.Abs
end Go.Abs.Q
namespace Go.Abs.Q
open Go Go.Abs
end Go.Abs.Q
namespace Go.Abs.Q
open Go Go.Abs
section
end
end Go.Abs.Q
namespace Go.Abs.Q
open Go Go.Abs
def zas (a0:jS) (a1:jQ) (a2:jR) (a3:jQ) (a4:Int) (a5:jQ) (a6:jR) (a7:jQ) (a8:Int):Option Bool :=
 (zad a1 a2 a3).bind fun r10 =>
 (zad a5 a6 a7).bind fun r11 =>
 (zbs a0 a1 a2 a3 a4 a5 a6 a7 a8).bind fun r12 =>
 (zdB a0 a1 a2 a3 a4 a5 a6 a7 a8).bind fun r13 =>
 (yU r12.1 r12.2.1 r12.2.2.2.2 r13.1 r13.2.1 r13.2.2.2.2).bind fun r14 =>
 cond (!r14)
 (some false)
 (cond (!(r12.2.2.1==r13.2.2.1))
  (some false)
  ((zfD r12.2.2.2.1).bind fun r15 =>
   cond (r15 != r13.2.2.2.1)
   (some false)
   ((yU a1 a2 a3 r10.1 r10.2.1 r10.2.2).bind fun r16 =>
    cond r16
    ((yU a5 a6 a7 r11.1 r11.2.1 r11.2.2).bind fun r17 =>
     cond r17
     ((zim).bind fun r18 =>
      some r18)
     (some false))
    (some false))))
end Go.Abs.Q
namespace Go.Abs.Q
open Go Go.Abs
section
def zgP (L:List zt) (T:List jI) (C:List zt):Prop:=yU L T C L T C=some true
theorem znb:zgP [] [] []:=by
 unfold zgP
 exact zb4 (by simp) (by simp) (by simp) (by simp) (by simp) (by simp)
theorem zrV {a0:List zQ} {σ:Sb} {L:List zt} {T:List jI} {C:List zt} {k:Int}:∃ r,zni a0 σ L T C k=some r∧zgP r.1 r.2.1 r.2.2.2.2:=by
 unfold zni
 cases hm:zhL a0 (zdV σ L) (T.map (zf8 σ)) (zdV σ C) with
 | true=>exact ⟨_,rfl,ztK hm⟩
 | false=>exact ⟨_,rfl,znb⟩
theorem zc2 {o:Option zMG} {k:Int} (h:o=zqJ k):∃ r,o=some r∧zgP r.1 r.2.1 r.2.2.2.2:=⟨_,h,znb⟩
theorem zoC (a0:List zQ) (L:List zt) (T:List jI) (C:List zt) (i:Int) (L':List zt) (T':List jI) (C':List zt) (j:Int):∃ r,zbs a0 L T C i L' T' C' j=some r∧zgP r.1 r.2.1 r.2.2.2.2:=by
 rw[zhR]
 cases hmay:zhL a0 L T C with
 | false=>exact zc2 (k:=1300) rfl
 | true =>
  cases hmay':zhL a0 L' T' C' with
  | false=>exact zc2 (k:=1300) rfl
  | true =>
   rw[Bool.true_and,Bool.true_and]
   cases hpi:zcG L i with
   | false=>exact zc2 (k:=1300) rfl
   | true =>
    rw[Bool.true_and]
    cases hpj:zcG L' j with
    | false=>exact zc2 (k:=1300) rfl
    | true =>
     rw[cond_true]
     have hs:=zi2 (zaF hmay).1
     obtain⟨⟨n,A⟩,hi⟩:=ziz hpi
     obtain⟨⟨n',A'⟩,hj⟩:=ziz hpj
     rcases zfR hs hmay hmay' hi hj with ⟨-,r1⟩ | ⟨hnn,b,c,ts,us,hb,-,rfl,rfl,ho,ho',hll,⟨r1,-⟩ | ⟨hnear,⟨r1,-⟩ | ⟨σ,hmgu,hok,⟨-,r1⟩ | ⟨-,r1⟩⟩⟩⟩
     ·exact zc2 r1
     ·exact zc2 r1
     ·exact zc2 r1
     ·exact zc2 r1
     ·rw[r1]
      exact zrV
theorem zrx {L:List zt} {T:List jI} {C:List zt} (h1:L.length≤1048576) (h1m:∀ l∈L,l.2.length≤1048576) (h2:T.length≤1048576) (h2m:∀ l∈T,l.length≤1048576) (h3:C.length≤1048576) (h3m:∀ l∈C,l.2.length≤1048576) :
  zad L T C=some (L,T,C)∧zgP L T C:=by
 refine ⟨?_,?_⟩
 ·unfold zad
  rw[zfQ (fun l hl=>Nat.le_trans (h1m l hl) (by decide)) (Nat.le_trans h1 (by decide)),zkF (fun l hl=>Nat.le_trans (h2m l hl) (by decide)) (Nat.le_trans h2 (by decide)),zfQ (fun l hl=>Nat.le_trans (h3m l hl) (by decide)) (Nat.le_trans h3 (by decide))]
  rfl
 ·have hM:1048576≤maxLen:=by decide
  exact zb4 (Nat.le_trans h1 hM) (fun e he=>Nat.le_trans (h1m e he) hM) (Nat.le_trans h2 hM) (fun e he=>Nat.le_trans (h2m e he) hM) (Nat.le_trans h3 hM) (fun e he=>Nat.le_trans (h3m e he) hM)
theorem zh7 (a0:List zQ) (L:List zt) (T:List jI) (C:List zt) (i:Int) (L':List zt) (T':List jI) (C':List zt) (j:Int) (hc:zad L T C=some (L,T,C)∧zgP L T C) (hc':zad L' T' C'=some (L',T',C')∧zgP L' T' C') :
  zas a0 L T C i L' T' C' j=some true:=by
 unfold zas
 have hnum:∀ k:Int,zfD k=some k:=fun k=>rfl
 obtain⟨r,h1,h2⟩:=zoC a0 L T C i L' T' C' j
 unfold zgP at h2
 have hs:=hc.2
 have hs':=hc'.2
 unfold zgP at hs hs'
 rw[hc.1,Option.bind_some,hc'.1,Option.bind_some,h1,Option.bind_some,zpP,h1,Option.bind_some,h2,Option.bind_some]
 simp only[Bool.not_true,cond_false,beq_self_eq_true,hnum,Option.bind_some,bne_self_eq_false,hs,hs',cond_true,zmL]
theorem zyb {L:List zt} {T:List jI} {C:List zt} (h1:Go.Abs.wt (.sl zdj) L≤1048576) (h2:Go.Abs.wt (.sl (.one (.sl (.one (.int .i64))))) T≤1048576) (h3:Go.Abs.wt (.sl zdj) C≤1048576):zad L T C=some (L,T,C)∧zgP L T C:=by
 obtain⟨l1,m1⟩:=zzA h1
 obtain⟨l2,m2⟩:=zGD h2
 obtain⟨l3,m3⟩:=zzA h3
 exact zrx l1 m1 l2 m2 l3 m3
theorem zmY (x:List zQ×List zt×List jI×List zt×Int×List zt×List jI×List zt×Int) (h:wtL [.sl zra,.sl zdj,.sl (.one (.sl (.one (.int .i64)))),.sl zdj,.int .i64,.sl zdj,.sl (.one (.sl (.one (.int .i64)))),.sl zdj,.int .i64] x≤1048576) :
  zas x.1 x.2.1 x.2.2.1 x.2.2.2.1 x.2.2.2.2.1 x.2.2.2.2.2.1 x.2.2.2.2.2.2.1 x.2.2.2.2.2.2.2.1 x.2.2.2.2.2.2.2.2=some true:=by
 have h:Go.Abs.wt (.sl zra) x.1+(Go.Abs.wt (.sl zdj) x.2.1+(Go.Abs.wt (.sl (.one (.sl (.one (.int .i64))))) x.2.2.1+(Go.Abs.wt (.sl zdj) x.2.2.2.1+(Go.Abs.wt (.int .i64) x.2.2.2.2.1+(Go.Abs.wt (.sl zdj) x.2.2.2.2.2.1+(Go.Abs.wt (.sl (.one (.sl (.one (.int .i64))))) x.2.2.2.2.2.2.1+(Go.Abs.wt (.sl zdj) x.2.2.2.2.2.2.2.1+Go.Abs.wt (.int .i64) x.2.2.2.2.2.2.2.2)))))))≤1048576:=h
 exact zh7 _ _ _ _ _ _ _ _ _ (zyb (by omega) (by omega) (by omega)) (zyb (by omega) (by omega) (by omega))
end
end Go.Abs.Q
