import Derived.Test.YtleengbobccdkaaGreatDoorQa
/-
  What the functions make of plain values, and what the law says of that.
-/
namespace Go.Abs.Q
open Go Go.Abs
def ref1_Of_L0 (rec:((List (Int×(List Int)))×Int×Int)→Option (Unit⊕Int)) (x:((List (Int×(List Int)))×Int×Int)):Option (Unit⊕Int) :=
 cond (decide (x.2.2<((List.length x.1:Nat):Int)))
 ((gx x.1 x.2.2).bind fun e2 =>
  cond (e2.1==x.2.1)
  (some (Sum.inr x.2.2))
  (rec (x.1,x.2.1,(IntKind.wrap .i64 (x.2.2+1)))))
 (some (Sum.inl ()))
def ref1_Of (a0:(List (Int×(List Int)))) (a1:Int):Option Int :=
 ((lp ref1_Of_L0 fuel) (a0,a1,0)).bind fun r6 =>
 caseS r6
 (fun z7=>some (-1))
 (fun z8=>some z8)
def ref1_Put_L0 (rec:((List (Int×(List Int)))×(List Int)×Int×(List Int))→Option (List Int)) (x:((List (Int×(List Int)))×(List Int)×Int×(List Int))):Option (List Int) :=
 cond (decide (x.2.2.1<((List.length x.2.1:Nat):Int)))
 ((gx x.2.1 x.2.2.1).bind fun e16 =>
  cond (decide (e16<0))
  ((gx x.2.1 x.2.2.1).bind fun e17 =>
   (ref1_Of x.1 (IntKind.wrap .i64 ((-1) - e17))).bind fun r18 =>
   cond (decide (r18<0))
   ((gx x.2.1 x.2.2.1).bind fun e19 =>
    cond (room (List.length x.2.2.2+List.length ([e19]:List Int)) 8)
    (rec (x.1,x.2.1,(IntKind.wrap .i64 (x.2.2.1+1)),(x.2.2.2++([e19]:List Int))))
    (none))
   ((gx x.1 r18).bind fun e20 =>
    cond (room (List.length x.2.2.2+List.length e20.2) 8)
    (rec (x.1,x.2.1,(IntKind.wrap .i64 (x.2.2.1+1)),(x.2.2.2++e20.2)))
    (none)))
  ((gx x.2.1 x.2.2.1).bind fun e21 =>
   cond (room (List.length x.2.2.2+List.length ([e21]:List Int)) 8)
   (rec (x.1,x.2.1,(IntKind.wrap .i64 (x.2.2.1+1)),(x.2.2.2++([e21]:List Int))))
   (none)))
 (some x.2.2.2)
def ref1_Put (a0:(List (Int×(List Int)))) (a1:(List Int)):Option (List Int) :=
 ((lp ref1_Put_L0 fuel) (a0,a1,0,([]:(List Int)))).bind fun r23 =>
 some r23
def ref8_Copy_L2 (rec:((List (Int×(List Int)))×Int×(List QLit)×(List (List Int))×(List QLit)×(List QLit)×(List (List Int))×(List QLit))→Option ((List QLit)×(List (List Int))×(List QLit))) (x:((List (Int×(List Int)))×Int×(List QLit)×(List (List Int))×(List QLit)×(List QLit)×(List (List Int))×(List QLit))):Option ((List QLit)×(List (List Int))×(List QLit)) :=
 cond (decide (x.2.1<((List.length x.2.2.2.2.1:Nat):Int)))
 ((gx x.2.2.2.2.1 x.2.1).bind fun e24 =>
  (gx x.2.2.2.2.1 x.2.1).bind fun e25 =>
  (ref1_Put x.1 e25.2).bind fun r26 =>
  cond (room (List.length x.2.2.2.2.2.2.2+List.length ([(e24.1,r26)]:List QLit)) 32)
  (rec (x.1,(IntKind.wrap .i64 (x.2.1+1)),x.2.2.1,x.2.2.2.1,x.2.2.2.2.1,x.2.2.2.2.2.1,x.2.2.2.2.2.2.1,(x.2.2.2.2.2.2.2++([(e24.1,r26)]:List QLit))))
  (none))
 (some (x.2.2.2.2.2.1,x.2.2.2.2.2.2.1,x.2.2.2.2.2.2.2))
def ref8_Copy_L1 (rec:((List (Int×(List Int)))×Int×(List QLit)×(List (List Int))×(List QLit)×(List QLit)×(List (List Int)))→Option ((List QLit)×(List (List Int)))) (x:((List (Int×(List Int)))×Int×(List QLit)×(List (List Int))×(List QLit)×(List QLit)×(List (List Int)))):Option ((List QLit)×(List (List Int))) :=
 cond (decide (x.2.1<((List.length x.2.2.2.1:Nat):Int)))
 ((gx x.2.2.2.1 x.2.1).bind fun e15 =>
  (ref1_Put x.1 e15).bind fun r16 =>
  cond (room (List.length x.2.2.2.2.2.2+List.length ([r16]:List (List Int))) 24)
  (rec (x.1,(IntKind.wrap .i64 (x.2.1+1)),x.2.2.1,x.2.2.2.1,x.2.2.2.2.1,x.2.2.2.2.2.1,(x.2.2.2.2.2.2++([r16]:List (List Int)))))
  (none))
 (some (x.2.2.2.2.2.1,x.2.2.2.2.2.2))
def ref8_Copy_L0 (rec:((List (Int×(List Int)))×Int×(List QLit)×(List (List Int))×(List QLit)×(List QLit))→Option (List QLit)) (x:((List (Int×(List Int)))×Int×(List QLit)×(List (List Int))×(List QLit)×(List QLit))):Option (List QLit) :=
 cond (decide (x.2.1<((List.length x.2.2.1:Nat):Int)))
 ((gx x.2.2.1 x.2.1).bind fun e7 =>
  (gx x.2.2.1 x.2.1).bind fun e8 =>
  (ref1_Put x.1 e8.2).bind fun r9 =>
  cond (room (List.length x.2.2.2.2.2+List.length ([(e7.1,r9)]:List QLit)) 32)
  (rec (x.1,(IntKind.wrap .i64 (x.2.1+1)),x.2.2.1,x.2.2.2.1,x.2.2.2.2.1,(x.2.2.2.2.2++([(e7.1,r9)]:List QLit))))
  (none))
 (some x.2.2.2.2.2)
def ref8_Copy (a0:(List (Int×(List Int)))) (a1:(List QLit)) (a2:(List (List Int))) (a3:(List QLit)):Option ((List QLit)×(List (List Int))×(List QLit)) :=
 ((lp ref8_Copy_L0 fuel) (a0,0,a1,a2,a3,([]:(List QLit)))).bind fun r28 =>
 ((lp ref8_Copy_L1 fuel) (a0,0,a1,a2,a3,r28,([]:(List (List Int))))).bind fun r29 =>
 ((lp ref8_Copy_L2 fuel) (a0,0,a1,a2,a3,r29.1,r29.2,([]:(List QLit)))).bind fun r30 =>
 some (r30.1,r30.2.1,r30.2.2)
def ref1_Same_L0 (rec:((List Int)×(List Int)×Int)→Option (Unit⊕Bool)) (x:((List Int)×(List Int)×Int)):Option (Unit⊕Bool) :=
 cond (decide (x.2.2<((List.length x.1:Nat):Int)))
 ((gx x.1 x.2.2).bind fun e3 =>
  (gx x.2.1 x.2.2).bind fun e4 =>
  cond (e3 != e4)
  (some (Sum.inr false))
  (rec (x.1,x.2.1,(IntKind.wrap .i64 (x.2.2+1)))))
 (some (Sum.inl ()))
def ref1_Same (a0:(List Int)) (a1:(List Int)):Option Bool :=
 cond (((List.length a0:Nat):Int) != ((List.length a1:Nat):Int))
 (some false)
 (((lp ref1_Same_L0 fuel) (a0,a1,0)).bind fun r8 =>
  caseS r8
  (fun z9=>some true)
  (fun z10=>some z10))
def ref8_SameLit (a0:Bool) (a1:(List Int)) (a2:Bool) (a3:(List Int)):Option Bool :=
 cond (a0==a2)
 ((ref1_Same a1 a3).bind fun r2 =>
  some r2)
 (some false)
def ref8_lits_L0 (rec:((List QLit)×Int×Bool×Int×(List QLit))→Option (Bool×(List QLit))) (x:((List QLit)×Int×Bool×Int×(List QLit))):Option (Bool×(List QLit)) :=
 cond (decide (x.2.2.2.1<((List.length x.2.2.2.2:Nat):Int)))
 (cond x.2.2.1
  (rec (x.1,x.2.1,true,(IntKind.wrap .i64 (x.2.2.2.1+1)),x.2.2.2.2))
  ((inR x.2.2.2.1 (List.length x.2.2.2.2)).bind fun k7 =>
   (x.2.2.2.2[k7]?).bind fun x8 =>
   (gx x.1 x.2.1).bind fun e9 =>
   (ref8_SameLit x8.1 x8.2 e9.1 e9.2).bind fun r10 =>
   rec (x.1,x.2.1,r10,(IntKind.wrap .i64 (x.2.2.2.1+1)),x.2.2.2.2)))
 (some (x.2.2.1,x.2.2.2.2))
def ref8_lits_L1 (rec:((List QLit)×Int×(List QLit))→Option (List QLit)) (x:((List QLit)×Int×(List QLit))):Option (List QLit) :=
 cond (decide (x.2.1<((List.length x.1:Nat):Int)))
 (((lp ref8_lits_L0 fuel) (x.1,x.2.1,false,0,x.2.2)).bind fun r13 =>
  cond (!r13.1)
  ((gx x.1 x.2.1).bind fun e14 =>
   cond (room (List.length r13.2+List.length ([(e14.1,e14.2)]:List QLit)) 32)
   (rec (x.1,(IntKind.wrap .i64 (x.2.1+1)),(r13.2++([(e14.1,e14.2)]:List QLit))))
   (none))
  (rec (x.1,(IntKind.wrap .i64 (x.2.1+1)),r13.2)))
 (some x.2.2)
def ref8_lits (a0:(List QLit)):Option (List QLit) :=
 ((lp ref8_lits_L1 fuel) (a0,0,([]:(List QLit)))).bind fun r16 =>
 some r16
def ref8_Norm_L2 (rec:((List (List Int))×Int×Int×(List QLit)×(List (List Int))×(List QLit)×(List (Int×(List Int))))→Option (List (Int×(List Int)))) (x:((List (List Int))×Int×Int×(List QLit)×(List (List Int))×(List QLit)×(List (Int×(List Int))))):Option (List (Int×(List Int))) :=
 (gx x.1 x.2.1).bind fun e29 =>
 cond (decide (x.2.2.1<((List.length e29:Nat):Int)))
 ((gx x.1 x.2.1).bind fun e30 =>
  (gx e30 x.2.2.1).bind fun e31 =>
  cond (decide (e31<0))
  ((ref1_Of x.2.2.2.2.2.2 (IntKind.wrap .i64 ((-1) - e31))).bind fun r32 =>
   cond (decide (r32<0))
   (cond (room (List.length x.2.2.2.2.2.2+List.length ([((IntKind.wrap .i64 ((-1) - e31)),([(IntKind.wrap .i64 ((-1) - ((List.length x.2.2.2.2.2.2:Nat):Int)))]:List Int))]:List (Int×(List Int)))) 32)
    (rec (x.1,x.2.1,(IntKind.wrap .i64 (x.2.2.1+1)),x.2.2.2.1,x.2.2.2.2.1,x.2.2.2.2.2.1,(x.2.2.2.2.2.2++([((IntKind.wrap .i64 ((-1) - e31)),([(IntKind.wrap .i64 ((-1) - ((List.length x.2.2.2.2.2.2:Nat):Int)))]:List Int))]:List (Int×(List Int))))))
    (none))
   (rec (x.1,x.2.1,(IntKind.wrap .i64 (x.2.2.1+1)),x.2.2.2.1,x.2.2.2.2.1,x.2.2.2.2.2.1,x.2.2.2.2.2.2)))
  (rec (x.1,x.2.1,(IntKind.wrap .i64 (x.2.2.1+1)),x.2.2.2.1,x.2.2.2.2.1,x.2.2.2.2.2.1,x.2.2.2.2.2.2)))
 (some x.2.2.2.2.2.2)
def ref8_Norm_L0 (rec:(Int×Bool×Int×(List QLit)×(List (List Int))×(List QLit)×(List QLit)×(List QLit)×(List (List Int)))→Option (Bool×(List QLit)×(List QLit)×(List (List Int)))) (x:(Int×Bool×Int×(List QLit)×(List (List Int))×(List QLit)×(List QLit)×(List QLit)×(List (List Int)))):Option (Bool×(List QLit)×(List QLit)×(List (List Int))) :=
 cond (decide (x.2.2.1<((List.length x.2.2.2.2.2.2.2.2:Nat):Int)))
 (cond x.2.1
  (rec (x.1,true,(IntKind.wrap .i64 (x.2.2.1+1)),x.2.2.2.1,x.2.2.2.2.1,x.2.2.2.2.2.1,x.2.2.2.2.2.2.1,x.2.2.2.2.2.2.2.1,x.2.2.2.2.2.2.2.2))
  ((inR x.2.2.1 (List.length x.2.2.2.2.2.2.2.2)).bind fun k9 =>
   (x.2.2.2.2.2.2.2.2[k9]?).bind fun x10 =>
   (gx x.2.2.2.2.1 x.1).bind fun e11 =>
   (ref1_Same x10 e11).bind fun r12 =>
   rec (x.1,r12,(IntKind.wrap .i64 (x.2.2.1+1)),x.2.2.2.1,x.2.2.2.2.1,x.2.2.2.2.2.1,x.2.2.2.2.2.2.1,x.2.2.2.2.2.2.2.1,x.2.2.2.2.2.2.2.2)))
 (some (x.2.1,x.2.2.2.2.2.2.1,x.2.2.2.2.2.2.2.1,x.2.2.2.2.2.2.2.2))
def ref8_Norm_L3 (rec:((List (List Int))×Int×(List QLit)×(List (List Int))×(List QLit)×(List (Int×(List Int))))→Option (List (Int×(List Int)))) (x:((List (List Int))×Int×(List QLit)×(List (List Int))×(List QLit)×(List (Int×(List Int))))):Option (List (Int×(List Int))) :=
 cond (decide (x.2.1<((List.length x.1:Nat):Int)))
 (((lp ref8_Norm_L2 fuel) (x.1,x.2.1,0,x.2.2.1,x.2.2.2.1,x.2.2.2.2.1,x.2.2.2.2.2)).bind fun r35 =>
  rec (x.1,(IntKind.wrap .i64 (x.2.1+1)),x.2.2.1,x.2.2.2.1,x.2.2.2.2.1,r35))
 (some x.2.2.2.2.2)
def ref8_Norm_L1 (rec:(Int×(List QLit)×(List (List Int))×(List QLit)×(List QLit)×(List QLit)×(List (List Int)))→Option ((List QLit)×(List QLit)×(List (List Int)))) (x:(Int×(List QLit)×(List (List Int))×(List QLit)×(List QLit)×(List QLit)×(List (List Int)))):Option ((List QLit)×(List QLit)×(List (List Int))) :=
 cond (decide (x.1<((List.length x.2.2.1:Nat):Int)))
 (((lp ref8_Norm_L0 fuel) (x.1,false,0,x.2.1,x.2.2.1,x.2.2.2.1,x.2.2.2.2.1,x.2.2.2.2.2.1,x.2.2.2.2.2.2)).bind fun r17 =>
  cond (!r17.1)
  ((gx x.2.2.1 x.1).bind fun e18 =>
   cond (room (List.length r17.2.2.2+List.length ([e18]:List (List Int))) 24)
   (rec ((IntKind.wrap .i64 (x.1+1)),x.2.1,x.2.2.1,x.2.2.2.1,r17.2.1,r17.2.2.1,(r17.2.2.2++([e18]:List (List Int)))))
   (none))
  (rec ((IntKind.wrap .i64 (x.1+1)),x.2.1,x.2.2.1,x.2.2.2.1,r17.2.1,r17.2.2.1,r17.2.2.2)))
 (some (x.2.2.2.2.1,x.2.2.2.2.2.1,x.2.2.2.2.2.2))
def ref8_Norm (a0:(List QLit)) (a1:(List (List Int))) (a2:(List QLit)):Option ((List QLit)×(List (List Int))×(List QLit)) :=
 (ref8_lits a0).bind fun r38 =>
 (ref8_lits a2).bind fun r39 =>
 ((lp ref8_Norm_L1 fuel) (0,a0,a1,a2,r38,r39,([]:(List (List Int))))).bind fun r40 =>
 (ref8_rows r40.1 r40.2.2 r40.2.1).bind fun r41 =>
 ((lp ref8_Norm_L3 fuel) (r41,0,r40.1,r40.2.2,r40.2.1,([]:(List (Int×(List Int)))))).bind fun r42 =>
 (ref8_Copy r42 r40.1 r40.2.2 r40.2.1).bind fun r43 =>
 some (r43.1,r43.2.1,r43.2.2)
end Go.Abs.Q
namespace Go.Abs.Q
open Go Go.Abs
def ref1_Of_L0_go (s1:Int):List (Int×(List Int))→Nat→Option (Unit⊕Int)
 | [],i=>some (Sum.inl ())
 | e::es,i =>
  cond (e.1==s1)
  (some (Sum.inr (i:Int)))
  (ref1_Of_L0_go s1 es (i+1))
theorem ref1_Of_L0_go_eq (s0:(List (Int×(List Int)))) (s1:Int) (hl:List.length s0≤maxLen):∀(es:List (Int×(List Int))) (i:Nat) (k:Nat),s0.drop i=es→es.length<k→lp ref1_Of_L0 k (s0,s1,(i:Int))=ref1_Of_L0_go s1 es i:=by
 intro es
 induction es with
 | nil =>
  intro i k h hk
  obtain⟨k,rfl⟩:∃ k',k=k'+1:=⟨k - 1,by omega⟩
  rw[lp_succ]
  generalize lp ref1_Of_L0 k=rec
  unfold ref1_Of_L0 ref1_Of_L0_go
  simp only[lt_false (drop_nil_le h),cond_false]
 | cons e es ih =>
  intro i k h hk
  obtain⟨k,rfl⟩:∃ k',k=k'+1:=⟨k - 1,by omega⟩
  rw[lp_succ]
  have hi:=drop_cons_lt h
  have hk2:es.length<k:=Nat.lt_of_succ_lt_succ hk
  have key:=fun (_:Unit)=>ih (i+1) k (drop_cons_next h) hk2
  generalize lp ref1_Of_L0 k=rec at key ⊢
  unfold ref1_Of_L0 ref1_Of_L0_go
  simp only[lt_true hi,cond_true,gx_nat,drop_cons_get h,Option.bind_some,wrap_i1 hi hl,key ()]
theorem ref1_Of_L0_go_at0 (s0:(List (Int×(List Int)))) (s1:Int) (hl:List.length s0≤maxLen):lp ref1_Of_L0 fuel (s0,s1,0)=ref1_Of_L0_go s1 s0 0 :=
 ref1_Of_L0_go_eq s0 s1 hl s0 0 fuel rfl (Nat.lt_of_le_of_lt hl (by decide))
def ref1_Put_L0_go (s0:(List (Int×(List Int)))):List Int→(List Int)→Option (List Int)
 | [],s3=>some s3
 | e::es,s3 =>
  cond (decide (e<0))
  ((ref1_Of s0 (IntKind.wrap .i64 ((-1) - e))).bind fun r18 =>
   cond (decide (r18<0))
   (cond (room (List.length s3+List.length ([e]:List Int)) 8)
    (ref1_Put_L0_go s0 es (s3++([e]:List Int)))
    (none))
   ((gx s0 r18).bind fun e20 =>
    cond (room (List.length s3+List.length e20.2) 8)
    (ref1_Put_L0_go s0 es (s3++e20.2))
    (none)))
  (cond (room (List.length s3+List.length ([e]:List Int)) 8)
   (ref1_Put_L0_go s0 es (s3++([e]:List Int)))
   (none))
theorem ref1_Put_L0_go_eq (s0:(List (Int×(List Int)))) (s1:(List Int)) (hl:List.length s1≤maxLen):∀(es:List Int) (i:Nat) (k:Nat) (s3:(List Int)),s1.drop i=es→es.length<k→lp ref1_Put_L0 k (s0,s1,(i:Int),s3)=ref1_Put_L0_go s0 es s3:=by
 intro es
 induction es with
 | nil =>
  intro i k s3 h hk
  obtain⟨k,rfl⟩:∃ k',k=k'+1:=⟨k - 1,by omega⟩
  rw[lp_succ]
  generalize lp ref1_Put_L0 k=rec
  unfold ref1_Put_L0 ref1_Put_L0_go
  simp only[lt_false (drop_nil_le h),cond_false]
 | cons e es ih =>
  intro i k s3 h hk
  obtain⟨k,rfl⟩:∃ k',k=k'+1:=⟨k - 1,by omega⟩
  rw[lp_succ]
  have hi:=drop_cons_lt h
  have hk2:es.length<k:=Nat.lt_of_succ_lt_succ hk
  have key:=fun s3=>ih (i+1) k s3 (drop_cons_next h) hk2
  generalize lp ref1_Put_L0 k=rec at key ⊢
  unfold ref1_Put_L0 ref1_Put_L0_go
  simp only[lt_true hi,cond_true,gx_nat,drop_cons_get h,Option.bind_some,wrap_i1 hi hl,key]
theorem ref1_Put_L0_go_at0 (s0:(List (Int×(List Int)))) (s1:(List Int)) (s3:(List Int)) (hl:List.length s1≤maxLen):lp ref1_Put_L0 fuel (s0,s1,0,s3)=ref1_Put_L0_go s0 s1 s3 :=
 ref1_Put_L0_go_eq s0 s1 hl s1 0 fuel s3 rfl (Nat.lt_of_le_of_lt hl (by decide))
def ref8_Copy_L2_go (s0:(List (Int×(List Int)))) (s5:(List QLit)) (s6:(List (List Int))):List QLit→(List QLit)→Option ((List QLit)×(List (List Int))×(List QLit))
 | [],s7=>some (s5,s6,s7)
 | e::es,s7 =>
  (ref1_Put s0 e.2).bind fun r26 =>
  cond (room (List.length s7+List.length ([(e.1,r26)]:List QLit)) 32)
  (ref8_Copy_L2_go s0 s5 s6 es (s7++([(e.1,r26)]:List QLit)))
  (none)
theorem ref8_Copy_L2_go_eq (s0:(List (Int×(List Int)))) (s2:(List QLit)) (s3:(List (List Int))) (s4:(List QLit)) (s5:(List QLit)) (s6:(List (List Int))) (hl:List.length s4≤maxLen):∀(es:List QLit) (i:Nat) (k:Nat) (s7:(List QLit)),s4.drop i=es→es.length<k→lp ref8_Copy_L2 k (s0,(i:Int),s2,s3,s4,s5,s6,s7)=ref8_Copy_L2_go s0 s5 s6 es s7:=by
 intro es
 induction es with
 | nil =>
  intro i k s7 h hk
  obtain⟨k,rfl⟩:∃ k',k=k'+1:=⟨k - 1,by omega⟩
  rw[lp_succ]
  generalize lp ref8_Copy_L2 k=rec
  unfold ref8_Copy_L2 ref8_Copy_L2_go
  simp only[lt_false (drop_nil_le h),cond_false]
 | cons e es ih =>
  intro i k s7 h hk
  obtain⟨k,rfl⟩:∃ k',k=k'+1:=⟨k - 1,by omega⟩
  rw[lp_succ]
  have hi:=drop_cons_lt h
  have hk2:es.length<k:=Nat.lt_of_succ_lt_succ hk
  have key:=fun s7=>ih (i+1) k s7 (drop_cons_next h) hk2
  generalize lp ref8_Copy_L2 k=rec at key ⊢
  unfold ref8_Copy_L2 ref8_Copy_L2_go
  simp only[lt_true hi,cond_true,gx_nat,drop_cons_get h,Option.bind_some,wrap_i1 hi hl,key]
theorem ref8_Copy_L2_go_at0 (s0:(List (Int×(List Int)))) (s2:(List QLit)) (s3:(List (List Int))) (s4:(List QLit)) (s5:(List QLit)) (s6:(List (List Int))) (s7:(List QLit)) (hl:List.length s4≤maxLen):lp ref8_Copy_L2 fuel (s0,0,s2,s3,s4,s5,s6,s7)=ref8_Copy_L2_go s0 s5 s6 s4 s7 :=
 ref8_Copy_L2_go_eq s0 s2 s3 s4 s5 s6 hl s4 0 fuel s7 rfl (Nat.lt_of_le_of_lt hl (by decide))
def ref8_Copy_L1_go (s0:(List (Int×(List Int)))) (s5:(List QLit)):List (List Int)→(List (List Int))→Option ((List QLit)×(List (List Int)))
 | [],s6=>some (s5,s6)
 | e::es,s6 =>
  (ref1_Put s0 e).bind fun r16 =>
  cond (room (List.length s6+List.length ([r16]:List (List Int))) 24)
  (ref8_Copy_L1_go s0 s5 es (s6++([r16]:List (List Int))))
  (none)
theorem ref8_Copy_L1_go_eq (s0:(List (Int×(List Int)))) (s2:(List QLit)) (s3:(List (List Int))) (s4:(List QLit)) (s5:(List QLit)) (hl:List.length s3≤maxLen):∀(es:List (List Int)) (i:Nat) (k:Nat) (s6:(List (List Int))),s3.drop i=es→es.length<k→lp ref8_Copy_L1 k (s0,(i:Int),s2,s3,s4,s5,s6)=ref8_Copy_L1_go s0 s5 es s6:=by
 intro es
 induction es with
 | nil =>
  intro i k s6 h hk
  obtain⟨k,rfl⟩:∃ k',k=k'+1:=⟨k - 1,by omega⟩
  rw[lp_succ]
  generalize lp ref8_Copy_L1 k=rec
  unfold ref8_Copy_L1 ref8_Copy_L1_go
  simp only[lt_false (drop_nil_le h),cond_false]
 | cons e es ih =>
  intro i k s6 h hk
  obtain⟨k,rfl⟩:∃ k',k=k'+1:=⟨k - 1,by omega⟩
  rw[lp_succ]
  have hi:=drop_cons_lt h
  have hk2:es.length<k:=Nat.lt_of_succ_lt_succ hk
  have key:=fun s6=>ih (i+1) k s6 (drop_cons_next h) hk2
  generalize lp ref8_Copy_L1 k=rec at key ⊢
  unfold ref8_Copy_L1 ref8_Copy_L1_go
  simp only[lt_true hi,cond_true,gx_nat,drop_cons_get h,Option.bind_some,wrap_i1 hi hl,key]
theorem ref8_Copy_L1_go_at0 (s0:(List (Int×(List Int)))) (s2:(List QLit)) (s3:(List (List Int))) (s4:(List QLit)) (s5:(List QLit)) (s6:(List (List Int))) (hl:List.length s3≤maxLen):lp ref8_Copy_L1 fuel (s0,0,s2,s3,s4,s5,s6)=ref8_Copy_L1_go s0 s5 s3 s6 :=
 ref8_Copy_L1_go_eq s0 s2 s3 s4 s5 hl s3 0 fuel s6 rfl (Nat.lt_of_le_of_lt hl (by decide))
def ref8_Copy_L0_go (s0:(List (Int×(List Int)))):List QLit→(List QLit)→Option (List QLit)
 | [],s5=>some s5
 | e::es,s5 =>
  (ref1_Put s0 e.2).bind fun r9 =>
  cond (room (List.length s5+List.length ([(e.1,r9)]:List QLit)) 32)
  (ref8_Copy_L0_go s0 es (s5++([(e.1,r9)]:List QLit)))
  (none)
theorem ref8_Copy_L0_go_eq (s0:(List (Int×(List Int)))) (s2:(List QLit)) (s3:(List (List Int))) (s4:(List QLit)) (hl:List.length s2≤maxLen):∀(es:List QLit) (i:Nat) (k:Nat) (s5:(List QLit)),s2.drop i=es→es.length<k→lp ref8_Copy_L0 k (s0,(i:Int),s2,s3,s4,s5)=ref8_Copy_L0_go s0 es s5:=by
 intro es
 induction es with
 | nil =>
  intro i k s5 h hk
  obtain⟨k,rfl⟩:∃ k',k=k'+1:=⟨k - 1,by omega⟩
  rw[lp_succ]
  generalize lp ref8_Copy_L0 k=rec
  unfold ref8_Copy_L0 ref8_Copy_L0_go
  simp only[lt_false (drop_nil_le h),cond_false]
 | cons e es ih =>
  intro i k s5 h hk
  obtain⟨k,rfl⟩:∃ k',k=k'+1:=⟨k - 1,by omega⟩
  rw[lp_succ]
  have hi:=drop_cons_lt h
  have hk2:es.length<k:=Nat.lt_of_succ_lt_succ hk
  have key:=fun s5=>ih (i+1) k s5 (drop_cons_next h) hk2
  generalize lp ref8_Copy_L0 k=rec at key ⊢
  unfold ref8_Copy_L0 ref8_Copy_L0_go
  simp only[lt_true hi,cond_true,gx_nat,drop_cons_get h,Option.bind_some,wrap_i1 hi hl,key]
theorem ref8_Copy_L0_go_at0 (s0:(List (Int×(List Int)))) (s2:(List QLit)) (s3:(List (List Int))) (s4:(List QLit)) (s5:(List QLit)) (hl:List.length s2≤maxLen):lp ref8_Copy_L0 fuel (s0,0,s2,s3,s4,s5)=ref8_Copy_L0_go s0 s2 s5 :=
 ref8_Copy_L0_go_eq s0 s2 s3 s4 hl s2 0 fuel s5 rfl (Nat.lt_of_le_of_lt hl (by decide))
def ref1_Same_L0_go (s1:(List Int)):List Int→Nat→Option (Unit⊕Bool)
 | [],i=>some (Sum.inl ())
 | e::es,i =>
  (gx s1 (i:Int)).bind fun e4 =>
  cond (e != e4)
  (some (Sum.inr false))
  (ref1_Same_L0_go s1 es (i+1))
theorem ref1_Same_L0_go_eq (s0:(List Int)) (s1:(List Int)) (hl:List.length s0≤maxLen):∀(es:List Int) (i:Nat) (k:Nat),s0.drop i=es→es.length<k→lp ref1_Same_L0 k (s0,s1,(i:Int))=ref1_Same_L0_go s1 es i:=by
 intro es
 induction es with
 | nil =>
  intro i k h hk
  obtain⟨k,rfl⟩:∃ k',k=k'+1:=⟨k - 1,by omega⟩
  rw[lp_succ]
  generalize lp ref1_Same_L0 k=rec
  unfold ref1_Same_L0 ref1_Same_L0_go
  simp only[lt_false (drop_nil_le h),cond_false]
 | cons e es ih =>
  intro i k h hk
  obtain⟨k,rfl⟩:∃ k',k=k'+1:=⟨k - 1,by omega⟩
  rw[lp_succ]
  have hi:=drop_cons_lt h
  have hk2:es.length<k:=Nat.lt_of_succ_lt_succ hk
  have key:=fun (_:Unit)=>ih (i+1) k (drop_cons_next h) hk2
  generalize lp ref1_Same_L0 k=rec at key ⊢
  unfold ref1_Same_L0 ref1_Same_L0_go
  simp only[lt_true hi,cond_true,gx_nat,drop_cons_get h,Option.bind_some,wrap_i1 hi hl,key ()]
theorem ref1_Same_L0_go_at0 (s0:(List Int)) (s1:(List Int)) (hl:List.length s0≤maxLen):lp ref1_Same_L0 fuel (s0,s1,0)=ref1_Same_L0_go s1 s0 0 :=
 ref1_Same_L0_go_eq s0 s1 hl s0 0 fuel rfl (Nat.lt_of_le_of_lt hl (by decide))
def ref8_lits_L0_go (s0:(List QLit)) (s1:Int) (s4:(List QLit)):List QLit→Nat→Bool→Option (Bool×(List QLit))
 | [],i,s2=>some (s2,s4)
 | e::es,i,s2 =>
  cond s2
  (ref8_lits_L0_go s0 s1 s4 es (i+1) true)
  ((inR (i:Int) (List.length s4)).bind fun k7 =>
   (s4[k7]?).bind fun x8 =>
   (gx s0 s1).bind fun e9 =>
   (ref8_SameLit x8.1 x8.2 e9.1 e9.2).bind fun r10 =>
   ref8_lits_L0_go s0 s1 s4 es (i+1) r10)
theorem ref8_lits_L0_go_eq (s0:(List QLit)) (s1:Int) (s4:(List QLit)) (hl:List.length s4≤maxLen):∀(es:List QLit) (i:Nat) (k:Nat) (s2:Bool),s4.drop i=es→es.length<k→lp ref8_lits_L0 k (s0,s1,s2,(i:Int),s4)=ref8_lits_L0_go s0 s1 s4 es i s2:=by
 intro es
 induction es with
 | nil =>
  intro i k s2 h hk
  obtain⟨k,rfl⟩:∃ k',k=k'+1:=⟨k - 1,by omega⟩
  rw[lp_succ]
  generalize lp ref8_lits_L0 k=rec
  unfold ref8_lits_L0 ref8_lits_L0_go
  simp only[lt_false (drop_nil_le h),cond_false]
 | cons e es ih =>
  intro i k s2 h hk
  obtain⟨k,rfl⟩:∃ k',k=k'+1:=⟨k - 1,by omega⟩
  rw[lp_succ]
  have hi:=drop_cons_lt h
  have hk2:es.length<k:=Nat.lt_of_succ_lt_succ hk
  have key:=fun s2=>ih (i+1) k s2 (drop_cons_next h) hk2
  generalize lp ref8_lits_L0 k=rec at key ⊢
  unfold ref8_lits_L0 ref8_lits_L0_go
  simp only[lt_true hi,cond_true,gx_nat,drop_cons_get h,Option.bind_some,wrap_i1 hi hl,key]
theorem ref8_lits_L0_go_at0 (s0:(List QLit)) (s1:Int) (s4:(List QLit)) (s2:Bool) (hl:List.length s4≤maxLen):lp ref8_lits_L0 fuel (s0,s1,s2,0,s4)=ref8_lits_L0_go s0 s1 s4 s4 0 s2 :=
 ref8_lits_L0_go_eq s0 s1 s4 hl s4 0 fuel s2 rfl (Nat.lt_of_le_of_lt hl (by decide))
def ref8_lits_L1_go (s0:(List QLit)):List QLit→Nat→(List QLit)→Option (List QLit)
 | [],i,s2=>some s2
 | e::es,i,s2 =>
  ((lp ref8_lits_L0 fuel) (s0,(i:Int),false,0,s2)).bind fun r13 =>
  cond (!r13.1)
  (cond (room (List.length r13.2+List.length ([(e.1,e.2)]:List QLit)) 32)
   (ref8_lits_L1_go s0 es (i+1) (r13.2++([(e.1,e.2)]:List QLit)))
   (none))
  (ref8_lits_L1_go s0 es (i+1) r13.2)
theorem ref8_lits_L1_go_eq (s0:(List QLit)) (hl:List.length s0≤maxLen):∀(es:List QLit) (i:Nat) (k:Nat) (s2:(List QLit)),s0.drop i=es→es.length<k→lp ref8_lits_L1 k (s0,(i:Int),s2)=ref8_lits_L1_go s0 es i s2:=by
 intro es
 induction es with
 | nil =>
  intro i k s2 h hk
  obtain⟨k,rfl⟩:∃ k',k=k'+1:=⟨k - 1,by omega⟩
  rw[lp_succ]
  generalize lp ref8_lits_L1 k=rec
  unfold ref8_lits_L1 ref8_lits_L1_go
  simp only[lt_false (drop_nil_le h),cond_false]
 | cons e es ih =>
  intro i k s2 h hk
  obtain⟨k,rfl⟩:∃ k',k=k'+1:=⟨k - 1,by omega⟩
  rw[lp_succ]
  have hi:=drop_cons_lt h
  have hk2:es.length<k:=Nat.lt_of_succ_lt_succ hk
  have key:=fun s2=>ih (i+1) k s2 (drop_cons_next h) hk2
  generalize lp ref8_lits_L1 k=rec at key ⊢
  unfold ref8_lits_L1 ref8_lits_L1_go
  simp only[lt_true hi,cond_true,gx_nat,drop_cons_get h,Option.bind_some,wrap_i1 hi hl,key]
theorem ref8_lits_L1_go_at0 (s0:(List QLit)) (s2:(List QLit)) (hl:List.length s0≤maxLen):lp ref8_lits_L1 fuel (s0,0,s2)=ref8_lits_L1_go s0 s0 0 s2 :=
 ref8_lits_L1_go_eq s0 hl s0 0 fuel s2 rfl (Nat.lt_of_le_of_lt hl (by decide))
def ref8_Norm_L0_go (s0:Int) (s4:(List (List Int))) (s6:(List QLit)) (s7:(List QLit)) (s8:(List (List Int))):List (List Int)→Nat→Bool→Option (Bool×(List QLit)×(List QLit)×(List (List Int)))
 | [],i,s1=>some (s1,s6,s7,s8)
 | e::es,i,s1 =>
  cond s1
  (ref8_Norm_L0_go s0 s4 s6 s7 s8 es (i+1) true)
  ((inR (i:Int) (List.length s8)).bind fun k9 =>
   (s8[k9]?).bind fun x10 =>
   (gx s4 s0).bind fun e11 =>
   (ref1_Same x10 e11).bind fun r12 =>
   ref8_Norm_L0_go s0 s4 s6 s7 s8 es (i+1) r12)
theorem ref8_Norm_L0_go_eq (s0:Int) (s3:(List QLit)) (s4:(List (List Int))) (s5:(List QLit)) (s6:(List QLit)) (s7:(List QLit)) (s8:(List (List Int))) (hl:List.length s8≤maxLen):∀(es:List (List Int)) (i:Nat) (k:Nat) (s1:Bool),s8.drop i=es→es.length<k→lp ref8_Norm_L0 k (s0,s1,(i:Int),s3,s4,s5,s6,s7,s8)=ref8_Norm_L0_go s0 s4 s6 s7 s8 es i s1:=by
 intro es
 induction es with
 | nil =>
  intro i k s1 h hk
  obtain⟨k,rfl⟩:∃ k',k=k'+1:=⟨k - 1,by omega⟩
  rw[lp_succ]
  generalize lp ref8_Norm_L0 k=rec
  unfold ref8_Norm_L0 ref8_Norm_L0_go
  simp only[lt_false (drop_nil_le h),cond_false]
 | cons e es ih =>
  intro i k s1 h hk
  obtain⟨k,rfl⟩:∃ k',k=k'+1:=⟨k - 1,by omega⟩
  rw[lp_succ]
  have hi:=drop_cons_lt h
  have hk2:es.length<k:=Nat.lt_of_succ_lt_succ hk
  have key:=fun s1=>ih (i+1) k s1 (drop_cons_next h) hk2
  generalize lp ref8_Norm_L0 k=rec at key ⊢
  unfold ref8_Norm_L0 ref8_Norm_L0_go
  simp only[lt_true hi,cond_true,gx_nat,drop_cons_get h,Option.bind_some,wrap_i1 hi hl,key]
theorem ref8_Norm_L0_go_at0 (s0:Int) (s3:(List QLit)) (s4:(List (List Int))) (s5:(List QLit)) (s6:(List QLit)) (s7:(List QLit)) (s8:(List (List Int))) (s1:Bool) (hl:List.length s8≤maxLen):lp ref8_Norm_L0 fuel (s0,s1,0,s3,s4,s5,s6,s7,s8)=ref8_Norm_L0_go s0 s4 s6 s7 s8 s8 0 s1 :=
 ref8_Norm_L0_go_eq s0 s3 s4 s5 s6 s7 s8 hl s8 0 fuel s1 rfl (Nat.lt_of_le_of_lt hl (by decide))
def ref8_Norm_L3_go (s0:(List (List Int))) (s2:(List QLit)) (s3:(List (List Int))) (s4:(List QLit)):List (List Int)→Nat→(List (Int×(List Int)))→Option (List (Int×(List Int)))
 | [],i,s5=>some s5
 | e::es,i,s5 =>
  ((lp ref8_Norm_L2 fuel) (s0,(i:Int),0,s2,s3,s4,s5)).bind fun r35 =>
  ref8_Norm_L3_go s0 s2 s3 s4 es (i+1) r35
theorem ref8_Norm_L3_go_eq (s0:(List (List Int))) (s2:(List QLit)) (s3:(List (List Int))) (s4:(List QLit)) (hl:List.length s0≤maxLen):∀(es:List (List Int)) (i:Nat) (k:Nat) (s5:(List (Int×(List Int)))),s0.drop i=es→es.length<k→lp ref8_Norm_L3 k (s0,(i:Int),s2,s3,s4,s5)=ref8_Norm_L3_go s0 s2 s3 s4 es i s5:=by
 intro es
 induction es with
 | nil =>
  intro i k s5 h hk
  obtain⟨k,rfl⟩:∃ k',k=k'+1:=⟨k - 1,by omega⟩
  rw[lp_succ]
  generalize lp ref8_Norm_L3 k=rec
  unfold ref8_Norm_L3 ref8_Norm_L3_go
  simp only[lt_false (drop_nil_le h),cond_false]
 | cons e es ih =>
  intro i k s5 h hk
  obtain⟨k,rfl⟩:∃ k',k=k'+1:=⟨k - 1,by omega⟩
  rw[lp_succ]
  have hi:=drop_cons_lt h
  have hk2:es.length<k:=Nat.lt_of_succ_lt_succ hk
  have key:=fun s5=>ih (i+1) k s5 (drop_cons_next h) hk2
  generalize lp ref8_Norm_L3 k=rec at key ⊢
  unfold ref8_Norm_L3 ref8_Norm_L3_go
  simp only[lt_true hi,cond_true,gx_nat,drop_cons_get h,Option.bind_some,wrap_i1 hi hl,key]
theorem ref8_Norm_L3_go_at0 (s0:(List (List Int))) (s2:(List QLit)) (s3:(List (List Int))) (s4:(List QLit)) (s5:(List (Int×(List Int)))) (hl:List.length s0≤maxLen):lp ref8_Norm_L3 fuel (s0,0,s2,s3,s4,s5)=ref8_Norm_L3_go s0 s2 s3 s4 s0 0 s5 :=
 ref8_Norm_L3_go_eq s0 s2 s3 s4 hl s0 0 fuel s5 rfl (Nat.lt_of_le_of_lt hl (by decide))
def ref8_Norm_L1_go (s1:(List QLit)) (s2:(List (List Int))) (s3:(List QLit)):List (List Int)→Nat→(List QLit)→(List QLit)→(List (List Int))→Option ((List QLit)×(List QLit)×(List (List Int)))
 | [],i,s4,s5,s6=>some (s4,s5,s6)
 | e::es,i,s4,s5,s6 =>
  ((lp ref8_Norm_L0 fuel) ((i:Int),false,0,s1,s2,s3,s4,s5,s6)).bind fun r17 =>
  cond (!r17.1)
  (cond (room (List.length r17.2.2.2+List.length ([e]:List (List Int))) 24)
   (ref8_Norm_L1_go s1 s2 s3 es (i+1) r17.2.1 r17.2.2.1 (r17.2.2.2++([e]:List (List Int))))
   (none))
  (ref8_Norm_L1_go s1 s2 s3 es (i+1) r17.2.1 r17.2.2.1 r17.2.2.2)
theorem ref8_Norm_L1_go_eq (s1:(List QLit)) (s2:(List (List Int))) (s3:(List QLit)) (hl:List.length s2≤maxLen):∀(es:List (List Int)) (i:Nat) (k:Nat) (s4:(List QLit)) (s5:(List QLit)) (s6:(List (List Int))),s2.drop i=es→es.length<k→lp ref8_Norm_L1 k ((i:Int),s1,s2,s3,s4,s5,s6)=ref8_Norm_L1_go s1 s2 s3 es i s4 s5 s6:=by
 intro es
 induction es with
 | nil =>
  intro i k s4 s5 s6 h hk
  obtain⟨k,rfl⟩:∃ k',k=k'+1:=⟨k - 1,by omega⟩
  rw[lp_succ]
  generalize lp ref8_Norm_L1 k=rec
  unfold ref8_Norm_L1 ref8_Norm_L1_go
  simp only[lt_false (drop_nil_le h),cond_false]
 | cons e es ih =>
  intro i k s4 s5 s6 h hk
  obtain⟨k,rfl⟩:∃ k',k=k'+1:=⟨k - 1,by omega⟩
  rw[lp_succ]
  have hi:=drop_cons_lt h
  have hk2:es.length<k:=Nat.lt_of_succ_lt_succ hk
  have key:=fun s4 s5 s6=>ih (i+1) k s4 s5 s6 (drop_cons_next h) hk2
  generalize lp ref8_Norm_L1 k=rec at key ⊢
  unfold ref8_Norm_L1 ref8_Norm_L1_go
  simp only[lt_true hi,cond_true,gx_nat,drop_cons_get h,Option.bind_some,wrap_i1 hi hl,key]
theorem ref8_Norm_L1_go_at0 (s1:(List QLit)) (s2:(List (List Int))) (s3:(List QLit)) (s4:(List QLit)) (s5:(List QLit)) (s6:(List (List Int))) (hl:List.length s2≤maxLen):lp ref8_Norm_L1 fuel (0,s1,s2,s3,s4,s5,s6)=ref8_Norm_L1_go s1 s2 s3 s2 0 s4 s5 s6 :=
 ref8_Norm_L1_go_eq s1 s2 s3 hl s2 0 fuel s4 s5 s6 rfl (Nat.lt_of_le_of_lt hl (by decide))
end Go.Abs.Q
namespace Go.Abs.Q
open Go Go.Abs
section
theorem same1_go (b:List Int):(es:List Int)→(i:Nat)→i+es.length=b.length→ref1_Same_L0_go b es i=some (cond (decide (es=b.drop i)) (.inl ()) (.inr false))
 | [],i,h=>by
  rw[List.drop_of_length_le (by simp at h; omega)]
  rfl
 | e::es,i,h=>by
  simp only[List.length_cons] at h
  obtain⟨x,hx⟩:∃ x,b[i]? = some x:=⟨_,List.getElem?_eq_getElem (by omega)⟩
  have hd:b.drop i=x::b.drop (i+1):=by
   have h1:=(List.getElem?_eq_some_iff.1 hx).1
   rw[List.drop_eq_getElem_cons h1]
   rw[(List.getElem?_eq_some_iff.1 hx).2]
  unfold ref1_Same_L0_go
  rw[gx_nat,hx,Option.bind_some,same1_go b es (i+1) (by omega),hd]
  by_cases he:e=x
  ·subst he
   rw[show (e != e)=false from by simp,cond_false]
   simp
  ·rw[show (e != x)=true from by simp [he],cond_true]
   simp [he]
theorem same1_eq {a b:List Int} (h:a.length≤1000000):ref1_Same a b=some (decide (a=b)):=by
 unfold ref1_Same
 by_cases hl:a.length=b.length
 ·rw[show (((List.length a:Nat):Int) != ((List.length b:Nat):Int))=false from by simp [hl],cond_false,ref1_Same_L0_go_at0 _ _ (by unfold maxLen; omega),same1_go b a 0 (by omega),Option.bind_some,List.drop_zero]
  cases decide (a=b)<;>rfl
 ·rw[show (((List.length a:Nat):Int) != ((List.length b:Nat):Int))=true from by simp; omega,cond_true]
  have:a≠b:=fun e=>hl (by rw[e])
  simp [this]
def codeO (o:Option Tm):List Int:=match o with
 | none=>[]
 | some t=>t.codes
structure RepW (a0:List QSym) (w:List (List Int)) (B:Bd):Prop where
 len:w.length=48
 at_:∀ x,x<48→w[x]? = some (codeO (B x))
 ok:∀ x t,B x=some t→x<24∧t.ok a0 24∧t.codes.length≤48
theorem RepW.small {a0:List QSym} {w:List (List Int)} {B:Bd} (h:RepW a0 w B):Small B:=fun x t ht=>by
 obtain⟨h1,h2,h3⟩:=h.ok x t ht
 rw[Tm.codes_len] at h3
 exact ⟨by omega,h3⟩
theorem RepW.set {a0:List QSym} {w:List (List Int)} {B:Bd} (h:RepW a0 w B) {x:Nat} (hx:x<24) {t:Tm} (ht:t.ok a0 24) (hl:t.codes.length≤48):RepW a0 (w.set x t.codes) (updB B x t) where
 len:=by rw[List.length_set]; exact h.len
 at_:=fun y hy=>by
  have:=h.len
  by_cases he:y=x
  ·subst he
   rw[List.getElem?_set_self (by omega),updB_same]
   rfl
  ·rw[List.getElem?_set_ne (Ne.symm he),updB_ne _ _ he]
   exact h.at_ y hy
 ok:=fun y u hy=>by
  by_cases he:y=x
  ·subst he
   rw[updB_same] at hy
   injection hy with hy
   subst hy
   exact ⟨hx,ht,hl⟩
  ·rw[updB_ne _ _ he] at hy
   exact h.ok y u hy
section
variable {a0:List QSym} {w:List (List Int)} {B:Bd} {σ:Sb} (hT:RepW a0 w B) (hG:Good B σ)
include hT hG
end
end
end Go.Abs.Q
namespace Go.Abs.Q
open Go Go.Abs
section
structure Qf (out E r:List Int):Prop where
 fits:out.length+E.length≤48→r=out++E
 over:48<out.length+E.length→48<r.length
 len:r.length≤max out.length 49
theorem Qf.step {out E1 E2 r1 r:List Int} (h:Qf out E1 r1) (h':Qf r1 E2 r):Qf out (E1++E2) r where
 fits:=fun hl=>by
  rw[List.length_append] at hl
  have e:=h.fits (by omega)
  have e2:=h'.fits (by rw[e,List.length_append]; omega)
  rw[e2,e,List.append_assoc]
 over:=fun hl=>by
  rw[List.length_append] at hl
  by_cases h1:out.length+E1.length≤48
  ·have e:=h.fits h1
   refine h'.over ?_
   rw[e,List.length_append]; omega
  ·exact h'.over (by have:=h.over (by omega); omega)
 len:=by have:=h.len; have:=h'.len; omega
theorem Qf.one {out:List Int} (c:Int) (h:out.length≤48):Qf out [c] (out++[c]):=⟨fun _=>rfl,fun hl=>by rw[List.length_append]; exact hl,by rw[List.length_append]; simp; omega⟩
theorem Qf.nil (out:List Int):Qf out [] out:=⟨fun _=>by simp,fun h=>by simpa using h,by omega⟩
section
variable {a0:List QSym} {w:List (List Int)} {B:Bd} {σ:Sb} (hT:RepW a0 w B) (hG:Good B σ)
include hT hG
end
def Dep (R:List Tm) (B:Bd) (δ:Nat) (t:Tm):Prop:=∀ θ,SolB θ B→∃ c∈R,δ+(t.sub θ).ht≤(c.sub θ).ht
theorem Dep.mono {R:List Tm} {B B':Bd} {δ:Nat} {t:Tm} (h:Dep R B δ t) (hB:∀ θ,SolB θ B'→SolB θ B):Dep R B' δ t:=fun θ hθ=>h θ (hB θ hθ)
theorem Dep.lt {R:List Tm} {B:Bd} {σ:Sb} {δ:Nat} {t:Tm} (h:Dep R B δ t) (hG:Good B σ) (hS:Small B) (hR:∀ c∈R,c.size≤48):δ<2500:=by
 obtain⟨c,hc,h1⟩:=h σ hG.bound
 have h2:=Tm.ht_sub (s:=σ) (M:=49*49) c fun x _=>hG.low hS x
 have h3:=c.ht_size
 have h4:=hR c hc
 have h5:=ht_pos (t.sub σ)
 omega
end
end Go.Abs.Q
namespace Go.Abs.Q
open Go Go.Abs
section
end
end Go.Abs.Q
namespace Go.Abs.Q
open Go Go.Abs
section
end
end Go.Abs.Q
namespace Go.Abs.Q
open Go Go.Abs
section
theorem of_go (v:Int):(es:List (Int×List Int))→(i:Nat)→(lookB es v=none∧ref1_Of_L0_go v es i=some (.inl ()))∨∃(j:Nat) (e:Int×List Int),ref1_Of_L0_go v es i=some (.inr ((i+j:Nat):Int))∧es[j]? = some e∧lookB es v=some e.2
 | [],i=>.inl ⟨rfl,rfl⟩
 | e::es,i=>by
  unfold ref1_Of_L0_go lookB
  rw[List.find?_cons]
  cases h:e.1==v with
  | true=>exact .inr ⟨0,e,rfl,rfl,rfl⟩
  | false =>
   rw[cond_false]
   rcases of_go v es (i+1) with ⟨h1,h2⟩ | ⟨j,e',h1,h2,h3⟩
   ·exact .inl ⟨h1,h2⟩
   ·exact .inr ⟨j+1,e',by rw[h1,show i+1+j=i+(j+1) from by omega],by simpa using h2,h3⟩
theorem of_spec {s:List (Int×List Int)} (hl:s.length≤1000) (v:Int):(lookB s v=none∧ref1_Of s v=some (-1))∨∃(j:Nat) (e:Int×List Int),ref1_Of s v=some (j:Int)∧s[j]? = some e∧lookB s v=some e.2:=by
 unfold ref1_Of
 rw[ref1_Of_L0_go_at0 _ _ (by unfold maxLen; omega)]
 rcases of_go v s 0 with ⟨h1,h2⟩ | ⟨j,e,h1,h2,h3⟩
 ·exact .inl ⟨h1,by rw[h2]; rfl⟩
 ·exact .inr ⟨j,e,by rw[h1,Nat.zero_add]; rfl,h2,h3⟩
theorem put_go {s:List (Int×List Int)} (h:BindsOk s):(es out:List Int)→(∀ c∈es,-1000000≤c∧c≤1000000)→out.length+1000*es.length≤1000000000→ref1_Put_L0_go s es out=some (out++onB s es)
 | [],out,_,_=>by simp [ref1_Put_L0_go,onB]
 | c::es,out,hc,hl=>by
  have hc0:=hc c (List.mem_cons_self ..)
  simp only[List.length_cons] at hl
  have ih:=fun out hl=>put_go h es out (fun c h=>hc c (List.mem_cons_of_mem _ h)) hl
  unfold ref1_Put_L0_go
  have plain:onC s c=[c]→(cond (room (List.length out+List.length ([c]:List Int)) 8) (ref1_Put_L0_go s es (out++([c]:List Int))) none)=some (out++onB s (c::es)):=fun hx=>by
   rw[room_ok (by simp; omega),cond_true,ih _ (by simp; omega)]
   unfold onB
   rw[List.flatMap_cons,hx,List.append_assoc]
  by_cases h0:c<0
  ·rw[decide_eq_true h0,cond_true]
   have w1:IntKind.wrap .i64 ((-1) - c) = -1 - c:=by rw[wrap64]<;>omega
   rw[w1]
   rcases of_spec h.len (-1 - c) with ⟨h1,h2⟩ | ⟨j,e,h1,h2,h3⟩
   ·rw[h2,Option.bind_some,show decide ((-1:Int)<0)=true from rfl,cond_true]
    refine plain ?_
    unfold onC
    rw[h1,decide_eq_false (show ¬ c≥0 by omega)]
    rfl
   ·have he:=(h.all e (List.mem_of_getElem? h2)).2
    rw[h1,Option.bind_some,decide_eq_false (show ¬(j:Int)<0 by omega),cond_false,gx_nat,h2,Option.bind_some,room_ok (by omega),cond_true,ih _ (by rw[List.length_append]; omega)]
    unfold onB
    have:onC s c=e.2:=by
     unfold onC
     rw[h3,decide_eq_false (show ¬ c≥0 by omega)]
     rfl
    rw[List.flatMap_cons,this,List.append_assoc]
  ·rw[decide_eq_false h0,cond_false]
   refine plain ?_
   unfold onC
   rw[decide_eq_true (show c≥0 by omega)]
   rfl
theorem put_eq {s:List (Int×List Int)} (h:BindsOk s) {r:List Int} (hr:NearR r):ref1_Put s r=some (onB s r):=by
 have:=hr.1
 unfold ref1_Put
 rw[ref1_Put_L0_go_at0 _ _ _ (by unfold maxLen; omega),put_go h r [] hr.2 (by simp; omega)]
 rfl
theorem copy_L0 {s:List (Int×List Int)} (h:BindsOk s):(es out:List QLit)→(∀ l∈es,NearR l.2)→out.length+es.length≤1000000→ref8_Copy_L0_go s es out=some (out++onLs s es)
 | [],out,_,_=>by simp [ref8_Copy_L0_go,onLs]
 | e::es,out,hn,hl=>by
  simp only[List.length_cons] at hl
  unfold ref8_Copy_L0_go
  rw[put_eq h (hn e (List.mem_cons_self ..)),Option.bind_some,room_ok (by simp; omega),cond_true,copy_L0 h es _ (fun l hl=>hn l (List.mem_cons_of_mem _ hl)) (by simp; omega)]
  simp [onLs]
theorem copy_L1 {s:List (Int×List Int)} (h:BindsOk s) (s5:List QLit):(es out:List (List Int))→(∀ l∈es,NearR l)→out.length+es.length≤1000000→ref8_Copy_L1_go s s5 es out=some (s5,out++onRs s es)
 | [],out,_,_=>by simp [ref8_Copy_L1_go,onRs]
 | e::es,out,hn,hl=>by
  simp only[List.length_cons] at hl
  unfold ref8_Copy_L1_go
  rw[put_eq h (hn e (List.mem_cons_self ..)),Option.bind_some,room_ok (by simp; omega),cond_true,copy_L1 h s5 es _ (fun l hl=>hn l (List.mem_cons_of_mem _ hl)) (by simp; omega)]
  simp [onRs]
theorem copy_L2 {s:List (Int×List Int)} (h:BindsOk s) (s5:List QLit) (s6:List (List Int)):(es out:List QLit)→(∀ l∈es,NearR l.2)→out.length+es.length≤1000000→ref8_Copy_L2_go s s5 s6 es out=some (s5,s6,out++onLs s es)
 | [],out,_,_=>by simp [ref8_Copy_L2_go,onLs]
 | e::es,out,hn,hl=>by
  simp only[List.length_cons] at hl
  unfold ref8_Copy_L2_go
  rw[put_eq h (hn e (List.mem_cons_self ..)),Option.bind_some,room_ok (by simp; omega),cond_true,copy_L2 h s5 s6 es _ (fun l hl=>hn l (List.mem_cons_of_mem _ hl)) (by simp; omega)]
  simp [onLs]
theorem copy_eq {s:List (Int×List Int)} (h:BindsOk s) {L:List QLit} {T:List (List Int)} {C:List QLit} (hL:∀ l∈L,NearR l.2) (hT:∀ l∈T,NearR l) (hC:∀ l∈C,NearR l.2) (h1:L.length≤1000) (h2:T.length≤1000) (h3:C.length≤1000) :
  ref8_Copy s L T C=some (onLs s L,onRs s T,onLs s C):=by
 unfold ref8_Copy
 rw[ref8_Copy_L0_go_at0 _ _ _ _ _ (by unfold maxLen; omega),copy_L0 h L [] hL (by simp; omega),Option.bind_some,
  ref8_Copy_L1_go_at0 _ _ _ _ _ _ (by unfold maxLen; omega),copy_L1 h _ T [] hT (by simp; omega),Option.bind_some,
  ref8_Copy_L2_go_at0 _ _ _ _ _ _ _ (by unfold maxLen; omega),copy_L2 h _ _ C [] hC (by simp; omega),Option.bind_some]
 simp
theorem sameLit_eq {l k:QLit} (h:l.2.length≤1000000):ref8_SameLit l.1 l.2 k.1 k.2=some (decide (l=k)):=by
 obtain⟨n,r⟩:=l
 obtain⟨n',r'⟩:=k
 unfold ref8_SameLit
 by_cases hn:n=n'
 ·subst hn
  simp only[beq_self_eq_true,cond_true]
  rw[same1_eq h,Option.bind_some]
  simp
 ·rw[show (n==n')=false from by simp [hn],cond_false]
  simp [hn]
theorem lits_L0 {s0 out:List QLit} {i0:Nat} {e0:QLit} (he:s0[i0]? = some e0) (ho:∀ l∈out,l.2.length≤1000000):(es:List QLit)→(i:Nat)→(b:Bool)→out.drop i=es→ref8_lits_L0_go s0 (i0:Int) out es i b=some (b||decide (e0∈es),out)
 | [],i,b,_=>by simp [ref8_lits_L0_go]
 | e::es,i,b,hd=>by
  have ih:=fun b=>lits_L0 he ho es (i+1) b (drop_cons_next hd)
  unfold ref8_lits_L0_go
  cases b with
  | true=>rw[cond_true,ih true]; rfl
  | false =>
   have hi:=drop_cons_lt hd
   have hg:=drop_cons_get hd
   rw[cond_false,inR_nat hi,Option.bind_some,hg,Option.bind_some,gx_nat,he,Option.bind_some,sameLit_eq (ho e (List.mem_of_getElem? hg)),Option.bind_some,ih]
   congr 2
   rw[Bool.eq_iff_iff,Bool.false_or,Bool.or_eq_true,decide_eq_true_iff,decide_eq_true_iff,decide_eq_true_iff,List.mem_cons]
   exact ⟨fun h=>h.imp Eq.symm id,fun h=>h.imp Eq.symm id⟩
theorem lits_L1 {s0:List QLit} (hs:∀ l∈s0,l.2.length≤1000000):(es:List QLit)→(i:Nat)→(out:List QLit)→s0.drop i=es→(∀ l∈out,l.2.length≤1000000)→out.length+es.length≤1000000→ref8_lits_L1_go s0 es i out=some (onceL es out)
 | [],i,out,_,_,_=>rfl
 | e::es,i,out,hd,ho,hl=>by
  simp only[List.length_cons] at hl
  have hg:=drop_cons_get hd
  have hem:=List.mem_of_getElem? hg
  unfold ref8_lits_L1_go onceL
  rw[ref8_lits_L0_go_at0 _ _ _ _ (by unfold maxLen; omega),lits_L0 hg ho out 0 false rfl,Option.bind_some,Bool.false_or]
  by_cases hm:e∈out
  ·have e1:∀ inst:Decidable (e∈out),@decide (e∈out) inst=true:=fun _=>decide_eq_true hm
   simp only[e1,Bool.not_true,cond_false,cond_true]
   exact lits_L1 hs es (i+1) out (drop_cons_next hd) ho (by omega)
  ·have e1:∀ inst:Decidable (e∈out),@decide (e∈out) inst=false:=fun _=>decide_eq_false hm
   simp only[e1,Bool.not_false,cond_true,cond_false]
   rw[room_ok (by simp; omega),cond_true]
   exact lits_L1 hs es (i+1) _ (drop_cons_next hd) (fun l hl=>by
    rcases List.mem_append.1 hl with hl | hl
    ·exact ho l hl
    ·rw[List.mem_singleton.1 hl]; exact hs e hem) (by simp; omega)
theorem lits_eq {L:List QLit} (hs:∀ l∈L,l.2.length≤1000000) (hl:L.length≤1000):ref8_lits L=some (onceL L []):=by
 unfold ref8_lits
 rw[ref8_lits_L1_go_at0 _ _ (by unfold maxLen; omega),lits_L1 hs L 0 [] rfl (fun _ h=>(nomatch h)) (by simp; omega)]
 rfl
theorem norm_L0 {s4 out:List (List Int)} {s6 s7:List QLit} {i0:Nat} {e0:List Int} (he:s4[i0]? = some e0) (ho:∀ l∈out,l.length≤1000000):(es:List (List Int))→(i:Nat)→(b:Bool)→out.drop i=es→ref8_Norm_L0_go (i0:Int) s4 s6 s7 out es i b=some (b||decide (e0∈es),s6,s7,out)
 | [],i,b,_=>by simp [ref8_Norm_L0_go]
 | e::es,i,b,hd=>by
  have ih:=fun b=>norm_L0 (s6:=s6) (s7:=s7) he ho es (i+1) b (drop_cons_next hd)
  unfold ref8_Norm_L0_go
  cases b with
  | true=>rw[cond_true,ih true]; rfl
  | false =>
   have hi:=drop_cons_lt hd
   have hg:=drop_cons_get hd
   rw[cond_false,inR_nat hi,Option.bind_some,hg,Option.bind_some,gx_nat,he,Option.bind_some,same1_eq (ho e (List.mem_of_getElem? hg)),Option.bind_some,ih]
   congr 2
   rw[Bool.eq_iff_iff,Bool.false_or,Bool.or_eq_true,decide_eq_true_iff,decide_eq_true_iff,decide_eq_true_iff,List.mem_cons]
   exact ⟨fun h=>h.imp Eq.symm id,fun h=>h.imp Eq.symm id⟩
theorem norm_L1 {s1 s3 s4 s5:List QLit} {s2:List (List Int)} (hs:∀ l∈s2,l.length≤1000000):(es:List (List Int))→(i:Nat)→(out:List (List Int))→s2.drop i=es→(∀ l∈out,l.length≤1000000)→out.length+es.length≤1000000→ref8_Norm_L1_go s1 s2 s3 es i s4 s5 out=some (s4,s5,onceL es out)
 | [],i,out,_,_,_=>rfl
 | e::es,i,out,hd,ho,hl=>by
  simp only[List.length_cons] at hl
  have hg:=drop_cons_get hd
  have hem:=List.mem_of_getElem? hg
  unfold ref8_Norm_L1_go onceL
  rw[ref8_Norm_L0_go_at0 _ _ _ _ _ _ _ _ (by unfold maxLen; omega),norm_L0 hg ho out 0 false rfl,Option.bind_some,Bool.false_or]
  by_cases hm:e∈out
  ·have e1:∀ inst:Decidable (e∈out),@decide (e∈out) inst=true:=fun _=>decide_eq_true hm
   simp only[e1,Bool.not_true,cond_false,cond_true]
   exact norm_L1 hs es (i+1) out (drop_cons_next hd) ho (by omega)
  ·have e1:∀ inst:Decidable (e∈out),@decide (e∈out) inst=false:=fun _=>decide_eq_false hm
   simp only[e1,Bool.not_false,cond_true,cond_false]
   rw[room_ok (by simp; omega),cond_true]
   exact norm_L1 hs es (i+1) _ (drop_cons_next hd) (fun l hl=>by
    rcases List.mem_append.1 hl with hl | hl
    ·exact ho l hl
    ·rw[List.mem_singleton.1 hl]; exact hs e hem) (by simp; omega)
end
end Go.Abs.Q
namespace Go.Abs.Q
open Go Go.Abs
section
def num1 (bs:List (Int×List Int)) (c:Int):List (Int×List Int):=cond (decide (c<0)&&(lookB bs (-1 - c)).isNone) (bs++[(-1 - c,[-1 - (bs.length:Int)])]) bs
def numR (bs:List (Int×List Int)) (r:List Int):List (Int×List Int):=r.foldl num1 bs
theorem num1_len (bs:List (Int×List Int)) (c:Int):(num1 bs c).length≤bs.length+1:=by
 unfold num1
 cases decide (c<0)&&(lookB bs (-1 - c)).isNone<;>simp
theorem numR_len (r:List Int):(bs:List (Int×List Int))→(numR bs r).length≤bs.length+r.length:=by
 unfold numR
 induction r with
 | nil=>intro bs; simp
 | cons c r ih =>
  intro bs
  have:=ih (num1 bs c)
  have:=num1_len bs c
  simp only[List.foldl_cons,List.length_cons]
  omega
theorem norm_L2 {rows:List (List Int)} {i:Nat} {r:List Int} (hr:rows[i]? = some r) (L:List QLit) (T:List (List Int)) (C:List QLit) (hrl:r.length≤1000):∀(es:List Int) (j k:Nat) (bs:List (Int×List Int)),r.drop j=es→(∀ c∈es,-1000000≤c∧c≤1000000)→es.length<k→bs.length+es.length≤1000 →
  lp ref8_Norm_L2 k (rows,(i:Int),(j:Int),L,T,C,bs)=some (numR bs es)
 | [],j,k,bs,hd,_,hk,_=>by
  obtain⟨k,rfl⟩:∃ k',k=k'+1:=⟨k - 1,by simp at hk; omega⟩
  rw[lp_succ]
  generalize lp ref8_Norm_L2 k=rec
  unfold ref8_Norm_L2
  have:=drop_nil_le hd
  rw[gx_nat,hr,Option.bind_some,decide_eq_false (show ¬(j:Int)<((List.length r:Nat):Int) by omega),cond_false]
  rfl
 | c::es,j,k,bs,hd,hc,hk,hb=>by
  obtain⟨k,rfl⟩:∃ k',k=k'+1:=⟨k - 1,by simp at hk; omega⟩
  simp only[List.length_cons] at hk hb
  have hlt:=drop_cons_lt hd
  have hc0:=hc c (List.mem_cons_self ..)
  rw[lp_succ]
  have key:=fun bs hb=>norm_L2 hr L T C hrl es (j+1) k bs (drop_cons_next hd) (fun c h=>hc c (List.mem_cons_of_mem _ h)) (by omega) hb
  generalize lp ref8_Norm_L2 k=rec at key ⊢
  unfold ref8_Norm_L2
  have w1:IntKind.wrap .i64 ((j:Int)+1)=((j+1:Nat):Int):=by rw[wrap64]<;>omega
  have w2:IntKind.wrap .i64 ((-1) - c) = -1 - c:=by rw[wrap64]<;>omega
  have w3:IntKind.wrap .i64 ((-1) - ((List.length bs:Nat):Int)) = -1 - (bs.length:Int):=by rw[wrap64]<;>omega
  simp only[gx_nat,hr,Option.bind_some,drop_cons_get hd,w1,w2,w3]
  rw[decide_eq_true (show (j:Int)<((List.length r:Nat):Int) by omega),cond_true]
  show _=some (numR (num1 bs c) es)
  unfold num1
  by_cases h0:c<0
  ·rw[decide_eq_true h0,cond_true,Bool.true_and]
   rcases of_spec (s:=bs) (by omega) (-1 - c) with ⟨h1,h2⟩ | ⟨q,e,h1,h2,h3⟩
   ·rw[h2,Option.bind_some,show decide ((-1:Int)<0)=true from rfl,cond_true,room_ok (by simp; omega),cond_true,key _ (by simp; omega),h1]
    rfl
   ·rw[h1,Option.bind_some,decide_eq_false (show ¬(q:Int)<0 by omega),cond_false,key _ (by omega),h3]
    rfl
  ·rw[decide_eq_false h0,cond_false,Bool.false_and,cond_false,key _ (by omega)]
theorem norm_L3 {rows:List (List Int)} (L:List QLit) (T:List (List Int)) (C:List QLit) (hrows:∀ r∈rows,NearR r):(es:List (List Int))→(i:Nat)→(bs:List (Int×List Int))→rows.drop i=es→bs.length+sumLen es≤1000 →
  ref8_Norm_L3_go rows L T C es i bs=some (es.foldl numR bs)
 | [],_,_,_,_=>rfl
 | e::es,i,bs,hd,hb=>by
  have hg:=drop_cons_get hd
  have he:=hrows e (List.mem_of_getElem? hg)
  have hs:sumLen (e::es)=e.length+sumLen es:=by simp [sumLen]
  unfold ref8_Norm_L3_go
  have:=norm_L2 hg L T C he.1 e 0 fuel bs rfl he.2 (by have:=he.1; unfold fuel; omega) (by omega)
  rw[show ((0:Nat):Int)=0 from rfl] at this
  have hl:=numR_len e bs
  rw[this,Option.bind_some,norm_L3 L T C hrows es (i+1) _ (drop_cons_next hd) (by omega)]
  rfl
structure Rl (s:RenS) (bs:List (Int×List Int)):Prop where
 cnt:(bs.length:Int)=s.2
 at_:∀ v:Nat,lookB bs (v:Int)=if s.1.getD v 0=0 then none else some [-(s.1.getD v 0)]
 one:∀ b∈bs,b.2.length=1
theorem lookB_append (bs:List (Int×List Int)) (v w:Int) (t:List Int):lookB (bs++[(v,t)]) w=match lookB bs w with
  | some u=>some u
  | none=>cond (v==w) (some t) none:=by
 unfold lookB
 rw[List.find?_append]
 cases h:bs.find? fun b=>b.1==w with
 | some b=>rfl
 | none =>
  simp only[Option.none_or,List.find?_cons,List.find?_nil,Option.map_none]
  cases v==w<;>rfl
theorem rl0:Rl (List.replicate 24 (0:Int),0) [] where
 cnt:=rfl
 at_:=fun v=>by
  rw[if_pos]
  ·rfl
  ·show (List.replicate 24 (0:Int)).getD v 0=0
   rw[List.getD_eq_getElem?_getD,List.getElem?_replicate]
   split<;>rfl
 one:=fun _ h=>(nomatch h)
theorem Rl.ok {s:RenS} {bs:List (Int×List Int)} (h:Rl s bs) (hI:RenI s):BindsOk bs where
 len:=by have:=h.cnt; have:=hI.next; omega
 all:=fun b hb=>by
  have:=h.one b hb
  exact ⟨fun e=>by rw[e] at this; simp at this,by omega⟩
theorem Rl.step {s:RenS} {bs:List (Int×List Int)} (h:Rl s bs) (hI:RenI s) {c:Int} (hc : -24≤c):Rl (ren1 s c).2 (num1 bs c):=by
 unfold ren1 num1
 by_cases h0:c≥0
 ·rw[decide_eq_true h0,cond_true,decide_eq_false (show ¬ c<0 by omega),Bool.false_and,cond_false]
  exact h
 ·rw[decide_eq_false h0,cond_false,decide_eq_true (show c<0 by omega),Bool.true_and]
  obtain⟨v,rfl⟩:∃ v:Nat,c = -1 - (v:Int):=⟨(-1 - c).toNat,by omega⟩
  have e1:(-1 - (-1 - (v:Int)))=(v:Int):=by omega
  rw[e1,Int.toNat_natCast,h.at_ v]
  by_cases hz:s.1.getD v 0=0
  ·rw[if_pos hz,show (s.1.getD v 0==0)=true from by rw[hz]; rfl,cond_true,show (none:Option (List Int)).isNone=true from rfl,cond_true]
   have hv:v<s.1.length:=by rw[hI.len]; omega
   have hcnt:=h.cnt
   refine ⟨by show (((bs++[_]).length:Nat):Int)=s.2+1; rw[List.length_append,← hcnt]; simp,fun w => ?_,fun b hb => ?_⟩
   ·rw[lookB_append,h.at_ w]
    show _=if (s.1.set v (s.2+1)).getD w 0=0 then none else some [-((s.1.set v (s.2+1)).getD w 0)]
    rw[getD_set hv]
    have hn:=hI.next
    by_cases hw:w=v
    ·subst hw
     rw[if_pos hz,if_pos rfl,if_neg (show ¬ s.2+1=0 by omega)]
     simp only[beq_self_eq_true,cond_true]
     rw[show -1 - (bs.length:Int) = -(s.2+1) from by omega]
    ·rw[if_neg hw]
     by_cases hz2:s.1.getD w 0=0
     ·rw[if_pos hz2]
      simp only
      rw[show (((v:Nat):Int)==((w:Nat):Int))=false from by simp; omega]
      rfl
     ·rw[if_neg hz2]
   ·rcases List.mem_append.1 hb with hb | hb
    ·exact h.one b hb
    ·rw[List.mem_singleton.1 hb]; rfl
  ·rw[if_neg hz,show (s.1.getD v 0==0)=false from by simpa using hz,cond_false]
   exact h
theorem Rl.row:(r:List Int)→{s:RenS}→{bs:List (Int×List Int)}→Rl s bs→RenI s→(∀ c∈r,-24≤c)→Rl (renR s r).2 (numR bs r)
 | [],_,_,h,_,_=>h
 | c::r,s,bs,h,hI,hc=>by
  have h1:=h.step hI (hc c (List.mem_cons_self ..))
  exact Rl.row r h1 (ren1_spec hI (hc c (List.mem_cons_self ..))).1 fun d hd=>hc d (List.mem_cons_of_mem _ hd)
theorem Rl.lits:(ls:List QLit)→{s:RenS}→{bs:List (Int×List Int)}→Rl s bs→RenI s→(∀ l∈ls,∀ c∈l.2,-24≤c)→Rl (renLs s ls).2 ((ls.map (·.2)).foldl numR bs)
 | [],_,_,h,_,_=>h
 | l::ls,s,bs,h,hI,hc=>by
  have h1:=h.row l.2 hI (hc l (List.mem_cons_self ..))
  exact Rl.lits ls h1 (renR_spec l.2 hI (hc l (List.mem_cons_self ..))).1 fun d hd=>hc d (List.mem_cons_of_mem _ hd)
theorem Rl.rows:(ls:List (List Int))→{s:RenS}→{bs:List (Int×List Int)}→Rl s bs→RenI s→(∀ l∈ls,∀ c∈l,-24≤c)→Rl (renRs s ls).2 (ls.foldl numR bs)
 | [],_,_,h,_,_=>h
 | l::ls,s,bs,h,hI,hc=>by
  have h1:=h.row l hI (hc l (List.mem_cons_self ..))
  exact Rl.rows ls h1 (renR_spec l hI (hc l (List.mem_cons_self ..))).1 fun d hd=>hc d (List.mem_cons_of_mem _ hd)
theorem onB_ren {f:RenS} (hI:RenI f) {bs:List (Int×List Int)} (h:Rl f bs):(r:List Int)→(∀ c∈r,-24≤c)→(∀ x,VarC r x→f.1.getD x.toNat 0≠0)→onB bs r=subCs (fun v=>.v (rho f v)) r
 | [],_,_=>rfl
 | c::r,hc,hz=>by
  have ih:=onB_ren hI h r (fun d hd=>hc d (List.mem_cons_of_mem _ hd)) fun x ⟨d,hd,h1⟩=>hz x ⟨d,List.mem_cons_of_mem _ hd,h1⟩
  have hc0:=hc c (List.mem_cons_self ..)
  unfold onB subCs at ih ⊢
  rw[List.flatMap_cons,List.flatMap_cons,ih]
  congr 1
  unfold onC expC
  by_cases h0:c≥0
  ·rw[decide_eq_true h0,cond_true,if_neg (by omega)]
  ·rw[decide_eq_false h0,cond_false,if_pos (by omega)]
   obtain⟨v,rfl⟩:∃ v:Nat,c = -1 - (v:Int):=⟨(-1 - c).toNat,by omega⟩
   have e1:(-1 - (-1 - (v:Int)))=(v:Int):=by omega
   have hv:=hz (v:Int) ⟨_,List.mem_cons_self ..,by omega,by omega⟩
   rw[Int.toNat_natCast] at hv
   rw[e1,h.at_ v,if_neg hv,Int.toNat_natCast]
   have:=hI.rng v
   unfold rho
   show [-(f.1.getD v 0)]=[-1 - (((f.1.getD v 0).toNat - 1:Nat):Int)]
   congr 1
   omega
theorem norm_eq {L:List QLit} {T:List (List Int)} {C:List QLit} (hc:∀ r∈rowsOf L T C,Cds r) (hl:L.length≤100) (ht:T.length≤100) (hcl:C.length≤100) (hsum:sumLen (L.map (·.2))+sumLen T+sumLen (C.map (·.2))≤1000):ref8_Norm L T C=some (normC L T C):=by
 have cL:∀ l∈L,Cds l.2:=fun l h=>hc _ (mem_rows_lit h)
 have cT:∀ l∈T,Cds l:=fun l h=>hc _ (mem_rows_row h)
 have cC:∀ l∈C,Cds l.2:=fun l h=>hc _ (mem_rows_cond h)
 have mL:∀ l,l∈onceL L []↔l∈L:=fun l=>by simpa using onceL_mem (x:=l) L []
 have mT:∀ l,l∈onceL T []↔l∈T:=fun l=>by simpa using onceL_mem (x:=l) T []
 have mC:∀ l,l∈onceL C []↔l∈C:=fun l=>by simpa using onceL_mem (x:=l) C []
 have lL:=onceL_len L []
 have lT:=onceL_len T []
 have lC:=onceL_len C []
 simp only[List.length_nil,Nat.zero_add] at lL lT lC
 have big:∀ r:List Int,Cds r→r.length≤1000000:=fun r h=>by have:=h.1; omega
 unfold ref8_Norm
 rw[lits_eq (fun l h=>big _ (cL l h)) (by omega),Option.bind_some,lits_eq (fun l h=>big _ (cC l h)) (by omega),Option.bind_some,
  ref8_Norm_L1_go_at0 _ _ _ _ _ _ (by unfold maxLen; omega),norm_L1 (fun l h=>big _ (cT l h)) T 0 [] rfl (fun _ h=>(nomatch h)) (by simp; omega),Option.bind_some]
 simp only
 rw[ref8_rows_eq _ _ _ (by omega) (by omega) (by omega),Option.bind_some]
 have nr:∀ r∈(onceL L []).map (·.2)++onceL T []++(onceL C []).map (·.2),Cds r:=fun r hr=>by
  rcases List.mem_append.1 hr with hr | hr
  ·rcases List.mem_append.1 hr with hr | hr
   ·obtain⟨l,hl,rfl⟩:=List.mem_map.1 hr; exact cL l ((mL l).1 hl)
   ·exact cT r ((mT r).1 hr)
  ·obtain⟨l,hl,rfl⟩:=List.mem_map.1 hr; exact cC l ((mC l).1 hl)
 have sL:sumLen ((onceL L []).map (·.2))≤sumLen (L.map (·.2)):=by
  have:=once_sum (fun l:QLit=>l.2.length) L []
  have h4:(([]:List QLit).map (fun l:QLit=>l.2.length)).sum=0:=rfl
  rw[h4,Nat.zero_add] at this
  unfold sumLen
  rw[List.map_map,List.map_map]
  exact this
 have sC:sumLen ((onceL C []).map (·.2))≤sumLen (C.map (·.2)):=by
  have:=once_sum (fun l:QLit=>l.2.length) C []
  have h4:(([]:List QLit).map (fun l:QLit=>l.2.length)).sum=0:=rfl
  rw[h4,Nat.zero_add] at this
  unfold sumLen
  rw[List.map_map,List.map_map]
  exact this
 have sT:sumLen (onceL T [])≤sumLen T:=by
  have:=once_sum List.length T []
  unfold sumLen
  simpa using this
 rw[ref8_Norm_L3_go_at0 _ _ _ _ _ (by simp only[List.length_append,List.length_map]; unfold maxLen; omega),norm_L3 _ _ _ (fun r hr=>(nr r hr).near) _ 0 [] List.drop_zero (by rw[sumLen_append,sumLen_append]; simp only[List.length_nil]; omega),Option.bind_some,List.foldl_append,List.foldl_append]
 -- the numbering
 obtain⟨a1,a2,a3,a4⟩:=renLs_spec (onceL L []) ren0 fun l hl=>fun c h=>((cL l ((mL l).1 hl)).2 c h).1
 obtain⟨b1,b2,b3,b4⟩:=renRs_spec (onceL T []) a1 fun l hl=>fun c h=>((cT l ((mT l).1 hl)).2 c h).1
 obtain⟨c1,c2,c3,c4⟩:=renLs_spec (onceL C []) b1 fun l hl=>fun c h=>((cC l ((mC l).1 hl)).2 c h).1
 have r1:=rl0.lits (onceL L []) ren0 fun l hl=>fun c h=>((cL l ((mL l).1 hl)).2 c h).1
 have r2:=r1.rows (onceL T []) a1 fun l hl=>fun c h=>((cT l ((mT l).1 hl)).2 c h).1
 have r3:=r2.lits (onceL C []) b1 fun l hl=>fun c h=>((cC l ((mC l).1 hl)).2 c h).1
 have nz1:∀ x,VarR ((onceL L []).map (·.2)) x→(renLs (renRs (renLs (List.replicate 24 0,0) (onceL L [])).2 (onceL T [])).2 (onceL C [])).2.1.getD x.toNat 0≠0:=fun x hx=>by
  have:=a3 x hx
  rw[c2 _ (by rw[b2 _ this]; exact this),b2 _ this]
  exact this
 have nz2:∀ x,VarR (onceL T []) x→(renLs (renRs (renLs (List.replicate 24 0,0) (onceL L [])).2 (onceL T [])).2 (onceL C [])).2.1.getD x.toNat 0≠0:=fun x hx=>by
  have:=b3 x hx
  rw[c2 _ this]
  exact this
 rw[copy_eq (r3.ok c1) (fun l h=>(cL l ((mL l).1 h)).near) (fun l h=>(cT l ((mT l).1 h)).near) (fun l h=>(cC l ((mC l).1 h)).near) (by omega) (by omega) (by omega),Option.bind_some]
 unfold normC renC
 rw[a4 _ (b2.trans c2),b4 _ c2,c4 _ (ExtS.refl _)]
 have eL:onLs _ (onceL L [])=subLs _ (onceL L []):=List.map_congr_left fun l h=>by
  show (l.1,_)=(l.1,_)
  rw[onB_ren c1 r3 l.2 (fun c hh=>((cL l ((mL l).1 h)).2 c hh).1) fun x hx=>nz1 x ⟨_,List.mem_map_of_mem h,hx⟩]
 have eT:onRs _ (onceL T [])=(onceL T []).map _:=List.map_congr_left fun l h=>onB_ren c1 r3 l (fun c hh=>((cT l ((mT l).1 h)).2 c hh).1) fun x hx=>nz2 x ⟨_,h,hx⟩
 have eC:onLs _ (onceL C [])=subLs _ (onceL C []):=List.map_congr_left fun l h=>by
  show (l.1,_)=(l.1,_)
  rw[onB_ren c1 r3 l.2 (fun c hh=>((cC l ((mC l).1 h)).2 c hh).1) fun x hx=>c3 x ⟨_,List.mem_map_of_mem h,hx⟩]
 rw[eL,eT,eC]
end
end Go.Abs.Q
namespace Go.Abs.Q
open Go Go.Abs
section
theorem may_sum {a0:List QSym} (hs:SignOk a0) {L:List QLit} {T:List (List Int)} {C:List QLit} (h:mayB a0 L T C=true):L.length≤5∧T.length≤3∧C.length≤3∧sumLen (L.map (·.2))+sumLen T+sumLen (C.map (·.2))≤1000:=by
 obtain⟨-,h1,h2,h3,-,-,-,h7⟩:=mayB_spec h
 exact ⟨h1,h2,h3,by omega⟩
end
end Go.Abs.Q
namespace Go.Abs.Q
open Go Go.Abs
section
end
end Go.Abs.Q
namespace Go.Abs.Q
open Go Go.Abs
end Go.Abs.Q
namespace Go.Abs.Q
open Go Go.Abs
end Go.Abs.Q
namespace Go.Abs.Q
open Go Go.Abs
section
end
end Go.Abs.Q
namespace Go.Abs.Q
open Go Go.Abs
end Go.Abs.Q
namespace Go.Abs.Q
open Go Go.Abs
section
def SameCl (L:List QLit) (T:List (List Int)) (C:List QLit):Prop:=law0_SameClause L T C L T C=some true
theorem sameCl_nil:SameCl [] [] []:=by
 unfold SameCl
 exact law0_SameClause_refl (by simp) (by simp) (by simp) (by simp) (by simp) (by simp)
end
end Go.Abs.Q
namespace Go.Abs.Q
open Go Go.Abs
end Go.Abs.Q
namespace Go.Abs.Q
open Go Go.Abs
def law0_LendInts (a0:(List Int)):Option (Int×(List Int)) :=
 (law0_CopyInts a0).bind fun r2 =>
 cond (room (List.length r2+List.length ([(-7777),(-8888)]:List Int)) 8)
 (cond (decide (0≤((List.length a0:Nat):Int)))
  (cond (decide (((List.length a0:Nat):Int)≤((List.length (r2++([(-7777),(-8888)]:List Int)):Nat):Int)))
   (some ((((Int.toNat ((List.length a0:Nat):Int) - Int.toNat 0):Nat):Int),(r2++([(-7777),(-8888)]:List Int))))
   (none))
  (none))
 (none)
def ref21_opposite (a0:Bool) (a1:(List Int)):Option QLit :=
 some ((!a0),a1)
def ref21_Goal_L1 (rec:((List QSym)×(List QLit)×Int×(List (List Int))×(List QLit))→Option ((List (List Int))×(List QLit))) (x:((List QSym)×(List QLit)×Int×(List (List Int))×(List QLit))):Option ((List (List Int))×(List QLit)) :=
 cond (decide (x.2.2.1<((List.length x.2.1:Nat):Int)))
 ((gx x.2.1 x.2.2.1).bind fun e23 =>
  (ref21_opposite e23.1 e23.2).bind fun r24 =>
  cond (room (List.length x.2.2.2.2+List.length ([(r24.1,r24.2)]:List QLit)) 32)
  (rec (x.1,x.2.1,(IntKind.wrap .i64 (x.2.2.1+1)),x.2.2.2.1,(x.2.2.2.2++([(r24.1,r24.2)]:List QLit))))
  (none))
 (some (x.2.2.2.1,x.2.2.2.2))
def ref21_Goal_L0 (rec:((List QSym)×(List Int)×(List QLit)×Int×(List Int))→Option ((List Int)⊕Int)) (x:((List QSym)×(List Int)×(List QLit)×Int×(List Int))):Option ((List Int)⊕Int) :=
 cond (decide (x.2.2.2.1<((List.length x.2.1:Nat):Int)))
 ((gx x.2.1 x.2.2.2.1).bind fun e12 =>
  cond (decide (e12<0))
  (some (Sum.inr 2400))
  ((gx x.2.1 x.2.2.2.1).bind fun e13 =>
   cond (decide (e13>23))
   (some (Sum.inr 2400))
   ((gx x.2.1 x.2.2.2.1).bind fun e14 =>
    (ref1_In x.2.2.2.2 e14).bind fun r15 =>
    cond r15
    (some (Sum.inr 2400))
    ((gx x.2.1 x.2.2.2.1).bind fun e16 =>
     cond (room (List.length x.2.2.2.2+List.length ([(IntKind.wrap .i64 ((-1) - e16))]:List Int)) 8)
     (rec (x.1,x.2.1,x.2.2.1,(IntKind.wrap .i64 (x.2.2.2.1+1)),(x.2.2.2.2++([(IntKind.wrap .i64 ((-1) - e16))]:List Int))))
     (none)))))
 (some (Sum.inl x.2.2.2.2))
def ref21_Goal (a0:(List QSym)) (a1:(List Int)) (a2:(List QLit)):Option ((List QLit)×(List (List Int))×Int×(List QLit)) :=
 (ref1_SignMay a0).bind fun r29 =>
 cond (!r29)
 (some (([]:(List QLit)),([]:(List (List Int))),2400,([]:(List QLit))))
 (cond (((List.length a2:Nat):Int)==0)
  (some (([]:(List QLit)),([]:(List (List Int))),2400,([]:(List QLit))))
  (cond (decide (((List.length a2:Nat):Int)>5))
   (some (([]:(List QLit)),([]:(List (List Int))),2400,([]:(List QLit))))
   (((lp ref21_Goal_L0 fuel) (a0,a1,a2,0,([]:(List Int)))).bind fun r30 =>
    caseS r30
    (fun z31=>((lp ref21_Goal_L1 fuel) (a0,a2,0,([z31]:List (List Int)),([]:(List QLit)))).bind fun r32 =>
     (ref8_May a0 r32.2 r32.1 ([]:(List QLit))).bind fun r33 =>
     cond (!r33)
     (some (([]:(List QLit)),([]:(List (List Int))),2400,([]:(List QLit))))
     ((ref8_Norm r32.2 r32.1 ([]:(List QLit))).bind fun r34 =>
      some (r34.1,r34.2.1,0,r34.2.2)))
    (fun z35=>some (([]:(List QLit)),([]:(List (List Int))),z35,([]:(List QLit)))))))
def law0_KeptInts_1 (a0:Int) (a1:(List Int)) (a2:(List Int)):Option Bool :=
 cond (decide (0≤(IntKind.wrap .i64 ((((Int.toNat a0):Nat):Int)+2))))
 (cond (decide ((IntKind.wrap .i64 ((((Int.toNat a0):Nat):Int)+2))≤((List.length a2 - 0:Nat):Int)))
  ((law0_SameInts (List.take (Int.toNat a0) (List.drop 0 a2)) a1).bind fun r6 =>
   cond r6
   ((inR ((List.length a1:Nat):Int) (Int.toNat (IntKind.wrap .i64 ((((Int.toNat a0):Nat):Int)+2)))).bind fun k7 =>
    (a2[(0+k7)]?).bind fun x8 =>
    cond (x8==(-7777))
    ((inR (IntKind.wrap .i64 (((List.length a1:Nat):Int)+1)) (Int.toNat (IntKind.wrap .i64 ((((Int.toNat a0):Nat):Int)+2)))).bind fun k9 =>
     (a2[(0+k9)]?).bind fun x10 =>
     some (x10==(-8888)))
    (some false))
   (some false))
  (none))
 (none)
def law24_Goals (a0:(List QSym)) (a1:(List Int)) (a2:(List QLit)):Option Bool :=
 (law0_CopyLits a2).bind fun r10 =>
 (law0_LendInts a1).bind fun r11 =>
 (ask_Goal a0 (List.take (Int.toNat r11.1) (List.drop 0 r11.2)) a2).bind fun r12 =>
 (ref21_Goal a0 a1 a2).bind fun r13 =>
 (law0_SameClause r12.1 r12.2.1 r12.2.2.2 r13.1 r13.2.1 r13.2.2.2).bind fun r14 =>
 cond (!r14)
 (some false)
 ((law0_Num r12.2.2.1).bind fun r15 =>
  cond (r15 != r13.2.2.1)
  (some false)
  ((law0_SameLits a2 r10).bind fun r16 =>
   cond r16
   ((law0_KeptInts_1 (((Int.toNat r11.1):Nat):Int) a1 r11.2).bind fun r17 =>
    cond r17
    ((law24_awake).bind fun r18 =>
     some r18)
    (some false))
   (some false)))
end Go.Abs.Q
namespace Go.Abs.Q
open Go Go.Abs
def ref21_Goal_L1_go (s3:(List (List Int))):List QLit→(List QLit)→Option ((List (List Int))×(List QLit))
 | [],s4=>some (s3,s4)
 | e::es,s4 =>
  (ref21_opposite e.1 e.2).bind fun r24 =>
  cond (room (List.length s4+List.length ([(r24.1,r24.2)]:List QLit)) 32)
  (ref21_Goal_L1_go s3 es (s4++([(r24.1,r24.2)]:List QLit)))
  (none)
theorem ref21_Goal_L1_go_eq (s0:(List QSym)) (s1:(List QLit)) (s3:(List (List Int))) (hl:List.length s1≤maxLen):∀(es:List QLit) (i:Nat) (k:Nat) (s4:(List QLit)),s1.drop i=es→es.length<k→lp ref21_Goal_L1 k (s0,s1,(i:Int),s3,s4)=ref21_Goal_L1_go s3 es s4:=by
 intro es
 induction es with
 | nil =>
  intro i k s4 h hk
  obtain⟨k,rfl⟩:∃ k',k=k'+1:=⟨k - 1,by omega⟩
  rw[lp_succ]
  generalize lp ref21_Goal_L1 k=rec
  unfold ref21_Goal_L1 ref21_Goal_L1_go
  simp only[lt_false (drop_nil_le h),cond_false]
 | cons e es ih =>
  intro i k s4 h hk
  obtain⟨k,rfl⟩:∃ k',k=k'+1:=⟨k - 1,by omega⟩
  rw[lp_succ]
  have hi:=drop_cons_lt h
  have hk2:es.length<k:=Nat.lt_of_succ_lt_succ hk
  have key:=fun s4=>ih (i+1) k s4 (drop_cons_next h) hk2
  generalize lp ref21_Goal_L1 k=rec at key ⊢
  unfold ref21_Goal_L1 ref21_Goal_L1_go
  simp only[lt_true hi,cond_true,gx_nat,drop_cons_get h,Option.bind_some,wrap_i1 hi hl,key]
theorem ref21_Goal_L1_go_at0 (s0:(List QSym)) (s1:(List QLit)) (s3:(List (List Int))) (s4:(List QLit)) (hl:List.length s1≤maxLen):lp ref21_Goal_L1 fuel (s0,s1,0,s3,s4)=ref21_Goal_L1_go s3 s1 s4 :=
 ref21_Goal_L1_go_eq s0 s1 s3 hl s1 0 fuel s4 rfl (Nat.lt_of_le_of_lt hl (by decide))
def ref21_Goal_L0_go:List Int→(List Int)→Option ((List Int)⊕Int)
 | [],s4=>some (Sum.inl s4)
 | e::es,s4 =>
  cond (decide (e<0))
  (some (Sum.inr 2400))
  (cond (decide (e>23))
   (some (Sum.inr 2400))
   ((ref1_In s4 e).bind fun r15 =>
    cond r15
    (some (Sum.inr 2400))
    (cond (room (List.length s4+List.length ([(IntKind.wrap .i64 ((-1) - e))]:List Int)) 8)
     (ref21_Goal_L0_go es (s4++([(IntKind.wrap .i64 ((-1) - e))]:List Int)))
     (none))))
theorem ref21_Goal_L0_go_eq (s0:(List QSym)) (s1:(List Int)) (s2:(List QLit)) (hl:List.length s1≤maxLen):∀(es:List Int) (i:Nat) (k:Nat) (s4:(List Int)),s1.drop i=es→es.length<k→lp ref21_Goal_L0 k (s0,s1,s2,(i:Int),s4)=ref21_Goal_L0_go es s4:=by
 intro es
 induction es with
 | nil =>
  intro i k s4 h hk
  obtain⟨k,rfl⟩:∃ k',k=k'+1:=⟨k - 1,by omega⟩
  rw[lp_succ]
  generalize lp ref21_Goal_L0 k=rec
  unfold ref21_Goal_L0 ref21_Goal_L0_go
  simp only[lt_false (drop_nil_le h),cond_false]
 | cons e es ih =>
  intro i k s4 h hk
  obtain⟨k,rfl⟩:∃ k',k=k'+1:=⟨k - 1,by omega⟩
  rw[lp_succ]
  have hi:=drop_cons_lt h
  have hk2:es.length<k:=Nat.lt_of_succ_lt_succ hk
  have key:=fun s4=>ih (i+1) k s4 (drop_cons_next h) hk2
  generalize lp ref21_Goal_L0 k=rec at key ⊢
  unfold ref21_Goal_L0 ref21_Goal_L0_go
  simp only[lt_true hi,cond_true,gx_nat,drop_cons_get h,Option.bind_some,wrap_i1 hi hl,key]
theorem ref21_Goal_L0_go_at0 (s0:(List QSym)) (s1:(List Int)) (s2:(List QLit)) (s4:(List Int)) (hl:List.length s1≤maxLen):lp ref21_Goal_L0 fuel (s0,s1,s2,0,s4)=ref21_Goal_L0_go s1 s4 :=
 ref21_Goal_L0_go_eq s0 s1 s2 hl s1 0 fuel s4 rfl (Nat.lt_of_le_of_lt hl (by decide))
end Go.Abs.Q
namespace Go.Abs.Q
open Go Go.Abs
section
def negs (r:List Int):List Int:=r.map fun e => -1 - e
theorem In_negs {v:Int} (h0:0≤v) (h1:v≤23) {r:List Int} (hl:r.length≤maxLen):ref1_In (negs r) v=some (decide (v∈r)):=by
 obtain⟨n,rfl⟩:=Int.eq_ofNat_of_zero_le h0
 have hn:n<24:=by omega
 have hm:(-1 - (n:Int)∈negs r)↔((n:Int)∈r):=by
  unfold negs
  refine ⟨fun h => ?_,fun h=>List.mem_map.2 ⟨_,h,rfl⟩⟩
  obtain⟨y,hy,e⟩:=List.mem_map.1 h
  rwa [show (n:Int)=y by omega]
 unfold ref1_In
 rw[ref1_In_L0_go_at0 _ _ (by unfold negs; rw[List.length_map]; exact hl),In_go n hn,Option.bind_some,decide_eq_decide.2 hm]
 cases decide ((n:Int)∈r)<;>rfl
theorem goal_vars {a1:List Int} (hl:a1.length≤1048576):(es:List Int)→(i:Nat)→a1.drop i=es →
  (ask_varsMay_L0_go a1 es i=some (.inr false)∧ref21_Goal_L0_go es (negs (a1.take i))=some (.inr 2400))∨(ask_varsMay_L0_go a1 es i=some (.inl ())∧(∀ e∈es,0≤e∧e≤23)∧ref21_Goal_L0_go es (negs (a1.take i))=some (.inl (negs a1)))
 | [],i,h=>.inr ⟨rfl,fun _ h=>(nomatch h),by rw[List.take_of_length_le (drop_nil_le h)]; rfl⟩
 | e::es,i,h=>by
  have hi:=drop_cons_lt h
  have hM:maxLen=9223372036854775807:=rfl
  have ih:=goal_vars hl es (i+1) (drop_cons_next h)
  unfold ask_varsMay_L0_go ref21_Goal_L0_go
  by_cases h0:e<0
  ·rw[decide_eq_true h0]; exact .inl ⟨rfl,rfl⟩
  ·rw[decide_eq_false h0,cond_false,cond_false]
   by_cases h1:e>23
   ·rw[decide_eq_true h1]; exact .inl ⟨rfl,rfl⟩
   ·rw[decide_eq_false h1,cond_false,cond_false,slc_take a1 (by omega),Option.bind_some,contains_eq e (by rw[List.length_take]; unfold maxLen; omega),Option.bind_some,In_negs (by omega) (by omega) (by rw[List.length_take]; unfold maxLen; omega),Option.bind_some]
    by_cases hm:e∈a1.take i
    ·rw[decide_eq_true hm]; exact .inl ⟨rfl,rfl⟩
    ·have w:IntKind.wrap .i64 ((-1) - e) = -1 - e:=by rw[wrap64]<;>omega
     have e1:negs (a1.take i)++[-1 - e]=negs (a1.take (i+1)):=by
      rw[List.take_add_one,drop_cons_get h]
      simp [negs]
     rw[decide_eq_false hm,cond_false,cond_false,w,room_ok (by simp [negs]; omega),cond_true,e1]
     rcases ih with ih | ⟨g1,g2,g3⟩
     ·exact .inl ih
     ·refine .inr ⟨g1,fun x hx => ?_,g3⟩
      rcases List.mem_cons.1 hx with rfl | hx
      ·omega
      ·exact g2 x hx
theorem goal_opp (s3:List (List Int)):(es out:List QLit)→out.length+es.length≤1000000→ref21_Goal_L1_go s3 es out=some (s3,out++es.map oppL)
 | [],out,_=>by simp [ref21_Goal_L1_go]
 | e::es,out,hl=>by
  simp only[List.length_cons] at hl
  unfold ref21_Goal_L1_go ref21_opposite
  rw[Option.bind_some,room_ok (by simp; omega),cond_true,goal_opp s3 es _ (by simp; omega)]
  simp [oppL]
theorem goal_both {a0:List QSym} {a1:List Int} {a2:List QLit} (hl:a1.length≤1048576) (hb:∀ l∈a2,l.2.length≤1048576):∃ r:GoalT,ask_Goal a0 a1 a2=some r∧ref21_Goal a0 a1 a2=some r∧SameCl r.1 r.2.1 r.2.2.2:=by
 have bad:∀{o o':Option GoalT},o=some ([],[],2400,[])→o'=some ([],[],2400,[])→∃ r:GoalT,o=some r∧o'=some r∧SameCl r.1 r.2.1 r.2.2.2:=fun h h'=>⟨_,h,h',sameCl_nil⟩
 unfold ask_Goal ref21_Goal
 rw[sign_May_eq,ref1_SignMay_eq,Option.bind_some,Option.bind_some]
 cases hs:signB a0 with
 | false=>exact bad rfl rfl
 | true =>
  rw[Bool.not_true,cond_false,cond_false]
  cases h0:((List.length a2:Nat):Int)==0 with
  | true=>exact bad rfl rfl
  | false =>
   rw[cond_false,cond_false]
   by_cases h5:((List.length a2:Nat):Int)>5
   ·rw[decide_eq_true h5]; exact bad rfl rfl
   ·rw[decide_eq_false h5,cond_false,cond_false]
    unfold ask_varsMay
    rw[ask_varsMay_L0_go_at0 _ _ (by unfold maxLen; omega),ref21_Goal_L0_go_at0 _ _ _ _ (by unfold maxLen; omega)]
    rcases goal_vars hl a1 0 rfl with ⟨h,h'⟩ | ⟨h,hr,h'⟩
    ·rw[h,show ref21_Goal_L0_go a1 []=some (.inr 2400) from h']; exact bad rfl rfl
    ·rw[h,show ref21_Goal_L0_go a1 []=some (.inl (negs a1)) from h']
     have e1:eqI ((List.length a1:Nat):Int) ((List.length a1:Nat):Int)=true:=by unfold eqI; simp
     have e2:nneg ((List.length a1:Nat):Int)=true:=by unfold nneg; exact decide_eq_true (by omega)
     have g1:=goal_L1 a1 0 [] hr rfl
     rw[List.nil_append,List.nil_append] at g1
     simp only[Option.bind_some,caseS,Bool.not_true,cond_false]
     rw[ask_Goal_L0_go_at0 _ _ _ _ (by unfold maxLen; omega),goal_L0 a2 [] hb (by simp; omega),Option.bind_some,List.nil_append,e1,cond_true,e2,cond_true,Int.toNat_natCast,room_ok (by omega),cond_true,
      ask_Goal_L1_go_at0 _ _ _ _ (by unfold maxLen; omega),g1,Option.bind_some,clause_Normal_eq,Option.bind_some,
      ref21_Goal_L1_go_at0 _ _ _ _ (by unfold maxLen; omega),goal_opp _ a2 [] (by simp; omega),Option.bind_some,ref8_May_eq,Option.bind_some]
     show ∃ r:GoalT,_∧_∧_
     have en:([List.map (fun e => -1 - e) a1]:List (List Int))=[negs a1]:=rfl
     rw[en,List.nil_append]
     cases hm:mayB a0 (a2.map oppL) [negs a1] [] with
     | false=>exact bad rfl rfl
     | true =>
      obtain⟨m1,m2,m3,m4⟩:=may_sum (signB_ok hs) hm
      refine ⟨((normC (a2.map oppL) [negs a1] []).1,(normC (a2.map oppL) [negs a1] []).2.1,0,(normC (a2.map oppL) [negs a1] []).2.2),rfl,?_,normC_same hm⟩
      rw[Bool.not_true,cond_false,norm_eq (may_cds (signB_ok hs) hm) (by omega) (by omega) (by omega) m4]
      rfl
theorem lend_eq {xs:List Int} (h:xs.length≤1048576):law0_LendInts xs=some ((xs.length:Int),xs++[-7777,-8888]):=by
 unfold law0_LendInts
 rw[law0_CopyInts_eq (by omega),Option.bind_some,room_ok (by simp; omega),cond_true,decide_eq_true (by omega),cond_true,decide_eq_true (by simp; omega),cond_true]
 simp
theorem kept_ints {xs:List Int} (h:xs.length≤1048576):law0_KeptInts_1 (xs.length:Int) xs (xs++[-7777,-8888])=some true:=by
 unfold law0_KeptInts_1
 have w:IntKind.wrap .i64 ((((Int.toNat (xs.length:Int)):Nat):Int)+2)=((xs.length+2:Nat):Int):=by rw[wrap64]<;>simp<;>omega
 have w1:IntKind.wrap .i64 (((List.length xs:Nat):Int)+1)=((xs.length+1:Nat):Int):=by rw[wrap64]<;>omega
 rw[w,w1,decide_eq_true (by omega),cond_true,decide_eq_true (by simp),cond_true,Int.toNat_natCast,Int.toNat_natCast]
 rw[show List.take xs.length (List.drop 0 (xs++[-7777,-8888]))=xs by simp,law0_SameInts_eq (by unfold maxLen; omega),decide_eq_true rfl,Option.bind_some,cond_true,
  inR_nat (by omega),Option.bind_some,inR_nat (by omega),Option.bind_some]
 simp
theorem law24_Goals_true (a0:List QSym) (a1:List Int) (a2:List QLit) (h1:a1.length≤1048576) (h2:a2.length≤1048576) (h3:∀ l∈a2,l.2.length≤1048576):law24_Goals a0 a1 a2=some true:=by
 unfold law24_Goals
 have hnum:∀ k:Int,law0_Num k=some k:=fun k=>rfl
 obtain⟨r,g1,g2,g3⟩:=goal_both (a0:=a0) h1 h3
 unfold SameCl at g3
 rw[law0_CopyLits_eq (fun l hl=>Nat.le_trans (h3 l hl) (by decide)) (Nat.le_trans h2 (by decide)),Option.bind_some,lend_eq h1,Option.bind_some]
 show ((ask_Goal a0 (List.take (Int.toNat (a1.length:Int)) (List.drop 0 (a1++[-7777,-8888]))) a2).bind _)=_
 rw[Int.toNat_natCast,show List.take a1.length (List.drop 0 (a1++[-7777,-8888]))=a1 by simp,g1,Option.bind_some,g2,Option.bind_some,g3,Option.bind_some,Bool.not_true,cond_false,hnum,Option.bind_some,
  show (r.2.2.1 != r.2.2.1)=false by simp,cond_false,law0_SameLits_eq (Nat.le_trans h2 (by decide)) (fun l hl=>Nat.le_trans (h3 l hl) (by decide)),Option.bind_some,decide_eq_true rfl,cond_true]
 rw[kept_ints h1,Option.bind_some,cond_true,law24_awake_eq]
 rfl
theorem goals_plain (x:List QSym×List Int×List QLit) (h:wtL [.sl tSym,.sl (.one (.int .i64)),.sl tLit] x≤1048576):law24_Goals x.1 x.2.1 x.2.2=some true:=by
 have h:Go.Abs.wt (.sl tSym) x.1+(Go.Abs.wt (.sl (.one (.int .i64))) x.2.1+Go.Abs.wt (.sl tLit) x.2.2)≤1048576:=h
 obtain⟨l1,m1⟩:=wt_lits (ls:=x.2.2) (b:=1048576) (by omega)
 have l2:=wt_ints x.2.1
 exact law24_Goals_true _ _ _ (by omega) l1 m1
end
end Go.Abs.Q
