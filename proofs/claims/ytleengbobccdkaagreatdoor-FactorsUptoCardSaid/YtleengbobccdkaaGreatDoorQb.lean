import Derived.Test.YtleengbobccdkaaGreatDoorQa
/-
  What the functions make of plain values, and what the law says of that.
-/
namespace Go.Abs.Q
open Go Go.Abs
section
def to0:List (Option (List Int)×Int):=List.replicate 48 ((none:Option (List Int)),(0:Int))
theorem zEM {k:Nat} (h:k < 48):to0[k]? = some (none,0):=by
 unfold to0
 rw[List.getElem?_replicate,if_pos h]
theorem zrb {α:Type} (xs:List α) (y:α):zbS (xs++[y]) none (some (xs.length:Int))=some xs:=by
 show slc (xs++[y]) 0 (xs.length:Int)=some xs
 unfold slc
 rw[decide_eq_true (show (0:Int)≤0 by omega),decide_eq_true (show (0:Int)≤(xs.length:Int) by omega),decide_eq_true (show (xs.length:Int)≤(((xs++[y]).length:Nat):Int) by simp; omega)]
 simp
def zds (s:List (Int×List Int)) (v:Int):Option (List Int):=(s.find? fun b=>b.1 == v).map (·.2)
def onC (s:List (Int×List Int)) (c:Int):List Int:=cond (decide (c ≥ 0)) [c] ((zds s (-1 - c)).getD [c])
def onB (s:List (Int×List Int)) (r:List Int):List Int:=r.flatMap (onC s)
structure BindsOk (s:List (Int×List Int)):Prop where
 len:s.length≤1000
 all:∀ b∈s,b.2 ≠ []∧b.2.length≤1000
theorem zrk (v:Int):(es:List (Int×List Int))→zac v es=some (match zds es v with
  | none=>.inl ()
  | some t=>.inr t)
 | []=>rfl
 | e :: es=>by
  unfold zac zds
  rw[List.find?_cons]
  cases he:(e.1 == v) with
  | true=>rfl
  | false =>
   rw[cond_false,zrk v es]
   rfl
theorem zog {s:List (Int×List Int)} {v:Int} {t:List Int} (h:zds s v=some t):∃ b∈s,b.1=v∧b.2=t:=by
 unfold zds at h
 obtain⟨b,hb,rfl⟩:=Option.map_eq_some_iff.1 h
 exact ⟨b,List.mem_of_find?_eq_some hb,by simpa using List.find?_some hb,rfl⟩
theorem zi3 {α:Type} {xs:List α} (h:xs ≠ []):nn xs=some xs:=by
 cases xs with
 | nil=>exact absurd rfl h
 | cons x xs=>rfl
theorem zo5 {s:List (Int×List Int)} (h:BindsOk s) (v:Int):zfA s v=some (zds s v):=by
 unfold zfA
 rw[zhy _ _ (by have:=h.len; unfold maxLen; omega),zrk]
 cases hl:zds s v with
 | none=>rfl
 | some t =>
  obtain⟨b,hb,-,rfl⟩:=zog hl
  show (nn b.2).bind _=_
  rw[zi3 (h.all b hb).1]
  rfl
theorem zDK {s:List (Int×List Int)} (h:BindsOk s) (c:Int):(onC s c).length≤1000:=by
 unfold onC
 cases decide (c ≥ 0) with
 | true=>simp
 | false =>
  cases hl:zds s (-1 - c) with
  | none=>simp
  | some t =>
   obtain⟨b,hb,-,rfl⟩:=zog hl
   exact (h.all b hb).2
theorem zoi {s:List (Int×List Int)} (h:BindsOk s):(es:List Int)→(out:List Int)→(∀ c∈es,-1000000≤c∧c≤1000000)→out.length+1000 * es.length≤10000000→qF s es out=some (out++onB s es)
 | [],out,_,_=>by simp [qF,onB]
 | e :: es,out,hc,hl=>by
  rw[List.length_cons] at hl
  have he:=hc e (List.mem_cons_self ..)
  have ih:=fun out' hl'=>zoi h es out' (fun c hx=>hc c (List.mem_cons_of_mem _ hx)) hl'
  have hcl:=zDK h e
  have hB:onB s (e :: es)=onC s e++onB s es:=by simp [onB]
  unfold qF
  rw[zbA (by omega) (by omega),Option.bind_some,zo5 h,Option.bind_some,hB]
  unfold onC at hcl ⊢
  by_cases h0:e ≥ 0
  ·rw[decide_eq_true h0,cond_true,cond_true,zT (show (out.length+([e]:List Int).length) * 8≤140737488351232 by simp; omega),cond_true,ih _ (by simp; omega)]
   simp
  ·rw[decide_eq_false h0] at hcl ⊢
   simp only[cond_false] at hcl ⊢
   cases hl2:zds s (-1 - e) with
   | none =>
    simp only[Option.isNone_none,cond_true,Option.getD_none]
    rw[zT (show (out.length+([e]:List Int).length) * 8≤140737488351232 by simp; omega),cond_true,ih _ (by simp; omega)]
    simp
   | some t =>
    rw[hl2] at hcl
    simp only[Option.getD_some] at hcl
    simp only[Option.isNone_some,cond_false,Option.getD_some]
    rw[zT (by omega),cond_true,ih _ (by simp; omega)]
    simp
theorem ziL {s:List (Int×List Int)} (h:BindsOk s) {r:List Int} (hl:r.length≤1000) (hc:∀ c∈r,-1000000≤c∧c≤1000000):zni s r=some (onB s r):=by
 unfold zni
 rw[ziN _ _ _ (by unfold maxLen; omega),zoi h r [] hc (by simp; omega)]
 rfl
def zeK (r:List Int):Prop:=r.length≤1000∧∀ c∈r,-1000000≤c∧c≤1000000
def zlX (s:List (Int×List Int)) (ls:List zd):List zd:=ls.map fun l=>(l.1,onB s l.2)
def zs0 (s:List (Int×List Int)) (rs:List (List Int)):List (List Int):=rs.map (onB s)
theorem zo3 {s:List (Int×List Int)} (h:BindsOk s):(es out:List zd)→(∀ l∈es,zeK l.2)→out.length+es.length≤1000000→qa s es out=some (out++zlX s es)
 | [],out,_,_=>by simp [qa,zlX]
 | e :: es,out,hn,hl=>by
  rw[List.length_cons] at hl
  have he:=hn e (List.mem_cons_self ..)
  unfold qa qZ
  rw[ziL h he.1 he.2,Option.bind_some,Option.bind_some,zT (show (out.length+([(e.1,onB s e.2)]:List zd).length) * 32≤140737488351232 by simp; omega),cond_true,
   zo3 h es _ (fun l hl=>hn l (List.mem_cons_of_mem _ hl)) (by simp; omega)]
  simp [zlX]
theorem zoU {s:List (Int×List Int)} (h:BindsOk s) (s7:List zd):(es out:List (List Int))→(∀ l∈es,zeK l)→out.length+es.length≤1000000→y9 s s7 es out=some (s7,out++zs0 s es)
 | [],out,_,_=>by simp [y9,zs0]
 | e :: es,out,hn,hl=>by
  rw[List.length_cons] at hl
  have he:=hn e (List.mem_cons_self ..)
  unfold y9 qZ
  rw[ziL h he.1 he.2,Option.bind_some,Option.bind_some,zT (show (out.length+([onB s e]:List (List Int)).length) * 24≤140737488351232 by simp; omega),cond_true,
   zoU h s7 es _ (fun l hl=>hn l (List.mem_cons_of_mem _ hl)) (by simp; omega)]
  simp [zs0]
theorem zoo {s:List (Int×List Int)} (h:BindsOk s) (s4:List zd) (s5:List (List Int)):(es out:List zd)→(∀ l∈es,zeK l.2)→out.length+es.length≤1000000→qd s s4 s5 es out=some (s4,s5,out++zlX s es)
 | [],out,_,_=>by simp [qd,zlX]
 | e :: es,out,hn,hl=>by
  rw[List.length_cons] at hl
  have he:=hn e (List.mem_cons_self ..)
  unfold qd qZ
  rw[ziL h he.1 he.2,Option.bind_some,Option.bind_some,zT (show (out.length+([(e.1,onB s e.2)]:List zd).length) * 32≤140737488351232 by simp; omega),cond_true,
   zoo h s4 s5 es _ (fun l hl=>hn l (List.mem_cons_of_mem _ hl)) (by simp; omega)]
  simp [zlX]
theorem zoc {s:List (Int×List Int)} (h:BindsOk s) {L:List zd} {T:List (List Int)} {C:List zd} (hL:∀ l∈L,zeK l.2) (hT:∀ l∈T,zeK l) (hC:∀ l∈C,zeK l.2) (h1:L.length≤1000) (h2:T.length≤1000) (h3:C.length≤1000) :
  zfF s L T C=some (zlX s L,zs0 s T,zlX s C):=by
 unfold zfF zhw
 rw[zfE _ _ _ _ _ _ (by unfold maxLen; omega),zo3 h L [] hL (by simp; omega),Option.bind_some,
  zf0 _ _ _ _ _ _ _ (by unfold maxLen; omega),zoU h _ T [] hT (by simp; omega),Option.bind_some,
  zgc _ _ _ _ _ (by unfold maxLen; omega),zoo h _ _ C [] hC (by simp; omega),Option.bind_some]
 simp
end
end Go.Abs.Q
namespace Go.Abs.Q
open Go Go.Abs
def znV (rec:zm→Option Int) (x:zm):Option Int :=
 cond (decide (x.2.2.2 < x.2.2.1))
 ((gx x.1 x.2.2.2).bind fun c2 =>
  rec (x.1,(IntKind.wrap .i64 ((IntKind.wrap .i64 (10 * x.2.1))+(IntKind.wrap .i64 (IntKind.wrap .u8 (((UInt8.toNat c2:Nat):Int) - 48))))),x.2.2.1,(IntKind.wrap .i64 (x.2.2.2+1))))
 (some x.2.1)
def zlU (a0:Str):Option Int :=
 ((lp znV zr) (a0,0,((List.length a0:Nat):Int),0)).bind fun r4 =>
 some r4
def zY (a0:Str) (a1:(List zm)) (a2:(List (Int×Str))) (a3:Bool):Option (Bool×(List zm)×(List (Int×Str))×Bool) :=
 cond (((List.length a2:Nat):Int) == 0)
 (some (false,a1,a2,a3))
 ((gx a2 0).bind fun e4 =>
  cond (e4.1 != 3)
  (some (false,a1,a2,a3))
  ((gx a2 0).bind fun e5 =>
   cond (!(e5.2 == a0))
   (some (false,a1,a2,a3))
   ((zbS a2 (some 1) none).bind fun y6 =>
    some (true,a1,y6,a3))))
def zeR (a0:(List zm)) (a1:(List (Int×Str))) (a2:Bool):Option (Int×Int×Bool×(List zm)×(List (Int×Str))×Bool) :=
 cond (decide (((List.length a1:Nat):Int) < 2))
 (some (0,0,false,a0,a1,a2))
 ((gx a1 0).bind fun e9 =>
  cond (e9.1 != 0)
  (some (0,0,false,a0,a1,a2))
  ((gx a1 1).bind fun e10 =>
   cond (e10.1 != 1)
   (some (0,0,false,a0,a1,a2))
   ((gx a1 1).bind fun e11 =>
    (zbS e11.2 (some 1) none).bind fun y12 =>
    (zlU y12).bind fun r13 =>
    (gx a1 0).bind fun e14 =>
    cond (e14.2 == ([101,120]:Str))
    ((zbS a1 (some 2) none).bind fun y15 =>
     some (6,r13,true,a0,y15,a2))
    (cond (e14.2 == ([97,108,108]:Str))
     ((zbS a1 (some 2) none).bind fun y16 =>
      some (5,r13,true,a0,y16,a2))
     (some (0,0,false,a0,a1,a2))))))
def zu7 (a0:(List zm)) (a1:Str):Option (Int×Int) :=
 (ze1 a0).bind fun r3 =>
 cond (!r3)
 (some (0,100))
 ((zeh a0 a1).bind fun r4 =>
  some (r4,0))
def zbV (a0:(List zm)) (a1:(List (Int×Str))) (a2:Bool):Option (Int×Bool×(List zm)×(List (Int×Str))×Bool) :=
 cond (((List.length a1:Nat):Int) == 0)
 (some (0,false,a0,a1,a2))
 ((gx a1 0).bind fun e5 =>
  cond (e5.1 != 0)
  (some (0,false,a0,a1,a2))
  ((gx a1 0).bind fun e6 =>
   (zu7 a0 e6.2).bind fun r7 =>
   cond (decide (r7.1 < 0))
   (some (0,false,a0,a1,a2))
   ((zbS a1 (some 1) none).bind fun y8 =>
    some (r7.1,true,a0,y8,a2))))
def zgF (a0:(List zm)) (a1:(List (Int×Str))) (a2:Bool):Option (Int×Bool×(List zm)×(List (Int×Str))×Bool) :=
 cond (((List.length a1:Nat):Int) == 0)
 (some (0,false,a0,a1,a2))
 ((gx a1 0).bind fun e6 =>
  cond (e6.1 != 1)
  (some (0,false,a0,a1,a2))
  ((gx a1 0).bind fun e7 =>
   (zbS e7.2 (some 1) none).bind fun y8 =>
   (zlU y8).bind fun r9 =>
   (zbS a1 (some 1) none).bind fun y10 =>
   some (r9,true,a0,y10,a2)))
def zeF (rf:((((List zm)×(List (Int×Str))×Bool)→Option (Bool×(List Int)×(List zm)×(List (Int×Str))×Bool))×((Int×(List zm)×(List (Int×Str))×Bool)→Option (Bool×(List Int)×(List zm)×(List (Int×Str))×Bool)))) (a0:(List zm)) (a1:(List (Int×Str))) (a2:Bool):Option (Bool×(List Int)×(List zm)×(List (Int×Str))×Bool) :=
 (zgF a0 a1 a2).bind fun r6 =>
 cond r6.2.1
 ((qh r6.1).bind fun r7 =>
  some (true,([r7]:List Int),r6.2.2.1,r6.2.2.2.1,r6.2.2.2.2))
 ((zbV r6.2.2.1 r6.2.2.2.1 r6.2.2.2.2).bind fun r8 =>
  cond (!r8.2.1)
  (some (false,([]:(List Int)),r8.2.2.1,r8.2.2.2.1,r8.2.2.2.2))
  ((gx r8.2.2.1 r8.1).bind fun e9 =>
   cond (e9.2.1 == 0)
   (some (false,([]:(List Int)),r8.2.2.1,r8.2.2.2.1,r8.2.2.2.2))
   ((rf.2 (r8.1,r8.2.2.1,r8.2.2.2.1,r8.2.2.2.2)).bind fun r10 =>
    some (r10.1,r10.2.1,r10.2.2.1,r10.2.2.2.1,r10.2.2.2.2))))
def zdu (rf:((((List zm)×(List (Int×Str))×Bool)→Option (Bool×(List Int)×(List zm)×(List (Int×Str))×Bool))×((Int×(List zm)×(List (Int×Str))×Bool)→Option (Bool×(List Int)×(List zm)×(List (Int×Str))×Bool)))) (rec:(Int×Int×Int×(List zm)×(List (Int×Str))×Bool×(List Int))→Option (((List zm)×(List (Int×Str))×Bool×(List Int))⊕(Bool×(List zm)×(List (Int×Str))×Bool))) (x:(Int×Int×Int×(List zm)×(List (Int×Str))×Bool×(List Int))):Option (((List zm)×(List (Int×Str))×Bool×(List Int))⊕(Bool×(List zm)×(List (Int×Str))×Bool)) :=
 cond (decide (x.2.2.1 < x.2.1))
 (cond (x.2.2.1 == 0)
  ((zY ([40]:Str) x.2.2.2.1 x.2.2.2.2.1 x.2.2.2.2.2.1).bind fun r8 =>
   cond (!r8.1)
   (some (Sum.inr (false,r8.2.1,r8.2.2.1,r8.2.2.2)))
   ((rf.1 (r8.2.1,r8.2.2.1,r8.2.2.2)).bind fun r9 =>
    cond (!r9.1)
    (some (Sum.inr (false,r9.2.2.1,r9.2.2.2.1,r9.2.2.2.2)))
    (cond (qt (List.length x.2.2.2.2.2.2+List.length r9.2.1) 8)
     (rec (x.1,x.2.1,(IntKind.wrap .i64 (x.2.2.1+1)),r9.2.2.1,r9.2.2.2.1,r9.2.2.2.2,(x.2.2.2.2.2.2++r9.2.1)))
     (none))))
  ((zY ([44]:Str) x.2.2.2.1 x.2.2.2.2.1 x.2.2.2.2.2.1).bind fun r10 =>
   cond (!r10.1)
   (some (Sum.inr (false,r10.2.1,r10.2.2.1,r10.2.2.2)))
   ((rf.1 (r10.2.1,r10.2.2.1,r10.2.2.2)).bind fun r11 =>
    cond (!r11.1)
    (some (Sum.inr (false,r11.2.2.1,r11.2.2.2.1,r11.2.2.2.2)))
    (cond (qt (List.length x.2.2.2.2.2.2+List.length r11.2.1) 8)
     (rec (x.1,x.2.1,(IntKind.wrap .i64 (x.2.2.1+1)),r11.2.2.1,r11.2.2.2.1,r11.2.2.2.2,(x.2.2.2.2.2.2++r11.2.1)))
     (none)))))
 (some (Sum.inl (x.2.2.2.1,x.2.2.2.2.1,x.2.2.2.2.2.1,x.2.2.2.2.2.2)))
def zdO (rf:((((List zm)×(List (Int×Str))×Bool)→Option (Bool×(List Int)×(List zm)×(List (Int×Str))×Bool))×((Int×(List zm)×(List (Int×Str))×Bool)→Option (Bool×(List Int)×(List zm)×(List (Int×Str))×Bool)))) (a0:Int) (a1:(List zm)) (a2:(List (Int×Str))) (a3:Bool):Option (Bool×(List Int)×(List zm)×(List (Int×Str))×Bool) :=
 (gx a1 a0).bind fun e17 =>
 ((lp (zdu rf) zr) (a0,e17.2.2.1,0,a1,a2,a3,([a0]:List Int))).bind fun r18 =>
 qH r18
 (fun z19=>(gx z19.1 a0).bind fun e20 =>
  cond (e20.2.2.1 == 0)
  (some (true,z19.2.2.2,z19.1,z19.2.1,z19.2.2.1))
  ((zY ([41]:Str) z19.1 z19.2.1 z19.2.2.1).bind fun r21 =>
   some (r21.1,z19.2.2.2,r21.2.1,r21.2.2.1,r21.2.2.2)))
 (fun z22=>some (z22.1,([]:(List Int)),z22.2.1,z22.2.2.1,z22.2.2.2))
def zct (rf:((((List zm)×(List (Int×Str))×Bool)→Option (Bool×(List Int)×(List zm)×(List (Int×Str))×Bool))×((Int×(List zm)×(List (Int×Str))×Bool)→Option (Bool×(List Int)×(List zm)×(List (Int×Str))×Bool)))):((((List zm)×(List (Int×Str))×Bool)→Option (Bool×(List Int)×(List zm)×(List (Int×Str))×Bool))×((Int×(List zm)×(List (Int×Str))×Bool)→Option (Bool×(List Int)×(List zm)×(List (Int×Str))×Bool))) :=
 (fun (x:((List zm)×(List (Int×Str))×Bool))=>zeF rf x.1 x.2.1 x.2.2,fun (x:(Int×(List zm)×(List (Int×Str))×Bool))=>zdO rf x.1 x.2.1 x.2.2.1 x.2.2.2)
def zcE:((((List zm)×(List (Int×Str))×Bool)→Option (Bool×(List Int)×(List zm)×(List (Int×Str))×Bool))×((Int×(List zm)×(List (Int×Str))×Bool)→Option (Bool×(List Int)×(List zm)×(List (Int×Str))×Bool))):=(fun _=>none,fun _=>none)
def zbB (k:Nat):((((List zm)×(List (Int×Str))×Bool)→Option (Bool×(List Int)×(List zm)×(List (Int×Str))×Bool))×((Int×(List zm)×(List (Int×Str))×Bool)→Option (Bool×(List Int)×(List zm)×(List (Int×Str))×Bool))):=lpR zcE zct k
def zas (a0:(List zm)) (a1:(List (Int×Str))) (a2:Bool):Option (Bool×(List Int)×(List zm)×(List (Int×Str))×Bool):=(zbB zr).1 (a0,a1,a2)
def ze0 (a0:Int) (a1:(List zm)) (a2:(List (Int×Str))) (a3:Bool):Option (Bool×(List Int)×(List zm)×(List (Int×Str))×Bool):=(zbB zr).2 (a0,a1,a2,a3)
def znH (a0:Int):Option (List Int) :=
 cond (decide (a0 < 0))
 (none)
 (cond (decide ((IntKind.wrap .i64 (a0 - 0)) > 0))
  (cond (eqI 0 0&&eqI 0 0)
   (cond (zBE (IntKind.wrap .i64 (a0 - 0)))
    (cond (qt (Int.toNat (IntKind.wrap .i64 (a0 - 0))) 8)
     ((zbS (List.replicate (Int.toNat (IntKind.wrap .i64 (a0 - 0))) (0:Int)) none (some 0)).bind fun y2 =>
      some y2)
     (none))
    (none))
   (none))
  (some ([]:(List Int))))
def zhS (rec:((List (List Int))×Int×Int×(List Int))→Option (List Int)) (x:((List (List Int))×Int×Int×(List Int))):Option (List Int) :=
 cond (decide (x.2.2.1 < x.2.1))
 ((gx x.1 x.2.2.1).bind fun e7 =>
  cond (qt (List.length x.2.2.2+List.length e7) 8)
  (rec (x.1,x.2.1,(IntKind.wrap .i64 (x.2.2.1+1)),(x.2.2.2++e7)))
  (none))
 (some x.2.2.2)
def zhQ (rec:((List (List Int))×Int×(List (List Int))×Int×Int)→Option Int) (x:((List (List Int))×Int×(List (List Int))×Int×Int)):Option Int :=
 cond (decide (x.2.2.2.2 < x.2.2.2.1))
 ((gx x.2.2.1 x.2.2.2.2).bind fun e2 =>
  cond (decide ((IntKind.wrap .i64 (x.2.1+((List.length e2:Nat):Int))) < 0))
  (none)
  (rec (x.1,(IntKind.wrap .i64 (x.2.1+((List.length e2:Nat):Int))),x.2.2.1,x.2.2.2.1,(IntKind.wrap .i64 (x.2.2.2.2+1)))))
 (some x.2.1)
def zgn (a0:(List (List Int))):Option (List Int) :=
 ((lp zhQ zr) (a0,0,a0,((List.length a0:Nat):Int),0)).bind fun r9 =>
 (znH r9).bind fun r10 =>
 ((lp zhS zr) (a0,((List.length a0:Nat):Int),0,r10)).bind fun r11 =>
 some r11
def zfK (a0:(List zm)) (a1:(List (Int×Str))) (a2:Bool):Option (Bool×(List Int)×(List zm)×(List (Int×Str))×Bool) :=
 (zbV a0 a1 a2).bind fun r12 =>
 cond r12.2.1
 ((gx r12.2.2.1 r12.1).bind fun e13 =>
  cond (e13.2.1 == 0)
  ((ze0 r12.1 r12.2.2.1 r12.2.2.2.1 r12.2.2.2.2).bind fun r14 =>
   cond r14.2.2.2.2
   (some (r14.1,r14.2.1,r14.2.2.1,r14.2.2.2.1,true))
   (some (r14.1,r14.2.1,r14.2.2.1,r14.2.2.2.1,(decide (((List.length r14.2.1:Nat):Int) > 49)))))
  ((zas r12.2.2.1 a1 r12.2.2.2.2).bind fun r15 =>
   cond (!r15.1)
   (some (false,([]:(List Int)),r15.2.2.1,r15.2.2.2.1,r15.2.2.2.2))
   ((zY ([61]:Str) r15.2.2.1 r15.2.2.2.1 r15.2.2.2.2).bind fun r16 =>
    cond (!r16.1)
    (some (false,([]:(List Int)),r16.2.1,r16.2.2.1,r16.2.2.2))
    ((zas r16.2.1 r16.2.2.1 r16.2.2.2).bind fun r17 =>
     (zgn ([([0]:List Int),r15.2.1,r17.2.1]:List (List Int))).bind fun r18 =>
     cond r17.2.2.2.2
     (some (r17.1,r18,r17.2.2.1,r17.2.2.2.1,true))
     (some (r17.1,r18,r17.2.2.1,r17.2.2.2.1,(decide (((List.length r18:Nat):Int) > 49))))))))
 ((zas r12.2.2.1 a1 r12.2.2.2.2).bind fun r19 =>
  cond (!r19.1)
  (some (false,([]:(List Int)),r19.2.2.1,r19.2.2.2.1,r19.2.2.2.2))
  ((zY ([61]:Str) r19.2.2.1 r19.2.2.2.1 r19.2.2.2.2).bind fun r20 =>
   cond (!r20.1)
   (some (false,([]:(List Int)),r20.2.1,r20.2.2.1,r20.2.2.2))
   ((zas r20.2.1 r20.2.2.1 r20.2.2.2).bind fun r21 =>
    (zgn ([([0]:List Int),r19.2.1,r21.2.1]:List (List Int))).bind fun r22 =>
    cond r21.2.2.2.2
    (some (r21.1,r22,r21.2.2.1,r21.2.2.2.1,true))
    (some (r21.1,r22,r21.2.2.1,r21.2.2.2.1,(decide (((List.length r22:Nat):Int) > 49)))))))
def zdU (rec:((List Str)×Int×Int×(List zm)×(List (Int×Str))×Bool)→Option (((List zm)×(List (Int×Str))×Bool)⊕(Int×Bool×(List zm)×(List (Int×Str))×Bool))) (x:((List Str)×Int×Int×(List zm)×(List (Int×Str))×Bool)):Option (((List zm)×(List (Int×Str))×Bool)⊕(Int×Bool×(List zm)×(List (Int×Str))×Bool)) :=
 cond (decide (x.2.2.1 < x.2.1))
 ((gx x.1 x.2.2.1).bind fun e5 =>
  (zY e5 x.2.2.2.1 x.2.2.2.2.1 x.2.2.2.2.2).bind fun r6 =>
  cond r6.1
  (some (Sum.inr ((IntKind.wrap .i64 (2+x.2.2.1)),true,r6.2.1,r6.2.2.1,r6.2.2.2)))
  (rec (x.1,x.2.1,(IntKind.wrap .i64 (x.2.2.1+1)),r6.2.1,r6.2.2.1,r6.2.2.2)))
 (some (Sum.inl (x.2.2.2.1,x.2.2.2.2.1,x.2.2.2.2.2)))
def zff (a0:(List zm)) (a1:(List (Int×Str))) (a2:Bool):Option (Int×Bool×(List zm)×(List (Int×Str))×Bool) :=
 ((lp zdU zr) (([([38]:Str),([124]:Str),([45,62]:Str)]:List Str),((List.length ([([38]:Str),([124]:Str),([45,62]:Str)]:List Str):Nat):Int),0,a0,a1,a2)).bind fun r10 =>
 qH r10
 (fun z11=>some (0,false,z11.1,z11.2.1,z11.2.2))
 (fun z12=>some (z12.1,z12.2.1,z12.2.2.1,z12.2.2.2.1,z12.2.2.2.2))
def zbg (rec:(((List zm)×(List (Int×Str))×Bool×(List (Int×Int×(List Int)))×(List (Int×Bool)))⊕((List zm)×(List (Int×Str))×Bool×(List (Int×Int×(List Int)))×(List (Int×Bool))))→Option (Bool×(List zm)×(List (Int×Str))×Bool×(List (Int×Int×(List Int))))) (y:(((List zm)×(List (Int×Str))×Bool×(List (Int×Int×(List Int)))×(List (Int×Bool)))⊕((List zm)×(List (Int×Str))×Bool×(List (Int×Int×(List Int)))×(List (Int×Bool))))):Option (Bool×(List zm)×(List (Int×Str))×Bool×(List (Int×Int×(List Int)))) :=
 qH y
 (fun x=>(zY ([126]:Str) x.1 x.2.1 x.2.2.1).bind fun r26 =>
  cond r26.1
  (cond (qt (List.length x.2.2.2.1+List.length ([(1,0,([]:(List Int)))]:List (Int×Int×(List Int)))) 40)
   (rec (Sum.inl (r26.2.1,r26.2.2.1,r26.2.2.2,(x.2.2.2.1++([(1,0,([]:(List Int)))]:List (Int×Int×(List Int)))),x.2.2.2.2)))
   (none))
  ((zeR r26.2.1 r26.2.2.1 r26.2.2.2).bind fun r27 =>
   cond r27.2.2.1
   (cond (qt (List.length x.2.2.2.1+List.length ([(r27.1,r27.2.1,([]:(List Int)))]:List (Int×Int×(List Int)))) 40)
    (rec (Sum.inl (r27.2.2.2.1,r27.2.2.2.2.1,r27.2.2.2.2.2,(x.2.2.2.1++([(r27.1,r27.2.1,([]:(List Int)))]:List (Int×Int×(List Int)))),x.2.2.2.2)))
    (none))
   ((zY ([40]:Str) r27.2.2.2.1 r27.2.2.2.2.1 r27.2.2.2.2.2).bind fun r28 =>
    cond r28.1
    (cond (qt (List.length x.2.2.2.2+List.length ([(((List.length x.2.2.2.1:Nat):Int),false)]:List (Int×Bool))) 16)
     (cond (qt (List.length x.2.2.2.1+List.length ([(0,0,([]:(List Int)))]:List (Int×Int×(List Int)))) 40)
      (rec (Sum.inl (r28.2.1,r28.2.2.1,r28.2.2.2,(x.2.2.2.1++([(0,0,([]:(List Int)))]:List (Int×Int×(List Int)))),(x.2.2.2.2++([(((List.length x.2.2.2.1:Nat):Int),false)]:List (Int×Bool))))))
      (none))
     (none))
    ((zfK r28.2.1 r28.2.2.1 r28.2.2.2).bind fun r29 =>
     cond r29.1
     (cond (qt (List.length x.2.2.2.1+List.length ([(0,0,r29.2.1)]:List (Int×Int×(List Int)))) 40)
      (rec (Sum.inr (r29.2.2.1,r29.2.2.2.1,r29.2.2.2.2,(x.2.2.2.1++([(0,0,r29.2.1)]:List (Int×Int×(List Int)))),x.2.2.2.2)))
      (none))
     (some (false,r29.2.2.1,r29.2.2.2.1,r29.2.2.2.2,([]:(List (Int×Int×(List Int))))))))))
 (fun x=>cond (((List.length x.2.2.2.2:Nat):Int) == 0)
  (some (true,x.1,x.2.1,x.2.2.1,x.2.2.2.1))
  ((inR (IntKind.wrap .i64 (((List.length x.2.2.2.2:Nat):Int) - 1)) (List.length x.2.2.2.2)).bind fun k30 =>
   (zff x.1 x.2.1 x.2.2.1).bind fun r31 =>
   cond r31.2.1
   ((x.2.2.2.2[k30]?).bind fun x32 =>
    cond (!x32.2)
    ((x.2.2.2.2[k30]?).bind fun x33 =>
     (inR x33.1 (List.length x.2.2.2.1)).bind fun k34 =>
     (x.2.2.2.1[k34]?).bind fun x35 =>
     (x.2.2.2.2[k30]?).bind fun x36 =>
     rec (Sum.inl (r31.2.2.1,r31.2.2.2.1,r31.2.2.2.2,(List.set x.2.2.2.1 k34 (r31.1,x35.2)),(List.set x.2.2.2.2 k30 (x36.1,true)))))
    (cond r31.2.1
     (some (false,r31.2.2.1,r31.2.2.2.1,r31.2.2.2.2,([]:(List (Int×Int×(List Int))))))
     ((x.2.2.2.2[k30]?).bind fun x37 =>
      cond (!x37.2)
      (some (false,r31.2.2.1,r31.2.2.2.1,r31.2.2.2.2,([]:(List (Int×Int×(List Int))))))
      ((zY ([41]:Str) r31.2.2.1 r31.2.2.2.1 r31.2.2.2.2).bind fun r38 =>
       cond (!r38.1)
       (some (false,r38.2.1,r38.2.2.1,r38.2.2.2,([]:(List (Int×Int×(List Int))))))
       ((zbS x.2.2.2.2 none (some (IntKind.wrap .i64 (((List.length x.2.2.2.2:Nat):Int) - 1)))).bind fun y39 =>
        rec (Sum.inr (r38.2.1,r38.2.2.1,r38.2.2.2,x.2.2.2.1,y39)))))))
   (cond r31.2.1
    (some (false,r31.2.2.1,r31.2.2.2.1,r31.2.2.2.2,([]:(List (Int×Int×(List Int))))))
    ((x.2.2.2.2[k30]?).bind fun x40 =>
     cond (!x40.2)
     (some (false,r31.2.2.1,r31.2.2.2.1,r31.2.2.2.2,([]:(List (Int×Int×(List Int))))))
     ((zY ([41]:Str) r31.2.2.1 r31.2.2.2.1 r31.2.2.2.2).bind fun r41 =>
      cond (!r41.1)
      (some (false,r41.2.1,r41.2.2.1,r41.2.2.2,([]:(List (Int×Int×(List Int))))))
      ((zbS x.2.2.2.2 none (some (IntKind.wrap .i64 (((List.length x.2.2.2.2:Nat):Int) - 1)))).bind fun y42 =>
       rec (Sum.inr (r41.2.1,r41.2.2.1,r41.2.2.2,x.2.2.2.1,y42))))))))
end Go.Abs.Q
namespace Go.Abs.Q
open Go Go.Abs
end Go.Abs.Q
namespace Go.Abs.Q
open Go Go.Abs
section
end
end Go.Abs.Q
namespace Go.Abs.Q
open Go Go.Abs
end Go.Abs.Q
namespace Go.Abs.Q
open Go Go.Abs
end Go.Abs.Q
namespace Go.Abs.Q
open Go Go.Abs
section
abbrev zFu:=Int×Int×List Int
inductive Fm where
 | atom (a:List Int)
 | not (f:Fm)
 | qu (k v:Int) (f:Fm)
 | bin (k:Int) (f g:Fm)
def Fm.flat:Fm→List zFu
 | .atom a=>[(0,0,a)]
 | .not f=>(1,0,[]) :: f.flat
 | .qu k v f=>(k,v,[]) :: f.flat
 | .bin k f g=>(k,0,[]) :: (f.flat++g.flat)
def Fm.ok (a0:List zm):Fm→Bool
 | .atom a=>zfg a0 a
 | .not f=>f.ok a0
 | .qu k v f=>(k == 5||k == 6)&&decide (0≤v)&&decide (v≤23)&&f.ok a0
 | .bin k f g=>(k == 2||k == 3||k == 4)&&f.ok a0&&g.ok a0
def zLf (k:Int):Str:=cond (k == 5) [97,108,108] [101,120]
end
end Go.Abs.Q
namespace Go.Abs.Q
open Go Go.Abs
section
end
end Go.Abs.Q
namespace Go.Abs.Q
open Go Go.Abs
section
end
end Go.Abs.Q
namespace Go.Abs.Q
open Go Go.Abs
section
end
end Go.Abs.Q
namespace Go.Abs.Q
open Go Go.Abs
section
abbrev zdB:=Int×Str
def zLR (c:UInt8):Bool:=zhT ((UInt8.toNat c:Nat):Int)
def zJn (c:UInt8):Bool:=decide (((UInt8.toNat c:Nat):Int) ≥ 48)&&decide (((UInt8.toNat c:Nat):Int)≤57)
def zr1 (b:Bool) (c:UInt8):Bool:=zJn c||(b&&zLR c)
def zLz (d:Str) (most:Nat):Bool:=match d with
 | []=>false
 | c :: r=>decide ((c :: r).length≤most)&&(c != 48||(c :: r).length == 1)
def zLG (d:Str):Nat:=d.foldl (fun n c=>10 * n+(c.toNat - 48)) 0
def zJH (c:UInt8):Bool:=decide (c∈([40,41,44,61,126,38,124,58]:Str))
def zJ3 (s:Str):Option (zdB×Str):=match s with
 | []=>none
 | c :: r =>
  cond (zLR c) (cond (decide (((c :: r).takeWhile (zr1 true)).length≤8)) (some ((0,(c :: r).takeWhile (zr1 true)),(c :: r).drop ((c :: r).takeWhile (zr1 true)).length)) none)
  (cond (c == 88) (cond (zLz (r.takeWhile (zr1 false)) 2&&decide (zLG (r.takeWhile (zr1 false))≤23)) (some ((1,c :: r.takeWhile (zr1 false)),r.drop (r.takeWhile (zr1 false)).length)) none)
  (cond (zJn c) (cond (zLz ((c :: r).takeWhile (zr1 false)) 4) (some ((2,(c :: r).takeWhile (zr1 false)),(c :: r).drop ((c :: r).takeWhile (zr1 false)).length)) none)
  (cond ((c :: r).take 2 == [45,62]) (some ((3,[45,62]),r.drop 1))
  (cond (zJH c) (some ((3,[c]),r)) none))))
def zLP:Nat→Str→Option (List zdB)
 | 0,_=>some []
 | n+1,s=>match s.dropWhile (· == 32) with
  | []=>some []
  | c :: r=>match zJ3 (c :: r) with
   | none=>none
   | some (w,rest)=>(zLP n rest).map (w :: ·)
def zJe (s:Str):Option (List zdB):=zLP s.length s
end
end Go.Abs.Q
namespace Go.Abs.Q
open Go Go.Abs
section
end
end Go.Abs.Q
namespace Go.Abs.Q
open Go Go.Abs
section
end
end Go.Abs.Q
namespace Go.Abs.Q
open Go Go.Abs
section
def Stop (c:Str):Prop:=c.takeWhile (zr1 true)=[]
theorem zwf {x:UInt8} {c:Str} (h:zr1 true x=false):Stop (x :: c):=by unfold Stop; rw[List.takeWhile_cons,h]; rfl
def Lx (t:Str) (ws:List zdB):Prop:=∀ c,Stop c→zJe (t++c)=(zJe c).map (ws ++ ·)
theorem zri {ws vs:List zdB} (o:Option (List zdB)):(o.map (vs ++ ·)).map (ws ++ ·)=o.map ((ws++vs) ++ ·):=by
 cases o with
 | none=>rfl
 | some x=>simp
def LxM (t:Str) (ws:List zdB):Prop:=∀ c,zJe (t++c)=(zJe c).map (ws ++ ·)
theorem LxM.then {s t:Str} {ws vs:List zdB} (hs:LxM s ws) (ht:Lx t vs):Lx (s++t) (ws++vs):=by
 intro c hc
 rw[List.append_assoc,hs,ht c hc,zri]
theorem Lx.then {s t:Str} {ws vs:List zdB} {x:UInt8} (hs:Lx s ws) (ht:LxM (x :: t) vs) (hx:zr1 true x=false):LxM (s++x :: t) (ws++vs):=by
 intro c
 rw[List.append_assoc,hs (x :: t++c) (zwf hx),ht,zri]
def zHy (a0:List zm) (f:List Int→List zdB):List Int→List zdB
 | []=>[]
 | x :: r=>cond (decide (x < 0)) [(1,88 :: zLD (-1 - x).toNat)] (cond r.isEmpty [(0,zrB a0 x)] ((([(0,zrB a0 x)]++[(3,[40])])++f r)++[(3,[41])]))
def zIS:List (List zdB)→List zdB
 | []=>[]
 | w :: ws=>[(3,[44])]++(w++zIS ws)
def zK5:List (List zdB)→List zdB
 | []=>[]
 | w :: ws=>w++zIS ws
def zBK (a0:List zm):Nat→List Int→List zdB
 | 0,_=>[]
 | n+1,xs=>zK5 (((ziJ a0 xs).getD []).map (zHy a0 (zBK a0 n)))
def zqx (a0:List zm) (xs:List Int):List zdB:=zBK a0 (xs.length+1) xs
def zLk (a0:List zm):List Int→List zdB
 | []=>[]
 | x :: r=>cond (x == 0) (match (ziJ a0 r).getD [] with
  | [p,q]=>(zqx a0 p++[(3,[61])])++zqx a0 q
  | _=>[]) (cond r.isEmpty [(0,zrB a0 x)] ((([(0,zrB a0 x)]++[(3,[40])])++zqx a0 r)++[(3,[41])]))
def zKf (k:Int):Str:=cond (k == 2) [38] (cond (k == 3) [124] [45,62])
def Fm.words (a0:List zm):Fm→List zdB
 | .atom a=>zLk a0 a
 | .not f=>[(3,[126])]++f.words a0
 | .qu k v f=>([(0,zLf k)]++[(1,88 :: zLD v.toNat)])++f.words a0
 | .bin k f g=>((([(3,[40])]++f.words a0)++[(3,zKf k)])++g.words a0)++[(3,[41])]
end
end Go.Abs.Q
namespace Go.Abs.Q
open Go Go.Abs
section
abbrev QWs:=List zdB
def WOk (ws:QWs):Prop:=∀ w∈ws,w.1=1→∃ d,w.2=88 :: d∧(∀ c∈d,zJn c=true)∧d.length≤2∧zLG d≤23
theorem WOk.tail {w:zdB} {ws:QWs} (h:WOk (w :: ws)):WOk ws:=fun x hx=>h x (List.mem_cons_of_mem _ hx)
def Suf (ws' ws:QWs):Prop:=∃ pre,ws=pre++ws'
theorem Suf.refl (ws:QWs):Suf ws ws:=⟨[],rfl⟩
theorem Suf.trans {a b c:QWs} (h:Suf a b) (h':Suf b c):Suf a c:=by
 obtain⟨p,rfl⟩:=h
 obtain⟨q,rfl⟩:=h'
 exact ⟨q++p,by simp⟩
theorem Suf.cons {w:zdB} {a b:QWs} (h:Suf a b):Suf a (w :: b):=by
 obtain⟨p,rfl⟩:=h
 exact ⟨w :: p,rfl⟩
theorem Suf.len {a b:QWs} (h:Suf a b):a.length≤b.length:=by
 obtain⟨p,rfl⟩:=h
 simp
end
end Go.Abs.Q
namespace Go.Abs.Q
open Go Go.Abs
section
abbrev RdR:=Bool×List Int×List zm×QWs×Bool
def TR (a0:List zm) (l:Bool) (o:Option (List Int×QWs)) (r:RdR):Prop:=match o with
 | some p=>r=(true,p.1,a0,p.2,l)
 | none=>r.1=false∧r.2.2.1=a0∧r.2.2.2.2=l∧r.2.1.length≤1000000
theorem TR.some {a0:List zm} {l:Bool} {t:List Int} {ws:QWs}:TR a0 l (Option.some (t,ws)) (true,t,a0,ws,l):=rfl
end
end Go.Abs.Q
namespace Go.Abs.Q
open Go Go.Abs
section
end
end Go.Abs.Q
namespace Go.Abs.Q
open Go Go.Abs
section
end
end Go.Abs.Q
namespace Go.Abs.Q
open Go Go.Abs
section
abbrev FmS:=(List zm×QWs×Bool×List zFu×List (Int×Bool))⊕(List zm×QWs×Bool×List zFu×List (Int×Bool))
def Goes (c:Nat) (s s':FmS):Prop:=∀ k,lp zbg (k+c) s=lp zbg k s'
theorem Goes.trans {c d:Nat} {s s' s'':FmS} (h:Goes c s s') (h':Goes d s' s''):Goes (d+c) s s'':=fun k=>by
 rw[← Nat.add_assoc,h (k+d),h' k]
end
end Go.Abs.Q
namespace Go.Abs.Q
open Go Go.Abs
section
end
end Go.Abs.Q
namespace Go.Abs.Q
open Go Go.Abs
section
end
end Go.Abs.Q
namespace Go.Abs.Q
open Go Go.Abs
section
end
end Go.Abs.Q
namespace Go.Abs.Q
open Go Go.Abs
section
end
end Go.Abs.Q
namespace Go.Abs.Q
open Go Go.Abs
section
theorem zCu {a0:List zm}:{xs:List Int}→{n m:Nat}→{ys:List Int}→sk a0 n xs=some xs.length→sk a0 m ys=some ys.length→sk a0 (n+m) (xs++ys)=some (xs++ys).length
 | [],0,m,ys,_,h=>by rw[Nat.zero_add]; exact h
 | [],n+1,m,ys,h,_=>by simp [sk] at h
 | x :: xs,0,m,ys,h,_=>by simp [sk] at h
 | x :: xs,n+1,m,ys,h,h'=>by
  unfold sk at h
  cases ha:zbZ a0 x with
  | none=>rw[ha] at h; cases h
  | some k =>
   rw[ha] at h
   simp only[Option.map_eq_some_iff,List.length_cons] at h
   obtain⟨j,hj,hjl⟩:=h
   have hj2:j=xs.length:=by omega
   subst hj2
   have ih:=zCu hj h'
   rw[show n+1+m=(n+m)+1 from by omega,List.cons_append]
   unfold sk
   rw[ha]
   simp only
   rw[show n+m+k=n+k+m from by omega,ih]
   rfl
end
end Go.Abs.Q
namespace Go.Abs.Q
open Go Go.Abs
section
theorem zvK {a0:List zm} {x:Int} {q:Nat} (h:zbZ a0 x=some q):x < 0∨x < a0.length:=by
 by_cases hx:x < 0
 ·exact .inl hx
 ·obtain⟨e,-,he,-⟩:=zoS h hx
  have:=(List.getElem?_eq_some_iff.1 he).1
  exact .inr (by omega)
theorem zkz {a0:List zm}:{xs:List Int}→{n k:Nat}→sk a0 n xs=some k→∀ c∈xs.take k,c < 0∨c < a0.length
 | [],n,k,h,c,hc=>by simp at hc
 | x :: xs,0,k,h,c,hc=>by
  simp [sk] at h; subst h; simp at hc
 | x :: xs,n+1,k,h,c,hc=>by
  unfold sk at h
  cases ha:zbZ a0 x with
  | none=>rw[ha] at h; cases h
  | some m =>
   rw[ha] at h
   simp only[Option.map_eq_some_iff] at h
   obtain⟨j,hj,rfl⟩:=h
   rw[List.take_succ_cons] at hc
   rcases List.mem_cons.1 hc with rfl | hc
   ·exact zvK ha
   ·exact zkz hj c hc
theorem zo7 {a0:List zm} (hs:SignOk a0) {xs:List Int} {ps:List (List Int)} (h:ziJ a0 xs=some ps):∀ c∈xs,-24≤c∧c < 20:=by
 obtain⟨h1,h2⟩:=zfz xs.length xs ps (Nat.le_refl _) h
 have hl:=hs.len
 intro c hc
 refine ⟨zi1 h c hc,?_⟩
 rw[← h1] at hc
 obtain⟨p,hp,hcp⟩:=List.mem_flatten.1 hc
 have:=zkz (h2 p hp).2 c
 rw[List.take_length] at this
 rcases this hcp with h | h <;> omega
theorem zrY {a0:List zm} (hs:SignOk a0) {xs:List Int} (h:zfg a0 xs=true):zeK xs:=by
 obtain⟨x,r,e,ps,rfl,h0,he,-,-,-,hl,hc,-⟩:=zgC h
 have:=(List.getElem?_eq_some_iff.1 he).1
 have hl2:=hs.len
 refine ⟨by simp; omega,fun c hcm => ?_⟩
 rcases List.mem_cons.1 hcm with rfl | hcm
 ·omega
 ·have:=zo7 hs hc c hcm; omega
theorem zlI {a0:List zm} (hs:SignOk a0) {ls:List zd} (h:zcL a0 ls=true):∀ l∈ls,zeK l.2:=fun l hl=>zrY hs (List.all_eq_true.1 h l hl)
theorem zsD {a0:List zm} (hs:SignOk a0) {rs:List (List Int)} (h:zgP a0 rs=true):∀ r∈rs,zeK r:=fun r hr=>by
 obtain⟨n,hn⟩:=zpr h
 obtain⟨ps,hc,-,hl,-⟩:=zpa (hn r hr)
 exact ⟨by omega,fun c hcm=>by have:=zo7 hs hc c hcm; omega⟩
end
end Go.Abs.Q
namespace Go.Abs.Q
open Go Go.Abs
end Go.Abs.Q
namespace Go.Abs.Q
open Go Go.Abs
end Go.Abs.Q
namespace Go.Abs.Q
open Go Go.Abs
section
inductive Tm where
 | v (n:Nat)
 | f (c:Nat) (as:List Tm)
mutual
def Tm.codes:Tm→List Int
 | .v n=>[-1 - (n:Int)]
 | .f c as=>(c:Int) :: zK as
def zK:List Tm→List Int
 | []=>[]
 | t :: ts=>t.codes++zK ts
end
mutual
def Tm.size:Tm→Nat
 | .v _=>1
 | .f _ as=>za3 as+1
def za3:List Tm→Nat
 | []=>0
 | t :: ts=>t.size+za3 ts
end
abbrev Sb:=Nat→Tm
mutual
def Tm.sub (s:Sb):Tm→Tm
 | .v n=>s n
 | .f c as=>.f c (zbI s as)
def zbI (s:Sb):List Tm→List Tm
 | []=>[]
 | t :: ts=>t.sub s :: zbI s ts
end
mutual
def Tm.has (x:Nat):Tm→Prop
 | .v n=>n=x
 | .f _ as=>zmF x as
def zmF (x:Nat):List Tm→Prop
 | []=>False
 | t :: ts=>t.has x∨zmF x ts
end
mutual
def Tm.ok (a0:List zm) (N:Nat):Tm→Prop
 | .v n=>n < N
 | .f c as=>zbZ a0 (c:Int)=some as.length∧okR a0 N as
def okR (a0:List zm) (N:Nat):List Tm→Prop
 | []=>True
 | t :: ts=>t.ok a0 N∧okR a0 N ts
end
theorem zke (s:Sb):(ts:List Tm)→(zbI s ts).length=ts.length
 | []=>rfl
 | t :: ts=>by simp [zbI,zke s ts]
theorem zdW {a0:List zm} {N:Nat}:{ts:List Tm}→(okR a0 N ts ↔ ∀ t∈ts,t.ok a0 N)
 | []=>by simp [okR]
 | t :: ts=>by simp [okR,zdW (ts:=ts)]
theorem zkZ (s:Sb):(ts:List Tm)→zbI s ts=ts.map (Tm.sub s)
 | []=>rfl
 | t :: ts=>by simp [zbI,zkZ s ts]
theorem zhZ:(ts:List Tm)→zK ts=ts.flatMap Tm.codes
 | []=>rfl
 | t :: ts=>by simp [zK,zhZ ts]
theorem znE:(ts:List Tm)→za3 ts=(ts.map Tm.size).sum
 | []=>rfl
 | t :: ts=>by simp [za3,znE ts]
theorem zi2 (ts us:List Tm):zK (ts++us)=zK ts++zK us:=by simp [zhZ]
theorem zsR (ts us:List Tm):za3 (ts++us)=za3 ts+za3 us:=by simp [znE]
mutual
theorem Tm.codes_len:(t:Tm)→t.codes.length=t.size
 | .v _=>rfl
 | .f c as=>by simp [Tm.codes,Tm.size,zbK as]
theorem zbK:(ts:List Tm)→(zK ts).length=za3 ts
 | []=>rfl
 | t :: ts=>by simp [zK,za3,Tm.codes_len t,zbK ts]
end
theorem Tm.size_pos (t:Tm):0 < t.size:=by cases t <;> simp [Tm.size]
mutual
theorem Tm.sub_ext {s u:Sb}:(t:Tm)→(∀ x,t.has x→s x=u x)→t.sub s=t.sub u
 | .v n,h=>h n rfl
 | .f c as,h=>by rw[Tm.sub,Tm.sub,zq7 as h]
theorem zq7 {s u:Sb}:(ts:List Tm)→(∀ x,zmF x ts→s x=u x)→zbI s ts=zbI u ts
 | [],_=>rfl
 | t :: ts,h=>by rw[zbI,zbI,Tm.sub_ext t fun x hx=>h x (.inl hx),zq7 ts fun x hx=>h x (.inr hx)]
end
mutual
theorem Tm.sub_sub (s u:Sb):(t:Tm)→(t.sub s).sub u=t.sub fun x=>(s x).sub u
 | .v n=>rfl
 | .f c as=>by rw[Tm.sub,Tm.sub,Tm.sub,zoT s u as]
theorem zoT (s u:Sb):(ts:List Tm)→zbI u (zbI s ts)=zbI (fun x=>(s x).sub u) ts
 | []=>rfl
 | t :: ts=>by rw[zbI,zbI,zbI,Tm.sub_sub s u t,zoT s u ts]
end
mutual
theorem Tm.sub_v:(t:Tm)→t.sub .v=t
 | .v n=>rfl
 | .f c as=>by rw[Tm.sub,zCq as]
theorem zCq:(ts:List Tm)→zbI .v ts=ts
 | []=>rfl
 | t :: ts=>by rw[zbI,Tm.sub_v t,zCq ts]
end
mutual
theorem Tm.has_sub {s:Sb} {y:Nat}:(t:Tm)→((t.sub s).has y ↔ ∃ x,t.has x∧(s x).has y)
 | .v n=>⟨fun h=>⟨n,rfl,h⟩,fun ⟨x,hx,h⟩=>by cases hx; exact h⟩
 | .f c as=>by show zmF y (zbI s as) ↔ _; rw[zq5 as]; rfl
theorem zq5 {s:Sb} {y:Nat}:(ts:List Tm)→(zmF y (zbI s ts) ↔ ∃ x,zmF x ts∧(s x).has y)
 | []=>⟨fun h=>h.elim,fun ⟨_,h,_⟩=>h.elim⟩
 | t :: ts=>by
  show (t.sub s).has y∨zmF y (zbI s ts) ↔ ∃ x,(t.has x∨zmF x ts)∧_
  rw[Tm.has_sub t,zq5 ts]
  constructor
  ·rintro (⟨x,h1,h2⟩ | ⟨x,h1,h2⟩)
   ·exact ⟨x,.inl h1,h2⟩
   ·exact ⟨x,.inr h1,h2⟩
  ·rintro⟨x,h1 | h1,h2⟩
   ·exact .inl ⟨x,h1,h2⟩
   ·exact .inr ⟨x,h1,h2⟩
end
mutual
theorem Tm.size_has {s:Sb} {x:Nat}:(t:Tm)→t.has x→(s x).size≤(t.sub s).size
 | .v n,h=>by cases h; exact Nat.le_refl _
 | .f c as,h=>by have:=zem (s:=s) as h; show _≤za3 (zbI s as)+1; omega
theorem zem {s:Sb} {x:Nat}:(ts:List Tm)→zmF x ts→(s x).size≤za3 (zbI s ts)
 | [],h=>h.elim
 | t :: ts,h=>by
  show _≤(t.sub s).size+za3 (zbI s ts)
  rcases h with h | h
  ·have:=Tm.size_has (s:=s) t h; omega
  ·have:=zem (s:=s) ts h; omega
end
mutual
theorem Tm.size_sub {s:Sb} {M:Nat}:(t:Tm)→(1≤M)→(∀ x,t.has x→(s x).size≤M)→(t.sub s).size≤t.size * M
 | .v n,_,h=>by have:=h n rfl; simpa[Tm.sub,Tm.size] using this
 | .f c as,hM,h=>by
  have:=zps (s:=s) as hM h
  show za3 (zbI s as)+1≤(za3 as+1) * M
  rw[Nat.add_mul]; omega
theorem zps {s:Sb} {M:Nat}:(ts:List Tm)→(1≤M)→(∀ x,zmF x ts→(s x).size≤M)→za3 (zbI s ts)≤za3 ts * M
 | [],_,_=>by simp [zbI,za3]
 | t :: ts,hM,h=>by
  have h1:=Tm.size_sub (s:=s) t hM fun x hx=>h x (.inl hx)
  have h2:=zps (s:=s) ts hM fun x hx=>h x (.inr hx)
  show (t.sub s).size+za3 (zbI s ts)≤(t.size+za3 ts) * M
  rw[Nat.add_mul]; omega
end
mutual
theorem Tm.ok_sub {a0:List zm} {N M:Nat} {s:Sb}:(t:Tm)→t.ok a0 N→(∀ x,t.has x→(s x).ok a0 M)→(t.sub s).ok a0 M
 | .v n,_,h=>h n rfl
 | .f c as,ho,h=>⟨by rw[zke]; exact ho.1,zuf as ho.2 h⟩
theorem zuf {a0:List zm} {N M:Nat} {s:Sb}:(ts:List Tm)→okR a0 N ts→(∀ x,zmF x ts→(s x).ok a0 M)→okR a0 M (zbI s ts)
 | [],_,_=>trivial
 | t :: ts,ho,h=>⟨Tm.ok_sub t ho.1 fun x hx=>h x (.inl hx),zuf ts ho.2 fun x hx=>h x (.inr hx)⟩
end
mutual
theorem Tm.ok_has {a0:List zm} {N x:Nat}:(t:Tm)→t.ok a0 N→t.has x→x < N
 | .v n,ho,h=>by cases h; exact ho
 | .f c as,ho,h=>ztT as ho.2 h
theorem ztT {a0:List zm} {N x:Nat}:(ts:List Tm)→okR a0 N ts→zmF x ts→x < N
 | [],_,h=>h.elim
 | t :: ts,ho,h=>h.elim (Tm.ok_has t ho.1) (ztT ts ho.2)
end
mutual
theorem Tm.ok_mono {a0:List zm} {N M:Nat} (hNM:N≤M):(t:Tm)→t.ok a0 N→t.ok a0 M
 | .v n,ho=>Nat.lt_of_lt_of_le ho hNM
 | .f c as,ho=>⟨ho.1,zqS hNM as ho.2⟩
theorem zqS {a0:List zm} {N M:Nat} (hNM:N≤M):(ts:List Tm)→okR a0 N ts→okR a0 M ts
 | [],_=>trivial
 | t :: ts,ho=>⟨Tm.ok_mono hNM t ho.1,zqS hNM ts ho.2⟩
end
mutual
theorem Tm.mem_codes {c:Int} (hc:c < 0):(t:Tm)→(c∈t.codes ↔ t.has (-1 - c).toNat)
 | .v n=>by
  show c∈[-1 - (n:Int)] ↔ n=_
  rw[List.mem_singleton]
  omega
 | .f d as=>by
  show c∈(d:Int) :: zK as ↔ zmF _ as
  rw[List.mem_cons,← zgt hc as]
  have:c ≠ (d:Int):=by omega
  simp [this]
theorem zgt {c:Int} (hc:c < 0):(ts:List Tm)→(c∈zK ts ↔ zmF (-1 - c).toNat ts)
 | []=>by simp [zK,zmF]
 | t :: ts=>by
  show c∈t.codes++zK ts ↔ _∨_
  rw[List.mem_append,Tm.mem_codes hc t,zgt hc ts]
end
theorem zsy {a0:List zm} {x:Int} {q:Nat} (h:zbZ a0 x=some q):(x < 0 ∧ -24≤x∧q=0)∨∃ c:Nat,x=(c:Int):=by
 unfold zbZ at h
 by_cases h0:x < 0
 ·rw[decide_eq_true h0,cond_true] at h
  by_cases h1 : -24≤x
  ·rw[decide_eq_true h1] at h; injection h with h; exact .inl ⟨h0,h1,h.symm⟩
  ·rw[decide_eq_false h1] at h; cases h
 ·exact .inr ⟨x.toNat,by omega⟩
theorem zxZ {a0:List zm}:∀ (n:Nat) (ps:List (List Int)),(∀ p∈ps,p.length≤n)→(∀ p∈ps,sk a0 1 p=some p.length)→∃ ts:List Tm,okR a0 24 ts∧ps=ts.map Tm.codes:=by
 intro n
 induction n with
 | zero =>
  intro ps h hs
  cases ps with
  | nil=>exact ⟨[],trivial,rfl⟩
  | cons p ps =>
   have h1:=h p (List.mem_cons_self ..)
   have h2:=zkD (hs p (List.mem_cons_self ..))
   omega
 | succ n ih =>
  intro ps
  induction ps with
  | nil=>intro _ _; exact ⟨[],trivial,rfl⟩
  | cons p ps ihp =>
   intro h hs
   obtain⟨ts,h1,h2⟩:=ihp (fun q hq=>h q (List.mem_cons_of_mem _ hq)) (fun q hq=>hs q (List.mem_cons_of_mem _ hq))
   obtain⟨x,r,q,rfl,ha,hr⟩:=zp2 (hs p (List.mem_cons_self ..))
   have hl:=h _ (List.mem_cons_self ..)
   rw[List.length_cons] at hl
   rcases zsy ha with ⟨h3,h4,rfl⟩ | ⟨c,rfl⟩
   ·have hr0:r=[]:=by
     have:sk a0 0 r=some 0:=by cases r <;> rfl
     rw[this] at hr
     exact List.length_eq_zero_iff.1 (by injection hr with hr; omega)
    subst hr0
    refine ⟨.v (-1 - x).toNat :: ts,⟨by show (-1 - x).toNat < 24; omega,h1⟩,?_⟩
    rw[List.map_cons,← h2]
    show [x] :: ps=[-1 - (((-1 - x).toNat:Nat):Int)] :: ps
    rw[show -1 - (((-1 - x).toNat:Nat):Int)=x from by omega]
   ·obtain⟨qs,hq,hql⟩:=zD5 q r hr
    obtain⟨hf,hqs⟩:=zfz r.length r qs (Nat.le_refl _) hq
    have hlen:∀ p∈qs,p.length≤n:=fun p hp=>by
     have h5:p.length≤qs.flatten.length:=by
      obtain⟨l1,l2,rfl⟩:=List.append_of_mem hp
      simp; omega
     rw[hf] at h5
     omega
    obtain⟨us,h5,h6⟩:=ih qs hlen fun p hp=>(hqs p hp).2
    refine ⟨.f c us :: ts,⟨⟨by rw[ha,← hql,h6,List.length_map],h5⟩,h1⟩,?_⟩
    rw[List.map_cons,← h2]
    show ((c:Int) :: r) :: ps=((c:Int) :: zK us) :: ps
    rw[zhZ,List.flatMap,← h6,hf]
theorem zIN {a0:List zm} {xs:List Int} {ps:List (List Int)} (h:ziJ a0 xs=some ps):∃ ts:List Tm,okR a0 24 ts∧ps=ts.map Tm.codes∧xs=zK ts:=by
 obtain⟨h1,h2⟩:=zfz xs.length xs ps (Nat.le_refl _) h
 obtain⟨ts,h3,h4⟩:=zxZ (a0:=a0) xs.length ps (fun p hp=>by
  have:p.length≤ps.flatten.length:=by
   obtain⟨l1,l2,rfl⟩:=List.append_of_mem hp
   simp; omega
  rwa [h1] at this) fun p hp=>(h2 p hp).2
 exact ⟨ts,h3,h4,by rw[zhZ,List.flatMap,← h4,h1]⟩
theorem zvY {a0:List zm} {n:Nat} (h:n < 24):zbZ a0 (-1 - (n:Int))=some 0:=by
 unfold zbZ
 rw[decide_eq_true (show -1 - (n:Int) < 0 by omega),cond_true,decide_eq_true (show -24 ≤ -1 - (n:Int) by omega)]
 rfl
mutual
theorem Tm.sk_codes {a0:List zm}:(t:Tm)→t.ok a0 24→sk a0 1 t.codes=some t.codes.length
 | .v n,h=>by
  show sk a0 1 [-1 - (n:Int)]=some 1
  unfold sk
  rw[zvY h]
  rfl
 | .f c as,h=>by
  have:=zob as h.2
  show sk a0 1 ((c:Int) :: zK as)=some (zK as).length.succ
  unfold sk
  rw[h.1]
  simp only[Nat.zero_add,this,Option.map_some]
theorem zob {a0:List zm}:(ts:List Tm)→okR a0 24 ts→sk a0 ts.length (zK ts)=some (zK ts).length
 | [],_=>rfl
 | t :: ts,h=>by
  show sk a0 (ts.length+1) (t.codes++zK ts)=_
  rw[Nat.add_comm]
  exact zCu (Tm.sk_codes t h.1) (zob ts h.2)
end
theorem zwJ {a0:List zm}:{xs:List Int}→{n k:Nat}→(ys:List Int)→sk a0 n xs=some k→sk a0 n (xs++ys)=some k
 | [],0,k,ys,h=>by simp [sk] at h; subst h; cases ys <;> rfl
 | [],n+1,k,ys,h=>by simp [sk] at h
 | x :: xs,0,k,ys,h=>by simp [sk] at h; subst h; rfl
 | x :: xs,n+1,k,ys,h=>by
  unfold sk at h
  cases ha:zbZ a0 x with
  | none=>rw[ha] at h; cases h
  | some m =>
   rw[ha] at h
   simp only[Option.map_eq_some_iff] at h
   obtain⟨j,hj,rfl⟩:=h
   rw[List.cons_append]
   unfold sk
   rw[ha]
   simp only[zwJ ys hj,Option.map_some]
theorem zah {a0:List zm}:(ts:List Tm)→okR a0 24 ts→ziJ a0 (zK ts)=some (ts.map Tm.codes)
 | [],_=>rfl
 | t :: ts,h=>by
  have hp:=t.size_pos
  have hl:=t.codes_len
  have h1:=Tm.sk_codes t h.1
  show ziJ a0 (t.codes++zK ts)=_
  have hne:t.codes++zK ts ≠ []:=fun e=>by
   have:=congrArg List.length e
   rw[List.length_append,List.length_nil] at this
   omega
  rw[zcw hne,zwJ _ h1]
  simp only[List.drop_left,List.take_left,zah ts h.2,Option.map_some,List.map_cons]
def Tm.up (d:Nat) (t:Tm):Tm:=t.sub fun n=>.v (n+d)
theorem Tm.up_zero (t:Tm):t.up 0=t:=t.sub_v
theorem Tm.up_size (d:Nat) (t:Tm):(t.up d).size=t.size:=by
 have h1:(t.up d).size≤t.size * 1:=Tm.size_sub t (Nat.le_refl _) fun x _=>Nat.le_refl _
 have h2:((t.up d).sub fun n=>.v (n - d)).size≤(t.up d).size * 1:=Tm.size_sub _ (Nat.le_refl _) fun x _=>Nat.le_refl _
 have h3:(t.up d).sub (fun n=>.v (n - d))=t:=by
  unfold Tm.up
  rw[Tm.sub_sub,show (fun x=>(Tm.v (x+d)).sub fun n=>.v (n - d))=Tm.v from by
   funext x
   show Tm.v (x+d - d)=_
   rw[Nat.add_sub_cancel],Tm.sub_v]
 rw[h3] at h2
 omega
theorem Tm.up_ok {a0:List zm} {N d:Nat} {t:Tm} (h:t.ok a0 N):(t.up d).ok a0 (N+d):=Tm.ok_sub t h fun x hx=>by
 have:=Tm.ok_has t h hx
 show x+d < N+d
 omega
theorem Tm.up_has {d y:Nat} {t:Tm}:(t.up d).has y ↔ ∃ x,t.has x∧x+d=y:=Tm.has_sub t
end
end Go.Abs.Q
namespace Go.Abs.Q
open Go Go.Abs
section
abbrev Bd:=Nat→Option Tm
def SolB (θ:Sb) (B:Bd):Prop:=∀ x t,B x=some t→θ x=t.sub θ
def Sol (θ:Sb) (E:List (Tm×Tm)):Prop:=∀ p∈E,p.1.sub θ=p.2.sub θ
theorem Sol.nil {θ:Sb}:Sol θ []:=fun _ h=>nomatch h
theorem Sol.cons {θ:Sb} {p:Tm×Tm} {E:List (Tm×Tm)}:Sol θ (p :: E) ↔ p.1.sub θ=p.2.sub θ∧Sol θ E:=by simp [Sol]
theorem Sol.append {θ:Sb} {E F:List (Tm×Tm)}:Sol θ (E++F) ↔ Sol θ E∧Sol θ F:=by
 simp only[Sol,List.mem_append]
 exact ⟨fun h=>⟨fun p hp=>h p (.inl hp),fun p hp=>h p (.inr hp)⟩,fun h p hp=>hp.elim (h.1 p) (h.2 p)⟩
theorem Sol.zip {θ:Sb}:{ts us:List Tm}→ts.length=us.length→(Sol θ (ts.zip us) ↔ zbI θ ts=zbI θ us)
 | [],[],_=>by simp [Sol,zbI]
 | [],_ :: _,h=>by simp at h
 | _ :: _,[],h=>by simp at h
 | t :: ts,u :: us,h=>by
  rw[List.zip_cons_cons,Sol.cons,Sol.zip (by simpa using h)]
  simp [zbI]
structure Good (B:Bd) (σ:Sb):Prop where
 free:∀ x,B x=none→σ x = .v x
 bound:∀ x t,B x=some t→σ x=t.sub σ
 down:∀ x y,B x=some (.v y)→y < x
theorem Good.empty:Good (fun _=>none) .v:=⟨fun _ _=>rfl,fun _ _ h=>(nomatch h),fun _ _ h=>(nomatch h)⟩
theorem Good.ind {B:Bd} {σ:Sb} (h:Good B σ) {P:Nat→Prop} (hf:∀ x,B x=none→P x) (hb:∀ x t,B x=some t→(∀ y,t.has y→P y)→P x):∀ x,P x:=by
 have key:∀ n x,(σ x).size=n→P x:=by
  intro n
  induction n using Nat.strongRecOn with
  | _ n ihn =>
   intro x
   induction x using Nat.strongRecOn with
   | _ x ihx =>
    intro hn
    cases hx:B x with
    | none=>exact hf x hx
    | some t =>
     refine hb x t hx fun y hy => ?_
     have hs:=h.bound x t hx
     cases t with
     | v z =>
      have hz:z=y:=hy
      subst hz
      exact ihx z (h.down x z hx) (by rw[← hn,hs]; rfl)
     | f c as =>
      have:=zem (s:=σ) as hy
      refine ihn (σ y).size ?_ y rfl
      rw[← hn,hs]
      show _ < za3 (zbI σ as)+1
      omega
 exact fun x=>key _ x rfl
theorem Good.fac {B:Bd} {σ θ:Sb} (h:Good B σ) (hθ:SolB θ B):∀ x,(σ x).sub θ=θ x:=by
 refine h.ind (fun x hx=>by rw[h.free x hx]; rfl) fun x t hx ih => ?_
 rw[h.bound x t hx,Tm.sub_sub,hθ x t hx]
 exact Tm.sub_ext t fun y hy=>ih y hy
theorem Good.facT {B:Bd} {σ θ:Sb} (h:Good B σ) (hθ:SolB θ B) (t:Tm):(t.sub σ).sub θ=t.sub θ:=by
 rw[Tm.sub_sub]
 exact Tm.sub_ext t fun y _=>h.fac hθ y
theorem Good.root {B:Bd} {σ:Sb} (h:Good B σ):∀ x y,(σ x).has y→B y=none:=by
 refine h.ind (fun x hx y hy => ?_) fun x t hx ih y hy => ?_
 ·rw[h.free x hx] at hy
  have hy:x=y:=hy
  exact hy ▸ hx
 ·rw[h.bound x t hx] at hy
  obtain⟨z,h1,h2⟩:=(Tm.has_sub t).1 hy
  exact ih z h1 y h2
theorem Good.idem {B:Bd} {σ:Sb} (h:Good B σ) (t:Tm):(t.sub σ).sub σ=t.sub σ:=h.facT h.bound t
theorem Good.le {B:Bd} {σ:Sb} (h:Good B σ):∀ x y,σ x = .v y→y≤x:=by
 refine h.ind (fun x hx y hy => ?_) fun x t hx ih y hy => ?_
 ·rw[h.free x hx] at hy; injection hy with hy; omega
 ·rw[h.bound x t hx] at hy
  cases t with
  | v z =>
   have h1:=h.down x z hx
   have h2:=ih z rfl y hy
   omega
  | f c as=>cases hy
theorem Good.moved {B:Bd} {σ:Sb} (h:Good B σ) {x:Nat}:B x ≠ none ↔ σ x ≠ .v x:=by
 constructor
 ·intro hb he
  cases hx:B x with
  | none=>exact hb hx
  | some t =>
   have h1:=h.bound x t hx
   rw[he] at h1
   cases t with
   | v z =>
    have h2:=h.down x z hx
    have h3:=h.le z x h1.symm
    omega
   | f c as=>cases h1
 ·intro hs hb
  exact hs (h.free x hb)
theorem Good.unique {B B':Bd} {σ σ':Sb} (h:Good B σ) (h':Good B' σ') (hs:∀ θ,SolB θ B ↔ SolB θ B'):σ=σ':=by
 have f1:∀ x,(σ x).sub σ'=σ' x:=h.fac ((hs σ').2 h'.bound)
 have f2:∀ x,(σ' x).sub σ=σ x:=h'.fac ((hs σ).1 h.bound)
 have root:∀ y,B y=none→σ' y = .v y:=by
  intro y hy
  have h1:(σ' y).sub σ = .v y:=by rw[f2,h.free y hy]
  cases hz:σ' y with
  | f c as=>rw[hz] at h1; cases h1
  | v z =>
   rw[hz] at h1
   have h2:=h'.le y z hz
   have h3:=h.le z y h1
   have:z=y:=by omega
   rw[this]
 funext x
 rw[← f1 x]
 conv=>lhs; rw[← Tm.sub_v (σ x)]
 exact Tm.sub_ext _ fun y hy=>(root y (h.root x y hy)).symm
def one (x:Nat) (u:Tm):Sb:=fun y=>if y=x then u else .v y
def zAM (B:Bd) (x:Nat) (t:Tm):Bd:=fun y=>if y=x then some t else B y
theorem zcF (B:Bd) (x:Nat) (t:Tm):zAM B x t x=some t:=by simp [zAM]
theorem zeM (B:Bd) {x y:Nat} (t:Tm) (h:y ≠ x):zAM B x t y=B y:=by simp [zAM,h]
theorem SolB.upd {B:Bd} {x:Nat} {t:Tm} {θ:Sb} (hx:B x=none):SolB θ (zAM B x t) ↔ SolB θ B∧θ x=t.sub θ:=by
 constructor
 ·intro h
  refine ⟨fun y u hy=>h y u ?_,h x t (zcF ..)⟩
  rw[zeM _ _ fun e=>by rw[e,hx] at hy; cases hy]
  exact hy
 ·rintro⟨h1,h2⟩ y u hy
  by_cases he:y=x
  ·subst he
   rw[zcF] at hy
   injection hy with hy
   subst hy
   exact h2
  ·rw[zeM _ _ he] at hy
   exact h1 y u hy
theorem zC8 {x:Nat} {u t:Tm} (h:¬ t.has x):t.sub (one x u)=t:=by
 conv=>rhs; rw[← Tm.sub_v t]
 refine Tm.sub_ext t fun y hy => ?_
 have hne:y ≠ x:=fun e=>h (e ▸ hy)
 unfold one
 rw[if_neg hne]
theorem Good.bind {B:Bd} {σ:Sb} (h:Good B σ) {x:Nat} {t:Tm} (hx:B x=none) (hn:¬ (t.sub σ).has x) (hd:∀ y,t = .v y→y < x):Good (zAM B x t) fun y=>(σ y).sub (one x (t.sub σ)) where
 free:=fun y hy=>by
  have hne:y ≠ x:=fun e=>by rw[e,zcF] at hy; cases hy
  rw[zeM _ _ hne] at hy
  rw[h.free y hy]
  show one x _ y=_
  simp [one,hne]
 bound:=fun y u hy=>by
  by_cases he:y=x
  ·subst he
   rw[zcF] at hy
   injection hy with hy
   subst hy
   rw[h.free y hx,← Tm.sub_sub,zC8 hn]
   show one y _ y=_
   simp [one]
  ·rw[zeM _ _ he] at hy
   rw[h.bound y u hy,Tm.sub_sub]
 down:=fun y z hy=>by
  by_cases he:y=x
  ·subst he
   rw[zcF] at hy
   injection hy with hy
   exact hd z hy
  ·rw[zeM _ _ he] at hy
   exact h.down y z hy
theorem Good.occurs {B:Bd} {σ θ:Sb} (h:Good B σ) {x c:Nat} {as:List Tm} (hh:((Tm.f c as).sub σ).has x) (hθ:SolB θ B) (he:θ x=(Tm.f c as).sub θ):False:=by
 have h1:=h.facT hθ (.f c as)
 rw[← he] at h1
 have h2:=zem (s:=θ) (zbI σ as) hh
 have h3:(((Tm.f c as).sub σ).sub θ).size=(θ x).size:=by rw[h1]
 have h4:za3 (zbI θ (zbI σ as))+1=(θ x).size:=h3
 omega
def zjC (B:Bd):Prop:=∀ x t,B x=some t→x < 48∧t.size≤48
def Good.less (σ:Sb) (y x:Nat):Bool:=decide ((σ y).size < (σ x).size)||(decide ((σ y).size=(σ x).size)&&decide (y < x))
def Good.rank (σ:Sb) (x:Nat):Nat:=(List.range 48).countP fun y=>Good.less σ y x
theorem zj7 {α:Type} {p q:α→Bool} {a:α}:{l:List α}→a∈l→(∀ x∈l,p x=true→q x=true)→p a=false→q a=true→l.countP p < l.countP q
 | [],h,_,_,_=>nomatch h
 | b :: l,hm,hi,hp,hq=>by
  have h2:l.countP p≤l.countP q:=List.countP_mono_left fun x hx h=>hi x (List.mem_cons_of_mem _ hx) h
  rcases List.mem_cons.1 hm with rfl | hm
  ·rw[List.countP_cons_of_neg (by simp [hp]),List.countP_cons_of_pos hq]
   omega
  ·have h1:=zj7 hm (fun x hx=>hi x (List.mem_cons_of_mem _ hx)) hp hq
   cases hb:p b with
   | true=>rw[List.countP_cons_of_pos hb,List.countP_cons_of_pos (hi b (List.mem_cons_self ..) hb)]; omega
   | false =>
    rw[List.countP_cons_of_neg (by simp [hb])]
    cases hc:q b with
    | true=>rw[List.countP_cons_of_pos hc]; omega
    | false=>rw[List.countP_cons_of_neg (by simp [hc])]; exact h1
theorem Good.small {B:Bd} {σ:Sb} (h:Good B σ) (hb:zjC B):∀ x,(σ x).size≤48 ^ 49:=by
 have key:∀ x,B x ≠ none→(σ x).size≤48 ^ (Good.rank σ x+1):=by
  refine h.ind (fun x hx hn=>absurd hx hn) fun x t hx ih _ => ?_
  obtain⟨hx48,ht⟩:=hb x t hx
  rw[h.bound x t hx]
  have h1:1≤48 ^ Good.rank σ x:=Nat.pow_pos (by omega)
  refine Nat.le_trans (Tm.size_sub t h1 fun y hy => ?_) ?_
  ·cases hy0:B y with
   | none=>rw[h.free y hy0]; exact h1
   | some u =>
    refine Nat.le_trans (ih y hy (by rw[hy0]; simp)) (Nat.pow_le_pow_right (by omega) ?_)
    have hlt:Good.less σ y x=true:=by
     unfold Good.less
     have hs:=h.bound x t hx
     cases t with
     | v z =>
      have hz:z=y:=hy
      subst hz
      have h2:=h.down x z hx
      have h3:(σ z).size=(σ x).size:=by rw[hs]; rfl
      simp [h3,h2]
     | f c as =>
      have h2:=zem (s:=σ) as hy
      have h3:(σ x).size=za3 (zbI σ as)+1:=by rw[hs]; rfl
      rw[decide_eq_true (show (σ y).size < (σ x).size by omega)]
      rfl
    refine zj7 (a:=y) (List.mem_range.2 (hb y u hy0).1) (fun z _ hz => ?_) (by simp [Good.less]) hlt
    simp only[Good.less,Bool.or_eq_true,Bool.and_eq_true,decide_eq_true_eq] at hz hlt ⊢
    omega
  ·rw[Nat.pow_succ,Nat.mul_comm]
   exact Nat.mul_le_mul_left _ ht
 intro x
 by_cases hx:B x=none
 ·rw[h.free x hx]
  exact Nat.pow_pos (by omega)
 ·refine Nat.le_trans (key x hx) (Nat.pow_le_pow_right (by omega) ?_)
  have:Good.rank σ x≤(List.range 48).length:=List.countP_le_length
  rw[List.length_range] at this
  omega
theorem Good.small_sub {B:Bd} {σ:Sb} (h:Good B σ) (hb:zjC B) (t:Tm):(t.sub σ).size≤t.size * 48 ^ 49 :=
 Tm.size_sub t (Nat.pow_pos (by omega)) fun x _=>h.small hb x
def Out (B:Bd) (E:List (Tm×Tm)):Option Bd→Prop
 | none=>∀ θ,SolB θ B→Sol θ E→False
 | some B'=>(∃ σ,Good B' σ)∧zjC B'∧∀ θ,SolB θ B' ↔ SolB θ B∧Sol θ E
theorem Out.via {B B1:Bd} {E E1:List (Tm×Tm)} (h:∀ θ,(SolB θ B1∧Sol θ E1) ↔ (SolB θ B∧Sol θ E)) {o:Option Bd} (ho:Out B1 E1 o):Out B E o:=by
 cases o with
 | none=>exact fun θ h1 h2=>ho θ ((h θ).2 ⟨h1,h2⟩).1 ((h θ).2 ⟨h1,h2⟩).2
 | some B'=>exact ⟨ho.1,ho.2.1,fun θ=>(ho.2.2 θ).trans (h θ)⟩
theorem Out.done {B:Bd} {σ:Sb} (h:Good B σ) (hs:zjC B):Out B [] (some B):=⟨⟨σ,h⟩,hs,fun _=>⟨fun h=>⟨h,Sol.nil⟩,fun h=>h.1⟩⟩
theorem zIC {θ:Sb} {c d:Nat} {as bs:List Tm}:(Tm.f c as).sub θ=(Tm.f d bs).sub θ ↔ c=d∧zbI θ as=zbI θ bs:=by
 simp [Tm.sub]
end
end Go.Abs.Q
namespace Go.Abs.Q
open Go Go.Abs
section
abbrev PI:=List Int×Int
abbrev PO:=Option (List Int)×Int
def Pc (a0:List zm) (N:Nat) (p:List Int) (d:Int) (t:Tm):Prop:=∃ u n,Tm.ok a0 24 u∧p=u.codes∧d=((n:Nat):Int)∧n≤N∧t=u.up n∧p.length≤48
def Pr (a0:List zm) (N:Nat) (p:List Int) (d:Int) (ts:List Tm):Prop:=∃ us n,okR a0 24 us∧p=zK us∧d=((n:Nat):Int)∧n≤N∧ts=us.map (Tm.up n)∧p.length≤48
theorem Pc.size {a0:List zm} {N:Nat} {p:List Int} {d:Int} {t:Tm} (h:Pc a0 N p d t):t.size=p.length∧t.size≤48:=by
 obtain⟨u,n,h1,rfl,h2,h3,rfl,h4⟩:=h
 rw[Tm.up_size,Tm.codes_len]
 rw[Tm.codes_len] at h4
 exact ⟨rfl,h4⟩
theorem Pc.lt {a0:List zm} {N:Nat} (hN:N≤24) {p:List Int} {d:Int} {t:Tm} (h:Pc a0 N p d t) {x:Nat} (hx:t.has x):x < 48:=by
 obtain⟨u,n,h1,rfl,h2,h3,rfl,h4⟩:=h
 have:=Tm.ok_has _ (Tm.up_ok (d:=n) h1) hx
 omega
theorem Pc.cases {a0:List zm} {N:Nat} {p:List Int} {d:Int} {t:Tm} (h:Pc a0 N p d t) :
  (∃ k n:Nat,p=[-1 - (k:Int)]∧d=(n:Int)∧k < 24∧n≤N∧t = .v (k+n))∨∃ c r ts,p=((c:Nat):Int) :: r∧t = .f c ts∧zbZ a0 (c:Int)=some ts.length∧Pr a0 N r d ts:=by
 obtain⟨u,n,h1,rfl,h2,h3,rfl,h4⟩:=h
 cases u with
 | v k=>exact .inl ⟨k,n,rfl,h2,h1,h3,rfl⟩
 | f c as =>
  have h4:(zK as).length+1≤48:=h4
  refine .inr ⟨c,zK as,as.map (Tm.up n),rfl,?_,by rw[List.length_map]; exact h1.1,as,n,h1.2,rfl,h2,h3,rfl,by omega⟩
  show Tm.f c (zbI _ as)=_
  rw[zkZ]
  rfl
def Pq (a0:List zm) (N:Nat) (q:List Int×Int×List Int×Int) (e:Tm×Tm):Prop:=Pc a0 N q.1 q.2.1 e.1∧Pc a0 N q.2.2.1 q.2.2.2 e.2
def PqL (a0:List zm) (N:Nat):List (List Int×Int×List Int×Int)→List (Tm×Tm)→Prop
 | [],es=>es=[]
 | q :: qs,es=>∃ e es',es=e :: es'∧Pq a0 N q e∧PqL a0 N qs es'
theorem PqL.append {a0:List zm} {N:Nat}:{qs:List (List Int×Int×List Int×Int)}→{es:List (Tm×Tm)}→{qs':List (List Int×Int×List Int×Int)}→{es':List (Tm×Tm)}→PqL a0 N qs es→PqL a0 N qs' es'→PqL a0 N (qs++qs') (es++es')
 | [],_,_,_,h,h'=>by have h:_=[]:=h; subst h; exact h'
 | q :: qs,_,_,_,h,h'=>by
  obtain⟨e,es,rfl,h1,h2⟩:=h
  exact ⟨e,_,rfl,h1,PqL.append h2 h'⟩
theorem PqL.length {a0:List zm} {N:Nat}:{qs:List (List Int×Int×List Int×Int)}→{es:List (Tm×Tm)}→PqL a0 N qs es→es.length=qs.length
 | [],_,h=>by have h:_=[]:=h; subst h; rfl
 | q :: qs,_,h=>by
  obtain⟨e,es,rfl,h1,h2⟩:=h
  simp [PqL.length h2]
theorem PqL.split {a0:List zm} {N:Nat}:{qs:List (List Int×Int×List Int×Int)}→{qs':List (List Int×Int×List Int×Int)}→{es:List (Tm×Tm)}→PqL a0 N (qs++qs') es→∃ e1 e2,es=e1++e2∧PqL a0 N qs e1∧PqL a0 N qs' e2
 | [],_,es,h=>⟨[],es,rfl,rfl,h⟩
 | q :: qs,_,_,h=>by
  obtain⟨e,es,rfl,h1,h2⟩:=h
  obtain⟨e1,e2,rfl,h3,h4⟩:=PqL.split h2
  exact ⟨e :: e1,e2,rfl,⟨e,e1,rfl,h1,h3⟩,h4⟩
def PcO (a0:List zm) (N:Nat) (e:PO) (o:Option Tm):Prop:=match e.1 with
 | none=>o=none
 | some p=>∃ t,o=some t∧Pc a0 N p e.2 t
structure RepT (a0:List zm) (N:Nat) (to:List PO) (B:Bd):Prop where
 len:to.length=48
 at_:∀ x e,to[x]? = some e→PcO a0 N e (B x)
 out:∀ x,48≤x→B x=none
theorem RepT.small {a0:List zm} {N:Nat} {to:List PO} {B:Bd} (h:RepT a0 N to B):zjC B:=by
 intro x t hx
 have hlt:x < 48:=by
  rcases Nat.lt_or_ge x 48 with h' | h'
  ·exact h'
  ·rw[h.out x h'] at hx; cases hx
 refine ⟨hlt,?_⟩
 have hl:x < to.length:=by rw[h.len]; exact hlt
 have hg:to[x]? = some to[x]:=List.getElem?_eq_getElem hl
 have:=h.at_ x _ hg
 unfold PcO at this
 split at this
 ·rw[hx] at this; cases this
 ·obtain⟨u,h1,h2⟩:=this
  rw[hx] at h1; injection h1 with h1; subst h1
  exact h2.size.2
theorem RepT.get {a0:List zm} {N:Nat} {to:List PO} {B:Bd} (h:RepT a0 N to B) {x:Nat} (hx:x < 48):∃ e,to[x]? = some e∧PcO a0 N e (B x):=by
 have hl:x < to.length:=by rw[h.len]; exact hx
 have hg:to[x]? = some to[x]:=List.getElem?_eq_getElem hl
 exact ⟨_,hg,h.at_ x _ hg⟩
theorem RepT.set {a0:List zm} {N:Nat} {to:List PO} {B:Bd} (h:RepT a0 N to B) {x:Nat} (hx:x < 48) {p:List Int} {d:Int} {t:Tm} (hp:Pc a0 N p d t):RepT a0 N (to.set x (some p,d)) (zAM B x t) where
 len:=by rw[List.length_set]; exact h.len
 at_:=fun y e hy=>by
  by_cases he:y=x
  ·subst he
   rw[List.getElem?_set_self (by rw[h.len]; exact hx)] at hy
   injection hy with hy
   subst hy
   rw[zcF]
   exact ⟨t,rfl,hp⟩
  ·rw[List.getElem?_set_ne (Ne.symm he)] at hy
   rw[zeM _ _ he]
   exact h.at_ y e hy
 out:=fun y hy=>by
  rw[zeM _ _ (by omega)]
  exact h.out y hy
theorem zij {N:Nat} (hN:N≤24) {k n:Nat} (hk:k < 24) (hn:n≤N) (p:List Int):yK p (n:Int) (-1 - (k:Int))=some ((k+n:Nat):Int):=by
 unfold yK
 rw[zbA (by omega) (by omega),Option.bind_some]
 congr 1
 rw[yk] <;> omega
def zgL:Tm→Nat
 | .v x=>x+2
 | .f _ _=>1
theorem zy4 {a0:List zm} {N:Nat} (hN:N≤24) {to:List PO} {B:Bd} {σ:Sb} (hT:RepT a0 N to B) (hG:Good B σ):∀ (m k:Nat) (p:List Int) (d:Int) (t:Tm) (z:Int),zgL t≤m→m≤k→Pc a0 N p d t →
  ∃ p' d' t',lp q9 k (a0,to,p,d,z)=some (p',d')∧Pc a0 N p' d' t'∧(∀ θ,SolB θ B→t.sub θ=t'.sub θ)∧∀ y,t' = .v y→B y=none:=by
 intro m
 induction m with
 | zero=>intro k p d t z hm; cases t <;> simp [zgL] at hm
 | succ m ih =>
  intro k p d t z hm hk hp
  obtain⟨k,rfl⟩:∃ k',k=k'+1:=⟨k - 1,by omega⟩
  rw[zl]
  have key:=fun p d t (h1:zgL t≤m) h2=>ih k p d t z h1 (by omega) h2
  generalize lp q9 k=rec at key ⊢
  unfold q9
  rcases hp.cases with ⟨x,n,rfl,rfl,hx,hn,rfl⟩ | ⟨c,r,ts,rfl,rfl,hc,hr⟩
  ·simp only[qx,List.getElem?_cons_zero,Option.bind_some]
   rw[decide_eq_true (show -1 - (x:Int) < 0 by omega),cond_true,zij hN hx hn,Option.bind_some,zaJ (by omega),Option.bind_some]
   obtain⟨e,he,hpe⟩:=hT.get (x:=x+n) (by omega)
   rw[he,Option.bind_some]
   unfold PcO at hpe
   split at hpe
   ·rename_i h1
    rw[h1]
    exact ⟨_,_,_,rfl,hp,fun θ _=>rfl,fun y hy=>by injection hy with hy; rw[← hy]; exact hpe⟩
   ·rename_i q h1
    obtain⟨u,hu,hq⟩:=hpe
    rw[h1]
    simp only[Option.isNone_some,cond_false,Option.getD_some]
    obtain⟨p',d',t',h2,h3,h4,h5⟩:=key q e.2 u (by
     cases u with
     | v y=>have:=hG.down _ y hu; simp only[zgL] at hm ⊢; omega
     | f c as=>simp only[zgL] at hm ⊢; omega) hq
    exact ⟨p',d',t',h2,h3,fun θ hθ=>(hθ _ u hu).trans (h4 θ hθ),h5⟩
  ·simp only[qx,List.getElem?_cons_zero,Option.bind_some]
   rw[decide_eq_false (show ¬ (c:Int) < 0 by omega),cond_false]
   exact ⟨_,_,_,rfl,hp,fun θ _=>rfl,fun y hy=>by cases hy⟩
theorem zpo {a0:List zm} {N:Nat} (hN:N≤24) {to:List PO} {B:Bd} {σ:Sb} (hT:RepT a0 N to B) (hG:Good B σ) {p:List Int} {d:Int} {t:Tm} (hp:Pc a0 N p d t) :
  ∃ p' d' t',zaD p d a0 to=some (p',d')∧Pc a0 N p' d' t'∧(∀ θ,SolB θ B→t.sub θ=t'.sub θ)∧∀ y,t' = .v y→B y=none:=by
 obtain⟨p',d',t',h1,h2⟩:=zy4 hN hT hG (zgL t) zr p d t 0 (Nat.le_refl _) (by
  cases t with
  | v x=>have:=hp.lt hN (x:=x) rfl; simp only[zgL]; unfold zr; omega
  | f c as=>simp only[zgL]; unfold zr; omega) hp
 refine ⟨p',d',t',?_,h2⟩
 unfold zaD
 rw[h1]
 rfl
section
variable {a0:List zm} {N:Nat} {to:List PO} {B:Bd} {σ:Sb} {v:Nat}
def DoneV (B:Bd) (v:Nat) (seen:List Bool) (y:Nat):Prop:=y ≠ v∧(B y ≠ none→seen[y]? = some true)
def PcL (a0:List zm) (N:Nat):List PI→List Tm→Prop
 | [],ts=>ts=[]
 | p :: ps,ts=>∃ t ts',ts=t :: ts'∧Pc a0 N p.1 p.2 t∧PcL a0 N ps ts'
theorem PcL.append:{ps:List PI}→{ts:List Tm}→{ps':List PI}→{ts':List Tm}→PcL a0 N ps ts→PcL a0 N ps' ts'→PcL a0 N (ps++ps') (ts++ts')
 | [],_,_,_,h,h'=>by have h:_=[]:=h; subst h; exact h'
 | q :: qs,_,_,_,h,h'=>by
  obtain⟨e,es,rfl,h1,h2⟩:=h
  exact ⟨e,_,rfl,h1,PcL.append h2 h'⟩
theorem PcL.split:{ps:List PI}→{ps':List PI}→{ts:List Tm}→PcL a0 N (ps++ps') ts→∃ t1 t2,ts=t1++t2∧PcL a0 N ps t1∧PcL a0 N ps' t2
 | [],_,ts,h=>⟨[],ts,rfl,rfl,h⟩
 | q :: qs,_,_,h=>by
  obtain⟨e,es,rfl,h1,h2⟩:=h
  obtain⟨e1,e2,rfl,h3,h4⟩:=PcL.split h2
  exact ⟨e :: e1,e2,rfl,⟨e,e1,rfl,h1,h3⟩,h4⟩
theorem PcL.length:{ps:List PI}→{ts:List Tm}→PcL a0 N ps ts→ts.length=ps.length
 | [],_,h=>by have h:_=[]:=h; subst h; rfl
 | q :: qs,_,h=>by
  obtain⟨e,es,rfl,h1,h2⟩:=h
  simp [PcL.length h2]
def zfy (seen:List Bool):Nat:=seen.countP fun b => !b
theorem zrR {seen:List Bool} {x:Nat} (h:seen[x]? = some false):zfy (seen.set x true)+1=zfy seen:=by
 unfold zfy
 obtain⟨hx,he⟩:=List.getElem?_eq_some_iff.1 h
 have h1:=List.take_append_drop x seen
 have h2:seen.drop x=false :: seen.drop (x+1):=by rw[List.drop_eq_getElem_cons hx,he]
 have h3:seen.set x true=seen.take x++true :: seen.drop (x+1):=by rw[List.set_eq_take_append_cons_drop,if_pos hx]
 conv=>rhs; rw[← h1,h2]
 rw[h3]
 simp [List.countP_append,List.countP_cons]
 omega
theorem zkN (hN:N≤24) (hT:RepT a0 N to B) {n:Nat} (hn:n≤N) (p0:List Int):∀ (es:List Int) (seen:List Bool) (todo:List PI) (ts:List Tm),(∀ c∈es,-24≤c)→seen.length=48→todo.length+zfy seen≤1000→PcL a0 N todo ts →
  (zv (v:Int) to p0 (n:Int) es seen todo=some (.inr true)∧∃ c∈es,c < 0∧(-1 - c).toNat+n=v) ∨
  ∃ seen' more us,zv (v:Int) to p0 (n:Int) es seen todo=some (.inl (seen',todo++more))∧seen'.length=48∧more.length+zfy seen'=zfy seen∧PcL a0 N more us ∧
   (∀ y:Nat,seen[y]? = some true→seen'[y]? = some true)∧(∀ c∈es,c < 0→DoneV B v seen' ((-1 - c).toNat+n))∧(∀ y:Nat,seen'[y]? = some true→seen[y]? = some true∨∃ u,B y=some u∧u∈us) ∧
   (∀ u∈us,∃ c∈es,c < 0∧B ((-1 - c).toNat+n)=some u)
 | [],seen,todo,ts,_,hs,_,_=>.inr ⟨seen,[],[],by rw[List.append_nil]; rfl,hs,by simp,rfl,fun _ h=>h,fun c h=>(nomatch h),fun y h=>.inl h,fun u h=>(nomatch h)⟩
 | e :: es,seen,todo,ts,hc,hs,hl,hp=>by
  have he:=hc e (List.mem_cons_self ..)
  have hc':∀ c∈es,-24≤c:=fun c h=>hc c (List.mem_cons_of_mem _ h)
  -- the variable is passed over
  have pass:∀ f:List Bool→List PI→Option ((List Bool×List PI)⊕Bool),f seen todo=zv (v:Int) to p0 (n:Int) es seen todo→(e < 0→DoneV B v seen ((-1 - e).toNat+n)) →
    ((f seen todo=some (.inr true)∧∃ c∈e :: es,c < 0∧(-1 - c).toNat+n=v) ∨
    ∃ seen' more us,f seen todo=some (.inl (seen',todo++more))∧seen'.length=48∧more.length+zfy seen'=zfy seen∧PcL a0 N more us ∧
     (∀ y:Nat,seen[y]? = some true→seen'[y]? = some true)∧(∀ c∈e :: es,c < 0→DoneV B v seen' ((-1 - c).toNat+n))∧(∀ y:Nat,seen'[y]? = some true→seen[y]? = some true∨∃ u,B y=some u∧u∈us) ∧
     (∀ u∈us,∃ c∈e :: es,c < 0∧B ((-1 - c).toNat+n)=some u)):=by
   intro f hf hd
   rw[hf]
   rcases zkN hN hT hn p0 es seen todo ts hc' hs hl hp with ⟨h1,c,h2,h3⟩ | ⟨seen',more,us,h1,h2,h3,h4,h5,h6,h7,h8⟩
   ·exact .inl ⟨h1,c,List.mem_cons_of_mem _ h2,h3⟩
   ·refine .inr ⟨seen',more,us,h1,h2,h3,h4,h5,fun c hcm hc0 => ?_,h7,fun u hu => ?_⟩
    ·rcases List.mem_cons.1 hcm with rfl | hcm
     ·exact ⟨(hd hc0).1,fun hb=>h5 _ ((hd hc0).2 hb)⟩
     ·exact h6 c hcm hc0
    ·obtain⟨c,h9,h10⟩:=h8 u hu
     exact ⟨c,List.mem_cons_of_mem _ h9,h10⟩
  unfold zv
  by_cases h0:e ≥ 0
  ·rw[decide_eq_true h0,cond_true]
   exact pass (fun seen todo=>zv (v:Int) to p0 (n:Int) es seen todo) rfl fun h=>by omega
  ·rw[decide_eq_false h0,cond_false]
   obtain⟨k,hk,rfl⟩:∃ k:Nat,k < 24∧e = -1 - (k:Int):=⟨(-1 - e).toNat,by omega,by omega⟩
   have hk2:(-1 - (-1 - (k:Int))).toNat=k:=by omega
   rw[zij hN hk hn,Option.bind_some]
   by_cases hv:k+n=v
   ·rw[hv,show (((v:Nat):Int) == (v:Int))=true from by simp,cond_true]
    exact .inl ⟨rfl,_,List.mem_cons_self ..,by omega,by rw[hk2]; exact hv⟩
   ·rw[show (((k+n:Nat):Int) == (v:Int))=false from by simp; omega,cond_false,zaJ (show k+n < 48 by omega),Option.bind_some]
    obtain⟨b,hb⟩:∃ b,seen[k+n]? = some b:=⟨seen[k+n]'(by omega),List.getElem?_eq_getElem (by omega)⟩
    rw[hb,Option.bind_some]
    obtain⟨q,hq,hpq⟩:=hT.get (x:=k+n) (by omega)
    cases b with
    | true =>
     simp only[Bool.not_true,cond_false]
     exact pass (fun seen todo=>zv (v:Int) to p0 (n:Int) es seen todo) rfl fun _=>by rw[hk2]; exact ⟨hv,fun _=>hb⟩
    | false =>
     simp only[Bool.not_false,cond_true,Option.bind_some,hq]
     unfold PcO at hpq
     split at hpq
     ·rename_i h1
      rw[h1]
      simp only[Option.isNone_none,Bool.not_true,cond_false]
      exact pass (fun seen todo=>zv (v:Int) to p0 (n:Int) es seen todo) rfl fun _=>by rw[hk2]; exact ⟨hv,fun hn=>absurd hpq hn⟩
     ·rename_i q1 h1
      obtain⟨u,hu,hpu⟩:=hpq
      rw[h1]
      simp only[Option.isNone_some,Bool.not_false,cond_true,Option.getD_some,hb,Option.bind_some]
      have hun:=zrR hb
      rw[zT (show (todo.length+([(q1,q.2)]:List PI).length) * 32≤140737488351232 by simp; omega),cond_true]
      have hset:(seen.set (k+n) true)[k+n]? = some true:=List.getElem?_set_self (by omega)
      have hmono:∀ y:Nat,seen[y]? = some true→(seen.set (k+n) true)[y]? = some true:=fun y hy=>by
       by_cases hyk:y=k+n
       ·subst hyk; exact hset
       ·rw[List.getElem?_set_ne (Ne.symm hyk)]; exact hy
      have hbk:∀ y:Nat,(seen.set (k+n) true)[y]? = some true→seen[y]? = some true∨y=k+n:=fun y hy=>by
       by_cases hyk:y=k+n
       ·exact .inr hyk
       ·rw[List.getElem?_set_ne (Ne.symm hyk)] at hy; exact .inl hy
      rcases zkN hN hT hn p0 es (seen.set (k+n) true) (todo++[(q1,q.2)]) (ts++[u]) hc' (by rw[List.length_set]; exact hs) (by simp; omega) (hp.append ⟨u,[],rfl,hpu,rfl⟩) with ⟨h2,c,h3,h4⟩ | ⟨seen',more,us,h2,h3,h4,h5,h6,h7,h8,h9⟩
      ·exact .inl ⟨h2,c,List.mem_cons_of_mem _ h3,h4⟩
      ·refine .inr ⟨seen',(q1,q.2) :: more,u :: us,by rw[h2,List.append_assoc]; rfl,h3,by simp; omega,⟨u,us,rfl,hpu,h5⟩,fun y hy=>h6 y (hmono y hy),fun c hcm hc0 => ?_,fun y hy => ?_,fun w hw => ?_⟩
       ·rcases List.mem_cons.1 hcm with rfl | hcm
        ·rw[hk2]; exact ⟨hv,fun _=>h6 _ hset⟩
        ·exact h7 c hcm hc0
       ·rcases h8 y hy with h10 | ⟨w,h10,h11⟩
        ·rcases hbk y h10 with h12 | rfl
         ·exact .inl h12
         ·exact .inr ⟨u,hu,List.mem_cons_self ..⟩
        ·exact .inr ⟨w,h10,List.mem_cons_of_mem _ h11⟩
       ·rcases List.mem_cons.1 hw with rfl | hw
        ·exact ⟨_,List.mem_cons_self ..,by omega,by rw[hk2]; exact hu⟩
        ·obtain⟨c,h10,h11⟩:=h9 w hw
         exact ⟨c,List.mem_cons_of_mem _ h10,h11⟩
theorem Pc.vars {p:List Int} {d:Int} {t:Tm} (h:Pc a0 N p d t):∃ n:Nat,d=(n:Int)∧n≤N∧(∀ c∈p,-24≤c)∧∀ y,t.has y ↔ ∃ c∈p,c < 0∧(-1 - c).toNat+n=y:=by
 obtain⟨u,n,h1,rfl,h2,h3,rfl,h4⟩:=h
 refine ⟨n,h2,h3,fun c hc => ?_,fun y => ?_⟩
 ·by_cases h0:c < 0
  ·have:=Tm.ok_has u h1 ((Tm.mem_codes h0 u).1 hc); omega
  ·omega
 ·rw[Tm.up_has]
  constructor
  ·rintro⟨x,hx,rfl⟩
   have hc:(-1 - (x:Int)) < 0:=by omega
   refine ⟨-1 - (x:Int),(Tm.mem_codes hc u).2 (by rw[show (-1 - (-1 - (x:Int))).toNat=x from by omega]; exact hx),hc,by omega⟩
  ·rintro⟨c,hc,h0,rfl⟩
   exact ⟨_,(Tm.mem_codes h0 u).1 hc,rfl⟩
structure WInv (B:Bd) (σ:Sb) (v:Nat) (t:Tm) (seen:List Bool) (ts:List Tm):Prop where
 snd:∀ u∈ts,(u.sub σ).has v→(t.sub σ).has v
 top:t∈ts∨∀ y,t.has y→DoneV B v seen y
 cls:∀ x u,seen[x]? = some true→B x=some u→u∈ts∨∀ y,u.has y→DoneV B v seen y
theorem DoneV.mono {seen seen':List Bool} (h:∀ y:Nat,seen[y]? = some true→seen'[y]? = some true) {y:Nat} (hd:DoneV B v seen y):DoneV B v seen' y:=⟨hd.1,fun hb=>h y (hd.2 hb)⟩
theorem zr7 (hN:N≤24) (hT:RepT a0 N to B) (hG:Good B σ) (hv:B v=none) (t:Tm):∀ (m k:Nat) (seen:List Bool) (todo:List PI) (ts:List Tm) (z:List Int) (z2:Int),todo.length+zfy seen=m→m < k→m≤100→seen.length=48→PcL a0 N todo ts→WInv B σ v t seen ts →
  ∃ r,lp qw k ((v:Int),a0,to,z,z2,seen,todo)=some r∧((r = .inr true∧(t.sub σ).has v)∨(r = .inl ()∧¬ (t.sub σ).has v)):=by
 intro m
 induction m using Nat.strongRecOn with
 | _ m ih =>
  intro k seen todo ts z z2 hm hk hm1 hs hp hI
  obtain⟨k,rfl⟩:∃ k',k=k'+1:=⟨k - 1,by omega⟩
  rw[zl]
  have key:=fun (m':Nat) (h:m' < m) seen todo ts z z2 h1 h2 h3 h4=>ih m' h k seen todo ts z z2 h1 (by omega) (by omega) h2 h3 h4
  generalize lp qw k=rec at key ⊢
  unfold qw
  rcases List.eq_nil_or_concat todo with rfl | ⟨todo',p,rfl⟩
  ·have hts:ts=[]:=hp
   subst hts
   refine ⟨_,rfl,.inr ⟨rfl,?_⟩⟩
   have hcl:∀ x u,seen[x]? = some true→B x=some u→∀ y,u.has y→DoneV B v seen y:=fun x u h1 h2=>(hI.cls x u h1 h2).resolve_left (fun h=>nomatch h)
   have hno:∀ x,DoneV B v seen x→¬ (σ x).has v:=by
    refine hG.ind (fun x hx hd hh => ?_) fun x u hx ihx hd hh => ?_
    ·rw[hG.free x hx] at hh
     exact hd.1 hh
    ·rw[hG.bound x u hx] at hh
     obtain⟨y,h1,h2⟩:=(Tm.has_sub u).1 hh
     exact ihx y h1 (hcl x u (hd.2 (by rw[hx]; simp)) hx y h1) h2
   intro hh
   obtain⟨y,h1,h2⟩:=(Tm.has_sub t).1 hh
   exact hno y ((hI.top.resolve_left fun h=>nomatch h) y h1) h2
  ·rw[List.concat_eq_append] at *
   obtain⟨ts',us0,rfl,hp1,hp2⟩:=PcL.split hp
   obtain⟨u0,us1,rfl,hu0,hus1⟩:=hp2
   have hus1:us1=[]:=hus1
   subst hus1
   simp only[List.length_append,List.length_singleton] at hm
   obtain⟨q,d⟩:=p
   obtain⟨n,rfl,hn,hcs,hvars⟩:=hu0.vars
   have e1:IntKind.wrap .i64 (((List.length (todo'++[(q,(n:Int))]):Nat):Int) - 1)=((todo'.length:Nat):Int):=by
    rw[List.length_append,List.length_singleton,yk] <;> omega
   have e2:inR ((todo'.length:Nat):Int) (List.length (todo'++[(q,(n:Int))]))=some todo'.length:=zaJ (by simp)
   have e3:(todo'++[(q,(n:Int))])[todo'.length]? = some (q,(n:Int)):=zp1 _ [] _
   have e4:decide (((List.length (todo'++[(q,(n:Int))]):Nat):Int) > 0)=true:=decide_eq_true (by rw[List.length_append,List.length_singleton]; omega)
   simp only[e1,e2,e3,e4,Option.bind_some,cond_true,zrb]
   have hsz:u0.size=q.length∧u0.size≤48:=hu0.size
   rw[zdv _ _ _ _ _ _ _ _ (by unfold maxLen; omega)]
   rcases zkN (v:=v) hN hT hn q q seen todo' ts' hcs hs (by omega) hp1 with ⟨h1,c,h2,h3,h4⟩ | ⟨seen',more,us,h1,h2,h3,h4,h5,h6,h7,h8⟩
   ·rw[h1]
    refine ⟨_,rfl,.inl ⟨rfl,hI.snd u0 (by simp) ?_⟩⟩
    refine (Tm.has_sub u0).2 ⟨v,(hvars v).2 ⟨c,h2,h3,h4⟩,?_⟩
    rw[hG.free v hv]
    rfl
   ·rw[h1]
    simp only[Option.bind_some,zcs]
    refine key (todo'.length+more.length+zfy seen') (by omega) seen' (todo'++more) (ts'++us) q (n:Int) (by simp) h2 (hp1.append h4) ⟨fun w hw hh => ?_,?_,fun x w hx hw => ?_⟩
    ·rcases List.mem_append.1 hw with hw | hw
     ·exact hI.snd w (by simp [hw]) hh
     ·obtain⟨c,h9,h10,h11⟩:=h8 w hw
      refine hI.snd u0 (by simp) ((Tm.has_sub u0).2 ⟨_,(hvars _).2 ⟨c,h9,h10,rfl⟩,?_⟩)
      rw[hG.bound _ w h11]
      exact hh
    ·have hdone:∀ y,u0.has y→DoneV B v seen' y:=fun y hy=>by
      obtain⟨c,h9,h10,rfl⟩:=(hvars y).1 hy
      exact h6 c h9 h10
     rcases hI.top with ht | ht
     ·rcases List.mem_append.1 ht with ht | ht
      ·exact .inl (by simp [ht])
      ·rw[List.mem_singleton.1 ht]; exact .inr hdone
     ·exact .inr fun y hy=>(ht y hy).mono h5
    ·have hdone:∀ y,u0.has y→DoneV B v seen' y:=fun y hy=>by
      obtain⟨c,h9,h10,rfl⟩:=(hvars y).1 hy
      exact h6 c h9 h10
     rcases h7 x hx with h9 | ⟨w',h9,h10⟩
     ·rcases hI.cls x w h9 hw with ht | ht
      ·rcases List.mem_append.1 ht with ht | ht
       ·exact .inl (by simp [ht])
       ·rw[List.mem_singleton.1 ht]; exact .inr hdone
      ·exact .inr fun y hy=>(ht y hy).mono h5
     ·rw[hw] at h9; injection h9 with h9; subst h9
      exact .inl (by simp [h10])
theorem zqk (hN:N≤24) (hT:RepT a0 N to B) (hG:Good B σ) (hv:B v=none) {p:List Int} {d:Int} {t:Tm} (hp:Pc a0 N p d t) :
  ∃ r,zbC (v:Int) p d a0 to=some r∧(r=true ↔ (t.sub σ).has v):=by
 have hun:zfy (List.replicate 48 false)=48:=by decide
 obtain⟨r,h1,h2⟩:=zr7 hN hT hG hv t 49 zr (List.replicate 48 false) [(p,d)] [t] p d (by rw[hun]; rfl) (by unfold zr; omega) (by omega) (by simp) ⟨t,[],rfl,hp,rfl⟩
  ⟨fun u hu h=>by rw[List.mem_singleton.1 hu] at h; exact h,.inl (by simp),fun x u hx _=>by
   rw[List.getElem?_replicate] at hx
   split at hx <;> simp at hx⟩
 unfold zbC
 rw[h1]
 rcases h2 with ⟨rfl,h2⟩ | ⟨rfl,h2⟩
 ·exact ⟨true,rfl,by simp [h2]⟩
 ·exact ⟨false,rfl,by simp [h2]⟩
end
end
end Go.Abs.Q
namespace Go.Abs.Q
open Go Go.Abs
section
mutual
def Tm.ht:Tm→Nat
 | .v _=>1
 | .f _ as=>htR as+1
def htR:List Tm→Nat
 | []=>0
 | t :: ts=>max t.ht (htR ts)
end
mutual
theorem Tm.ht_size:(t:Tm)→t.ht≤t.size
 | .v _=>Nat.le_refl _
 | .f _ as=>by have:=zrf as; simp only[Tm.ht,Tm.size]; omega
theorem zrf:(ts:List Tm)→htR ts≤za3 ts
 | []=>Nat.le_refl _
 | t :: ts=>by have:=t.ht_size; have:=zrf ts; simp only[htR,za3]; omega
end
mutual
theorem Tm.ht_sub {s:Sb} {M:Nat}:(t:Tm)→(∀ x,t.has x→(s x).ht≤M)→(t.sub s).ht≤t.ht+M
 | .v n,h=>by have:=h n rfl; simp only[Tm.sub,Tm.ht]; omega
 | .f _ as,h=>by have:=zwc as h; simp only[Tm.sub,Tm.ht]; omega
theorem zwc {s:Sb} {M:Nat}:(ts:List Tm)→(∀ x,zmF x ts→(s x).ht≤M)→htR (zbI s ts)≤htR ts+M
 | [],_=>by simp [zbI,htR]
 | t :: ts,h=>by
  have h1:=Tm.ht_sub t fun x hx=>h x (.inl hx)
  have h2:=zwc ts fun x hx=>h x (.inr hx)
  simp only[zbI,htR]; omega
end
theorem zp7:{ts:List Tm}→{t:Tm}→t∈ts→t.ht≤htR ts
 | u :: us,t,h=>by
  rcases List.mem_cons.1 h with rfl | h
  ·simp only[htR]; omega
  ·have:=zp7 h; simp only[htR]; omega
theorem Good.rank_lt {B:Bd} {σ:Sb} (h:Good B σ) {x y:Nat} {t:Tm} (hx:B x=some t) (hy:t.has y) (h48:y < 48):Good.rank σ y < Good.rank σ x:=by
 have hlt:Good.less σ y x=true:=by
  unfold Good.less
  have hs:=h.bound x t hx
  cases t with
  | v z =>
   have hz:z=y:=hy
   subst hz
   have h2:=h.down x z hx
   have h3:(σ z).size=(σ x).size:=by rw[hs]; rfl
   simp [h3,h2]
  | f c as =>
   have h2:=zem (s:=σ) as hy
   have h3:(σ x).size=za3 (zbI σ as)+1:=by rw[hs]; rfl
   rw[decide_eq_true (show (σ y).size < (σ x).size by omega)]
   rfl
 refine zj7 (a:=y) (List.mem_range.2 h48) (fun z _ hz => ?_) (by simp [Good.less]) hlt
 simp only[Good.less,Bool.or_eq_true,Bool.and_eq_true,decide_eq_true_eq] at hz hlt ⊢
 omega
theorem Good.rank_le (σ:Sb) (x:Nat):Good.rank σ x≤48:=by
 have:Good.rank σ x≤(List.range 48).length:=List.countP_le_length
 rwa [List.length_range] at this
theorem Good.low {B:Bd} {σ:Sb} (h:Good B σ) (hb:zjC B):∀ x,(σ x).ht≤49 * 49:=by
 have key:∀ x,B x ≠ none→(σ x).ht≤49 * (Good.rank σ x+1):=by
  refine h.ind (fun x hx hn=>absurd hx hn) fun x t hx ih _ => ?_
  obtain⟨hx48,ht⟩:=hb x t hx
  rw[h.bound x t hx]
  have h0:=t.ht_size
  have:=Tm.ht_sub (s:=σ) (M:=49 * Good.rank σ x+1) t fun y hy=>(by
   cases hy0:B y with
   | none=>rw[h.free y hy0]; simp only[Tm.ht]; omega
   | some u =>
    have h1:=ih y hy (by rw[hy0]; simp)
    have h2:=h.rank_lt hx hy (hb y u hy0).1
    have:49 * (Good.rank σ y+1)≤49 * Good.rank σ x:=Nat.mul_le_mul_left _ (by omega)
    omega)
  omega
 intro x
 by_cases hx:B x=none
 ·rw[h.free x hx]; simp [Tm.ht]
 ·have h1:=key x hx
  have h2:=Good.rank_le σ x
  have:49 * (Good.rank σ x+1)≤49 * 49:=Nat.mul_le_mul_left _ (by omega)
  omega
def zIA (n m:Nat) (us ws:List Tm):List (List Int×Int×List Int×Int):=List.zipWith (fun a b=>(a.codes,(n:Int),b.codes,(m:Int))) us ws
theorem zhD {ts:List Tm} {t:Tm} (h:t∈ts):t.codes.length≤(zK ts).length:=by
 obtain⟨l1,l2,rfl⟩:=List.append_of_mem h
 rw[zi2]
 simp [zK]
 omega
theorem zrz {a0:List zm} {N n m:Nat} (hn:n≤N) (hm:m≤N):{us ws:List Tm}→okR a0 24 us→okR a0 24 ws→(∀ t∈us,t.codes.length≤48)→(∀ t∈ws,t.codes.length≤48) →
  PqL a0 N (zIA n m us ws) ((us.map (Tm.up n)).zip (ws.map (Tm.up m)))
 | [],_,_,_,_,_=>rfl
 | _ :: _,[],_,_,_,_=>rfl
 | u :: us,w :: ws,hu,hw,hlu,hlw =>
  ⟨(u.up n,w.up m),_,rfl,⟨⟨u,n,hu.1,rfl,rfl,hn,rfl,hlu u (List.mem_cons_self ..)⟩,⟨w,m,hw.1,rfl,rfl,hm,rfl,hlw w (List.mem_cons_self ..)⟩⟩,
   zrz hn hm hu.2 hw.2 (fun t h=>hlu t (List.mem_cons_of_mem _ h)) fun t h=>hlw t (List.mem_cons_of_mem _ h)⟩
theorem zoa (ps2:List (List Int)) (n m:Nat):(us ws:List Tm)→(i:Nat)→(out:List (List Int×Int×List Int×Int))→ps2.drop i=ws.map Tm.codes→us.length=ws.length→out.length+us.length≤1000000 →
  zX ps2 (n:Int) (m:Int) (us.map Tm.codes) i out=some (out++zIA n m us ws)
 | [],ws,i,out,_,_,_=>by simp [zX,zIA]
 | u :: us,[],i,out,_,h,_=>by simp at h
 | u :: us,w :: ws,i,out,h,hl,hr=>by
  simp only[List.length_cons] at hl hr
  rw[List.map_cons] at h
  rw[List.map_cons]
  unfold zX
  rw[zP,zk h,Option.bind_some,zT (by simp only[List.length_singleton]; omega),cond_true,zoa ps2 n m us ws (i+1) _ (zj h) (by omega) (by simp only[List.length_append,List.length_singleton]; omega)]
  simp [zIA]
theorem zlK {a0:List zm} (h:SignOk a0) {N:Nat} {p q:List Int} {d e:Int} {ts us:List Tm} (hp:Pr a0 N p d ts) (hq:Pr a0 N q e us) (hl:ts.length=us.length) (to:List PO) {out:List (List Int×Int×List Int×Int)} (ho:out.length≤100000) :
  ∃ more,qy p d q e a0 to out=some (out++more)∧PqL a0 N more (ts.zip us):=by
 obtain⟨us0,n,h1,rfl,rfl,h2,rfl,h3⟩:=hp
 obtain⟨ws0,m,h4,rfl,rfl,h5,rfl,h6⟩:=hq
 simp only[List.length_map] at hl
 have hls:us0.length≤48:=by
  have:=zjS (zah us0 h1)
  rw[List.length_map] at this
  omega
 refine ⟨zIA n m us0 ws0,?_,zrz h2 h5 h1 h4 (fun t ht=>Nat.le_trans (zhD ht) h3) fun t ht=>Nat.le_trans (zhD ht) h6⟩
 unfold qy
 rw[zgV h (by omega) (zah us0 h1),Option.bind_some,zgV h (by omega) (zah ws0 h4),Option.bind_some,
  zc7 _ _ _ _ _ _ _ (by rw[List.length_map]; unfold maxLen; omega),zoa _ n m us0 ws0 0 out rfl hl (by omega)]
 rfl
theorem zmE {a0:List zm} {N:Nat} {p:List Int} {d:Int} {t:Tm} (h:Pc a0 N p d t):nn p=some p:=by
 have h1:=h.size
 have h2:=t.size_pos
 cases p with
 | nil=>simp at h1; omega
 | cons x r=>rfl
theorem zrl {a0:List zm} {N:Nat} (hN:N≤24) {to:List PO} {B:Bd} {σ:Sb} (hT:RepT a0 N to B) (hG:Good B σ) {p q:List Int} {d e:Int} {v:Nat} {u:Tm} (hp:Pc a0 N p d (.v v)) (hq:Pc a0 N q e u) (hv:B v=none) (hu:∀ y,u = .v y→B y=none) :
  ∃ r to',qf p d q e a0 to=some (r,a0,to')∧((r=false∧∀ θ,SolB θ B→θ v=u.sub θ→False)∨(r=true∧∃ B' σ',RepT a0 N to' B'∧Good B' σ'∧∀ θ,SolB θ B' ↔ SolB θ B∧θ v=u.sub θ)):=by
 have hv48:v < 48:=hp.lt hN rfl
 rcases hp.cases with ⟨k,n,rfl,rfl,hk,hn,he⟩ | ⟨_,_,_,_,he,_⟩
 case inr=>cases he
 injection he with he
 subst he
 unfold qf
 simp only[qx,List.getElem?_cons_zero,Option.bind_some,zij hN hk hn]
 rcases hq.cases with ⟨k2,n2,rfl,rfl,hk2,hn2,rfl⟩ | ⟨c,r,ts,rfl,rfl,hc,hr⟩
 ·simp only[List.getElem?_cons_zero,Option.bind_some,zij hN hk2 hn2]
  rw[decide_eq_false (show ¬ (-1 - (k2:Int) ≥ 0) by omega),cond_false]
  have hw:=hu _ rfl
  by_cases h1:k2+n2 > k+n
  ·rw[decide_eq_true (show ((k2+n2:Nat):Int) > ((k+n:Nat):Int) by omega),cond_true,zaJ (by omega),Option.bind_some]
   obtain⟨x,hx,-⟩:=hT.get (x:=k2+n2) (by omega)
   rw[hx,Option.bind_some,zmE hp,Option.bind_some]
   refine ⟨true,_,rfl,.inr ⟨rfl,_,_,hT.set (by omega) hp,hG.bind hw ?_ ?_,fun θ=>(SolB.upd hw).trans ?_⟩⟩
   ·show ¬ (σ (k+n)).has (k2+n2)
    rw[hG.free _ hv]
    show ¬ (k+n=k2+n2)
    omega
   ·intro y hy
    injection hy with hy
    omega
   ·show _∧θ (k2+n2)=θ (k+n) ↔ _∧θ (k+n)=θ (k2+n2)
    exact ⟨fun h=>⟨h.1,h.2.symm⟩,fun h=>⟨h.1,h.2.symm⟩⟩
  ·rw[decide_eq_false (show ¬ (((k2+n2:Nat):Int) > ((k+n:Nat):Int)) by omega),cond_false]
   by_cases h2:k2+n2 < k+n
   ·rw[decide_eq_true (show ((k2+n2:Nat):Int) < ((k+n:Nat):Int) by omega),cond_true,zaJ (by omega),Option.bind_some]
    obtain⟨x,hx,-⟩:=hT.get (x:=k+n) (by omega)
    rw[hx,Option.bind_some,zmE hq,Option.bind_some]
    refine ⟨true,_,rfl,.inr ⟨rfl,_,_,hT.set (by omega) hq,hG.bind hv ?_ ?_,fun θ=>SolB.upd hv⟩⟩
    ·show ¬ (σ (k2+n2)).has (k+n)
     rw[hG.free _ hw]
     show ¬ (k2+n2=k+n)
     omega
    ·intro y hy
     injection hy with hy
     omega
   ·rw[decide_eq_false (show ¬ (((k2+n2:Nat):Int) < ((k+n:Nat):Int)) by omega),cond_false]
    have:k2+n2=k+n:=by omega
    refine ⟨true,_,rfl,.inr ⟨rfl,B,σ,hT,hG,fun θ=>⟨fun h=>⟨h,?_⟩,fun h=>h.1⟩⟩⟩
    show θ (k+n)=θ (k2+n2)
    rw[this]
 ·simp only[List.getElem?_cons_zero,Option.bind_some]
  rw[decide_eq_true (show (c:Int) ≥ 0 by omega),cond_true]
  obtain⟨w,hw1,hw2⟩:=zqk hN hT hG hv hq
  rw[hw1,Option.bind_some]
  cases w with
  | true =>
   refine ⟨false,_,rfl,.inl ⟨rfl,fun θ h1 h2=>hG.occurs (hw2.1 rfl) h1 h2⟩⟩
  | false =>
   rw[cond_false,zaJ (by omega),Option.bind_some]
   obtain⟨x,hx,-⟩:=hT.get (x:=k+n) (by omega)
   rw[hx,Option.bind_some,zmE hq,Option.bind_some]
   refine ⟨true,_,rfl,.inr ⟨rfl,_,_,hT.set (by omega) hq,hG.bind hv (fun h=>by have:=hw2.2 h; cases this) (fun y hy=>by cases hy),fun θ=>SolB.upd hv⟩⟩
end
end Go.Abs.Q
namespace Go.Abs.Q
open Go Go.Abs
section
def wt (σ:Sb) (E:List (Tm×Tm)):Nat:=(E.map fun e=>(e.1.sub σ).size).sum
theorem zkE (σ:Sb) (E F:List (Tm×Tm)):wt σ (E++F)=wt σ E+wt σ F:=by simp [wt]
theorem zBp (σ:Sb) (e:Tm×Tm):wt σ [e]=(e.1.sub σ).size:=by simp [wt]
theorem zvh (σ:Sb):{ts us:List Tm}→ts.length=us.length→wt σ (ts.zip us)=za3 (zbI σ ts)
 | [],_,_=>rfl
 | _ :: _,[],h=>by simp at h
 | t :: ts,u :: us,h=>by
  have:=zvh σ (ts:=ts) (us:=us) (by simpa using h)
  simp only[wt] at this ⊢
  simp only[List.zip_cons_cons,List.map_cons,List.sum_cons,zbI,za3,this]
def HtOk (R:List Tm) (B:Bd) (i:Nat) (t:Tm):Prop:=∃ δ:Nat,i≤47+3 * δ∧∀ θ,SolB θ B→∃ c∈R,δ+(t.sub θ).ht≤(c.sub θ).ht
def StkOk (R:List Tm) (B:Bd) (E:List (Tm×Tm)):Prop:=∀ (i:Nat) e,E[i]? = some e→HtOk R B i e.1
theorem HtOk.mono {R:List Tm} {B B':Bd} {i:Nat} {t:Tm} (h:HtOk R B i t) (hB:∀ θ,SolB θ B'→SolB θ B):HtOk R B' i t:=by
 obtain⟨δ,h1,h2⟩:=h
 exact ⟨δ,h1,fun θ hθ=>h2 θ (hB θ hθ)⟩
theorem StkOk.mono {R:List Tm} {B B':Bd} {E:List (Tm×Tm)} (h:StkOk R B E) (hB:∀ θ,SolB θ B'→SolB θ B):StkOk R B' E:=fun i e he=>(h i e he).mono hB
theorem StkOk.left {R:List Tm} {B:Bd} {E F:List (Tm×Tm)} (h:StkOk R B (E++F)):StkOk R B E:=fun i e he=>h i e (by
 rw[List.getElem?_append_left (List.getElem?_eq_some_iff.1 he).1]; exact he)
theorem StkOk.len {R:List Tm} {B:Bd} {σ:Sb} {E:List (Tm×Tm)} (h:StkOk R B E) (hG:Good B σ) (hS:zjC B) (hR:∀ c∈R,c.size≤48):E.length≤8000:=by
 rcases Nat.eq_zero_or_pos E.length with h0 | h0
 ·omega
 ·obtain⟨δ,h1,h2⟩:=h (E.length - 1) E[E.length - 1] (List.getElem?_eq_getElem (by omega))
  obtain⟨c,hc,h3⟩:=h2 σ hG.bound
  have h4:=Tm.ht_sub (s:=σ) c fun x _=>hG.low hS x
  have h5:=c.ht_size
  have h6:=hR c hc
  omega
theorem zIm (t:Tm):0 < t.ht:=by cases t <;> simp [Tm.ht]
def SameR (a0:List zm) (N:Nat) (B:Bd) (E:List (Tm×Tm)) (r:Bool×List zm×List PO):Prop :=
 r.2.1=a0∧((r.1=false∧Out B E none)∨(r.1=true∧∃ B',RepT a0 N r.2.2 B'∧Out B E (some B')))
theorem SameR.via {a0:List zm} {N:Nat} {B B1:Bd} {E E1:List (Tm×Tm)} (h:∀ θ,(SolB θ B1∧Sol θ E1) ↔ (SolB θ B∧Sol θ E)) {r:Bool×List zm×List PO} (hr:SameR a0 N B1 E1 r):SameR a0 N B E r :=
 ⟨hr.1,hr.2.imp (fun h1=>⟨h1.1,Out.via h h1.2⟩) fun ⟨h1,B',h2,h3⟩=>⟨h1,B',h2,Out.via h h3⟩⟩
theorem zzC {a0:List zm} (hs:SignOk a0) {N:Nat} (hN:N≤24) (R:List Tm) (hR:∀ c∈R,c.size≤48):∀ (n:Nat) (to:List PO) (B:Bd) (σ:Sb) (todo:List (List Int×Int×List Int×Int)) (E:List (Tm×Tm)),
  RepT a0 N to B→Good B σ→PqL a0 N todo E→StkOk R B E →
  (∃ r,(∀ k,lp zC (k+n) (a0,to,todo)=some r)∧SameR a0 N B E r)∨∃ B' σ',Good B' σ'∧zjC B'∧(∀ θ,SolB θ B'→SolB θ B)∧n≤wt σ' E:=by
 intro n
 induction n with
 | zero=>intro to B σ todo E hT hG _ _; exact .inr ⟨B,σ,hG,hT.small,fun _ h=>h,Nat.zero_le _⟩
 | succ n ih =>
  intro to B σ todo E hT hG hP hK
  have hlen:=hK.len hG hT.small hR
  have hpl:=hP.length
  -- one round, and what is left
  have go:∀ (to1:List PO) (B1:Bd) (σ1:Sb) (todo1:List (List Int×Int×List Int×Int)) (E1:List (Tm×Tm)),RepT a0 N to1 B1→Good B1 σ1→PqL a0 N todo1 E1→StkOk R B1 E1 →
    (∀ θ,(SolB θ B1∧Sol θ E1) ↔ (SolB θ B∧Sol θ E))→(∀ θ,SolB θ B1→SolB θ B)→(∀ σ',SolB σ' B1→wt σ' E1+1≤wt σ' E)→(∀ rec,zC rec (a0,to,todo)=rec (a0,to1,todo1)) →
    ((∃ r,(∀ k,lp zC (k+(n+1)) (a0,to,todo)=some r)∧SameR a0 N B E r)∨∃ B' σ',Good B' σ'∧zjC B'∧(∀ θ,SolB θ B'→SolB θ B)∧n+1≤wt σ' E):=by
   intro to1 B1 σ1 todo1 E1 h1 h2 h3 h4 h5 h6 h7 h8
   rcases ih to1 B1 σ1 todo1 E1 h1 h2 h3 h4 with ⟨r,h9,h10⟩ | ⟨B',σ',h9,h10,h11,h12⟩
   ·refine .inl ⟨r,fun k => ?_,h10.via h5⟩
    rw[← Nat.add_assoc,zl,h8]
    exact h9 k
   ·have:=h7 σ' (h11 _ h9.bound)
    exact .inr ⟨B',σ',h9,h10,fun θ hθ=>h6 θ (h11 θ hθ),by omega⟩
  have stop:∀ r,SameR a0 N B E r→(∀ rec,zC rec (a0,to,todo)=some r) →
    ((∃ r,(∀ k,lp zC (k+(n+1)) (a0,to,todo)=some r)∧SameR a0 N B E r)∨∃ B' σ',Good B' σ'∧zjC B'∧(∀ θ,SolB θ B'→SolB θ B)∧n+1≤wt σ' E) :=
   fun r h1 h2=>.inl ⟨r,fun k=>by rw[← Nat.add_assoc,zl,h2],h1⟩
  rcases List.eq_nil_or_concat todo with rfl | ⟨todo',t,rfl⟩
  ·have hE:E=[]:=hP
   subst hE
   exact stop (true,a0,to) ⟨rfl,.inr ⟨rfl,B,hT,Out.done hG hT.small⟩⟩ fun rec=>rfl
  ·rw[List.concat_eq_append] at *
   obtain⟨p,d,q,e⟩:=t
   obtain⟨E',F,rfl,hP',hF⟩:=PqL.split hP
   obtain⟨⟨s,u⟩,F',rfl,⟨hps,hqu⟩,hF'⟩:=hF
   have hF':F'=[]:=hF'
   subst hF'
   have hps:Pc a0 N p d s:=hps
   have hqu:Pc a0 N q e u:=hqu
   obtain⟨p1,d1,s1,hw1,hp1,hs1,hb1⟩:=zpo hN hT hG hps
   obtain⟨q1,e1,u1,hw2,hq1,hu1,hb2⟩:=zpo hN hT hG hqu
   simp only[List.length_append,List.length_singleton] at hlen hpl
   have x1:IntKind.wrap .i64 (((List.length (todo'++[(p,d,q,e)]):Nat):Int) - 1)=((todo'.length:Nat):Int):=by
    rw[List.length_append,List.length_singleton,yk] <;> omega
   have x2:inR ((todo'.length:Nat):Int) (List.length (todo'++[(p,d,q,e)]))=some todo'.length:=zaJ (by simp)
   have x3:(todo'++[(p,d,q,e)])[todo'.length]? = some (p,d,q,e):=zp1 _ [] _
   have x4:(((List.length (todo'++[(p,d,q,e)]):Nat):Int) == 0)=false:=by simp; omega
   have hsol:∀ θ,SolB θ B→(Sol θ (E'++[(s,u)]) ↔ Sol θ E'∧s1.sub θ=u1.sub θ):=fun θ hθ=>by
    rw[Sol.append,Sol.cons,hs1 θ hθ,hu1 θ hθ]
    exact ⟨fun h=>⟨h.1,h.2.1⟩,fun h=>⟨h.1,h.2,Sol.nil⟩⟩
   -- one round
   have round:∀ rec,zC rec (a0,to,todo'++[(p,d,q,e)])=(gx p1 0).bind fun e34=>cond (decide (e34 < 0))
     ((qf p1 d1 q1 e1 a0 to).bind fun r35=>cond r35.1 (rec (r35.2.1,r35.2.2,todo')) (some (false,r35.2.1,r35.2.2)))
     ((gx q1 0).bind fun e36=>cond (decide (e36 < 0))
      ((qf q1 e1 p1 d1 a0 to).bind fun r37=>cond r37.1 (rec (r37.2.1,r37.2.2,todo')) (some (false,r37.2.1,r37.2.2)))
      ((gx p1 0).bind fun e38=>(gx q1 0).bind fun e39=>cond (e38 != e39) (some (false,a0,to))
       ((zbS p1 (some 1) none).bind fun y40=>(zbS q1 (some 1) none).bind fun y41=>(qy y40 d1 y41 e1 a0 to todo').bind fun r42=>rec (a0,to,r42)))):=by
    intro rec
    unfold zC
    simp only[x1,x2,x3,x4,Option.bind_some,cond_false,zrb,hw1,hw2]
   have hbind:∀ {B1:Bd} {v:Nat} {w:Tm},(∀ θ,SolB θ B1 ↔ SolB θ B∧θ v=w.sub θ)→(∀ θ,SolB θ B→(s1.sub θ=u1.sub θ ↔ θ v=w.sub θ))→∀ θ,(SolB θ B1∧Sol θ E') ↔ (SolB θ B∧Sol θ (E'++[(s,u)])):=by
    intro B1 v w h1 h2 θ
    rw[h1 θ]
    constructor
    ·rintro⟨⟨h3,h4⟩,h5⟩
     exact ⟨h3,(hsol θ h3).2 ⟨h5,(h2 θ h3).2 h4⟩⟩
    ·rintro⟨h3,h4⟩
     have h6:=(hsol θ h3).1 h4
     exact ⟨⟨h3,(h2 θ h3).1 h6.2⟩,h6.1⟩
   have hwt:∀ σ',wt σ' E'+1≤wt σ' (E'++[(s,u)]):=fun σ'=>by
    rw[zkE,zBp]
    have:=(s.sub σ').size_pos
    show wt σ' E'+1≤wt σ' E'+(s.sub σ').size
    omega
   rcases hp1.cases with ⟨k1,n1,rfl,rfl,hk1,hn1,rfl⟩ | ⟨c1,r1,ts1,rfl,rfl,hc1,hr1⟩
   ·-- a variable on the left
    obtain⟨r,to1,hput,hres⟩:=zrl hN hT hG hp1 hq1 (hb1 _ rfl) hb2
    rcases hres with ⟨rfl,hno⟩ | ⟨rfl,B1,σ1,hT1,hG1,hB1⟩
    ·refine stop (false,a0,to1) ⟨rfl,.inl ⟨rfl,fun θ h1 h2=>hno θ h1 ((hsol θ h1).1 h2).2⟩⟩ fun rec => ?_
     rw[round,qx,List.getElem?_cons_zero,Option.bind_some,decide_eq_true (show -1 - (k1:Int) < 0 by omega),cond_true,hput]
     rfl
    ·refine go to1 B1 σ1 todo' E' hT1 hG1 hP' (hK.left.mono fun θ h=>((hB1 θ).1 h).1) (hbind hB1 fun θ _=>Iff.rfl) (fun θ h=>((hB1 θ).1 h).1) (fun σ' _=>hwt σ') fun rec => ?_
     rw[round,qx,List.getElem?_cons_zero,Option.bind_some,decide_eq_true (show -1 - (k1:Int) < 0 by omega),cond_true,hput]
     rfl
   ·rcases hq1.cases with ⟨k2,n2,rfl,rfl,hk2,hn2,rfl⟩ | ⟨c2,r2,ts2,rfl,rfl,hc2,hr2⟩
    ·obtain⟨r,to1,hput,hres⟩:=zrl hN hT hG hq1 hp1 (hb2 _ rfl) hb1
     rcases hres with ⟨rfl,hno⟩ | ⟨rfl,B1,σ1,hT1,hG1,hB1⟩
     ·refine stop (false,a0,to1) ⟨rfl,.inl ⟨rfl,fun θ h1 h2=>hno θ h1 ((hsol θ h1).1 h2).2.symm⟩⟩ fun rec => ?_
      rw[round]
      simp only[qx,List.getElem?_cons_zero,Option.bind_some]
      rw[decide_eq_false (show ¬ (c1:Int) < 0 by omega),cond_false,decide_eq_true (show -1 - (k2:Int) < 0 by omega),cond_true,hput]
      rfl
     ·refine go to1 B1 σ1 todo' E' hT1 hG1 hP' (hK.left.mono fun θ h=>((hB1 θ).1 h).1) (hbind hB1 fun θ _=>⟨fun h=>h.symm,fun h=>h.symm⟩) (fun θ h=>((hB1 θ).1 h).1) (fun σ' _=>hwt σ') fun rec => ?_
      rw[round]
      simp only[qx,List.getElem?_cons_zero,Option.bind_some]
      rw[decide_eq_false (show ¬ (c1:Int) < 0 by omega),cond_false,decide_eq_true (show -1 - (k2:Int) < 0 by omega),cond_true,hput]
      rfl
    ·by_cases hcc:c1=c2
     ·subst hcc
      have hl:ts1.length=ts2.length:=by rw[hc1] at hc2; injection hc2
      have hl3:ts1.length≤3:=zmq hs hc1
      obtain⟨more,hm1,hm2⟩:=zlK hs hr1 hr2 hl to (out:=todo') (by omega)
      refine go to B σ (todo'++more) (E'++ts1.zip ts2) hT hG (hP'.append hm2) ?_ ?_ (fun _ h=>h) ?_ fun rec => ?_
      ·intro i e hi
       rcases Nat.lt_or_ge i E'.length with hlt | hge
       ·rw[List.getElem?_append_left hlt] at hi
        exact hK.left i e hi
       ·rw[List.getElem?_append_right hge] at hi
        have hi3:i - E'.length < 3:=by
         have:=(List.getElem?_eq_some_iff.1 hi).1
         rw[List.length_zip] at this
         omega
        obtain⟨δ,h1,h2⟩:=hK E'.length (s,u) (by rw[List.getElem?_append_right (Nat.le_refl _),Nat.sub_self]; rfl)
        refine ⟨δ+1,by omega,fun θ hθ => ?_⟩
        obtain⟨c,hc,h3⟩:=h2 θ hθ
        refine ⟨c,hc,?_⟩
        have h3:δ+(s.sub θ).ht≤(c.sub θ).ht:=h3
        rw[hs1 θ hθ] at h3
        have h4:e.1∈ts1:=(List.of_mem_zip (a:=e.1) (b:=e.2) (List.mem_of_getElem? hi)).1
        have h5:(e.1.sub θ).ht≤htR (zbI θ ts1):=zp7 (by rw[zkZ]; exact List.mem_map_of_mem h4)
        have h6:((Tm.f c1 ts1).sub θ).ht=htR (zbI θ ts1)+1:=rfl
        omega
      ·intro θ
       rw[Sol.append,Sol.zip hl]
       constructor
       ·rintro⟨h1,h2,h3⟩
        exact ⟨h1,(hsol θ h1).2 ⟨h2,zIC.2 ⟨rfl,h3⟩⟩⟩
       ·rintro⟨h1,h2⟩
        have h3:=(hsol θ h1).1 h2
        exact ⟨h1,h3.1,(zIC.1 h3.2).2⟩
      ·intro σ' hσ'
       rw[zkE,zkE,zBp,zvh σ' hl]
       show _≤wt σ' E'+(s.sub σ').size
       rw[hs1 σ' hσ']
       show _≤wt σ' E'+(za3 (zbI σ' ts1)+1)
       omega
      ·rw[round]
       simp only[qx,List.getElem?_cons_zero,Option.bind_some]
       rw[decide_eq_false (show ¬ (c1:Int) < 0 by omega),cond_false,cond_false,show ((c1:Int) != (c1:Int))=false from by simp,cond_false,zcU,Option.bind_some,zcU,Option.bind_some,hm1]
       rfl
     ·refine stop (false,a0,to) ⟨rfl,.inl ⟨rfl,fun θ h1 h2=>hcc (zIC.1 ((hsol θ h1).1 h2).2).1⟩⟩ fun rec => ?_
      rw[round]
      simp only[qx,List.getElem?_cons_zero,Option.bind_some]
      rw[decide_eq_false (show ¬ (c1:Int) < 0 by omega),cond_false,decide_eq_false (show ¬ (c2:Int) < 0 by omega),cond_false,show ((c1:Int) != (c2:Int))=true from by simp; omega,cond_true]
theorem zu5 {a0:List zm} (hs:SignOk a0) {N:Nat} (hN:N≤24) {to:List PO} {B:Bd} {σ:Sb} (hT:RepT a0 N to B) (hG:Good B σ) {p q:List Int} {d e:Int} {ts us:List Tm} (hp:Pr a0 N p d ts) (hq:Pr a0 N q e us) (hl:ts.length=us.length) :
  ∃ r,zai p d q e a0 to=some r∧SameR a0 N B (ts.zip us) r:=by
 have eta:∀ o:Option (Bool×List zm×List PO),(o.bind fun r=>some (r.1,r.2.1,r.2.2))=o:=fun o=>by cases o <;> rfl
 obtain⟨more,hm1,hm2⟩:=zlK hs hp hq hl to (out:=[]) (by simp)
 have e0:zai p d q e a0 to=lp zC (zr+1) (a0,to,more):=by
  unfold zai
  rw[hm1,Option.bind_some,zl,List.nil_append]
  generalize lp zC zr=rec
  unfold zC
  simp only[eta]
 have hsz:∀ c∈ts,c.size≤48:=fun c hc=>by
  obtain⟨us0,n,h1,rfl,h2,h3,rfl,h4⟩:=hp
  obtain⟨c0,h5,rfl⟩:=List.mem_map.1 hc
  rw[Tm.up_size,← Tm.codes_len]
  exact Nat.le_trans (zhD h5) h4
 have hlen:ts.length≤48:=by
  obtain⟨us0,n,h1,rfl,h2,h3,rfl,h4⟩:=hp
  have:=zjS (zah us0 h1)
  rw[List.length_map] at this ⊢
  omega
 have hK:StkOk ts B (ts.zip us):=fun i x hi=>by
  have hi0:=(List.getElem?_eq_some_iff.1 hi).1
  rw[List.length_zip] at hi0
  exact ⟨0,by omega,fun θ _=>⟨x.1,(List.of_mem_zip (a:=x.1) (b:=x.2) (List.mem_of_getElem? hi)).1,by omega⟩⟩
 rw[e0]
 rcases zzC hs hN ts hsz (48 * (48 * 48 ^ 49)+1) to B σ more (ts.zip us) hT hG hm2 hK with ⟨r,h1,h2⟩ | ⟨B',σ',h1,h2,h3,h4⟩
 ·have:=h1 (zr+1 - (48 * (48 * 48 ^ 49)+1))
  rw[show zr+1 - (48 * (48 * 48 ^ 49)+1)+(48 * (48 * 48 ^ 49)+1)=zr+1 from by unfold zr; omega] at this
  exact ⟨r,this,h2⟩
 ·exfalso
  rw[zvh σ' hl,zkZ,znE,List.map_map] at h4
  have h5:∀ l:List Tm,(∀ c∈l,c.size≤48)→(l.map (Tm.size ∘ Tm.sub σ')).sum≤l.length * (48 * 48 ^ 49):=by
   intro l
   induction l with
   | nil=>intro _; simp
   | cons c l ih =>
    intro h
    have h6:=ih fun c hc=>h c (List.mem_cons_of_mem _ hc)
    have h7:=h1.small_sub h2 c
    have h8:=h c (List.mem_cons_self ..)
    have h9:c.size * 48 ^ 49≤48 * 48 ^ 49:=Nat.mul_le_mul_right _ h8
    simp only[List.map_cons,List.sum_cons,List.length_cons,Function.comp_apply]
    rw[Nat.add_mul,Nat.one_mul]
    omega
  have h6:=h5 ts hsz
  have h7:ts.length * (48 * 48 ^ 49)≤48 * (48 * 48 ^ 49):=Nat.mul_le_mul_right _ hlen
  omega
end
end Go.Abs.Q
namespace Go.Abs.Q
open Go Go.Abs
section
def zgr (s:Sb) (c:Int):List Int:=if c < 0 then (s (-1 - c).toNat).codes else [c]
mutual
theorem Tm.codes_sub (s:Sb):(t:Tm)→(t.sub s).codes=t.codes.flatMap (zgr s)
 | .v n=>by
  show (s n).codes=[-1 - (n:Int)].flatMap (zgr s)
  simp only[List.flatMap_cons,List.flatMap_nil,List.append_nil,zgr]
  rw[if_pos (by omega),show (-1 - (-1 - (n:Int))).toNat=n from by omega]
 | .f c as=>by
  show (c:Int) :: zK (zbI s as)=((c:Int) :: zK as).flatMap (zgr s)
  rw[List.flatMap_cons,zl4 s as]
  unfold zgr
  rw[if_neg (by omega)]
  rfl
theorem zl4 (s:Sb):(ts:List Tm)→zK (zbI s ts)=(zK ts).flatMap (zgr s)
 | []=>rfl
 | t :: ts=>by
  show (t.sub s).codes++zK (zbI s ts)=(t.codes++zK ts).flatMap (zgr s)
  rw[Tm.codes_sub s t,zl4 s ts,List.flatMap_append]
end
theorem zlV {k:Nat} (hk:k < 24) (p:Option (List Int)):qX p 0 (-1 - (k:Int))=some (k:Int):=by
 unfold qX
 rw[zbA (by omega) (by omega),Option.bind_some]
 congr 1
 rw[yk] <;> omega
section
variable {a0:List zm} {to:List PO} {B:Bd} {σ:Sb}
def zFK (o:List Int):Option (List Int):=if o.length≤48 then some o else none
theorem zpT (hT:RepT a0 0 to B) (hG:Good B σ) (p:List Int) (hp48:p.length≤48) (rf:((Option (List Int))×Int×(List zm)×(List PO))→Option (Option (List Int)))
  (hrf:∀ (y:Nat) q d u,(-1 - (y:Int))∈p→to[y]? = some (some q,d)→B y=some u→rf (some q,d,a0,to)=some (zFK (u.sub σ).codes)):∀ (es:List Int) (i k:Nat) (out:List Int),p.drop i=es→es.length < k→(∀ c∈es,-24≤c)→out.length≤48 →
  lp (yp rf) k (some p,((p.length:Nat):Int),(i:Int),a0,to,some p,0,out)=some (if out.length+(es.flatMap (zgr σ)).length≤48 then .inl (out++es.flatMap (zgr σ)) else .inr ()):=by
 intro es
 induction es with
 | nil =>
  intro i k out h hk _ ho
  obtain⟨k,rfl⟩:∃ k',k=k'+1:=⟨k - 1,by simp at hk; omega⟩
  rw[zl]
  generalize lp (yp rf) k=rec
  unfold yp
  have hi:p.length≤i:=by
   have:=congrArg List.length h
   simp at this; omega
  rw[decide_eq_false (show ¬ ((i:Int) < ((p.length:Nat):Int)) by omega),cond_false]
  simp [ho]
 | cons c es ih =>
  intro i k out h hk hc ho
  obtain⟨k,rfl⟩:∃ k',k=k'+1:=⟨k - 1,by simp at hk; omega⟩
  rw[zl]
  have key:=fun out' ho'=>ih (i+1) k out' (zj h) (by simp at hk; omega) (fun c h=>hc c (List.mem_cons_of_mem _ h)) ho'
  generalize lp (yp rf) k=rec at key ⊢
  unfold yp
  have hget:=zk h
  have hi:i < p.length:=(List.getElem?_eq_some_iff.1 hget).1
  have hmem:c∈p:=List.mem_of_getElem? hget
  have hw:IntKind.wrap .i64 ((i:Int)+1)=((i+1:Nat):Int):=by rw[yk] <;> omega
  rw[decide_eq_true (show ((i:Int) < ((p.length:Nat):Int)) by omega),cond_true]
  simp only[Option.getD_some,zP,hget,Option.bind_some,hw]
  -- one code that stays
  have stay:zgr σ c=[c]→(((nn ([c]:List Int)).bind fun _=>some false).bind fun z=>cond z (some (Sum.inr ()))
    (cond (decide ((IntKind.wrap .i64 (((List.length out:Nat):Int)+((List.length ([c]:List Int):Nat):Int))) > 48)) (some (Sum.inr ()))
     (cond (qt (List.length out+List.length ([c]:List Int)) 8) (rec (some p,((p.length:Nat):Int),((i+1:Nat):Int),a0,to,some p,0,(out++([c]:List Int)))) none))) =
    some (if out.length+((c :: es).flatMap (zgr σ)).length≤48 then .inl (out++(c :: es).flatMap (zgr σ)) else .inr ()):=by
   intro he
   have e1:(nn ([c]:List Int))=some [c]:=rfl
   rw[e1,List.flatMap_cons,he]
   have w2:IntKind.wrap .i64 (((List.length out:Nat):Int)+((List.length ([c]:List Int):Nat):Int))=((out.length+1:Nat):Int):=by
    rw[yk] <;> simp only[List.length_singleton] <;> omega
   simp only[Option.bind_some,cond_false,w2]
   simp only[List.length_append,List.length_singleton]
   by_cases h48:out.length+1≤48
   ·rw[decide_eq_false (show ¬ (((out.length+1:Nat):Int) > 48) by omega),cond_false,zT (by omega),cond_true,key _ (by simp; omega)]
    simp only[List.length_append,List.length_singleton,List.append_assoc]
    have:out.length+1+(es.flatMap (zgr σ)).length=out.length+(1+(es.flatMap (zgr σ)).length):=by omega
    rw[this]
   ·rw[decide_eq_true (show (((out.length+1:Nat):Int) > 48) by omega),cond_true,if_neg (by omega)]
  by_cases h0:c < 0
  ·obtain⟨y,hy,rfl⟩:∃ y:Nat,y < 24∧c = -1 - (y:Int):=⟨(-1 - c).toNat,by have:=hc c (List.mem_cons_self ..); omega,by omega⟩
   rw[decide_eq_true h0,cond_true,zlV hy,Option.bind_some,zaJ (show y < 48 by omega),Option.bind_some]
   obtain⟨e,he,hpe⟩:=hT.get (x:=y) (by omega)
   rw[he,Option.bind_some]
   have hexp:zgr σ (-1 - (y:Int))=(σ y).codes:=by
    unfold zgr
    rw[if_pos h0,show (-1 - (-1 - (y:Int))).toNat=y from by omega]
   unfold PcO at hpe
   split at hpe
   ·rename_i h1
    rw[h1]
    simp only[Option.isNone_none,Bool.not_true,cond_false]
    exact stay (by rw[hexp,hG.free y hpe]; rfl)
   ·rename_i q h1
    obtain⟨u,hu,hq⟩:=hpe
    rw[h1]
    simp only[Option.isNone_some,Bool.not_false,cond_true,zlV hy,Option.bind_some,zaJ (show y < 48 by omega),he]
    rw[h1,hrf y q e.2 u hmem (by rw[he,← h1]) hu,Option.bind_some]
    rw[List.flatMap_cons,hexp,hG.bound y u hu]
    unfold zFK
    by_cases hsz:(u.sub σ).codes.length≤48
    ·rw[if_pos hsz]
     have w2:IntKind.wrap .i64 (((List.length out:Nat):Int)+(((u.sub σ).codes.length:Nat):Int))=((out.length+(u.sub σ).codes.length:Nat):Int):=by
      rw[yk] <;> omega
     simp only[Option.isNone_some,cond_false,Option.getD_some,w2]
     simp only[List.length_append]
     by_cases h48:out.length+(u.sub σ).codes.length≤48
     ·rw[decide_eq_false (show ¬ (((out.length+(u.sub σ).codes.length:Nat):Int) > 48) by omega),cond_false,zT (by omega),cond_true,key _ (by simp; omega)]
      simp only[List.length_append,List.append_assoc]
      rw[Nat.add_assoc]
     ·rw[decide_eq_true (show (((out.length+(u.sub σ).codes.length:Nat):Int) > 48) by omega),cond_true,if_neg (by omega)]
    ·rw[if_neg hsz]
     simp only[Option.isNone_none,cond_true,List.length_append]
     rw[if_neg (by omega)]
  ·rw[decide_eq_false h0,cond_false]
   exact stay (by unfold zgr; rw[if_neg h0])
theorem zt8 (hT:RepT a0 0 to B) (hG:Good B σ):∀ (k m:Nat) (p:List Int) (d:Int) (t:Tm),Pc a0 0 p d t→(∀ y,t.has y→B y ≠ none→Good.rank σ y < m)→m < k →
  y5 k (some p,d,a0,to)=some (zFK (t.sub σ).codes):=by
 intro k
 induction k with
 | zero=>intro m p d t _ _ h; omega
 | succ k ih =>
  intro m p d t hp hm hk
  obtain⟨u,n,h1,rfl,rfl,h2,rfl,h3⟩:=hp
  have hn:n=0:=by omega
  subst hn
  rw[Tm.up_zero] at hm ⊢
  have hsmall:∀ c∈u.codes,-24≤c:=fun c hc=>by
   by_cases h0:c < 0
   ·have:=Tm.ok_has u h1 ((Tm.mem_codes h0 u).1 hc); omega
   ·omega
  show zch (y5 k) (some u.codes) ((0:Nat):Int) a0 to=_
  unfold zch
  have hr:=zpT hT hG u.codes h3 (y5 k) (fun y q d w hy hto hw=>by
   have hyu:u.has y:=by
    have:=(Tm.mem_codes (by omega) u).1 hy
    rwa [show (-1 - (-1 - (y:Int))).toNat=y from by omega] at this
   have hpc:Pc a0 0 q d w:=by
    have:=hT.at_ y _ hto
    obtain⟨t',h5,h6⟩:=(show ∃ t,B y=some t∧Pc a0 0 q d t from this)
    rw[hw] at h5; injection h5 with h5; subst h5
    exact h6
   have hlt:=hm y hyu (by rw[hw]; simp)
   exact ih (Good.rank σ y) q d w hpc (fun z hz hb=>hG.rank_lt hw hz (by
    cases hbz:B z with
    | none=>exact absurd hbz hb
    | some x=>exact (hT.small z x hbz).1)) (by omega)) u.codes 0 zr [] rfl (by unfold zr; omega) hsmall (by simp)
  simp only[Option.getD_some]
  have hr:lp (yp (y5 k)) zr (some u.codes,((u.codes.length:Nat):Int),0,a0,to,some u.codes,((0:Nat):Int),[])=_:=hr
  rw[hr,← Tm.codes_sub]
  unfold zFK
  have hne:nn (u.sub σ).codes=some (u.sub σ).codes:=zi3 fun e=>by
   have:=congrArg List.length e
   rw[Tm.codes_len] at this
   have:=(u.sub σ).size_pos
   simp at *; omega
  by_cases h48:(u.sub σ).codes.length≤48
  ·simp only[List.length_nil,Nat.zero_add,List.nil_append]
   rw[if_pos h48,if_pos h48]
   simp only[Option.bind_some,zcs,hne]
  ·simp only[List.length_nil,Nat.zero_add]
   rw[if_neg h48,if_neg h48]
   rfl
theorem zsE (hT:RepT a0 0 to B) (hG:Good B σ) {p:List Int} {d:Int} {t:Tm} (hp:Pc a0 0 p d t):zdl (some p) d a0 to=some (zFK (t.sub σ).codes):=by
 refine zt8 hT hG zr 49 p d t hp (fun y _ _ => ?_) (by unfold zr; omega)
 have:=Good.rank_le σ y
 omega
def zsu (B:Bd) (v:Nat):Bool:=(B v).isSome
def za2 (B:Bd) (σ:Sb) (vs:List Nat):List (Int×List Int):=(vs.filter (zsu B)).map fun v:Nat=>((v:Int),(σ v).codes)
def zaB (σ:Sb) (vs:List Nat):Bool:=vs.all fun x=>decide ((σ x).size≤48)
theorem zqg (hT:RepT a0 0 to B) (hG:Good B σ):∀ (m v k:Nat) (out:List (Int×List Int)),24 - v=m→v≤24→m < k→out.length≤v →
  lp qY k ((v:Int),a0,to,out)=some (cond (zaB σ ((List.range 24).drop v)) (.inl (out++za2 B σ ((List.range 24).drop v))) (.inr (false,401))):=by
 intro m
 induction m with
 | zero =>
  intro v k out hm hv hk ho
  obtain⟨k,rfl⟩:∃ k',k=k'+1:=⟨k - 1,by omega⟩
  rw[zl]
  generalize lp qY k=rec
  unfold qY
  have:v=24:=by omega
  subst this
  rw[show (List.range 24).drop 24=[] from rfl]
  simp [za2,zaB]
 | succ m ih =>
  intro v k out hm hv hk ho
  obtain⟨k,rfl⟩:∃ k',k=k'+1:=⟨k - 1,by omega⟩
  rw[zl]
  have key:=fun out' ho'=>ih (v+1) k out' (by omega) (by omega) (by omega) ho'
  generalize lp qY k=rec at key ⊢
  unfold qY
  have w:IntKind.wrap .i64 ((v:Int)+1)=((v+1:Nat):Int):=by rw[yk] <;> omega
  obtain⟨e,he,hpe⟩:=hT.get (x:=v) (by omega)
  have hdr:(List.range 24).drop v=v :: (List.range 24).drop (v+1):=by
   rw[List.drop_eq_getElem_cons (by simp; omega)]
   simp
  simp only[decide_eq_true (show (v:Int) < 24 by omega),cond_true,zaJ (show v < 48 by omega),Option.bind_some,he,w]
  rw[hdr]
  unfold PcO at hpe
  split at hpe
  ·rename_i h1
   rw[h1]
   simp only[Option.isNone_none,cond_true]
   rw[key out (by omega)]
   have hs:(σ v).size≤48:=by rw[hG.free v hpe]; simp [Tm.size]
   have hb:zsu B v=false:=by simp [zsu,hpe]
   simp [za2,zaB,hb,hs]
  ·rename_i q h1
   obtain⟨u,hu,hq⟩:=hpe
   rw[h1]
   simp only[Option.isNone_some,cond_false]
   rw[zsE hT hG hq,Option.bind_some,← hG.bound v u hu]
   unfold zFK
   rw[Tm.codes_len]
   by_cases hs:(σ v).size≤48
   ·rw[if_pos hs]
    simp only[Option.isNone_some,cond_false,Option.getD_some]
    rw[zcM (by rw[Tm.codes_len]; omega),Option.bind_some,zT (by simp only[List.length_singleton]; omega),cond_true,key _ (by simp only[List.length_append,List.length_singleton]; omega)]
    have hb:zsu B v=true:=by simp [zsu,hu]
    simp [za2,zaB,hb,hs]
   ·rw[if_neg hs]
    simp only[Option.isNone_none,cond_true]
    simp [zaB,hs]
end
structure Mgu (σ:Sb) (E:List (Tm×Tm)):Prop where
 sol:Sol σ E
 gen:∀ θ,Sol θ E→∀ x,(σ x).sub θ=θ x
 le:∀ x y,σ x = .v y→y≤x
 idem:∀ x,(σ x).sub σ=σ x
theorem Mgu.of {B:Bd} {σ:Sb} {E:List (Tm×Tm)} (hG:Good B σ) (h:∀ θ,SolB θ B ↔ SolB θ (fun _=>none)∧Sol θ E):Mgu σ E where
 sol:=((h σ).1 hG.bound).2
 gen:=fun θ hθ=>hG.fac ((h θ).2 ⟨fun _ _ h=>(nomatch h),hθ⟩)
 le:=hG.le
 idem:=fun x=>by rw[← hG.fac hG.bound x]; exact hG.idem _
theorem Mgu.unique {σ σ':Sb} {E:List (Tm×Tm)} (h:Mgu σ E) (h':Mgu σ' E):σ=σ':=by
 have f1:∀ x,(σ x).sub σ'=σ' x:=h.gen σ' h'.sol
 have f2:∀ x,(σ' x).sub σ=σ x:=h'.gen σ h.sol
 have root:∀ y,σ y = .v y→σ' y = .v y:=by
  intro y hy
  have h1:(σ' y).sub σ = .v y:=by rw[f2,hy]
  cases hz:σ' y with
  | f c as=>rw[hz] at h1; cases h1
  | v z =>
   rw[hz] at h1
   have h2:=h'.le y z hz
   have h3:=h.le z y h1
   have:z=y:=by omega
   rw[this]
 have fix:∀ t:Tm,t.sub σ=t→∀ y,t.has y→σ y = .v y:=by
  intro t
  have key:∀ n,(∀ t:Tm,t.size≤n→t.sub σ=t→∀ y,t.has y→σ y = .v y)∧∀ ts:List Tm,za3 ts≤n→zbI σ ts=ts→∀ y,zmF y ts→σ y = .v y:=by
   intro n
   induction n with
   | zero =>
    refine ⟨fun t ht=>absurd t.size_pos (by omega),fun ts hts he y hy => ?_⟩
    cases ts with
    | nil=>exact hy.elim
    | cons t ts=>have:=t.size_pos; simp only[za3] at hts; omega
   | succ n ih =>
    have h1:∀ t:Tm,t.size≤n+1→t.sub σ=t→∀ y,t.has y→σ y = .v y:=by
     intro t ht he y hy
     cases t with
     | v z =>
      have hy:z=y:=hy
      subst hy
      exact he
     | f c as =>
      have he:Tm.f c (zbI σ as)=Tm.f c as:=he
      injection he with _ he
      simp only[Tm.size] at ht
      exact ih.2 as (by omega) he y hy
    refine ⟨h1,fun ts => ?_⟩
    induction ts with
    | nil=>intro _ _ y hy; exact hy.elim
    | cons t ts iht =>
     intro hts he y hy
     have he:t.sub σ :: zbI σ ts=t :: ts:=he
     injection he with he1 he2
     simp only[za3] at hts
     have:=t.size_pos
     rcases hy with hy | hy
     ·exact h1 t (by omega) he1 y hy
     ·exact ih.2 ts (by omega) he2 y hy
  exact (key t.size).1 t (Nat.le_refl _)
 funext x
 rw[← f1 x]
 conv=>lhs; rw[← Tm.sub_v (σ x)]
 exact Tm.sub_ext _ fun y hy=>(root y (fix _ (h.idem x) y hy)).symm
def moved (σ:Sb) (v:Nat):Bool:=match σ v with
 | .v y => !(y == v)
 | .f _ _=>true
theorem zuk {B:Bd} {σ:Sb} (h:Good B σ) (v:Nat):zsu B v=moved σ v:=by
 have:=h.moved (x:=v)
 unfold zsu moved
 cases hb:B v with
 | none =>
  rw[h.free v hb]
  simp
 | some t =>
  have h1:=this.1 (by rw[hb]; simp)
  cases hs:σ v with
  | f c as=>rfl
  | v y =>
   rw[hs] at h1
   have:y ≠ v:=fun e=>h1 (by rw[e])
   simp [this]
def zcR (σ:Sb):List (Int×List Int):=((List.range 24).filter (moved σ)).map fun v:Nat=>((v:Int),(σ v).codes)
theorem zL6 (a0:List zm) (N:Nat):RepT a0 N to0 (fun _=>none) where
 len:=by simp [to0]
 at_:=fun x e h=>by
  have hx:x < 48:=by
   have:=(List.getElem?_eq_some_iff.1 h).1
   simpa[to0] using this
  rw[zEM hx] at h
  injection h with h
  rw[← h]
  rfl
 out:=fun _ _=>rfl
theorem zl2 {a0:List zm} {xs ys:List Int} {ts us:List Tm} (hs:SignOk a0) (hx:xs=zK ts) (hy:ys=zK us) (ht:okR a0 24 ts) (hu:okR a0 24 us) (hb:zcX a0=true) (hlx:xs.length≤48) (hly:ys.length≤48) :
  (zde a0 xs ys=some (false,0,[])∧(ts.length ≠ us.length∨∀ θ,¬ Sol θ (ts.zip us))) ∨
  (ts.length=us.length∧∃ σ,Mgu σ (ts.zip us)∧(∀ x,x < 24→(σ x).ok a0 24)∧zde a0 xs ys=some (cond (zaB σ (List.range 24)) (true,0,zcR σ) (false,401,[]))):=by
 have hr:∀ {zs:List Int} {ws:List Tm},zs=zK ws→okR a0 24 ws→zs.length≤48→zgW a0 zs=some ws.length:=by
  intro zs ws h1 h2 h3
  unfold zgW zbJ
  rw[hb,decide_eq_true h3,h1,zah ws h2]
  simp
 unfold zde
 rw[zeA,hr hx ht hlx,Option.bind_some,zeA,hr hy hu hly,Option.bind_some]
 simp only
 rw[show ((0:Int) != 0)=false from rfl,cond_false,cond_false]
 by_cases hl:ts.length=us.length
 ·rw[hl,show (((us.length:Nat):Int) != ((us.length:Nat):Int))=false from by simp,cond_false]
  obtain⟨r,h1,h2,h3⟩:=zu5 hs (N:=0) (by omega) (zL6 a0 0) Good.empty (p:=xs) (q:=ys) (d:=0) (e:=0) (ts:=ts) (us:=us)
   ⟨ts,0,ht,hx,rfl,Nat.le_refl _,by rw[show Tm.up 0=id from funext Tm.up_zero,List.map_id],hlx⟩ ⟨us,0,hu,hy,rfl,Nat.le_refl _,by rw[show Tm.up 0=id from funext Tm.up_zero,List.map_id],hly⟩ hl
  have h1:zai xs 0 ys 0 a0 (List.replicate 48 ((none:Option (List Int)),(0:Int)))=some r:=h1
  rw[h1,Option.bind_some]
  rcases h3 with ⟨h3,h4⟩ | ⟨h3,B',h4,⟨σ,h5⟩,-,h6⟩
  ·rw[h3]
   exact .inl ⟨rfl,.inr fun θ h=>h4 θ (fun _ _ h=>(nomatch h)) h⟩
  ·rw[h3]
   have hok:∀ x,x < 24→(σ x).ok a0 24:=by
    refine h5.ind (fun x hx hlt=>by rw[h5.free x hx]; exact hlt) fun x t hx ih _ => ?_
    have hto:Pc a0 0 t.codes 0 t:=by
     obtain⟨e,he,hpe⟩:=h4.get (x:=x) (h4.small x t hx).1
     unfold PcO at hpe
     split at hpe
     ·rw[hx] at hpe; cases hpe
     ·obtain⟨u,hu,hq⟩:=hpe
      rw[hx] at hu; injection hu with hu; subst hu
      obtain⟨u0,n,g1,g2,g3,g4,g5,g6⟩:=hq
      have:n=0:=by omega
      subst this
      rw[Tm.up_zero] at g5
      subst g5
      exact ⟨t,0,g1,rfl,rfl,Nat.le_refl _,(Tm.up_zero t).symm,by rw[← g2]; exact g6⟩
    obtain⟨u0,n,g1,g2,g3,g4,g5,g6⟩:=hto
    have:n=0:=by omega
    subst this
    rw[Tm.up_zero] at g5
    subst g5
    rw[h5.bound x t hx]
    exact Tm.ok_sub t g1 fun y hy=>ih y hy (Tm.ok_has t g1 hy)
   refine .inr ⟨rfl,σ,Mgu.of h5 h6,hok,?_⟩
   simp only[Bool.not_true,cond_false]
   have:=zqg (a0:=r.2.1) (by rw[h2]; exact h4) h5 24 0 zr [] rfl (by omega) (by unfold zr; omega) (by simp)
   rw[show ((0:Nat):Int)=0 from rfl] at this
   rw[this,List.drop_zero]
   have he:za2 B' σ (List.range 24)=zcR σ:=by
    unfold za2 zcR
    rw[show zsu B'=moved σ from funext (zuk h5)]
   cases zaB σ (List.range 24) with
   | true=>simp only[cond_true,Option.bind_some,zcs,List.nil_append,he]
   | false=>rfl
 ·rw[show (((ts.length:Nat):Int) != ((us.length:Nat):Int))=true from by simp; omega,cond_true]
  exact .inl ⟨rfl,.inl hl⟩
end
end Go.Abs.Q
namespace Go.Abs.Q
open Go Go.Abs
section
abbrev Rise (xs:List Int):Prop:=xs.Pairwise (· < ·)
theorem Rise.lt {xs:List Int} (h:Rise xs) {i j:Nat} {x y:Int} (hi:xs[i]? = some x) (hj:xs[j]? = some y) (hij:i < j):x < y:=by
 obtain⟨h1,rfl⟩:=List.getElem?_eq_some_iff.1 hi
 obtain⟨h2,rfl⟩:=List.getElem?_eq_some_iff.1 hj
 exact List.pairwise_iff_getElem.1 h i j h1 h2 hij
def zJj (r:List Int) (x:Int):Prop:=∃ c∈r,c < 0∧x = -1 - c
def zAE (rs:List (List Int)) (x:Int):Prop:=∃ r∈rs,zJj r x
theorem zpg {r:List Int} {rs:List (List Int)} {x:Int}:zAE (r :: rs) x ↔ zJj r x∨zAE rs x:=by simp [zAE]
theorem zhM (rs ss:List (List Int)):zJ (rs++ss)=zJ rs+zJ ss:=by simp [zJ]
def zgg (L:List zd) (T:List (List Int)) (C:List zd):List (List Int):=L.map (·.2)++C.map (·.2)++T
def TopV (rs:List (List Int)) (m:Int):Prop:=(∀ x,zAE rs x→x < m)∧(m=0∨zAE rs (m - 1))
end
end Go.Abs.Q
namespace Go.Abs.Q
open Go Go.Abs
section
def zeI (s:Sb) (r:List Int):List Int:=r.flatMap (zgr s)
theorem zl5 (σ:Sb) (v:Nat):(vs:List Nat)→zds ((vs.filter (moved σ)).map fun v:Nat=>((v:Int),(σ v).codes)) (v:Int)=if v∈vs∧moved σ v=true then some (σ v).codes else none
 | []=>by simp [zds]
 | w :: vs=>by
  have ih:=zl5 σ v vs
  cases hm:moved σ w with
  | false =>
   rw[List.filter_cons_of_neg (by simp [hm]),ih]
   by_cases hv:v=w
   ·subst hv
    simp [hm]
   ·simp [hv]
  | true =>
   rw[List.filter_cons_of_pos hm,List.map_cons]
   unfold zds at ih ⊢
   rw[List.find?_cons]
   by_cases hv:v=w
   ·subst hv
    simp [hm]
   ·rw[show (((w:Nat):Int) == (v:Int))=false from by simp; omega,ih]
    simp [hv]
theorem zxy {σ:Sb} {r:List Int} (h:∀ c∈r,-24≤c):onB (zcR σ) r=zeI σ r:=by
 unfold onB zeI
 induction r with
 | nil=>rfl
 | cons c r ih =>
  rw[List.flatMap_cons,List.flatMap_cons,ih fun c hc=>h c (List.mem_cons_of_mem _ hc)]
  congr 1
  have hc:=h c (List.mem_cons_self ..)
  unfold onC zgr
  by_cases h0:c ≥ 0
  ·rw[decide_eq_true h0,cond_true,if_neg (by omega)]
  ·rw[decide_eq_false h0,cond_false,if_pos (by omega)]
   obtain⟨k,hk,rfl⟩:∃ k:Nat,k < 24∧c = -1 - (k:Int):=⟨(-1 - c).toNat,by omega,by omega⟩
   have e1:(-1:Int) - (-1 - (k:Int))=(k:Int):=by omega
   rw[e1,Int.toNat_natCast]
   unfold zcR
   rw[zl5 σ k]
   cases hm:moved σ k with
   | true=>simp [hk]
   | false =>
    have:σ k = .v k:=by
     unfold moved at hm
     split at hm
     ·rename_i y hy
      have:y=k:=by simpa using hm
      rw[hy,this]
     ·cases hm
    rw[this]
    simp [Tm.codes]
theorem zro {σ:Sb} (h:zaB σ (List.range 24)=true):BindsOk (zcR σ) where
 len:=by
  unfold zcR
  rw[List.length_map]
  have:=List.length_filter_le (moved σ) (List.range 24)
  simp at this
  omega
 all:=fun b hb=>by
  unfold zcR at hb
  obtain⟨v,hv,rfl⟩:=List.mem_map.1 hb
  have hv:=(List.mem_filter.1 hv).1
  have h1:=List.all_eq_true.1 h v hv
  have h2:=(σ v).size_pos
  have h3:=(σ v).codes_len
  have h4:(σ v).size≤48:=of_decide_eq_true h1
  refine ⟨fun e => ?_,?_⟩
  ·have:=congrArg List.length e
   simp only[List.length_nil] at this
   omega
  ·show (σ v).codes.length≤1000
   omega
def zcQ (s:Sb) (ls:List zd):List zd:=ls.map fun l=>(l.1,zeI s l.2)
theorem zjJ {σ:Sb} {ls:List zd} (h:∀ l∈ls,∀ c∈l.2,-24≤c):zlX (zcR σ) ls=zcQ σ ls:=by
 unfold zlX zcQ
 exact List.map_congr_left fun l hl=>by rw[zxy (h l hl)]
theorem zru {σ:Sb} {rs:List (List Int)} (h:∀ r∈rs,∀ c∈r,-24≤c):zs0 (zcR σ) rs=rs.map (zeI σ):=by
 unfold zs0
 exact List.map_congr_left fun r hr=>zxy (h r hr)
theorem zh3 {a0:List zm} {xs:List Int} (h:zfg a0 xs=true):∃ (c:Nat) (ts:List Tm) (e:zm),xs=(c:Int) :: zK ts∧okR a0 24 ts∧a0[c]? = some e∧e.2.1=0∧((ts.length:Nat):Int)=e.2.2.1∧(zK ts).length≤48∧zcX a0=true:=by
 obtain⟨x,r,e,ps,rfl,h0,h1,-,h2,h3,h4,h5,h6⟩:=zgC h
 obtain⟨ts,h7,h8,h9⟩:=zIN h5
 refine ⟨x.toNat,ts,e,by rw[← h9,Int.toNat_of_nonneg h0],h7,h1,h2,?_,by rw[← h9]; exact h4,h3⟩
 rw[← h6,h8,List.length_map]
end
end Go.Abs.Q
namespace Go.Abs.Q
open Go Go.Abs
section
theorem zvI {a0:List zm} {L:List zd} {T:List (List Int)} {C:List zd} (h:ziw a0 L T C=true):∀ r∈zgg L T C,zcv r:=by
 obtain⟨-,-,-,-,h4,h5,h6,-⟩:=zaI h
 intro r hr
 unfold zgg at hr
 rcases List.mem_append.1 hr with hr | hr
 ·rcases List.mem_append.1 hr with hr | hr
  ·obtain⟨l,hl,rfl⟩:=List.mem_map.1 hr; exact zbH h4 l hl
  ·obtain⟨l,hl,rfl⟩:=List.mem_map.1 hr; exact zbH h6 l hl
 ·exact zht h5 r hr
end
end Go.Abs.Q
namespace Go.Abs.Q
open Go Go.Abs
section
abbrev zGA:=List zd×List (List Int)×Bool×Int×List zd
def zzi (k:Int):Option zGA:=some ([],[],false,k,[])
theorem zq1 {α:Type} {xs:List α} {i:Int} {x:α} (h:gx xs i=some x):x∈xs:=by
 unfold gx at h
 cases hd:decide (0≤i) with
 | false=>rw[hd] at h; cases h
 | true =>
  rw[hd,cond_true] at h
  exact List.mem_of_getElem? h
def Cds (r:List Int):Prop:=r.length≤1000∧∀ c∈r,-24≤c∧c≤1000000
theorem Cds.near {r:List Int} (h:Cds r):zeK r:=⟨h.1,fun c hc=>by have:=h.2 c hc; omega⟩
theorem zmv {a0:List zm} (hs:SignOk a0) {L:List zd} {T:List (List Int)} {C:List zd} (h:ziw a0 L T C=true):∀ r∈zgg L T C,Cds r:=by
 intro r hr
 have h1:=zvI h r hr
 obtain⟨-,-,-,-,h4,h5,h6,-⟩:=zaI h
 have h2:zeK r:=by
  unfold zgg at hr
  rcases List.mem_append.1 hr with hr | hr
  ·rcases List.mem_append.1 hr with hr | hr
   ·obtain⟨l,hl,rfl⟩:=List.mem_map.1 hr; exact zlI hs h4 l hl
   ·obtain⟨l,hl,rfl⟩:=List.mem_map.1 hr; exact zlI hs h6 l hl
  ·exact zsD hs h5 r hr
 exact ⟨h2.1,fun c hc=>⟨h1.2 c hc,(h2.2 c hc).2⟩⟩
theorem zfC {L:List zd} {T:List (List Int)} {C:List zd} {l:zd} (h:l∈L):l.2∈zgg L T C:=by
 unfold zgg
 exact List.mem_append_left _ (List.mem_append_left _ (List.mem_map_of_mem h))
theorem zev {L:List zd} {T:List (List Int)} {C:List zd} {l:zd} (h:l∈C):l.2∈zgg L T C:=by
 unfold zgg
 exact List.mem_append_left _ (List.mem_append_right _ (List.mem_map_of_mem h))
theorem zfS {L:List zd} {T:List (List Int)} {C:List zd} {r:List Int} (h:r∈T):r∈zgg L T C:=by
 unfold zgg
 exact List.mem_append_right _ h
theorem zBv {σ:Sb} (hsh:zaB σ (List.range 24)=true) {L:List zd} {T:List (List Int)} {C:List zd} (hL:∀ l∈L,Cds l.2) (hT:∀ r∈T,Cds r) (hC:∀ l∈C,Cds l.2) (h1:L.length≤1000) (h2:T.length≤1000) (h3:C.length≤1000) :
  zfF (zcR σ) L T C=some (zcQ σ L,T.map (zeI σ),zcQ σ C):=by
 rw[zoc (zro hsh) (fun l hl=>(hL l hl).near) (fun r hr=>(hT r hr).near) (fun l hl=>(hC l hl).near) h1 h2 h3,
  zjJ fun l hl c hc=>((hL l hl).2 c hc).1,zjJ fun l hl c hc=>((hC l hl).2 c hc).1,zru fun r hr c hc=>((hT r hr).2 c hc).1]
def zkP (a0:List zm) (σ:Sb) (L:List zd) (T:List (List Int)) (C:List zd) (k:Int):Option zGA :=
 cond (ziw a0 (zcQ σ L) (T.map (zeI σ)) (zcQ σ C)) (some ((zfq (zcQ σ L) (T.map (zeI σ)) (zcQ σ C)).1,(zfq (zcQ σ L) (T.map (zeI σ)) (zcQ σ C)).2.1,true,0,(zfq (zcQ σ L) (T.map (zeI σ)) (zcQ σ C)).2.2)) (zzi k)
end
end Go.Abs.Q
namespace Go.Abs.Q
open Go Go.Abs
section
theorem zsH {a0:List zm}:∀ (n:Nat) (ts us:List Tm),za3 ts≤n→okR a0 24 ts→okR a0 24 us→zK ts=zK us→ts=us:=by
 intro n
 induction n with
 | zero =>
  intro ts us hn _ _ he
  cases ts with
  | cons t ts=>have:=t.size_pos; simp only[za3] at hn; omega
  | nil =>
   cases us with
   | nil=>rfl
   | cons u us =>
    have:=congrArg List.length he
    rw[zbK,zbK] at this
    have:=u.size_pos
    simp only[za3] at *; omega
 | succ n ih =>
  intro ts us hn ho ho' he
  cases ts with
  | nil =>
   cases us with
   | nil=>rfl
   | cons u us =>
    have:=congrArg List.length he
    rw[zbK,zbK] at this
    have:=u.size_pos
    simp only[za3] at *; omega
  | cons t ts =>
   cases us with
   | nil =>
    have:=congrArg List.length he
    rw[zbK,zbK] at this
    have:=t.size_pos
    simp only[za3] at *; omega
   | cons u us =>
    have he:t.codes++zK ts=u.codes++zK us:=he
    cases t with
    | v k =>
     cases u with
     | v k' =>
      have he:(-1 - (k:Int)) :: zK ts=(-1 - (k':Int)) :: zK us:=he
      injection he with h1 h2
      have:k=k':=by omega
      rw[this,ih ts us (by simp only[za3,Tm.size] at hn; omega) ho.2 ho'.2 h2]
     | f c as =>
      have he:(-1 - (k:Int)) :: zK ts=(c:Int) :: (zK as++zK us):=he
      injection he with h1 h2
      omega
    | f c as =>
     cases u with
     | v k' =>
      have he:(c:Int) :: (zK as++zK ts)=(-1 - (k':Int)) :: zK us:=he
      injection he with h1 h2
      omega
     | f c' bs =>
      have he:(c:Int) :: (zK as++zK ts)=(c':Int) :: (zK bs++zK us):=he
      injection he with h1 h2
      have hc:c=c':=by omega
      subst hc
      rw[← zi2,← zi2] at h2
      have ha:=ho.1.1
      have hb:=ho'.1.1
      rw[ha] at hb
      injection hb with hb
      have:=ih (as++ts) (bs++us) (by rw[zsR]; simp only[za3,Tm.size] at hn; omega)
       (zdW.2 fun t ht=>(List.mem_append.1 ht).elim (zdW.1 ho.1.2 t) (zdW.1 ho.2 t))
       (zdW.2 fun t ht=>(List.mem_append.1 ht).elim (zdW.1 ho'.1.2 t) (zdW.1 ho'.2 t)) h2
      obtain⟨h3,h4⟩:=List.append_inj this hb
      rw[h3,h4]
end
end Go.Abs.Q
namespace Go.Abs.Q
open Go Go.Abs
section
theorem zfI {L:List zd} {i:Int} (h:zcb L i=true):∃ l,gx L i=some l:=by
 unfold zcb at h
 simp only[Bool.and_eq_true,decide_eq_true_eq] at h
 obtain⟨l,h1,-⟩:=zrM (xs:=L) h.1 h.2
 exact ⟨l,h1⟩
end
end Go.Abs.Q
namespace Go.Abs.Q
open Go Go.Abs
def zh0 (rec:((List Int)×Int×Int×Int×(List Int))→Option Int) (x:((List Int)×Int×Int×Int×(List Int))):Option Int :=
 cond (decide (x.2.2.1 < ((List.length x.1:Nat):Int)))
 ((gx x.1 x.2.2.1).bind fun e2 =>
  rec (x.1,(IntKind.wrap .u64 ((IntKind.wrap .u64 ((IntKind.wrap .u64 (x.2.1 * 5))+(IntKind.wrap .u64 e2)))+3)),(IntKind.wrap .i64 (x.2.2.1+1)),x.2.2.2.1,x.2.2.2.2))
 (some x.2.1)
def zlc (a0:Int) (a1:(List Int)) (a2:Int) (a3:(List Int)):Option Int :=
 cond (((List.length a1:Nat):Int) == 0)
 (some 0)
 (((lp zh0 zr) (a3,(IntKind.wrap .u64 (IntKind.wrap .i64 ((IntKind.wrap .i64 (a2 * 7))+1))),0,a0,a1)).bind fun r6 =>
  cond (decide ((IntKind.wrap .u64 ((List.length a1:Nat):Int))=0))
  (none)
  ((gx a1 (IntKind.wrap .i64 (Int.tmod r6 (IntKind.wrap .u64 ((List.length a1:Nat):Int))))).bind fun e7 =>
   (zLE .and .i64 e7 255).bind fun b8 =>
   some b8))
end Go.Abs.Q
namespace Go.Abs.Q
open Go Go.Abs
end Go.Abs.Q
namespace Go.Abs.Q
open Go Go.Abs
section
def zq6 (nums:List Int):Prop:=nums ≠ []∧nums.length≤9223372036854775807
def zx0 (m:Int) (nums:List Int) (c:Int) (xs:List Int):Int:=(zlc m nums c xs).getD 0
section
variable (m:Int) (nums:List Int)
mutual
def zxT (env:Nat→Int):Tm→Int
 | .v n=>env n
 | .f c ts=>Int.tmod (zx0 m nums (c:Int) (zsN env ts)) m
def zsN (env:Nat→Int):List Tm→List Int
 | []=>[]
 | t :: ts=>zxT env t :: zsN env ts
end
mutual
theorem zzt (env:Nat→Int) (s:Sb):(t:Tm)→zxT m nums env (t.sub s)=zxT m nums (fun n=>zxT m nums env (s n)) t
 | .v n=>rfl
 | .f c ts=>by
  show Int.tmod (zx0 m nums (c:Int) (zsN m nums env (zbI s ts))) m=_
  rw[zrD env s ts]
  rfl
theorem zrD (env:Nat→Int) (s:Sb):(ts:List Tm)→zsN m nums env (zbI s ts)=zsN m nums (fun n=>zxT m nums env (s n)) ts
 | []=>rfl
 | t :: ts=>by
  show zxT m nums env (t.sub s) :: zsN m nums env (zbI s ts)=_
  rw[zzt env s t,zrD env s ts]
  rfl
end
mutual
theorem zzS {e e':Nat→Int}:(t:Tm)→(∀ x,t.has x→e x=e' x)→zxT m nums e t=zxT m nums e' t
 | .v n,h=>h n rfl
 | .f c ts,h=>by
  show Int.tmod (zx0 m nums (c:Int) (zsN m nums e ts)) m=Int.tmod (zx0 m nums (c:Int) (zsN m nums e' ts)) m
  rw[zq8 ts h]
theorem zq8 {e e':Nat→Int}:(ts:List Tm)→(∀ x,zmF x ts→e x=e' x)→zsN m nums e ts=zsN m nums e' ts
 | [],_=>rfl
 | t :: ts,h=>by
  show zxT m nums e t :: zsN m nums e ts=zxT m nums e' t :: zsN m nums e' ts
  rw[zzS t fun x hx=>h x (.inl hx),zq8 ts fun x hx=>h x (.inr hx)]
end
end
structure EnvOk (m:Int) (E:List Int):Prop where
 len:E.length=24
 rng:∀ x∈E,0≤x∧x < m
def zJf (E:List Int) (n:Nat):Int:=E.getD n 0
theorem EnvOk.get {m:Int} {E:List Int} (h:EnvOk m E) {n:Nat} (hn:n < 24):E[n]? = some (zJf E n):=by
 unfold zJf
 rw[List.getD_eq_getElem?_getD,List.getElem?_eq_getElem (by rw[h.len]; exact hn)]
 rfl
theorem EnvOk.val {m:Int} {E:List Int} (h:EnvOk m E) {n:Nat} (hn:n < 24):0≤zJf E n∧zJf E n < m:=h.rng _ (List.mem_of_getElem? (h.get hn))
end
end Go.Abs.Q
namespace Go.Abs.Q
open Go Go.Abs
section
section
variable {m:Int} (hm:0 < m) {nums:List Int} (hn:zq6 nums) {a0:List zm} (hs:SignOk a0) {E:List Int} (hE:EnvOk m E)
include hm hn hs hE
end
theorem EnvOk.set {m:Int} {E:List Int} (h:EnvOk m E) {v:Nat} {x:Int} (hx:0≤x∧x < m):EnvOk m (E.set v x) where
 len:=by rw[List.length_set]; exact h.len
 rng:=fun y hy=>by
  rcases List.mem_or_eq_of_mem_set hy with hy | hy
  ·exact h.rng y hy
  ·rw[hy]; exact hx
end
end Go.Abs.Q
namespace Go.Abs.Q
open Go Go.Abs
section
end
end Go.Abs.Q
namespace Go.Abs.Q
open Go Go.Abs
section
abbrev zn5:=List Int×Int
def rho (s:zn5) (v:Nat):Nat:=(s.1.getD v 0).toNat - 1
structure RenI (s:zn5):Prop where
 len:s.1.length=24
 rng:∀ v,0≤s.1.getD v 0∧s.1.getD v 0≤s.2
 inj:∀ v w,s.1.getD v 0=s.1.getD w 0→s.1.getD v 0 ≠ 0→v=w
 cnt:((s.1.countP (fun x=>x != 0):Nat):Int)=s.2
def ExtS (s s':zn5):Prop:=∀ v,s.1.getD v 0 ≠ 0→s'.1.getD v 0=s.1.getD v 0
theorem ExtS.refl (s:zn5):ExtS s s:=fun _ _=>rfl
theorem ExtS.trans {s t u:zn5} (h:ExtS s t) (h':ExtS t u):ExtS s u:=fun v hv=>(h' v (by rw[h v hv]; exact hv)).trans (h v hv)
theorem RenI.next {s:zn5} (h:RenI s):0≤s.2∧s.2≤24:=by
 have h1:=h.cnt
 have h2:s.1.countP (fun x=>x != 0)≤s.1.length:=List.countP_le_length
 rw[h.len] at h2
 omega
theorem zLJ:RenI (List.replicate 24 (0:Int),0) where
 len:=by simp
 rng:=fun v=>by
  rw[List.getD_eq_getElem?_getD,List.getElem?_replicate]
  split <;> simp
 inj:=fun v w _ h=>by
  exfalso
  apply h
  rw[List.getD_eq_getElem?_getD,List.getElem?_replicate]
  split <;> rfl
 cnt:=by decide
theorem zr0 {xs:List Int} {v:Nat} {y:Int} (hv:xs[v]? = some 0) (hy:y ≠ 0):(xs.set v y).countP (fun x=>x != 0)=xs.countP (fun x=>x != 0)+1:=by
 obtain⟨hx,he⟩:=List.getElem?_eq_some_iff.1 hv
 have h1:=List.take_append_drop v xs
 have h2:xs.drop v=0 :: xs.drop (v+1):=by rw[List.drop_eq_getElem_cons hx,he]
 have h3:xs.set v y=xs.take v++y :: xs.drop (v+1):=by rw[List.set_eq_take_append_cons_drop,if_pos hx]
 conv=>rhs; rw[← h1,h2]
 rw[h3]
 simp [List.countP_append,List.countP_cons,hy]
 omega
theorem zdC {xs:List Int} {v w:Nat} {y:Int} (hv:v < xs.length):(xs.set v y).getD w 0=if w=v then y else xs.getD w 0:=by
 rw[List.getD_eq_getElem?_getD,List.getD_eq_getElem?_getD]
 by_cases h:w=v
 ·subst h; rw[List.getElem?_set_self hv,if_pos rfl]; rfl
 ·rw[List.getElem?_set_ne (Ne.symm h),if_neg h]
theorem zoF {s:zn5} (h:RenI s) {c:Int} (hc : -24≤c):RenI (zjQ s c).2∧ExtS s (zjQ s c).2∧(c < 0→(zjQ s c).2.1.getD (-1 - c).toNat 0 ≠ 0)∧∀ f,ExtS (zjQ s c).2 f→[(zjQ s c).1]=zgr (fun v=>.v (rho f v)) c:=by
 unfold zjQ
 by_cases h0:c ≥ 0
 ·rw[decide_eq_true h0,cond_true]
  refine ⟨h,ExtS.refl s,fun h1=>by omega,fun f _ => ?_⟩
  unfold zgr
  rw[if_neg (by omega)]
 ·rw[decide_eq_false h0,cond_false]
  have hv:(-1 - c).toNat < s.1.length:=by rw[h.len]; omega
  have hexp:∀ f:zn5,zgr (fun v=>.v (rho f v)) c=[-1 - ((rho f (-1 - c).toNat:Nat):Int)]:=fun f=>by
   unfold zgr
   rw[if_pos (by omega)]
   rfl
  by_cases hz:s.1.getD (-1 - c).toNat 0=0
  ·rw[show (s.1.getD (-1 - c).toNat 0 == 0)=true from by rw[hz]; rfl,cond_true]
   have hn:=h.next
   have hget:s.1[(-1 - c).toNat]? = some 0:=by
    rw[List.getD_eq_getElem?_getD,List.getElem?_eq_getElem hv] at hz
    rw[List.getElem?_eq_getElem hv]
    exact congrArg some hz
   refine ⟨⟨by simpa using h.len,fun v => ?_,fun v w he hnz => ?_,?_⟩,fun v hvz => ?_,fun _ => ?_,fun f hf => ?_⟩
   ·show 0≤(s.1.set _ _).getD v 0∧(s.1.set _ _).getD v 0≤s.2+1
    rw[zdC hv]
    have:=h.rng v
    split <;> omega
   ·have he:(s.1.set (-1 - c).toNat (s.2+1)).getD v 0=(s.1.set (-1 - c).toNat (s.2+1)).getD w 0:=he
    have hnz:(s.1.set (-1 - c).toNat (s.2+1)).getD v 0 ≠ 0:=hnz
    rw[zdC hv] at he hnz
    rw[zdC hv] at he
    have h1:=h.rng v
    have h2:=h.rng w
    by_cases e1:v=(-1 - c).toNat
    ·rw[if_pos e1] at he hnz
     by_cases e2:w=(-1 - c).toNat
     ·rw[e1,e2]
     ·rw[if_neg e2] at he; omega
    ·rw[if_neg e1] at he hnz
     by_cases e2:w=(-1 - c).toNat
     ·rw[if_pos e2] at he; omega
     ·rw[if_neg e2] at he
      exact h.inj v w he hnz
   ·show (((s.1.set (-1 - c).toNat (s.2+1)).countP (fun x=>x != 0):Nat):Int)=s.2+1
    rw[zr0 hget (by omega),← h.cnt]
    omega
   ·show (s.1.set _ _).getD v 0=_
    rw[zdC hv]
    split
    ·rename_i e; rw[e,hz] at hvz; exact absurd rfl hvz
    ·rfl
   ·show (s.1.set _ _).getD _ 0 ≠ 0
    rw[zdC hv,if_pos rfl]
    omega
   ·rw[hexp]
    have hf2:=hf (-1 - c).toNat (by
     show (s.1.set _ _).getD _ 0 ≠ 0
     rw[zdC hv,if_pos rfl]
     omega)
    have hf2:f.1.getD (-1 - c).toNat 0=(s.1.set (-1 - c).toNat (s.2+1)).getD (-1 - c).toNat 0:=hf2
    rw[zdC hv,if_pos rfl] at hf2
    unfold rho
    rw[hf2]
    show [-(s.2+1)]=_
    congr 1
    omega
  ·rw[show (s.1.getD (-1 - c).toNat 0 == 0)=false from by simpa using hz,cond_false]
   refine ⟨h,ExtS.refl s,fun _=>hz,fun f hf => ?_⟩
   rw[hexp]
   have hf2:f.1.getD (-1 - c).toNat 0=s.1.getD (-1 - c).toNat 0:=hf _ hz
   have:=h.rng (-1 - c).toNat
   unfold rho
   rw[hf2]
   show [-(s.1.getD (-1 - c).toNat 0)]=_
   congr 1
   omega
theorem zge:(r:List Int)→{s:zn5}→RenI s→(∀ c∈r,-24≤c)→RenI (zcH s r).2∧ExtS s (zcH s r).2∧(∀ x,zJj r x→(zcH s r).2.1.getD x.toNat 0 ≠ 0)∧∀ f,ExtS (zcH s r).2 f→(zcH s r).1=zeI (fun v=>.v (rho f v)) r
 | [],s,h,_=>⟨h,ExtS.refl s,fun x ⟨c,hc,_⟩=>(nomatch hc),fun _ _=>rfl⟩
 | c :: r,s,h,hc=>by
  obtain⟨h1,h2,h3,h4⟩:=zoF h (hc c (List.mem_cons_self ..))
  obtain⟨g1,g2,g3,g4⟩:=zge r h1 fun d hd=>hc d (List.mem_cons_of_mem _ hd)
  refine ⟨g1,h2.trans g2,fun x ⟨d,hd,hd0,hx⟩ => ?_,fun f hf => ?_⟩
  ·rcases List.mem_cons.1 hd with rfl | hd
   ·subst hx
    show (zcH (zjQ s d).2 r).2.1.getD (-1 - d).toNat 0 ≠ 0
    rw[g2 _ (h3 hd0)]
    exact h3 hd0
   ·exact g3 x ⟨d,hd,hd0,hx⟩
  ·have hf:ExtS (zcH (zjQ s c).2 r).2 f:=hf
   show (zjQ s c).1 :: (zcH (zjQ s c).2 r).1=_
   unfold zeI
   rw[List.flatMap_cons,← h4 f (g2.trans hf),g4 f hf]
   rfl
theorem ziM:(ls:List zd)→{s:zn5}→RenI s→(∀ l∈ls,∀ c∈l.2,-24≤c)→RenI (zaQ s ls).2∧ExtS s (zaQ s ls).2∧(∀ x,zAE (ls.map (·.2)) x→(zaQ s ls).2.1.getD x.toNat 0 ≠ 0)∧∀ f,ExtS (zaQ s ls).2 f→(zaQ s ls).1=zcQ (fun v=>.v (rho f v)) ls
 | [],s,h,_=>⟨h,ExtS.refl s,fun x ⟨c,hc,_⟩=>(nomatch hc),fun _ _=>rfl⟩
 | l :: ls,s,h,hc=>by
  obtain⟨h1,h2,h3,h4⟩:=zge l.2 h (hc l (List.mem_cons_self ..))
  obtain⟨g1,g2,g3,g4⟩:=ziM ls h1 fun d hd=>hc d (List.mem_cons_of_mem _ hd)
  refine ⟨g1,h2.trans g2,fun x hx => ?_,fun f hf => ?_⟩
  ·rw[List.map_cons,zpg] at hx
   rcases hx with hx | hx
   ·show (zaQ (zcH s l.2).2 ls).2.1.getD x.toNat 0 ≠ 0
    rw[g2 _ (h3 x hx)]
    exact h3 x hx
   ·exact g3 x hx
  ·have hf:ExtS (zaQ (zcH s l.2).2 ls).2 f:=hf
   show (l.1,(zcH s l.2).1) :: (zaQ (zcH s l.2).2 ls).1=_
   rw[h4 f (g2.trans hf),g4 f hf]
   rfl
theorem zl9:(ls:List (List Int))→{s:zn5}→RenI s→(∀ l∈ls,∀ c∈l,-24≤c)→RenI (zb8 s ls).2∧ExtS s (zb8 s ls).2∧(∀ x,zAE ls x→(zb8 s ls).2.1.getD x.toNat 0 ≠ 0)∧∀ f,ExtS (zb8 s ls).2 f→(zb8 s ls).1=ls.map (zeI (fun v=>.v (rho f v)))
 | [],s,h,_=>⟨h,ExtS.refl s,fun x ⟨c,hc,_⟩=>(nomatch hc),fun _ _=>rfl⟩
 | l :: ls,s,h,hc=>by
  obtain⟨h1,h2,h3,h4⟩:=zge l h (hc l (List.mem_cons_self ..))
  obtain⟨g1,g2,g3,g4⟩:=zl9 ls h1 fun d hd=>hc d (List.mem_cons_of_mem _ hd)
  refine ⟨g1,h2.trans g2,fun x hx => ?_,fun f hf => ?_⟩
  ·rw[zpg] at hx
   rcases hx with hx | hx
   ·show (zb8 (zcH s l).2 ls).2.1.getD x.toNat 0 ≠ 0
    rw[g2 _ (h3 x hx)]
    exact h3 x hx
   ·exact g3 x hx
  ·have hf:ExtS (zb8 (zcH s l).2 ls).2 f:=hf
   show (zcH s l).1 :: (zb8 (zcH s l).2 ls).1=_
   rw[h4 f (g2.trans hf),g4 f hf]
   rfl
end
end Go.Abs.Q
namespace Go.Abs.Q
open Go Go.Abs
section
theorem zhN {α:Type} [DecidableEq α] (f:α→Nat):(es out:List α)→((y7 es out).map f).sum≤(out.map f).sum+(es.map f).sum
 | [],out=>by simp [y7]
 | e :: es,out=>by
  unfold y7
  by_cases h:e∈out
  ·rw[decide_eq_true h,cond_true]
   have:=zhN f es out
   simp only[List.map_cons,List.sum_cons]
   omega
  ·rw[decide_eq_false h,cond_false]
   have:=zhN f es (out++[e])
   simp only[List.map_cons,List.sum_cons,List.map_append,List.sum_append,List.map_nil,List.sum_nil] at this ⊢
   omega
end
end Go.Abs.Q
namespace Go.Abs.Q
open Go Go.Abs
section
mutual
theorem Tm.sub_id:(t:Tm)→t.sub (fun n=>Tm.v n)=t
 | .v n=>rfl
 | .f c as=>by rw[Tm.sub,zui as]
theorem zui:(ts:List Tm)→zbI (fun n=>Tm.v n) ts=ts
 | []=>rfl
 | t :: ts=>by rw[zbI,Tm.sub_id t,zui ts]
end
theorem zkL {a0:List zm} (hs:SignOk a0) {L:List zd} {T:List (List Int)} {C:List zd} (h:ziw a0 L T C=true) {i j:Int} {n n':Bool} {A A':List Int} (hi:gx L i=some (n,A)) (hj:gx L j=some (n',A')) :
  (∃ k,zbL a0 L T C i j=zzi k) ∨
  (n=n'∧∃ (c:Nat) (ts us:List Tm) (σ:Sb),A=(c:Int) :: zK ts∧A'=(c:Int) :: zK us∧okR a0 24 ts∧okR a0 24 us∧ts.length=us.length∧Mgu σ (ts.zip us)∧(∀ x,x < 24→(σ x).ok a0 24)∧zbL a0 L T C i j=zkP a0 σ (yr j L 0) T C 1401):=by
 obtain⟨hsb,l1,l2,l3,l4,l5,l6,-⟩:=zaI h
 have hA:=List.all_eq_true.1 l4 (n,A) (zq1 hi)
 have hA':=List.all_eq_true.1 l4 (n',A') (zq1 hj)
 obtain⟨c,ts,e,rfl,ho,he,-,hlen,hl48,-⟩:=zh3 hA
 obtain⟨c',us,e',rfl,ho',he',-,hlen',hl48',-⟩:=zh3 hA'
 unfold zbL
 rw[hi,Option.bind_some,hj,Option.bind_some]
 simp only[Option.bind_some]
 by_cases hn:n=n'
 ·subst hn
  rw[show (!(n == n))=false from by simp,cond_false]
  simp only[qx,List.getElem?_cons_zero,Option.bind_some]
  by_cases hc:c=c'
  ·subst hc
   rw[show ((c:Int) != (c:Int))=false from by simp,cond_false,zcU,Option.bind_some,zcU,Option.bind_some]
   rcases zl2 hs (xs:=zK ts) (ys:=zK us) rfl rfl ho ho' hsb hl48 hl48' with ⟨hu,-⟩ | ⟨hll,σ,hm,hok,hu⟩
   ·rw[hu]
    exact .inl ⟨0,rfl⟩
   ·rw[hu]
    cases hsh:zaB σ (List.range 24) with
    | false=>exact .inl ⟨1401,rfl⟩
    | true =>
     refine .inr ⟨trivial,c,ts,us,σ,rfl,rfl,ho,ho',hll,hm,hok,?_⟩
     simp only[cond_true,Option.bind_some,show ((0:Int) != 0)=false from rfl,cond_false,Bool.not_true]
     have hcd:=zmv hs h
     have hwl:=zex j L 0
     rw[zdc j (-1) (by omega) (by omega) (by omega) (by simp) (by simp) (by simp),Option.bind_some]
     simp only[List.append_nil,yr]
     rw[zBv hsh (fun l hl=>hcd _ (zfC (zdt L 0 hl))) (fun r hr=>hcd _ (zfS hr)) (fun l hl=>hcd _ (zev hl)) (by omega) (by omega) (by omega),Option.bind_some,zcK,Option.bind_some]
     unfold zkP
     cases ziw a0 (zcQ σ (yr j L 0)) (T.map (zeI σ)) (zcQ σ C) with
     | true=>rfl
     | false=>rfl
  ·rw[show ((c:Int) != (c':Int))=true from by simp; omega,cond_true]
   exact .inl ⟨0,rfl⟩
 ·rw[show (!(n == n'))=true from by simp [hn],cond_true]
  exact .inl ⟨0,rfl⟩
section
variable {m:Nat} (hm:0 < m) (hm3:m≤3) {nums:List Int} (hn:zq6 nums) {a0:List zm} (hs:SignOk a0)
include hm hm3 hn hs
end
end
end Go.Abs.Q
namespace Go.Abs.Q
open Go Go.Abs
section
section
variable {m:Nat} (hm:0 < m) (hm3:m≤3) {nums:List Int} (hn:zq6 nums) {a0:List zm} (hs:SignOk a0)
include hm hm3 hn hs
end
end
end Go.Abs.Q
namespace Go.Abs.Q
open Go Go.Abs
section
theorem zyd {α:Type} (xs:List α) {i:Nat} (h:i≤xs.length):zbS xs none (some (i:Int))=some (xs.take i):=by
 show slc xs 0 (i:Int)=some _
 unfold slc
 rw[decide_eq_true (show (0:Int)≤0 by omega),decide_eq_true (show (0:Int)≤(i:Int) by omega),decide_eq_true (show (i:Int)≤((xs.length:Nat):Int) by omega)]
 simp
end
end Go.Abs.Q
namespace Go.Abs.Q
open Go Go.Abs
section
section
variable {m:Nat} (hm:0 < m) (hm3:m≤3) {nums:List Int} (hn:zq6 nums) {a0:List zm} (hs:SignOk a0)
include hm hm3 hn hs
end
end
end Go.Abs.Q
namespace Go.Abs.Q
open Go Go.Abs
section
end
end Go.Abs.Q
namespace Go.Abs.Q
open Go Go.Abs
def zck (a0:(List zd)) (a1:(List (List Int))) (a2:(List zd)) (a3:Int):Option Bool :=
 cond (decide (a3 ≥ 0))
 (some (decide (a3 < ((List.length a0:Nat):Int))))
 (some false)
def zbw (rec:((List (Int×(List Int)))×Int×Int)→Option (Unit⊕Int)) (x:((List (Int×(List Int)))×Int×Int)):Option (Unit⊕Int) :=
 cond (decide (x.2.2 < ((List.length x.1:Nat):Int)))
 ((gx x.1 x.2.2).bind fun e2 =>
  cond (e2.1 == x.2.1)
  (some (Sum.inr x.2.2))
  (rec (x.1,x.2.1,(IntKind.wrap .i64 (x.2.2+1)))))
 (some (Sum.inl ()))
def zhp (a0:(List (Int×(List Int)))) (a1:Int):Option Int :=
 ((lp zbw zr) (a0,a1,0)).bind fun r6 =>
 qH r6
 (fun z7=>some (-1))
 (fun z8=>some z8)
def zaV (rec:((List (Int×(List Int)))×(List Int)×Int×(List Int))→Option (List Int)) (x:((List (Int×(List Int)))×(List Int)×Int×(List Int))):Option (List Int) :=
 cond (decide (x.2.2.1 < ((List.length x.2.1:Nat):Int)))
 ((gx x.2.1 x.2.2.1).bind fun e16 =>
  cond (decide (e16 < 0))
  ((gx x.2.1 x.2.2.1).bind fun e17 =>
   (zhp x.1 (IntKind.wrap .i64 ((-1) - e17))).bind fun r18 =>
   cond (decide (r18 < 0))
   ((gx x.2.1 x.2.2.1).bind fun e19 =>
    cond (qt (List.length x.2.2.2+List.length ([e19]:List Int)) 8)
    (rec (x.1,x.2.1,(IntKind.wrap .i64 (x.2.2.1+1)),(x.2.2.2++([e19]:List Int))))
    (none))
   ((gx x.1 r18).bind fun e20 =>
    cond (qt (List.length x.2.2.2+List.length e20.2) 8)
    (rec (x.1,x.2.1,(IntKind.wrap .i64 (x.2.2.1+1)),(x.2.2.2++e20.2)))
    (none)))
  ((gx x.2.1 x.2.2.1).bind fun e21 =>
   cond (qt (List.length x.2.2.2+List.length ([e21]:List Int)) 8)
   (rec (x.1,x.2.1,(IntKind.wrap .i64 (x.2.2.1+1)),(x.2.2.2++([e21]:List Int))))
   (none)))
 (some x.2.2.2)
def zcZ (a0:(List (Int×(List Int)))) (a1:(List Int)):Option (List Int) :=
 ((lp zaV zr) (a0,a1,0,([]:(List Int)))).bind fun r23 =>
 some r23
def zat (rec:((List (Int×(List Int)))×Int×(List zd)×(List (List Int))×(List zd)×(List zd)×(List (List Int))×(List zd))→Option ((List zd)×(List (List Int))×(List zd))) (x:((List (Int×(List Int)))×Int×(List zd)×(List (List Int))×(List zd)×(List zd)×(List (List Int))×(List zd))):Option ((List zd)×(List (List Int))×(List zd)) :=
 cond (decide (x.2.1 < ((List.length x.2.2.2.2.1:Nat):Int)))
 ((gx x.2.2.2.2.1 x.2.1).bind fun e24 =>
  (gx x.2.2.2.2.1 x.2.1).bind fun e25 =>
  (zcZ x.1 e25.2).bind fun r26 =>
  cond (qt (List.length x.2.2.2.2.2.2.2+List.length ([(e24.1,r26)]:List zd)) 32)
  (rec (x.1,(IntKind.wrap .i64 (x.2.1+1)),x.2.2.1,x.2.2.2.1,x.2.2.2.2.1,x.2.2.2.2.2.1,x.2.2.2.2.2.2.1,(x.2.2.2.2.2.2.2++([(e24.1,r26)]:List zd))))
  (none))
 (some (x.2.2.2.2.2.1,x.2.2.2.2.2.2.1,x.2.2.2.2.2.2.2))
def zaz (rec:((List (Int×(List Int)))×Int×(List zd)×(List (List Int))×(List zd)×(List zd)×(List (List Int)))→Option ((List zd)×(List (List Int)))) (x:((List (Int×(List Int)))×Int×(List zd)×(List (List Int))×(List zd)×(List zd)×(List (List Int)))):Option ((List zd)×(List (List Int))) :=
 cond (decide (x.2.1 < ((List.length x.2.2.2.1:Nat):Int)))
 ((gx x.2.2.2.1 x.2.1).bind fun e15 =>
  (zcZ x.1 e15).bind fun r16 =>
  cond (qt (List.length x.2.2.2.2.2.2+List.length ([r16]:List (List Int))) 24)
  (rec (x.1,(IntKind.wrap .i64 (x.2.1+1)),x.2.2.1,x.2.2.2.1,x.2.2.2.2.1,x.2.2.2.2.2.1,(x.2.2.2.2.2.2++([r16]:List (List Int)))))
  (none))
 (some (x.2.2.2.2.2.1,x.2.2.2.2.2.2))
def zav (rec:((List (Int×(List Int)))×Int×(List zd)×(List (List Int))×(List zd)×(List zd))→Option (List zd)) (x:((List (Int×(List Int)))×Int×(List zd)×(List (List Int))×(List zd)×(List zd))):Option (List zd) :=
 cond (decide (x.2.1 < ((List.length x.2.2.1:Nat):Int)))
 ((gx x.2.2.1 x.2.1).bind fun e7 =>
  (gx x.2.2.1 x.2.1).bind fun e8 =>
  (zcZ x.1 e8.2).bind fun r9 =>
  cond (qt (List.length x.2.2.2.2.2+List.length ([(e7.1,r9)]:List zd)) 32)
  (rec (x.1,(IntKind.wrap .i64 (x.2.1+1)),x.2.2.1,x.2.2.2.1,x.2.2.2.2.1,(x.2.2.2.2.2++([(e7.1,r9)]:List zd))))
  (none))
 (some x.2.2.2.2.2)
def zd6 (a0:(List (Int×(List Int)))) (a1:(List zd)) (a2:(List (List Int))) (a3:(List zd)):Option ((List zd)×(List (List Int))×(List zd)) :=
 ((lp zav zr) (a0,0,a1,a2,a3,([]:(List zd)))).bind fun r28 =>
 ((lp zaz zr) (a0,0,a1,a2,a3,r28,([]:(List (List Int))))).bind fun r29 =>
 ((lp zat zr) (a0,0,a1,a2,a3,r29.1,r29.2,([]:(List zd)))).bind fun r30 =>
 some (r30.1,r30.2.1,r30.2.2)
def qV (rec:((List Int)×(List (List Int)))→Option (List Int)) (x:((List Int)×(List (List Int)))):Option (List Int) :=
 cond (((List.length x.1:Nat):Int) == 1)
 ((gx x.1 0).bind fun e8 =>
  cond (decide (e8 < 0))
  ((gx x.1 0).bind fun e9 =>
   (inR (IntKind.wrap .i64 ((-1) - e9)) 48).bind fun k10 =>
   (x.2[k10]?).bind fun x11 =>
   cond (decide (((List.length x11:Nat):Int) > 0))
   ((gx x.1 0).bind fun e12 =>
    (inR (IntKind.wrap .i64 ((-1) - e12)) 48).bind fun k13 =>
    (x.2[k13]?).bind fun x14 =>
    rec (x14,x.2))
   (some x.1))
  (some x.1))
 (some x.1)
def zbe (a0:(List Int)) (a1:(List (List Int))):Option (List Int) :=
 ((lp qV zr) (a0,a1)).bind fun r16 =>
 some r16
def zal (rec:((List Int)×(List Int)×Int)→Option (Unit⊕Bool)) (x:((List Int)×(List Int)×Int)):Option (Unit⊕Bool) :=
 cond (decide (x.2.2 < ((List.length x.1:Nat):Int)))
 ((gx x.1 x.2.2).bind fun e3 =>
  (gx x.2.1 x.2.2).bind fun e4 =>
  cond (e3 != e4)
  (some (Sum.inr false))
  (rec (x.1,x.2.1,(IntKind.wrap .i64 (x.2.2+1)))))
 (some (Sum.inl ()))
def zc9 (a0:(List Int)) (a1:(List Int)):Option Bool :=
 cond (((List.length a0:Nat):Int) != ((List.length a1:Nat):Int))
 (some false)
 (((lp zal zr) (a0,a1,0)).bind fun r8 =>
  qH r8
  (fun z9=>some true)
  (fun z10=>some z10))
def z3 (rf:((Int×(List Int)×(List (List Int)))→Option Bool)) (rec:(Int×(List Int)×Int×(List (List Int)))→Option (Unit⊕Bool)) (x:(Int×(List Int)×Int×(List (List Int)))):Option (Unit⊕Bool) :=
 cond (decide (x.2.2.1 < ((List.length x.2.1:Nat):Int)))
 ((gx x.2.1 x.2.2.1).bind fun e8 =>
  cond (decide (e8 ≥ 0))
  (rec (x.1,x.2.1,(IntKind.wrap .i64 (x.2.2.1+1)),x.2.2.2))
  ((gx x.2.1 x.2.2.1).bind fun e9 =>
   cond ((IntKind.wrap .i64 ((-1) - e9)) == x.1)
   (some (Sum.inr true))
   ((inR (IntKind.wrap .i64 ((-1) - e9)) 48).bind fun k10 =>
    (x.2.2.2[k10]?).bind fun x11 =>
    cond (decide (((List.length x11:Nat):Int) > 0))
    ((inR (IntKind.wrap .i64 ((-1) - e9)) 48).bind fun k12 =>
     (x.2.2.2[k12]?).bind fun x13 =>
     (rf (x.1,x13,x.2.2.2)).bind fun r14 =>
     cond r14
     (some (Sum.inr true))
     (rec (x.1,x.2.1,(IntKind.wrap .i64 (x.2.2.1+1)),x.2.2.2)))
    (rec (x.1,x.2.1,(IntKind.wrap .i64 (x.2.2.1+1)),x.2.2.2)))))
 (some (Sum.inl ()))
def zbF (rf:((Int×(List Int)×(List (List Int)))→Option Bool)) (a0:Int) (a1:(List Int)) (a2:(List (List Int))):Option Bool :=
 ((lp (z3 rf) zr) (a0,a1,0,a2)).bind fun r18 =>
 qH r18
 (fun z19=>some false)
 (fun z20=>some z20)
def zd0 (rf:((Int×(List Int)×(List (List Int)))→Option Bool)):((Int×(List Int)×(List (List Int)))→Option Bool) :=
 fun (x:(Int×(List Int)×(List (List Int))))=>zbF rf x.1 x.2.1 x.2.2
def zdZ:((Int×(List Int)×(List (List Int)))→Option Bool):=fun _=>none
def yu (k:Nat):((Int×(List Int)×(List (List Int)))→Option Bool):=lpR zdZ zd0 k
def zcn (a0:Int) (a1:(List Int)) (a2:(List (List Int))):Option Bool:=(yu zr) (a0,a1,a2)
def zI (a0:(List Int)) (a1:(List Int)) (a2:Bool) (a3:(List (List Int))):Option (Bool×(List (List Int))) :=
 (gx a0 0).bind fun e8 =>
 cond a2
 ((gx a1 0).bind fun e9 =>
  (inR (IntKind.wrap .i64 ((-1) - e9)) 48).bind fun k10 =>
  (a3[k10]?).bind fun x11 =>
  some (true,(List.set a3 k10 a0)))
 ((zcn (IntKind.wrap .i64 ((-1) - e8)) a1 a3).bind fun r12 =>
  cond r12
  (some (false,a3))
  ((inR (IntKind.wrap .i64 ((-1) - e8)) 48).bind fun k13 =>
   (a3[k13]?).bind fun x14 =>
   some (true,(List.set a3 k13 a1))))
def zaR (rf:((((List zm)×(List Int)×(List Int)×(List (List Int)))→Option (Bool×(List (List Int))))×(((List zm)×(List (List Int))×(List (List Int))×(List (List Int)))→Option (Bool×(List (List Int)))))) (a0:(List zm)) (a1:(List Int)) (a2:(List Int)) (a3:(List (List Int))):Option (Bool×(List (List Int))) :=
 (zbe a1 a3).bind fun r82 =>
 (zbe a2 a3).bind fun r83 =>
 (zc9 r82 r83).bind fun r84 =>
 cond r84
 (some (true,a3))
 ((gx r82 0).bind fun e85 =>
  cond (decide (e85 < 0))
  ((gx r83 0).bind fun e86 =>
   cond (decide (e86 < 0))
   ((gx r82 0).bind fun e87 =>
    (gx r83 0).bind fun e88 =>
    cond (decide (e87 < e88))
    ((gx r82 0).bind fun e89 =>
     (zI r83 r82 (decide (e89 < 0)) a3).bind fun r90 =>
     some (r90.1,r90.2))
    ((gx r82 0).bind fun e91 =>
     cond (decide (e91 ≥ 0))
     ((gx r83 0).bind fun e92 =>
      cond (decide (e92 < 0))
      ((gx r82 0).bind fun e93 =>
       (zI r83 r82 (decide (e93 < 0)) a3).bind fun r94 =>
       some (r94.1,r94.2))
      ((gx r82 0).bind fun e95 =>
       cond (decide (e95 < 0))
       ((gx r83 0).bind fun e96 =>
        (zI r82 r83 (decide (e96 < 0)) a3).bind fun r97 =>
        some (r97.1,r97.2))
       ((gx r82 0).bind fun e98 =>
        (gx r83 0).bind fun e99 =>
        cond (e98 != e99)
        (some (false,a3))
        ((zbS r82 (some 1) none).bind fun y100 =>
         (qb a0 y100).bind fun r101 =>
         (zbS r83 (some 1) none).bind fun y102 =>
         (qb a0 y102).bind fun r103 =>
         (rf.2 (a0,r101,r103,a3)).bind fun r104 =>
         some (r104.1,r104.2)))))
     ((gx r82 0).bind fun e105 =>
      cond (decide (e105 < 0))
      ((gx r83 0).bind fun e106 =>
       (zI r82 r83 (decide (e106 < 0)) a3).bind fun r107 =>
       some (r107.1,r107.2))
      ((gx r82 0).bind fun e108 =>
       (gx r83 0).bind fun e109 =>
       cond (e108 != e109)
       (some (false,a3))
       ((zbS r82 (some 1) none).bind fun y110 =>
        (qb a0 y110).bind fun r111 =>
        (zbS r83 (some 1) none).bind fun y112 =>
        (qb a0 y112).bind fun r113 =>
        (rf.2 (a0,r111,r113,a3)).bind fun r114 =>
        some (r114.1,r114.2))))))
   ((gx r82 0).bind fun e115 =>
    cond (decide (e115 ≥ 0))
    ((gx r83 0).bind fun e116 =>
     cond (decide (e116 < 0))
     ((gx r82 0).bind fun e117 =>
      (zI r83 r82 (decide (e117 < 0)) a3).bind fun r118 =>
      some (r118.1,r118.2))
     ((gx r82 0).bind fun e119 =>
      cond (decide (e119 < 0))
      ((gx r83 0).bind fun e120 =>
       (zI r82 r83 (decide (e120 < 0)) a3).bind fun r121 =>
       some (r121.1,r121.2))
      ((gx r82 0).bind fun e122 =>
       (gx r83 0).bind fun e123 =>
       cond (e122 != e123)
       (some (false,a3))
       ((zbS r82 (some 1) none).bind fun y124 =>
        (qb a0 y124).bind fun r125 =>
        (zbS r83 (some 1) none).bind fun y126 =>
        (qb a0 y126).bind fun r127 =>
        (rf.2 (a0,r125,r127,a3)).bind fun r128 =>
        some (r128.1,r128.2)))))
    ((gx r82 0).bind fun e129 =>
     cond (decide (e129 < 0))
     ((gx r83 0).bind fun e130 =>
      (zI r82 r83 (decide (e130 < 0)) a3).bind fun r131 =>
      some (r131.1,r131.2))
     ((gx r82 0).bind fun e132 =>
      (gx r83 0).bind fun e133 =>
      cond (e132 != e133)
      (some (false,a3))
      ((zbS r82 (some 1) none).bind fun y134 =>
       (qb a0 y134).bind fun r135 =>
       (zbS r83 (some 1) none).bind fun y136 =>
       (qb a0 y136).bind fun r137 =>
       (rf.2 (a0,r135,r137,a3)).bind fun r138 =>
       some (r138.1,r138.2))))))
  ((gx r82 0).bind fun e139 =>
   cond (decide (e139 ≥ 0))
   ((gx r83 0).bind fun e140 =>
    cond (decide (e140 < 0))
    ((gx r82 0).bind fun e141 =>
     (zI r83 r82 (decide (e141 < 0)) a3).bind fun r142 =>
     some (r142.1,r142.2))
    ((gx r82 0).bind fun e143 =>
     cond (decide (e143 < 0))
     ((gx r83 0).bind fun e144 =>
      (zI r82 r83 (decide (e144 < 0)) a3).bind fun r145 =>
      some (r145.1,r145.2))
     ((gx r82 0).bind fun e146 =>
      (gx r83 0).bind fun e147 =>
      cond (e146 != e147)
      (some (false,a3))
      ((zbS r82 (some 1) none).bind fun y148 =>
       (qb a0 y148).bind fun r149 =>
       (zbS r83 (some 1) none).bind fun y150 =>
       (qb a0 y150).bind fun r151 =>
       (rf.2 (a0,r149,r151,a3)).bind fun r152 =>
       some (r152.1,r152.2)))))
   ((gx r82 0).bind fun e153 =>
    cond (decide (e153 < 0))
    ((gx r83 0).bind fun e154 =>
     (zI r82 r83 (decide (e154 < 0)) a3).bind fun r155 =>
     some (r155.1,r155.2))
    ((gx r82 0).bind fun e156 =>
     (gx r83 0).bind fun e157 =>
     cond (e156 != e157)
     (some (false,a3))
     ((zbS r82 (some 1) none).bind fun y158 =>
      (qb a0 y158).bind fun r159 =>
      (zbS r83 (some 1) none).bind fun y160 =>
      (qb a0 y160).bind fun r161 =>
      (rf.2 (a0,r159,r161,a3)).bind fun r162 =>
      some (r162.1,r162.2))))))
def yg (rf:((((List zm)×(List Int)×(List Int)×(List (List Int)))→Option (Bool×(List (List Int))))×(((List zm)×(List (List Int))×(List (List Int))×(List (List Int)))→Option (Bool×(List (List Int)))))) (rec:((List zm)×(List (List Int))×(List (List Int))×Int×(List (List Int)))→Option ((List (List Int))⊕(Bool×(List (List Int))))) (x:((List zm)×(List (List Int))×(List (List Int))×Int×(List (List Int)))):Option ((List (List Int))⊕(Bool×(List (List Int)))) :=
 cond (decide (x.2.2.2.1 < ((List.length x.2.1:Nat):Int)))
 ((gx x.2.1 x.2.2.2.1).bind fun e7 =>
  (gx x.2.2.1 x.2.2.2.1).bind fun e8 =>
  (rf.1 (x.1,e7,e8,x.2.2.2.2)).bind fun r9 =>
  cond (!r9.1)
  (some (Sum.inr (false,r9.2)))
  (rec (x.1,x.2.1,x.2.2.1,(IntKind.wrap .i64 (x.2.2.2.1+1)),r9.2)))
 (some (Sum.inl x.2.2.2.2))
def zbY (rf:((((List zm)×(List Int)×(List Int)×(List (List Int)))→Option (Bool×(List (List Int))))×(((List zm)×(List (List Int))×(List (List Int))×(List (List Int)))→Option (Bool×(List (List Int)))))) (a0:(List zm)) (a1:(List (List Int))) (a2:(List (List Int))) (a3:(List (List Int))):Option (Bool×(List (List Int))) :=
 ((lp (yg rf) zr) (a0,a1,a2,0,a3)).bind fun r13 =>
 qH r13
 (fun z14=>some (true,z14))
 (fun z15=>some (z15.1,z15.2))
def zeE (rf:((((List zm)×(List Int)×(List Int)×(List (List Int)))→Option (Bool×(List (List Int))))×(((List zm)×(List (List Int))×(List (List Int))×(List (List Int)))→Option (Bool×(List (List Int)))))):((((List zm)×(List Int)×(List Int)×(List (List Int)))→Option (Bool×(List (List Int))))×(((List zm)×(List (List Int))×(List (List Int))×(List (List Int)))→Option (Bool×(List (List Int))))) :=
 (fun (x:((List zm)×(List Int)×(List Int)×(List (List Int))))=>zaR rf x.1 x.2.1 x.2.2.1 x.2.2.2,fun (x:((List zm)×(List (List Int))×(List (List Int))×(List (List Int))))=>zbY rf x.1 x.2.1 x.2.2.1 x.2.2.2)
def zeq:((((List zm)×(List Int)×(List Int)×(List (List Int)))→Option (Bool×(List (List Int))))×(((List zm)×(List (List Int))×(List (List Int))×(List (List Int)))→Option (Bool×(List (List Int))))):=(fun _=>none,fun _=>none)
def zR (k:Nat):((((List zm)×(List Int)×(List Int)×(List (List Int)))→Option (Bool×(List (List Int))))×(((List zm)×(List (List Int))×(List (List Int))×(List (List Int)))→Option (Bool×(List (List Int))))):=lpR zeq zeE k
def ziP (a0:(List zm)) (a1:(List Int)) (a2:(List Int)) (a3:(List (List Int))):Option (Bool×(List (List Int))):=(zR zr).1 (a0,a1,a2,a3)
def zcJ (a0:(List zm)) (a1:(List (List Int))) (a2:(List (List Int))) (a3:(List (List Int))):Option (Bool×(List (List Int))):=(zR zr).2 (a0,a1,a2,a3)
def z5 (rf:(((List Int)×(List (List Int))×(List Int))→Option (List Int))) (rec:((List Int)×Int×(List (List Int))×(List Int))→Option (List Int)) (x:((List Int)×Int×(List (List Int))×(List Int))):Option (List Int) :=
 cond (decide (x.2.1 < ((List.length x.1:Nat):Int)))
 (cond (decide (((List.length x.2.2.2:Nat):Int)≤48))
  ((gx x.1 x.2.1).bind fun e19 =>
   cond (decide (e19 < 0))
   ((gx x.1 x.2.1).bind fun e20 =>
    (inR (IntKind.wrap .i64 ((-1) - e20)) 48).bind fun k21 =>
    (x.2.2.1[k21]?).bind fun x22 =>
    cond (decide (((List.length x22:Nat):Int) > 0))
    ((gx x.1 x.2.1).bind fun e23 =>
     (inR (IntKind.wrap .i64 ((-1) - e23)) 48).bind fun k24 =>
     (x.2.2.1[k24]?).bind fun x25 =>
     (rf (x25,x.2.2.1,x.2.2.2)).bind fun r26 =>
     rec (x.1,(IntKind.wrap .i64 (x.2.1+1)),x.2.2.1,r26))
    ((gx x.1 x.2.1).bind fun e27 =>
     cond (qt (List.length x.2.2.2+List.length ([e27]:List Int)) 8)
     (rec (x.1,(IntKind.wrap .i64 (x.2.1+1)),x.2.2.1,(x.2.2.2++([e27]:List Int))))
     (none)))
   ((gx x.1 x.2.1).bind fun e28 =>
    cond (qt (List.length x.2.2.2+List.length ([e28]:List Int)) 8)
    (rec (x.1,(IntKind.wrap .i64 (x.2.1+1)),x.2.2.1,(x.2.2.2++([e28]:List Int))))
    (none)))
  (some x.2.2.2))
 (some x.2.2.2)
def zbE (rf:(((List Int)×(List (List Int))×(List Int))→Option (List Int))) (a0:(List Int)) (a1:(List (List Int))) (a2:(List Int)):Option (List Int) :=
 ((lp (z5 rf) zr) (a0,0,a1,a2)).bind fun r30 =>
 some r30
def zd4 (rf:(((List Int)×(List (List Int))×(List Int))→Option (List Int))):(((List Int)×(List (List Int))×(List Int))→Option (List Int)) :=
 fun (x:((List Int)×(List (List Int))×(List Int)))=>zbE rf x.1 x.2.1 x.2.2
def zeb:(((List Int)×(List (List Int))×(List Int))→Option (List Int)):=fun _=>none
def ye (k:Nat):(((List Int)×(List (List Int))×(List Int))→Option (List Int)):=lpR zeb zd4 k
def zbp (a0:(List Int)) (a1:(List (List Int))) (a2:(List Int)):Option (List Int):=(ye zr) (a0,a1,a2)
def qp (rec:(Int×(List (List Int))×(List (Int×(List Int))))→Option ((List (Int×(List Int)))⊕(Bool×Bool))) (x:(Int×(List (List Int))×(List (Int×(List Int))))):Option ((List (Int×(List Int)))⊕(Bool×Bool)) :=
 cond (decide (x.1≤23))
 ((inR x.1 48).bind fun k14 =>
  (x.2.1[k14]?).bind fun x15 =>
  cond (((List.length x15:Nat):Int) == 0)
  (rec ((IntKind.wrap .i64 (x.1+1)),x.2.1,x.2.2))
  ((inR x.1 48).bind fun k16 =>
   (x.2.1[k16]?).bind fun x17 =>
   (zbp x17 x.2.1 ([]:(List Int))).bind fun r18 =>
   cond (decide (((List.length r18:Nat):Int) > 48))
   (some (Sum.inr (true,false)))
   (cond (qt (List.length x.2.2+List.length ([(x.1,r18)]:List (Int×(List Int)))) 32)
    (rec ((IntKind.wrap .i64 (x.1+1)),x.2.1,(x.2.2++([(x.1,r18)]:List (Int×(List Int))))))
    (none))))
 (some (Sum.inl x.2.2))
def zb1 (a0:(List zm)) (a1:(List Int)) (a2:(List Int)):Option (Bool×Bool×(List (Int×(List Int)))) :=
 (qb a0 a1).bind fun r22 =>
 (qb a0 a2).bind fun r23 =>
 cond (((List.length r22:Nat):Int) != ((List.length r23:Nat):Int))
 (some (false,true,([]:(List (Int×(List Int))))))
 ((zcJ a0 r22 r23 (List.replicate 48 ([]:(List Int)))).bind fun r24 =>
  cond (!r24.1)
  (some (false,true,([]:(List (Int×(List Int))))))
  (((lp qp zr) (0,r24.2,([]:(List (Int×(List Int)))))).bind fun r25 =>
   qH r25
   (fun z26=>some (true,true,z26))
   (fun z27=>some (z27.1,z27.2,([]:(List (Int×(List Int))))))))
def zbX (a0:(List zd)) (a1:Int):Option (List zd) :=
 (zbS a0 none (some a1)).bind fun y3 =>
 cond (qt (List.length ([]:List zd)+List.length y3) 32)
 ((zbS a0 (some (IntKind.wrap .i64 (a1+1))) none).bind fun y4 =>
  cond (qt (List.length (([]:List zd)++y3)+List.length y4) 32)
  (some ((([]:List zd)++y3)++y4))
  (none))
 (none)
def zcD (a0:Bool) (a1:(List Int)) (a2:Bool) (a3:(List Int)):Option Bool :=
 cond (a0 == a2)
 ((zc9 a1 a3).bind fun r2 =>
  some r2)
 (some false)
def q4 (rec:((List zd)×Int×Bool×Int×(List zd))→Option (Bool×(List zd))) (x:((List zd)×Int×Bool×Int×(List zd))):Option (Bool×(List zd)) :=
 cond (decide (x.2.2.2.1 < ((List.length x.2.2.2.2:Nat):Int)))
 (cond x.2.2.1
  (rec (x.1,x.2.1,true,(IntKind.wrap .i64 (x.2.2.2.1+1)),x.2.2.2.2))
  ((inR x.2.2.2.1 (List.length x.2.2.2.2)).bind fun k7 =>
   (x.2.2.2.2[k7]?).bind fun x8 =>
   (gx x.1 x.2.1).bind fun e9 =>
   (zcD x8.1 x8.2 e9.1 e9.2).bind fun r10 =>
   rec (x.1,x.2.1,r10,(IntKind.wrap .i64 (x.2.2.2.1+1)),x.2.2.2.2)))
 (some (x.2.2.1,x.2.2.2.2))
def zaq (rec:((List zd)×Int×(List zd))→Option (List zd)) (x:((List zd)×Int×(List zd))):Option (List zd) :=
 cond (decide (x.2.1 < ((List.length x.1:Nat):Int)))
 (((lp q4 zr) (x.1,x.2.1,false,0,x.2.2)).bind fun r13 =>
  cond (!r13.1)
  ((gx x.1 x.2.1).bind fun e14 =>
   cond (qt (List.length r13.2+List.length ([(e14.1,e14.2)]:List zd)) 32)
   (rec (x.1,(IntKind.wrap .i64 (x.2.1+1)),(r13.2++([(e14.1,e14.2)]:List zd))))
   (none))
  (rec (x.1,(IntKind.wrap .i64 (x.2.1+1)),r13.2)))
 (some x.2.2)
def zf2 (a0:(List zd)):Option (List zd) :=
 ((lp zaq zr) (a0,0,([]:(List zd)))).bind fun r16 =>
 some r16
def zau (rec:((List (List Int))×Int×Int×(List zd)×(List (List Int))×(List zd)×(List (Int×(List Int))))→Option (List (Int×(List Int)))) (x:((List (List Int))×Int×Int×(List zd)×(List (List Int))×(List zd)×(List (Int×(List Int))))):Option (List (Int×(List Int))) :=
 (gx x.1 x.2.1).bind fun e29 =>
 cond (decide (x.2.2.1 < ((List.length e29:Nat):Int)))
 ((gx x.1 x.2.1).bind fun e30 =>
  (gx e30 x.2.2.1).bind fun e31 =>
  cond (decide (e31 < 0))
  ((zhp x.2.2.2.2.2.2 (IntKind.wrap .i64 ((-1) - e31))).bind fun r32 =>
   cond (decide (r32 < 0))
   (cond (qt (List.length x.2.2.2.2.2.2+List.length ([((IntKind.wrap .i64 ((-1) - e31)),([(IntKind.wrap .i64 ((-1) - ((List.length x.2.2.2.2.2.2:Nat):Int)))]:List Int))]:List (Int×(List Int)))) 32)
    (rec (x.1,x.2.1,(IntKind.wrap .i64 (x.2.2.1+1)),x.2.2.2.1,x.2.2.2.2.1,x.2.2.2.2.2.1,(x.2.2.2.2.2.2++([((IntKind.wrap .i64 ((-1) - e31)),([(IntKind.wrap .i64 ((-1) - ((List.length x.2.2.2.2.2.2:Nat):Int)))]:List Int))]:List (Int×(List Int))))))
    (none))
   (rec (x.1,x.2.1,(IntKind.wrap .i64 (x.2.2.1+1)),x.2.2.2.1,x.2.2.2.2.1,x.2.2.2.2.2.1,x.2.2.2.2.2.2)))
  (rec (x.1,x.2.1,(IntKind.wrap .i64 (x.2.2.1+1)),x.2.2.2.1,x.2.2.2.2.1,x.2.2.2.2.2.1,x.2.2.2.2.2.2)))
 (some x.2.2.2.2.2.2)
def q6 (rec:(Int×Bool×Int×(List zd)×(List (List Int))×(List zd)×(List zd)×(List zd)×(List (List Int)))→Option (Bool×(List zd)×(List zd)×(List (List Int)))) (x:(Int×Bool×Int×(List zd)×(List (List Int))×(List zd)×(List zd)×(List zd)×(List (List Int)))):Option (Bool×(List zd)×(List zd)×(List (List Int))) :=
 cond (decide (x.2.2.1 < ((List.length x.2.2.2.2.2.2.2.2:Nat):Int)))
 (cond x.2.1
  (rec (x.1,true,(IntKind.wrap .i64 (x.2.2.1+1)),x.2.2.2.1,x.2.2.2.2.1,x.2.2.2.2.2.1,x.2.2.2.2.2.2.1,x.2.2.2.2.2.2.2.1,x.2.2.2.2.2.2.2.2))
  ((inR x.2.2.1 (List.length x.2.2.2.2.2.2.2.2)).bind fun k9 =>
   (x.2.2.2.2.2.2.2.2[k9]?).bind fun x10 =>
   (gx x.2.2.2.2.1 x.1).bind fun e11 =>
   (zc9 x10 e11).bind fun r12 =>
   rec (x.1,r12,(IntKind.wrap .i64 (x.2.2.1+1)),x.2.2.2.1,x.2.2.2.2.1,x.2.2.2.2.2.1,x.2.2.2.2.2.2.1,x.2.2.2.2.2.2.2.1,x.2.2.2.2.2.2.2.2)))
 (some (x.2.1,x.2.2.2.2.2.2.1,x.2.2.2.2.2.2.2.1,x.2.2.2.2.2.2.2.2))
def zam (rec:((List (List Int))×Int×(List zd)×(List (List Int))×(List zd)×(List (Int×(List Int))))→Option (List (Int×(List Int)))) (x:((List (List Int))×Int×(List zd)×(List (List Int))×(List zd)×(List (Int×(List Int))))):Option (List (Int×(List Int))) :=
 cond (decide (x.2.1 < ((List.length x.1:Nat):Int)))
 (((lp zau zr) (x.1,x.2.1,0,x.2.2.1,x.2.2.2.1,x.2.2.2.2.1,x.2.2.2.2.2)).bind fun r35 =>
  rec (x.1,(IntKind.wrap .i64 (x.2.1+1)),x.2.2.1,x.2.2.2.1,x.2.2.2.2.1,r35))
 (some x.2.2.2.2.2)
def zak (rec:(Int×(List zd)×(List (List Int))×(List zd)×(List zd)×(List zd)×(List (List Int)))→Option ((List zd)×(List zd)×(List (List Int)))) (x:(Int×(List zd)×(List (List Int))×(List zd)×(List zd)×(List zd)×(List (List Int)))):Option ((List zd)×(List zd)×(List (List Int))) :=
 cond (decide (x.1 < ((List.length x.2.2.1:Nat):Int)))
 (((lp q6 zr) (x.1,false,0,x.2.1,x.2.2.1,x.2.2.2.1,x.2.2.2.2.1,x.2.2.2.2.2.1,x.2.2.2.2.2.2)).bind fun r17 =>
  cond (!r17.1)
  ((gx x.2.2.1 x.1).bind fun e18 =>
   cond (qt (List.length r17.2.2.2+List.length ([e18]:List (List Int))) 24)
   (rec ((IntKind.wrap .i64 (x.1+1)),x.2.1,x.2.2.1,x.2.2.2.1,r17.2.1,r17.2.2.1,(r17.2.2.2++([e18]:List (List Int)))))
   (none))
  (rec ((IntKind.wrap .i64 (x.1+1)),x.2.1,x.2.2.1,x.2.2.2.1,r17.2.1,r17.2.2.1,r17.2.2.2)))
 (some (x.2.2.2.2.1,x.2.2.2.2.2.1,x.2.2.2.2.2.2))
def zgl (a0:(List zd)) (a1:(List (List Int))) (a2:(List zd)):Option ((List zd)×(List (List Int))×(List zd)) :=
 (zf2 a0).bind fun r38 =>
 (zf2 a2).bind fun r39 =>
 ((lp zak zr) (0,a0,a1,a2,r38,r39,([]:(List (List Int))))).bind fun r40 =>
 (zf8 r40.1 r40.2.2 r40.2.1).bind fun r41 =>
 ((lp zam zr) (r41,0,r40.1,r40.2.2,r40.2.1,([]:(List (Int×(List Int)))))).bind fun r42 =>
 (zd6 r42 r40.1 r40.2.2 r40.2.1).bind fun r43 =>
 some (r43.1,r43.2.1,r43.2.2)
def zgv (a0:(List zm)) (a1:(List (Int×(List Int)))) (a2:(List zd)) (a3:(List (List Int))) (a4:(List zd)):Option ((List zd)×(List (List Int))×Bool×(List zd)) :=
 (zd6 a1 a2 a3 a4).bind fun r4 =>
 (zgA a0 r4.1 r4.2.1 r4.2.2).bind fun r5 =>
 cond (!r5)
 (some (([]:(List zd)),([]:(List (List Int))),false,([]:(List zd))))
 ((zgl r4.1 r4.2.1 r4.2.2).bind fun r6 =>
  some (r6.1,r6.2.1,true,r6.2.2))
end Go.Abs.Q
namespace Go.Abs.Q
open Go Go.Abs
def zao (s1:Int):List (Int×(List Int))→Nat→Option (Unit⊕Int)
 | [],i=>some (Sum.inl ())
 | e :: es,i =>
  cond (e.1 == s1)
  (some (Sum.inr (i:Int)))
  (zao s1 es (i+1))
theorem zjE (s0:(List (Int×(List Int)))) (s1:Int) (hl:List.length s0≤maxLen):∀ (es:List (Int×(List Int))) (i:Nat) (k:Nat),s0.drop i=es→es.length < k→lp zbw k (s0,s1,(i:Int))=zao s1 es i:=by
 intro es
 induction es with
 | nil =>
  intro i k h hk
  obtain⟨k,rfl⟩:∃ k',k=k'+1:=⟨k - 1,by omega⟩
  rw[zl]
  generalize lp zbw k=rec
  unfold zbw zao
  simp only[zy (zo h),cond_false]
 | cons e es ih =>
  intro i k h hk
  obtain⟨k,rfl⟩:∃ k',k=k'+1:=⟨k - 1,by omega⟩
  rw[zl]
  have hi:=zn h
  have hk2:es.length < k:=Nat.lt_of_succ_lt_succ hk
  have key:=fun (_:Unit)=>ih (i+1) k (zj h) hk2
  generalize lp zbw k=rec at key ⊢
  unfold zbw zao
  simp only[zM hi,cond_true,zP,zk h,Option.bind_some,zO hi hl,key ()]
theorem zix (s0:(List (Int×(List Int)))) (s1:Int) (hl:List.length s0≤maxLen):lp zbw zr (s0,s1,0)=zao s1 s0 0 :=
 zjE s0 s1 hl s0 0 zr rfl (Nat.lt_of_le_of_lt hl (by decide))
def yL (s0:(List (Int×(List Int)))):List Int→(List Int)→Option (List Int)
 | [],s3=>some s3
 | e :: es,s3 =>
  cond (decide (e < 0))
  ((zhp s0 (IntKind.wrap .i64 ((-1) - e))).bind fun r18 =>
   cond (decide (r18 < 0))
   (cond (qt (List.length s3+List.length ([e]:List Int)) 8)
    (yL s0 es (s3++([e]:List Int)))
    (none))
   ((gx s0 r18).bind fun e20 =>
    cond (qt (List.length s3+List.length e20.2) 8)
    (yL s0 es (s3++e20.2))
    (none)))
  (cond (qt (List.length s3+List.length ([e]:List Int)) 8)
   (yL s0 es (s3++([e]:List Int)))
   (none))
theorem ziS (s0:(List (Int×(List Int)))) (s1:(List Int)) (hl:List.length s1≤maxLen):∀ (es:List Int) (i:Nat) (k:Nat) (s3:(List Int)),s1.drop i=es→es.length < k→lp zaV k (s0,s1,(i:Int),s3)=yL s0 es s3:=by
 intro es
 induction es with
 | nil =>
  intro i k s3 h hk
  obtain⟨k,rfl⟩:∃ k',k=k'+1:=⟨k - 1,by omega⟩
  rw[zl]
  generalize lp zaV k=rec
  unfold zaV yL
  simp only[zy (zo h),cond_false]
 | cons e es ih =>
  intro i k s3 h hk
  obtain⟨k,rfl⟩:∃ k',k=k'+1:=⟨k - 1,by omega⟩
  rw[zl]
  have hi:=zn h
  have hk2:es.length < k:=Nat.lt_of_succ_lt_succ hk
  have key:=fun s3=>ih (i+1) k s3 (zj h) hk2
  generalize lp zaV k=rec at key ⊢
  unfold zaV yL
  simp only[zM hi,cond_true,zP,zk h,Option.bind_some,zO hi hl,key]
theorem zin (s0:(List (Int×(List Int)))) (s1:(List Int)) (s3:(List Int)) (hl:List.length s1≤maxLen):lp zaV zr (s0,s1,0,s3)=yL s0 s1 s3 :=
 ziS s0 s1 hl s1 0 zr s3 rfl (Nat.lt_of_le_of_lt hl (by decide))
def qM (s0:(List (Int×(List Int)))) (s5:(List zd)) (s6:(List (List Int))):List zd→(List zd)→Option ((List zd)×(List (List Int))×(List zd))
 | [],s7=>some (s5,s6,s7)
 | e :: es,s7 =>
  (zcZ s0 e.2).bind fun r26 =>
  cond (qt (List.length s7+List.length ([(e.1,r26)]:List zd)) 32)
  (qM s0 s5 s6 es (s7++([(e.1,r26)]:List zd)))
  (none)
theorem zii (s0:(List (Int×(List Int)))) (s2:(List zd)) (s3:(List (List Int))) (s4:(List zd)) (s5:(List zd)) (s6:(List (List Int))) (hl:List.length s4≤maxLen):∀ (es:List zd) (i:Nat) (k:Nat) (s7:(List zd)),s4.drop i=es→es.length < k→lp zat k (s0,(i:Int),s2,s3,s4,s5,s6,s7)=qM s0 s5 s6 es s7:=by
 intro es
 induction es with
 | nil =>
  intro i k s7 h hk
  obtain⟨k,rfl⟩:∃ k',k=k'+1:=⟨k - 1,by omega⟩
  rw[zl]
  generalize lp zat k=rec
  unfold zat qM
  simp only[zy (zo h),cond_false]
 | cons e es ih =>
  intro i k s7 h hk
  obtain⟨k,rfl⟩:∃ k',k=k'+1:=⟨k - 1,by omega⟩
  rw[zl]
  have hi:=zn h
  have hk2:es.length < k:=Nat.lt_of_succ_lt_succ hk
  have key:=fun s7=>ih (i+1) k s7 (zj h) hk2
  generalize lp zat k=rec at key ⊢
  unfold zat qM
  simp only[zM hi,cond_true,zP,zk h,Option.bind_some,zO hi hl,key]
theorem zha (s0:(List (Int×(List Int)))) (s2:(List zd)) (s3:(List (List Int))) (s4:(List zd)) (s5:(List zd)) (s6:(List (List Int))) (s7:(List zd)) (hl:List.length s4≤maxLen):lp zat zr (s0,0,s2,s3,s4,s5,s6,s7)=qM s0 s5 s6 s4 s7 :=
 zii s0 s2 s3 s4 s5 s6 hl s4 0 zr s7 rfl (Nat.lt_of_le_of_lt hl (by decide))
def qJ (s0:(List (Int×(List Int)))) (s5:(List zd)):List (List Int)→(List (List Int))→Option ((List zd)×(List (List Int)))
 | [],s6=>some (s5,s6)
 | e :: es,s6 =>
  (zcZ s0 e).bind fun r16 =>
  cond (qt (List.length s6+List.length ([r16]:List (List Int))) 24)
  (qJ s0 s5 es (s6++([r16]:List (List Int))))
  (none)
theorem zih (s0:(List (Int×(List Int)))) (s2:(List zd)) (s3:(List (List Int))) (s4:(List zd)) (s5:(List zd)) (hl:List.length s3≤maxLen):∀ (es:List (List Int)) (i:Nat) (k:Nat) (s6:(List (List Int))),s3.drop i=es→es.length < k→lp zaz k (s0,(i:Int),s2,s3,s4,s5,s6)=qJ s0 s5 es s6:=by
 intro es
 induction es with
 | nil =>
  intro i k s6 h hk
  obtain⟨k,rfl⟩:∃ k',k=k'+1:=⟨k - 1,by omega⟩
  rw[zl]
  generalize lp zaz k=rec
  unfold zaz qJ
  simp only[zy (zo h),cond_false]
 | cons e es ih =>
  intro i k s6 h hk
  obtain⟨k,rfl⟩:∃ k',k=k'+1:=⟨k - 1,by omega⟩
  rw[zl]
  have hi:=zn h
  have hk2:es.length < k:=Nat.lt_of_succ_lt_succ hk
  have key:=fun s6=>ih (i+1) k s6 (zj h) hk2
  generalize lp zaz k=rec at key ⊢
  unfold zaz qJ
  simp only[zM hi,cond_true,zP,zk h,Option.bind_some,zO hi hl,key]
theorem zhx (s0:(List (Int×(List Int)))) (s2:(List zd)) (s3:(List (List Int))) (s4:(List zd)) (s5:(List zd)) (s6:(List (List Int))) (hl:List.length s3≤maxLen):lp zaz zr (s0,0,s2,s3,s4,s5,s6)=qJ s0 s5 s3 s6 :=
 zih s0 s2 s3 s4 s5 hl s3 0 zr s6 rfl (Nat.lt_of_le_of_lt hl (by decide))
def qR (s0:(List (Int×(List Int)))):List zd→(List zd)→Option (List zd)
 | [],s5=>some s5
 | e :: es,s5 =>
  (zcZ s0 e.2).bind fun r9 =>
  cond (qt (List.length s5+List.length ([(e.1,r9)]:List zd)) 32)
  (qR s0 es (s5++([(e.1,r9)]:List zd)))
  (none)
theorem zhA (s0:(List (Int×(List Int)))) (s2:(List zd)) (s3:(List (List Int))) (s4:(List zd)) (hl:List.length s2≤maxLen):∀ (es:List zd) (i:Nat) (k:Nat) (s5:(List zd)),s2.drop i=es→es.length < k→lp zav k (s0,(i:Int),s2,s3,s4,s5)=qR s0 es s5:=by
 intro es
 induction es with
 | nil =>
  intro i k s5 h hk
  obtain⟨k,rfl⟩:∃ k',k=k'+1:=⟨k - 1,by omega⟩
  rw[zl]
  generalize lp zav k=rec
  unfold zav qR
  simp only[zy (zo h),cond_false]
 | cons e es ih =>
  intro i k s5 h hk
  obtain⟨k,rfl⟩:∃ k',k=k'+1:=⟨k - 1,by omega⟩
  rw[zl]
  have hi:=zn h
  have hk2:es.length < k:=Nat.lt_of_succ_lt_succ hk
  have key:=fun s5=>ih (i+1) k s5 (zj h) hk2
  generalize lp zav k=rec at key ⊢
  unfold zav qR
  simp only[zM hi,cond_true,zP,zk h,Option.bind_some,zO hi hl,key]
theorem zg3 (s0:(List (Int×(List Int)))) (s2:(List zd)) (s3:(List (List Int))) (s4:(List zd)) (s5:(List zd)) (hl:List.length s2≤maxLen):lp zav zr (s0,0,s2,s3,s4,s5)=qR s0 s2 s5 :=
 zhA s0 s2 s3 s4 hl s2 0 zr s5 rfl (Nat.lt_of_le_of_lt hl (by decide))
def zaa (s1:(List Int)):List Int→Nat→Option (Unit⊕Bool)
 | [],i=>some (Sum.inl ())
 | e :: es,i =>
  (gx s1 (i:Int)).bind fun e4 =>
  cond (e != e4)
  (some (Sum.inr false))
  (zaa s1 es (i+1))
theorem zhY (s0:(List Int)) (s1:(List Int)) (hl:List.length s0≤maxLen):∀ (es:List Int) (i:Nat) (k:Nat),s0.drop i=es→es.length < k→lp zal k (s0,s1,(i:Int))=zaa s1 es i:=by
 intro es
 induction es with
 | nil =>
  intro i k h hk
  obtain⟨k,rfl⟩:∃ k',k=k'+1:=⟨k - 1,by omega⟩
  rw[zl]
  generalize lp zal k=rec
  unfold zal zaa
  simp only[zy (zo h),cond_false]
 | cons e es ih =>
  intro i k h hk
  obtain⟨k,rfl⟩:∃ k',k=k'+1:=⟨k - 1,by omega⟩
  rw[zl]
  have hi:=zn h
  have hk2:es.length < k:=Nat.lt_of_succ_lt_succ hk
  have key:=fun (_:Unit)=>ih (i+1) k (zj h) hk2
  generalize lp zal k=rec at key ⊢
  unfold zal zaa
  simp only[zM hi,cond_true,zP,zk h,Option.bind_some,zO hi hl,key ()]
theorem zhk (s0:(List Int)) (s1:(List Int)) (hl:List.length s0≤maxLen):lp zal zr (s0,s1,0)=zaa s1 s0 0 :=
 zhY s0 s1 hl s0 0 zr rfl (Nat.lt_of_le_of_lt hl (by decide))
def zS (rf:((Int×(List Int)×(List (List Int)))→Option Bool)) (s0:Int) (s3:(List (List Int))):List Int→Option (Unit⊕Bool)
 | []=>some (Sum.inl ())
 | e :: es =>
  cond (decide (e ≥ 0))
  (zS rf s0 s3 es)
  (cond ((IntKind.wrap .i64 ((-1) - e)) == s0)
   (some (Sum.inr true))
   ((inR (IntKind.wrap .i64 ((-1) - e)) 48).bind fun k10 =>
    (s3[k10]?).bind fun x11 =>
    cond (decide (((List.length x11:Nat):Int) > 0))
    ((inR (IntKind.wrap .i64 ((-1) - e)) 48).bind fun k12 =>
     (s3[k12]?).bind fun x13 =>
     (rf (s0,x13,s3)).bind fun r14 =>
     cond r14
     (some (Sum.inr true))
     (zS rf s0 s3 es))
    (zS rf s0 s3 es)))
theorem zdw (rf:((Int×(List Int)×(List (List Int)))→Option Bool)) (s0:Int) (s1:(List Int)) (s3:(List (List Int))) (hl:List.length s1≤maxLen):∀ (es:List Int) (i:Nat) (k:Nat),s1.drop i=es→es.length < k→lp (z3 rf) k (s0,s1,(i:Int),s3)=zS rf s0 s3 es:=by
 intro es
 induction es with
 | nil =>
  intro i k h hk
  obtain⟨k,rfl⟩:∃ k',k=k'+1:=⟨k - 1,by omega⟩
  rw[zl]
  generalize lp (z3 rf) k=rec
  unfold z3 zS
  simp only[zy (zo h),cond_false]
 | cons e es ih =>
  intro i k h hk
  obtain⟨k,rfl⟩:∃ k',k=k'+1:=⟨k - 1,by omega⟩
  rw[zl]
  have hi:=zn h
  have hk2:es.length < k:=Nat.lt_of_succ_lt_succ hk
  have key:=fun (_:Unit)=>ih (i+1) k (zj h) hk2
  generalize lp (z3 rf) k=rec at key ⊢
  unfold z3 zS
  simp only[zM hi,cond_true,zP,zk h,Option.bind_some,zO hi hl,key ()]
theorem zdi (rf:((Int×(List Int)×(List (List Int)))→Option Bool)) (s0:Int) (s1:(List Int)) (s3:(List (List Int))) (hl:List.length s1≤maxLen):lp (z3 rf) zr (s0,s1,0,s3)=zS rf s0 s3 s1 :=
 zdw rf s0 s1 s3 hl s1 0 zr rfl (Nat.lt_of_le_of_lt hl (by decide))
def z1 (rf:((((List zm)×(List Int)×(List Int)×(List (List Int)))→Option (Bool×(List (List Int))))×(((List zm)×(List (List Int))×(List (List Int))×(List (List Int)))→Option (Bool×(List (List Int)))))) (s0:(List zm)) (s2:(List (List Int))):List (List Int)→Nat→(List (List Int))→Option ((List (List Int))⊕(Bool×(List (List Int))))
 | [],i,s4=>some (Sum.inl s4)
 | e :: es,i,s4 =>
  (gx s2 (i:Int)).bind fun e8 =>
  (rf.1 (s0,e,e8,s4)).bind fun r9 =>
  cond (!r9.1)
  (some (Sum.inr (false,r9.2)))
  (z1 rf s0 s2 es (i+1) r9.2)
theorem zdT (rf:((((List zm)×(List Int)×(List Int)×(List (List Int)))→Option (Bool×(List (List Int))))×(((List zm)×(List (List Int))×(List (List Int))×(List (List Int)))→Option (Bool×(List (List Int)))))) (s0:(List zm)) (s1:(List (List Int))) (s2:(List (List Int))) (hl:List.length s1≤maxLen):∀ (es:List (List Int)) (i:Nat) (k:Nat) (s4:(List (List Int))),s1.drop i=es→es.length < k→lp (yg rf) k (s0,s1,s2,(i:Int),s4)=z1 rf s0 s2 es i s4:=by
 intro es
 induction es with
 | nil =>
  intro i k s4 h hk
  obtain⟨k,rfl⟩:∃ k',k=k'+1:=⟨k - 1,by omega⟩
  rw[zl]
  generalize lp (yg rf) k=rec
  unfold yg z1
  simp only[zy (zo h),cond_false]
 | cons e es ih =>
  intro i k s4 h hk
  obtain⟨k,rfl⟩:∃ k',k=k'+1:=⟨k - 1,by omega⟩
  rw[zl]
  have hi:=zn h
  have hk2:es.length < k:=Nat.lt_of_succ_lt_succ hk
  have key:=fun s4=>ih (i+1) k s4 (zj h) hk2
  generalize lp (yg rf) k=rec at key ⊢
  unfold yg z1
  simp only[zM hi,cond_true,zP,zk h,Option.bind_some,zO hi hl,key]
theorem zdA (rf:((((List zm)×(List Int)×(List Int)×(List (List Int)))→Option (Bool×(List (List Int))))×(((List zm)×(List (List Int))×(List (List Int))×(List (List Int)))→Option (Bool×(List (List Int)))))) (s0:(List zm)) (s1:(List (List Int))) (s2:(List (List Int))) (s4:(List (List Int))) (hl:List.length s1≤maxLen):lp (yg rf) zr (s0,s1,s2,0,s4)=z1 rf s0 s2 s1 0 s4 :=
 zdT rf s0 s1 s2 hl s1 0 zr s4 rfl (Nat.lt_of_le_of_lt hl (by decide))
def zQ (rf:(((List Int)×(List (List Int))×(List Int))→Option (List Int))) (s2:(List (List Int))):List Int→(List Int)→Option (List Int)
 | [],s3=>some s3
 | e :: es,s3 =>
  cond (decide (((List.length s3:Nat):Int)≤48))
  (cond (decide (e < 0))
   ((inR (IntKind.wrap .i64 ((-1) - e)) 48).bind fun k21 =>
    (s2[k21]?).bind fun x22 =>
    cond (decide (((List.length x22:Nat):Int) > 0))
    ((inR (IntKind.wrap .i64 ((-1) - e)) 48).bind fun k24 =>
     (s2[k24]?).bind fun x25 =>
     (rf (x25,s2,s3)).bind fun r26 =>
     zQ rf s2 es r26)
    (cond (qt (List.length s3+List.length ([e]:List Int)) 8)
     (zQ rf s2 es (s3++([e]:List Int)))
     (none)))
   (cond (qt (List.length s3+List.length ([e]:List Int)) 8)
    (zQ rf s2 es (s3++([e]:List Int)))
    (none)))
  (some s3)
theorem zdy (rf:(((List Int)×(List (List Int))×(List Int))→Option (List Int))) (s0:(List Int)) (s2:(List (List Int))) (hl:List.length s0≤maxLen):∀ (es:List Int) (i:Nat) (k:Nat) (s3:(List Int)),s0.drop i=es→es.length < k→lp (z5 rf) k (s0,(i:Int),s2,s3)=zQ rf s2 es s3:=by
 intro es
 induction es with
 | nil =>
  intro i k s3 h hk
  obtain⟨k,rfl⟩:∃ k',k=k'+1:=⟨k - 1,by omega⟩
  rw[zl]
  generalize lp (z5 rf) k=rec
  unfold z5 zQ
  simp only[zy (zo h),cond_false]
 | cons e es ih =>
  intro i k s3 h hk
  obtain⟨k,rfl⟩:∃ k',k=k'+1:=⟨k - 1,by omega⟩
  rw[zl]
  have hi:=zn h
  have hk2:es.length < k:=Nat.lt_of_succ_lt_succ hk
  have key:=fun s3=>ih (i+1) k s3 (zj h) hk2
  generalize lp (z5 rf) k=rec at key ⊢
  unfold z5 zQ
  simp only[zM hi,cond_true,zP,zk h,Option.bind_some,zO hi hl,key]
theorem zdh (rf:(((List Int)×(List (List Int))×(List Int))→Option (List Int))) (s0:(List Int)) (s2:(List (List Int))) (s3:(List Int)) (hl:List.length s0≤maxLen):lp (z5 rf) zr (s0,0,s2,s3)=zQ rf s2 s0 s3 :=
 zdy rf s0 s2 hl s0 0 zr s3 rfl (Nat.lt_of_le_of_lt hl (by decide))
def qk (s0:(List zd)) (s1:Int) (s4:(List zd)):List zd→Nat→Bool→Option (Bool×(List zd))
 | [],i,s2=>some (s2,s4)
 | e :: es,i,s2 =>
  cond s2
  (qk s0 s1 s4 es (i+1) true)
  ((inR (i:Int) (List.length s4)).bind fun k7 =>
   (s4[k7]?).bind fun x8 =>
   (gx s0 s1).bind fun e9 =>
   (zcD x8.1 x8.2 e9.1 e9.2).bind fun r10 =>
   qk s0 s1 s4 es (i+1) r10)
theorem zie (s0:(List zd)) (s1:Int) (s4:(List zd)) (hl:List.length s4≤maxLen):∀ (es:List zd) (i:Nat) (k:Nat) (s2:Bool),s4.drop i=es→es.length < k→lp q4 k (s0,s1,s2,(i:Int),s4)=qk s0 s1 s4 es i s2:=by
 intro es
 induction es with
 | nil =>
  intro i k s2 h hk
  obtain⟨k,rfl⟩:∃ k',k=k'+1:=⟨k - 1,by omega⟩
  rw[zl]
  generalize lp q4 k=rec
  unfold q4 qk
  simp only[zy (zo h),cond_false]
 | cons e es ih =>
  intro i k s2 h hk
  obtain⟨k,rfl⟩:∃ k',k=k'+1:=⟨k - 1,by omega⟩
  rw[zl]
  have hi:=zn h
  have hk2:es.length < k:=Nat.lt_of_succ_lt_succ hk
  have key:=fun s2=>ih (i+1) k s2 (zj h) hk2
  generalize lp q4 k=rec at key ⊢
  unfold q4 qk
  simp only[zM hi,cond_true,zP,zk h,Option.bind_some,zO hi hl,key]
theorem zhs (s0:(List zd)) (s1:Int) (s4:(List zd)) (s2:Bool) (hl:List.length s4≤maxLen):lp q4 zr (s0,s1,s2,0,s4)=qk s0 s1 s4 s4 0 s2 :=
 zie s0 s1 s4 hl s4 0 zr s2 rfl (Nat.lt_of_le_of_lt hl (by decide))
def qQ (s0:(List zd)):List zd→Nat→(List zd)→Option (List zd)
 | [],i,s2=>some s2
 | e :: es,i,s2 =>
  ((lp q4 zr) (s0,(i:Int),false,0,s2)).bind fun r13 =>
  cond (!r13.1)
  (cond (qt (List.length r13.2+List.length ([(e.1,e.2)]:List zd)) 32)
   (qQ s0 es (i+1) (r13.2++([(e.1,e.2)]:List zd)))
   (none))
  (qQ s0 es (i+1) r13.2)
theorem zid (s0:(List zd)) (hl:List.length s0≤maxLen):∀ (es:List zd) (i:Nat) (k:Nat) (s2:(List zd)),s0.drop i=es→es.length < k→lp zaq k (s0,(i:Int),s2)=qQ s0 es i s2:=by
 intro es
 induction es with
 | nil =>
  intro i k s2 h hk
  obtain⟨k,rfl⟩:∃ k',k=k'+1:=⟨k - 1,by omega⟩
  rw[zl]
  generalize lp zaq k=rec
  unfold zaq qQ
  simp only[zy (zo h),cond_false]
 | cons e es ih =>
  intro i k s2 h hk
  obtain⟨k,rfl⟩:∃ k',k=k'+1:=⟨k - 1,by omega⟩
  rw[zl]
  have hi:=zn h
  have hk2:es.length < k:=Nat.lt_of_succ_lt_succ hk
  have key:=fun s2=>ih (i+1) k s2 (zj h) hk2
  generalize lp zaq k=rec at key ⊢
  unfold zaq qQ
  simp only[zM hi,cond_true,zP,zk h,Option.bind_some,zO hi hl,key]
theorem zhj (s0:(List zd)) (s2:(List zd)) (hl:List.length s0≤maxLen):lp zaq zr (s0,0,s2)=qQ s0 s0 0 s2 :=
 zid s0 hl s0 0 zr s2 rfl (Nat.lt_of_le_of_lt hl (by decide))
def qm (s0:Int) (s4:(List (List Int))) (s6:(List zd)) (s7:(List zd)) (s8:(List (List Int))):List (List Int)→Nat→Bool→Option (Bool×(List zd)×(List zd)×(List (List Int)))
 | [],i,s1=>some (s1,s6,s7,s8)
 | e :: es,i,s1 =>
  cond s1
  (qm s0 s4 s6 s7 s8 es (i+1) true)
  ((inR (i:Int) (List.length s8)).bind fun k9 =>
   (s8[k9]?).bind fun x10 =>
   (gx s4 s0).bind fun e11 =>
   (zc9 x10 e11).bind fun r12 =>
   qm s0 s4 s6 s7 s8 es (i+1) r12)
theorem zhV (s0:Int) (s3:(List zd)) (s4:(List (List Int))) (s5:(List zd)) (s6:(List zd)) (s7:(List zd)) (s8:(List (List Int))) (hl:List.length s8≤maxLen):∀ (es:List (List Int)) (i:Nat) (k:Nat) (s1:Bool),s8.drop i=es→es.length < k→lp q6 k (s0,s1,(i:Int),s3,s4,s5,s6,s7,s8)=qm s0 s4 s6 s7 s8 es i s1:=by
 intro es
 induction es with
 | nil =>
  intro i k s1 h hk
  obtain⟨k,rfl⟩:∃ k',k=k'+1:=⟨k - 1,by omega⟩
  rw[zl]
  generalize lp q6 k=rec
  unfold q6 qm
  simp only[zy (zo h),cond_false]
 | cons e es ih =>
  intro i k s1 h hk
  obtain⟨k,rfl⟩:∃ k',k=k'+1:=⟨k - 1,by omega⟩
  rw[zl]
  have hi:=zn h
  have hk2:es.length < k:=Nat.lt_of_succ_lt_succ hk
  have key:=fun s1=>ih (i+1) k s1 (zj h) hk2
  generalize lp q6 k=rec at key ⊢
  unfold q6 qm
  simp only[zM hi,cond_true,zP,zk h,Option.bind_some,zO hi hl,key]
theorem zho (s0:Int) (s3:(List zd)) (s4:(List (List Int))) (s5:(List zd)) (s6:(List zd)) (s7:(List zd)) (s8:(List (List Int))) (s1:Bool) (hl:List.length s8≤maxLen):lp q6 zr (s0,s1,0,s3,s4,s5,s6,s7,s8)=qm s0 s4 s6 s7 s8 s8 0 s1 :=
 zhV s0 s3 s4 s5 s6 s7 s8 hl s8 0 zr s1 rfl (Nat.lt_of_le_of_lt hl (by decide))
def zae (s0:(List (List Int))) (s2:(List zd)) (s3:(List (List Int))) (s4:(List zd)):List (List Int)→Nat→(List (Int×(List Int)))→Option (List (Int×(List Int)))
 | [],i,s5=>some s5
 | e :: es,i,s5 =>
  ((lp zau zr) (s0,(i:Int),0,s2,s3,s4,s5)).bind fun r35 =>
  zae s0 s2 s3 s4 es (i+1) r35
theorem zhE (s0:(List (List Int))) (s2:(List zd)) (s3:(List (List Int))) (s4:(List zd)) (hl:List.length s0≤maxLen):∀ (es:List (List Int)) (i:Nat) (k:Nat) (s5:(List (Int×(List Int)))),s0.drop i=es→es.length < k→lp zam k (s0,(i:Int),s2,s3,s4,s5)=zae s0 s2 s3 s4 es i s5:=by
 intro es
 induction es with
 | nil =>
  intro i k s5 h hk
  obtain⟨k,rfl⟩:∃ k',k=k'+1:=⟨k - 1,by omega⟩
  rw[zl]
  generalize lp zam k=rec
  unfold zam zae
  simp only[zy (zo h),cond_false]
 | cons e es ih =>
  intro i k s5 h hk
  obtain⟨k,rfl⟩:∃ k',k=k'+1:=⟨k - 1,by omega⟩
  rw[zl]
  have hi:=zn h
  have hk2:es.length < k:=Nat.lt_of_succ_lt_succ hk
  have key:=fun s5=>ih (i+1) k s5 (zj h) hk2
  generalize lp zam k=rec at key ⊢
  unfold zam zae
  simp only[zM hi,cond_true,zP,zk h,Option.bind_some,zO hi hl,key]
theorem zg5 (s0:(List (List Int))) (s2:(List zd)) (s3:(List (List Int))) (s4:(List zd)) (s5:(List (Int×(List Int)))) (hl:List.length s0≤maxLen):lp zam zr (s0,0,s2,s3,s4,s5)=zae s0 s2 s3 s4 s0 0 s5 :=
 zhE s0 s2 s3 s4 hl s0 0 zr s5 rfl (Nat.lt_of_le_of_lt hl (by decide))
def qS (s1:(List zd)) (s2:(List (List Int))) (s3:(List zd)):List (List Int)→Nat→(List zd)→(List zd)→(List (List Int))→Option ((List zd)×(List zd)×(List (List Int)))
 | [],i,s4,s5,s6=>some (s4,s5,s6)
 | e :: es,i,s4,s5,s6 =>
  ((lp q6 zr) ((i:Int),false,0,s1,s2,s3,s4,s5,s6)).bind fun r17 =>
  cond (!r17.1)
  (cond (qt (List.length r17.2.2.2+List.length ([e]:List (List Int))) 24)
   (qS s1 s2 s3 es (i+1) r17.2.1 r17.2.2.1 (r17.2.2.2++([e]:List (List Int))))
   (none))
  (qS s1 s2 s3 es (i+1) r17.2.1 r17.2.2.1 r17.2.2.2)
theorem zhB (s1:(List zd)) (s2:(List (List Int))) (s3:(List zd)) (hl:List.length s2≤maxLen):∀ (es:List (List Int)) (i:Nat) (k:Nat) (s4:(List zd)) (s5:(List zd)) (s6:(List (List Int))),s2.drop i=es→es.length < k→lp zak k ((i:Int),s1,s2,s3,s4,s5,s6)=qS s1 s2 s3 es i s4 s5 s6:=by
 intro es
 induction es with
 | nil =>
  intro i k s4 s5 s6 h hk
  obtain⟨k,rfl⟩:∃ k',k=k'+1:=⟨k - 1,by omega⟩
  rw[zl]
  generalize lp zak k=rec
  unfold zak qS
  simp only[zy (zo h),cond_false]
 | cons e es ih =>
  intro i k s4 s5 s6 h hk
  obtain⟨k,rfl⟩:∃ k',k=k'+1:=⟨k - 1,by omega⟩
  rw[zl]
  have hi:=zn h
  have hk2:es.length < k:=Nat.lt_of_succ_lt_succ hk
  have key:=fun s4 s5 s6=>ih (i+1) k s4 s5 s6 (zj h) hk2
  generalize lp zak k=rec at key ⊢
  unfold zak qS
  simp only[zM hi,cond_true,zP,zk h,Option.bind_some,zO hi hl,key]
theorem zhi (s1:(List zd)) (s2:(List (List Int))) (s3:(List zd)) (s4:(List zd)) (s5:(List zd)) (s6:(List (List Int))) (hl:List.length s2≤maxLen):lp zak zr (0,s1,s2,s3,s4,s5,s6)=qS s1 s2 s3 s2 0 s4 s5 s6 :=
 zhB s1 s2 s3 hl s2 0 zr s4 s5 s6 rfl (Nat.lt_of_le_of_lt hl (by decide))
end Go.Abs.Q
namespace Go.Abs.Q
open Go Go.Abs
section
theorem zqV (b:List Int):(es:List Int)→(i:Nat)→i+es.length=b.length→zaa b es i=some (cond (decide (es=b.drop i)) (.inl ()) (.inr false))
 | [],i,h=>by
  rw[List.drop_of_length_le (by simp at h; omega)]
  rfl
 | e :: es,i,h=>by
  simp only[List.length_cons] at h
  obtain⟨x,hx⟩:∃ x,b[i]? = some x:=⟨_,List.getElem?_eq_getElem (by omega)⟩
  have hd:b.drop i=x :: b.drop (i+1):=by
   have h1:=(List.getElem?_eq_some_iff.1 hx).1
   rw[List.drop_eq_getElem_cons h1]
   rw[(List.getElem?_eq_some_iff.1 hx).2]
  unfold zaa
  rw[zP,hx,Option.bind_some,zqV b es (i+1) (by omega),hd]
  by_cases he:e=x
  ·subst he
   rw[show (e != e)=false from by simp,cond_false]
   simp
  ·rw[show (e != x)=true from by simp [he],cond_true]
   simp [he]
theorem zmx {a b:List Int} (h:a.length≤1000000):zc9 a b=some (decide (a=b)):=by
 unfold zc9
 by_cases hl:a.length=b.length
 ·rw[show (((List.length a:Nat):Int) != ((List.length b:Nat):Int))=false from by simp [hl],cond_false,zhk _ _ (by unfold maxLen; omega),zqV b a 0 (by omega),Option.bind_some,List.drop_zero]
  cases decide (a=b) <;> rfl
 ·rw[show (((List.length a:Nat):Int) != ((List.length b:Nat):Int))=true from by simp; omega,cond_true]
  have:a ≠ b:=fun e=>hl (by rw[e])
  simp [this]
def zC0 (o:Option Tm):List Int:=match o with
 | none=>[]
 | some t=>t.codes
structure RepW (a0:List zm) (w:List (List Int)) (B:Bd):Prop where
 len:w.length=48
 at_:∀ x,x < 48→w[x]? = some (zC0 (B x))
 ok:∀ x t,B x=some t→x < 24∧t.ok a0 24∧t.codes.length≤48
theorem RepW.small {a0:List zm} {w:List (List Int)} {B:Bd} (h:RepW a0 w B):zjC B:=fun x t ht=>by
 obtain⟨h1,h2,h3⟩:=h.ok x t ht
 rw[Tm.codes_len] at h3
 exact ⟨by omega,h3⟩
theorem RepW.set {a0:List zm} {w:List (List Int)} {B:Bd} (h:RepW a0 w B) {x:Nat} (hx:x < 24) {t:Tm} (ht:t.ok a0 24) (hl:t.codes.length≤48):RepW a0 (w.set x t.codes) (zAM B x t) where
 len:=by rw[List.length_set]; exact h.len
 at_:=fun y hy=>by
  have:=h.len
  by_cases he:y=x
  ·subst he
   rw[List.getElem?_set_self (by omega),zcF]
   rfl
  ·rw[List.getElem?_set_ne (Ne.symm he),zeM _ _ he]
   exact h.at_ y hy
 ok:=fun y u hy=>by
  by_cases he:y=x
  ·subst he
   rw[zcF] at hy
   injection hy with hy
   subst hy
   exact ⟨hx,ht,hl⟩
  ·rw[zeM _ _ he] at hy
   exact h.ok y u hy
theorem zhF (t:Tm):0 < t.codes.length:=by rw[Tm.codes_len]; exact t.size_pos
section
variable {a0:List zm} {w:List (List Int)} {B:Bd} {σ:Sb} (hT:RepW a0 w B) (hG:Good B σ)
include hT hG
theorem zAl:∀ (m k:Nat) (t:Tm),zgL t≤m→m≤k→t.ok a0 24→t.codes.length≤48 →
  ∃ u:Tm,lp qV k (t.codes,w)=some u.codes∧u.ok a0 24∧u.codes.length≤48∧(∀ θ,SolB θ B→t.sub θ=u.sub θ)∧∀ y,u = .v y→B y=none:=by
 intro m
 induction m with
 | zero=>intro k t hm; cases t <;> simp [zgL] at hm
 | succ m ih =>
  intro k t hm hk ho hl
  obtain⟨k,rfl⟩:∃ k',k=k'+1:=⟨k - 1,by omega⟩
  rw[zl]
  have key:=fun t (h1:zgL t≤m) h2 h3=>ih k t h1 (by omega) h2 h3
  generalize lp qV k=rec at key ⊢
  unfold qV
  cases t with
  | v x =>
   have hx:x < 24:=ho
   have hc:(Tm.v x).codes=[-1 - (x:Int)]:=rfl
   have w1:IntKind.wrap .i64 ((-1) - (-1 - (x:Int)))=(x:Int):=by rw[yk] <;> omega
   rw[hc]
   simp only[List.length_cons,List.length_nil,qx,List.getElem?_cons_zero,Option.bind_some,w1]
   rw[show ((((0+1:Nat):Int)) == 1)=true from rfl,cond_true,decide_eq_true (show -1 - (x:Int) < 0 by omega),cond_true,zaJ (show x < 48 by omega),Option.bind_some,hT.at_ x (by omega),Option.bind_some]
   cases hb:B x with
   | none =>
    refine ⟨.v x,rfl,ho,hl,fun θ _=>rfl,fun y hy=>by injection hy with hy; rw[← hy]; exact hb⟩
   | some u =>
    obtain⟨-,h2,h3⟩:=hT.ok x u hb
    have hp:=zhF u
    show ∃ u1,(cond (decide (((List.length u.codes:Nat):Int) > 0)) _ _)=_∧_
    rw[decide_eq_true (show ((List.length u.codes:Nat):Int) > 0 by omega),cond_true]
    obtain⟨u',g1,g2,g3,g4,g5⟩:=key u (by
     cases u with
     | v y=>have:=hG.down _ y hb; simp only[zgL] at hm ⊢; omega
     | f c as=>simp only[zgL] at hm ⊢; omega) h2 h3
    refine ⟨u',?_,g2,g3,fun θ hθ=>(hθ _ u hb).trans (g4 θ hθ),g5⟩
    show (w[x]?).bind _=_
    rw[hT.at_ x (by omega),hb]
    exact g1
  | f c as =>
   refine ⟨.f c as,?_,ho,hl,fun θ _=>rfl,fun y hy=>by cases hy⟩
   have hc:(Tm.f c as).codes=(c:Int) :: zK as:=rfl
   rw[hc]
   simp only[qx,List.getElem?_cons_zero,Option.bind_some]
   rw[decide_eq_false (show ¬ (c:Int) < 0 by omega),cond_false]
   cases (((List.length ((c:Int) :: zK as):Nat):Int) == 1) <;> rfl
theorem zoj {t:Tm} (ho:t.ok a0 24) (hl:t.codes.length≤48) :
  ∃ u:Tm,zbe t.codes w=some u.codes∧u.ok a0 24∧u.codes.length≤48∧(∀ θ,SolB θ B→t.sub θ=u.sub θ)∧∀ y,u = .v y→B y=none:=by
 obtain⟨u,h1,h2⟩:=zAl hT hG (zgL t) zr t (Nat.le_refl _) (by
  cases t with
  | v x=>have:x < 24:=ho; simp only[zgL]; unfold zr; omega
  | f c as=>simp only[zgL]; unfold zr; omega) ho hl
 refine ⟨u,?_,h2⟩
 unfold zbe
 rw[h1]
 rfl
theorem zss {v:Nat} (hv0:B v=none):∀ (k m:Nat) (es:List Int),(∀ c∈es,-24≤c)→es.length≤1000→(∀ c∈es,c < 0→B (-1 - c).toNat ≠ none→Good.rank σ (-1 - c).toNat < m)→m < k →
  ∃ b,yu k ((v:Int),es,w)=some b∧(b=true ↔ ∃ c∈es,c < 0∧(σ (-1 - c).toNat).has v):=by
 intro k
 induction k with
 | zero=>intro m es _ _ _ h; omega
 | succ k ih =>
  intro m es hc hl hr hm
  show ∃ b,zbF (yu k) (v:Int) es w=some b∧_
  unfold zbF
  rw[zdi _ _ _ _ (by unfold maxLen; omega)]
  have go:∀ es:List Int,(∀ c∈es,-24≤c)→(∀ c∈es,c < 0→B (-1 - c).toNat ≠ none→Good.rank σ (-1 - c).toNat < m) →
    ∃ b,zS (yu k) (v:Int) w es=some (cond b (.inr true) (.inl ()))∧(b=true ↔ ∃ c∈es,c < 0∧(σ (-1 - c).toNat).has v):=by
   intro es
   induction es with
   | nil=>intro _ _; exact ⟨false,rfl,by simp⟩
   | cons e es ihe =>
    intro hc hr
    obtain⟨b,g1,g2⟩:=ihe (fun c h=>hc c (List.mem_cons_of_mem _ h)) fun c h=>hr c (List.mem_cons_of_mem _ h)
    have he:=hc e (List.mem_cons_self ..)
    unfold zS
    by_cases h0:e ≥ 0
    ·rw[decide_eq_true h0,cond_true]
     refine ⟨b,g1,g2.trans ?_⟩
     constructor
     ·rintro⟨c,h1,h2⟩; exact ⟨c,List.mem_cons_of_mem _ h1,h2⟩
     ·rintro⟨c,h1,h2,h3⟩
      rcases List.mem_cons.1 h1 with rfl | h1
      ·omega
      ·exact ⟨c,h1,h2,h3⟩
    ·rw[decide_eq_false h0,cond_false]
     obtain⟨u,rfl⟩:∃ u:Nat,e = -1 - (u:Int):=⟨(-1 - e).toNat,by omega⟩
     have hu:u < 24:=by omega
     have hn:(-1 - (-1 - (u:Int))).toNat=u:=by omega
     have w1:IntKind.wrap .i64 ((-1) - (-1 - (u:Int)))=(u:Int):=by rw[yk] <;> omega
     rw[w1]
     by_cases huv:u=v
     ·subst huv
      rw[show (((u:Nat):Int) == ((u:Nat):Int))=true from by simp,cond_true]
      exact ⟨true,rfl,⟨fun _=>⟨_,List.mem_cons_self ..,by omega,by rw[hn,hG.free _ hv0]; rfl⟩,fun _=>rfl⟩⟩
     ·rw[show (((u:Nat):Int) == ((v:Nat):Int))=false from by simp; omega,cond_false]
      simp only[zaJ (show u < 48 by omega),Option.bind_some,hT.at_ u (by omega)]
      cases hb:B u with
      | none =>
       show ∃ b,(cond (decide (((List.length ([]:List Int):Nat):Int) > 0)) _ _)=_∧_
       refine ⟨b,g1,g2.trans ?_⟩
       constructor
       ·rintro⟨c,h1,h2⟩; exact ⟨c,List.mem_cons_of_mem _ h1,h2⟩
       ·rintro⟨c,h1,h2,h3⟩
        rcases List.mem_cons.1 h1 with rfl | h1
        ·rw[hn,hG.free _ hb] at h3
         have h3:u=v:=h3
         exact absurd h3 huv
        ·exact ⟨c,h1,h2,h3⟩
      | some t =>
       obtain⟨-,h2,h3⟩:=hT.ok u t hb
       have hp:=zhF t
       show ∃ b,(cond (decide (((List.length t.codes:Nat):Int) > 0)) _ _)=_∧_
       rw[decide_eq_true (show ((List.length t.codes:Nat):Int) > 0 by omega),cond_true]
       have hcodes:∀ c∈t.codes,-24≤c∧(c < 0→t.has (-1 - c).toNat):=fun c hcm=>by
        have h1:c∈zK [t]:=by simp [zK,hcm]
        by_cases hc0:c < 0
        ·have h4:=(zgt hc0 [t]).1 h1
         have h5:t.has (-1 - c).toNat:=by rcases h4 with h4 | h4; exact h4; exact absurd h4 (by simp [zmF])
         have h6:=Tm.ok_has t h2 h5
         exact ⟨by omega,fun _=>h5⟩
        ·exact ⟨by omega,fun h=>absurd h hc0⟩
       obtain⟨b1,k1,k2⟩:=ih (Good.rank σ u) t.codes (fun c h=>(hcodes c h).1) (by omega) (fun c hcm h0 _=>hG.rank_lt hb ((hcodes c hcm).2 h0) (by have:=(hcodes c hcm).1; omega)) (by
        have:=hr _ (List.mem_cons_self ..) (by omega) (by rw[hn,hb]; simp)
        rw[hn] at this
        omega)
       have k1:yu k ((v:Int),zC0 (some t),w)=some b1:=k1
       rw[k1,Option.bind_some]
       have hb1:b1=true ↔ (σ u).has v:=by
        rw[k2,hG.bound u t hb,Tm.has_sub]
        constructor
        ·rintro⟨c,h4,h5,h6⟩
         exact ⟨_,(hcodes c h4).2 h5,h6⟩
        ·rintro⟨y,h4,h5⟩
         refine ⟨-1 - (y:Int),?_,by omega,by rw[show (-1 - (-1 - (y:Int))).toNat=y by omega]; exact h5⟩
         have:=(zgt (c := -1 - (y:Int)) (by omega) [t]).2 (by rw[show (-1 - (-1 - (y:Int))).toNat=y by omega]; exact .inl h4)
         simpa[zK] using this
       cases b1 with
       | true =>
        refine ⟨true,rfl,⟨fun _=>⟨_,List.mem_cons_self ..,by omega,?_⟩,fun _=>rfl⟩⟩
        rw[hn]
        exact hb1.1 rfl
       | false =>
        refine ⟨b,g1,g2.trans ?_⟩
        constructor
        ·rintro⟨c,h1,h2⟩; exact ⟨c,List.mem_cons_of_mem _ h1,h2⟩
        ·rintro⟨c,h1,h2,h3⟩
         rcases List.mem_cons.1 h1 with rfl | h1
         ·rw[hn] at h3
          exact absurd (hb1.2 h3) (by simp)
         ·exact ⟨c,h1,h2,h3⟩
  obtain⟨b,g1,g2⟩:=go es hc hr
  rw[g1,Option.bind_some]
  exact ⟨b,by cases b <;> rfl,g2⟩
end
end
end Go.Abs.Q
namespace Go.Abs.Q
open Go Go.Abs
section
structure Qf (out E r:List Int):Prop where
 fits:out.length+E.length≤48→r=out++E
 over:48 < out.length+E.length→48 < r.length
 len:r.length≤max out.length 49
theorem Qf.step {out E1 E2 r1 r:List Int} (h:Qf out E1 r1) (h':Qf r1 E2 r):Qf out (E1++E2) r where
 fits:=fun hl=>by
  rw[List.length_append] at hl
  have e:=h.fits (by omega)
  have e2:=h'.fits (by rw[e,List.length_append]; omega)
  rw[e2,e,List.append_assoc]
 over:=fun hl=>by
  rw[List.length_append] at hl
  by_cases h1:out.length+E1.length≤48
  ·have e:=h.fits h1
   refine h'.over ?_
   rw[e,List.length_append]; omega
  ·exact h'.over (by have:=h.over (by omega); omega)
 len:=by have:=h.len; have:=h'.len; omega
theorem Qf.full {out E:List Int} (h:48 < out.length):Qf out E out:=⟨fun hl=>by omega,fun _=>h,by omega⟩
theorem Qf.one {out:List Int} (c:Int) (h:out.length≤48):Qf out [c] (out++[c]):=⟨fun _=>rfl,fun hl=>by rw[List.length_append]; exact hl,by rw[List.length_append]; simp; omega⟩
theorem Qf.nil (out:List Int):Qf out [] out:=⟨fun _=>by simp,fun h=>by simpa using h,by omega⟩
theorem zgu {a0:List zm} {t:Tm} (ho:t.ok a0 24):∀ c∈t.codes,-24≤c∧(c < 0→t.has (-1 - c).toNat):=fun c hcm=>by
 by_cases hc0:c < 0
 ·have h5:=(Tm.mem_codes hc0 t).1 hcm
  have h6:=Tm.ok_has t ho h5
  exact ⟨by omega,fun _=>h5⟩
 ·exact ⟨by omega,fun h=>absurd h hc0⟩
section
variable {a0:List zm} {w:List (List Int)} {B:Bd} {σ:Sb} (hT:RepW a0 w B) (hG:Good B σ)
include hT hG
theorem zAs:∀ (k m:Nat) (es out:List Int),(∀ c∈es,-24≤c)→es.length≤1000→(∀ c∈es,c < 0→B (-1 - c).toNat ≠ none→Good.rank σ (-1 - c).toNat < m)→m < k→out.length≤1000 →
  ∃ r,ye k (es,w,out)=some r∧Qf out (es.flatMap (zgr σ)) r:=by
 intro k
 induction k with
 | zero=>intro m es out _ _ _ h; omega
 | succ k ih =>
  intro m es out hc hl hr hm ho
  show ∃ r,zbE (ye k) es w out=some r∧_
  unfold zbE
  rw[zdh _ _ _ _ (by unfold maxLen; omega)]
  have go:∀ (es out:List Int),(∀ c∈es,-24≤c)→(∀ c∈es,c < 0→B (-1 - c).toNat ≠ none→Good.rank σ (-1 - c).toNat < m)→out.length≤1000 →
    ∃ r,zQ (ye k) w es out=some r∧Qf out (es.flatMap (zgr σ)) r:=by
   intro es
   induction es with
   | nil=>intro out _ _ _; exact ⟨out,rfl,Qf.nil out⟩
   | cons e es ihe =>
    intro out hc hr ho
    have ihe:=fun out ho=>ihe out (fun c h=>hc c (List.mem_cons_of_mem _ h)) (fun c h=>hr c (List.mem_cons_of_mem _ h)) ho
    have he:=hc e (List.mem_cons_self ..)
    unfold zQ
    by_cases h48:out.length≤48
    ·rw[decide_eq_true (show ((List.length out:Nat):Int)≤48 by omega),cond_true,List.flatMap_cons]
     have plain:zgr σ e=[e]→∃ r,(cond (qt (List.length out+List.length ([e]:List Int)) 8) (zQ (ye k) w es (out++([e]:List Int))) none)=some r∧Qf out (zgr σ e++es.flatMap (zgr σ)) r:=fun hx=>by
      obtain⟨r,g1,g2⟩:=ihe (out++[e]) (by simp; omega)
      rw[zT (by simp; omega),cond_true,g1,hx]
      exact ⟨r,rfl,(Qf.one e h48).step g2⟩
     by_cases h0:e < 0
     ·rw[decide_eq_true h0,cond_true]
      obtain⟨u,rfl⟩:∃ u:Nat,e = -1 - (u:Int):=⟨(-1 - e).toNat,by omega⟩
      have hu:u < 24:=by omega
      have hn:(-1 - (-1 - (u:Int))).toNat=u:=by omega
      have w1:IntKind.wrap .i64 ((-1) - (-1 - (u:Int)))=(u:Int):=by rw[yk] <;> omega
      rw[w1]
      simp only[zaJ (show u < 48 by omega),Option.bind_some,hT.at_ u (by omega)]
      cases hb:B u with
      | none =>
       show ∃ r,(cond (decide (((List.length ([]:List Int):Nat):Int) > 0)) _ _)=_∧_
       refine plain ?_
       unfold zgr
       rw[if_pos h0,hn,hG.free u hb]
       rfl
      | some t =>
       obtain⟨-,h2,h3⟩:=hT.ok u t hb
       have hp:=zhF t
       show ∃ r,(cond (decide (((List.length t.codes:Nat):Int) > 0)) _ _)=_∧_
       rw[decide_eq_true (show ((List.length t.codes:Nat):Int) > 0 by omega),cond_true]
       have hcodes:=zgu h2
       obtain⟨r1,k1,k2⟩:=ih (Good.rank σ u) t.codes out (fun c h=>(hcodes c h).1) (by omega) (fun c hcm h0 _=>hG.rank_lt hb ((hcodes c hcm).2 h0) (by have:=(hcodes c hcm).1; omega)) (by
        have:=hr _ (List.mem_cons_self ..) (by omega) (by rw[hn,hb]; simp)
        rw[hn] at this
        omega) ho
       have k1:ye k (zC0 (some t),w,out)=some r1:=k1
       rw[k1,Option.bind_some]
       obtain⟨r,g1,g2⟩:=ihe r1 (by have:=k2.len; omega)
       refine ⟨r,g1,Qf.step (r1:=r1) ?_ g2⟩
       have:zgr σ (-1 - (u:Int))=t.codes.flatMap (zgr σ):=by
        unfold zgr
        rw[if_pos h0,hn,hG.bound u t hb,Tm.codes_sub]
        rfl
       rw[this]
       exact k2
     ·rw[decide_eq_false h0,cond_false]
      refine plain ?_
      unfold zgr
      rw[if_neg h0]
    ·rw[decide_eq_false (show ¬ ((List.length out:Nat):Int)≤48 by omega),cond_false]
     exact ⟨out,rfl,Qf.full (by omega)⟩
  obtain⟨r,g1,g2⟩:=go es out hc hr ho
  rw[g1,Option.bind_some]
  exact ⟨r,rfl,g2⟩
theorem zwd {t:Tm} (ho:t.ok a0 24) (hl:t.codes.length≤48):∃ r,zbp t.codes w []=some r∧Qf [] (t.sub σ).codes r:=by
 rw[Tm.codes_sub]
 refine zAs hT hG zr 100 t.codes [] (fun c h=>(zgu ho c h).1) (by omega) (fun c _ _ _ => ?_) (by unfold zr; omega) (by simp)
 have:=Good.rank_le σ (-1 - c).toNat
 omega
theorem zqH {v:Nat} (hv0:B v=none) {t:Tm} (ho:t.ok a0 24) (hl:t.codes.length≤48):∃ b,zcn (v:Int) t.codes w=some b∧(b=true ↔ (t.sub σ).has v):=by
 obtain⟨b,h1,h2⟩:=zss hT hG hv0 zr 100 t.codes (fun c h=>(zgu ho c h).1) (by omega) (fun c _ _ _=>by have:=Good.rank_le σ (-1 - c).toNat; omega) (by unfold zr; omega)
 refine ⟨b,h1,h2.trans ?_⟩
 rw[Tm.has_sub]
 constructor
 ·rintro⟨c,h4,h5,h6⟩
  exact ⟨_,(zgu ho c h4).2 h5,h6⟩
 ·rintro⟨y,h4,h5⟩
  refine ⟨-1 - (y:Int),(Tm.mem_codes (by omega) t).2 (by rw[show (-1 - (-1 - (y:Int))).toNat=y by omega]; exact h4),by omega,by rw[show (-1 - (-1 - (y:Int))).toNat=y by omega]; exact h5⟩
end
structure OutW (a0:List zm) (B:Bd) (E:List (Tm×Tm)) (r:Bool×List (List Int)):Prop where
 yes:r.1=true→∃ B' σ',RepW a0 r.2 B'∧Good B' σ'∧∀ θ,SolB θ B' ↔ SolB θ B∧Sol θ E
 no:r.1=false→∀ θ,SolB θ B→Sol θ E→False
theorem zcf {θ:Sb} {t u:Tm}:Sol θ [(t,u)] ↔ t.sub θ=u.sub θ:=by simp [Sol]
theorem zmc {a0:List zm} {w:List (List Int)} {B:Bd} {σ:Sb} (hT:RepW a0 w B) (hG:Good B σ) {x:Nat} (hx:x < 24) (hb:B x=none) {c:Nat} {as:List Tm} (ho:(Tm.f c as).ok a0 24) (hl:(Tm.f c as).codes.length≤48) :
  ∃ r,zI [-1 - (x:Int)] (Tm.f c as).codes false w=some r∧OutW a0 B [(.v x,.f c as)] r:=by
 unfold zI
 have w1:IntKind.wrap .i64 ((-1) - (-1 - (x:Int)))=(x:Int):=by rw[yk] <;> omega
 simp only[qx,List.getElem?_cons_zero,Option.bind_some,cond_false,w1]
 obtain⟨b,h1,h2⟩:=zqH hT hG hb ho hl
 rw[h1,Option.bind_some]
 cases b with
 | true =>
  refine ⟨_,rfl,⟨fun h=>(nomatch h),fun _ θ h3 h4=>hG.occurs (h2.1 rfl) h3 (zcf.1 h4)⟩⟩
 | false =>
  simp only[cond_false,zaJ (show x < 48 by omega),Option.bind_some,hT.at_ x (by omega)]
  have hn:¬ ((Tm.f c as).sub σ).has x:=fun h=>by have:=h2.2 h; cases this
  refine ⟨_,rfl,⟨fun _=>⟨_,_,hT.set hx ho hl,hG.bind hb hn (fun y hy=>by cases hy),fun θ => ?_⟩,fun h=>(nomatch h)⟩⟩
  rw[SolB.upd hb,zcf]
  rfl
theorem zo9 {a0:List zm} {w:List (List Int)} {B:Bd} {σ:Sb} (hT:RepW a0 w B) (hG:Good B σ) {x y:Nat} (hx:x < 24) (hy:y < x) (hbx:B x=none) (hby:B y=none) :
  ∃ r,zI [-1 - (y:Int)] [-1 - (x:Int)] true w=some r∧OutW a0 B [(.v x,.v y)] r:=by
 unfold zI
 have w1:IntKind.wrap .i64 ((-1) - (-1 - (x:Int)))=(x:Int):=by rw[yk] <;> omega
 simp only[qx,List.getElem?_cons_zero,Option.bind_some,cond_true,w1,zaJ (show x < 48 by omega),hT.at_ x (by omega)]
 have hn:¬ ((Tm.v y).sub σ).has x:=by
  show ¬ (σ y).has x
  rw[hG.free y hby]
  intro h
  have h:y=x:=h
  omega
 have hset:RepW a0 (w.set x (Tm.v y).codes) (zAM B x (.v y)):=hT.set hx (show y < 24 by omega) (by show 1≤48; omega)
 refine ⟨_,rfl,⟨fun _=>⟨_,_,hset,hG.bind hbx hn (fun z hz=>by injection hz with hz; omega),fun θ => ?_⟩,fun h=>(nomatch h)⟩⟩
 rw[SolB.upd hbx,zcf]
 rfl
theorem OutW.via {a0:List zm} {B:Bd} {E E':List (Tm×Tm)} {r:Bool×List (List Int)} (h:OutW a0 B E r) (he:∀ θ,SolB θ B→(Sol θ E ↔ Sol θ E')):OutW a0 B E' r where
 yes:=fun hr=>by
  obtain⟨B',σ',h1,h2,h3⟩:=h.yes hr
  exact ⟨B',σ',h1,h2,fun θ=>(h3 θ).trans ⟨fun ⟨a,b⟩=>⟨a,(he θ a).1 b⟩,fun ⟨a,b⟩=>⟨a,(he θ a).2 b⟩⟩⟩
 no:=fun hr θ h1 h2=>h.no hr θ h1 ((he θ h1).2 h2)
def Dep (R:List Tm) (B:Bd) (δ:Nat) (t:Tm):Prop:=∀ θ,SolB θ B→∃ c∈R,δ+(t.sub θ).ht≤(c.sub θ).ht
theorem Dep.mono {R:List Tm} {B B':Bd} {δ:Nat} {t:Tm} (h:Dep R B δ t) (hB:∀ θ,SolB θ B'→SolB θ B):Dep R B' δ t:=fun θ hθ=>h θ (hB θ hθ)
theorem Dep.lt {R:List Tm} {B:Bd} {σ:Sb} {δ:Nat} {t:Tm} (h:Dep R B δ t) (hG:Good B σ) (hS:zjC B) (hR:∀ c∈R,c.size≤48):δ < 2500:=by
 obtain⟨c,hc,h1⟩:=h σ hG.bound
 have h2:=Tm.ht_sub (s:=σ) (M:=49 * 49) c fun x _=>hG.low hS x
 have h3:=c.ht_size
 have h4:=hR c hc
 have h5:=zIm (t.sub σ)
 omega
end
end Go.Abs.Q
namespace Go.Abs.Q
open Go Go.Abs
section
theorem zws {a0:List zm} {t u:Tm} (ht:t.ok a0 24) (hu:u.ok a0 24) (h:t.codes=u.codes):t=u:=by
 have:=zsH (a0:=a0) _ [t] [u] (Nat.le_refl _) ⟨ht,trivial⟩ ⟨hu,trivial⟩ (by simp [zK,h])
 injection this
def Sm (a0:List zm) (t:Tm):Prop:=t.ok a0 24∧t.codes.length≤48
def zuM (a0:List zm) (R:List Tm) (k:Nat):Prop:=∀ (δ:Nat) (w:List (List Int)) (B:Bd) (σ:Sb) (t u:Tm),RepW a0 w B→Good B σ→Sm a0 t→Sm a0 u→Dep R B δ t→2 * (2600 - δ)≤k →
 ∃ r,(zR k).1 (a0,t.codes,u.codes,w)=some r∧OutW a0 B [(t,u)] r
def zDr (a0:List zm) (R:List Tm) (k:Nat):Prop:=∀ (δ:Nat) (w:List (List Int)) (B:Bd) (σ:Sb) (ts us:List Tm),RepW a0 w B→Good B σ→(∀ t∈ts,Sm a0 t)→(∀ t∈us,Sm a0 t)→ts.length=us.length→ts.length≤1000→(∀ t∈ts,Dep R B δ t)→2 * (2600 - δ)+1≤k →
 ∃ r,(zR k).2 (a0,ts.map Tm.codes,us.map Tm.codes,w)=some r∧OutW a0 B (ts.zip us) r
theorem zAr {a0:List zm} {R:List Tm} {k:Nat} (hp:zuM a0 R k):zDr a0 R (k+1):=by
 intro δ w B σ ts us hT hG hts hus hl hlen hd hk
 show ∃ r,zbY (zR k) a0 (ts.map Tm.codes) (us.map Tm.codes) w=some r∧_
 unfold zbY
 rw[zdA _ _ _ _ _ (by rw[List.length_map]; unfold maxLen; omega)]
 have go:∀ (ts vs:List Tm) (i:Nat) (w:List (List Int)) (B:Bd) (σ:Sb),RepW a0 w B→Good B σ→us.drop i=vs→(∀ t∈ts,Sm a0 t)→ts.length=vs.length→(∀ t∈ts,Dep R B δ t) →
   (∃ w',z1 (zR k) a0 (us.map Tm.codes) (ts.map Tm.codes) i w=some (.inl w')∧OutW a0 B (ts.zip vs) (true,w')) ∨
   (∃ w',z1 (zR k) a0 (us.map Tm.codes) (ts.map Tm.codes) i w=some (.inr (false,w'))∧OutW a0 B (ts.zip vs) (false,w')):=by
  intro ts
  induction ts with
  | nil =>
   intro vs i w B σ hT hG hdr _ hl _
   exact .inl ⟨w,rfl,⟨fun _=>⟨B,σ,hT,hG,fun θ=>⟨fun h=>⟨h,Sol.nil⟩,fun h=>h.1⟩⟩,fun h=>(nomatch h)⟩⟩
  | cons t ts ih =>
   intro vs i w B σ hT hG hdr hts hl hd
   cases vs with
   | nil=>simp at hl
   | cons v vs =>
    have hgv:us[i]? = some v:=zk hdr
    have hvm:v∈us:=List.mem_of_getElem? hgv
    obtain⟨r,h1,h2⟩:=hp δ w B σ t v hT hG (hts t (List.mem_cons_self ..)) (hus v hvm) (hd t (List.mem_cons_self ..)) (by omega)
    rw[List.map_cons]
    unfold z1
    rw[zP,List.getElem?_map,hgv]
    simp only[Option.map_some,Option.bind_some]
    rw[h1,Option.bind_some]
    obtain⟨b,w1⟩:=r
    cases b with
    | false =>
     refine .inr ⟨w1,rfl,⟨fun h=>(nomatch h),fun _ θ h3 h4=>h2.no rfl θ h3 ?_⟩⟩
     rw[List.zip_cons_cons,Sol.cons] at h4
     exact zcf.2 h4.1
    | true =>
     obtain⟨B',σ',g1,g2,g3⟩:=h2.yes rfl
     have comb:∀ {r2:Bool×List (List Int)},OutW a0 B' (ts.zip vs) r2→OutW a0 B ((t :: ts).zip (v :: vs)) r2:=fun {r2} h=>by
      rw[List.zip_cons_cons]
      refine ⟨fun hr => ?_,fun hr θ h3 h4 => ?_⟩
      ·obtain⟨B2,σ2,k1,k2,k3⟩:=h.yes hr
       refine ⟨B2,σ2,k1,k2,fun θ => ?_⟩
       rw[k3,g3,zcf,and_assoc,Sol.cons (p:=(t,v)) (E:=ts.zip vs)]
      ·rw[Sol.cons] at h4
       exact h.no hr θ ((g3 θ).2 ⟨h3,zcf.2 h4.1⟩) h4.2
     rcases ih vs (i+1) w1 B' σ' g1 g2 (zj hdr) (fun t h=>hts t (List.mem_cons_of_mem _ h)) (by simpa using hl) (fun t h=>(hd t (List.mem_cons_of_mem _ h)).mono fun θ hθ=>((g3 θ).1 hθ).1) with ⟨w',q1,q2⟩ | ⟨w',q1,q2⟩
     ·exact .inl ⟨w',q1,comb q2⟩
     ·exact .inr ⟨w',q1,comb q2⟩
 rcases go ts us 0 w B σ hT hG rfl hts hl hd with ⟨w',h1,h2⟩ | ⟨w',h1,h2⟩
 ·rw[h1]; exact ⟨_,rfl,h2⟩
 ·rw[h1]; exact ⟨_,rfl,h2⟩
theorem zwh {a0:List zm} (hs:SignOk a0) {R:List Tm} (hR:∀ c∈R,c.size≤48) {k:Nat} (ha:zDr a0 R k):zuM a0 R (k+1):=by
 intro δ w B σ t u hT hG ht hu hd hk
 show ∃ r,zaR (zR k) a0 t.codes u.codes w=some r∧_
 obtain⟨t1,a1,a2,a3,a4,a5⟩:=zoj hT hG ht.1 ht.2
 obtain⟨u1,b1,b2,b3,b4,b5⟩:=zoj hT hG hu.1 hu.2
 -- it is enough to speak of these
 suffices h:∃ r,zaR (zR k) a0 t.codes u.codes w=some r∧OutW a0 B [(t1,u1)] r by
  obtain⟨r,h1,h2⟩:=h
  exact ⟨r,h1,h2.via fun θ hθ=>by rw[zcf,zcf,a4 θ hθ,b4 θ hθ]⟩
 have eta:∀ {o:Option (Bool×List (List Int))} {E:List (Tm×Tm)},(∃ r,o=some r∧OutW a0 B E r)→∃ r,(o.bind fun r=>some (r.1,r.2))=some r∧OutW a0 B E r:=fun ⟨r,h1,h2⟩=>⟨r,by rw[h1]; rfl,h2⟩
 have flip:∀ {o:Option (Bool×List (List Int))} {p q:Tm},(∃ r,o=some r∧OutW a0 B [(p,q)] r)→∃ r,o=some r∧OutW a0 B [(q,p)] r:=fun ⟨r,h1,h2⟩=>⟨r,h1,h2.via fun θ _=>by rw[zcf,zcf]; exact eq_comm⟩
 unfold zaR
 rw[a1,Option.bind_some,b1,Option.bind_some,zmx (by omega),Option.bind_some]
 by_cases he:t1.codes=u1.codes
 ·have:=zws a2 b2 he
  subst this
  rw[decide_eq_true he,cond_true]
  exact ⟨_,rfl,⟨fun _=>⟨B,σ,hT,hG,fun θ=>⟨fun h=>⟨h,zcf.2 rfl⟩,fun h=>h.1⟩⟩,fun h=>(nomatch h)⟩⟩
 rw[decide_eq_false he,cond_false]
 have hne:t1 ≠ u1:=fun h=>he (by rw[h])
 clear he a1 b1
 cases t1 with
 | v x =>
  have hx:x < 24:=a2
  have hbx:=a5 x rfl
  have c1:(Tm.v x).codes=[-1 - (x:Int)]:=rfl
  have d1:decide (-1 - (x:Int) < 0)=true:=decide_eq_true (by omega)
  have d2:decide (-1 - (x:Int) ≥ 0)=false:=decide_eq_false (by omega)
  cases u1 with
  | v y =>
   have hy:y < 24:=b2
   have hby:=b5 y rfl
   have c2:(Tm.v y).codes=[-1 - (y:Int)]:=rfl
   have d3:decide (-1 - (y:Int) < 0)=true:=decide_eq_true (by omega)
   have hxy:x ≠ y:=fun h=>hne (by rw[h])
   rw[c1,c2]
   by_cases hlt:y < x
   ·have d4:decide (-1 - (x:Int) < -1 - (y:Int))=true:=decide_eq_true (by omega)
    simp only[qx,List.getElem?_cons_zero,Option.bind_some,d1,d3,d4,cond_true]
    exact eta (zo9 hT hG hx hlt hbx hby)
   ·have d4:decide (-1 - (x:Int) < -1 - (y:Int))=false:=decide_eq_false (by omega)
    simp only[qx,List.getElem?_cons_zero,Option.bind_some,d1,d2,d3,d4,cond_true,cond_false]
    exact eta (flip (zo9 hT hG hy (by omega) hby hbx))
  | f c as =>
   have c2:(Tm.f c as).codes=(c:Int) :: zK as:=rfl
   have d3:decide ((c:Int) < 0)=false:=decide_eq_false (by omega)
   have h1:=zmc hT hG hx hbx b2 b3
   rw[c2] at h1
   rw[c1,c2]
   simp only[qx,List.getElem?_cons_zero,Option.bind_some,d1,d2,d3,cond_true,cond_false]
   exact eta h1
 | f c as =>
  have c1:(Tm.f c as).codes=(c:Int) :: zK as:=rfl
  have d1:decide ((c:Int) < 0)=false:=decide_eq_false (by omega)
  have d2:decide ((c:Int) ≥ 0)=true:=decide_eq_true (by omega)
  cases u1 with
  | v y =>
   have hy:y < 24:=b2
   have hby:=b5 y rfl
   have c2:(Tm.v y).codes=[-1 - (y:Int)]:=rfl
   have d3:decide (-1 - (y:Int) < 0)=true:=decide_eq_true (by omega)
   have h1:=zmc hT hG hy hby a2 a3
   rw[c1] at h1
   rw[c1,c2]
   simp only[qx,List.getElem?_cons_zero,Option.bind_some,d1,d2,d3,cond_true,cond_false]
   exact eta (flip h1)
  | f d bs =>
   have c2:(Tm.f d bs).codes=(d:Int) :: zK bs:=rfl
   have d3:decide ((d:Int) < 0)=false:=decide_eq_false (by omega)
   rw[c1,c2]
   simp only[qx,List.getElem?_cons_zero,Option.bind_some,d1,d2,d3,cond_true,cond_false]
   by_cases hcd:c=d
   ·subst hcd
    rw[show ((c:Int) != (c:Int))=false from by simp,cond_false]
    have hla:as.length=bs.length:=by
     have h1:=a2.1
     have h2:=b2.1
     rw[h1] at h2
     injection h2
    rw[c1,List.length_cons] at a3
    rw[c2,List.length_cons] at b3
    have hw:∀ {xs:List Tm},(zK xs).length≤48→∀ t∈xs,t.codes.length≤48:=fun h t ht=>Nat.le_trans (zhD ht) h
    rw[zcU,Option.bind_some,zcW hs (by omega) (zah as a2.2),Option.bind_some,zcU,Option.bind_some,zcW hs (by omega) (zah bs b2.2),Option.bind_some]
    have hlt:=hd.lt hG hT.small hR
    obtain⟨r,h1,h2⟩:=ha (δ+1) w B σ as bs hT hG (fun t h=>⟨zdW.1 a2.2 t h,hw (by omega) t h⟩) (fun t h=>⟨zdW.1 b2.2 t h,hw (by omega) t h⟩) hla (by
      have:=zjS (zah as a2.2)
      rw[List.length_map] at this
      omega) (fun a ham θ hθ=>by
      obtain⟨c',hc',h5⟩:=hd θ hθ
      refine ⟨c',hc',?_⟩
      rw[a4 θ hθ] at h5
      have h6:((Tm.f c as).sub θ).ht=htR (zbI θ as)+1:=rfl
      have h7:=zp7 (ts:=zbI θ as) (t:=a.sub θ) (by rw[zkZ]; exact List.mem_map_of_mem ham)
      omega) (by omega)
    rw[h1,Option.bind_some]
    refine ⟨_,rfl,h2.via fun θ _ => ?_⟩
    rw[Sol.zip hla,zcf,zIC]
    simp
   ·rw[show ((c:Int) != (d:Int))=true from by simp; omega,cond_true]
    refine ⟨_,rfl,⟨fun h=>(nomatch h),fun _ θ _ h4 => ?_⟩⟩
    rw[zcf,zIC] at h4
    exact hcd h4.1
theorem zxX {a0:List zm} (hs:SignOk a0) {R:List Tm} (hR:∀ c∈R,c.size≤48):∀ k,zuM a0 R k∧zDr a0 R k:=by
 intro k
 induction k with
 | zero =>
  refine ⟨fun δ w B σ t u hT hG _ _ hd hk => ?_,fun δ w B σ ts us _ _ _ _ _ _ _ hk=>by omega⟩
  have:=hd.lt hG hT.small hR
  omega
 | succ k ih=>exact ⟨zwh hs hR ih.2,zAr ih.1⟩
end
end Go.Abs.Q
namespace Go.Abs.Q
open Go Go.Abs
section
theorem zKy (a0:List zm):RepW a0 (List.replicate 48 ([]:List Int)) (fun _=>none) where
 len:=by simp
 at_:=fun x hx=>by rw[List.getElem?_replicate,if_pos hx]; rfl
 ok:=fun x t h=>by cases h
theorem zol {a0:List zm} {w:List (List Int)} {B:Bd} {σ:Sb} (hT:RepW a0 w B) (hG:Good B σ):∀ (m v k:Nat) (out:List (Int×List Int)),24 - v=m→v≤24→m < k→out.length≤v →
  lp qp k ((v:Int),w,out)=some (cond (zaB σ ((List.range 24).drop v)) (.inl (out++za2 B σ ((List.range 24).drop v))) (.inr (true,false))):=by
 intro m
 induction m with
 | zero =>
  intro v k out hm hv hk ho
  obtain⟨k,rfl⟩:∃ k',k=k'+1:=⟨k - 1,by omega⟩
  rw[zl]
  generalize lp qp k=rec
  unfold qp
  have:v=24:=by omega
  subst this
  rw[show (List.range 24).drop 24=[] from rfl]
  simp [za2,zaB]
 | succ m ih =>
  intro v k out hm hv hk ho
  obtain⟨k,rfl⟩:∃ k',k=k'+1:=⟨k - 1,by omega⟩
  rw[zl]
  have key:=fun out' ho'=>ih (v+1) k out' (by omega) (by omega) (by omega) ho'
  generalize lp qp k=rec at key ⊢
  unfold qp
  have w1:IntKind.wrap .i64 ((v:Int)+1)=((v+1:Nat):Int):=by rw[yk] <;> omega
  have hdr:(List.range 24).drop v=v :: (List.range 24).drop (v+1):=by
   rw[List.drop_eq_getElem_cons (by simp; omega)]
   simp
  simp only[decide_eq_true (show (v:Int)≤23 by omega),cond_true,zaJ (show v < 48 by omega),Option.bind_some,hT.at_ v (by omega),w1]
  rw[hdr]
  cases hb:B v with
  | none =>
   show (cond (((List.length ([]:List Int):Nat):Int) == 0) _ _)=_
   rw[show (((List.length ([]:List Int):Nat):Int) == 0)=true from rfl,cond_true,key out (by omega)]
   have hs:(σ v).size≤48:=by rw[hG.free v hb]; simp [Tm.size]
   have hb:zsu B v=false:=by simp [zsu,hb]
   simp [za2,zaB,hb,hs]
  | some t =>
   obtain⟨-,h2,h3⟩:=hT.ok v t hb
   have hp:=zhF t
   show (cond (((List.length t.codes:Nat):Int) == 0) _ ((zbp t.codes w []).bind _))=_
   rw[show (((List.length t.codes:Nat):Int) == 0)=false from by simp; intro h; rw[h] at hp; simp at hp,cond_false]
   obtain⟨r,g1,g2⟩:=zwd hT hG h2 h3
   rw[← hG.bound v t hb] at g2
   rw[g1,Option.bind_some]
   by_cases hs:(σ v).size≤48
   ·have hr:=g2.fits (by rw[Tm.codes_len]; simpa using hs)
    rw[List.nil_append] at hr
    subst hr
    rw[decide_eq_false (show ¬ ((List.length (σ v).codes:Nat):Int) > 48 by rw[Tm.codes_len]; omega),cond_false,zT (by simp only[List.length_singleton]; omega),cond_true,key _ (by simp only[List.length_append,List.length_singleton]; omega)]
    have hb:zsu B v=true:=by simp [zsu,hb]
    simp [za2,zaB,hb,hs]
   ·have hr:=g2.over (by rw[Tm.codes_len]; simp; omega)
    rw[decide_eq_true (show ((List.length r:Nat):Int) > 48 by omega),cond_true]
    simp [zaB,hs]
theorem zhP {a0:List zm} (hs:SignOk a0) {ts us:List Tm} (ht:okR a0 24 ts) (hu:okR a0 24 us) (hlx:(zK ts).length≤48) (hly:(zK us).length≤48) :
  (zb1 a0 (zK ts) (zK us)=some (false,true,[])∧(ts.length ≠ us.length∨∀ θ,¬ Sol θ (ts.zip us))) ∨
  (ts.length=us.length∧∃ σ,Mgu σ (ts.zip us)∧zb1 a0 (zK ts) (zK us)=some (true,zaB σ (List.range 24),cond (zaB σ (List.range 24)) (zcR σ) [])):=by
 unfold zb1
 rw[zcW hs (by omega) (zah ts ht),Option.bind_some,zcW hs (by omega) (zah us hu),Option.bind_some]
 by_cases hl:ts.length=us.length
 ·rw[show (((List.length (ts.map Tm.codes):Nat):Int) != ((List.length (us.map Tm.codes):Nat):Int))=false from by simp [hl],cond_false]
  have sm:∀ {xs:List Tm},okR a0 24 xs→(zK xs).length≤48→∀ t∈xs,Sm a0 t:=fun h1 h2 t h=>⟨zdW.1 h1 t h,Nat.le_trans (zhD h) h2⟩
  have hR:∀ c∈ts,c.size≤48:=fun c hc=>by have:=(sm ht hlx c hc).2; rwa [Tm.codes_len] at this
  obtain⟨r,h1,h2⟩:=(zxX hs hR zr).2 0 (List.replicate 48 []) (fun _=>none) .v ts us (zKy a0) Good.empty (sm ht hlx) (sm hu hly) hl (by
   have:=zjS (zah ts ht)
   rw[List.length_map] at this
   omega) (fun t h θ _=>⟨t,h,by omega⟩) (by unfold zr; omega)
  have h1:zcJ a0 (ts.map Tm.codes) (us.map Tm.codes) (List.replicate 48 [])=some r:=h1
  rw[h1,Option.bind_some]
  cases hb:r.1 with
  | false=>exact .inl ⟨rfl,.inr fun θ h=>h2.no hb θ (fun _ _ h=>(nomatch h)) h⟩
  | true =>
   obtain⟨B',σ,g1,g2,g3⟩:=h2.yes hb
   refine .inr ⟨hl,σ,Mgu.of g2 g3,?_⟩
   have:=zol g1 g2 24 0 zr [] rfl (by omega) (by unfold zr; omega) (by simp)
   rw[show ((0:Nat):Int)=0 from rfl] at this
   rw[Bool.not_true,cond_false,this,List.drop_zero]
   have he:za2 B' σ (List.range 24)=zcR σ:=by
    unfold za2 zcR
    rw[show zsu B'=moved σ from funext (zuk g2)]
   cases zaB σ (List.range 24) with
   | true=>simp only[cond_true,Option.bind_some,zcs,List.nil_append,he]
   | false=>rfl
 ·rw[show (((List.length (ts.map Tm.codes):Nat):Int) != ((List.length (us.map Tm.codes):Nat):Int))=true from by simp; omega,cond_true]
  exact .inl ⟨rfl,.inl hl⟩
end
end Go.Abs.Q
namespace Go.Abs.Q
open Go Go.Abs
section
theorem zGD (v:Int):(es:List (Int×List Int))→(i:Nat)→(zds es v=none∧zao v es i=some (.inl ()))∨∃ (j:Nat) (e:Int×List Int),zao v es i=some (.inr ((i+j:Nat):Int))∧es[j]? = some e∧zds es v=some e.2
 | [],i=>.inl ⟨rfl,rfl⟩
 | e :: es,i=>by
  unfold zao zds
  rw[List.find?_cons]
  cases h:e.1 == v with
  | true=>exact .inr ⟨0,e,rfl,rfl,rfl⟩
  | false =>
   rw[cond_false]
   rcases zGD v es (i+1) with ⟨h1,h2⟩ | ⟨j,e',h1,h2,h3⟩
   ·exact .inl ⟨h1,h2⟩
   ·exact .inr ⟨j+1,e',by rw[h1,show i+1+j=i+(j+1) from by omega],by simpa using h2,h3⟩
theorem zxj {s:List (Int×List Int)} (hl:s.length≤1000) (v:Int):(zds s v=none∧zhp s v=some (-1))∨∃ (j:Nat) (e:Int×List Int),zhp s v=some (j:Int)∧s[j]? = some e∧zds s v=some e.2:=by
 unfold zhp
 rw[zix _ _ (by unfold maxLen; omega)]
 rcases zGD v s 0 with ⟨h1,h2⟩ | ⟨j,e,h1,h2,h3⟩
 ·exact .inl ⟨h1,by rw[h2]; rfl⟩
 ·exact .inr ⟨j,e,by rw[h1,Nat.zero_add]; rfl,h2,h3⟩
theorem zBj {s:List (Int×List Int)} (h:BindsOk s):(es out:List Int)→(∀ c∈es,-1000000≤c∧c≤1000000)→out.length+1000 * es.length≤1000000000→yL s es out=some (out++onB s es)
 | [],out,_,_=>by simp [yL,onB]
 | c :: es,out,hc,hl=>by
  have hc0:=hc c (List.mem_cons_self ..)
  simp only[List.length_cons] at hl
  have ih:=fun out hl=>zBj h es out (fun c h=>hc c (List.mem_cons_of_mem _ h)) hl
  unfold yL
  have plain:onC s c=[c]→(cond (qt (List.length out+List.length ([c]:List Int)) 8) (yL s es (out++([c]:List Int))) none)=some (out++onB s (c :: es)):=fun hx=>by
   rw[zT (by simp; omega),cond_true,ih _ (by simp; omega)]
   unfold onB
   rw[List.flatMap_cons,hx,List.append_assoc]
  by_cases h0:c < 0
  ·rw[decide_eq_true h0,cond_true]
   have w1:IntKind.wrap .i64 ((-1) - c) = -1 - c:=by rw[yk] <;> omega
   rw[w1]
   rcases zxj h.len (-1 - c) with ⟨h1,h2⟩ | ⟨j,e,h1,h2,h3⟩
   ·rw[h2,Option.bind_some,show decide ((-1:Int) < 0)=true from rfl,cond_true]
    refine plain ?_
    unfold onC
    rw[h1,decide_eq_false (show ¬ c ≥ 0 by omega)]
    rfl
   ·have he:=(h.all e (List.mem_of_getElem? h2)).2
    rw[h1,Option.bind_some,decide_eq_false (show ¬ (j:Int) < 0 by omega),cond_false,zP,h2,Option.bind_some,zT (by omega),cond_true,ih _ (by rw[List.length_append]; omega)]
    unfold onB
    have:onC s c=e.2:=by
     unfold onC
     rw[h3,decide_eq_false (show ¬ c ≥ 0 by omega)]
     rfl
    rw[List.flatMap_cons,this,List.append_assoc]
  ·rw[decide_eq_false h0,cond_false]
   refine plain ?_
   unfold onC
   rw[decide_eq_true (show c ≥ 0 by omega)]
   rfl
theorem zwY {s:List (Int×List Int)} (h:BindsOk s) {r:List Int} (hr:zeK r):zcZ s r=some (onB s r):=by
 have:=hr.1
 unfold zcZ
 rw[zin _ _ _ (by unfold maxLen; omega),zBj h r [] hr.2 (by simp; omega)]
 rfl
theorem zwW {s:List (Int×List Int)} (h:BindsOk s):(es out:List zd)→(∀ l∈es,zeK l.2)→out.length+es.length≤1000000→qR s es out=some (out++zlX s es)
 | [],out,_,_=>by simp [qR,zlX]
 | e :: es,out,hn,hl=>by
  simp only[List.length_cons] at hl
  unfold qR
  rw[zwY h (hn e (List.mem_cons_self ..)),Option.bind_some,zT (by simp; omega),cond_true,zwW h es _ (fun l hl=>hn l (List.mem_cons_of_mem _ hl)) (by simp; omega)]
  simp [zlX]
theorem zxc {s:List (Int×List Int)} (h:BindsOk s) (s5:List zd):(es out:List (List Int))→(∀ l∈es,zeK l)→out.length+es.length≤1000000→qJ s s5 es out=some (s5,out++zs0 s es)
 | [],out,_,_=>by simp [qJ,zs0]
 | e :: es,out,hn,hl=>by
  simp only[List.length_cons] at hl
  unfold qJ
  rw[zwY h (hn e (List.mem_cons_self ..)),Option.bind_some,zT (by simp; omega),cond_true,zxc h s5 es _ (fun l hl=>hn l (List.mem_cons_of_mem _ hl)) (by simp; omega)]
  simp [zs0]
theorem zwK {s:List (Int×List Int)} (h:BindsOk s) (s5:List zd) (s6:List (List Int)):(es out:List zd)→(∀ l∈es,zeK l.2)→out.length+es.length≤1000000→qM s s5 s6 es out=some (s5,s6,out++zlX s es)
 | [],out,_,_=>by simp [qM,zlX]
 | e :: es,out,hn,hl=>by
  simp only[List.length_cons] at hl
  unfold qM
  rw[zwY h (hn e (List.mem_cons_self ..)),Option.bind_some,zT (by simp; omega),cond_true,zwK h s5 s6 es _ (fun l hl=>hn l (List.mem_cons_of_mem _ hl)) (by simp; omega)]
  simp [zlX]
theorem zxu {s:List (Int×List Int)} (h:BindsOk s) {L:List zd} {T:List (List Int)} {C:List zd} (hL:∀ l∈L,zeK l.2) (hT:∀ l∈T,zeK l) (hC:∀ l∈C,zeK l.2) (h1:L.length≤1000) (h2:T.length≤1000) (h3:C.length≤1000) :
  zd6 s L T C=some (zlX s L,zs0 s T,zlX s C):=by
 unfold zd6
 rw[zg3 _ _ _ _ _ (by unfold maxLen; omega),zwW h L [] hL (by simp; omega),Option.bind_some,
  zhx _ _ _ _ _ _ (by unfold maxLen; omega),zxc h _ T [] hT (by simp; omega),Option.bind_some,
  zha _ _ _ _ _ _ _ (by unfold maxLen; omega),zwK h _ _ C [] hC (by simp; omega),Option.bind_some]
 simp
theorem zsw {l k:zd} (h:l.2.length≤1000000):zcD l.1 l.2 k.1 k.2=some (decide (l=k)):=by
 obtain⟨n,r⟩:=l
 obtain⟨n',r'⟩:=k
 unfold zcD
 by_cases hn:n=n'
 ·subst hn
  simp only[beq_self_eq_true,cond_true]
  rw[zmx h,Option.bind_some]
  simp
 ·rw[show (n == n')=false from by simp [hn],cond_false]
  simp [hn]
theorem zwB {s0 out:List zd} {i0:Nat} {e0:zd} (he:s0[i0]? = some e0) (ho:∀ l∈out,l.2.length≤1000000):(es:List zd)→(i:Nat)→(b:Bool)→out.drop i=es→qk s0 (i0:Int) out es i b=some (b||decide (e0∈es),out)
 | [],i,b,_=>by simp [qk]
 | e :: es,i,b,hd=>by
  have ih:=fun b=>zwB he ho es (i+1) b (zj hd)
  unfold qk
  cases b with
  | true=>rw[cond_true,ih true]; rfl
  | false =>
   have hi:=zn hd
   have hg:=zk hd
   rw[cond_false,zaJ hi,Option.bind_some,hg,Option.bind_some,zP,he,Option.bind_some,zsw (ho e (List.mem_of_getElem? hg)),Option.bind_some,ih]
   congr 2
   rw[Bool.eq_iff_iff,Bool.false_or,Bool.or_eq_true,decide_eq_true_iff,decide_eq_true_iff,decide_eq_true_iff,List.mem_cons]
   exact ⟨fun h=>h.imp Eq.symm id,fun h=>h.imp Eq.symm id⟩
theorem zpD {s0:List zd} (hs:∀ l∈s0,l.2.length≤1000000):(es:List zd)→(i:Nat)→(out:List zd)→s0.drop i=es→(∀ l∈out,l.2.length≤1000000)→out.length+es.length≤1000000→qQ s0 es i out=some (y7 es out)
 | [],i,out,_,_,_=>rfl
 | e :: es,i,out,hd,ho,hl=>by
  simp only[List.length_cons] at hl
  have hg:=zk hd
  have hem:=List.mem_of_getElem? hg
  unfold qQ y7
  rw[zhs _ _ _ _ (by unfold maxLen; omega),zwB hg ho out 0 false rfl,Option.bind_some,Bool.false_or]
  by_cases hm:e∈out
  ·have e1:∀ inst:Decidable (e∈out),@decide (e∈out) inst=true:=fun _=>decide_eq_true hm
   simp only[e1,Bool.not_true,cond_false,cond_true]
   exact zpD hs es (i+1) out (zj hd) ho (by omega)
  ·have e1:∀ inst:Decidable (e∈out),@decide (e∈out) inst=false:=fun _=>decide_eq_false hm
   simp only[e1,Bool.not_false,cond_true,cond_false]
   rw[zT (by simp; omega),cond_true]
   exact zpD hs es (i+1) _ (zj hd) (fun l hl=>by
    rcases List.mem_append.1 hl with hl | hl
    ·exact ho l hl
    ·rw[List.mem_singleton.1 hl]; exact hs e hem) (by simp; omega)
theorem zv1 {L:List zd} (hs:∀ l∈L,l.2.length≤1000000) (hl:L.length≤1000):zf2 L=some (y7 L []):=by
 unfold zf2
 rw[zhj _ _ (by unfold maxLen; omega),zpD hs L 0 [] rfl (fun _ h=>(nomatch h)) (by simp; omega)]
 rfl
theorem zuH {s4 out:List (List Int)} {s6 s7:List zd} {i0:Nat} {e0:List Int} (he:s4[i0]? = some e0) (ho:∀ l∈out,l.length≤1000000):(es:List (List Int))→(i:Nat)→(b:Bool)→out.drop i=es→qm (i0:Int) s4 s6 s7 out es i b=some (b||decide (e0∈es),s6,s7,out)
 | [],i,b,_=>by simp [qm]
 | e :: es,i,b,hd=>by
  have ih:=fun b=>zuH (s6:=s6) (s7:=s7) he ho es (i+1) b (zj hd)
  unfold qm
  cases b with
  | true=>rw[cond_true,ih true]; rfl
  | false =>
   have hi:=zn hd
   have hg:=zk hd
   rw[cond_false,zaJ hi,Option.bind_some,hg,Option.bind_some,zP,he,Option.bind_some,zmx (ho e (List.mem_of_getElem? hg)),Option.bind_some,ih]
   congr 2
   rw[Bool.eq_iff_iff,Bool.false_or,Bool.or_eq_true,decide_eq_true_iff,decide_eq_true_iff,decide_eq_true_iff,List.mem_cons]
   exact ⟨fun h=>h.imp Eq.symm id,fun h=>h.imp Eq.symm id⟩
theorem zpW {s1 s3 s4 s5:List zd} {s2:List (List Int)} (hs:∀ l∈s2,l.length≤1000000):(es:List (List Int))→(i:Nat)→(out:List (List Int))→s2.drop i=es→(∀ l∈out,l.length≤1000000)→out.length+es.length≤1000000→qS s1 s2 s3 es i s4 s5 out=some (s4,s5,y7 es out)
 | [],i,out,_,_,_=>rfl
 | e :: es,i,out,hd,ho,hl=>by
  simp only[List.length_cons] at hl
  have hg:=zk hd
  have hem:=List.mem_of_getElem? hg
  unfold qS y7
  rw[zho _ _ _ _ _ _ _ _ (by unfold maxLen; omega),zuH hg ho out 0 false rfl,Option.bind_some,Bool.false_or]
  by_cases hm:e∈out
  ·have e1:∀ inst:Decidable (e∈out),@decide (e∈out) inst=true:=fun _=>decide_eq_true hm
   simp only[e1,Bool.not_true,cond_false,cond_true]
   exact zpW hs es (i+1) out (zj hd) ho (by omega)
  ·have e1:∀ inst:Decidable (e∈out),@decide (e∈out) inst=false:=fun _=>decide_eq_false hm
   simp only[e1,Bool.not_false,cond_true,cond_false]
   rw[zT (by simp; omega),cond_true]
   exact zpW hs es (i+1) _ (zj hd) (fun l hl=>by
    rcases List.mem_append.1 hl with hl | hl
    ·exact ho l hl
    ·rw[List.mem_singleton.1 hl]; exact hs e hem) (by simp; omega)
end
end Go.Abs.Q
namespace Go.Abs.Q
open Go Go.Abs
section
def zBo (bs:List (Int×List Int)) (c:Int):List (Int×List Int):=cond (decide (c < 0)&&(zds bs (-1 - c)).isNone) (bs++[(-1 - c,[-1 - (bs.length:Int)])]) bs
def zBQ (bs:List (Int×List Int)) (r:List Int):List (Int×List Int):=r.foldl zBo bs
theorem zz5 (bs:List (Int×List Int)) (c:Int):(zBo bs c).length≤bs.length+1:=by
 unfold zBo
 cases decide (c < 0)&&(zds bs (-1 - c)).isNone <;> simp
theorem zzQ (r:List Int):(bs:List (Int×List Int))→(zBQ bs r).length≤bs.length+r.length:=by
 unfold zBQ
 induction r with
 | nil=>intro bs; simp
 | cons c r ih =>
  intro bs
  have:=ih (zBo bs c)
  have:=zz5 bs c
  simp only[List.foldl_cons,List.length_cons]
  omega
theorem zwN {rows:List (List Int)} {i:Nat} {r:List Int} (hr:rows[i]? = some r) (L:List zd) (T:List (List Int)) (C:List zd) (hrl:r.length≤1000):∀ (es:List Int) (j k:Nat) (bs:List (Int×List Int)),r.drop j=es→(∀ c∈es,-1000000≤c∧c≤1000000)→es.length < k→bs.length+es.length≤1000 →
  lp zau k (rows,(i:Int),(j:Int),L,T,C,bs)=some (zBQ bs es)
 | [],j,k,bs,hd,_,hk,_=>by
  obtain⟨k,rfl⟩:∃ k',k=k'+1:=⟨k - 1,by simp at hk; omega⟩
  rw[zl]
  generalize lp zau k=rec
  unfold zau
  have:=zo hd
  rw[zP,hr,Option.bind_some,decide_eq_false (show ¬ (j:Int) < ((List.length r:Nat):Int) by omega),cond_false]
  rfl
 | c :: es,j,k,bs,hd,hc,hk,hb=>by
  obtain⟨k,rfl⟩:∃ k',k=k'+1:=⟨k - 1,by simp at hk; omega⟩
  simp only[List.length_cons] at hk hb
  have hlt:=zn hd
  have hc0:=hc c (List.mem_cons_self ..)
  rw[zl]
  have key:=fun bs hb=>zwN hr L T C hrl es (j+1) k bs (zj hd) (fun c h=>hc c (List.mem_cons_of_mem _ h)) (by omega) hb
  generalize lp zau k=rec at key ⊢
  unfold zau
  have w1:IntKind.wrap .i64 ((j:Int)+1)=((j+1:Nat):Int):=by rw[yk] <;> omega
  have w2:IntKind.wrap .i64 ((-1) - c) = -1 - c:=by rw[yk] <;> omega
  have w3:IntKind.wrap .i64 ((-1) - ((List.length bs:Nat):Int)) = -1 - (bs.length:Int):=by rw[yk] <;> omega
  simp only[zP,hr,Option.bind_some,zk hd,w1,w2,w3]
  rw[decide_eq_true (show (j:Int) < ((List.length r:Nat):Int) by omega),cond_true]
  show _=some (zBQ (zBo bs c) es)
  unfold zBo
  by_cases h0:c < 0
  ·rw[decide_eq_true h0,cond_true,Bool.true_and]
   rcases zxj (s:=bs) (by omega) (-1 - c) with ⟨h1,h2⟩ | ⟨q,e,h1,h2,h3⟩
   ·rw[h2,Option.bind_some,show decide ((-1:Int) < 0)=true from rfl,cond_true,zT (by simp; omega),cond_true,key _ (by simp; omega),h1]
    rfl
   ·rw[h1,Option.bind_some,decide_eq_false (show ¬ (q:Int) < 0 by omega),cond_false,key _ (by omega),h3]
    rfl
  ·rw[decide_eq_false h0,cond_false,Bool.false_and,cond_false,key _ (by omega)]
theorem zt3 {rows:List (List Int)} (L:List zd) (T:List (List Int)) (C:List zd) (hrows:∀ r∈rows,zeK r):(es:List (List Int))→(i:Nat)→(bs:List (Int×List Int))→rows.drop i=es→bs.length+zJ es≤1000 →
  zae rows L T C es i bs=some (es.foldl zBQ bs)
 | [],_,_,_,_=>rfl
 | e :: es,i,bs,hd,hb=>by
  have hg:=zk hd
  have he:=hrows e (List.mem_of_getElem? hg)
  have hs:zJ (e :: es)=e.length+zJ es:=by simp [zJ]
  unfold zae
  have:=zwN hg L T C he.1 e 0 zr bs rfl he.2 (by have:=he.1; unfold zr; omega) (by omega)
  rw[show ((0:Nat):Int)=0 from rfl] at this
  have hl:=zzQ e bs
  rw[this,Option.bind_some,zt3 L T C hrows es (i+1) _ (zj hd) (by omega)]
  rfl
structure Rl (s:zn5) (bs:List (Int×List Int)):Prop where
 cnt:(bs.length:Int)=s.2
 at_:∀ v:Nat,zds bs (v:Int)=if s.1.getD v 0=0 then none else some [-(s.1.getD v 0)]
 one:∀ b∈bs,b.2.length=1
theorem zoy (bs:List (Int×List Int)) (v w:Int) (t:List Int):zds (bs++[(v,t)]) w=match zds bs w with
  | some u=>some u
  | none=>cond (v == w) (some t) none:=by
 unfold zds
 rw[List.find?_append]
 cases h:bs.find? fun b=>b.1 == w with
 | some b=>rfl
 | none =>
  simp only[Option.none_or,List.find?_cons,List.find?_nil,Option.map_none]
  cases v == w <;> rfl
theorem rl0:Rl (List.replicate 24 (0:Int),0) [] where
 cnt:=rfl
 at_:=fun v=>by
  rw[if_pos]
  ·rfl
  ·show (List.replicate 24 (0:Int)).getD v 0=0
   rw[List.getD_eq_getElem?_getD,List.getElem?_replicate]
   split <;> rfl
 one:=fun _ h=>(nomatch h)
theorem Rl.ok {s:zn5} {bs:List (Int×List Int)} (h:Rl s bs) (hI:RenI s):BindsOk bs where
 len:=by have:=h.cnt; have:=hI.next; omega
 all:=fun b hb=>by
  have:=h.one b hb
  exact ⟨fun e=>by rw[e] at this; simp at this,by omega⟩
theorem Rl.step {s:zn5} {bs:List (Int×List Int)} (h:Rl s bs) (hI:RenI s) {c:Int} (hc : -24≤c):Rl (zjQ s c).2 (zBo bs c):=by
 unfold zjQ zBo
 by_cases h0:c ≥ 0
 ·rw[decide_eq_true h0,cond_true,decide_eq_false (show ¬ c < 0 by omega),Bool.false_and,cond_false]
  exact h
 ·rw[decide_eq_false h0,cond_false,decide_eq_true (show c < 0 by omega),Bool.true_and]
  obtain⟨v,rfl⟩:∃ v:Nat,c = -1 - (v:Int):=⟨(-1 - c).toNat,by omega⟩
  have e1:(-1 - (-1 - (v:Int)))=(v:Int):=by omega
  rw[e1,Int.toNat_natCast,h.at_ v]
  by_cases hz:s.1.getD v 0=0
  ·rw[if_pos hz,show (s.1.getD v 0 == 0)=true from by rw[hz]; rfl,cond_true,show (none:Option (List Int)).isNone=true from rfl,cond_true]
   have hv:v < s.1.length:=by rw[hI.len]; omega
   have hcnt:=h.cnt
   refine ⟨by show (((bs++[_]).length:Nat):Int)=s.2+1; rw[List.length_append,← hcnt]; simp,fun w => ?_,fun b hb => ?_⟩
   ·rw[zoy,h.at_ w]
    show _=if (s.1.set v (s.2+1)).getD w 0=0 then none else some [-((s.1.set v (s.2+1)).getD w 0)]
    rw[zdC hv]
    have hn:=hI.next
    by_cases hw:w=v
    ·subst hw
     rw[if_pos hz,if_pos rfl,if_neg (show ¬ s.2+1=0 by omega)]
     simp only[beq_self_eq_true,cond_true]
     rw[show -1 - (bs.length:Int) = -(s.2+1) from by omega]
    ·rw[if_neg hw]
     by_cases hz2:s.1.getD w 0=0
     ·rw[if_pos hz2]
      simp only
      rw[show (((v:Nat):Int) == ((w:Nat):Int))=false from by simp; omega]
      rfl
     ·rw[if_neg hz2]
   ·rcases List.mem_append.1 hb with hb | hb
    ·exact h.one b hb
    ·rw[List.mem_singleton.1 hb]; rfl
  ·rw[if_neg hz,show (s.1.getD v 0 == 0)=false from by simpa using hz,cond_false]
   exact h
theorem Rl.row:(r:List Int)→{s:zn5}→{bs:List (Int×List Int)}→Rl s bs→RenI s→(∀ c∈r,-24≤c)→Rl (zcH s r).2 (zBQ bs r)
 | [],_,_,h,_,_=>h
 | c :: r,s,bs,h,hI,hc=>by
  have h1:=h.step hI (hc c (List.mem_cons_self ..))
  exact Rl.row r h1 (zoF hI (hc c (List.mem_cons_self ..))).1 fun d hd=>hc d (List.mem_cons_of_mem _ hd)
theorem Rl.lits:(ls:List zd)→{s:zn5}→{bs:List (Int×List Int)}→Rl s bs→RenI s→(∀ l∈ls,∀ c∈l.2,-24≤c)→Rl (zaQ s ls).2 ((ls.map (·.2)).foldl zBQ bs)
 | [],_,_,h,_,_=>h
 | l :: ls,s,bs,h,hI,hc=>by
  have h1:=h.row l.2 hI (hc l (List.mem_cons_self ..))
  exact Rl.lits ls h1 (zge l.2 hI (hc l (List.mem_cons_self ..))).1 fun d hd=>hc d (List.mem_cons_of_mem _ hd)
theorem Rl.rows:(ls:List (List Int))→{s:zn5}→{bs:List (Int×List Int)}→Rl s bs→RenI s→(∀ l∈ls,∀ c∈l,-24≤c)→Rl (zb8 s ls).2 (ls.foldl zBQ bs)
 | [],_,_,h,_,_=>h
 | l :: ls,s,bs,h,hI,hc=>by
  have h1:=h.row l hI (hc l (List.mem_cons_self ..))
  exact Rl.rows ls h1 (zge l hI (hc l (List.mem_cons_self ..))).1 fun d hd=>hc d (List.mem_cons_of_mem _ hd)
theorem zmL {f:zn5} (hI:RenI f) {bs:List (Int×List Int)} (h:Rl f bs):(r:List Int)→(∀ c∈r,-24≤c)→(∀ x,zJj r x→f.1.getD x.toNat 0 ≠ 0)→onB bs r=zeI (fun v=>.v (rho f v)) r
 | [],_,_=>rfl
 | c :: r,hc,hz=>by
  have ih:=zmL hI h r (fun d hd=>hc d (List.mem_cons_of_mem _ hd)) fun x ⟨d,hd,h1⟩=>hz x ⟨d,List.mem_cons_of_mem _ hd,h1⟩
  have hc0:=hc c (List.mem_cons_self ..)
  unfold onB zeI at ih ⊢
  rw[List.flatMap_cons,List.flatMap_cons,ih]
  congr 1
  unfold onC zgr
  by_cases h0:c ≥ 0
  ·rw[decide_eq_true h0,cond_true,if_neg (by omega)]
  ·rw[decide_eq_false h0,cond_false,if_pos (by omega)]
   obtain⟨v,rfl⟩:∃ v:Nat,c = -1 - (v:Int):=⟨(-1 - c).toNat,by omega⟩
   have e1:(-1 - (-1 - (v:Int)))=(v:Int):=by omega
   have hv:=hz (v:Int) ⟨_,List.mem_cons_self ..,by omega,by omega⟩
   rw[Int.toNat_natCast] at hv
   rw[e1,h.at_ v,if_neg hv,Int.toNat_natCast]
   have:=hI.rng v
   unfold rho
   show [-(f.1.getD v 0)]=[-1 - (((f.1.getD v 0).toNat - 1:Nat):Int)]
   congr 1
   omega
theorem zu3 {L:List zd} {T:List (List Int)} {C:List zd} (hc:∀ r∈zgg L T C,Cds r) (hl:L.length≤100) (ht:T.length≤100) (hcl:C.length≤100) (hsum:zJ (L.map (·.2))+zJ T+zJ (C.map (·.2))≤1000):zgl L T C=some (zfq L T C):=by
 have cL:∀ l∈L,Cds l.2:=fun l h=>hc _ (zfC h)
 have cT:∀ l∈T,Cds l:=fun l h=>hc _ (zfS h)
 have cC:∀ l∈C,Cds l.2:=fun l h=>hc _ (zev h)
 have mL:∀ l,l∈y7 L [] ↔ l∈L:=fun l=>by simpa using zbf (x:=l) L []
 have mT:∀ l,l∈y7 T [] ↔ l∈T:=fun l=>by simpa using zbf (x:=l) T []
 have mC:∀ l,l∈y7 C [] ↔ l∈C:=fun l=>by simpa using zbf (x:=l) C []
 have lL:=zbk L []
 have lT:=zbk T []
 have lC:=zbk C []
 simp only[List.length_nil,Nat.zero_add] at lL lT lC
 have big:∀ r:List Int,Cds r→r.length≤1000000:=fun r h=>by have:=h.1; omega
 unfold zgl
 rw[zv1 (fun l h=>big _ (cL l h)) (by omega),Option.bind_some,zv1 (fun l h=>big _ (cC l h)) (by omega),Option.bind_some,
  zhi _ _ _ _ _ _ (by unfold maxLen; omega),zpW (fun l h=>big _ (cT l h)) T 0 [] rfl (fun _ h=>(nomatch h)) (by simp; omega),Option.bind_some]
 simp only
 rw[zjl _ _ _ (by omega) (by omega) (by omega),Option.bind_some]
 have nr:∀ r∈(y7 L []).map (·.2)++y7 T []++(y7 C []).map (·.2),Cds r:=fun r hr=>by
  rcases List.mem_append.1 hr with hr | hr
  ·rcases List.mem_append.1 hr with hr | hr
   ·obtain⟨l,hl,rfl⟩:=List.mem_map.1 hr; exact cL l ((mL l).1 hl)
   ·exact cT r ((mT r).1 hr)
  ·obtain⟨l,hl,rfl⟩:=List.mem_map.1 hr; exact cC l ((mC l).1 hl)
 have sL:zJ ((y7 L []).map (·.2))≤zJ (L.map (·.2)):=by
  have:=zhN (fun l:zd=>l.2.length) L []
  have h4:(([]:List zd).map (fun l:zd=>l.2.length)).sum=0:=rfl
  rw[h4,Nat.zero_add] at this
  unfold zJ
  rw[List.map_map,List.map_map]
  exact this
 have sC:zJ ((y7 C []).map (·.2))≤zJ (C.map (·.2)):=by
  have:=zhN (fun l:zd=>l.2.length) C []
  have h4:(([]:List zd).map (fun l:zd=>l.2.length)).sum=0:=rfl
  rw[h4,Nat.zero_add] at this
  unfold zJ
  rw[List.map_map,List.map_map]
  exact this
 have sT:zJ (y7 T [])≤zJ T:=by
  have:=zhN List.length T []
  unfold zJ
  simpa using this
 rw[zg5 _ _ _ _ _ (by simp only[List.length_append,List.length_map]; unfold maxLen; omega),zt3 _ _ _ (fun r hr=>(nr r hr).near) _ 0 [] List.drop_zero (by rw[zhM,zhM]; simp only[List.length_nil]; omega),Option.bind_some,List.foldl_append,List.foldl_append]
 -- the numbering
 obtain⟨a1,a2,a3,a4⟩:=ziM (y7 L []) zLJ fun l hl=>fun c h=>((cL l ((mL l).1 hl)).2 c h).1
 obtain⟨b1,b2,b3,b4⟩:=zl9 (y7 T []) a1 fun l hl=>fun c h=>((cT l ((mT l).1 hl)).2 c h).1
 obtain⟨c1,c2,c3,c4⟩:=ziM (y7 C []) b1 fun l hl=>fun c h=>((cC l ((mC l).1 hl)).2 c h).1
 have r1:=rl0.lits (y7 L []) zLJ fun l hl=>fun c h=>((cL l ((mL l).1 hl)).2 c h).1
 have r2:=r1.rows (y7 T []) a1 fun l hl=>fun c h=>((cT l ((mT l).1 hl)).2 c h).1
 have r3:=r2.lits (y7 C []) b1 fun l hl=>fun c h=>((cC l ((mC l).1 hl)).2 c h).1
 have nz1:∀ x,zAE ((y7 L []).map (·.2)) x→(zaQ (zb8 (zaQ (List.replicate 24 0,0) (y7 L [])).2 (y7 T [])).2 (y7 C [])).2.1.getD x.toNat 0 ≠ 0:=fun x hx=>by
  have:=a3 x hx
  rw[c2 _ (by rw[b2 _ this]; exact this),b2 _ this]
  exact this
 have nz2:∀ x,zAE (y7 T []) x→(zaQ (zb8 (zaQ (List.replicate 24 0,0) (y7 L [])).2 (y7 T [])).2 (y7 C [])).2.1.getD x.toNat 0 ≠ 0:=fun x hx=>by
  have:=b3 x hx
  rw[c2 _ this]
  exact this
 rw[zxu (r3.ok c1) (fun l h=>(cL l ((mL l).1 h)).near) (fun l h=>(cT l ((mT l).1 h)).near) (fun l h=>(cC l ((mC l).1 h)).near) (by omega) (by omega) (by omega),Option.bind_some]
 unfold zfq zJh
 rw[a4 _ (b2.trans c2),b4 _ c2,c4 _ (ExtS.refl _)]
 have eL:zlX _ (y7 L [])=zcQ _ (y7 L []):=List.map_congr_left fun l h=>by
  show (l.1,_)=(l.1,_)
  rw[zmL c1 r3 l.2 (fun c hh=>((cL l ((mL l).1 h)).2 c hh).1) fun x hx=>nz1 x ⟨_,List.mem_map_of_mem h,hx⟩]
 have eT:zs0 _ (y7 T [])=(y7 T []).map _:=List.map_congr_left fun l h=>zmL c1 r3 l (fun c hh=>((cT l ((mT l).1 h)).2 c hh).1) fun x hx=>nz2 x ⟨_,h,hx⟩
 have eC:zlX _ (y7 C [])=zcQ _ (y7 C []):=List.map_congr_left fun l h=>by
  show (l.1,_)=(l.1,_)
  rw[zmL c1 r3 l.2 (fun c hh=>((cC l ((mC l).1 h)).2 c hh).1) fun x hx=>c3 x ⟨_,List.mem_map_of_mem h,hx⟩]
 rw[eL,eT,eC]
end
end Go.Abs.Q
namespace Go.Abs.Q
open Go Go.Abs
section
theorem TopV.unique {rs:List (List Int)} {m m':Int} (h:TopV rs m) (h':TopV rs m') (h0:0≤m) (h0':0≤m'):m=m':=by
 have a:m'≤m:=by
  rcases h'.2 with e | e
  ·omega
  ·have:=h.1 _ e; omega
 have b:m≤m':=by
  rcases h.2 with e | e
  ·omega
  ·have:=h'.1 _ e; omega
 omega
theorem znk {a0:List zm} (hs:SignOk a0) {L:List zd} {T:List (List Int)} {C:List zd} (h:ziw a0 L T C=true):L.length≤5∧T.length≤3∧C.length≤3∧zJ (L.map (·.2))+zJ T+zJ (C.map (·.2))≤1000:=by
 obtain⟨-,h1,h2,h3,-,-,-,h7⟩:=zaI h
 exact ⟨h1,h2,h3,by omega⟩
theorem zzw {α:Type} (xs:List α) {i:Nat} (h:i≤xs.length):zbS xs (some (i:Int)) none=some (xs.drop i):=by
 show slc xs (i:Int) (xs.length:Int)=some _
 unfold slc
 rw[decide_eq_true (show (0:Int)≤(i:Int) by omega),decide_eq_true (show (i:Int)≤(xs.length:Int) by omega),decide_eq_true (show (xs.length:Int)≤((xs.length:Nat):Int) by omega)]
 simp
theorem zk4 {α:Type} (s:Nat):(es:List α)→(i:Nat)→s < i→yr (s:Int) es i=es
 | [],_,_=>rfl
 | e :: es,i,h=>by
  show cond ((i:Int) != (s:Int)) (e :: yr (s:Int) es (i+1)) (yr (s:Int) es (i+1))=_
  rw[show ((i:Int) != (s:Int))=true from by simp; omega,cond_true,zk4 s es (i+1) (by omega)]
theorem zis {α:Type} (s:Nat):(es:List α)→(i:Nat)→i≤s→s < i+es.length→yr (s:Int) es i=es.take (s - i)++es.drop (s - i+1)
 | [],i,h,h2=>by simp at h2; omega
 | e :: es,i,h,h2=>by
  show cond ((i:Int) != (s:Int)) (e :: yr (s:Int) es (i+1)) (yr (s:Int) es (i+1))=_
  simp only[List.length_cons] at h2
  by_cases he:i=s
  ·subst he
   rw[show ((i:Int) != (i:Int))=false from by simp,cond_false,zk4 i es (i+1) (by omega)]
   simp
  ·rw[show ((i:Int) != (s:Int))=true from by simp; omega,cond_true,zis s es (i+1) (by omega) (by omega)]
   rw[show s - i=(s - (i+1))+1 from by omega]
   rfl
theorem zje {L:List zd} {i:Int} (h:zcb L i=true) (hl:L.length≤1000):zbX L i=some (yr i L 0):=by
 unfold zcb at h
 simp only[Bool.and_eq_true,decide_eq_true_eq] at h
 obtain⟨k,rfl⟩:∃ k:Nat,i=(k:Int):=⟨i.toNat,by omega⟩
 have w1:IntKind.wrap .i64 ((k:Int)+1)=((k+1:Nat):Int):=by rw[yk] <;> omega
 unfold zbX
 rw[w1,zyd L (by omega),Option.bind_some,zT (by simp; omega),cond_true,zzw L (by omega),Option.bind_some,zT (by simp; omega),cond_true,zis k L 0 (by omega) (by omega)]
 simp
theorem zyH {σ:Sb} (hsh:zaB σ (List.range 24)=true) {L:List zd} {T:List (List Int)} {C:List zd} (hL:∀ l∈L,Cds l.2) (hT:∀ r∈T,Cds r) (hC:∀ l∈C,Cds l.2) (h1:L.length≤1000) (h2:T.length≤1000) (h3:C.length≤1000) :
  zd6 (zcR σ) L T C=some (zcQ σ L,T.map (zeI σ),zcQ σ C):=by
 rw[zxu (zro hsh) (fun l hl=>(hL l hl).near) (fun r hr=>(hT r hr).near) (fun l hl=>(hC l hl).near) h1 h2 h3,
  zjJ fun l hl c hc=>((hL l hl).2 c hc).1,zjJ fun l hl c hc=>((hC l hl).2 c hc).1,zru fun r hr c hc=>((hT r hr).2 c hc).1]
theorem zxB {a0:List zm} {σ:Sb} (hs:SignOk a0) (hsh:zaB σ (List.range 24)=true) {L:List zd} {T:List (List Int)} {C:List zd} (hL:∀ l∈L,Cds l.2) (hT:∀ r∈T,Cds r) (hC:∀ l∈C,Cds l.2) (h1:L.length≤1000) (h2:T.length≤1000) (h3:C.length≤1000) (k:Int) :
  ((zgv a0 (zcR σ) L T C).bind fun r40=>cond (!r40.2.2.1) (zzi k) (some (r40.1,r40.2.1,true,(0:Int),r40.2.2.2)))=zkP a0 σ L T C k:=by
 unfold zgv zkP
 rw[zyH hsh hL hT hC h1 h2 h3,Option.bind_some]
 simp only
 rw[zhv,Option.bind_some]
 cases hm:ziw a0 (zcQ σ L) (T.map (zeI σ)) (zcQ σ C) with
 | false=>rfl
 | true =>
  obtain⟨l1,l2,l3,l4⟩:=znk hs hm
  rw[Bool.not_true,cond_false,zu3 (zmv hs hm) (by omega) (by omega) (by omega) l4]
  rfl
end
end Go.Abs.Q
namespace Go.Abs.Q
open Go Go.Abs
section
theorem zmn (L:List zd) (T:List (List Int)) (C:List zd) (i:Int):zck L T C i=some (zcb L i):=by
 unfold zck zcb
 by_cases h:i ≥ 0
 ·rw[decide_eq_true h,cond_true,Bool.true_and]
 ·rw[decide_eq_false h,cond_false,Bool.false_and]
end
end Go.Abs.Q
namespace Go.Abs.Q
open Go Go.Abs
def zdL (a0:(List zm)) (a1:(List zd)) (a2:(List (List Int))) (a3:(List zd)) (a4:Int) (a5:Int):Option ((List zd)×(List (List Int))×Bool×Int×(List zd)) :=
 (zgA a0 a1 a2 a3).bind fun r17 =>
 cond (!r17)
 (some (([]:(List zd)),([]:(List (List Int))),false,1400,([]:(List zd))))
 ((zck a1 a2 a3 a4).bind fun r18 =>
  cond (!r18)
  (some (([]:(List zd)),([]:(List (List Int))),false,1400,([]:(List zd))))
  ((zck a1 a2 a3 a5).bind fun r19 =>
   cond (!r19)
   (some (([]:(List zd)),([]:(List (List Int))),false,1400,([]:(List zd))))
   (cond (a4 == a5)
    (some (([]:(List zd)),([]:(List (List Int))),false,1400,([]:(List zd))))
    ((gx a1 a4).bind fun e20 =>
     (gx a1 a5).bind fun e21 =>
     cond (!(e20.1 == e21.1))
     (some (([]:(List zd)),([]:(List (List Int))),false,0,([]:(List zd))))
     ((gx a1 a4).bind fun e22 =>
      (gx e22.2 0).bind fun e23 =>
      (gx a1 a5).bind fun e24 =>
      (gx e24.2 0).bind fun e25 =>
      cond (e23 != e25)
      (some (([]:(List zd)),([]:(List (List Int))),false,0,([]:(List zd))))
      ((gx a1 a4).bind fun e26 =>
       (zbS e26.2 (some 1) none).bind fun y27 =>
       (gx a1 a5).bind fun e28 =>
       (zbS e28.2 (some 1) none).bind fun y29 =>
       (zb1 a0 y27 y29).bind fun r30 =>
       cond (!r30.2.1)
       (some (([]:(List zd)),([]:(List (List Int))),false,1401,([]:(List zd))))
       (cond (!r30.1)
        (some (([]:(List zd)),([]:(List (List Int))),false,0,([]:(List zd))))
        ((zbX a1 a5).bind fun r31 =>
         (zgv a0 r30.2.2 r31 a2 a3).bind fun r32 =>
         cond (!r32.2.2.1)
         (some (([]:(List zd)),([]:(List (List Int))),false,1401,([]:(List zd))))
         (some (r32.1,r32.2.1,true,0,r32.2.2.2))))))))))
def zdE (a0:(List zm)) (a1:(List zd)) (a2:(List (List Int))) (a3:(List zd)) (a4:Int):Option ((List zd)×(List (List Int))×Int×(List zd)) :=
 (zgA a0 a1 a2 a3).bind fun r7 =>
 cond (!r7)
 (some (([]:(List zd)),([]:(List (List Int))),1400,([]:(List zd))))
 ((zck a1 a2 a3 a4).bind fun r8 =>
  cond (!r8)
  (some (([]:(List zd)),([]:(List (List Int))),1400,([]:(List zd))))
  (cond (decide (((List.length a3:Nat):Int) ≥ 3))
   (some (([]:(List zd)),([]:(List (List Int))),1401,([]:(List zd))))
   ((zbX a1 a4).bind fun r9 =>
    cond (qt (List.length a3) 32)
    ((gx a1 a4).bind fun e10 =>
     (gx a1 a4).bind fun e11 =>
     cond (qt (List.length a3+List.length ([((!e10.1),e11.2)]:List zd)) 32)
     ((zgl r9 a2 (a3++([((!e10.1),e11.2)]:List zd))).bind fun r12 =>
      some (r12.1,r12.2.1,0,r12.2.2))
     (none))
    (none))))
end Go.Abs.Q
namespace Go.Abs.Q
open Go Go.Abs
end Go.Abs.Q
