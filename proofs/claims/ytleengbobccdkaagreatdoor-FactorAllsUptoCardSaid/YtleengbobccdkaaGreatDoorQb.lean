import Derived.Test.YtleengbobccdkaaGreatDoorQa
/-
  What the functions make of plain values, and what the law says of that.
-/
namespace Go.Abs.Q
open Go Go.Abs
section
theorem ztU {a0:List zq}:{xs:List Int}→{n k:Nat}→sk a0 n xs=some k→∀ c∈xs.take k,-24≤c
 | [],n,k,h,c,hc=>by simp at hc
 | x::xs,0,k,h,c,hc=>by
  simp [sk] at h; subst h; simp at hc
 | x::xs,n+1,k,h,c,hc=>by
  unfold sk at h
  cases ha:zcM a0 x with
  | none=>rw[ha] at h; cases h
  | some m =>
   rw[ha] at h
   simp only[Option.map_eq_some_iff] at h
   obtain⟨j,hj,rfl⟩:=h
   rw[List.take_succ_cons] at hc
   rcases List.mem_cons.1 hc with rfl | hc
   ·by_cases h0:c<0
    ·exact (zrh ha h0).1
    ·omega
   ·exact ztU hj c hc
theorem zk6 {a0:List zq} {xs:List Int} {ps:List jI} (h:zlD a0 xs=some ps):∀ c∈xs,-24≤c:=by
 obtain⟨h1,h2⟩:=zh0 xs.length xs ps (Nat.le_refl _) h
 intro c hc
 rw[← h1] at hc
 obtain⟨p,hp,hcp⟩:=List.mem_flatten.1 hc
 have:=ztU (h2 p hp).2 c
 rw[List.take_length] at this
 exact this hcp
theorem zsA {a0:List zq} {xs:List Int} (h:zaS a0 xs=true):zdU xs:=by
 obtain⟨x,r,e,ps,rfl,h0,-,-,-,-,hl,hc,-⟩:=ziF h
 refine ⟨by simp; omega,fun c hcm => ?_⟩
 rcases List.mem_cons.1 hcm with rfl | hcm
 ·omega
 ·exact zk6 hc c hcm
theorem zuG {a0:List zq} {r:List Int} {n:Nat} (h:zhm a0 r=some n):zdU r:=by
 obtain⟨ps,hc,-,hl,-⟩:=zkU h
 exact ⟨by omega,zk6 hc⟩
theorem zdH {a0:List zq} {ls:List zl} (h:zdV a0 ls=true):∀ l∈ls,zdU l.2:=fun l hl =>
 zsA (List.all_eq_true.1 h l hl)
theorem zjL {a0:List zq} {rs:List jI} (h:zfP a0 rs=true):∀ r∈rs,zdU r:=fun r hr=>by
 obtain⟨n,hn⟩:=zhO h
 exact zuG (hn r hr)
theorem zg2 (a0:List zq) (L:List zl) (T:List jI) (C:List zl):zc6 a0 L T C=some (cond (zfs a0 L T C) ((zdx L T C).1,(zdx L T C).2.1,0,(zdx L T C).2.2) ([],[],800,[])):=by
 unfold zc6
 rw[za3,Option.bind_some]
 cases h:zfs a0 L T C with
 | false=>rfl
 | true =>
  obtain⟨-,h1,h2,h3,h4,h5,h6,-⟩:=z4 h
  rw[Bool.not_true,cond_false,zn8 (by omega) (by omega) (by omega) (zdH h4) (zjL h5) (zdH h6),Option.bind_some]
  rfl
theorem znQ:(s:List Int×Int)→(ls:List zl)→(za7 s ls).1.length=ls.length
 | _,[]=>rfl
 | s,l::ls=>by simp [za7,znQ (zd3 s l.2).2 ls]
theorem zqO:(s:List Int×Int)→(ls:List jI)→(zc2 s ls).1.length=ls.length
 | _,[]=>rfl
 | s,l::ls=>by simp [zc2,zqO (zd3 s l).2 ls]
theorem zlj:(s:List Int×Int)→(ls:List zl)→(b:Nat)→(∀ l∈ls,l.2.length≤b)→∀ l∈(za7 s ls).1,l.2.length≤b
 | _,[],_,_,l,hl=>by cases hl
 | s,e::es,b,h,l,hl=>by
  simp only[za7] at hl
  rcases List.mem_cons.1 hl with rfl | hl
  ·rw[zo9]; exact h e (List.mem_cons_self ..)
  ·exact zlj _ es b (fun x hx=>h x (List.mem_cons_of_mem _ hx)) l hl
theorem zoX:(s:List Int×Int)→(ls:List jI)→(b:Nat)→(∀ l∈ls,l.length≤b)→∀ l∈(zc2 s ls).1,l.length≤b
 | _,[],_,_,l,hl=>by cases hl
 | s,e::es,b,h,l,hl=>by
  simp only[zc2] at hl
  rcases List.mem_cons.1 hl with rfl | hl
  ·rw[zo9]; exact h e (List.mem_cons_self ..)
  ·exact zoX _ es b (fun x hx=>h x (List.mem_cons_of_mem _ hx)) l hl
theorem zuz {a0:List zq} {L:List zl} {T:List jI} {C:List zl} (h:zfs a0 L T C=true) :
  qo (zdx L T C).1 (zdx L T C).2.1 (zdx L T C).2.2 (zdx L T C).1 (zdx L T C).2.1 (zdx L T C).2.2=some true:=by
 obtain⟨-,h1,h2,h3,h4,h5,h6,-⟩:=z4 h
 have lL:=zaW L []
 have lT:=zaW T []
 have lC:=zaW C []
 simp only[List.length_nil,Nat.zero_add] at lL lT lC
 have sL:∀ l∈zN L [],l.2.length≤1000:=fun l h=>(zdH h4 l (by simpa using (q6 L []).1 h)).1
 have sT:∀ l∈zN T [],l.length≤1000:=fun l h=>(zjL h5 l (by simpa using (q6 T []).1 h)).1
 have sC:∀ l∈zN C [],l.2.length≤1000:=fun l h=>(zdH h6 l (by simpa using (q6 C []).1 h)).1
 unfold zdx zFQ
 apply zcE
 ·simp only[znQ]; unfold maxLen; omega
 ·intro e he
  have:=zlj _ _ 1000 sL e he
  unfold maxLen; omega
 ·simp only[zqO]; unfold maxLen; omega
 ·intro e he
  have:=zoX _ _ 1000 sT e he
  unfold maxLen; omega
 ·simp only[znQ]; unfold maxLen; omega
 ·intro e he
  have:=zlj _ _ 1000 sC e he
  unfold maxLen; omega
def zS {α:Type} (s:Int):List α→Nat→List α
 | [],_=>[]
 | e::es,i=>cond ((i:Int) != s) (e::zS s es (i+1)) (zS s es (i+1))
theorem zge {α:Type} (s:Int):(es:List α)→(i:Nat)→(zS s es i).length≤es.length
 | [],_=>Nat.le_refl _
 | e::es,i=>by
  unfold zS
  have:=zge s es (i+1)
  cases ((i:Int) != s)<;>simp<;>omega
theorem zsa (s0:Int) (s8:List jI) (s10:List zl):(es:List zl)→(i:Nat)→(out:List zl)→out.length+es.length≤1000000→yf s0 s8 s10 es i out=some (s8,out++zS s0 es i,s10)
 | [],i,out,_=>by simp [yf,zS]
 | e::es,i,out,h=>by
  rw[List.length_cons] at h
  unfold yf zS
  cases ((i:Int) != s0) with
  | true =>
   rw[cond_true,cond_true,zD (show (out.length+([(e.1,e.2)]:List zl).length)*32≤140737488351232 by simp; omega),cond_true,zsa s0 s8 s10 es (i+1) _ (by simp; omega)]
   simp
  | false=>rw[cond_false,cond_false,zsa s0 s8 s10 es (i+1) out (by omega)]
theorem zsc (s0:Int) (s8:List jI) (s10:List zl):(es:List zl)→(i:Nat)→(out:List zl)→out.length+es.length≤1000000→ye s0 s8 s10 es i out=some (s8,out++zS s0 es i,s10)
 | [],i,out,_=>by simp [ye,zS]
 | e::es,i,out,h=>by
  rw[List.length_cons] at h
  unfold ye zS
  cases ((i:Int) != s0) with
  | true =>
   rw[cond_true,cond_true,zD (show (out.length+([(e.1,e.2)]:List zl).length)*32≤140737488351232 by simp; omega),cond_true,zsc s0 s8 s10 es (i+1) _ (by simp; omega)]
   simp
  | false=>rw[cond_false,cond_false,zsc s0 s8 s10 es (i+1) out (by omega)]
theorem znW {n:Nat} (h:n≤1000000):zgb (n:Int)=some []:=by
 unfold zgb
 have e:IntKind.wrap .i64 ((n:Int) - 0)=(n:Int):=by rw[zE]<;>omega
 rw[e,decide_eq_false (show ¬((n:Int)<0) by omega),cond_false]
 by_cases h0:n=0
 ·subst h0; rfl
 ·rw[decide_eq_true (show (n:Int)>0 by omega),cond_true,show (eqI 0 0&&eqI 0 0)=true from rfl,cond_true,show zCK (n:Int)=true from decide_eq_true (by omega),cond_true,Int.toNat_natCast,zD (by omega),cond_true]
  have:zcv (List.replicate n ([]:List Int)) none (some 0)=some []:=by
   show slc (List.replicate n ([]:List Int)) 0 0=some []
   unfold slc
   rw[decide_eq_true (show (0:Int)≤0 by omega),decide_eq_true (show (0:Int)≤(((List.replicate n ([]:List Int)).length:Nat):Int) by omega)]
   rfl
  rw[this]; rfl
theorem zmb {n:Nat} (h:n≤1000000):zeg (n:Int)=some []:=by
 unfold zeg
 have e:IntKind.wrap .i64 ((n:Int) - 0)=(n:Int):=by rw[zE]<;>omega
 rw[e,decide_eq_false (show ¬((n:Int)<0) by omega),cond_false]
 by_cases h0:n=0
 ·subst h0; rfl
 ·rw[decide_eq_true (show (n:Int)>0 by omega),cond_true,show (eqI 0 0&&eqI 0 0)=true from rfl,cond_true,show zCK (n:Int)=true from decide_eq_true (by omega),cond_true,Int.toNat_natCast,zD (by omega),cond_true]
  have:∀ z:zl,zcv (List.replicate n z) none (some 0)=some []:=fun z=>by
   show slc (List.replicate n z) 0 0=some []
   unfold slc
   rw[decide_eq_true (show (0:Int)≤0 by omega),decide_eq_true (show (0:Int)≤(((List.replicate n z).length:Nat):Int) by omega)]
   rfl
  rw[this]; rfl
theorem zlq {a b:List jI} (h:a.length+b.length≤1000000):zeq [a,b]=some (a++b):=by
 have w0:IntKind.wrap .i64 ((0:Int)+((a.length:Nat):Int))=((a.length:Nat):Int):=by rw[zE]<;>omega
 have w1:IntKind.wrap .i64 (((a.length:Nat):Int)+((b.length:Nat):Int))=((a.length+b.length:Nat):Int):=by rw[zE]<;>omega
 have e0:yr [a,b] 0=some ((a.length+b.length:Nat):Int):=by
  unfold yr
  rw[w0,decide_eq_false (show ¬(((a.length:Nat):Int)<0) by omega),cond_false]
  unfold yr
  rw[w1,decide_eq_false (show ¬(((a.length+b.length:Nat):Int)<0) by omega),cond_false]
  rfl
 have e1:yy [a,b] []=some (a++b):=by
  unfold yy
  rw[zD (by simp; omega),cond_true,List.nil_append]
  unfold yy
  rw[zD (by omega),cond_true]
  rfl
 unfold zeq
 rw[zgw _ _ _ (by unfold maxLen; simp),e0,Option.bind_some,znW h,Option.bind_some,zgR _ _ (by unfold maxLen; simp),e1]
 rfl
theorem zkC {a b:List zl} (h:a.length+b.length≤1000000):zdq [a,b]=some (a++b):=by
 have w0:IntKind.wrap .i64 ((0:Int)+((a.length:Nat):Int))=((a.length:Nat):Int):=by rw[zE]<;>omega
 have w1:IntKind.wrap .i64 (((a.length:Nat):Int)+((b.length:Nat):Int))=((a.length+b.length:Nat):Int):=by rw[zE]<;>omega
 have e0:zT [a,b] 0=some ((a.length+b.length:Nat):Int):=by
  unfold zT
  rw[w0,decide_eq_false (show ¬(((a.length:Nat):Int)<0) by omega),cond_false]
  unfold zT
  rw[w1,decide_eq_false (show ¬(((a.length+b.length:Nat):Int)<0) by omega),cond_false]
  rfl
 have e1:zX [a,b] []=some (a++b):=by
  unfold zX
  rw[zD (by simp; omega),cond_true,List.nil_append]
  unfold zX
  rw[zD (by omega),cond_true]
  rfl
 unfold zdq
 rw[zfn _ _ _ (by unfold maxLen; simp),e0,Option.bind_some,zmb h,Option.bind_some,zff _ _ (by unfold maxLen; simp),e1]
 rfl
theorem zhz {L:List zl} {T:List jI} {C:List zl} {L':List zl} {T':List jI} {C':List zl} (i j:Int) (h1:L.length≤1000) (h2:T.length≤1000) (h3:C.length≤1000) (h4:L'.length≤1000) (h5:T'.length≤1000) (h6:C'.length≤1000) :
  zd0 L T C i L' T' C' j=some (T++T',zS i L 0++zS j L' 0,C++C'):=by
 have hw:=zge i L 0
 unfold zd0
 rw[zlq (by omega),Option.bind_some,zkC (by omega),Option.bind_some,
  zhq _ _ _ _ _ _ _ _ _ (by unfold maxLen; omega),zsa _ _ _ _ _ _ (by simp; omega),Option.bind_some]
 simp only[List.nil_append]
 rw[zhn _ _ _ _ _ (by unfold maxLen; omega),zsc _ _ _ _ _ _ (by omega),Option.bind_some]
def zea (L:List zl) (i:Int):Bool:=decide (0≤i)&&decide (i<L.length)
theorem zad (L:List zl) (T:List jI) (C:List zl) (i:Int):zcZ L T C i=some (zea L i):=by
 unfold zcZ zea
 by_cases h:0≤i
 ·rw[decide_eq_true h]; rfl
 ·rw[decide_eq_false h]; rfl
theorem zeD {α:Type} {s:Int} {x:α}:(es:List α)→(i:Nat)→x∈zS s es i→x∈es
 | [],_,h=>by cases h
 | e::es,i,h=>by
  unfold zS at h
  cases hb:((i:Int) != s) with
  | true =>
   rw[hb,cond_true] at h
   rcases List.mem_cons.1 h with rfl | h
   ·exact List.mem_cons_self ..
   ·exact List.mem_cons_of_mem _ (zeD es (i+1) h)
  | false=>rw[hb,cond_false] at h; exact List.mem_cons_of_mem _ (zeD es (i+1) h)
theorem zoc:zjP=some true:=by kernel_rfl
end
end Go.Abs.Q
namespace Go.Abs.Q
open Go Go.Abs
section
def to0:List (Option jI×Int):=List.replicate 48 ((none:Option jI),(0:Int))
theorem zFo {k:Nat} (h:k<48):to0[k]? = some (none,0):=by
 unfold to0
 rw[List.getElem?_replicate,if_pos h]
theorem zs3 {α:Type} (xs:List α) (y:α):zcv (xs++[y]) none (some (xs.length:Int))=some xs:=by
 show slc (xs++[y]) 0 (xs.length:Int)=some xs
 unfold slc
 rw[decide_eq_true (show (0:Int)≤0 by omega),decide_eq_true (show (0:Int)≤(xs.length:Int) by omega),decide_eq_true (show (xs.length:Int)≤(((xs++[y]).length:Nat):Int) by simp; omega)]
 simp
theorem zAF (ps:List jI):zv ps=ps.flatten.length:=by
 induction ps with
 | nil=>rfl
 | cons p ps ih =>
  unfold zv at ih ⊢
  simp only[List.map_cons,List.sum_cons,List.flatten_cons,List.length_append,ih]
def zey (s:List (Int×List Int)) (v:Int):Option jI:=(s.find? fun b=>b.1==v).map (·.2)
def onC (s:List (Int×List Int)) (c:Int):List Int:=cond (decide (c≥0)) [c] ((zey s (-1 - c)).getD [c])
def onB (s:List (Int×List Int)) (r:List Int):List Int:=r.flatMap (onC s)
structure BindsOk (s:List (Int×List Int)):Prop where
 len:s.length≤1000
 all:∀ b∈s,b.2≠[]∧b.2.length≤1000
theorem ztk (v:Int):(es:List (Int×List Int))→zaP v es=some (match zey es v with
  | none=>.inl ()
  | some t=>.inr t)
 | []=>rfl
 | e::es=>by
  unfold zaP zey
  rw[List.find?_cons]
  cases he:(e.1==v) with
  | true=>rfl
  | false =>
   rw[cond_false,ztk v es]
   rfl
theorem zqj {s:List (Int×List Int)} {v:Int} {t:List Int} (h:zey s v=some t):∃ b∈s,b.1=v∧b.2=t:=by
 unfold zey at h
 obtain⟨b,hb,rfl⟩:=Option.map_eq_some_iff.1 h
 exact ⟨b,List.mem_of_find?_eq_some hb,by simpa using List.find?_some hb,rfl⟩
theorem zlu {α:Type} {xs:List α} (h:xs≠[]):nn xs=some xs:=by
 cases xs with
 | nil=>exact absurd rfl h
 | cons x xs=>rfl
theorem zqL {s:List (Int×List Int)} (h:BindsOk s) (v:Int):zij s v=some (zey s v):=by
 unfold zij
 rw[zjR _ _ (by have:=h.len; unfold maxLen; omega),ztk]
 cases hl:zey s v with
 | none=>rfl
 | some t =>
  obtain⟨b,hb,-,rfl⟩:=zqj hl
  show (nn b.2).bind _=_
  rw[zlu (h.all b hb).1]
  rfl
theorem zFf {s:List (Int×List Int)} (h:BindsOk s) (c:Int):(onC s c).length≤1000:=by
 unfold onC
 cases decide (c≥0) with
 | true=>simp
 | false =>
  cases hl:zey s (-1 - c) with
  | none=>simp
  | some t =>
   obtain⟨b,hb,-,rfl⟩:=zqj hl
   exact (h.all b hb).2
theorem zp2 {s:List (Int×List Int)} (h:BindsOk s):(es:List Int)→(out:List Int)→(∀ c∈es,-1000000≤c∧c≤1000000)→out.length+1000*es.length≤10000000→qX s es out=some (out++onB s es)
 | [],out,_,_=>by simp [qX,onB]
 | e::es,out,hc,hl=>by
  rw[List.length_cons] at hl
  have he:=hc e (List.mem_cons_self ..)
  have ih:=fun out' hl'=>zp2 h es out' (fun c hx=>hc c (List.mem_cons_of_mem _ hx)) hl'
  have hcl:=zFf h e
  have hB:onB s (e::es)=onC s e++onB s es:=by simp [onB]
  unfold qX
  rw[zbY (by omega) (by omega),Option.bind_some,zqL h,Option.bind_some,hB]
  unfold onC at hcl ⊢
  by_cases h0:e≥0
  ·rw[decide_eq_true h0,cond_true,cond_true,zD (show (out.length+([e]:List Int).length)*8≤140737488351232 by simp; omega),cond_true,ih _ (by simp; omega)]
   simp
  ·rw[decide_eq_false h0] at hcl ⊢
   simp only[cond_false] at hcl ⊢
   cases hl2:zey s (-1 - e) with
   | none =>
    simp only[Option.isNone_none,cond_true,Option.getD_none]
    rw[zD (show (out.length+([e]:List Int).length)*8≤140737488351232 by simp; omega),cond_true,ih _ (by simp; omega)]
    simp
   | some t =>
    rw[hl2] at hcl
    simp only[Option.getD_some] at hcl
    simp only[Option.isNone_some,cond_false,Option.getD_some]
    rw[zD (by omega),cond_true,ih _ (by simp; omega)]
    simp
theorem zlK {s:List (Int×List Int)} (h:BindsOk s) {r:List Int} (hl:r.length≤1000) (hc:∀ c∈r,-1000000≤c∧c≤1000000):zpR s r=some (onB s r):=by
 unfold zpR
 rw[zlB _ _ _ (by unfold maxLen; omega),zp2 h r [] hc (by simp; omega)]
 rfl
def zgQ (r:List Int):Prop:=r.length≤1000∧∀ c∈r,-1000000≤c∧c≤1000000
def zoA (s:List (Int×List Int)) (ls:List zl):List zl:=ls.map fun l=>(l.1,onB s l.2)
def zwU (s:List (Int×List Int)) (rs:List jI):List jI:=rs.map (onB s)
theorem zq1 {s:List (Int×List Int)} (h:BindsOk s):(es out:List zl)→(∀ l∈es,zgQ l.2)→out.length+es.length≤1000000→y0 s es out=some (out++zoA s es)
 | [],out,_,_=>by simp [y0,zoA]
 | e::es,out,hn,hl=>by
  rw[List.length_cons] at hl
  have he:=hn e (List.mem_cons_self ..)
  unfold y0 zaC
  rw[zlK h he.1 he.2,Option.bind_some,Option.bind_some,zD (show (out.length+([(e.1,onB s e.2)]:List zl).length)*32≤140737488351232 by simp; omega),cond_true,
   zq1 h es _ (fun l hl=>hn l (List.mem_cons_of_mem _ hl)) (by simp; omega)]
  simp [zoA]
theorem zrx {s:List (Int×List Int)} (h:BindsOk s) (s7:List zl):(es out:List jI)→(∀ l∈es,zgQ l)→out.length+es.length≤1000000→qa s s7 es out=some (s7,out++zwU s es)
 | [],out,_,_=>by simp [qa,zwU]
 | e::es,out,hn,hl=>by
  rw[List.length_cons] at hl
  have he:=hn e (List.mem_cons_self ..)
  unfold qa zaC
  rw[zlK h he.1 he.2,Option.bind_some,Option.bind_some,zD (show (out.length+([onB s e]:List jI).length)*24≤140737488351232 by simp; omega),cond_true,
   zrx h s7 es _ (fun l hl=>hn l (List.mem_cons_of_mem _ hl)) (by simp; omega)]
  simp [zwU]
theorem zp4 {s:List (Int×List Int)} (h:BindsOk s) (s4:List zl) (s5:List jI):(es out:List zl)→(∀ l∈es,zgQ l.2)→out.length+es.length≤1000000→yY s s4 s5 es out=some (s4,s5,out++zoA s es)
 | [],out,_,_=>by simp [yY,zoA]
 | e::es,out,hn,hl=>by
  rw[List.length_cons] at hl
  have he:=hn e (List.mem_cons_self ..)
  unfold yY zaC
  rw[zlK h he.1 he.2,Option.bind_some,Option.bind_some,zD (show (out.length+([(e.1,onB s e.2)]:List zl).length)*32≤140737488351232 by simp; omega),cond_true,
   zp4 h s4 s5 es _ (fun l hl=>hn l (List.mem_cons_of_mem _ hl)) (by simp; omega)]
  simp [zoA]
theorem zq7 {s:List (Int×List Int)} (h:BindsOk s) {L:List zl} {T:List jI} {C:List zl} (hL:∀ l∈L,zgQ l.2) (hT:∀ l∈T,zgQ l) (hC:∀ l∈C,zgQ l.2) (h1:L.length≤1000) (h2:T.length≤1000) (h3:C.length≤1000) :
  zhQ s L T C=some (zoA s L,zwU s T,zoA s C):=by
 unfold zhQ zjo
 rw[zh4 _ _ _ _ _ _ (by unfold maxLen; omega),zq1 h L [] hL (by simp; omega),Option.bind_some,
  zhR _ _ _ _ _ _ _ (by unfold maxLen; omega),zrx h _ T [] hT (by simp; omega),Option.bind_some,
  ziu _ _ _ _ _ (by unfold maxLen; omega),zp4 h _ _ C [] hC (by simp; omega),Option.bind_some]
 simp
end
end Go.Abs.Q
namespace Go.Abs.Q
open Go Go.Abs
def zpF (rec:zq→Option Int) (x:zq):Option Int :=
 cond (decide (x.2.2.2<x.2.2.1))
 ((gx x.1 x.2.2.2).bind fun c2 =>
  rec (x.1,(IntKind.wrap .i64 ((IntKind.wrap .i64 (10*x.2.1))+(IntKind.wrap .i64 (IntKind.wrap .u8 (((UInt8.toNat c2:Nat):Int) - 48))))),x.2.2.1,(IntKind.wrap .i64 (x.2.2.2+1))))
 (some x.2.1)
def zoW (a0:Str):Option Int :=
 ((lp zpF zi) (a0,0,((List.length a0:Nat):Int),0)).bind fun r4 =>
 some r4
def zK (a0:Str) (a1:jS) (a2:(List (Int×Str))) (a3:Bool):Option (Bool×jS×(List (Int×Str))×Bool) :=
 cond (((List.length a2:Nat):Int)==0)
 (some (false,a1,a2,a3))
 ((gx a2 0).bind fun e4 =>
  cond (e4.1 != 3)
  (some (false,a1,a2,a3))
  ((gx a2 0).bind fun e5 =>
   cond (!(e5.2==a0))
   (some (false,a1,a2,a3))
   ((zcv a2 (some 1) none).bind fun y6 =>
    some (true,a1,y6,a3))))
def zga (a0:jS) (a1:(List (Int×Str))) (a2:Bool):Option (Int×Int×Bool×jS×(List (Int×Str))×Bool) :=
 cond (decide (((List.length a1:Nat):Int)<2))
 (some (0,0,false,a0,a1,a2))
 ((gx a1 0).bind fun e9 =>
  cond (e9.1 != 0)
  (some (0,0,false,a0,a1,a2))
  ((gx a1 1).bind fun e10 =>
   cond (e10.1 != 1)
   (some (0,0,false,a0,a1,a2))
   ((gx a1 1).bind fun e11 =>
    (zcv e11.2 (some 1) none).bind fun y12 =>
    (zoW y12).bind fun r13 =>
    (gx a1 0).bind fun e14 =>
    cond (e14.2==([101,120]:Str))
    ((zcv a1 (some 2) none).bind fun y15 =>
     some (6,r13,true,a0,y15,a2))
    (cond (e14.2==([97,108,108]:Str))
     ((zcv a1 (some 2) none).bind fun y16 =>
      some (5,r13,true,a0,y16,a2))
     (some (0,0,false,a0,a1,a2))))))
def zxO (a0:jS) (a1:Str):Option (Int×Int) :=
 (zgF a0).bind fun r3 =>
 cond (!r3)
 (some (0,100))
 ((zf2 a0 a1).bind fun r4 =>
  some (r4,0))
def zde (a0:jS) (a1:(List (Int×Str))) (a2:Bool):Option (Int×Bool×jS×(List (Int×Str))×Bool) :=
 cond (((List.length a1:Nat):Int)==0)
 (some (0,false,a0,a1,a2))
 ((gx a1 0).bind fun e5 =>
  cond (e5.1 != 0)
  (some (0,false,a0,a1,a2))
  ((gx a1 0).bind fun e6 =>
   (zxO a0 e6.2).bind fun r7 =>
   cond (decide (r7.1<0))
   (some (0,false,a0,a1,a2))
   ((zcv a1 (some 1) none).bind fun y8 =>
    some (r7.1,true,a0,y8,a2))))
def zi7 (a0:jS) (a1:(List (Int×Str))) (a2:Bool):Option (Int×Bool×jS×(List (Int×Str))×Bool) :=
 cond (((List.length a1:Nat):Int)==0)
 (some (0,false,a0,a1,a2))
 ((gx a1 0).bind fun e6 =>
  cond (e6.1 != 1)
  (some (0,false,a0,a1,a2))
  ((gx a1 0).bind fun e7 =>
   (zcv e7.2 (some 1) none).bind fun y8 =>
   (zoW y8).bind fun r9 =>
   (zcv a1 (some 1) none).bind fun y10 =>
   some (r9,true,a0,y10,a2)))
def zgk (rf:(((jS×(List (Int×Str))×Bool)→Option (Bool×jI×jS×(List (Int×Str))×Bool))×((Int×jS×(List (Int×Str))×Bool)→Option (Bool×jI×jS×(List (Int×Str))×Bool)))) (a0:jS) (a1:(List (Int×Str))) (a2:Bool):Option (Bool×jI×jS×(List (Int×Str))×Bool) :=
 (zi7 a0 a1 a2).bind fun r6 =>
 cond r6.2.1
 ((yU r6.1).bind fun r7 =>
  some (true,([r7]:List Int),r6.2.2.1,r6.2.2.2.1,r6.2.2.2.2))
 ((zde r6.2.2.1 r6.2.2.2.1 r6.2.2.2.2).bind fun r8 =>
  cond (!r8.2.1)
  (some (false,([]:jI),r8.2.2.1,r8.2.2.2.1,r8.2.2.2.2))
  ((gx r8.2.2.1 r8.1).bind fun e9 =>
   cond (e9.2.1==0)
   (some (false,([]:jI),r8.2.2.1,r8.2.2.2.1,r8.2.2.2.2))
   ((rf.2 (r8.1,r8.2.2.1,r8.2.2.2.1,r8.2.2.2.2)).bind fun r10 =>
    some (r10.1,r10.2.1,r10.2.2.1,r10.2.2.2.1,r10.2.2.2.2))))
def zeZ (rf:(((jS×(List (Int×Str))×Bool)→Option (Bool×jI×jS×(List (Int×Str))×Bool))×((Int×jS×(List (Int×Str))×Bool)→Option (Bool×jI×jS×(List (Int×Str))×Bool)))) (rec:(Int×Int×Int×jS×(List (Int×Str))×Bool×jI)→Option ((jS×(List (Int×Str))×Bool×jI)⊕(Bool×jS×(List (Int×Str))×Bool))) (x:(Int×Int×Int×jS×(List (Int×Str))×Bool×jI)):Option ((jS×(List (Int×Str))×Bool×jI)⊕(Bool×jS×(List (Int×Str))×Bool)) :=
 cond (decide (x.2.2.1<x.2.1))
 (cond (x.2.2.1==0)
  ((zK ([40]:Str) x.2.2.2.1 x.2.2.2.2.1 x.2.2.2.2.2.1).bind fun r8 =>
   cond (!r8.1)
   (some (Sum.inr (false,r8.2.1,r8.2.2.1,r8.2.2.2)))
   ((rf.1 (r8.2.1,r8.2.2.1,r8.2.2.2)).bind fun r9 =>
    cond (!r9.1)
    (some (Sum.inr (false,r9.2.2.1,r9.2.2.2.1,r9.2.2.2.2)))
    (cond (qi (List.length x.2.2.2.2.2.2+List.length r9.2.1) 8)
     (rec (x.1,x.2.1,(IntKind.wrap .i64 (x.2.2.1+1)),r9.2.2.1,r9.2.2.2.1,r9.2.2.2.2,(x.2.2.2.2.2.2++r9.2.1)))
     (none))))
  ((zK ([44]:Str) x.2.2.2.1 x.2.2.2.2.1 x.2.2.2.2.2.1).bind fun r10 =>
   cond (!r10.1)
   (some (Sum.inr (false,r10.2.1,r10.2.2.1,r10.2.2.2)))
   ((rf.1 (r10.2.1,r10.2.2.1,r10.2.2.2)).bind fun r11 =>
    cond (!r11.1)
    (some (Sum.inr (false,r11.2.2.1,r11.2.2.2.1,r11.2.2.2.2)))
    (cond (qi (List.length x.2.2.2.2.2.2+List.length r11.2.1) 8)
     (rec (x.1,x.2.1,(IntKind.wrap .i64 (x.2.2.1+1)),r11.2.2.1,r11.2.2.2.1,r11.2.2.2.2,(x.2.2.2.2.2.2++r11.2.1)))
     (none)))))
 (some (Sum.inl (x.2.2.2.1,x.2.2.2.2.1,x.2.2.2.2.2.1,x.2.2.2.2.2.2)))
def zfl (rf:(((jS×(List (Int×Str))×Bool)→Option (Bool×jI×jS×(List (Int×Str))×Bool))×((Int×jS×(List (Int×Str))×Bool)→Option (Bool×jI×jS×(List (Int×Str))×Bool)))) (a0:Int) (a1:jS) (a2:(List (Int×Str))) (a3:Bool):Option (Bool×jI×jS×(List (Int×Str))×Bool) :=
 (gx a1 a0).bind fun e17 =>
 ((lp (zeZ rf) zi) (a0,e17.2.2.1,0,a1,a2,a3,([a0]:List Int))).bind fun r18 =>
 yg r18
 (fun z19=>(gx z19.1 a0).bind fun e20 =>
  cond (e20.2.2.1==0)
  (some (true,z19.2.2.2,z19.1,z19.2.1,z19.2.2.1))
  ((zK ([41]:Str) z19.1 z19.2.1 z19.2.2.1).bind fun r21 =>
   some (r21.1,z19.2.2.2,r21.2.1,r21.2.2.1,r21.2.2.2)))
 (fun z22=>some (z22.1,([]:jI),z22.2.1,z22.2.2.1,z22.2.2.2))
def zdQ (rf:(((jS×(List (Int×Str))×Bool)→Option (Bool×jI×jS×(List (Int×Str))×Bool))×((Int×jS×(List (Int×Str))×Bool)→Option (Bool×jI×jS×(List (Int×Str))×Bool)))):(((jS×(List (Int×Str))×Bool)→Option (Bool×jI×jS×(List (Int×Str))×Bool))×((Int×jS×(List (Int×Str))×Bool)→Option (Bool×jI×jS×(List (Int×Str))×Bool))) :=
 (fun (x:(jS×(List (Int×Str))×Bool))=>zgk rf x.1 x.2.1 x.2.2,fun (x:(Int×jS×(List (Int×Str))×Bool))=>zfl rf x.1 x.2.1 x.2.2.1 x.2.2.2)
def zdW:(((jS×(List (Int×Str))×Bool)→Option (Bool×jI×jS×(List (Int×Str))×Bool))×((Int×jS×(List (Int×Str))×Bool)→Option (Bool×jI×jS×(List (Int×Str))×Bool))):=(fun _=>none,fun _=>none)
def zcJ (k:Nat):(((jS×(List (Int×Str))×Bool)→Option (Bool×jI×jS×(List (Int×Str))×Bool))×((Int×jS×(List (Int×Str))×Bool)→Option (Bool×jI×jS×(List (Int×Str))×Bool))):=lpR zdW zdQ k
def za0 (a0:jS) (a1:(List (Int×Str))) (a2:Bool):Option (Bool×jI×jS×(List (Int×Str))×Bool):=(zcJ zi).1 (a0,a1,a2)
def zgJ (a0:Int) (a1:jS) (a2:(List (Int×Str))) (a3:Bool):Option (Bool×jI×jS×(List (Int×Str))×Bool):=(zcJ zi).2 (a0,a1,a2,a3)
def zpr (a0:Int):Option jI :=
 cond (decide (a0<0))
 (none)
 (cond (decide ((IntKind.wrap .i64 (a0 - 0))>0))
  (cond (eqI 0 0&&eqI 0 0)
   (cond (zCK (IntKind.wrap .i64 (a0 - 0)))
    (cond (qi (Int.toNat (IntKind.wrap .i64 (a0 - 0))) 8)
     ((zcv (List.replicate (Int.toNat (IntKind.wrap .i64 (a0 - 0))) (0:Int)) none (some 0)).bind fun y2 =>
      some y2)
     (none))
    (none))
   (none))
  (some ([]:jI)))
def zkJ (rec:(jR×Int×Int×jI)→Option jI) (x:(jR×Int×Int×jI)):Option jI :=
 cond (decide (x.2.2.1<x.2.1))
 ((gx x.1 x.2.2.1).bind fun e7 =>
  cond (qi (List.length x.2.2.2+List.length e7) 8)
  (rec (x.1,x.2.1,(IntKind.wrap .i64 (x.2.2.1+1)),(x.2.2.2++e7)))
  (none))
 (some x.2.2.2)
def zkS (rec:(jR×Int×jR×Int×Int)→Option Int) (x:(jR×Int×jR×Int×Int)):Option Int :=
 cond (decide (x.2.2.2.2<x.2.2.2.1))
 ((gx x.2.2.1 x.2.2.2.2).bind fun e2 =>
  cond (decide ((IntKind.wrap .i64 (x.2.1+((List.length e2:Nat):Int)))<0))
  (none)
  (rec (x.1,(IntKind.wrap .i64 (x.2.1+((List.length e2:Nat):Int))),x.2.2.1,x.2.2.2.1,(IntKind.wrap .i64 (x.2.2.2.2+1)))))
 (some x.2.1)
def zii (a0:jR):Option jI :=
 ((lp zkS zi) (a0,0,a0,((List.length a0:Nat):Int),0)).bind fun r9 =>
 (zpr r9).bind fun r10 =>
 ((lp zkJ zi) (a0,((List.length a0:Nat):Int),0,r10)).bind fun r11 =>
 some r11
def zhT (a0:jS) (a1:(List (Int×Str))) (a2:Bool):Option (Bool×jI×jS×(List (Int×Str))×Bool) :=
 (zde a0 a1 a2).bind fun r12 =>
 cond r12.2.1
 ((gx r12.2.2.1 r12.1).bind fun e13 =>
  cond (e13.2.1==0)
  ((zgJ r12.1 r12.2.2.1 r12.2.2.2.1 r12.2.2.2.2).bind fun r14 =>
   cond r14.2.2.2.2
   (some (r14.1,r14.2.1,r14.2.2.1,r14.2.2.2.1,true))
   (some (r14.1,r14.2.1,r14.2.2.1,r14.2.2.2.1,(decide (((List.length r14.2.1:Nat):Int)>49)))))
  ((za0 r12.2.2.1 a1 r12.2.2.2.2).bind fun r15 =>
   cond (!r15.1)
   (some (false,([]:jI),r15.2.2.1,r15.2.2.2.1,r15.2.2.2.2))
   ((zK ([61]:Str) r15.2.2.1 r15.2.2.2.1 r15.2.2.2.2).bind fun r16 =>
    cond (!r16.1)
    (some (false,([]:jI),r16.2.1,r16.2.2.1,r16.2.2.2))
    ((za0 r16.2.1 r16.2.2.1 r16.2.2.2).bind fun r17 =>
     (zii ([([0]:List Int),r15.2.1,r17.2.1]:List jI)).bind fun r18 =>
     cond r17.2.2.2.2
     (some (r17.1,r18,r17.2.2.1,r17.2.2.2.1,true))
     (some (r17.1,r18,r17.2.2.1,r17.2.2.2.1,(decide (((List.length r18:Nat):Int)>49))))))))
 ((za0 r12.2.2.1 a1 r12.2.2.2.2).bind fun r19 =>
  cond (!r19.1)
  (some (false,([]:jI),r19.2.2.1,r19.2.2.2.1,r19.2.2.2.2))
  ((zK ([61]:Str) r19.2.2.1 r19.2.2.2.1 r19.2.2.2.2).bind fun r20 =>
   cond (!r20.1)
   (some (false,([]:jI),r20.2.1,r20.2.2.1,r20.2.2.2))
   ((za0 r20.2.1 r20.2.2.1 r20.2.2.2).bind fun r21 =>
    (zii ([([0]:List Int),r19.2.1,r21.2.1]:List jI)).bind fun r22 =>
    cond r21.2.2.2.2
    (some (r21.1,r22,r21.2.2.1,r21.2.2.2.1,true))
    (some (r21.1,r22,r21.2.2.1,r21.2.2.2.1,(decide (((List.length r22:Nat):Int)>49)))))))
def zfi (rec:((List Str)×Int×Int×jS×(List (Int×Str))×Bool)→Option ((jS×(List (Int×Str))×Bool)⊕(Int×Bool×jS×(List (Int×Str))×Bool))) (x:((List Str)×Int×Int×jS×(List (Int×Str))×Bool)):Option ((jS×(List (Int×Str))×Bool)⊕(Int×Bool×jS×(List (Int×Str))×Bool)) :=
 cond (decide (x.2.2.1<x.2.1))
 ((gx x.1 x.2.2.1).bind fun e5 =>
  (zK e5 x.2.2.2.1 x.2.2.2.2.1 x.2.2.2.2.2).bind fun r6 =>
  cond r6.1
  (some (Sum.inr ((IntKind.wrap .i64 (2+x.2.2.1)),true,r6.2.1,r6.2.2.1,r6.2.2.2)))
  (rec (x.1,x.2.1,(IntKind.wrap .i64 (x.2.2.1+1)),r6.2.1,r6.2.2.1,r6.2.2.2)))
 (some (Sum.inl (x.2.2.2.1,x.2.2.2.2.1,x.2.2.2.2.2)))
def zhx (a0:jS) (a1:(List (Int×Str))) (a2:Bool):Option (Int×Bool×jS×(List (Int×Str))×Bool) :=
 ((lp zfi zi) (([([38]:Str),([124]:Str),([45,62]:Str)]:List Str),((List.length ([([38]:Str),([124]:Str),([45,62]:Str)]:List Str):Nat):Int),0,a0,a1,a2)).bind fun r10 =>
 yg r10
 (fun z11=>some (0,false,z11.1,z11.2.1,z11.2.2))
 (fun z12=>some (z12.1,z12.2.1,z12.2.2.1,z12.2.2.2.1,z12.2.2.2.2))
def zcp (rec:((jS×(List (Int×Str))×Bool×(List (Int×Int×jI))×(List (Int×Bool)))⊕(jS×(List (Int×Str))×Bool×(List (Int×Int×jI))×(List (Int×Bool))))→Option (Bool×jS×(List (Int×Str))×Bool×(List (Int×Int×jI)))) (y:((jS×(List (Int×Str))×Bool×(List (Int×Int×jI))×(List (Int×Bool)))⊕(jS×(List (Int×Str))×Bool×(List (Int×Int×jI))×(List (Int×Bool))))):Option (Bool×jS×(List (Int×Str))×Bool×(List (Int×Int×jI))) :=
 yg y
 (fun x=>(zK ([126]:Str) x.1 x.2.1 x.2.2.1).bind fun r26 =>
  cond r26.1
  (cond (qi (List.length x.2.2.2.1+List.length ([(1,0,([]:jI))]:List (Int×Int×jI))) 40)
   (rec (Sum.inl (r26.2.1,r26.2.2.1,r26.2.2.2,(x.2.2.2.1++([(1,0,([]:jI))]:List (Int×Int×jI))),x.2.2.2.2)))
   (none))
  ((zga r26.2.1 r26.2.2.1 r26.2.2.2).bind fun r27 =>
   cond r27.2.2.1
   (cond (qi (List.length x.2.2.2.1+List.length ([(r27.1,r27.2.1,([]:jI))]:List (Int×Int×jI))) 40)
    (rec (Sum.inl (r27.2.2.2.1,r27.2.2.2.2.1,r27.2.2.2.2.2,(x.2.2.2.1++([(r27.1,r27.2.1,([]:jI))]:List (Int×Int×jI))),x.2.2.2.2)))
    (none))
   ((zK ([40]:Str) r27.2.2.2.1 r27.2.2.2.2.1 r27.2.2.2.2.2).bind fun r28 =>
    cond r28.1
    (cond (qi (List.length x.2.2.2.2+List.length ([(((List.length x.2.2.2.1:Nat):Int),false)]:List (Int×Bool))) 16)
     (cond (qi (List.length x.2.2.2.1+List.length ([(0,0,([]:jI))]:List (Int×Int×jI))) 40)
      (rec (Sum.inl (r28.2.1,r28.2.2.1,r28.2.2.2,(x.2.2.2.1++([(0,0,([]:jI))]:List (Int×Int×jI))),(x.2.2.2.2++([(((List.length x.2.2.2.1:Nat):Int),false)]:List (Int×Bool))))))
      (none))
     (none))
    ((zhT r28.2.1 r28.2.2.1 r28.2.2.2).bind fun r29 =>
     cond r29.1
     (cond (qi (List.length x.2.2.2.1+List.length ([(0,0,r29.2.1)]:List (Int×Int×jI))) 40)
      (rec (Sum.inr (r29.2.2.1,r29.2.2.2.1,r29.2.2.2.2,(x.2.2.2.1++([(0,0,r29.2.1)]:List (Int×Int×jI))),x.2.2.2.2)))
      (none))
     (some (false,r29.2.2.1,r29.2.2.2.1,r29.2.2.2.2,([]:(List (Int×Int×jI)))))))))
 (fun x=>cond (((List.length x.2.2.2.2:Nat):Int)==0)
  (some (true,x.1,x.2.1,x.2.2.1,x.2.2.2.1))
  ((inR (IntKind.wrap .i64 (((List.length x.2.2.2.2:Nat):Int) - 1)) (List.length x.2.2.2.2)).bind fun k30 =>
   (zhx x.1 x.2.1 x.2.2.1).bind fun r31 =>
   cond r31.2.1
   ((x.2.2.2.2[k30]?).bind fun x32 =>
    cond (!x32.2)
    ((x.2.2.2.2[k30]?).bind fun x33 =>
     (inR x33.1 (List.length x.2.2.2.1)).bind fun k34 =>
     (x.2.2.2.1[k34]?).bind fun x35 =>
     (x.2.2.2.2[k30]?).bind fun x36 =>
     rec (Sum.inl (r31.2.2.1,r31.2.2.2.1,r31.2.2.2.2,(List.set x.2.2.2.1 k34 (r31.1,x35.2)),(List.set x.2.2.2.2 k30 (x36.1,true)))))
    (cond r31.2.1
     (some (false,r31.2.2.1,r31.2.2.2.1,r31.2.2.2.2,([]:(List (Int×Int×jI)))))
     ((x.2.2.2.2[k30]?).bind fun x37 =>
      cond (!x37.2)
      (some (false,r31.2.2.1,r31.2.2.2.1,r31.2.2.2.2,([]:(List (Int×Int×jI)))))
      ((zK ([41]:Str) r31.2.2.1 r31.2.2.2.1 r31.2.2.2.2).bind fun r38 =>
       cond (!r38.1)
       (some (false,r38.2.1,r38.2.2.1,r38.2.2.2,([]:(List (Int×Int×jI)))))
       ((zcv x.2.2.2.2 none (some (IntKind.wrap .i64 (((List.length x.2.2.2.2:Nat):Int) - 1)))).bind fun y39 =>
        rec (Sum.inr (r38.2.1,r38.2.2.1,r38.2.2.2,x.2.2.2.1,y39)))))))
   (cond r31.2.1
    (some (false,r31.2.2.1,r31.2.2.2.1,r31.2.2.2.2,([]:(List (Int×Int×jI)))))
    ((x.2.2.2.2[k30]?).bind fun x40 =>
     cond (!x40.2)
     (some (false,r31.2.2.1,r31.2.2.2.1,r31.2.2.2.2,([]:(List (Int×Int×jI)))))
     ((zK ([41]:Str) r31.2.2.1 r31.2.2.2.1 r31.2.2.2.2).bind fun r41 =>
      cond (!r41.1)
      (some (false,r41.2.1,r41.2.2.1,r41.2.2.2,([]:(List (Int×Int×jI)))))
      ((zcv x.2.2.2.2 none (some (IntKind.wrap .i64 (((List.length x.2.2.2.2:Nat):Int) - 1)))).bind fun y42 =>
       rec (Sum.inr (r41.2.1,r41.2.2.1,r41.2.2.2,x.2.2.2.1,y42))))))))
end Go.Abs.Q
namespace Go.Abs.Q
open Go Go.Abs
end Go.Abs.Q
namespace Go.Abs.Q
open Go Go.Abs
section
end
end Go.Abs.Q
namespace Go.Abs.Q
open Go Go.Abs
end Go.Abs.Q
namespace Go.Abs.Q
open Go Go.Abs
end Go.Abs.Q
namespace Go.Abs.Q
open Go Go.Abs
section
abbrev zEo:=Int×Int×List Int
inductive Fm where
 | atom (a:List Int)
 | not (f:Fm)
 | qu (k v:Int) (f:Fm)
 | bin (k:Int) (f g:Fm)
def Fm.flat:Fm→List zEo
 | .atom a=>[(0,0,a)]
 | .not f=>(1,0,[])::f.flat
 | .qu k v f=>(k,v,[])::f.flat
 | .bin k f g=>(k,0,[])::(f.flat++g.flat)
def Fm.ok (a0:List zq):Fm→Bool
 | .atom a=>zaS a0 a
 | .not f=>f.ok a0
 | .qu k v f=>(k==5||k==6)&&decide (0≤v)&&decide (v≤23)&&f.ok a0
 | .bin k f g=>(k==2||k==3||k==4)&&f.ok a0&&g.ok a0
def zJN (k:Int):Str:=cond (k==5) [97,108,108] [101,120]
end
end Go.Abs.Q
namespace Go.Abs.Q
open Go Go.Abs
section
end
end Go.Abs.Q
namespace Go.Abs.Q
open Go Go.Abs
section
end
end Go.Abs.Q
namespace Go.Abs.Q
open Go Go.Abs
section
end
end Go.Abs.Q
namespace Go.Abs.Q
open Go Go.Abs
section
abbrev ze2:=Int×Str
def zK8 (c:UInt8):Bool:=zkx ((UInt8.toNat c:Nat):Int)
def zKq (c:UInt8):Bool:=decide (((UInt8.toNat c:Nat):Int)≥48)&&decide (((UInt8.toNat c:Nat):Int)≤57)
def ztZ (b:Bool) (c:UInt8):Bool:=zKq c||(b&&zK8 c)
def zK6 (d:Str) (most:Nat):Bool:=match d with
 | []=>false
 | c::r=>decide ((c::r).length≤most)&&(c != 48||(c::r).length==1)
def zK0 (d:Str):Nat:=d.foldl (fun n c=>10*n+(c.toNat - 48)) 0
def zKO (c:UInt8):Bool:=decide (c∈([40,41,44,61,126,38,124,58]:Str))
def zJE (s:Str):Option (ze2×Str):=match s with
 | []=>none
 | c::r =>
  cond (zK8 c) (cond (decide (((c::r).takeWhile (ztZ true)).length≤8)) (some ((0,(c::r).takeWhile (ztZ true)),(c::r).drop ((c::r).takeWhile (ztZ true)).length)) none)
  (cond (c==88) (cond (zK6 (r.takeWhile (ztZ false)) 2&&decide (zK0 (r.takeWhile (ztZ false))≤23)) (some ((1,c::r.takeWhile (ztZ false)),r.drop (r.takeWhile (ztZ false)).length)) none)
  (cond (zKq c) (cond (zK6 ((c::r).takeWhile (ztZ false)) 4) (some ((2,(c::r).takeWhile (ztZ false)),(c::r).drop ((c::r).takeWhile (ztZ false)).length)) none)
  (cond ((c::r).take 2==[45,62]) (some ((3,[45,62]),r.drop 1))
  (cond (zKO c) (some ((3,[c]),r)) none))))
def zK2:Nat→Str→Option (List ze2)
 | 0,_=>some []
 | n+1,s=>match s.dropWhile (· == 32) with
  | []=>some []
  | c::r=>match zJE (c::r) with
   | none=>none
   | some (w,rest)=>(zK2 n rest).map (w :: ·)
def zJf (s:Str):Option (List ze2):=zK2 s.length s
end
end Go.Abs.Q
namespace Go.Abs.Q
open Go Go.Abs
section
end
end Go.Abs.Q
namespace Go.Abs.Q
open Go Go.Abs
section
end
end Go.Abs.Q
namespace Go.Abs.Q
open Go Go.Abs
section
def Stop (c:Str):Prop:=c.takeWhile (ztZ true)=[]
theorem zyy {x:UInt8} {c:Str} (h:ztZ true x=false):Stop (x::c):=by unfold Stop; rw[List.takeWhile_cons,h]; rfl
def Lx (t:Str) (ws:List ze2):Prop:=∀ c,Stop c→zJf (t++c)=(zJf c).map (ws ++ ·)
theorem ztq {ws vs:List ze2} (o:Option (List ze2)):(o.map (vs ++ ·)).map (ws ++ ·)=o.map ((ws++vs) ++ ·):=by
 cases o with
 | none=>rfl
 | some x=>simp
def LxM (t:Str) (ws:List ze2):Prop:=∀ c,zJf (t++c)=(zJf c).map (ws ++ ·)
theorem LxM.then {s t:Str} {ws vs:List ze2} (hs:LxM s ws) (ht:Lx t vs):Lx (s++t) (ws++vs):=by
 intro c hc
 rw[List.append_assoc,hs,ht c hc,ztq]
theorem Lx.then {s t:Str} {ws vs:List ze2} {x:UInt8} (hs:Lx s ws) (ht:LxM (x::t) vs) (hx:ztZ true x=false):LxM (s++x::t) (ws++vs):=by
 intro c
 rw[List.append_assoc,hs (x::t++c) (zyy hx),ht,ztq]
def zGX (a0:List zq) (f:List Int→List ze2):List Int→List ze2
 | []=>[]
 | x::r=>cond (decide (x<0)) [(1,88::zKY (-1 - x).toNat)] (cond r.isEmpty [(0,zs7 a0 x)] ((([(0,zs7 a0 x)]++[(3,[40])])++f r)++[(3,[41])]))
def zFY:List (List ze2)→List ze2
 | []=>[]
 | w::ws=>[(3,[44])]++(w++zFY ws)
def zJh:List (List ze2)→List ze2
 | []=>[]
 | w::ws=>w++zFY ws
def zBB (a0:List zq):Nat→List Int→List ze2
 | 0,_=>[]
 | n+1,xs=>zJh (((zlD a0 xs).getD []).map (zGX a0 (zBB a0 n)))
def zsy (a0:List zq) (xs:List Int):List ze2:=zBB a0 (xs.length+1) xs
def zJB (a0:List zq):List Int→List ze2
 | []=>[]
 | x::r=>cond (x==0) (match (zlD a0 r).getD [] with
  | [p,q]=>(zsy a0 p++[(3,[61])])++zsy a0 q
  | _=>[]) (cond r.isEmpty [(0,zs7 a0 x)] ((([(0,zs7 a0 x)]++[(3,[40])])++zsy a0 r)++[(3,[41])]))
def zKr (k:Int):Str:=cond (k==2) [38] (cond (k==3) [124] [45,62])
def Fm.words (a0:List zq):Fm→List ze2
 | .atom a=>zJB a0 a
 | .not f=>[(3,[126])]++f.words a0
 | .qu k v f=>([(0,zJN k)]++[(1,88::zKY v.toNat)])++f.words a0
 | .bin k f g=>((([(3,[40])]++f.words a0)++[(3,zKr k)])++g.words a0)++[(3,[41])]
end
end Go.Abs.Q
namespace Go.Abs.Q
open Go Go.Abs
section
abbrev QWs:=List ze2
def WOk (ws:QWs):Prop:=∀ w∈ws,w.1=1→∃ d,w.2=88::d∧(∀ c∈d,zKq c=true)∧d.length≤2∧zK0 d≤23
theorem WOk.tail {w:ze2} {ws:QWs} (h:WOk (w::ws)):WOk ws:=fun x hx=>h x (List.mem_cons_of_mem _ hx)
def Suf (ws' ws:QWs):Prop:=∃ pre,ws=pre++ws'
theorem Suf.refl (ws:QWs):Suf ws ws:=⟨[],rfl⟩
theorem Suf.trans {a b c:QWs} (h:Suf a b) (h':Suf b c):Suf a c:=by
 obtain⟨p,rfl⟩:=h
 obtain⟨q,rfl⟩:=h'
 exact ⟨q++p,by simp⟩
theorem Suf.cons {w:ze2} {a b:QWs} (h:Suf a b):Suf a (w::b):=by
 obtain⟨p,rfl⟩:=h
 exact ⟨w::p,rfl⟩
theorem Suf.len {a b:QWs} (h:Suf a b):a.length≤b.length:=by
 obtain⟨p,rfl⟩:=h
 simp
end
end Go.Abs.Q
namespace Go.Abs.Q
open Go Go.Abs
section
abbrev RdR:=Bool×List Int×List zq×QWs×Bool
def TR (a0:List zq) (l:Bool) (o:Option (List Int×QWs)) (r:RdR):Prop:=match o with
 | some p=>r=(true,p.1,a0,p.2,l)
 | none=>r.1=false∧r.2.2.1=a0∧r.2.2.2.2=l∧r.2.1.length≤1000000
theorem TR.some {a0:List zq} {l:Bool} {t:List Int} {ws:QWs}:TR a0 l (Option.some (t,ws)) (true,t,a0,ws,l):=rfl
end
end Go.Abs.Q
namespace Go.Abs.Q
open Go Go.Abs
section
end
end Go.Abs.Q
namespace Go.Abs.Q
open Go Go.Abs
section
end
end Go.Abs.Q
namespace Go.Abs.Q
open Go Go.Abs
section
abbrev FmS:=(List zq×QWs×Bool×List zEo×List (Int×Bool))⊕(List zq×QWs×Bool×List zEo×List (Int×Bool))
def Goes (c:Nat) (s s':FmS):Prop:=∀ k,lp zcp (k+c) s=lp zcp k s'
theorem Goes.trans {c d:Nat} {s s' s'':FmS} (h:Goes c s s') (h':Goes d s' s''):Goes (d+c) s s'':=fun k=>by
 rw[← Nat.add_assoc,h (k+d),h' k]
end
end Go.Abs.Q
namespace Go.Abs.Q
open Go Go.Abs
section
end
end Go.Abs.Q
namespace Go.Abs.Q
open Go Go.Abs
section
end
end Go.Abs.Q
namespace Go.Abs.Q
open Go Go.Abs
section
end
end Go.Abs.Q
namespace Go.Abs.Q
open Go Go.Abs
section
end
end Go.Abs.Q
namespace Go.Abs.Q
open Go Go.Abs
section
theorem zB0 {a0:List zq}:{xs:List Int}→{n m:Nat}→{ys:List Int}→sk a0 n xs=some xs.length→sk a0 m ys=some ys.length→sk a0 (n+m) (xs++ys)=some (xs++ys).length
 | [],0,m,ys,_,h=>by rw[Nat.zero_add]; exact h
 | [],n+1,m,ys,h,_=>by simp [sk] at h
 | x::xs,0,m,ys,h,_=>by simp [sk] at h
 | x::xs,n+1,m,ys,h,h'=>by
  unfold sk at h
  cases ha:zcM a0 x with
  | none=>rw[ha] at h; cases h
  | some k =>
   rw[ha] at h
   simp only[Option.map_eq_some_iff,List.length_cons] at h
   obtain⟨j,hj,hjl⟩:=h
   have hj2:j=xs.length:=by omega
   subst hj2
   have ih:=zB0 hj h'
   rw[show n+1+m=(n+m)+1 from by omega,List.cons_append]
   unfold sk
   rw[ha]
   simp only
   rw[show n+m+k=n+k+m from by omega,ih]
   rfl
end
end Go.Abs.Q
namespace Go.Abs.Q
open Go Go.Abs
section
theorem zzq {a0:List zq} {x:Int} {q:Nat} (h:zcM a0 x=some q):x<0∨x<a0.length:=by
 by_cases hx:x<0
 ·exact .inl hx
 ·obtain⟨e,-,he,-⟩:=zqV h hx
  have:=(List.getElem?_eq_some_iff.1 he).1
  exact .inr (by omega)
theorem zmZ {a0:List zq}:{xs:List Int}→{n k:Nat}→sk a0 n xs=some k→∀ c∈xs.take k,c<0∨c<a0.length
 | [],n,k,h,c,hc=>by simp at hc
 | x::xs,0,k,h,c,hc=>by
  simp [sk] at h; subst h; simp at hc
 | x::xs,n+1,k,h,c,hc=>by
  unfold sk at h
  cases ha:zcM a0 x with
  | none=>rw[ha] at h; cases h
  | some m =>
   rw[ha] at h
   simp only[Option.map_eq_some_iff] at h
   obtain⟨j,hj,rfl⟩:=h
   rw[List.take_succ_cons] at hc
   rcases List.mem_cons.1 hc with rfl | hc
   ·exact zzq ha
   ·exact zmZ hj c hc
theorem zrs {a0:List zq} (hs:SignOk a0) {xs:List Int} {ps:List jI} (h:zlD a0 xs=some ps):∀ c∈xs,-24≤c∧c<20:=by
 obtain⟨h1,h2⟩:=zh0 xs.length xs ps (Nat.le_refl _) h
 have hl:=hs.len
 intro c hc
 refine ⟨zk6 h c hc,?_⟩
 rw[← h1] at hc
 obtain⟨p,hp,hcp⟩:=List.mem_flatten.1 hc
 have:=zmZ (h2 p hp).2 c
 rw[List.take_length] at this
 rcases this hcp with h | h<;>omega
theorem zub {a0:List zq} (hs:SignOk a0) {xs:List Int} (h:zaS a0 xs=true):zgQ xs:=by
 obtain⟨x,r,e,ps,rfl,h0,he,-,-,-,hl,hc,-⟩:=ziF h
 have:=(List.getElem?_eq_some_iff.1 he).1
 have hl2:=hs.len
 refine ⟨by simp; omega,fun c hcm => ?_⟩
 rcases List.mem_cons.1 hcm with rfl | hcm
 ·omega
 ·have:=zrs hs hc c hcm; omega
theorem zoG {a0:List zq} (hs:SignOk a0) {ls:List zl} (h:zdV a0 ls=true):∀ l∈ls,zgQ l.2:=fun l hl=>zub hs (List.all_eq_true.1 h l hl)
theorem zve {a0:List zq} (hs:SignOk a0) {rs:List jI} (h:zfP a0 rs=true):∀ r∈rs,zgQ r:=fun r hr=>by
 obtain⟨n,hn⟩:=zhO h
 obtain⟨ps,hc,-,hl,-⟩:=zkU (hn r hr)
 exact ⟨by omega,fun c hcm=>by have:=zrs hs hc c hcm; omega⟩
end
end Go.Abs.Q
namespace Go.Abs.Q
open Go Go.Abs
end Go.Abs.Q
namespace Go.Abs.Q
open Go Go.Abs
end Go.Abs.Q
namespace Go.Abs.Q
open Go Go.Abs
section
inductive Tm where
 | v (n:Nat)
 | f (c:Nat) (as:List Tm)
mutual
def Tm.codes:Tm→List Int
 | .v n=>[-1 - (n:Int)]
 | .f c as=>(c:Int)::zh as
def zh:List Tm→List Int
 | []=>[]
 | t::ts=>t.codes++zh ts
end
mutual
def Tm.size:Tm→Nat
 | .v _=>1
 | .f _ as=>zaO as+1
def zaO:List Tm→Nat
 | []=>0
 | t::ts=>t.size+zaO ts
end
abbrev Sb:=Nat→Tm
mutual
def Tm.sub (s:Sb):Tm→Tm
 | .v n=>s n
 | .f c as=>.f c (zbR s as)
def zbR (s:Sb):List Tm→List Tm
 | []=>[]
 | t::ts=>t.sub s::zbR s ts
end
mutual
def Tm.has (x:Nat):Tm→Prop
 | .v n=>n=x
 | .f _ as=>zk2 x as
def zk2 (x:Nat):List Tm→Prop
 | []=>False
 | t::ts=>t.has x∨zk2 x ts
end
mutual
def Tm.ok (a0:List zq) (N:Nat):Tm→Prop
 | .v n=>n<N
 | .f c as=>zcM a0 (c:Int)=some as.length∧okR a0 N as
def okR (a0:List zq) (N:Nat):List Tm→Prop
 | []=>True
 | t::ts=>t.ok a0 N∧okR a0 N ts
end
theorem zgV (s:Sb):(ts:List Tm)→(zbR s ts).length=ts.length
 | []=>rfl
 | t::ts=>by simp [zbR,zgV s ts]
theorem zdE {a0:List zq} {N:Nat}:{ts:List Tm}→(okR a0 N ts↔∀ t∈ts,t.ok a0 N)
 | []=>by simp [okR]
 | t::ts=>by simp [okR,zdE (ts:=ts)]
theorem znT (s:Sb):(ts:List Tm)→zbR s ts=ts.map (Tm.sub s)
 | []=>rfl
 | t::ts=>by simp [zbR,znT s ts]
theorem zkZ:(ts:List Tm)→zh ts=ts.flatMap Tm.codes
 | []=>rfl
 | t::ts=>by simp [zh,zkZ ts]
theorem zpg:(ts:List Tm)→zaO ts=(ts.map Tm.size).sum
 | []=>rfl
 | t::ts=>by simp [zaO,zpg ts]
theorem zll (ts us:List Tm):zh (ts++us)=zh ts++zh us:=by simp [zkZ]
theorem zqR (ts us:List Tm):zaO (ts++us)=zaO ts+zaO us:=by simp [zpg]
mutual
theorem Tm.codes_len:(t:Tm)→t.codes.length=t.size
 | .v _=>rfl
 | .f c as=>by simp [Tm.codes,Tm.size,zcW as]
theorem zcW:(ts:List Tm)→(zh ts).length=zaO ts
 | []=>rfl
 | t::ts=>by simp [zh,zaO,Tm.codes_len t,zcW ts]
end
theorem Tm.size_pos (t:Tm):0<t.size:=by cases t<;>simp [Tm.size]
mutual
theorem Tm.sub_ext {s u:Sb}:(t:Tm)→(∀ x,t.has x→s x=u x)→t.sub s=t.sub u
 | .v n,h=>h n rfl
 | .f c as,h=>by rw[Tm.sub,Tm.sub,ztj as h]
theorem ztj {s u:Sb}:(ts:List Tm)→(∀ x,zk2 x ts→s x=u x)→zbR s ts=zbR u ts
 | [],_=>rfl
 | t::ts,h=>by rw[zbR,zbR,Tm.sub_ext t fun x hx=>h x (.inl hx),ztj ts fun x hx=>h x (.inr hx)]
end
mutual
theorem Tm.sub_sub (s u:Sb):(t:Tm)→(t.sub s).sub u=t.sub fun x=>(s x).sub u
 | .v n=>rfl
 | .f c as=>by rw[Tm.sub,Tm.sub,Tm.sub,zrk s u as]
theorem zrk (s u:Sb):(ts:List Tm)→zbR u (zbR s ts)=zbR (fun x=>(s x).sub u) ts
 | []=>rfl
 | t::ts=>by rw[zbR,zbR,zbR,Tm.sub_sub s u t,zrk s u ts]
end
mutual
theorem Tm.sub_v:(t:Tm)→t.sub .v=t
 | .v n=>rfl
 | .f c as=>by rw[Tm.sub,zCD as]
theorem zCD:(ts:List Tm)→zbR .v ts=ts
 | []=>rfl
 | t::ts=>by rw[zbR,Tm.sub_v t,zCD ts]
end
mutual
theorem Tm.has_sub {s:Sb} {y:Nat}:(t:Tm)→((t.sub s).has y↔∃ x,t.has x∧(s x).has y)
 | .v n=>⟨fun h=>⟨n,rfl,h⟩,fun ⟨x,hx,h⟩=>by cases hx; exact h⟩
 | .f c as=>by show zk2 y (zbR s as)↔_; rw[ze4 as]; rfl
theorem ze4 {s:Sb} {y:Nat}:(ts:List Tm)→(zk2 y (zbR s ts)↔∃ x,zk2 x ts∧(s x).has y)
 | []=>⟨fun h=>h.elim,fun ⟨_,h,_⟩=>h.elim⟩
 | t::ts=>by
  show (t.sub s).has y∨zk2 y (zbR s ts)↔∃ x,(t.has x∨zk2 x ts)∧_
  rw[Tm.has_sub t,ze4 ts]
  constructor
  ·rintro (⟨x,h1,h2⟩ | ⟨x,h1,h2⟩)
   ·exact ⟨x,.inl h1,h2⟩
   ·exact ⟨x,.inr h1,h2⟩
  ·rintro⟨x,h1 | h1,h2⟩
   ·exact .inl ⟨x,h1,h2⟩
   ·exact .inr ⟨x,h1,h2⟩
end
mutual
theorem Tm.size_has {s:Sb} {x:Nat}:(t:Tm)→t.has x→(s x).size≤(t.sub s).size
 | .v n,h=>by cases h; exact Nat.le_refl _
 | .f c as,h=>by have:=zfJ (s:=s) as h; show _≤zaO (zbR s as)+1; omega
theorem zfJ {s:Sb} {x:Nat}:(ts:List Tm)→zk2 x ts→(s x).size≤zaO (zbR s ts)
 | [],h=>h.elim
 | t::ts,h=>by
  show _≤(t.sub s).size+zaO (zbR s ts)
  rcases h with h | h
  ·have:=Tm.size_has (s:=s) t h; omega
  ·have:=zfJ (s:=s) ts h; omega
end
mutual
theorem Tm.size_sub {s:Sb} {M:Nat}:(t:Tm)→(1≤M)→(∀ x,t.has x→(s x).size≤M)→(t.sub s).size≤t.size*M
 | .v n,_,h=>by have:=h n rfl; simpa[Tm.sub,Tm.size] using this
 | .f c as,hM,h=>by
  have:=zqX (s:=s) as hM h
  show zaO (zbR s as)+1≤(zaO as+1)*M
  rw[Nat.add_mul]; omega
theorem zqX {s:Sb} {M:Nat}:(ts:List Tm)→(1≤M)→(∀ x,zk2 x ts→(s x).size≤M)→zaO (zbR s ts)≤zaO ts*M
 | [],_,_=>by simp [zbR,zaO]
 | t::ts,hM,h=>by
  have h1:=Tm.size_sub (s:=s) t hM fun x hx=>h x (.inl hx)
  have h2:=zqX (s:=s) ts hM fun x hx=>h x (.inr hx)
  show (t.sub s).size+zaO (zbR s ts)≤(t.size+zaO ts)*M
  rw[Nat.add_mul]; omega
end
mutual
theorem Tm.ok_sub {a0:List zq} {N M:Nat} {s:Sb}:(t:Tm)→t.ok a0 N→(∀ x,t.has x→(s x).ok a0 M)→(t.sub s).ok a0 M
 | .v n,_,h=>h n rfl
 | .f c as,ho,h=>⟨by rw[zgV]; exact ho.1,zo6 as ho.2 h⟩
theorem zo6 {a0:List zq} {N M:Nat} {s:Sb}:(ts:List Tm)→okR a0 N ts→(∀ x,zk2 x ts→(s x).ok a0 M)→okR a0 M (zbR s ts)
 | [],_,_=>trivial
 | t::ts,ho,h=>⟨Tm.ok_sub t ho.1 fun x hx=>h x (.inl hx),zo6 ts ho.2 fun x hx=>h x (.inr hx)⟩
end
mutual
theorem Tm.ok_has {a0:List zq} {N x:Nat}:(t:Tm)→t.ok a0 N→t.has x→x<N
 | .v n,ho,h=>by cases h; exact ho
 | .f c as,ho,h=>zgU as ho.2 h
theorem zgU {a0:List zq} {N x:Nat}:(ts:List Tm)→okR a0 N ts→zk2 x ts→x<N
 | [],_,h=>h.elim
 | t::ts,ho,h=>h.elim (Tm.ok_has t ho.1) (zgU ts ho.2)
end
mutual
theorem Tm.ok_mono {a0:List zq} {N M:Nat} (hNM:N≤M):(t:Tm)→t.ok a0 N→t.ok a0 M
 | .v n,ho=>Nat.lt_of_lt_of_le ho hNM
 | .f c as,ho=>⟨ho.1,ztG hNM as ho.2⟩
theorem ztG {a0:List zq} {N M:Nat} (hNM:N≤M):(ts:List Tm)→okR a0 N ts→okR a0 M ts
 | [],_=>trivial
 | t::ts,ho=>⟨Tm.ok_mono hNM t ho.1,ztG hNM ts ho.2⟩
end
mutual
theorem Tm.mem_codes {c:Int} (hc:c<0):(t:Tm)→(c∈t.codes↔t.has (-1 - c).toNat)
 | .v n=>by
  show c∈[-1 - (n:Int)]↔n=_
  rw[List.mem_singleton]
  omega
 | .f d as=>by
  show c∈(d:Int)::zh as↔zk2 _ as
  rw[List.mem_cons,← zes hc as]
  have:c≠(d:Int):=by omega
  simp [this]
theorem zes {c:Int} (hc:c<0):(ts:List Tm)→(c∈zh ts↔zk2 (-1 - c).toNat ts)
 | []=>by simp [zh,zk2]
 | t::ts=>by
  show c∈t.codes++zh ts↔_∨_
  rw[List.mem_append,Tm.mem_codes hc t,zes hc ts]
end
theorem zux {a0:List zq} {x:Int} {q:Nat} (h:zcM a0 x=some q):(x<0 ∧ -24≤x∧q=0)∨∃ c:Nat,x=(c:Int):=by
 unfold zcM at h
 by_cases h0:x<0
 ·rw[decide_eq_true h0,cond_true] at h
  by_cases h1 : -24≤x
  ·rw[decide_eq_true h1] at h; injection h with h; exact .inl ⟨h0,h1,h.symm⟩
  ·rw[decide_eq_false h1] at h; cases h
 ·exact .inr ⟨x.toNat,by omega⟩
theorem zA2 {a0:List zq}:∀(n:Nat) (ps:List jI),(∀ p∈ps,p.length≤n)→(∀ p∈ps,sk a0 1 p=some p.length)→∃ ts:List Tm,okR a0 24 ts∧ps=ts.map Tm.codes:=by
 intro n
 induction n with
 | zero =>
  intro ps h hs
  cases ps with
  | nil=>exact ⟨[],trivial,rfl⟩
  | cons p ps =>
   have h1:=h p (List.mem_cons_self ..)
   have h2:=znc (hs p (List.mem_cons_self ..))
   omega
 | succ n ih =>
  intro ps
  induction ps with
  | nil=>intro _ _; exact ⟨[],trivial,rfl⟩
  | cons p ps ihp =>
   intro h hs
   obtain⟨ts,h1,h2⟩:=ihp (fun q hq=>h q (List.mem_cons_of_mem _ hq)) (fun q hq=>hs q (List.mem_cons_of_mem _ hq))
   obtain⟨x,r,q,rfl,ha,hr⟩:=zrO (hs p (List.mem_cons_self ..))
   have hl:=h _ (List.mem_cons_self ..)
   rw[List.length_cons] at hl
   rcases zux ha with ⟨h3,h4,rfl⟩ | ⟨c,rfl⟩
   ·have hr0:r=[]:=by
     have:sk a0 0 r=some 0:=by cases r<;>rfl
     rw[this] at hr
     exact List.length_eq_zero_iff.1 (by injection hr with hr; omega)
    subst hr0
    refine ⟨.v (-1 - x).toNat::ts,⟨by show (-1 - x).toNat<24; omega,h1⟩,?_⟩
    rw[List.map_cons,← h2]
    show [x]::ps=[-1 - (((-1 - x).toNat:Nat):Int)]::ps
    rw[show -1 - (((-1 - x).toNat:Nat):Int)=x from by omega]
   ·obtain⟨qs,hq,hql⟩:=zEh q r hr
    obtain⟨hf,hqs⟩:=zh0 r.length r qs (Nat.le_refl _) hq
    have hlen:∀ p∈qs,p.length≤n:=fun p hp=>by
     have h5:p.length≤qs.flatten.length:=by
      obtain⟨l1,l2,rfl⟩:=List.append_of_mem hp
      simp; omega
     rw[hf] at h5
     omega
    obtain⟨us,h5,h6⟩:=ih qs hlen fun p hp=>(hqs p hp).2
    refine ⟨.f c us::ts,⟨⟨by rw[ha,← hql,h6,List.length_map],h5⟩,h1⟩,?_⟩
    rw[List.map_cons,← h2]
    show ((c:Int)::r)::ps=((c:Int)::zh us)::ps
    rw[zkZ,List.flatMap,← h6,hf]
theorem zCE {a0:List zq} {xs:List Int} {ps:List jI} (h:zlD a0 xs=some ps):∃ ts:List Tm,okR a0 24 ts∧ps=ts.map Tm.codes∧xs=zh ts:=by
 obtain⟨h1,h2⟩:=zh0 xs.length xs ps (Nat.le_refl _) h
 obtain⟨ts,h3,h4⟩:=zA2 (a0:=a0) xs.length ps (fun p hp=>by
  have:p.length≤ps.flatten.length:=by
   obtain⟨l1,l2,rfl⟩:=List.append_of_mem hp
   simp; omega
  rwa [h1] at this) fun p hp=>(h2 p hp).2
 exact ⟨ts,h3,h4,by rw[zkZ,List.flatMap,← h4,h1]⟩
theorem zzi {a0:List zq} {n:Nat} (h:n<24):zcM a0 (-1 - (n:Int))=some 0:=by
 unfold zcM
 rw[decide_eq_true (show -1 - (n:Int)<0 by omega),cond_true,decide_eq_true (show -24 ≤ -1 - (n:Int) by omega)]
 rfl
mutual
theorem Tm.sk_codes {a0:List zq}:(t:Tm)→t.ok a0 24→sk a0 1 t.codes=some t.codes.length
 | .v n,h=>by
  show sk a0 1 [-1 - (n:Int)]=some 1
  unfold sk
  rw[zzi h]
  rfl
 | .f c as,h=>by
  have:=zqw as h.2
  show sk a0 1 ((c:Int)::zh as)=some (zh as).length.succ
  unfold sk
  rw[h.1]
  simp only[Nat.zero_add,this,Option.map_some]
theorem zqw {a0:List zq}:(ts:List Tm)→okR a0 24 ts→sk a0 ts.length (zh ts)=some (zh ts).length
 | [],_=>rfl
 | t::ts,h=>by
  show sk a0 (ts.length+1) (t.codes++zh ts)=_
  rw[Nat.add_comm]
  exact zB0 (Tm.sk_codes t h.1) (zqw ts h.2)
end
theorem zvD {a0:List zq}:{xs:List Int}→{n k:Nat}→(ys:List Int)→sk a0 n xs=some k→sk a0 n (xs++ys)=some k
 | [],0,k,ys,h=>by simp [sk] at h; subst h; cases ys<;>rfl
 | [],n+1,k,ys,h=>by simp [sk] at h
 | x::xs,0,k,ys,h=>by simp [sk] at h; subst h; rfl
 | x::xs,n+1,k,ys,h=>by
  unfold sk at h
  cases ha:zcM a0 x with
  | none=>rw[ha] at h; cases h
  | some m =>
   rw[ha] at h
   simp only[Option.map_eq_some_iff] at h
   obtain⟨j,hj,rfl⟩:=h
   rw[List.cons_append]
   unfold sk
   rw[ha]
   simp only[zvD ys hj,Option.map_some]
theorem yh {a0:List zq}:(ts:List Tm)→okR a0 24 ts→zlD a0 (zh ts)=some (ts.map Tm.codes)
 | [],_=>rfl
 | t::ts,h=>by
  have hp:=t.size_pos
  have hl:=t.codes_len
  have h1:=Tm.sk_codes t h.1
  show zlD a0 (t.codes++zh ts)=_
  have hne:t.codes++zh ts≠[]:=fun e=>by
   have:=congrArg List.length e
   rw[List.length_append,List.length_nil] at this
   omega
  rw[zdP hne,zvD _ h1]
  simp only[List.drop_left,List.take_left,yh ts h.2,Option.map_some,List.map_cons]
def Tm.up (d:Nat) (t:Tm):Tm:=t.sub fun n=>.v (n+d)
theorem Tm.up_zero (t:Tm):t.up 0=t:=t.sub_v
theorem Tm.up_size (d:Nat) (t:Tm):(t.up d).size=t.size:=by
 have h1:(t.up d).size≤t.size*1:=Tm.size_sub t (Nat.le_refl _) fun x _=>Nat.le_refl _
 have h2:((t.up d).sub fun n=>.v (n - d)).size≤(t.up d).size*1:=Tm.size_sub _ (Nat.le_refl _) fun x _=>Nat.le_refl _
 have h3:(t.up d).sub (fun n=>.v (n - d))=t:=by
  unfold Tm.up
  rw[Tm.sub_sub,show (fun x=>(Tm.v (x+d)).sub fun n=>.v (n - d))=Tm.v from by
   funext x
   show Tm.v (x+d - d)=_
   rw[Nat.add_sub_cancel],Tm.sub_v]
 rw[h3] at h2
 omega
theorem Tm.up_ok {a0:List zq} {N d:Nat} {t:Tm} (h:t.ok a0 N):(t.up d).ok a0 (N+d):=Tm.ok_sub t h fun x hx=>by
 have:=Tm.ok_has t h hx
 show x+d<N+d
 omega
theorem Tm.up_has {d y:Nat} {t:Tm}:(t.up d).has y↔∃ x,t.has x∧x+d=y:=Tm.has_sub t
end
end Go.Abs.Q
namespace Go.Abs.Q
open Go Go.Abs
section
abbrev Bd:=Nat→Option Tm
def SolB (θ:Sb) (B:Bd):Prop:=∀ x t,B x=some t→θ x=t.sub θ
def Sol (θ:Sb) (E:List (Tm×Tm)):Prop:=∀ p∈E,p.1.sub θ=p.2.sub θ
theorem Sol.nil {θ:Sb}:Sol θ []:=fun _ h=>nomatch h
theorem Sol.cons {θ:Sb} {p:Tm×Tm} {E:List (Tm×Tm)}:Sol θ (p::E)↔p.1.sub θ=p.2.sub θ∧Sol θ E:=by simp [Sol]
theorem Sol.append {θ:Sb} {E F:List (Tm×Tm)}:Sol θ (E++F)↔Sol θ E∧Sol θ F:=by
 simp only[Sol,List.mem_append]
 exact ⟨fun h=>⟨fun p hp=>h p (.inl hp),fun p hp=>h p (.inr hp)⟩,fun h p hp=>hp.elim (h.1 p) (h.2 p)⟩
theorem Sol.zip {θ:Sb}:{ts us:List Tm}→ts.length=us.length→(Sol θ (ts.zip us)↔zbR θ ts=zbR θ us)
 | [],[],_=>by simp [Sol,zbR]
 | [],_::_,h=>by simp at h
 | _::_,[],h=>by simp at h
 | t::ts,u::us,h=>by
  rw[List.zip_cons_cons,Sol.cons,Sol.zip (by simpa using h)]
  simp [zbR]
structure Good (B:Bd) (σ:Sb):Prop where
 free:∀ x,B x=none→σ x = .v x
 bound:∀ x t,B x=some t→σ x=t.sub σ
 down:∀ x y,B x=some (.v y)→y<x
theorem Good.empty:Good (fun _=>none) .v:=⟨fun _ _=>rfl,fun _ _ h=>(nomatch h),fun _ _ h=>(nomatch h)⟩
theorem Good.ind {B:Bd} {σ:Sb} (h:Good B σ) {P:Nat→Prop} (hf:∀ x,B x=none→P x) (hb:∀ x t,B x=some t→(∀ y,t.has y→P y)→P x):∀ x,P x:=by
 have key:∀ n x,(σ x).size=n→P x:=by
  intro n
  induction n using Nat.strongRecOn with
  | _ n ihn =>
   intro x
   induction x using Nat.strongRecOn with
   | _ x ihx =>
    intro hn
    cases hx:B x with
    | none=>exact hf x hx
    | some t =>
     refine hb x t hx fun y hy => ?_
     have hs:=h.bound x t hx
     cases t with
     | v z =>
      have hz:z=y:=hy
      subst hz
      exact ihx z (h.down x z hx) (by rw[← hn,hs]; rfl)
     | f c as =>
      have:=zfJ (s:=σ) as hy
      refine ihn (σ y).size ?_ y rfl
      rw[← hn,hs]
      show _<zaO (zbR σ as)+1
      omega
 exact fun x=>key _ x rfl
theorem Good.fac {B:Bd} {σ θ:Sb} (h:Good B σ) (hθ:SolB θ B):∀ x,(σ x).sub θ=θ x:=by
 refine h.ind (fun x hx=>by rw[h.free x hx]; rfl) fun x t hx ih => ?_
 rw[h.bound x t hx,Tm.sub_sub,hθ x t hx]
 exact Tm.sub_ext t fun y hy=>ih y hy
theorem Good.facT {B:Bd} {σ θ:Sb} (h:Good B σ) (hθ:SolB θ B) (t:Tm):(t.sub σ).sub θ=t.sub θ:=by
 rw[Tm.sub_sub]
 exact Tm.sub_ext t fun y _=>h.fac hθ y
theorem Good.root {B:Bd} {σ:Sb} (h:Good B σ):∀ x y,(σ x).has y→B y=none:=by
 refine h.ind (fun x hx y hy => ?_) fun x t hx ih y hy => ?_
 ·rw[h.free x hx] at hy
  have hy:x=y:=hy
  exact hy▸hx
 ·rw[h.bound x t hx] at hy
  obtain⟨z,h1,h2⟩:=(Tm.has_sub t).1 hy
  exact ih z h1 y h2
theorem Good.idem {B:Bd} {σ:Sb} (h:Good B σ) (t:Tm):(t.sub σ).sub σ=t.sub σ:=h.facT h.bound t
theorem Good.le {B:Bd} {σ:Sb} (h:Good B σ):∀ x y,σ x = .v y→y≤x:=by
 refine h.ind (fun x hx y hy => ?_) fun x t hx ih y hy => ?_
 ·rw[h.free x hx] at hy; injection hy with hy; omega
 ·rw[h.bound x t hx] at hy
  cases t with
  | v z =>
   have h1:=h.down x z hx
   have h2:=ih z rfl y hy
   omega
  | f c as=>cases hy
theorem Good.moved {B:Bd} {σ:Sb} (h:Good B σ) {x:Nat}:B x≠none↔σ x ≠ .v x:=by
 constructor
 ·intro hb he
  cases hx:B x with
  | none=>exact hb hx
  | some t =>
   have h1:=h.bound x t hx
   rw[he] at h1
   cases t with
   | v z =>
    have h2:=h.down x z hx
    have h3:=h.le z x h1.symm
    omega
   | f c as=>cases h1
 ·intro hs hb
  exact hs (h.free x hb)
theorem Good.unique {B B':Bd} {σ σ':Sb} (h:Good B σ) (h':Good B' σ') (hs:∀ θ,SolB θ B↔SolB θ B'):σ=σ':=by
 have f1:∀ x,(σ x).sub σ'=σ' x:=h.fac ((hs σ').2 h'.bound)
 have f2:∀ x,(σ' x).sub σ=σ x:=h'.fac ((hs σ).1 h.bound)
 have root:∀ y,B y=none→σ' y = .v y:=by
  intro y hy
  have h1:(σ' y).sub σ = .v y:=by rw[f2,h.free y hy]
  cases hz:σ' y with
  | f c as=>rw[hz] at h1; cases h1
  | v z =>
   rw[hz] at h1
   have h2:=h'.le y z hz
   have h3:=h.le z y h1
   have:z=y:=by omega
   rw[this]
 funext x
 rw[← f1 x]
 conv=>lhs; rw[← Tm.sub_v (σ x)]
 exact Tm.sub_ext _ fun y hy=>(root y (h.root x y hy)).symm
def one (x:Nat) (u:Tm):Sb:=fun y=>if y=x then u else .v y
def zAn (B:Bd) (x:Nat) (t:Tm):Bd:=fun y=>if y=x then some t else B y
theorem zd1 (B:Bd) (x:Nat) (t:Tm):zAn B x t x=some t:=by simp [zAn]
theorem zgH (B:Bd) {x y:Nat} (t:Tm) (h:y≠x):zAn B x t y=B y:=by simp [zAn,h]
theorem SolB.upd {B:Bd} {x:Nat} {t:Tm} {θ:Sb} (hx:B x=none):SolB θ (zAn B x t)↔SolB θ B∧θ x=t.sub θ:=by
 constructor
 ·intro h
  refine ⟨fun y u hy=>h y u ?_,h x t (zd1 ..)⟩
  rw[zgH _ _ fun e=>by rw[e,hx] at hy; cases hy]
  exact hy
 ·rintro⟨h1,h2⟩ y u hy
  by_cases he:y=x
  ·subst he
   rw[zd1] at hy
   injection hy with hy
   subst hy
   exact h2
  ·rw[zgH _ _ he] at hy
   exact h1 y u hy
theorem zEO {x:Nat} {u t:Tm} (h:¬ t.has x):t.sub (one x u)=t:=by
 conv=>rhs; rw[← Tm.sub_v t]
 refine Tm.sub_ext t fun y hy => ?_
 have hne:y≠x:=fun e=>h (e▸hy)
 unfold one
 rw[if_neg hne]
theorem Good.bind {B:Bd} {σ:Sb} (h:Good B σ) {x:Nat} {t:Tm} (hx:B x=none) (hn:¬(t.sub σ).has x) (hd:∀ y,t = .v y→y<x):Good (zAn B x t) fun y=>(σ y).sub (one x (t.sub σ)) where
 free:=fun y hy=>by
  have hne:y≠x:=fun e=>by rw[e,zd1] at hy; cases hy
  rw[zgH _ _ hne] at hy
  rw[h.free y hy]
  show one x _ y=_
  simp [one,hne]
 bound:=fun y u hy=>by
  by_cases he:y=x
  ·subst he
   rw[zd1] at hy
   injection hy with hy
   subst hy
   rw[h.free y hx,← Tm.sub_sub,zEO hn]
   show one y _ y=_
   simp [one]
  ·rw[zgH _ _ he] at hy
   rw[h.bound y u hy,Tm.sub_sub]
 down:=fun y z hy=>by
  by_cases he:y=x
  ·subst he
   rw[zd1] at hy
   injection hy with hy
   exact hd z hy
  ·rw[zgH _ _ he] at hy
   exact h.down y z hy
theorem Good.occurs {B:Bd} {σ θ:Sb} (h:Good B σ) {x c:Nat} {as:List Tm} (hh:((Tm.f c as).sub σ).has x) (hθ:SolB θ B) (he:θ x=(Tm.f c as).sub θ):False:=by
 have h1:=h.facT hθ (.f c as)
 rw[← he] at h1
 have h2:=zfJ (s:=θ) (zbR σ as) hh
 have h3:(((Tm.f c as).sub σ).sub θ).size=(θ x).size:=by rw[h1]
 have h4:zaO (zbR θ (zbR σ as))+1=(θ x).size:=h3
 omega
def zmc (B:Bd):Prop:=∀ x t,B x=some t→x<48∧t.size≤48
def Good.less (σ:Sb) (y x:Nat):Bool:=decide ((σ y).size<(σ x).size)||(decide ((σ y).size=(σ x).size)&&decide (y<x))
def Good.rank (σ:Sb) (x:Nat):Nat:=(List.range 48).countP fun y=>Good.less σ y x
theorem znr {α:Type} {p q:α→Bool} {a:α}:{l:List α}→a∈l→(∀ x∈l,p x=true→q x=true)→p a=false→q a=true→l.countP p<l.countP q
 | [],h,_,_,_=>nomatch h
 | b::l,hm,hi,hp,hq=>by
  have h2:l.countP p≤l.countP q:=List.countP_mono_left fun x hx h=>hi x (List.mem_cons_of_mem _ hx) h
  rcases List.mem_cons.1 hm with rfl | hm
  ·rw[List.countP_cons_of_neg (by simp [hp]),List.countP_cons_of_pos hq]
   omega
  ·have h1:=znr hm (fun x hx=>hi x (List.mem_cons_of_mem _ hx)) hp hq
   cases hb:p b with
   | true=>rw[List.countP_cons_of_pos hb,List.countP_cons_of_pos (hi b (List.mem_cons_self ..) hb)]; omega
   | false =>
    rw[List.countP_cons_of_neg (by simp [hb])]
    cases hc:q b with
    | true=>rw[List.countP_cons_of_pos hc]; omega
    | false=>rw[List.countP_cons_of_neg (by simp [hc])]; exact h1
theorem Good.small {B:Bd} {σ:Sb} (h:Good B σ) (hb:zmc B):∀ x,(σ x).size≤48 ^ 49:=by
 have key:∀ x,B x≠none→(σ x).size≤48 ^ (Good.rank σ x+1):=by
  refine h.ind (fun x hx hn=>absurd hx hn) fun x t hx ih _ => ?_
  obtain⟨hx48,ht⟩:=hb x t hx
  rw[h.bound x t hx]
  have h1:1≤48 ^ Good.rank σ x:=Nat.pow_pos (by omega)
  refine Nat.le_trans (Tm.size_sub t h1 fun y hy => ?_) ?_
  ·cases hy0:B y with
   | none=>rw[h.free y hy0]; exact h1
   | some u =>
    refine Nat.le_trans (ih y hy (by rw[hy0]; simp)) (Nat.pow_le_pow_right (by omega) ?_)
    have hlt:Good.less σ y x=true:=by
     unfold Good.less
     have hs:=h.bound x t hx
     cases t with
     | v z =>
      have hz:z=y:=hy
      subst hz
      have h2:=h.down x z hx
      have h3:(σ z).size=(σ x).size:=by rw[hs]; rfl
      simp [h3,h2]
     | f c as =>
      have h2:=zfJ (s:=σ) as hy
      have h3:(σ x).size=zaO (zbR σ as)+1:=by rw[hs]; rfl
      rw[decide_eq_true (show (σ y).size<(σ x).size by omega)]
      rfl
    refine znr (a:=y) (List.mem_range.2 (hb y u hy0).1) (fun z _ hz => ?_) (by simp [Good.less]) hlt
    simp only[Good.less,Bool.or_eq_true,Bool.and_eq_true,decide_eq_true_eq] at hz hlt ⊢
    omega
  ·rw[Nat.pow_succ,Nat.mul_comm]
   exact Nat.mul_le_mul_left _ ht
 intro x
 by_cases hx:B x=none
 ·rw[h.free x hx]
  exact Nat.pow_pos (by omega)
 ·refine Nat.le_trans (key x hx) (Nat.pow_le_pow_right (by omega) ?_)
  have:Good.rank σ x≤(List.range 48).length:=List.countP_le_length
  rw[List.length_range] at this
  omega
theorem Good.small_sub {B:Bd} {σ:Sb} (h:Good B σ) (hb:zmc B) (t:Tm):(t.sub σ).size≤t.size*48 ^ 49 :=
 Tm.size_sub t (Nat.pow_pos (by omega)) fun x _=>h.small hb x
def Out (B:Bd) (E:List (Tm×Tm)):Option Bd→Prop
 | none=>∀ θ,SolB θ B→Sol θ E→False
 | some B'=>(∃ σ,Good B' σ)∧zmc B'∧∀ θ,SolB θ B'↔SolB θ B∧Sol θ E
theorem Out.via {B B1:Bd} {E E1:List (Tm×Tm)} (h:∀ θ,(SolB θ B1∧Sol θ E1)↔(SolB θ B∧Sol θ E)) {o:Option Bd} (ho:Out B1 E1 o):Out B E o:=by
 cases o with
 | none=>exact fun θ h1 h2=>ho θ ((h θ).2 ⟨h1,h2⟩).1 ((h θ).2 ⟨h1,h2⟩).2
 | some B'=>exact ⟨ho.1,ho.2.1,fun θ=>(ho.2.2 θ).trans (h θ)⟩
theorem Out.done {B:Bd} {σ:Sb} (h:Good B σ) (hs:zmc B):Out B [] (some B):=⟨⟨σ,h⟩,hs,fun _=>⟨fun h=>⟨h,Sol.nil⟩,fun h=>h.1⟩⟩
theorem zGy {θ:Sb} {c d:Nat} {as bs:List Tm}:(Tm.f c as).sub θ=(Tm.f d bs).sub θ↔c=d∧zbR θ as=zbR θ bs:=by
 simp [Tm.sub]
end
end Go.Abs.Q
namespace Go.Abs.Q
open Go Go.Abs
section
abbrev PI:=List Int×Int
abbrev PO:=Option jI×Int
def Pc (a0:List zq) (N:Nat) (p:List Int) (d:Int) (t:Tm):Prop:=∃ u n,Tm.ok a0 24 u∧p=u.codes∧d=((n:Nat):Int)∧n≤N∧t=u.up n∧p.length≤48
def Pr (a0:List zq) (N:Nat) (p:List Int) (d:Int) (ts:List Tm):Prop:=∃ us n,okR a0 24 us∧p=zh us∧d=((n:Nat):Int)∧n≤N∧ts=us.map (Tm.up n)∧p.length≤48
theorem Pc.size {a0:List zq} {N:Nat} {p:List Int} {d:Int} {t:Tm} (h:Pc a0 N p d t):t.size=p.length∧t.size≤48:=by
 obtain⟨u,n,h1,rfl,h2,h3,rfl,h4⟩:=h
 rw[Tm.up_size,Tm.codes_len]
 rw[Tm.codes_len] at h4
 exact ⟨rfl,h4⟩
theorem Pc.lt {a0:List zq} {N:Nat} (hN:N≤24) {p:List Int} {d:Int} {t:Tm} (h:Pc a0 N p d t) {x:Nat} (hx:t.has x):x<48:=by
 obtain⟨u,n,h1,rfl,h2,h3,rfl,h4⟩:=h
 have:=Tm.ok_has _ (Tm.up_ok (d:=n) h1) hx
 omega
theorem Pc.cases {a0:List zq} {N:Nat} {p:List Int} {d:Int} {t:Tm} (h:Pc a0 N p d t) :
  (∃ k n:Nat,p=[-1 - (k:Int)]∧d=(n:Int)∧k<24∧n≤N∧t = .v (k+n))∨∃ c r ts,p=((c:Nat):Int)::r∧t = .f c ts∧zcM a0 (c:Int)=some ts.length∧Pr a0 N r d ts:=by
 obtain⟨u,n,h1,rfl,h2,h3,rfl,h4⟩:=h
 cases u with
 | v k=>exact .inl ⟨k,n,rfl,h2,h1,h3,rfl⟩
 | f c as =>
  have h4:(zh as).length+1≤48:=h4
  refine .inr ⟨c,zh as,as.map (Tm.up n),rfl,?_,by rw[List.length_map]; exact h1.1,as,n,h1.2,rfl,h2,h3,rfl,by omega⟩
  show Tm.f c (zbR _ as)=_
  rw[znT]
  rfl
def Pq (a0:List zq) (N:Nat) (q:List Int×Int×List Int×Int) (e:Tm×Tm):Prop:=Pc a0 N q.1 q.2.1 e.1∧Pc a0 N q.2.2.1 q.2.2.2 e.2
def PqL (a0:List zq) (N:Nat):List (List Int×Int×List Int×Int)→List (Tm×Tm)→Prop
 | [],es=>es=[]
 | q::qs,es=>∃ e es',es=e::es'∧Pq a0 N q e∧PqL a0 N qs es'
theorem PqL.append {a0:List zq} {N:Nat}:{qs:List (List Int×Int×List Int×Int)}→{es:List (Tm×Tm)}→{qs':List (List Int×Int×List Int×Int)}→{es':List (Tm×Tm)}→PqL a0 N qs es→PqL a0 N qs' es'→PqL a0 N (qs++qs') (es++es')
 | [],_,_,_,h,h'=>by have h:_=[]:=h; subst h; exact h'
 | q::qs,_,_,_,h,h'=>by
  obtain⟨e,es,rfl,h1,h2⟩:=h
  exact ⟨e,_,rfl,h1,PqL.append h2 h'⟩
theorem PqL.length {a0:List zq} {N:Nat}:{qs:List (List Int×Int×List Int×Int)}→{es:List (Tm×Tm)}→PqL a0 N qs es→es.length=qs.length
 | [],_,h=>by have h:_=[]:=h; subst h; rfl
 | q::qs,_,h=>by
  obtain⟨e,es,rfl,h1,h2⟩:=h
  simp [PqL.length h2]
theorem PqL.split {a0:List zq} {N:Nat}:{qs:List (List Int×Int×List Int×Int)}→{qs':List (List Int×Int×List Int×Int)}→{es:List (Tm×Tm)}→PqL a0 N (qs++qs') es→∃ e1 e2,es=e1++e2∧PqL a0 N qs e1∧PqL a0 N qs' e2
 | [],_,es,h=>⟨[],es,rfl,rfl,h⟩
 | q::qs,_,_,h=>by
  obtain⟨e,es,rfl,h1,h2⟩:=h
  obtain⟨e1,e2,rfl,h3,h4⟩:=PqL.split h2
  exact ⟨e::e1,e2,rfl,⟨e,e1,rfl,h1,h3⟩,h4⟩
def PcO (a0:List zq) (N:Nat) (e:PO) (o:Option Tm):Prop:=match e.1 with
 | none=>o=none
 | some p=>∃ t,o=some t∧Pc a0 N p e.2 t
structure RepT (a0:List zq) (N:Nat) (to:List PO) (B:Bd):Prop where
 len:to.length=48
 at_:∀ x e,to[x]? = some e→PcO a0 N e (B x)
 out:∀ x,48≤x→B x=none
theorem RepT.small {a0:List zq} {N:Nat} {to:List PO} {B:Bd} (h:RepT a0 N to B):zmc B:=by
 intro x t hx
 have hlt:x<48:=by
  rcases Nat.lt_or_ge x 48 with h' | h'
  ·exact h'
  ·rw[h.out x h'] at hx; cases hx
 refine ⟨hlt,?_⟩
 have hl:x<to.length:=by rw[h.len]; exact hlt
 have hg:to[x]? = some to[x]:=List.getElem?_eq_getElem hl
 have:=h.at_ x _ hg
 unfold PcO at this
 split at this
 ·rw[hx] at this; cases this
 ·obtain⟨u,h1,h2⟩:=this
  rw[hx] at h1; injection h1 with h1; subst h1
  exact h2.size.2
theorem RepT.get {a0:List zq} {N:Nat} {to:List PO} {B:Bd} (h:RepT a0 N to B) {x:Nat} (hx:x<48):∃ e,to[x]? = some e∧PcO a0 N e (B x):=by
 have hl:x<to.length:=by rw[h.len]; exact hx
 have hg:to[x]? = some to[x]:=List.getElem?_eq_getElem hl
 exact ⟨_,hg,h.at_ x _ hg⟩
theorem RepT.set {a0:List zq} {N:Nat} {to:List PO} {B:Bd} (h:RepT a0 N to B) {x:Nat} (hx:x<48) {p:List Int} {d:Int} {t:Tm} (hp:Pc a0 N p d t):RepT a0 N (to.set x (some p,d)) (zAn B x t) where
 len:=by rw[List.length_set]; exact h.len
 at_:=fun y e hy=>by
  by_cases he:y=x
  ·subst he
   rw[List.getElem?_set_self (by rw[h.len]; exact hx)] at hy
   injection hy with hy
   subst hy
   rw[zd1]
   exact ⟨t,rfl,hp⟩
  ·rw[List.getElem?_set_ne (Ne.symm he)] at hy
   rw[zgH _ _ he]
   exact h.at_ y e hy
 out:=fun y hy=>by
  rw[zgH _ _ (by omega)]
  exact h.out y hy
theorem zj3 {N:Nat} (hN:N≤24) {k n:Nat} (hk:k<24) (hn:n≤N) (p:List Int):yF p (n:Int) (-1 - (k:Int))=some ((k+n:Nat):Int):=by
 unfold yF
 rw[zbY (by omega) (by omega),Option.bind_some]
 congr 1
 rw[zE]<;>omega
def ziZ:Tm→Nat
 | .v x=>x+2
 | .f _ _=>1
theorem zAk {a0:List zq} {N:Nat} (hN:N≤24) {to:List PO} {B:Bd} {σ:Sb} (hT:RepT a0 N to B) (hG:Good B σ):∀(m k:Nat) (p:List Int) (d:Int) (t:Tm) (z:Int),ziZ t≤m→m≤k→Pc a0 N p d t →
  ∃ p' d' t',lp zbi k (a0,to,p,d,z)=some (p',d')∧Pc a0 N p' d' t'∧(∀ θ,SolB θ B→t.sub θ=t'.sub θ)∧∀ y,t' = .v y→B y=none:=by
 intro m
 induction m with
 | zero=>intro k p d t z hm; cases t<;>simp [ziZ] at hm
 | succ m ih =>
  intro k p d t z hm hk hp
  obtain⟨k,rfl⟩:∃ k',k=k'+1:=⟨k - 1,by omega⟩
  rw[zc]
  have key:=fun p d t (h1:ziZ t≤m) h2=>ih k p d t z h1 (by omega) h2
  generalize lp zbi k=rec at key ⊢
  unfold zbi
  rcases hp.cases with ⟨x,n,rfl,rfl,hx,hn,rfl⟩ | ⟨c,r,ts,rfl,rfl,hc,hr⟩
  ·simp only[ql,List.getElem?_cons_zero,Option.bind_some]
   rw[decide_eq_true (show -1 - (x:Int)<0 by omega),cond_true,zj3 hN hx hn,Option.bind_some,zac (by omega),Option.bind_some]
   obtain⟨e,he,hpe⟩:=hT.get (x:=x+n) (by omega)
   rw[he,Option.bind_some]
   unfold PcO at hpe
   split at hpe
   ·rename_i h1
    rw[h1]
    exact ⟨_,_,_,rfl,hp,fun θ _=>rfl,fun y hy=>by injection hy with hy; rw[← hy]; exact hpe⟩
   ·rename_i q h1
    obtain⟨u,hu,hq⟩:=hpe
    rw[h1]
    simp only[Option.isNone_some,cond_false,Option.getD_some]
    obtain⟨p',d',t',h2,h3,h4,h5⟩:=key q e.2 u (by
     cases u with
     | v y=>have:=hG.down _ y hu; simp only[ziZ] at hm ⊢; omega
     | f c as=>simp only[ziZ] at hm ⊢; omega) hq
    exact ⟨p',d',t',h2,h3,fun θ hθ=>(hθ _ u hu).trans (h4 θ hθ),h5⟩
  ·simp only[ql,List.getElem?_cons_zero,Option.bind_some]
   rw[decide_eq_false (show ¬(c:Int)<0 by omega),cond_false]
   exact ⟨_,_,_,rfl,hp,fun θ _=>rfl,fun y hy=>by cases hy⟩
theorem zq3 {a0:List zq} {N:Nat} (hN:N≤24) {to:List PO} {B:Bd} {σ:Sb} (hT:RepT a0 N to B) (hG:Good B σ) {p:List Int} {d:Int} {t:Tm} (hp:Pc a0 N p d t) :
  ∃ p' d' t',zbe p d a0 to=some (p',d')∧Pc a0 N p' d' t'∧(∀ θ,SolB θ B→t.sub θ=t'.sub θ)∧∀ y,t' = .v y→B y=none:=by
 obtain⟨p',d',t',h1,h2⟩:=zAk hN hT hG (ziZ t) zi p d t 0 (Nat.le_refl _) (by
  cases t with
  | v x=>have:=hp.lt hN (x:=x) rfl; simp only[ziZ]; unfold zi; omega
  | f c as=>simp only[ziZ]; unfold zi; omega) hp
 refine ⟨p',d',t',?_,h2⟩
 unfold zbe
 rw[h1]
 rfl
section
variable {a0:List zq} {N:Nat} {to:List PO} {B:Bd} {σ:Sb} {v:Nat}
def DoneV (B:Bd) (v:Nat) (seen:List Bool) (y:Nat):Prop:=y≠v∧(B y≠none→seen[y]? = some true)
def PcL (a0:List zq) (N:Nat):List PI→List Tm→Prop
 | [],ts=>ts=[]
 | p::ps,ts=>∃ t ts',ts=t::ts'∧Pc a0 N p.1 p.2 t∧PcL a0 N ps ts'
theorem PcL.append:{ps:List PI}→{ts:List Tm}→{ps':List PI}→{ts':List Tm}→PcL a0 N ps ts→PcL a0 N ps' ts'→PcL a0 N (ps++ps') (ts++ts')
 | [],_,_,_,h,h'=>by have h:_=[]:=h; subst h; exact h'
 | q::qs,_,_,_,h,h'=>by
  obtain⟨e,es,rfl,h1,h2⟩:=h
  exact ⟨e,_,rfl,h1,PcL.append h2 h'⟩
theorem PcL.split:{ps:List PI}→{ps':List PI}→{ts:List Tm}→PcL a0 N (ps++ps') ts→∃ t1 t2,ts=t1++t2∧PcL a0 N ps t1∧PcL a0 N ps' t2
 | [],_,ts,h=>⟨[],ts,rfl,rfl,h⟩
 | q::qs,_,_,h=>by
  obtain⟨e,es,rfl,h1,h2⟩:=h
  obtain⟨e1,e2,rfl,h3,h4⟩:=PcL.split h2
  exact ⟨e::e1,e2,rfl,⟨e,e1,rfl,h1,h3⟩,h4⟩
theorem PcL.length:{ps:List PI}→{ts:List Tm}→PcL a0 N ps ts→ts.length=ps.length
 | [],_,h=>by have h:_=[]:=h; subst h; rfl
 | q::qs,_,h=>by
  obtain⟨e,es,rfl,h1,h2⟩:=h
  simp [PcL.length h2]
def zie (seen:List Bool):Nat:=seen.countP fun b => !b
theorem ztW {seen:List Bool} {x:Nat} (h:seen[x]? = some false):zie (seen.set x true)+1=zie seen:=by
 unfold zie
 obtain⟨hx,he⟩:=List.getElem?_eq_some_iff.1 h
 have h1:=List.take_append_drop x seen
 have h2:seen.drop x=false::seen.drop (x+1):=by rw[List.drop_eq_getElem_cons hx,he]
 have h3:seen.set x true=seen.take x++true::seen.drop (x+1):=by rw[List.set_eq_take_append_cons_drop,if_pos hx]
 conv=>rhs; rw[← h1,h2]
 rw[h3]
 simp [List.countP_append,List.countP_cons]
 omega
theorem zm4 (hN:N≤24) (hT:RepT a0 N to B) {n:Nat} (hn:n≤N) (p0:List Int):∀(es:List Int) (seen:List Bool) (todo:List PI) (ts:List Tm),(∀ c∈es,-24≤c)→seen.length=48→todo.length+zie seen≤1000→PcL a0 N todo ts →
  (zr (v:Int) to p0 (n:Int) es seen todo=some (.inr true)∧∃ c∈es,c<0∧(-1 - c).toNat+n=v) ∨
  ∃ seen' more us,zr (v:Int) to p0 (n:Int) es seen todo=some (.inl (seen',todo++more))∧seen'.length=48∧more.length+zie seen'=zie seen∧PcL a0 N more us ∧
   (∀ y:Nat,seen[y]? = some true→seen'[y]? = some true)∧(∀ c∈es,c<0→DoneV B v seen' ((-1 - c).toNat+n))∧(∀ y:Nat,seen'[y]? = some true→seen[y]? = some true∨∃ u,B y=some u∧u∈us) ∧
   (∀ u∈us,∃ c∈es,c<0∧B ((-1 - c).toNat+n)=some u)
 | [],seen,todo,ts,_,hs,_,_=>.inr ⟨seen,[],[],by rw[List.append_nil]; rfl,hs,by simp,rfl,fun _ h=>h,fun c h=>(nomatch h),fun y h=>.inl h,fun u h=>(nomatch h)⟩
 | e::es,seen,todo,ts,hc,hs,hl,hp=>by
  have he:=hc e (List.mem_cons_self ..)
  have hc':∀ c∈es,-24≤c:=fun c h=>hc c (List.mem_cons_of_mem _ h)
  -- the variable is passed over
  have pass:∀ f:List Bool→List PI→Option ((List Bool×List PI)⊕Bool),f seen todo=zr (v:Int) to p0 (n:Int) es seen todo→(e<0→DoneV B v seen ((-1 - e).toNat+n)) →
    ((f seen todo=some (.inr true)∧∃ c∈e::es,c<0∧(-1 - c).toNat+n=v) ∨
    ∃ seen' more us,f seen todo=some (.inl (seen',todo++more))∧seen'.length=48∧more.length+zie seen'=zie seen∧PcL a0 N more us ∧
     (∀ y:Nat,seen[y]? = some true→seen'[y]? = some true)∧(∀ c∈e::es,c<0→DoneV B v seen' ((-1 - c).toNat+n))∧(∀ y:Nat,seen'[y]? = some true→seen[y]? = some true∨∃ u,B y=some u∧u∈us) ∧
     (∀ u∈us,∃ c∈e::es,c<0∧B ((-1 - c).toNat+n)=some u)):=by
   intro f hf hd
   rw[hf]
   rcases zm4 hN hT hn p0 es seen todo ts hc' hs hl hp with ⟨h1,c,h2,h3⟩ | ⟨seen',more,us,h1,h2,h3,h4,h5,h6,h7,h8⟩
   ·exact .inl ⟨h1,c,List.mem_cons_of_mem _ h2,h3⟩
   ·refine .inr ⟨seen',more,us,h1,h2,h3,h4,h5,fun c hcm hc0 => ?_,h7,fun u hu => ?_⟩
    ·rcases List.mem_cons.1 hcm with rfl | hcm
     ·exact ⟨(hd hc0).1,fun hb=>h5 _ ((hd hc0).2 hb)⟩
     ·exact h6 c hcm hc0
    ·obtain⟨c,h9,h10⟩:=h8 u hu
     exact ⟨c,List.mem_cons_of_mem _ h9,h10⟩
  unfold zr
  by_cases h0:e≥0
  ·rw[decide_eq_true h0,cond_true]
   exact pass (fun seen todo=>zr (v:Int) to p0 (n:Int) es seen todo) rfl fun h=>by omega
  ·rw[decide_eq_false h0,cond_false]
   obtain⟨k,hk,rfl⟩:∃ k:Nat,k<24∧e = -1 - (k:Int):=⟨(-1 - e).toNat,by omega,by omega⟩
   have hk2:(-1 - (-1 - (k:Int))).toNat=k:=by omega
   rw[zj3 hN hk hn,Option.bind_some]
   by_cases hv:k+n=v
   ·rw[hv,show (((v:Nat):Int)==(v:Int))=true from by simp,cond_true]
    exact .inl ⟨rfl,_,List.mem_cons_self ..,by omega,by rw[hk2]; exact hv⟩
   ·rw[show (((k+n:Nat):Int)==(v:Int))=false from by simp; omega,cond_false,zac (show k+n<48 by omega),Option.bind_some]
    obtain⟨b,hb⟩:∃ b,seen[k+n]? = some b:=⟨seen[k+n]'(by omega),List.getElem?_eq_getElem (by omega)⟩
    rw[hb,Option.bind_some]
    obtain⟨q,hq,hpq⟩:=hT.get (x:=k+n) (by omega)
    cases b with
    | true =>
     simp only[Bool.not_true,cond_false]
     exact pass (fun seen todo=>zr (v:Int) to p0 (n:Int) es seen todo) rfl fun _=>by rw[hk2]; exact ⟨hv,fun _=>hb⟩
    | false =>
     simp only[Bool.not_false,cond_true,Option.bind_some,hq]
     unfold PcO at hpq
     split at hpq
     ·rename_i h1
      rw[h1]
      simp only[Option.isNone_none,Bool.not_true,cond_false]
      exact pass (fun seen todo=>zr (v:Int) to p0 (n:Int) es seen todo) rfl fun _=>by rw[hk2]; exact ⟨hv,fun hn=>absurd hpq hn⟩
     ·rename_i q1 h1
      obtain⟨u,hu,hpu⟩:=hpq
      rw[h1]
      simp only[Option.isNone_some,Bool.not_false,cond_true,Option.getD_some,hb,Option.bind_some]
      have hun:=ztW hb
      rw[zD (show (todo.length+([(q1,q.2)]:List PI).length)*32≤140737488351232 by simp; omega),cond_true]
      have hset:(seen.set (k+n) true)[k+n]? = some true:=List.getElem?_set_self (by omega)
      have hmono:∀ y:Nat,seen[y]? = some true→(seen.set (k+n) true)[y]? = some true:=fun y hy=>by
       by_cases hyk:y=k+n
       ·subst hyk; exact hset
       ·rw[List.getElem?_set_ne (Ne.symm hyk)]; exact hy
      have hbk:∀ y:Nat,(seen.set (k+n) true)[y]? = some true→seen[y]? = some true∨y=k+n:=fun y hy=>by
       by_cases hyk:y=k+n
       ·exact .inr hyk
       ·rw[List.getElem?_set_ne (Ne.symm hyk)] at hy; exact .inl hy
      rcases zm4 hN hT hn p0 es (seen.set (k+n) true) (todo++[(q1,q.2)]) (ts++[u]) hc' (by rw[List.length_set]; exact hs) (by simp; omega) (hp.append ⟨u,[],rfl,hpu,rfl⟩) with ⟨h2,c,h3,h4⟩ | ⟨seen',more,us,h2,h3,h4,h5,h6,h7,h8,h9⟩
      ·exact .inl ⟨h2,c,List.mem_cons_of_mem _ h3,h4⟩
      ·refine .inr ⟨seen',(q1,q.2)::more,u::us,by rw[h2,List.append_assoc]; rfl,h3,by simp; omega,⟨u,us,rfl,hpu,h5⟩,fun y hy=>h6 y (hmono y hy),fun c hcm hc0 => ?_,fun y hy => ?_,fun w hw => ?_⟩
       ·rcases List.mem_cons.1 hcm with rfl | hcm
        ·rw[hk2]; exact ⟨hv,fun _=>h6 _ hset⟩
        ·exact h7 c hcm hc0
       ·rcases h8 y hy with h10 | ⟨w,h10,h11⟩
        ·rcases hbk y h10 with h12 | rfl
         ·exact .inl h12
         ·exact .inr ⟨u,hu,List.mem_cons_self ..⟩
        ·exact .inr ⟨w,h10,List.mem_cons_of_mem _ h11⟩
       ·rcases List.mem_cons.1 hw with rfl | hw
        ·exact ⟨_,List.mem_cons_self ..,by omega,by rw[hk2]; exact hu⟩
        ·obtain⟨c,h10,h11⟩:=h9 w hw
         exact ⟨c,List.mem_cons_of_mem _ h10,h11⟩
theorem Pc.vars {p:List Int} {d:Int} {t:Tm} (h:Pc a0 N p d t):∃ n:Nat,d=(n:Int)∧n≤N∧(∀ c∈p,-24≤c)∧∀ y,t.has y↔∃ c∈p,c<0∧(-1 - c).toNat+n=y:=by
 obtain⟨u,n,h1,rfl,h2,h3,rfl,h4⟩:=h
 refine ⟨n,h2,h3,fun c hc => ?_,fun y => ?_⟩
 ·by_cases h0:c<0
  ·have:=Tm.ok_has u h1 ((Tm.mem_codes h0 u).1 hc); omega
  ·omega
 ·rw[Tm.up_has]
  constructor
  ·rintro⟨x,hx,rfl⟩
   have hc:(-1 - (x:Int))<0:=by omega
   refine ⟨-1 - (x:Int),(Tm.mem_codes hc u).2 (by rw[show (-1 - (-1 - (x:Int))).toNat=x from by omega]; exact hx),hc,by omega⟩
  ·rintro⟨c,hc,h0,rfl⟩
   exact ⟨_,(Tm.mem_codes h0 u).1 hc,rfl⟩
structure WInv (B:Bd) (σ:Sb) (v:Nat) (t:Tm) (seen:List Bool) (ts:List Tm):Prop where
 snd:∀ u∈ts,(u.sub σ).has v→(t.sub σ).has v
 top:t∈ts∨∀ y,t.has y→DoneV B v seen y
 cls:∀ x u,seen[x]? = some true→B x=some u→u∈ts∨∀ y,u.has y→DoneV B v seen y
theorem DoneV.mono {seen seen':List Bool} (h:∀ y:Nat,seen[y]? = some true→seen'[y]? = some true) {y:Nat} (hd:DoneV B v seen y):DoneV B v seen' y:=⟨hd.1,fun hb=>h y (hd.2 hb)⟩
theorem zt8 (hN:N≤24) (hT:RepT a0 N to B) (hG:Good B σ) (hv:B v=none) (t:Tm):∀(m k:Nat) (seen:List Bool) (todo:List PI) (ts:List Tm) (z:List Int) (z2:Int),todo.length+zie seen=m→m<k→m≤100→seen.length=48→PcL a0 N todo ts→WInv B σ v t seen ts →
  ∃ r,lp zaI k ((v:Int),a0,to,z,z2,seen,todo)=some r∧((r = .inr true∧(t.sub σ).has v)∨(r = .inl ()∧¬(t.sub σ).has v)):=by
 intro m
 induction m using Nat.strongRecOn with
 | _ m ih =>
  intro k seen todo ts z z2 hm hk hm1 hs hp hI
  obtain⟨k,rfl⟩:∃ k',k=k'+1:=⟨k - 1,by omega⟩
  rw[zc]
  have key:=fun (m':Nat) (h:m'<m) seen todo ts z z2 h1 h2 h3 h4=>ih m' h k seen todo ts z z2 h1 (by omega) (by omega) h2 h3 h4
  generalize lp zaI k=rec at key ⊢
  unfold zaI
  rcases List.eq_nil_or_concat todo with rfl | ⟨todo',p,rfl⟩
  ·have hts:ts=[]:=hp
   subst hts
   refine ⟨_,rfl,.inr ⟨rfl,?_⟩⟩
   have hcl:∀ x u,seen[x]? = some true→B x=some u→∀ y,u.has y→DoneV B v seen y:=fun x u h1 h2=>(hI.cls x u h1 h2).resolve_left (fun h=>nomatch h)
   have hno:∀ x,DoneV B v seen x→¬(σ x).has v:=by
    refine hG.ind (fun x hx hd hh => ?_) fun x u hx ihx hd hh => ?_
    ·rw[hG.free x hx] at hh
     exact hd.1 hh
    ·rw[hG.bound x u hx] at hh
     obtain⟨y,h1,h2⟩:=(Tm.has_sub u).1 hh
     exact ihx y h1 (hcl x u (hd.2 (by rw[hx]; simp)) hx y h1) h2
   intro hh
   obtain⟨y,h1,h2⟩:=(Tm.has_sub t).1 hh
   exact hno y ((hI.top.resolve_left fun h=>nomatch h) y h1) h2
  ·rw[List.concat_eq_append] at *
   obtain⟨ts',us0,rfl,hp1,hp2⟩:=PcL.split hp
   obtain⟨u0,us1,rfl,hu0,hus1⟩:=hp2
   have hus1:us1=[]:=hus1
   subst hus1
   simp only[List.length_append,List.length_singleton] at hm
   obtain⟨q,d⟩:=p
   obtain⟨n,rfl,hn,hcs,hvars⟩:=hu0.vars
   have e1:IntKind.wrap .i64 (((List.length (todo'++[(q,(n:Int))]):Nat):Int) - 1)=((todo'.length:Nat):Int):=by
    rw[List.length_append,List.length_singleton,zE]<;>omega
   have e2:inR ((todo'.length:Nat):Int) (List.length (todo'++[(q,(n:Int))]))=some todo'.length:=zac (by simp)
   have e3:(todo'++[(q,(n:Int))])[todo'.length]? = some (q,(n:Int)):=zsP _ [] _
   have e4:decide (((List.length (todo'++[(q,(n:Int))]):Nat):Int)>0)=true:=decide_eq_true (by rw[List.length_append,List.length_singleton]; omega)
   simp only[e1,e2,e3,e4,Option.bind_some,cond_true,zs3]
   have hsz:u0.size=q.length∧u0.size≤48:=hu0.size
   rw[zeW _ _ _ _ _ _ _ _ (by unfold maxLen; omega)]
   rcases zm4 (v:=v) hN hT hn q q seen todo' ts' hcs hs (by omega) hp1 with ⟨h1,c,h2,h3,h4⟩ | ⟨seen',more,us,h1,h2,h3,h4,h5,h6,h7,h8⟩
   ·rw[h1]
    refine ⟨_,rfl,.inl ⟨rfl,hI.snd u0 (by simp) ?_⟩⟩
    refine (Tm.has_sub u0).2 ⟨v,(hvars v).2 ⟨c,h2,h3,h4⟩,?_⟩
    rw[hG.free v hv]
    rfl
   ·rw[h1]
    simp only[Option.bind_some,zcj]
    refine key (todo'.length+more.length+zie seen') (by omega) seen' (todo'++more) (ts'++us) q (n:Int) (by simp) h2 (hp1.append h4) ⟨fun w hw hh => ?_,?_,fun x w hx hw => ?_⟩
    ·rcases List.mem_append.1 hw with hw | hw
     ·exact hI.snd w (by simp [hw]) hh
     ·obtain⟨c,h9,h10,h11⟩:=h8 w hw
      refine hI.snd u0 (by simp) ((Tm.has_sub u0).2 ⟨_,(hvars _).2 ⟨c,h9,h10,rfl⟩,?_⟩)
      rw[hG.bound _ w h11]
      exact hh
    ·have hdone:∀ y,u0.has y→DoneV B v seen' y:=fun y hy=>by
      obtain⟨c,h9,h10,rfl⟩:=(hvars y).1 hy
      exact h6 c h9 h10
     rcases hI.top with ht | ht
     ·rcases List.mem_append.1 ht with ht | ht
      ·exact .inl (by simp [ht])
      ·rw[List.mem_singleton.1 ht]; exact .inr hdone
     ·exact .inr fun y hy=>(ht y hy).mono h5
    ·have hdone:∀ y,u0.has y→DoneV B v seen' y:=fun y hy=>by
      obtain⟨c,h9,h10,rfl⟩:=(hvars y).1 hy
      exact h6 c h9 h10
     rcases h7 x hx with h9 | ⟨w',h9,h10⟩
     ·rcases hI.cls x w h9 hw with ht | ht
      ·rcases List.mem_append.1 ht with ht | ht
       ·exact .inl (by simp [ht])
       ·rw[List.mem_singleton.1 ht]; exact .inr hdone
      ·exact .inr fun y hy=>(ht y hy).mono h5
     ·rw[hw] at h9; injection h9 with h9; subst h9
      exact .inl (by simp [h10])
theorem zsF (hN:N≤24) (hT:RepT a0 N to B) (hG:Good B σ) (hv:B v=none) {p:List Int} {d:Int} {t:Tm} (hp:Pc a0 N p d t) :
  ∃ r,zcL (v:Int) p d a0 to=some r∧(r=true↔(t.sub σ).has v):=by
 have hun:zie (List.replicate 48 false)=48:=by decide
 obtain⟨r,h1,h2⟩:=zt8 hN hT hG hv t 49 zi (List.replicate 48 false) [(p,d)] [t] p d (by rw[hun]; rfl) (by unfold zi; omega) (by omega) (by simp) ⟨t,[],rfl,hp,rfl⟩
  ⟨fun u hu h=>by rw[List.mem_singleton.1 hu] at h; exact h,.inl (by simp),fun x u hx _=>by
   rw[List.getElem?_replicate] at hx
   split at hx<;>simp at hx⟩
 unfold zcL
 rw[h1]
 rcases h2 with ⟨rfl,h2⟩ | ⟨rfl,h2⟩
 ·exact ⟨true,rfl,by simp [h2]⟩
 ·exact ⟨false,rfl,by simp [h2]⟩
end
end
end Go.Abs.Q
namespace Go.Abs.Q
open Go Go.Abs
section
mutual
def Tm.ht:Tm→Nat
 | .v _=>1
 | .f _ as=>htR as+1
def htR:List Tm→Nat
 | []=>0
 | t::ts=>max t.ht (htR ts)
end
mutual
theorem Tm.ht_size:(t:Tm)→t.ht≤t.size
 | .v _=>Nat.le_refl _
 | .f _ as=>by have:=ztb as; simp only[Tm.ht,Tm.size]; omega
theorem ztb:(ts:List Tm)→htR ts≤zaO ts
 | []=>Nat.le_refl _
 | t::ts=>by have:=t.ht_size; have:=ztb ts; simp only[htR,zaO]; omega
end
mutual
theorem Tm.ht_sub {s:Sb} {M:Nat}:(t:Tm)→(∀ x,t.has x→(s x).ht≤M)→(t.sub s).ht≤t.ht+M
 | .v n,h=>by have:=h n rfl; simp only[Tm.sub,Tm.ht]; omega
 | .f _ as,h=>by have:=zxV as h; simp only[Tm.sub,Tm.ht]; omega
theorem zxV {s:Sb} {M:Nat}:(ts:List Tm)→(∀ x,zk2 x ts→(s x).ht≤M)→htR (zbR s ts)≤htR ts+M
 | [],_=>by simp [zbR,htR]
 | t::ts,h=>by
  have h1:=Tm.ht_sub t fun x hx=>h x (.inl hx)
  have h2:=zxV ts fun x hx=>h x (.inr hx)
  simp only[zbR,htR]; omega
end
theorem zsQ:{ts:List Tm}→{t:Tm}→t∈ts→t.ht≤htR ts
 | u::us,t,h=>by
  rcases List.mem_cons.1 h with rfl | h
  ·simp only[htR]; omega
  ·have:=zsQ h; simp only[htR]; omega
theorem Good.rank_lt {B:Bd} {σ:Sb} (h:Good B σ) {x y:Nat} {t:Tm} (hx:B x=some t) (hy:t.has y) (h48:y<48):Good.rank σ y<Good.rank σ x:=by
 have hlt:Good.less σ y x=true:=by
  unfold Good.less
  have hs:=h.bound x t hx
  cases t with
  | v z =>
   have hz:z=y:=hy
   subst hz
   have h2:=h.down x z hx
   have h3:(σ z).size=(σ x).size:=by rw[hs]; rfl
   simp [h3,h2]
  | f c as =>
   have h2:=zfJ (s:=σ) as hy
   have h3:(σ x).size=zaO (zbR σ as)+1:=by rw[hs]; rfl
   rw[decide_eq_true (show (σ y).size<(σ x).size by omega)]
   rfl
 refine znr (a:=y) (List.mem_range.2 h48) (fun z _ hz => ?_) (by simp [Good.less]) hlt
 simp only[Good.less,Bool.or_eq_true,Bool.and_eq_true,decide_eq_true_eq] at hz hlt ⊢
 omega
theorem Good.rank_le (σ:Sb) (x:Nat):Good.rank σ x≤48:=by
 have:Good.rank σ x≤(List.range 48).length:=List.countP_le_length
 rwa [List.length_range] at this
theorem Good.low {B:Bd} {σ:Sb} (h:Good B σ) (hb:zmc B):∀ x,(σ x).ht≤49*49:=by
 have key:∀ x,B x≠none→(σ x).ht≤49*(Good.rank σ x+1):=by
  refine h.ind (fun x hx hn=>absurd hx hn) fun x t hx ih _ => ?_
  obtain⟨hx48,ht⟩:=hb x t hx
  rw[h.bound x t hx]
  have h0:=t.ht_size
  have:=Tm.ht_sub (s:=σ) (M:=49*Good.rank σ x+1) t fun y hy=>(by
   cases hy0:B y with
   | none=>rw[h.free y hy0]; simp only[Tm.ht]; omega
   | some u =>
    have h1:=ih y hy (by rw[hy0]; simp)
    have h2:=h.rank_lt hx hy (hb y u hy0).1
    have:49*(Good.rank σ y+1)≤49*Good.rank σ x:=Nat.mul_le_mul_left _ (by omega)
    omega)
  omega
 intro x
 by_cases hx:B x=none
 ·rw[h.free x hx]; simp [Tm.ht]
 ·have h1:=key x hx
  have h2:=Good.rank_le σ x
  have:49*(Good.rank σ x+1)≤49*49:=Nat.mul_le_mul_left _ (by omega)
  omega
def zGV (n m:Nat) (us ws:List Tm):List (List Int×Int×List Int×Int):=List.zipWith (fun a b=>(a.codes,(n:Int),b.codes,(m:Int))) us ws
theorem zeo {ts:List Tm} {t:Tm} (h:t∈ts):t.codes.length≤(zh ts).length:=by
 obtain⟨l1,l2,rfl⟩:=List.append_of_mem h
 rw[zll]
 simp [zh]
 omega
theorem ztl {a0:List zq} {N n m:Nat} (hn:n≤N) (hm:m≤N):{us ws:List Tm}→okR a0 24 us→okR a0 24 ws→(∀ t∈us,t.codes.length≤48)→(∀ t∈ws,t.codes.length≤48) →
  PqL a0 N (zGV n m us ws) ((us.map (Tm.up n)).zip (ws.map (Tm.up m)))
 | [],_,_,_,_,_=>rfl
 | _::_,[],_,_,_,_=>rfl
 | u::us,w::ws,hu,hw,hlu,hlw =>
  ⟨(u.up n,w.up m),_,rfl,⟨⟨u,n,hu.1,rfl,rfl,hn,rfl,hlu u (List.mem_cons_self ..)⟩,⟨w,m,hw.1,rfl,rfl,hm,rfl,hlw w (List.mem_cons_self ..)⟩⟩,
   ztl hn hm hu.2 hw.2 (fun t h=>hlu t (List.mem_cons_of_mem _ h)) fun t h=>hlw t (List.mem_cons_of_mem _ h)⟩
theorem zrq (ps2:List jI) (n m:Nat):(us ws:List Tm)→(i:Nat)→(out:List (List Int×Int×List Int×Int))→ps2.drop i=ws.map Tm.codes→us.length=ws.length→out.length+us.length≤1000000 →
  zJ ps2 (n:Int) (m:Int) (us.map Tm.codes) i out=some (out++zGV n m us ws)
 | [],ws,i,out,_,_,_=>by simp [zJ,zGV]
 | u::us,[],i,out,_,h,_=>by simp at h
 | u::us,w::ws,i,out,h,hl,hr=>by
  simp only[List.length_cons] at hl hr
  rw[List.map_cons] at h
  rw[List.map_cons]
  unfold zJ
  rw[zp,zb h,Option.bind_some,zD (by simp only[List.length_singleton]; omega),cond_true,zrq ps2 n m us ws (i+1) _ (za h) (by omega) (by simp only[List.length_append,List.length_singleton]; omega)]
  simp [zGV]
theorem zoH {a0:List zq} (h:SignOk a0) {N:Nat} {p q:List Int} {d e:Int} {ts us:List Tm} (hp:Pr a0 N p d ts) (hq:Pr a0 N q e us) (hl:ts.length=us.length) (to:List PO) {out:List (List Int×Int×List Int×Int)} (ho:out.length≤100000) :
  ∃ more,qV p d q e a0 to out=some (out++more)∧PqL a0 N more (ts.zip us):=by
 obtain⟨us0,n,h1,rfl,rfl,h2,rfl,h3⟩:=hp
 obtain⟨ws0,m,h4,rfl,rfl,h5,rfl,h6⟩:=hq
 simp only[List.length_map] at hl
 have hls:us0.length≤48:=by
  have:=zec (yh us0 h1)
  rw[List.length_map] at this
  omega
 refine ⟨zGV n m us0 ws0,?_,ztl h2 h5 h1 h4 (fun t ht=>Nat.le_trans (zeo ht) h3) fun t ht=>Nat.le_trans (zeo ht) h6⟩
 unfold qV
 rw[zcF h (by omega) (yh us0 h1),Option.bind_some,zcF h (by omega) (yh ws0 h4),Option.bind_some,
  zew _ _ _ _ _ _ _ (by rw[List.length_map]; unfold maxLen; omega),zrq _ n m us0 ws0 0 out rfl hl (by omega)]
 rfl
theorem zpi {a0:List zq} {N:Nat} {p:List Int} {d:Int} {t:Tm} (h:Pc a0 N p d t):nn p=some p:=by
 have h1:=h.size
 have h2:=t.size_pos
 cases p with
 | nil=>simp at h1; omega
 | cons x r=>rfl
theorem ztR {a0:List zq} {N:Nat} (hN:N≤24) {to:List PO} {B:Bd} {σ:Sb} (hT:RepT a0 N to B) (hG:Good B σ) {p q:List Int} {d e:Int} {v:Nat} {u:Tm} (hp:Pc a0 N p d (.v v)) (hq:Pc a0 N q e u) (hv:B v=none) (hu:∀ y,u = .v y→B y=none) :
  ∃ r to',qn p d q e a0 to=some (r,a0,to')∧((r=false∧∀ θ,SolB θ B→θ v=u.sub θ→False)∨(r=true∧∃ B' σ',RepT a0 N to' B'∧Good B' σ'∧∀ θ,SolB θ B'↔SolB θ B∧θ v=u.sub θ)):=by
 have hv48:v<48:=hp.lt hN rfl
 rcases hp.cases with ⟨k,n,rfl,rfl,hk,hn,he⟩ | ⟨_,_,_,_,he,_⟩
 case inr=>cases he
 injection he with he
 subst he
 unfold qn
 simp only[ql,List.getElem?_cons_zero,Option.bind_some,zj3 hN hk hn]
 rcases hq.cases with ⟨k2,n2,rfl,rfl,hk2,hn2,rfl⟩ | ⟨c,r,ts,rfl,rfl,hc,hr⟩
 ·simp only[List.getElem?_cons_zero,Option.bind_some,zj3 hN hk2 hn2]
  rw[decide_eq_false (show ¬(-1 - (k2:Int)≥0) by omega),cond_false]
  have hw:=hu _ rfl
  by_cases h1:k2+n2>k+n
  ·rw[decide_eq_true (show ((k2+n2:Nat):Int)>((k+n:Nat):Int) by omega),cond_true,zac (by omega),Option.bind_some]
   obtain⟨x,hx,-⟩:=hT.get (x:=k2+n2) (by omega)
   rw[hx,Option.bind_some,zpi hp,Option.bind_some]
   refine ⟨true,_,rfl,.inr ⟨rfl,_,_,hT.set (by omega) hp,hG.bind hw ?_ ?_,fun θ=>(SolB.upd hw).trans ?_⟩⟩
   ·show ¬(σ (k+n)).has (k2+n2)
    rw[hG.free _ hv]
    show ¬(k+n=k2+n2)
    omega
   ·intro y hy
    injection hy with hy
    omega
   ·show _∧θ (k2+n2)=θ (k+n)↔_∧θ (k+n)=θ (k2+n2)
    exact ⟨fun h=>⟨h.1,h.2.symm⟩,fun h=>⟨h.1,h.2.symm⟩⟩
  ·rw[decide_eq_false (show ¬(((k2+n2:Nat):Int)>((k+n:Nat):Int)) by omega),cond_false]
   by_cases h2:k2+n2<k+n
   ·rw[decide_eq_true (show ((k2+n2:Nat):Int)<((k+n:Nat):Int) by omega),cond_true,zac (by omega),Option.bind_some]
    obtain⟨x,hx,-⟩:=hT.get (x:=k+n) (by omega)
    rw[hx,Option.bind_some,zpi hq,Option.bind_some]
    refine ⟨true,_,rfl,.inr ⟨rfl,_,_,hT.set (by omega) hq,hG.bind hv ?_ ?_,fun θ=>SolB.upd hv⟩⟩
    ·show ¬(σ (k2+n2)).has (k+n)
     rw[hG.free _ hw]
     show ¬(k2+n2=k+n)
     omega
    ·intro y hy
     injection hy with hy
     omega
   ·rw[decide_eq_false (show ¬(((k2+n2:Nat):Int)<((k+n:Nat):Int)) by omega),cond_false]
    have:k2+n2=k+n:=by omega
    refine ⟨true,_,rfl,.inr ⟨rfl,B,σ,hT,hG,fun θ=>⟨fun h=>⟨h,?_⟩,fun h=>h.1⟩⟩⟩
    show θ (k+n)=θ (k2+n2)
    rw[this]
 ·simp only[List.getElem?_cons_zero,Option.bind_some]
  rw[decide_eq_true (show (c:Int)≥0 by omega),cond_true]
  obtain⟨w,hw1,hw2⟩:=zsF hN hT hG hv hq
  rw[hw1,Option.bind_some]
  cases w with
  | true =>
   refine ⟨false,_,rfl,.inl ⟨rfl,fun θ h1 h2=>hG.occurs (hw2.1 rfl) h1 h2⟩⟩
  | false =>
   rw[cond_false,zac (by omega),Option.bind_some]
   obtain⟨x,hx,-⟩:=hT.get (x:=k+n) (by omega)
   rw[hx,Option.bind_some,zpi hq,Option.bind_some]
   refine ⟨true,_,rfl,.inr ⟨rfl,_,_,hT.set (by omega) hq,hG.bind hv (fun h=>by have:=hw2.2 h; cases this) (fun y hy=>by cases hy),fun θ=>SolB.upd hv⟩⟩
end
end Go.Abs.Q
namespace Go.Abs.Q
open Go Go.Abs
section
def wt (σ:Sb) (E:List (Tm×Tm)):Nat:=(E.map fun e=>(e.1.sub σ).size).sum
theorem zmY (σ:Sb) (E F:List (Tm×Tm)):wt σ (E++F)=wt σ E+wt σ F:=by simp [wt]
theorem zCL (σ:Sb) (e:Tm×Tm):wt σ [e]=(e.1.sub σ).size:=by simp [wt]
theorem zwR (σ:Sb):{ts us:List Tm}→ts.length=us.length→wt σ (ts.zip us)=zaO (zbR σ ts)
 | [],_,_=>rfl
 | _::_,[],h=>by simp at h
 | t::ts,u::us,h=>by
  have:=zwR σ (ts:=ts) (us:=us) (by simpa using h)
  simp only[wt] at this ⊢
  simp only[List.zip_cons_cons,List.map_cons,List.sum_cons,zbR,zaO,this]
def HtOk (R:List Tm) (B:Bd) (i:Nat) (t:Tm):Prop:=∃ δ:Nat,i≤47+3*δ∧∀ θ,SolB θ B→∃ c∈R,δ+(t.sub θ).ht≤(c.sub θ).ht
def StkOk (R:List Tm) (B:Bd) (E:List (Tm×Tm)):Prop:=∀(i:Nat) e,E[i]? = some e→HtOk R B i e.1
theorem HtOk.mono {R:List Tm} {B B':Bd} {i:Nat} {t:Tm} (h:HtOk R B i t) (hB:∀ θ,SolB θ B'→SolB θ B):HtOk R B' i t:=by
 obtain⟨δ,h1,h2⟩:=h
 exact ⟨δ,h1,fun θ hθ=>h2 θ (hB θ hθ)⟩
theorem StkOk.mono {R:List Tm} {B B':Bd} {E:List (Tm×Tm)} (h:StkOk R B E) (hB:∀ θ,SolB θ B'→SolB θ B):StkOk R B' E:=fun i e he=>(h i e he).mono hB
theorem StkOk.left {R:List Tm} {B:Bd} {E F:List (Tm×Tm)} (h:StkOk R B (E++F)):StkOk R B E:=fun i e he=>h i e (by
 rw[List.getElem?_append_left (List.getElem?_eq_some_iff.1 he).1]; exact he)
theorem StkOk.len {R:List Tm} {B:Bd} {σ:Sb} {E:List (Tm×Tm)} (h:StkOk R B E) (hG:Good B σ) (hS:zmc B) (hR:∀ c∈R,c.size≤48):E.length≤8000:=by
 rcases Nat.eq_zero_or_pos E.length with h0 | h0
 ·omega
 ·obtain⟨δ,h1,h2⟩:=h (E.length - 1) E[E.length - 1] (List.getElem?_eq_getElem (by omega))
  obtain⟨c,hc,h3⟩:=h2 σ hG.bound
  have h4:=Tm.ht_sub (s:=σ) c fun x _=>hG.low hS x
  have h5:=c.ht_size
  have h6:=hR c hc
  omega
theorem zGl (t:Tm):0<t.ht:=by cases t<;>simp [Tm.ht]
def SameR (a0:List zq) (N:Nat) (B:Bd) (E:List (Tm×Tm)) (r:Bool×List zq×List PO):Prop :=
 r.2.1=a0∧((r.1=false∧Out B E none)∨(r.1=true∧∃ B',RepT a0 N r.2.2 B'∧Out B E (some B')))
theorem SameR.via {a0:List zq} {N:Nat} {B B1:Bd} {E E1:List (Tm×Tm)} (h:∀ θ,(SolB θ B1∧Sol θ E1)↔(SolB θ B∧Sol θ E)) {r:Bool×List zq×List PO} (hr:SameR a0 N B1 E1 r):SameR a0 N B E r :=
 ⟨hr.1,hr.2.imp (fun h1=>⟨h1.1,Out.via h h1.2⟩) fun ⟨h1,B',h2,h3⟩=>⟨h1,B',h2,Out.via h h3⟩⟩
theorem zAo {a0:List zq} (hs:SignOk a0) {N:Nat} (hN:N≤24) (R:List Tm) (hR:∀ c∈R,c.size≤48):∀(n:Nat) (to:List PO) (B:Bd) (σ:Sb) (todo:List (List Int×Int×List Int×Int)) (E:List (Tm×Tm)),
  RepT a0 N to B→Good B σ→PqL a0 N todo E→StkOk R B E →
  (∃ r,(∀ k,lp zz (k+n) (a0,to,todo)=some r)∧SameR a0 N B E r)∨∃ B' σ',Good B' σ'∧zmc B'∧(∀ θ,SolB θ B'→SolB θ B)∧n≤wt σ' E:=by
 intro n
 induction n with
 | zero=>intro to B σ todo E hT hG _ _; exact .inr ⟨B,σ,hG,hT.small,fun _ h=>h,Nat.zero_le _⟩
 | succ n ih =>
  intro to B σ todo E hT hG hP hK
  have hlen:=hK.len hG hT.small hR
  have hpl:=hP.length
  -- one round, and what is left
  have go:∀(to1:List PO) (B1:Bd) (σ1:Sb) (todo1:List (List Int×Int×List Int×Int)) (E1:List (Tm×Tm)),RepT a0 N to1 B1→Good B1 σ1→PqL a0 N todo1 E1→StkOk R B1 E1 →
    (∀ θ,(SolB θ B1∧Sol θ E1)↔(SolB θ B∧Sol θ E))→(∀ θ,SolB θ B1→SolB θ B)→(∀ σ',SolB σ' B1→wt σ' E1+1≤wt σ' E)→(∀ rec,zz rec (a0,to,todo)=rec (a0,to1,todo1)) →
    ((∃ r,(∀ k,lp zz (k+(n+1)) (a0,to,todo)=some r)∧SameR a0 N B E r)∨∃ B' σ',Good B' σ'∧zmc B'∧(∀ θ,SolB θ B'→SolB θ B)∧n+1≤wt σ' E):=by
   intro to1 B1 σ1 todo1 E1 h1 h2 h3 h4 h5 h6 h7 h8
   rcases ih to1 B1 σ1 todo1 E1 h1 h2 h3 h4 with ⟨r,h9,h10⟩ | ⟨B',σ',h9,h10,h11,h12⟩
   ·refine .inl ⟨r,fun k => ?_,h10.via h5⟩
    rw[← Nat.add_assoc,zc,h8]
    exact h9 k
   ·have:=h7 σ' (h11 _ h9.bound)
    exact .inr ⟨B',σ',h9,h10,fun θ hθ=>h6 θ (h11 θ hθ),by omega⟩
  have stop:∀ r,SameR a0 N B E r→(∀ rec,zz rec (a0,to,todo)=some r) →
    ((∃ r,(∀ k,lp zz (k+(n+1)) (a0,to,todo)=some r)∧SameR a0 N B E r)∨∃ B' σ',Good B' σ'∧zmc B'∧(∀ θ,SolB θ B'→SolB θ B)∧n+1≤wt σ' E) :=
   fun r h1 h2=>.inl ⟨r,fun k=>by rw[← Nat.add_assoc,zc,h2],h1⟩
  rcases List.eq_nil_or_concat todo with rfl | ⟨todo',t,rfl⟩
  ·have hE:E=[]:=hP
   subst hE
   exact stop (true,a0,to) ⟨rfl,.inr ⟨rfl,B,hT,Out.done hG hT.small⟩⟩ fun rec=>rfl
  ·rw[List.concat_eq_append] at *
   obtain⟨p,d,q,e⟩:=t
   obtain⟨E',F,rfl,hP',hF⟩:=PqL.split hP
   obtain⟨⟨s,u⟩,F',rfl,⟨hps,hqu⟩,hF'⟩:=hF
   have hF':F'=[]:=hF'
   subst hF'
   have hps:Pc a0 N p d s:=hps
   have hqu:Pc a0 N q e u:=hqu
   obtain⟨p1,d1,s1,hw1,hp1,hs1,hb1⟩:=zq3 hN hT hG hps
   obtain⟨q1,e1,u1,hw2,hq1,hu1,hb2⟩:=zq3 hN hT hG hqu
   simp only[List.length_append,List.length_singleton] at hlen hpl
   have x1:IntKind.wrap .i64 (((List.length (todo'++[(p,d,q,e)]):Nat):Int) - 1)=((todo'.length:Nat):Int):=by
    rw[List.length_append,List.length_singleton,zE]<;>omega
   have x2:inR ((todo'.length:Nat):Int) (List.length (todo'++[(p,d,q,e)]))=some todo'.length:=zac (by simp)
   have x3:(todo'++[(p,d,q,e)])[todo'.length]? = some (p,d,q,e):=zsP _ [] _
   have x4:(((List.length (todo'++[(p,d,q,e)]):Nat):Int)==0)=false:=by simp; omega
   have hsol:∀ θ,SolB θ B→(Sol θ (E'++[(s,u)])↔Sol θ E'∧s1.sub θ=u1.sub θ):=fun θ hθ=>by
    rw[Sol.append,Sol.cons,hs1 θ hθ,hu1 θ hθ]
    exact ⟨fun h=>⟨h.1,h.2.1⟩,fun h=>⟨h.1,h.2,Sol.nil⟩⟩
   -- one round
   have round:∀ rec,zz rec (a0,to,todo'++[(p,d,q,e)])=(gx p1 0).bind fun e34=>cond (decide (e34<0))
     ((qn p1 d1 q1 e1 a0 to).bind fun r35=>cond r35.1 (rec (r35.2.1,r35.2.2,todo')) (some (false,r35.2.1,r35.2.2)))
     ((gx q1 0).bind fun e36=>cond (decide (e36<0))
      ((qn q1 e1 p1 d1 a0 to).bind fun r37=>cond r37.1 (rec (r37.2.1,r37.2.2,todo')) (some (false,r37.2.1,r37.2.2)))
      ((gx p1 0).bind fun e38=>(gx q1 0).bind fun e39=>cond (e38 != e39) (some (false,a0,to))
       ((zcv p1 (some 1) none).bind fun y40=>(zcv q1 (some 1) none).bind fun y41=>(qV y40 d1 y41 e1 a0 to todo').bind fun r42=>rec (a0,to,r42)))):=by
    intro rec
    unfold zz
    simp only[x1,x2,x3,x4,Option.bind_some,cond_false,zs3,hw1,hw2]
   have hbind:∀{B1:Bd} {v:Nat} {w:Tm},(∀ θ,SolB θ B1↔SolB θ B∧θ v=w.sub θ)→(∀ θ,SolB θ B→(s1.sub θ=u1.sub θ↔θ v=w.sub θ))→∀ θ,(SolB θ B1∧Sol θ E')↔(SolB θ B∧Sol θ (E'++[(s,u)])):=by
    intro B1 v w h1 h2 θ
    rw[h1 θ]
    constructor
    ·rintro⟨⟨h3,h4⟩,h5⟩
     exact ⟨h3,(hsol θ h3).2 ⟨h5,(h2 θ h3).2 h4⟩⟩
    ·rintro⟨h3,h4⟩
     have h6:=(hsol θ h3).1 h4
     exact ⟨⟨h3,(h2 θ h3).1 h6.2⟩,h6.1⟩
   have hwt:∀ σ',wt σ' E'+1≤wt σ' (E'++[(s,u)]):=fun σ'=>by
    rw[zmY,zCL]
    have:=(s.sub σ').size_pos
    show wt σ' E'+1≤wt σ' E'+(s.sub σ').size
    omega
   rcases hp1.cases with ⟨k1,n1,rfl,rfl,hk1,hn1,rfl⟩ | ⟨c1,r1,ts1,rfl,rfl,hc1,hr1⟩
   ·-- a variable on the left
    obtain⟨r,to1,hput,hres⟩:=ztR hN hT hG hp1 hq1 (hb1 _ rfl) hb2
    rcases hres with ⟨rfl,hno⟩ | ⟨rfl,B1,σ1,hT1,hG1,hB1⟩
    ·refine stop (false,a0,to1) ⟨rfl,.inl ⟨rfl,fun θ h1 h2=>hno θ h1 ((hsol θ h1).1 h2).2⟩⟩ fun rec => ?_
     rw[round,ql,List.getElem?_cons_zero,Option.bind_some,decide_eq_true (show -1 - (k1:Int)<0 by omega),cond_true,hput]
     rfl
    ·refine go to1 B1 σ1 todo' E' hT1 hG1 hP' (hK.left.mono fun θ h=>((hB1 θ).1 h).1) (hbind hB1 fun θ _=>Iff.rfl) (fun θ h=>((hB1 θ).1 h).1) (fun σ' _=>hwt σ') fun rec => ?_
     rw[round,ql,List.getElem?_cons_zero,Option.bind_some,decide_eq_true (show -1 - (k1:Int)<0 by omega),cond_true,hput]
     rfl
   ·rcases hq1.cases with ⟨k2,n2,rfl,rfl,hk2,hn2,rfl⟩ | ⟨c2,r2,ts2,rfl,rfl,hc2,hr2⟩
    ·obtain⟨r,to1,hput,hres⟩:=ztR hN hT hG hq1 hp1 (hb2 _ rfl) hb1
     rcases hres with ⟨rfl,hno⟩ | ⟨rfl,B1,σ1,hT1,hG1,hB1⟩
     ·refine stop (false,a0,to1) ⟨rfl,.inl ⟨rfl,fun θ h1 h2=>hno θ h1 ((hsol θ h1).1 h2).2.symm⟩⟩ fun rec => ?_
      rw[round]
      simp only[ql,List.getElem?_cons_zero,Option.bind_some]
      rw[decide_eq_false (show ¬(c1:Int)<0 by omega),cond_false,decide_eq_true (show -1 - (k2:Int)<0 by omega),cond_true,hput]
      rfl
     ·refine go to1 B1 σ1 todo' E' hT1 hG1 hP' (hK.left.mono fun θ h=>((hB1 θ).1 h).1) (hbind hB1 fun θ _=>⟨fun h=>h.symm,fun h=>h.symm⟩) (fun θ h=>((hB1 θ).1 h).1) (fun σ' _=>hwt σ') fun rec => ?_
      rw[round]
      simp only[ql,List.getElem?_cons_zero,Option.bind_some]
      rw[decide_eq_false (show ¬(c1:Int)<0 by omega),cond_false,decide_eq_true (show -1 - (k2:Int)<0 by omega),cond_true,hput]
      rfl
    ·by_cases hcc:c1=c2
     ·subst hcc
      have hl:ts1.length=ts2.length:=by rw[hc1] at hc2; injection hc2
      have hl3:ts1.length≤3:=zkM hs hc1
      obtain⟨more,hm1,hm2⟩:=zoH hs hr1 hr2 hl to (out:=todo') (by omega)
      refine go to B σ (todo'++more) (E'++ts1.zip ts2) hT hG (hP'.append hm2) ?_ ?_ (fun _ h=>h) ?_ fun rec => ?_
      ·intro i e hi
       rcases Nat.lt_or_ge i E'.length with hlt | hge
       ·rw[List.getElem?_append_left hlt] at hi
        exact hK.left i e hi
       ·rw[List.getElem?_append_right hge] at hi
        have hi3:i - E'.length<3:=by
         have:=(List.getElem?_eq_some_iff.1 hi).1
         rw[List.length_zip] at this
         omega
        obtain⟨δ,h1,h2⟩:=hK E'.length (s,u) (by rw[List.getElem?_append_right (Nat.le_refl _),Nat.sub_self]; rfl)
        refine ⟨δ+1,by omega,fun θ hθ => ?_⟩
        obtain⟨c,hc,h3⟩:=h2 θ hθ
        refine ⟨c,hc,?_⟩
        have h3:δ+(s.sub θ).ht≤(c.sub θ).ht:=h3
        rw[hs1 θ hθ] at h3
        have h4:e.1∈ts1:=(List.of_mem_zip (a:=e.1) (b:=e.2) (List.mem_of_getElem? hi)).1
        have h5:(e.1.sub θ).ht≤htR (zbR θ ts1):=zsQ (by rw[znT]; exact List.mem_map_of_mem h4)
        have h6:((Tm.f c1 ts1).sub θ).ht=htR (zbR θ ts1)+1:=rfl
        omega
      ·intro θ
       rw[Sol.append,Sol.zip hl]
       constructor
       ·rintro⟨h1,h2,h3⟩
        exact ⟨h1,(hsol θ h1).2 ⟨h2,zGy.2 ⟨rfl,h3⟩⟩⟩
       ·rintro⟨h1,h2⟩
        have h3:=(hsol θ h1).1 h2
        exact ⟨h1,h3.1,(zGy.1 h3.2).2⟩
      ·intro σ' hσ'
       rw[zmY,zmY,zCL,zwR σ' hl]
       show _≤wt σ' E'+(s.sub σ').size
       rw[hs1 σ' hσ']
       show _≤wt σ' E'+(zaO (zbR σ' ts1)+1)
       omega
      ·rw[round]
       simp only[ql,List.getElem?_cons_zero,Option.bind_some]
       rw[decide_eq_false (show ¬(c1:Int)<0 by omega),cond_false,cond_false,show ((c1:Int) != (c1:Int))=false from by simp,cond_false,zcA,Option.bind_some,zcA,Option.bind_some,hm1]
       rfl
     ·refine stop (false,a0,to) ⟨rfl,.inl ⟨rfl,fun θ h1 h2=>hcc (zGy.1 ((hsol θ h1).1 h2).2).1⟩⟩ fun rec => ?_
      rw[round]
      simp only[ql,List.getElem?_cons_zero,Option.bind_some]
      rw[decide_eq_false (show ¬(c1:Int)<0 by omega),cond_false,decide_eq_false (show ¬(c2:Int)<0 by omega),cond_false,show ((c1:Int) != (c2:Int))=true from by simp; omega,cond_true]
theorem zwy {a0:List zq} (hs:SignOk a0) {N:Nat} (hN:N≤24) {to:List PO} {B:Bd} {σ:Sb} (hT:RepT a0 N to B) (hG:Good B σ) {p q:List Int} {d e:Int} {ts us:List Tm} (hp:Pr a0 N p d ts) (hq:Pr a0 N q e us) (hl:ts.length=us.length) :
  ∃ r,zaV p d q e a0 to=some r∧SameR a0 N B (ts.zip us) r:=by
 have eta:∀ o:Option (Bool×List zq×List PO),(o.bind fun r=>some (r.1,r.2.1,r.2.2))=o:=fun o=>by cases o<;>rfl
 obtain⟨more,hm1,hm2⟩:=zoH hs hp hq hl to (out:=[]) (by simp)
 have e0:zaV p d q e a0 to=lp zz (zi+1) (a0,to,more):=by
  unfold zaV
  rw[hm1,Option.bind_some,zc,List.nil_append]
  generalize lp zz zi=rec
  unfold zz
  simp only[eta]
 have hsz:∀ c∈ts,c.size≤48:=fun c hc=>by
  obtain⟨us0,n,h1,rfl,h2,h3,rfl,h4⟩:=hp
  obtain⟨c0,h5,rfl⟩:=List.mem_map.1 hc
  rw[Tm.up_size,← Tm.codes_len]
  exact Nat.le_trans (zeo h5) h4
 have hlen:ts.length≤48:=by
  obtain⟨us0,n,h1,rfl,h2,h3,rfl,h4⟩:=hp
  have:=zec (yh us0 h1)
  rw[List.length_map] at this ⊢
  omega
 have hK:StkOk ts B (ts.zip us):=fun i x hi=>by
  have hi0:=(List.getElem?_eq_some_iff.1 hi).1
  rw[List.length_zip] at hi0
  exact ⟨0,by omega,fun θ _=>⟨x.1,(List.of_mem_zip (a:=x.1) (b:=x.2) (List.mem_of_getElem? hi)).1,by omega⟩⟩
 rw[e0]
 rcases zAo hs hN ts hsz (48*(48*48 ^ 49)+1) to B σ more (ts.zip us) hT hG hm2 hK with ⟨r,h1,h2⟩ | ⟨B',σ',h1,h2,h3,h4⟩
 ·have:=h1 (zi+1 - (48*(48*48 ^ 49)+1))
  rw[show zi+1 - (48*(48*48 ^ 49)+1)+(48*(48*48 ^ 49)+1)=zi+1 from by unfold zi; omega] at this
  exact ⟨r,this,h2⟩
 ·exfalso
  rw[zwR σ' hl,znT,zpg,List.map_map] at h4
  have h5:∀ l:List Tm,(∀ c∈l,c.size≤48)→(l.map (Tm.size ∘ Tm.sub σ')).sum≤l.length*(48*48 ^ 49):=by
   intro l
   induction l with
   | nil=>intro _; simp
   | cons c l ih =>
    intro h
    have h6:=ih fun c hc=>h c (List.mem_cons_of_mem _ hc)
    have h7:=h1.small_sub h2 c
    have h8:=h c (List.mem_cons_self ..)
    have h9:c.size*48 ^ 49≤48*48 ^ 49:=Nat.mul_le_mul_right _ h8
    simp only[List.map_cons,List.sum_cons,List.length_cons,Function.comp_apply]
    rw[Nat.add_mul,Nat.one_mul]
    omega
  have h6:=h5 ts hsz
  have h7:ts.length*(48*48 ^ 49)≤48*(48*48 ^ 49):=Nat.mul_le_mul_right _ hlen
  omega
end
end Go.Abs.Q
namespace Go.Abs.Q
open Go Go.Abs
section
def zhh (s:Sb) (c:Int):List Int:=if c<0 then (s (-1 - c).toNat).codes else [c]
mutual
theorem Tm.codes_sub (s:Sb):(t:Tm)→(t.sub s).codes=t.codes.flatMap (zhh s)
 | .v n=>by
  show (s n).codes=[-1 - (n:Int)].flatMap (zhh s)
  simp only[List.flatMap_cons,List.flatMap_nil,List.append_nil,zhh]
  rw[if_pos (by omega),show (-1 - (-1 - (n:Int))).toNat=n from by omega]
 | .f c as=>by
  show (c:Int)::zh (zbR s as)=((c:Int)::zh as).flatMap (zhh s)
  rw[List.flatMap_cons,zfC s as]
  unfold zhh
  rw[if_neg (by omega)]
  rfl
theorem zfC (s:Sb):(ts:List Tm)→zh (zbR s ts)=(zh ts).flatMap (zhh s)
 | []=>rfl
 | t::ts=>by
  show (t.sub s).codes++zh (zbR s ts)=(t.codes++zh ts).flatMap (zhh s)
  rw[Tm.codes_sub s t,zfC s ts,List.flatMap_append]
end
theorem zoz {k:Nat} (hk:k<24) (p:Option jI):zas p 0 (-1 - (k:Int))=some (k:Int):=by
 unfold zas
 rw[zbY (by omega) (by omega),Option.bind_some]
 congr 1
 rw[zE]<;>omega
section
variable {a0:List zq} {to:List PO} {B:Bd} {σ:Sb}
def zFH (o:List Int):Option jI:=if o.length≤48 then some o else none
theorem zsx (hT:RepT a0 0 to B) (hG:Good B σ) (p:List Int) (hp48:p.length≤48) (rf:((Option jI)×Int×jS×(List PO))→Option (Option jI))
  (hrf:∀(y:Nat) q d u,(-1 - (y:Int))∈p→to[y]? = some (some q,d)→B y=some u→rf (some q,d,a0,to)=some (zFH (u.sub σ).codes)):∀(es:List Int) (i k:Nat) (out:List Int),p.drop i=es→es.length<k→(∀ c∈es,-24≤c)→out.length≤48 →
  lp (yI rf) k (some p,((p.length:Nat):Int),(i:Int),a0,to,some p,0,out)=some (if out.length+(es.flatMap (zhh σ)).length≤48 then .inl (out++es.flatMap (zhh σ)) else .inr ()):=by
 intro es
 induction es with
 | nil =>
  intro i k out h hk _ ho
  obtain⟨k,rfl⟩:∃ k',k=k'+1:=⟨k - 1,by simp at hk; omega⟩
  rw[zc]
  generalize lp (yI rf) k=rec
  unfold yI
  have hi:p.length≤i:=by
   have:=congrArg List.length h
   simp at this; omega
  rw[decide_eq_false (show ¬((i:Int)<((p.length:Nat):Int)) by omega),cond_false]
  simp [ho]
 | cons c es ih =>
  intro i k out h hk hc ho
  obtain⟨k,rfl⟩:∃ k',k=k'+1:=⟨k - 1,by simp at hk; omega⟩
  rw[zc]
  have key:=fun out' ho'=>ih (i+1) k out' (za h) (by simp at hk; omega) (fun c h=>hc c (List.mem_cons_of_mem _ h)) ho'
  generalize lp (yI rf) k=rec at key ⊢
  unfold yI
  have hget:=zb h
  have hi:i<p.length:=(List.getElem?_eq_some_iff.1 hget).1
  have hmem:c∈p:=List.mem_of_getElem? hget
  have hw:IntKind.wrap .i64 ((i:Int)+1)=((i+1:Nat):Int):=by rw[zE]<;>omega
  rw[decide_eq_true (show ((i:Int)<((p.length:Nat):Int)) by omega),cond_true]
  simp only[Option.getD_some,zp,hget,Option.bind_some,hw]
  -- one code that stays
  have stay:zhh σ c=[c]→(((nn ([c]:List Int)).bind fun _=>some false).bind fun z=>cond z (some (Sum.inr ()))
    (cond (decide ((IntKind.wrap .i64 (((List.length out:Nat):Int)+((List.length ([c]:List Int):Nat):Int)))>48)) (some (Sum.inr ()))
     (cond (qi (List.length out+List.length ([c]:List Int)) 8) (rec (some p,((p.length:Nat):Int),((i+1:Nat):Int),a0,to,some p,0,(out++([c]:List Int)))) none))) =
    some (if out.length+((c::es).flatMap (zhh σ)).length≤48 then .inl (out++(c::es).flatMap (zhh σ)) else .inr ()):=by
   intro he
   have e1:(nn ([c]:List Int))=some [c]:=rfl
   rw[e1,List.flatMap_cons,he]
   have w2:IntKind.wrap .i64 (((List.length out:Nat):Int)+((List.length ([c]:List Int):Nat):Int))=((out.length+1:Nat):Int):=by
    rw[zE]<;>simp only[List.length_singleton]<;>omega
   simp only[Option.bind_some,cond_false,w2]
   simp only[List.length_append,List.length_singleton]
   by_cases h48:out.length+1≤48
   ·rw[decide_eq_false (show ¬(((out.length+1:Nat):Int)>48) by omega),cond_false,zD (by omega),cond_true,key _ (by simp; omega)]
    simp only[List.length_append,List.length_singleton,List.append_assoc]
    have:out.length+1+(es.flatMap (zhh σ)).length=out.length+(1+(es.flatMap (zhh σ)).length):=by omega
    rw[this]
   ·rw[decide_eq_true (show (((out.length+1:Nat):Int)>48) by omega),cond_true,if_neg (by omega)]
  by_cases h0:c<0
  ·obtain⟨y,hy,rfl⟩:∃ y:Nat,y<24∧c = -1 - (y:Int):=⟨(-1 - c).toNat,by have:=hc c (List.mem_cons_self ..); omega,by omega⟩
   rw[decide_eq_true h0,cond_true,zoz hy,Option.bind_some,zac (show y<48 by omega),Option.bind_some]
   obtain⟨e,he,hpe⟩:=hT.get (x:=y) (by omega)
   rw[he,Option.bind_some]
   have hexp:zhh σ (-1 - (y:Int))=(σ y).codes:=by
    unfold zhh
    rw[if_pos h0,show (-1 - (-1 - (y:Int))).toNat=y from by omega]
   unfold PcO at hpe
   split at hpe
   ·rename_i h1
    rw[h1]
    simp only[Option.isNone_none,Bool.not_true,cond_false]
    exact stay (by rw[hexp,hG.free y hpe]; rfl)
   ·rename_i q h1
    obtain⟨u,hu,hq⟩:=hpe
    rw[h1]
    simp only[Option.isNone_some,Bool.not_false,cond_true,zoz hy,Option.bind_some,zac (show y<48 by omega),he]
    rw[h1,hrf y q e.2 u hmem (by rw[he,← h1]) hu,Option.bind_some]
    rw[List.flatMap_cons,hexp,hG.bound y u hu]
    unfold zFH
    by_cases hsz:(u.sub σ).codes.length≤48
    ·rw[if_pos hsz]
     have w2:IntKind.wrap .i64 (((List.length out:Nat):Int)+(((u.sub σ).codes.length:Nat):Int))=((out.length+(u.sub σ).codes.length:Nat):Int):=by
      rw[zE]<;>omega
     simp only[Option.isNone_some,cond_false,Option.getD_some,w2]
     simp only[List.length_append]
     by_cases h48:out.length+(u.sub σ).codes.length≤48
     ·rw[decide_eq_false (show ¬(((out.length+(u.sub σ).codes.length:Nat):Int)>48) by omega),cond_false,zD (by omega),cond_true,key _ (by simp; omega)]
      simp only[List.length_append,List.append_assoc]
      rw[Nat.add_assoc]
     ·rw[decide_eq_true (show (((out.length+(u.sub σ).codes.length:Nat):Int)>48) by omega),cond_true,if_neg (by omega)]
    ·rw[if_neg hsz]
     simp only[Option.isNone_none,cond_true,List.length_append]
     rw[if_neg (by omega)]
  ·rw[decide_eq_false h0,cond_false]
   exact stay (by unfold zhh; rw[if_neg h0])
theorem zy2 (hT:RepT a0 0 to B) (hG:Good B σ):∀(k m:Nat) (p:List Int) (d:Int) (t:Tm),Pc a0 0 p d t→(∀ y,t.has y→B y≠none→Good.rank σ y<m)→m<k →
  qU k (some p,d,a0,to)=some (zFH (t.sub σ).codes):=by
 intro k
 induction k with
 | zero=>intro m p d t _ _ h; omega
 | succ k ih =>
  intro m p d t hp hm hk
  obtain⟨u,n,h1,rfl,rfl,h2,rfl,h3⟩:=hp
  have hn:n=0:=by omega
  subst hn
  rw[Tm.up_zero] at hm ⊢
  have hsmall:∀ c∈u.codes,-24≤c:=fun c hc=>by
   by_cases h0:c<0
   ·have:=Tm.ok_has u h1 ((Tm.mem_codes h0 u).1 hc); omega
   ·omega
  show zdF (qU k) (some u.codes) ((0:Nat):Int) a0 to=_
  unfold zdF
  have hr:=zsx hT hG u.codes h3 (qU k) (fun y q d w hy hto hw=>by
   have hyu:u.has y:=by
    have:=(Tm.mem_codes (by omega) u).1 hy
    rwa [show (-1 - (-1 - (y:Int))).toNat=y from by omega] at this
   have hpc:Pc a0 0 q d w:=by
    have:=hT.at_ y _ hto
    obtain⟨t',h5,h6⟩:=(show ∃ t,B y=some t∧Pc a0 0 q d t from this)
    rw[hw] at h5; injection h5 with h5; subst h5
    exact h6
   have hlt:=hm y hyu (by rw[hw]; simp)
   exact ih (Good.rank σ y) q d w hpc (fun z hz hb=>hG.rank_lt hw hz (by
    cases hbz:B z with
    | none=>exact absurd hbz hb
    | some x=>exact (hT.small z x hbz).1)) (by omega)) u.codes 0 zi [] rfl (by unfold zi; omega) hsmall (by simp)
  simp only[Option.getD_some]
  have hr:lp (yI (qU k)) zi (some u.codes,((u.codes.length:Nat):Int),0,a0,to,some u.codes,((0:Nat):Int),[])=_:=hr
  rw[hr,← Tm.codes_sub]
  unfold zFH
  have hne:nn (u.sub σ).codes=some (u.sub σ).codes:=zlu fun e=>by
   have:=congrArg List.length e
   rw[Tm.codes_len] at this
   have:=(u.sub σ).size_pos
   simp at *; omega
  by_cases h48:(u.sub σ).codes.length≤48
  ·simp only[List.length_nil,Nat.zero_add,List.nil_append]
   rw[if_pos h48,if_pos h48]
   simp only[Option.bind_some,zcj,hne]
  ·simp only[List.length_nil,Nat.zero_add]
   rw[if_neg h48,if_neg h48]
   rfl
theorem zvg (hT:RepT a0 0 to B) (hG:Good B σ) {p:List Int} {d:Int} {t:Tm} (hp:Pc a0 0 p d t):zeQ (some p) d a0 to=some (zFH (t.sub σ).codes):=by
 refine zy2 hT hG zi 49 p d t hp (fun y _ _ => ?_) (by unfold zi; omega)
 have:=Good.rank_le σ y
 omega
def zuJ (B:Bd) (v:Nat):Bool:=(B v).isSome
def zbS (B:Bd) (σ:Sb) (vs:List Nat):List (Int×List Int):=(vs.filter (zuJ B)).map fun v:Nat=>((v:Int),(σ v).codes)
def za9 (σ:Sb) (vs:List Nat):Bool:=vs.all fun x=>decide ((σ x).size≤48)
theorem zsL (hT:RepT a0 0 to B) (hG:Good B σ):∀(m v k:Nat) (out:List (Int×List Int)),24 - v=m→v≤24→m<k→out.length≤v →
  lp zbb k ((v:Int),a0,to,out)=some (cond (za9 σ ((List.range 24).drop v)) (.inl (out++zbS B σ ((List.range 24).drop v))) (.inr (false,401))):=by
 intro m
 induction m with
 | zero =>
  intro v k out hm hv hk ho
  obtain⟨k,rfl⟩:∃ k',k=k'+1:=⟨k - 1,by omega⟩
  rw[zc]
  generalize lp zbb k=rec
  unfold zbb
  have:v=24:=by omega
  subst this
  rw[show (List.range 24).drop 24=[] from rfl]
  simp [zbS,za9]
 | succ m ih =>
  intro v k out hm hv hk ho
  obtain⟨k,rfl⟩:∃ k',k=k'+1:=⟨k - 1,by omega⟩
  rw[zc]
  have key:=fun out' ho'=>ih (v+1) k out' (by omega) (by omega) (by omega) ho'
  generalize lp zbb k=rec at key ⊢
  unfold zbb
  have w:IntKind.wrap .i64 ((v:Int)+1)=((v+1:Nat):Int):=by rw[zE]<;>omega
  obtain⟨e,he,hpe⟩:=hT.get (x:=v) (by omega)
  have hdr:(List.range 24).drop v=v::(List.range 24).drop (v+1):=by
   rw[List.drop_eq_getElem_cons (by simp; omega)]
   simp
  simp only[decide_eq_true (show (v:Int)<24 by omega),cond_true,zac (show v<48 by omega),Option.bind_some,he,w]
  rw[hdr]
  unfold PcO at hpe
  split at hpe
  ·rename_i h1
   rw[h1]
   simp only[Option.isNone_none,cond_true]
   rw[key out (by omega)]
   have hs:(σ v).size≤48:=by rw[hG.free v hpe]; simp [Tm.size]
   have hb:zuJ B v=false:=by simp [zuJ,hpe]
   simp [zbS,za9,hb,hs]
  ·rename_i q h1
   obtain⟨u,hu,hq⟩:=hpe
   rw[h1]
   simp only[Option.isNone_some,cond_false]
   rw[zvg hT hG hq,Option.bind_some,← hG.bound v u hu]
   unfold zFH
   rw[Tm.codes_len]
   by_cases hs:(σ v).size≤48
   ·rw[if_pos hs]
    simp only[Option.isNone_some,cond_false,Option.getD_some]
    rw[zhb (by rw[Tm.codes_len]; omega),Option.bind_some,zD (by simp only[List.length_singleton]; omega),cond_true,key _ (by simp only[List.length_append,List.length_singleton]; omega)]
    have hb:zuJ B v=true:=by simp [zuJ,hu]
    simp [zbS,za9,hb,hs]
   ·rw[if_neg hs]
    simp only[Option.isNone_none,cond_true]
    simp [za9,hs]
end
structure Mgu (σ:Sb) (E:List (Tm×Tm)):Prop where
 sol:Sol σ E
 gen:∀ θ,Sol θ E→∀ x,(σ x).sub θ=θ x
 le:∀ x y,σ x = .v y→y≤x
 idem:∀ x,(σ x).sub σ=σ x
theorem Mgu.of {B:Bd} {σ:Sb} {E:List (Tm×Tm)} (hG:Good B σ) (h:∀ θ,SolB θ B↔SolB θ (fun _=>none)∧Sol θ E):Mgu σ E where
 sol:=((h σ).1 hG.bound).2
 gen:=fun θ hθ=>hG.fac ((h θ).2 ⟨fun _ _ h=>(nomatch h),hθ⟩)
 le:=hG.le
 idem:=fun x=>by rw[← hG.fac hG.bound x]; exact hG.idem _
theorem Mgu.unique {σ σ':Sb} {E:List (Tm×Tm)} (h:Mgu σ E) (h':Mgu σ' E):σ=σ':=by
 have f1:∀ x,(σ x).sub σ'=σ' x:=h.gen σ' h'.sol
 have f2:∀ x,(σ' x).sub σ=σ x:=h'.gen σ h.sol
 have root:∀ y,σ y = .v y→σ' y = .v y:=by
  intro y hy
  have h1:(σ' y).sub σ = .v y:=by rw[f2,hy]
  cases hz:σ' y with
  | f c as=>rw[hz] at h1; cases h1
  | v z =>
   rw[hz] at h1
   have h2:=h'.le y z hz
   have h3:=h.le z y h1
   have:z=y:=by omega
   rw[this]
 have fix:∀ t:Tm,t.sub σ=t→∀ y,t.has y→σ y = .v y:=by
  intro t
  have key:∀ n,(∀ t:Tm,t.size≤n→t.sub σ=t→∀ y,t.has y→σ y = .v y)∧∀ ts:List Tm,zaO ts≤n→zbR σ ts=ts→∀ y,zk2 y ts→σ y = .v y:=by
   intro n
   induction n with
   | zero =>
    refine ⟨fun t ht=>absurd t.size_pos (by omega),fun ts hts he y hy => ?_⟩
    cases ts with
    | nil=>exact hy.elim
    | cons t ts=>have:=t.size_pos; simp only[zaO] at hts; omega
   | succ n ih =>
    have h1:∀ t:Tm,t.size≤n+1→t.sub σ=t→∀ y,t.has y→σ y = .v y:=by
     intro t ht he y hy
     cases t with
     | v z =>
      have hy:z=y:=hy
      subst hy
      exact he
     | f c as =>
      have he:Tm.f c (zbR σ as)=Tm.f c as:=he
      injection he with _ he
      simp only[Tm.size] at ht
      exact ih.2 as (by omega) he y hy
    refine ⟨h1,fun ts => ?_⟩
    induction ts with
    | nil=>intro _ _ y hy; exact hy.elim
    | cons t ts iht =>
     intro hts he y hy
     have he:t.sub σ::zbR σ ts=t::ts:=he
     injection he with he1 he2
     simp only[zaO] at hts
     have:=t.size_pos
     rcases hy with hy | hy
     ·exact h1 t (by omega) he1 y hy
     ·exact ih.2 ts (by omega) he2 y hy
  exact (key t.size).1 t (Nat.le_refl _)
 funext x
 rw[← f1 x]
 conv=>lhs; rw[← Tm.sub_v (σ x)]
 exact Tm.sub_ext _ fun y hy=>(root y (fix _ (h.idem x) y hy)).symm
def moved (σ:Sb) (v:Nat):Bool:=match σ v with
 | .v y => !(y==v)
 | .f _ _=>true
theorem zxa {B:Bd} {σ:Sb} (h:Good B σ) (v:Nat):zuJ B v=moved σ v:=by
 have:=h.moved (x:=v)
 unfold zuJ moved
 cases hb:B v with
 | none =>
  rw[h.free v hb]
  simp
 | some t =>
  have h1:=this.1 (by rw[hb]; simp)
  cases hs:σ v with
  | f c as=>rfl
  | v y =>
   rw[hs] at h1
   have:y≠v:=fun e=>h1 (by rw[e])
   simp [this]
def zd9 (σ:Sb):List (Int×List Int):=((List.range 24).filter (moved σ)).map fun v:Nat=>((v:Int),(σ v).codes)
theorem zLa (a0:List zq) (N:Nat):RepT a0 N to0 (fun _=>none) where
 len:=by simp [to0]
 at_:=fun x e h=>by
  have hx:x<48:=by
   have:=(List.getElem?_eq_some_iff.1 h).1
   simpa[to0] using this
  rw[zFo hx] at h
  injection h with h
  rw[← h]
  rfl
 out:=fun _ _=>rfl
theorem zoB {a0:List zq} {xs ys:List Int} {ts us:List Tm} (hs:SignOk a0) (hx:xs=zh ts) (hy:ys=zh us) (ht:okR a0 24 ts) (hu:okR a0 24 us) (hb:zds a0=true) (hlx:xs.length≤48) (hly:ys.length≤48) :
  (zeN a0 xs ys=some (false,0,[])∧(ts.length≠us.length∨∀ θ,¬ Sol θ (ts.zip us))) ∨
  (ts.length=us.length∧∃ σ,Mgu σ (ts.zip us)∧(∀ x,x<24→(σ x).ok a0 24)∧zeN a0 xs ys=some (cond (za9 σ (List.range 24)) (true,0,zd9 σ) (false,401,[]))):=by
 have hr:∀{zs:List Int} {ws:List Tm},zs=zh ws→okR a0 24 ws→zs.length≤48→zhm a0 zs=some ws.length:=by
  intro zs ws h1 h2 h3
  unfold zhm zb5
  rw[hb,decide_eq_true h3,h1,yh ws h2]
  simp
 unfold zeN
 rw[zgh,hr hx ht hlx,Option.bind_some,zgh,hr hy hu hly,Option.bind_some]
 simp only
 rw[show ((0:Int) != 0)=false from rfl,cond_false,cond_false]
 by_cases hl:ts.length=us.length
 ·rw[hl,show (((us.length:Nat):Int) != ((us.length:Nat):Int))=false from by simp,cond_false]
  obtain⟨r,h1,h2,h3⟩:=zwy hs (N:=0) (by omega) (zLa a0 0) Good.empty (p:=xs) (q:=ys) (d:=0) (e:=0) (ts:=ts) (us:=us)
   ⟨ts,0,ht,hx,rfl,Nat.le_refl _,by rw[show Tm.up 0=id from funext Tm.up_zero,List.map_id],hlx⟩ ⟨us,0,hu,hy,rfl,Nat.le_refl _,by rw[show Tm.up 0=id from funext Tm.up_zero,List.map_id],hly⟩ hl
  have h1:zaV xs 0 ys 0 a0 (List.replicate 48 ((none:Option jI),(0:Int)))=some r:=h1
  rw[h1,Option.bind_some]
  rcases h3 with ⟨h3,h4⟩ | ⟨h3,B',h4,⟨σ,h5⟩,-,h6⟩
  ·rw[h3]
   exact .inl ⟨rfl,.inr fun θ h=>h4 θ (fun _ _ h=>(nomatch h)) h⟩
  ·rw[h3]
   have hok:∀ x,x<24→(σ x).ok a0 24:=by
    refine h5.ind (fun x hx hlt=>by rw[h5.free x hx]; exact hlt) fun x t hx ih _ => ?_
    have hto:Pc a0 0 t.codes 0 t:=by
     obtain⟨e,he,hpe⟩:=h4.get (x:=x) (h4.small x t hx).1
     unfold PcO at hpe
     split at hpe
     ·rw[hx] at hpe; cases hpe
     ·obtain⟨u,hu,hq⟩:=hpe
      rw[hx] at hu; injection hu with hu; subst hu
      obtain⟨u0,n,g1,g2,g3,g4,g5,g6⟩:=hq
      have:n=0:=by omega
      subst this
      rw[Tm.up_zero] at g5
      subst g5
      exact ⟨t,0,g1,rfl,rfl,Nat.le_refl _,(Tm.up_zero t).symm,by rw[← g2]; exact g6⟩
    obtain⟨u0,n,g1,g2,g3,g4,g5,g6⟩:=hto
    have:n=0:=by omega
    subst this
    rw[Tm.up_zero] at g5
    subst g5
    rw[h5.bound x t hx]
    exact Tm.ok_sub t g1 fun y hy=>ih y hy (Tm.ok_has t g1 hy)
   refine .inr ⟨rfl,σ,Mgu.of h5 h6,hok,?_⟩
   simp only[Bool.not_true,cond_false]
   have:=zsL (a0:=r.2.1) (by rw[h2]; exact h4) h5 24 0 zi [] rfl (by omega) (by unfold zi; omega) (by simp)
   rw[show ((0:Nat):Int)=0 from rfl] at this
   rw[this,List.drop_zero]
   have he:zbS B' σ (List.range 24)=zd9 σ:=by
    unfold zbS zd9
    rw[show zuJ B'=moved σ from funext (zxa h5)]
   cases za9 σ (List.range 24) with
   | true=>simp only[cond_true,Option.bind_some,zcj,List.nil_append,he]
   | false=>rfl
 ·rw[show (((ts.length:Nat):Int) != ((us.length:Nat):Int))=true from by simp; omega,cond_true]
  exact .inl ⟨rfl,.inl hl⟩
end
end Go.Abs.Q
namespace Go.Abs.Q
open Go Go.Abs
section
theorem zEd {n:Int} (h1:0≤n) (h2:n≤9223372036854775807):IntKind.wrap .u64 n=n:=by
 simp [IntKind.wrap,IntKind.signed,IntKind.bits]
 omega
abbrev Rise (xs:List Int):Prop:=xs.Pairwise (· < ·)
theorem Rise.lt {xs:List Int} (h:Rise xs) {i j:Nat} {x y:Int} (hi:xs[i]? = some x) (hj:xs[j]? = some y) (hij:i<j):x<y:=by
 obtain⟨h1,rfl⟩:=List.getElem?_eq_some_iff.1 hi
 obtain⟨h2,rfl⟩:=List.getElem?_eq_some_iff.1 hj
 exact List.pairwise_iff_getElem.1 h i j h1 h2 hij
def zFJ (r:List Int) (x:Int):Prop:=∃ c∈r,c<0∧x = -1 - c
def zoR (rs:List jI) (x:Int):Prop:=∃ r∈rs,zFJ r x
theorem zrn {r:List Int} {rs:List jI} {x:Int}:zoR (r::rs) x↔zFJ r x∨zoR rs x:=by simp [zoR]
theorem zgf {rs ss:List jI} {x:Int}:zoR (rs++ss) x↔zoR rs x∨zoR ss x:=by
 simp only[zoR,List.mem_append]
 constructor
 ·rintro⟨r,h | h,h2⟩
  ·exact .inl ⟨r,h,h2⟩
  ·exact .inr ⟨r,h,h2⟩
 ·rintro (⟨r,h,h2⟩ | ⟨r,h,h2⟩)
  ·exact ⟨r,.inl h,h2⟩
  ·exact ⟨r,.inr h,h2⟩
theorem zsu (r:List Int) (rs:List jI):zv (r::rs)=r.length+zv rs:=by simp [zv]
theorem zcq (rs ss:List jI):zv (rs++ss)=zv rs+zv ss:=by simp [zv]
def zcm (L:List zl) (T:List jI) (C:List zl):List jI:=L.map (·.2)++C.map (·.2)++T
def TopV (rs:List jI) (m:Int):Prop:=(∀ x,zoR rs x→x<m)∧(m=0∨zoR rs (m - 1))
end
end Go.Abs.Q
namespace Go.Abs.Q
open Go Go.Abs
section
def zbT (s:Sb) (r:List Int):List Int:=r.flatMap (zhh s)
theorem zow (σ:Sb) (v:Nat):(vs:List Nat)→zey ((vs.filter (moved σ)).map fun v:Nat=>((v:Int),(σ v).codes)) (v:Int)=if v∈vs∧moved σ v=true then some (σ v).codes else none
 | []=>by simp [zey]
 | w::vs=>by
  have ih:=zow σ v vs
  cases hm:moved σ w with
  | false =>
   rw[List.filter_cons_of_neg (by simp [hm]),ih]
   by_cases hv:v=w
   ·subst hv
    simp [hm]
   ·simp [hv]
  | true =>
   rw[List.filter_cons_of_pos hm,List.map_cons]
   unfold zey at ih ⊢
   rw[List.find?_cons]
   by_cases hv:v=w
   ·subst hv
    simp [hm]
   ·rw[show (((w:Nat):Int)==(v:Int))=false from by simp; omega,ih]
    simp [hv]
theorem zzT {σ:Sb} {r:List Int} (h:∀ c∈r,-24≤c):onB (zd9 σ) r=zbT σ r:=by
 unfold onB zbT
 induction r with
 | nil=>rfl
 | cons c r ih =>
  rw[List.flatMap_cons,List.flatMap_cons,ih fun c hc=>h c (List.mem_cons_of_mem _ hc)]
  congr 1
  have hc:=h c (List.mem_cons_self ..)
  unfold onC zhh
  by_cases h0:c≥0
  ·rw[decide_eq_true h0,cond_true,if_neg (by omega)]
  ·rw[decide_eq_false h0,cond_false,if_pos (by omega)]
   obtain⟨k,hk,rfl⟩:∃ k:Nat,k<24∧c = -1 - (k:Int):=⟨(-1 - c).toNat,by omega,by omega⟩
   have e1:(-1:Int) - (-1 - (k:Int))=(k:Int):=by omega
   rw[e1,Int.toNat_natCast]
   unfold zd9
   rw[zow σ k]
   cases hm:moved σ k with
   | true=>simp [hk]
   | false =>
    have:σ k = .v k:=by
     unfold moved at hm
     split at hm
     ·rename_i y hy
      have:y=k:=by simpa using hm
      rw[hy,this]
     ·cases hm
    rw[this]
    simp [Tm.codes]
theorem ztS {σ:Sb} (h:za9 σ (List.range 24)=true):BindsOk (zd9 σ) where
 len:=by
  unfold zd9
  rw[List.length_map]
  have:=List.length_filter_le (moved σ) (List.range 24)
  simp at this
  omega
 all:=fun b hb=>by
  unfold zd9 at hb
  obtain⟨v,hv,rfl⟩:=List.mem_map.1 hb
  have hv:=(List.mem_filter.1 hv).1
  have h1:=List.all_eq_true.1 h v hv
  have h2:=(σ v).size_pos
  have h3:=(σ v).codes_len
  have h4:(σ v).size≤48:=of_decide_eq_true h1
  refine ⟨fun e => ?_,?_⟩
  ·have:=congrArg List.length e
   simp only[List.length_nil] at this
   omega
  ·show (σ v).codes.length≤1000
   omega
def zao (s:Sb) (ls:List zl):List zl:=ls.map fun l=>(l.1,zbT s l.2)
theorem zmr {σ:Sb} {ls:List zl} (h:∀ l∈ls,∀ c∈l.2,-24≤c):zoA (zd9 σ) ls=zao σ ls:=by
 unfold zoA zao
 exact List.map_congr_left fun l hl=>by rw[zzT (h l hl)]
theorem zs5 {σ:Sb} {rs:List jI} (h:∀ r∈rs,∀ c∈r,-24≤c):zwU (zd9 σ) rs=rs.map (zbT σ):=by
 unfold zwU
 exact List.map_congr_left fun r hr=>zzT (h r hr)
theorem zda {a0:List zq} {xs:List Int} (h:zaS a0 xs=true):∃(c:Nat) (ts:List Tm) (e:zq),xs=(c:Int)::zh ts∧okR a0 24 ts∧a0[c]? = some e∧e.2.1=0∧((ts.length:Nat):Int)=e.2.2.1∧(zh ts).length≤48∧zds a0=true:=by
 obtain⟨x,r,e,ps,rfl,h0,h1,-,h2,h3,h4,h5,h6⟩:=ziF h
 obtain⟨ts,h7,h8,h9⟩:=zCE h5
 refine ⟨x.toNat,ts,e,by rw[← h9,Int.toNat_of_nonneg h0],h7,h1,h2,?_,by rw[← h9]; exact h4,h3⟩
 rw[← h6,h8,List.length_map]
theorem zBi {a0:List zq} {c:Nat} {ts:List Tm} {e:zq} (h1:okR a0 24 ts) (h2:a0[c]? = some e) (h3:e.2.1=0) (h4:((ts.length:Nat):Int)=e.2.2.1) (h5:(zh ts).length≤48) (h6:zds a0=true):zaS a0 ((c:Int)::zh ts)=true:=by
 unfold zaS
 simp only[Int.toNat_natCast,h2]
 unfold zb5
 rw[h6,decide_eq_true h5]
 simp [h3,yh ts h1,h4]
theorem ziD {ts:List Tm} {x:Int}:zFJ (zh ts) x↔∃ k:Nat,x=(k:Int)∧zk2 k ts:=by
 constructor
 ·rintro⟨c,h1,h2,rfl⟩
  exact ⟨(-1 - c).toNat,by omega,(zes h2 ts).1 h1⟩
 ·rintro⟨k,rfl,hk⟩
  refine ⟨-1 - (k:Int),(zes (by omega) ts).2 (by rwa [show (-1 - (-1 - (k:Int))).toNat=k from by omega]),by omega,by omega⟩
end
end Go.Abs.Q
namespace Go.Abs.Q
open Go Go.Abs
section
theorem zmT {a0:List zq} {L:List zl} {T:List jI} {C:List zl} (h:zfs a0 L T C=true):∀ r∈zcm L T C,zdU r:=by
 obtain⟨-,-,-,-,h4,h5,h6,-⟩:=z4 h
 intro r hr
 unfold zcm at hr
 rcases List.mem_append.1 hr with hr | hr
 ·rcases List.mem_append.1 hr with hr | hr
  ·obtain⟨l,hl,rfl⟩:=List.mem_map.1 hr; exact zdH h4 l hl
  ·obtain⟨l,hl,rfl⟩:=List.mem_map.1 hr; exact zdH h6 l hl
 ·exact zjL h5 r hr
theorem zDX {a0:List zq} {L:List zl} {T:List jI} {C:List zl} (h:zfs a0 L T C=true) {x:Int} (hx:zoR (zcm L T C) x):0≤x∧x<24:=by
 obtain⟨r,hr,c,hc,h0,rfl⟩:=hx
 have:=(zmT h r hr).2 c hc
 omega
end
end Go.Abs.Q
namespace Go.Abs.Q
open Go Go.Abs
section
abbrev zAg:=List zl×List jI×Bool×Int×List zl
def zwJ (k:Int):Option zAg:=some ([],[],false,k,[])
theorem zql {α:Type} {xs:List α} {i:Int} {x:α} (h:gx xs i=some x):x∈xs:=by
 unfold gx at h
 cases hd:decide (0≤i) with
 | false=>rw[hd] at h; cases h
 | true =>
  rw[hd,cond_true] at h
  exact List.mem_of_getElem? h
def Cds (r:List Int):Prop:=r.length≤1000∧∀ c∈r,-24≤c∧c≤1000000
theorem Cds.near {r:List Int} (h:Cds r):zgQ r:=⟨h.1,fun c hc=>by have:=h.2 c hc; omega⟩
theorem zsk {a0:List zq} (hs:SignOk a0) {L:List zl} {T:List jI} {C:List zl} (h:zfs a0 L T C=true):∀ r∈zcm L T C,Cds r:=by
 intro r hr
 have h1:=zmT h r hr
 obtain⟨-,-,-,-,h4,h5,h6,-⟩:=z4 h
 have h2:zgQ r:=by
  unfold zcm at hr
  rcases List.mem_append.1 hr with hr | hr
  ·rcases List.mem_append.1 hr with hr | hr
   ·obtain⟨l,hl,rfl⟩:=List.mem_map.1 hr; exact zoG hs h4 l hl
   ·obtain⟨l,hl,rfl⟩:=List.mem_map.1 hr; exact zoG hs h6 l hl
  ·exact zve hs h5 r hr
 exact ⟨h2.1,fun c hc=>⟨h1.2 c hc,(h2.2 c hc).2⟩⟩
theorem ze9 {L:List zl} {T:List jI} {C:List zl} {l:zl} (h:l∈L):l.2∈zcm L T C:=by
 unfold zcm
 exact List.mem_append_left _ (List.mem_append_left _ (List.mem_map_of_mem h))
theorem zem {L:List zl} {T:List jI} {C:List zl} {l:zl} (h:l∈C):l.2∈zcm L T C:=by
 unfold zcm
 exact List.mem_append_left _ (List.mem_append_right _ (List.mem_map_of_mem h))
theorem ze7 {L:List zl} {T:List jI} {C:List zl} {r:List Int} (h:r∈T):r∈zcm L T C:=by
 unfold zcm
 exact List.mem_append_right _ h
theorem zB2 {σ:Sb} (hsh:za9 σ (List.range 24)=true) {L:List zl} {T:List jI} {C:List zl} (hL:∀ l∈L,Cds l.2) (hT:∀ r∈T,Cds r) (hC:∀ l∈C,Cds l.2) (h1:L.length≤1000) (h2:T.length≤1000) (h3:C.length≤1000) :
  zhQ (zd9 σ) L T C=some (zao σ L,T.map (zbT σ),zao σ C):=by
 rw[zq7 (ztS hsh) (fun l hl=>(hL l hl).near) (fun r hr=>(hT r hr).near) (fun l hl=>(hC l hl).near) h1 h2 h3,
  zmr fun l hl c hc=>((hL l hl).2 c hc).1,zmr fun l hl c hc=>((hC l hl).2 c hc).1,zs5 fun r hr c hc=>((hT r hr).2 c hc).1]
def zkX (a0:List zq) (σ:Sb) (L:List zl) (T:List jI) (C:List zl) (k:Int):Option zAg :=
 cond (zfs a0 (zao σ L) (T.map (zbT σ)) (zao σ C)) (some ((zdx (zao σ L) (T.map (zbT σ)) (zao σ C)).1,(zdx (zao σ L) (T.map (zbT σ)) (zao σ C)).2.1,true,0,(zdx (zao σ L) (T.map (zbT σ)) (zao σ C)).2.2)) (zwJ k)
end
end Go.Abs.Q
namespace Go.Abs.Q
open Go Go.Abs
section
theorem zb0 {a0:List zq}:∀(n:Nat) (ts us:List Tm),zaO ts≤n→okR a0 24 ts→okR a0 24 us→zh ts=zh us→ts=us:=by
 intro n
 induction n with
 | zero =>
  intro ts us hn _ _ he
  cases ts with
  | cons t ts=>have:=t.size_pos; simp only[zaO] at hn; omega
  | nil =>
   cases us with
   | nil=>rfl
   | cons u us =>
    have:=congrArg List.length he
    rw[zcW,zcW] at this
    have:=u.size_pos
    simp only[zaO] at *; omega
 | succ n ih =>
  intro ts us hn ho ho' he
  cases ts with
  | nil =>
   cases us with
   | nil=>rfl
   | cons u us =>
    have:=congrArg List.length he
    rw[zcW,zcW] at this
    have:=u.size_pos
    simp only[zaO] at *; omega
  | cons t ts =>
   cases us with
   | nil =>
    have:=congrArg List.length he
    rw[zcW,zcW] at this
    have:=t.size_pos
    simp only[zaO] at *; omega
   | cons u us =>
    have he:t.codes++zh ts=u.codes++zh us:=he
    cases t with
    | v k =>
     cases u with
     | v k' =>
      have he:(-1 - (k:Int))::zh ts=(-1 - (k':Int))::zh us:=he
      injection he with h1 h2
      have:k=k':=by omega
      rw[this,ih ts us (by simp only[zaO,Tm.size] at hn; omega) ho.2 ho'.2 h2]
     | f c as =>
      have he:(-1 - (k:Int))::zh ts=(c:Int)::(zh as++zh us):=he
      injection he with h1 h2
      omega
    | f c as =>
     cases u with
     | v k' =>
      have he:(c:Int)::(zh as++zh ts)=(-1 - (k':Int))::zh us:=he
      injection he with h1 h2
      omega
     | f c' bs =>
      have he:(c:Int)::(zh as++zh ts)=(c':Int)::(zh bs++zh us):=he
      injection he with h1 h2
      have hc:c=c':=by omega
      subst hc
      rw[← zll,← zll] at h2
      have ha:=ho.1.1
      have hb:=ho'.1.1
      rw[ha] at hb
      injection hb with hb
      have:=ih (as++ts) (bs++us) (by rw[zqR]; simp only[zaO,Tm.size] at hn; omega)
       (zdE.2 fun t ht=>(List.mem_append.1 ht).elim (zdE.1 ho.1.2 t) (zdE.1 ho.2 t))
       (zdE.2 fun t ht=>(List.mem_append.1 ht).elim (zdE.1 ho'.1.2 t) (zdE.1 ho'.2 t)) h2
      obtain⟨h3,h4⟩:=List.append_inj this hb
      rw[h3,h4]
end
end Go.Abs.Q
namespace Go.Abs.Q
open Go Go.Abs
section
theorem zpa {α:Type} [DecidableEq α]:(a b:List α)→a.Nodup→(∀ x∈a,x∈b)→a.length≤b.length
 | [],_,_,_=>Nat.zero_le _
 | x::a,b,hn,hs=>by
  have hn:=List.nodup_cons.1 hn
  have hx:=hs x (List.mem_cons_self ..)
  have h1:∀ y∈a,y∈b.erase x:=fun y hy=>by
   have hne:y≠x:=fun e=>hn.1 (e▸hy)
   exact (List.mem_erase_of_ne hne).2 (hs y (List.mem_cons_of_mem _ hy))
  have h2:=zpa a (b.erase x) hn.2 h1
  rw[List.length_erase_of_mem hx] at h2
  have:=List.length_pos_of_mem hx
  simp only[List.length_cons]
  omega
theorem zf7 {L:List zl} {i:Int} (h:zea L i=true):∃ l,gx L i=some l:=by
 unfold zea at h
 simp only[Bool.and_eq_true,decide_eq_true_eq] at h
 obtain⟨l,h1,-⟩:=zu5 (xs:=L) h.1 h.2
 exact ⟨l,h1⟩
end
end Go.Abs.Q
namespace Go.Abs.Q
open Go Go.Abs
def zdC (rec:(jI×Int×Int)→Option (Unit⊕Bool)) (x:(jI×Int×Int)):Option (Unit⊕Bool) :=
 cond (decide (x.2.2<((List.length x.1:Nat):Int)))
 ((gx x.1 x.2.2).bind fun e2 =>
  cond (e2==(IntKind.wrap .i64 ((-1) - x.2.1)))
  (some (Sum.inr true))
  (rec (x.1,x.2.1,(IntKind.wrap .i64 (x.2.2+1)))))
 (some (Sum.inl ()))
def zso (a0:jI) (a1:Int):Option Bool :=
 ((lp zdC zi) (a0,a1,0)).bind fun r6 =>
 yg r6
 (fun z7=>some false)
 (fun z8=>some z8)
def zb3 (rec:(jI×Int×jI)→Option jI) (x:(jI×Int×jI)):Option jI :=
 cond (decide (x.2.1≤23))
 ((zso x.1 x.2.1).bind fun r3 =>
  cond r3
  (cond (qi (List.length x.2.2+List.length ([x.2.1]:List Int)) 8)
   (rec (x.1,(IntKind.wrap .i64 (x.2.1+1)),(x.2.2++([x.2.1]:List Int))))
   (none))
  (rec (x.1,(IntKind.wrap .i64 (x.2.1+1)),x.2.2)))
 (some x.2.2)
def znS (a0:jI):Option jI :=
 ((lp zb3 zi) (a0,0,([]:jI))).bind fun r5 =>
 some r5
def zbd (rec:(jR×Int×jI)→Option jI) (x:(jR×Int×jI)):Option jI :=
 cond (decide (x.2.1<((List.length x.1:Nat):Int)))
 ((gx x.1 x.2.1).bind fun e4 =>
  cond (qi (List.length x.2.2+List.length e4) 8)
  (rec (x.1,(IntKind.wrap .i64 (x.2.1+1)),(x.2.2++e4)))
  (none))
 (some x.2.2)
def zjz (a0:jQ) (a1:jR) (a2:jQ):Option jI :=
 (zf6 a0 a1 a2).bind fun r7 =>
 ((lp zbd zi) (r7,0,([]:jI))).bind fun r8 =>
 (znS r8).bind fun r9 =>
 some r9
def ztF:Option jI :=
 cond (eqI 24 24)
 (cond (zI7 24)
  (cond (qi (Int.toNat 24) 8)
   (some (List.replicate (Int.toNat 24) (0:Int)))
   (none))
  (none))
 (none)
def qt (rec:(jI×Int×Int×Int×jI)→Option Int) (x:(jI×Int×Int×Int×jI)):Option Int :=
 cond (decide (x.2.2.1<((List.length x.1:Nat):Int)))
 ((gx x.1 x.2.2.1).bind fun e2 =>
  rec (x.1,(IntKind.wrap .u64 ((IntKind.wrap .u64 ((IntKind.wrap .u64 (x.2.1*5))+(IntKind.wrap .u64 e2)))+3)),(IntKind.wrap .i64 (x.2.2.1+1)),x.2.2.2.1,x.2.2.2.2))
 (some x.2.1)
def zaF (a0:Int) (a1:jI) (a2:Int) (a3:jI):Option Int :=
 cond (((List.length a1:Nat):Int)==0)
 (some 0)
 (((lp qt zi) (a3,(IntKind.wrap .u64 (IntKind.wrap .i64 ((IntKind.wrap .i64 (a2*7))+1))),0,a0,a1)).bind fun r6 =>
  cond (decide ((IntKind.wrap .u64 ((List.length a1:Nat):Int))=0))
  (none)
  ((gx a1 (IntKind.wrap .i64 (Int.tmod r6 (IntKind.wrap .u64 ((List.length a1:Nat):Int))))).bind fun e7 =>
   (zw2 .and .i64 e7 255).bind fun b8 =>
   some b8))
def qS (rf:((Int×jI×jS×jI×Int×jI)→Option (Int×Int))) (rec:(jS×jI×Int×jI×Int×Int×Int×jI×jI)→Option (Int×jI)) (x:(jS×jI×Int×jI×Int×Int×Int×jI×jI)):Option (Int×jI) :=
 (gx x.1 x.2.2.2.2.1).bind fun e7 =>
 cond (decide (x.2.2.2.2.2.1<e7.2.2.1))
 ((rf (x.2.2.2.2.2.2.1,x.2.2.2.2.2.2.2.1,x.1,x.2.1,x.2.2.1,x.2.2.2.1)).bind fun r8 =>
  cond (qi (List.length x.2.2.2.2.2.2.2.2+List.length ([r8.1]:List Int)) 8)
  (rec (x.1,x.2.1,r8.2,x.2.2.2.1,x.2.2.2.2.1,(IntKind.wrap .i64 (x.2.2.2.2.2.1+1)),x.2.2.2.2.2.2.1,x.2.2.2.2.2.2.2.1,(x.2.2.2.2.2.2.2.2++([r8.1]:List Int))))
  (none))
 (some (x.2.2.1,x.2.2.2.2.2.2.2.2))
def zdk (rf:((Int×jI×jS×jI×Int×jI)→Option (Int×Int))) (a0:Int) (a1:jI) (a2:jS) (a3:jI) (a4:Int) (a5:jI):Option (Int×Int) :=
 (gx a3 a4).bind fun e11 =>
 cond (decide (e11<0))
 ((gx a5 (IntKind.wrap .i64 ((-1) - e11))).bind fun e12 =>
  some (e12,(IntKind.wrap .i64 (a4+1))))
 (((lp (qS rf) zi) (a2,a3,(IntKind.wrap .i64 (a4+1)),a5,e11,0,a0,a1,([]:jI))).bind fun r13 =>
  (zaF a0 a1 e11 r13.2).bind fun r14 =>
  cond (decide (a0=0))
  (none)
  (some ((Int.tmod r14 a0),r13.1)))
def zgg (rf:((Int×jI×jS×jI×Int×jI)→Option (Int×Int))):((Int×jI×jS×jI×Int×jI)→Option (Int×Int)) :=
 fun (x:(Int×jI×jS×jI×Int×jI))=>zdk rf x.1 x.2.1 x.2.2.1 x.2.2.2.1 x.2.2.2.2.1 x.2.2.2.2.2
def zgA:((Int×jI×jS×jI×Int×jI)→Option (Int×Int)):=fun _=>none
def zb8 (k:Nat):((Int×jI×jS×jI×Int×jI)→Option (Int×Int)):=lpR zgA zgg k
def zg5 (a0:Int) (a1:jI) (a2:jS) (a3:jI) (a4:Int) (a5:jI):Option (Int×Int):=(zb8 zi) (a0,a1,a2,a3,a4,a5)
def qB (rec:(jS×jI×jI×Int×Int×jI×jI)→Option jI) (x:(jS×jI×jI×Int×Int×jI×jI)):Option jI :=
 cond (decide (x.2.2.2.1<((List.length x.2.1:Nat):Int)))
 ((zg5 x.2.2.2.2.1 x.2.2.2.2.2.1 x.1 x.2.1 x.2.2.2.1 x.2.2.1).bind fun r3 =>
  cond (qi (List.length x.2.2.2.2.2.2+List.length ([r3.1]:List Int)) 8)
  (rec (x.1,x.2.1,x.2.2.1,r3.2,x.2.2.2.2.1,x.2.2.2.2.2.1,(x.2.2.2.2.2.2++([r3.1]:List Int))))
  (none))
 (some x.2.2.2.2.2.2)
def zcu (a0:Int) (a1:jI) (a2:jS) (a3:jI) (a4:jI):Option jI :=
 ((lp qB zi) (a2,a3,a4,0,a0,a1,([]:jI))).bind fun r5 =>
 some r5
def zdf (a0:Int) (a1:jI) (a2:jS) (a3:jI) (a4:jI):Option Bool :=
 (zcv a3 (some 1) none).bind fun y11 =>
 (zcu a0 a1 a2 y11 a4).bind fun r12 =>
 (gx a3 0).bind fun e13 =>
 cond (e13==0)
 ((inR 0 (List.length r12)).bind fun k14 =>
  (r12[k14]?).bind fun x15 =>
  (inR 1 (List.length r12)).bind fun k16 =>
  (r12[k16]?).bind fun x17 =>
  some (x15==x17))
 ((gx a3 0).bind fun e18 =>
  (zaF a0 a1 e18 r12).bind fun r19 =>
  (zw2 .and .i64 r19 1).bind fun b20 =>
  some (b20==1))
def zb2 (a0:Int) (a1:jI) (a2:jS) (a3:Bool) (a4:jI) (a5:jI):Option Bool :=
 (zdf a0 a1 a2 a4 a5).bind fun r2 =>
 some (!(r2==a3))
def zcK (a0:Int) (a1:jI) (a2:jS) (a3:jI) (a4:jI):Option Bool :=
 (zcu a0 a1 a2 a3 a4).bind fun r4 =>
 (zaF a0 a1 101 r4).bind fun r5 =>
 (zw2 .and .i64 r5 2).bind fun b6 =>
 some (b6==2)
def qj (rec:(jS×jI×Int×Int×jI×jQ×jR×jQ)→Option (Unit⊕Bool)) (x:(jS×jI×Int×Int×jI×jQ×jR×jQ)):Option (Unit⊕Bool) :=
 cond (decide (x.2.2.1<((List.length x.2.2.2.2.2.2.1:Nat):Int)))
 ((gx x.2.2.2.2.2.2.1 x.2.2.1).bind fun e15 =>
  (zcK x.2.2.2.1 x.2.2.2.2.1 x.1 e15 x.2.1).bind fun r16 =>
  cond r16
  (some (Sum.inr true))
  (rec (x.1,x.2.1,(IntKind.wrap .i64 (x.2.2.1+1)),x.2.2.2.1,x.2.2.2.2.1,x.2.2.2.2.2.1,x.2.2.2.2.2.2.1,x.2.2.2.2.2.2.2)))
 (some (Sum.inl ()))
def qw (rec:(jS×jI×Int×Int×jI×jQ×jR×jQ)→Option (Unit⊕Bool)) (x:(jS×jI×Int×Int×jI×jQ×jR×jQ)):Option (Unit⊕Bool) :=
 cond (decide (x.2.2.1<((List.length x.2.2.2.2.2.1:Nat):Int)))
 ((gx x.2.2.2.2.2.1 x.2.2.1).bind fun e9 =>
  (zb2 x.2.2.2.1 x.2.2.2.2.1 x.1 e9.1 e9.2 x.2.1).bind fun r10 =>
  cond r10
  (some (Sum.inr true))
  (rec (x.1,x.2.1,(IntKind.wrap .i64 (x.2.2.1+1)),x.2.2.2.1,x.2.2.2.2.1,x.2.2.2.2.2.1,x.2.2.2.2.2.2.1,x.2.2.2.2.2.2.2)))
 (some (Sum.inl ()))
def qx (rec:(jS×jI×Int×Int×jI×jQ×jR×jQ)→Option (Unit⊕Bool)) (x:(jS×jI×Int×Int×jI×jQ×jR×jQ)):Option (Unit⊕Bool) :=
 cond (decide (x.2.2.1<((List.length x.2.2.2.2.2.2.2:Nat):Int)))
 ((gx x.2.2.2.2.2.2.2 x.2.2.1).bind fun e3 =>
  (zb2 x.2.2.2.1 x.2.2.2.2.1 x.1 e3.1 e3.2 x.2.1).bind fun r4 =>
  cond (!r4)
  (some (Sum.inr true))
  (rec (x.1,x.2.1,(IntKind.wrap .i64 (x.2.2.1+1)),x.2.2.2.1,x.2.2.2.2.1,x.2.2.2.2.2.1,x.2.2.2.2.2.2.1,x.2.2.2.2.2.2.2)))
 (some (Sum.inl ()))
def zdg (a0:Int) (a1:jI) (a2:jS) (a3:jQ) (a4:jR) (a5:jQ) (a6:jI):Option Bool :=
 ((lp qx zi) (a2,a6,0,a0,a1,a3,a4,a5)).bind fun r22 =>
 yg r22
 (fun z23=>((lp qw zi) (a2,a6,0,a0,a1,a3,a4,a5)).bind fun r24 =>
  yg r24
  (fun z25=>((lp qj zi) (a2,a6,0,a0,a1,a3,a4,a5)).bind fun r26 =>
   yg r26
   (fun z27=>some false)
   (fun z28=>some z28))
  (fun z29=>some z29))
 (fun z30=>some z30)
def qy (rec:(jI×Int×jI×Int×jI)→Option (jI⊕zl)) (x:(jI×Int×jI×Int×jI)):Option (jI⊕zl) :=
 cond (decide (x.2.1<((List.length x.1:Nat):Int)))
 ((gx x.1 x.2.1).bind fun e23 =>
  (inR e23 (List.length x.2.2.1)).bind fun k24 =>
  (x.2.2.1[k24]?).bind fun x25 =>
  (inR e23 (List.length x.2.2.1)).bind fun k26 =>
  (x.2.2.1[k26]?).bind fun x27 =>
  (gx x.1 x.2.1).bind fun e28 =>
  (inR e28 (List.length (List.set x.2.2.1 k26 (IntKind.wrap .i64 (x25+1))))).bind fun k29 =>
  ((List.set x.2.2.1 k26 (IntKind.wrap .i64 (x25+1)))[k29]?).bind fun x30 =>
  cond (decide (x30<x.2.2.2.1))
  (some (Sum.inr (true,(List.set x.2.2.1 k26 (IntKind.wrap .i64 (x25+1))))))
  ((gx x.1 x.2.1).bind fun e31 =>
   (inR e31 (List.length (List.set x.2.2.1 k26 (IntKind.wrap .i64 (x25+1))))).bind fun k32 =>
   ((List.set x.2.2.1 k26 (IntKind.wrap .i64 (x25+1)))[k32]?).bind fun x33 =>
   rec (x.1,(IntKind.wrap .i64 (x.2.1+1)),(List.set (List.set x.2.2.1 k26 (IntKind.wrap .i64 (x25+1))) k32 0),x.2.2.2.1,x.2.2.2.2)))
 (some (Sum.inl x.2.2.1))
def zdb (a0:Int) (a1:jI) (a2:jI) (a3:jI):Option zl :=
 ((lp qy zi) (a2,0,a3,a0,a1)).bind fun r37 =>
 yg r37
 (fun z38=>cond (!(List.isEmpty a3)&&true)
  (cond (Nat.beq (List.length a3) (List.length z38)&&true)
   (some (false,z38))
   (none))
  (none))
 (fun z39=>cond (!(List.isEmpty a3)&&true)
  (cond (Nat.beq (List.length a3) (List.length z39.2)&&true)
   (some (z39.1,z39.2))
   (none))
  (none))
def zbh (rec:(jS×jI×Int×jI×jQ×jR×jQ×jI)→Option Bool) (x:(jS×jI×Int×jI×jQ×jR×jQ×jI)):Option Bool :=
 (zdg x.2.2.1 x.2.2.2.1 x.1 x.2.2.2.2.1 x.2.2.2.2.2.1 x.2.2.2.2.2.2.1 x.2.2.2.2.2.2.2).bind fun r5 =>
 cond (!r5)
 (some false)
 ((zdb x.2.2.1 x.2.2.2.1 x.2.1 x.2.2.2.2.2.2.2).bind fun r6 =>
  cond (!r6.1)
  (some true)
  (rec (x.1,x.2.1,x.2.2.1,x.2.2.2.1,x.2.2.2.2.1,x.2.2.2.2.2.1,x.2.2.2.2.2.2.1,r6.2)))
def zcw (a0:Int) (a1:jI) (a2:jS) (a3:jQ) (a4:jR) (a5:jQ):Option Bool :=
 (zjz a3 a4 a5).bind fun r8 =>
 (ztF).bind fun r9 =>
 ((lp zbh zi) (a2,r8,a0,a1,a3,a4,a5,r9)).bind fun r10 =>
 some r10
end Go.Abs.Q
namespace Go.Abs.Q
open Go Go.Abs
def zbL (s1:Int):List Int→Option (Unit⊕Bool)
 | []=>some (Sum.inl ())
 | e::es =>
  cond (e==(IntKind.wrap .i64 ((-1) - s1)))
  (some (Sum.inr true))
  (zbL s1 es)
theorem zmh (s0:jI) (s1:Int) (hl:List.length s0≤maxLen):∀(es:List Int) (i:Nat) (k:Nat),s0.drop i=es→es.length<k→lp zdC k (s0,s1,(i:Int))=zbL s1 es:=by
 intro es
 induction es with
 | nil =>
  intro i k h hk
  obtain⟨k,rfl⟩:∃ k',k=k'+1:=⟨k - 1,by omega⟩
  rw[zc]
  generalize lp zdC k=rec
  unfold zdC zbL
  simp only[zk (zg h),cond_false]
 | cons e es ih =>
  intro i k h hk
  obtain⟨k,rfl⟩:∃ k',k=k'+1:=⟨k - 1,by omega⟩
  rw[zc]
  have hi:=ze h
  have hk2:es.length<k:=Nat.lt_of_succ_lt_succ hk
  have key:=fun (_:Unit)=>ih (i+1) k (za h) hk2
  generalize lp zdC k=rec at key ⊢
  unfold zdC zbL
  simp only[zn hi,cond_true,zp,zb h,Option.bind_some,zo hi hl,key ()]
theorem zlt (s0:jI) (s1:Int) (hl:List.length s0≤maxLen):lp zdC zi (s0,s1,0)=zbL s1 s0 :=
 zmh s0 s1 hl s0 0 zi rfl (Nat.lt_of_le_of_lt hl (by decide))
def y5:List jI→jI→Option jI
 | [],s2=>some s2
 | e::es,s2 =>
  cond (qi (List.length s2+List.length e) 8)
  (y5 es (s2++e))
  (none)
theorem ziX (s0:jR) (hl:List.length s0≤maxLen):∀(es:List jI) (i:Nat) (k:Nat) (s2:jI),s0.drop i=es→es.length<k→lp zbd k (s0,(i:Int),s2)=y5 es s2:=by
 intro es
 induction es with
 | nil =>
  intro i k s2 h hk
  obtain⟨k,rfl⟩:∃ k',k=k'+1:=⟨k - 1,by omega⟩
  rw[zc]
  generalize lp zbd k=rec
  unfold zbd y5
  simp only[zk (zg h),cond_false]
 | cons e es ih =>
  intro i k s2 h hk
  obtain⟨k,rfl⟩:∃ k',k=k'+1:=⟨k - 1,by omega⟩
  rw[zc]
  have hi:=ze h
  have hk2:es.length<k:=Nat.lt_of_succ_lt_succ hk
  have key:=fun s2=>ih (i+1) k s2 (za h) hk2
  generalize lp zbd k=rec at key ⊢
  unfold zbd y5
  simp only[zn hi,cond_true,zp,zb h,Option.bind_some,zo hi hl,key]
theorem zhA (s0:jR) (s2:jI) (hl:List.length s0≤maxLen):lp zbd zi (s0,0,s2)=y5 s0 s2 :=
 ziX s0 hl s0 0 zi s2 rfl (Nat.lt_of_le_of_lt hl (by decide))
def qe:List Int→Int→Option Int
 | [],s1=>some s1
 | e::es,s1 =>
  qe es (IntKind.wrap .u64 ((IntKind.wrap .u64 ((IntKind.wrap .u64 (s1*5))+(IntKind.wrap .u64 e)))+3))
theorem zfU (s0:jI) (s3:Int) (s4:jI) (hl:List.length s0≤maxLen):∀(es:List Int) (i:Nat) (k:Nat) (s1:Int),s0.drop i=es→es.length<k→lp qt k (s0,s1,(i:Int),s3,s4)=qe es s1:=by
 intro es
 induction es with
 | nil =>
  intro i k s1 h hk
  obtain⟨k,rfl⟩:∃ k',k=k'+1:=⟨k - 1,by omega⟩
  rw[zc]
  generalize lp qt k=rec
  unfold qt qe
  simp only[zk (zg h),cond_false]
 | cons e es ih =>
  intro i k s1 h hk
  obtain⟨k,rfl⟩:∃ k',k=k'+1:=⟨k - 1,by omega⟩
  rw[zc]
  have hi:=ze h
  have hk2:es.length<k:=Nat.lt_of_succ_lt_succ hk
  have key:=fun s1=>ih (i+1) k s1 (za h) hk2
  generalize lp qt k=rec at key ⊢
  unfold qt qe
  simp only[zn hi,cond_true,zp,zb h,Option.bind_some,zo hi hl,key]
theorem zfd (s0:jI) (s3:Int) (s4:jI) (s1:Int) (hl:List.length s0≤maxLen):lp qt zi (s0,s1,0,s3,s4)=qe s0 s1 :=
 zfU s0 s3 s4 hl s0 0 zi s1 rfl (Nat.lt_of_le_of_lt hl (by decide))
def yq (s0:jS) (s1:jI) (s3:Int) (s4:jI):List jI→Option (Unit⊕Bool)
 | []=>some (Sum.inl ())
 | e::es =>
  (zcK s3 s4 s0 e s1).bind fun r16 =>
  cond r16
  (some (Sum.inr true))
  (yq s0 s1 s3 s4 es)
theorem zfX (s0:jS) (s1:jI) (s3:Int) (s4:jI) (s5:jQ) (s6:jR) (s7:jQ) (hl:List.length s6≤maxLen):∀(es:List jI) (i:Nat) (k:Nat),s6.drop i=es→es.length<k→lp qj k (s0,s1,(i:Int),s3,s4,s5,s6,s7)=yq s0 s1 s3 s4 es:=by
 intro es
 induction es with
 | nil =>
  intro i k h hk
  obtain⟨k,rfl⟩:∃ k',k=k'+1:=⟨k - 1,by omega⟩
  rw[zc]
  generalize lp qj k=rec
  unfold qj yq
  simp only[zk (zg h),cond_false]
 | cons e es ih =>
  intro i k h hk
  obtain⟨k,rfl⟩:∃ k',k=k'+1:=⟨k - 1,by omega⟩
  rw[zc]
  have hi:=ze h
  have hk2:es.length<k:=Nat.lt_of_succ_lt_succ hk
  have key:=fun (_:Unit)=>ih (i+1) k (za h) hk2
  generalize lp qj k=rec at key ⊢
  unfold qj yq
  simp only[zn hi,cond_true,zp,zb h,Option.bind_some,zo hi hl,key ()]
theorem zfg (s0:jS) (s1:jI) (s3:Int) (s4:jI) (s5:jQ) (s6:jR) (s7:jQ) (hl:List.length s6≤maxLen):lp qj zi (s0,s1,0,s3,s4,s5,s6,s7)=yq s0 s1 s3 s4 s6 :=
 zfX s0 s1 s3 s4 s5 s6 s7 hl s6 0 zi rfl (Nat.lt_of_le_of_lt hl (by decide))
def yw (s0:jS) (s1:jI) (s3:Int) (s4:jI):List zl→Option (Unit⊕Bool)
 | []=>some (Sum.inl ())
 | e::es =>
  (zb2 s3 s4 s0 e.1 e.2 s1).bind fun r10 =>
  cond r10
  (some (Sum.inr true))
  (yw s0 s1 s3 s4 es)
theorem zf5 (s0:jS) (s1:jI) (s3:Int) (s4:jI) (s5:jQ) (s6:jR) (s7:jQ) (hl:List.length s5≤maxLen):∀(es:List zl) (i:Nat) (k:Nat),s5.drop i=es→es.length<k→lp qw k (s0,s1,(i:Int),s3,s4,s5,s6,s7)=yw s0 s1 s3 s4 es:=by
 intro es
 induction es with
 | nil =>
  intro i k h hk
  obtain⟨k,rfl⟩:∃ k',k=k'+1:=⟨k - 1,by omega⟩
  rw[zc]
  generalize lp qw k=rec
  unfold qw yw
  simp only[zk (zg h),cond_false]
 | cons e es ih =>
  intro i k h hk
  obtain⟨k,rfl⟩:∃ k',k=k'+1:=⟨k - 1,by omega⟩
  rw[zc]
  have hi:=ze h
  have hk2:es.length<k:=Nat.lt_of_succ_lt_succ hk
  have key:=fun (_:Unit)=>ih (i+1) k (za h) hk2
  generalize lp qw k=rec at key ⊢
  unfold qw yw
  simp only[zn hi,cond_true,zp,zb h,Option.bind_some,zo hi hl,key ()]
theorem zfr (s0:jS) (s1:jI) (s3:Int) (s4:jI) (s5:jQ) (s6:jR) (s7:jQ) (hl:List.length s5≤maxLen):lp qw zi (s0,s1,0,s3,s4,s5,s6,s7)=yw s0 s1 s3 s4 s5 :=
 zf5 s0 s1 s3 s4 s5 s6 s7 hl s5 0 zi rfl (Nat.lt_of_le_of_lt hl (by decide))
def yv (s0:jS) (s1:jI) (s3:Int) (s4:jI):List zl→Option (Unit⊕Bool)
 | []=>some (Sum.inl ())
 | e::es =>
  (zb2 s3 s4 s0 e.1 e.2 s1).bind fun r4 =>
  cond (!r4)
  (some (Sum.inr true))
  (yv s0 s1 s3 s4 es)
theorem zfZ (s0:jS) (s1:jI) (s3:Int) (s4:jI) (s5:jQ) (s6:jR) (s7:jQ) (hl:List.length s7≤maxLen):∀(es:List zl) (i:Nat) (k:Nat),s7.drop i=es→es.length<k→lp qx k (s0,s1,(i:Int),s3,s4,s5,s6,s7)=yv s0 s1 s3 s4 es:=by
 intro es
 induction es with
 | nil =>
  intro i k h hk
  obtain⟨k,rfl⟩:∃ k',k=k'+1:=⟨k - 1,by omega⟩
  rw[zc]
  generalize lp qx k=rec
  unfold qx yv
  simp only[zk (zg h),cond_false]
 | cons e es ih =>
  intro i k h hk
  obtain⟨k,rfl⟩:∃ k',k=k'+1:=⟨k - 1,by omega⟩
  rw[zc]
  have hi:=ze h
  have hk2:es.length<k:=Nat.lt_of_succ_lt_succ hk
  have key:=fun (_:Unit)=>ih (i+1) k (za h) hk2
  generalize lp qx k=rec at key ⊢
  unfold qx yv
  simp only[zn hi,cond_true,zp,zb h,Option.bind_some,zo hi hl,key ()]
theorem zfo (s0:jS) (s1:jI) (s3:Int) (s4:jI) (s5:jQ) (s6:jR) (s7:jQ) (hl:List.length s7≤maxLen):lp qx zi (s0,s1,0,s3,s4,s5,s6,s7)=yv s0 s1 s3 s4 s7 :=
 zfZ s0 s1 s3 s4 s5 s6 s7 hl s7 0 zi rfl (Nat.lt_of_le_of_lt hl (by decide))
def zV (s3:Int):List Int→jI→Option (jI⊕zl)
 | [],s2=>some (Sum.inl s2)
 | e::es,s2 =>
  (inR e (List.length s2)).bind fun k24 =>
  (s2[k24]?).bind fun x25 =>
  (inR e (List.length s2)).bind fun k26 =>
  (s2[k26]?).bind fun x27 =>
  (inR e (List.length (List.set s2 k26 (IntKind.wrap .i64 (x25+1))))).bind fun k29 =>
  ((List.set s2 k26 (IntKind.wrap .i64 (x25+1)))[k29]?).bind fun x30 =>
  cond (decide (x30<s3))
  (some (Sum.inr (true,(List.set s2 k26 (IntKind.wrap .i64 (x25+1))))))
  ((inR e (List.length (List.set s2 k26 (IntKind.wrap .i64 (x25+1))))).bind fun k32 =>
   ((List.set s2 k26 (IntKind.wrap .i64 (x25+1)))[k32]?).bind fun x33 =>
   zV s3 es (List.set (List.set s2 k26 (IntKind.wrap .i64 (x25+1))) k32 0))
theorem zf1 (s0:jI) (s3:Int) (s4:jI) (hl:List.length s0≤maxLen):∀(es:List Int) (i:Nat) (k:Nat) (s2:jI),s0.drop i=es→es.length<k→lp qy k (s0,(i:Int),s2,s3,s4)=zV s3 es s2:=by
 intro es
 induction es with
 | nil =>
  intro i k s2 h hk
  obtain⟨k,rfl⟩:∃ k',k=k'+1:=⟨k - 1,by omega⟩
  rw[zc]
  generalize lp qy k=rec
  unfold qy zV
  simp only[zk (zg h),cond_false]
 | cons e es ih =>
  intro i k s2 h hk
  obtain⟨k,rfl⟩:∃ k',k=k'+1:=⟨k - 1,by omega⟩
  rw[zc]
  have hi:=ze h
  have hk2:es.length<k:=Nat.lt_of_succ_lt_succ hk
  have key:=fun s2=>ih (i+1) k s2 (za h) hk2
  generalize lp qy k=rec at key ⊢
  unfold qy zV
  simp only[zn hi,cond_true,zp,zb h,Option.bind_some,zo hi hl,key]
theorem zfe (s0:jI) (s3:Int) (s4:jI) (s2:jI) (hl:List.length s0≤maxLen):lp qy zi (s0,0,s2,s3,s4)=zV s3 s0 s2 :=
 zf1 s0 s3 s4 hl s0 0 zi s2 rfl (Nat.lt_of_le_of_lt hl (by decide))
end Go.Abs.Q
namespace Go.Abs.Q
open Go Go.Abs
section
def zdZ (nums:List Int):Prop:=nums≠[]∧nums.length≤9223372036854775807
theorem zjf (n:Int):0≤IntKind.wrap .u64 n∧IntKind.wrap .u64 n<18446744073709551616:=by
 simp [IntKind.wrap,IntKind.signed,IntKind.bits]
 omega
theorem zxZ:(es:List Int)→(h:Int)→(0≤h∧h<18446744073709551616)→∃ h',qe es h=some h'∧0≤h'∧h'<18446744073709551616
 | [],h,hh=>⟨h,rfl,hh⟩
 | e::es,h,_=>zxZ es _ (zjf _)
theorem zsY (a:Int) (b:Nat) (hb:b≤255):∃ v:Nat,zw2 .and .i64 a (b:Int)=some (v:Int)∧v≤b:=by
 refine ⟨(BitVec.ofInt 64 a &&& BitVec.ofInt 64 (b:Int)).toNat,?_,?_⟩
 ·unfold zw2
  simp only[Option.some.injEq]
  have h1:(BitVec.ofInt (IntKind.bits .i64) a &&& BitVec.ofInt (IntKind.bits .i64) (b:Int)).toNat≤255:=by
   rw[BitVec.toNat_and]
   refine Nat.le_trans Nat.and_le_right ?_
   rw[BitVec.toNat_ofInt]
   simp [IntKind.bits]
   omega
  show IntKind.wrap .i64 _=_
  rw[zE (by omega) (by omega)]
  rfl
 ·rw[BitVec.toNat_and]
  refine Nat.le_trans Nat.and_le_right ?_
  rw[BitVec.toNat_ofInt]
  simp
  omega
theorem zzH (m:Int) {nums:List Int} (hn:zdZ nums) (c:Int) {xs:List Int} (hl:xs.length≤1000000):∃ v:Nat,zaF m nums c xs=some (v:Int)∧v≤255:=by
 unfold zaF
 have h0:0<nums.length:=List.length_pos_iff.2 hn.1
 have hl2:=hn.2
 rw[show (((List.length nums:Nat):Int)==0)=false from by simp; exact hn.1,cond_false,zfd _ _ _ _ (by unfold maxLen; omega)]
 obtain⟨h,h1,h2,h3⟩:=zxZ xs _ (zjf (IntKind.wrap .i64 ((IntKind.wrap .i64 (c*7))+1)))
 rw[h1,Option.bind_some]
 have hw:IntKind.wrap .u64 ((List.length nums:Nat):Int)=((nums.length:Nat):Int):=zEd (by omega) (by omega)
 rw[hw,decide_eq_false (show ¬(((nums.length:Nat):Int)=0) by omega),cond_false]
 have r1:0≤Int.tmod h ((nums.length:Nat):Int):=Int.tmod_nonneg _ h2
 have r2:Int.tmod h ((nums.length:Nat):Int)<((nums.length:Nat):Int):=Int.tmod_lt_of_pos _ (by omega)
 generalize Int.tmod h ((nums.length:Nat):Int)=q at r1 r2
 rw[zE (n:=q) (by omega) (by omega)]
 obtain⟨x,hx,-⟩:=zu5 (xs:=nums) r1 r2
 rw[hx,Option.bind_some]
 obtain⟨v,hv,hv2⟩:=zsY x 255 (Nat.le_refl _)
 have hv:zw2 .and .i64 x 255=some (v:Int):=hv
 rw[hv]
 exact ⟨v,rfl,hv2⟩
def zkp (m:Int) (nums:List Int) (c:Int) (xs:List Int):Int:=(zaF m nums c xs).getD 0
theorem zpb (m:Int) {nums:List Int} (hn:zdZ nums) (c:Int) {xs:List Int} (hl:xs.length≤1000000):zaF m nums c xs=some (zkp m nums c xs)∧0≤zkp m nums c xs∧zkp m nums c xs≤255:=by
 obtain⟨v,h1,h2⟩:=zzH m hn c hl
 unfold zkp
 rw[h1]
 exact ⟨rfl,by simp,by simp; omega⟩
section
variable (m:Int) (nums:List Int)
mutual
def zk1 (env:Nat→Int):Tm→Int
 | .v n=>env n
 | .f c ts=>Int.tmod (zkp m nums (c:Int) (zf8 env ts)) m
def zf8 (env:Nat→Int):List Tm→List Int
 | []=>[]
 | t::ts=>zk1 env t::zf8 env ts
end
theorem ziU (env:Nat→Int):(ts:List Tm)→(zf8 m nums env ts).length=ts.length
 | []=>rfl
 | t::ts=>by simp [zf8,ziU env ts]
mutual
theorem zBv (env:Nat→Int) (s:Sb):(t:Tm)→zk1 m nums env (t.sub s)=zk1 m nums (fun n=>zk1 m nums env (s n)) t
 | .v n=>rfl
 | .f c ts=>by
  show Int.tmod (zkp m nums (c:Int) (zf8 m nums env (zbR s ts))) m=_
  rw[ziK env s ts]
  rfl
theorem ziK (env:Nat→Int) (s:Sb):(ts:List Tm)→zf8 m nums env (zbR s ts)=zf8 m nums (fun n=>zk1 m nums env (s n)) ts
 | []=>rfl
 | t::ts=>by
  show zk1 m nums env (t.sub s)::zf8 m nums env (zbR s ts)=_
  rw[zBv env s t,ziK env s ts]
  rfl
end
mutual
theorem zBg {e e':Nat→Int}:(t:Tm)→(∀ x,t.has x→e x=e' x)→zk1 m nums e t=zk1 m nums e' t
 | .v n,h=>h n rfl
 | .f c ts,h=>by
  show Int.tmod (zkp m nums (c:Int) (zf8 m nums e ts)) m=Int.tmod (zkp m nums (c:Int) (zf8 m nums e' ts)) m
  rw[zmq ts h]
theorem zmq {e e':Nat→Int}:(ts:List Tm)→(∀ x,zk2 x ts→e x=e' x)→zf8 m nums e ts=zf8 m nums e' ts
 | [],_=>rfl
 | t::ts,h=>by
  show zk1 m nums e t::zf8 m nums e ts=zk1 m nums e' t::zf8 m nums e' ts
  rw[zBg t fun x hx=>h x (.inl hx),zmq ts fun x hx=>h x (.inr hx)]
end
end
structure EnvOk (m:Int) (E:List Int):Prop where
 len:E.length=24
 rng:∀ x∈E,0≤x∧x<m
def zbV (E:List Int) (n:Nat):Int:=E.getD n 0
theorem EnvOk.get {m:Int} {E:List Int} (h:EnvOk m E) {n:Nat} (hn:n<24):E[n]? = some (zbV E n):=by
 unfold zbV
 rw[List.getD_eq_getElem?_getD,List.getElem?_eq_getElem (by rw[h.len]; exact hn)]
 rfl
theorem EnvOk.val {m:Int} {E:List Int} (h:EnvOk m E) {n:Nat} (hn:n<24):0≤zbV E n∧zbV E n<m:=h.rng _ (List.mem_of_getElem? (h.get hn))
theorem zut {m:Int} (hm:0<m) {nums:List Int} (hn:zdZ nums) {env:Nat→Int} {a0:List zq} (hs:SignOk a0) (t:Tm) (ho:t.ok a0 24) (h:∀ x,x<24→0≤env x∧env x<m):0≤zk1 m nums env t∧zk1 m nums env t<m:=by
 cases t with
 | v n=>exact h n ho
 | f c ts =>
  have h3:ts.length≤3:=zkM hs ho.1
  have h1:=(zpb m hn (c:Int) (xs:=zf8 m nums env ts) (by rw[ziU]; omega)).2
  exact ⟨Int.tmod_nonneg _ h1.1,Int.tmod_lt_of_pos _ hm⟩
theorem zpG {a0:List zq} (hs:SignOk a0) {c q:Nat} (h:zcM a0 (c:Int)=some q):∃ e,gx a0 (c:Int)=some e∧e.2.2.1=(q:Int):=by
 unfold zcM at h
 rw[decide_eq_false (show ¬(c:Int)<0 by omega),cond_false,Int.toNat_natCast] at h
 cases he:a0[c]? with
 | none=>rw[he] at h; cases h
 | some e =>
  rw[he] at h
  simp only at h
  refine ⟨e,by rw[zp,he],?_⟩
  have:=hs.at he
  cases hk:(e.2.1==0) with
  | true=>rw[hk] at h; cases h
  | false=>rw[hk] at h; injection h with h; omega
theorem zoY {m:Int} {nums:List Int} {a0:List zq} (rf:(Int×List Int×List zq×List Int×Int×List Int)→Option (Int×Int)) (r E:List Int) (env:Nat→Int) (c q:Nat) (e:zq) (he:gx a0 (c:Int)=some e) (hq:e.2.2.1=(q:Int)) (hr:r.length≤1000) :
  ∀(us:List Tm) (i k p:Nat) (out rest:List Int),i+us.length=q→q≤3→us.length<k→out.length=i→r.drop p=zh us++rest →
   (∀ u∈us,∀ p rest,r.drop p=u.codes++rest→rf (m,nums,a0,r,(p:Int),E)=some (zk1 m nums env u,((p+u.size:Nat):Int))) →
   lp (qS rf) k (a0,r,(p:Int),E,(c:Int),(i:Int),m,nums,out)=some (((p+zaO us:Nat):Int),out++zf8 m nums env us)
 | [],i,k,p,out,rest,hi,hq3,hk,ho,hd,hrf=>by
  obtain⟨k,rfl⟩:∃ k',k=k'+1:=⟨k - 1,by simp at hk; omega⟩
  rw[zc]
  generalize lp (qS rf) k=rec
  unfold qS
  simp only[he,Option.bind_some,hq]
  rw[decide_eq_false (show ¬((i:Int)<(q:Int)) by simp at hi; omega),cond_false]
  simp [zf8,zaO]
 | u::us,i,k,p,out,rest,hi,hq3,hk,ho,hd,hrf=>by
  obtain⟨k,rfl⟩:∃ k',k=k'+1:=⟨k - 1,by simp at hk; omega⟩
  simp only[List.length_cons] at hi hk
  rw[zc]
  have hd1:r.drop p=u.codes++(zh us++rest):=by rw[hd]; simp [zh]
  have hd2:r.drop (p+u.size)=zh us++rest:=by
   rw[← List.drop_drop,hd1,← Tm.codes_len,List.drop_left]
  have key:=fun out ho=>zoY rf r E env c q e he hq hr us (i+1) k (p+u.size) out rest (by omega) hq3 (by omega) ho hd2 (fun w hw=>hrf w (List.mem_cons_of_mem _ hw))
  generalize lp (qS rf) k=rec at key ⊢
  unfold qS
  have w:IntKind.wrap .i64 ((i:Int)+1)=((i+1:Nat):Int):=by rw[zE]<;>omega
  simp only[he,Option.bind_some,hq,w]
  rw[decide_eq_true (show ((i:Int)<(q:Int)) by omega),cond_true,hrf u (List.mem_cons_self ..) p _ hd1,Option.bind_some,zD (by simp; omega),cond_true,key _ (by simp; omega)]
  simp [zf8,zaO,Nat.add_assoc]
theorem zxg {m:Int} (hm:0<m) {nums:List Int} (hn:zdZ nums) {a0:List zq} (hs:SignOk a0) (r:List Int) (hr:r.length≤1000) {E:List Int} (hE:EnvOk m E):∀(k:Nat) (t:Tm) (p:Nat) (rest:List Int),t.size≤k→t.ok a0 24→r.drop p=t.codes++rest →
  zb8 k (m,nums,a0,r,(p:Int),E)=some (zk1 m nums (zbV E) t,((p+t.size:Nat):Int)):=by
 intro k
 induction k with
 | zero=>intro t p rest h; have:=t.size_pos; omega
 | succ k ih =>
  intro t p rest hk ho hd
  show zdk (zb8 k) m nums a0 r (p:Int) E=_
  have hp:p<r.length:=by
   have:=congrArg List.length hd
   rw[List.length_append,Tm.codes_len,List.length_drop] at this
   have:=t.size_pos
   omega
  unfold zdk
  have w:IntKind.wrap .i64 ((p:Int)+1)=((p+1:Nat):Int):=by rw[zE]<;>omega
  cases t with
  | v n =>
   have hn24:n<24:=ho
   have hd:r.drop p=(-1 - (n:Int))::rest:=hd
   rw[zp,zb hd,Option.bind_some,decide_eq_true (show -1 - (n:Int)<0 by omega),cond_true]
   have w2:IntKind.wrap .i64 ((-1) - (-1 - (n:Int)))=(n:Int):=by rw[zE]<;>omega
   rw[w2,zp,hE.get hn24,Option.bind_some,w]
   rfl
  | f c ts =>
   have hd:r.drop p=(c:Int)::(zh ts++rest):=hd
   have h3:ts.length≤3:=zkM hs ho.1
   obtain⟨e,he,hq⟩:=zpG hs ho.1
   rw[zp,zb hd,Option.bind_some,decide_eq_false (show ¬(c:Int)<0 by omega),cond_false,w]
   simp only[Tm.size] at hk
   have:=zoY (m:=m) (nums:=nums) (a0:=a0) (zb8 k) r E (zbV E) c ts.length e he hq hr ts 0 zi (p+1) [] rest (by omega) h3 (by unfold zi; omega) rfl (za hd) (fun u hu p' rest' hd'=>by
    refine ih u p' rest' ?_ (zdE.1 ho.2 u hu) hd'
    have:u.size≤zaO ts:=by
     obtain⟨l1,l2,rfl⟩:=List.append_of_mem hu
     rw[zqR]; simp only[zaO]; omega
    omega)
   rw[show ((0:Nat):Int)=0 from rfl] at this
   rw[this,Option.bind_some,List.nil_append]
   simp only
   rw[(zpb m hn (c:Int) (xs:=zf8 m nums (zbV E) ts) (by rw[ziU]; omega)).1,Option.bind_some,decide_eq_false (show ¬(m=0) by omega),cond_false]
   show some (_,_)=some (_,_)
   simp only[Tm.size,zk1]
   rw[show p+1+zaO ts=p+(zaO ts+1) from by omega]
theorem zAT {m:Int} (hm:0<m) {nums:List Int} (hn:zdZ nums) {a0:List zq} (hs:SignOk a0) {r:List Int} (hr:r.length≤1000) {E:List Int} (hE:EnvOk m E) {t:Tm} {p:Nat} {rest:List Int} (ho:t.ok a0 24) (hd:r.drop p=t.codes++rest) :
  zg5 m nums a0 r (p:Int) E=some (zk1 m nums (zbV E) t,((p+t.size:Nat):Int)):=by
 refine zxg hm hn hs r hr hE zi t p rest ?_ ho hd
 have:=congrArg List.length hd
 rw[List.length_append,Tm.codes_len,List.length_drop] at this
 unfold zi
 omega
theorem zoI {m:Int} (hm:0<m) {nums:List Int} (hn:zdZ nums) {a0:List zq} (hs:SignOk a0) (r:List Int) (hr:r.length≤1000) {E:List Int} (hE:EnvOk m E):(us:List Tm)→(p k:Nat)→(out:List Int)→r.drop p=zh us→okR a0 24 us→us.length<k→out.length+us.length≤10000 →
  lp qB k (a0,r,E,(p:Int),m,nums,out)=some (out++zf8 m nums (zbV E) us)
 | [],p,k,out,hd,_,hk,_=>by
  obtain⟨k,rfl⟩:∃ k',k=k'+1:=⟨k - 1,by simp at hk; omega⟩
  rw[zc]
  generalize lp qB k=rec
  unfold qB
  have:r.length≤p:=by
   have:=congrArg List.length hd
   simp [zh] at this; omega
  rw[decide_eq_false (show ¬((p:Int)<((List.length r:Nat):Int)) by omega),cond_false]
  simp [zf8]
 | u::us,p,k,out,hd,ho,hk,hl=>by
  obtain⟨k,rfl⟩:∃ k',k=k'+1:=⟨k - 1,by simp at hk; omega⟩
  simp only[List.length_cons] at hk hl
  rw[zc]
  have hd1:r.drop p=u.codes++zh us:=hd
  have hd2:r.drop (p+u.size)=zh us:=by
   rw[← List.drop_drop,hd1,← Tm.codes_len,List.drop_left]
  have key:=fun out ho'=>zoI hm hn hs r hr hE us (p+u.size) k out hd2 ho.2 (by omega) ho'
  generalize lp qB k=rec at key ⊢
  unfold qB
  have hp:p<r.length:=by
   have:=congrArg List.length hd1
   rw[List.length_append,Tm.codes_len,List.length_drop] at this
   have:=u.size_pos
   omega
  rw[decide_eq_true (show ((p:Int)<((List.length r:Nat):Int)) by omega),cond_true,zAT hm hn hs hr hE ho.1 hd1,Option.bind_some,zD (by simp; omega),cond_true,key _ (by simp; omega)]
  simp [zf8]
theorem zrr {m:Int} (hm:0<m) {nums:List Int} (hn:zdZ nums) {a0:List zq} (hs:SignOk a0) {E:List Int} (hE:EnvOk m E) {us:List Tm} (ho:okR a0 24 us) (hl:(zh us).length≤1000) :
  zcu m nums a0 (zh us) E=some (zf8 m nums (zbV E) us):=by
 have h1:=zec (yh us ho)
 rw[List.length_map] at h1
 unfold zcu
 have:=zoI hm hn hs (zh us) hl hE us 0 zi [] rfl ho (by unfold zi; omega) (by simp; omega)
 rw[show ((0:Nat):Int)=0 from rfl] at this
 rw[this]
 rfl
def zuw (m:Int) (nums:List Int) (env:Nat→Int) (c:Nat) (ts:List Tm):Bool :=
 cond (c==0) ((zf8 m nums env ts)[0]? == (zf8 m nums env ts)[1]?) ((zw2 .and .i64 (zkp m nums (c:Int) (zf8 m nums env ts)) 1).getD 0==1)
def zeF (m:Int) (nums:List Int) (env:Nat→Int) (ts:List Tm):Bool:=(zw2 .and .i64 (zkp m nums 101 (zf8 m nums env ts)) 2).getD 0==2
theorem zEn {m:Int} (hm:0<m) {nums:List Int} (hn:zdZ nums) {a0:List zq} (hs:SignOk a0) {E:List Int} (hE:EnvOk m E) {c:Nat} {ts:List Tm} {e:zq} (ho:okR a0 24 ts) (he:a0[c]? = some e) (hlen:((ts.length:Nat):Int)=e.2.2.1) (hl:(zh ts).length≤48) :
  zdf m nums a0 ((c:Int)::zh ts) E=some (zuw m nums (zbV E) c ts):=by
 have h1:=zec (yh ts ho)
 rw[List.length_map] at h1
 unfold zdf zuw
 rw[zcA,Option.bind_some,zrr hm hn hs hE ho (by omega),Option.bind_some,ql,List.getElem?_cons_zero,Option.bind_some]
 by_cases hc:c=0
 ·subst hc
  have h2:ts.length=2:=by
   rw[hs.eq] at he
   injection he with he
   subst he
   have:((ts.length:Nat):Int)=2:=hlen
   omega
  have hv:(zf8 m nums (zbV E) ts).length=2:=by rw[ziU,h2]
  rw[show (((0:Nat):Int)==0)=true from rfl,cond_true,show ((0:Nat)==0)=true from rfl,cond_true]
  have i0:inR 0 (List.length (zf8 m nums (zbV E) ts))=some 0:=zac (i:=0) (by omega)
  have i1:inR 1 (List.length (zf8 m nums (zbV E) ts))=some 1:=zac (i:=1) (by omega)
  rw[i0,i1]
  obtain⟨v0,g0⟩:∃ v,(zf8 m nums (zbV E) ts)[0]? = some v:=⟨_,List.getElem?_eq_getElem (by omega)⟩
  obtain⟨v1,g1⟩:∃ v,(zf8 m nums (zbV E) ts)[1]? = some v:=⟨_,List.getElem?_eq_getElem (by omega)⟩
  simp only[g0,g1,Option.bind_some]
  rfl
 ·rw[show ((c:Int)==0)=false from by simp; omega,cond_false,show (c==0)=false from by simp [hc],cond_false]
  simp only[Option.bind_some]
  rw[(zpb m hn (c:Int) (xs:=zf8 m nums (zbV E) ts) (by rw[ziU]; omega)).1,Option.bind_some]
  obtain⟨v,hv,-⟩:=zsY (zkp m nums (c:Int) (zf8 m nums (zbV E) ts)) 1 (by omega)
  have hv:zw2 .and .i64 (zkp m nums (c:Int) (zf8 m nums (zbV E) ts)) 1=some (v:Int):=hv
  rw[hv]
  rfl
theorem zAK {m:Int} (hm:0<m) {nums:List Int} (hn:zdZ nums) {a0:List zq} (hs:SignOk a0) {E:List Int} (hE:EnvOk m E) {ts:List Tm} (ho:okR a0 24 ts) (hl:(zh ts).length≤48) :
  zcK m nums a0 (zh ts) E=some (zeF m nums (zbV E) ts):=by
 have h1:=zec (yh ts ho)
 rw[List.length_map] at h1
 unfold zcK zeF
 rw[zrr hm hn hs hE ho (by omega),Option.bind_some,(zpb m hn 101 (xs:=zf8 m nums (zbV E) ts) (by rw[ziU]; omega)).1,Option.bind_some]
 obtain⟨v,hv,-⟩:=zsY (zkp m nums 101 (zf8 m nums (zbV E) ts)) 2 (by omega)
 have hv:zw2 .and .i64 (zkp m nums 101 (zf8 m nums (zbV E) ts)) 2=some (v:Int):=hv
 rw[hv]
 rfl
end
end Go.Abs.Q
namespace Go.Abs.Q
open Go Go.Abs
section
abbrev zd5:=Bool×Nat×List Tm
def cl (l:zd5):zl:=(l.1,(l.2.1:Int)::zh l.2.2)
def WfL (a0:List zq) (l:zd5):Prop:=okR a0 24 l.2.2∧(∃ e,a0[l.2.1]? = some e∧e.2.1=0∧((l.2.2.length:Nat):Int)=e.2.2.1)∧(zh l.2.2).length≤48
def WfR (a0:List zq) (ts:List Tm):Prop:=okR a0 24 ts∧(zh ts).length≤48
theorem znb {a0:List zq}:(ls:List zl)→zdV a0 ls=true→∃ lt:List zd5,ls=lt.map cl∧∀ l∈lt,WfL a0 l
 | [],_=>⟨[],rfl,fun _ h=>(nomatch h)⟩
 | l::ls,h=>by
  unfold zdV at h
  rw[List.all_cons,Bool.and_eq_true] at h
  obtain⟨lt,h1,h2⟩:=znb ls h.2
  obtain⟨c,ts,e,h3,h4,h5,h6,h7,h8,-⟩:=zda h.1
  refine ⟨(l.1,c,ts)::lt,by rw[List.map_cons,← h1]; show l::ls=(l.1,(c:Int)::zh ts)::ls; rw[← h3],fun x hx => ?_⟩
  rcases List.mem_cons.1 hx with rfl | hx
  ·exact ⟨h4,⟨e,h5,h6,h7⟩,h8⟩
  ·exact h2 x hx
theorem zzA {a0:List zq} {rs:List jI} (h:zfP a0 rs=true):∃ rt:List (List Tm),rs=rt.map zh∧∀ r∈rt,WfR a0 r:=by
 obtain⟨n,hn⟩:=zhO h
 clear h
 induction rs with
 | nil=>exact ⟨[],rfl,fun _ h=>(nomatch h)⟩
 | cons r rs ih =>
  obtain⟨rt,h1,h2⟩:=ih fun q hq=>hn q (List.mem_cons_of_mem _ hq)
  obtain⟨ps,hc,-,hl,-⟩:=zkU (hn r (List.mem_cons_self ..))
  obtain⟨ts,h3,-,h4⟩:=zCE hc
  refine ⟨ts::rt,by rw[List.map_cons,← h1,← h4],fun x hx => ?_⟩
  rcases List.mem_cons.1 hx with rfl | hx
  ·exact ⟨h3,by rw[← h4]; exact hl⟩
  ·exact h2 x hx
theorem zBr {a0:List zq} {L:List zl} {T:List jI} {C:List zl} (h:zfs a0 L T C=true):∃(Lt:List zd5) (Tt:List (List Tm)) (Ct:List zd5),L=Lt.map cl∧T=Tt.map zh∧C=Ct.map cl∧(∀ l∈Lt,WfL a0 l)∧(∀ r∈Tt,WfR a0 r)∧∀ l∈Ct,WfL a0 l:=by
 obtain⟨-,-,-,-,h4,h5,h6,-⟩:=z4 h
 obtain⟨Lt,a1,a2⟩:=znb L h4
 obtain⟨Tt,b1,b2⟩:=zzA h5
 obtain⟨Ct,c1,c2⟩:=znb C h6
 exact ⟨Lt,Tt,Ct,a1,b1,c1,a2,b2,c2⟩
def zmW (m:Int) (nums:List Int) (env:Nat→Int) (l:zd5):Bool := !(zuw m nums env l.2.1 l.2.2==l.1)
def zfq (m:Int) (nums:List Int) (env:Nat→Int) (L:List zd5) (T:List (List Tm)) (C:List zd5):Bool := !(C.all (zmW m nums env))||(L.any (zmW m nums env)||T.any (zeF m nums env))
section
variable {m:Int} (hm:0<m) {nums:List Int} (hn:zdZ nums) {a0:List zq} (hs:SignOk a0) {E:List Int} (hE:EnvOk m E)
include hm hn hs hE
theorem zBE {l:zd5} (h:WfL a0 l):zb2 m nums a0 (cl l).1 (cl l).2 E=some (zmW m nums (zbV E) l):=by
 obtain⟨h1,⟨e,h2,h3,h4⟩,h5⟩:=h
 unfold zb2
 show (zdf m nums a0 ((l.2.1:Int)::zh l.2.2) E).bind _=_
 rw[zEn hm hn hs hE h1 h2 h4 h5]
 rfl
theorem zzB:(es:List zd5)→(∀ l∈es,WfL a0 l)→yv a0 E m nums (es.map cl)=some (cond (es.all (zmW m nums (zbV E))) (.inl ()) (.inr true))
 | [],_=>rfl
 | e::es,h=>by
  rw[List.map_cons]
  unfold yv
  rw[zBE hm hn hs hE (h e (List.mem_cons_self ..)),Option.bind_some,zzB es fun l hl=>h l (List.mem_cons_of_mem _ hl),List.all_cons]
  cases zmW m nums (zbV E) e<;>rfl
theorem zyI:(es:List zd5)→(∀ l∈es,WfL a0 l)→yw a0 E m nums (es.map cl)=some (cond (es.any (zmW m nums (zbV E))) (.inr true) (.inl ()))
 | [],_=>rfl
 | e::es,h=>by
  rw[List.map_cons]
  unfold yw
  rw[zBE hm hn hs hE (h e (List.mem_cons_self ..)),Option.bind_some,zyI es fun l hl=>h l (List.mem_cons_of_mem _ hl),List.any_cons]
  cases zmW m nums (zbV E) e<;>rfl
theorem zyQ:(es:List (List Tm))→(∀ l∈es,WfR a0 l)→yq a0 E m nums (es.map zh)=some (cond (es.any (zeF m nums (zbV E))) (.inr true) (.inl ()))
 | [],_=>rfl
 | e::es,h=>by
  rw[List.map_cons]
  unfold yq
  have he:=h e (List.mem_cons_self ..)
  rw[zAK hm hn hs hE he.1 he.2,Option.bind_some,zyQ es fun l hl=>h l (List.mem_cons_of_mem _ hl),List.any_cons]
  cases zeF m nums (zbV E) e<;>rfl
theorem zFv {L:List zd5} {T:List (List Tm)} {C:List zd5} (hL:∀ l∈L,WfL a0 l) (hT:∀ r∈T,WfR a0 r) (hC:∀ l∈C,WfL a0 l) (h1:L.length≤1000) (h2:T.length≤1000) (h3:C.length≤1000) :
  zdg m nums a0 (L.map cl) (T.map zh) (C.map cl) E=some (zfq m nums (zbV E) L T C):=by
 unfold zdg zfq
 rw[zfo _ _ _ _ _ _ _ (by rw[List.length_map]; unfold maxLen; omega),zzB hm hn hs hE C hC,Option.bind_some]
 cases C.all (zmW m nums (zbV E)) with
 | false=>rfl
 | true =>
  simp only[cond_true,zcj]
  rw[zfr _ _ _ _ _ _ _ (by rw[List.length_map]; unfold maxLen; omega),zyI hm hn hs hE L hL,Option.bind_some]
  cases L.any (zmW m nums (zbV E)) with
  | true=>rfl
  | false =>
   simp only[cond_false,zcj]
   rw[zfg _ _ _ _ _ _ _ (by rw[List.length_map]; unfold maxLen; omega),zyQ hm hn hs hE T hT,Option.bind_some]
   cases T.any (zeF m nums (zbV E))<;>rfl
end
def zh9 (m:Nat) (E:List Int):List Nat→Nat
 | []=>0
 | v::vs=>(zbV E v).toNat+m*zh9 m E vs
theorem zpl {m:Nat} {E E':List Int}:(vs:List Nat)→(∀ v∈vs,zbV E v=zbV E' v)→zh9 m E vs=zh9 m E' vs
 | [],_=>rfl
 | v::vs,h=>by
  unfold zh9
  rw[h v (List.mem_cons_self ..),zpl vs fun w hw=>h w (List.mem_cons_of_mem _ hw)]
theorem ziQ {E:List Int} {v w:Nat} {x:Int} (hv:v<E.length):zbV (E.set v x) w=if w=v then x else zbV E w:=by
 unfold zbV
 rw[List.getD_eq_getElem?_getD,List.getD_eq_getElem?_getD]
 by_cases h:w=v
 ·subst h; rw[List.getElem?_set_self hv,if_pos rfl]; rfl
 ·rw[List.getElem?_set_ne (Ne.symm h),if_neg h]
theorem EnvOk.set {m:Int} {E:List Int} (h:EnvOk m E) {v:Nat} {x:Int} (hx:0≤x∧x<m):EnvOk m (E.set v x) where
 len:=by rw[List.length_set]; exact h.len
 rng:=fun y hy=>by
  rcases List.mem_or_eq_of_mem_set hy with hy | hy
  ·exact h.rng y hy
  ·rw[hy]; exact hx
theorem zz1 {m:Nat} (hm:0<m) (hm3:m≤1000):(vs:List Nat)→(E:List Int)→vs.Nodup→(∀ v∈vs,v<24)→EnvOk (m:Int) E →
  (∃ E',zV (m:Int) (vs.map fun v:Nat=>(v:Int)) E=some (.inr (true,E'))∧EnvOk (m:Int) E'∧zh9 m E' vs=zh9 m E vs+1∧∀ w,w∉vs→zbV E' w=zbV E w) ∨
  (∃ E',zV (m:Int) (vs.map fun v:Nat=>(v:Int)) E=some (.inl E')∧E'.length=24∧zh9 m E vs+1=m ^ vs.length)
 | [],E,_,_,hE=>.inr ⟨E,rfl,hE.len,rfl⟩
 | v::vs,E,hnd,h24,hE=>by
  have hnd:=List.nodup_cons.1 hnd
  have hv:=h24 v (List.mem_cons_self ..)
  have hx:=hE.val hv
  have hlen:=hE.len
  have hwx:IntKind.wrap .i64 (zbV E v+1)=zbV E v+1:=by rw[zE]<;>omega
  rw[List.map_cons]
  unfold zV
  have i1:inR (v:Int) (List.length E)=some v:=zac (by omega)
  have i2:inR (v:Int) (List.length (E.set v (zbV E v+1)))=some v:=zac (by rw[List.length_set]; omega)
  have g2:(E.set v (zbV E v+1))[v]? = some (zbV E v+1):=List.getElem?_set_self (by omega)
  simp only[i1,hE.get hv,Option.bind_some,hwx,i2,g2,List.set_set]
  by_cases hlt:zbV E v+1<(m:Int)
  ·rw[decide_eq_true hlt,cond_true]
   refine .inl ⟨_,rfl,hE.set ⟨by omega,hlt⟩,?_,fun w hw => ?_⟩
   ·unfold zh9
    rw[ziQ (by omega),if_pos rfl,zpl (E:=E.set v (zbV E v+1)) (E':=E) vs fun w hw=>by
     rw[ziQ (by omega),if_neg (show w≠v from fun e=>hnd.1 (e▸hw))]]
    omega
   ·rw[ziQ (by omega),if_neg (show w≠v from fun e=>hw (by rw[e]; exact List.mem_cons_self ..))]
  ·rw[decide_eq_false hlt,cond_false]
   have hE0:EnvOk (m:Int) (E.set v 0):=hE.set ⟨by omega,by omega⟩
   have hnum:zh9 m (E.set v 0) vs=zh9 m E vs:=zpl vs fun w hw=>by
    rw[ziQ (by omega),if_neg (show w≠v from fun e=>hnd.1 (e▸hw))]
   have hxm:(zbV E v).toNat+1=m:=by omega
   rcases zz1 hm hm3 vs (E.set v 0) hnd.2 (fun w hw=>h24 w (List.mem_cons_of_mem _ hw)) hE0 with ⟨E',h1,h2,h3,h4⟩ | ⟨E',h1,h2,h3⟩
   ·rw[h1]
    refine .inl ⟨E',rfl,h2,?_,fun w hw => ?_⟩
    ·unfold zh9
     rw[h3,hnum,h4 v hnd.1,ziQ (by omega),if_pos rfl,Nat.mul_add]
     simp only[Int.toNat_zero]
     omega
    ·rw[h4 w fun h=>hw (List.mem_cons_of_mem _ h),ziQ (by omega),if_neg (show w≠v from fun e=>hw (by rw[e]; exact List.mem_cons_self ..))]
   ·rw[h1]
    refine .inr ⟨E',rfl,h2,?_⟩
    unfold zh9
    rw[hnum] at h3
    rw[List.length_cons,Nat.pow_succ,← h3,Nat.add_mul,Nat.mul_comm m]
    omega
theorem zx9 {m:Nat} (hm:0<m) (hm3:m≤1000) (nums:List Int) {vs:List Nat} {E:List Int} (hnd:vs.Nodup) (h24:∀ v∈vs,v<24) (hE:EnvOk (m:Int) E) :
  (∃ E',zdb (m:Int) nums (vs.map fun v:Nat=>(v:Int)) E=some (true,E')∧EnvOk (m:Int) E'∧zh9 m E' vs=zh9 m E vs+1∧∀ w,w∉vs→zbV E' w=zbV E w) ∨
  (∃ E',zdb (m:Int) nums (vs.map fun v:Nat=>(v:Int)) E=some (false,E')∧zh9 m E vs+1=m ^ vs.length):=by
 have hvl:vs.length≤24:=by
  have:=zpa vs (List.range 24) hnd fun v hv=>List.mem_range.2 (h24 v hv)
  simpa using this
 have hne:List.isEmpty E=false:=by
  cases E with
  | nil=>have:=hE.len; simp at this
  | cons _ _=>rfl
 unfold zdb
 rw[zfe _ _ _ _ (by rw[List.length_map]; unfold maxLen; omega)]
 rcases zz1 hm hm3 vs E hnd h24 hE with ⟨E',h1,h2,h3⟩ | ⟨E',h1,h2,h3⟩
 ·rw[h1]
  refine .inl ⟨E',?_,h2,h3⟩
  simp only[Option.bind_some,zvT,hne,Bool.not_false,Bool.and_self,cond_true,hE.len,h2.len]
  rfl
 ·rw[h1]
  refine .inr ⟨E',?_,h3⟩
  simp only[Option.bind_some,zcj,hne,Bool.not_false,Bool.and_self,cond_true,hE.len,h2]
  rfl
theorem zse {m:Nat} (hm:0<m) {E:List Int} (hE:EnvOk (m:Int) E):(vs:List Nat)→(∀ v∈vs,v<24)→zh9 m E vs<m ^ vs.length
 | [],_=>by simp [zh9]
 | v::vs,h=>by
  have h1:=hE.val (h v (List.mem_cons_self ..))
  have h2:=zse hm hE vs fun w hw=>h w (List.mem_cons_of_mem _ hw)
  unfold zh9
  rw[List.length_cons,Nat.pow_succ,Nat.mul_comm (m ^ vs.length)]
  have h3:m*(zh9 m E vs+1)≤m*m ^ vs.length:=Nat.mul_le_mul_left _ h2
  rw[Nat.mul_add] at h3
  omega
theorem ztC {m:Nat} (hm:0<m) {E E':List Int} (hE:EnvOk (m:Int) E) (hE':EnvOk (m:Int) E'):(vs:List Nat)→(∀ v∈vs,v<24)→zh9 m E vs=zh9 m E' vs→∀ v∈vs,zbV E v=zbV E' v
 | [],_,_,v,hv=>nomatch hv
 | v::vs,h,he,w,hw=>by
  have h1:=hE.val (h v (List.mem_cons_self ..))
  have h2:=hE'.val (h v (List.mem_cons_self ..))
  unfold zh9 at he
  have e1:((zbV E v).toNat+m*zh9 m E vs) % m=(zbV E v).toNat:=by rw[Nat.add_mul_mod_self_left]; exact Nat.mod_eq_of_lt (by omega)
  have e2:((zbV E' v).toNat+m*zh9 m E' vs) % m=(zbV E' v).toNat:=by rw[Nat.add_mul_mod_self_left]; exact Nat.mod_eq_of_lt (by omega)
  have e3:(zbV E v).toNat=(zbV E' v).toNat:=by rw[← e1,← e2,he]
  have e4:zh9 m E vs=zh9 m E' vs:=by
   have:m*zh9 m E vs=m*zh9 m E' vs:=by omega
   exact Nat.eq_of_mul_eq_mul_left hm this
  rcases List.mem_cons.1 hw with rfl | hw
  ·omega
  ·exact ztC hm hE hE' vs (fun w hw=>h w (List.mem_cons_of_mem _ hw)) e4 w hw
theorem zpH {m:Nat} (hm:0<m) (hm3:m≤1000) {nums:List Int} {a0:List zq} {L:List zl} {T:List jI} {C:List zl} {vs:List Nat} (hnd:vs.Nodup) (h24:∀ v∈vs,v<24)
  (here:List Int→Bool) (hh:∀ E,EnvOk (m:Int) E→zdg (m:Int) nums a0 L T C E=some (here E)) (hext:∀ E E',EnvOk (m:Int) E→EnvOk (m:Int) E'→(∀ v∈vs,zbV E v=zbV E' v)→here E=here E') :
  ∀(d k:Nat) (E:List Int),EnvOk (m:Int) E→m ^ vs.length - zh9 m E vs≤d→d<k →
   ∃ b,lp zbh k (a0,vs.map (fun v:Nat=>(v:Int)),(m:Int),nums,L,T,C,E)=some b∧(b=true↔∀ E',EnvOk (m:Int) E'→zh9 m E vs≤zh9 m E' vs→here E'=true):=by
 intro d
 induction d with
 | zero =>
  intro k E hE hd
  have:=zse hm hE vs h24
  omega
 | succ d ih =>
  intro k E hE hd hk
  obtain⟨k,rfl⟩:∃ k',k=k'+1:=⟨k - 1,by omega⟩
  rw[zc]
  have key:=fun E hE h=>ih k E hE h (by omega)
  generalize lp zbh k=rec at key ⊢
  unfold zbh
  simp only
  rw[hh E hE,Option.bind_some]
  cases hb:here E with
  | false =>
   refine ⟨false,rfl,?_⟩
   constructor
   ·intro h; cases h
   ·intro h; have:=h E hE (Nat.le_refl _); rw[hb] at this; cases this
  | true =>
   simp only[Bool.not_true,cond_false]
   have self:∀ E',EnvOk (m:Int) E'→zh9 m E' vs=zh9 m E vs→here E'=true:=fun E' hE' he=>by
    rw[hext E' E hE' hE (ztC hm hE' hE vs h24 he),hb]
   rcases zx9 hm hm3 nums hnd h24 hE with ⟨E1,h1,h2,h3,h4⟩ | ⟨E1,h1,h2⟩
   ·rw[h1]
    simp only[Option.bind_some,Bool.not_true,cond_false]
    obtain⟨b,g1,g2⟩:=key E1 h2 (by rw[h3]; omega)
    refine ⟨b,g1,g2.trans ⟨fun h E' hE' hle => ?_,fun h E' hE' hle=>h E' hE' (by omega)⟩⟩
    rcases Nat.eq_or_lt_of_le hle with he | hlt
    ·exact self E' hE' he.symm
    ·exact h E' hE' (by omega)
   ·rw[h1]
    refine ⟨true,rfl,⟨fun _ E' hE' hle => ?_,fun _=>rfl⟩⟩
    have:=zse hm hE' vs h24
    exact self E' hE' (by omega)
end
end Go.Abs.Q
namespace Go.Abs.Q
open Go Go.Abs
section
theorem zGz (v:Nat) (hv:v<24):(es:List Int)→zbL (v:Int) es=some (cond (decide (-1 - (v:Int)∈es)) (.inr true) (.inl ()))
 | []=>rfl
 | e::es=>by
  unfold zbL
  have w:IntKind.wrap .i64 ((-1) - (v:Int)) = -1 - (v:Int):=by rw[zE]<;>omega
  rw[w,zGz v hv es]
  by_cases he:e = -1 - (v:Int)
  ·rw[show (e == -1 - (v:Int))=true from by simp [he],decide_eq_true (show -1 - (v:Int)∈e::es by rw[he]; exact List.mem_cons_self ..)]
   rfl
  ·rw[show (e == -1 - (v:Int))=false from by simp [he],cond_false]
   by_cases hm:(-1 - (v:Int))∈es
   ·rw[decide_eq_true hm,decide_eq_true (List.mem_cons_of_mem _ hm)]
   ·rw[decide_eq_false hm,decide_eq_false fun h=>(List.mem_cons.1 h).elim (fun h=>he h.symm) hm]
theorem zua {v:Nat} (hv:v<24) {r:List Int} (hl:r.length≤1000000):zso r (v:Int)=some (decide (-1 - (v:Int)∈r)):=by
 unfold zso
 rw[zlt _ _ (by unfold maxLen; omega),zGz v hv,Option.bind_some]
 cases decide (-1 - (v:Int)∈r)<;>rfl
def zFK (r:List Int) (v:Nat):Bool:=decide (-1 - (v:Int)∈r)
theorem zrc {r:List Int} (hl:r.length≤1000000):∀(d v k:Nat) (out:List Int),24 - v=d→v≤24→d<k→out.length≤v →
  lp zb3 k (r,(v:Int),out)=some (out++(((List.range 24).drop v).filter (zFK r)).map fun v:Nat=>(v:Int)):=by
 intro d
 induction d with
 | zero =>
  intro v k out hd hv hk ho
  obtain⟨k,rfl⟩:∃ k',k=k'+1:=⟨k - 1,by omega⟩
  rw[zc]
  generalize lp zb3 k=rec
  unfold zb3
  have:v=24:=by omega
  subst this
  rw[show (List.range 24).drop 24=[] from rfl]
  simp
 | succ d ih =>
  intro v k out hd hv hk ho
  obtain⟨k,rfl⟩:∃ k',k=k'+1:=⟨k - 1,by omega⟩
  rw[zc]
  have key:=fun out ho=>ih (v+1) k out (by omega) (by omega) (by omega) ho
  generalize lp zb3 k=rec at key ⊢
  unfold zb3
  have w:IntKind.wrap .i64 ((v:Int)+1)=((v+1:Nat):Int):=by rw[zE]<;>omega
  have hdr:(List.range 24).drop v=v::(List.range 24).drop (v+1):=by
   rw[List.drop_eq_getElem_cons (by simp; omega)]
   simp
  simp only[decide_eq_true (show (v:Int)≤23 by omega),cond_true,zua (show v<24 by omega) hl,Option.bind_some,w]
  rw[hdr]
  by_cases hm:(-1 - (v:Int))∈r
  ·rw[decide_eq_true hm,cond_true,zD (by simp; omega),cond_true,key _ (by simp; omega)]
   have:zFK r v=true:=decide_eq_true hm
   rw[List.filter_cons_of_pos this]
   simp
  ·rw[decide_eq_false hm,cond_false,key _ (by omega)]
   have:¬(zFK r v=true):=by unfold zFK; rw[decide_eq_false hm]; simp
   rw[List.filter_cons_of_neg this]
theorem zwp:(es:List jI)→(out:List Int)→out.length+zv es≤1000000→y5 es out=some (out++es.flatten)
 | [],out,_=>by simp [y5]
 | e::es,out,h=>by
  rw[zsu] at h
  unfold y5
  rw[zD (by omega),cond_true,zwp es _ (by rw[List.length_append]; omega)]
  simp
def zli (L:List zl) (T:List jI) (C:List zl):List Nat:=(List.range 24).filter (zFK (L.map (·.2)++T++C.map (·.2)).flatten)
theorem zmI (L:List zl) (T:List jI) (C:List zl):(zli L T C).Nodup:=List.nodup_range.sublist List.filter_sublist
theorem zto {L:List zl} {T:List jI} {C:List zl}:∀ v∈zli L T C,v<24:=fun v hv=>List.mem_range.1 (List.mem_filter.1 hv).1
theorem zw5 {L:List zl} {T:List jI} {C:List zl} {v:Nat} (hv:v<24):v∈zli L T C↔zoR (zcm L T C) (v:Int):=by
 unfold zli zFK
 rw[List.mem_filter]
 simp only[List.mem_range,hv,true_and,decide_eq_true_eq,List.mem_flatten]
 constructor
 ·rintro⟨r,hr,hc⟩
  refine ⟨r,?_,_,hc,by omega,by omega⟩
  unfold zcm
  simp only[List.mem_append] at hr ⊢
  rcases hr with (hr | hr) | hr
  ·exact .inl (.inl hr)
  ·exact .inr hr
  ·exact .inl (.inr hr)
 ·rintro⟨r,hr,c,hc,h0,he⟩
  refine ⟨r,?_,by rw[show -1 - (v:Int)=c from by omega]; exact hc⟩
  unfold zcm at hr
  simp only[List.mem_append] at hr ⊢
  rcases hr with (hr | hr) | hr
  ·exact .inl (.inl hr)
  ·exact .inr hr
  ·exact .inl (.inr hr)
theorem zn7 {L:List zl} {T:List jI} {C:List zl} (h1:L.length≤1000) (h2:T.length≤1000) (h3:C.length≤1000) (hl:zv (L.map (·.2))+zv T+zv (C.map (·.2))≤1000000) :
  zjz L T C=some ((zli L T C).map fun v:Nat=>(v:Int)):=by
 unfold zjz
 rw[ziq L T C h1 h2 h3,Option.bind_some,zhA _ _ (by simp; unfold maxLen; omega),zwp _ _ (by rw[zcq,zcq]; simp; omega),Option.bind_some]
 unfold znS
 have hf:((L.map (·.2)++T++C.map (·.2)).flatten).length≤1000000:=by
  rw[← zAF,zcq,zcq]; omega
 have:=zrc hf 24 0 zi [] rfl (by omega) (by unfold zi; omega) (by simp)
 rw[show ((0:Nat):Int)=0 from rfl,List.drop_zero] at this
 simp only[List.nil_append] at this ⊢
 rw[this]
 rfl
def zvn (L:List zd5) (T:List (List Tm)) (C:List zd5) (x:Nat):Prop:=(∃ l∈L,zk2 x l.2.2)∨(∃ r∈T,zk2 x r)∨∃ l∈C,zk2 x l.2.2
theorem zpq {l:zd5} {x:Nat}:zFJ (cl l).2 (x:Int)↔zk2 x l.2.2:=by
 constructor
 ·rintro⟨c,hc,h0,he⟩
  rcases List.mem_cons.1 hc with rfl | hc
  ·omega
  ·obtain⟨k,h1,h2⟩:=ziD.1 ⟨c,hc,h0,he⟩
   have:x=k:=by omega
   rw[this]; exact h2
 ·intro h
  obtain⟨c,hc,h0,he⟩:=ziD.2 ⟨x,rfl,h⟩
  exact ⟨c,List.mem_cons_of_mem _ hc,h0,he⟩
theorem zkT {L:List zd5} {T:List (List Tm)} {C:List zd5} {x:Nat}:zoR (zcm (L.map cl) (T.map zh) (C.map cl)) (x:Int)↔zvn L T C x:=by
 unfold zcm zvn
 rw[zgf,zgf]
 constructor
 ·rintro ((⟨r,hr,h⟩ | ⟨r,hr,h⟩) | ⟨r,hr,h⟩)
  ·obtain⟨q,hq,rfl⟩:=List.mem_map.1 hr
   obtain⟨l,hl,rfl⟩:=List.mem_map.1 hq
   exact .inl ⟨l,hl,zpq.1 h⟩
  ·obtain⟨q,hq,rfl⟩:=List.mem_map.1 hr
   obtain⟨l,hl,rfl⟩:=List.mem_map.1 hq
   exact .inr (.inr ⟨l,hl,zpq.1 h⟩)
  ·obtain⟨l,hl,rfl⟩:=List.mem_map.1 hr
   obtain⟨k,h1,h2⟩:=ziD.1 h
   have:x=k:=by omega
   exact .inr (.inl ⟨l,hl,by rw[this]; exact h2⟩)
 ·rintro (⟨l,hl,h⟩ | ⟨r,hr,h⟩ | ⟨l,hl,h⟩)
  ·exact .inl (.inl ⟨_,List.mem_map_of_mem (List.mem_map_of_mem hl),zpq.2 h⟩)
  ·exact .inr ⟨_,List.mem_map_of_mem hr,ziD.2 ⟨x,rfl,h⟩⟩
  ·exact .inl (.inr ⟨_,List.mem_map_of_mem (List.mem_map_of_mem hl),zpq.2 h⟩)
theorem ztv {m:Int} {nums:List Int} {e e':Nat→Int} {l:zd5} (h:∀ x,zk2 x l.2.2→e x=e' x):zmW m nums e l=zmW m nums e' l:=by
 unfold zmW zuw
 rw[zmq m nums l.2.2 h]
theorem zuX {m:Int} {nums:List Int} {e e':Nat→Int} {r:List Tm} (h:∀ x,zk2 x r→e x=e' x):zeF m nums e r=zeF m nums e' r:=by
 unfold zeF
 rw[zmq m nums r h]
theorem zrz {α:Type} {p q:α→Bool} {l:List α} (h:∀ x∈l,p x=q x):l.all p=l.all q:=by
 induction l with
 | nil=>rfl
 | cons a l ih=>rw[List.all_cons,List.all_cons,h a (List.mem_cons_self ..),ih fun x hx=>h x (List.mem_cons_of_mem _ hx)]
theorem zkF {α:Type} {p q:α→Bool} {l:List α} (h:∀ x∈l,p x=q x):l.any p=l.any q:=by
 induction l with
 | nil=>rfl
 | cons a l ih=>rw[List.any_cons,List.any_cons,h a (List.mem_cons_self ..),ih fun x hx=>h x (List.mem_cons_of_mem _ hx)]
theorem zmF {m:Int} {nums:List Int} {e e':Nat→Int} {L:List zd5} {T:List (List Tm)} {C:List zd5} (h:∀ x,zvn L T C x→e x=e' x):zfq m nums e L T C=zfq m nums e' L T C:=by
 unfold zfq
 rw[zrz (l:=C) fun l hl=>ztv fun x hx=>h x (.inr (.inr ⟨l,hl,hx⟩)),zkF (l:=L) fun l hl=>ztv fun x hx=>h x (.inl ⟨l,hl,hx⟩),
  zkF (l:=T) fun r hr=>zuX fun x hx=>h x (.inr (.inl ⟨r,hr,hx⟩))]
theorem zsJ {m:Nat} (hm:0<m) (hm3:m≤3) {nums:List Int} (hn:zdZ nums) {a0:List zq} (hs:SignOk a0) {L:List zd5} {T:List (List Tm)} {C:List zd5} (hmay:zfs a0 (L.map cl) (T.map zh) (C.map cl)=true) (hL:∀ l∈L,WfL a0 l) (hT:∀ r∈T,WfR a0 r) (hC:∀ l∈C,WfL a0 l) :
  ∃ b,zcw (m:Int) nums a0 (L.map cl) (T.map zh) (C.map cl)=some b∧(b=true↔∀ E,EnvOk (m:Int) E→zfq (m:Int) nums (zbV E) L T C=true):=by
 obtain⟨-,h1,h2,h3,-,-,-,h7⟩:=z4 hmay
 simp only[List.length_map] at h1 h2 h3
 have hE0:EnvOk (m:Int) (List.replicate 24 (0:Int)):=⟨by simp,fun x hx=>by have:=List.eq_of_mem_replicate hx; omega⟩
 have h0:zh9 m (List.replicate 24 (0:Int)) (zli (L.map cl) (T.map zh) (C.map cl))=0:=by
  generalize zli (L.map cl) (T.map zh) (C.map cl)=vs
  induction vs with
  | nil=>rfl
  | cons v vs ih =>
   unfold zh9
   rw[ih]
   have:zbV (List.replicate 24 (0:Int)) v=0:=by
    unfold zbV
    rw[List.getD_eq_getElem?_getD,List.getElem?_replicate]
    split<;>rfl
   rw[this]
   simp
 have hvar:∀ x,zvn L T C x→x∈zli (L.map cl) (T.map zh) (C.map cl):=fun x hx=>by
  have hx:=zkT.2 hx
  have:=zDX hmay hx
  exact (zw5 (by omega)).2 hx
 have hvl:(zli (L.map cl) (T.map zh) (C.map cl)).length≤24:=by
  have:=zpa _ (List.range 24) (zmI (L.map cl) (T.map zh) (C.map cl)) fun v hv=>List.mem_range.2 (zto v hv)
  simpa using this
 obtain⟨b,g1,g2⟩:=zpH hm (by omega) (nums:=nums) (a0:=a0) (L:=L.map cl) (T:=T.map zh) (C:=C.map cl) (zmI (L.map cl) (T.map zh) (C.map cl)) zto
  (fun E=>zfq (m:Int) nums (zbV E) L T C) (fun E hE=>zFv (by omega) hn hs hE hL hT hC (by omega) (by omega) (by omega))
  (fun E E' _ _ h=>zmF fun x hx=>h x (hvar x hx)) (m ^ (zli (L.map cl) (T.map zh) (C.map cl)).length) zi (List.replicate 24 (0:Int)) hE0 (by omega) (by
   have e1:m ^ (zli (L.map cl) (T.map zh) (C.map cl)).length≤3 ^ (zli (L.map cl) (T.map zh) (C.map cl)).length:=Nat.pow_le_pow_left hm3 _
   have e2:3 ^ (zli (L.map cl) (T.map zh) (C.map cl)).length≤3 ^ 24:=Nat.pow_le_pow_right (by omega) hvl
   have e3:(3:Nat) ^ 24=282429536481:=by decide
   unfold zi
   omega)
 refine ⟨b,?_,g2.trans ⟨fun h E hE=>h E hE (by rw[h0]; omega),fun h E hE _=>h E hE⟩⟩
 unfold zcw
 rw[zn7 (by rw[List.length_map]; omega) (by rw[List.length_map]; omega) (by rw[List.length_map]; omega) (by omega),Option.bind_some]
 have he:ztF=some (List.replicate 24 (0:Int)):=rfl
 rw[he,Option.bind_some,g1]
 rfl
end
end Go.Abs.Q
namespace Go.Abs.Q
open Go Go.Abs
section
abbrev zo1:=List Int×Int
def rho (s:zo1) (v:Nat):Nat:=(s.1.getD v 0).toNat - 1
structure RenI (s:zo1):Prop where
 len:s.1.length=24
 rng:∀ v,0≤s.1.getD v 0∧s.1.getD v 0≤s.2
 inj:∀ v w,s.1.getD v 0=s.1.getD w 0→s.1.getD v 0≠0→v=w
 cnt:((s.1.countP (fun x=>x != 0):Nat):Int)=s.2
def ExtS (s s':zo1):Prop:=∀ v,s.1.getD v 0≠0→s'.1.getD v 0=s.1.getD v 0
theorem ExtS.refl (s:zo1):ExtS s s:=fun _ _=>rfl
theorem ExtS.trans {s t u:zo1} (h:ExtS s t) (h':ExtS t u):ExtS s u:=fun v hv=>(h' v (by rw[h v hv]; exact hv)).trans (h v hv)
theorem RenI.next {s:zo1} (h:RenI s):0≤s.2∧s.2≤24:=by
 have h1:=h.cnt
 have h2:s.1.countP (fun x=>x != 0)≤s.1.length:=List.countP_le_length
 rw[h.len] at h2
 omega
theorem RenI.rho_lt {s:zo1} (h:RenI s) {v:Nat} (hv:s.1.getD v 0≠0):rho s v<24:=by
 have h1:=h.rng v
 have h2:=h.next
 unfold rho
 omega
theorem RenI.rho_inj {s:zo1} (h:RenI s) {v w:Nat} (hv:s.1.getD v 0≠0) (hw:s.1.getD w 0≠0) (he:rho s v=rho s w):v=w:=by
 have h1:=h.rng v
 have h2:=h.rng w
 unfold rho at he
 exact h.inj v w (by omega) hv
theorem zJX:RenI (List.replicate 24 (0:Int),0) where
 len:=by simp
 rng:=fun v=>by
  rw[List.getD_eq_getElem?_getD,List.getElem?_replicate]
  split<;>simp
 inj:=fun v w _ h=>by
  exfalso
  apply h
  rw[List.getD_eq_getElem?_getD,List.getElem?_replicate]
  split<;>rfl
 cnt:=by decide
theorem zuh {xs:List Int} {v:Nat} {y:Int} (hv:xs[v]? = some 0) (hy:y≠0):(xs.set v y).countP (fun x=>x != 0)=xs.countP (fun x=>x != 0)+1:=by
 obtain⟨hx,he⟩:=List.getElem?_eq_some_iff.1 hv
 have h1:=List.take_append_drop v xs
 have h2:xs.drop v=0::xs.drop (v+1):=by rw[List.drop_eq_getElem_cons hx,he]
 have h3:xs.set v y=xs.take v++y::xs.drop (v+1):=by rw[List.set_eq_take_append_cons_drop,if_pos hx]
 conv=>rhs; rw[← h1,h2]
 rw[h3]
 simp [List.countP_append,List.countP_cons,hy]
 omega
theorem zdL {xs:List Int} {v w:Nat} {y:Int} (hv:v<xs.length):(xs.set v y).getD w 0=if w=v then y else xs.getD w 0:=by
 rw[List.getD_eq_getElem?_getD,List.getD_eq_getElem?_getD]
 by_cases h:w=v
 ·subst h; rw[List.getElem?_set_self hv,if_pos rfl]; rfl
 ·rw[List.getElem?_set_ne (Ne.symm h),if_neg h]
theorem zqd {s:zo1} (h:RenI s) {c:Int} (hc : -24≤c):RenI (zmu s c).2∧ExtS s (zmu s c).2∧(c<0→(zmu s c).2.1.getD (-1 - c).toNat 0≠0)∧∀ f,ExtS (zmu s c).2 f→[(zmu s c).1]=zhh (fun v=>.v (rho f v)) c:=by
 unfold zmu
 by_cases h0:c≥0
 ·rw[decide_eq_true h0,cond_true]
  refine ⟨h,ExtS.refl s,fun h1=>by omega,fun f _ => ?_⟩
  unfold zhh
  rw[if_neg (by omega)]
 ·rw[decide_eq_false h0,cond_false]
  have hv:(-1 - c).toNat<s.1.length:=by rw[h.len]; omega
  have hexp:∀ f:zo1,zhh (fun v=>.v (rho f v)) c=[-1 - ((rho f (-1 - c).toNat:Nat):Int)]:=fun f=>by
   unfold zhh
   rw[if_pos (by omega)]
   rfl
  by_cases hz:s.1.getD (-1 - c).toNat 0=0
  ·rw[show (s.1.getD (-1 - c).toNat 0==0)=true from by rw[hz]; rfl,cond_true]
   have hn:=h.next
   have hget:s.1[(-1 - c).toNat]? = some 0:=by
    rw[List.getD_eq_getElem?_getD,List.getElem?_eq_getElem hv] at hz
    rw[List.getElem?_eq_getElem hv]
    exact congrArg some hz
   refine ⟨⟨by simpa using h.len,fun v => ?_,fun v w he hnz => ?_,?_⟩,fun v hvz => ?_,fun _ => ?_,fun f hf => ?_⟩
   ·show 0≤(s.1.set _ _).getD v 0∧(s.1.set _ _).getD v 0≤s.2+1
    rw[zdL hv]
    have:=h.rng v
    split<;>omega
   ·have he:(s.1.set (-1 - c).toNat (s.2+1)).getD v 0=(s.1.set (-1 - c).toNat (s.2+1)).getD w 0:=he
    have hnz:(s.1.set (-1 - c).toNat (s.2+1)).getD v 0≠0:=hnz
    rw[zdL hv] at he hnz
    rw[zdL hv] at he
    have h1:=h.rng v
    have h2:=h.rng w
    by_cases e1:v=(-1 - c).toNat
    ·rw[if_pos e1] at he hnz
     by_cases e2:w=(-1 - c).toNat
     ·rw[e1,e2]
     ·rw[if_neg e2] at he; omega
    ·rw[if_neg e1] at he hnz
     by_cases e2:w=(-1 - c).toNat
     ·rw[if_pos e2] at he; omega
     ·rw[if_neg e2] at he
      exact h.inj v w he hnz
   ·show (((s.1.set (-1 - c).toNat (s.2+1)).countP (fun x=>x != 0):Nat):Int)=s.2+1
    rw[zuh hget (by omega),← h.cnt]
    omega
   ·show (s.1.set _ _).getD v 0=_
    rw[zdL hv]
    split
    ·rename_i e; rw[e,hz] at hvz; exact absurd rfl hvz
    ·rfl
   ·show (s.1.set _ _).getD _ 0≠0
    rw[zdL hv,if_pos rfl]
    omega
   ·rw[hexp]
    have hf2:=hf (-1 - c).toNat (by
     show (s.1.set _ _).getD _ 0≠0
     rw[zdL hv,if_pos rfl]
     omega)
    have hf2:f.1.getD (-1 - c).toNat 0=(s.1.set (-1 - c).toNat (s.2+1)).getD (-1 - c).toNat 0:=hf2
    rw[zdL hv,if_pos rfl] at hf2
    unfold rho
    rw[hf2]
    show [-(s.2+1)]=_
    congr 1
    omega
  ·rw[show (s.1.getD (-1 - c).toNat 0==0)=false from by simpa using hz,cond_false]
   refine ⟨h,ExtS.refl s,fun _=>hz,fun f hf => ?_⟩
   rw[hexp]
   have hf2:f.1.getD (-1 - c).toNat 0=s.1.getD (-1 - c).toNat 0:=hf _ hz
   have:=h.rng (-1 - c).toNat
   unfold rho
   rw[hf2]
   show [-(s.1.getD (-1 - c).toNat 0)]=_
   congr 1
   omega
theorem zim:(r:List Int)→{s:zo1}→RenI s→(∀ c∈r,-24≤c)→RenI (zd3 s r).2∧ExtS s (zd3 s r).2∧(∀ x,zFJ r x→(zd3 s r).2.1.getD x.toNat 0≠0)∧∀ f,ExtS (zd3 s r).2 f→(zd3 s r).1=zbT (fun v=>.v (rho f v)) r
 | [],s,h,_=>⟨h,ExtS.refl s,fun x ⟨c,hc,_⟩=>(nomatch hc),fun _ _=>rfl⟩
 | c::r,s,h,hc=>by
  obtain⟨h1,h2,h3,h4⟩:=zqd h (hc c (List.mem_cons_self ..))
  obtain⟨g1,g2,g3,g4⟩:=zim r h1 fun d hd=>hc d (List.mem_cons_of_mem _ hd)
  refine ⟨g1,h2.trans g2,fun x ⟨d,hd,hd0,hx⟩ => ?_,fun f hf => ?_⟩
  ·rcases List.mem_cons.1 hd with rfl | hd
   ·subst hx
    show (zd3 (zmu s d).2 r).2.1.getD (-1 - d).toNat 0≠0
    rw[g2 _ (h3 hd0)]
    exact h3 hd0
   ·exact g3 x ⟨d,hd,hd0,hx⟩
  ·have hf:ExtS (zd3 (zmu s c).2 r).2 f:=hf
   show (zmu s c).1::(zd3 (zmu s c).2 r).1=_
   unfold zbT
   rw[List.flatMap_cons,← h4 f (g2.trans hf),g4 f hf]
   rfl
theorem zfQ:(ls:List zl)→{s:zo1}→RenI s→(∀ l∈ls,∀ c∈l.2,-24≤c)→RenI (za7 s ls).2∧ExtS s (za7 s ls).2∧(∀ x,zoR (ls.map (·.2)) x→(za7 s ls).2.1.getD x.toNat 0≠0)∧∀ f,ExtS (za7 s ls).2 f→(za7 s ls).1=zao (fun v=>.v (rho f v)) ls
 | [],s,h,_=>⟨h,ExtS.refl s,fun x ⟨c,hc,_⟩=>(nomatch hc),fun _ _=>rfl⟩
 | l::ls,s,h,hc=>by
  obtain⟨h1,h2,h3,h4⟩:=zim l.2 h (hc l (List.mem_cons_self ..))
  obtain⟨g1,g2,g3,g4⟩:=zfQ ls h1 fun d hd=>hc d (List.mem_cons_of_mem _ hd)
  refine ⟨g1,h2.trans g2,fun x hx => ?_,fun f hf => ?_⟩
  ·rw[List.map_cons,zrn] at hx
   rcases hx with hx | hx
   ·show (za7 (zd3 s l.2).2 ls).2.1.getD x.toNat 0≠0
    rw[g2 _ (h3 x hx)]
    exact h3 x hx
   ·exact g3 x hx
  ·have hf:ExtS (za7 (zd3 s l.2).2 ls).2 f:=hf
   show (l.1,(zd3 s l.2).1)::(za7 (zd3 s l.2).2 ls).1=_
   rw[h4 f (g2.trans hf),g4 f hf]
   rfl
theorem zld:(ls:List jI)→{s:zo1}→RenI s→(∀ l∈ls,∀ c∈l,-24≤c)→RenI (zc2 s ls).2∧ExtS s (zc2 s ls).2∧(∀ x,zoR ls x→(zc2 s ls).2.1.getD x.toNat 0≠0)∧∀ f,ExtS (zc2 s ls).2 f→(zc2 s ls).1=ls.map (zbT (fun v=>.v (rho f v)))
 | [],s,h,_=>⟨h,ExtS.refl s,fun x ⟨c,hc,_⟩=>(nomatch hc),fun _ _=>rfl⟩
 | l::ls,s,h,hc=>by
  obtain⟨h1,h2,h3,h4⟩:=zim l h (hc l (List.mem_cons_self ..))
  obtain⟨g1,g2,g3,g4⟩:=zld ls h1 fun d hd=>hc d (List.mem_cons_of_mem _ hd)
  refine ⟨g1,h2.trans g2,fun x hx => ?_,fun f hf => ?_⟩
  ·rw[zrn] at hx
   rcases hx with hx | hx
   ·show (zc2 (zd3 s l).2 ls).2.1.getD x.toNat 0≠0
    rw[g2 _ (h3 x hx)]
    exact h3 x hx
   ·exact g3 x hx
  ·have hf:ExtS (zc2 (zd3 s l).2 ls).2 f:=hf
   show (zd3 s l).1::(zc2 (zd3 s l).2 ls).1=_
   rw[h4 f (g2.trans hf),g4 f hf]
   rfl
theorem zyV {L:List zl} {T:List jI} {C:List zl} (hc:∀ r∈zcm L T C,∀ c∈r,-24≤c):∃ ρ:Nat→Nat,
  zdx L T C=(zao (fun v=>.v (ρ v)) (zN L []),(zN T []).map (zbT (fun v=>.v (ρ v))),zao (fun v=>.v (ρ v)) (zN C [])) ∧
  (∀ x,zoR (zcm L T C) x→ρ x.toNat<24)∧∀ x y,zoR (zcm L T C) x→zoR (zcm L T C) y→ρ x.toNat=ρ y.toNat→x.toNat=y.toNat:=by
 have mL:∀ l,l∈zN L []↔l∈L:=fun l=>by simpa using q6 (x:=l) L []
 have mT:∀ l,l∈zN T []↔l∈T:=fun l=>by simpa using q6 (x:=l) T []
 have mC:∀ l,l∈zN C []↔l∈C:=fun l=>by simpa using q6 (x:=l) C []
 obtain⟨a1,a2,a3,a4⟩:=zfQ (zN L []) zJX fun l hl=>hc _ (ze9 ((mL l).1 hl))
 obtain⟨b1,b2,b3,b4⟩:=zld (zN T []) a1 fun l hl=>hc _ (ze7 ((mT l).1 hl))
 obtain⟨c1,c2,c3,c4⟩:=zfQ (zN C []) b1 fun l hl=>hc _ (zem ((mC l).1 hl))
 have nz:∀ x,zoR (zcm L T C) x→(za7 (zc2 (za7 (List.replicate 24 0,0) (zN L [])).2 (zN T [])).2 (zN C [])).2.1.getD x.toNat 0≠0:=by
  intro x hx
  unfold zcm at hx
  rw[zgf,zgf] at hx
  rcases hx with (⟨r,hr,hx⟩ | ⟨r,hr,hx⟩) | ⟨r,hr,hx⟩
  ·obtain⟨l,hl,rfl⟩:=List.mem_map.1 hr
   have:=a3 x ⟨_,List.mem_map_of_mem ((mL l).2 hl),hx⟩
   rw[c2 _ (by rw[b2 _ this]; exact this),b2 _ this]
   exact this
  ·obtain⟨l,hl,rfl⟩:=List.mem_map.1 hr
   exact c3 x ⟨_,List.mem_map_of_mem ((mC l).2 hl),hx⟩
  ·have:=b3 x ⟨_,(mT r).2 hr,hx⟩
   rw[c2 _ this]
   exact this
 refine ⟨rho (za7 (zc2 (za7 (List.replicate 24 0,0) (zN L [])).2 (zN T [])).2 (zN C [])).2,?_,fun x hx=>c1.rho_lt (nz x hx),fun x y hx hy he=>c1.rho_inj (nz x hx) (nz y hy) he⟩
 unfold zdx zFQ
 rw[a4 _ (b2.trans c2),b4 _ c2,c4 _ (ExtS.refl _)]
def zjN (s:Sb) (l:zd5):zd5:=(l.1,l.2.1,zbR s l.2.2)
theorem zj6 (s:Sb) (ls:List zd5):zao s (ls.map cl)=(ls.map (zjN s)).map cl:=by
 unfold zao
 rw[List.map_map,List.map_map]
 refine List.map_congr_left fun l _ => ?_
 show (l.1,zbT s ((l.2.1:Int)::zh l.2.2))=(l.1,(l.2.1:Int)::zh (zbR s l.2.2))
 rw[zfC]
 unfold zbT
 rw[List.flatMap_cons]
 have:zhh s (l.2.1:Int)=[(l.2.1:Int)]:=by unfold zhh; rw[if_neg (by omega)]
 rw[this]
 rfl
theorem zjv (s:Sb) (rs:List (List Tm)):(rs.map zh).map (zbT s)=(rs.map (zbR s)).map zh:=by
 rw[List.map_map,List.map_map]
 refine List.map_congr_left fun r _ => ?_
 show zbT s (zh r)=zh (zbR s r)
 rw[zfC]
 rfl
theorem ztK {m:Int} {nums:List Int} {env:Nat→Int} (s:Sb) (l:zd5):zmW m nums env (zjN s l)=zmW m nums (fun n=>zk1 m nums env (s n)) l:=by
 unfold zmW zuw zjN
 rw[ziK]
theorem zu4 {m:Int} {nums:List Int} {env:Nat→Int} (s:Sb) (r:List Tm):zeF m nums env (zbR s r)=zeF m nums (fun n=>zk1 m nums env (s n)) r:=by
 unfold zeF
 rw[ziK]
theorem zp8 {m:Int} {nums:List Int} {env:Nat→Int} (s:Sb) (L:List zd5) (T:List (List Tm)) (C:List zd5):zfq m nums env (L.map (zjN s)) (T.map (zbR s)) (C.map (zjN s))=zfq m nums (fun n=>zk1 m nums env (s n)) L T C:=by
 unfold zfq
 rw[List.all_map,List.any_map,List.any_map,zrz (l:=C) (p:=zmW m nums env ∘ zjN s) (q:=zmW m nums fun n=>zk1 m nums env (s n)) fun l _=>ztK s l,
  zkF (l:=L) (p:=zmW m nums env ∘ zjN s) (q:=zmW m nums fun n=>zk1 m nums env (s n)) fun l _=>ztK s l,zkF (l:=T) (p:=zeF m nums env ∘ zbR s) (q:=zeF m nums fun n=>zk1 m nums env (s n)) fun r _=>zu4 s r]
end
end Go.Abs.Q
namespace Go.Abs.Q
open Go Go.Abs
section
theorem zo0 {a0:List zq} (hb:zds a0=true) {ts:List Tm} (h:WfR a0 ts):zhm a0 (zh ts)=some ts.length:=by
 unfold zhm zb5
 rw[hb,decide_eq_true h.2,yh ts h.1]
 simp
theorem zAi {a0:List zq} {rs:List jI} {n:Nat} (h:∀ r∈rs,zhm a0 r=some n):zfP a0 rs=true:=by
 cases rs with
 | nil=>rfl
 | cons r rs =>
  unfold zfP
  show (match zhm a0 r with | none=>false | some n=>rs.all fun q=>zhm a0 q==some n)=true
  rw[h r (List.mem_cons_self ..)]
  exact List.all_eq_true.2 fun q hq=>by rw[h q (List.mem_cons_of_mem _ hq)]; simp
theorem zoS {a0:List zq} (hb:zds a0=true) {l:zd5} (h:WfL a0 l):zaS a0 (cl l).2=true:=by
 obtain⟨h1,⟨e,h2,h3,h4⟩,h5⟩:=h
 exact zBi h1 h2 h3 h4 h5 hb
theorem zDf {a0:List zq} {l k:zd5} (hl:WfL a0 l) (hk:WfL a0 k) (h:cl l=cl k):l=k:=by
 obtain⟨n,c,ts⟩:=l
 obtain⟨n',c',us⟩:=k
 have h:((n,(c:Int)::zh ts):zl)=(n',(c':Int)::zh us):=h
 injection h with h1 h2
 injection h2 with h2 h3
 have h3:=zb0 _ ts us (Nat.le_refl _) hl.1 hk.1 h3
 have:c=c':=by omega
 rw[h1,this,h3]
theorem zj8 {α β:Type} (f:α→β) {as:List α}:(bs:List β)→(∀ b∈bs,b∈as.map f)→∃ as':List α,bs=as'.map f∧∀ a∈as',a∈as
 | [],_=>⟨[],rfl,fun _ h=>(nomatch h)⟩
 | b::bs,h=>by
  obtain⟨as',h1,h2⟩:=zj8 f bs fun x hx=>h x (List.mem_cons_of_mem _ hx)
  obtain⟨a,ha,rfl⟩:=List.mem_map.1 (h b (List.mem_cons_self ..))
  refine ⟨a::as',by rw[List.map_cons,← h1],fun x hx => ?_⟩
  rcases List.mem_cons.1 hx with rfl | hx
  ·exact ha
  ·exact h2 x hx
theorem zzE {α:Type} {p:α→Bool} {a b:List α} (h:∀ x,x∈a↔x∈b):a.any p=b.any p:=by
 rw[Bool.eq_iff_iff,List.any_eq_true,List.any_eq_true]
 exact ⟨fun ⟨x,hx,hp⟩=>⟨x,(h x).1 hx,hp⟩,fun ⟨x,hx,hp⟩=>⟨x,(h x).2 hx,hp⟩⟩
theorem zFl {α:Type} {p:α→Bool} {a b:List α} (h:∀ x,x∈a↔x∈b):a.all p=b.all p:=by
 rw[Bool.eq_iff_iff,List.all_eq_true,List.all_eq_true]
 exact ⟨fun H x hx=>H x ((h x).2 hx),fun H x hx=>H x ((h x).1 hx)⟩
theorem zgK {α:Type} [DecidableEq α] (f:α→Nat):(es out:List α)→((zN es out).map f).sum≤(out.map f).sum+(es.map f).sum
 | [],out=>by simp [zN]
 | e::es,out=>by
  unfold zN
  by_cases h:e∈out
  ·rw[decide_eq_true h,cond_true]
   have:=zgK f es out
   simp only[List.map_cons,List.sum_cons]
   omega
  ·rw[decide_eq_false h,cond_false]
   have:=zgK f es (out++[e])
   simp only[List.map_cons,List.sum_cons,List.map_append,List.sum_append,List.map_nil,List.sum_nil] at this ⊢
   omega
abbrev vS (ρ:Nat→Nat):Sb:=fun v=>.v (ρ v)
theorem zwh (ρ:Nat→Nat) (r:List Int):(zbT (vS ρ) r).length=r.length:=by
 unfold zbT
 induction r with
 | nil=>rfl
 | cons c r ih =>
  rw[List.flatMap_cons,List.length_append,ih,List.length_cons]
  unfold zhh
  split
  ·simp [Tm.codes]; omega
  ·simp; omega
theorem zBG {a0:List zq} {ρ:Nat→Nat} {ts:List Tm} (h:WfR a0 ts) (hρ:∀ x,zk2 x ts→ρ x<24):WfR a0 (zbR (vS ρ) ts):=by
 refine ⟨zo6 ts h.1 fun x hx=>hρ x hx,?_⟩
 rw[zfC]
 have:=zwh ρ (zh ts)
 unfold zbT at this
 rw[this]
 exact h.2
theorem zCJ {a0:List zq} {ρ:Nat→Nat} {l:zd5} (h:WfL a0 l) (hρ:∀ x,zk2 x l.2.2→ρ x<24):WfL a0 (zjN (vS ρ) l):=by
 obtain⟨h1,⟨e,h2,h3,h4⟩,h5⟩:=h
 have:=zBG (a0:=a0) ⟨h1,h5⟩ hρ
 exact ⟨this.1,⟨e,h2,h3,by show (((zbR (vS ρ) l.2.2).length:Nat):Int)=_; rw[zgV]; exact h4⟩,this.2⟩
theorem zr6 {a0:List zq} {L:List zd5} {T:List (List Tm)} {C:List zd5} (hmay:zfs a0 (L.map cl) (T.map zh) (C.map cl)=true) (hL:∀ l∈L,WfL a0 l) (hT:∀ r∈T,WfR a0 r) (hC:∀ l∈C,WfL a0 l) :
  ∃(Ln:List zd5) (Tn:List (List Tm)) (Cn:List zd5) (ρ:Nat→Nat),zdx (L.map cl) (T.map zh) (C.map cl)=(Ln.map cl,Tn.map zh,Cn.map cl)∧(∀ l∈Ln,WfL a0 l)∧(∀ r∈Tn,WfR a0 r)∧(∀ l∈Cn,WfL a0 l) ∧
   zfs a0 (Ln.map cl) (Tn.map zh) (Cn.map cl)=true∧(∀ x,zvn L T C x→ρ x<24)∧(∀ x y,zvn L T C x→zvn L T C y→ρ x=ρ y→x=y)∧(∀ x,zvn Ln Tn Cn x↔∃ y,zvn L T C y∧ρ y=x) ∧
   ∀ m nums env,zfq m nums env Ln Tn Cn=zfq m nums (fun v=>env (ρ v)) L T C:=by
 obtain⟨hsb,g1,g2,g3,g4,g5,g6,g7⟩:=z4 hmay
 obtain⟨ρ,hn,hr1,hr2⟩:=zyV (L:=L.map cl) (T:=T.map zh) (C:=C.map cl) fun r hr c hc=>(zmT hmay r hr).2 c hc
 have hρ:∀ x,zvn L T C x→ρ x<24:=fun x hx=>by
  have:=hr1 x (zkT.2 hx)
  rwa [Int.toNat_natCast] at this
 have mL:∀ l,l∈zN (L.map cl) []↔l∈L.map cl:=fun l=>by simpa using q6 (x:=l) (L.map cl) []
 have mT:∀ l,l∈zN (T.map zh) []↔l∈T.map zh:=fun l=>by simpa using q6 (x:=l) (T.map zh) []
 have mC:∀ l,l∈zN (C.map cl) []↔l∈C.map cl:=fun l=>by simpa using q6 (x:=l) (C.map cl) []
 obtain⟨L1,eL,sL⟩:=zj8 cl (zN (L.map cl) []) fun b hb=>(mL b).1 hb
 obtain⟨T1,eT,sT⟩:=zj8 zh (zN (T.map zh) []) fun b hb=>(mT b).1 hb
 obtain⟨C1,eC,sC⟩:=zj8 cl (zN (C.map cl) []) fun b hb=>(mC b).1 hb
 have bL:∀ l,l∈L1↔l∈L:=fun l=>⟨sL l,fun hl=>by
  have h1:=(mL (cl l)).2 (List.mem_map_of_mem hl)
  rw[eL] at h1
  obtain⟨k,hk,he⟩:=List.mem_map.1 h1
  rw[← zDf (hL k (sL k hk)) (hL l hl) he]
  exact hk⟩
 have bC:∀ l,l∈C1↔l∈C:=fun l=>⟨sC l,fun hl=>by
  have h1:=(mC (cl l)).2 (List.mem_map_of_mem hl)
  rw[eC] at h1
  obtain⟨k,hk,he⟩:=List.mem_map.1 h1
  rw[← zDf (hC k (sC k hk)) (hC l hl) he]
  exact hk⟩
 have bT:∀ l,l∈T1↔l∈T:=fun l=>⟨sT l,fun hl=>by
  have h1:=(mT (zh l)).2 (List.mem_map_of_mem hl)
  rw[eT] at h1
  obtain⟨k,hk,he⟩:=List.mem_map.1 h1
  rw[← zb0 _ k l (Nat.le_refl _) (hT k (sT k hk)).1 (hT l hl).1 he]
  exact hk⟩
 have wL:∀ l∈L1.map (zjN (vS ρ)),WfL a0 l:=fun l hl=>by
  obtain⟨k,hk,rfl⟩:=List.mem_map.1 hl
  exact zCJ (hL k (sL k hk)) fun x hx=>hρ x (.inl ⟨k,sL k hk,hx⟩)
 have wC:∀ l∈C1.map (zjN (vS ρ)),WfL a0 l:=fun l hl=>by
  obtain⟨k,hk,rfl⟩:=List.mem_map.1 hl
  exact zCJ (hC k (sC k hk)) fun x hx=>hρ x (.inr (.inr ⟨k,sC k hk,hx⟩))
 have wT:∀ l∈T1.map (zbR (vS ρ)),WfR a0 l:=fun l hl=>by
  obtain⟨k,hk,rfl⟩:=List.mem_map.1 hl
  exact zBG (hT k (sT k hk)) fun x hx=>hρ x (.inr (.inl ⟨k,sT k hk,hx⟩))
 have lL:L1.length≤5:=by
  have h1:=congrArg List.length eL
  have h2:=zaW (L.map cl) []
  rw[List.length_map] at h1 h2 g1
  simp at h2; omega
 have lT:T1.length≤3:=by
  have h1:=congrArg List.length eT
  have h2:=zaW (T.map zh) []
  rw[List.length_map] at h1 h2 g2
  simp at h2; omega
 have lC:C1.length≤3:=by
  have h1:=congrArg List.length eC
  have h2:=zaW (C.map cl) []
  rw[List.length_map] at h1 h2 g3
  simp at h2; omega
 refine ⟨L1.map (zjN (vS ρ)),T1.map (zbR (vS ρ)),C1.map (zjN (vS ρ)),ρ,?_,wL,wT,wC,?_,hρ,fun x y hx hy he => ?_,fun x => ?_,fun m nums env => ?_⟩
 ·rw[hn,eL,eT,eC,zj6,zjv,zj6]
 ·refine zDW hsb (by simpa using lL) (by simpa using lT) (by simpa using lC) ?_ ?_ ?_ ?_
  ·refine List.all_eq_true.2 fun l hl => ?_
   obtain⟨k,hk,rfl⟩:=List.mem_map.1 hl
   exact zoS hsb (wL k hk)
  ·obtain⟨n,hw⟩:=zhO g5
   refine zAi (n:=n) fun r hr => ?_
   obtain⟨k,hk,rfl⟩:=List.mem_map.1 hr
   rw[zo0 hsb (wT k hk)]
   obtain⟨j,hj,rfl⟩:=List.mem_map.1 hk
   rw[zgV]
   have:=hw (zh j) (List.mem_map_of_mem (sT j hj))
   rwa [zo0 hsb (hT j (sT j hj))] at this
  ·refine List.all_eq_true.2 fun l hl => ?_
   obtain⟨k,hk,rfl⟩:=List.mem_map.1 hl
   exact zoS hsb (wC k hk)
  ·have sumL:∀(X X1:List zd5),zN (X.map cl) []=X1.map cl→zv (((X1.map (zjN (vS ρ))).map cl).map (·.2))≤zv ((X.map cl).map (·.2)):=by
    intro X X1 he
    rw[← zj6]
    have h1:(zao (vS ρ) (X1.map cl)).map (·.2.length)=(X1.map cl).map (·.2.length):=by
     unfold zao
     rw[List.map_map]
     exact List.map_congr_left fun l _=>zwh ρ l.2
    unfold zv
    rw[List.map_map,List.map_map]
    have h2:=zgK (fun l:zl=>l.2.length) (X.map cl) []
    rw[he] at h2
    have h3:List.map (List.length ∘ fun x=>x.2) (zao (vS ρ) (X1.map cl))=(X1.map cl).map (·.2.length):=h1
    rw[h3]
    have h4:(([]:List zl).map (fun l:zl=>l.2.length)).sum=0:=rfl
    have h5:List.map (List.length ∘ fun x=>x.2) (X.map cl)=(X.map cl).map (fun l:zl=>l.2.length):=rfl
    rw[h4,Nat.zero_add] at h2
    exact h2
   have sumT:zv ((T1.map (zbR (vS ρ))).map zh)≤zv (T.map zh):=by
    rw[← zjv]
    have h2:=zgK List.length (T.map zh) []
    rw[eT] at h2
    unfold zv
    rw[List.map_map]
    have h3:List.map (List.length ∘ zbT (vS ρ)) (T1.map zh)=(T1.map zh).map List.length:=List.map_congr_left fun r _=>zwh ρ r
    rw[h3]
    simpa using h2
   have h1:=sumL L L1 eL
   have h2:=sumL C C1 eC
   omega
 ·have:=hr2 x y (zkT.2 hx) (zkT.2 hy) (by rw[Int.toNat_natCast,Int.toNat_natCast]; exact he)
  rwa [Int.toNat_natCast,Int.toNat_natCast] at this
 ·constructor
  ·rintro (⟨l,hl,hx⟩ | ⟨r,hr,hx⟩ | ⟨l,hl,hx⟩)
   ·obtain⟨k,hk,rfl⟩:=List.mem_map.1 hl
    obtain⟨y,hy,he⟩:=(ze4 k.2.2).1 hx
    exact ⟨y,.inl ⟨k,sL k hk,hy⟩,he⟩
   ·obtain⟨k,hk,rfl⟩:=List.mem_map.1 hr
    obtain⟨y,hy,he⟩:=(ze4 k).1 hx
    exact ⟨y,.inr (.inl ⟨k,sT k hk,hy⟩),he⟩
   ·obtain⟨k,hk,rfl⟩:=List.mem_map.1 hl
    obtain⟨y,hy,he⟩:=(ze4 k.2.2).1 hx
    exact ⟨y,.inr (.inr ⟨k,sC k hk,hy⟩),he⟩
  ·rintro⟨y,⟨l,hl,hy⟩ | ⟨r,hr,hy⟩ | ⟨l,hl,hy⟩,he⟩
   ·exact .inl ⟨_,List.mem_map_of_mem ((bL l).2 hl),(ze4 l.2.2).2 ⟨y,hy,he⟩⟩
   ·exact .inr (.inl ⟨_,List.mem_map_of_mem ((bT r).2 hr),(ze4 r).2 ⟨y,hy,he⟩⟩)
   ·exact .inr (.inr ⟨_,List.mem_map_of_mem ((bC l).2 hl),(ze4 l.2.2).2 ⟨y,hy,he⟩⟩)
 ·rw[zp8]
  unfold zfq
  rw[zFl bC,zzE bL,zzE bT]
  rfl
theorem ztA {m:Nat} (hm:0<m) {nums:List Int} (hn:zdZ nums) {a0:List zq} (hs:SignOk a0) {env:Nat→Int} (he:∀ x,x<24→0≤env x∧env x<(m:Int)) {σ:Sb} (hσ:∀ x,x<24→(σ x).ok a0 24) :
  ∃ E,EnvOk (m:Int) E∧∀ x,x<24→zbV E x=zk1 (m:Int) nums env (σ x):=by
 refine ⟨(List.range 24).map fun x=>zk1 (m:Int) nums env (σ x),⟨by simp,fun y hy => ?_⟩,fun x hx => ?_⟩
 ·obtain⟨x,hx,rfl⟩:=List.mem_map.1 hy
  exact zut (by omega) hn hs _ (hσ x (List.mem_range.1 hx)) he
 ·unfold zbV
  rw[List.getD_eq_getElem?_getD,List.getElem?_map,List.getElem?_range hx]
  rfl
theorem zjr {α:Type} {s:Int} {x:α}:(es:List α)→(i:Nat)→(x∈zS s es i↔∃ k:Nat,es[k]? = some x∧((i+k:Nat):Int)≠s)
 | [],i=>by simp [zS]
 | e::es,i=>by
  have ih:=zjr (s:=s) (x:=x) es (i+1)
  have shift:(∃ k:Nat,(e::es)[k]? = some x∧((i+k:Nat):Int)≠s)↔(e=x∧(i:Int)≠s)∨∃ k:Nat,es[k]? = some x∧((i+1+k:Nat):Int)≠s:=by
   constructor
   ·rintro⟨k,h1,h2⟩
    cases k with
    | zero=>exact .inl ⟨by simpa using h1,by simpa using h2⟩
    | succ k=>exact .inr ⟨k,by simpa using h1,by rw[show i+1+k=i+(k+1) from by omega]; exact h2⟩
   ·rintro (⟨h1,h2⟩ | ⟨k,h1,h2⟩)
    ·exact ⟨0,by simp [h1],by simpa using h2⟩
    ·exact ⟨k+1,by simpa using h1,by rw[show i+(k+1)=i+1+k from by omega]; exact h2⟩
  rw[shift,← ih]
  show (x∈cond ((i:Int) != s) (e::zS s es (i+1)) (zS s es (i+1)))↔_
  by_cases hi:(i:Int)=s
  ·rw[show ((i:Int) != s)=false from by simp [hi],cond_false]
   simp [hi]
  ·rw[show ((i:Int) != s)=true from by simp [hi],cond_true,List.mem_cons]
   constructor
   ·rintro (h | h)
    ·exact .inl ⟨h.symm,hi⟩
    ·exact .inr h
   ·rintro (h | h)
    ·exact .inl h.1.symm
    ·exact .inr h
theorem znH {α β:Type} (f:α→β) (s:Int):(es:List α)→(i:Nat)→zS s (es.map f) i=(zS s es i).map f
 | [],_=>rfl
 | e::es,i=>by
  have ih:=znH f s es (i+1)
  show cond ((i:Int) != s) (f e::zS s (es.map f) (i+1)) (zS s (es.map f) (i+1))=(cond ((i:Int) != s) (e::zS s es (i+1)) (zS s es (i+1))).map f
  cases ((i:Int) != s) with
  | true=>rw[cond_true,cond_true,ih]; rfl
  | false=>rw[cond_false,cond_false,ih]
end
end Go.Abs.Q
namespace Go.Abs.Q
open Go Go.Abs
section
theorem zyG {a0:List zq} {L:List zd5} (h:zdV a0 (L.map cl)=true) (ho:∀ l∈L,okR a0 24 l.2.2):∀ l∈L,WfL a0 l:=fun l hl=>by
 have h1:zaS a0 (cl l).2=true:=List.all_eq_true.1 h (cl l) (List.mem_map_of_mem hl)
 obtain⟨c,ts,e,h2,h3,h4,h5,h6,h7,-⟩:=zda h1
 have h2:((l.2.1:Int)::zh l.2.2)=(c:Int)::zh ts:=h2
 injection h2 with h8 h9
 have h9:=zb0 _ l.2.2 ts (Nat.le_refl _) (ho l hl) h3 h9
 have h8:l.2.1=c:=by omega
 refine ⟨ho l hl,⟨e,by rw[h8]; exact h4,h5,by rw[h9]; exact h6⟩,by rw[h9]; exact h7⟩
theorem zFp {a0:List zq} {T:List (List Tm)} (h:zfP a0 (T.map zh)=true) (ho:∀ r∈T,okR a0 24 r):∀ r∈T,WfR a0 r:=fun r hr=>by
 obtain⟨n,hn⟩:=zhO h
 obtain⟨ps,-,-,hl,-⟩:=zkU (hn (zh r) (List.mem_map_of_mem hr))
 exact ⟨ho r hr,hl⟩
def Holds (m:Nat) (nums:List Int) (L:List zd5) (T:List (List Tm)) (C:List zd5):Prop:=∀ E,EnvOk (m:Int) E→zfq (m:Int) nums (zbV E) L T C=true
theorem zuF {m:Nat} (hm:0<m) (hm3:m≤3) {nums:List Int} (hn:zdZ nums) {a0:List zq} (hs:SignOk a0) {σ:Sb} (hσ:∀ x,x<24→(σ x).ok a0 24) {L:List zd5} {T:List (List Tm)} {C:List zd5}
  (hL:∀ l∈L,okR a0 24 l.2.2) (hT:∀ r∈T,okR a0 24 r) (hC:∀ l∈C,okR a0 24 l.2.2)
  (hmay:zfs a0 (zao σ (L.map cl)) ((T.map zh).map (zbT σ)) (zao σ (C.map cl))=true) :
  zfs a0 (zdx (zao σ (L.map cl)) ((T.map zh).map (zbT σ)) (zao σ (C.map cl))).1 (zdx (zao σ (L.map cl)) ((T.map zh).map (zbT σ)) (zao σ (C.map cl))).2.1 (zdx (zao σ (L.map cl)) ((T.map zh).map (zbT σ)) (zao σ (C.map cl))).2.2=true ∧
  ((∀ E,EnvOk (m:Int) E→zfq (m:Int) nums (fun n=>zk1 (m:Int) nums (zbV E) (σ n)) L T C=true) →
   zcw (m:Int) nums a0 (zdx (zao σ (L.map cl)) ((T.map zh).map (zbT σ)) (zao σ (C.map cl))).1 (zdx (zao σ (L.map cl)) ((T.map zh).map (zbT σ)) (zao σ (C.map cl))).2.1 (zdx (zao σ (L.map cl)) ((T.map zh).map (zbT σ)) (zao σ (C.map cl))).2.2=some true):=by
 rw[zj6,zjv,zj6] at hmay ⊢
 have okS:∀{ts:List Tm},okR a0 24 ts→okR a0 24 (zbR σ ts):=fun {ts} h=>zo6 ts h fun x hx=>hσ x (zgU ts h hx)
 have oL:∀ l∈L.map (zjN σ),okR a0 24 l.2.2:=fun l hl=>by
  obtain⟨k,hk,rfl⟩:=List.mem_map.1 hl
  exact okS (hL k hk)
 have oC:∀ l∈C.map (zjN σ),okR a0 24 l.2.2:=fun l hl=>by
  obtain⟨k,hk,rfl⟩:=List.mem_map.1 hl
  exact okS (hC k hk)
 have oT:∀ l∈T.map (zbR σ),okR a0 24 l:=fun l hl=>by
  obtain⟨k,hk,rfl⟩:=List.mem_map.1 hl
  exact okS (hT k hk)
 obtain⟨-,-,-,-,g4,g5,g6,-⟩:=z4 hmay
 obtain⟨Ln,Tn,Cn,ρ,e1,w1,w2,w3,w4,w5,w6,w7,w8⟩:=zr6 hmay (zyG g4 oL) (zFp g5 oT) (zyG g6 oC)
 rw[e1]
 refine ⟨w4,fun H => ?_⟩
 obtain⟨b,c1,c2⟩:=zsJ hm hm3 hn hs w4 w1 w2 w3
 simp only
 rw[c1,c2.2 fun E hE => ?_]
 rw[w8]
 obtain⟨E',hE',he'⟩:=ztA hm hn hs (env:=zbV E) (fun x hx=>hE.val hx) (σ:=fun x=>.v (if ρ x<24 then ρ x else 0)) (fun x _=>by
  show (if ρ x<24 then ρ x else 0)<24
  split<;>omega)
 rw[← H E' hE',← zp8]
 refine zmF fun x hx => ?_
 have h24:=w5 x hx
 have hx24:x<24:=by
  rcases hx with ⟨l,hl,hx⟩ | ⟨l,hl,hx⟩ | ⟨l,hl,hx⟩
  ·exact zgU _ (oL l hl) hx
  ·exact zgU _ (oT l hl) hx
  ·exact zgU _ (oC l hl) hx
 rw[he' x hx24]
 show zbV E (ρ x)=zbV E (if ρ x<24 then ρ x else 0)
 rw[if_pos h24]
theorem Holds.inst {m:Nat} (hm:0<m) {nums:List Int} (hn:zdZ nums) {a0:List zq} (hs:SignOk a0) {σ:Sb} (hσ:∀ x,x<24→(σ x).ok a0 24) {L:List zd5} {T:List (List Tm)} {C:List zd5}
  (hv:∀ x,zvn L T C x→x<24) (h:Holds m nums L T C) {E:List Int} (hE:EnvOk (m:Int) E):zfq (m:Int) nums (fun n=>zk1 (m:Int) nums (zbV E) (σ n)) L T C=true:=by
 obtain⟨E',hE',he'⟩:=ztA hm hn hs (env:=zbV E) (fun x hx=>hE.val hx) hσ
 rw[← h E' hE']
 exact zmF fun x hx=>(he' x (hv x hx)).symm
theorem ziz {m:Int} {nums:List Int} {env:Nat→Int} {L:List zd5} {T:List (List Tm)} {C:List zd5}:zfq m nums env L T C=true↔(∃ l∈C,zmW m nums env l=false)∨(∃ l∈L,zmW m nums env l=true)∨∃ r∈T,zeF m nums env r=true:=by
 unfold zfq
 rw[Bool.or_eq_true,Bool.or_eq_true,List.any_eq_true,List.any_eq_true,Bool.not_eq_true',List.all_eq_false]
 simp
mutual
theorem Tm.sub_id:(t:Tm)→t.sub (fun n=>Tm.v n)=t
 | .v n=>rfl
 | .f c as=>by rw[Tm.sub,zyD as]
theorem zyD:(ts:List Tm)→zbR (fun n=>Tm.v n) ts=ts
 | []=>rfl
 | t::ts=>by rw[zbR,Tm.sub_id t,zyD ts]
end
theorem zHK {L:List zd5} {i:Int} {x:zl} (h:gx (L.map cl) i=some x):0≤i∧∃ l,L[i.toNat]? = some l∧x=cl l:=by
 unfold gx at h
 cases hd:decide (0≤i) with
 | false=>rw[hd] at h; cases h
 | true =>
  rw[hd,cond_true,List.getElem?_map] at h
  refine ⟨of_decide_eq_true hd,?_⟩
  cases hl:L[i.toNat]? with
  | none=>rw[hl] at h; cases h
  | some l=>rw[hl] at h; injection h with h; exact ⟨l,rfl,h.symm⟩
theorem zui {m:Int} {nums:List Int} {env:Nat→Int} {L:List zd5} {T:List (List Tm)} {C:List zd5} {j:Int} (h:zfq m nums env L T C=true) (hj:∀ k:Nat,(k:Int)=j→∀ l,L[k]? = some l→zmW m nums env l=true→zfq m nums env (zS j L 0) T C=true):zfq m nums env (zS j L 0) T C=true:=by
 rcases ziz.1 h with h | ⟨l,hl,hv⟩ | h
 ·exact ziz.2 (.inl h)
 ·obtain⟨k,hk,he⟩:=List.mem_iff_getElem.1 hl
  have hg:L[k]? = some l:=by rw[List.getElem?_eq_getElem hk,he]
  by_cases hkj:(k:Int)=j
  ·exact hj k hkj l hg hv
  ·exact ziz.2 (.inr (.inl ⟨l,(zjr L 0).2 ⟨k,hg,by simpa using hkj⟩,hv⟩))
 ·exact ziz.2 (.inr (.inr h))
theorem zhE {a0:List zq} (hs:SignOk a0) {L:List zl} {T:List jI} {C:List zl} (h:zfs a0 L T C=true) {i j:Int} {n n':Bool} {A A':List Int} (hi:gx L i=some (n,A)) (hj:gx L j=some (n',A')) :
  (∃ k,zbX a0 L T C i j=zwJ k) ∨
  (n=n'∧∃(c:Nat) (ts us:List Tm) (σ:Sb),A=(c:Int)::zh ts∧A'=(c:Int)::zh us∧okR a0 24 ts∧okR a0 24 us∧ts.length=us.length∧Mgu σ (ts.zip us)∧(∀ x,x<24→(σ x).ok a0 24)∧zbX a0 L T C i j=zkX a0 σ (zS j L 0) T C 1401):=by
 obtain⟨hsb,l1,l2,l3,l4,l5,l6,-⟩:=z4 h
 have hA:=List.all_eq_true.1 l4 (n,A) (zql hi)
 have hA':=List.all_eq_true.1 l4 (n',A') (zql hj)
 obtain⟨c,ts,e,rfl,ho,he,-,hlen,hl48,-⟩:=zda hA
 obtain⟨c',us,e',rfl,ho',he',-,hlen',hl48',-⟩:=zda hA'
 unfold zbX
 rw[hi,Option.bind_some,hj,Option.bind_some]
 simp only[Option.bind_some]
 by_cases hn:n=n'
 ·subst hn
  rw[show (!(n==n))=false from by simp,cond_false]
  simp only[ql,List.getElem?_cons_zero,Option.bind_some]
  by_cases hc:c=c'
  ·subst hc
   rw[show ((c:Int) != (c:Int))=false from by simp,cond_false,zcA,Option.bind_some,zcA,Option.bind_some]
   rcases zoB hs (xs:=zh ts) (ys:=zh us) rfl rfl ho ho' hsb hl48 hl48' with ⟨hu,-⟩ | ⟨hll,σ,hm,hok,hu⟩
   ·rw[hu]
    exact .inl ⟨0,rfl⟩
   ·rw[hu]
    cases hsh:za9 σ (List.range 24) with
    | false=>exact .inl ⟨1401,rfl⟩
    | true =>
     refine .inr ⟨trivial,c,ts,us,σ,rfl,rfl,ho,ho',hll,hm,hok,?_⟩
     simp only[cond_true,Option.bind_some,show ((0:Int) != 0)=false from rfl,cond_false,Bool.not_true]
     have hcd:=zsk hs h
     have hwl:=zge j L 0
     rw[zhz j (-1) (by omega) (by omega) (by omega) (by simp) (by simp) (by simp),Option.bind_some]
     simp only[List.append_nil,zS]
     rw[zB2 hsh (fun l hl=>hcd _ (ze9 (zeD L 0 hl))) (fun r hr=>hcd _ (ze7 hr)) (fun l hl=>hcd _ (zem hl)) (by omega) (by omega) (by omega),Option.bind_some,zg2,Option.bind_some]
     unfold zkX
     cases zfs a0 (zao σ (zS j L 0)) (T.map (zbT σ)) (zao σ C) with
     | true=>rfl
     | false=>rfl
  ·rw[show ((c:Int) != (c':Int))=true from by simp; omega,cond_true]
   exact .inl ⟨0,rfl⟩
 ·rw[show (!(n==n'))=true from by simp [hn],cond_true]
  exact .inl ⟨0,rfl⟩
theorem zqv {a0:List zq} {σ:Sb} {L:List zl} {T:List jI} {C:List zl} {k:Int} (hk:k≠0):∃ r,zkX a0 σ L T C k=some r∧(r.2.2.2.1=0→zfs a0 (zao σ L) (T.map (zbT σ)) (zao σ C)=true∧(r.1,r.2.1,r.2.2.2.2)=zdx (zao σ L) (T.map (zbT σ)) (zao σ C)):=by
 unfold zkX
 cases hm:zfs a0 (zao σ L) (T.map (zbT σ)) (zao σ C) with
 | true=>exact ⟨_,rfl,fun _=>⟨rfl,rfl⟩⟩
 | false=>exact ⟨_,rfl,fun h=>absurd h hk⟩
section
variable {m:Nat} (hm:0<m) (hm3:m≤3) {nums:List Int} (hn:zdZ nums) {a0:List zq} (hs:SignOk a0)
include hm hm3 hn hs
theorem zp3 {L:List zd5} {T:List (List Tm)} {C:List zd5} (hmay:zfs a0 (L.map cl) (T.map zh) (C.map cl)=true) (hL:∀ l∈L,WfL a0 l) (hT:∀ r∈T,WfR a0 r) (hC:∀ l∈C,WfL a0 l) (i j:Int) :
  ∃ r,qR a0 (L.map cl) (T.map zh) (C.map cl) i j=some r∧(r.2.2.2.1=0→r.2.2.1=true→zfs a0 r.1 r.2.1 r.2.2.2.2=true∧(Holds m nums L T C→zcw (m:Int) nums a0 r.1 r.2.1 r.2.2.2.2=some true)):=by
 unfold qR
 have fails:∀{k:Int} {o:Option zAg} {P:zAg→Prop},o=zwJ k→∃ r,o=some r∧(r.2.2.2.1=0→r.2.2.1=true→P r):=fun h=>⟨_,h,fun _ h=>(nomatch h)⟩
 rw[za3,Option.bind_some,hmay,Bool.not_true,cond_false,zad,Option.bind_some]
 cases hpi:zea (L.map cl) i with
 | false=>exact fails (k:=1400) rfl
 | true =>
  rw[Bool.not_true,cond_false,zad,Option.bind_some]
  cases hpj:zea (L.map cl) j with
  | false=>exact fails (k:=1400) rfl
  | true =>
   rw[Bool.not_true,cond_false]
   by_cases hij:i=j
   ·rw[show (i==j)=true from by simp [hij],cond_true]
    exact fails (k:=1400) rfl
   ·rw[show (i==j)=false from by simp [hij],cond_false]
    have eta:∀ o:Option zAg,(o.bind fun r=>some (r.1,r.2.1,r.2.2.1,r.2.2.2.1,r.2.2.2.2))=o:=fun o=>by cases o<;>rfl
    rw[eta]
    obtain⟨⟨n,A⟩,hi⟩:=zf7 hpi
    obtain⟨⟨n',A'⟩,hj⟩:=zf7 hpj
    rcases zhE hs hmay hi hj with ⟨k,r1⟩ | ⟨hnn,c,ts,us,σ,rfl,rfl,ho,ho',hll,hmgu,hok,r1⟩
    ·exact fails r1
    ·rw[r1,znH]
     obtain⟨r,g1,g2⟩:=zqv (a0:=a0) (σ:=σ) (L:=(zS j L 0).map cl) (T:=T.map zh) (C:=C.map cl) (k:=1401) (by omega)
     refine ⟨r,g1,fun h0 _ => ?_⟩
     obtain⟨g3,g4⟩:=g2 h0
     obtain⟨k1,k2⟩:=zuF hm hm3 hn hs hok (fun l hl=>(hL l (zeD L 0 hl)).1) (fun r hr=>(hT r hr).1) (fun l hl=>(hC l hl).1) g3
     rw[← g4] at k1 k2
     refine ⟨k1,fun H=>k2 fun E hE => ?_⟩
     have hv:∀ x,zvn L T C x→x<24:=fun x hx=>by
      rcases hx with ⟨l,hl,hx⟩ | ⟨l,hl,hx⟩ | ⟨l,hl,hx⟩
      ·exact zgU _ (hL l hl).1 hx
      ·exact zgU _ (hT l hl).1 hx
      ·exact zgU _ (hC l hl).1 hx
     refine zui (H.inst hm hn hs hok hv hE) fun k hk l hl hlv => ?_
     obtain⟨hi0,li,hli,ei⟩:=zHK hi
     obtain⟨hj0,lj,hlj,ej⟩:=zHK hj
     have hkj:k=j.toNat:=by omega
     have:l=lj:=by rw[hkj,hlj] at hl; injection hl with hl; exact hl.symm
     subst this
     refine ziz.2 (.inr (.inl ⟨li,(zjr L 0).2 ⟨i.toNat,hli,by omega⟩,?_⟩))
     have oi:=(hL li (List.mem_of_getElem? hli)).1
     have oj:=(hL l (List.mem_of_getElem? hl)).1
     injection ei with a1 a2
     injection a2 with a2 a3
     injection ej with b1 b2
     injection b2 with b2 b3
     have a3:=zb0 _ ts li.2.2 (Nat.le_refl _) ho oi a3
     have b3:=zb0 _ us l.2.2 (Nat.le_refl _) ho' oj b3
     have hsol:=(Sol.zip hll).1 hmgu.sol
     have hval:zf8 (m:Int) nums (fun n=>zk1 (m:Int) nums (zbV E) (σ n)) ts=zf8 (m:Int) nums (fun n=>zk1 (m:Int) nums (zbV E) (σ n)) us:=by
      rw[← ziK,← ziK,hsol]
     rw[← hlv]
     unfold zmW zuw
     have hc:li.2.1=l.2.1:=by omega
     rw[← a3,← b3,hval,hc,← a1,← b1,hnn]
end
end
end Go.Abs.Q
namespace Go.Abs.Q
open Go Go.Abs
section
section
variable {m:Nat} (hm:0<m) (hm3:m≤3) {nums:List Int} (hn:zdZ nums) {a0:List zq} (hs:SignOk a0)
include hm hm3 hn hs
end
end
end Go.Abs.Q
namespace Go.Abs.Q
open Go Go.Abs
section
theorem ztc (x:Int):(es:List Int)→(i:Nat)→(x∈es→∃ j:Nat,yH x es i=some (.inr (j:Int)))∧(x∉es→yH x es i=some (.inl ()))
 | [],i=>⟨fun h=>(nomatch h),fun _=>rfl⟩
 | e::es,i=>by
  obtain⟨h1,h2⟩:=ztc x es (i+1)
  unfold yH
  by_cases he:x=e
  ·rw[show (x==e)=true from by simp [he],cond_true]
   exact ⟨fun _=>⟨i,rfl⟩,fun h=>absurd (by rw[he]; exact List.mem_cons_self ..) h⟩
  ·rw[show (x==e)=false from by simp [he],cond_false]
   refine ⟨fun h=>h1 ?_,fun h=>h2 fun h'=>h (List.mem_cons_of_mem _ h')⟩
   rcases List.mem_cons.1 h with h | h
   ·exact absurd h he
   ·exact h
theorem zsz {xs:List Int} (x:Int) (hl:xs.length≤maxLen):zbn xs x=some (decide (x∈xs)):=by
 unfold zbn zif
 rw[zhs _ _ hl]
 obtain⟨h1,h2⟩:=ztc x xs 0
 by_cases h:x∈xs
 ·obtain⟨j,hj⟩:=h1 h
  rw[hj,decide_eq_true h]
  show some (decide ((j:Int)≥0))=_
  rw[decide_eq_true (by omega)]
 ·rw[h2 h,decide_eq_false h]
  rfl
theorem zBk {α:Type} (xs:List α) {i:Nat} (h:i≤xs.length):zcv xs none (some (i:Int))=some (xs.take i):=by
 show slc xs 0 (i:Int)=some _
 unfold slc
 rw[decide_eq_true (show (0:Int)≤0 by omega),decide_eq_true (show (0:Int)≤(i:Int) by omega),decide_eq_true (show (i:Int)≤((xs.length:Nat):Int) by omega)]
 simp
end
end Go.Abs.Q
namespace Go.Abs.Q
open Go Go.Abs
section
section
variable {m:Nat} (hm:0<m) (hm3:m≤3) {nums:List Int} (hn:zdZ nums) {a0:List zq} (hs:SignOk a0)
include hm hm3 hn hs
end
end
end Go.Abs.Q
namespace Go.Abs.Q
open Go Go.Abs
section
end
end Go.Abs.Q
