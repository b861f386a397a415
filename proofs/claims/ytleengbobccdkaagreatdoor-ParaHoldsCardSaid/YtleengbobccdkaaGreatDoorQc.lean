import Derived.Test.YtleengbobccdkaaGreatDoorQb
/-
  What the functions make of plain values, and what the law says of that.
-/
namespace Go.Abs.Q
open Go Go.Abs
section
theorem zs2 (b:List Int):(es:List Int)→(i:Nat)→i+es.length=b.length→zaE b es i=some (cond (decide (es=b.drop i)) (.inl ()) (.inr false))
 | [],i,h=>by
  rw[List.drop_of_length_le (by simp at h; omega)]
  rfl
 | e::es,i,h=>by
  simp only[List.length_cons] at h
  obtain⟨x,hx⟩:∃ x,b[i]? = some x:=⟨_,List.getElem?_eq_getElem (by omega)⟩
  have hd:b.drop i=x::b.drop (i+1):=by
   have h1:=(List.getElem?_eq_some_iff.1 hx).1
   rw[List.drop_eq_getElem_cons h1]
   rw[(List.getElem?_eq_some_iff.1 hx).2]
  unfold zaE
  rw[yx,hx,Option.bind_some,zs2 b es (i+1) (by omega),hd]
  by_cases he:e=x
  ·subst he
   rw[show (e != e)=false from by simp,cond_false]
   simp
  ·rw[show (e != x)=true from by simp [he],cond_true]
   simp [he]
theorem zhv {a b:List Int} (h:a.length≤1000000):zbd a b=some (decide (a=b)):=by
 unfold zbd
 by_cases hl:a.length=b.length
 ·rw[show (((List.length a:Nat):Int) != ((List.length b:Nat):Int))=false from by simp [hl],cond_false,zjn _ _ (by unfold maxLen; omega),zs2 b a 0 (by omega),Option.bind_some,List.drop_zero]
  cases decide (a=b)<;>rfl
 ·rw[show (((List.length a:Nat):Int) != ((List.length b:Nat):Int))=true from by simp; omega,cond_true]
  have:a≠b:=fun e=>hl (by rw[e])
  simp [this]
def zDC (o:Option Tm):List Int:=match o with
 | none=>[]
 | some t=>t.codes
structure RepW (a0:List zi) (w:List jI) (B:Bd):Prop where
 len:w.length=48
 at_:∀ x,x<48→w[x]? = some (zDC (B x))
 ok:∀ x t,B x=some t→x<24∧t.ok a0 24∧t.codes.length≤48
theorem RepW.small {a0:List zi} {w:List jI} {B:Bd} (h:RepW a0 w B):zlM B:=fun x t ht=>by
 obtain⟨h1,h2,h3⟩:=h.ok x t ht
 rw[Tm.codes_len] at h3
 exact ⟨by omega,h3⟩
theorem RepW.set {a0:List zi} {w:List jI} {B:Bd} (h:RepW a0 w B) {x:Nat} (hx:x<24) {t:Tm} (ht:t.ok a0 24) (hl:t.codes.length≤48):RepW a0 (w.set x t.codes) (zA0 B x t) where
 len:=by rw[List.length_set]; exact h.len
 at_:=fun y hy=>by
  have:=h.len
  by_cases he:y=x
  ·subst he
   rw[List.getElem?_set_self (by omega),zeo]
   rfl
  ·rw[List.getElem?_set_ne (Ne.symm he),zhm _ _ he]
   exact h.at_ y hy
 ok:=fun y u hy=>by
  by_cases he:y=x
  ·subst he
   rw[zeo] at hy
   injection hy with hy
   subst hy
   exact ⟨hx,ht,hl⟩
  ·rw[zhm _ _ he] at hy
   exact h.ok y u hy
theorem zkB (t:Tm):0<t.codes.length:=by rw[Tm.codes_len]; exact t.size_pos
section
variable {a0:List zi} {w:List jI} {B:Bd} {σ:Sb} (hT:RepW a0 w B) (hG:Good B σ)
include hT hG
theorem zAY:∀(m k:Nat) (t:Tm),zi0 t≤m→m≤k→t.ok a0 24→t.codes.length≤48 →
  ∃ u:Tm,lp zcq k (t.codes,w)=some u.codes∧u.ok a0 24∧u.codes.length≤48∧(∀ θ,SolB θ B→t.sub θ=u.sub θ)∧∀ y,u = .v y→B y=none:=by
 intro m
 induction m with
 | zero=>intro k t hm; cases t<;>simp [zi0] at hm
 | succ m ih =>
  intro k t hm hk ho hl
  obtain⟨k,rfl⟩:∃ k',k=k'+1:=⟨k - 1,by omega⟩
  rw[zj]
  have key:=fun t (h1:zi0 t≤m) h2 h3=>ih k t h1 (by omega) h2 h3
  generalize lp zcq k=rec at key ⊢
  unfold zcq
  cases t with
  | v x =>
   have hx:x<24:=ho
   have hc:(Tm.v x).codes=[-1 - (x:Int)]:=rfl
   have w1:IntKind.wrap .i64 ((-1) - (-1 - (x:Int)))=(x:Int):=by rw[zp]<;>omega
   rw[hc]
   simp only[List.length_cons,List.length_nil,qf,List.getElem?_cons_zero,Option.bind_some,w1]
   rw[show ((((0+1:Nat):Int))==1)=true from rfl,cond_true,decide_eq_true (show -1 - (x:Int)<0 by omega),cond_true,yB (show x<48 by omega),Option.bind_some,hT.at_ x (by omega),Option.bind_some]
   cases hb:B x with
   | none =>
    refine ⟨.v x,rfl,ho,hl,fun θ _=>rfl,fun y hy=>by injection hy with hy; rw[← hy]; exact hb⟩
   | some u =>
    obtain⟨-,h2,h3⟩:=hT.ok x u hb
    have hp:=zkB u
    show ∃ u1,(cond (decide (((List.length u.codes:Nat):Int)>0)) _ _)=_∧_
    rw[decide_eq_true (show ((List.length u.codes:Nat):Int)>0 by omega),cond_true]
    obtain⟨u',g1,g2,g3,g4,g5⟩:=key u (by
     cases u with
     | v y=>have:=hG.down _ y hb; simp only[zi0] at hm ⊢; omega
     | f c as=>simp only[zi0] at hm ⊢; omega) h2 h3
    refine ⟨u',?_,g2,g3,fun θ hθ=>(hθ _ u hb).trans (g4 θ hθ),g5⟩
    show (w[x]?).bind _=_
    rw[hT.at_ x (by omega),hb]
    exact g1
  | f c as =>
   refine ⟨.f c as,?_,ho,hl,fun θ _=>rfl,fun y hy=>by cases hy⟩
   have hc:(Tm.f c as).codes=(c:Int)::za as:=rfl
   rw[hc]
   simp only[qf,List.getElem?_cons_zero,Option.bind_some]
   rw[decide_eq_false (show ¬(c:Int)<0 by omega),cond_false]
   cases (((List.length ((c:Int)::za as):Nat):Int)==1)<;>rfl
theorem zpR {t:Tm} (ho:t.ok a0 24) (hl:t.codes.length≤48) :
  ∃ u:Tm,zdG t.codes w=some u.codes∧u.ok a0 24∧u.codes.length≤48∧(∀ θ,SolB θ B→t.sub θ=u.sub θ)∧∀ y,u = .v y→B y=none:=by
 obtain⟨u,h1,h2⟩:=zAY hT hG (zi0 t) zd t (Nat.le_refl _) (by
  cases t with
  | v x=>have:x<24:=ho; simp only[zi0]; unfold zd; omega
  | f c as=>simp only[zi0]; unfold zd; omega) ho hl
 refine ⟨u,?_,h2⟩
 unfold zdG
 rw[h1]
 rfl
theorem zt7 {v:Nat} (hv0:B v=none):∀(k m:Nat) (es:List Int),(∀ c∈es,-24≤c)→es.length≤1000→(∀ c∈es,c<0→B (-1 - c).toNat≠none→Good.rank σ (-1 - c).toNat<m)→m<k →
  ∃ b,zaF k ((v:Int),es,w)=some b∧(b=true↔∃ c∈es,c<0∧(σ (-1 - c).toNat).has v):=by
 intro k
 induction k with
 | zero=>intro m es _ _ _ h; omega
 | succ k ih =>
  intro m es hc hl hr hm
  show ∃ b,zc6 (zaF k) (v:Int) es w=some b∧_
  unfold zc6
  rw[zft _ _ _ _ (by unfold maxLen; omega)]
  have go:∀ es:List Int,(∀ c∈es,-24≤c)→(∀ c∈es,c<0→B (-1 - c).toNat≠none→Good.rank σ (-1 - c).toNat<m) →
    ∃ b,zE (zaF k) (v:Int) w es=some (cond b (.inr true) (.inl ()))∧(b=true↔∃ c∈es,c<0∧(σ (-1 - c).toNat).has v):=by
   intro es
   induction es with
   | nil=>intro _ _; exact ⟨false,rfl,by simp⟩
   | cons e es ihe =>
    intro hc hr
    obtain⟨b,g1,g2⟩:=ihe (fun c h=>hc c (List.mem_cons_of_mem _ h)) fun c h=>hr c (List.mem_cons_of_mem _ h)
    have he:=hc e (List.mem_cons_self ..)
    unfold zE
    by_cases h0:e≥0
    ·rw[decide_eq_true h0,cond_true]
     refine ⟨b,g1,g2.trans ?_⟩
     constructor
     ·rintro⟨c,h1,h2⟩; exact ⟨c,List.mem_cons_of_mem _ h1,h2⟩
     ·rintro⟨c,h1,h2,h3⟩
      rcases List.mem_cons.1 h1 with rfl | h1
      ·omega
      ·exact ⟨c,h1,h2,h3⟩
    ·rw[decide_eq_false h0,cond_false]
     obtain⟨u,rfl⟩:∃ u:Nat,e = -1 - (u:Int):=⟨(-1 - e).toNat,by omega⟩
     have hu:u<24:=by omega
     have hn:(-1 - (-1 - (u:Int))).toNat=u:=by omega
     have w1:IntKind.wrap .i64 ((-1) - (-1 - (u:Int)))=(u:Int):=by rw[zp]<;>omega
     rw[w1]
     by_cases huv:u=v
     ·subst huv
      rw[show (((u:Nat):Int)==((u:Nat):Int))=true from by simp,cond_true]
      exact ⟨true,rfl,⟨fun _=>⟨_,List.mem_cons_self ..,by omega,by rw[hn,hG.free _ hv0]; rfl⟩,fun _=>rfl⟩⟩
     ·rw[show (((u:Nat):Int)==((v:Nat):Int))=false from by simp; omega,cond_false]
      simp only[yB (show u<48 by omega),Option.bind_some,hT.at_ u (by omega)]
      cases hb:B u with
      | none =>
       show ∃ b,(cond (decide (((List.length ([]:List Int):Nat):Int)>0)) _ _)=_∧_
       refine ⟨b,g1,g2.trans ?_⟩
       constructor
       ·rintro⟨c,h1,h2⟩; exact ⟨c,List.mem_cons_of_mem _ h1,h2⟩
       ·rintro⟨c,h1,h2,h3⟩
        rcases List.mem_cons.1 h1 with rfl | h1
        ·rw[hn,hG.free _ hb] at h3
         have h3:u=v:=h3
         exact absurd h3 huv
        ·exact ⟨c,h1,h2,h3⟩
      | some t =>
       obtain⟨-,h2,h3⟩:=hT.ok u t hb
       have hp:=zkB t
       show ∃ b,(cond (decide (((List.length t.codes:Nat):Int)>0)) _ _)=_∧_
       rw[decide_eq_true (show ((List.length t.codes:Nat):Int)>0 by omega),cond_true]
       have hcodes:∀ c∈t.codes,-24≤c∧(c<0→t.has (-1 - c).toNat):=fun c hcm=>by
        have h1:c∈za [t]:=by simp [za,hcm]
        by_cases hc0:c<0
        ·have h4:=(zfh hc0 [t]).1 h1
         have h5:t.has (-1 - c).toNat:=by rcases h4 with h4 | h4; exact h4; exact absurd h4 (by simp [zjz])
         have h6:=Tm.ok_has t h2 h5
         exact ⟨by omega,fun _=>h5⟩
        ·exact ⟨by omega,fun h=>absurd h hc0⟩
       obtain⟨b1,k1,k2⟩:=ih (Good.rank σ u) t.codes (fun c h=>(hcodes c h).1) (by omega) (fun c hcm h0 _=>hG.rank_lt hb ((hcodes c hcm).2 h0) (by have:=(hcodes c hcm).1; omega)) (by
        have:=hr _ (List.mem_cons_self ..) (by omega) (by rw[hn,hb]; simp)
        rw[hn] at this
        omega)
       have k1:zaF k ((v:Int),zDC (some t),w)=some b1:=k1
       rw[k1,Option.bind_some]
       have hb1:b1=true↔(σ u).has v:=by
        rw[k2,hG.bound u t hb,Tm.has_sub]
        constructor
        ·rintro⟨c,h4,h5,h6⟩
         exact ⟨_,(hcodes c h4).2 h5,h6⟩
        ·rintro⟨y,h4,h5⟩
         refine ⟨-1 - (y:Int),?_,by omega,by rw[show (-1 - (-1 - (y:Int))).toNat=y by omega]; exact h5⟩
         have:=(zfh (c := -1 - (y:Int)) (by omega) [t]).2 (by rw[show (-1 - (-1 - (y:Int))).toNat=y by omega]; exact .inl h4)
         simpa[za] using this
       cases b1 with
       | true =>
        refine ⟨true,rfl,⟨fun _=>⟨_,List.mem_cons_self ..,by omega,?_⟩,fun _=>rfl⟩⟩
        rw[hn]
        exact hb1.1 rfl
       | false =>
        refine ⟨b,g1,g2.trans ?_⟩
        constructor
        ·rintro⟨c,h1,h2⟩; exact ⟨c,List.mem_cons_of_mem _ h1,h2⟩
        ·rintro⟨c,h1,h2,h3⟩
         rcases List.mem_cons.1 h1 with rfl | h1
         ·rw[hn] at h3
          exact absurd (hb1.2 h3) (by simp)
         ·exact ⟨c,h1,h2,h3⟩
  obtain⟨b,g1,g2⟩:=go es hc hr
  rw[g1,Option.bind_some]
  exact ⟨b,by cases b<;>rfl,g2⟩
end
end
end Go.Abs.Q
namespace Go.Abs.Q
open Go Go.Abs
section
structure Qf (out E r:List Int):Prop where
 fits:out.length+E.length≤48→r=out++E
 over:48<out.length+E.length→48<r.length
 len:r.length≤max out.length 49
theorem Qf.step {out E1 E2 r1 r:List Int} (h:Qf out E1 r1) (h':Qf r1 E2 r):Qf out (E1++E2) r where
 fits:=fun hl=>by
  rw[List.length_append] at hl
  have e:=h.fits (by omega)
  have e2:=h'.fits (by rw[e,List.length_append]; omega)
  rw[e2,e,List.append_assoc]
 over:=fun hl=>by
  rw[List.length_append] at hl
  by_cases h1:out.length+E1.length≤48
  ·have e:=h.fits h1
   refine h'.over ?_
   rw[e,List.length_append]; omega
  ·exact h'.over (by have:=h.over (by omega); omega)
 len:=by have:=h.len; have:=h'.len; omega
theorem Qf.full {out E:List Int} (h:48<out.length):Qf out E out:=⟨fun hl=>by omega,fun _=>h,by omega⟩
theorem Qf.one {out:List Int} (c:Int) (h:out.length≤48):Qf out [c] (out++[c]):=⟨fun _=>rfl,fun hl=>by rw[List.length_append]; exact hl,by rw[List.length_append]; simp; omega⟩
theorem Qf.nil (out:List Int):Qf out [] out:=⟨fun _=>by simp,fun h=>by simpa using h,by omega⟩
theorem ziU {a0:List zi} {t:Tm} (ho:t.ok a0 24):∀ c∈t.codes,-24≤c∧(c<0→t.has (-1 - c).toNat):=fun c hcm=>by
 by_cases hc0:c<0
 ·have h5:=(Tm.mem_codes hc0 t).1 hcm
  have h6:=Tm.ok_has t ho h5
  exact ⟨by omega,fun _=>h5⟩
 ·exact ⟨by omega,fun h=>absurd h hc0⟩
section
variable {a0:List zi} {w:List jI} {B:Bd} {σ:Sb} (hT:RepW a0 w B) (hG:Good B σ)
include hT hG
theorem zzH:∀(k m:Nat) (es out:List Int),(∀ c∈es,-24≤c)→es.length≤1000→(∀ c∈es,c<0→B (-1 - c).toNat≠none→Good.rank σ (-1 - c).toNat<m)→m<k→out.length≤1000 →
  ∃ r,qD k (es,w,out)=some r∧Qf out (es.flatMap (zhC σ)) r:=by
 intro k
 induction k with
 | zero=>intro m es out _ _ _ h; omega
 | succ k ih =>
  intro m es out hc hl hr hm ho
  show ∃ r,zdb (qD k) es w out=some r∧_
  unfold zdb
  rw[zfI _ _ _ _ (by unfold maxLen; omega)]
  have go:∀(es out:List Int),(∀ c∈es,-24≤c)→(∀ c∈es,c<0→B (-1 - c).toNat≠none→Good.rank σ (-1 - c).toNat<m)→out.length≤1000 →
    ∃ r,zB (qD k) w es out=some r∧Qf out (es.flatMap (zhC σ)) r:=by
   intro es
   induction es with
   | nil=>intro out _ _ _; exact ⟨out,rfl,Qf.nil out⟩
   | cons e es ihe =>
    intro out hc hr ho
    have ihe:=fun out ho=>ihe out (fun c h=>hc c (List.mem_cons_of_mem _ h)) (fun c h=>hr c (List.mem_cons_of_mem _ h)) ho
    have he:=hc e (List.mem_cons_self ..)
    unfold zB
    by_cases h48:out.length≤48
    ·rw[decide_eq_true (show ((List.length out:Nat):Int)≤48 by omega),cond_true,List.flatMap_cons]
     have plain:zhC σ e=[e]→∃ r,(cond (yQ (List.length out+List.length ([e]:List Int)) 8) (zB (qD k) w es (out++([e]:List Int))) none)=some r∧Qf out (zhC σ e++es.flatMap (zhC σ)) r:=fun hx=>by
      obtain⟨r,g1,g2⟩:=ihe (out++[e]) (by simp; omega)
      rw[zq (by simp; omega),cond_true,g1,hx]
      exact ⟨r,rfl,(Qf.one e h48).step g2⟩
     by_cases h0:e<0
     ·rw[decide_eq_true h0,cond_true]
      obtain⟨u,rfl⟩:∃ u:Nat,e = -1 - (u:Int):=⟨(-1 - e).toNat,by omega⟩
      have hu:u<24:=by omega
      have hn:(-1 - (-1 - (u:Int))).toNat=u:=by omega
      have w1:IntKind.wrap .i64 ((-1) - (-1 - (u:Int)))=(u:Int):=by rw[zp]<;>omega
      rw[w1]
      simp only[yB (show u<48 by omega),Option.bind_some,hT.at_ u (by omega)]
      cases hb:B u with
      | none =>
       show ∃ r,(cond (decide (((List.length ([]:List Int):Nat):Int)>0)) _ _)=_∧_
       refine plain ?_
       unfold zhC
       rw[if_pos h0,hn,hG.free u hb]
       rfl
      | some t =>
       obtain⟨-,h2,h3⟩:=hT.ok u t hb
       have hp:=zkB t
       show ∃ r,(cond (decide (((List.length t.codes:Nat):Int)>0)) _ _)=_∧_
       rw[decide_eq_true (show ((List.length t.codes:Nat):Int)>0 by omega),cond_true]
       have hcodes:=ziU h2
       obtain⟨r1,k1,k2⟩:=ih (Good.rank σ u) t.codes out (fun c h=>(hcodes c h).1) (by omega) (fun c hcm h0 _=>hG.rank_lt hb ((hcodes c hcm).2 h0) (by have:=(hcodes c hcm).1; omega)) (by
        have:=hr _ (List.mem_cons_self ..) (by omega) (by rw[hn,hb]; simp)
        rw[hn] at this
        omega) ho
       have k1:qD k (zDC (some t),w,out)=some r1:=k1
       rw[k1,Option.bind_some]
       obtain⟨r,g1,g2⟩:=ihe r1 (by have:=k2.len; omega)
       refine ⟨r,g1,Qf.step (r1:=r1) ?_ g2⟩
       have:zhC σ (-1 - (u:Int))=t.codes.flatMap (zhC σ):=by
        unfold zhC
        rw[if_pos h0,hn,hG.bound u t hb,Tm.codes_sub]
        rfl
       rw[this]
       exact k2
     ·rw[decide_eq_false h0,cond_false]
      refine plain ?_
      unfold zhC
      rw[if_neg h0]
    ·rw[decide_eq_false (show ¬((List.length out:Nat):Int)≤48 by omega),cond_false]
     exact ⟨out,rfl,Qf.full (by omega)⟩
  obtain⟨r,g1,g2⟩:=go es out hc hr ho
  rw[g1,Option.bind_some]
  exact ⟨r,rfl,g2⟩
theorem zwA {t:Tm} (ho:t.ok a0 24) (hl:t.codes.length≤48):∃ r,zd5 t.codes w []=some r∧Qf [] (t.sub σ).codes r:=by
 rw[Tm.codes_sub]
 refine zzH hT hG zd 100 t.codes [] (fun c h=>(ziU ho c h).1) (by omega) (fun c _ _ _ => ?_) (by unfold zd; omega) (by simp)
 have:=Good.rank_le σ (-1 - c).toNat
 omega
theorem zrM {v:Nat} (hv0:B v=none) {t:Tm} (ho:t.ok a0 24) (hl:t.codes.length≤48):∃ b,zgD (v:Int) t.codes w=some b∧(b=true↔(t.sub σ).has v):=by
 obtain⟨b,h1,h2⟩:=zt7 hT hG hv0 zd 100 t.codes (fun c h=>(ziU ho c h).1) (by omega) (fun c _ _ _=>by have:=Good.rank_le σ (-1 - c).toNat; omega) (by unfold zd; omega)
 refine ⟨b,h1,h2.trans ?_⟩
 rw[Tm.has_sub]
 constructor
 ·rintro⟨c,h4,h5,h6⟩
  exact ⟨_,(ziU ho c h4).2 h5,h6⟩
 ·rintro⟨y,h4,h5⟩
  refine ⟨-1 - (y:Int),(Tm.mem_codes (by omega) t).2 (by rw[show (-1 - (-1 - (y:Int))).toNat=y by omega]; exact h4),by omega,by rw[show (-1 - (-1 - (y:Int))).toNat=y by omega]; exact h5⟩
end
structure OutW (a0:List zi) (B:Bd) (E:List (Tm×Tm)) (r:Bool×List jI):Prop where
 yes:r.1=true→∃ B' σ',RepW a0 r.2 B'∧Good B' σ'∧∀ θ,SolB θ B'↔SolB θ B∧Sol θ E
 no:r.1=false→∀ θ,SolB θ B→Sol θ E→False
theorem zd0 {θ:Sb} {t u:Tm}:Sol θ [(t,u)]↔t.sub θ=u.sub θ:=by simp [Sol]
theorem zoz {a0:List zi} {w:List jI} {B:Bd} {σ:Sb} (hT:RepW a0 w B) (hG:Good B σ) {x:Nat} (hx:x<24) (hb:B x=none) {c:Nat} {as:List Tm} (ho:(Tm.f c as).ok a0 24) (hl:(Tm.f c as).codes.length≤48) :
  ∃ r,zz [-1 - (x:Int)] (Tm.f c as).codes false w=some r∧OutW a0 B [(.v x,.f c as)] r:=by
 unfold zz
 have w1:IntKind.wrap .i64 ((-1) - (-1 - (x:Int)))=(x:Int):=by rw[zp]<;>omega
 simp only[qf,List.getElem?_cons_zero,Option.bind_some,cond_false,w1]
 obtain⟨b,h1,h2⟩:=zrM hT hG hb ho hl
 rw[h1,Option.bind_some]
 cases b with
 | true =>
  refine ⟨_,rfl,⟨fun h=>(nomatch h),fun _ θ h3 h4=>hG.occurs (h2.1 rfl) h3 (zd0.1 h4)⟩⟩
 | false =>
  simp only[cond_false,yB (show x<48 by omega),Option.bind_some,hT.at_ x (by omega)]
  have hn:¬((Tm.f c as).sub σ).has x:=fun h=>by have:=h2.2 h; cases this
  refine ⟨_,rfl,⟨fun _=>⟨_,_,hT.set hx ho hl,hG.bind hb hn (fun y hy=>by cases hy),fun θ => ?_⟩,fun h=>(nomatch h)⟩⟩
  rw[SolB.upd hb,zd0]
  rfl
theorem zqc {a0:List zi} {w:List jI} {B:Bd} {σ:Sb} (hT:RepW a0 w B) (hG:Good B σ) {x y:Nat} (hx:x<24) (hy:y<x) (hbx:B x=none) (hby:B y=none) :
  ∃ r,zz [-1 - (y:Int)] [-1 - (x:Int)] true w=some r∧OutW a0 B [(.v x,.v y)] r:=by
 unfold zz
 have w1:IntKind.wrap .i64 ((-1) - (-1 - (x:Int)))=(x:Int):=by rw[zp]<;>omega
 simp only[qf,List.getElem?_cons_zero,Option.bind_some,cond_true,w1,yB (show x<48 by omega),hT.at_ x (by omega)]
 have hn:¬((Tm.v y).sub σ).has x:=by
  show ¬(σ y).has x
  rw[hG.free y hby]
  intro h
  have h:y=x:=h
  omega
 have hset:RepW a0 (w.set x (Tm.v y).codes) (zA0 B x (.v y)):=hT.set hx (show y<24 by omega) (by show 1≤48; omega)
 refine ⟨_,rfl,⟨fun _=>⟨_,_,hset,hG.bind hbx hn (fun z hz=>by injection hz with hz; omega),fun θ => ?_⟩,fun h=>(nomatch h)⟩⟩
 rw[SolB.upd hbx,zd0]
 rfl
theorem OutW.via {a0:List zi} {B:Bd} {E E':List (Tm×Tm)} {r:Bool×List jI} (h:OutW a0 B E r) (he:∀ θ,SolB θ B→(Sol θ E↔Sol θ E')):OutW a0 B E' r where
 yes:=fun hr=>by
  obtain⟨B',σ',h1,h2,h3⟩:=h.yes hr
  exact ⟨B',σ',h1,h2,fun θ=>(h3 θ).trans ⟨fun ⟨a,b⟩=>⟨a,(he θ a).1 b⟩,fun ⟨a,b⟩=>⟨a,(he θ a).2 b⟩⟩⟩
 no:=fun hr θ h1 h2=>h.no hr θ h1 ((he θ h1).2 h2)
def Dep (R:List Tm) (B:Bd) (δ:Nat) (t:Tm):Prop:=∀ θ,SolB θ B→∃ c∈R,δ+(t.sub θ).ht≤(c.sub θ).ht
theorem Dep.mono {R:List Tm} {B B':Bd} {δ:Nat} {t:Tm} (h:Dep R B δ t) (hB:∀ θ,SolB θ B'→SolB θ B):Dep R B' δ t:=fun θ hθ=>h θ (hB θ hθ)
theorem Dep.lt {R:List Tm} {B:Bd} {σ:Sb} {δ:Nat} {t:Tm} (h:Dep R B δ t) (hG:Good B σ) (hS:zlM B) (hR:∀ c∈R,c.size≤48):δ<2500:=by
 obtain⟨c,hc,h1⟩:=h σ hG.bound
 have h2:=Tm.ht_sub (s:=σ) (M:=49*49) c fun x _=>hG.low hS x
 have h3:=c.ht_size
 have h4:=hR c hc
 have h5:=zG5 (t.sub σ)
 omega
end
end Go.Abs.Q
namespace Go.Abs.Q
open Go Go.Abs
section
theorem zzl {a0:List zi} {t u:Tm} (ht:t.ok a0 24) (hu:u.ok a0 24) (h:t.codes=u.codes):t=u:=by
 have:=zbw (a0:=a0) _ [t] [u] (Nat.le_refl _) ⟨ht,trivial⟩ ⟨hu,trivial⟩ (by simp [za,h])
 injection this
def Sm (a0:List zi) (t:Tm):Prop:=t.ok a0 24∧t.codes.length≤48
def zu9 (a0:List zi) (R:List Tm) (k:Nat):Prop:=∀(δ:Nat) (w:List jI) (B:Bd) (σ:Sb) (t u:Tm),RepW a0 w B→Good B σ→Sm a0 t→Sm a0 u→Dep R B δ t→2*(2600 - δ)≤k →
 ∃ r,(yG k).1 (a0,t.codes,u.codes,w)=some r∧OutW a0 B [(t,u)] r
def zDG (a0:List zi) (R:List Tm) (k:Nat):Prop:=∀(δ:Nat) (w:List jI) (B:Bd) (σ:Sb) (ts us:List Tm),RepW a0 w B→Good B σ→(∀ t∈ts,Sm a0 t)→(∀ t∈us,Sm a0 t)→ts.length=us.length→ts.length≤1000→(∀ t∈ts,Dep R B δ t)→2*(2600 - δ)+1≤k →
 ∃ r,(yG k).2 (a0,ts.map Tm.codes,us.map Tm.codes,w)=some r∧OutW a0 B (ts.zip us) r
theorem zzA {a0:List zi} {R:List Tm} {k:Nat} (hp:zu9 a0 R k):zDG a0 R (k+1):=by
 intro δ w B σ ts us hT hG hts hus hl hlen hd hk
 show ∃ r,zdJ (yG k) a0 (ts.map Tm.codes) (us.map Tm.codes) w=some r∧_
 unfold zdJ
 rw[zfO _ _ _ _ _ (by rw[List.length_map]; unfold maxLen; omega)]
 have go:∀(ts vs:List Tm) (i:Nat) (w:List jI) (B:Bd) (σ:Sb),RepW a0 w B→Good B σ→us.drop i=vs→(∀ t∈ts,Sm a0 t)→ts.length=vs.length→(∀ t∈ts,Dep R B δ t) →
   (∃ w',zP (yG k) a0 (us.map Tm.codes) (ts.map Tm.codes) i w=some (.inl w')∧OutW a0 B (ts.zip vs) (true,w')) ∨
   (∃ w',zP (yG k) a0 (us.map Tm.codes) (ts.map Tm.codes) i w=some (.inr (false,w'))∧OutW a0 B (ts.zip vs) (false,w')):=by
  intro ts
  induction ts with
  | nil =>
   intro vs i w B σ hT hG hdr _ hl _
   exact .inl ⟨w,rfl,⟨fun _=>⟨B,σ,hT,hG,fun θ=>⟨fun h=>⟨h,Sol.nil⟩,fun h=>h.1⟩⟩,fun h=>(nomatch h)⟩⟩
  | cons t ts ih =>
   intro vs i w B σ hT hG hdr hts hl hd
   cases vs with
   | nil=>simp at hl
   | cons v vs =>
    have hgv:us[i]? = some v:=zh hdr
    have hvm:v∈us:=List.mem_of_getElem? hgv
    obtain⟨r,h1,h2⟩:=hp δ w B σ t v hT hG (hts t (List.mem_cons_self ..)) (hus v hvm) (hd t (List.mem_cons_self ..)) (by omega)
    rw[List.map_cons]
    unfold zP
    rw[yx,List.getElem?_map,hgv]
    simp only[Option.map_some,Option.bind_some]
    rw[h1,Option.bind_some]
    obtain⟨b,w1⟩:=r
    cases b with
    | false =>
     refine .inr ⟨w1,rfl,⟨fun h=>(nomatch h),fun _ θ h3 h4=>h2.no rfl θ h3 ?_⟩⟩
     rw[List.zip_cons_cons,Sol.cons] at h4
     exact zd0.2 h4.1
    | true =>
     obtain⟨B',σ',g1,g2,g3⟩:=h2.yes rfl
     have comb:∀{r2:Bool×List jI},OutW a0 B' (ts.zip vs) r2→OutW a0 B ((t::ts).zip (v::vs)) r2:=fun {r2} h=>by
      rw[List.zip_cons_cons]
      refine ⟨fun hr => ?_,fun hr θ h3 h4 => ?_⟩
      ·obtain⟨B2,σ2,k1,k2,k3⟩:=h.yes hr
       refine ⟨B2,σ2,k1,k2,fun θ => ?_⟩
       rw[k3,g3,zd0,and_assoc,Sol.cons (p:=(t,v)) (E:=ts.zip vs)]
      ·rw[Sol.cons] at h4
       exact h.no hr θ ((g3 θ).2 ⟨h3,zd0.2 h4.1⟩) h4.2
     rcases ih vs (i+1) w1 B' σ' g1 g2 (ze hdr) (fun t h=>hts t (List.mem_cons_of_mem _ h)) (by simpa using hl) (fun t h=>(hd t (List.mem_cons_of_mem _ h)).mono fun θ hθ=>((g3 θ).1 hθ).1) with ⟨w',q1,q2⟩ | ⟨w',q1,q2⟩
     ·exact .inl ⟨w',q1,comb q2⟩
     ·exact .inr ⟨w',q1,comb q2⟩
 rcases go ts us 0 w B σ hT hG rfl hts hl hd with ⟨w',h1,h2⟩ | ⟨w',h1,h2⟩
 ·rw[h1]; exact ⟨_,rfl,h2⟩
 ·rw[h1]; exact ⟨_,rfl,h2⟩
theorem zvp {a0:List zi} (hs:SignOk a0) {R:List Tm} (hR:∀ c∈R,c.size≤48) {k:Nat} (ha:zDG a0 R k):zu9 a0 R (k+1):=by
 intro δ w B σ t u hT hG ht hu hd hk
 show ∃ r,zbT (yG k) a0 t.codes u.codes w=some r∧_
 obtain⟨t1,a1,a2,a3,a4,a5⟩:=zpR hT hG ht.1 ht.2
 obtain⟨u1,b1,b2,b3,b4,b5⟩:=zpR hT hG hu.1 hu.2
 -- it is enough to speak of these
 suffices h:∃ r,zbT (yG k) a0 t.codes u.codes w=some r∧OutW a0 B [(t1,u1)] r by
  obtain⟨r,h1,h2⟩:=h
  exact ⟨r,h1,h2.via fun θ hθ=>by rw[zd0,zd0,a4 θ hθ,b4 θ hθ]⟩
 have eta:∀{o:Option (Bool×List jI)} {E:List (Tm×Tm)},(∃ r,o=some r∧OutW a0 B E r)→∃ r,(o.bind fun r=>some (r.1,r.2))=some r∧OutW a0 B E r:=fun ⟨r,h1,h2⟩=>⟨r,by rw[h1]; rfl,h2⟩
 have flip:∀{o:Option (Bool×List jI)} {p q:Tm},(∃ r,o=some r∧OutW a0 B [(p,q)] r)→∃ r,o=some r∧OutW a0 B [(q,p)] r:=fun ⟨r,h1,h2⟩=>⟨r,h1,h2.via fun θ _=>by rw[zd0,zd0]; exact eq_comm⟩
 unfold zbT
 rw[a1,Option.bind_some,b1,Option.bind_some,zhv (by omega),Option.bind_some]
 by_cases he:t1.codes=u1.codes
 ·have:=zzl a2 b2 he
  subst this
  rw[decide_eq_true he,cond_true]
  exact ⟨_,rfl,⟨fun _=>⟨B,σ,hT,hG,fun θ=>⟨fun h=>⟨h,zd0.2 rfl⟩,fun h=>h.1⟩⟩,fun h=>(nomatch h)⟩⟩
 rw[decide_eq_false he,cond_false]
 have hne:t1≠u1:=fun h=>he (by rw[h])
 clear he a1 b1
 cases t1 with
 | v x =>
  have hx:x<24:=a2
  have hbx:=a5 x rfl
  have c1:(Tm.v x).codes=[-1 - (x:Int)]:=rfl
  have d1:decide (-1 - (x:Int)<0)=true:=decide_eq_true (by omega)
  have d2:decide (-1 - (x:Int)≥0)=false:=decide_eq_false (by omega)
  cases u1 with
  | v y =>
   have hy:y<24:=b2
   have hby:=b5 y rfl
   have c2:(Tm.v y).codes=[-1 - (y:Int)]:=rfl
   have d3:decide (-1 - (y:Int)<0)=true:=decide_eq_true (by omega)
   have hxy:x≠y:=fun h=>hne (by rw[h])
   rw[c1,c2]
   by_cases hlt:y<x
   ·have d4:decide (-1 - (x:Int) < -1 - (y:Int))=true:=decide_eq_true (by omega)
    simp only[qf,List.getElem?_cons_zero,Option.bind_some,d1,d3,d4,cond_true]
    exact eta (zqc hT hG hx hlt hbx hby)
   ·have d4:decide (-1 - (x:Int) < -1 - (y:Int))=false:=decide_eq_false (by omega)
    simp only[qf,List.getElem?_cons_zero,Option.bind_some,d1,d2,d3,d4,cond_true,cond_false]
    exact eta (flip (zqc hT hG hy (by omega) hby hbx))
  | f c as =>
   have c2:(Tm.f c as).codes=(c:Int)::za as:=rfl
   have d3:decide ((c:Int)<0)=false:=decide_eq_false (by omega)
   have h1:=zoz hT hG hx hbx b2 b3
   rw[c2] at h1
   rw[c1,c2]
   simp only[qf,List.getElem?_cons_zero,Option.bind_some,d1,d2,d3,cond_true,cond_false]
   exact eta h1
 | f c as =>
  have c1:(Tm.f c as).codes=(c:Int)::za as:=rfl
  have d1:decide ((c:Int)<0)=false:=decide_eq_false (by omega)
  have d2:decide ((c:Int)≥0)=true:=decide_eq_true (by omega)
  cases u1 with
  | v y =>
   have hy:y<24:=b2
   have hby:=b5 y rfl
   have c2:(Tm.v y).codes=[-1 - (y:Int)]:=rfl
   have d3:decide (-1 - (y:Int)<0)=true:=decide_eq_true (by omega)
   have h1:=zoz hT hG hy hby a2 a3
   rw[c1] at h1
   rw[c1,c2]
   simp only[qf,List.getElem?_cons_zero,Option.bind_some,d1,d2,d3,cond_true,cond_false]
   exact eta (flip h1)
  | f d bs =>
   have c2:(Tm.f d bs).codes=(d:Int)::za bs:=rfl
   have d3:decide ((d:Int)<0)=false:=decide_eq_false (by omega)
   rw[c1,c2]
   simp only[qf,List.getElem?_cons_zero,Option.bind_some,d1,d2,d3,cond_true,cond_false]
   by_cases hcd:c=d
   ·subst hcd
    rw[show ((c:Int) != (c:Int))=false from by simp,cond_false]
    have hla:as.length=bs.length:=by
     have h1:=a2.1
     have h2:=b2.1
     rw[h1] at h2
     injection h2
    rw[c1,List.length_cons] at a3
    rw[c2,List.length_cons] at b3
    have hw:∀{xs:List Tm},(za xs).length≤48→∀ t∈xs,t.codes.length≤48:=fun h t ht=>Nat.le_trans (zfc ht) h
    rw[zcM,Option.bind_some,zbb hs (by omega) (z1 as a2.2),Option.bind_some,zcM,Option.bind_some,zbb hs (by omega) (z1 bs b2.2),Option.bind_some]
    have hlt:=hd.lt hG hT.small hR
    obtain⟨r,h1,h2⟩:=ha (δ+1) w B σ as bs hT hG (fun t h=>⟨zcp.1 a2.2 t h,hw (by omega) t h⟩) (fun t h=>⟨zcp.1 b2.2 t h,hw (by omega) t h⟩) hla (by
      have:=zeW (z1 as a2.2)
      rw[List.length_map] at this
      omega) (fun a ham θ hθ=>by
      obtain⟨c',hc',h5⟩:=hd θ hθ
      refine ⟨c',hc',?_⟩
      rw[a4 θ hθ] at h5
      have h6:((Tm.f c as).sub θ).ht=htR (zaU θ as)+1:=rfl
      have h7:=zrE (ts:=zaU θ as) (t:=a.sub θ) (by rw[zh2]; exact List.mem_map_of_mem ham)
      omega) (by omega)
    rw[h1,Option.bind_some]
    refine ⟨_,rfl,h2.via fun θ _ => ?_⟩
    rw[Sol.zip hla,zd0,zHU]
    simp
   ·rw[show ((c:Int) != (d:Int))=true from by simp; omega,cond_true]
    refine ⟨_,rfl,⟨fun h=>(nomatch h),fun _ θ _ h4 => ?_⟩⟩
    rw[zd0,zHU] at h4
    exact hcd h4.1
theorem zAM {a0:List zi} (hs:SignOk a0) {R:List Tm} (hR:∀ c∈R,c.size≤48):∀ k,zu9 a0 R k∧zDG a0 R k:=by
 intro k
 induction k with
 | zero =>
  refine ⟨fun δ w B σ t u hT hG _ _ hd hk => ?_,fun δ w B σ ts us _ _ _ _ _ _ _ hk=>by omega⟩
  have:=hd.lt hG hT.small hR
  omega
 | succ k ih=>exact ⟨zvp hs hR ih.2,zzA ih.1⟩
end
end Go.Abs.Q
namespace Go.Abs.Q
open Go Go.Abs
section
theorem zIZ (a0:List zi):RepW a0 (List.replicate 48 ([]:List Int)) (fun _=>none) where
 len:=by simp
 at_:=fun x hx=>by rw[List.getElem?_replicate,if_pos hx]; rfl
 ok:=fun x t h=>by cases h
theorem zqU {a0:List zi} {w:List jI} {B:Bd} {σ:Sb} (hT:RepW a0 w B) (hG:Good B σ):∀(m v k:Nat) (out:List (Int×List Int)),24 - v=m→v≤24→m<k→out.length≤v →
  lp zaZ k ((v:Int),w,out)=some (cond (zaH σ ((List.range 24).drop v)) (.inl (out++zb4 B σ ((List.range 24).drop v))) (.inr (true,false))):=by
 intro m
 induction m with
 | zero =>
  intro v k out hm hv hk ho
  obtain⟨k,rfl⟩:∃ k',k=k'+1:=⟨k - 1,by omega⟩
  rw[zj]
  generalize lp zaZ k=rec
  unfold zaZ
  have:v=24:=by omega
  subst this
  rw[show (List.range 24).drop 24=[] from rfl]
  simp [zb4,zaH]
 | succ m ih =>
  intro v k out hm hv hk ho
  obtain⟨k,rfl⟩:∃ k',k=k'+1:=⟨k - 1,by omega⟩
  rw[zj]
  have key:=fun out' ho'=>ih (v+1) k out' (by omega) (by omega) (by omega) ho'
  generalize lp zaZ k=rec at key ⊢
  unfold zaZ
  have w1:IntKind.wrap .i64 ((v:Int)+1)=((v+1:Nat):Int):=by rw[zp]<;>omega
  have hdr:(List.range 24).drop v=v::(List.range 24).drop (v+1):=by
   rw[List.drop_eq_getElem_cons (by simp; omega)]
   simp
  simp only[decide_eq_true (show (v:Int)≤23 by omega),cond_true,yB (show v<48 by omega),Option.bind_some,hT.at_ v (by omega),w1]
  rw[hdr]
  cases hb:B v with
  | none =>
   show (cond (((List.length ([]:List Int):Nat):Int)==0) _ _)=_
   rw[show (((List.length ([]:List Int):Nat):Int)==0)=true from rfl,cond_true,key out (by omega)]
   have hs:(σ v).size≤48:=by rw[hG.free v hb]; simp [Tm.size]
   have hb:zuc B v=false:=by simp [zuc,hb]
   simp [zb4,zaH,hb,hs]
  | some t =>
   obtain⟨-,h2,h3⟩:=hT.ok v t hb
   have hp:=zkB t
   show (cond (((List.length t.codes:Nat):Int)==0) _ ((zd5 t.codes w []).bind _))=_
   rw[show (((List.length t.codes:Nat):Int)==0)=false from by simp; intro h; rw[h] at hp; simp at hp,cond_false]
   obtain⟨r,g1,g2⟩:=zwA hT hG h2 h3
   rw[← hG.bound v t hb] at g2
   rw[g1,Option.bind_some]
   by_cases hs:(σ v).size≤48
   ·have hr:=g2.fits (by rw[Tm.codes_len]; simpa using hs)
    rw[List.nil_append] at hr
    subst hr
    rw[decide_eq_false (show ¬((List.length (σ v).codes:Nat):Int)>48 by rw[Tm.codes_len]; omega),cond_false,zq (by simp only[List.length_singleton]; omega),cond_true,key _ (by simp only[List.length_append,List.length_singleton]; omega)]
    have hb:zuc B v=true:=by simp [zuc,hb]
    simp [zb4,zaH,hb,hs]
   ·have hr:=g2.over (by rw[Tm.codes_len]; simp; omega)
    rw[decide_eq_true (show ((List.length r:Nat):Int)>48 by omega),cond_true]
    simp [zaH,hs]
theorem ze7 {a0:List zi} (hs:SignOk a0) {ts us:List Tm} (ht:okR a0 24 ts) (hu:okR a0 24 us) (hlx:(za ts).length≤48) (hly:(za us).length≤48) :
  (zcJ a0 (za ts) (za us)=some (false,true,[])∧(ts.length≠us.length∨∀ θ,¬ Sol θ (ts.zip us))) ∨
  (ts.length=us.length∧∃ σ,Mgu σ (ts.zip us)∧zcJ a0 (za ts) (za us)=some (true,zaH σ (List.range 24),cond (zaH σ (List.range 24)) (zeu σ) [])):=by
 unfold zcJ
 rw[zbb hs (by omega) (z1 ts ht),Option.bind_some,zbb hs (by omega) (z1 us hu),Option.bind_some]
 by_cases hl:ts.length=us.length
 ·rw[show (((List.length (ts.map Tm.codes):Nat):Int) != ((List.length (us.map Tm.codes):Nat):Int))=false from by simp [hl],cond_false]
  have sm:∀{xs:List Tm},okR a0 24 xs→(za xs).length≤48→∀ t∈xs,Sm a0 t:=fun h1 h2 t h=>⟨zcp.1 h1 t h,Nat.le_trans (zfc h) h2⟩
  have hR:∀ c∈ts,c.size≤48:=fun c hc=>by have:=(sm ht hlx c hc).2; rwa [Tm.codes_len] at this
  obtain⟨r,h1,h2⟩:=(zAM hs hR zd).2 0 (List.replicate 48 []) (fun _=>none) .v ts us (zIZ a0) Good.empty (sm ht hlx) (sm hu hly) hl (by
   have:=zeW (z1 ts ht)
   rw[List.length_map] at this
   omega) (fun t h θ _=>⟨t,h,by omega⟩) (by unfold zd; omega)
  have h1:zhF a0 (ts.map Tm.codes) (us.map Tm.codes) (List.replicate 48 [])=some r:=h1
  rw[h1,Option.bind_some]
  cases hb:r.1 with
  | false=>exact .inl ⟨rfl,.inr fun θ h=>h2.no hb θ (fun _ _ h=>(nomatch h)) h⟩
  | true =>
   obtain⟨B',σ,g1,g2,g3⟩:=h2.yes hb
   refine .inr ⟨hl,σ,Mgu.of g2 g3,?_⟩
   have:=zqU g1 g2 24 0 zd [] rfl (by omega) (by unfold zd; omega) (by simp)
   rw[show ((0:Nat):Int)=0 from rfl] at this
   rw[Bool.not_true,cond_false,this,List.drop_zero]
   have he:zb4 B' σ (List.range 24)=zeu σ:=by
    unfold zb4 zeu
    rw[show zuc B'=moved σ from funext (zxx g2)]
   cases zaH σ (List.range 24) with
   | true=>simp only[cond_true,Option.bind_some,zb1,List.nil_append,he]
   | false=>rfl
 ·rw[show (((List.length (ts.map Tm.codes):Nat):Int) != ((List.length (us.map Tm.codes):Nat):Int))=true from by simp; omega,cond_true]
  exact .inl ⟨rfl,.inl hl⟩
end
end Go.Abs.Q
namespace Go.Abs.Q
open Go Go.Abs
section
theorem zHu (v:Int):(es:List (Int×List Int))→(i:Nat)→(zeN es v=none∧za9 v es i=some (.inl ()))∨∃(j:Nat) (e:Int×List Int),za9 v es i=some (.inr ((i+j:Nat):Int))∧es[j]? = some e∧zeN es v=some e.2
 | [],i=>.inl ⟨rfl,rfl⟩
 | e::es,i=>by
  unfold za9 zeN
  rw[List.find?_cons]
  cases h:e.1==v with
  | true=>exact .inr ⟨0,e,rfl,rfl,rfl⟩
  | false =>
   rw[cond_false]
   rcases zHu v es (i+1) with ⟨h1,h2⟩ | ⟨j,e',h1,h2,h3⟩
   ·exact .inl ⟨h1,h2⟩
   ·exact .inr ⟨j+1,e',by rw[h1,show i+1+j=i+(j+1) from by omega],by simpa using h2,h3⟩
theorem zvG {s:List (Int×List Int)} (hl:s.length≤1000) (v:Int):(zeN s v=none∧zkG s v=some (-1))∨∃(j:Nat) (e:Int×List Int),zkG s v=some (j:Int)∧s[j]? = some e∧zeN s v=some e.2:=by
 unfold zkG
 rw[zlf _ _ (by unfold maxLen; omega)]
 rcases zHu v s 0 with ⟨h1,h2⟩ | ⟨j,e,h1,h2,h3⟩
 ·exact .inl ⟨h1,by rw[h2]; rfl⟩
 ·exact .inr ⟨j,e,by rw[h1,Nat.zero_add]; rfl,h2,h3⟩
theorem zCo {s:List (Int×List Int)} (h:BindsOk s):(es out:List Int)→(∀ c∈es,-1000000≤c∧c≤1000000)→out.length+1000*es.length≤1000000000→yM s es out=some (out++onB s es)
 | [],out,_,_=>by simp [yM,onB]
 | c::es,out,hc,hl=>by
  have hc0:=hc c (List.mem_cons_self ..)
  simp only[List.length_cons] at hl
  have ih:=fun out hl=>zCo h es out (fun c h=>hc c (List.mem_cons_of_mem _ h)) hl
  unfold yM
  have plain:onC s c=[c]→(cond (yQ (List.length out+List.length ([c]:List Int)) 8) (yM s es (out++([c]:List Int))) none)=some (out++onB s (c::es)):=fun hx=>by
   rw[zq (by simp; omega),cond_true,ih _ (by simp; omega)]
   unfold onB
   rw[List.flatMap_cons,hx,List.append_assoc]
  by_cases h0:c<0
  ·rw[decide_eq_true h0,cond_true]
   have w1:IntKind.wrap .i64 ((-1) - c) = -1 - c:=by rw[zp]<;>omega
   rw[w1]
   rcases zvG h.len (-1 - c) with ⟨h1,h2⟩ | ⟨j,e,h1,h2,h3⟩
   ·rw[h2,Option.bind_some,show decide ((-1:Int)<0)=true from rfl,cond_true]
    refine plain ?_
    unfold onC
    rw[h1,decide_eq_false (show ¬ c≥0 by omega)]
    rfl
   ·have he:=(h.all e (List.mem_of_getElem? h2)).2
    rw[h1,Option.bind_some,decide_eq_false (show ¬(j:Int)<0 by omega),cond_false,yx,h2,Option.bind_some,zq (by omega),cond_true,ih _ (by rw[List.length_append]; omega)]
    unfold onB
    have:onC s c=e.2:=by
     unfold onC
     rw[h3,decide_eq_false (show ¬ c≥0 by omega)]
     rfl
    rw[List.flatMap_cons,this,List.append_assoc]
  ·rw[decide_eq_false h0,cond_false]
   refine plain ?_
   unfold onC
   rw[decide_eq_true (show c≥0 by omega)]
   rfl
theorem zpT {s:List (Int×List Int)} (h:BindsOk s) {r:List Int} (hr:zdm r):zcV s r=some (onB s r):=by
 have:=hr.1
 unfold zcV
 rw[zkC _ _ _ (by unfold maxLen; omega),zCo h r [] hr.2 (by simp; omega)]
 rfl
theorem zwm {s:List (Int×List Int)} (h:BindsOk s):(es out:List zc)→(∀ l∈es,zdm l.2)→out.length+es.length≤1000000→qS s es out=some (out++znB s es)
 | [],out,_,_=>by simp [qS,znB]
 | e::es,out,hn,hl=>by
  simp only[List.length_cons] at hl
  unfold qS
  rw[zpT h (hn e (List.mem_cons_self ..)),Option.bind_some,zq (by simp; omega),cond_true,zwm h es _ (fun l hl=>hn l (List.mem_cons_of_mem _ hl)) (by simp; omega)]
  simp [znB]
theorem zvz {s:List (Int×List Int)} (h:BindsOk s) (s5:List zc):(es out:List jI)→(∀ l∈es,zdm l)→out.length+es.length≤1000000→q5 s s5 es out=some (s5,out++zu4 s es)
 | [],out,_,_=>by simp [q5,zu4]
 | e::es,out,hn,hl=>by
  simp only[List.length_cons] at hl
  unfold q5
  rw[zpT h (hn e (List.mem_cons_self ..)),Option.bind_some,zq (by simp; omega),cond_true,zvz h s5 es _ (fun l hl=>hn l (List.mem_cons_of_mem _ hl)) (by simp; omega)]
  simp [zu4]
theorem zvs {s:List (Int×List Int)} (h:BindsOk s) (s5:List zc) (s6:List jI):(es out:List zc)→(∀ l∈es,zdm l.2)→out.length+es.length≤1000000→qN s s5 s6 es out=some (s5,s6,out++znB s es)
 | [],out,_,_=>by simp [qN,znB]
 | e::es,out,hn,hl=>by
  simp only[List.length_cons] at hl
  unfold qN
  rw[zpT h (hn e (List.mem_cons_self ..)),Option.bind_some,zq (by simp; omega),cond_true,zvs h s5 s6 es _ (fun l hl=>hn l (List.mem_cons_of_mem _ hl)) (by simp; omega)]
  simp [znB]
theorem zrK {s:List (Int×List Int)} (h:BindsOk s) {L:List zc} {T:List jI} {C:List zc} (hL:∀ l∈L,zdm l.2) (hT:∀ l∈T,zdm l) (hC:∀ l∈C,zdm l.2) (h1:L.length≤1000) (h2:T.length≤1000) (h3:C.length≤1000) :
  zeH s L T C=some (znB s L,zu4 s T,znB s C):=by
 unfold zeH
 rw[zjl _ _ _ _ _ (by unfold maxLen; omega),zwm h L [] hL (by simp; omega),Option.bind_some,
  zjG _ _ _ _ _ _ (by unfold maxLen; omega),zvz h _ T [] hT (by simp; omega),Option.bind_some,
  zjP _ _ _ _ _ _ _ (by unfold maxLen; omega),zvs h _ _ C [] hC (by simp; omega),Option.bind_some]
 simp
theorem ztT {l k:zc} (h:l.2.length≤1000000):zfV l.1 l.2 k.1 k.2=some (decide (l=k)):=by
 obtain⟨n,r⟩:=l
 obtain⟨n',r'⟩:=k
 unfold zfV
 by_cases hn:n=n'
 ·subst hn
  simp only[beq_self_eq_true,cond_true]
  rw[zhv h,Option.bind_some]
  simp
 ·rw[show (n==n')=false from by simp [hn],cond_false]
  simp [hn]
theorem zxH {s0 out:List zc} {i0:Nat} {e0:zc} (he:s0[i0]? = some e0) (ho:∀ l∈out,l.2.length≤1000000):(es:List zc)→(i:Nat)→(b:Bool)→out.drop i=es→qr s0 (i0:Int) out es i b=some (b||decide (e0∈es),out)
 | [],i,b,_=>by simp [qr]
 | e::es,i,b,hd=>by
  have ih:=fun b=>zxH he ho es (i+1) b (ze hd)
  unfold qr
  cases b with
  | true=>rw[cond_true,ih true]; rfl
  | false =>
   have hi:=zD hd
   have hg:=zh hd
   rw[cond_false,yB hi,Option.bind_some,hg,Option.bind_some,yx,he,Option.bind_some,ztT (ho e (List.mem_of_getElem? hg)),Option.bind_some,ih]
   congr 2
   rw[Bool.eq_iff_iff,Bool.false_or,Bool.or_eq_true,decide_eq_true_iff,decide_eq_true_iff,decide_eq_true_iff,List.mem_cons]
   exact ⟨fun h=>h.imp Eq.symm id,fun h=>h.imp Eq.symm id⟩
theorem zrv {s0:List zc} (hs:∀ l∈s0,l.2.length≤1000000):(es:List zc)→(i:Nat)→(out:List zc)→s0.drop i=es→(∀ l∈out,l.2.length≤1000000)→out.length+es.length≤1000000→qU s0 es i out=some (zQ es out)
 | [],i,out,_,_,_=>rfl
 | e::es,i,out,hd,ho,hl=>by
  simp only[List.length_cons] at hl
  have hg:=zh hd
  have hem:=List.mem_of_getElem? hg
  unfold qU zQ
  rw[zjk _ _ _ _ (by unfold maxLen; omega),zxH hg ho out 0 false rfl,Option.bind_some,Bool.false_or]
  by_cases hm:e∈out
  ·have e1:∀ inst:Decidable (e∈out),@decide (e∈out) inst=true:=fun _=>decide_eq_true hm
   simp only[e1,Bool.not_true,cond_false,cond_true]
   exact zrv hs es (i+1) out (ze hd) ho (by omega)
  ·have e1:∀ inst:Decidable (e∈out),@decide (e∈out) inst=false:=fun _=>decide_eq_false hm
   simp only[e1,Bool.not_false,cond_true,cond_false]
   rw[zq (by simp; omega),cond_true]
   exact zrv hs es (i+1) _ (ze hd) (fun l hl=>by
    rcases List.mem_append.1 hl with hl | hl
    ·exact ho l hl
    ·rw[List.mem_singleton.1 hl]; exact hs e hem) (by simp; omega)
theorem zvP {L:List zc} (hs:∀ l∈L,l.2.length≤1000000) (hl:L.length≤1000):zkh L=some (zQ L []):=by
 unfold zkh
 rw[zji _ _ (by unfold maxLen; omega),zrv hs L 0 [] rfl (fun _ h=>(nomatch h)) (by simp; omega)]
 rfl
theorem zy4 {s4 out:List jI} {s6 s7:List zc} {i0:Nat} {e0:List Int} (he:s4[i0]? = some e0) (ho:∀ l∈out,l.length≤1000000):(es:List jI)→(i:Nat)→(b:Bool)→out.drop i=es→qo (i0:Int) s4 s6 s7 out es i b=some (b||decide (e0∈es),s6,s7,out)
 | [],i,b,_=>by simp [qo]
 | e::es,i,b,hd=>by
  have ih:=fun b=>zy4 (s6:=s6) (s7:=s7) he ho es (i+1) b (ze hd)
  unfold qo
  cases b with
  | true=>rw[cond_true,ih true]; rfl
  | false =>
   have hi:=zD hd
   have hg:=zh hd
   rw[cond_false,yB hi,Option.bind_some,hg,Option.bind_some,yx,he,Option.bind_some,zhv (ho e (List.mem_of_getElem? hg)),Option.bind_some,ih]
   congr 2
   rw[Bool.eq_iff_iff,Bool.false_or,Bool.or_eq_true,decide_eq_true_iff,decide_eq_true_iff,decide_eq_true_iff,List.mem_cons]
   exact ⟨fun h=>h.imp Eq.symm id,fun h=>h.imp Eq.symm id⟩
theorem zrw {s1 s3 s4 s5:List zc} {s2:List jI} (hs:∀ l∈s2,l.length≤1000000):(es:List jI)→(i:Nat)→(out:List jI)→s2.drop i=es→(∀ l∈out,l.length≤1000000)→out.length+es.length≤1000000→qQ s1 s2 s3 es i s4 s5 out=some (s4,s5,zQ es out)
 | [],i,out,_,_,_=>rfl
 | e::es,i,out,hd,ho,hl=>by
  simp only[List.length_cons] at hl
  have hg:=zh hd
  have hem:=List.mem_of_getElem? hg
  unfold qQ zQ
  rw[zjQ _ _ _ _ _ _ _ _ (by unfold maxLen; omega),zy4 hg ho out 0 false rfl,Option.bind_some,Bool.false_or]
  by_cases hm:e∈out
  ·have e1:∀ inst:Decidable (e∈out),@decide (e∈out) inst=true:=fun _=>decide_eq_true hm
   simp only[e1,Bool.not_true,cond_false,cond_true]
   exact zrw hs es (i+1) out (ze hd) ho (by omega)
  ·have e1:∀ inst:Decidable (e∈out),@decide (e∈out) inst=false:=fun _=>decide_eq_false hm
   simp only[e1,Bool.not_false,cond_true,cond_false]
   rw[zq (by simp; omega),cond_true]
   exact zrw hs es (i+1) _ (ze hd) (fun l hl=>by
    rcases List.mem_append.1 hl with hl | hl
    ·exact ho l hl
    ·rw[List.mem_singleton.1 hl]; exact hs e hem) (by simp; omega)
end
end Go.Abs.Q
namespace Go.Abs.Q
open Go Go.Abs
section
def zCR (bs:List (Int×List Int)) (c:Int):List (Int×List Int):=cond (decide (c<0)&&(zeN bs (-1 - c)).isNone) (bs++[(-1 - c,[-1 - (bs.length:Int)])]) bs
def zBL (bs:List (Int×List Int)) (r:List Int):List (Int×List Int):=r.foldl zCR bs
theorem zAu (bs:List (Int×List Int)) (c:Int):(zCR bs c).length≤bs.length+1:=by
 unfold zCR
 cases decide (c<0)&&(zeN bs (-1 - c)).isNone<;>simp
theorem zz9 (r:List Int):(bs:List (Int×List Int))→(zBL bs r).length≤bs.length+r.length:=by
 unfold zBL
 induction r with
 | nil=>intro bs; simp
 | cons c r ih =>
  intro bs
  have:=ih (zCR bs c)
  have:=zAu bs c
  simp only[List.foldl_cons,List.length_cons]
  omega
theorem zvV {rows:List jI} {i:Nat} {r:List Int} (hr:rows[i]? = some r) (L:List zc) (T:List jI) (C:List zc) (hrl:r.length≤1000):∀(es:List Int) (j k:Nat) (bs:List (Int×List Int)),r.drop j=es→(∀ c∈es,-1000000≤c∧c≤1000000)→es.length<k→bs.length+es.length≤1000 →
  lp zcz k (rows,(i:Int),(j:Int),L,T,C,bs)=some (zBL bs es)
 | [],j,k,bs,hd,_,hk,_=>by
  obtain⟨k,rfl⟩:∃ k',k=k'+1:=⟨k - 1,by simp at hk; omega⟩
  rw[zj]
  generalize lp zcz k=rec
  unfold zcz
  have:=yd hd
  rw[yx,hr,Option.bind_some,decide_eq_false (show ¬(j:Int)<((List.length r:Nat):Int) by omega),cond_false]
  rfl
 | c::es,j,k,bs,hd,hc,hk,hb=>by
  obtain⟨k,rfl⟩:∃ k',k=k'+1:=⟨k - 1,by simp at hk; omega⟩
  simp only[List.length_cons] at hk hb
  have hlt:=zD hd
  have hc0:=hc c (List.mem_cons_self ..)
  rw[zj]
  have key:=fun bs hb=>zvV hr L T C hrl es (j+1) k bs (ze hd) (fun c h=>hc c (List.mem_cons_of_mem _ h)) (by omega) hb
  generalize lp zcz k=rec at key ⊢
  unfold zcz
  have w1:IntKind.wrap .i64 ((j:Int)+1)=((j+1:Nat):Int):=by rw[zp]<;>omega
  have w2:IntKind.wrap .i64 ((-1) - c) = -1 - c:=by rw[zp]<;>omega
  have w3:IntKind.wrap .i64 ((-1) - ((List.length bs:Nat):Int)) = -1 - (bs.length:Int):=by rw[zp]<;>omega
  simp only[yx,hr,Option.bind_some,zh hd,w1,w2,w3]
  rw[decide_eq_true (show (j:Int)<((List.length r:Nat):Int) by omega),cond_true]
  show _=some (zBL (zCR bs c) es)
  unfold zCR
  by_cases h0:c<0
  ·rw[decide_eq_true h0,cond_true,Bool.true_and]
   rcases zvG (s:=bs) (by omega) (-1 - c) with ⟨h1,h2⟩ | ⟨q,e,h1,h2,h3⟩
   ·rw[h2,Option.bind_some,show decide ((-1:Int)<0)=true from rfl,cond_true,zq (by simp; omega),cond_true,key _ (by simp; omega),h1]
    rfl
   ·rw[h1,Option.bind_some,decide_eq_false (show ¬(q:Int)<0 by omega),cond_false,key _ (by omega),h3]
    rfl
  ·rw[decide_eq_false h0,cond_false,Bool.false_and,cond_false,key _ (by omega)]
theorem zx8 {rows:List jI} (L:List zc) (T:List jI) (C:List zc) (hrows:∀ r∈rows,zdm r):(es:List jI)→(i:Nat)→(bs:List (Int×List Int))→rows.drop i=es→bs.length+zn es≤1000 →
  zaN rows L T C es i bs=some (es.foldl zBL bs)
 | [],_,_,_,_=>rfl
 | e::es,i,bs,hd,hb=>by
  have hg:=zh hd
  have he:=hrows e (List.mem_of_getElem? hg)
  have hs:zn (e::es)=e.length+zn es:=by simp [zn]
  unfold zaN
  have:=zvV hg L T C he.1 e 0 zd bs rfl he.2 (by have:=he.1; unfold zd; omega) (by omega)
  rw[show ((0:Nat):Int)=0 from rfl] at this
  have hl:=zz9 e bs
  rw[this,Option.bind_some,zx8 L T C hrows es (i+1) _ (ze hd) (by omega)]
  rfl
structure Rl (s:zn2) (bs:List (Int×List Int)):Prop where
 cnt:(bs.length:Int)=s.2
 at_:∀ v:Nat,zeN bs (v:Int)=if s.1.getD v 0=0 then none else some [-(s.1.getD v 0)]
 one:∀ b∈bs,b.2.length=1
theorem zqa (bs:List (Int×List Int)) (v w:Int) (t:List Int):zeN (bs++[(v,t)]) w=match zeN bs w with
  | some u=>some u
  | none=>cond (v==w) (some t) none:=by
 unfold zeN
 rw[List.find?_append]
 cases h:bs.find? fun b=>b.1==w with
 | some b=>rfl
 | none =>
  simp only[Option.none_or,List.find?_cons,List.find?_nil,Option.map_none]
  cases v==w<;>rfl
theorem rl0:Rl (List.replicate 24 (0:Int),0) [] where
 cnt:=rfl
 at_:=fun v=>by
  rw[if_pos]
  ·rfl
  ·show (List.replicate 24 (0:Int)).getD v 0=0
   rw[List.getD_eq_getElem?_getD,List.getElem?_replicate]
   split<;>rfl
 one:=fun _ h=>(nomatch h)
theorem Rl.ok {s:zn2} {bs:List (Int×List Int)} (h:Rl s bs) (hI:RenI s):BindsOk bs where
 len:=by have:=h.cnt; have:=hI.next; omega
 all:=fun b hb=>by
  have:=h.one b hb
  exact ⟨fun e=>by rw[e] at this; simp at this,by omega⟩
theorem Rl.step {s:zn2} {bs:List (Int×List Int)} (h:Rl s bs) (hI:RenI s) {c:Int} (hc : -24≤c):Rl (zlW s c).2 (zCR bs c):=by
 unfold zlW zCR
 by_cases h0:c≥0
 ·rw[decide_eq_true h0,cond_true,decide_eq_false (show ¬ c<0 by omega),Bool.false_and,cond_false]
  exact h
 ·rw[decide_eq_false h0,cond_false,decide_eq_true (show c<0 by omega),Bool.true_and]
  obtain⟨v,rfl⟩:∃ v:Nat,c = -1 - (v:Int):=⟨(-1 - c).toNat,by omega⟩
  have e1:(-1 - (-1 - (v:Int)))=(v:Int):=by omega
  rw[e1,Int.toNat_natCast,h.at_ v]
  by_cases hz:s.1.getD v 0=0
  ·rw[if_pos hz,show (s.1.getD v 0==0)=true from by rw[hz]; rfl,cond_true,show (none:Option jI).isNone=true from rfl,cond_true]
   have hv:v<s.1.length:=by rw[hI.len]; omega
   have hcnt:=h.cnt
   refine ⟨by show (((bs++[_]).length:Nat):Int)=s.2+1; rw[List.length_append,← hcnt]; simp,fun w => ?_,fun b hb => ?_⟩
   ·rw[zqa,h.at_ w]
    show _=if (s.1.set v (s.2+1)).getD w 0=0 then none else some [-((s.1.set v (s.2+1)).getD w 0)]
    rw[zem hv]
    have hn:=hI.next
    by_cases hw:w=v
    ·subst hw
     rw[if_pos hz,if_pos rfl,if_neg (show ¬ s.2+1=0 by omega)]
     simp only[beq_self_eq_true,cond_true]
     rw[show -1 - (bs.length:Int) = -(s.2+1) from by omega]
    ·rw[if_neg hw]
     by_cases hz2:s.1.getD w 0=0
     ·rw[if_pos hz2]
      simp only
      rw[show (((v:Nat):Int)==((w:Nat):Int))=false from by simp; omega]
      rfl
     ·rw[if_neg hz2]
   ·rcases List.mem_append.1 hb with hb | hb
    ·exact h.one b hb
    ·rw[List.mem_singleton.1 hb]; rfl
  ·rw[if_neg hz,show (s.1.getD v 0==0)=false from by simpa using hz,cond_false]
   exact h
theorem Rl.row:(r:List Int)→{s:zn2}→{bs:List (Int×List Int)}→Rl s bs→RenI s→(∀ c∈r,-24≤c)→Rl (zeO s r).2 (zBL bs r)
 | [],_,_,h,_,_=>h
 | c::r,s,bs,h,hI,hc=>by
  have h1:=h.step hI (hc c (List.mem_cons_self ..))
  exact Rl.row r h1 (zqX hI (hc c (List.mem_cons_self ..))).1 fun d hd=>hc d (List.mem_cons_of_mem _ hd)
theorem Rl.lits:(ls:List zc)→{s:zn2}→{bs:List (Int×List Int)}→Rl s bs→RenI s→(∀ l∈ls,∀ c∈l.2,-24≤c)→Rl (zbj s ls).2 ((ls.map (·.2)).foldl zBL bs)
 | [],_,_,h,_,_=>h
 | l::ls,s,bs,h,hI,hc=>by
  have h1:=h.row l.2 hI (hc l (List.mem_cons_self ..))
  exact Rl.lits ls h1 (zin l.2 hI (hc l (List.mem_cons_self ..))).1 fun d hd=>hc d (List.mem_cons_of_mem _ hd)
theorem Rl.rows:(ls:List jI)→{s:zn2}→{bs:List (Int×List Int)}→Rl s bs→RenI s→(∀ l∈ls,∀ c∈l,-24≤c)→Rl (zdo s ls).2 (ls.foldl zBL bs)
 | [],_,_,h,_,_=>h
 | l::ls,s,bs,h,hI,hc=>by
  have h1:=h.row l hI (hc l (List.mem_cons_self ..))
  exact Rl.rows ls h1 (zin l hI (hc l (List.mem_cons_self ..))).1 fun d hd=>hc d (List.mem_cons_of_mem _ hd)
theorem zoT {f:zn2} (hI:RenI f) {bs:List (Int×List Int)} (h:Rl f bs):(r:List Int)→(∀ c∈r,-24≤c)→(∀ x,zu6 r x→f.1.getD x.toNat 0≠0)→onB bs r=zb0 (fun v=>.v (rho f v)) r
 | [],_,_=>rfl
 | c::r,hc,hz=>by
  have ih:=zoT hI h r (fun d hd=>hc d (List.mem_cons_of_mem _ hd)) fun x ⟨d,hd,h1⟩=>hz x ⟨d,List.mem_cons_of_mem _ hd,h1⟩
  have hc0:=hc c (List.mem_cons_self ..)
  unfold onB zb0 at ih ⊢
  rw[List.flatMap_cons,List.flatMap_cons,ih]
  congr 1
  unfold onC zhC
  by_cases h0:c≥0
  ·rw[decide_eq_true h0,cond_true,if_neg (by omega)]
  ·rw[decide_eq_false h0,cond_false,if_pos (by omega)]
   obtain⟨v,rfl⟩:∃ v:Nat,c = -1 - (v:Int):=⟨(-1 - c).toNat,by omega⟩
   have e1:(-1 - (-1 - (v:Int)))=(v:Int):=by omega
   have hv:=hz (v:Int) ⟨_,List.mem_cons_self ..,by omega,by omega⟩
   rw[Int.toNat_natCast] at hv
   rw[e1,h.at_ v,if_neg hv,Int.toNat_natCast]
   have:=hI.rng v
   unfold rho
   show [-(f.1.getD v 0)]=[-1 - (((f.1.getD v 0).toNat - 1:Nat):Int)]
   congr 1
   omega
theorem zDb {L:List zc} {T:List jI} {C:List zc} (hc:∀ r∈yC L T C,Cds r) (hl:L.length≤100) (ht:T.length≤100) (hcl:C.length≤100) (hsum:zn (L.map (·.2))+zn T+zn (C.map (·.2))≤1000):zml L T C=some (zc1 L T C):=by
 have cL:∀ l∈L,Cds l.2:=fun l h=>hc _ (zau h)
 have cT:∀ l∈T,Cds l:=fun l h=>hc _ (zcu h)
 have cC:∀ l∈C,Cds l.2:=fun l h=>hc _ (zbZ h)
 have mL:∀ l,l∈zQ L []↔l∈L:=fun l=>by simpa using qV (x:=l) L []
 have mT:∀ l,l∈zQ T []↔l∈T:=fun l=>by simpa using qV (x:=l) T []
 have mC:∀ l,l∈zQ C []↔l∈C:=fun l=>by simpa using qV (x:=l) C []
 have lL:=zbc L []
 have lT:=zbc T []
 have lC:=zbc C []
 simp only[List.length_nil,Nat.zero_add] at lL lT lC
 have big:∀ r:List Int,Cds r→r.length≤1000000:=fun r h=>by have:=h.1; omega
 unfold zml
 rw[zvP (fun l h=>big _ (cL l h)) (by omega),Option.bind_some,zvP (fun l h=>big _ (cC l h)) (by omega),Option.bind_some,
  zjw _ _ _ _ _ _ (by unfold maxLen; omega),zrw (fun l h=>big _ (cT l h)) T 0 [] rfl (fun _ h=>(nomatch h)) (by simp; omega),Option.bind_some]
 simp only
 rw[zii _ _ _ (by omega) (by omega) (by omega),Option.bind_some]
 have nr:∀ r∈(zQ L []).map (·.2)++zQ T []++(zQ C []).map (·.2),Cds r:=fun r hr=>by
  rcases List.mem_append.1 hr with hr | hr
  ·rcases List.mem_append.1 hr with hr | hr
   ·obtain⟨l,hl,rfl⟩:=List.mem_map.1 hr; exact cL l ((mL l).1 hl)
   ·exact cT r ((mT r).1 hr)
  ·obtain⟨l,hl,rfl⟩:=List.mem_map.1 hr; exact cC l ((mC l).1 hl)
 have sL:zn ((zQ L []).map (·.2))≤zn (L.map (·.2)):=by
  have:=zgU (fun l:zc=>l.2.length) L []
  have h4:(([]:List zc).map (fun l:zc=>l.2.length)).sum=0:=rfl
  rw[h4,Nat.zero_add] at this
  unfold zn
  rw[List.map_map,List.map_map]
  exact this
 have sC:zn ((zQ C []).map (·.2))≤zn (C.map (·.2)):=by
  have:=zgU (fun l:zc=>l.2.length) C []
  have h4:(([]:List zc).map (fun l:zc=>l.2.length)).sum=0:=rfl
  rw[h4,Nat.zero_add] at this
  unfold zn
  rw[List.map_map,List.map_map]
  exact this
 have sT:zn (zQ T [])≤zn T:=by
  have:=zgU List.length T []
  unfold zn
  simpa using this
 rw[zjm _ _ _ _ _ (by simp only[List.length_append,List.length_map]; unfold maxLen; omega),zx8 _ _ _ (fun r hr=>(nr r hr).near) _ 0 [] List.drop_zero (by rw[zbe,zbe]; simp only[List.length_nil]; omega),Option.bind_some,List.foldl_append,List.foldl_append]
 -- the numbering
 obtain⟨a1,a2,a3,a4⟩:=zgB (zQ L []) zIK fun l hl=>fun c h=>((cL l ((mL l).1 hl)).2 c h).1
 obtain⟨b1,b2,b3,b4⟩:=zle (zQ T []) a1 fun l hl=>fun c h=>((cT l ((mT l).1 hl)).2 c h).1
 obtain⟨c1,c2,c3,c4⟩:=zgB (zQ C []) b1 fun l hl=>fun c h=>((cC l ((mC l).1 hl)).2 c h).1
 have r1:=rl0.lits (zQ L []) zIK fun l hl=>fun c h=>((cL l ((mL l).1 hl)).2 c h).1
 have r2:=r1.rows (zQ T []) a1 fun l hl=>fun c h=>((cT l ((mT l).1 hl)).2 c h).1
 have r3:=r2.lits (zQ C []) b1 fun l hl=>fun c h=>((cC l ((mC l).1 hl)).2 c h).1
 have nz1:∀ x,zhz ((zQ L []).map (·.2)) x→(zbj (zdo (zbj (List.replicate 24 0,0) (zQ L [])).2 (zQ T [])).2 (zQ C [])).2.1.getD x.toNat 0≠0:=fun x hx=>by
  have:=a3 x hx
  rw[c2 _ (by rw[b2 _ this]; exact this),b2 _ this]
  exact this
 have nz2:∀ x,zhz (zQ T []) x→(zbj (zdo (zbj (List.replicate 24 0,0) (zQ L [])).2 (zQ T [])).2 (zQ C [])).2.1.getD x.toNat 0≠0:=fun x hx=>by
  have:=b3 x hx
  rw[c2 _ this]
  exact this
 rw[zrK (r3.ok c1) (fun l h=>(cL l ((mL l).1 h)).near) (fun l h=>(cT l ((mT l).1 h)).near) (fun l h=>(cC l ((mC l).1 h)).near) (by omega) (by omega) (by omega),Option.bind_some]
 unfold zc1 zGG
 rw[a4 _ (b2.trans c2),b4 _ c2,c4 _ (ExtS.refl _)]
 have eL:znB _ (zQ L [])=q6 _ (zQ L []):=List.map_congr_left fun l h=>by
  show (l.1,_)=(l.1,_)
  rw[zoT c1 r3 l.2 (fun c hh=>((cL l ((mL l).1 h)).2 c hh).1) fun x hx=>nz1 x ⟨_,List.mem_map_of_mem h,hx⟩]
 have eT:zu4 _ (zQ T [])=(zQ T []).map _:=List.map_congr_left fun l h=>zoT c1 r3 l (fun c hh=>((cT l ((mT l).1 h)).2 c hh).1) fun x hx=>nz2 x ⟨_,h,hx⟩
 have eC:znB _ (zQ C [])=q6 _ (zQ C []):=List.map_congr_left fun l h=>by
  show (l.1,_)=(l.1,_)
  rw[zoT c1 r3 l.2 (fun c hh=>((cC l ((mC l).1 h)).2 c hh).1) fun x hx=>c3 x ⟨_,List.mem_map_of_mem h,hx⟩]
 rw[eL,eT,eC]
end
end Go.Abs.Q
namespace Go.Abs.Q
open Go Go.Abs
section
theorem TopV.unique {rs:List jI} {m m':Int} (h:TopV rs m) (h':TopV rs m') (h0:0≤m) (h0':0≤m'):m=m':=by
 have a:m'≤m:=by
  rcases h'.2 with e | e
  ·omega
  ·have:=h.1 _ e; omega
 have b:m≤m':=by
  rcases h.2 with e | e
  ·omega
  ·have:=h'.1 _ e; omega
 omega
def upB (b:Nat) (vs:List Nat):List (Int×List Int):=vs.map fun v:Nat=>((v:Int),[-1 - (v:Int) - (b:Int)])
theorem zn3 {b:Nat} (hb:b≤24):(vs:List Nat)→(bs:List (Int×List Int))→(∀ v∈vs,v<24)→bs.length+vs.length≤1000→qa (b:Int) (vs.map fun v:Nat=>(v:Int)) bs=some (cond (vs.all fun v=>decide (v+b≤23)) (.inl (bs++upB b vs)) (.inr false))
 | [],bs,_,_=>by simp [qa,upB]
 | v::vs,bs,h,hl=>by
  have hv:=h v (List.mem_cons_self ..)
  simp only[List.length_cons] at hl
  rw[List.map_cons]
  unfold qa
  have w1:IntKind.wrap .i64 ((v:Int)+(b:Int))=(v:Int)+(b:Int):=by rw[zp]<;>omega
  have w2:IntKind.wrap .i64 ((-1) - (v:Int)) = -1 - (v:Int):=by rw[zp]<;>omega
  have w3:IntKind.wrap .i64 (-1 - (v:Int) - (b:Int)) = -1 - (v:Int) - (b:Int):=by rw[zp]<;>omega
  rw[w1,w2,w3,List.all_cons]
  by_cases hvb:v+b≤23
  ·rw[decide_eq_false (show ¬(v:Int)+(b:Int)>23 by omega),cond_false,zq (by simp; omega),cond_true,zn3 hb vs _ (fun x hx=>h x (List.mem_cons_of_mem _ hx)) (by simp; omega),decide_eq_true hvb,Bool.true_and]
   simp [upB]
  ·rw[decide_eq_true (show (v:Int)+(b:Int)>23 by omega),cond_true,decide_eq_false hvb]
   rfl
theorem zmS {α β:Type} (f:α→β):(r:List α)→(g:α→List β)→(∀ c∈r,g c=[f c])→r.flatMap g=r.map f
 | [],_,_=>rfl
 | c::r,g,h=>by rw[List.flatMap_cons,h c (List.mem_cons_self ..),zmS f r g fun d hd=>h d (List.mem_cons_of_mem _ hd)]; rfl
theorem zta (b:Nat) (v:Nat):(vs:List Nat)→v∈vs→zeN (upB b vs) (v:Int)=some [-1 - (v:Int) - (b:Int)]
 | [],h=>(nomatch h)
 | w::vs,h=>by
  have ih:=zta b v vs
  unfold zeN upB at ih ⊢
  rw[List.map_cons,List.find?_cons]
  by_cases hw:w=v
  ·subst hw
   simp
  ·rw[show (((w:Nat):Int)==((v:Nat):Int))=false from by simp; omega]
   rcases List.mem_cons.1 h with h | h
   ·exact absurd h.symm hw
   ·exact ih h
theorem zBX {b:Nat} {vs:List Nat} {r:List Int} (h:∀ x,zu6 r x→0≤x∧x.toNat∈vs):onB (upB b vs) r=r.map (upC (b:Int)):=by
 unfold onB
 refine zmS _ r _ fun c hc => ?_
 unfold onC upC
 by_cases h0:c<0
 ·obtain⟨h1,h2⟩:=h (-1 - c) ⟨c,hc,h0,rfl⟩
  have:=zta b (-1 - c).toNat vs h2
  rw[Int.toNat_of_nonneg h1] at this
  rw[decide_eq_false (show ¬ c≥0 by omega),cond_false,this,decide_eq_true h0,cond_true]
  show [_]=[_]
  congr 1
  omega
 ·rw[decide_eq_true (show c≥0 by omega),cond_true,decide_eq_false h0,cond_false]
theorem zGn (b:Nat) (vs:List Nat) (h:vs.length≤1000):BindsOk (upB b vs) where
 len:=by unfold upB; rw[List.length_map]; exact h
 all:=fun q hq=>by
  obtain⟨v,-,rfl⟩:=List.mem_map.1 hq
  exact ⟨by simp,by simp⟩
theorem znr {a0:List zi} (hs:SignOk a0) {L:List zc} {T:List jI} {C:List zc} (h:zb5 a0 L T C=true):L.length≤5∧T.length≤3∧C.length≤3∧zn (L.map (·.2))+zn T+zn (C.map (·.2))≤1000:=by
 obtain⟨-,h1,h2,h3,-,-,-,h7⟩:=zv h
 exact ⟨h1,h2,h3,by omega⟩
theorem zlv {a0:List zi} (hs:SignOk a0) {L:List zc} {T:List jI} {C:List zc} {L':List zc} {T':List jI} {C':List zc} (h:zb5 a0 L T C=true) (h':zb5 a0 L' T' C'=true) {b:Nat} (hb:b≤24) (htop:TopV (yC L T C) (b:Int)) :
  (zfz L T C L' T' C'=some ([],[],false,[])∧∃ x,zhz (yC L' T' C') x∧23<x+(b:Int)) ∨
  (zfz L T C L' T' C'=some (zgO (b:Int) L',T'.map (List.map (upC (b:Int))),true,zgO (b:Int) C')∧∀ x,zhz (yC L' T' C') x→x+(b:Int)≤23):=by
 obtain⟨l1,l2,l3,l4⟩:=znr hs h
 obtain⟨m1,m2,m3,m4⟩:=znr hs h'
 have hcd:=zmY hs h'
 have hwm:∀ x,x∈(zeX L T C).map (fun v:Nat=>(v:Int))↔zhz (yC L T C) x:=fun x=>by
  constructor
  ·intro hx
   obtain⟨v,hv,rfl⟩:=List.mem_map.1 hx
   exact (zh1 (zhp v hv)).1 hv
  ·intro hx
   have:=zgg h hx
   obtain⟨v,rfl⟩:∃ v:Nat,x=(v:Int):=⟨x.toNat,by omega⟩
   exact List.mem_map_of_mem ((zh1 (by omega)).2 hx)
 have hrise:Rise ((zeX L T C).map fun v:Nat=>(v:Int)):=by
  have h1:(zeX L T C).Pairwise (· < ·):=List.Pairwise.sublist List.filter_sublist List.pairwise_lt_range
  unfold Rise
  rw[List.pairwise_map]
  exact h1.imp fun h=>by omega
 have hv':∀ x,zhz (yC L' T' C') x→0≤x∧x.toNat∈zeX L' T' C':=fun x hx=>by
  have:=zgg h' hx
  refine ⟨this.1,(zh1 (by omega)).2 ?_⟩
  rw[Int.toNat_of_nonneg this.1]; exact hx
 have hvl:(zeX L' T' C').length≤24:=by
  have:=zku _ (List.range 24) (zhk L' T' C') fun v hv=>List.mem_range.2 (zhp v hv)
  simpa using this
 -- the last part, whatever the way to it
 have fin:∀ o:Option (List zc×List jI×Bool×List zc),o=((lp zbh zd) ((b:Int),(zeX L' T' C').map (fun v:Nat=>(v:Int)),0,L',T',C',([]:List (Int×List Int)))).bind (fun r27=>z6 r27 (fun z28=>(zeH z28 L' T' C').bind fun r29=>some (r29.1,r29.2.1,true,r29.2.2)) (fun z30=>some (([]:List zc),([]:List jI),z30,([]:List zc)))) →
   (o=some ([],[],false,[])∧∃ x,zhz (yC L' T' C') x∧23<x+(b:Int))∨(o=some (zgO (b:Int) L',T'.map (List.map (upC (b:Int))),true,zgO (b:Int) C')∧∀ x,zhz (yC L' T' C') x→x+(b:Int)≤23):=by
  intro o ho
  rw[ho,zic _ _ _ _ _ _ (by rw[List.length_map]; unfold maxLen; omega),zn3 hb _ [] zhp (by simp; omega)]
  cases ha:(zeX L' T' C').all fun v=>decide (v+b≤23) with
  | false =>
   refine .inl ⟨rfl,?_⟩
   obtain⟨v,hv,hvb⟩:=List.all_eq_false.1 ha
   have hvb:¬ v+b≤23:=by simpa using hvb
   exact ⟨(v:Int),(zh1 (zhp v hv)).1 hv,by omega⟩
  | true =>
   refine .inr ⟨?_,fun x hx => ?_⟩
   ·simp only[cond_true,Option.bind_some,zb1,List.nil_append]
    rw[zrK (zGn b _ (by omega)) (fun l hl=>(hcd _ (zau hl)).near) (fun l hl=>(hcd _ (zcu hl)).near) (fun l hl=>(hcd _ (zbZ hl)).near) (by omega) (by omega) (by omega),Option.bind_some]
    have eL:∀ ls:List zc,(∀ l∈ls,l.2∈yC L' T' C')→znB (upB b (zeX L' T' C')) ls=zgO (b:Int) ls:=fun ls hls=>List.map_congr_left fun l hl=>by
     show (l.1,_)=(l.1,_)
     rw[zBX fun x hx=>hv' x ⟨_,hls l hl,hx⟩]
    have eT:zu4 (upB b (zeX L' T' C')) T'=T'.map (List.map (upC (b:Int))):=List.map_congr_left fun l hl=>zBX fun x hx=>hv' x ⟨_,zcu hl,hx⟩
    rw[eL L' fun l hl=>zau hl,eL C' fun l hl=>zbZ hl,eT]
   ·obtain⟨h1,h2⟩:=hv' x hx
    have:=List.all_eq_true.1 ha _ h2
    have:x.toNat+b≤23:=by simpa using this
    omega
 unfold zfz
 rw[zel (by omega) (by omega) (by omega) (by omega),Option.bind_some]
 rcases zxf hrise hwm with ⟨h1,h2⟩ | ⟨x,h1,h2,h3⟩
 ·have e0:(b:Int)=0:=htop.unique h2 (by omega) (by omega)
  rw[h1]
  refine fin _ ?_
  rw[e0,show decide (((List.length ([]:List Int):Nat):Int)>0)=false from rfl,cond_false,zel (by omega) (by omega) (by omega) (by omega),Option.bind_some]
 ·have hx0:0≤x:=by
   have:=(hwm x).1 (List.mem_of_getElem? h1)
   exact (zgg h this).1
  have hx24:=(zgg h ((hwm x).1 (List.mem_of_getElem? h1))).2
  have e0:(b:Int)=x+1:=htop.unique h3 (by omega) (by omega)
  refine fin _ ?_
  have hl24:((zeX L T C).map fun v:Nat=>(v:Int)).length≤24:=by
   have:=zku _ (List.range 24) (zhk L T C) fun v hv=>List.mem_range.2 (zhp v hv)
   simpa using this
  generalize (zeX L T C).map (fun v:Nat=>(v:Int))=ws at h1 h2 hl24 ⊢
  have w1:IntKind.wrap .i64 (((List.length ws:Nat):Int) - 1)=((ws.length - 1:Nat):Int):=by rw[zp]<;>omega
  have w2:IntKind.wrap .i64 (x+1)=(b:Int):=by rw[zp]<;>omega
  rw[decide_eq_true (show ((List.length ws:Nat):Int)>0 by omega),cond_true,w1,yB (by omega),Option.bind_some,h1,Option.bind_some,zel (by omega) (by omega) (by omega) (by omega),Option.bind_some,w2]
theorem ztl {α:Type} (xs:List α) {i:Nat} (h:i≤xs.length):zcD xs (some (i:Int)) none=some (xs.drop i):=by
 show slc xs (i:Int) (xs.length:Int)=some _
 unfold slc
 rw[decide_eq_true (show (0:Int)≤(i:Int) by omega),decide_eq_true (show (i:Int)≤(xs.length:Int) by omega),decide_eq_true (show (xs.length:Int)≤((xs.length:Nat):Int) by omega)]
 simp
theorem zl9 {α:Type} (s:Nat):(es:List α)→(i:Nat)→s<i→zu (s:Int) es i=es
 | [],_,_=>rfl
 | e::es,i,h=>by
  show cond ((i:Int) != (s:Int)) (e::zu (s:Int) es (i+1)) (zu (s:Int) es (i+1))=_
  rw[show ((i:Int) != (s:Int))=true from by simp; omega,cond_true,zl9 s es (i+1) (by omega)]
theorem zhn {α:Type} (s:Nat):(es:List α)→(i:Nat)→i≤s→s<i+es.length→zu (s:Int) es i=es.take (s - i)++es.drop (s - i+1)
 | [],i,h,h2=>by simp at h2; omega
 | e::es,i,h,h2=>by
  show cond ((i:Int) != (s:Int)) (e::zu (s:Int) es (i+1)) (zu (s:Int) es (i+1))=_
  simp only[List.length_cons] at h2
  by_cases he:i=s
  ·subst he
   rw[show ((i:Int) != (i:Int))=false from by simp,cond_false,zl9 i es (i+1) (by omega)]
   simp
  ·rw[show ((i:Int) != (s:Int))=true from by simp; omega,cond_true,zhn s es (i+1) (by omega) (by omega)]
   rw[show s - i=(s - (i+1))+1 from by omega]
   rfl
theorem zls {L:List zc} {i:Int} (h:q8 L i=true) (hl:L.length≤1000):zds L i=some (zu i L 0):=by
 unfold q8 at h
 simp only[Bool.and_eq_true,decide_eq_true_eq] at h
 obtain⟨k,rfl⟩:∃ k:Nat,i=(k:Int):=⟨i.toNat,by omega⟩
 have w1:IntKind.wrap .i64 ((k:Int)+1)=((k+1:Nat):Int):=by rw[zp]<;>omega
 unfold zds
 rw[w1,zpe L (by omega),Option.bind_some,zq (by simp; omega),cond_true,ztl L (by omega),Option.bind_some,zq (by simp; omega),cond_true,zhn k L 0 (by omega) (by omega)]
 simp
theorem zAB {σ:Sb} (hsh:zaH σ (List.range 24)=true) {L:List zc} {T:List jI} {C:List zc} (hL:∀ l∈L,Cds l.2) (hT:∀ r∈T,Cds r) (hC:∀ l∈C,Cds l.2) (h1:L.length≤1000) (h2:T.length≤1000) (h3:C.length≤1000) :
  zeH (zeu σ) L T C=some (q6 σ L,T.map (zb0 σ),q6 σ C):=by
 rw[zrK (ziK hsh) (fun l hl=>(hL l hl).near) (fun r hr=>(hT r hr).near) (fun l hl=>(hC l hl).near) h1 h2 h3,
  zlZ fun l hl c hc=>((hL l hl).2 c hc).1,zlZ fun l hl c hc=>((hC l hl).2 c hc).1,zsP fun r hr c hc=>((hT r hr).2 c hc).1]
theorem zqh {a0:List zi} {σ:Sb} (hs:SignOk a0) (hsh:zaH σ (List.range 24)=true) {L:List zc} {T:List jI} {C:List zc} (hL:∀ l∈L,Cds l.2) (hT:∀ r∈T,Cds r) (hC:∀ l∈C,Cds l.2) (h1:L.length≤1000) (h2:T.length≤1000) (h3:C.length≤1000) (k:Int) :
  ((zgt a0 (zeu σ) L T C).bind fun r40=>cond (!r40.2.2.1) (zcN k) (some (r40.1,r40.2.1,true,(0:Int),r40.2.2.2)))=zi6 a0 σ L T C k:=by
 unfold zgt zi6
 rw[zAB hsh hL hT hC h1 h2 h3,Option.bind_some]
 simp only
 rw[zN,Option.bind_some]
 cases hm:zb5 a0 (q6 σ L) (T.map (zb0 σ)) (q6 σ C) with
 | false=>rfl
 | true =>
  obtain⟨l1,l2,l3,l4⟩:=znr hs hm
  rw[Bool.not_true,cond_false,zDb (zmY hs hm) (by omega) (by omega) (by omega) l4]
  rfl
end
end Go.Abs.Q
namespace Go.Abs.Q
open Go Go.Abs
section
theorem zg5 (L:List zc) (T:List jI) (C:List zc) (i:Int):zfJ L T C i=some (q8 L i):=by
 unfold zfJ q8
 by_cases h:i≥0
 ·rw[decide_eq_true h,cond_true,Bool.true_and]
 ·rw[decide_eq_false h,cond_false,Bool.false_and]
end
end Go.Abs.Q
namespace Go.Abs.Q
open Go Go.Abs
def zdN (rec:(jS×jI×Int×Int)→Option Int) (x:(jS×jI×Int×Int)):Option Int :=
 cond (decide (x.2.2.2<((List.length x.2.1:Nat):Int)))
 ((gx x.2.1 x.2.2.2).bind fun e4 =>
  cond (decide (e4<0))
  (rec (x.1,x.2.1,(IntKind.wrap .i64 (x.2.2.1+1)),(IntKind.wrap .i64 (x.2.2.2+1))))
  ((gx x.2.1 x.2.2.2).bind fun e5 =>
   (gx x.1 e5).bind fun e6 =>
   rec (x.1,x.2.1,(IntKind.wrap .i64 (x.2.2.1+e6.2.2.2)),(IntKind.wrap .i64 (x.2.2.2+1)))))
 (some x.2.2.1)
def ziR (a0:jS) (a1:jI):Option Int :=
 ((lp zdN zd) (a0,a1,0,0)).bind fun r8 =>
 some r8
def zdE (rec:(jI×jI×Int×Int×Int)→Option Int) (x:(jI×jI×Int×Int×Int)):Option Int :=
 cond (decide (x.2.2.2.2<((List.length x.2.1:Nat):Int)))
 ((gx x.2.1 x.2.2.2.2).bind fun e5 =>
  cond (e5==(IntKind.wrap .i64 ((-1) - x.2.2.1)))
  (rec (x.1,x.2.1,x.2.2.1,(IntKind.wrap .i64 (x.2.2.2.1 - 1)),(IntKind.wrap .i64 (x.2.2.2.2+1))))
  (rec (x.1,x.2.1,x.2.2.1,x.2.2.2.1,(IntKind.wrap .i64 (x.2.2.2.2+1)))))
 (some x.2.2.2.1)
def zdA (rec:(jI×jI×Int×Int×Int)→Option Int) (x:(jI×jI×Int×Int×Int)):Option Int :=
 cond (decide (x.2.2.2.2<((List.length x.1:Nat):Int)))
 ((gx x.1 x.2.2.2.2).bind fun e2 =>
  cond (e2==(IntKind.wrap .i64 ((-1) - x.2.2.1)))
  (rec (x.1,x.2.1,x.2.2.1,(IntKind.wrap .i64 (x.2.2.2.1+1)),(IntKind.wrap .i64 (x.2.2.2.2+1))))
  (rec (x.1,x.2.1,x.2.2.1,x.2.2.2.1,(IntKind.wrap .i64 (x.2.2.2.2+1)))))
 (some x.2.2.2.1)
def zcI (rec:(jI×jI×Int)→Option (Unit⊕Bool)) (x:(jI×jI×Int)):Option (Unit⊕Bool) :=
 cond (decide (x.2.2≤23))
 (((lp zdA zd) (x.1,x.2.1,x.2.2,0,0)).bind fun r7 =>
  ((lp zdE zd) (x.1,x.2.1,x.2.2,r7,0)).bind fun r8 =>
  cond (decide (r8<0))
  (some (Sum.inr false))
  (rec (x.1,x.2.1,(IntKind.wrap .i64 (x.2.2+1)))))
 (some (Sum.inl ()))
def zkZ (a0:jI) (a1:jI):Option Bool :=
 ((lp zcI zd) (a0,a1,0)).bind fun r12 =>
 z6 r12
 (fun z13=>some true)
 (fun z14=>some z14)
def zev (rf:((jS×jI×jI)→Option Bool)) (rec:(jS×jR×jR×Int)→Option (Unit⊕Bool)) (x:(jS×jR×jR×Int)):Option (Unit⊕Bool) :=
 cond (decide (x.2.2.2<((List.length x.2.1:Nat):Int)))
 ((gx x.2.1 x.2.2.2).bind fun e20 =>
  (gx x.2.2.1 x.2.2.2).bind fun e21 =>
  (zbd e20 e21).bind fun r22 =>
  cond (!r22)
  ((gx x.2.1 x.2.2.2).bind fun e23 =>
   (gx x.2.2.1 x.2.2.2).bind fun e24 =>
   (rf (x.1,e23,e24)).bind fun r25 =>
   some (Sum.inr r25))
  (rec (x.1,x.2.1,x.2.2.1,(IntKind.wrap .i64 (x.2.2.2+1)))))
 (some (Sum.inl ()))
def zjh (rf:((jS×jI×jI)→Option Bool)) (a0:jS) (a1:jI) (a2:jI):Option Bool :=
 (ziR a0 a1).bind fun r29 =>
 (ziR a0 a2).bind fun r30 =>
 (zkZ a1 a2).bind fun r31 =>
 cond (!r31)
 (some false)
 (cond (decide (r29<r30))
  (some false)
  (cond (decide (r29>r30))
   (cond (decide (r29>r30))
    (some true)
    ((gx a1 0).bind fun e32 =>
     (gx a2 0).bind fun e33 =>
     some (decide (e32>e33))))
   ((gx a1 0).bind fun e34 =>
    (gx a2 0).bind fun e35 =>
    cond (e34 != e35)
    (cond (decide (r29>r30))
     (some true)
     ((gx a1 0).bind fun e36 =>
      (gx a2 0).bind fun e37 =>
      some (decide (e36>e37))))
    ((zcD a1 (some 1) none).bind fun y38 =>
     (zO a0 y38).bind fun r39 =>
     (zcD a2 (some 1) none).bind fun y40 =>
     (zO a0 y40).bind fun r41 =>
     ((lp (zev rf) zd) (a0,r39,r41,0)).bind fun r42 =>
     z6 r42
     (fun z43=>some false)
     (fun z44=>some z44)))))
def zlL (rf:((jS×jI×jI)→Option Bool)):((jS×jI×jI)→Option Bool) :=
 fun (x:(jS×jI×jI))=>zjh rf x.1 x.2.1 x.2.2
def zlG:((jS×jI×jI)→Option Bool):=fun _=>none
def zjy (k:Nat):((jS×jI×jI)→Option Bool):=lpR zlG zlL k
def zmA (a0:jS) (a1:jI) (a2:jI):Option Bool:=(zjy zd) (a0,a1,a2)
def zdg (a0:jS) (a1:jI) (a2:jI):Option Int :=
 (zbd a1 a2).bind fun r4 =>
 cond r4
 (some 1)
 ((zmA a0 a1 a2).bind fun r5 =>
  cond r5
  (some 2)
  ((zmA a0 a2 a1).bind fun r6 =>
   cond r6
   (some 0)
   (some 3)))
def zgG (a0:jS) (a1:Bool) (a2:jI) (a3:Bool) (a4:jI):Option Int :=
 (zdg a0 a2 a4).bind fun r2 =>
 cond (r2 != 1)
 (some r2)
 (cond (a1==a3)
  (some r2)
  (cond a1
   (some 2)
   (some 0)))
def zfj (rec:(jS×jQ×Int×Int)→Option (Unit⊕Bool)) (x:(jS×jQ×Int×Int)):Option (Unit⊕Bool) :=
 cond (decide (x.2.2.2<((List.length x.2.1:Nat):Int)))
 ((gx x.2.1 x.2.2.2).bind fun e4 =>
  (gx x.2.1 x.2.2.1).bind fun e5 =>
  (zgG x.1 e4.1 e4.2 e5.1 e5.2).bind fun r6 =>
  cond (r6==2)
  (some (Sum.inr false))
  (rec (x.1,x.2.1,x.2.2.1,(IntKind.wrap .i64 (x.2.2.2+1)))))
 (some (Sum.inl ()))
def zgY (a0:jS) (a1:jQ) (a2:Int):Option Bool :=
 ((lp zfj zd) (a0,a1,a2,0)).bind fun r10 =>
 z6 r10
 (fun z11=>some true)
 (fun z12=>some z12)
def qO (rec:(jS×Int×jI×Int×jQ×jR×jQ)→Option (Unit⊕Bool)) (x:(jS×Int×jI×Int×jQ×jR×jQ)):Option (Unit⊕Bool) :=
 cond (decide (x.2.2.2.1<x.2.1))
 ((gx x.2.2.2.2.1 x.2.2.2.1).bind fun e15 =>
  (gx x.2.2.2.2.1 x.2.1).bind fun e16 =>
  cond (!(e15.1==e16.1))
  ((gx x.2.2.2.2.1 x.2.2.2.1).bind fun e17 =>
   (zbd e17.2 x.2.2.1).bind fun r18 =>
   cond r18
   (some (Sum.inr true))
   (rec (x.1,x.2.1,x.2.2.1,(IntKind.wrap .i64 (x.2.2.2.1+1)),x.2.2.2.2.1,x.2.2.2.2.2.1,x.2.2.2.2.2.2)))
  (rec (x.1,x.2.1,x.2.2.1,(IntKind.wrap .i64 (x.2.2.2.1+1)),x.2.2.2.2.1,x.2.2.2.2.2.1,x.2.2.2.2.2.2)))
 (some (Sum.inl ()))
def zeB (rec:(jS×Int×jQ×jR×jQ)→Option (Unit⊕Bool)) (x:(jS×Int×jQ×jR×jQ)):Option (Unit⊕Bool) :=
 cond (decide (x.2.1<((List.length x.2.2.1:Nat):Int)))
 ((gx x.2.2.1 x.2.1).bind fun e28 =>
  (gx x.2.2.1 x.2.1).bind fun e29 =>
  cond (!e29.1)
  ((gx e28.2 0).bind fun e30 =>
   cond (e30==0)
   ((zcD e28.2 (some 1) none).bind fun y31 =>
    (zO x.1 y31).bind fun r32 =>
    (inR 0 (List.length r32)).bind fun k33 =>
    (r32[k33]?).bind fun x34 =>
    (inR 1 (List.length r32)).bind fun k35 =>
    (r32[k35]?).bind fun x36 =>
    (zbd x34 x36).bind fun r37 =>
    cond r37
    (some (Sum.inr true))
    (((lp qO zd) (x.1,x.2.1,e28.2,0,x.2.2.1,x.2.2.2.1,x.2.2.2.2)).bind fun r38 =>
     z6 r38
     (fun z39=>rec (x.1,(IntKind.wrap .i64 (x.2.1+1)),x.2.2.1,x.2.2.2.1,x.2.2.2.2))
     (fun z40=>some (Sum.inr z40))))
   (((lp qO zd) (x.1,x.2.1,e28.2,0,x.2.2.1,x.2.2.2.1,x.2.2.2.2)).bind fun r41 =>
    z6 r41
    (fun z42=>rec (x.1,(IntKind.wrap .i64 (x.2.1+1)),x.2.2.1,x.2.2.2.1,x.2.2.2.2))
    (fun z43=>some (Sum.inr z43))))
  (((lp qO zd) (x.1,x.2.1,e28.2,0,x.2.2.1,x.2.2.2.1,x.2.2.2.2)).bind fun r44 =>
   z6 r44
   (fun z45=>rec (x.1,(IntKind.wrap .i64 (x.2.1+1)),x.2.2.1,x.2.2.2.1,x.2.2.2.2))
   (fun z46=>some (Sum.inr z46))))
 (some (Sum.inl ()))
def zns (a0:jS) (a1:jQ) (a2:jR) (a3:jQ):Option Bool :=
 ((lp zeB zd) (a0,0,a1,a2,a3)).bind fun r50 =>
 z6 r50
 (fun z51=>some false)
 (fun z52=>some z52)
def zbM (a0:jS) (a1:Int) (a2:Int) (a3:Int) (a4:Int) (a5:Int) (a6:Int) (a7:Int) (a8:Int) (a9:jQ) (a10:jR) (a11:jQ) (a12:Bool) (a13:Int) (a14:jT):Option (Int×jT) :=
 cond (a13 != 0)
 (some ((IntKind.wrap .i64 (a1+1)),a14))
 (cond a12
  ((zns a0 a9 a10 a11).bind fun r2 =>
   cond (!r2)
   (cond (yQ (List.length a14+List.length ([(a2,a3,a4,a5,a6,a7,a8,a9,a10,a11)]:List jU)) 128)
    (some (a1,(a14++([(a2,a3,a4,a5,a6,a7,a8,a9,a10,a11)]:List jU))))
    (none))
   (some (a1,a14)))
  (some (a1,a14)))
end Go.Abs.Q
namespace Go.Abs.Q
open Go Go.Abs
def qy (s0:jS):List Int→Int→Option Int
 | [],s2=>some s2
 | e::es,s2 =>
  cond (decide (e<0))
  (qy s0 es (IntKind.wrap .i64 (s2+1)))
  ((gx s0 e).bind fun e6 =>
   qy s0 es (IntKind.wrap .i64 (s2+e6.2.2.2)))
theorem zi2 (s0:jS) (s1:jI) (s2:Int) (hl:List.length s1≤maxLen):lp zdN zd (s0,s1,s2,0)=qy s0 s1 s2:=zaT zdN (fun i s2=>(s0,s1,s2,i)) (fun es i s2=>qy s0 es s2) hl (fun r i s2 h=>by unfold zdN qy; simp only[h,cond_false]) (fun r i s2 e es h g w k=>by unfold zdN qy; simp only[h,cond_true,g,Option.bind_some,w,k]) s2
def yO (s2:Int):List Int→Int→Option Int
 | [],s3=>some s3
 | e::es,s3 =>
  cond (e==(IntKind.wrap .i64 ((-1) - s2)))
  (yO s2 es (IntKind.wrap .i64 (s3 - 1)))
  (yO s2 es s3)
theorem zi1 (s0:jI) (s1:jI) (s2:Int) (s3:Int) (hl:List.length s1≤maxLen):lp zdE zd (s0,s1,s2,s3,0)=yO s2 s1 s3:=zaT zdE (fun i s3=>(s0,s1,s2,s3,i)) (fun es i s3=>yO s2 es s3) hl (fun r i s3 h=>by unfold zdE yO; simp only[h,cond_false]) (fun r i s3 e es h g w k=>by unfold zdE yO; simp only[h,cond_true,g,Option.bind_some,w,k]) s3
def yN (s2:Int):List Int→Int→Option Int
 | [],s3=>some s3
 | e::es,s3 =>
  cond (e==(IntKind.wrap .i64 ((-1) - s2)))
  (yN s2 es (IntKind.wrap .i64 (s3+1)))
  (yN s2 es s3)
theorem ziY (s0:jI) (s1:jI) (s2:Int) (s3:Int) (hl:List.length s0≤maxLen):lp zdA zd (s0,s1,s2,s3,0)=yN s2 s0 s3:=zaT zdA (fun i s3=>(s0,s1,s2,s3,i)) (fun es i s3=>yN s2 es s3) hl (fun r i s3 h=>by unfold zdA yN; simp only[h,cond_false]) (fun r i s3 e es h g w k=>by unfold zdA yN; simp only[h,cond_true,g,Option.bind_some,w,k]) s3
def zaJ (rf:((jS×jI×jI)→Option Bool)) (s0:jS) (s2:jR):List jI→Nat→Option (Unit⊕Bool)
 | [],i=>some (Sum.inl ())
 | e::es,i =>
  (gx s2 (i:Int)).bind fun e21 =>
  (zbd e e21).bind fun r22 =>
  cond (!r22)
  ((gx s2 (i:Int)).bind fun e24 =>
   (rf (s0,e,e24)).bind fun r25 =>
   some (Sum.inr r25))
  (zaJ rf s0 s2 es (i+1))
theorem zju (rf:((jS×jI×jI)→Option Bool)) (s0:jS) (s1:jR) (s2:jR) (hl:List.length s1≤maxLen):lp (zev rf) zd (s0,s1,s2,0)=zaJ rf s0 s2 s1 0:=zdO (zev rf) (fun i=>(s0,s1,s2,i)) (fun es i=>zaJ rf s0 s2 es i) hl (fun r i h=>by unfold zev zaJ; simp only[h,cond_false]) (fun r i e es h g w k=>by unfold zev zaJ; simp only[h,cond_true,g,Option.bind_some,w,k])
def zbl (s0:jS) (s1:jQ) (s2:Int):List zc→Option (Unit⊕Bool)
 | []=>some (Sum.inl ())
 | e::es =>
  (gx s1 s2).bind fun e5 =>
  (zgG s0 e.1 e.2 e5.1 e5.2).bind fun r6 =>
  cond (r6==2)
  (some (Sum.inr false))
  (zbl s0 s1 s2 es)
theorem zkq (s0:jS) (s1:jQ) (s2:Int) (hl:List.length s1≤maxLen):lp zfj zd (s0,s1,s2,0)=zbl s0 s1 s2 s1:=zdO zfj (fun i=>(s0,s1,s2,i)) (fun es i=>zbl s0 s1 s2 es) hl (fun r i h=>by unfold zfj zbl; simp only[h,cond_false]) (fun r i e es h g w k=>by unfold zfj zbl; simp only[h,cond_true,g,Option.bind_some,w,k])
def qm (s0:jS) (s2:jQ) (s3:jR) (s4:jQ):List zc→Nat→Option (Unit⊕Bool)
 | [],i=>some (Sum.inl ())
 | e::es,i =>
  cond (!e.1)
  ((gx e.2 0).bind fun e30 =>
   cond (e30==0)
   ((zcD e.2 (some 1) none).bind fun y31 =>
    (zO s0 y31).bind fun r32 =>
    (inR 0 (List.length r32)).bind fun k33 =>
    (r32[k33]?).bind fun x34 =>
    (inR 1 (List.length r32)).bind fun k35 =>
    (r32[k35]?).bind fun x36 =>
    (zbd x34 x36).bind fun r37 =>
    cond r37
    (some (Sum.inr true))
    (((lp qO zd) (s0,(i:Int),e.2,0,s2,s3,s4)).bind fun r38 =>
     z6 r38
     (fun z39=>qm s0 s2 s3 s4 es (i+1))
     (fun z40=>some (Sum.inr z40))))
   (((lp qO zd) (s0,(i:Int),e.2,0,s2,s3,s4)).bind fun r41 =>
    z6 r41
    (fun z42=>qm s0 s2 s3 s4 es (i+1))
    (fun z43=>some (Sum.inr z43))))
  (((lp qO zd) (s0,(i:Int),e.2,0,s2,s3,s4)).bind fun r44 =>
   z6 r44
   (fun z45=>qm s0 s2 s3 s4 es (i+1))
   (fun z46=>some (Sum.inr z46)))
theorem zjC (s0:jS) (s2:jQ) (s3:jR) (s4:jQ) (hl:List.length s2≤maxLen):lp zeB zd (s0,0,s2,s3,s4)=qm s0 s2 s3 s4 s2 0:=zdO zeB (fun i=>(s0,i,s2,s3,s4)) (fun es i=>qm s0 s2 s3 s4 es i) hl (fun r i h=>by unfold zeB qm; simp only[h,cond_false]) (fun r i e es h g w k=>by unfold zeB qm; simp only[h,cond_true,g,Option.bind_some,w,k])
end Go.Abs.Q
namespace Go.Abs.Q
open Go Go.Abs
section
end
end Go.Abs.Q
namespace Go.Abs.Q
open Go Go.Abs
section
theorem zo3 (a0:List zi):(es:List Int)→(s:Int)→qy a0 es s=qi a0 es s
 | [],_=>rfl
 | e::es,s=>by
  unfold qy qi
  rw[zo3 a0 es]
  congr 1
  congr 1
  funext e6
  exact zo3 a0 es _
theorem zs5 (a0:List zi) {r:List Int} (h:r.length≤1000000):ziR a0 r=zgX a0 r:=by
 unfold ziR zgX
 rw[zi2 _ _ _ (by unfold maxLen; omega),zfZ _ _ _ (by unfold maxLen; omega),zo3]
def zkg (r:List Int) (v:Nat):Nat:=r.count (-1 - (v:Int))
theorem zwo (r:List Int) (v:Nat):zkg r v≤r.length:=List.count_le_length
theorem zj0 (c:Int) (r:List Int) (v:Nat):zkg (c::r) v=zkg r v+cond (c == -1 - (v:Int)) 1 0:=by
 unfold zkg
 rw[List.count_cons]
 cases c == -1 - (v:Int)<;>rfl
theorem zo0 {v:Nat} (hv:v<24):(es:List Int)→(s:Int) → -1000000000≤s→s+es.length≤1000000000→yN (v:Int) es s=some (s+(zkg es v:Int))
 | [],s,_,_=>by simp [yN,zkg]
 | e::es,s,h0,h1=>by
  simp only[List.length_cons] at h1
  unfold yN
  have w1:IntKind.wrap .i64 ((-1) - (v:Int)) = -1 - (v:Int):=by rw[zp]<;>omega
  have w2:IntKind.wrap .i64 (s+1)=s+1:=by rw[zp]<;>omega
  rw[w1,w2,zj0]
  cases e == -1 - (v:Int) with
  | true=>rw[cond_true,cond_true,zo0 hv es _ (by omega) (by omega)]; congr 1; omega
  | false=>rw[cond_false,cond_false,zo0 hv es _ (by omega) (by omega)]; congr 1
theorem zpp {v:Nat} (hv:v<24):(es:List Int)→(s:Int) → -1000000000≤s - es.length→s≤1000000000→yO (v:Int) es s=some (s - (zkg es v:Int))
 | [],s,_,_=>by simp [yO,zkg]
 | e::es,s,h0,h1=>by
  simp only[List.length_cons] at h0
  unfold yO
  have w1:IntKind.wrap .i64 ((-1) - (v:Int)) = -1 - (v:Int):=by rw[zp]<;>omega
  have w2:IntKind.wrap .i64 (s - 1)=s - 1:=by rw[zp]<;>omega
  rw[w1,w2,zj0]
  cases e == -1 - (v:Int) with
  | true=>rw[cond_true,cond_true,zpp hv es _ (by omega) (by omega)]; congr 1; omega
  | false=>rw[cond_false,cond_false,zpp hv es _ (by omega) (by omega)]; congr 1
def zkt (a b:List Int) (vs:List Nat):Bool:=vs.all fun v=>decide (zkg b v≤zkg a v)
theorem zzJ {a b:List Int} (ha:a.length≤1000000) (hb:b.length≤1000000):∀(m v k:Nat),24 - v=m→v≤24→m<k→lp zcI k (a,b,(v:Int))=some (cond (zkt a b ((List.range 24).drop v)) (.inl ()) (.inr false)):=by
 intro m
 induction m with
 | zero =>
  intro v k hm hv hk
  obtain⟨k,rfl⟩:∃ k',k=k'+1:=⟨k - 1,by omega⟩
  rw[zj]
  generalize lp zcI k=rec
  unfold zcI
  have:v=24:=by omega
  subst this
  rw[show (List.range 24).drop 24=[] from rfl]
  rfl
 | succ m ih =>
  intro v k hm hv hk
  obtain⟨k,rfl⟩:∃ k',k=k'+1:=⟨k - 1,by omega⟩
  rw[zj]
  have key:=ih (v+1) k (by omega) (by omega) (by omega)
  generalize lp zcI k=rec at key ⊢
  unfold zcI
  have w1:IntKind.wrap .i64 ((v:Int)+1)=((v+1:Nat):Int):=by rw[zp]<;>omega
  have hdr:(List.range 24).drop v=v::(List.range 24).drop (v+1):=by
   rw[List.drop_eq_getElem_cons (by simp; omega)]
   simp
  have hca:=zwo a v
  have hcb:=zwo b v
  simp only[decide_eq_true (show (v:Int)≤23 by omega),cond_true,w1]
  rw[ziY _ _ _ _ (by unfold maxLen; omega),zo0 (by omega) a 0 (by omega) (by omega),Option.bind_some,zi1 _ _ _ _ (by unfold maxLen; omega),zpp (by omega) b _ (by omega) (by omega),Option.bind_some,key,hdr]
  unfold zkt
  rw[List.all_cons]
  by_cases hc:zkg b v≤zkg a v
  ·rw[decide_eq_false (show ¬(0+(zkg a v:Int) - (zkg b v:Int)<0) by omega),cond_false,decide_eq_true hc,Bool.true_and]
  ·rw[decide_eq_true (show 0+(zkg a v:Int) - (zkg b v:Int)<0 by omega),cond_true,decide_eq_false hc,Bool.false_and,cond_false]
theorem zAv {a b:List Int} (ha:a.length≤1000000) (hb:b.length≤1000000):zkZ a b=some (zkt a b (List.range 24)):=by
 unfold zkZ
 have:=zzJ ha hb 24 0 zd rfl (by omega) (by unfold zd; omega)
 rw[show ((0:Nat):Int)=0 from rfl,List.drop_zero] at this
 rw[this]
 cases zkt a b (List.range 24)<;>rfl
theorem zoP:(es:List Int)→(xs:List Int)→(∀ c∈es,-24≤c)→xs.length=24→(∀ v,v<24→0≤xs.getD v 0∧xs.getD v 0+es.length≤1000000000)→∃ ys,yY es xs=some ys∧ys.length=24∧∀ v,v<24→ys.getD v 0=xs.getD v 0+(zkg es v:Int)
 | [],xs,_,hl,_=>⟨xs,rfl,hl,fun v _=>by simp [zkg]⟩
 | c::es,xs,hc,hl,hb=>by
  have hc0:=hc c (List.mem_cons_self ..)
  simp only[List.length_cons] at hb
  unfold yY
  by_cases h0:c<0
  ·obtain⟨u,rfl⟩:∃ u:Nat,c = -1 - (u:Int):=⟨(-1 - c).toNat,by omega⟩
   have hu:u<24:=by omega
   have hbu:=hb u hu
   have hg:xs[u]? = some (xs.getD u 0):=by
    rw[List.getD_eq_getElem?_getD,List.getElem?_eq_getElem (by omega)]
    rfl
   have w1:IntKind.wrap .i64 (xs.getD u 0+1)=xs.getD u 0+1:=by rw[zp]<;>omega
   rw[decide_eq_true h0,cond_true,zbg (by omega) (by omega),Option.bind_some,show -1 - (-1 - (u:Int))=(u:Int) from by omega,yB hu,Option.bind_some,hg,Option.bind_some,Option.bind_some,hg,Option.bind_some,w1]
   obtain⟨ys,g1,g2,g3⟩:=zoP es (xs.set u (xs.getD u 0+1)) (fun d hd=>hc d (List.mem_cons_of_mem _ hd)) (by rw[List.length_set]; exact hl) (fun v hv=>by
    rw[zem (by omega)]
    have:=hb v hv
    split<;>omega)
   refine ⟨ys,g1,g2,fun v hv => ?_⟩
   rw[g3 v hv,zem (by omega),zj0]
   by_cases hvu:v=u
   ·subst hvu
    rw[if_pos rfl,show ((-1 - (v:Int)) == -1 - (v:Int))=true from by simp,cond_true]
    omega
   ·rw[if_neg hvu,show ((-1 - (u:Int)) == -1 - (v:Int))=false from by simp; omega,cond_false]
    omega
  ·rw[decide_eq_false h0,cond_false]
   obtain⟨ys,g1,g2,g3⟩:=zoP es xs (fun d hd=>hc d (List.mem_cons_of_mem _ hd)) hl (fun v hv=>by have:=hb v hv; omega)
   refine ⟨ys,g1,g2,fun v hv => ?_⟩
   rw[g3 v hv,zj0,show (c == -1 - (v:Int))=false from by simp; omega,cond_false]
   omega
theorem ztf {r:List Int} (hl:r.length≤1000000) (hc:∀ c∈r,-24≤c):∃ ys,zfy r=some ys∧ys.length=24∧∀ v,v<24→ys.getD v 0=(zkg r v:Int):=by
 have hz:∀ v,(List.replicate 24 (0:Int)).getD v 0=0:=fun v=>by
  rw[List.getD_eq_getElem?_getD,List.getElem?_replicate]
  split<;>rfl
 obtain⟨ys,g1,g2,g3⟩:=zoP r (List.replicate 24 (0:Int)) hc (by simp) (fun v _=>by rw[hz]; omega)
 refine ⟨ys,?_,g2,fun v hv=>by rw[g3 v hv,hz]; omega⟩
 unfold zfy
 rw[ziF _ _ (by unfold maxLen; omega),g1,Option.bind_some,g2]
 rfl
theorem zt4 {a b xs ys:List Int} (hx:xs.length=24) (hy:ys.length=24) (gx:∀ v,v<24→xs.getD v 0=(zkg a v:Int)) (gy:∀ v,v<24→ys.getD v 0=(zkg b v:Int)):∀(m v k:Nat),24 - v=m→v≤24→m<k→lp zaK k ((v:Int),xs,ys)=some (cond (zkt a b ((List.range 24).drop v)) (.inl ()) (.inr false)):=by
 intro m
 induction m with
 | zero =>
  intro v k hm hv hk
  obtain⟨k,rfl⟩:∃ k',k=k'+1:=⟨k - 1,by omega⟩
  rw[zj]
  generalize lp zaK k=rec
  unfold zaK
  have:v=24:=by omega
  subst this
  rw[show (List.range 24).drop 24=[] from rfl]
  rfl
 | succ m ih =>
  intro v k hm hv hk
  obtain⟨k,rfl⟩:∃ k',k=k'+1:=⟨k - 1,by omega⟩
  rw[zj]
  have key:=ih (v+1) k (by omega) (by omega) (by omega)
  generalize lp zaK k=rec at key ⊢
  unfold zaK
  have w1:IntKind.wrap .i64 ((v:Int)+1)=((v+1:Nat):Int):=by rw[zp]<;>omega
  have hdr:(List.range 24).drop v=v::(List.range 24).drop (v+1):=by
   rw[List.drop_eq_getElem_cons (by simp; omega)]
   simp
  have h1:xs[v]? = some (zkg a v:Int):=by
   rw[← gx v (by omega),List.getD_eq_getElem?_getD,List.getElem?_eq_getElem (by omega)]
   rfl
  have h2:ys[v]? = some (zkg b v:Int):=by
   rw[← gy v (by omega),List.getD_eq_getElem?_getD,List.getElem?_eq_getElem (by omega)]
   rfl
  simp only[decide_eq_true (show (v:Int)<24 by omega),cond_true,w1,yB (show v<24 by omega),Option.bind_some,h1,h2]
  rw[key,hdr]
  unfold zkt
  rw[List.all_cons]
  by_cases hc:zkg b v≤zkg a v
  ·rw[decide_eq_false (show ¬((zkg a v:Int)<(zkg b v:Int)) by omega),cond_false,decide_eq_true hc,Bool.true_and]
  ·rw[decide_eq_true (show (zkg a v:Int)<(zkg b v:Int) by omega),cond_true,decide_eq_false hc,Bool.false_and,cond_false]
theorem zwE {a b:List Int} (ha:a.length≤1000000) (hb:b.length≤1000000) (ca:∀ c∈a,-24≤c) (cb:∀ c∈b,-24≤c):zf2 a b=some (zkt a b (List.range 24)):=by
 obtain⟨xs,h1,h2,h3⟩:=ztf ha ca
 obtain⟨ys,g1,g2,g3⟩:=ztf hb cb
 unfold zf2
 rw[h1,Option.bind_some,g1,Option.bind_some]
 have:=zt4 (a:=a) (b:=b) h2 g2 h3 g3 24 0 zd rfl (by omega) (by unfold zd; omega)
 rw[show ((0:Nat):Int)=0 from rfl,List.drop_zero] at this
 rw[show Nat.beq (List.length (List.replicate 24 (0:Int))) 24=true from by simp,cond_true,cond_true,this]
 cases zkt a b (List.range 24)<;>rfl
end
end Go.Abs.Q
namespace Go.Abs.Q
open Go Go.Abs
section
structure HF (a0:List zi) (a:List Int) (c:Int) (ts:List Tm):Prop where
 eq:a=c::za ts
 ok:okR a0 24 ts
 len:a.length≤1000
 low : -24≤c
 sym:0≤c→∃ e,gx a0 c=some e
theorem zvT {a0:List zi} (hs:SignOk a0) {t:Tm} (ho:t.ok a0 24) (hl:t.codes.length≤1000):∃ c ts,HF a0 t.codes c ts∧(∀ d us u,u=t→u.codes=d::za us→True)∧zaC ts<t.size:=by
 cases t with
 | v n =>
  have hn:n<24:=ho
  exact ⟨-1 - (n:Int),[],⟨rfl,trivial,hl,by omega,fun h=>by omega⟩,fun _ _ _ _ _=>trivial,by simp [zaC,Tm.size]⟩
 | f c as =>
  obtain⟨e,he,-⟩:=zoO hs ho.1
  exact ⟨(c:Int),as,⟨rfl,ho.2,hl,by omega,fun _=>⟨e,he⟩⟩,fun _ _ _ _ _=>trivial,by simp [Tm.size]⟩
mutual
theorem Tm.syms {a0:List zi} (hs:SignOk a0):(t:Tm)→t.ok a0 24→∀ c∈t.codes,-24≤c∧(0≤c→∃ e,gx a0 c=some e)
 | .v n,ho,c,hc=>by
  have hn:n<24:=ho
  have hc:c = -1 - (n:Int):=by simpa[Tm.codes] using hc
  exact ⟨by omega,fun h=>by omega⟩
 | .f d as,ho,c,hc=>by
  rcases List.mem_cons.1 (show c∈(d:Int)::za as from hc) with rfl | hc
  ·obtain⟨e,he,-⟩:=zoO hs ho.1
   exact ⟨by omega,fun _=>⟨e,he⟩⟩
  ·exact zEG hs as ho.2 c hc
theorem zEG {a0:List zi} (hs:SignOk a0):(ts:List Tm)→okR a0 24 ts→∀ c∈za ts,-24≤c∧(0≤c→∃ e,gx a0 c=some e)
 | [],_,_,hc=>by simp [za] at hc
 | t::ts,ho,c,hc=>by
  rcases List.mem_append.1 (show c∈t.codes++za ts from hc) with hc | hc
  ·exact Tm.syms hs t ho.1 c hc
  ·exact zEG hs ts ho.2 c hc
end
theorem HF.syms {a0:List zi} (hs:SignOk a0) {a:List Int} {c:Int} {ts:List Tm} (h:HF a0 a c ts):∀ d∈a,-24≤d∧(0≤d→∃ e,gx a0 d=some e):=fun d hd=>by
 rw[h.eq] at hd
 rcases List.mem_cons.1 hd with rfl | hd
 ·exact ⟨h.low,h.sym⟩
 ·exact zEG hs ts h.ok d hd
theorem zlD {a0:List zi}:(es:List Int)→(s:Int)→(∀ d∈es,-24≤d∧(0≤d→∃ e,gx a0 d=some e))→∃ r,qi a0 es s=some r
 | [],s,_=>⟨s,rfl⟩
 | e::es,s,h=>by
  unfold qi
  have ih:=fun s=>zlD es s fun d hd=>h d (List.mem_cons_of_mem _ hd)
  by_cases h0:e<0
  ·rw[decide_eq_true h0]; exact ih _
  ·obtain⟨x,hx⟩:=(h e (List.mem_cons_self ..)).2 (by omega)
   rw[decide_eq_false h0,cond_false,hx]
   exact ih _
theorem HF.sum {a0:List zi} (hs:SignOk a0) {a:List Int} {c:Int} {ts:List Tm} (h:HF a0 a c ts):∃ r,zgX a0 a=some r:=by
 have:=h.len
 obtain⟨r,hr⟩:=zlD a 0 (h.syms hs)
 refine ⟨r,?_⟩
 unfold zgX
 rw[zfZ _ _ _ (by unfold maxLen; omega),hr]
 rfl
def zi4:List Tm→List Tm→Option (Tm×Tm)
 | t::ts,u::us=>if t.codes=u.codes then zi4 ts us else some (t,u)
 | _,_=>none
theorem zne:{ts us:List Tm}→{p:Tm×Tm}→zi4 ts us=some p→p.1∈ts∧p.2∈us∧p.1.codes≠p.2.codes
 | [],_,_,h=>by cases h
 | _::_,[],_,h=>by cases h
 | t::ts,u::us,p,h=>by
  unfold zi4 at h
  split at h
  ·obtain⟨h1,h2,h3⟩:=zne h
   exact ⟨List.mem_cons_of_mem _ h1,List.mem_cons_of_mem _ h2,h3⟩
  ·rename_i hne
   injection h with h
   subst h
   exact ⟨List.mem_cons_self ..,List.mem_cons_self ..,hne⟩
theorem zmU:{ts us:List Tm}→ts.length=us.length→zi4 ts us=none→za ts=za us
 | [],[],_,_=>rfl
 | [],_::_,h,_=>by simp at h
 | _::_,[],h,_=>by simp at h
 | t::ts,u::us,hl,h=>by
  unfold zi4 at h
  split at h
  ·rename_i he
   show t.codes++za ts=u.codes++za us
   rw[he,zmU (by simpa using hl) h]
  ·cases h
theorem zqW {usA:List Tm} (hsm:∀ t∈usA,t.codes.length≤1000):(ts us:List Tm)→(i:Nat)→usA.drop i=us→ts.length=us.length→(∀ t∈ts,t.codes.length≤1000)→yH (usA.map Tm.codes) (ts.map Tm.codes) i=some (match zi4 ts us with
  | none=>.inl ()
  | some p=>.inr (p.1.codes,p.2.codes))
 | [],[],i,_,_,_=>rfl
 | [],_::_,_,_,h,_=>by simp at h
 | _::_,[],_,_,h,_=>by simp at h
 | t::ts,u::us,i,hd,hl,hsmt=>by
  have hi:=zD hd
  have hg:=zh hd
  have ht:=hsmt t (List.mem_cons_self ..)
  rw[List.map_cons]
  unfold yH zi4
  rw[List.length_map,decide_eq_true (show (i:Int)<(usA.length:Int) by omega),cond_true,yx,List.getElem?_map,hg]
  simp only[Option.map_some,Option.bind_some]
  rw[zbu (by unfold maxLen; omega),Option.bind_some]
  by_cases he:t.codes=u.codes
  ·rw[decide_eq_true he,Bool.not_true,cond_false,if_pos he]
   exact zqW hsm ts us (i+1) (ze hd) (by simpa using hl) fun t h=>hsmt t (List.mem_cons_of_mem _ h)
  ·rw[decide_eq_false he,Bool.not_false,cond_true,if_neg he]
theorem zyd {a0:List zi} {rf:(List zi×List Int×List Int)→Option Bool} {usA:List Tm}:(ts us:List Tm)→(i:Nat)→usA.drop i=us→ts.length=us.length→(∀ t∈ts,t.codes.length≤1000)→zaJ rf a0 (usA.map Tm.codes) (ts.map Tm.codes) i=(match zi4 ts us with
  | none=>some (.inl ())
  | some p=>(rf (a0,p.1.codes,p.2.codes)).bind fun r=>some (.inr r))
 | [],[],i,_,_,_=>rfl
 | [],_::_,_,_,h,_=>by simp at h
 | _::_,[],_,_,h,_=>by simp at h
 | t::ts,u::us,i,hd,hl,hsmt=>by
  have hg:=zh hd
  have ht:=hsmt t (List.mem_cons_self ..)
  rw[List.map_cons]
  unfold zaJ zi4
  rw[yx,List.getElem?_map,hg]
  simp only[Option.map_some,Option.bind_some]
  rw[zhv (by omega),Option.bind_some]
  by_cases he:t.codes=u.codes
  ·rw[decide_eq_true he,Bool.not_true,cond_false,if_pos he]
   exact zyd ts us (i+1) (ze hd) (by simpa using hl) fun t h=>hsmt t (List.mem_cons_of_mem _ h)
  ·rw[decide_eq_false he,Bool.not_false,cond_true,if_neg he]
end
end Go.Abs.Q
namespace Go.Abs.Q
open Go Go.Abs
section
theorem zsO {a0:List zi} (hs:SignOk a0) {t u:Tm} (ht:t.ok a0 24) (hu:u.ok a0 24) (hlt:t.codes.length≤1000) (hlu:u.codes.length≤1000):∃ c ts d us,HF a0 t.codes c ts∧HF a0 u.codes d us∧(c=d→ts.length=us.length):=by
 obtain⟨c,ts,h1,-,-⟩:=zvT hs ht hlt
 obtain⟨d,us,h2,-,-⟩:=zvT hs hu hlu
 have inj:∀{c c':Int} {r r':List Int},c::r=c'::r'→c=c'∧r=r':=fun h=>by injection h with a b; exact ⟨a,b⟩
 refine ⟨c,ts,d,us,h1,h2,fun hcd => ?_⟩
 cases t with
 | v n =>
  obtain⟨e1,e2⟩:=inj (show (-1 - (n:Int))::[]=c::za ts from h1.eq)
  have e3:ts=[]:=zbw (a0:=a0) _ ts [] (Nat.le_refl _) h1.ok trivial e2.symm
  cases u with
  | v m =>
   obtain⟨-,e5⟩:=inj (show (-1 - (m:Int))::[]=d::za us from h2.eq)
   have e6:us=[]:=zbw (a0:=a0) _ us [] (Nat.le_refl _) h2.ok trivial e5.symm
   rw[e3,e6]
  | f q bs =>
   obtain⟨e4,-⟩:=inj (show (q:Int)::za bs=d::za us from h2.eq)
   omega
 | f p as =>
  obtain⟨e1,e2⟩:=inj (show (p:Int)::za as=c::za ts from h1.eq)
  have e3:as=ts:=zbw (a0:=a0) _ as ts (Nat.le_refl _) ht.2 h1.ok e2
  cases u with
  | v m =>
   obtain⟨e4,-⟩:=inj (show (-1 - (m:Int))::[]=d::za us from h2.eq)
   omega
  | f q bs =>
   obtain⟨e4,e5⟩:=inj (show (q:Int)::za bs=d::za us from h2.eq)
   have e6:bs=us:=zbw (a0:=a0) _ bs us (Nat.le_refl _) hu.2 h2.ok e5
   have hpq:p=q:=by omega
   subst hpq
   have h3:=ht.1
   have h4:=hu.1
   rw[h3] at h4
   injection h4 with h4
   rw[← e3,← e6,h4]
theorem zA4 {a0:List zi} (hs:SignOk a0):∀(n:Nat) (a b:List Int) (c d:Int) (ts us:List Tm),a.length≤n→HF a0 a c ts→HF a0 b d us→(c=d→ts.length=us.length)→a≠b→∀ k k',n<k→n<k' →
  ∃(r:Bool) (z:Unit⊕Bool),zjy k (a0,a,b)=some r∧lp zdP k' (a0,a,b)=some z∧z6 z (fun _=>false) (fun x=>x)=r:=by
 intro n
 induction n with
 | zero =>
  intro a b c d ts us hn h
  rw[h.eq] at hn
  simp at hn
 | succ n ih =>
  intro a b c d ts us hn ha hb har hne k k' hk hk'
  obtain⟨k,rfl⟩:∃ q,k=q+1:=⟨k - 1,by omega⟩
  obtain⟨k',rfl⟩:∃ q,k'=q+1:=⟨k' - 1,by omega⟩
  show ∃ r z,zjh (zjy k) a0 a b=some r∧_
  rw[zj]
  have key:=fun a b c d ts us h1 h2 h3 h4 h5=>ih a b c d ts us h1 h2 h3 h4 h5 k k' (by omega) (by omega)
  generalize lp zdP k'=rec at key ⊢
  have la:=ha.len
  have lb:=hb.len
  obtain⟨x,hx⟩:=ha.sum hs
  obtain⟨y,hy⟩:=hb.sum hs
  unfold zjh zdP
  simp only
  have hnn:nn a=some a:=by rw[ha.eq]; rfl
  rw[zs5 a0 (by omega),hx,Option.bind_some,zs5 a0 (by omega),hy,Option.bind_some,zAv (by omega) (by omega),Option.bind_some,hnn,Option.bind_some,Option.bind_some,Bool.not_false,cond_true,
   zwE (by omega) (by omega) (fun e he=>(ha.syms hs e he).1) (fun e he=>(hb.syms hs e he).1),Option.bind_some]
  cases zkt a b (List.range 24) with
  | false=>exact ⟨false,.inl (),rfl,rfl,rfl⟩
  | true =>
   rw[Bool.not_true,cond_false,cond_true]
   simp only[Option.bind_some]
   by_cases hxy:x=y
   ·subst hxy
    rw[decide_eq_false (Int.lt_irrefl x),show (x != x)=false from by simp]
    simp only[cond_false]
    have ga:gx a 0=some c:=by rw[ha.eq]; rfl
    have gb:gx b 0=some d:=by rw[hb.eq]; rfl
    simp only[ga,gb,Option.bind_some]
    by_cases hcd:c=d
    ·subst hcd
     have hl:=har rfl
     rw[show (c != c)=false from by simp,cond_false,cond_false]
     have ea:=ha.eq
     have eb:=hb.eq
     have hlt:(za ts).length+1=a.length:=by rw[ea]; rfl
     have hlu:(za us).length+1=b.length:=by rw[eb]; rfl
     have sa:zcD a (some 1) none=some (za ts):=by rw[ea]; exact zcM _ _
     have sb:zcD b (some 1) none=some (za us):=by rw[eb]; exact zcM _ _
     have ct:∀ t∈ts,t.codes.length≤1000:=fun t h=>by have:=zfc h; omega
     have cu:∀ t∈us,t.codes.length≤1000:=fun t h=>by have:=zfc h; omega
     have cuts1:=z1 ts ha.ok
     have cuts2:=z1 us hb.ok
     have lts:=zeW cuts1
     have lus:=zeW cuts2
     rw[List.length_map] at lts lus
     have pa:=zbb hs (a1:=za ts) (by omega) cuts1
     have pb:=zbb hs (a1:=za us) (by omega) cuts2
     have ta:=zcb hs (a1:=za ts) (by omega) cuts1
     have tb:=zcb hs (a1:=za us) (by omega) cuts2
     unfold zh5
     simp only[sa,sb,pa,pb,ta,tb,Option.bind_some]
     rw[zhH _ _ (by rw[List.length_map]; unfold maxLen; omega),zqW cu ts us 0 rfl hl ct,Option.bind_some,
      zju _ _ _ _ (by rw[List.length_map]; unfold maxLen; omega),zyd ts us 0 rfl hl ct]
     cases hf:zi4 ts us with
     | none =>
      exfalso
      exact hne (by rw[ea,eb,zmU hl hf])
     | some p =>
      obtain⟨q1,q2,q3⟩:=zne hf
      obtain⟨c1,ts1,d1,us1,f1,f2,f3⟩:=zsO hs (zcp.1 ha.ok _ q1) (zcp.1 hb.ok _ q2) (ct _ q1) (cu _ q2)
      have:=zfc q1
      obtain⟨r,z,g1,g2,g3⟩:=key p.1.codes p.2.codes c1 d1 ts1 us1 (by omega) f1 f2 f3 q3
      refine ⟨r,z,?_,g2,g3⟩
      simp only
      rw[g1]
      rfl
    ·rw[show (c != d)=true from by simp [hcd],cond_true,cond_true]
     exact ⟨decide (c>d),.inr (decide (c>d)),rfl,rfl,rfl⟩
   ·rw[show (x != y)=true from by simp [hxy],cond_true]
    by_cases hlt:x<y
    ·rw[decide_eq_true hlt,cond_true]
     refine ⟨false,.inr (decide (x>y)),rfl,rfl,?_⟩
     rw[decide_eq_false (show ¬ x>y by omega)]
     rfl
    ·rw[decide_eq_false hlt,cond_false,decide_eq_true (show x>y by omega),cond_true]
     exact ⟨true,.inr true,rfl,rfl,rfl⟩
end
end Go.Abs.Q
namespace Go.Abs.Q
open Go Go.Abs
section
theorem zzj {a0:List zi} (hs:SignOk a0) {a b:List Int} {c d:Int} {ts us:List Tm} (ha:HF a0 a c ts) (hb:HF a0 b d us) (har:c=d→ts.length=us.length) (hne:a≠b):∃ r,zmA a0 a b=some r∧zaz a0 a b=some r:=by
 have la:=ha.len
 obtain⟨r,z,h1,h2,h3⟩:=zA4 hs a.length a b c d ts us (Nat.le_refl _) ha hb har hne zd zd (by unfold zd; omega) (by unfold zd; omega)
 refine ⟨r,h1,?_⟩
 unfold zaz
 rw[h2,Option.bind_some,← h3]
 cases z<;>rfl
def zk4 (a0:List zi) (a b:List Int):Option (Int×Int) :=
 (yj a b).bind fun r34=>cond r34 (some (1,0)) ((zaz a0 a b).bind fun r35=>cond r35 (some (2,0)) ((zaz a0 b a).bind fun r36=>cond r36 (some (0,0)) (some (3,0))))
theorem ztv {a0:List zi} (hs:SignOk a0) {a b:List Int} {c d:Int} {ts us:List Tm} (ha:HF a0 a c ts) (hb:HF a0 b d us) (har:c=d→ts.length=us.length):∃ k,zdg a0 a b=some k∧zk4 a0 a b=some (k,0):=by
 have la:=ha.len
 unfold zdg zk4
 rw[zhv (by omega),Option.bind_some,zbu (by unfold maxLen; omega),Option.bind_some]
 by_cases he:a=b
 ·rw[decide_eq_true he]; exact ⟨1,rfl,rfl⟩
 ·rw[decide_eq_false he,cond_false,cond_false]
  obtain⟨r,h1,h2⟩:=zzj hs ha hb har he
  rw[h1,h2,Option.bind_some,Option.bind_some]
  cases r with
  | true=>exact ⟨2,rfl,rfl⟩
  | false =>
   obtain⟨r',g1,g2⟩:=zzj hs hb ha (fun h=>(har h.symm).symm) (Ne.symm he)
   rw[cond_false,cond_false,g1,g2,Option.bind_some,Option.bind_some]
   cases r' with
   | true=>exact ⟨0,rfl,rfl⟩
   | false=>exact ⟨3,rfl,rfl⟩
theorem zln (a0:List zi) (xs:List Int):∃ b,zc0 a0 xs=some b:=by
 unfold zc0
 rw[zek,Option.bind_some]
 cases zbS a0 xs with
 | none=>exact ⟨_,rfl⟩
 | some ps=>exact ⟨_,rfl⟩
theorem zzE {a0:List zi} {a b:List Int} (ha:qz a0 a=true) (hb:qz a0 b=true):∃ c ts d us,HF a0 a c ts∧HF a0 b d us∧(c=d→ts.length=us.length):=by
 obtain⟨c,ts,e,rfl,ho,he,-,hl,h48,-⟩:=zeA ha
 obtain⟨d,us,e',rfl,ho',he',-,hl',h48',-⟩:=zeA hb
 refine ⟨c,ts,d,us,⟨rfl,ho,by simp only[List.length_cons]; omega,by omega,fun _=>⟨e,by rw[yx,he]⟩⟩,⟨rfl,ho',by simp only[List.length_cons]; omega,by omega,fun _=>⟨e',by rw[yx,he']⟩⟩,fun h => ?_⟩
 have:c=d:=by omega
 rw[this,he'] at he
 injection he with he
 rw[he] at hl'
 omega
theorem zpq {a0:List zi} (hs:SignOk a0) {a b:List Int} (ha:qz a0 a=true) (hb:qz a0 b=true):∃ k,zdg a0 a b=some k∧zba a0 a b=some (k,0):=by
 obtain⟨c,ts,d,us,h1,h2,h3⟩:=zzE ha hb
 obtain⟨k,g1,g2⟩:=ztv hs h1 h2 h3
 refine ⟨k,g1,?_⟩
 rw[← g2]
 obtain⟨b1,e1⟩:=zln a0 a
 obtain⟨b2,e2⟩:=zln a0 b
 unfold zba
 rw[e1,Option.bind_some,e2,zcT,ha,zcT,hb]
 cases b1<;>cases b2<;>rfl
theorem zoM {a0:List zi} (hs:SignOk a0) {t u:Tm} (ht:t.ok a0 24) (hu:u.ok a0 24) (hlt:t.codes.length≤1000) (hlu:u.codes.length≤1000):∃ k,zdg a0 t.codes u.codes=some k∧zk4 a0 t.codes u.codes=some (k,0):=by
 obtain⟨c,ts,d,us,h1,h2,h3⟩:=zsO hs ht hu hlt hlu
 exact ztv hs h1 h2 h3
end
end Go.Abs.Q
namespace Go.Abs.Q
open Go Go.Abs
section
theorem zmZ (a0:List zi) (n:Bool) (r:List Int):zg3 a0 n r=some (qz a0 r):=by
 unfold zg3
 rw[zcT]
 rfl
theorem zxZ {a0:List zi} (hs:SignOk a0) {l k:zc} (hl:qz a0 l.2=true) (hk:qz a0 k.2=true):∃ w,zgG a0 l.1 l.2 k.1 k.2=some w∧zg7 a0 l.1 l.2 k.1 k.2=some (w,0):=by
 obtain⟨w,h1,h2⟩:=zpq hs hl hk
 unfold zgG zg7
 rw[h1,Option.bind_some,zmZ,hl,Option.bind_some,Bool.not_true,cond_false,zmZ,hk,Option.bind_some,Bool.not_true,cond_false,h2,Option.bind_some]
 simp only
 cases w != 1 with
 | true=>exact ⟨w,rfl,rfl⟩
 | false =>
  rw[cond_false,cond_false]
  cases l.1==k.1 with
  | true=>exact ⟨w,rfl,rfl⟩
  | false =>
   rw[cond_false,cond_false]
   cases l.1 with
   | true=>exact ⟨2,rfl,rfl⟩
   | false=>exact ⟨0,rfl,rfl⟩
def zql (a0:List zi) (l k:zc):Bool:=(zgG a0 l.1 l.2 k.1 k.2).getD 0==2
def zhM (a0:List zi) (L:List zc) (k:zc):Bool:=L.any fun l=>zql a0 l k
theorem zpw {a0:List zi} (hs:SignOk a0) {k:zc} (hk:qz a0 k.2=true):(es:List zc)→(i:Nat)→(∀ l∈es,qz a0 l.2=true)→∃ z,zU a0 k.1 k.2 es i=some z∧z6 z (fun _=>decide ((-1:Int)≥0)) (fun j=>decide (j≥0))=es.any fun l=>zql a0 l k
 | [],i,_=>⟨.inl (),rfl,rfl⟩
 | e::es,i,h=>by
  obtain⟨w,h1,h2⟩:=zxZ hs (h e (List.mem_cons_self ..)) hk
  obtain⟨z,g1,g2⟩:=zpw hs hk es (i+1) fun l hl=>h l (List.mem_cons_of_mem _ hl)
  unfold zU zg9
  have ho:zql a0 e k=(w==2):=by unfold zql; rw[h1]; rfl
  rw[h2,Option.bind_some,Option.bind_some,List.any_cons,ho]
  simp only
  cases w==2 with
  | true =>
   refine ⟨.inr (i:Int),rfl,?_⟩
   show decide ((i:Int)≥0)=_
   rw[decide_eq_true (show (i:Int)≥0 by omega)]
   rfl
  | false=>exact ⟨z,g1,g2⟩
theorem zpE {a0:List zi} (hs:SignOk a0) {L:List zc} {k:zc} (hL:∀ l∈L,qz a0 l.2=true) (hk:qz a0 k.2=true) (hl:L.length≤1000):qX L a0 k.1 k.2=some (zhM a0 L k):=by
 unfold qX zdw
 obtain⟨z,g1,g2⟩:=zpw hs hk L 0 hL
 rw[ze9 _ _ _ _ (by unfold maxLen; omega),g1,Option.bind_some]
 unfold zhM
 rw[← g2]
 cases z<;>rfl
theorem zvc {a0:List zi} (hs:SignOk a0) {L:List zc} {i:Int} {k:zc} (hi:gx L i=some k) (hk:qz a0 k.2=true):(es:List zc)→(∀ l∈es,qz a0 l.2=true)→zbl a0 L i es=some (cond (es.any fun l=>zql a0 l k) (.inr false) (.inl ()))
 | [],_=>rfl
 | e::es,h=>by
  obtain⟨w,h1,h2⟩:=zxZ hs (h e (List.mem_cons_self ..)) hk
  unfold zbl
  have ho:zql a0 e k=(w==2):=by unfold zql; rw[h1]; rfl
  rw[hi,Option.bind_some,h1,Option.bind_some,List.any_cons,ho,zvc hs hi hk es fun l hl=>h l (List.mem_cons_of_mem _ hl)]
  cases w==2<;>rfl
theorem zrV {a0:List zi} (hs:SignOk a0) {L:List zc} {i:Int} {k:zc} (hi:gx L i=some k) (hL:∀ l∈L,qz a0 l.2=true) (hl:L.length≤1000):zgY a0 L i=some (!zhM a0 L k):=by
 unfold zgY zhM
 rw[zkq _ _ _ (by unfold maxLen; omega),zvc hs hi (hL k (zeT hi)) L hL,Option.bind_some]
 cases L.any fun l=>zql a0 l k<;>rfl
def zl (a0:List zi) (L:List zc):List zc→Nat→List Int
 | [],_=>[]
 | e::es,i=>cond (zhM a0 L e) (zl a0 L es (i+1)) ((i:Int)::zl a0 L es (i+1))
theorem zsq {a0:List zi} (hs:SignOk a0) {L:List zc} (hL:∀ l∈L,qz a0 l.2=true) (hl:L.length≤1000):(es:List zc)→(i:Nat)→(out:List Int)→(∀ l∈es,l∈L)→out.length+es.length≤100000→qJ L a0 es i out=some (out++zl a0 L es i)
 | [],i,out,_,_=>by simp [qJ,zl]
 | e::es,i,out,h,hlen=>by
  simp only[List.length_cons] at hlen
  unfold qJ zl
  rw[zpE hs hL (hL e (h e (List.mem_cons_self ..))) hl,Option.bind_some]
  cases zhM a0 L e with
  | true=>rw[Bool.not_true,cond_false,cond_true,zsq hs hL hl es (i+1) out (fun l hl=>h l (List.mem_cons_of_mem _ hl)) (by omega)]
  | false =>
   rw[Bool.not_false,cond_true,cond_false,zq (by simp; omega),cond_true,zsq hs hL hl es (i+1) _ (fun l hl=>h l (List.mem_cons_of_mem _ hl)) (by simp; omega)]
   simp
theorem zp2 {a0:List zi}:(es:List zc)→(i:Nat)→(∀ l∈es,qz a0 l.2=true)→zS a0 es i=some (.inl ())
 | [],i,_=>rfl
 | e::es,i,h=>by
  unfold zS zhb
  rw[zmZ,h e (List.mem_cons_self ..),Option.bind_some,Option.bind_some,Bool.not_true,cond_false]
  exact zp2 es (i+1) fun l hl=>h l (List.mem_cons_of_mem _ hl)
theorem zsp {a0:List zi} (hb:zdp a0=true) {L:List zc} (hL:∀ l∈L,qz a0 l.2=true) (hl:L.length≤1000):ziG a0 L=some (0,zl a0 L L 0):=by
 have hs:=zbW hb
 unfold ziG zcx zdr
 rw[zjv,hb,Option.bind_some,Bool.not_true,cond_false,zeU _ _ (by unfold maxLen; omega),zp2 L 0 hL,Option.bind_some,zkv _ _ _ _ (by unfold maxLen; omega),zsq hs hL hl L 0 [] (fun _ h=>h) (by simp; omega)]
 rfl
end
end Go.Abs.Q
namespace Go.Abs.Q
open Go Go.Abs
section
def zi3 (l e:zc):Bool:=(l.1 != e.1)&&decide (l.2=e.2)
theorem zq7 (l e:zc):zi3 l e=zi3 e l:=by
 unfold zi3
 rw[Bool.eq_iff_iff]
 simp only[Bool.and_eq_true,decide_eq_true_iff,bne_iff_ne]
 exact ⟨fun h=>⟨Ne.symm h.1,h.2.symm⟩,fun h=>⟨Ne.symm h.1,h.2.symm⟩⟩
theorem znv (e:zc):(es:List zc)→(i:Nat)→(∀ l∈es,l.2.length≤1000)→e.2.length≤1000→∃ z,zR e.1 e.2 es i=some z∧z6 z (fun _=>decide ((-1:Int)≥0)) (fun j=>decide (j≥0))=es.any fun l=>zi3 l e
 | [],i,_,_=>⟨.inl (),rfl,rfl⟩
 | l::es,i,h,he=>by
  obtain⟨z,g1,g2⟩:=znv e es (i+1) (fun l hl=>h l (List.mem_cons_of_mem _ hl)) he
  unfold zR zcG
  rw[List.any_cons]
  have hc:zi3 l e=(!(e.1==l.1)&&decide (e.2=l.2)):=by rw[zq7]; rfl
  cases hb : !(e.1==l.1) with
  | false =>
   rw[hb] at hc
   rw[cond_false,Option.bind_some,cond_false,hc,Bool.false_and,Bool.false_or]
   exact ⟨z,g1,g2⟩
  | true =>
   rw[hb] at hc
   rw[cond_true,zbu (by unfold maxLen; omega),Option.bind_some,Option.bind_some,hc,Bool.true_and]
   cases decide (e.2=l.2) with
   | true =>
    refine ⟨.inr (i:Int),rfl,?_⟩
    show decide ((i:Int)≥0)=_
    rw[decide_eq_true (show (i:Int)≥0 by omega)]
    rfl
   | false=>exact ⟨z,g1,g2⟩
theorem zpN {L:List zc} {e:zc} (h:∀ l∈L,l.2.length≤1000) (he:e.2.length≤1000) (hl:L.length≤1000):qM L e.1 e.2=some (L.any fun l=>zi3 l e):=by
 unfold qM zdC
 obtain⟨z,g1,g2⟩:=znv e L 0 h he
 rw[zfa _ _ _ (by unfold maxLen; omega),g1,Option.bind_some,← g2]
 cases z<;>rfl
theorem zEo {a0:List zi} {L:List zc} {T:List jI} {C:List zc} {i:Nat} {e:zc} (hi:L[i]? = some e) (h:∀ l∈L,l.2.length≤1000) (hl:L.length≤1000):∀(m j k:Nat),i - j=m→j≤i→m<k →
  lp qO k (a0,(i:Int),e.2,(j:Int),L,T,C)=some (cond (((L.take i).drop j).any fun l=>zi3 l e) (.inr true) (.inl ())):=by
 have hil:=(List.getElem?_eq_some_iff.1 hi).1
 intro m
 induction m with
 | zero =>
  intro j k hm hj hk
  obtain⟨k,rfl⟩:∃ k',k=k'+1:=⟨k - 1,by omega⟩
  rw[zj]
  generalize lp qO k=rec
  unfold qO
  have:j=i:=by omega
  subst this
  rw[decide_eq_false (show ¬(j:Int)<(j:Int) by omega),cond_false,List.drop_of_length_le (by simp; omega)]
  rfl
 | succ m ih =>
  intro j k hm hj hk
  obtain⟨k,rfl⟩:∃ k',k=k'+1:=⟨k - 1,by omega⟩
  rw[zj]
  have key:=ih (j+1) k (by omega) (by omega) (by omega)
  generalize lp qO k=rec at key ⊢
  unfold qO
  have w1:IntKind.wrap .i64 ((j:Int)+1)=((j+1:Nat):Int):=by rw[zp]<;>omega
  obtain⟨l,hlj⟩:∃ l,L[j]? = some l:=⟨_,List.getElem?_eq_getElem (by omega)⟩
  have hlm:=h l (List.mem_of_getElem? hlj)
  have hd:(L.take i).drop j=l::(L.take i).drop (j+1):=by
   rw[List.drop_eq_getElem_cons (by simp; omega)]
   congr 1
   rw[List.getElem_take]
   exact (List.getElem?_eq_some_iff.1 hlj).2
  simp only[decide_eq_true (show (j:Int)<(i:Int) by omega),cond_true,yx,hlj,hi,Option.bind_some,w1]
  rw[hd,List.any_cons,key]
  have hc:zi3 l e=(!(l.1==e.1)&&decide (l.2=e.2)):=rfl
  cases hb : !(l.1==e.1) with
  | false =>
   rw[hb] at hc
   rw[cond_false,hc,Bool.false_and,Bool.false_or]
  | true =>
   rw[hb] at hc
   rw[cond_true,zhv (by omega),Option.bind_some,hc,Bool.true_and]
   cases decide (l.2=e.2)<;>rfl
end
end Go.Abs.Q
namespace Go.Abs.Q
open Go Go.Abs
section
def znK (a0:List zi) (e:zc):Bool:=(zbI a0 e.1 e.2).getD false
theorem zqo {a0:List zi} (hs:SignOk a0) {e:zc} (h:qz a0 e.2=true):zbI a0 e.1 e.2=some (znK a0 e)∧∀ X Y:Option (Unit⊕Bool),
  (cond (!e.1) ((gx e.2 0).bind fun e30=>cond (e30==0) ((zcD e.2 (some 1) none).bind fun y31=>(zO a0 y31).bind fun r32=>(inR 0 (List.length r32)).bind fun k33=>(r32[k33]?).bind fun x34=>(inR 1 (List.length r32)).bind fun k35=>(r32[k35]?).bind fun x36=>(zbd x34 x36).bind fun r37=>cond r37 X Y) Y) Y)=cond (znK a0 e) X Y:=by
 obtain⟨n,r⟩:=e
 obtain⟨c,ts,q,hr,ho,hq,-,hl,h48,-⟩:=zeA h
 have hr:r=(c:Int)::za ts:=hr
 subst hr
 unfold znK zbI
 cases n with
 | true=>exact ⟨rfl,fun X Y=>rfl⟩
 | false =>
  simp only[cond_false,Bool.not_false,cond_true,qf,List.getElem?_cons_zero,Option.bind_some]
  by_cases hc:c=0
  ·subst hc
   have h2:ts.length=2:=by
    rw[hs.eq] at hq
    injection hq with hq
    subst hq
    have:((ts.length:Nat):Int)=2:=hl
    omega
   obtain⟨t1,t2,rfl⟩:∃ t1 t2,ts=[t1,t2]:=by
    match ts,h2 with
    | [t1,t2],_=>exact ⟨t1,t2,rfl⟩
   have hcut:=z1 [t1,t2] ho
   have l1:t1.codes.length≤1000:=by
    have h9:t1.codes.length≤(za [t1,t2]).length:=zfc (List.mem_cons_self ..)
    exact Nat.le_trans h9 (Nat.le_trans h48 (by decide))
   have e8:=zcb hs (a1:=za [t1,t2]) (Nat.le_trans h48 (by decide)) hcut
   have e9:=zbb hs (a1:=za [t1,t2]) (Nat.le_trans h48 (by decide)) hcut
   have s8:zcD (((0:Nat):Int)::za [t1,t2]) (some 1) none=some (za [t1,t2]):=zcM _ _
   rw[List.map_cons,List.map_cons,List.map_nil] at e8 e9
   generalize za [t1,t2]=row at e8 e9 s8 ⊢
   generalize t1.codes=p1 at l1 e8 e9
   generalize t2.codes=p2 at e8 e9
   have q1:yj p1 p2=some (decide (p1=p2)):=zbu (Nat.le_trans l1 (by decide))
   have q2:zbd p1 p2=some (decide (p1=p2)):=zhv (Nat.le_trans l1 (by decide))
   have i0:inR 0 (List.length [p1,p2])=some 0:=rfl
   have i1:inR 1 (List.length [p1,p2])=some 1:=rfl
   have g0:[p1,p2][0]? = some p1:=rfl
   have g1:[p1,p2][1]? = some p2:=rfl
   rw[show ((((0:Nat):Int)) != 0)=false from rfl,cond_false,show ((((0:Nat):Int))==0)=true from rfl]
   simp only[s8,Option.bind_some,e8,e9,cond_true,i0,i1,g0,g1,q1,q2,Option.getD_some,implies_true,and_self]
  ·rw[show ((c:Int) != 0)=true from by simp [hc],show ((c:Int)==0)=false from by simp [hc]]
   simp only[cond_true,cond_false,Option.getD_some,implies_true,and_self]
def zqI (a0:List zi) (L:List zc):Bool:=L.any fun e=>znK a0 e||L.any fun l=>zi3 l e
theorem zog {a0:List zi} (hs:SignOk a0) {L:List zc} (hL:∀ l∈L,l.2.length≤1000) (hl:L.length≤1000):(es:List zc)→(∀ l∈es,qz a0 l.2=true)→yE a0 L es=some (cond (es.any fun e=>znK a0 e||L.any fun l=>zi3 l e) (.inr (true,0)) (.inl ()))
 | [],_=>rfl
 | e::es,h=>by
  have he:=h e (List.mem_cons_self ..)
  have hel:=zcQ he
  unfold yE
  rw[(zqo hs he).1,Option.bind_some,zpN hL (by omega) hl,List.any_cons,zog hs hL hl es fun l hl=>h l (List.mem_cons_of_mem _ hl)]
  cases znK a0 e with
  | true=>rfl
  | false =>
   rw[cond_false,Option.bind_some,Bool.false_or]
   cases L.any fun l=>zi3 l e<;>rfl
theorem zoe {a0:List zi} {L:List zc} {T:List jI} {C:List zc} (h:zb5 a0 L T C=true):zcc a0 L T C=some (zqI a0 L,0):=by
 have hs:=zbW (zv h).1
 obtain⟨l1,-,-,-⟩:=znr hs h
 obtain⟨-,-,-,-,l4,-,-,-⟩:=zv h
 have hA:∀ l∈L,qz a0 l.2=true:=fun l hl=>List.all_eq_true.1 l4 l hl
 unfold zcc
 rw[zK,h,Option.bind_some,Bool.not_true,cond_false,zgL _ _ _ _ _ (by unfold maxLen; omega),zog hs (fun l hl=>by have:=zcQ (hA l hl); omega) (by omega) L hA,Option.bind_some]
 unfold zqI
 cases L.any fun e=>znK a0 e||L.any fun l=>zi3 l e<;>rfl
def zr8 (a0:List zi) (L:List zc):List zc→Nat→Bool
 | [],_=>false
 | e::es,i=>znK a0 e||((L.take i).any (fun l=>zi3 l e)||zr8 a0 L es (i+1))
theorem zyz {a0:List zi} (hs:SignOk a0) {L:List zc} {T:List jI} {C:List zc} (hA:∀ l∈L,qz a0 l.2=true) (hl:L.length≤1000):(es:List zc)→(i:Nat)→L.drop i=es→qm a0 L T C es i=some (cond (zr8 a0 L es i) (.inr true) (.inl ()))
 | [],i,_=>rfl
 | e::es,i,hd=>by
  have hg:=zh hd
  have hi:=zD hd
  have he:=hA e (List.mem_of_getElem? hg)
  unfold qm zr8
  rw[(zqo hs he).2]
  cases znK a0 e with
  | true=>rfl
  | false =>
   have:=zEo (a0:=a0) (T:=T) (C:=C) hg (fun l hl=>by have:=zcQ (hA l hl); omega) hl i 0 zd rfl (by omega) (by unfold zd; omega)
   rw[show ((0:Nat):Int)=0 from rfl,List.drop_zero] at this
   rw[cond_false,this,Option.bind_some,Bool.false_or]
   cases (L.take i).any fun l=>zi3 l e with
   | true=>rfl
   | false =>
    rw[Bool.false_or]
    exact zyz hs hA hl es (i+1) (ze hd)
theorem zqs {a0:List zi} {L:List zc}:(es:List zc)→(i:Nat)→(zr8 a0 L es i=true↔∃(k:Nat) (e:zc),es[k]? = some e∧(znK a0 e=true∨∃ l∈L.take (i+k),zi3 l e=true))
 | [],i=>by simp [zr8]
 | e::es,i=>by
  unfold zr8
  rw[Bool.or_eq_true,Bool.or_eq_true,List.any_eq_true,zqs es (i+1)]
  constructor
  ·rintro (h | h | ⟨k,e',h1,h2⟩)
   ·exact ⟨0,e,rfl,.inl h⟩
   ·exact ⟨0,e,rfl,.inr h⟩
   ·exact ⟨k+1,e',by simpa using h1,by rw[show i+(k+1)=i+1+k from by omega]; exact h2⟩
  ·rintro⟨k,e',h1,h2⟩
   cases k with
   | zero =>
    have:e=e':=by simpa using h1
    subst this
    rcases h2 with h2 | h2
    ·exact .inl h2
    ·exact .inr (.inl h2)
   | succ k=>exact .inr (.inr ⟨k,e',by simpa using h1,by rw[show i+1+k=i+(k+1) from by omega]; exact h2⟩)
theorem zy7 {a0:List zi} {L:List zc}:zr8 a0 L L 0=zqI a0 L:=by
 rw[Bool.eq_iff_iff,zqs]
 unfold zqI
 rw[List.any_eq_true]
 constructor
 ·rintro⟨k,e,h1,h2⟩
  refine ⟨e,List.mem_of_getElem? h1,?_⟩
  rw[Bool.or_eq_true]
  rcases h2 with h2 | ⟨l,h2,h3⟩
  ·exact .inl h2
  ·exact .inr (List.any_eq_true.2 ⟨l,List.mem_of_mem_take h2,h3⟩)
 ·rintro⟨e,he,h⟩
  obtain⟨k,hk,hke⟩:=List.mem_iff_getElem.1 he
  have hg:L[k]? = some e:=by rw[List.getElem?_eq_getElem hk,hke]
  rcases Bool.or_eq_true _ _ |>.mp h with h | h
  ·exact ⟨k,e,hg,.inl h⟩
  ·obtain⟨l,hl,hc⟩:=List.any_eq_true.1 h
   obtain⟨j,hj,hjl⟩:=List.mem_iff_getElem.1 hl
   have hgj:L[j]? = some l:=by rw[List.getElem?_eq_getElem hj,hjl]
   have mem:∀{a b:Nat} {x:zc},L[a]? = some x→a<b→x∈L.take b:=fun {a b x} hx hab=>List.mem_of_getElem? (i:=a) (by rw[List.getElem?_take,if_pos hab]; exact hx)
   rcases Nat.lt_trichotomy j k with hjk | hjk | hjk
   ·exact ⟨k,e,hg,.inr ⟨l,by rw[Nat.zero_add]; exact mem hgj hjk,hc⟩⟩
   ·exfalso
    rw[hjk,hg] at hgj
    injection hgj with hgj
    rw[hgj] at hc
    simp [zi3] at hc
   ·exact ⟨j,l,hgj,.inr ⟨e,by rw[Nat.zero_add]; exact mem hg hjk,by rw[zq7]; exact hc⟩⟩
theorem zym {a0:List zi} {L:List zc} {T:List jI} {C:List zc} (h:zb5 a0 L T C=true):zns a0 L T C=some (zqI a0 L):=by
 have hs:=zbW (zv h).1
 obtain⟨l1,-,-,-⟩:=znr hs h
 obtain⟨-,-,-,-,l4,-,-,-⟩:=zv h
 have hA:∀ l∈L,qz a0 l.2=true:=fun l hl=>List.all_eq_true.1 l4 l hl
 unfold zns
 rw[zjC _ _ _ _ (by unfold maxLen; omega),zyz hs hA (by omega) L 0 rfl,Option.bind_some,zy7]
 cases zqI a0 L<;>rfl
end
end Go.Abs.Q
namespace Go.Abs.Q
open Go Go.Abs
section
theorem zoR (a0:List zi) (L:List zc) (T:List jI) (C:List zc):∃ t,zcc a0 L T C=some t:=by
 cases h:zb5 a0 L T C with
 | true=>exact ⟨_,zoe h⟩
 | false =>
  refine ⟨(false,800),?_⟩
  unfold zcc
  rw[zK,h]
  rfl
theorem zsI (sig:List zi) (r a i s b j t:Int) (o1:List zc) (o2:List jI) (o3:List zc) (xL:List zc) (xT:List jI) (xC:List zc) (ok:Bool) (err left:Int) (steps:List (Int×Int×Int×Int×Int×Int×Int×List zc×List jI×List zc)) (h:ok=true→err=0→zb5 sig xL xT xC=true) :
  zM r a i s b j t o1 o2 o3 xL xT xC ok err sig left steps=(zbM sig left r a i s b j t xL xT xC ok err steps).map fun q=>(sig,q.1,q.2):=by
 unfold zM zbM
 by_cases he:err=0
 ·rw[show (err != 0)=false from by simp [he],cond_false,cond_false]
  cases ok with
  | false =>
   obtain⟨q,hq⟩:=zoR sig xL xT xC
   rw[hq]
   rfl
  | true =>
   have hm:=h rfl he
   rw[zoe hm,Option.bind_some,zym hm,Bool.not_true,cond_false,cond_true,Option.bind_some]
   simp only
   cases zqI sig xL with
   | true=>rfl
   | false =>
    rw[cond_false,Bool.not_false,cond_true]
    generalize yQ _ 128=q
    cases q<;>rfl
 ·rw[show (err != 0)=true from by simp [he]]
  rfl
end
end Go.Abs.Q
namespace Go.Abs.Q
open Go Go.Abs
end Go.Abs.Q
namespace Go.Abs.Q
open Go Go.Abs
section
def zov (L:List zc) (T:List jI) (C:List zc):Prop:=qZ L T C L T C=some true
theorem zuL:zov [] [] []:=by
 unfold zov
 exact zeS (by simp) (by simp) (by simp) (by simp) (by simp) (by simp)
theorem zAS {a0:List zi} {L:List zc} {T:List jI} {C:List zc} (h:zb5 a0 L T C=true):zb5 a0 (zc1 L T C).1 (zc1 L T C).2.1 (zc1 L T C).2.2=true:=by
 obtain⟨Lt,Tt,Ct,rfl,rfl,rfl,hL,hT,hC⟩:=zpk h
 obtain⟨L1,T1,C1,ρ,e,-,-,-,hm,-⟩:=zmX h hL hT hC
 rw[e]
 exact hm
def OkR (a0:List zi) (o:Option zmq):Prop:=∃ r,o=some r∧zov r.1 r.2.1 r.2.2.2.2∧(r.2.2.1=true→r.2.2.2.1=0→zb5 a0 r.1 r.2.1 r.2.2.2.2=true)
theorem zfS {a0:List zi} {o:Option zmq} {k:Int} (h:o=zcN k):OkR a0 o:=⟨_,h,zuL,fun h=>by cases h⟩
theorem znV {a0:List zi} {σ:Sb} {L:List zc} {T:List jI} {C:List zc} {k:Int}:OkR a0 (zi6 a0 σ L T C k):=by
 unfold zi6
 cases hm:zb5 a0 (q6 σ L) (T.map (zb0 σ)) (q6 σ C) with
 | true=>exact ⟨_,rfl,zuO hm,fun _ _=>zAS hm⟩
 | false=>exact zfS rfl
end
end Go.Abs.Q
namespace Go.Abs.Q
open Go Go.Abs
end Go.Abs.Q
namespace Go.Abs.Q
open Go Go.Abs
section
abbrev qL:=Int×Int×Int×Int×Int×Int×Int×List zc×List jI×List zc
theorem zlr {a0:List zi} {L:List zc}:(es:List zc)→(i:Nat)→(k:Int)→k∈zl a0 L es i↔∃(j:Nat) (l:zc),es[j]? = some l∧k=((i+j:Nat):Int)∧zhM a0 L l=false
 | [],i,k=>by simp [zl]
 | e::es,i,k=>by
  have ih:=zlr es (i+1) k (a0:=a0) (L:=L)
  have tail:k∈zl a0 L es (i+1)↔∃(j:Nat) (l:zc),(e::es)[j+1]? = some l∧k=((i+(j+1):Nat):Int)∧zhM a0 L l=false:=by
   rw[ih]
   constructor
   ·rintro⟨j,l,h1,h2,h3⟩
    exact ⟨j,l,by simpa using h1,by rw[h2]; congr 1; omega,h3⟩
   ·rintro⟨j,l,h1,h2,h3⟩
    exact ⟨j,l,by simpa using h1,by rw[h2]; congr 1; omega,h3⟩
  unfold zl
  cases ho:zhM a0 L e with
  | true =>
   rw[cond_true,tail]
   constructor
   ·rintro⟨j,l,h1,h2,h3⟩
    exact ⟨j+1,l,h1,h2,h3⟩
   ·rintro⟨j,l,h1,h2,h3⟩
    cases j with
    | zero=>injection h1 with h1; subst h1; rw[ho] at h3; cases h3
    | succ j=>exact ⟨j,l,h1,h2,h3⟩
  | false =>
   rw[cond_false,List.mem_cons,tail]
   constructor
   ·rintro (h | ⟨j,l,h1,h2,h3⟩)
    ·exact ⟨0,e,rfl,by rw[h]; rfl,ho⟩
    ·exact ⟨j+1,l,h1,h2,h3⟩
   ·rintro⟨j,l,h1,h2,h3⟩
    cases j with
    | zero=>exact .inl (by rw[h2]; rfl)
    | succ j=>exact .inr ⟨j,l,h1,h2,h3⟩
theorem zcs {a0:List zi} {L:List zc}:(es:List zc)→(i:Nat)→(zl a0 L es i).length≤es.length
 | [],_=>Nat.le_refl _
 | e::es,i=>by
  have:=zcs es (i+1) (a0:=a0) (L:=L)
  unfold zl
  cases zhM a0 L e<;>simp<;>omega
section
variable {a0:List zi} {L:List zc} {T:List jI} {C:List zc} (hmay:zb5 a0 L T C=true)
include hmay
end
end
end Go.Abs.Q
namespace Go.Abs.Q
open Go Go.Abs
section
section
variable {a0:List zi} {L:List zc} {T:List jI} {C:List zc} (hmay:zb5 a0 L T C=true)
include hmay
end
end
end Go.Abs.Q
namespace Go.Abs.Q
open Go Go.Abs
end Go.Abs.Q
namespace Go.Abs.Q
open Go Go.Abs
end Go.Abs.Q
namespace Go.Abs.Q
open Go Go.Abs
section
end
end Go.Abs.Q
namespace Go.Abs.Q
open Go Go.Abs
def zbO (a0:jQ) (a1:jR) (a2:jQ) (a3:Int) (a4:Bool):Option Bool :=
 cond (decide (a3≥0))
 (cond (decide (a3<((List.length a0:Nat):Int)))
  ((gx a0 a3).bind fun e4 =>
   (gx e4.2 0).bind fun e5 =>
   cond (e5==0)
   ((gx a0 a3).bind fun e6 =>
    some (e6.1==a4))
   (some false))
  (some false))
 (some false)
def zdH (a0:jS) (a1:jQ) (a2:jR) (a3:jQ) (a4:jQ) (a5:jR) (a6:jQ):Option (Bool×jQ×jR×jQ) :=
 (yn a0 a1 a2 a3).bind fun r14 =>
 cond (decide (((List.length r14.2:Nat):Int)>0))
 ((inR (IntKind.wrap .i64 (((List.length r14.2:Nat):Int) - 1)) (List.length r14.2)).bind fun k15 =>
  (r14.2[k15]?).bind fun x16 =>
  (yn a0 a4 a5 a6).bind fun r17 =>
  cond (decide (((List.length r17.2:Nat):Int)>0))
  ((inR (IntKind.wrap .i64 (((List.length r17.2:Nat):Int) - 1)) (List.length r17.2)).bind fun k18 =>
   (r17.2[k18]?).bind fun x19 =>
   cond (decide ((IntKind.wrap .i64 (x19+(IntKind.wrap .i64 (x16+1))))>23))
   (some (false,([]:jQ),([]:jR),([]:jQ)))
   ((zF a4 a5 a6 (IntKind.wrap .i64 (x16+1))).bind fun r20 =>
    some (true,r20.1,r20.2.1,r20.2.2)))
  ((zF a4 a5 a6 (IntKind.wrap .i64 (x16+1))).bind fun r21 =>
   some (true,r21.1,r21.2.1,r21.2.2)))
 ((yn a0 a4 a5 a6).bind fun r22 =>
  cond (decide (((List.length r22.2:Nat):Int)>0))
  ((inR (IntKind.wrap .i64 (((List.length r22.2:Nat):Int) - 1)) (List.length r22.2)).bind fun k23 =>
   (r22.2[k23]?).bind fun x24 =>
   cond (decide ((IntKind.wrap .i64 (x24+0))>23))
   (some (false,([]:jQ),([]:jR),([]:jQ)))
   ((zF a4 a5 a6 0).bind fun r25 =>
    some (true,r25.1,r25.2.1,r25.2.2)))
  ((zF a4 a5 a6 0).bind fun r26 =>
   some (true,r26.1,r26.2.1,r26.2.2)))
def zdM (a0:jS) (a1:jI):Option jR :=
 (zcD a1 (some 1) none).bind fun y3 =>
 (zbN a0 y3).bind fun r4 =>
 some r4
def zjd (a0:jS) (a1:jI) (a2:jI):Option Bool :=
 (zba a0 a1 a2).bind fun r2 =>
 cond (r2.1 != 2)
 (some (r2.1 != 3))
 (some false)
def ziA (a0:jS) (a1:jI) (a2:Int) (a3:jI):Option jI :=
 (zdK a0 a1 a2).bind fun r5 =>
 (zcD a1 none (some a2)).bind fun y6 =>
 (zcD a1 (some r5.1) none).bind fun y7 =>
 (zdz ([y6,a3,y7]:List jI)).bind fun r8 =>
 some r8
def zbt (a0:jS) (a1:jQ) (a2:jR) (a3:jQ) (a4:Int) (a5:Int) (a6:jQ) (a7:jR) (a8:jQ) (a9:Int) (a10:Int):Option (jQ×jR×Bool×Int×jQ) :=
 (gx a6 a9).bind fun e28 =>
 (gx e28.2 a10).bind fun e29 =>
 cond (decide (e29<0))
 (some (([]:jQ),([]:jR),false,0,([]:jQ)))
 ((zdH a0 a1 a2 a3 a6 a7 a8).bind fun r30 =>
  cond (!r30.1)
  (some (([]:jQ),([]:jR),false,1501,([]:jQ)))
  ((gx a1 a4).bind fun e31 =>
   (zdM a0 e31.2).bind fun r32 =>
   (inR a9 (List.length r30.2.1)).bind fun k33 =>
   (r30.2.1[k33]?).bind fun x34 =>
   (zdK a0 x34.2 a10).bind fun r35 =>
   (inR a5 (List.length r32)).bind fun k36 =>
   (r32[k36]?).bind fun x37 =>
   (zcD x34.2 (some a10) (some r35.1)).bind fun y38 =>
   (zdZ a0 x37 y38).bind fun r39 =>
   cond (r39.2.1 != 0)
   (some (([]:jQ),([]:jR),false,1502,([]:jQ)))
   (cond (!r39.1)
    (some (([]:jQ),([]:jR),false,0,([]:jQ)))
    ((inR a5 (List.length r32)).bind fun k40 =>
     (r32[k40]?).bind fun x41 =>
     (zkN r39.2.2 x41).bind fun r42 =>
     (inR (IntKind.wrap .i64 (1 - a5)) (List.length r32)).bind fun k43 =>
     (r32[k43]?).bind fun x44 =>
     (zkN r39.2.2 x44).bind fun r45 =>
     cond (decide (((List.length r42:Nat):Int)>48))
     (some (([]:jQ),([]:jR),false,1502,([]:jQ)))
     (cond (decide (((List.length r45:Nat):Int)>48))
      (some (([]:jQ),([]:jR),false,1502,([]:jQ)))
      ((zjd a0 r42 r45).bind fun r46 =>
       cond r46
       (some (([]:jQ),([]:jR),false,0,([]:jQ)))
       ((inR (IntKind.wrap .i64 (1 - a5)) (List.length r32)).bind fun k47 =>
        (r32[k47]?).bind fun x48 =>
        (ziA a0 x34.2 a10 x48).bind fun r49 =>
        (inR a9 (List.length r30.2.1)).bind fun k50 =>
        (r30.2.1[k50]?).bind fun x51 =>
        (zez a1 a2 a3 a4 (List.set r30.2.1 k50 (x51.1,r49)) r30.2.2.1 r30.2.2.2 (-1)).bind fun r52 =>
        (zgu r39.2.2 r52.2.1 r52.1 r52.2.2).bind fun r53 =>
        (zdt a0 r53.1 r53.2.1 r53.2.2).bind fun r54 =>
        cond (r54.2.2.1 != 0)
        (some (([]:jQ),([]:jR),false,1502,([]:jQ)))
        (some (r54.1,r54.2.1,true,0,r54.2.2.2)))))))))
def zdx (a0:jS) (a1:jQ) (a2:jR) (a3:jQ) (a4:Int) (a5:Int) (a6:jQ) (a7:jR) (a8:jQ) (a9:Int) (a10:Int):Option (jQ×jR×Bool×Int×jQ) :=
 (zaf a0 a1 a2 a3).bind fun r8 =>
 cond (!r8)
 (some (([]:jQ),([]:jR),false,1500,([]:jQ)))
 ((zaf a0 a6 a7 a8).bind fun r9 =>
  cond (!r9)
  (some (([]:jQ),([]:jR),false,1500,([]:jQ)))
  ((zbO a1 a2 a3 a4 false).bind fun r10 =>
   cond (!r10)
   (some (([]:jQ),([]:jR),false,1500,([]:jQ)))
   (cond (a5 != 0)
    (cond (a5 != 1)
     (some (([]:jQ),([]:jR),false,1500,([]:jQ)))
     (cond (decide (a9<0))
      (some (([]:jQ),([]:jR),false,1500,([]:jQ)))
      (cond (decide (a9≥((List.length a6:Nat):Int)))
       (some (([]:jQ),([]:jR),false,1500,([]:jQ)))
       (cond (decide (a10<1))
        (some (([]:jQ),([]:jR),false,1500,([]:jQ)))
        ((gx a6 a9).bind fun e11 =>
         cond (decide (a10≥((List.length e11.2:Nat):Int)))
         (some (([]:jQ),([]:jR),false,1500,([]:jQ)))
         ((zbt a0 a1 a2 a3 a4 a5 a6 a7 a8 a9 a10).bind fun r12 =>
          some (r12.1,r12.2.1,r12.2.2.1,r12.2.2.2.1,r12.2.2.2.2)))))))
    (cond (decide (a9<0))
     (some (([]:jQ),([]:jR),false,1500,([]:jQ)))
     (cond (decide (a9≥((List.length a6:Nat):Int)))
      (some (([]:jQ),([]:jR),false,1500,([]:jQ)))
      (cond (decide (a10<1))
       (some (([]:jQ),([]:jR),false,1500,([]:jQ)))
       ((gx a6 a9).bind fun e13 =>
        cond (decide (a10≥((List.length e13.2:Nat):Int)))
        (some (([]:jQ),([]:jR),false,1500,([]:jQ)))
        ((zbt a0 a1 a2 a3 a4 a5 a6 a7 a8 a9 a10).bind fun r14 =>
         some (r14.1,r14.2.1,r14.2.2.1,r14.2.2.2.1,r14.2.2.2.2)))))))))
def zcU (a0:jQ) (a1:jR) (a2:jQ) (a3:Int):Option Bool :=
 (zfJ a0 a1 a2 a3).bind fun r5 =>
 cond r5
 ((gx a0 a3).bind fun e6 =>
  cond (!e6.1)
  ((gx a0 a3).bind fun e7 =>
   (gx e7.2 0).bind fun e8 =>
   some (e8==0))
  (some false))
 (some false)
def zgT (a0:jI) (a1:Int) (a2:Int) (a3:jI):Option jI :=
 (zcD a0 none (some a1)).bind fun y3 =>
 cond (yQ (List.length ([]:List Int)+List.length y3) 8)
 (cond (yQ (List.length (([]:List Int)++y3)+List.length a3) 8)
  ((zcD a0 (some a2) none).bind fun y4 =>
   cond (yQ (List.length ((([]:List Int)++y3)++a3)+List.length y4) 8)
   (some (((([]:List Int)++y3)++a3)++y4))
   (none))
  (none))
 (none)
def yL (a0:jS) (a1:jQ) (a2:jR) (a3:jQ) (a4:Int) (a5:Int) (a6:jQ) (a7:jR) (a8:jQ) (a9:Int) (a10:Int):Option (jQ×jR×Bool×Int×jQ) :=
 (zfb a0 a1 a2 a3).bind fun r30 =>
 cond (!r30)
 (some (([]:jQ),([]:jR),false,1500,([]:jQ)))
 ((zfb a0 a6 a7 a8).bind fun r31 =>
  cond (!r31)
  (some (([]:jQ),([]:jR),false,1500,([]:jQ)))
  ((zcU a1 a2 a3 a4).bind fun r32 =>
   cond (!r32)
   (some (([]:jQ),([]:jR),false,1500,([]:jQ)))
   (cond (decide (a5<0))
    (some (([]:jQ),([]:jR),false,1500,([]:jQ)))
    (cond (decide (a5>1))
     (some (([]:jQ),([]:jR),false,1500,([]:jQ)))
     ((zfJ a6 a7 a8 a9).bind fun r33 =>
      cond (!r33)
      (some (([]:jQ),([]:jR),false,1500,([]:jQ)))
      (cond (decide (a10<1))
       (some (([]:jQ),([]:jR),false,1500,([]:jQ)))
       ((gx a6 a9).bind fun e34 =>
        cond (decide (a10≥((List.length e34.2:Nat):Int)))
        (some (([]:jQ),([]:jR),false,1500,([]:jQ)))
        ((gx a6 a9).bind fun e35 =>
         (gx e35.2 a10).bind fun e36 =>
         cond (decide (e36<0))
         (some (([]:jQ),([]:jR),false,0,([]:jQ)))
         ((zfz a1 a2 a3 a6 a7 a8).bind fun r37 =>
          cond (!r37.2.2.1)
          (some (([]:jQ),([]:jR),false,1501,([]:jQ)))
          ((gx a1 a4).bind fun e38 =>
           (zcD e38.2 (some 1) none).bind fun y39 =>
           (zO a0 y39).bind fun r40 =>
           (inR a5 (List.length r40)).bind fun k41 =>
           (r40[k41]?).bind fun x42 =>
           (inR (IntKind.wrap .i64 (1 - a5)) (List.length r40)).bind fun k43 =>
           (r40[k43]?).bind fun x44 =>
           (gx r37.1 a9).bind fun e45 =>
           (ziV a0 e45.2 a10).bind fun r46 =>
           (zcD e45.2 (some a10) (some r46)).bind fun y47 =>
           (zcJ a0 x42 y47).bind fun r48 =>
           cond (!r48.2.1)
           (some (([]:jQ),([]:jR),false,1502,([]:jQ)))
           (cond (!r48.1)
            (some (([]:jQ),([]:jR),false,0,([]:jQ)))
            ((zcV r48.2.2 x42).bind fun r49 =>
             (zcV r48.2.2 x44).bind fun r50 =>
             cond (decide (((List.length r49:Nat):Int)>48))
             (some (([]:jQ),([]:jR),false,1502,([]:jQ)))
             (cond (decide (((List.length r50:Nat):Int)>48))
              (some (([]:jQ),([]:jR),false,1502,([]:jQ)))
              ((zdg a0 r49 r50).bind fun r51 =>
               cond (r51==0)
               (some (([]:jQ),([]:jR),false,0,([]:jQ)))
               (cond (r51==1)
                (some (([]:jQ),([]:jR),false,0,([]:jQ)))
                ((zds a1 a4).bind fun r52 =>
                 cond (yQ (List.length r52+List.length r37.1) 32)
                 ((gx r37.1 a9).bind fun e53 =>
                  (zgT e45.2 a10 r46 x44).bind fun r54 =>
                  (inR (IntKind.wrap .i64 ((IntKind.wrap .i64 (((List.length a1:Nat):Int) - 1))+a9)) (List.length (r52++r37.1))).bind fun k55 =>
                  ((r52++r37.1)[k55]?).bind fun x56 =>
                  (zkR (List.set (r52++r37.1) k55 (e53.1,r54)) a1 a2 a3 r37.1 r37.2.1 r37.2.2.2).bind fun r57 =>
                  (zgt a0 r48.2.2 r57.1 r57.2.1 r57.2.2).bind fun r58 =>
                  cond (!r58.2.2.1)
                  (some (([]:jQ),([]:jR),false,1502,([]:jQ)))
                  (some (r58.1,r58.2.1,true,0,r58.2.2.2)))
                 (none)))))))))))))))))
def zd6:Option jS :=
 some ([(([61]:Str),0,2,1),(([97]:Str),1,0,1),(([98]:Str),1,0,2),(([102]:Str),1,1,1),(([103]:Str),1,2,3),(([112]:Str),0,1,1),(([114]:Str),0,2,2)]:List zi)
def zaP (a0:jS) (a1:jQ) (a2:jR) (a3:jQ) (a4:Int):Option (jQ×jR×Bool×Int×jQ) :=
 (gx a1 a4).bind fun e11 =>
 (zdM a0 e11.2).bind fun r12 =>
 (inR 0 (List.length r12)).bind fun k13 =>
 (r12[k13]?).bind fun x14 =>
 (inR 1 (List.length r12)).bind fun k15 =>
 (r12[k15]?).bind fun x16 =>
 (zdZ a0 x14 x16).bind fun r17 =>
 cond (r17.2.1 != 0)
 (some (([]:jQ),([]:jR),false,1502,([]:jQ)))
 (cond (!r17.1)
  (some (([]:jQ),([]:jR),false,0,([]:jQ)))
  ((zez a1 a2 a3 a4 ([]:jQ) ([]:jR) ([]:jQ) (-1)).bind fun r18 =>
   (zgu r17.2.2 r18.2.1 r18.1 r18.2.2).bind fun r19 =>
   (zdt a0 r19.1 r19.2.1 r19.2.2).bind fun r20 =>
   cond (r20.2.2.1 != 0)
   (some (([]:jQ),([]:jR),false,1502,([]:jQ)))
   (some (r20.1,r20.2.1,true,0,r20.2.2.2))))
def zjT (a0:jS) (a1:jQ) (a2:jR) (a3:jQ) (a4:Int):Option (jQ×jR×Bool×Int×jQ) :=
 (zaf a0 a1 a2 a3).bind fun r4 =>
 cond (!r4)
 (some (([]:jQ),([]:jR),false,1500,([]:jQ)))
 ((zbO a1 a2 a3 a4 true).bind fun r5 =>
  cond (!r5)
  (some (([]:jQ),([]:jR),false,1500,([]:jQ)))
  ((zaP a0 a1 a2 a3 a4).bind fun r6 =>
   some (r6.1,r6.2.1,r6.2.2.1,r6.2.2.2.1,r6.2.2.2.2)))
def zfq (a0:Int) (a1:jQ) (a2:jR) (a3:jQ):Option Bool :=
 (zbO a1 a2 a3 a0 false).bind fun r2 =>
 some (!r2)
def zX (rec:(jI×Int×Int×jQ×jR×jQ)→Option (Unit⊕Int)) (x:(jI×Int×Int×jQ×jR×jQ)):Option (Unit⊕Int) :=
 cond (decide (x.2.2.1<x.2.1))
 ((gx x.1 x.2.2.1).bind fun e3 =>
  (zfq e3 x.2.2.2.1 x.2.2.2.2.1 x.2.2.2.2.2).bind fun r4 =>
  cond r4
  (some (Sum.inr x.2.2.1))
  (rec (x.1,x.2.1,(IntKind.wrap .i64 (x.2.2.1+1)),x.2.2.2.1,x.2.2.2.2.1,x.2.2.2.2.2)))
 (some (Sum.inl ()))
def zdu (a0:jI) (a1:jQ) (a2:jR) (a3:jQ):Option Int :=
 ((lp zX zd) (a0,((List.length a0:Nat):Int),0,a1,a2,a3)).bind fun r8 =>
 z6 r8
 (fun z9=>some (-1))
 (fun z10=>some z10)
def yc (rec:(Int×Int×jI×jQ×jR×jQ)→Option (Int×jI)) (x:(Int×Int×jI×jQ×jR×jQ)):Option (Int×jI) :=
 cond (decide (x.2.1<((List.length x.2.2.1:Nat):Int)))
 ((inR x.2.1 (List.length x.2.2.1)).bind fun k12 =>
  (x.2.2.1[k12]?).bind fun x13 =>
  (zfq x13 x.2.2.2.1 x.2.2.2.2.1 x.2.2.2.2.2).bind fun r14 =>
  cond (!r14)
  ((inR x.1 (List.length x.2.2.1)).bind fun k15 =>
   (x.2.2.1[k15]?).bind fun x16 =>
   rec ((IntKind.wrap .i64 (x.1+1)),(IntKind.wrap .i64 (x.2.1+1)),(List.set x.2.2.1 k15 x13),x.2.2.2.1,x.2.2.2.2.1,x.2.2.2.2.2))
  (rec (x.1,(IntKind.wrap .i64 (x.2.1+1)),x.2.2.1,x.2.2.2.1,x.2.2.2.2.1,x.2.2.2.2.2)))
 (some (x.1,x.2.2.1))
def zbU (a0:jI) (a1:jQ) (a2:jR) (a3:jQ):Option jI :=
 (zdu a0 a1 a2 a3).bind fun r19 =>
 cond (r19==(-1))
 (some a0)
 (((lp yc zd) (r19,(IntKind.wrap .i64 (r19+1)),a0,a1,a2,a3)).bind fun r20 =>
  cond (decide (0≤r20.1))
  (cond (decide (r20.1≤((List.length r20.2:Nat):Int)))
   (cond (decide (((List.length r20.2:Nat):Int)≤((List.length r20.2:Nat):Int)))
    ((zcD (clr r20.2 (0+Int.toNat r20.1) (Int.toNat ((List.length r20.2:Nat):Int) - Int.toNat r20.1)) none (some r20.1)).bind fun y21 =>
     some y21)
    (none))
   (none))
  (none))
def zfm (rec:(jS×Int×Int×jI×Int×Int×Int×Int×jI×Int×Int×Int×jI×Int×Int×jQ×jR×jQ×jQ×jR×jQ×jS×Int×jT)→Option (jS×Int×jT)) (x:(jS×Int×Int×jI×Int×Int×Int×Int×jI×Int×Int×Int×jI×Int×Int×jQ×jR×jQ×jQ×jR×jQ×jS×Int×jT)):Option (jS×Int×jT) :=
 (gx x.2.2.2.2.2.2.2.2.2.2.2.2.2.2.2.2.2.2.1 x.2.2.2.2.2.2.1).bind fun e17 =>
 cond (decide (x.2.2.2.2.2.2.2.1<((List.length e17.2:Nat):Int)))
 ((zbt x.1 x.2.2.2.2.2.2.2.2.2.2.2.2.2.2.2.1 x.2.2.2.2.2.2.2.2.2.2.2.2.2.2.2.2.1 x.2.2.2.2.2.2.2.2.2.2.2.2.2.2.2.2.2.1 x.2.2.2.2.1 x.2.2.2.2.2.1 x.2.2.2.2.2.2.2.2.2.2.2.2.2.2.2.2.2.2.1 x.2.2.2.2.2.2.2.2.2.2.2.2.2.2.2.2.2.2.2.1 x.2.2.2.2.2.2.2.2.2.2.2.2.2.2.2.2.2.2.2.2.1 x.2.2.2.2.2.2.1 x.2.2.2.2.2.2.2.1).bind fun r18 =>
  (zM 3 x.2.1 x.2.2.2.2.1 x.2.2.2.2.2.1 x.2.2.1 x.2.2.2.2.2.2.1 x.2.2.2.2.2.2.2.1 ([]:jQ) ([]:jR) ([]:jQ) r18.1 r18.2.1 r18.2.2.2.2 r18.2.2.1 r18.2.2.2.1 x.2.2.2.2.2.2.2.2.2.2.2.2.2.2.2.2.2.2.2.2.2.1 x.2.2.2.2.2.2.2.2.2.2.2.2.2.2.2.2.2.2.2.2.2.2.1 x.2.2.2.2.2.2.2.2.2.2.2.2.2.2.2.2.2.2.2.2.2.2.2).bind fun r19 =>
  rec (x.1,x.2.1,x.2.2.1,x.2.2.2.1,x.2.2.2.2.1,x.2.2.2.2.2.1,x.2.2.2.2.2.2.1,(IntKind.wrap .i64 (x.2.2.2.2.2.2.2.1+1)),x.2.2.2.2.2.2.2.2.1,x.2.2.2.2.2.2.2.2.2.1,x.2.2.2.2.2.2.2.2.2.2.1,x.2.2.2.2.2.2.2.2.2.2.2.1,x.2.2.2.2.2.2.2.2.2.2.2.2.1,x.2.2.2.2.2.2.2.2.2.2.2.2.2.1,x.2.2.2.2.2.2.2.2.2.2.2.2.2.2.1,x.2.2.2.2.2.2.2.2.2.2.2.2.2.2.2.1,x.2.2.2.2.2.2.2.2.2.2.2.2.2.2.2.2.1,x.2.2.2.2.2.2.2.2.2.2.2.2.2.2.2.2.2.1,x.2.2.2.2.2.2.2.2.2.2.2.2.2.2.2.2.2.2.1,x.2.2.2.2.2.2.2.2.2.2.2.2.2.2.2.2.2.2.2.1,x.2.2.2.2.2.2.2.2.2.2.2.2.2.2.2.2.2.2.2.2.1,r19.1,r19.2.1,r19.2.2))
 (some (x.2.2.2.2.2.2.2.2.2.2.2.2.2.2.2.2.2.2.2.2.2.1,x.2.2.2.2.2.2.2.2.2.2.2.2.2.2.2.2.2.2.2.2.2.2.1,x.2.2.2.2.2.2.2.2.2.2.2.2.2.2.2.2.2.2.2.2.2.2.2))
def zc5 (rec:(jS×Int×Int×jI×Int×Int×jI×Int×Int×Int×jI×Int×Int×jQ×jR×jQ×jQ×jR×jQ×jS×Int×jT)→Option (jS×Int×jT)) (x:(jS×Int×Int×jI×Int×Int×jI×Int×Int×Int×jI×Int×Int×jQ×jR×jQ×jQ×jR×jQ×jS×Int×jT)):Option (jS×Int×jT) :=
 cond (decide (x.2.2.2.2.2.2.2.2.2.2.2.2.1<x.2.2.2.2.2.2.2.2.2.2.2.1))
 ((gx x.2.2.2.2.2.2.2.2.2.2.1 x.2.2.2.2.2.2.2.2.2.2.2.2.1).bind fun e26 =>
  (gx x.2.2.2.2.2.2.2.2.2.2.2.2.2.2.2.2.1 e26).bind fun e27 =>
  cond (decide (1<((List.length e27.2:Nat):Int)))
  ((zbt x.1 x.2.2.2.2.2.2.2.2.2.2.2.2.2.1 x.2.2.2.2.2.2.2.2.2.2.2.2.2.2.1 x.2.2.2.2.2.2.2.2.2.2.2.2.2.2.2.1 x.2.2.2.2.1 x.2.2.2.2.2.1 x.2.2.2.2.2.2.2.2.2.2.2.2.2.2.2.2.1 x.2.2.2.2.2.2.2.2.2.2.2.2.2.2.2.2.2.1 x.2.2.2.2.2.2.2.2.2.2.2.2.2.2.2.2.2.2.1 e26 1).bind fun r28 =>
   (zM 3 x.2.1 x.2.2.2.2.1 x.2.2.2.2.2.1 x.2.2.1 e26 1 ([]:jQ) ([]:jR) ([]:jQ) r28.1 r28.2.1 r28.2.2.2.2 r28.2.2.1 r28.2.2.2.1 x.2.2.2.2.2.2.2.2.2.2.2.2.2.2.2.2.2.2.2.1 x.2.2.2.2.2.2.2.2.2.2.2.2.2.2.2.2.2.2.2.2.1 x.2.2.2.2.2.2.2.2.2.2.2.2.2.2.2.2.2.2.2.2.2).bind fun r29 =>
   (((lp zfm zd) (x.1,x.2.1,x.2.2.1,x.2.2.2.1,x.2.2.2.2.1,x.2.2.2.2.2.1,e26,2,x.2.2.2.2.2.2.1,x.2.2.2.2.2.2.2.1,x.2.2.2.2.2.2.2.2.1,x.2.2.2.2.2.2.2.2.2.1,x.2.2.2.2.2.2.2.2.2.2.1,x.2.2.2.2.2.2.2.2.2.2.2.1,x.2.2.2.2.2.2.2.2.2.2.2.2.1,x.2.2.2.2.2.2.2.2.2.2.2.2.2.1,x.2.2.2.2.2.2.2.2.2.2.2.2.2.2.1,x.2.2.2.2.2.2.2.2.2.2.2.2.2.2.2.1,x.2.2.2.2.2.2.2.2.2.2.2.2.2.2.2.2.1,x.2.2.2.2.2.2.2.2.2.2.2.2.2.2.2.2.2.1,x.2.2.2.2.2.2.2.2.2.2.2.2.2.2.2.2.2.2.1,r29.1,r29.2.1,r29.2.2))).bind fun r30 =>
   rec (x.1,x.2.1,x.2.2.1,x.2.2.2.1,x.2.2.2.2.1,x.2.2.2.2.2.1,x.2.2.2.2.2.2.1,x.2.2.2.2.2.2.2.1,x.2.2.2.2.2.2.2.2.1,x.2.2.2.2.2.2.2.2.2.1,x.2.2.2.2.2.2.2.2.2.2.1,x.2.2.2.2.2.2.2.2.2.2.2.1,(IntKind.wrap .i64 (x.2.2.2.2.2.2.2.2.2.2.2.2.1+1)),x.2.2.2.2.2.2.2.2.2.2.2.2.2.1,x.2.2.2.2.2.2.2.2.2.2.2.2.2.2.1,x.2.2.2.2.2.2.2.2.2.2.2.2.2.2.2.1,x.2.2.2.2.2.2.2.2.2.2.2.2.2.2.2.2.1,x.2.2.2.2.2.2.2.2.2.2.2.2.2.2.2.2.2.1,x.2.2.2.2.2.2.2.2.2.2.2.2.2.2.2.2.2.2.1,r30.1,r30.2.1,r30.2.2))
  (rec (x.1,x.2.1,x.2.2.1,x.2.2.2.1,x.2.2.2.2.1,x.2.2.2.2.2.1,x.2.2.2.2.2.2.1,x.2.2.2.2.2.2.2.1,x.2.2.2.2.2.2.2.2.1,x.2.2.2.2.2.2.2.2.2.1,x.2.2.2.2.2.2.2.2.2.2.1,x.2.2.2.2.2.2.2.2.2.2.2.1,(IntKind.wrap .i64 (x.2.2.2.2.2.2.2.2.2.2.2.2.1+1)),x.2.2.2.2.2.2.2.2.2.2.2.2.2.1,x.2.2.2.2.2.2.2.2.2.2.2.2.2.2.1,x.2.2.2.2.2.2.2.2.2.2.2.2.2.2.2.1,x.2.2.2.2.2.2.2.2.2.2.2.2.2.2.2.2.1,x.2.2.2.2.2.2.2.2.2.2.2.2.2.2.2.2.2.1,x.2.2.2.2.2.2.2.2.2.2.2.2.2.2.2.2.2.2.1,x.2.2.2.2.2.2.2.2.2.2.2.2.2.2.2.2.2.2.2.1,x.2.2.2.2.2.2.2.2.2.2.2.2.2.2.2.2.2.2.2.2.1,x.2.2.2.2.2.2.2.2.2.2.2.2.2.2.2.2.2.2.2.2.2)))
 (some (x.2.2.2.2.2.2.2.2.2.2.2.2.2.2.2.2.2.2.2.1,x.2.2.2.2.2.2.2.2.2.2.2.2.2.2.2.2.2.2.2.2.1,x.2.2.2.2.2.2.2.2.2.2.2.2.2.2.2.2.2.2.2.2.2))
def zfl (rec:(jS×Int×Int×jI×Int×jI×Int×Int×Int×jQ×jR×jQ×jQ×jR×jQ×jS×Int×jT)→Option (jS×Int×jT)) (x:(jS×Int×Int×jI×Int×jI×Int×Int×Int×jQ×jR×jQ×jQ×jR×jQ×jS×Int×jT)):Option (jS×Int×jT) :=
 cond (decide (x.2.2.2.2.2.2.2.2.1<2))
 (((lp zc5 zd) (x.1,x.2.1,x.2.2.1,x.2.2.2.1,x.2.2.2.2.1,x.2.2.2.2.2.2.2.2.1,x.2.2.2.2.2.1,x.2.2.2.2.2.2.1,x.2.2.2.2.2.2.2.1,x.2.2.2.2.2.2.2.2.1,x.2.2.2.1,((List.length x.2.2.2.1:Nat):Int),0,x.2.2.2.2.2.2.2.2.2.1,x.2.2.2.2.2.2.2.2.2.2.1,x.2.2.2.2.2.2.2.2.2.2.2.1,x.2.2.2.2.2.2.2.2.2.2.2.2.1,x.2.2.2.2.2.2.2.2.2.2.2.2.2.1,x.2.2.2.2.2.2.2.2.2.2.2.2.2.2.1,x.2.2.2.2.2.2.2.2.2.2.2.2.2.2.2.1,x.2.2.2.2.2.2.2.2.2.2.2.2.2.2.2.2.1,x.2.2.2.2.2.2.2.2.2.2.2.2.2.2.2.2.2)).bind fun r33 =>
  rec (x.1,x.2.1,x.2.2.1,x.2.2.2.1,x.2.2.2.2.1,x.2.2.2.2.2.1,x.2.2.2.2.2.2.1,x.2.2.2.2.2.2.2.1,(IntKind.wrap .i64 (x.2.2.2.2.2.2.2.2.1+1)),x.2.2.2.2.2.2.2.2.2.1,x.2.2.2.2.2.2.2.2.2.2.1,x.2.2.2.2.2.2.2.2.2.2.2.1,x.2.2.2.2.2.2.2.2.2.2.2.2.1,x.2.2.2.2.2.2.2.2.2.2.2.2.2.1,x.2.2.2.2.2.2.2.2.2.2.2.2.2.2.1,r33.1,r33.2.1,r33.2.2))
 (some (x.2.2.2.2.2.2.2.2.2.2.2.2.2.2.2.1,x.2.2.2.2.2.2.2.2.2.2.2.2.2.2.2.2.1,x.2.2.2.2.2.2.2.2.2.2.2.2.2.2.2.2.2))
def zcY (rec:(jS×Int×Int×jI×jI×Int×Int×jQ×jR×jQ×jQ×jR×jQ×jS×Int×jT)→Option (jS×Int×jT)) (x:(jS×Int×Int×jI×jI×Int×Int×jQ×jR×jQ×jQ×jR×jQ×jS×Int×jT)):Option (jS×Int×jT) :=
 cond (decide (x.2.2.2.2.2.2.1<x.2.2.2.2.2.1))
 ((gx x.2.2.2.2.1 x.2.2.2.2.2.2.1).bind fun e37 =>
  ((lp zfl zd) (x.1,x.2.1,x.2.2.1,x.2.2.2.1,e37,x.2.2.2.2.1,x.2.2.2.2.2.1,x.2.2.2.2.2.2.1,0,x.2.2.2.2.2.2.2.1,x.2.2.2.2.2.2.2.2.1,x.2.2.2.2.2.2.2.2.2.1,x.2.2.2.2.2.2.2.2.2.2.1,x.2.2.2.2.2.2.2.2.2.2.2.1,x.2.2.2.2.2.2.2.2.2.2.2.2.1,x.2.2.2.2.2.2.2.2.2.2.2.2.2.1,x.2.2.2.2.2.2.2.2.2.2.2.2.2.2.1,x.2.2.2.2.2.2.2.2.2.2.2.2.2.2.2)).bind fun r38 =>
  rec (x.1,x.2.1,x.2.2.1,x.2.2.2.1,x.2.2.2.2.1,x.2.2.2.2.2.1,(IntKind.wrap .i64 (x.2.2.2.2.2.2.1+1)),x.2.2.2.2.2.2.2.1,x.2.2.2.2.2.2.2.2.1,x.2.2.2.2.2.2.2.2.2.1,x.2.2.2.2.2.2.2.2.2.2.1,x.2.2.2.2.2.2.2.2.2.2.2.1,x.2.2.2.2.2.2.2.2.2.2.2.2.1,r38.1,r38.2.1,r38.2.2))
 (some (x.2.2.2.2.2.2.2.2.2.2.2.2.2.1,x.2.2.2.2.2.2.2.2.2.2.2.2.2.2.1,x.2.2.2.2.2.2.2.2.2.2.2.2.2.2.2))
def zeZ (a0:jS) (a1:jQ) (a2:jR) (a3:jQ) (a4:Int) (a5:jQ) (a6:jR) (a7:jQ) (a8:Int):Option (Int×Int×jT) :=
 (zaf a0 a1 a2 a3).bind fun r40 =>
 cond (!r40)
 (some (0,1500,([]:jT)))
 ((zaf a0 a5 a6 a7).bind fun r41 =>
  cond (!r41)
  (some (0,1500,([]:jT)))
  ((ziG a0 a1).bind fun r42 =>
   (ziG a0 a5).bind fun r43 =>
   (zbU r42.2 a1 a2 a3).bind fun r44 =>
   ((lp zcY zd) (a0,a4,a8,r43.2,r44,((List.length r44:Nat):Int),0,a1,a2,a3,a5,a6,a7,a0,0,([]:jT))).bind fun r45 =>
   some (r45.2.1,0,r45.2.2)))
def zjg:Option Bool :=
 (zd6).bind fun r19 =>
 (zdx r19 ([(false,([0,3,(-1),1]:List Int))]:List zc) ([]:jR) ([]:jQ) 0 0 ([(false,([5,3,2]:List Int))]:List zc) ([([(-1)]:List Int)]:List jI) ([]:jQ) 0 1).bind fun r20 =>
 (zd6).bind fun r21 =>
 (zdx r21 ([(false,([0,3,(-1),1]:List Int))]:List zc) ([]:jR) ([]:jQ) 0 1 ([(false,([5,3,2]:List Int))]:List zc) ([([(-1)]:List Int)]:List jI) ([]:jQ) 0 2).bind fun r22 =>
 (zd6).bind fun r23 =>
 (zjT r23 ([(true,([0,(-1),2]:List Int))]:List zc) ([([(-1)]:List Int)]:List jI) ([]:jQ) 0).bind fun r24 =>
 (zd6).bind fun r25 =>
 (zeZ r25 ([(false,([0,3,(-1),1]:List Int))]:List zc) ([]:jR) ([]:jQ) 1 ([(false,([5,3,2]:List Int))]:List zc) ([([(-1)]:List Int)]:List jI) ([]:jQ) 2).bind fun r26 =>
 (zd6).bind fun r27 =>
 (zjT r27 ([(false,([0,3,(-1),1]:List Int))]:List zc) ([]:jR) ([]:jQ) 0).bind fun r28 =>
 cond r20.2.2.1
 ((zdq r20.2.2.2.1).bind fun r29 =>
  cond (r29==0)
  ((qZ r20.1 r20.2.1 r20.2.2.2.2 ([(false,([5,1]:List Int))]:List zc) ([([(-1)]:List Int)]:List jI) ([]:jQ)).bind fun r30 =>
   cond r30
   (cond (!r22.2.2.1)
    ((zdq r22.2.2.2.1).bind fun r31 =>
     cond (r31==0)
     (cond r24.2.2.1
      ((zdq r24.2.2.2.1).bind fun r32 =>
       cond (r32==0)
       ((qZ r24.1 r24.2.1 r24.2.2.2.2 ([]:jQ) ([([2]:List Int)]:List jI) ([]:jQ)).bind fun r33 =>
        cond r33
        ((zdq r26.2.1).bind fun r34 =>
         cond (r34==0)
         (cond (r26.1==0)
          ((zi8 r26.2.2 ([(3,1,0,0,2,0,1,([(false,([5,1]:List Int))]:List zc),([([(-1)]:List Int)]:List jI),([]:jQ))]:List jU)).bind fun r35 =>
           cond r35
           ((zdq r28.2.2.2.1).bind fun r36 =>
            some (r36==1500))
           (some false))
          (some false))
         (some false))
        (some false))
       (some false))
      (some false))
     (some false))
    (some false))
   (some false))
  (some false))
 (some false)
def zbp (rec:(jS×Int×Int×Int×Int×Int×Int×Int×jQ×jR×jQ×jQ×jR×jQ×jT)→Option (Int×jT)) (x:(jS×Int×Int×Int×Int×Int×Int×Int×jQ×jR×jQ×jQ×jR×jQ×jT)):Option (Int×jT) :=
 (gx x.2.2.2.2.2.2.2.2.2.2.2.1 x.2.2.2.2.2.2.1).bind fun e13 =>
 cond (decide (x.2.2.2.2.2.2.2.1<((List.length e13.2:Nat):Int)))
 ((zgY x.1 x.2.2.2.2.2.2.2.2.2.2.2.1 x.2.2.2.2.2.2.1).bind fun r14 =>
  cond r14
  ((yL x.1 x.2.2.2.2.2.2.2.2.1 x.2.2.2.2.2.2.2.2.2.1 x.2.2.2.2.2.2.2.2.2.2.1 x.2.2.2.2.1 x.2.2.2.2.2.1 x.2.2.2.2.2.2.2.2.2.2.2.1 x.2.2.2.2.2.2.2.2.2.2.2.2.1 x.2.2.2.2.2.2.2.2.2.2.2.2.2.1 x.2.2.2.2.2.2.1 x.2.2.2.2.2.2.2.1).bind fun r15 =>
   (zbM x.1 x.2.2.2.1 3 x.2.1 x.2.2.2.2.1 x.2.2.2.2.2.1 x.2.2.1 x.2.2.2.2.2.2.1 x.2.2.2.2.2.2.2.1 r15.1 r15.2.1 r15.2.2.2.2 r15.2.2.1 r15.2.2.2.1 x.2.2.2.2.2.2.2.2.2.2.2.2.2.2).bind fun r16 =>
   rec (x.1,x.2.1,x.2.2.1,r16.1,x.2.2.2.2.1,x.2.2.2.2.2.1,x.2.2.2.2.2.2.1,(IntKind.wrap .i64 (x.2.2.2.2.2.2.2.1+1)),x.2.2.2.2.2.2.2.2.1,x.2.2.2.2.2.2.2.2.2.1,x.2.2.2.2.2.2.2.2.2.2.1,x.2.2.2.2.2.2.2.2.2.2.2.1,x.2.2.2.2.2.2.2.2.2.2.2.2.1,x.2.2.2.2.2.2.2.2.2.2.2.2.2.1,r16.2))
  (some (x.2.2.2.1,x.2.2.2.2.2.2.2.2.2.2.2.2.2.2)))
 (some (x.2.2.2.1,x.2.2.2.2.2.2.2.2.2.2.2.2.2.2))
def zck (rec:(jS×Int×Int×Int×Int×Int×Int×jQ×jR×jQ×jQ×jR×jQ×jT)→Option (Int×jT)) (x:(jS×Int×Int×Int×Int×Int×Int×jQ×jR×jQ×jQ×jR×jQ×jT)):Option (Int×jT) :=
 cond (decide (x.2.2.2.2.2.2.1<((List.length x.2.2.2.2.2.2.2.2.2.2.1:Nat):Int)))
 (((lp zbp zd) (x.1,x.2.1,x.2.2.1,x.2.2.2.1,x.2.2.2.2.1,x.2.2.2.2.2.1,x.2.2.2.2.2.2.1,1,x.2.2.2.2.2.2.2.1,x.2.2.2.2.2.2.2.2.1,x.2.2.2.2.2.2.2.2.2.1,x.2.2.2.2.2.2.2.2.2.2.1,x.2.2.2.2.2.2.2.2.2.2.2.1,x.2.2.2.2.2.2.2.2.2.2.2.2.1,x.2.2.2.2.2.2.2.2.2.2.2.2.2)).bind fun r19 =>
  rec (x.1,x.2.1,x.2.2.1,r19.1,x.2.2.2.2.1,x.2.2.2.2.2.1,(IntKind.wrap .i64 (x.2.2.2.2.2.2.1+1)),x.2.2.2.2.2.2.2.1,x.2.2.2.2.2.2.2.2.1,x.2.2.2.2.2.2.2.2.2.1,x.2.2.2.2.2.2.2.2.2.2.1,x.2.2.2.2.2.2.2.2.2.2.2.1,x.2.2.2.2.2.2.2.2.2.2.2.2.1,r19.2))
 (some (x.2.2.2.1,x.2.2.2.2.2.2.2.2.2.2.2.2.2))
def zeg (rec:(jS×Int×Int×Int×Int×Int×jQ×jR×jQ×jQ×jR×jQ×jT)→Option (Int×jT)) (x:(jS×Int×Int×Int×Int×Int×jQ×jR×jQ×jQ×jR×jQ×jT)):Option (Int×jT) :=
 cond (decide (x.2.2.2.2.2.1<2))
 (((lp zck zd) (x.1,x.2.1,x.2.2.1,x.2.2.2.1,x.2.2.2.2.1,x.2.2.2.2.2.1,0,x.2.2.2.2.2.2.1,x.2.2.2.2.2.2.2.1,x.2.2.2.2.2.2.2.2.1,x.2.2.2.2.2.2.2.2.2.1,x.2.2.2.2.2.2.2.2.2.2.1,x.2.2.2.2.2.2.2.2.2.2.2.1,x.2.2.2.2.2.2.2.2.2.2.2.2)).bind fun r22 =>
  rec (x.1,x.2.1,x.2.2.1,r22.1,x.2.2.2.2.1,(IntKind.wrap .i64 (x.2.2.2.2.2.1+1)),x.2.2.2.2.2.2.1,x.2.2.2.2.2.2.2.1,x.2.2.2.2.2.2.2.2.1,x.2.2.2.2.2.2.2.2.2.1,x.2.2.2.2.2.2.2.2.2.2.1,x.2.2.2.2.2.2.2.2.2.2.2.1,r22.2))
 (some (x.2.2.2.1,x.2.2.2.2.2.2.2.2.2.2.2.2))
def zb7 (rec:(jS×Int×Int×Int×Int×jQ×jR×jQ×jQ×jR×jQ×jT)→Option (Int×jT)) (x:(jS×Int×Int×Int×Int×jQ×jR×jQ×jQ×jR×jQ×jT)):Option (Int×jT) :=
 cond (decide (x.2.2.2.2.1<((List.length x.2.2.2.2.2.1:Nat):Int)))
 ((zcU x.2.2.2.2.2.1 x.2.2.2.2.2.2.1 x.2.2.2.2.2.2.2.1 x.2.2.2.2.1).bind fun r27 =>
  cond (!r27)
  (rec (x.1,x.2.1,x.2.2.1,x.2.2.2.1,(IntKind.wrap .i64 (x.2.2.2.2.1+1)),x.2.2.2.2.2.1,x.2.2.2.2.2.2.1,x.2.2.2.2.2.2.2.1,x.2.2.2.2.2.2.2.2.1,x.2.2.2.2.2.2.2.2.2.1,x.2.2.2.2.2.2.2.2.2.2.1,x.2.2.2.2.2.2.2.2.2.2.2))
  ((zgY x.1 x.2.2.2.2.2.1 x.2.2.2.2.1).bind fun r28 =>
   cond (!r28)
   (rec (x.1,x.2.1,x.2.2.1,x.2.2.2.1,(IntKind.wrap .i64 (x.2.2.2.2.1+1)),x.2.2.2.2.2.1,x.2.2.2.2.2.2.1,x.2.2.2.2.2.2.2.1,x.2.2.2.2.2.2.2.2.1,x.2.2.2.2.2.2.2.2.2.1,x.2.2.2.2.2.2.2.2.2.2.1,x.2.2.2.2.2.2.2.2.2.2.2))
   (((lp zeg zd) (x.1,x.2.1,x.2.2.1,x.2.2.2.1,x.2.2.2.2.1,0,x.2.2.2.2.2.1,x.2.2.2.2.2.2.1,x.2.2.2.2.2.2.2.1,x.2.2.2.2.2.2.2.2.1,x.2.2.2.2.2.2.2.2.2.1,x.2.2.2.2.2.2.2.2.2.2.1,x.2.2.2.2.2.2.2.2.2.2.2)).bind fun r29 =>
    rec (x.1,x.2.1,x.2.2.1,r29.1,(IntKind.wrap .i64 (x.2.2.2.2.1+1)),x.2.2.2.2.2.1,x.2.2.2.2.2.2.1,x.2.2.2.2.2.2.2.1,x.2.2.2.2.2.2.2.2.1,x.2.2.2.2.2.2.2.2.2.1,x.2.2.2.2.2.2.2.2.2.2.1,r29.2))))
 (some (x.2.2.2.1,x.2.2.2.2.2.2.2.2.2.2.2))
def zmP (a0:jS) (a1:jQ) (a2:jR) (a3:jQ) (a4:Int) (a5:jQ) (a6:jR) (a7:jQ) (a8:Int):Option (Int×Int×jT) :=
 (zfb a0 a1 a2 a3).bind fun r31 =>
 cond (!r31)
 (some (0,1500,([]:jT)))
 ((zfb a0 a5 a6 a7).bind fun r32 =>
  cond (!r32)
  (some (0,1500,([]:jT)))
  (((lp zb7 zd) (a0,a4,a8,0,0,a1,a2,a3,a5,a6,a7,([]:jT))).bind fun r33 =>
   some (r33.1,0,r33.2)))
def zfX (a0:jS) (a1:jQ) (a2:jR) (a3:jQ) (a4:Int):Option (jQ×jR×Bool×Int×jQ) :=
 (zfb a0 a1 a2 a3).bind fun r16 =>
 cond (!r16)
 (some (([]:jQ),([]:jR),false,1500,([]:jQ)))
 ((zfJ a1 a2 a3 a4).bind fun r17 =>
  cond (!r17)
  (some (([]:jQ),([]:jR),false,1500,([]:jQ)))
  ((gx a1 a4).bind fun e18 =>
   cond (!e18.1)
   (some (([]:jQ),([]:jR),false,1500,([]:jQ)))
   ((gx a1 a4).bind fun e19 =>
    (gx e19.2 0).bind fun e20 =>
    cond (e20 != 0)
    (some (([]:jQ),([]:jR),false,1500,([]:jQ)))
    ((gx a1 a4).bind fun e21 =>
     (zcD e21.2 (some 1) none).bind fun y22 =>
     (zO a0 y22).bind fun r23 =>
     (inR 0 (List.length r23)).bind fun k24 =>
     (r23[k24]?).bind fun x25 =>
     (inR 1 (List.length r23)).bind fun k26 =>
     (r23[k26]?).bind fun x27 =>
     (zcJ a0 x25 x27).bind fun r28 =>
     cond (!r28.2.1)
     (some (([]:jQ),([]:jR),false,1502,([]:jQ)))
     (cond (!r28.1)
      (some (([]:jQ),([]:jR),false,0,([]:jQ)))
      ((zds a1 a4).bind fun r29 =>
       (zgt a0 r28.2.2 r29 a2 a3).bind fun r30 =>
       cond (!r30.2.2.1)
       (some (([]:jQ),([]:jR),false,1502,([]:jQ)))
       (some (r30.1,r30.2.1,true,0,r30.2.2.2))))))))
def zak (rec:(jS×Int×jI×Int×Int×jQ×jR×jQ×jS×Int×jT)→Option (jS×Int×jT)) (x:(jS×Int×jI×Int×Int×jQ×jR×jQ×jS×Int×jT)):Option (jS×Int×jT) :=
 cond (decide (x.2.2.2.2.1<x.2.2.2.1))
 ((gx x.2.2.1 x.2.2.2.2.1).bind fun e15 =>
  (zbO x.2.2.2.2.2.1 x.2.2.2.2.2.2.1 x.2.2.2.2.2.2.2.1 e15 true).bind fun r16 =>
  cond r16
  ((zaP x.1 x.2.2.2.2.2.1 x.2.2.2.2.2.2.1 x.2.2.2.2.2.2.2.1 e15).bind fun r17 =>
   (zM 4 x.2.1 e15 0 (-1) 0 0 ([]:jQ) ([]:jR) ([]:jQ) r17.1 r17.2.1 r17.2.2.2.2 r17.2.2.1 r17.2.2.2.1 x.2.2.2.2.2.2.2.2.1 x.2.2.2.2.2.2.2.2.2.1 x.2.2.2.2.2.2.2.2.2.2).bind fun r18 =>
   rec (x.1,x.2.1,x.2.2.1,x.2.2.2.1,(IntKind.wrap .i64 (x.2.2.2.2.1+1)),x.2.2.2.2.2.1,x.2.2.2.2.2.2.1,x.2.2.2.2.2.2.2.1,r18.1,r18.2.1,r18.2.2))
  (rec (x.1,x.2.1,x.2.2.1,x.2.2.2.1,(IntKind.wrap .i64 (x.2.2.2.2.1+1)),x.2.2.2.2.2.1,x.2.2.2.2.2.2.1,x.2.2.2.2.2.2.2.1,x.2.2.2.2.2.2.2.2.1,x.2.2.2.2.2.2.2.2.2.1,x.2.2.2.2.2.2.2.2.2.2)))
 (some (x.2.2.2.2.2.2.2.2.1,x.2.2.2.2.2.2.2.2.2.1,x.2.2.2.2.2.2.2.2.2.2))
def zar (a0:jS) (a1:jQ) (a2:jR) (a3:jQ) (a4:Int):Option (Int×Int×jT) :=
 (zaf a0 a1 a2 a3).bind fun r20 =>
 cond (!r20)
 (some (0,1500,([]:jT)))
 ((ziG a0 a1).bind fun r21 =>
  ((lp zak zd) (a0,a4,r21.2,((List.length r21.2:Nat):Int),0,a1,a2,a3,a0,0,([]:jT))).bind fun r22 =>
  some (r22.2.1,0,r22.2.2))
def zaD (rec:(jS×Int×Int×Int×jQ×jR×jQ×jT)→Option (Int×jT)) (x:(jS×Int×Int×Int×jQ×jR×jQ×jT)):Option (Int×jT) :=
 cond (decide (x.2.2.2.1<((List.length x.2.2.2.2.1:Nat):Int)))
 ((gx x.2.2.2.2.1 x.2.2.2.1).bind fun e14 =>
  cond e14.1
  ((gx x.2.2.2.2.1 x.2.2.2.1).bind fun e15 =>
   (gx e15.2 0).bind fun e16 =>
   cond (e16==0)
   ((zgY x.1 x.2.2.2.2.1 x.2.2.2.1).bind fun r17 =>
    cond r17
    ((zfX x.1 x.2.2.2.2.1 x.2.2.2.2.2.1 x.2.2.2.2.2.2.1 x.2.2.2.1).bind fun r18 =>
     (zbM x.1 x.2.2.1 4 x.2.1 x.2.2.2.1 0 (-1) 0 0 r18.1 r18.2.1 r18.2.2.2.2 r18.2.2.1 r18.2.2.2.1 x.2.2.2.2.2.2.2).bind fun r19 =>
     rec (x.1,x.2.1,r19.1,(IntKind.wrap .i64 (x.2.2.2.1+1)),x.2.2.2.2.1,x.2.2.2.2.2.1,x.2.2.2.2.2.2.1,r19.2))
    (rec (x.1,x.2.1,x.2.2.1,(IntKind.wrap .i64 (x.2.2.2.1+1)),x.2.2.2.2.1,x.2.2.2.2.2.1,x.2.2.2.2.2.2.1,x.2.2.2.2.2.2.2)))
   (rec (x.1,x.2.1,x.2.2.1,(IntKind.wrap .i64 (x.2.2.2.1+1)),x.2.2.2.2.1,x.2.2.2.2.2.1,x.2.2.2.2.2.2.1,x.2.2.2.2.2.2.2)))
  (rec (x.1,x.2.1,x.2.2.1,(IntKind.wrap .i64 (x.2.2.2.1+1)),x.2.2.2.2.1,x.2.2.2.2.2.1,x.2.2.2.2.2.2.1,x.2.2.2.2.2.2.2)))
 (some (x.2.2.1,x.2.2.2.2.2.2.2))
def zej (a0:jS) (a1:jQ) (a2:jR) (a3:jQ) (a4:Int):Option (Int×Int×jT) :=
 (zfb a0 a1 a2 a3).bind fun r21 =>
 cond (!r21)
 (some (0,1500,([]:jT)))
 (((lp zaD zd) (a0,a4,0,0,a1,a2,a3,([]:jT))).bind fun r22 =>
  some (r22.1,0,r22.2))
def zct (rec:(jS×(List (jQ×jR×jQ))×Int)→Option (Unit⊕Bool)) (x:(jS×(List (jQ×jR×jQ))×Int)):Option (Unit⊕Bool) :=
 cond (decide (x.2.2<((List.length x.2.1:Nat):Int)))
 ((gx x.2.1 x.2.2).bind fun e5 =>
  (yn x.1 e5.1 e5.2.1 e5.2.2).bind fun r6 =>
  (zdq r6.1).bind fun r7 =>
  cond (r7 != 0)
  (some (Sum.inr false))
  ((zsZ r6.2).bind fun r8 =>
   cond (!r8)
   (some (Sum.inr false))
   (rec (x.1,x.2.1,(IntKind.wrap .i64 (x.2.2+1))))))
 (some (Sum.inl ()))
def zij (a0:jS) (a1:(List (jQ×jR×jQ))):Option Bool :=
 ((lp zct zd) (a0,a1,0)).bind fun r12 =>
 z6 r12
 (fun z13=>some true)
 (fun z14=>some z14)
def qu (rec:(jS×jT×Int×Int×jI)→Option (Unit⊕Bool)) (x:(jS×jT×Int×Int×jI)):Option (Unit⊕Bool) :=
 cond (decide (x.2.2.1<((List.length x.2.1:Nat):Int)))
 (cond (decide (x.2.2.1<12))
  ((gx x.2.1 x.2.2.1).bind fun e26 =>
   (zaf x.1 e26.2.2.2.2.2.2.2.1 e26.2.2.2.2.2.2.2.2.1 e26.2.2.2.2.2.2.2.2.2).bind fun r27 =>
   cond (!r27)
   (some (Sum.inr false))
   ((gx x.2.1 x.2.2.1).bind fun e28 =>
    (zij x.1 ([(e28.2.2.2.2.2.2.2.1,e28.2.2.2.2.2.2.2.2.1,e28.2.2.2.2.2.2.2.2.2)]:List (jQ×jR×jQ))).bind fun r29 =>
    cond r29
    ((gx x.2.1 x.2.2.1).bind fun e30 =>
     (zH x.2.2.2.1 x.2.2.2.2 x.1 e30.2.2.2.2.2.2.2.1 e30.2.2.2.2.2.2.2.2.1 e30.2.2.2.2.2.2.2.2.2).bind fun r31 =>
     cond (!r31)
     (some (Sum.inr false))
     (rec (x.1,x.2.1,(IntKind.wrap .i64 (x.2.2.1+1)),x.2.2.2.1,x.2.2.2.2)))
    (rec (x.1,x.2.1,(IntKind.wrap .i64 (x.2.2.1+1)),x.2.2.2.1,x.2.2.2.2))))
  (some (Sum.inl ())))
 (some (Sum.inl ()))
def qk (rec:(jS×jT×Int×jQ×jR×jQ×Int×jI)→Option (Unit⊕Bool)) (x:(jS×jT×Int×jQ×jR×jQ×Int×jI)):Option (Unit⊕Bool) :=
 cond (decide (x.2.2.1<((List.length x.2.1:Nat):Int)))
 ((gx x.2.1 x.2.2.1).bind fun e13 =>
  (zaf x.1 e13.2.2.2.2.2.2.2.1 e13.2.2.2.2.2.2.2.2.1 e13.2.2.2.2.2.2.2.2.2).bind fun r14 =>
  cond (!r14)
  (some (Sum.inr false))
  ((gx x.2.1 x.2.2.1).bind fun e15 =>
   (zH x.2.2.2.2.2.2.1 x.2.2.2.2.2.2.2 x.1 e15.2.2.2.2.2.2.2.1 e15.2.2.2.2.2.2.2.2.1 e15.2.2.2.2.2.2.2.2.2).bind fun r16 =>
   cond (!r16)
   (some (Sum.inr false))
   (rec (x.1,x.2.1,(IntKind.wrap .i64 (x.2.2.1+1)),x.2.2.2.1,x.2.2.2.2.1,x.2.2.2.2.2.1,x.2.2.2.2.2.2.1,x.2.2.2.2.2.2.2))))
 (some (Sum.inl ()))
def zaO (a0:jS) (a1:jQ) (a2:jR) (a3:jQ) (a4:jQ) (a5:jR) (a6:jQ) (a7:Int) (a8:jI):Option Bool :=
 (zjg).bind fun r36 =>
 cond (!r36)
 (some false)
 ((zeZ a0 a1 a2 a3 0 a4 a5 a6 1).bind fun r37 =>
  (zar a0 a4 a5 a6 1).bind fun r38 =>
  (zdq r37.2.1).bind fun r39 =>
  cond (r39 != 0)
  (cond (decide (r37.1≥0))
   (some (decide (r38.1≥0)))
   (some false))
  ((zdq r38.2.1).bind fun r40 =>
   cond (r40 != 0)
   (cond (decide (r37.1≥0))
    (some (decide (r38.1≥0)))
    (some false))
   (cond (((List.length a8:Nat):Int)==0)
    (cond (decide (r37.1≥0))
     (some (decide (r38.1≥0)))
     (some false))
    ((zij a0 ([(a1,a2,a3),(a4,a5,a6)]:List (jQ×jR×jQ))).bind fun r41 =>
     cond (!r41)
     (cond (decide (r37.1≥0))
      (some (decide (r38.1≥0)))
      (some false))
     ((zl2 a7 a8).bind fun r42 =>
      (zH r42.1 r42.2 a0 a4 a5 a6).bind fun r43 =>
      cond (!r43)
      (some true)
      (((lp qk zd) (a0,r38.2.2,0,a1,a2,a3,r42.1,r42.2)).bind fun r44 =>
       z6 r44
       (fun z45=>(zH r42.1 r42.2 a0 a1 a2 a3).bind fun r46 =>
        cond (!r46)
        (some true)
        (((lp qu zd) (a0,r37.2.2,0,r42.1,r42.2)).bind fun r47 =>
         z6 r47
         (fun z48=>some true)
         (fun z49=>some z49)))
       (fun z50=>some z50)))))))
end Go.Abs.Q
namespace Go.Abs.Q
open Go Go.Abs
section
inductive RT (t u:Tm):Tm→Tm→Prop
 | here:RT t u t u
 | arg (c:Nat) (l r:List Tm) {a b:Tm}:RT t u a b→RT t u (.f c (l++a::r)) (.f c (l++b::r))
theorem zmN:(ts:List Tm)→(p:Nat)→p<(za ts).length→∃ l a r,ts=l++a::r∧(za l).length≤p∧p<(za l).length+a.codes.length
 | [],p,h=>by simp [za] at h
 | t::ts,p,h=>by
  simp only[za,List.length_append] at h
  by_cases hp:p<t.codes.length
  ·exact ⟨[],t,ts,rfl,Nat.zero_le _,by simpa[za] using hp⟩
  ·obtain⟨l,a,r,rfl,h1,h2⟩:=zmN ts (p - t.codes.length) (by omega)
   exact ⟨t::l,a,r,rfl,by simp only[za,List.length_append]; omega,by simp only[za,List.length_append]; omega⟩
theorem zvQ {a0:List zi} {N:Nat} {l r:List Tm} {a:Tm} (h:okR a0 N (l++a::r)):a.ok a0 N:=zcp.1 h a (by simp)
theorem zvy {a0:List zi}:∀(n:Nat) (a:Tm) (p:Nat),a.size≤n→a.ok a0 24→p<a.codes.length→∃ t:Tm,t.ok a0 24∧(∃ x y,a.codes=x++t.codes++y∧x.length=p∧∀ u:Tm,∃ b,RT t u a b∧b.codes=x++u.codes++y)
 | 0,a,p,h,_,_=>by have:=a.size_pos; omega
 | n+1,a,0,_,ho,_=>⟨a,ho,[],[],by simp,rfl,fun u=>⟨u,.here,by simp⟩⟩
 | n+1,.v m,p+1,_,_,h=>by simp [Tm.codes] at h
 | n+1,.f c as,p+1,hn,ho,h=>by
  simp only[Tm.codes,List.length_cons] at h
  obtain⟨l,a,r,rfl,h1,h2⟩:=zmN as p (by omega)
  simp only[Tm.size,zm9,zaC] at hn
  obtain⟨t,h3,x,y,h4,h5,h6⟩:=zvy n a (p - (za l).length) (by omega) (zvQ ho.2) (by omega)
  refine ⟨t,h3,(c:Int)::za l++x,y++za r,?_,?_,fun u => ?_⟩
  ·simp only[Tm.codes,zdU,za,h4]; simp
  ·simp only[List.cons_append,List.length_cons,List.length_append]; omega
  ·obtain⟨b,g1,g2⟩:=h6 u
   refine ⟨.f c (l++b::r),.arg c l r g1,?_⟩
   simp only[Tm.codes,zdU,za,g2]; simp
def RR (t u:Tm) (ts us:List Tm):Prop:=∃ l a b r,ts=l++a::r∧us=l++b::r∧RT t u a b
theorem zFw {a0:List zi} {ts:List Tm} {p:Nat} (ho:okR a0 24 ts) (h:p<(za ts).length):∃ t:Tm,t.ok a0 24∧∃ x y,za ts=x++t.codes++y∧x.length=p∧∀ u:Tm,∃ us,RR t u ts us∧za us=x++u.codes++y:=by
 obtain⟨l,a,r,rfl,h1,h2⟩:=zmN ts p h
 obtain⟨t,h3,x,y,h4,h5,h6⟩:=zvy a.size a (p - (za l).length) (Nat.le_refl _) (zvQ ho) (by omega)
 refine ⟨t,h3,za l++x,y++za r,by simp only[zdU,za,h4]; simp,by simp only[List.length_append]; omega,fun u => ?_⟩
 obtain⟨b,g1,g2⟩:=h6 u
 exact ⟨l++b::r,⟨l,a,b,r,rfl,rfl,g1⟩,by simp only[zdU,za,g2]; simp⟩
theorem RT.ok {a0:List zi} {N:Nat} {t u a b:Tm} (h:RT t u a b) (hu:u.ok a0 N) (ha:a.ok a0 N):b.ok a0 N:=by
 induction h with
 | here=>exact hu
 | arg c l r h ih =>
  refine ⟨by have:=ha.1; simpa using this,zcp.2 fun w hw => ?_⟩
  have h2:=zcp.1 ha.2
  rcases List.mem_append.1 hw with hw | hw
  ·exact h2 w (List.mem_append_left _ hw)
  ·rcases List.mem_cons.1 hw with rfl | hw
   ·exact ih (h2 _ (by simp))
   ·exact h2 w (by simp [hw])
theorem RR.ok {a0:List zi} {N:Nat} {t u:Tm} {ts us:List Tm} (h:RR t u ts us) (hu:u.ok a0 N) (ha:okR a0 N ts):okR a0 N us:=by
 obtain⟨l,a,b,r,rfl,rfl,h⟩:=h
 refine zcp.2 fun w hw => ?_
 have h2:=zcp.1 ha
 rcases List.mem_append.1 hw with hw | hw
 ·exact h2 w (List.mem_append_left _ hw)
 ·rcases List.mem_cons.1 hw with rfl | hw
  ·exact h.ok hu (h2 _ (by simp))
  ·exact h2 w (by simp [hw])
theorem RR.len {t u:Tm} {ts us:List Tm} (h:RR t u ts us):us.length=ts.length:=by
 obtain⟨l,a,b,r,rfl,rfl,h⟩:=h
 simp
theorem zCP {a0:List zi} {t:Tm} (ht:t.ok a0 24) (x y:List Int):sk a0 1 ((x++t.codes++y).drop x.length)=some t.codes.length:=by
 rw[List.append_assoc,List.drop_left]
 exact zrI y (t.sk_codes ht)
theorem zsH {a0:List zi} (hs:SignOk a0) {t:Tm} (ht:t.ok a0 24) (x y:List Int) (hl:(x++t.codes++y).length≤1000):zdK a0 (x++t.codes++y) (x.length:Int)=some (((x.length+t.codes.length:Nat):Int),true):=by
 rw[zf7 hs _ (by omega),zCP ht]
theorem zE0 {a0:List zi} (hs:SignOk a0) {t:Tm} (ht:t.ok a0 24) (x y:List Int) (hl:(x++t.codes++y).length≤1000):ziV a0 (x++t.codes++y) (x.length:Int)=some ((x.length+t.codes.length:Nat):Int):=by
 rw[zmK hs _ (by omega) _ (by simp only[List.length_append]; omega),zCP ht]
 rfl
theorem zEl (x z y:List Int):zcD (x++z++y) (some (x.length:Int)) (some ((x.length+z.length:Nat):Int))=some z:=by
 show slc (x++z++y) (x.length:Int) ((x.length+z.length:Nat):Int)=_
 unfold slc
 rw[decide_eq_true (show (0:Int)≤(x.length:Int) by omega),decide_eq_true (show (x.length:Int)≤((x.length+z.length:Nat):Int) by omega),decide_eq_true (show ((x.length+z.length:Nat):Int)≤(((x++z++y).length:Nat):Int) by simp only[List.length_append]; omega)]
 simp only[cond_true,Bool.and_self,Int.toNat_natCast]
 have e:(x++z++y).take (x.length+z.length)=x++z:=by rw[show x.length+z.length=(x++z).length by simp,List.take_left]
 rw[e,List.drop_left]
theorem zxw (x z y:List Int):zcD (x++z++y) none (some (x.length:Int))=some x:=by
 rw[zpe _ (by simp only[List.length_append]; omega)]
 simp
theorem zAp (x z y:List Int):zcD (x++z++y) (some ((x.length+z.length:Nat):Int)) none=some y:=by
 rw[ztl _ (by simp only[List.length_append]; omega)]
 rw[show x.length+z.length=(x++z).length by simp,List.drop_left]
theorem zlu {a0:List zi} (hb:zdp a0=true) {t:Tm} (ht:t.ok a0 24) (hl:t.codes.length≤48):zc0 a0 t.codes=some true:=by
 have h:=z1 (a0:=a0) [t] ⟨ht,trivial⟩
 have e:za [t]=t.codes:=by simp [za]
 rw[e] at h
 unfold zc0
 rw[zek,Option.bind_some]
 unfold zbS
 rw[hb,decide_eq_true hl]
 simp only[Bool.and_self,cond_true,h]
 rfl
theorem zmJ (a0:List zi) (xs:List Int):∃ b,zbV a0 xs=some b:=⟨_,zcT a0 xs⟩
theorem zzS {a0:List zi} {a b:List Int} {k:Int} (h:zk4 a0 a b=some (k,0)):k=0∨k=1∨k=2∨k=3:=by
 unfold zk4 at h
 simp only[Option.bind_eq_some_iff] at h
 obtain⟨r,-,h⟩:=h
 cases r with
 | true=>injection h with h; injection h with h; exact .inr (.inl h.symm)
 | false =>
  simp only[cond_false,Option.bind_eq_some_iff] at h
  obtain⟨r,-,h⟩:=h
  cases r with
  | true=>injection h with h; injection h with h; exact .inr (.inr (.inl h.symm))
  | false =>
   simp only[cond_false,Option.bind_eq_some_iff] at h
   obtain⟨r,-,h⟩:=h
   cases r with
   | true=>injection h with h; injection h with h; exact .inl h.symm
   | false=>injection h with h; injection h with h; exact .inr (.inr (.inr h.symm))
theorem zoG {a0:List zi} (hb:zdp a0=true) {t u:Tm} (ht:t.ok a0 24) (hu:u.ok a0 24) (hlt:t.codes.length≤48) (hlu:u.codes.length≤48):∃ k,zdg a0 t.codes u.codes=some k∧zba a0 t.codes u.codes=some (k,0)∧zk4 a0 t.codes u.codes=some (k,0)∧(k=0∨k=1∨k=2∨k=3):=by
 obtain⟨k,h1,h2⟩:=zoM (zbW hb) ht hu (by omega) (by omega)
 refine ⟨k,h1,?_,h2,zzS h2⟩
 rw[← h2]
 obtain⟨b1,e1⟩:=zmJ a0 t.codes
 obtain⟨b2,e2⟩:=zmJ a0 u.codes
 unfold zba
 rw[zlu hb ht hlt,zlu hb hu hlu,e1,e2]
 cases b1<;>cases b2<;>rfl
end
end Go.Abs.Q
namespace Go.Abs.Q
open Go Go.Abs
section
theorem zow (a0:List zi) (L:List zc) (T:List jI) (C:List zc) (L':List zc) (T':List jI) (C':List zc) :
  zdH a0 L T C L' T' C'=(zdI a0 L T C L' T' C').bind fun r=>some (r.2.2.1,r.1,r.2.1,r.2.2.2):=by
 have half:∀(n:Int),((yn a0 L' T' C').bind fun r17 =>
   cond (decide (((List.length r17.2:Nat):Int)>0))
   ((inR (IntKind.wrap .i64 (((List.length r17.2:Nat):Int) - 1)) (List.length r17.2)).bind fun k18 =>
    (r17.2[k18]?).bind fun x19 =>
    cond (decide ((IntKind.wrap .i64 (x19+n))>23))
    (some (false,([]:jQ),([]:jR),([]:jQ)))
    ((zF L' T' C' n).bind fun r20=>some (true,r20.1,r20.2.1,r20.2.2)))
   ((zF L' T' C' n).bind fun r21=>some (true,r21.1,r21.2.1,r21.2.2))) =
  ((yn a0 L' T' C').bind fun r17 =>
   cond (decide (((List.length r17.2:Nat):Int)>0))
   ((inR (IntKind.wrap .i64 (((List.length r17.2:Nat):Int) - 1)) (List.length r17.2)).bind fun k18 =>
    (r17.2[k18]?).bind fun x19 =>
    cond (decide ((IntKind.wrap .i64 (x19+n))>23))
    (some (([]:jQ),([]:jR),false,([]:jQ)))
    ((zF L' T' C' n).bind fun r20=>some (r20.1,r20.2.1,true,r20.2.2)))
   ((zF L' T' C' n).bind fun r21=>some (r21.1,r21.2.1,true,r21.2.2))).bind fun r=>some (r.2.2.1,r.1,r.2.1,r.2.2.2):=by
  intro n
  cases yn a0 L' T' C' with
  | none=>rfl
  | some r17 =>
   simp only[Option.bind_some]
   have fin:((zF L' T' C' n).bind fun r20=>some (true,r20.1,r20.2.1,r20.2.2))=((zF L' T' C' n).bind fun r20=>some (r20.1,r20.2.1,true,r20.2.2)).bind fun r=>some (r.2.2.1,r.1,r.2.1,r.2.2.2):=by
    cases zF L' T' C' n<;>rfl
   cases decide (((List.length r17.2:Nat):Int)>0) with
   | false=>exact fin
   | true =>
    simp only[cond_true]
    cases inR (IntKind.wrap .i64 (((List.length r17.2:Nat):Int) - 1)) (List.length r17.2) with
    | none=>rfl
    | some k18 =>
     simp only[Option.bind_some]
     cases r17.2[k18]? with
     | none=>rfl
     | some x19 =>
      simp only[Option.bind_some]
      cases decide (IntKind.wrap .i64 (x19+n)>23) with
      | true=>rfl
      | false=>exact fin
 unfold zdH zdI
 cases yn a0 L T C with
 | none=>rfl
 | some r14 =>
  simp only[Option.bind_some]
  cases decide (((List.length r14.2:Nat):Int)>0) with
  | false=>exact half 0
  | true =>
   simp only[cond_true]
   cases inR (IntKind.wrap .i64 (((List.length r14.2:Nat):Int) - 1)) (List.length r14.2) with
   | none=>rfl
   | some k15 =>
    simp only[Option.bind_some]
    cases r14.2[k15]? with
    | none=>rfl
    | some x16=>exact half _
theorem znp:(es:List zc)→(i:Nat)→zu (-1) es i=es
 | [],_=>rfl
 | e::es,i=>by
  unfold zu
  rw[show ((i:Int) != -1)=true from by simp,cond_true,znp es (i+1)]
theorem zqp {L:List zc} {i:Int} (h:q8 L i=true):(zu i L 0).length+1=L.length:=by
 unfold q8 at h
 simp only[Bool.and_eq_true,decide_eq_true_eq] at h
 obtain⟨k,rfl⟩:∃ k:Nat,i=(k:Int):=⟨i.toNat,by omega⟩
 rw[zhn k L 0 (by omega) (by omega)]
 simp; omega
theorem zAN {side:Int} (hside:side=0∨side=1) (s0 s1:Tm):∃(ks kt:Nat) (fr to:Tm),inR side 2=some ks∧inR (IntKind.wrap .i64 (1 - side)) 2=some kt∧([s0.codes,s1.codes])[ks]? = some fr.codes∧([s0.codes,s1.codes])[kt]? = some to.codes ∧
  ((side=0∧fr=s0∧to=s1)∨(side=1∧fr=s1∧to=s0))∧decide (side<0)=false∧decide (side>1)=false:=by
 rcases hside with rfl | rfl
 ·exact ⟨0,1,s0,s1,rfl,rfl,rfl,rfl,.inl ⟨rfl,rfl,rfl⟩,rfl,rfl⟩
 ·exact ⟨1,0,s1,s0,rfl,rfl,rfl,rfl,.inr ⟨rfl,rfl,rfl⟩,rfl,rfl⟩
def PSpec (a0:List zi) (L:List zc) (T:List jI) (C:List zc) (i:Int) (fr to:Tm) (L':List zc) (T':List jI) (C':List zc) (j:Int) (n':Bool) (A':List Int) (at':Nat) (o:Option zmq):Prop :=
 (∃ v,A'[at']? = some v∧v<0∧o=zcN 0) ∨
 ∃(v:Int) (b c:Nat) (us:List Tm),A'[at']? = some v∧0≤v∧b≤24∧TopV (yC L T C) (b:Int)∧A'=(c:Int)::za us∧okR a0 24 us ∧
  ((o=zcN 1501∧∃ x,zhz (yC L' T' C') x∧23<x+(b:Int)) ∨
   ((∀ x,zhz (yC L' T' C') x→x+(b:Int)≤23)∧∃(t:Tm) (x y:List Int),t.ok a0 24∧za (us.map (Tm.up b))=x++t.codes++y∧at'=x.length+1∧okR a0 24 (us.map (Tm.up b))∧(∀ u:Tm,∃ ws,RR t u (us.map (Tm.up b)) ws∧za ws=x++u.codes++y) ∧
    ((o=zcN 0∧∀ θ,¬ Sol θ ([fr].zip [t])) ∨
    ∃ σ,Mgu σ ([fr].zip [t])∧(∀ x,x<24→(σ x).ok a0 24) ∧
     ((o=zcN 1502∧(zaH σ (List.range 24)=false∨48<(fr.sub σ).codes.length∨48<(to.sub σ).codes.length)) ∨
      (zaH σ (List.range 24)=true∧(fr.sub σ).codes.length≤48∧(to.sub σ).codes.length≤48∧∃ k,zba a0 (fr.sub σ).codes (to.sub σ).codes=some (k,0) ∧
       ((o=zcN 0∧(k=0∨k=1)) ∨
       (o=zi6 a0 σ (zu i L 0++(zgO (b:Int) L').set j.toNat (n',(c:Int)::(x++to.codes++y))) (zoK b T T') (zo6 b C C') 1502∧(k=2∨k=3))))))))
theorem qB (t:Tm):t.codes=za [t]:=by simp [za]
theorem zsr {α:Type} {x y:α}:{xs:List α}→{i:Nat}→y∈xs.set i x→y∈xs∨y=x
 | [],i,h=>by simp at h
 | z::zs,0,h=>by
  rcases List.mem_cons.1 h with h | h
  ·exact .inr h
  ·exact .inl (List.mem_cons_of_mem _ h)
 | z::zs,i+1,h=>by
  rcases List.mem_cons.1 h with h | h
  ·exact .inl (h▸List.mem_cons_self ..)
  ·rcases zsr h with h | h
   ·exact .inl (List.mem_cons_of_mem _ h)
   ·exact .inr h
theorem zs1 {a0:List zi} {A:List Int} (h:qz a0 A=true) (h0:gx A 0=some 0):∃ s0 s1:Tm,A=0::za [s0,s1]∧s0.ok a0 24∧s1.ok a0 24∧(za [s0,s1]).length≤48:=by
 obtain⟨c,ts,e,rfl,ho,he,-,hlen,hl48,hb⟩:=zeA h
 rw[qf,List.getElem?_cons_zero] at h0
 injection h0 with h0
 obtain rfl:c=0:=by omega
 rw[(zbW hb).eq] at he
 injection he with he
 subst he
 match ts,hlen,ho,hl48 with
 | [],hlen,_,_=>exact absurd hlen (by decide)
 | [_],hlen,_,_=>exact absurd hlen (by show ¬(((1:Nat):Int)=(2:Int)); decide)
 | _::_::_::_,hlen,_,_=>simp only[List.length_cons] at hlen; exact absurd hlen (by show ¬(_=(2:Int)); omega)
 | [s0,s1],_,ho,hl48=>exact ⟨s0,s1,rfl,ho.1,ho.2.1,hl48⟩
theorem zsC {a0:List zi} (hs:SignOk a0) {s0 s1:Tm} (h0:s0.ok a0 24) (h1:s1.ok a0 24) (hl:(za [s0,s1]).length≤48):zdM a0 (0::za [s0,s1])=some [s0.codes,s1.codes]∧zO a0 (za [s0,s1])=some [s0.codes,s1.codes]:=by
 have hc:=z1 (a0:=a0) [s0,s1] ⟨h0,h1,trivial⟩
 refine ⟨?_,zbb hs (by omega) hc⟩
 unfold zdM
 rw[zcM,Option.bind_some,zcb hs (by omega) hc]
 rfl
theorem zyU {σ:Sb} (t:Tm) (h:∀ c∈t.codes,-24≤c):onB (zeu σ) t.codes=(t.sub σ).codes:=by
 rw[zsj h,Tm.codes_sub]
 rfl
theorem zq2 {a0:List zi} {L:List zc} {T:List jI} {C:List zc} {L':List zc} {T':List jI} {C':List zc} (h:zb5 a0 L T C=true) (h':zb5 a0 L' T' C'=true) {i j:Int} {n':Bool} {A A':List Int}
  (hi:gx L i=some (false,A)) (h0:gx A 0=some 0) (hj:gx L' j=some (n',A')) {side:Int} (hside:side=0∨side=1) {at':Nat} (h1:1≤at') (h2:at'<A'.length) :
  ∃ s0 s1 fr to:Tm,A=0::za [s0,s1]∧s0.ok a0 24∧s1.ok a0 24∧((side=0∧fr=s0∧to=s1)∨(side=1∧fr=s1∧to=s0))∧∃ o,zbt a0 L T C i side L' T' C' j (at':Int)=o∧yL a0 L T C i side L' T' C' j (at':Int)=o∧PSpec a0 L T C i fr to L' T' C' j n' A' at' o:=by
 obtain⟨hsb,l1,l2,l3,l4,l5,l6,-⟩:=zv h
 obtain⟨-,l1',l2',l3',l4',l5',l6',-⟩:=zv h'
 have hs:=zbW hsb
 obtain⟨s0,s1,rfl,ok0,ok1,hA48⟩:=zs1 (List.all_eq_true.1 l4 _ (zeT hi)) h0
 obtain⟨c,us,e',rfl,ho',he',-,hlen',hl48',-⟩:=zeA (List.all_eq_true.1 l4' (n',A') (zeT hj))
 obtain⟨ks,kt,fr,to,e1,e2,e3,e4,hft,hsd1,hsd2⟩:=zAN hside s0 s1
 refine ⟨s0,s1,fr,to,rfl,ok0,ok1,hft,?_⟩
 obtain⟨sd1,sd2⟩:=zsC hs ok0 ok1 hA48
 have hcd:=zmY hs h
 have hcd':=zmY hs h'
 have hcA:Cds (0::za [s0,s1]):=hcd _ (zau (zeT hi))
 have hs0:s0.codes.length+s1.codes.length≤48:=by simpa[za] using hA48
 have hfr:fr.ok a0 24∧fr.codes.length≤48∧∀ c∈fr.codes,-24≤c∧c≤1000000:=by
  rcases hft with ⟨-,rfl,rfl⟩ | ⟨-,rfl,rfl⟩
  ·exact ⟨ok0,by omega,fun c hc=>hcA.2 c (by simp [za,hc])⟩
  ·exact ⟨ok1,by omega,fun c hc=>hcA.2 c (by simp [za,hc])⟩
 have hto:to.ok a0 24∧to.codes.length≤48∧∀ c∈to.codes,-24≤c∧c≤1000000:=by
  rcases hft with ⟨-,rfl,rfl⟩ | ⟨-,rfl,rfl⟩
  ·exact ⟨ok1,by omega,fun c hc=>hcA.2 c (by simp [za,hc])⟩
  ·exact ⟨ok0,by omega,fun c hc=>hcA.2 c (by simp [za,hc])⟩
 obtain⟨hjp,hjl,hjm⟩:0≤j∧j<L'.length∧L'[j.toNat]? = some (n',(c:Int)::za us):=by
  have hj0:=hj
  unfold gx at hj0
  by_cases hn:0≤j
  ·rw[decide_eq_true hn,cond_true] at hj0
   have:=(List.getElem?_eq_some_iff.1 hj0).1
   exact ⟨hn,by omega,hj0⟩
  ·rw[decide_eq_false hn] at hj0; cases hj0
 have hpi:q8 L i=true:=by
  unfold gx at hi
  by_cases hn:0≤i
  ·rw[decide_eq_true hn,cond_true] at hi
   have:=(List.getElem?_eq_some_iff.1 hi).1
   unfold q8
   simp only[Bool.and_eq_true,decide_eq_true_eq]
   omega
  ·rw[decide_eq_false hn] at hi; cases hi
 have hpj:q8 L' j=true:=by
  unfold q8
  simp only[Bool.and_eq_true,decide_eq_true_eq]
  omega
 obtain⟨v,hv⟩:∃ v,((c:Int)::za us)[at']? = some v:=⟨_,List.getElem?_eq_getElem h2⟩
 have hvat:gx ((c:Int)::za us) (at':Int)=some v:=by rw[yx]; exact hv
 -- the reference's guards
 have href:yL a0 L T C i side L' T' C' j (at':Int)=(cond (decide (v<0)) (zcN 0)
   ((zfz L T C L' T' C').bind fun r37 =>
          cond (!r37.2.2.1)
          (zcN 1501)
           ((gx r37.1 j).bind fun e45 =>
           (ziV a0 e45.2 (at':Int)).bind fun r46 =>
           (zcD e45.2 (some (at':Int)) (some r46)).bind fun y47 =>
           (zcJ a0 fr.codes y47).bind fun r48 =>
           cond (!r48.2.1)
           (zcN 1502)
           (cond (!r48.1)
            (zcN 0)
            ((zcV r48.2.2 fr.codes).bind fun r49 =>
             (zcV r48.2.2 to.codes).bind fun r50 =>
             cond (decide (((List.length r49:Nat):Int)>48))
             (zcN 1502)
             (cond (decide (((List.length r50:Nat):Int)>48))
              (zcN 1502)
              ((zdg a0 r49 r50).bind fun r51 =>
               cond (r51==0)
               (zcN 0)
               (cond (r51==1)
                (zcN 0)
                ((zds L i).bind fun r52 =>
                 cond (yQ (List.length r52+List.length r37.1) 32)
                 ((gx r37.1 j).bind fun e53 =>
                  (zgT e45.2 (at':Int) r46 to.codes).bind fun r54 =>
                  (inR (IntKind.wrap .i64 ((IntKind.wrap .i64 (((List.length L:Nat):Int) - 1))+j)) (List.length (r52++r37.1))).bind fun k55 =>
                  ((r52++r37.1)[k55]?).bind fun x56 =>
                  (zkR (List.set (r52++r37.1) k55 (e53.1,r54)) L T C r37.1 r37.2.1 r37.2.2.2).bind fun r57 =>
                  (zgt a0 r48.2.2 r57.1 r57.2.1 r57.2.2).bind fun r58 =>
                  cond (!r58.2.2.1)
                  (zcN 1502)
                  (some (r58.1,r58.2.1,true,(0:Int),r58.2.2.2)))
                 (none)))))))))):=by
  unfold yL zcU
  rw[zN,h,Option.bind_some,zN,h',Option.bind_some,zg5,hpi,zg5,hpj]
  simp only[Bool.not_true,cond_false,Option.bind_some,cond_true,hi,h0,Bool.not_false,beq_self_eq_true,hsd1,hsd2,hj,hvat]
  rw[decide_eq_false (show ¬((at':Int)<1) by omega),cond_false,decide_eq_false (show ¬((at':Int)≥((List.length ((c:Int)::za us):Nat):Int)) by omega),cond_false]
  cases decide (v<0) with
  | true=>rfl
  | false =>
   simp only[cond_false,zcM,Option.bind_some,sd2,List.length_cons,List.length_nil,Nat.zero_add,Nat.reduceAdd,e1,e2,e3,e4]
   rfl
 rw[href]
 unfold zbt
 rw[hj,Option.bind_some]
 simp only[hvat,Option.bind_some]
 by_cases hv0:v<0
 ·rw[decide_eq_true hv0]
  exact ⟨zcN 0,rfl,rfl,.inl ⟨v,hv,hv0,rfl⟩⟩
 ·rw[decide_eq_false hv0,cond_false,cond_false]
  obtain⟨b,hb,htop,hap⟩:=apart_spec hs h h'
  have fin:∀{o1 o2:Option zmq} {o:Option zmq},o1=o→o2=o→PSpec a0 L T C i fr to L' T' C' j n' ((c:Int)::za us) at' o→∃ o,o1=o∧o2=o∧PSpec a0 L T C i fr to L' T' C' j n' ((c:Int)::za us) at' o:=fun h1 h2 h3=>⟨_,h1,h2,h3⟩
  have mk:=fun {o:Option zmq} (hq:_)=>show PSpec a0 L T C i fr to L' T' C' j n' ((c:Int)::za us) at' o from .inr ⟨v,b,c,us,hv,by omega,hb,htop,rfl,ho',hq⟩
  rcases hap with ⟨hap,hfar⟩ | ⟨hap,hnear⟩
  ·rcases zlv hs h h' hb htop with ⟨ap,-⟩ | ⟨ap,hn2⟩
   ·rw[zow,hap,ap]
    exact fin rfl rfl (mk (.inl ⟨rfl,hfar⟩))
   ·obtain⟨x,hx,hfar⟩:=hfar
    have:=hn2 x hx; omega
  ·rcases zlv hs h h' hb htop with ⟨ap,x,hx,hfar⟩ | ⟨ap,-⟩
   ·have:=hnear x hx; omega
   ·rw[zow,hap,ap]
    simp only[Option.bind_some,Bool.not_true,cond_false]
    have hj2:gx (zgO (b:Int) L') j=some (n',(c:Int)::za (us.map (Tm.up b))):=by
     have:=zGk (fun l:zc=>(l.1,l.2.map (upC (b:Int)))) hj
     rw[zsY] at this
     exact this
    have hvar:∀ k:Nat,zjz k us→k+b<24:=fun k hk=>by
     have:=hnear (k:Int) ⟨_,zau (zeT hj),by
      obtain⟨c0,h1,h2,h3⟩:=zgF.2 ⟨k,rfl,hk⟩
      exact ⟨c0,List.mem_cons_of_mem _ h1,h2,h3⟩⟩
     omega
    have hou:=zEu ho' hvar
    have hlu:(za (us.map (Tm.up b))).length=(za us).length:=by rw[← zo2,List.length_map]
    obtain⟨p,rfl⟩:∃ p,at'=p+1:=⟨at' - 1,by omega⟩
    rw[List.length_cons] at h2
    obtain⟨t,ht,x,y,e5,e6,hrep⟩:=zFw hou (p:=p) (by omega)
    subst e6
    have hlx:x.length+t.codes.length+y.length≤48:=by
     have:=congrArg List.length e5
     simp only[List.length_append] at this
     omega
    have mk2:=fun {o:Option zmq} (hq:_)=>mk (o:=o) (.inr ⟨hnear,t,x,y,ht,e5,rfl,hou,hrep,hq⟩)
    have e7:(c:Int)::za (us.map (Tm.up b))=((c:Int)::x)++t.codes++y:=by rw[e5]; simp
    have e8:((x.length+1:Nat):Int)=((((c:Int)::x).length:Nat):Int):=by simp
    have hl1:(((c:Int)::x)++t.codes++y).length≤1000:=by simp only[List.length_append,List.length_cons]; omega
    have hjn:inR j (zgO (b:Int) L').length=some j.toNat:=by
     obtain⟨k,rfl⟩:=Int.eq_ofNat_of_zero_le hjp
     exact yB (by simp [zgO]; omega)
    have hjd:(zgO (b:Int) L')[j.toNat]? = some (n',(c:Int)::za (us.map (Tm.up b))):=by
     have h3:=hj2
     unfold gx at h3
     rwa [decide_eq_true hjp,cond_true] at h3
    rw[hi,Option.bind_some,hj2,Option.bind_some]
    simp only[sd1,Option.bind_some,List.length_cons,List.length_nil,Nat.zero_add,Nat.reduceAdd,e1,e2,e3,e4,hjn,hjd]
    rw[e8,e7,zsH hs ht _ _ hl1,zE0 hs ht _ _ hl1]
    simp only[Option.bind_some,zEl]
    rw[qB fr,qB t]
    rcases zoi hs (xs:=za [fr]) (ys:=za [t]) rfl rfl ⟨hfr.1,trivial⟩ ⟨ht,trivial⟩ hsb (by rw[← qB]; omega) (by rw[← qB]; omega) with ⟨hu,hno⟩ | ⟨-,σ,hm,hok,hu⟩
    ·rcases ze7 hs (ts:=[fr]) (us:=[t]) ⟨hfr.1,trivial⟩ ⟨ht,trivial⟩ (by rw[← qB]; omega) (by rw[← qB]; omega) with ⟨tg,-⟩ | ⟨-,σ',hm',tg⟩
     ·rw[hu,tg]
      exact fin rfl rfl (mk2 (.inl ⟨rfl,hno.resolve_left fun h=>h rfl⟩))
     ·exact absurd hm'.sol (hno.resolve_left (fun h=>h rfl) σ')
    ·rcases ze7 hs (ts:=[fr]) (us:=[t]) ⟨hfr.1,trivial⟩ ⟨ht,trivial⟩ (by rw[← qB]; omega) (by rw[← qB]; omega) with ⟨tg,hno⟩ | ⟨-,σ',hm',tg⟩
     ·exact absurd hm.sol (hno.resolve_left (fun h=>h rfl) σ)
     ·have:=hm.unique hm'
      subst this
      rw[hu,tg]
      have mk3:=fun {o:Option zmq} (hq:_)=>mk2 (o:=o) (.inr ⟨σ,hm,hok,hq⟩)
      cases hsh:zaH σ (List.range 24) with
      | false=>exact fin rfl rfl (mk3 (.inl ⟨rfl,.inl hsh⟩))
      | true =>
       simp only[cond_true,Option.bind_some,show ((0:Int) != 0)=false from rfl,cond_false,Bool.not_true]
       rw[← qB fr,← qB t]
       have nfr:zdm fr.codes:=⟨by omega,fun c hc=>by have:=hfr.2.2 c hc; omega⟩
       have nto:zdm to.codes:=⟨by omega,fun c hc=>by have:=hto.2.2 c hc; omega⟩
       rw[zgE (ziK hsh) nfr.1 nfr.2,zpT (ziK hsh) nfr,zgE (ziK hsh) nto.1 nto.2,zpT (ziK hsh) nto,zyU fr fun c hc=>(hfr.2.2 c hc).1,zyU to fun c hc=>(hto.2.2 c hc).1]
       simp only[Option.bind_some]
       have okf:(fr.sub σ).ok a0 24:=Tm.ok_sub fr hfr.1 fun x hx=>hok x (Tm.ok_has fr hfr.1 hx)
       have okt:(to.sub σ).ok a0 24:=Tm.ok_sub to hto.1 fun x hx=>hok x (Tm.ok_has to hto.1 hx)
       by_cases g1:48<(fr.sub σ).codes.length
       ·rw[decide_eq_true (show ((List.length (fr.sub σ).codes:Nat):Int)>48 by omega)]
        exact fin rfl rfl (mk3 (.inl ⟨rfl,.inr (.inl g1)⟩))
       ·rw[decide_eq_false (show ¬((List.length (fr.sub σ).codes:Nat):Int)>48 by omega),cond_false,cond_false]
        by_cases g2:48<(to.sub σ).codes.length
        ·rw[decide_eq_true (show ((List.length (to.sub σ).codes:Nat):Int)>48 by omega)]
         exact fin rfl rfl (mk3 (.inl ⟨rfl,.inr (.inr g2)⟩))
        ·rw[decide_eq_false (show ¬((List.length (to.sub σ).codes:Nat):Int)>48 by omega),cond_false,cond_false]
         obtain⟨k,w1,w2,-,w4⟩:=zoG hsb okf okt (by omega) (by omega)
         unfold zjd
         rw[w1,w2]
         simp only[Option.bind_some]
         have mk4:=fun {o:Option zmq} (hq:_)=>mk3 (o:=o) (.inr ⟨hsh,by omega,by omega,k,w2,hq⟩)
         by_cases hk:k=0∨k=1
         ·refine fin (o:=zcN 0) ?_ ?_ (mk4 (.inl ⟨rfl,hk⟩))
          ·rcases hk with rfl | rfl<;>rfl
          ·rcases hk with rfl | rfl<;>rfl
         ·have hk2:k=2∨k=3:=by omega
          have hb1:(cond (k != 2) (some (k != 3)) (some false):Option Bool)=some false:=by rcases hk2 with rfl | rfl<;>rfl
          rw[hb1,Option.bind_some,cond_false,show (k==0)=false by simp; omega,show (k==1)=false by simp; omega,cond_false,cond_false]
          unfold ziA zgT
          have hlto:to.codes.length≤48:=hto.2.1
          have hul:(zgO (b:Int) L').length=L'.length:=by simp [zgO]
          have hucl:(zgO (b:Int) C').length=C'.length:=by simp [zgO]
          have hwl:=zqp hpi
          rw[zsH hs ht _ _ hl1]
          simp only[Option.bind_some,zxw,zAp]
          rw[zEF (by simp only[List.length_cons]; omega),zls hpi (by omega),zq (by first | omega | (simp only[List.length_append,List.length_cons,List.length_nil,List.length_map]; omega)),cond_true,zq (by first | omega | (simp only[List.length_append,List.length_cons,List.length_nil,List.length_map]; omega)),cond_true,zq (by first | omega | (simp only[List.length_append,List.length_cons,List.length_nil,List.length_map]; omega)),cond_true]
          simp only[Option.bind_some]
          rw[zq (by first | omega | (simp only[List.length_append,List.length_cons,List.length_nil,List.length_map]; omega)),cond_true]
          have w5:inR (IntKind.wrap .i64 ((IntKind.wrap .i64 (((List.length L:Nat):Int) - 1))+j)) (List.length (zu i L 0++zgO (b:Int) L'))=some ((zu i L 0).length+j.toNat):=by
           rw[show IntKind.wrap .i64 (((List.length L:Nat):Int) - 1)=(((zu i L 0).length:Nat):Int) by rw[zp]<;>omega,show IntKind.wrap .i64 ((((zu i L 0).length:Nat):Int)+j)=(((zu i L 0).length+j.toNat:Nat):Int) by rw[zp]<;>omega]
           exact yB (by rw[List.length_append]; omega)
          have w6:(zu i L 0++zgO (b:Int) L')[(zu i L 0).length+j.toNat]? = some (n',(c:Int)::za (us.map (Tm.up b))):=by
           rw[List.getElem?_append_right (by omega),show (zu i L 0).length+j.toNat - (zu i L 0).length=j.toNat by omega]
           exact hjd
          rw[w5,Option.bind_some,w6,Option.bind_some,List.set_append_right _ _ (by omega),show (zu i L 0).length+j.toNat - (zu i L 0).length=j.toNat by omega]
          have e9:(((([]:List Int)++(c:Int)::x))++to.codes)++y=(c:Int)::(x++to.codes++y):=by simp
          have e10:(((c:Int)::x)++to.codes)++y=(c:Int)::(x++to.codes++y):=by simp
          rw[e9,e10]
          have hul2:((zgO (b:Int) L').set j.toNat (n',(c:Int)::(x++to.codes++y))).length=L'.length:=by rw[List.length_set]; exact hul
          unfold zkR
          rw[zis i (-1) (by omega) (by omega) (by omega) (by omega) (by simp; omega) (by omega),Option.bind_some,znp,
           zq (by first | omega | (simp only[List.length_append,List.length_cons,List.length_nil,List.length_map]; omega)),cond_true,zq (by first | omega | (simp only[List.length_append,List.length_cons,List.length_nil,List.length_map]; omega)),cond_true,zq (by first | omega | (simp only[List.length_append,List.length_cons,List.length_nil,List.length_map]; omega)),cond_true,zq (by first | omega | (simp only[List.length_append,List.length_cons,List.length_nil,List.length_map]; omega)),cond_true,Option.bind_some]
          have hup:∀ r∈yC L' T' C',Cds (r.map (upC (b:Int))):=fun r hr=>zFO (hcd' r hr) fun x hx=>hnear x ⟨r,hr,hx⟩
          have hupl:∀ ls:List zc,(∀ l∈ls,l.2∈yC L' T' C')→∀ l∈zgO (b:Int) ls,Cds l.2:=fun ls hls l hl=>by
           obtain⟨l0,h0,rfl⟩:=List.mem_map.1 hl
           exact hup _ (hls l0 h0)
          have hA2:Cds ((c:Int)::za (us.map (Tm.up b))):=hupl L' (fun l hl=>zau hl) _ (zeT hj2)
          have hnew:Cds ((c:Int)::(x++to.codes++y)):=by
           refine ⟨by simp only[List.length_cons,List.length_append]; omega,fun d hd => ?_⟩
           rcases List.mem_cons.1 hd with rfl | hd
           ·exact hA2.2 _ (List.mem_cons_self ..)
           ·rcases List.mem_append.1 hd with hd | hd
            ·rcases List.mem_append.1 hd with hd | hd
             ·exact hA2.2 d (by rw[e5]; simp [hd])
             ·exact hto.2.2 d hd
            ·exact hA2.2 d (by rw[e5]; simp [hd])
          have cL:∀ l∈zu i L 0++(zgO (b:Int) L').set j.toNat (n',(c:Int)::(x++to.codes++y)),Cds l.2:=fun l hl=>by
           rcases List.mem_append.1 hl with hl | hl
           ·exact hcd _ (zau (zdW L 0 hl))
           ·rcases zsr hl with hl | rfl
            ·exact hupl L' (fun l hl=>zau hl) l hl
            ·exact hnew
          have cT:∀ r∈zoK b T T',Cds r:=fun r hr=>by
           unfold zoK at hr
           rcases List.mem_append.1 hr with hr | hr
           ·exact hcd _ (zcu hr)
           ·obtain⟨r0,h0,rfl⟩:=List.mem_map.1 hr
            exact hup _ (zcu h0)
          have cC:∀ l∈zo6 b C C',Cds l.2:=fun l hl=>by
           unfold zo6 at hl
           rcases List.mem_append.1 hl with hl | hl
           ·exact hcd _ (zbZ hl)
           ·exact hupl C' (fun l hl=>zbZ hl) l hl
          have nL:(zu i L 0++(zgO (b:Int) L').set j.toNat (n',(c:Int)::(x++to.codes++y))).length≤100:=by rw[List.length_append]; omega
          have nT:(zoK b T T').length≤100:=by unfold zoK; rw[List.length_append,List.length_map]; omega
          have nC:(zo6 b C C').length≤100:=by unfold zo6; rw[List.length_append]; omega
          refine fin ?_ (zqh (a0:=a0) hs hsh cL cT cC (by omega) (by omega) (by omega) 1502) (mk4 (.inr ⟨rfl,hk2⟩))
          simp only
          rw[show T++T'.map (List.map (upC (b:Int)))=zoK b T T' from rfl,show C++zgO (b:Int) C'=zo6 b C C' from rfl,zA8 hsh cL cT cC (by omega) (by omega) (by omega),Option.bind_some,zhE,Option.bind_some]
          unfold zi6
          cases zb5 a0 (q6 σ (zu i L 0++(zgO (b:Int) L').set j.toNat (n',(c:Int)::(x++to.codes++y)))) ((zoK b T T').map (zb0 σ)) (q6 σ (zo6 b C C')) with
          | true=>rfl
          | false=>rfl
end
end Go.Abs.Q
namespace Go.Abs.Q
open Go Go.Abs
section
theorem PSpec.okR {a0:List zi} {L:List zc} {T:List jI} {C:List zc} {i:Int} {fr to:Tm} {L':List zc} {T':List jI} {C':List zc} {j:Int} {n':Bool} {A':List Int} {at':Nat} {o:Option zmq} (h:PSpec a0 L T C i fr to L' T' C' j n' A' at' o):OkR a0 o:=by
 rcases h with ⟨_,_,_,h⟩ | ⟨_,_,_,_,_,_,_,_,_,_,⟨h,_⟩ | ⟨_,_,_,_,_,_,_,_,_,⟨h,_⟩ | ⟨_,_,_,⟨h,_⟩ | ⟨_,_,_,_,_,⟨h,_⟩ | ⟨h,_⟩⟩⟩⟩⟩
 ·exact zfS h
 ·exact zfS h
 ·exact zfS h
 ·exact zfS h
 ·exact zfS h
 ·rw[h]; exact znV
def eqB (L:List zc) (i:Int) (neg:Bool):Bool:=q8 L i&&(match gx L i with
 | some l=>(gx l.2 0==some 0)&&(l.1==neg)
 | none=>false)
theorem zoY {L:List zc} {i:Int} {neg:Bool} (h:eqB L i neg=true):∃ A,gx L i=some (neg,A)∧gx A 0=some 0:=by
 unfold eqB at h
 cases hp:q8 L i with
 | false=>rw[hp] at h; cases h
 | true =>
  rw[hp,Bool.true_and] at h
  cases hg:gx L i with
  | none=>rw[hg] at h; cases h
  | some l =>
   rw[hg] at h
   simp only[Bool.and_eq_true,beq_iff_eq] at h
   exact ⟨l.2,by rw[← h.2],h.1⟩
theorem zxn {L:List zc} {i:Int} {n neg:Bool} {A:List Int} (h:gx L i=some (n,A)) (hp:q8 L i=true):eqB L i neg=((gx A 0==some 0)&&(n==neg)):=by
 unfold eqB
 rw[hp,h,Bool.true_and]
theorem zj9 {a0:List zi} {A:List Int} (h:qz a0 A=true):∃ c:Nat,gx A 0=some (c:Int):=by
 obtain⟨c,ts,e,rfl,-⟩:=zeA h
 exact ⟨c,by rw[qf]; rfl⟩
theorem zcX {a0:List zi} {L:List zc} (hL:∀ l∈L,qz a0 l.2=true) (T:List jI) (C:List zc) (i:Int) (neg:Bool):zbO L T C i neg=some (eqB L i neg):=by
 unfold zbO
 by_cases h0:i≥0
 ·rw[decide_eq_true h0,cond_true]
  by_cases h1:i<((List.length L:Nat):Int)
  ·have hp:q8 L i=true:=by unfold q8; simp only[Bool.and_eq_true,decide_eq_true_eq]; exact ⟨h0,h1⟩
   obtain⟨⟨n,A⟩,hg⟩:=zke hp
   obtain⟨c,hc⟩:=zj9 (hL _ (zeT hg))
   rw[decide_eq_true h1,cond_true,hg,Option.bind_some,hc,Option.bind_some,Option.bind_some,zxn hg hp,hc]
   by_cases e:(c:Int)=0
   ·rw[e]; rfl
   ·rw[show ((c:Int)==0)=false by simpa using e,show (some (c:Int)==some 0)=false by simpa using e]; rfl
  ·have hp:q8 L i=false:=by unfold q8; rw[decide_eq_false h1,Bool.and_false]
   rw[decide_eq_false h1,cond_false]
   unfold eqB
   rw[hp]; rfl
 ·have hp:q8 L i=false:=by unfold q8; rw[decide_eq_false h0,Bool.false_and]
  rw[decide_eq_false h0,cond_false]
  unfold eqB
  rw[hp]; rfl
theorem zay {a0:List zi} {L:List zc} (hL:∀ l∈L,qz a0 l.2=true) (T:List jI) (C:List zc) (i:Int):zcU L T C i=some (eqB L i false):=by
 unfold zcU
 rw[zg5,Option.bind_some]
 cases hp:q8 L i with
 | false=>unfold eqB; rw[hp]; rfl
 | true =>
  obtain⟨⟨n,A⟩,hg⟩:=zke hp
  obtain⟨c,hc⟩:=zj9 (hL _ (zeT hg))
  rw[cond_true,hg,Option.bind_some,Option.bind_some,hc,Option.bind_some,zxn hg hp,hc]
  have e:(some (c:Int)==some 0)=((c:Int)==0):=rfl
  rw[e]
  cases n<;>cases (c:Int)==0<;>rfl
theorem zJJ (o:Option zmq):(o.bind fun r=>some (r.1,r.2.1,r.2.2.1,r.2.2.2.1,r.2.2.2.2))=o:=by cases o<;>rfl
theorem zmM (a0:List zi) (L:List zc) (T:List jI) (C:List zc) (i side:Int) (L':List zc) (T':List jI) (C':List zc) (j at':Int) :
  yL a0 L T C i side L' T' C' j at'=zdx a0 L T C i side L' T' C' j at'∧OkR a0 (zdx a0 L T C i side L' T' C' j at'):=by
 have bad:∀{o o':Option zmq} {k:Int},o=zcN k→o'=zcN k→o=o'∧OkR a0 o':=fun h h'=>⟨h.trans h'.symm,zfS h'⟩
 have key:zb5 a0 L T C=true→zb5 a0 L' T' C'=true→eqB L i false=true→(side=0∨side=1)→0≤j→j<L'.length→1≤at'→(∀ l,gx L' j=some l→at'<l.2.length)→yL a0 L T C i side L' T' C' j at'=zbt a0 L T C i side L' T' C' j at'∧OkR a0 (zbt a0 L T C i side L' T' C' j at'):=by
  intro h h' he hsd hj0 hj1 ha hal
  obtain⟨A,g1,g2⟩:=zoY he
  obtain⟨⟨n',A'⟩,g3,-⟩:=zkn hj0 hj1
  obtain⟨k,rfl⟩:=Int.eq_ofNat_of_zero_le (show 0≤at' by omega)
  obtain⟨s0,s1,fr,to,-,-,-,-,o,o1,o2,o3⟩:=zq2 h h' g1 g2 g3 hsd (show 1≤k by omega) (by have:=hal _ g3; exact Int.ofNat_lt.1 this)
  rw[o1,o2]
  exact ⟨rfl,o3.okR⟩
 unfold zdx
 rw[zK,Option.bind_some]
 cases h:zb5 a0 L T C with
 | false=>unfold yL; rw[zN,h]; exact bad (k:=1500) rfl rfl
 | true =>
  rw[Bool.not_true,cond_false,zK,Option.bind_some]
  cases h':zb5 a0 L' T' C' with
  | false=>unfold yL; rw[zN,h,Option.bind_some,zN,h']; exact bad (k:=1500) rfl rfl
  | true =>
   have hL:∀ l∈L,qz a0 l.2=true:=fun l hl=>List.all_eq_true.1 (zv h).2.2.2.2.1 l hl
   rw[Bool.not_true,cond_false,zcX hL,Option.bind_some]
   cases he:eqB L i false with
   | false=>unfold yL; rw[zN,h,Option.bind_some,zN,h',Option.bind_some,zay hL,he]; exact bad (k:=1500) rfl rfl
   | true =>
    rw[Bool.not_true,cond_false]
    have refl:∀{b:Bool},(decide (side<0)||decide (side>1))=b→yL a0 L T C i side L' T' C' j at'=cond b (zcN 1500) (yL a0 L T C i side L' T' C' j at'):=by
     intro b hb
     cases b with
     | false=>rfl
     | true =>
      unfold yL
      rw[zN,h,Option.bind_some,zN,h',Option.bind_some,zay hL,he]
      simp only[Option.bind_some,Bool.not_true,cond_false]
      cases h1:decide (side<0) with
      | true=>rfl
      | false=>rw[h1,Bool.false_or] at hb; rw[hb]; rfl
    have ref2:(side=0∨side=1)→∀{o:Option zmq},o=cond (decide (j<0)) (zcN 1500) (cond (decide (j≥((List.length L':Nat):Int))) (zcN 1500) (cond (decide (at'<1)) (zcN 1500) ((gx L' j).bind fun e11=>cond (decide (at'≥((List.length e11.2:Nat):Int))) (zcN 1500) ((zbt a0 L T C i side L' T' C' j at').bind fun r12=>some (r12.1,r12.2.1,r12.2.2.1,r12.2.2.2.1,r12.2.2.2.2))))) →
      yL a0 L T C i side L' T' C' j at'=o∧OkR a0 o:=by
     intro hsd o ho
     have hsd1:decide (side<0)=false:=by rcases hsd with rfl | rfl<;>rfl
     have hsd2:decide (side>1)=false:=by rcases hsd with rfl | rfl<;>rfl
     have step:yL a0 L T C i side L' T' C' j at'=cond (!q8 L' j) (zcN 1500) (cond (decide (at'<1)) (zcN 1500) ((gx L' j).bind fun e=>cond (decide (at'≥((List.length e.2:Nat):Int))) (zcN 1500) (yL a0 L T C i side L' T' C' j at'))):=by
      cases hp:q8 L' j with
      | false=>unfold yL; rw[zN,h,Option.bind_some,zN,h',Option.bind_some,zay hL,he,zg5,hp,hsd1,hsd2]; rfl
      | true =>
       rw[Bool.not_true,cond_false]
       cases h1:decide (at'<1) with
       | true=>unfold yL; rw[zN,h,Option.bind_some,zN,h',Option.bind_some,zay hL,he,zg5,hp,hsd1,hsd2,h1]; rfl
       | false =>
        obtain⟨l,hg⟩:=zke hp
        rw[cond_false,hg,Option.bind_some]
        cases h2:decide (at'≥((List.length l.2:Nat):Int)) with
        | true =>
         rw[cond_true]
         unfold yL
         rw[zN,h,Option.bind_some,zN,h',Option.bind_some,zay hL,he,zg5,hp,hsd1,hsd2,h1,hg]
         simp only[Option.bind_some,Bool.not_true,cond_false,h2]
         rfl
        | false=>rfl
     rw[ho]
     by_cases j0:j<0
     ·have hp:q8 L' j=false:=by unfold q8; rw[decide_eq_false (show ¬ j≥0 by omega),Bool.false_and]
      rw[decide_eq_true j0]
      refine bad (k:=1500) ?_ rfl
      rw[step,hp]; rfl
     ·rw[decide_eq_false j0,cond_false]
      by_cases j1:j≥((List.length L':Nat):Int)
      ·have hp:q8 L' j=false:=by unfold q8; rw[decide_eq_false (show ¬ j<((List.length L':Nat):Int) by omega),Bool.and_false]
       rw[decide_eq_true j1]
       refine bad (k:=1500) ?_ rfl
       rw[step,hp]; rfl
      ·have hp:q8 L' j=true:=by unfold q8; simp only[Bool.and_eq_true,decide_eq_true_eq]; omega
       rw[decide_eq_false j1,cond_false]
       by_cases a1:at'<1
       ·rw[decide_eq_true a1]
        refine bad (k:=1500) ?_ rfl
        rw[step,hp,decide_eq_true a1]; rfl
       ·obtain⟨l,hg⟩:=zke hp
        rw[decide_eq_false a1,cond_false,hg,Option.bind_some]
        by_cases a2:at'≥((List.length l.2:Nat):Int)
        ·rw[decide_eq_true a2]
         refine bad (k:=1500) ?_ rfl
         rw[step,hp,decide_eq_false a1,hg,Option.bind_some,decide_eq_true a2]; rfl
        ·rw[decide_eq_false a2,cond_false,zJJ]
         exact key h h' he hsd (by omega) (by omega) (by omega) fun l2 hl2=>by
          rw[hg] at hl2; injection hl2 with hl2; subst hl2; omega
    by_cases s0:side=0
    ·rw[show (side != 0)=false by simp [s0],cond_false]
     exact ref2 (.inl s0) rfl
    ·rw[show (side != 0)=true by simp [s0],cond_true]
     by_cases s1:side=1
     ·rw[show (side != 1)=false by simp [s1],cond_false]
      exact ref2 (.inr s1) rfl
     ·rw[show (side != 1)=true by simp [s1],cond_true]
      refine bad (k:=1500) ?_ rfl
      rw[refl (b:=true) (by simp only[Bool.or_eq_true,decide_eq_true_eq]; omega)]
      rfl
theorem zm6 {a0:List zi} {L:List zc} {T:List jI} {C:List zc} (h:zb5 a0 L T C=true) {i:Int} (he:eqB L i true=true) :
  ∃ A s0 s1,gx L i=some (true,A)∧A=0::za [s0,s1]∧s0.ok a0 24∧s1.ok a0 24∧∃ o,zaP a0 L T C i=o∧zfX a0 L T C i=o ∧
   ((∃ k,o=zcN k)∨∃ σ,Mgu σ ([s0].zip [s1])∧(∀ x,x<24→(σ x).ok a0 24)∧o=zi6 a0 σ (zu i L 0) T C 1502):=by
 obtain⟨A,hi,h0⟩:=zoY he
 obtain⟨hsb,l1,l2,l3,l4,l5,l6,-⟩:=zv h
 have hs:=zbW hsb
 obtain⟨s0,s1,rfl,ok0,ok1,hA48⟩:=zs1 (List.all_eq_true.1 l4 _ (zeT hi)) h0
 obtain⟨sd1,sd2⟩:=zsC hs ok0 ok1 hA48
 have hcd:=zmY hs h
 have hs0:s0.codes.length+s1.codes.length≤48:=by simpa[za] using hA48
 refine ⟨_,s0,s1,hi,rfl,ok0,ok1,?_⟩
 have hpi:q8 L i=true:=by
  unfold eqB at he
  cases hp:q8 L i with
  | true=>rfl
  | false=>rw[hp] at he; cases he
 have fin:∀{o1 o2:Option zmq} {o:Option zmq} {P:Option zmq→Prop},o1=o→o2=o→P o→∃ o,o1=o∧o2=o∧P o:=fun h1 h2 h3=>⟨_,h1,h2,h3⟩
 unfold zaP zfX
 rw[zN,h,zg5,hpi,hi]
 simp only[Option.bind_some,Bool.not_true,cond_false,h0,bne_self_eq_false,zcM,sd1,sd2,show inR 0 ([s0.codes,s1.codes]).length=some 0 from rfl,show inR 1 ([s0.codes,s1.codes]).length=some 1 from rfl,List.getElem?_cons_zero,List.getElem?_cons_succ]
 rw[qB s0,qB s1]
 rcases zoi hs (xs:=za [s0]) (ys:=za [s1]) rfl rfl ⟨ok0,trivial⟩ ⟨ok1,trivial⟩ hsb (by rw[← qB]; omega) (by rw[← qB]; omega) with ⟨hu,hno⟩ | ⟨-,σ,hm,hok,hu⟩
 ·rcases ze7 hs (ts:=[s0]) (us:=[s1]) ⟨ok0,trivial⟩ ⟨ok1,trivial⟩ (by rw[← qB]; omega) (by rw[← qB]; omega) with ⟨tg,-⟩ | ⟨-,σ',hm',tg⟩
  ·rw[hu,tg]
   exact fin (o:=zcN 0) rfl rfl (.inl ⟨_,rfl⟩)
  ·exact absurd hm'.sol (hno.resolve_left (fun h=>h rfl) σ')
 ·rcases ze7 hs (ts:=[s0]) (us:=[s1]) ⟨ok0,trivial⟩ ⟨ok1,trivial⟩ (by rw[← qB]; omega) (by rw[← qB]; omega) with ⟨tg,hno⟩ | ⟨-,σ',hm',tg⟩
  ·exact absurd hm.sol (hno.resolve_left (fun h=>h rfl) σ)
  ·have:=hm.unique hm'
   subst this
   rw[hu,tg]
   cases hsh:zaH σ (List.range 24) with
   | false=>exact fin (o:=zcN 1502) rfl rfl (.inl ⟨_,rfl⟩)
   | true =>
    simp only[cond_true,Option.bind_some,show ((0:Int) != 0)=false from rfl,cond_false,Bool.not_true]
    have hwl:=zjb i L 0
    have cW:∀ l∈zu i L 0,Cds l.2:=fun l hl=>hcd _ (zau (zdW L 0 hl))
    have cT:∀ r∈T,Cds r:=fun r hr=>hcd _ (zcu hr)
    have cC:∀ l∈C,Cds l.2:=fun l hl=>hcd _ (zbZ hl)
    rw[zls hpi (by omega),Option.bind_some,zis i (-1) (by omega) (by omega) (by omega) (by simp) (by simp) (by simp),Option.bind_some]
    simp only[List.append_nil,zu]
    refine fin ?_ (zqh (a0:=a0) hs hsh cW cT cC (by omega) (by omega) (by omega) 1502) (.inr ⟨σ,hm,hok,rfl⟩)
    rw[zA8 hsh cW cT cC (by omega) (by omega) (by omega),Option.bind_some,zhE,Option.bind_some]
    unfold zi6
    cases zb5 a0 (q6 σ (zu i L 0)) (T.map (zb0 σ)) (q6 σ C) with
    | true=>rfl
    | false=>rfl
theorem zkO {a0:List zi} {L:List zc} {T:List jI} {C:List zc} (h:zb5 a0 L T C=true) {i:Int} (he:eqB L i true=true):zfX a0 L T C i=zaP a0 L T C i∧OkR a0 (zaP a0 L T C i):=by
 obtain⟨A,s0,s1,-,-,-,-,o,o1,o2,o3⟩:=zm6 h he
 rw[o1,o2]
 refine ⟨rfl,?_⟩
 rcases o3 with ⟨k,h⟩ | ⟨σ,-,-,h⟩
 ·exact zfS h
 ·rw[h]; exact znV
end
end Go.Abs.Q
namespace Go.Abs.Q
open Go Go.Abs
section
section
variable {a0:List zi} {L:List zc} (hL:∀ l∈L,qz a0 l.2=true) (T:List jI) (C:List zc)
include hL
theorem zFD (e:Int):zfq e L T C=some (!eqB L e false):=by
 unfold zfq
 rw[zcX hL,Option.bind_some]
theorem zxT {xs:List Int} (hl:xs.length≤1000):(es:List Int)→(i k:Nat)→xs.drop i=es→es.length<k →
  (lp zX k (xs,((List.length xs:Nat):Int),(i:Int),L,T,C)=some (.inl ())∧∀ e∈es,eqB L e false=true) ∨
  ∃ pre e post,es=pre++e::post∧(∀ x∈pre,eqB L x false=true)∧eqB L e false=false∧lp zX k (xs,((List.length xs:Nat):Int),(i:Int),L,T,C)=some (.inr ((i+pre.length:Nat):Int))
 | es,i,0,_,h=>by omega
 | [],i,k+1,h,_=>by
  rw[zj]
  generalize lp zX k=rec
  unfold zX
  simp only[zaq (yd h),cond_false]
  exact .inl ⟨trivial,fun _ h=>(nomatch h)⟩
 | e::es,i,k+1,h,hk=>by
  have hi:=zD h
  have ih:=zxT hl es (i+1) k (ze h) (by simpa using hk)
  rw[zj]
  generalize lp zX k=rec at ih ⊢
  unfold zX
  simp only[zbC hi,cond_true,yx,zh h,Option.bind_some,zFD hL,zbn hi (show xs.length≤maxLen by unfold maxLen; omega)]
  cases he:eqB L e false with
  | false =>
   exact .inr ⟨[],e,es,rfl,fun _ h=>(nomatch h),he,rfl⟩
  | true =>
   rw[Bool.not_true,cond_false]
   rcases ih with ⟨h1,h2⟩ | ⟨pre,d,post,rfl,h2,h3,h4⟩
   ·refine .inl ⟨h1,fun x hx => ?_⟩
    rcases List.mem_cons.1 hx with rfl | hx
    ·exact he
    ·exact h2 x hx
   ·refine .inr ⟨e::pre,d,post,rfl,fun x hx => ?_,h3,?_⟩
    ·rcases List.mem_cons.1 hx with rfl | hx
     ·exact he
     ·exact h2 x hx
    ·rw[h4,List.length_cons,show i+1+pre.length=i+(pre.length+1) by omega]
theorem zyP:(es:List Int)→(i j k:Nat)→(xs:List Int)→xs.length≤1000→xs.drop j=es→i≤j→i≤xs.length→es.length<k →
  ∃(xs':List Int) (i':Nat),lp yc k ((i:Int),(j:Int),xs,L,T,C)=some ((i':Int),xs')∧xs'.length=xs.length∧i'≤xs.length∧xs'.take i'=xs.take i++es.filter fun e=>eqB L e false
 | _,_,_,0,_,_,_,_,_,h=>by omega
 | [],i,j,k+1,xs,hl,h,hij,hi,_=>by
  rw[zj]
  generalize lp yc k=rec
  unfold yc
  simp only[zaq (yd h),cond_false]
  exact ⟨xs,i,rfl,rfl,hi,by simp⟩
 | e::es,i,j,k+1,xs,hl,h,hij,hi0,hk=>by
  have hj:=zD h
  have hM:xs.length≤maxLen:=by unfold maxLen; omega
  have ih1:=zyP es (i+1) (j+1) k (xs.set i e)
  have ih2:=zyP es i (j+1) k xs hl (ze h) (by omega) hi0 (by simpa using hk)
  rw[zj]
  generalize lp yc k=rec at ih1 ih2 ⊢
  unfold yc
  simp only[zbC hj,cond_true,yB hj,zh h,Option.bind_some,zFD hL,zbn hj hM]
  cases he:eqB L e false with
  | true =>
   have hi:i<xs.length:=by omega
   rw[Bool.not_true,Bool.not_false,cond_true,yB hi,Option.bind_some,List.getElem?_eq_getElem hi,Option.bind_some,zbn hi hM]
   obtain⟨xs',i',h1,h2,h3,h4⟩:=ih1 (by rw[List.length_set]; exact hl) (by
    rw[← ze h,List.drop_set]
    rw[if_pos (by omega)]) (by omega) (by rw[List.length_set]; omega) (by simpa using hk)
   rw[List.length_set] at h2 h3
   refine ⟨xs',i',h1,h2,h3,?_⟩
   rw[h4,List.filter_cons_of_pos (by simpa using he),List.take_add_one]
   rw[List.getElem?_set_self hi,List.take_set,List.set_eq_of_length_le (by rw[List.length_take]; omega)]
   simp
  | false =>
   rw[Bool.not_false,Bool.not_true,cond_false]
   obtain⟨xs',i',h1,h2,h3,h4⟩:=ih2
   exact ⟨xs',i',h1,h2,h3,by rw[h4,List.filter_cons_of_neg (by simpa using he)]⟩
theorem zv2 {xs:List Int} (hl:xs.length≤1000):zbU xs L T C=some (xs.filter fun e=>eqB L e false):=by
 unfold zbU zdu
 rcases zxT hL T C hl xs 0 zd rfl (Nat.lt_of_le_of_lt hl (by decide)) with ⟨h1,h2⟩ | ⟨pre,e,post,h1,h2,h3,h4⟩
 ·rw[show ((0:Nat):Int)=0 from rfl] at h1
  rw[h1]
  show some xs=_
  rw[List.filter_eq_self.2 fun e he=>h2 e he]
 ·rw[show ((0:Nat):Int)=0 from rfl] at h4
  rw[h4]
  have hpl:pre.length<xs.length:=by rw[h1]; simp
  have hpost:xs.drop (pre.length+1)=post:=by rw[h1,show pre.length+1=(pre++[e]).length by simp,show pre++e::post=(pre++[e])++post by simp,List.drop_left]
  have hM:xs.length≤maxLen:=by unfold maxLen; omega
  simp only[Option.bind_some,z6,Nat.zero_add]
  rw[show ((((pre.length:Nat):Int)) == -1)=false by simp,cond_false,zbn hpl hM]
  obtain⟨xs',i',g1,g2,g3,g4⟩:=zyP hL T C post pre.length (pre.length+1) zd xs hl hpost (by omega) (by omega) (Nat.lt_of_le_of_lt (show post.length≤1000 by rw[← hpost,List.length_drop]; omega) (by decide))
  rw[g1,Option.bind_some,decide_eq_true (by omega),cond_true,decide_eq_true (show (i':Int)≤((List.length xs':Nat):Int) by omega),cond_true,decide_eq_true (by omega),cond_true]
  simp only[Nat.zero_add,Int.toNat_natCast]
  have e1:(clr xs' i' (xs'.length - i')).take i'=xs'.take i':=by
   unfold clr
   rw[List.append_assoc,List.take_left' (by rw[List.length_take]; omega)]
  rw[zpe _ (by unfold clr; simp only[List.length_append,List.length_take]; omega),Option.bind_some,e1,g4,h1]
  rw[List.filter_append,List.filter_eq_self.2 fun e he=>h2 e he,List.filter_cons_of_neg (by simpa using h3),List.take_left' rfl]
end
end
end Go.Abs.Q
namespace Go.Abs.Q
open Go Go.Abs
section
variable (a0:List zi) (L:List zc) (T:List jI) (C:List zc) (a b:Int) (L':List zc) (T':List jI) (C':List zc)
def zxQ (i side j at' c:Int) (st:List qL):Option (Int×List qL) :=
 (zdx a0 L T C i side L' T' C' j at').bind fun r=>zbM a0 c 3 a i side b j at' r.1 r.2.1 r.2.2.2.2 r.2.2.1 r.2.2.2.1 st
def zzB (i side j:Int):Nat→Nat→Int→List qL→Option (Int×List qL)
 | 0,_,c,st=>some (c,st)
 | m+1,at',c,st=>(zxQ a0 L T C a b L' T' C' i side j (at':Int) c st).bind fun q=>zzB i side j m (at'+1) q.1 q.2
def zbD (j:Int):Nat:=match gx L' j with
 | some l=>l.2.length
 | none=>0
def jGo (i side:Int):List Int→Int→List qL→Option (Int×List qL)
 | [],c,st=>some (c,st)
 | j::js,c,st=>(zzB a0 L T C a b L' T' C' i side j (zbD L' j - 1) 1 c st).bind fun q=>jGo i side js q.1 q.2
def zox (js:List Int) (i c:Int) (st:List qL):Option (Int×List qL) :=
 (jGo a0 L T C a b L' T' C' i 0 js c st).bind fun q=>jGo a0 L T C a b L' T' C' i 1 js q.1 q.2
def iGo (js:List Int):List Int→Int→List qL→Option (Int×List qL)
 | [],c,st=>some (c,st)
 | i::is,c,st=>(zox a0 L T C a b L' T' C' js i c st).bind fun q=>iGo js is q.1 q.2
variable {a0 L T C a b L' T' C'} (h:zb5 a0 L T C=true) (h':zb5 a0 L' T' C'=true)
include h h'
theorem zyg {i side j:Int} {at':Nat} (hi:eqB L i false=true) (hs:side=0∨side=1) (hj0:0≤j) (hj1:j<L'.length) (h1:1≤at') (h2:at'<zbD L' j):zdx a0 L T C i side L' T' C' j (at':Int)=zbt a0 L T C i side L' T' C' j (at':Int):=by
 have hL:∀ l∈L,qz a0 l.2=true:=fun l hl=>List.all_eq_true.1 (zv h).2.2.2.2.1 l hl
 obtain⟨l,hg,-⟩:=zkn hj0 hj1
 have h2:at'<l.2.length:=by unfold zbD at h2; rwa [hg] at h2
 unfold zdx
 rw[zK,h,Option.bind_some,Bool.not_true,cond_false,zK,h',Option.bind_some,Bool.not_true,cond_false,zcX hL,Option.bind_some,hi,Bool.not_true,cond_false,
  decide_eq_false (show ¬ j<0 by omega),decide_eq_false (show ¬ j≥((List.length L':Nat):Int) by omega),decide_eq_false (show ¬(at':Int)<1 by omega)]
 simp only[cond_false,hg,Option.bind_some]
 rw[decide_eq_false (show ¬(at':Int)≥((List.length l.2:Nat):Int) by omega),cond_false,zJJ]
 rcases hs with rfl | rfl<;>rfl
theorem zoy {i side j:Int} {at':Nat} (hi:eqB L i false=true) (hs:side=0∨side=1) (hj0:0≤j) (hj1:j<L'.length) (h1:1≤at') (h2:at'<zbD L' j) (c:Int) (st:List qL) :
  ((zbt a0 L T C i side L' T' C' j (at':Int)).bind fun r=>zM 3 a i side b j (at':Int) [] [] [] r.1 r.2.1 r.2.2.2.2 r.2.2.1 r.2.2.2.1 a0 c st)=(zxQ a0 L T C a b L' T' C' i side j (at':Int) c st).map fun q=>(a0,q.1,q.2):=by
 unfold zxQ
 obtain⟨r,e1,-,e3⟩:=(zmM a0 L T C i side L' T' C' j (at':Int)).2
 rw[← zyg h h' hi hs hj0 hj1 h1 h2,e1,Option.bind_some,Option.bind_some]
 exact zsI a0 3 a i side b j _ [] [] [] _ _ _ _ _ c st e3
omit h h' in
theorem zia {α β γ:Type} (o:Option α) (g:α→β) (k:β→Option γ):(o.map g).bind k=o.bind fun x=>k (g x):=by cases o<;>rfl
omit h h' in
theorem zkV {α β γ:Type} (o:Option α) (g:β→γ) (k:α→Option β):(o.bind k).map g=o.bind fun x=>(k x).map g:=by cases o<;>rfl
theorem zyw {i side j:Int} (hi:eqB L i false=true) (hs:side=0∨side=1) (hj0:0≤j) (hj1:j<L'.length) (u1 u2:List Int) (u3 u4 u5:Int) (u6:List Int) (u7 u8:Int):(m at' k:Nat)→zbD L' j - at'=m→m<k→1≤at'→(c:Int)→(st:List qL) →
  lp zfm k (a0,a,b,u1,i,side,j,(at':Int),u2,u3,u4,u5,u6,u7,u8,L,T,C,L',T',C',a0,c,st)=(zzB a0 L T C a b L' T' C' i side j m at' c st).map fun q=>(a0,q.1,q.2)
 | m,at',0,_,hk,_,_,_=>by omega
 | m,at',k+1,hm,hk,h1,c,st=>by
  obtain⟨l,hg,-⟩:=zkn hj0 hj1
  have hr:zbD L' j=l.2.length:=by unfold zbD; rw[hg]
  have h48:l.2.length≤1000:=by
   have:=zcQ (List.all_eq_true.1 (zv h').2.2.2.2.1 _ (zeT hg))
   omega
  have ih:=zyw hi hs hj0 hj1 u1 u2 u3 u4 u5 u6 u7 u8 (m - 1) (at'+1) k
  rw[zj]
  generalize lp zfm k=rec at ih ⊢
  unfold zfm
  simp only[hg,Option.bind_some]
  by_cases hlt:at'<l.2.length
  ·obtain⟨m,rfl⟩:∃ m',m=m'+1:=⟨m - 1,by omega⟩
   rw[zbC hlt,cond_true,zbn hlt (by unfold maxLen; omega)]
   have hp:=zoy (a:=a) (b:=b) h h' hi hs hj0 hj1 h1 (by omega) c st
   have e:∀ f:List zi×Int×List qL→Option (List zi×Int×List qL),((zbt a0 L T C i side L' T' C' j (at':Int)).bind fun r18=>(zM 3 a i side b j (at':Int) [] [] [] r18.1 r18.2.1 r18.2.2.2.2 r18.2.2.1 r18.2.2.2.1 a0 c st).bind f)=((zbt a0 L T C i side L' T' C' j (at':Int)).bind fun r=>zM 3 a i side b j (at':Int) [] [] [] r.1 r.2.1 r.2.2.2.2 r.2.2.1 r.2.2.2.1 a0 c st).bind f:=fun f=>by
    rw[Option.bind_assoc]
   rw[e,hp,zia]
   unfold zzB
   rw[zkV]
   congr 1
   funext q
   exact ih (by omega) (by omega) (by omega) q.1 q.2
  ·obtain rfl:m=0:=by omega
   rw[zaq (by omega),cond_false]
   rfl
omit h in
theorem zCs {i side j:Int} (hj0:0≤j) (hj1:j<L'.length) (htop:zgY a0 L' j=some true):(m at' k:Nat)→zbD L' j - at'=m→m<k→(c:Int)→(st:List qL) →
  lp zbp k (a0,a,b,c,i,side,j,(at':Int),L,T,C,L',T',C',st)=zzB a0 L T C a b L' T' C' i side j m at' c st
 | m,at',0,_,hk,_,_=>by omega
 | m,at',k+1,hm,hk,c,st=>by
  obtain⟨l,hg,-⟩:=zkn hj0 hj1
  have hr:zbD L' j=l.2.length:=by unfold zbD; rw[hg]
  have h48:l.2.length≤1000:=by
   have:=zcQ (List.all_eq_true.1 (zv h').2.2.2.2.1 _ (zeT hg))
   omega
  have ih:=zCs (i:=i) (side:=side) hj0 hj1 htop (m - 1) (at'+1) k
  rw[zj]
  generalize lp zbp k=rec at ih ⊢
  unfold zbp
  simp only[hg,Option.bind_some]
  by_cases hlt:at'<l.2.length
  ·obtain⟨m,rfl⟩:∃ m',m=m'+1:=⟨m - 1,by omega⟩
   rw[zbC hlt,cond_true,htop,Option.bind_some,cond_true,zbn hlt (by unfold maxLen; omega),(zmM a0 L T C i side L' T' C' j (at':Int)).1]
   unfold zzB zxQ
   rw[Option.bind_assoc]
   congr 1
   funext r
   congr 1
   funext q
   exact ih (by omega) (by omega) q.1 q.2
  ·obtain rfl:m=0:=by omega
   rw[zaq (by omega),cond_false]
   rfl
omit h h' in
theorem zDS {i side j:Int} (hj0:0≤j) (hj1:j<L'.length) (htop:zgY a0 L' j=some false) (k:Nat) (c:Int) (st:List qL) :
  lp zbp (k+1) (a0,a,b,c,i,side,j,1,L,T,C,L',T',C',st)=some (c,st):=by
 obtain⟨l,hg,-⟩:=zkn hj0 hj1
 rw[zj]
 generalize lp zbp k=rec
 unfold zbp
 simp only[hg,Option.bind_some]
 cases decide (1<((List.length l.2:Nat):Int)) with
 | false=>rfl
 | true=>rw[cond_true,htop]; rfl
theorem zyi {i side:Int} (hi:eqB L i false=true) (hs:side=0∨side=1) {js:List Int} (hjs:∀ j∈js,0≤j∧j<L'.length) (hjl:js.length≤1000) (u1 u2:List Int) (u3 u4 u5:Int):(es:List Int)→(n k:Nat)→js.drop n=es→es.length<k→(c:Int)→(st:List qL) →
  lp zc5 k (a0,a,b,u1,i,side,u2,u3,u4,u5,js,((List.length js:Nat):Int),(n:Int),L,T,C,L',T',C',a0,c,st)=(jGo a0 L T C a b L' T' C' i side es c st).map fun q=>(a0,q.1,q.2)
 | _,_,0,_,hk,_,_=>by omega
 | [],n,k+1,hn,hk,c,st=>by
  rw[zj]
  generalize lp zc5 k=rec
  unfold zc5
  simp only[zaq (yd hn),cond_false]
  rfl
 | j::es,n,k+1,hn,hk,c,st=>by
  have hlt:=zD hn
  obtain⟨hj0,hj1⟩:=hjs j (List.mem_of_getElem? (zh hn))
  obtain⟨l,hg,-⟩:=zkn hj0 hj1
  have hr:zbD L' j=l.2.length:=by unfold zbD; rw[hg]
  have h48:l.2.length≤1000:=by
   have:=zcQ (List.all_eq_true.1 (zv h').2.2.2.2.1 _ (zeT hg))
   omega
  have ih:=zyi hi hs hjs hjl u1 u2 u3 u4 u5 es (n+1) k (ze hn) (by simpa using hk)
  rw[zj]
  generalize lp zc5 k=rec at ih ⊢
  unfold zc5 jGo
  simp only[zbC hlt,cond_true,yx,zh hn,Option.bind_some,hg,zbn hlt (show js.length≤maxLen by unfold maxLen; omega)]
  by_cases h1:1<l.2.length
  ·obtain⟨m,hm⟩:∃ m,zbD L' j - 1=m+1:=⟨zbD L' j - 2,by omega⟩
   rw[decide_eq_true (show (1:Int)<((List.length l.2:Nat):Int) by omega),cond_true,hm]
   unfold zzB
   have hp:=zoy (a:=a) (b:=b) h h' hi hs hj0 hj1 (Nat.le_refl 1) (by omega) c st
   rw[show ((1:Nat):Int)=1 from rfl] at hp ⊢
   have e:∀ f:List zi×Int×List qL→Option (List zi×Int×List qL),((zbt a0 L T C i side L' T' C' j 1).bind fun r18=>(zM 3 a i side b j 1 [] [] [] r18.1 r18.2.1 r18.2.2.2.2 r18.2.2.1 r18.2.2.2.1 a0 c st).bind f)=((zbt a0 L T C i side L' T' C' j 1).bind fun r=>zM 3 a i side b j 1 [] [] [] r.1 r.2.1 r.2.2.2.2 r.2.2.1 r.2.2.2.1 a0 c st).bind f:=fun f=>by
    rw[Option.bind_assoc]
   rw[e,hp,zia,Option.bind_assoc,zkV]
   congr 1
   funext q
   have:=zyw (a:=a) (b:=b) h h' hi hs hj0 hj1 u1 u2 u3 u4 u5 js ((List.length js:Nat):Int) (n:Int) m 2 zd (by omega) (Nat.lt_of_le_of_lt (show m≤1000 by omega) (by decide)) (by omega) q.1 q.2
   rw[show ((2:Nat):Int)=2 from rfl] at this
   rw[this,zia,zkV]
   congr 1
   funext q
   exact ih q.1 q.2
  ·rw[decide_eq_false (show ¬(1:Int)<((List.length l.2:Nat):Int) by omega),cond_false,show zbD L' j - 1=0 by omega]
   exact ih c st
omit h in
theorem zD4 {i side:Int}:(es:List zc)→(n k:Nat)→L'.drop n=es→es.length<k→(c:Int)→(st:List qL) →
  lp zck k (a0,a,b,c,i,side,(n:Int),L,T,C,L',T',C',st)=jGo a0 L T C a b L' T' C' i side (zl a0 L' es n) c st
 | _,_,0,_,hk,_,_=>by omega
 | [],n,k+1,hn,hk,c,st=>by
  rw[zj]
  generalize lp zck k=rec
  unfold zck
  simp only[zaq (yd hn),cond_false]
  rfl
 | l::es,n,k+1,hn,hk,c,st=>by
  have hlt:=zD hn
  obtain⟨hsb,l1,-,-,l4,-⟩:=zv h'
  have hs:=zbW hsb
  have hL:∀ l∈L',qz a0 l.2=true:=fun l hl=>List.all_eq_true.1 l4 l hl
  have hg:gx L' (n:Int)=some l:=by rw[yx]; exact zh hn
  have htop:=zrV hs hg hL (by omega)
  have ih:=zD4 (i:=i) (side:=side) es (n+1) k (ze hn) (by simpa using hk)
  rw[zj]
  generalize lp zck k=rec at ih ⊢
  unfold zck zl
  simp only[zbC hlt,cond_true,zbn hlt (show L'.length≤maxLen by unfold maxLen; omega)]
  obtain⟨k',hf⟩:∃ k',zd=k'+1:=⟨zd - 1,rfl⟩
  cases ho:zhM a0 L' l with
  | true =>
   rw[ho] at htop
   rw[hf,zDS (by omega) (by omega) htop,Option.bind_some,cond_true]
   exact ih c st
  | false =>
   rw[ho] at htop
   have hr:zbD L' (n:Int)=l.2.length:=by unfold zbD; rw[hg]
   have h48:l.2.length≤1000:=by
    have:=zcQ (hL _ (zeT hg))
    omega
   have:=zCs (a:=a) (b:=b) (L:=L) (T:=T) (C:=C) (i:=i) (side:=side) h' (show (0:Int)≤(n:Int) by omega) (by omega) htop (zbD L' (n:Int) - 1) 1 zd rfl (Nat.lt_of_le_of_lt (show zbD L' (n:Int) - 1≤1000 by omega) (by decide)) c st
   rw[show ((1:Nat):Int)=1 from rfl] at this
   rw[this,cond_false]
   unfold jGo
   congr 1
   funext q
   exact ih q.1 q.2
omit h h' in
theorem zrA:∀ j∈zl a0 L' L' 0,0≤j∧j<L'.length:=by
 intro j hj
 obtain⟨n,l,h1,rfl,-⟩:=(zlr L' 0 j).1 hj
 have:=(List.getElem?_eq_some_iff.1 h1).1
 omega
theorem zyH {i:Int} (hi:eqB L i false=true) (u2:List Int) (u3 u4:Int) (c:Int) (st:List qL) :
  lp zfl zd (a0,a,b,zl a0 L' L' 0,i,u2,u3,u4,0,L,T,C,L',T',C',a0,c,st)=(zox a0 L T C a b L' T' C' (zl a0 L' L' 0) i c st).map fun q=>(a0,q.1,q.2):=by
 obtain⟨k,hf⟩:∃ k,zd=k+1+1+1:=⟨zd - 3,rfl⟩
 have l1:=(zv h').2.1
 have hlen:=zcs (a0:=a0) (L:=L') L' 0
 have hfu:(zl a0 L' L' 0).length<zd:=Nat.lt_of_le_of_lt (show _≤5 by omega) (by decide)
 rw[hf,zj,zj,zj]
 generalize lp zfl k=rec
 unfold zfl zox
 have j0:=fun c st=>zyi (a:=a) (b:=b) h h' hi (.inl rfl) zrA (by omega) (zl a0 L' L' 0) u2 u3 u4 0 (zl a0 L' L' 0) 0 zd rfl hfu c st
 have j1:=fun c st=>zyi (a:=a) (b:=b) h h' hi (.inr rfl) zrA (by omega) (zl a0 L' L' 0) u2 u3 u4 1 (zl a0 L' L' 0) 0 zd rfl hfu c st
 rw[show ((0:Nat):Int)=0 from rfl] at j0 j1
 simp only[show decide ((0:Int)<2)=true from rfl,cond_true,j0,zia,show IntKind.wrap .i64 ((0:Int)+1)=1 from rfl,show decide ((1:Int)<2)=true from rfl,j1,show IntKind.wrap .i64 ((1:Int)+1)=2 from rfl,show decide ((2:Int)<2)=false from rfl,cond_false]
 rw[zkV]
 congr 1
 funext q
 cases jGo a0 L T C a b L' T' C' i 1 (zl a0 L' L' 0) q.1 q.2<;>rfl
omit h in
theorem zAn {i:Int} (c:Int) (st:List qL) :
  lp zeg zd (a0,a,b,c,i,0,L,T,C,L',T',C',st)=zox a0 L T C a b L' T' C' (zl a0 L' L' 0) i c st:=by
 obtain⟨k,hf⟩:∃ k,zd=k+1+1+1:=⟨zd - 3,rfl⟩
 have l1:=(zv h').2.1
 have hfu:L'.length<zd:=Nat.lt_of_le_of_lt (show _≤5 by omega) (by decide)
 rw[hf,zj,zj,zj]
 generalize lp zeg k=rec
 unfold zeg zox
 have j0:=fun c st=>zD4 (a:=a) (b:=b) (L:=L) (T:=T) (C:=C) (i:=i) (side:=0) h' L' 0 zd rfl hfu c st
 have j1:=fun c st=>zD4 (a:=a) (b:=b) (L:=L) (T:=T) (C:=C) (i:=i) (side:=1) h' L' 0 zd rfl hfu c st
 rw[show ((0:Nat):Int)=0 from rfl] at j0 j1
 simp only[show decide ((0:Int)<2)=true from rfl,cond_true,j0,show IntKind.wrap .i64 ((0:Int)+1)=1 from rfl,show decide ((1:Int)<2)=true from rfl,j1,show IntKind.wrap .i64 ((1:Int)+1)=2 from rfl,show decide ((2:Int)<2)=false from rfl,cond_false]
 congr 1
 funext q
 cases jGo a0 L T C a b L' T' C' i 1 (zl a0 L' L' 0) q.1 q.2<;>rfl
theorem zCt {is:List Int} (his:∀ i∈is,eqB L i false=true) (hil:is.length≤1000):(es:List Int)→(n k:Nat)→is.drop n=es→es.length<k→(c:Int)→(st:List qL) →
  lp zcY k (a0,a,b,zl a0 L' L' 0,is,((List.length is:Nat):Int),(n:Int),L,T,C,L',T',C',a0,c,st)=(iGo a0 L T C a b L' T' C' (zl a0 L' L' 0) es c st).map fun q=>(a0,q.1,q.2)
 | _,_,0,_,hk,_,_=>by omega
 | [],n,k+1,hn,hk,c,st=>by
  rw[zj]
  generalize lp zcY k=rec
  unfold zcY
  simp only[zaq (yd hn),cond_false]
  rfl
 | i::es,n,k+1,hn,hk,c,st=>by
  have hlt:=zD hn
  have hi:=his i (List.mem_of_getElem? (zh hn))
  have ih:=zCt his hil es (n+1) k (ze hn) (by simpa using hk)
  rw[zj]
  generalize lp zcY k=rec at ih ⊢
  unfold zcY iGo
  simp only[zbC hlt,cond_true,yx,zh hn,Option.bind_some,zbn hlt (show is.length≤maxLen by unfold maxLen; omega),zyH h h' hi,zia,zkV]
  congr 1
  funext q
  exact ih q.1 q.2
theorem zHy:(es:List zc)→(n k:Nat)→L.drop n=es→es.length<k→(c:Int)→(st:List qL) →
  lp zb7 k (a0,a,b,c,(n:Int),L,T,C,L',T',C',st)=iGo a0 L T C a b L' T' C' (zl a0 L' L' 0) ((zl a0 L es n).filter fun e=>eqB L e false) c st
 | _,_,0,_,hk,_,_=>by omega
 | [],n,k+1,hn,hk,c,st=>by
  rw[zj]
  generalize lp zb7 k=rec
  unfold zb7
  simp only[zaq (yd hn),cond_false]
  rfl
 | l::es,n,k+1,hn,hk,c,st=>by
  have hlt:=zD hn
  obtain⟨hsb,l1,-,-,l4,-⟩:=zv h
  have hs:=zbW hsb
  have hL:∀ l∈L,qz a0 l.2=true:=fun l hl=>List.all_eq_true.1 l4 l hl
  have hg:gx L (n:Int)=some l:=by rw[yx]; exact zh hn
  have htop:=zrV hs hg hL (by omega)
  have ih:=zHy es (n+1) k (ze hn) (by simpa using hk)
  rw[zj]
  generalize lp zb7 k=rec at ih ⊢
  unfold zb7
  rw[show zl a0 L (l::es) n=cond (zhM a0 L l) (zl a0 L es (n+1)) ((n:Int)::zl a0 L es (n+1)) from rfl]
  simp only[zbC hlt,cond_true,zbn hlt (show L.length≤maxLen by unfold maxLen; omega),zay hL,Option.bind_some,htop]
  cases he:eqB L (n:Int) false with
  | false =>
   rw[Bool.not_false,cond_true]
   cases zhM a0 L l with
   | true=>rw[cond_true]; exact ih c st
   | false=>rw[cond_false,List.filter_cons_of_neg (by simpa using he)]; exact ih c st
  | true =>
   rw[Bool.not_true,cond_false,Bool.not_not]
   cases zhM a0 L l with
   | true=>rw[cond_true,cond_true]; exact ih c st
   | false =>
    rw[cond_false,cond_false,List.filter_cons_of_pos (by simpa using he),zAn h']
    unfold iGo
    congr 1
    funext q
    exact ih q.1 q.2
end
theorem zuF {a0:List zi} {L:List zc} {T:List jI} {C:List zc} {L':List zc} {T':List jI} {C':List zc} (h:zb5 a0 L T C=true) (h':zb5 a0 L' T' C'=true) (a b:Int) :
  zeZ a0 L T C a L' T' C' b=((iGo a0 L T C a b L' T' C' (zl a0 L' L' 0) ((zl a0 L L 0).filter fun e=>eqB L e false) 0 []).map fun q=>(q.1,0,q.2)) ∧
  zmP a0 L T C a L' T' C' b=((iGo a0 L T C a b L' T' C' (zl a0 L' L' 0) ((zl a0 L L 0).filter fun e=>eqB L e false) 0 []).map fun q=>(q.1,0,q.2)):=by
 obtain⟨hsb,l1,-,-,l4,-⟩:=zv h
 obtain⟨-,l1',-,-,l4',-⟩:=zv h'
 have hL:∀ l∈L,qz a0 l.2=true:=fun l hl=>List.all_eq_true.1 l4 l hl
 have hL':∀ l∈L',qz a0 l.2=true:=fun l hl=>List.all_eq_true.1 l4' l hl
 have hlen:=zcs (a0:=a0) (L:=L) L 0
 have hfl:=List.length_filter_le (fun e=>eqB L e false) (zl a0 L L 0)
 constructor
 ·unfold zeZ
  rw[zK,h,Option.bind_some,Bool.not_true,cond_false,zK,h',Option.bind_some,Bool.not_true,cond_false,zsp hsb hL (by omega),Option.bind_some,zsp hsb hL' (by omega),Option.bind_some]
  simp only
  rw[zv2 hL T C (by omega),Option.bind_some]
  have:=zCt (a:=a) (b:=b) h h' (is:=(zl a0 L L 0).filter fun e=>eqB L e false) (fun i hi=>by simpa using (List.mem_filter.1 hi).2) (by omega) ((zl a0 L L 0).filter fun e=>eqB L e false) 0 zd rfl (Nat.lt_of_le_of_lt (show _≤5 by omega) (by decide)) 0 []
  rw[show ((0:Nat):Int)=0 from rfl] at this
  rw[this,zia]
  generalize iGo a0 L T C a b L' T' C' (zl a0 L' L' 0) ((zl a0 L L 0).filter fun e=>eqB L e false) 0 []=o
  cases o<;>rfl
 ·unfold zmP
  rw[zN,h,Option.bind_some,Bool.not_true,cond_false,zN,h',Option.bind_some,Bool.not_true,cond_false]
  have:=zHy (a:=a) (b:=b) h h' L 0 zd rfl (Nat.lt_of_le_of_lt (show _≤5 by omega) (by decide)) 0 []
  rw[show ((0:Nat):Int)=0 from rfl] at this
  rw[this]
  generalize iGo a0 L T C a b L' T' C' (zl a0 L' L' 0) ((zl a0 L L 0).filter fun e=>eqB L e false) 0 []=o
  cases o<;>rfl
end Go.Abs.Q
namespace Go.Abs.Q
open Go Go.Abs
section
structure Inv (P:qL→Prop) (n:Nat) (q:Int×List qL):Prop where
 low:0≤q.1
 cnt:q.1≤(n:Int)
 len:q.2.length≤n
 all:∀ s∈q.2,P s
theorem Inv.more {P:qL→Prop} {n m:Nat} {q:Int×List qL} (h:Inv P n q) (hm:n≤m):Inv P m q:=⟨h.low,by have:=h.cnt; omega,by have:=h.len; omega,h.all⟩
theorem ztH {P:qL→Prop} {n:Nat} {sig:List zi} {c r a i s b j t:Int} {xL:List zc} {xT:List jI} {xC:List zc} {ok:Bool} {err:Int} {st:List qL} (hm:ok=true→err=0→zb5 sig xL xT xC=true) (hP:ok=true→err=0→P (r,a,i,s,b,j,t,xL,xT,xC)) (h:Inv P n (c,st)) (hn:n≤100000) :
  ∃ q,zbM sig c r a i s b j t xL xT xC ok err st=some q∧Inv P (n+1) q:=by
 obtain⟨h1,h2,h3,h4⟩:=h
 simp only at h1 h2 h3 h4
 unfold zbM
 by_cases he:err=0
 ·rw[show (err != 0)=false from by simp [he],cond_false]
  have keep:Inv P (n+1) (c,st):=⟨h1,by simp only; omega,by simp only; omega,h4⟩
  cases ok with
  | false=>exact ⟨_,rfl,keep⟩
  | true =>
   rw[cond_true,zym (hm rfl he),Option.bind_some]
   cases zqI sig xL with
   | true=>exact ⟨_,rfl,keep⟩
   | false =>
    rw[Bool.not_false,cond_true,zq (show (List.length st+([(r,a,i,s,b,j,t,xL,xT,xC)]:List qL).length)*128≤140737488351232 by simp; omega),cond_true]
    refine ⟨_,rfl,h1,by simp only; omega,by simp; omega,fun s hs => ?_⟩
    rcases List.mem_append.1 hs with hs | hs
    ·exact h4 s hs
    ·rw[List.mem_singleton.1 hs]; exact hP rfl he
 ·rw[show (err != 0)=true from by simp [he],cond_true]
  have w:IntKind.wrap .i64 (c+1)=c+1:=by rw[zp]<;>omega
  rw[w]
  exact ⟨_,rfl,by simp only; omega,by simp only; omega,by simp only; omega,h4⟩
section
variable {a0:List zi} {L:List zc} {T:List jI} {C:List zc} {a b:Int} {L':List zc} {T':List jI} {C':List zc} (h:zb5 a0 L T C=true) (h':zb5 a0 L' T' C'=true)
 {P:qL→Prop} (hP:∀(i side j:Int) (at':Nat) (r:zmq),eqB L i false=true→(side=0∨side=1)→0≤j→j<L'.length→1≤at'→at'<zbD L' j→zdx a0 L T C i side L' T' C' j (at':Int)=some r→r.2.2.1=true→r.2.2.2.1=0→zb5 a0 r.1 r.2.1 r.2.2.2.2=true→zov r.1 r.2.1 r.2.2.2.2→P (3,a,i,side,b,j,(at':Int),r.1,r.2.1,r.2.2.2.2))
include h h' hP
omit h h' in
theorem zs0 {i side j:Int} (hi:eqB L i false=true) (hs:side=0∨side=1) (hj0:0≤j) (hj1:j<L'.length):(m at' n:Nat)→1≤at'→at'+m≤zbD L' j→n+m≤100000→(c:Int)→(st:List qL)→Inv P n (c,st) →
  ∃ q,zzB a0 L T C a b L' T' C' i side j m at' c st=some q∧Inv P (n+m) q
 | 0,_,_,_,_,_,_,_,hI=>⟨_,rfl,hI⟩
 | m+1,at',n,h1,h2,h3,c,st,hI=>by
  obtain⟨r,e1,e2,e3⟩:=(zmM a0 L T C i side L' T' C' j (at':Int)).2
  obtain⟨q,e4,e5⟩:=ztH (sig:=a0) (c:=c) (r:=3) (a:=a) (i:=i) (s:=side) (b:=b) (j:=j) (t:=(at':Int)) (xL:=r.1) (xT:=r.2.1) (xC:=r.2.2.2.2) (ok:=r.2.2.1) (err:=r.2.2.2.1) (st:=st) (P:=P) (n:=n) e3 (fun g1 g2=>hP i side j at' r hi hs hj0 hj1 h1 (by omega) e1 g1 g2 (e3 g1 g2) e2) hI (by omega)
  obtain⟨p,e6,e7⟩:=zs0 hi hs hj0 hj1 m (at'+1) (n+1) (by omega) (by omega) (by omega) q.1 q.2 e5
  refine ⟨p,?_,by rw[show n+(m+1)=n+1+m by omega]; exact e7⟩
  unfold zzB zxQ
  rw[e1,Option.bind_some,e4,Option.bind_some,e6]
omit h in
theorem zrl {i side:Int} (hi:eqB L i false=true) (hs:side=0∨side=1):(js:List Int)→(∀ j∈js,0≤j∧j<L'.length)→(n:Nat)→n+49*js.length≤100000→(c:Int)→(st:List qL)→Inv P n (c,st) →
  ∃ q,jGo a0 L T C a b L' T' C' i side js c st=some q∧Inv P (n+49*js.length) q
 | [],_,_,_,_,_,hI=>⟨_,rfl,hI⟩
 | j::js,hjs,n,hn,c,st,hI=>by
  simp only[List.length_cons] at hn ⊢
  obtain⟨hj0,hj1⟩:=hjs j (List.mem_cons_self ..)
  obtain⟨l,hg,-⟩:=zkn hj0 hj1
  have hr:zbD L' j=l.2.length:=by unfold zbD; rw[hg]
  have h48:=zcQ (List.all_eq_true.1 (zv h').2.2.2.2.1 _ (zeT hg))
  obtain⟨c0,hc0⟩:=zj9 (List.all_eq_true.1 (zv h').2.2.2.2.1 _ (zeT hg))
  have hpos:0<l.2.length:=by
   rw[qf] at hc0
   exact (List.getElem?_eq_some_iff.1 hc0).1
  obtain⟨q,e1,e2⟩:=zs0 hP hi hs hj0 hj1 (zbD L' j - 1) 1 n (Nat.le_refl 1) (by omega) (by omega) c st hI
  obtain⟨p,e3,e4⟩:=zrl hi hs js (fun j hj=>hjs j (List.mem_cons_of_mem _ hj)) (n+49) (by omega) q.1 q.2 (e2.more (by omega))
  refine ⟨p,?_,e4.more (by omega)⟩
  unfold jGo
  rw[e1,Option.bind_some,e3]
omit h in
theorem zzg {js:List Int} (hjs:∀ j∈js,0≤j∧j<L'.length) (hjl:js.length≤5):(is:List Int)→(∀ i∈is,eqB L i false=true)→(n:Nat)→n+490*is.length≤100000→(c:Int)→(st:List qL)→Inv P n (c,st) →
  ∃ q,iGo a0 L T C a b L' T' C' js is c st=some q∧Inv P (n+490*is.length) q
 | [],_,_,_,_,_,hI=>⟨_,rfl,hI⟩
 | i::is,his,n,hn,c,st,hI=>by
  simp only[List.length_cons] at hn ⊢
  have hi:=his i (List.mem_cons_self ..)
  obtain⟨q,e1,e2⟩:=zrl h' hP hi (.inl rfl) js hjs n (by omega) c st hI
  obtain⟨p,e3,e4⟩:=zrl h' hP hi (.inr rfl) js hjs (n+245) (by omega) q.1 q.2 (e2.more (by omega))
  obtain⟨o,e5,e6⟩:=zzg hjs hjl is (fun j hj=>his j (List.mem_cons_of_mem _ hj)) (n+490) (by omega) p.1 p.2 (e4.more (by omega))
  refine ⟨o,?_,e6.more (by omega)⟩
  unfold iGo zox
  rw[e1,Option.bind_some,e3,Option.bind_some,e5]
theorem zmR:∃ q:Int×List qL,zeZ a0 L T C a L' T' C' b=some (q.1,0,q.2)∧Inv P 2450 q:=by
 have l1:=(zv h).2.1
 have l1':=(zv h').2.1
 have hlen:=zcs (a0:=a0) (L:=L) L 0
 have hlen':=zcs (a0:=a0) (L:=L') L' 0
 have hfl:=List.length_filter_le (fun e=>eqB L e false) (zl a0 L L 0)
 obtain⟨q,e1,e2⟩:=zzg (a:=a) (b:=b) (L:=L) (T:=T) (C:=C) h' hP (js:=zl a0 L' L' 0) zrA (by omega) ((zl a0 L L 0).filter fun e=>eqB L e false) (fun i hi=>by simpa using (List.mem_filter.1 hi).2) 0 (by omega) 0 [] ⟨Int.le_refl 0,Int.le_refl 0,Nat.le_refl 0,fun _ h=>(nomatch h)⟩
 refine ⟨q,?_,e2.more (by omega)⟩
 rw[(zuF h h' a b).1,e1]
 rfl
end
theorem zsd {a0:List zi} {L:List zc} {T:List jI} {C:List zc} {a b:Int} {L':List zc} {T':List jI} {C':List zc} (h:zb5 a0 L T C=false∨zb5 a0 L' T' C'=false):zeZ a0 L T C a L' T' C' b=some (0,1500,[]):=by
 unfold zeZ
 rw[zK,Option.bind_some]
 cases g:zb5 a0 L T C with
 | false=>rfl
 | true =>
  have h:=h.resolve_left (by rw[g]; exact fun h=>by cases h)
  rw[Bool.not_true,cond_false,zK,h]
  rfl
theorem znQ:zjg=some true:=by kernel_rfl
end
end Go.Abs.Q
namespace Go.Abs.Q
open Go Go.Abs
section
section
variable (a0:List zi) (L:List zc) (T:List jI) (C:List zc) (a:Int)
def zAQ (i c:Int) (st:List qL):Option (Int×List qL) :=
 (zaP a0 L T C i).bind fun r=>zbM a0 c 4 a i 0 (-1) 0 0 r.1 r.2.1 r.2.2.2.2 r.2.2.1 r.2.2.2.1 st
def rGo:List Int→Int→List qL→Option (Int×List qL)
 | [],c,st=>some (c,st)
 | i::is,c,st=>cond (eqB L i true) ((zAQ a0 L T C a i c st).bind fun q=>rGo is q.1 q.2) (rGo is c st)
variable {a0 L T C a} (h:zb5 a0 L T C=true)
include h
theorem zB8 {is:List Int} (hil:is.length≤1000):(es:List Int)→(n k:Nat)→is.drop n=es→es.length<k→(c:Int)→(st:List qL) →
  lp zak k (a0,a,is,((List.length is:Nat):Int),(n:Int),L,T,C,a0,c,st)=(rGo a0 L T C a es c st).map fun q=>(a0,q.1,q.2)
 | _,_,0,_,hk,_,_=>by omega
 | [],n,k+1,hn,hk,c,st=>by
  rw[zj]
  generalize lp zak k=rec
  unfold zak
  simp only[zaq (yd hn),cond_false]
  rfl
 | i::es,n,k+1,hn,hk,c,st=>by
  have hlt:=zD hn
  have hL:∀ l∈L,qz a0 l.2=true:=fun l hl=>List.all_eq_true.1 (zv h).2.2.2.2.1 l hl
  have ih:=zB8 hil es (n+1) k (ze hn) (by simpa using hk)
  rw[zj]
  generalize lp zak k=rec at ih ⊢
  unfold zak rGo
  simp only[zbC hlt,cond_true,yx,zh hn,Option.bind_some,zbn hlt (show is.length≤maxLen by unfold maxLen; omega),zcX hL]
  cases he:eqB L i true with
  | false=>rw[cond_false,cond_false]; exact ih c st
  | true =>
   obtain⟨r,e1,-,e3⟩:=(zkO h he).2
   rw[cond_true,cond_true]
   unfold zAQ
   rw[e1,Option.bind_some,Option.bind_some,zsI a0 4 a i 0 (-1) 0 0 [] [] [] _ _ _ _ _ c st e3,zia,zkV]
   congr 1
   funext q
   exact ih q.1 q.2
theorem zF1:(es:List zc)→(n k:Nat)→L.drop n=es→es.length<k→(c:Int)→(st:List qL) →
  lp zaD k (a0,a,c,(n:Int),L,T,C,st)=rGo a0 L T C a (zl a0 L es n) c st
 | _,_,0,_,hk,_,_=>by omega
 | [],n,k+1,hn,hk,c,st=>by
  rw[zj]
  generalize lp zaD k=rec
  unfold zaD
  simp only[zaq (yd hn),cond_false]
  rfl
 | l::es,n,k+1,hn,hk,c,st=>by
  have hlt:=zD hn
  obtain⟨hsb,l1,-,-,l4,-⟩:=zv h
  have hs:=zbW hsb
  have hL:∀ l∈L,qz a0 l.2=true:=fun l hl=>List.all_eq_true.1 l4 l hl
  have hg:gx L (n:Int)=some l:=by rw[yx]; exact zh hn
  have htop:=zrV hs hg hL (by omega)
  have hp:q8 L (n:Int)=true:=by unfold q8; simp only[Bool.and_eq_true,decide_eq_true_eq]; omega
  obtain⟨A,hA⟩:∃ A,l=(l.1,A):=⟨l.2,rfl⟩
  have he:=zxn (neg:=true) (show gx L (n:Int)=some (l.1,l.2) from hg) hp
  obtain⟨c0,hc⟩:=zj9 (hL _ (zeT hg))
  rw[hc] at he
  have ih:=zF1 es (n+1) k (ze hn) (by simpa using hk)
  rw[zj]
  generalize lp zaD k=rec at ih ⊢
  unfold zaD
  rw[show zl a0 L (l::es) n=cond (zhM a0 L l) (zl a0 L es (n+1)) ((n:Int)::zl a0 L es (n+1)) from rfl]
  simp only[zbC hlt,cond_true,zbn hlt (show L.length≤maxLen by unfold maxLen; omega),hg,Option.bind_some,hc,htop]
  have skip:eqB L (n:Int) true=false→rec (a0,a,c,((n+1:Nat):Int),L,T,C,st)=rGo a0 L T C a (cond (zhM a0 L l) (zl a0 L es (n+1)) ((n:Int)::zl a0 L es (n+1))) c st:=fun g=>by
   rw[ih c st]
   cases zhM a0 L l with
   | true=>rfl
   | false =>
    rw[cond_false]
    show _=cond (eqB L (n:Int) true) _ _
    rw[g]
    rfl
  cases h1:l.1 with
  | false=>rw[cond_false]; exact skip (by rw[he,h1]; exact Bool.and_false _)
  | true =>
   rw[cond_true]
   cases h2:(c0:Int)==0 with
   | false=>rw[cond_false]; exact skip (by rw[he,show (some (c0:Int)==some 0)=((c0:Int)==0) from rfl,h2]; rfl)
   | true =>
    have he:eqB L (n:Int) true=true:=by rw[he,show (some (c0:Int)==some 0)=((c0:Int)==0) from rfl,h2,h1]; rfl
    rw[cond_true]
    cases ho:zhM a0 L l with
    | true=>rw[Bool.not_true,cond_false,cond_true]; exact ih c st
    | false =>
     rw[Bool.not_false,cond_true,cond_false,(zkO h he).1]
     show _=cond (eqB L (n:Int) true) _ _
     rw[he,cond_true]
     unfold zAQ
     rw[Option.bind_assoc]
     congr 1
     funext r
     congr 1
     funext q
     exact ih q.1 q.2
theorem zsz:zar a0 L T C a=((rGo a0 L T C a (zl a0 L L 0) 0 []).map fun q=>(q.1,0,q.2))∧zej a0 L T C a=((rGo a0 L T C a (zl a0 L L 0) 0 []).map fun q=>(q.1,0,q.2)):=by
 obtain⟨hsb,l1,-,-,l4,-⟩:=zv h
 have hL:∀ l∈L,qz a0 l.2=true:=fun l hl=>List.all_eq_true.1 l4 l hl
 have hlen:=zcs (a0:=a0) (L:=L) L 0
 constructor
 ·unfold zar
  rw[zK,h,Option.bind_some,Bool.not_true,cond_false,zsp hsb hL (by omega),Option.bind_some]
  have:=zB8 (a:=a) h (is:=zl a0 L L 0) (by omega) (zl a0 L L 0) 0 zd rfl (Nat.lt_of_le_of_lt (show _≤5 by omega) (by decide)) 0 []
  rw[show ((0:Nat):Int)=0 from rfl] at this
  simp only
  rw[this,zia]
  generalize rGo a0 L T C a (zl a0 L L 0) 0 []=o
  cases o<;>rfl
 ·unfold zej
  rw[zN,h,Option.bind_some,Bool.not_true,cond_false]
  have:=zF1 (a:=a) h L 0 zd rfl (Nat.lt_of_le_of_lt (show _≤5 by omega) (by decide)) 0 []
  rw[show ((0:Nat):Int)=0 from rfl] at this
  rw[this]
  generalize rGo a0 L T C a (zl a0 L L 0) 0 []=o
  cases o<;>rfl
theorem zsu {P:qL→Prop} (hP:∀(i:Int) (r:zmq),eqB L i true=true→zaP a0 L T C i=some r→r.2.2.1=true→r.2.2.2.1=0→zb5 a0 r.1 r.2.1 r.2.2.2.2=true→zov r.1 r.2.1 r.2.2.2.2→P (4,a,i,0,-1,0,0,r.1,r.2.1,r.2.2.2.2)):(is:List Int)→(n:Nat)→n+is.length≤100000→(c:Int)→(st:List qL)→Inv P n (c,st) →
  ∃ q,rGo a0 L T C a is c st=some q∧Inv P (n+is.length) q
 | [],_,_,_,_,hI=>⟨_,rfl,hI⟩
 | i::is,n,hn,c,st,hI=>by
  simp only[List.length_cons] at hn ⊢
  unfold rGo
  cases he:eqB L i true with
  | false =>
   obtain⟨q,e1,e2⟩:=zsu hP is n (by omega) c st hI
   exact ⟨q,e1,e2.more (by omega)⟩
  | true =>
   obtain⟨r,e1,e2,e3⟩:=(zkO h he).2
   obtain⟨q,e4,e5⟩:=ztH (sig:=a0) (c:=c) (r:=4) (a:=a) (i:=i) (s:=0) (b := -1) (j:=0) (t:=0) (xL:=r.1) (xT:=r.2.1) (xC:=r.2.2.2.2) (ok:=r.2.2.1) (err:=r.2.2.2.1) (st:=st) (P:=P) (n:=n) e3 (fun g1 g2=>hP i r he e1 g1 g2 (e3 g1 g2) e2) hI (by omega)
   obtain⟨p,e6,e7⟩:=zsu hP is (n+1) (by omega) q.1 q.2 e5
   refine ⟨p,?_,e7.more (by omega)⟩
   unfold zAQ
   rw[cond_true,e1,Option.bind_some,e4,Option.bind_some,e6]
theorem zh8 {P:qL→Prop} (hP:∀(i:Int) (r:zmq),eqB L i true=true→zaP a0 L T C i=some r→r.2.2.1=true→r.2.2.2.1=0→zb5 a0 r.1 r.2.1 r.2.2.2.2=true→zov r.1 r.2.1 r.2.2.2.2→P (4,a,i,0,-1,0,0,r.1,r.2.1,r.2.2.2.2)) :
  ∃ q:Int×List qL,zar a0 L T C a=some (q.1,0,q.2)∧Inv P 5 q:=by
 have l1:=(zv h).2.1
 have hlen:=zcs (a0:=a0) (L:=L) L 0
 obtain⟨q,e1,e2⟩:=zsu (a:=a) h hP (zl a0 L L 0) 0 (by omega) 0 [] ⟨Int.le_refl 0,Int.le_refl 0,Nat.le_refl 0,fun _ h=>(nomatch h)⟩
 refine ⟨q,?_,e2.more (by omega)⟩
 rw[(zsz h).1,e1]
 rfl
end
theorem zqQ {a0:List zi} {L:List zc} {T:List jI} {C:List zc} {a:Int} (h:zb5 a0 L T C=false):zar a0 L T C a=some (0,1500,[])∧zej a0 L T C a=some (0,1500,[]):=by
 unfold zar zej
 rw[zK,zN,h]
 exact ⟨rfl,rfl⟩
end
end Go.Abs.Q
