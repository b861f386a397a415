import Derived.Test.YtleengbobccdkaaGreatDoorQb
/-
  What the functions make of plain values, and what the law says of that.
-/
namespace Go.Abs.Q
open Go Go.Abs
section
theorem zpJ (a0:List zm) (L:List zd) (T:List (List Int)) (C:List zd) (i j:Int):zdL a0 L T C i j=zbP a0 L T C i j:=by
 unfold zdL zbP
 rw[zhv,Option.bind_some,zc3,Option.bind_some]
 cases h:ziw a0 L T C with
 | false=>rfl
 | true =>
  rw[Bool.not_true,cond_false,cond_false,zmn,Option.bind_some,za9,Option.bind_some]
  cases hpi:zcb L i with
  | false=>rfl
  | true =>
   rw[Bool.not_true,cond_false,cond_false,zmn,Option.bind_some,za9,Option.bind_some]
   cases hpj:zcb L j with
   | false=>rfl
   | true =>
    rw[Bool.not_true,cond_false,cond_false]
    cases i == j with
    | true=>rfl
    | false =>
     rw[cond_false,cond_false]
     have eta:∀ o:Option zGA,(o.bind fun r=>some (r.1,r.2.1,r.2.2.1,r.2.2.2.1,r.2.2.2.2))=o:=fun o=>by cases o <;> rfl
     rw[eta]
     have hs:=zgD (zaI h).1
     obtain⟨⟨n,A⟩,hi⟩:=zfI hpi
     obtain⟨⟨n',A'⟩,hj⟩:=zfI hpj
     obtain⟨m1,m2,m3,-⟩:=znk hs h
     have hcd:=zmv hs h
     obtain⟨hsb,-,-,-,l4,-,-,-⟩:=zaI h
     obtain⟨c,ts,e,rfl,ho,he,-,hlen,hl48,-⟩:=zh3 (List.all_eq_true.1 l4 (n,A) (zq1 hi))
     obtain⟨c',us,e',rfl,ho',he',-,hlen',hl48',-⟩:=zh3 (List.all_eq_true.1 l4 (n',A') (zq1 hj))
     unfold zbL
     simp only[hi,hj,Option.bind_some,qx,List.getElem?_cons_zero]
     cases !(n == n') with
     | true=>rfl
     | false =>
      rw[cond_false,cond_false]
      by_cases hc:c=c'
      ·subst hc
       rw[show ((c:Int) != (c:Int))=false from by simp,cond_false,cond_false]
       simp only[zcU,Option.bind_some]
       rcases zl2 hs (xs:=zK ts) (ys:=zK us) rfl rfl ho ho' hsb hl48 hl48' with ⟨hu,hno⟩ | ⟨hll,σ,hm,hok,hu⟩
       ·rcases zhP hs ho ho' hl48 hl48' with ⟨tg,-⟩ | ⟨hll',σ',hm',tg⟩
        ·rw[hu,tg]; rfl
        ·rcases hno with hno | hno
         ·exact absurd hll' hno
         ·exact absurd hm'.sol (hno σ')
       ·rcases zhP hs ho ho' hl48 hl48' with ⟨tg,hno⟩ | ⟨hll',σ',hm',tg⟩
        ·rcases hno with hno | hno
         ·exact absurd hll hno
         ·exact absurd hm.sol (hno σ)
        ·have:=hm.unique hm'
         subst this
         rw[hu,tg]
         cases hsh:zaB σ (List.range 24) with
         | false=>rfl
         | true =>
          simp only[cond_true,Option.bind_some,show ((0:Int) != 0)=false from rfl,cond_false,Bool.not_true]
          have hwl:=zex j L 0
          have cW:∀ l∈yr j L 0,Cds l.2:=fun l hl=>hcd _ (zfC (zdt L 0 hl))
          have cT:∀ r∈T,Cds r:=fun r hr=>hcd _ (zfS hr)
          have cC:∀ l∈C,Cds l.2:=fun l hl=>hcd _ (zev hl)
          rw[zje hpj (by omega),Option.bind_some,zdc j (-1) (by omega) (by omega) (by omega) (by simp) (by simp) (by simp),Option.bind_some]
          simp only[List.append_nil,yr]
          rw[zBv hsh cW cT cC (by omega) (by omega) (by omega),Option.bind_some,zcK,Option.bind_some]
          refine (zxB (a0:=a0) hs hsh cW cT cC (by omega) (by omega) (by omega) 1401).trans ?_
          unfold zkP
          cases ziw a0 (zcQ σ (yr j L 0)) (T.map (zeI σ)) (zcQ σ C) with
          | true=>rfl
          | false=>rfl
      ·rw[show ((c:Int) != (c':Int))=true from by simp; omega]
       rfl
theorem zqq (a0:List zm) (L:List zd) (T:List (List Int)) (C:List zd) (i:Int):zdE a0 L T C i=zaT a0 L T C i:=by
 rw[ze6]
 unfold zdE
 rw[zhv,Option.bind_some]
 cases h:ziw a0 L T C with
 | false=>rfl
 | true =>
  rw[Bool.not_true,cond_false,zmn,Option.bind_some,Bool.true_and]
  cases hpi:zcb L i with
  | false=>rfl
  | true =>
   rw[Bool.not_true,cond_false,cond_true]
   have hs:=zgD (zaI h).1
   obtain⟨m1,m2,m3,-⟩:=znk hs h
   by_cases h3:C.length=3
   ·rw[decide_eq_true h3,decide_eq_true (show ((List.length C:Nat):Int) ≥ 3 by omega)]
    rfl
   ·rw[decide_eq_false h3,decide_eq_false (show ¬ ((List.length C:Nat):Int) ≥ 3 by omega),cond_false,cond_false]
    unfold zcb at hpi
    have hp:=hpi
    simp only[Bool.and_eq_true,decide_eq_true_eq] at hp
    obtain⟨l,g1,g2,g3⟩:=zBS hp.1 hp.2
    rw[zje hpi (by omega),Option.bind_some,zT (by omega),cond_true]
    simp only[g1,Option.bind_some]
    have hm2:=ziF h hp.1 g3 (by omega)
    obtain⟨k1,k2,k3,k4⟩:=znk hs hm2
    rw[zT (by simp; omega),cond_true,zu3 (zmv hs hm2) (by omega) (by omega) (by omega) k4]
    unfold ziy
    rw[g3]
    rfl
end
end Go.Abs.Q
namespace Go.Abs.Q
open Go Go.Abs
def zaj (a0:(List zm)) (a1:(List zd)) (a2:(List (List Int))) (a3:(List zd)) (a4:Int) (a5:Int):Option Bool :=
 (zaM a1 a2 a3).bind fun r12 =>
 (zbP a0 a1 a2 a3 a4 a5).bind fun r13 =>
 (zdL a0 a1 a2 a3 a4 a5).bind fun r14 =>
 (zaT a0 a1 a2 a3 a4).bind fun r15 =>
 (zdE a0 a1 a2 a3 a4).bind fun r16 =>
 (yA r13.1 r13.2.1 r13.2.2.2.2 r14.1 r14.2.1 r14.2.2.2.2).bind fun r17 =>
 cond (!r17)
 (some false)
 (cond (!(r13.2.2.1 == r14.2.2.1))
  (some false)
  ((zdI r13.2.2.2.1).bind fun r18 =>
   cond (r18 != r14.2.2.2.1)
   (some false)
   ((yA r15.1 r15.2.1 r15.2.2.2 r16.1 r16.2.1 r16.2.2.2).bind fun r19 =>
    cond (!r19)
    (some false)
    ((zdI r15.2.2.1).bind fun r20 =>
     cond (r20 != r16.2.2.1)
     (some false)
     ((yA a1 a2 a3 r12.1 r12.2.1 r12.2.2).bind fun r21 =>
      cond r21
      ((zhc).bind fun r22 =>
       some r22)
      (some false))))))
end Go.Abs.Q
namespace Go.Abs.Q
open Go Go.Abs
section
def zfL (L:List zd) (T:List (List Int)) (C:List zd):Prop:=yA L T C L T C=some true
theorem zd5:zfL [] [] []:=by
 unfold zfL
 exact zby (by simp) (by simp) (by simp) (by simp) (by simp) (by simp)
theorem zqm {a0:List zm} {σ:Sb} {L:List zd} {T:List (List Int)} {C:List zd} {k:Int}:∃ r,zkP a0 σ L T C k=some r∧zfL r.1 r.2.1 r.2.2.2.2:=by
 unfold zkP
 cases hm:ziw a0 (zcQ σ L) (T.map (zeI σ)) (zcQ σ C) with
 | true=>exact ⟨_,rfl,zlN hm⟩
 | false=>exact ⟨_,rfl,zd5⟩
theorem zfW {o:Option zGA} {k:Int} (h:o=zzi k):∃ r,o=some r∧zfL r.1 r.2.1 r.2.2.2.2:=⟨_,h,zd5⟩
theorem zpd (a0:List zm) (L:List zd) (T:List (List Int)) (C:List zd) (i j:Int):∃ r,zbP a0 L T C i j=some r∧zfL r.1 r.2.1 r.2.2.2.2:=by
 unfold zbP
 rw[zc3,Option.bind_some]
 cases hmay:ziw a0 L T C with
 | false=>exact zfW (k:=1400) rfl
 | true =>
  rw[Bool.not_true,cond_false,za9,Option.bind_some]
  cases hpi:zcb L i with
  | false=>exact zfW (k:=1400) rfl
  | true =>
   rw[Bool.not_true,cond_false,za9,Option.bind_some]
   cases hpj:zcb L j with
   | false=>exact zfW (k:=1400) rfl
   | true =>
    rw[Bool.not_true,cond_false]
    by_cases hij:i=j
    ·rw[show (i == j)=true from by simp [hij],cond_true]
     exact zfW (k:=1400) rfl
    ·rw[show (i == j)=false from by simp [hij],cond_false]
     have eta:∀ o:Option zGA,(o.bind fun r=>some (r.1,r.2.1,r.2.2.1,r.2.2.2.1,r.2.2.2.2))=o:=fun o=>by cases o <;> rfl
     rw[eta]
     have hs:=zgD (zaI hmay).1
     obtain⟨⟨n,A⟩,hi⟩:=zfI hpi
     obtain⟨⟨n',A'⟩,hj⟩:=zfI hpj
     rcases zkL hs hmay hi hj with ⟨k,r1⟩ | ⟨hnn,c,ts,us,σ,rfl,rfl,ho,ho',hll,hmgu,hok,r1⟩
     ·exact zfW r1
     ·rw[r1]
      exact zqm
theorem zpn (a0:List zm) (L:List zd) (T:List (List Int)) (C:List zd) (i:Int):∃ r,zaT a0 L T C i=some r∧zfL r.1 r.2.1 r.2.2.2:=by
 rw[ze6]
 cases hmay:ziw a0 L T C with
 | false=>exact ⟨_,rfl,zd5⟩
 | true =>
  rw[Bool.true_and]
  cases hpi:zcb L i with
  | false=>exact ⟨_,rfl,zd5⟩
  | true =>
   rw[cond_true]
   by_cases h3:C.length=3
   ·rw[decide_eq_true h3]; exact ⟨_,rfl,zd5⟩
   ·rw[decide_eq_false h3,cond_false]
    refine ⟨_,rfl,?_⟩
    obtain⟨x,hi⟩:=zfI hpi
    obtain⟨-,-,-,n3,-⟩:=zaI hmay
    unfold gx at hi
    by_cases h0:0≤i
    ·rw[decide_eq_true h0,cond_true] at hi
     have hm2:=ziF hmay h0 hi (by omega)
     unfold ziy
     rw[hi]
     exact zlN hm2
    ·rw[decide_eq_false h0] at hi; cases hi
theorem zqz {L:List zd} {T:List (List Int)} {C:List zd} (h1:L.length≤1048576) (h1m:∀ l∈L,l.2.length≤1048576) (h2:T.length≤1048576) (h2m:∀ l∈T,l.length≤1048576) (h3:C.length≤1048576) (h3m:∀ l∈C,l.2.length≤1048576) :
  zaM L T C=some (L,T,C)∧zfL L T C:=by
 refine ⟨?_,?_⟩
 ·unfold zaM
  rw[ze5 (fun l hl=>Nat.le_trans (h1m l hl) (by decide)) (Nat.le_trans h1 (by decide)),zjz (fun l hl=>Nat.le_trans (h2m l hl) (by decide)) (Nat.le_trans h2 (by decide)),ze5 (fun l hl=>Nat.le_trans (h3m l hl) (by decide)) (Nat.le_trans h3 (by decide))]
  rfl
 ·have hM:1048576≤maxLen:=by decide
  exact zby (Nat.le_trans h1 hM) (fun e he=>Nat.le_trans (h1m e he) hM) (Nat.le_trans h2 hM) (fun e he=>Nat.le_trans (h2m e he) hM) (Nat.le_trans h3 hM) (fun e he=>Nat.le_trans (h3m e he) hM)
theorem zhC (a0:List zm) (L:List zd) (T:List (List Int)) (C:List zd) (i j:Int) (hc:zaM L T C=some (L,T,C)∧zfL L T C):zaj a0 L T C i j=some true:=by
 unfold zaj
 have hnum:∀ k:Int,zdI k=some k:=fun k=>rfl
 obtain⟨r,h1,h2⟩:=zpd a0 L T C i j
 obtain⟨s,h3,h4⟩:=zpn a0 L T C i
 unfold zfL at h2 h4
 have hs:=hc.2
 unfold zfL at hs
 rw[hc.1,Option.bind_some,h1,Option.bind_some,zpJ,h1,Option.bind_some,h3,Option.bind_some,zqq,h3,Option.bind_some,h2,Option.bind_some]
 simp only[Bool.not_true,cond_false,beq_self_eq_true,hnum,Option.bind_some,bne_self_eq_false,h4,hs,cond_true,zlv]
theorem zER {L:List zd} {T:List (List Int)} {C:List zd} (h1:Go.Abs.wt (.sl zx) L≤1048576) (h2:Go.Abs.wt (.sl (.one (.sl (.one (.int .i64))))) T≤1048576) (h3:Go.Abs.wt (.sl zx) C≤1048576):zaM L T C=some (L,T,C)∧zfL L T C:=by
 obtain⟨l1,m1⟩:=zwL h1
 obtain⟨l2,m2⟩:=zEm h2
 obtain⟨l3,m3⟩:=zwL h3
 exact zqz l1 m1 l2 m2 l3 m3
theorem zn2 (x:List zm×List zd×List (List Int)×List zd×Int×Int) (h:wtL [.sl qr,.sl zx,.sl (.one (.sl (.one (.int .i64)))),.sl zx,.int .i64,.int .i64] x≤1048576):zaj x.1 x.2.1 x.2.2.1 x.2.2.2.1 x.2.2.2.2.1 x.2.2.2.2.2=some true:=by
 have h:Go.Abs.wt (.sl qr) x.1+(Go.Abs.wt (.sl zx) x.2.1+(Go.Abs.wt (.sl (.one (.sl (.one (.int .i64))))) x.2.2.1+(Go.Abs.wt (.sl zx) x.2.2.2.1+(Go.Abs.wt (.int .i64) x.2.2.2.2.1+Go.Abs.wt (.int .i64) x.2.2.2.2.2))))≤1048576:=h
 exact zhC _ _ _ _ _ _ (zER (by omega) (by omega) (by omega))
end
end Go.Abs.Q
