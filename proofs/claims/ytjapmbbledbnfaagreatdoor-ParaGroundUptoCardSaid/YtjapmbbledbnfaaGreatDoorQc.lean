import Derived.Test.YtjapmbbledbnfaaGreatDoorQb
/-
  What the functions make of plain values, and what the law says of that.
-/
namespace Go.Abs.Q
open Go Go.Abs
section
theorem heavy_go (a0:List QSym):(es:List Int)→(s:Int)→ref1_Heavy_L0_go a0 es s=term_Sum_L0_go a0 es s
 | [],_=>rfl
 | e::es,s=>by
  unfold ref1_Heavy_L0_go term_Sum_L0_go
  rw[heavy_go a0 es]
  congr 1
  congr 1
  funext e6
  exact heavy_go a0 es _
theorem heavy_eq (a0:List QSym) {r:List Int} (h:r.length≤1000000):ref1_Heavy a0 r=term_Sum a0 r:=by
 unfold ref1_Heavy term_Sum
 rw[ref1_Heavy_L0_go_at0 _ _ _ (by unfold maxLen; omega),term_Sum_L0_go_at0 _ _ _ (by unfold maxLen; omega),heavy_go]
def cntC (r:List Int) (v:Nat):Nat:=r.count (-1 - (v:Int))
theorem cntC_le (r:List Int) (v:Nat):cntC r v≤r.length:=List.count_le_length
theorem cntC_cons (c:Int) (r:List Int) (v:Nat):cntC (c::r) v=cntC r v+cond (c == -1 - (v:Int)) 1 0:=by
 unfold cntC
 rw[List.count_cons]
 cases c == -1 - (v:Int)<;>rfl
theorem often_L0 {v:Nat} (hv:v<24):(es:List Int)→(s:Int) → -1000000000≤s→s+es.length≤1000000000→ref1_often_L0_go (v:Int) es s=some (s+(cntC es v:Int))
 | [],s,_,_=>by simp [ref1_often_L0_go,cntC]
 | e::es,s,h0,h1=>by
  simp only[List.length_cons] at h1
  unfold ref1_often_L0_go
  have w1:IntKind.wrap .i64 ((-1) - (v:Int)) = -1 - (v:Int):=by rw[wrap64]<;>omega
  have w2:IntKind.wrap .i64 (s+1)=s+1:=by rw[wrap64]<;>omega
  rw[w1,w2,cntC_cons]
  cases e == -1 - (v:Int) with
  | true=>rw[cond_true,cond_true,often_L0 hv es _ (by omega) (by omega)]; congr 1; omega
  | false=>rw[cond_false,cond_false,often_L0 hv es _ (by omega) (by omega)]; congr 1
theorem often_L1 {v:Nat} (hv:v<24):(es:List Int)→(s:Int) → -1000000000≤s - es.length→s≤1000000000→ref1_often_L1_go (v:Int) es s=some (s - (cntC es v:Int))
 | [],s,_,_=>by simp [ref1_often_L1_go,cntC]
 | e::es,s,h0,h1=>by
  simp only[List.length_cons] at h0
  unfold ref1_often_L1_go
  have w1:IntKind.wrap .i64 ((-1) - (v:Int)) = -1 - (v:Int):=by rw[wrap64]<;>omega
  have w2:IntKind.wrap .i64 (s - 1)=s - 1:=by rw[wrap64]<;>omega
  rw[w1,w2,cntC_cons]
  cases e == -1 - (v:Int) with
  | true=>rw[cond_true,cond_true,often_L1 hv es _ (by omega) (by omega)]; congr 1; omega
  | false=>rw[cond_false,cond_false,often_L1 hv es _ (by omega) (by omega)]; congr 1
def coverB (a b:List Int) (vs:List Nat):Bool:=vs.all fun v=>decide (cntC b v≤cntC a v)
theorem often_L2 {a b:List Int} (ha:a.length≤1000000) (hb:b.length≤1000000):∀(m v k:Nat),24 - v=m→v≤24→m<k→lp ref1_often_L2 k (a,b,(v:Int))=some (cond (coverB a b ((List.range 24).drop v)) (.inl ()) (.inr false)):=by
 intro m
 induction m with
 | zero =>
  intro v k hm hv hk
  obtain⟨k,rfl⟩:∃ k',k=k'+1:=⟨k - 1,by omega⟩
  rw[lp_succ]
  generalize lp ref1_often_L2 k=rec
  unfold ref1_often_L2
  have:v=24:=by omega
  subst this
  rw[show (List.range 24).drop 24=[] from rfl]
  rfl
 | succ m ih =>
  intro v k hm hv hk
  obtain⟨k,rfl⟩:∃ k',k=k'+1:=⟨k - 1,by omega⟩
  rw[lp_succ]
  have key:=ih (v+1) k (by omega) (by omega) (by omega)
  generalize lp ref1_often_L2 k=rec at key ⊢
  unfold ref1_often_L2
  have w1:IntKind.wrap .i64 ((v:Int)+1)=((v+1:Nat):Int):=by rw[wrap64]<;>omega
  have hdr:(List.range 24).drop v=v::(List.range 24).drop (v+1):=by
   rw[List.drop_eq_getElem_cons (by simp; omega)]
   simp
  have hca:=cntC_le a v
  have hcb:=cntC_le b v
  simp only[decide_eq_true (show (v:Int)≤23 by omega),cond_true,w1]
  rw[ref1_often_L0_go_at0 _ _ _ _ (by unfold maxLen; omega),often_L0 (by omega) a 0 (by omega) (by omega),Option.bind_some,ref1_often_L1_go_at0 _ _ _ _ (by unfold maxLen; omega),often_L1 (by omega) b _ (by omega) (by omega),Option.bind_some,key,hdr]
  unfold coverB
  rw[List.all_cons]
  by_cases hc:cntC b v≤cntC a v
  ·rw[decide_eq_false (show ¬(0+(cntC a v:Int) - (cntC b v:Int)<0) by omega),cond_false,decide_eq_true hc,Bool.true_and]
  ·rw[decide_eq_true (show 0+(cntC a v:Int) - (cntC b v:Int)<0 by omega),cond_true,decide_eq_false hc,Bool.false_and,cond_false]
theorem often_eq {a b:List Int} (ha:a.length≤1000000) (hb:b.length≤1000000):ref1_often a b=some (coverB a b (List.range 24)):=by
 unfold ref1_often
 have:=often_L2 ha hb 24 0 fuel rfl (by omega) (by unfold fuel; omega)
 rw[show ((0:Nat):Int)=0 from rfl,List.drop_zero] at this
 rw[this]
 cases coverB a b (List.range 24)<;>rfl
theorem count_go:(es:List Int)→(xs:List Int)→(∀ c∈es,-24≤c)→xs.length=24→(∀ v,v<24→0≤xs.getD v 0∧xs.getD v 0+es.length≤1000000000)→∃ ys,order_often_L0_go es xs=some ys∧ys.length=24∧∀ v,v<24→ys.getD v 0=xs.getD v 0+(cntC es v:Int)
 | [],xs,_,hl,_=>⟨xs,rfl,hl,fun v _=>by simp [cntC]⟩
 | c::es,xs,hc,hl,hb=>by
  have hc0:=hc c (List.mem_cons_self ..)
  simp only[List.length_cons] at hb
  unfold order_often_L0_go
  by_cases h0:c<0
  ·obtain⟨u,rfl⟩:∃ u:Nat,c = -1 - (u:Int):=⟨(-1 - c).toNat,by omega⟩
   have hu:u<24:=by omega
   have hbu:=hb u hu
   have hg:xs[u]? = some (xs.getD u 0):=by
    rw[List.getD_eq_getElem?_getD,List.getElem?_eq_getElem (by omega)]
    rfl
   have w1:IntKind.wrap .i64 (xs.getD u 0+1)=xs.getD u 0+1:=by rw[wrap64]<;>omega
   rw[decide_eq_true h0,cond_true,term_Number_eq (by omega) (by omega),Option.bind_some,show -1 - (-1 - (u:Int))=(u:Int) from by omega,inR_nat hu,Option.bind_some,hg,Option.bind_some,Option.bind_some,hg,Option.bind_some,w1]
   obtain⟨ys,g1,g2,g3⟩:=count_go es (xs.set u (xs.getD u 0+1)) (fun d hd=>hc d (List.mem_cons_of_mem _ hd)) (by rw[List.length_set]; exact hl) (fun v hv=>by
    rw[getD_set (by omega)]
    have:=hb v hv
    split<;>omega)
   refine ⟨ys,g1,g2,fun v hv => ?_⟩
   rw[g3 v hv,getD_set (by omega),cntC_cons]
   by_cases hvu:v=u
   ·subst hvu
    rw[if_pos rfl,show ((-1 - (v:Int)) == -1 - (v:Int))=true from by simp,cond_true]
    omega
   ·rw[if_neg hvu,show ((-1 - (u:Int)) == -1 - (v:Int))=false from by simp; omega,cond_false]
    omega
  ·rw[decide_eq_false h0,cond_false]
   obtain⟨ys,g1,g2,g3⟩:=count_go es xs (fun d hd=>hc d (List.mem_cons_of_mem _ hd)) hl (fun v hv=>by have:=hb v hv; omega)
   refine ⟨ys,g1,g2,fun v hv => ?_⟩
   rw[g3 v hv,cntC_cons,show (c == -1 - (v:Int))=false from by simp; omega,cond_false]
   omega
theorem count_eq {r:List Int} (hl:r.length≤1000000) (hc:∀ c∈r,-24≤c):∃ ys,order_often r=some ys∧ys.length=24∧∀ v,v<24→ys.getD v 0=(cntC r v:Int):=by
 have hz:∀ v,(List.replicate 24 (0:Int)).getD v 0=0:=fun v=>by
  rw[List.getD_eq_getElem?_getD,List.getElem?_replicate]
  split<;>rfl
 obtain⟨ys,g1,g2,g3⟩:=count_go r (List.replicate 24 (0:Int)) hc (by simp) (fun v _=>by rw[hz]; omega)
 refine ⟨ys,?_,g2,fun v hv=>by rw[g3 v hv,hz]; omega⟩
 unfold order_often
 rw[order_often_L0_go_at0 _ _ (by unfold maxLen; omega),g1,Option.bind_some,g2]
 rfl
theorem covers_run {a b xs ys:List Int} (hx:xs.length=24) (hy:ys.length=24) (gx:∀ v,v<24→xs.getD v 0=(cntC a v:Int)) (gy:∀ v,v<24→ys.getD v 0=(cntC b v:Int)):∀(m v k:Nat),24 - v=m→v≤24→m<k→lp order_covers_L0 k ((v:Int),xs,ys)=some (cond (coverB a b ((List.range 24).drop v)) (.inl ()) (.inr false)):=by
 intro m
 induction m with
 | zero =>
  intro v k hm hv hk
  obtain⟨k,rfl⟩:∃ k',k=k'+1:=⟨k - 1,by omega⟩
  rw[lp_succ]
  generalize lp order_covers_L0 k=rec
  unfold order_covers_L0
  have:v=24:=by omega
  subst this
  rw[show (List.range 24).drop 24=[] from rfl]
  rfl
 | succ m ih =>
  intro v k hm hv hk
  obtain⟨k,rfl⟩:∃ k',k=k'+1:=⟨k - 1,by omega⟩
  rw[lp_succ]
  have key:=ih (v+1) k (by omega) (by omega) (by omega)
  generalize lp order_covers_L0 k=rec at key ⊢
  unfold order_covers_L0
  have w1:IntKind.wrap .i64 ((v:Int)+1)=((v+1:Nat):Int):=by rw[wrap64]<;>omega
  have hdr:(List.range 24).drop v=v::(List.range 24).drop (v+1):=by
   rw[List.drop_eq_getElem_cons (by simp; omega)]
   simp
  have h1:xs[v]? = some (cntC a v:Int):=by
   rw[← gx v (by omega),List.getD_eq_getElem?_getD,List.getElem?_eq_getElem (by omega)]
   rfl
  have h2:ys[v]? = some (cntC b v:Int):=by
   rw[← gy v (by omega),List.getD_eq_getElem?_getD,List.getElem?_eq_getElem (by omega)]
   rfl
  simp only[decide_eq_true (show (v:Int)<24 by omega),cond_true,w1,inR_nat (show v<24 by omega),Option.bind_some,h1,h2]
  rw[key,hdr]
  unfold coverB
  rw[List.all_cons]
  by_cases hc:cntC b v≤cntC a v
  ·rw[decide_eq_false (show ¬((cntC a v:Int)<(cntC b v:Int)) by omega),cond_false,decide_eq_true hc,Bool.true_and]
  ·rw[decide_eq_true (show (cntC a v:Int)<(cntC b v:Int) by omega),cond_true,decide_eq_false hc,Bool.false_and,cond_false]
theorem covers_eq {a b:List Int} (ha:a.length≤1000000) (hb:b.length≤1000000) (ca:∀ c∈a,-24≤c) (cb:∀ c∈b,-24≤c):order_covers a b=some (coverB a b (List.range 24)):=by
 obtain⟨xs,h1,h2,h3⟩:=count_eq ha ca
 obtain⟨ys,g1,g2,g3⟩:=count_eq hb cb
 unfold order_covers
 rw[h1,Option.bind_some,g1,Option.bind_some]
 have:=covers_run (a:=a) (b:=b) h2 g2 h3 g3 24 0 fuel rfl (by omega) (by unfold fuel; omega)
 rw[show ((0:Nat):Int)=0 from rfl,List.drop_zero] at this
 rw[show Nat.beq (List.length (List.replicate 24 (0:Int))) 24=true from by simp,cond_true,cond_true,this]
 cases coverB a b (List.range 24)<;>rfl
end
end Go.Abs.Q
namespace Go.Abs.Q
open Go Go.Abs
section
structure HF (a0:List QSym) (a:List Int) (c:Int) (ts:List Tm):Prop where
 eq:a=c::codesR ts
 ok:okR a0 24 ts
 len:a.length≤1000
 low : -24≤c
 sym:0≤c→∃ e,gx a0 c=some e
theorem hf_term {a0:List QSym} (hs:SignOk a0) {t:Tm} (ho:t.ok a0 24) (hl:t.codes.length≤1000):∃ c ts,HF a0 t.codes c ts∧(∀ d us u,u=t→u.codes=d::codesR us→True)∧sizeR ts<t.size:=by
 cases t with
 | v n =>
  have hn:n<24:=ho
  exact ⟨-1 - (n:Int),[],⟨rfl,trivial,hl,by omega,fun h=>by omega⟩,fun _ _ _ _ _=>trivial,by simp [sizeR,Tm.size]⟩
 | f c as =>
  obtain⟨e,he,-⟩:=arity_at hs ho.1
  exact ⟨(c:Int),as,⟨rfl,ho.2,hl,by omega,fun _=>⟨e,he⟩⟩,fun _ _ _ _ _=>trivial,by simp [Tm.size]⟩
mutual
theorem Tm.syms {a0:List QSym} (hs:SignOk a0):(t:Tm)→t.ok a0 24→∀ c∈t.codes,-24≤c∧(0≤c→∃ e,gx a0 c=some e)
 | .v n,ho,c,hc=>by
  have hn:n<24:=ho
  have hc:c = -1 - (n:Int):=by simpa[Tm.codes] using hc
  exact ⟨by omega,fun h=>by omega⟩
 | .f d as,ho,c,hc=>by
  rcases List.mem_cons.1 (show c∈(d:Int)::codesR as from hc) with rfl | hc
  ·obtain⟨e,he,-⟩:=arity_at hs ho.1
   exact ⟨by omega,fun _=>⟨e,he⟩⟩
  ·exact symsR hs as ho.2 c hc
theorem symsR {a0:List QSym} (hs:SignOk a0):(ts:List Tm)→okR a0 24 ts→∀ c∈codesR ts,-24≤c∧(0≤c→∃ e,gx a0 c=some e)
 | [],_,_,hc=>by simp [codesR] at hc
 | t::ts,ho,c,hc=>by
  rcases List.mem_append.1 (show c∈t.codes++codesR ts from hc) with hc | hc
  ·exact Tm.syms hs t ho.1 c hc
  ·exact symsR hs ts ho.2 c hc
end
theorem HF.syms {a0:List QSym} (hs:SignOk a0) {a:List Int} {c:Int} {ts:List Tm} (h:HF a0 a c ts):∀ d∈a,-24≤d∧(0≤d→∃ e,gx a0 d=some e):=fun d hd=>by
 rw[h.eq] at hd
 rcases List.mem_cons.1 hd with rfl | hd
 ·exact ⟨h.low,h.sym⟩
 ·exact symsR hs ts h.ok d hd
theorem sum_go_total {a0:List QSym}:(es:List Int)→(s:Int)→(∀ d∈es,-24≤d∧(0≤d→∃ e,gx a0 d=some e))→∃ r,term_Sum_L0_go a0 es s=some r
 | [],s,_=>⟨s,rfl⟩
 | e::es,s,h=>by
  unfold term_Sum_L0_go
  have ih:=fun s=>sum_go_total es s fun d hd=>h d (List.mem_cons_of_mem _ hd)
  by_cases h0:e<0
  ·rw[decide_eq_true h0]; exact ih _
  ·obtain⟨x,hx⟩:=(h e (List.mem_cons_self ..)).2 (by omega)
   rw[decide_eq_false h0,cond_false,hx]
   exact ih _
theorem HF.sum {a0:List QSym} (hs:SignOk a0) {a:List Int} {c:Int} {ts:List Tm} (h:HF a0 a c ts):∃ r,term_Sum a0 a=some r:=by
 have:=h.len
 obtain⟨r,hr⟩:=sum_go_total a 0 (h.syms hs)
 refine ⟨r,?_⟩
 unfold term_Sum
 rw[term_Sum_L0_go_at0 _ _ _ (by unfold maxLen; omega),hr]
 rfl
def firstU:List Tm→List Tm→Option (Tm×Tm)
 | t::ts,u::us=>if t.codes=u.codes then firstU ts us else some (t,u)
 | _,_=>none
theorem firstU_some:{ts us:List Tm}→{p:Tm×Tm}→firstU ts us=some p→p.1∈ts∧p.2∈us∧p.1.codes≠p.2.codes
 | [],_,_,h=>by cases h
 | _::_,[],_,h=>by cases h
 | t::ts,u::us,p,h=>by
  unfold firstU at h
  split at h
  ·obtain⟨h1,h2,h3⟩:=firstU_some h
   exact ⟨List.mem_cons_of_mem _ h1,List.mem_cons_of_mem _ h2,h3⟩
  ·rename_i hne
   injection h with h
   subst h
   exact ⟨List.mem_cons_self ..,List.mem_cons_self ..,hne⟩
theorem firstU_none:{ts us:List Tm}→ts.length=us.length→firstU ts us=none→codesR ts=codesR us
 | [],[],_,_=>rfl
 | [],_::_,h,_=>by simp at h
 | _::_,[],h,_=>by simp at h
 | t::ts,u::us,hl,h=>by
  unfold firstU at h
  split at h
  ·rename_i he
   show t.codes++codesR ts=u.codes++codesR us
   rw[he,firstU_none (by simpa using hl) h]
  ·cases h
theorem unlike_go {usA:List Tm} (hsm:∀ t∈usA,t.codes.length≤1000):(ts us:List Tm)→(i:Nat)→usA.drop i=us→ts.length=us.length→(∀ t∈ts,t.codes.length≤1000)→order_unlike_L0_go (usA.map Tm.codes) (ts.map Tm.codes) i=some (match firstU ts us with
  | none=>.inl ()
  | some p=>.inr (p.1.codes,p.2.codes))
 | [],[],i,_,_,_=>rfl
 | [],_::_,_,_,h,_=>by simp at h
 | _::_,[],_,_,h,_=>by simp at h
 | t::ts,u::us,i,hd,hl,hsmt=>by
  have hi:=drop_cons_lt hd
  have hg:=drop_cons_get hd
  have ht:=hsmt t (List.mem_cons_self ..)
  rw[List.map_cons]
  unfold order_unlike_L0_go firstU
  rw[List.length_map,decide_eq_true (show (i:Int)<(usA.length:Int) by omega),cond_true,gx_nat,List.getElem?_map,hg]
  simp only[Option.map_some,Option.bind_some]
  rw[slices_Equal_eq (by unfold maxLen; omega),Option.bind_some]
  by_cases he:t.codes=u.codes
  ·rw[decide_eq_true he,Bool.not_true,cond_false,if_pos he]
   exact unlike_go hsm ts us (i+1) (drop_cons_next hd) (by simpa using hl) fun t h=>hsmt t (List.mem_cons_of_mem _ h)
  ·rw[decide_eq_false he,Bool.not_false,cond_true,if_neg he]
theorem more_go {a0:List QSym} {rf:(List QSym×List Int×List Int)→Option Bool} {usA:List Tm}:(ts us:List Tm)→(i:Nat)→usA.drop i=us→ts.length=us.length→(∀ t∈ts,t.codes.length≤1000)→ref1_More_L0_go rf a0 (usA.map Tm.codes) (ts.map Tm.codes) i=(match firstU ts us with
  | none=>some (.inl ())
  | some p=>(rf (a0,p.1.codes,p.2.codes)).bind fun r=>some (.inr r))
 | [],[],i,_,_,_=>rfl
 | [],_::_,_,_,h,_=>by simp at h
 | _::_,[],_,_,h,_=>by simp at h
 | t::ts,u::us,i,hd,hl,hsmt=>by
  have hg:=drop_cons_get hd
  have ht:=hsmt t (List.mem_cons_self ..)
  rw[List.map_cons]
  unfold ref1_More_L0_go firstU
  rw[gx_nat,List.getElem?_map,hg]
  simp only[Option.map_some,Option.bind_some]
  rw[same1_eq (by omega),Option.bind_some]
  by_cases he:t.codes=u.codes
  ·rw[decide_eq_true he,Bool.not_true,cond_false,if_pos he]
   exact more_go ts us (i+1) (drop_cons_next hd) (by simpa using hl) fun t h=>hsmt t (List.mem_cons_of_mem _ h)
  ·rw[decide_eq_false he,Bool.not_false,cond_true,if_neg he]
end
end Go.Abs.Q
namespace Go.Abs.Q
open Go Go.Abs
section
theorem hf_terms {a0:List QSym} (hs:SignOk a0) {t u:Tm} (ht:t.ok a0 24) (hu:u.ok a0 24) (hlt:t.codes.length≤1000) (hlu:u.codes.length≤1000):∃ c ts d us,HF a0 t.codes c ts∧HF a0 u.codes d us∧(c=d→ts.length=us.length):=by
 obtain⟨c,ts,h1,-,-⟩:=hf_term hs ht hlt
 obtain⟨d,us,h2,-,-⟩:=hf_term hs hu hlu
 have inj:∀{c c':Int} {r r':List Int},c::r=c'::r'→c=c'∧r=r':=fun h=>by injection h with a b; exact ⟨a,b⟩
 refine ⟨c,ts,d,us,h1,h2,fun hcd => ?_⟩
 cases t with
 | v n =>
  obtain⟨e1,e2⟩:=inj (show (-1 - (n:Int))::[]=c::codesR ts from h1.eq)
  have e3:ts=[]:=codesR_inj (a0:=a0) _ ts [] (Nat.le_refl _) h1.ok trivial e2.symm
  cases u with
  | v m =>
   obtain⟨-,e5⟩:=inj (show (-1 - (m:Int))::[]=d::codesR us from h2.eq)
   have e6:us=[]:=codesR_inj (a0:=a0) _ us [] (Nat.le_refl _) h2.ok trivial e5.symm
   rw[e3,e6]
  | f q bs =>
   obtain⟨e4,-⟩:=inj (show (q:Int)::codesR bs=d::codesR us from h2.eq)
   omega
 | f p as =>
  obtain⟨e1,e2⟩:=inj (show (p:Int)::codesR as=c::codesR ts from h1.eq)
  have e3:as=ts:=codesR_inj (a0:=a0) _ as ts (Nat.le_refl _) ht.2 h1.ok e2
  cases u with
  | v m =>
   obtain⟨e4,-⟩:=inj (show (-1 - (m:Int))::[]=d::codesR us from h2.eq)
   omega
  | f q bs =>
   obtain⟨e4,e5⟩:=inj (show (q:Int)::codesR bs=d::codesR us from h2.eq)
   have e6:bs=us:=codesR_inj (a0:=a0) _ bs us (Nat.le_refl _) hu.2 h2.ok e5
   have hpq:p=q:=by omega
   subst hpq
   have h3:=ht.1
   have h4:=hu.1
   rw[h3] at h4
   injection h4 with h4
   rw[← e3,← e6,h4]
theorem more_run {a0:List QSym} (hs:SignOk a0):∀(n:Nat) (a b:List Int) (c d:Int) (ts us:List Tm),a.length≤n→HF a0 a c ts→HF a0 b d us→(c=d→ts.length=us.length)→a≠b→∀ k k',n<k→n<k' →
  ∃(r:Bool) (z:Unit⊕Bool),ref1_More_R k (a0,a,b)=some r∧lp order_more_L0 k' (a0,a,b)=some z∧caseS z (fun _=>false) (fun x=>x)=r:=by
 intro n
 induction n with
 | zero =>
  intro a b c d ts us hn h
  rw[h.eq] at hn
  simp at hn
 | succ n ih =>
  intro a b c d ts us hn ha hb har hne k k' hk hk'
  obtain⟨k,rfl⟩:∃ q,k=q+1:=⟨k - 1,by omega⟩
  obtain⟨k',rfl⟩:∃ q,k'=q+1:=⟨k' - 1,by omega⟩
  show ∃ r z,ref1_More_S (ref1_More_R k) a0 a b=some r∧_
  rw[lp_succ]
  have key:=fun a b c d ts us h1 h2 h3 h4 h5=>ih a b c d ts us h1 h2 h3 h4 h5 k k' (by omega) (by omega)
  generalize lp order_more_L0 k'=rec at key ⊢
  have la:=ha.len
  have lb:=hb.len
  obtain⟨x,hx⟩:=ha.sum hs
  obtain⟨y,hy⟩:=hb.sum hs
  unfold ref1_More_S order_more_L0
  simp only
  have hnn:nn a=some a:=by rw[ha.eq]; rfl
  rw[heavy_eq a0 (by omega),hx,Option.bind_some,heavy_eq a0 (by omega),hy,Option.bind_some,often_eq (by omega) (by omega),Option.bind_some,hnn,Option.bind_some,Option.bind_some,Bool.not_false,cond_true,
   covers_eq (by omega) (by omega) (fun e he=>(ha.syms hs e he).1) (fun e he=>(hb.syms hs e he).1),Option.bind_some]
  cases coverB a b (List.range 24) with
  | false=>exact ⟨false,.inl (),rfl,rfl,rfl⟩
  | true =>
   rw[Bool.not_true,cond_false,cond_true]
   simp only[Option.bind_some]
   by_cases hxy:x=y
   ·subst hxy
    rw[decide_eq_false (Int.lt_irrefl x),show (x != x)=false from by simp]
    simp only[cond_false]
    have ga:gx a 0=some c:=by rw[ha.eq]; rfl
    have gb:gx b 0=some d:=by rw[hb.eq]; rfl
    simp only[ga,gb,Option.bind_some]
    by_cases hcd:c=d
    ·subst hcd
     have hl:=har rfl
     rw[show (c != c)=false from by simp,cond_false,cond_false]
     have ea:=ha.eq
     have eb:=hb.eq
     have hlt:(codesR ts).length+1=a.length:=by rw[ea]; rfl
     have hlu:(codesR us).length+1=b.length:=by rw[eb]; rfl
     have sa:slc2 a (some 1) none=some (codesR ts):=by rw[ea]; exact slc_tail _ _
     have sb:slc2 b (some 1) none=some (codesR us):=by rw[eb]; exact slc_tail _ _
     have ct:∀ t∈ts,t.codes.length≤1000:=fun t h=>by have:=codes_le h; omega
     have cu:∀ t∈us,t.codes.length≤1000:=fun t h=>by have:=codes_le h; omega
     have cuts1:=cuts_codes ts ha.ok
     have cuts2:=cuts_codes us hb.ok
     have lts:=cuts_len cuts1
     have lus:=cuts_len cuts2
     rw[List.length_map] at lts lus
     have pa:=ref1_Parts_eq hs (a1:=codesR ts) (by omega) cuts1
     have pb:=ref1_Parts_eq hs (a1:=codesR us) (by omega) cuts2
     have ta:=term_Pieces_eq hs (a1:=codesR ts) (by omega) cuts1
     have tb:=term_Pieces_eq hs (a1:=codesR us) (by omega) cuts2
     unfold order_unlike
     simp only[sa,sb,pa,pb,ta,tb,Option.bind_some]
     rw[order_unlike_L0_go_at0 _ _ (by rw[List.length_map]; unfold maxLen; omega),unlike_go cu ts us 0 rfl hl ct,Option.bind_some,
      ref1_More_L0_go_at0 _ _ _ _ (by rw[List.length_map]; unfold maxLen; omega),more_go ts us 0 rfl hl ct]
     cases hf:firstU ts us with
     | none =>
      exfalso
      exact hne (by rw[ea,eb,firstU_none hl hf])
     | some p =>
      obtain⟨q1,q2,q3⟩:=firstU_some hf
      obtain⟨c1,ts1,d1,us1,f1,f2,f3⟩:=hf_terms hs (okR_iff.1 ha.ok _ q1) (okR_iff.1 hb.ok _ q2) (ct _ q1) (cu _ q2)
      have:=codes_le q1
      obtain⟨r,z,g1,g2,g3⟩:=key p.1.codes p.2.codes c1 d1 ts1 us1 (by omega) f1 f2 f3 q3
      refine ⟨r,z,?_,g2,g3⟩
      simp only
      rw[g1]
      rfl
    ·rw[show (c != d)=true from by simp [hcd],cond_true,cond_true]
     exact ⟨decide (c>d),.inr (decide (c>d)),rfl,rfl,rfl⟩
   ·rw[show (x != y)=true from by simp [hxy],cond_true]
    by_cases hlt:x<y
    ·rw[decide_eq_true hlt,cond_true]
     refine ⟨false,.inr (decide (x>y)),rfl,rfl,?_⟩
     rw[decide_eq_false (show ¬ x>y by omega)]
     rfl
    ·rw[decide_eq_false hlt,cond_false,decide_eq_true (show x>y by omega),cond_true]
     exact ⟨true,.inr true,rfl,rfl,rfl⟩
end
end Go.Abs.Q
namespace Go.Abs.Q
open Go Go.Abs
section
theorem more_eq {a0:List QSym} (hs:SignOk a0) {a b:List Int} {c d:Int} {ts us:List Tm} (ha:HF a0 a c ts) (hb:HF a0 b d us) (har:c=d→ts.length=us.length) (hne:a≠b):∃ r,ref1_More a0 a b=some r∧order_more a0 a b=some r:=by
 have la:=ha.len
 obtain⟨r,z,h1,h2,h3⟩:=more_run hs a.length a b c d ts us (Nat.le_refl _) ha hb har hne fuel fuel (by unfold fuel; omega) (by unfold fuel; omega)
 refine ⟨r,h1,?_⟩
 unfold order_more
 rw[h2,Option.bind_some,← h3]
 cases z<;>rfl
def cmpTail (a0:List QSym) (a b:List Int):Option (Int×Int) :=
 (slices_Equal a b).bind fun r34=>cond r34 (some (1,0)) ((order_more a0 a b).bind fun r35=>cond r35 (some (2,0)) ((order_more a0 b a).bind fun r36=>cond r36 (some (0,0)) (some (3,0))))
theorem which_eq {a0:List QSym} (hs:SignOk a0) {a b:List Int} {c d:Int} {ts us:List Tm} (ha:HF a0 a c ts) (hb:HF a0 b d us) (har:c=d→ts.length=us.length):∃ k,ref1_Which a0 a b=some k∧cmpTail a0 a b=some (k,0):=by
 have la:=ha.len
 unfold ref1_Which cmpTail
 rw[same1_eq (by omega),Option.bind_some,slices_Equal_eq (by unfold maxLen; omega),Option.bind_some]
 by_cases he:a=b
 ·rw[decide_eq_true he]; exact ⟨1,rfl,rfl⟩
 ·rw[decide_eq_false he,cond_false,cond_false]
  obtain⟨r,h1,h2⟩:=more_eq hs ha hb har he
  rw[h1,h2,Option.bind_some,Option.bind_some]
  cases r with
  | true=>exact ⟨2,rfl,rfl⟩
  | false =>
   obtain⟨r',g1,g2⟩:=more_eq hs hb ha (fun h=>(har h.symm).symm) (Ne.symm he)
   rw[cond_false,cond_false,g1,g2,Option.bind_some,Option.bind_some]
   cases r' with
   | true=>exact ⟨0,rfl,rfl⟩
   | false=>exact ⟨3,rfl,rfl⟩
theorem isTerm_total (a0:List QSym) (xs:List Int):∃ b,term_IsTerm a0 xs=some b:=by
 unfold term_IsTerm
 rw[term_begins_eq,Option.bind_some]
 cases beginsB a0 xs with
 | none=>exact ⟨_,rfl⟩
 | some ps=>exact ⟨_,rfl⟩
theorem hf_atoms {a0:List QSym} {a b:List Int} (ha:atomB a0 a=true) (hb:atomB a0 b=true):∃ c ts d us,HF a0 a c ts∧HF a0 b d us∧(c=d→ts.length=us.length):=by
 obtain⟨c,ts,e,rfl,ho,he,-,hl,h48,-⟩:=atom_tree ha
 obtain⟨d,us,e',rfl,ho',he',-,hl',h48',-⟩:=atom_tree hb
 refine ⟨c,ts,d,us,⟨rfl,ho,by simp only[List.length_cons]; omega,by omega,fun _=>⟨e,by rw[gx_nat,he]⟩⟩,⟨rfl,ho',by simp only[List.length_cons]; omega,by omega,fun _=>⟨e',by rw[gx_nat,he']⟩⟩,fun h => ?_⟩
 have:c=d:=by omega
 rw[this,he'] at he
 injection he with he
 rw[he] at hl'
 omega
theorem compare_atoms {a0:List QSym} (hs:SignOk a0) {a b:List Int} (ha:atomB a0 a=true) (hb:atomB a0 b=true):∃ k,ref1_Which a0 a b=some k∧order_Compare a0 a b=some (k,0):=by
 obtain⟨c,ts,d,us,h1,h2,h3⟩:=hf_atoms ha hb
 obtain⟨k,g1,g2⟩:=which_eq hs h1 h2 h3
 refine ⟨k,g1,?_⟩
 rw[← g2]
 obtain⟨b1,e1⟩:=isTerm_total a0 a
 obtain⟨b2,e2⟩:=isTerm_total a0 b
 unfold order_Compare
 rw[e1,Option.bind_some,e2,term_IsAtom_eq,ha,term_IsAtom_eq,hb]
 cases b1<;>cases b2<;>rfl
theorem compare_terms {a0:List QSym} (hs:SignOk a0) {t u:Tm} (ht:t.ok a0 24) (hu:u.ok a0 24) (hlt:t.codes.length≤1000) (hlu:u.codes.length≤1000):∃ k,ref1_Which a0 t.codes u.codes=some k∧cmpTail a0 t.codes u.codes=some (k,0):=by
 obtain⟨c,ts,d,us,h1,h2,h3⟩:=hf_terms hs ht hu hlt hlu
 exact which_eq hs h1 h2 h3
end
end Go.Abs.Q
namespace Go.Abs.Q
open Go Go.Abs
section
end
end Go.Abs.Q
namespace Go.Abs.Q
open Go Go.Abs
section
end
end Go.Abs.Q
namespace Go.Abs.Q
open Go Go.Abs
section
end
end Go.Abs.Q
namespace Go.Abs.Q
open Go Go.Abs
section
end
end Go.Abs.Q
namespace Go.Abs.Q
open Go Go.Abs
end Go.Abs.Q
namespace Go.Abs.Q
open Go Go.Abs
section
def SameCl (L:List QLit) (T:List (List Int)) (C:List QLit):Prop:=law0_SameClause L T C L T C=some true
end
end Go.Abs.Q
namespace Go.Abs.Q
open Go Go.Abs
end Go.Abs.Q
namespace Go.Abs.Q
open Go Go.Abs
section
abbrev StepT:=Int×Int×Int×Int×Int×Int×Int×List QLit×List (List Int)×List QLit
section
variable {a0:List QSym} {L:List QLit} {T:List (List Int)} {C:List QLit} (hmay:mayB a0 L T C=true)
include hmay
end
end
end Go.Abs.Q
namespace Go.Abs.Q
open Go Go.Abs
section
section
variable {a0:List QSym} {L:List QLit} {T:List (List Int)} {C:List QLit} (hmay:mayB a0 L T C=true)
include hmay
end
end
end Go.Abs.Q
namespace Go.Abs.Q
open Go Go.Abs
end Go.Abs.Q
namespace Go.Abs.Q
open Go Go.Abs
end Go.Abs.Q
namespace Go.Abs.Q
open Go Go.Abs
section
end
end Go.Abs.Q
namespace Go.Abs.Q
open Go Go.Abs
def para_equation (a0:(List QLit)) (_a1:(List (List Int))) (_a2:(List QLit)) (a3:Int) (a4:Bool):Option Bool :=
 cond (decide (a3≥0))
 (cond (decide (a3<((List.length a0:Nat):Int)))
  ((gx a0 a3).bind fun e4 =>
   (gx e4.2 0).bind fun e5 =>
   cond (e5==0)
   ((gx a0 a3).bind fun e6 =>
    some (e6.1==a4))
   (some false))
  (some false))
 (some false)
def resolve_Apart_1 (a0:(List QSym)) (a1:(List QLit)) (a2:(List (List Int))) (a3:(List QLit)) (a4:(List QLit)) (a5:(List (List Int))) (a6:(List QLit)):Option (Bool×(List QLit)×(List (List Int))×(List QLit)) :=
 (clause_Vars a0 a1 a2 a3).bind fun r14 =>
 cond (decide (((List.length r14.2:Nat):Int)>0))
 ((inR (IntKind.wrap .i64 (((List.length r14.2:Nat):Int) - 1)) (List.length r14.2)).bind fun k15 =>
  (r14.2[k15]?).bind fun x16 =>
  (clause_Vars a0 a4 a5 a6).bind fun r17 =>
  cond (decide (((List.length r17.2:Nat):Int)>0))
  ((inR (IntKind.wrap .i64 (((List.length r17.2:Nat):Int) - 1)) (List.length r17.2)).bind fun k18 =>
   (r17.2[k18]?).bind fun x19 =>
   cond (decide ((IntKind.wrap .i64 (x19+(IntKind.wrap .i64 (x16+1))))>23))
   (some (false,([]:(List QLit)),([]:(List (List Int))),([]:(List QLit))))
   ((clause_Shift a4 a5 a6 (IntKind.wrap .i64 (x16+1))).bind fun r20 =>
    some (true,r20.1,r20.2.1,r20.2.2)))
  ((clause_Shift a4 a5 a6 (IntKind.wrap .i64 (x16+1))).bind fun r21 =>
   some (true,r21.1,r21.2.1,r21.2.2)))
 ((clause_Vars a0 a4 a5 a6).bind fun r22 =>
  cond (decide (((List.length r22.2:Nat):Int)>0))
  ((inR (IntKind.wrap .i64 (((List.length r22.2:Nat):Int) - 1)) (List.length r22.2)).bind fun k23 =>
   (r22.2[k23]?).bind fun x24 =>
   cond (decide ((IntKind.wrap .i64 (x24+0))>23))
   (some (false,([]:(List QLit)),([]:(List (List Int))),([]:(List QLit))))
   ((clause_Shift a4 a5 a6 0).bind fun r25 =>
    some (true,r25.1,r25.2.1,r25.2.2)))
  ((clause_Shift a4 a5 a6 0).bind fun r26 =>
   some (true,r26.1,r26.2.1,r26.2.2)))
def resolve_Sides (a0:(List QSym)) (a1:(List Int)):Option (List (List Int)) :=
 (slc2 a1 (some 1) none).bind fun y3 =>
 (term_Pieces a0 y3).bind fun r4 =>
 some r4
def para_before (a0:(List QSym)) (a1:(List Int)) (a2:(List Int)):Option Bool :=
 (order_Compare a0 a1 a2).bind fun r2 =>
 cond (r2.1 != 2)
 (some (r2.1 != 3))
 (some false)
def para_changed (a0:(List QSym)) (a1:(List Int)) (a2:Int) (a3:(List Int)):Option (List Int) :=
 (term_Skip a0 a1 a2).bind fun r5 =>
 (slc2 a1 none (some a2)).bind fun y6 =>
 (slc2 a1 (some r5.1) none).bind fun y7 =>
 (slices_Concat_2 ([y6,a3,y7]:List (List Int))).bind fun r8 =>
 some r8
def para_one (a0:(List QSym)) (a1:(List QLit)) (a2:(List (List Int))) (a3:(List QLit)) (a4:Int) (a5:Int) (a6:(List QLit)) (a7:(List (List Int))) (a8:(List QLit)) (a9:Int) (a10:Int):Option ((List QLit)×(List (List Int))×Bool×Int×(List QLit)) :=
 (gx a6 a9).bind fun e28 =>
 (gx e28.2 a10).bind fun e29 =>
 cond (decide (e29<0))
 (some (([]:(List QLit)),([]:(List (List Int))),false,0,([]:(List QLit))))
 ((resolve_Apart_1 a0 a1 a2 a3 a6 a7 a8).bind fun r30 =>
  cond (!r30.1)
  (some (([]:(List QLit)),([]:(List (List Int))),false,1501,([]:(List QLit))))
  ((gx a1 a4).bind fun e31 =>
   (resolve_Sides a0 e31.2).bind fun r32 =>
   (inR a9 (List.length r30.2.1)).bind fun k33 =>
   (r30.2.1[k33]?).bind fun x34 =>
   (term_Skip a0 x34.2 a10).bind fun r35 =>
   (inR a5 (List.length r32)).bind fun k36 =>
   (r32[k36]?).bind fun x37 =>
   (slc2 x34.2 (some a10) (some r35.1)).bind fun y38 =>
   (unify_Unify a0 x37 y38).bind fun r39 =>
   cond (r39.2.1 != 0)
   (some (([]:(List QLit)),([]:(List (List Int))),false,1502,([]:(List QLit))))
   (cond (!r39.1)
    (some (([]:(List QLit)),([]:(List (List Int))),false,0,([]:(List QLit))))
    ((inR a5 (List.length r32)).bind fun k40 =>
     (r32[k40]?).bind fun x41 =>
     (bind_On r39.2.2 x41).bind fun r42 =>
     (inR (IntKind.wrap .i64 (1 - a5)) (List.length r32)).bind fun k43 =>
     (r32[k43]?).bind fun x44 =>
     (bind_On r39.2.2 x44).bind fun r45 =>
     cond (decide (((List.length r42:Nat):Int)>48))
     (some (([]:(List QLit)),([]:(List (List Int))),false,1502,([]:(List QLit))))
     (cond (decide (((List.length r45:Nat):Int)>48))
      (some (([]:(List QLit)),([]:(List (List Int))),false,1502,([]:(List QLit))))
      ((para_before a0 r42 r45).bind fun r46 =>
       cond r46
       (some (([]:(List QLit)),([]:(List (List Int))),false,0,([]:(List QLit))))
       ((inR (IntKind.wrap .i64 (1 - a5)) (List.length r32)).bind fun k47 =>
        (r32[k47]?).bind fun x48 =>
        (para_changed a0 x34.2 a10 x48).bind fun r49 =>
        (inR a9 (List.length r30.2.1)).bind fun k50 =>
        (r30.2.1[k50]?).bind fun x51 =>
        (resolve_Both a1 a2 a3 a4 (List.set r30.2.1 k50 (x51.1,r49)) r30.2.2.1 r30.2.2.2 (-1)).bind fun r52 =>
        (clause_On r39.2.2 r52.2.1 r52.1 r52.2.2).bind fun r53 =>
        (clause_Normal a0 r53.1 r53.2.1 r53.2.2).bind fun r54 =>
        cond (r54.2.2.1 != 0)
        (some (([]:(List QLit)),([]:(List (List Int))),false,1502,([]:(List QLit))))
        (some (r54.1,r54.2.1,true,0,r54.2.2.2)))))))))
def para_One (a0:(List QSym)) (a1:(List QLit)) (a2:(List (List Int))) (a3:(List QLit)) (a4:Int) (a5:Int) (a6:(List QLit)) (a7:(List (List Int))) (a8:(List QLit)) (a9:Int) (a10:Int):Option ((List QLit)×(List (List Int))×Bool×Int×(List QLit)) :=
 (clause_May a0 a1 a2 a3).bind fun r8 =>
 cond (!r8)
 (some (([]:(List QLit)),([]:(List (List Int))),false,1500,([]:(List QLit))))
 ((clause_May a0 a6 a7 a8).bind fun r9 =>
  cond (!r9)
  (some (([]:(List QLit)),([]:(List (List Int))),false,1500,([]:(List QLit))))
  ((para_equation a1 a2 a3 a4 false).bind fun r10 =>
   cond (!r10)
   (some (([]:(List QLit)),([]:(List (List Int))),false,1500,([]:(List QLit))))
   (cond (a5 != 0)
    (cond (a5 != 1)
     (some (([]:(List QLit)),([]:(List (List Int))),false,1500,([]:(List QLit))))
     (cond (decide (a9<0))
      (some (([]:(List QLit)),([]:(List (List Int))),false,1500,([]:(List QLit))))
      (cond (decide (a9≥((List.length a6:Nat):Int)))
       (some (([]:(List QLit)),([]:(List (List Int))),false,1500,([]:(List QLit))))
       (cond (decide (a10<1))
        (some (([]:(List QLit)),([]:(List (List Int))),false,1500,([]:(List QLit))))
        ((gx a6 a9).bind fun e11 =>
         cond (decide (a10≥((List.length e11.2:Nat):Int)))
         (some (([]:(List QLit)),([]:(List (List Int))),false,1500,([]:(List QLit))))
         ((para_one a0 a1 a2 a3 a4 a5 a6 a7 a8 a9 a10).bind fun r12 =>
          some (r12.1,r12.2.1,r12.2.2.1,r12.2.2.2.1,r12.2.2.2.2)))))))
    (cond (decide (a9<0))
     (some (([]:(List QLit)),([]:(List (List Int))),false,1500,([]:(List QLit))))
     (cond (decide (a9≥((List.length a6:Nat):Int)))
      (some (([]:(List QLit)),([]:(List (List Int))),false,1500,([]:(List QLit))))
      (cond (decide (a10<1))
       (some (([]:(List QLit)),([]:(List (List Int))),false,1500,([]:(List QLit))))
       ((gx a6 a9).bind fun e13 =>
        cond (decide (a10≥((List.length e13.2:Nat):Int)))
        (some (([]:(List QLit)),([]:(List (List Int))),false,1500,([]:(List QLit))))
        ((para_one a0 a1 a2 a3 a4 a5 a6 a7 a8 a9 a10).bind fun r14 =>
         some (r14.1,r14.2.1,r14.2.2.1,r14.2.2.2.1,r14.2.2.2.2)))))))))
def ref13_equation (a0:(List QLit)) (a1:(List (List Int))) (a2:(List QLit)) (a3:Int):Option Bool :=
 (ref13_there a0 a1 a2 a3).bind fun r5 =>
 cond r5
 ((gx a0 a3).bind fun e6 =>
  cond (!e6.1)
  ((gx a0 a3).bind fun e7 =>
   (gx e7.2 0).bind fun e8 =>
   some (e8==0))
  (some false))
 (some false)
def ref13_spliced (a0:(List Int)) (a1:Int) (a2:Int) (a3:(List Int)):Option (List Int) :=
 (slc2 a0 none (some a1)).bind fun y3 =>
 cond (room (List.length ([]:List Int)+List.length y3) 8)
 (cond (room (List.length (([]:List Int)++y3)+List.length a3) 8)
  ((slc2 a0 (some a2) none).bind fun y4 =>
   cond (room (List.length ((([]:List Int)++y3)++a3)+List.length y4) 8)
   (some (((([]:List Int)++y3)++a3)++y4))
   (none))
  (none))
 (none)
def ref13_Para (a0:(List QSym)) (a1:(List QLit)) (a2:(List (List Int))) (a3:(List QLit)) (a4:Int) (a5:Int) (a6:(List QLit)) (a7:(List (List Int))) (a8:(List QLit)) (a9:Int) (a10:Int):Option ((List QLit)×(List (List Int))×Bool×Int×(List QLit)) :=
 (ref8_May a0 a1 a2 a3).bind fun r30 =>
 cond (!r30)
 (some (([]:(List QLit)),([]:(List (List Int))),false,1500,([]:(List QLit))))
 ((ref8_May a0 a6 a7 a8).bind fun r31 =>
  cond (!r31)
  (some (([]:(List QLit)),([]:(List (List Int))),false,1500,([]:(List QLit))))
  ((ref13_equation a1 a2 a3 a4).bind fun r32 =>
   cond (!r32)
   (some (([]:(List QLit)),([]:(List (List Int))),false,1500,([]:(List QLit))))
   (cond (decide (a5<0))
    (some (([]:(List QLit)),([]:(List (List Int))),false,1500,([]:(List QLit))))
    (cond (decide (a5>1))
     (some (([]:(List QLit)),([]:(List (List Int))),false,1500,([]:(List QLit))))
     ((ref13_there a6 a7 a8 a9).bind fun r33 =>
      cond (!r33)
      (some (([]:(List QLit)),([]:(List (List Int))),false,1500,([]:(List QLit))))
      (cond (decide (a10<1))
       (some (([]:(List QLit)),([]:(List (List Int))),false,1500,([]:(List QLit))))
       ((gx a6 a9).bind fun e34 =>
        cond (decide (a10≥((List.length e34.2:Nat):Int)))
        (some (([]:(List QLit)),([]:(List (List Int))),false,1500,([]:(List QLit))))
        ((gx a6 a9).bind fun e35 =>
         (gx e35.2 a10).bind fun e36 =>
         cond (decide (e36<0))
         (some (([]:(List QLit)),([]:(List (List Int))),false,0,([]:(List QLit))))
         ((ref13_apart a1 a2 a3 a6 a7 a8).bind fun r37 =>
          cond (!r37.2.2.1)
          (some (([]:(List QLit)),([]:(List (List Int))),false,1501,([]:(List QLit))))
          ((gx a1 a4).bind fun e38 =>
           (slc2 e38.2 (some 1) none).bind fun y39 =>
           (ref1_Parts a0 y39).bind fun r40 =>
           (inR a5 (List.length r40)).bind fun k41 =>
           (r40[k41]?).bind fun x42 =>
           (inR (IntKind.wrap .i64 (1 - a5)) (List.length r40)).bind fun k43 =>
           (r40[k43]?).bind fun x44 =>
           (gx r37.1 a9).bind fun e45 =>
           (ref1_End a0 e45.2 a10).bind fun r46 =>
           (slc2 e45.2 (some a10) (some r46)).bind fun y47 =>
           (ref1_Together a0 x42 y47).bind fun r48 =>
           cond (!r48.2.1)
           (some (([]:(List QLit)),([]:(List (List Int))),false,1502,([]:(List QLit))))
           (cond (!r48.1)
            (some (([]:(List QLit)),([]:(List (List Int))),false,0,([]:(List QLit))))
            ((ref1_Put r48.2.2 x42).bind fun r49 =>
             (ref1_Put r48.2.2 x44).bind fun r50 =>
             cond (decide (((List.length r49:Nat):Int)>48))
             (some (([]:(List QLit)),([]:(List (List Int))),false,1502,([]:(List QLit))))
             (cond (decide (((List.length r50:Nat):Int)>48))
              (some (([]:(List QLit)),([]:(List (List Int))),false,1502,([]:(List QLit))))
              ((ref1_Which a0 r49 r50).bind fun r51 =>
               cond (r51==0)
               (some (([]:(List QLit)),([]:(List (List Int))),false,0,([]:(List QLit))))
               (cond (r51==1)
                (some (([]:(List QLit)),([]:(List (List Int))),false,0,([]:(List QLit))))
                ((ref13_without a1 a4).bind fun r52 =>
                 cond (room (List.length r52+List.length r37.1) 32)
                 ((gx r37.1 a9).bind fun e53 =>
                  (ref13_spliced e45.2 a10 r46 x44).bind fun r54 =>
                  (inR (IntKind.wrap .i64 ((IntKind.wrap .i64 (((List.length a1:Nat):Int) - 1))+a9)) (List.length (r52++r37.1))).bind fun k55 =>
                  ((r52++r37.1)[k55]?).bind fun _x56 =>
                  (ref13_both (List.set (r52++r37.1) k55 (e53.1,r54)) a1 a2 a3 r37.1 r37.2.1 r37.2.2.2).bind fun r57 =>
                  (ref13_done a0 r48.2.2 r57.1 r57.2.1 r57.2.2).bind fun r58 =>
                  cond (!r58.2.2.1)
                  (some (([]:(List QLit)),([]:(List (List Int))),false,1502,([]:(List QLit))))
                  (some (r58.1,r58.2.1,true,0,r58.2.2.2)))
                 (none)))))))))))))))))
def law15_words:Option (List QSym) :=
 some ([(([61]:Str),0,2,1),(([97]:Str),1,0,1),(([98]:Str),1,0,2),(([102]:Str),1,1,1),(([103]:Str),1,2,3),(([112]:Str),0,1,1),(([114]:Str),0,2,2)]:List QSym)
def para_reflex (a0:(List QSym)) (a1:(List QLit)) (a2:(List (List Int))) (a3:(List QLit)) (a4:Int):Option ((List QLit)×(List (List Int))×Bool×Int×(List QLit)) :=
 (gx a1 a4).bind fun e11 =>
 (resolve_Sides a0 e11.2).bind fun r12 =>
 (inR 0 (List.length r12)).bind fun k13 =>
 (r12[k13]?).bind fun x14 =>
 (inR 1 (List.length r12)).bind fun k15 =>
 (r12[k15]?).bind fun x16 =>
 (unify_Unify a0 x14 x16).bind fun r17 =>
 cond (r17.2.1 != 0)
 (some (([]:(List QLit)),([]:(List (List Int))),false,1502,([]:(List QLit))))
 (cond (!r17.1)
  (some (([]:(List QLit)),([]:(List (List Int))),false,0,([]:(List QLit))))
  ((resolve_Both a1 a2 a3 a4 ([]:(List QLit)) ([]:(List (List Int))) ([]:(List QLit)) (-1)).bind fun r18 =>
   (clause_On r17.2.2 r18.2.1 r18.1 r18.2.2).bind fun r19 =>
   (clause_Normal a0 r19.1 r19.2.1 r19.2.2).bind fun r20 =>
   cond (r20.2.2.1 != 0)
   (some (([]:(List QLit)),([]:(List (List Int))),false,1502,([]:(List QLit))))
   (some (r20.1,r20.2.1,true,0,r20.2.2.2))))
def para_Reflex (a0:(List QSym)) (a1:(List QLit)) (a2:(List (List Int))) (a3:(List QLit)) (a4:Int):Option ((List QLit)×(List (List Int))×Bool×Int×(List QLit)) :=
 (clause_May a0 a1 a2 a3).bind fun r4 =>
 cond (!r4)
 (some (([]:(List QLit)),([]:(List (List Int))),false,1500,([]:(List QLit))))
 ((para_equation a1 a2 a3 a4 true).bind fun r5 =>
  cond (!r5)
  (some (([]:(List QLit)),([]:(List (List Int))),false,1500,([]:(List QLit))))
  ((para_reflex a0 a1 a2 a3 a4).bind fun r6 =>
   some (r6.1,r6.2.1,r6.2.2.1,r6.2.2.2.1,r6.2.2.2.2)))
def para_All_c1 (a0:Int) (a1:(List QLit)) (a2:(List (List Int))) (a3:(List QLit)):Option Bool :=
 (para_equation a1 a2 a3 a0 false).bind fun r2 =>
 some (!r2)
def slices_IndexFunc_9_L0 (rec:((List Int)×Int×Int×(List QLit)×(List (List Int))×(List QLit))→Option (Unit⊕Int)) (x:((List Int)×Int×Int×(List QLit)×(List (List Int))×(List QLit))):Option (Unit⊕Int) :=
 cond (decide (x.2.2.1<x.2.1))
 ((gx x.1 x.2.2.1).bind fun e3 =>
  (para_All_c1 e3 x.2.2.2.1 x.2.2.2.2.1 x.2.2.2.2.2).bind fun r4 =>
  cond r4
  (some (Sum.inr x.2.2.1))
  (rec (x.1,x.2.1,(IntKind.wrap .i64 (x.2.2.1+1)),x.2.2.2.1,x.2.2.2.2.1,x.2.2.2.2.2)))
 (some (Sum.inl ()))
def slices_IndexFunc_9 (a0:(List Int)) (a1:(List QLit)) (a2:(List (List Int))) (a3:(List QLit)):Option Int :=
 ((lp slices_IndexFunc_9_L0 fuel) (a0,((List.length a0:Nat):Int),0,a1,a2,a3)).bind fun r8 =>
 caseS r8
 (fun _z9=>some (-1))
 (fun z10=>some z10)
def slices_DeleteFunc_1_L0 (rec:(Int×Int×(List Int)×(List QLit)×(List (List Int))×(List QLit))→Option (Int×(List Int))) (x:(Int×Int×(List Int)×(List QLit)×(List (List Int))×(List QLit))):Option (Int×(List Int)) :=
 cond (decide (x.2.1<((List.length x.2.2.1:Nat):Int)))
 ((inR x.2.1 (List.length x.2.2.1)).bind fun k12 =>
  (x.2.2.1[k12]?).bind fun x13 =>
  (para_All_c1 x13 x.2.2.2.1 x.2.2.2.2.1 x.2.2.2.2.2).bind fun r14 =>
  cond (!r14)
  ((inR x.1 (List.length x.2.2.1)).bind fun k15 =>
   (x.2.2.1[k15]?).bind fun _x16 =>
   rec ((IntKind.wrap .i64 (x.1+1)),(IntKind.wrap .i64 (x.2.1+1)),(List.set x.2.2.1 k15 x13),x.2.2.2.1,x.2.2.2.2.1,x.2.2.2.2.2))
  (rec (x.1,(IntKind.wrap .i64 (x.2.1+1)),x.2.2.1,x.2.2.2.1,x.2.2.2.2.1,x.2.2.2.2.2)))
 (some (x.1,x.2.2.1))
def slices_DeleteFunc_1 (a0:(List Int)) (a1:(List QLit)) (a2:(List (List Int))) (a3:(List QLit)):Option (List Int) :=
 (slices_IndexFunc_9 a0 a1 a2 a3).bind fun r19 =>
 cond (r19==(-1))
 (some a0)
 (((lp slices_DeleteFunc_1_L0 fuel) (r19,(IntKind.wrap .i64 (r19+1)),a0,a1,a2,a3)).bind fun r20 =>
  cond (decide (0≤r20.1))
  (cond (decide (r20.1≤((List.length r20.2:Nat):Int)))
   (cond (decide (((List.length r20.2:Nat):Int)≤((List.length r20.2:Nat):Int)))
    ((slc2 (clr r20.2 (0+Int.toNat r20.1) (Int.toNat ((List.length r20.2:Nat):Int) - Int.toNat r20.1)) none (some r20.1)).bind fun y21 =>
     some y21)
    (none))
   (none))
  (none))
def para_All_L0 (rec:((List QSym)×Int×Int×(List Int)×Int×Int×Int×Int×(List Int)×Int×Int×Int×(List Int)×Int×Int×(List QLit)×(List (List Int))×(List QLit)×(List QLit)×(List (List Int))×(List QLit)×(List QSym)×Int×(List (Int×Int×Int×Int×Int×Int×Int×(List QLit)×(List (List Int))×(List QLit))))→Option ((List QSym)×Int×(List (Int×Int×Int×Int×Int×Int×Int×(List QLit)×(List (List Int))×(List QLit))))) (x:((List QSym)×Int×Int×(List Int)×Int×Int×Int×Int×(List Int)×Int×Int×Int×(List Int)×Int×Int×(List QLit)×(List (List Int))×(List QLit)×(List QLit)×(List (List Int))×(List QLit)×(List QSym)×Int×(List (Int×Int×Int×Int×Int×Int×Int×(List QLit)×(List (List Int))×(List QLit))))):Option ((List QSym)×Int×(List (Int×Int×Int×Int×Int×Int×Int×(List QLit)×(List (List Int))×(List QLit)))) :=
 (gx x.2.2.2.2.2.2.2.2.2.2.2.2.2.2.2.2.2.2.1 x.2.2.2.2.2.2.1).bind fun e17 =>
 cond (decide (x.2.2.2.2.2.2.2.1<((List.length e17.2:Nat):Int)))
 ((para_one x.1 x.2.2.2.2.2.2.2.2.2.2.2.2.2.2.2.1 x.2.2.2.2.2.2.2.2.2.2.2.2.2.2.2.2.1 x.2.2.2.2.2.2.2.2.2.2.2.2.2.2.2.2.2.1 x.2.2.2.2.1 x.2.2.2.2.2.1 x.2.2.2.2.2.2.2.2.2.2.2.2.2.2.2.2.2.2.1 x.2.2.2.2.2.2.2.2.2.2.2.2.2.2.2.2.2.2.2.1 x.2.2.2.2.2.2.2.2.2.2.2.2.2.2.2.2.2.2.2.2.1 x.2.2.2.2.2.2.1 x.2.2.2.2.2.2.2.1).bind fun r18 =>
  (resolve_Kids_Add_2 3 x.2.1 x.2.2.2.2.1 x.2.2.2.2.2.1 x.2.2.1 x.2.2.2.2.2.2.1 x.2.2.2.2.2.2.2.1 ([]:(List QLit)) ([]:(List (List Int))) ([]:(List QLit)) r18.1 r18.2.1 r18.2.2.2.2 r18.2.2.1 r18.2.2.2.1 x.2.2.2.2.2.2.2.2.2.2.2.2.2.2.2.2.2.2.2.2.2.1 x.2.2.2.2.2.2.2.2.2.2.2.2.2.2.2.2.2.2.2.2.2.2.1 x.2.2.2.2.2.2.2.2.2.2.2.2.2.2.2.2.2.2.2.2.2.2.2).bind fun r19 =>
  rec (x.1,x.2.1,x.2.2.1,x.2.2.2.1,x.2.2.2.2.1,x.2.2.2.2.2.1,x.2.2.2.2.2.2.1,(IntKind.wrap .i64 (x.2.2.2.2.2.2.2.1+1)),x.2.2.2.2.2.2.2.2.1,x.2.2.2.2.2.2.2.2.2.1,x.2.2.2.2.2.2.2.2.2.2.1,x.2.2.2.2.2.2.2.2.2.2.2.1,x.2.2.2.2.2.2.2.2.2.2.2.2.1,x.2.2.2.2.2.2.2.2.2.2.2.2.2.1,x.2.2.2.2.2.2.2.2.2.2.2.2.2.2.1,x.2.2.2.2.2.2.2.2.2.2.2.2.2.2.2.1,x.2.2.2.2.2.2.2.2.2.2.2.2.2.2.2.2.1,x.2.2.2.2.2.2.2.2.2.2.2.2.2.2.2.2.2.1,x.2.2.2.2.2.2.2.2.2.2.2.2.2.2.2.2.2.2.1,x.2.2.2.2.2.2.2.2.2.2.2.2.2.2.2.2.2.2.2.1,x.2.2.2.2.2.2.2.2.2.2.2.2.2.2.2.2.2.2.2.2.1,r19.1,r19.2.1,r19.2.2))
 (some (x.2.2.2.2.2.2.2.2.2.2.2.2.2.2.2.2.2.2.2.2.2.1,x.2.2.2.2.2.2.2.2.2.2.2.2.2.2.2.2.2.2.2.2.2.2.1,x.2.2.2.2.2.2.2.2.2.2.2.2.2.2.2.2.2.2.2.2.2.2.2))
def para_All_L1 (rec:((List QSym)×Int×Int×(List Int)×Int×Int×(List Int)×Int×Int×Int×(List Int)×Int×Int×(List QLit)×(List (List Int))×(List QLit)×(List QLit)×(List (List Int))×(List QLit)×(List QSym)×Int×(List (Int×Int×Int×Int×Int×Int×Int×(List QLit)×(List (List Int))×(List QLit))))→Option ((List QSym)×Int×(List (Int×Int×Int×Int×Int×Int×Int×(List QLit)×(List (List Int))×(List QLit))))) (x:((List QSym)×Int×Int×(List Int)×Int×Int×(List Int)×Int×Int×Int×(List Int)×Int×Int×(List QLit)×(List (List Int))×(List QLit)×(List QLit)×(List (List Int))×(List QLit)×(List QSym)×Int×(List (Int×Int×Int×Int×Int×Int×Int×(List QLit)×(List (List Int))×(List QLit))))):Option ((List QSym)×Int×(List (Int×Int×Int×Int×Int×Int×Int×(List QLit)×(List (List Int))×(List QLit)))) :=
 cond (decide (x.2.2.2.2.2.2.2.2.2.2.2.2.1<x.2.2.2.2.2.2.2.2.2.2.2.1))
 ((gx x.2.2.2.2.2.2.2.2.2.2.1 x.2.2.2.2.2.2.2.2.2.2.2.2.1).bind fun e26 =>
  (gx x.2.2.2.2.2.2.2.2.2.2.2.2.2.2.2.2.1 e26).bind fun e27 =>
  cond (decide (1<((List.length e27.2:Nat):Int)))
  ((para_one x.1 x.2.2.2.2.2.2.2.2.2.2.2.2.2.1 x.2.2.2.2.2.2.2.2.2.2.2.2.2.2.1 x.2.2.2.2.2.2.2.2.2.2.2.2.2.2.2.1 x.2.2.2.2.1 x.2.2.2.2.2.1 x.2.2.2.2.2.2.2.2.2.2.2.2.2.2.2.2.1 x.2.2.2.2.2.2.2.2.2.2.2.2.2.2.2.2.2.1 x.2.2.2.2.2.2.2.2.2.2.2.2.2.2.2.2.2.2.1 e26 1).bind fun r28 =>
   (resolve_Kids_Add_2 3 x.2.1 x.2.2.2.2.1 x.2.2.2.2.2.1 x.2.2.1 e26 1 ([]:(List QLit)) ([]:(List (List Int))) ([]:(List QLit)) r28.1 r28.2.1 r28.2.2.2.2 r28.2.2.1 r28.2.2.2.1 x.2.2.2.2.2.2.2.2.2.2.2.2.2.2.2.2.2.2.2.1 x.2.2.2.2.2.2.2.2.2.2.2.2.2.2.2.2.2.2.2.2.1 x.2.2.2.2.2.2.2.2.2.2.2.2.2.2.2.2.2.2.2.2.2).bind fun r29 =>
   (((lp para_All_L0 fuel) (x.1,x.2.1,x.2.2.1,x.2.2.2.1,x.2.2.2.2.1,x.2.2.2.2.2.1,e26,2,x.2.2.2.2.2.2.1,x.2.2.2.2.2.2.2.1,x.2.2.2.2.2.2.2.2.1,x.2.2.2.2.2.2.2.2.2.1,x.2.2.2.2.2.2.2.2.2.2.1,x.2.2.2.2.2.2.2.2.2.2.2.1,x.2.2.2.2.2.2.2.2.2.2.2.2.1,x.2.2.2.2.2.2.2.2.2.2.2.2.2.1,x.2.2.2.2.2.2.2.2.2.2.2.2.2.2.1,x.2.2.2.2.2.2.2.2.2.2.2.2.2.2.2.1,x.2.2.2.2.2.2.2.2.2.2.2.2.2.2.2.2.1,x.2.2.2.2.2.2.2.2.2.2.2.2.2.2.2.2.2.1,x.2.2.2.2.2.2.2.2.2.2.2.2.2.2.2.2.2.2.1,r29.1,r29.2.1,r29.2.2))).bind fun r30 =>
   rec (x.1,x.2.1,x.2.2.1,x.2.2.2.1,x.2.2.2.2.1,x.2.2.2.2.2.1,x.2.2.2.2.2.2.1,x.2.2.2.2.2.2.2.1,x.2.2.2.2.2.2.2.2.1,x.2.2.2.2.2.2.2.2.2.1,x.2.2.2.2.2.2.2.2.2.2.1,x.2.2.2.2.2.2.2.2.2.2.2.1,(IntKind.wrap .i64 (x.2.2.2.2.2.2.2.2.2.2.2.2.1+1)),x.2.2.2.2.2.2.2.2.2.2.2.2.2.1,x.2.2.2.2.2.2.2.2.2.2.2.2.2.2.1,x.2.2.2.2.2.2.2.2.2.2.2.2.2.2.2.1,x.2.2.2.2.2.2.2.2.2.2.2.2.2.2.2.2.1,x.2.2.2.2.2.2.2.2.2.2.2.2.2.2.2.2.2.1,x.2.2.2.2.2.2.2.2.2.2.2.2.2.2.2.2.2.2.1,r30.1,r30.2.1,r30.2.2))
  (rec (x.1,x.2.1,x.2.2.1,x.2.2.2.1,x.2.2.2.2.1,x.2.2.2.2.2.1,x.2.2.2.2.2.2.1,x.2.2.2.2.2.2.2.1,x.2.2.2.2.2.2.2.2.1,x.2.2.2.2.2.2.2.2.2.1,x.2.2.2.2.2.2.2.2.2.2.1,x.2.2.2.2.2.2.2.2.2.2.2.1,(IntKind.wrap .i64 (x.2.2.2.2.2.2.2.2.2.2.2.2.1+1)),x.2.2.2.2.2.2.2.2.2.2.2.2.2.1,x.2.2.2.2.2.2.2.2.2.2.2.2.2.2.1,x.2.2.2.2.2.2.2.2.2.2.2.2.2.2.2.1,x.2.2.2.2.2.2.2.2.2.2.2.2.2.2.2.2.1,x.2.2.2.2.2.2.2.2.2.2.2.2.2.2.2.2.2.1,x.2.2.2.2.2.2.2.2.2.2.2.2.2.2.2.2.2.2.1,x.2.2.2.2.2.2.2.2.2.2.2.2.2.2.2.2.2.2.2.1,x.2.2.2.2.2.2.2.2.2.2.2.2.2.2.2.2.2.2.2.2.1,x.2.2.2.2.2.2.2.2.2.2.2.2.2.2.2.2.2.2.2.2.2)))
 (some (x.2.2.2.2.2.2.2.2.2.2.2.2.2.2.2.2.2.2.2.1,x.2.2.2.2.2.2.2.2.2.2.2.2.2.2.2.2.2.2.2.2.1,x.2.2.2.2.2.2.2.2.2.2.2.2.2.2.2.2.2.2.2.2.2))
def para_All_L2 (rec:((List QSym)×Int×Int×(List Int)×Int×(List Int)×Int×Int×Int×(List QLit)×(List (List Int))×(List QLit)×(List QLit)×(List (List Int))×(List QLit)×(List QSym)×Int×(List (Int×Int×Int×Int×Int×Int×Int×(List QLit)×(List (List Int))×(List QLit))))→Option ((List QSym)×Int×(List (Int×Int×Int×Int×Int×Int×Int×(List QLit)×(List (List Int))×(List QLit))))) (x:((List QSym)×Int×Int×(List Int)×Int×(List Int)×Int×Int×Int×(List QLit)×(List (List Int))×(List QLit)×(List QLit)×(List (List Int))×(List QLit)×(List QSym)×Int×(List (Int×Int×Int×Int×Int×Int×Int×(List QLit)×(List (List Int))×(List QLit))))):Option ((List QSym)×Int×(List (Int×Int×Int×Int×Int×Int×Int×(List QLit)×(List (List Int))×(List QLit)))) :=
 cond (decide (x.2.2.2.2.2.2.2.2.1<2))
 (((lp para_All_L1 fuel) (x.1,x.2.1,x.2.2.1,x.2.2.2.1,x.2.2.2.2.1,x.2.2.2.2.2.2.2.2.1,x.2.2.2.2.2.1,x.2.2.2.2.2.2.1,x.2.2.2.2.2.2.2.1,x.2.2.2.2.2.2.2.2.1,x.2.2.2.1,((List.length x.2.2.2.1:Nat):Int),0,x.2.2.2.2.2.2.2.2.2.1,x.2.2.2.2.2.2.2.2.2.2.1,x.2.2.2.2.2.2.2.2.2.2.2.1,x.2.2.2.2.2.2.2.2.2.2.2.2.1,x.2.2.2.2.2.2.2.2.2.2.2.2.2.1,x.2.2.2.2.2.2.2.2.2.2.2.2.2.2.1,x.2.2.2.2.2.2.2.2.2.2.2.2.2.2.2.1,x.2.2.2.2.2.2.2.2.2.2.2.2.2.2.2.2.1,x.2.2.2.2.2.2.2.2.2.2.2.2.2.2.2.2.2)).bind fun r33 =>
  rec (x.1,x.2.1,x.2.2.1,x.2.2.2.1,x.2.2.2.2.1,x.2.2.2.2.2.1,x.2.2.2.2.2.2.1,x.2.2.2.2.2.2.2.1,(IntKind.wrap .i64 (x.2.2.2.2.2.2.2.2.1+1)),x.2.2.2.2.2.2.2.2.2.1,x.2.2.2.2.2.2.2.2.2.2.1,x.2.2.2.2.2.2.2.2.2.2.2.1,x.2.2.2.2.2.2.2.2.2.2.2.2.1,x.2.2.2.2.2.2.2.2.2.2.2.2.2.1,x.2.2.2.2.2.2.2.2.2.2.2.2.2.2.1,r33.1,r33.2.1,r33.2.2))
 (some (x.2.2.2.2.2.2.2.2.2.2.2.2.2.2.2.1,x.2.2.2.2.2.2.2.2.2.2.2.2.2.2.2.2.1,x.2.2.2.2.2.2.2.2.2.2.2.2.2.2.2.2.2))
def para_All_L3 (rec:((List QSym)×Int×Int×(List Int)×(List Int)×Int×Int×(List QLit)×(List (List Int))×(List QLit)×(List QLit)×(List (List Int))×(List QLit)×(List QSym)×Int×(List (Int×Int×Int×Int×Int×Int×Int×(List QLit)×(List (List Int))×(List QLit))))→Option ((List QSym)×Int×(List (Int×Int×Int×Int×Int×Int×Int×(List QLit)×(List (List Int))×(List QLit))))) (x:((List QSym)×Int×Int×(List Int)×(List Int)×Int×Int×(List QLit)×(List (List Int))×(List QLit)×(List QLit)×(List (List Int))×(List QLit)×(List QSym)×Int×(List (Int×Int×Int×Int×Int×Int×Int×(List QLit)×(List (List Int))×(List QLit))))):Option ((List QSym)×Int×(List (Int×Int×Int×Int×Int×Int×Int×(List QLit)×(List (List Int))×(List QLit)))) :=
 cond (decide (x.2.2.2.2.2.2.1<x.2.2.2.2.2.1))
 ((gx x.2.2.2.2.1 x.2.2.2.2.2.2.1).bind fun e37 =>
  ((lp para_All_L2 fuel) (x.1,x.2.1,x.2.2.1,x.2.2.2.1,e37,x.2.2.2.2.1,x.2.2.2.2.2.1,x.2.2.2.2.2.2.1,0,x.2.2.2.2.2.2.2.1,x.2.2.2.2.2.2.2.2.1,x.2.2.2.2.2.2.2.2.2.1,x.2.2.2.2.2.2.2.2.2.2.1,x.2.2.2.2.2.2.2.2.2.2.2.1,x.2.2.2.2.2.2.2.2.2.2.2.2.1,x.2.2.2.2.2.2.2.2.2.2.2.2.2.1,x.2.2.2.2.2.2.2.2.2.2.2.2.2.2.1,x.2.2.2.2.2.2.2.2.2.2.2.2.2.2.2)).bind fun r38 =>
  rec (x.1,x.2.1,x.2.2.1,x.2.2.2.1,x.2.2.2.2.1,x.2.2.2.2.2.1,(IntKind.wrap .i64 (x.2.2.2.2.2.2.1+1)),x.2.2.2.2.2.2.2.1,x.2.2.2.2.2.2.2.2.1,x.2.2.2.2.2.2.2.2.2.1,x.2.2.2.2.2.2.2.2.2.2.1,x.2.2.2.2.2.2.2.2.2.2.2.1,x.2.2.2.2.2.2.2.2.2.2.2.2.1,r38.1,r38.2.1,r38.2.2))
 (some (x.2.2.2.2.2.2.2.2.2.2.2.2.2.1,x.2.2.2.2.2.2.2.2.2.2.2.2.2.2.1,x.2.2.2.2.2.2.2.2.2.2.2.2.2.2.2))
def para_All (a0:(List QSym)) (a1:(List QLit)) (a2:(List (List Int))) (a3:(List QLit)) (a4:Int) (a5:(List QLit)) (a6:(List (List Int))) (a7:(List QLit)) (a8:Int):Option (Int×Int×(List (Int×Int×Int×Int×Int×Int×Int×(List QLit)×(List (List Int))×(List QLit)))) :=
 (clause_May a0 a1 a2 a3).bind fun r40 =>
 cond (!r40)
 (some (0,1500,([]:(List (Int×Int×Int×Int×Int×Int×Int×(List QLit)×(List (List Int))×(List QLit))))))
 ((clause_May a0 a5 a6 a7).bind fun r41 =>
  cond (!r41)
  (some (0,1500,([]:(List (Int×Int×Int×Int×Int×Int×Int×(List QLit)×(List (List Int))×(List QLit))))))
  ((lit_Tops a0 a1).bind fun r42 =>
   (lit_Tops a0 a5).bind fun r43 =>
   (slices_DeleteFunc_1 r42.2 a1 a2 a3).bind fun r44 =>
   ((lp para_All_L3 fuel) (a0,a4,a8,r43.2,r44,((List.length r44:Nat):Int),0,a1,a2,a3,a5,a6,a7,a0,0,([]:(List (Int×Int×Int×Int×Int×Int×Int×(List QLit)×(List (List Int))×(List QLit)))))).bind fun r45 =>
   some (r45.2.1,0,r45.2.2)))
def law15_awake:Option Bool :=
 (law15_words).bind fun r19 =>
 (para_One r19 ([(false,([0,3,(-1),1]:List Int))]:List QLit) ([]:(List (List Int))) ([]:(List QLit)) 0 0 ([(false,([5,3,2]:List Int))]:List QLit) ([([(-1)]:List Int)]:List (List Int)) ([]:(List QLit)) 0 1).bind fun r20 =>
 (law15_words).bind fun r21 =>
 (para_One r21 ([(false,([0,3,(-1),1]:List Int))]:List QLit) ([]:(List (List Int))) ([]:(List QLit)) 0 1 ([(false,([5,3,2]:List Int))]:List QLit) ([([(-1)]:List Int)]:List (List Int)) ([]:(List QLit)) 0 2).bind fun r22 =>
 (law15_words).bind fun r23 =>
 (para_Reflex r23 ([(true,([0,(-1),2]:List Int))]:List QLit) ([([(-1)]:List Int)]:List (List Int)) ([]:(List QLit)) 0).bind fun r24 =>
 (law15_words).bind fun r25 =>
 (para_All r25 ([(false,([0,3,(-1),1]:List Int))]:List QLit) ([]:(List (List Int))) ([]:(List QLit)) 1 ([(false,([5,3,2]:List Int))]:List QLit) ([([(-1)]:List Int)]:List (List Int)) ([]:(List QLit)) 2).bind fun r26 =>
 (law15_words).bind fun r27 =>
 (para_Reflex r27 ([(false,([0,3,(-1),1]:List Int))]:List QLit) ([]:(List (List Int))) ([]:(List QLit)) 0).bind fun r28 =>
 cond r20.2.2.1
 ((law0_Num r20.2.2.2.1).bind fun r29 =>
  cond (r29==0)
  ((law0_SameClause r20.1 r20.2.1 r20.2.2.2.2 ([(false,([5,1]:List Int))]:List QLit) ([([(-1)]:List Int)]:List (List Int)) ([]:(List QLit))).bind fun r30 =>
   cond r30
   (cond (!r22.2.2.1)
    ((law0_Num r22.2.2.2.1).bind fun r31 =>
     cond (r31==0)
     (cond r24.2.2.1
      ((law0_Num r24.2.2.2.1).bind fun r32 =>
       cond (r32==0)
       ((law0_SameClause r24.1 r24.2.1 r24.2.2.2.2 ([]:(List QLit)) ([([2]:List Int)]:List (List Int)) ([]:(List QLit))).bind fun r33 =>
        cond r33
        ((law0_Num r26.2.1).bind fun r34 =>
         cond (r34==0)
         (cond (r26.1==0)
          ((law0_SameSteps r26.2.2 ([(3,1,0,0,2,0,1,([(false,([5,1]:List Int))]:List QLit),([([(-1)]:List Int)]:List (List Int)),([]:(List QLit)))]:List (Int×Int×Int×Int×Int×Int×Int×(List QLit)×(List (List Int))×(List QLit)))).bind fun r35 =>
           cond r35
           ((law0_Num r28.2.2.2.1).bind fun r36 =>
            some (r36==1500))
           (some false))
          (some false))
         (some false))
        (some false))
       (some false))
      (some false))
     (some false))
    (some false))
   (some false))
  (some false))
 (some false)
def law15_ParaGround_L1 (rec:((List QSym)×(List Int)×(List Int)×Int×Int×(List QLit)×(List QLit))→Option (Unit⊕Bool)) (x:((List QSym)×(List Int)×(List Int)×Int×Int×(List QLit)×(List QLit))):Option (Unit⊕Bool) :=
 cond (decide (x.2.2.2.2.1<((List.length x.2.2.1:Nat):Int)))
 ((gx x.2.2.1 x.2.2.2.2.1).bind fun e13 =>
  cond (decide (e13<0))
  (some (Sum.inr true))
  (rec (x.1,x.2.1,x.2.2.1,x.2.2.2.1,(IntKind.wrap .i64 (x.2.2.2.2.1+1)),x.2.2.2.2.2.1,x.2.2.2.2.2.2)))
 (some (Sum.inl ()))
def law15_ParaGround_L0 (rec:((List QSym)×(List Int)×(List Int)×Int×(List Int)×Int×(List QLit)×(List QLit))→Option (Unit⊕Bool)) (x:((List QSym)×(List Int)×(List Int)×Int×(List Int)×Int×(List QLit)×(List QLit))):Option (Unit⊕Bool) :=
 cond (decide (x.2.2.2.2.2.1<((List.length x.2.2.2.2.1:Nat):Int)))
 ((gx x.2.2.2.2.1 x.2.2.2.2.2.1).bind fun e9 =>
  cond (decide (e9<0))
  (some (Sum.inr true))
  (rec (x.1,x.2.1,x.2.2.1,x.2.2.2.1,x.2.2.2.2.1,(IntKind.wrap .i64 (x.2.2.2.2.2.1+1)),x.2.2.2.2.2.2.1,x.2.2.2.2.2.2.2)))
 (some (Sum.inl ()))
def law15_ParaGround (a0:(List QSym)) (a1:(List Int)) (a2:(List Int)) (a3:(List Int)) (_a4:Int):Option Bool :=
 (law15_awake).bind fun r24 =>
 cond (!r24)
 (some false)
 ((order_Compare a0 a1 a2).bind fun r25 =>
  (order_Compare a0 a3 a3).bind fun r26 =>
  cond (room (List.length ([0]:List Int)+List.length a1) 8)
  (cond (room (List.length (([0]:List Int)++a1)+List.length a2) 8)
   (cond (room (List.length ([0]:List Int)+List.length a3) 8)
    (cond (room (List.length (([0]:List Int)++a3)+List.length a1) 8)
     ((law0_Num r25.2).bind fun r27 =>
      cond (r27 != 0)
      (some true)
      ((law0_Num r26.2).bind fun r28 =>
       cond (r28 != 0)
       (some true)
       ((clause_May a0 ([(false,((([0]:List Int)++a1)++a2))]:List QLit) ([]:(List (List Int))) ([]:(List QLit))).bind fun r29 =>
        cond (!r29)
        (some true)
        ((clause_May a0 ([(true,((([0]:List Int)++a3)++a1))]:List QLit) ([]:(List (List Int))) ([]:(List QLit))).bind fun r30 =>
         cond (!r30)
         (some true)
         (cond (decide ((IntKind.wrap .i64 (((List.length a3:Nat):Int)+((List.length a2:Nat):Int)))>48))
          (some true)
          (((lp law15_ParaGround_L0 fuel) (a0,a2,a3,r25.1,((([0]:List Int)++a1)++a2),0,([(false,((([0]:List Int)++a1)++a2))]:List QLit),([(true,((([0]:List Int)++a3)++a1))]:List QLit))).bind fun r31 =>
           caseS r31
           (fun _z32=>((lp law15_ParaGround_L1 fuel) (a0,a2,a3,r25.1,0,([(false,((([0]:List Int)++a1)++a2))]:List QLit),([(true,((([0]:List Int)++a3)++a1))]:List QLit))).bind fun r33 =>
            caseS r33
            (fun _z34=>(para_One a0 ([(false,((([0]:List Int)++a1)++a2))]:List QLit) ([]:(List (List Int))) ([]:(List QLit)) 0 0 ([(true,((([0]:List Int)++a3)++a1))]:List QLit) ([]:(List (List Int))) ([]:(List QLit)) 0 (IntKind.wrap .i64 (1+((List.length a3:Nat):Int)))).bind fun r35 =>
             cond (r25.1 != 2)
             ((law0_Num r35.2.2.2.1).bind fun r36 =>
              cond (r36==0)
              (some (!r35.2.2.1))
              (some false))
             (cond (room (List.length ([0]:List Int)+List.length a3) 8)
              (cond (room (List.length (([0]:List Int)++a3)+List.length a2) 8)
               ((law0_Num r35.2.2.2.1).bind fun r37 =>
                cond (r37==0)
                (cond r35.2.2.1
                 (cond (((List.length r35.1:Nat):Int)==1)
                  ((gx r35.1 0).bind fun e38 =>
                   cond e38.1
                   ((gx r35.1 0).bind fun e39 =>
                    (law0_SameInts e39.2 ((([0]:List Int)++a3)++a2)).bind fun r40 =>
                    some r40)
                   (some false))
                  (some false))
                 (some false))
                (some false))
               (none))
              (none)))
            (fun z41=>some z41))
           (fun z42=>some z42)))))))
     (none))
    (none))
   (none))
  (none))
end Go.Abs.Q
namespace Go.Abs.Q
open Go Go.Abs
section
inductive RT (t u:Tm):Tm→Tm→Prop
 | here:RT t u t u
 | arg (c:Nat) (l r:List Tm) {a b:Tm}:RT t u a b→RT t u (.f c (l++a::r)) (.f c (l++b::r))
theorem row_split:(ts:List Tm)→(p:Nat)→p<(codesR ts).length→∃ l a r,ts=l++a::r∧(codesR l).length≤p∧p<(codesR l).length+a.codes.length
 | [],p,h=>by simp [codesR] at h
 | t::ts,p,h=>by
  simp only[codesR,List.length_append] at h
  by_cases hp:p<t.codes.length
  ·exact ⟨[],t,ts,rfl,Nat.zero_le _,by simpa[codesR] using hp⟩
  ·obtain⟨l,a,r,rfl,h1,h2⟩:=row_split ts (p - t.codes.length) (by omega)
   exact ⟨t::l,a,r,rfl,by simp only[codesR,List.length_append]; omega,by simp only[codesR,List.length_append]; omega⟩
theorem okR_mid {a0:List QSym} {N:Nat} {l r:List Tm} {a:Tm} (h:okR a0 N (l++a::r)):a.ok a0 N:=okR_iff.1 h a (by simp)
theorem term_at {a0:List QSym}:∀(n:Nat) (a:Tm) (p:Nat),a.size≤n→a.ok a0 24→p<a.codes.length→∃ t:Tm,t.ok a0 24∧(∃ x y,a.codes=x++t.codes++y∧x.length=p∧∀ u:Tm,∃ b,RT t u a b∧b.codes=x++u.codes++y)
 | 0,a,p,h,_,_=>by have:=a.size_pos; omega
 | n+1,a,0,_,ho,_=>⟨a,ho,[],[],by simp,rfl,fun u=>⟨u,.here,by simp⟩⟩
 | n+1,.v m,p+1,_,_,h=>by simp [Tm.codes] at h
 | n+1,.f c as,p+1,hn,ho,h=>by
  simp only[Tm.codes,List.length_cons] at h
  obtain⟨l,a,r,rfl,h1,h2⟩:=row_split as p (by omega)
  simp only[Tm.size,sizeR_app,sizeR] at hn
  obtain⟨t,h3,x,y,h4,h5,h6⟩:=term_at n a (p - (codesR l).length) (by omega) (okR_mid ho.2) (by omega)
  refine ⟨t,h3,(c:Int)::codesR l++x,y++codesR r,?_,?_,fun u => ?_⟩
  ·simp only[Tm.codes,codesR_app,codesR,h4]; simp
  ·simp only[List.cons_append,List.length_cons,List.length_append]; omega
  ·obtain⟨b,g1,g2⟩:=h6 u
   refine ⟨.f c (l++b::r),.arg c l r g1,?_⟩
   simp only[Tm.codes,codesR_app,codesR,g2]; simp
def RR (t u:Tm) (ts us:List Tm):Prop:=∃ l a b r,ts=l++a::r∧us=l++b::r∧RT t u a b
theorem row_at {a0:List QSym} {ts:List Tm} {p:Nat} (ho:okR a0 24 ts) (h:p<(codesR ts).length):∃ t:Tm,t.ok a0 24∧∃ x y,codesR ts=x++t.codes++y∧x.length=p∧∀ u:Tm,∃ us,RR t u ts us∧codesR us=x++u.codes++y:=by
 obtain⟨l,a,r,rfl,h1,h2⟩:=row_split ts p h
 obtain⟨t,h3,x,y,h4,h5,h6⟩:=term_at a.size a (p - (codesR l).length) (Nat.le_refl _) (okR_mid ho) (by omega)
 refine ⟨t,h3,codesR l++x,y++codesR r,by simp only[codesR_app,codesR,h4]; simp,by simp only[List.length_append]; omega,fun u => ?_⟩
 obtain⟨b,g1,g2⟩:=h6 u
 exact ⟨l++b::r,⟨l,a,b,r,rfl,rfl,g1⟩,by simp only[codesR_app,codesR,g2]; simp⟩
theorem RT.ok {a0:List QSym} {N:Nat} {t u a b:Tm} (h:RT t u a b) (hu:u.ok a0 N) (ha:a.ok a0 N):b.ok a0 N:=by
 induction h with
 | here=>exact hu
 | arg c l r h ih =>
  refine ⟨by have:=ha.1; simpa using this,okR_iff.2 fun w hw => ?_⟩
  have h2:=okR_iff.1 ha.2
  rcases List.mem_append.1 hw with hw | hw
  ·exact h2 w (List.mem_append_left _ hw)
  ·rcases List.mem_cons.1 hw with rfl | hw
   ·exact ih (h2 _ (by simp))
   ·exact h2 w (by simp [hw])
theorem RR.ok {a0:List QSym} {N:Nat} {t u:Tm} {ts us:List Tm} (h:RR t u ts us) (hu:u.ok a0 N) (ha:okR a0 N ts):okR a0 N us:=by
 obtain⟨l,a,b,r,rfl,rfl,h⟩:=h
 refine okR_iff.2 fun w hw => ?_
 have h2:=okR_iff.1 ha
 rcases List.mem_append.1 hw with hw | hw
 ·exact h2 w (List.mem_append_left _ hw)
 ·rcases List.mem_cons.1 hw with rfl | hw
  ·exact h.ok hu (h2 _ (by simp))
  ·exact h2 w (by simp [hw])
theorem RR.len {t u:Tm} {ts us:List Tm} (h:RR t u ts us):us.length=ts.length:=by
 obtain⟨l,a,b,r,rfl,rfl,h⟩:=h
 simp
theorem sk_mid {a0:List QSym} {t:Tm} (ht:t.ok a0 24) (x y:List Int):sk a0 1 ((x++t.codes++y).drop x.length)=some t.codes.length:=by
 rw[List.append_assoc,List.drop_left]
 exact sk_more y (t.sk_codes ht)
theorem skip_mid {a0:List QSym} (hs:SignOk a0) {t:Tm} (ht:t.ok a0 24) (x y:List Int) (hl:(x++t.codes++y).length≤1000):term_Skip a0 (x++t.codes++y) (x.length:Int)=some (((x.length+t.codes.length:Nat):Int),true):=by
 rw[term_Skip_eq hs _ (by omega),sk_mid ht]
theorem end_mid {a0:List QSym} (hs:SignOk a0) {t:Tm} (ht:t.ok a0 24) (x y:List Int) (hl:(x++t.codes++y).length≤1000):ref1_End a0 (x++t.codes++y) (x.length:Int)=some ((x.length+t.codes.length:Nat):Int):=by
 rw[ref1_End_eq hs _ (by omega) _ (by simp only[List.length_append]; omega),sk_mid ht]
 rfl
theorem slc_mid (x z y:List Int):slc2 (x++z++y) (some (x.length:Int)) (some ((x.length+z.length:Nat):Int))=some z:=by
 show slc (x++z++y) (x.length:Int) ((x.length+z.length:Nat):Int)=_
 unfold slc
 rw[decide_eq_true (show (0:Int)≤(x.length:Int) by omega),decide_eq_true (show (x.length:Int)≤((x.length+z.length:Nat):Int) by omega),decide_eq_true (show ((x.length+z.length:Nat):Int)≤(((x++z++y).length:Nat):Int) by simp only[List.length_append]; omega)]
 simp only[cond_true,Int.toNat_natCast]
 have e:(x++z++y).take (x.length+z.length)=x++z:=by rw[show x.length+z.length=(x++z).length by simp,List.take_left]
 rw[e,List.drop_left]
theorem slc_front (x z y:List Int):slc2 (x++z++y) none (some (x.length:Int))=some x:=by
 rw[slc_take _ (by simp only[List.length_append]; omega)]
 simp
theorem slc_back (x z y:List Int):slc2 (x++z++y) (some ((x.length+z.length:Nat):Int)) none=some y:=by
 rw[slc_drop _ (by simp only[List.length_append]; omega)]
 rw[show x.length+z.length=(x++z).length by simp,List.drop_left]
theorem isTerm_codes {a0:List QSym} (hb:signB a0=true) {t:Tm} (ht:t.ok a0 24) (hl:t.codes.length≤48):term_IsTerm a0 t.codes=some true:=by
 have h:=cuts_codes (a0:=a0) [t] ⟨ht,trivial⟩
 have e:codesR [t]=t.codes:=by simp [codesR]
 rw[e] at h
 unfold term_IsTerm
 rw[term_begins_eq,Option.bind_some]
 unfold beginsB
 rw[hb,decide_eq_true hl]
 simp only[Bool.and_self,cond_true,h]
 rfl
theorem isAtom_some (a0:List QSym) (xs:List Int):∃ b,term_IsAtom a0 xs=some b:=⟨_,term_IsAtom_eq a0 xs⟩
theorem which_le {a0:List QSym} {a b:List Int} {k:Int} (h:cmpTail a0 a b=some (k,0)):k=0∨k=1∨k=2∨k=3:=by
 unfold cmpTail at h
 simp only[Option.bind_eq_some_iff] at h
 obtain⟨r,-,h⟩:=h
 cases r with
 | true=>injection h with h; injection h with h; exact .inr (.inl h.symm)
 | false =>
  simp only[cond_false,Option.bind_eq_some_iff] at h
  obtain⟨r,-,h⟩:=h
  cases r with
  | true=>injection h with h; injection h with h; exact .inr (.inr (.inl h.symm))
  | false =>
   simp only[cond_false,Option.bind_eq_some_iff] at h
   obtain⟨r,-,h⟩:=h
   cases r with
   | true=>injection h with h; injection h with h; exact .inl h.symm
   | false=>injection h with h; injection h with h; exact .inr (.inr (.inr h.symm))
theorem compare_codes {a0:List QSym} (hb:signB a0=true) {t u:Tm} (ht:t.ok a0 24) (hu:u.ok a0 24) (hlt:t.codes.length≤48) (hlu:u.codes.length≤48):∃ k,ref1_Which a0 t.codes u.codes=some k∧order_Compare a0 t.codes u.codes=some (k,0)∧cmpTail a0 t.codes u.codes=some (k,0)∧(k=0∨k=1∨k=2∨k=3):=by
 obtain⟨k,h1,h2⟩:=compare_terms (signB_ok hb) ht hu (by omega) (by omega)
 refine ⟨k,h1,?_,h2,which_le h2⟩
 rw[← h2]
 obtain⟨b1,e1⟩:=isAtom_some a0 t.codes
 obtain⟨b2,e2⟩:=isAtom_some a0 u.codes
 unfold order_Compare
 rw[isTerm_codes hb ht hlt,isTerm_codes hb hu hlu,e1,e2]
 cases b1<;>cases b2<;>rfl
end
end Go.Abs.Q
namespace Go.Abs.Q
open Go Go.Abs
section
theorem apart_perm (a0:List QSym) (L:List QLit) (T:List (List Int)) (C:List QLit) (L':List QLit) (T':List (List Int)) (C':List QLit) :
  resolve_Apart_1 a0 L T C L' T' C'=(resolve_Apart a0 L T C L' T' C').bind fun r=>some (r.2.2.1,r.1,r.2.1,r.2.2.2):=by
 have half:∀(n:Int),((clause_Vars a0 L' T' C').bind fun r17 =>
   cond (decide (((List.length r17.2:Nat):Int)>0))
   ((inR (IntKind.wrap .i64 (((List.length r17.2:Nat):Int) - 1)) (List.length r17.2)).bind fun k18 =>
    (r17.2[k18]?).bind fun x19 =>
    cond (decide ((IntKind.wrap .i64 (x19+n))>23))
    (some (false,([]:(List QLit)),([]:(List (List Int))),([]:(List QLit))))
    ((clause_Shift L' T' C' n).bind fun r20=>some (true,r20.1,r20.2.1,r20.2.2)))
   ((clause_Shift L' T' C' n).bind fun r21=>some (true,r21.1,r21.2.1,r21.2.2))) =
  ((clause_Vars a0 L' T' C').bind fun r17 =>
   cond (decide (((List.length r17.2:Nat):Int)>0))
   ((inR (IntKind.wrap .i64 (((List.length r17.2:Nat):Int) - 1)) (List.length r17.2)).bind fun k18 =>
    (r17.2[k18]?).bind fun x19 =>
    cond (decide ((IntKind.wrap .i64 (x19+n))>23))
    (some (([]:(List QLit)),([]:(List (List Int))),false,([]:(List QLit))))
    ((clause_Shift L' T' C' n).bind fun r20=>some (r20.1,r20.2.1,true,r20.2.2)))
   ((clause_Shift L' T' C' n).bind fun r21=>some (r21.1,r21.2.1,true,r21.2.2))).bind fun r=>some (r.2.2.1,r.1,r.2.1,r.2.2.2):=by
  intro n
  cases clause_Vars a0 L' T' C' with
  | none=>rfl
  | some r17 =>
   simp only[Option.bind_some]
   have fin:((clause_Shift L' T' C' n).bind fun r20=>some (true,r20.1,r20.2.1,r20.2.2))=((clause_Shift L' T' C' n).bind fun r20=>some (r20.1,r20.2.1,true,r20.2.2)).bind fun r=>some (r.2.2.1,r.1,r.2.1,r.2.2.2):=by
    cases clause_Shift L' T' C' n<;>rfl
   cases decide (((List.length r17.2:Nat):Int)>0) with
   | false=>exact fin
   | true =>
    simp only[cond_true]
    cases inR (IntKind.wrap .i64 (((List.length r17.2:Nat):Int) - 1)) (List.length r17.2) with
    | none=>rfl
    | some k18 =>
     simp only[Option.bind_some]
     cases r17.2[k18]? with
     | none=>rfl
     | some x19 =>
      simp only[Option.bind_some]
      cases decide (IntKind.wrap .i64 (x19+n)>23) with
      | true=>rfl
      | false=>exact fin
 unfold resolve_Apart_1 resolve_Apart
 cases clause_Vars a0 L T C with
 | none=>rfl
 | some r14 =>
  simp only[Option.bind_some]
  cases decide (((List.length r14.2:Nat):Int)>0) with
  | false=>exact half 0
  | true =>
   simp only[cond_true]
   cases inR (IntKind.wrap .i64 (((List.length r14.2:Nat):Int) - 1)) (List.length r14.2) with
   | none=>rfl
   | some k15 =>
    simp only[Option.bind_some]
    cases r14.2[k15]? with
    | none=>rfl
    | some x16=>exact half _
theorem without_all:(es:List QLit)→(i:Nat)→without (-1) es i=es
 | [],_=>rfl
 | e::es,i=>by
  unfold without
  rw[show ((i:Int) != -1)=true from by simp,cond_true,without_all es (i+1)]
theorem without_len1 {L:List QLit} {i:Int} (h:placeB L i=true):(without i L 0).length+1=L.length:=by
 unfold placeB at h
 simp only[Bool.and_eq_true,decide_eq_true_eq] at h
 obtain⟨k,rfl⟩:∃ k:Nat,i=(k:Int):=⟨i.toNat,by omega⟩
 rw[without_split k L 0 (by omega) (by omega)]
 simp; omega
theorem sides_of {side:Int} (hside:side=0∨side=1) (s0 s1:Tm):∃(ks kt:Nat) (fr to:Tm),inR side 2=some ks∧inR (IntKind.wrap .i64 (1 - side)) 2=some kt∧([s0.codes,s1.codes])[ks]? = some fr.codes∧([s0.codes,s1.codes])[kt]? = some to.codes ∧
  ((side=0∧fr=s0∧to=s1)∨(side=1∧fr=s1∧to=s0))∧decide (side<0)=false∧decide (side>1)=false:=by
 rcases hside with rfl | rfl
 ·exact ⟨0,1,s0,s1,rfl,rfl,rfl,rfl,.inl ⟨rfl,rfl,rfl⟩,rfl,rfl⟩
 ·exact ⟨1,0,s1,s0,rfl,rfl,rfl,rfl,.inr ⟨rfl,rfl,rfl⟩,rfl,rfl⟩
def PSpec (a0:List QSym) (L:List QLit) (T:List (List Int)) (C:List QLit) (i:Int) (fr to:Tm) (L':List QLit) (T':List (List Int)) (C':List QLit) (j:Int) (n':Bool) (A':List Int) (at':Nat) (o:Option ResT):Prop :=
 (∃ v,A'[at']? = some v∧v<0∧o=failR 0) ∨
 ∃(v:Int) (b c:Nat) (us:List Tm),A'[at']? = some v∧0≤v∧b≤24∧TopV (rowsOf L T C) (b:Int)∧A'=(c:Int)::codesR us∧okR a0 24 us ∧
  ((o=failR 1501∧∃ x,VarR (rowsOf L' T' C') x∧23<x+(b:Int)) ∨
   ((∀ x,VarR (rowsOf L' T' C') x→x+(b:Int)≤23)∧∃(t:Tm) (x y:List Int),t.ok a0 24∧codesR (us.map (Tm.up b))=x++t.codes++y∧at'=x.length+1∧okR a0 24 (us.map (Tm.up b))∧(∀ u:Tm,∃ ws,RR t u (us.map (Tm.up b)) ws∧codesR ws=x++u.codes++y) ∧
    ((o=failR 0∧∀ θ,¬ Sol θ ([fr].zip [t])) ∨
    ∃ σ,Mgu σ ([fr].zip [t])∧(∀ x,x<24→(σ x).ok a0 24) ∧
     ((o=failR 1502∧(shortIn σ (List.range 24)=false∨48<(fr.sub σ).codes.length∨48<(to.sub σ).codes.length)) ∨
      (shortIn σ (List.range 24)=true∧(fr.sub σ).codes.length≤48∧(to.sub σ).codes.length≤48∧∃ k,order_Compare a0 (fr.sub σ).codes (to.sub σ).codes=some (k,0) ∧
       ((o=failR 0∧(k=0∨k=1)) ∨
       (o=resOut a0 σ (without i L 0++(upLs (b:Int) L').set j.toNat (n',(c:Int)::(x++to.codes++y))) (bothT b T T') (bothC b C C') 1502∧(k=2∨k=3))))))))
theorem codes_one (t:Tm):t.codes=codesR [t]:=by simp [codesR]
theorem mem_set {α:Type} {x y:α}:{xs:List α}→{i:Nat}→y∈xs.set i x→y∈xs∨y=x
 | [],i,h=>by simp at h
 | z::zs,0,h=>by
  rcases List.mem_cons.1 h with h | h
  ·exact .inr h
  ·exact .inl (List.mem_cons_of_mem _ h)
 | z::zs,i+1,h=>by
  rcases List.mem_cons.1 h with h | h
  ·exact .inl (h▸List.mem_cons_self ..)
  ·rcases mem_set h with h | h
   ·exact .inl (List.mem_cons_of_mem _ h)
   ·exact .inr h
theorem eq_sides {a0:List QSym} {A:List Int} (h:atomB a0 A=true) (h0:gx A 0=some 0):∃ s0 s1:Tm,A=0::codesR [s0,s1]∧s0.ok a0 24∧s1.ok a0 24∧(codesR [s0,s1]).length≤48:=by
 obtain⟨c,ts,e,rfl,ho,he,-,hlen,hl48,hb⟩:=atom_tree h
 rw[gx_zero,List.getElem?_cons_zero] at h0
 injection h0 with h0
 obtain rfl:c=0:=by omega
 rw[(signB_ok hb).eq] at he
 injection he with he
 subst he
 match ts,hlen,ho,hl48 with
 | [],hlen,_,_=>exact absurd hlen (by decide)
 | [_],hlen,_,_=>exact absurd hlen (by show ¬(((1:Nat):Int)=(2:Int)); decide)
 | _::_::_::_,hlen,_,_=>simp only[List.length_cons] at hlen; exact absurd hlen (by show ¬(_=(2:Int)); omega)
 | [s0,s1],_,ho,hl48=>exact ⟨s0,s1,rfl,ho.1,ho.2.1,hl48⟩
theorem sides_eq {a0:List QSym} (hs:SignOk a0) {s0 s1:Tm} (h0:s0.ok a0 24) (h1:s1.ok a0 24) (hl:(codesR [s0,s1]).length≤48):resolve_Sides a0 (0::codesR [s0,s1])=some [s0.codes,s1.codes]∧ref1_Parts a0 (codesR [s0,s1])=some [s0.codes,s1.codes]:=by
 have hc:=cuts_codes (a0:=a0) [s0,s1] ⟨h0,h1,trivial⟩
 refine ⟨?_,ref1_Parts_eq hs (by omega) hc⟩
 unfold resolve_Sides
 rw[slc_tail,Option.bind_some,term_Pieces_eq hs (by omega) hc]
 rfl
theorem sub_one {σ:Sb} (t:Tm) (h:∀ c∈t.codes,-24≤c):onB (bindsL σ) t.codes=(t.sub σ).codes:=by
 rw[onB_sub h,Tm.codes_sub]
 rfl
theorem para_both {a0:List QSym} {L:List QLit} {T:List (List Int)} {C:List QLit} {L':List QLit} {T':List (List Int)} {C':List QLit} (h:mayB a0 L T C=true) (h':mayB a0 L' T' C'=true) {i j:Int} {n':Bool} {A A':List Int}
  (hi:gx L i=some (false,A)) (h0:gx A 0=some 0) (hj:gx L' j=some (n',A')) {side:Int} (hside:side=0∨side=1) {at':Nat} (h1:1≤at') (h2:at'<A'.length) :
  ∃ s0 s1 fr to:Tm,A=0::codesR [s0,s1]∧s0.ok a0 24∧s1.ok a0 24∧((side=0∧fr=s0∧to=s1)∨(side=1∧fr=s1∧to=s0))∧∃ o,para_one a0 L T C i side L' T' C' j (at':Int)=o∧ref13_Para a0 L T C i side L' T' C' j (at':Int)=o∧PSpec a0 L T C i fr to L' T' C' j n' A' at' o:=by
 obtain⟨hsb,l1,l2,l3,l4,l5,l6,-⟩:=mayB_spec h
 obtain⟨-,l1',l2',l3',l4',l5',l6',-⟩:=mayB_spec h'
 have hs:=signB_ok hsb
 obtain⟨s0,s1,rfl,ok0,ok1,hA48⟩:=eq_sides (List.all_eq_true.1 l4 _ (gx_mem hi)) h0
 obtain⟨c,us,e',rfl,ho',he',-,hlen',hl48',-⟩:=atom_tree (List.all_eq_true.1 l4' (n',A') (gx_mem hj))
 obtain⟨ks,kt,fr,to,e1,e2,e3,e4,hft,hsd1,hsd2⟩:=sides_of hside s0 s1
 refine ⟨s0,s1,fr,to,rfl,ok0,ok1,hft,?_⟩
 obtain⟨sd1,sd2⟩:=sides_eq hs ok0 ok1 hA48
 have hcd:=may_cds hs h
 have hcd':=may_cds hs h'
 have hcA:Cds (0::codesR [s0,s1]):=hcd _ (mem_rows_lit (gx_mem hi))
 have hs0:s0.codes.length+s1.codes.length≤48:=by simpa[codesR] using hA48
 have hfr:fr.ok a0 24∧fr.codes.length≤48∧∀ c∈fr.codes,-24≤c∧c≤1000000:=by
  rcases hft with ⟨-,rfl,rfl⟩ | ⟨-,rfl,rfl⟩
  ·exact ⟨ok0,by omega,fun c hc=>hcA.2 c (by simp [codesR,hc])⟩
  ·exact ⟨ok1,by omega,fun c hc=>hcA.2 c (by simp [codesR,hc])⟩
 have hto:to.ok a0 24∧to.codes.length≤48∧∀ c∈to.codes,-24≤c∧c≤1000000:=by
  rcases hft with ⟨-,rfl,rfl⟩ | ⟨-,rfl,rfl⟩
  ·exact ⟨ok1,by omega,fun c hc=>hcA.2 c (by simp [codesR,hc])⟩
  ·exact ⟨ok0,by omega,fun c hc=>hcA.2 c (by simp [codesR,hc])⟩
 obtain⟨hjp,hjl,hjm⟩:0≤j∧j<L'.length∧L'[j.toNat]? = some (n',(c:Int)::codesR us):=by
  have hj0:=hj
  unfold gx at hj0
  by_cases hn:0≤j
  ·rw[decide_eq_true hn,cond_true] at hj0
   have:=(List.getElem?_eq_some_iff.1 hj0).1
   exact ⟨hn,by omega,hj0⟩
  ·rw[decide_eq_false hn] at hj0; cases hj0
 have hpi:placeB L i=true:=by
  unfold gx at hi
  by_cases hn:0≤i
  ·rw[decide_eq_true hn,cond_true] at hi
   have:=(List.getElem?_eq_some_iff.1 hi).1
   unfold placeB
   simp only[Bool.and_eq_true,decide_eq_true_eq]
   omega
  ·rw[decide_eq_false hn] at hi; cases hi
 have hpj:placeB L' j=true:=by
  unfold placeB
  simp only[Bool.and_eq_true,decide_eq_true_eq]
  omega
 obtain⟨v,hv⟩:∃ v,((c:Int)::codesR us)[at']? = some v:=⟨_,List.getElem?_eq_getElem h2⟩
 have hvat:gx ((c:Int)::codesR us) (at':Int)=some v:=by rw[gx_nat]; exact hv
 -- the reference's guards
 have href:ref13_Para a0 L T C i side L' T' C' j (at':Int)=(cond (decide (v<0)) (failR 0)
   ((ref13_apart L T C L' T' C').bind fun r37 =>
          cond (!r37.2.2.1)
          (failR 1501)
           ((gx r37.1 j).bind fun e45 =>
           (ref1_End a0 e45.2 (at':Int)).bind fun r46 =>
           (slc2 e45.2 (some (at':Int)) (some r46)).bind fun y47 =>
           (ref1_Together a0 fr.codes y47).bind fun r48 =>
           cond (!r48.2.1)
           (failR 1502)
           (cond (!r48.1)
            (failR 0)
            ((ref1_Put r48.2.2 fr.codes).bind fun r49 =>
             (ref1_Put r48.2.2 to.codes).bind fun r50 =>
             cond (decide (((List.length r49:Nat):Int)>48))
             (failR 1502)
             (cond (decide (((List.length r50:Nat):Int)>48))
              (failR 1502)
              ((ref1_Which a0 r49 r50).bind fun r51 =>
               cond (r51==0)
               (failR 0)
               (cond (r51==1)
                (failR 0)
                ((ref13_without L i).bind fun r52 =>
                 cond (room (List.length r52+List.length r37.1) 32)
                 ((gx r37.1 j).bind fun e53 =>
                  (ref13_spliced e45.2 (at':Int) r46 to.codes).bind fun r54 =>
                  (inR (IntKind.wrap .i64 ((IntKind.wrap .i64 (((List.length L:Nat):Int) - 1))+j)) (List.length (r52++r37.1))).bind fun k55 =>
                  ((r52++r37.1)[k55]?).bind fun x56 =>
                  (ref13_both (List.set (r52++r37.1) k55 (e53.1,r54)) L T C r37.1 r37.2.1 r37.2.2.2).bind fun r57 =>
                  (ref13_done a0 r48.2.2 r57.1 r57.2.1 r57.2.2).bind fun r58 =>
                  cond (!r58.2.2.1)
                  (failR 1502)
                  (some (r58.1,r58.2.1,true,(0:Int),r58.2.2.2)))
                 (none)))))))))):=by
  unfold ref13_Para ref13_equation
  rw[ref8_May_eq,h,Option.bind_some,ref8_May_eq,h',Option.bind_some,there_eq,hpi,there_eq,hpj]
  simp only[Bool.not_true,cond_false,Option.bind_some,cond_true,hi,h0,Bool.not_false,beq_self_eq_true,hsd1,hsd2,hj,hvat]
  rw[decide_eq_false (show ¬((at':Int)<1) by omega),cond_false,decide_eq_false (show ¬((at':Int)≥((List.length ((c:Int)::codesR us):Nat):Int)) by omega),cond_false]
  cases decide (v<0) with
  | true=>rfl
  | false =>
   simp only[cond_false,slc_tail,Option.bind_some,sd2,List.length_cons,List.length_nil,Nat.zero_add,Nat.reduceAdd,e1,e2,e3,e4]
   rfl
 rw[href]
 unfold para_one
 rw[hj,Option.bind_some]
 simp only[hvat,Option.bind_some]
 by_cases hv0:v<0
 ·rw[decide_eq_true hv0]
  exact ⟨failR 0,rfl,rfl,.inl ⟨v,hv,hv0,rfl⟩⟩
 ·rw[decide_eq_false hv0,cond_false,cond_false]
  obtain⟨b,hb,htop,hap⟩:=apart_spec hs h h'
  have fin:∀{o1 o2:Option ResT} {o:Option ResT},o1=o→o2=o→PSpec a0 L T C i fr to L' T' C' j n' ((c:Int)::codesR us) at' o→∃ o,o1=o∧o2=o∧PSpec a0 L T C i fr to L' T' C' j n' ((c:Int)::codesR us) at' o:=fun h1 h2 h3=>⟨_,h1,h2,h3⟩
  have mk:=fun {o:Option ResT} (hq:_)=>show PSpec a0 L T C i fr to L' T' C' j n' ((c:Int)::codesR us) at' o from .inr ⟨v,b,c,us,hv,by omega,hb,htop,rfl,ho',hq⟩
  rcases hap with ⟨hap,hfar⟩ | ⟨hap,hnear⟩
  ·rcases apart13_spec hs h h' hb htop with ⟨ap,-⟩ | ⟨ap,hn2⟩
   ·rw[apart_perm,hap,ap]
    exact fin rfl rfl (mk (.inl ⟨rfl,hfar⟩))
   ·obtain⟨x,hx,hfar⟩:=hfar
    have:=hn2 x hx; omega
  ·rcases apart13_spec hs h h' hb htop with ⟨ap,x,hx,hfar⟩ | ⟨ap,-⟩
   ·have:=hnear x hx; omega
   ·rw[apart_perm,hap,ap]
    simp only[Option.bind_some,Bool.not_true,cond_false]
    have hj2:gx (upLs (b:Int) L') j=some (n',(c:Int)::codesR (us.map (Tm.up b))):=by
     have:=gx_map (fun l:QLit=>(l.1,l.2.map (upC (b:Int)))) hj
     rw[upC_atom] at this
     exact this
    have hvar:∀ k:Nat,hasR k us→k+b<24:=fun k hk=>by
     have:=hnear (k:Int) ⟨_,mem_rows_lit (gx_mem hj),by
      obtain⟨c0,h1,h2,h3⟩:=VarC_codes.2 ⟨k,rfl,hk⟩
      exact ⟨c0,List.mem_cons_of_mem _ h1,h2,h3⟩⟩
     omega
    have hou:=up_ok24 ho' hvar
    have hlu:(codesR (us.map (Tm.up b))).length=(codesR us).length:=by rw[← up_codes,List.length_map]
    obtain⟨p,rfl⟩:∃ p,at'=p+1:=⟨at' - 1,by omega⟩
    rw[List.length_cons] at h2
    obtain⟨t,ht,x,y,e5,e6,hrep⟩:=row_at hou (p:=p) (by omega)
    subst e6
    have hlx:x.length+t.codes.length+y.length≤48:=by
     have:=congrArg List.length e5
     simp only[List.length_append] at this
     omega
    have mk2:=fun {o:Option ResT} (hq:_)=>mk (o:=o) (.inr ⟨hnear,t,x,y,ht,e5,rfl,hou,hrep,hq⟩)
    have e7:(c:Int)::codesR (us.map (Tm.up b))=((c:Int)::x)++t.codes++y:=by rw[e5]; simp
    have e8:((x.length+1:Nat):Int)=((((c:Int)::x).length:Nat):Int):=by simp
    have hl1:(((c:Int)::x)++t.codes++y).length≤1000:=by simp only[List.length_append,List.length_cons]; omega
    have hjn:inR j (upLs (b:Int) L').length=some j.toNat:=by
     obtain⟨k,rfl⟩:=Int.eq_ofNat_of_zero_le hjp
     exact inR_nat (by simp [upLs]; omega)
    have hjd:(upLs (b:Int) L')[j.toNat]? = some (n',(c:Int)::codesR (us.map (Tm.up b))):=by
     have h3:=hj2
     unfold gx at h3
     rwa [decide_eq_true hjp,cond_true] at h3
    rw[hi,Option.bind_some,hj2,Option.bind_some]
    simp only[sd1,Option.bind_some,List.length_cons,List.length_nil,Nat.zero_add,Nat.reduceAdd,e1,e2,e3,e4,hjn,hjd]
    rw[e8,e7,skip_mid hs ht _ _ hl1,end_mid hs ht _ _ hl1]
    simp only[Option.bind_some,slc_mid]
    rw[codes_one fr,codes_one t]
    rcases unify_spec hs (xs:=codesR [fr]) (ys:=codesR [t]) rfl rfl ⟨hfr.1,trivial⟩ ⟨ht,trivial⟩ hsb (by rw[← codes_one]; omega) (by rw[← codes_one]; omega) with ⟨hu,hno⟩ | ⟨-,σ,hm,hok,hu⟩
    ·rcases together_spec hs (ts:=[fr]) (us:=[t]) ⟨hfr.1,trivial⟩ ⟨ht,trivial⟩ (by rw[← codes_one]; omega) (by rw[← codes_one]; omega) with ⟨tg,-⟩ | ⟨-,σ',hm',tg⟩
     ·rw[hu,tg]
      exact fin rfl rfl (mk2 (.inl ⟨rfl,hno.resolve_left fun h=>h rfl⟩))
     ·exact absurd hm'.sol (hno.resolve_left (fun h=>h rfl) σ')
    ·rcases together_spec hs (ts:=[fr]) (us:=[t]) ⟨hfr.1,trivial⟩ ⟨ht,trivial⟩ (by rw[← codes_one]; omega) (by rw[← codes_one]; omega) with ⟨tg,hno⟩ | ⟨-,σ',hm',tg⟩
     ·exact absurd hm.sol (hno.resolve_left (fun h=>h rfl) σ)
     ·have:=hm.unique hm'
      subst this
      rw[hu,tg]
      have mk3:=fun {o:Option ResT} (hq:_)=>mk2 (o:=o) (.inr ⟨σ,hm,hok,hq⟩)
      cases hsh:shortIn σ (List.range 24) with
      | false=>exact fin rfl rfl (mk3 (.inl ⟨rfl,.inl hsh⟩))
      | true =>
       simp only[cond_true,Option.bind_some,show ((0:Int) != 0)=false from rfl,cond_false,Bool.not_true]
       rw[← codes_one fr,← codes_one t]
       have nfr:NearR fr.codes:=⟨by omega,fun c hc=>by have:=hfr.2.2 c hc; omega⟩
       have nto:NearR to.codes:=⟨by omega,fun c hc=>by have:=hto.2.2 c hc; omega⟩
       rw[bind_On_eq (binds_ok hsh) nfr.1 nfr.2,put_eq (binds_ok hsh) nfr,bind_On_eq (binds_ok hsh) nto.1 nto.2,put_eq (binds_ok hsh) nto,sub_one fr fun c hc=>(hfr.2.2 c hc).1,sub_one to fun c hc=>(hto.2.2 c hc).1]
       simp only[Option.bind_some]
       have okf:(fr.sub σ).ok a0 24:=Tm.ok_sub fr hfr.1 fun x hx=>hok x (Tm.ok_has fr hfr.1 hx)
       have okt:(to.sub σ).ok a0 24:=Tm.ok_sub to hto.1 fun x hx=>hok x (Tm.ok_has to hto.1 hx)
       by_cases g1:48<(fr.sub σ).codes.length
       ·rw[decide_eq_true (show ((List.length (fr.sub σ).codes:Nat):Int)>48 by omega)]
        exact fin rfl rfl (mk3 (.inl ⟨rfl,.inr (.inl g1)⟩))
       ·rw[decide_eq_false (show ¬((List.length (fr.sub σ).codes:Nat):Int)>48 by omega),cond_false,cond_false]
        by_cases g2:48<(to.sub σ).codes.length
        ·rw[decide_eq_true (show ((List.length (to.sub σ).codes:Nat):Int)>48 by omega)]
         exact fin rfl rfl (mk3 (.inl ⟨rfl,.inr (.inr g2)⟩))
        ·rw[decide_eq_false (show ¬((List.length (to.sub σ).codes:Nat):Int)>48 by omega),cond_false,cond_false]
         obtain⟨k,w1,w2,-,w4⟩:=compare_codes hsb okf okt (by omega) (by omega)
         unfold para_before
         rw[w1,w2]
         simp only[Option.bind_some]
         have mk4:=fun {o:Option ResT} (hq:_)=>mk3 (o:=o) (.inr ⟨hsh,by omega,by omega,k,w2,hq⟩)
         by_cases hk:k=0∨k=1
         ·refine fin (o:=failR 0) ?_ ?_ (mk4 (.inl ⟨rfl,hk⟩))
          ·rcases hk with rfl | rfl<;>rfl
          ·rcases hk with rfl | rfl<;>rfl
         ·have hk2:k=2∨k=3:=by omega
          have hb1:(cond (k != 2) (some (k != 3)) (some false):Option Bool)=some false:=by rcases hk2 with rfl | rfl<;>rfl
          rw[hb1,Option.bind_some,cond_false,show (k==0)=false by simp; omega,show (k==1)=false by simp; omega,cond_false,cond_false]
          unfold para_changed ref13_spliced
          have hlto:to.codes.length≤48:=hto.2.1
          have hul:(upLs (b:Int) L').length=L'.length:=by simp [upLs]
          have hucl:(upLs (b:Int) C').length=C'.length:=by simp [upLs]
          have hwl:=without_len1 hpi
          rw[skip_mid hs ht _ _ hl1]
          simp only[Option.bind_some,slc_front,slc_back]
          rw[concat3 (by simp only[List.length_cons]; omega),without13_eq hpi (by omega),room_ok (by first | omega | (simp only[List.length_cons,List.length_nil]; omega)),cond_true,room_ok (by first | omega | (simp only[List.length_append,List.length_cons,List.length_nil]; omega)),cond_true,room_ok (by first | omega | (simp only[List.length_append,List.length_cons,List.length_nil]; omega)),cond_true]
          simp only[Option.bind_some]
          rw[room_ok (by first | omega | (simp only[List.length_append,List.length_cons,List.length_nil,List.length_map]; omega)),cond_true]
          have w5:inR (IntKind.wrap .i64 ((IntKind.wrap .i64 (((List.length L:Nat):Int) - 1))+j)) (List.length (without i L 0++upLs (b:Int) L'))=some ((without i L 0).length+j.toNat):=by
           rw[show IntKind.wrap .i64 (((List.length L:Nat):Int) - 1)=(((without i L 0).length:Nat):Int) by rw[wrap64]<;>omega,show IntKind.wrap .i64 ((((without i L 0).length:Nat):Int)+j)=(((without i L 0).length+j.toNat:Nat):Int) by rw[wrap64]<;>omega]
           exact inR_nat (by rw[List.length_append]; omega)
          have w6:(without i L 0++upLs (b:Int) L')[(without i L 0).length+j.toNat]? = some (n',(c:Int)::codesR (us.map (Tm.up b))):=by
           rw[List.getElem?_append_right (by omega),show (without i L 0).length+j.toNat - (without i L 0).length=j.toNat by omega]
           exact hjd
          rw[w5,Option.bind_some,w6,Option.bind_some,List.set_append_right _ _ (by omega),show (without i L 0).length+j.toNat - (without i L 0).length=j.toNat by omega]
          have e9:(((([]:List Int)++(c:Int)::x))++to.codes)++y=(c:Int)::(x++to.codes++y):=by simp
          have e10:(((c:Int)::x)++to.codes)++y=(c:Int)::(x++to.codes++y):=by simp
          rw[e9,e10]
          have hul2:((upLs (b:Int) L').set j.toNat (n',(c:Int)::(x++to.codes++y))).length=L'.length:=by rw[List.length_set]; exact hul
          unfold ref13_both
          rw[resolve_Both_eq i (-1) (by omega) (by omega) (by omega) (by omega) (by simp; omega) (by omega),Option.bind_some,without_all,
           room_ok (by first | omega | (simp only[List.length_append,List.length_cons,List.length_nil,List.length_map]; omega)),cond_true,room_ok (by first | omega | (simp only[List.length_map]; omega)),cond_true,room_ok (by first | omega | (simp only[List.length_append,List.length_cons,List.length_nil,List.length_map]; omega)),cond_true,room_ok (by first | omega | (simp only[List.length_append,List.length_cons,List.length_nil,List.length_map]; omega)),cond_true,Option.bind_some]
          have hup:∀ r∈rowsOf L' T' C',Cds (r.map (upC (b:Int))):=fun r hr=>up_cds (hcd' r hr) fun x hx=>hnear x ⟨r,hr,hx⟩
          have hupl:∀ ls:List QLit,(∀ l∈ls,l.2∈rowsOf L' T' C')→∀ l∈upLs (b:Int) ls,Cds l.2:=fun ls hls l hl=>by
           obtain⟨l0,h0,rfl⟩:=List.mem_map.1 hl
           exact hup _ (hls l0 h0)
          have hA2:Cds ((c:Int)::codesR (us.map (Tm.up b))):=hupl L' (fun l hl=>mem_rows_lit hl) _ (gx_mem hj2)
          have hnew:Cds ((c:Int)::(x++to.codes++y)):=by
           refine ⟨by simp only[List.length_cons,List.length_append]; omega,fun d hd => ?_⟩
           rcases List.mem_cons.1 hd with rfl | hd
           ·exact hA2.2 _ (List.mem_cons_self ..)
           ·rcases List.mem_append.1 hd with hd | hd
            ·rcases List.mem_append.1 hd with hd | hd
             ·exact hA2.2 d (by rw[e5]; simp [hd])
             ·exact hto.2.2 d hd
            ·exact hA2.2 d (by rw[e5]; simp [hd])
          have cL:∀ l∈without i L 0++(upLs (b:Int) L').set j.toNat (n',(c:Int)::(x++to.codes++y)),Cds l.2:=fun l hl=>by
           rcases List.mem_append.1 hl with hl | hl
           ·exact hcd _ (mem_rows_lit (without_mem L 0 hl))
           ·rcases mem_set hl with hl | rfl
            ·exact hupl L' (fun l hl=>mem_rows_lit hl) l hl
            ·exact hnew
          have cT:∀ r∈bothT b T T',Cds r:=fun r hr=>by
           unfold bothT at hr
           rcases List.mem_append.1 hr with hr | hr
           ·exact hcd _ (mem_rows_row hr)
           ·obtain⟨r0,h0,rfl⟩:=List.mem_map.1 hr
            exact hup _ (mem_rows_row h0)
          have cC:∀ l∈bothC b C C',Cds l.2:=fun l hl=>by
           unfold bothC at hl
           rcases List.mem_append.1 hl with hl | hl
           ·exact hcd _ (mem_rows_cond hl)
           ·exact hupl C' (fun l hl=>mem_rows_cond hl) l hl
          have nL:(without i L 0++(upLs (b:Int) L').set j.toNat (n',(c:Int)::(x++to.codes++y))).length≤100:=by rw[List.length_append]; omega
          have nT:(bothT b T T').length≤100:=by unfold bothT; rw[List.length_append,List.length_map]; omega
          have nC:(bothC b C C').length≤100:=by unfold bothC; rw[List.length_append]; omega
          refine fin ?_ (done13_eq (a0:=a0) hs hsh cL cT cC (by omega) (by omega) (by omega) 1502) (mk4 (.inr ⟨rfl,hk2⟩))
          simp only
          rw[show T++T'.map (List.map (upC (b:Int)))=bothT b T T' from rfl,show C++upLs (b:Int) C'=bothC b C C' from rfl,On_sub hsh cL cT cC (by omega) (by omega) (by omega),Option.bind_some,clause_Normal_eq,Option.bind_some]
          unfold resOut
          cases mayB a0 (subLs σ (without i L 0++(upLs (b:Int) L').set j.toNat (n',(c:Int)::(x++to.codes++y)))) ((bothT b T T').map (subCs σ)) (subLs σ (bothC b C C')) with
          | true=>rfl
          | false=>rfl
end
end Go.Abs.Q
namespace Go.Abs.Q
open Go Go.Abs
section
def eqB (L:List QLit) (i:Int) (neg:Bool):Bool:=placeB L i&&(match gx L i with
 | some l=>(gx l.2 0==some 0)&&(l.1==neg)
 | none=>false)
theorem eqB_at {L:List QLit} {i:Int} {n neg:Bool} {A:List Int} (h:gx L i=some (n,A)) (hp:placeB L i=true):eqB L i neg=((gx A 0==some 0)&&(n==neg)):=by
 unfold eqB
 rw[hp,h,Bool.true_and]
theorem atom_head {a0:List QSym} {A:List Int} (h:atomB a0 A=true):∃ c:Nat,gx A 0=some (c:Int):=by
 obtain⟨c,ts,e,rfl,-⟩:=atom_tree h
 exact ⟨c,by rw[gx_zero]; rfl⟩
theorem para_equation_eq {a0:List QSym} {L:List QLit} (hL:∀ l∈L,atomB a0 l.2=true) (T:List (List Int)) (C:List QLit) (i:Int) (neg:Bool):para_equation L T C i neg=some (eqB L i neg):=by
 unfold para_equation
 by_cases h0:i≥0
 ·rw[decide_eq_true h0,cond_true]
  by_cases h1:i<((List.length L:Nat):Int)
  ·have hp:placeB L i=true:=by unfold placeB; simp only[Bool.and_eq_true,decide_eq_true_eq]; exact ⟨h0,h1⟩
   obtain⟨⟨n,A⟩,hg⟩:=placeB_gx hp
   obtain⟨c,hc⟩:=atom_head (hL _ (gx_mem hg))
   rw[decide_eq_true h1,cond_true,hg,Option.bind_some,hc,Option.bind_some,Option.bind_some,eqB_at hg hp,hc]
   by_cases e:(c:Int)=0
   ·rw[e]; rfl
   ·rw[show ((c:Int)==0)=false by simpa using e,show (some (c:Int)==some 0)=false by simpa using e]; rfl
  ·have hp:placeB L i=false:=by unfold placeB; rw[decide_eq_false h1,Bool.and_false]
   rw[decide_eq_false h1,cond_false]
   unfold eqB
   rw[hp]; rfl
 ·have hp:placeB L i=false:=by unfold placeB; rw[decide_eq_false h0,Bool.false_and]
  rw[decide_eq_false h0,cond_false]
  unfold eqB
  rw[hp]; rfl
theorem etaR (o:Option ResT):(o.bind fun r=>some (r.1,r.2.1,r.2.2.1,r.2.2.2.1,r.2.2.2.2))=o:=by cases o<;>rfl
end
end Go.Abs.Q
namespace Go.Abs.Q
open Go Go.Abs
section
section
variable {a0:List QSym} {L:List QLit} (hL:∀ l∈L,atomB a0 l.2=true) (T:List (List Int)) (C:List QLit)
include hL
end
end
end Go.Abs.Q
namespace Go.Abs.Q
open Go Go.Abs
section
variable (a0:List QSym) (L:List QLit) (T:List (List Int)) (C:List QLit) (a b:Int) (L':List QLit) (T':List (List Int)) (C':List QLit)
def rowLen (j:Int):Nat:=match gx L' j with
 | some l=>l.2.length
 | none=>0
variable {a0 L T C a b L' T' C'} (h:mayB a0 L T C=true) (h':mayB a0 L' T' C'=true)
include h h'
theorem one_One {i side j:Int} {at':Nat} (hi:eqB L i false=true) (hs:side=0∨side=1) (hj0:0≤j) (hj1:j<L'.length) (h1:1≤at') (h2:at'<rowLen L' j):para_One a0 L T C i side L' T' C' j (at':Int)=para_one a0 L T C i side L' T' C' j (at':Int):=by
 have hL:∀ l∈L,atomB a0 l.2=true:=fun l hl=>List.all_eq_true.1 (mayB_spec h).2.2.2.2.1 l hl
 obtain⟨l,hg,-⟩:=gx_at hj0 hj1
 have h2:at'<l.2.length:=by unfold rowLen at h2; rwa [hg] at h2
 unfold para_One
 rw[clause_May_eq,h,Option.bind_some,Bool.not_true,cond_false,clause_May_eq,h',Option.bind_some,Bool.not_true,cond_false,para_equation_eq hL,Option.bind_some,hi,Bool.not_true,cond_false,
  decide_eq_false (show ¬ j<0 by omega),decide_eq_false (show ¬ j≥((List.length L':Nat):Int) by omega),decide_eq_false (show ¬(at':Int)<1 by omega)]
 simp only[cond_false,hg,Option.bind_some]
 rw[decide_eq_false (show ¬(at':Int)≥((List.length l.2:Nat):Int) by omega),cond_false,etaR]
 rcases hs with rfl | rfl<;>rfl
end
end Go.Abs.Q
namespace Go.Abs.Q
open Go Go.Abs
section
section
variable {a0:List QSym} {L:List QLit} {T:List (List Int)} {C:List QLit} {a b:Int} {L':List QLit} {T':List (List Int)} {C':List QLit} (h:mayB a0 L T C=true) (h':mayB a0 L' T' C'=true)
 {P:StepT→Prop} (hP:∀(i side j:Int) (at':Nat) (r:ResT),eqB L i false=true→(side=0∨side=1)→0≤j→j<L'.length→1≤at'→at'<rowLen L' j→para_One a0 L T C i side L' T' C' j (at':Int)=some r→r.2.2.1=true→r.2.2.2.1=0→mayB a0 r.1 r.2.1 r.2.2.2.2=true→SameCl r.1 r.2.1 r.2.2.2.2→P (3,a,i,side,b,j,(at':Int),r.1,r.2.1,r.2.2.2.2))
include h h' hP
end
theorem law15_awake_eq:law15_awake=some true:=by kernel_rfl
end
end Go.Abs.Q
namespace Go.Abs.Q
open Go Go.Abs
section
section
variable (a0:List QSym) (L:List QLit) (T:List (List Int)) (C:List QLit) (a:Int)
variable {a0 L T C a} (h:mayB a0 L T C=true)
include h
end
end
end Go.Abs.Q
namespace Go.Abs.Q
open Go Go.Abs
section
theorem valR_eq {m:Int} {nums:List Int} {env:Nat→Int}:(ts:List Tm)→valR m nums env ts=ts.map (valT m nums env)
 | []=>rfl
 | t::ts=>by rw[valR,valR_eq ts]; rfl
theorem RT.val {m:Int} {nums:List Int} {env:Nat→Int} {t u a b:Tm} (h:RT t u a b) (hv:valT m nums env t=valT m nums env u):valT m nums env a=valT m nums env b:=by
 induction h with
 | here=>exact hv
 | arg c l r h ih=>simp only[valT,valR_eq,List.map_append,List.map_cons,ih]
theorem RR.val {m:Int} {nums:List Int} {env:Nat→Int} {t u:Tm} {ts us:List Tm} (h:RR t u ts us) (hv:valT m nums env t=valT m nums env u):valR m nums env ts=valR m nums env us:=by
 obtain⟨l,a,b,r,rfl,rfl,h⟩:=h
 simp only[valR_eq,List.map_append,List.map_cons,h.val hv]
section
variable {m:Nat} (hm:0<m) (hm3:m≤3) {nums:List Int} (hn:NumsOk nums) {a0:List QSym} (hs:SignOk a0)
include hm hm3 hn hs
end
end
end Go.Abs.Q
namespace Go.Abs.Q
open Go Go.Abs
section
def Closed (r:List Int):Prop:=∀ c∈r,0≤c
theorem cover_closed {a b:List Int} (hb:Closed b):coverB a b (List.range 24)=true:=by
 unfold coverB
 rw[List.all_eq_true]
 intro v _
 have:cntC b v=0:=by
  unfold cntC
  rw[List.count_eq_zero]
  intro h
  have:=hb _ h
  omega
 rw[this]
 exact decide_eq_true (Nat.zero_le _)
theorem firstU_swap:{ts us:List Tm}→{p:Tm×Tm}→firstU ts us=some p→firstU us ts=some (p.2,p.1)
 | [],_,_,h=>by simp [firstU] at h
 | _::_,[],_,h=>by simp [firstU] at h
 | t::ts,u::us,p,h=>by
  unfold firstU at h ⊢
  by_cases he:t.codes=u.codes
  ·rw[if_pos he] at h
   rw[if_pos he.symm]
   exact firstU_swap h
  ·rw[if_neg he] at h
   rw[if_neg (Ne.symm he)]
   injection h with h
   rw[← h]
theorem more_step {a0:List QSym} (hs:SignOk a0) {a b:List Int} {c d:Int} {ts us:List Tm} (ha:HF a0 a c ts) (hb:HF a0 b d us) (har:c=d→ts.length=us.length) (hne:a≠b) (cb:Closed b) {x y:Int} (hx:term_Sum a0 a=some x) (hy:term_Sum a0 b=some y) (k:Nat) :
  (x<y→ref1_More_R (k+1) (a0,a,b)=some false)∧(y<x→ref1_More_R (k+1) (a0,a,b)=some true)∧(x=y→c≠d→ref1_More_R (k+1) (a0,a,b)=some (decide (c>d))) ∧
   (x=y→c=d→∃ p,firstU ts us=some p∧ref1_More_R (k+1) (a0,a,b)=ref1_More_R k (a0,p.1.codes,p.2.codes)):=by
 have la:=ha.len
 have lb:=hb.len
 have e:ref1_More_R (k+1) (a0,a,b)=ref1_More_S (ref1_More_R k) a0 a b:=rfl
 rw[e]
 have hnn:nn a=some a:=by rw[ha.eq]; rfl
 unfold ref1_More_S
 rw[heavy_eq a0 (by omega),hx,Option.bind_some,heavy_eq a0 (by omega),hy,Option.bind_some,often_eq (by omega) (by omega),Option.bind_some,cover_closed cb,Bool.not_true,cond_false]
 refine ⟨fun h => ?_,fun h => ?_,fun h hcd => ?_,fun h hcd => ?_⟩
 ·rw[decide_eq_true h]
  rfl
 ·rw[decide_eq_false (show ¬ x<y by omega),cond_false,decide_eq_true (show x>y by omega)]
  rfl
 ·subst h
  rw[decide_eq_false (Int.lt_irrefl x)]
  have ga:gx a 0=some c:=by rw[ha.eq]; rfl
  have gb:gx b 0=some d:=by rw[hb.eq]; rfl
  simp only[cond_false,ga,gb,Option.bind_some]
  rw[show (c != d)=true from by simp [hcd],cond_true]
 ·subst h
  subst hcd
  rw[decide_eq_false (Int.lt_irrefl x)]
  have ga:gx a 0=some c:=by rw[ha.eq]; rfl
  have gb:gx b 0=some c:=by rw[hb.eq]; rfl
  simp only[cond_false,ga,gb,Option.bind_some]
  have hl:=har rfl
  have ea:=ha.eq
  have eb:=hb.eq
  have hlt:(codesR ts).length+1=a.length:=by rw[ea]; rfl
  have hlu:(codesR us).length+1=b.length:=by rw[eb]; rfl
  have sa:slc2 a (some 1) none=some (codesR ts):=by rw[ea]; exact slc_tail _ _
  have sb:slc2 b (some 1) none=some (codesR us):=by rw[eb]; exact slc_tail _ _
  have ct:∀ t∈ts,t.codes.length≤1000:=fun t h=>by have:=codes_le h; omega
  have cuts1:=cuts_codes ts ha.ok
  have cuts2:=cuts_codes us hb.ok
  have lts:=cuts_len cuts1
  have lus:=cuts_len cuts2
  rw[List.length_map] at lts lus
  have pa:=ref1_Parts_eq hs (a1:=codesR ts) (by omega) cuts1
  have pb:=ref1_Parts_eq hs (a1:=codesR us) (by omega) cuts2
  rw[show (c != c)=false from by simp,cond_false]
  simp only[sa,sb,pa,pb,Option.bind_some]
  rw[ref1_More_L0_go_at0 _ _ _ _ (by rw[List.length_map]; unfold maxLen; omega),more_go ts us 0 rfl hl ct]
  cases hf:firstU ts us with
  | none =>
   exfalso
   exact hne (by rw[ea,eb,firstU_none hl hf])
  | some p =>
   refine ⟨p,rfl,?_⟩
   simp only
   cases ref1_More_R k (a0,p.1.codes,p.2.codes)<;>rfl
theorem more_total {a0:List QSym} (hs:SignOk a0):∀(n:Nat) (a b:List Int) (c d:Int) (ts us:List Tm),a.length≤n→HF a0 a c ts→HF a0 b d us→(c=d→ts.length=us.length)→a≠b→Closed a→Closed b→∀ k,n<k →
  ref1_More_R k (a0,a,b)=some true∨ref1_More_R k (a0,b,a)=some true:=by
 intro n
 induction n with
 | zero =>
  intro a b c d ts us hn h
  rw[h.eq] at hn
  simp at hn
 | succ n ih =>
  intro a b c d ts us hn ha hb har hne ca cb k hk
  obtain⟨k,rfl⟩:∃ q,k=q+1:=⟨k - 1,by omega⟩
  have la:=ha.len
  have lb:=hb.len
  obtain⟨x,hx⟩:=ha.sum hs
  obtain⟨y,hy⟩:=hb.sum hs
  obtain⟨s1,s2,s3,s4⟩:=more_step hs ha hb har hne cb hx hy k
  obtain⟨r1,r2,r3,r4⟩:=more_step hs hb ha (fun e=>(har e.symm).symm) (Ne.symm hne) ca hy hx k
  by_cases h1:x<y
  ·exact .inr (r2 h1)
  ·by_cases h2:y<x
   ·exact .inl (s2 h2)
   ·have hxy:x=y:=by omega
    by_cases hcd:c=d
    ·obtain⟨p,p1,p2⟩:=s4 hxy hcd
     obtain⟨q,q1,q2⟩:=r4 hxy.symm hcd.symm
     rw[firstU_swap p1] at q1
     injection q1 with q1
     subst q1
     rw[p2,q2]
     obtain⟨m1,m2,m3⟩:=firstU_some p1
     have ct:∀ t∈ts,t.codes.length≤1000:=fun t h=>by
      have:=codes_le h
      have hlt:(codesR ts).length+1=a.length:=by rw[ha.eq]; rfl
      omega
     have cu:∀ t∈us,t.codes.length≤1000:=fun t h=>by
      have:=codes_le h
      have hlt:(codesR us).length+1=b.length:=by rw[hb.eq]; rfl
      omega
     obtain⟨c1,ts1,d1,us1,f1,f2,f3⟩:=hf_terms hs (okR_iff.1 ha.ok _ m1) (okR_iff.1 hb.ok _ m2) (ct _ m1) (cu _ m2)
     have:=codes_le m1
     have hlt:(codesR ts).length+1=a.length:=by rw[ha.eq]; rfl
     refine ih p.1.codes p.2.codes c1 d1 ts1 us1 (by omega) f1 f2 f3 m3 (fun e he=>ca e ?_) (fun e he=>cb e ?_) k (by omega)
     ·rw[ha.eq,codesR_eq]
      exact List.mem_cons_of_mem _ (List.mem_flatMap.2 ⟨_,m1,he⟩)
     ·rw[hb.eq,codesR_eq]
      exact List.mem_cons_of_mem _ (List.mem_flatMap.2 ⟨_,m2,he⟩)
    ·by_cases hgt:c>d
     ·exact .inl ((s3 hxy hcd).trans (by rw[decide_eq_true hgt]))
     ·exact .inr ((r3 hxy.symm (Ne.symm hcd)).trans (by rw[decide_eq_true (show d>c by omega)]))
theorem cmp_closed {a0:List QSym} (hs:SignOk a0) {t u:Tm} (ht:t.ok a0 24) (hu:u.ok a0 24) (hlt:t.codes.length≤1000) (hlu:u.codes.length≤1000) (ct:Closed t.codes) (cu:Closed u.codes):cmpTail a0 t.codes u.codes≠some (3,0):=by
 intro h
 obtain⟨c,ts,d,us,h1,h2,h3⟩:=hf_terms hs ht hu hlt hlu
 unfold cmpTail at h
 have la:=h1.len
 rw[slices_Equal_eq (by unfold maxLen; omega),Option.bind_some] at h
 by_cases he:t.codes=u.codes
 ·rw[decide_eq_true he,cond_true] at h
  simp at h
 ·rw[decide_eq_false he,cond_false] at h
  obtain⟨r,e1,e2⟩:=more_eq hs h1 h2 h3 he
  obtain⟨r',e3,e4⟩:=more_eq hs h2 h1 (fun e=>(h3 e.symm).symm) (Ne.symm he)
  rw[e2,Option.bind_some] at h
  have tot:=more_total hs 1000 _ _ c d ts us (by omega) h1 h2 h3 he ct cu fuel (by decide)
  have f1:ref1_More a0 t.codes u.codes=ref1_More_R fuel (a0,t.codes,u.codes):=rfl
  have f2:ref1_More a0 u.codes t.codes=ref1_More_R fuel (a0,u.codes,t.codes):=rfl
  rw[← f1,← f2,e1,e3] at tot
  cases r with
  | true=>rw[cond_true] at h; simp at h
  | false =>
   rw[cond_false,e4,Option.bind_some] at h
   cases r' with
   | true=>rw[cond_true] at h; simp at h
   | false =>
    rcases tot with tot | tot
    ·injection tot with tot; cases tot
    ·injection tot with tot; cases tot
end
end Go.Abs.Q
namespace Go.Abs.Q
open Go Go.Abs
section
theorem subCs_v (r:List Int):subCs Tm.v r=r:=by
 unfold subCs
 induction r with
 | nil=>rfl
 | cons c r ih =>
  rw[List.flatMap_cons,ih]
  unfold expC
  by_cases h:c<0
  ·rw[if_pos h]
   show [-1 - (((-1 - c).toNat:Nat):Int)]++r=_
   rw[show -1 - (((-1 - c).toNat:Nat):Int)=c by omega]
   rfl
  ·rw[if_neg h]
   rfl
theorem mgu_same (s:Tm):Mgu Tm.v ([s].zip [s]) where
 sol:=by intro p hp; rw[List.mem_singleton.1 (show p∈[(s,s)] from hp)]
 gen:=fun θ _ x=>rfl
 le:=fun x y h=>by injection h with h; omega
 idem:=fun x=>rfl
theorem term_is {a0:List QSym} {a:List Int} (h:term_IsTerm a0 a=some true):∃ s:Tm,s.ok a0 24∧a=s.codes∧a.length≤48∧signB a0=true:=by
 unfold term_IsTerm at h
 rw[term_begins_eq,Option.bind_some] at h
 cases hb:beginsB a0 a with
 | none=>rw[hb] at h; cases h
 | some ps =>
  rw[hb] at h
  simp only[cond_true,startsOf_len] at h
  have hl:ps.length=1:=by
   injection h with h
   have:=eq_of_beq h
   omega
  unfold beginsB at hb
  cases hs:signB a0 with
  | false=>rw[hs] at hb; cases hb
  | true =>
   by_cases h48:a.length≤48
   ·rw[hs,decide_eq_true h48,Bool.true_and,cond_true] at hb
    obtain⟨ts,h1,h2,h3⟩:=row_of hb
    rw[h2,List.length_map] at hl
    match ts,hl,h1,h3 with
    | [s],_,h1,h3=>exact ⟨s,h1.1,h3.trans (by simp [codesR]),h48,rfl⟩
   ·rw[decide_eq_false h48,Bool.and_false] at hb; cases hb
theorem compare_any (a0:List QSym) (a b:List Int):(∃ s u:Tm,s.ok a0 24∧u.ok a0 24∧a=s.codes∧b=u.codes∧a.length≤48∧b.length≤48∧signB a0=true∧∃ k,order_Compare a0 a b=some (k,0)) ∨
  (atomB a0 a=true∧∃ k,order_Compare a0 a b=some (k,0))∨order_Compare a0 a b=some (0,600):=by
 obtain⟨b1,e1⟩:=isTerm_total a0 a
 obtain⟨b2,e2⟩:=isTerm_total a0 b
 have both:b1=true→b2=true→∃ s u:Tm,s.ok a0 24∧u.ok a0 24∧a=s.codes∧b=u.codes∧a.length≤48∧b.length≤48∧signB a0=true∧∃ k,order_Compare a0 a b=some (k,0):=fun h1 h2=>by
  rw[h1] at e1
  rw[h2] at e2
  obtain⟨s,s1,rfl,s3,s4⟩:=term_is e1
  obtain⟨u,u1,rfl,u3,-⟩:=term_is e2
  obtain⟨k,-,k2,-⟩:=compare_codes s4 s1 u1 s3 u3
  exact ⟨s,u,s1,u1,rfl,rfl,s3,u3,s4,k,k2⟩
 cases c1:atomB a0 a with
 | true =>
  cases c2:atomB a0 b with
  | true =>
   obtain⟨-,-,-,-,-,-,-,-,-,hsb,-⟩:=atomB_spec c1
   obtain⟨k,-,k2⟩:=compare_atoms (signB_ok hsb) c1 c2
   exact .inr (.inl ⟨rfl,k,k2⟩)
  | false =>
   by_cases hb:b1=true∧b2=true
   ·exact .inl (both hb.1 hb.2)
   ·refine .inr (.inr ?_)
    unfold order_Compare
    rw[e1,Option.bind_some,e2,term_IsAtom_eq,c1,term_IsAtom_eq,c2]
    cases b1<;>cases b2<;>first | rfl | exact absurd ⟨rfl,rfl⟩ hb
 | false =>
  by_cases hb:b1=true∧b2=true
  ·exact .inl (both hb.1 hb.2)
  ·refine .inr (.inr ?_)
   unfold order_Compare
   rw[e1,Option.bind_some,e2,term_IsAtom_eq,c1]
   obtain⟨c2,e3⟩:=isAtom_some a0 b
   rw[e3]
   cases b1<;>cases b2<;>cases c2<;>first | rfl | exact absurd ⟨rfl,rfl⟩ hb
theorem ground_L0 {a0:List QSym} {b t:List Int} {k:Int} {r:List Int} {L L':List QLit} (hl:r.length≤10000000):(es:List Int)→(n f:Nat)→r.drop n=es→es.length<f →
  (lp law15_ParaGround_L0 f (a0,b,t,k,r,(n:Int),L,L')=some (.inl ())∧Closed es)∨lp law15_ParaGround_L0 f (a0,b,t,k,r,(n:Int),L,L')=some (.inr true)
 | _,_,0,_,h=>by omega
 | [],n,f+1,hn,_=>by
  rw[lp_succ]
  generalize lp law15_ParaGround_L0 f=rec
  unfold law15_ParaGround_L0
  simp only[lt_false (drop_nil_le hn),cond_false]
  exact .inl ⟨trivial,fun _ h=>(nomatch h)⟩
 | e::es,n,f+1,hn,hk=>by
  have hlt:=drop_cons_lt hn
  have ih:=ground_L0 (a0:=a0) (b:=b) (t:=t) (k:=k) (L:=L) (L':=L') hl es (n+1) f (drop_cons_next hn) (by simpa using hk)
  rw[lp_succ]
  generalize lp law15_ParaGround_L0 f=rec at ih ⊢
  unfold law15_ParaGround_L0
  simp only[lt_true hlt,cond_true,gx_nat,drop_cons_get hn,Option.bind_some,wrap_i1 hlt (show r.length≤maxLen by unfold maxLen; omega)]
  by_cases h0:e<0
  ·rw[decide_eq_true h0]; exact .inr rfl
  ·rw[decide_eq_false h0,cond_false]
   rcases ih with ⟨h1,h2⟩ | h1
   ·refine .inl ⟨h1,fun c hc => ?_⟩
    rcases List.mem_cons.1 hc with rfl | hc
    ·omega
    ·exact h2 c hc
   ·exact .inr h1
theorem ground_L1 {a0:List QSym} {b r:List Int} {k:Int} {L L':List QLit} (hl:r.length≤10000000):(es:List Int)→(n f:Nat)→r.drop n=es→es.length<f →
  (lp law15_ParaGround_L1 f (a0,b,r,k,(n:Int),L,L')=some (.inl ())∧Closed es)∨lp law15_ParaGround_L1 f (a0,b,r,k,(n:Int),L,L')=some (.inr true)
 | _,_,0,_,h=>by omega
 | [],n,f+1,hn,_=>by
  rw[lp_succ]
  generalize lp law15_ParaGround_L1 f=rec
  unfold law15_ParaGround_L1
  simp only[lt_false (drop_nil_le hn),cond_false]
  exact .inl ⟨trivial,fun _ h=>(nomatch h)⟩
 | e::es,n,f+1,hn,hk=>by
  have hlt:=drop_cons_lt hn
  have ih:=ground_L1 (a0:=a0) (b:=b) (k:=k) (L:=L) (L':=L') hl es (n+1) f (drop_cons_next hn) (by simpa using hk)
  rw[lp_succ]
  generalize lp law15_ParaGround_L1 f=rec at ih ⊢
  unfold law15_ParaGround_L1
  simp only[lt_true hlt,cond_true,gx_nat,drop_cons_get hn,Option.bind_some,wrap_i1 hlt (show r.length≤maxLen by unfold maxLen; omega)]
  by_cases h0:e<0
  ·rw[decide_eq_true h0]; exact .inr rfl
  ·rw[decide_eq_false h0,cond_false]
   rcases ih with ⟨h1,h2⟩ | h1
   ·refine .inl ⟨h1,fun c hc => ?_⟩
    rcases List.mem_cons.1 hc with rfl | hc
    ·omega
    ·exact h2 c hc
   ·exact .inr h1
theorem first_term {a0:List QSym} {s s0 s1:Tm} {b:List Int} (hs:s.ok a0 24) (h0:s0.ok a0 24) (h:s.codes++b=codesR [s0,s1]):s.codes=s0.codes∧b=s1.codes:=by
 have e:codesR [s0,s1]=s0.codes++s1.codes:=by simp [codesR]
 rw[e] at h
 have k1:=sk_more b (s.sk_codes hs)
 have k2:=sk_more s1.codes (s0.sk_codes h0)
 rw[h,k2] at k1
 injection k1 with k1
 exact List.append_inj h k1.symm
theorem atom_no_term {a0:List QSym} {a b:List Int} (h:atomB a0 a=true) {s0 s1:Tm} (h0:s0.ok a0 24) (e:a++b=codesR [s0,s1]):False:=by
 obtain⟨c,ts,q,rfl,-,hc,hq,-⟩:=atom_tree h
 have e2:codesR [s0,s1]=s0.codes++s1.codes:=by simp [codesR]
 rw[e2] at e
 cases s0 with
 | v n =>
  injection e with e _
  omega
 | f d as =>
  injection e with e _
  have hcd:c=d:=by omega
  subst hcd
  have ha:=h0.1
  unfold arity at ha
  rw[decide_eq_false (show ¬((c:Int)<0) by omega),cond_false,Int.toNat_natCast,hc] at ha
  simp only at ha
  rw[hq] at ha
  cases ha
theorem normC_one {n:Bool} {r:List Int} (h:Closed r):normC [(n,r)] [] []=([(n,r)],[],[]):=by
 have hr:∀(r:List Int) (s:List Int×Int),Closed r→renR s r=(r,s):=by
  intro r
  induction r with
  | nil=>intro s _; rfl
  | cons c r ih =>
   intro s h
   have h0:=h c (List.mem_cons_self ..)
   have e1:ren1 s c=(c,s):=by
    unfold ren1
    rw[decide_eq_true (show c≥0 from h0)]
    rfl
   unfold renR
   rw[e1,ih s fun d hd=>h d (List.mem_cons_of_mem _ hd)]
 unfold normC
 rw[show onceL [(n,r)] []=[(n,r)] from rfl,show onceL ([]:List (List Int)) []=[] from rfl,show onceL ([]:List QLit) []=[] from rfl]
 unfold renC
 simp only[renLs,renRs,hr r _ h]
theorem may_one {a0:List QSym} {n:Bool} {A:List Int} (h:mayB a0 [(n,A)] [] []=true):atomB a0 A=true∧signB a0=true:=by
 obtain⟨hsb,-,-,-,l4,-⟩:=mayB_spec h
 exact ⟨List.all_eq_true.1 l4 (n,A) (List.mem_cons_self ..),hsb⟩
theorem may_of_atom {a0:List QSym} {n:Bool} {A:List Int} (h:atomB a0 A=true) (hs:signB a0=true):mayB a0 [(n,A)] [] []=true:=by
 have hl:=atomB_len h
 refine mayB_mk hs (by simp) (by simp) (by simp) (List.all_eq_true.2 fun l hl=>by rw[List.mem_singleton.1 hl]; exact h) (rowsB_of (n:=0) fun r hr=>(nomatch hr)) rfl ?_
 simp [sumLen]
 omega
theorem closed_no {rs:List (List Int)} (h:∀ r∈rs,Closed r) (x:Int):¬ VarR rs x:=by
 rintro⟨r,hr,c,hc,h0,-⟩
 have:=h r hr c hc
 omega
theorem law15_ParaGround_true (a0:List QSym) (a b t:List Int) (at':Int) (ha:a.length≤1048576) (hb:b.length≤1048576) (ht:t.length≤1048576):law15_ParaGround a0 a b t at'=some true:=by
 unfold law15_ParaGround
 have hnum:∀ k:Int,law0_Num k=some k:=fun k=>rfl
 rw[law15_awake_eq,Option.bind_some,Bool.not_true,cond_false]
 have rm:∀ n:Nat,n≤10000000→room n 8=true:=fun n hn=>room_ok (by omega)
 have l1:(([0]:List Int).length+a.length)≤10000000:=by simp; omega
 have l2:((([0]:List Int)++a).length+b.length)≤10000000:=by simp; omega
 have l3:(([0]:List Int).length+t.length)≤10000000:=by simp; omega
 have l4:((([0]:List Int)++t).length+a.length)≤10000000:=by simp; omega
 have l5:((([0]:List Int)++t).length+b.length)≤10000000:=by simp; omega
 -- what the two comparisons leave
 have errs:∀{o1 o2:Option (Int×Int)} {r1 r2:Int×Int},o1=some r1→o2=some r2→(r1.2≠0∨r2.2≠0)→∀{X:Int×Int→Int×Int→Option Bool},(o1.bind fun r25=>o2.bind fun r26=>cond (room (([0]:List Int).length+a.length) 8) (cond (room ((([0]:List Int)++a).length+b.length) 8) (cond (room (([0]:List Int).length+t.length) 8) (cond (room ((([0]:List Int)++t).length+a.length) 8) ((law0_Num r25.2).bind fun r27=>cond (r27 != 0) (some true) ((law0_Num r26.2).bind fun r28=>cond (r28 != 0) (some true) (X r25 r26))) none) none) none) none)=some true:=by
  intro o1 o2 r1 r2 h1 h2 he X
  rw[h1,h2,Option.bind_some,Option.bind_some,rm _ l1,rm _ l2,rm _ l3,rm _ l4]
  simp only[cond_true,hnum,Option.bind_some]
  by_cases z:r1.2=0
  ·rw[show (r1.2 != 0)=false by simp [z],cond_false,show (r2.2 != 0)=true by simpa using he.resolve_left fun h=>h z]
   rfl
  ·rw[show (r1.2 != 0)=true by simpa using z]
   rfl
 obtain⟨q2,hq2⟩:∃ q,order_Compare a0 t t=some q:=by
  rcases compare_any a0 t t with ⟨_,_,-,-,-,-,-,-,-,k,h⟩ | ⟨-,k,h⟩ | h
  ·exact ⟨_,h⟩
  ·exact ⟨_,h⟩
  ·exact ⟨_,h⟩
 obtain⟨q1,hq1⟩:∃ q,order_Compare a0 a b=some q:=by
  rcases compare_any a0 a b with ⟨_,_,-,-,-,-,-,-,-,k,h⟩ | ⟨-,k,h⟩ | h
  ·exact ⟨_,h⟩
  ·exact ⟨_,h⟩
  ·exact ⟨_,h⟩
 by_cases he:q1.2≠0∨q2.2≠0
 ·exact errs hq1 hq2 he
 ·have z1:q1.2=0:=Decidable.byContradiction fun h=>he (.inl h)
  have z2:q2.2=0:=Decidable.byContradiction fun h=>he (.inr h)
  rw[hq1,hq2,Option.bind_some,Option.bind_some,rm _ l1,rm _ l2,rm _ l3,rm _ l4,rm _ l5]
  simp only[cond_true,hnum,Option.bind_some,z1,z2,bne_self_eq_false,cond_false,clause_May_eq]
  have ec:(([0]:List Int)++a)++b=0::(a++b):=by simp
  have ed:(([0]:List Int)++t)++a=0::(t++a):=by simp
  have ew:(([0]:List Int)++t)++b=0::(t++b):=by simp
  rw[ec,ed,ew]
  cases hmc:mayB a0 [(false,0::(a++b))] [] [] with
  | false=>rfl
  | true =>
   rw[Bool.not_true,cond_false]
   cases hmd:mayB a0 [(true,0::(t++a))] [] [] with
   | false=>rfl
   | true =>
    rw[Bool.not_true,cond_false]
    have w1:IntKind.wrap .i64 (((List.length t:Nat):Int)+((List.length b:Nat):Int))=((t.length+b.length:Nat):Int):=by rw[wrap64]<;>omega
    have w2:IntKind.wrap .i64 (1+((List.length t:Nat):Int))=((t.length+1:Nat):Int):=by rw[wrap64]<;>omega
    rw[w1,w2]
    by_cases h48:t.length+b.length≤48
    ·rw[decide_eq_false (show ¬((t.length+b.length:Nat):Int)>48 by omega),cond_false]
     have g0:=ground_L0 (a0:=a0) (b:=b) (t:=t) (k:=q1.1) (r:=0::(a++b)) (L:=[(false,0::(a++b))]) (L':=[(true,0::(t++a))]) (by simp; omega) (0::(a++b)) 0 fuel rfl (Nat.lt_of_le_of_lt (show _≤10000000 by simp; omega) (by decide))
     rw[show ((0:Nat):Int)=0 from rfl] at g0
     rcases g0 with ⟨g0,cab⟩ | g0
     ·rw[g0]
      simp only[Option.bind_some,caseS]
      have g1:=ground_L1 (a0:=a0) (b:=b) (r:=t) (k:=q1.1) (L:=[(false,0::(a++b))]) (L':=[(true,0::(t++a))]) (by omega) t 0 fuel rfl (Nat.lt_of_le_of_lt (show _≤10000000 by omega) (by decide))
      rw[show ((0:Nat):Int)=0 from rfl] at g1
      rcases g1 with ⟨g1,ct⟩ | g1
      ·rw[g1]
       simp only[Option.bind_some]
       -- the terms
       obtain⟨atc,hsb⟩:=may_one hmc
       obtain⟨atd,-⟩:=may_one hmd
       have hs:=signB_ok hsb
       obtain⟨s0,s1,e0,ok0,ok1,hl01⟩:=eq_sides atc rfl
       injection e0 with _ e0
       obtain⟨d0,d1,e1,okd0,okd1,hld⟩:=eq_sides atd rfl
       injection e1 with _ e1
       obtain⟨hA,hB⟩:a=s0.codes∧b=s1.codes:=by
        rcases compare_any a0 a b with ⟨s,u,so,-,rfl,-⟩ | ⟨hat,-⟩ | h
        ·exact first_term so ok0 e0
        ·exact (atom_no_term hat ok0 e0).elim
        ·rw[hq1] at h
         injection h with h
         rw[h] at z1
         cases z1
       obtain⟨hT,hA2⟩:t=d0.codes∧a=d1.codes:=by
        rcases compare_any a0 t t with ⟨s,u,so,-,rfl,-⟩ | ⟨hat,-⟩ | h
        ·exact first_term so okd0 e1
        ·exact (atom_no_term hat okd0 e1).elim
        ·rw[hq2] at h
         injection h with h
         rw[h] at z2
         cases z2
       have ca:Closed a:=fun c hc=>cab c (List.mem_cons_of_mem _ (List.mem_append_left _ hc))
       have cb:Closed b:=fun c hc=>cab c (List.mem_cons_of_mem _ (List.mem_append_right _ hc))
       have cta:Closed (0::(t++a)):=fun c hc=>by
        rcases List.mem_cons.1 hc with rfl | hc
        ·exact Int.le_refl _
        ·rcases List.mem_append.1 hc with hc | hc
         ·exact ct c hc
         ·exact ca c hc
       have ctb:Closed (0::(t++b)):=fun c hc=>by
        rcases List.mem_cons.1 hc with rfl | hc
        ·exact Int.le_refl _
        ·rcases List.mem_append.1 hc with hc | hc
         ·exact ct c hc
         ·exact cb c hc
       have hpa:0<a.length:=by rw[hA,Tm.codes_len]; exact s0.size_pos
       have hla:a.length≤48:=by
        have:=hl01
        simp only[codesR,List.append_nil,List.length_append] at this
        rw[hA]; omega
       have heq:eqB [(false,0::(a++b))] 0 false=true:=rfl
       have hrow:rowLen [(true,0::(t++a))] 0=t.length+a.length+1:=by
        show (0::(t++a)).length=_
        simp
       rw[one_One (side:=0) hmc hmd heq (.inl rfl) (Int.le_refl 0) (by simp) (show 1≤t.length+1 by omega) (by rw[hrow]; omega)]
       obtain⟨r0,r1,fr,to,p1,okr0,okr1,hft,o,o1,-,o3⟩:=para_both hmc hmd (i:=0) (j:=0) (n':=true) (A:=0::(a++b)) (A':=0::(t++a)) rfl rfl rfl (side:=0) (.inl rfl) (at':=t.length+1) (by omega) (by simp; omega)
       injection p1 with _ p1
       rw[o1]
       have inj2:∀{u0 u1 v0 v1:Tm},okR a0 24 [u0,u1]→okR a0 24 [v0,v1]→codesR [u0,u1]=codesR [v0,v1]→u0=v0∧u1=v1:=fun h1 h2 h=>by
        have:=codesR_inj _ _ _ (Nat.le_refl _) h1 h2 h
        injection this with k1 k2
        injection k2 with k2 _
        exact ⟨k1,k2⟩
       have lens:s0.codes.length≤48∧s1.codes.length≤48∧d0.codes.length≤48:=by
        simp only[codesR,List.append_nil,List.length_append] at hl01 hld
        omega
       obtain⟨rfl,rfl⟩:=inj2 ⟨ok0,ok1,trivial⟩ ⟨okr0,okr1,trivial⟩ (e0.symm.trans p1)
       obtain⟨rfl,rfl⟩:fr=s0∧to=s1:=by
        rcases hft with ⟨-,h1,h2⟩ | ⟨h,-,-⟩
        ·exact ⟨h1,h2⟩
        ·exact absurd h (by decide)
       have lz:(((List.length ([]:List QLit):Nat):Int)==1)=false:=rfl
       have fin0:o=failR 0→q1.1≠2→(o.bind fun r35=>cond (q1.1 != 2) ((law0_Num r35.2.2.2.1).bind fun r36=>cond (r36==0) (some (!r35.2.2.1)) (some false)) (cond (room (([0]:List Int).length+t.length) 8) (cond (room ((([0]:List Int)++t).length+b.length) 8) ((law0_Num r35.2.2.2.1).bind fun r37=>cond (r37==0) (cond r35.2.2.1 (cond (((List.length r35.1:Nat):Int)==1) ((gx r35.1 0).bind fun e38=>cond e38.1 ((gx r35.1 0).bind fun e39=>(law0_SameInts e39.2 (0::(t++b))).bind fun r40=>some r40) (some false)) (some false)) (some false)) (some false)) none) none))=some true:=fun h1 h2=>by
        rw[h1,show (q1.1 != 2)=true by simpa using h2]
        rfl
       have fin1:o=some ([(true,0::(t++b))],[],true,0,[])→q1.1=2→(o.bind fun r35=>cond (q1.1 != 2) ((law0_Num r35.2.2.2.1).bind fun r36=>cond (r36==0) (some (!r35.2.2.1)) (some false)) (cond (room (([0]:List Int).length+t.length) 8) (cond (room ((([0]:List Int)++t).length+b.length) 8) ((law0_Num r35.2.2.2.1).bind fun r37=>cond (r37==0) (cond r35.2.2.1 (cond (((List.length r35.1:Nat):Int)==1) ((gx r35.1 0).bind fun e38=>cond e38.1 ((gx r35.1 0).bind fun e39=>(law0_SameInts e39.2 (0::(t++b))).bind fun r40=>some r40) (some false)) (some false)) (some false)) (some false)) none) none))=some true:=fun h1 h2=>by
        rw[h1,h2,rm _ l3,rm _ l5]
        show ((law0_SameInts (0::(t++b)) (0::(t++b))).bind fun r40=>some r40)=_
        rw[law0_SameInts_eq (by simp only[List.length_cons,List.length_append]; unfold maxLen; omega),decide_eq_true rfl]
        rfl
       simp only[rm _ l3,rm _ l5,cond_true,hnum,Option.bind_some] at fin0 fin1
       have goal:(o=failR 0∧q1.1≠2)∨(o=some ([(true,0::(t++b))],[],true,0,[])∧q1.1=2):=by
        have cls:∀ r∈rowsOf [(true,0::(t++a))] [] [],Closed r:=fun r hr=>by
         rw[List.mem_singleton.1 (show r∈[0::(t++a)] from hr)]; exact cta
        have cls0:∀ r∈rowsOf [(false,0::(a++b))] [] [],Closed r:=fun r hr=>by
         rw[List.mem_singleton.1 (show r∈[0::(a++b)] from hr)]; exact cab
        rcases o3 with ⟨v,hv,hv0,-⟩ | ⟨v,b',c',us,-,-,-,htop,e5,hus,⟨-,x,hx,-⟩ | ⟨-,t',x,y,ht',e6,e7,-,-,o4⟩⟩
        ·have:=cta v (List.mem_of_getElem? hv)
         omega
        ·exact (closed_no cls x hx).elim
        ·have hb0:b'=0:=by
          rcases htop.2 with h | h
          ·omega
          ·exact (closed_no cls0 _ h).elim
         subst hb0
         injection e5 with e5 e5'
         have hc0:c'=0:=by omega
         subst hc0
         rw[show Tm.up 0=id from funext Tm.up_zero,List.map_id,← e5',List.append_assoc] at e6
         obtain⟨rfl,e8⟩:=List.append_inj e6 (show t.length=x.length by omega)
         have k1:=sk_more y (t'.sk_codes ht')
         rw[← e8,hA,fr.sk_codes ok0] at k1
         injection k1 with k1
         rw[hA] at e8
         obtain⟨e9,e10⟩:=List.append_inj (show fr.codes++[]=t'.codes++y by simpa using e8) k1
         have hts:fr=t':=by
          have:=codesR_inj _ [fr] [t'] (Nat.le_refl _) ⟨ok0,trivial⟩ ⟨ht',trivial⟩ (by rw[← codes_one,← codes_one]; exact e9)
          injection this
         subst hts
         rcases o4 with ⟨-,hno⟩ | ⟨σ,hm,-,o5⟩
         ·exact (hno _ (mgu_same fr).sol).elim
         ·have hσ:=hm.unique (mgu_same fr)
          subst hσ
          rw[Tm.sub_v,Tm.sub_v] at o5
          rcases o5 with ⟨-,hsh | hlong | hlong⟩ | ⟨-,-,-,k,hk,o6⟩
          ·exact absurd hsh (by decide)
          ·omega
          ·omega
          ·rw[hA,hB,hk] at hq1
           injection hq1 with hq1
           have hk1:q1.1=k:=by rw[← hq1]
           obtain⟨k',-,m1,m2,-⟩:=compare_codes hsb ok0 ok1 lens.1 lens.2.1
           rw[hk] at m1
           injection m1 with m1
           have hkk:k=k':=by injection m1
           rcases o6 with ⟨h1,h2⟩ | ⟨h1,h2⟩
           ·exact .inl ⟨h1,by omega⟩
           ·have hne:k≠3:=fun h3=>cmp_closed hs ok0 ok1 (by omega) (by omega) (by rw[← hA]; exact ca) (by rw[← hB]; exact cb) (by rw[m2,← hkk,h3])
            refine .inr ⟨?_,by omega⟩
            rw[h1,← e10]
            have hat:atomB a0 (0::(t++b))=true:=by
             have:=atomT_mk (a0:=a0) (c:=0) (ts:=[d0,to]) (e:=equalsQ) ⟨okd0,ok1,trivial⟩ hs.eq rfl rfl (by
              simp only[codesR,List.append_nil,List.length_append]
              rw[← hT,← hB]; exact h48) hsb
             rw[hT,hB]
             simpa[codesR] using this
            have e11:without 0 [((false,0::(a++b)):QLit)] 0++(upLs ((0:Nat):Int) [(true,0::(t++a))]).set (Int.toNat 0) (true,((0:Nat):Int)::(t++to.codes++[]))=[(true,0::(t++b))]:=by
             rw[List.append_nil,← hB]
             rfl
            rw[e11]
            unfold resOut
            rw[show subLs Tm.v [(true,0::(t++b))]=[(true,0::(t++b))] by unfold subLs; simp only[List.map_cons,List.map_nil,subCs_v],show (bothT 0 [] []).map (subCs Tm.v)=[] from rfl,show subLs Tm.v (bothC 0 [] [])=[] from rfl,may_of_atom hat hsb,cond_true,normC_one ctb]
       rcases goal with ⟨h1,h2⟩ | ⟨h1,h2⟩
       ·exact fin0 h1 h2
       ·exact fin1 h1 h2
      ·rw[g1]
       rfl
     ·rw[g0]
      rfl
    ·rw[decide_eq_true (show ((t.length+b.length:Nat):Int)>48 by omega)]
     rfl
theorem paraGround_plain (x:List QSym×List Int×List Int×List Int×Int) (h:wtL [.sl tSym,.sl (.one (.int .i64)),.sl (.one (.int .i64)),.sl (.one (.int .i64)),.int .i64] x≤1048576):law15_ParaGround x.1 x.2.1 x.2.2.1 x.2.2.2.1 x.2.2.2.2=some true:=by
 have h:Go.Abs.wt (.sl tSym) x.1+(Go.Abs.wt (.sl (.one (.int .i64))) x.2.1+(Go.Abs.wt (.sl (.one (.int .i64))) x.2.2.1+(Go.Abs.wt (.sl (.one (.int .i64))) x.2.2.2.1+Go.Abs.wt (.int .i64) x.2.2.2.2)))≤1048576:=h
 have l1:=wt_ints x.2.1
 have l2:=wt_ints x.2.2.1
 have l3:=wt_ints x.2.2.2.1
 exact law15_ParaGround_true _ _ _ _ _ (by omega) (by omega) (by omega)
end
end Go.Abs.Q
