import Derived.Test.YtgjajclncfhidaaGreatDoorQb
/-
  What the functions make of plain values, and what the law says of that.
-/
open Bool renaming and_eq_true -> ay, and_false -> cA, and_self -> cY, false_and -> bp, not_false -> bN, not_true -> az, true_and -> aO
open Eq renaming symm -> fH, trans -> ik
open Go.IntKind renaming wrap -> ag
open Int renaming eq_ofNat_of_zero_le -> de, tmod -> ez, toNat -> bb, toNat_natCast -> bh, toNat_of_nonneg -> cI
open List renaming all_cons -> ce, all_eq_true -> aH, append_assoc -> aU, append_nil -> bG, drop -> ep, drop_eq_getElem_cons -> aY, drop_eq_nil_of_le -> cD, drop_left -> ek, drop_zero -> bP, eq_nil_of_length_eq_zero -> aZ, filter_cons_of_neg -> cP, filter_cons_of_pos -> dc, filter_eq_self -> fL, find?_cons -> d6, flatMap_cons -> bt, foldl_append -> eU, getD_eq_getElem?_getD -> aG, getElem?_cons_zero -> aB, getElem?_eq_getElem -> am, getElem?_eq_some_iff -> au, getElem?_map -> br, getElem?_replicate -> bA, getElem?_set_self -> bH, length -> aa, length_append -> al, length_cons -> ak, length_filter_le -> dJ, length_map -> aL, length_nil -> bc, length_set -> bX, length_take -> cG, map -> c5, map_append -> dg, map_congr_left -> bY, map_cons -> aN, map_map -> cK, mem_append -> aI, mem_append_left -> bM, mem_append_right -> bW, mem_cons -> aC, mem_cons_of_mem -> ai, mem_cons_self -> aj, mem_map -> aX, mem_map_of_mem -> bl, mem_of_getElem? -> aP, mem_range -> ck, mem_singleton -> ba, nil_append -> bj, pairwise_cons -> cz, range -> aJ, replicate -> ax, set -> bn, sum_cons -> cB, take -> er, take_left' -> gq
open List.Pairwise renaming sublist -> gS
open Nat renaming beq -> aA, beq_refl -> cH, le_refl -> aE, le_trans -> aV, lt_of_le_of_lt -> co, reduceAdd -> gH, zero_add -> aR, zero_le -> bK
open Ne renaming symm -> dN
open Option renaming bind_eq_some_iff -> ah, bind_some -> af, getD -> bJ, getD_some -> bk, isNone -> cm, isNone_some -> cp, isSome_none -> cM, isSome_some -> dE, map_none -> gp, map_some -> bx
open Sum renaming inl -> aW, inr -> aF
namespace Go.Abs.Q
open Go Go.Abs
def Rr (bs:List (Int×List Int)) (c:Int):List (Int×List Int):=cond (decide (c<0)&&(sG bs (-1 - c)).isNone) (bs++[(-1 - c,[-1 - (bs.length:Int)])]) bs
def Rq (bs:List (Int×List Int)) (r:List Int):List (Int×List Int):=r.foldl Rr bs
theorem M9 (bs:List (Int×List Int)) (c:Int):(Rr bs c).length<=bs.length+1:=by
 unfold Rr;cases decide (c<0)&&(sG bs (-1 - c)).isNone<;>simp
theorem NX (r:List Int):(bs:List (Int×List Int))->(Rq bs r).length<=bs.length+r.length:=by
 unfold Rq
 induction r with
 | nil=>intro bs; simp
 | cons c r ih =>
  intro bs;have:=ih (Rr bs c);have:=M9 bs c;simp only[List.foldl_cons,ak];omega
theorem E9 {rows:List jI} {i:Nat} {r:List Int} (hr:rows[i]? = some r) (L:List zc) (T:List jI) (C:List zc) (hrl:r.length<=1000):∀(es:List Int) (j k:Nat) (bs:List (Int×List Int)),r.drop j=es->(∀ c∈es,-1000000<=c∧c<=1000000)->es.length<k->bs.length+es.length<=1000 ->
  lp vO k (rows,(i:Int),(j:Int),L,T,C,bs)=some (Rq bs es)
 | [],j,k,bs,hd,_,hk,_=>by
  obtain⟨k,rfl⟩:∃ k',k=k'+1:=⟨k - 1,by simp at hk; omega⟩
  rw[zx];generalize lp vO k=rec;unfold vO;have:=xL hd;rw[yE,hr,af,decide_eq_false (show ¬(j:Int)<((aa r:Nat):Int) by omega),cond_false]
  rfl
 | c::es,j,k,bs,hd,hc,hk,hb=>by
  obtain⟨k,rfl⟩:∃ k',k=k'+1:=⟨k - 1,by simp at hk; omega⟩
  simp only[ak] at hk hb;have hlt:=qg hd;have hc0:=hc c (aj ..);rw[zx];have key:=fun bs hb=>E9 hr L T C hrl es (j+1) k bs (zj hd) (fun c h=>hc c (ai _ h)) (by omega) hb
  generalize lp vO k=rec at key ⊢;unfold vO;have w1:ag .i64 ((j:Int)+1)=((j+1:Nat):Int):=by rw[zn]<;>omega
  have w2:ag .i64 ((-1) - c) = -1 - c:=by rw[zn]<;>omega
  have w3:ag .i64 ((-1) - ((aa bs:Nat):Int)) = -1 - (bs.length:Int):=by rw[zn]<;>omega
  simp only[yE,hr,af,zr hd,w1,w2,w3];rw[decide_eq_true (show (j:Int)<((aa r:Nat):Int) by omega),cond_true]
  show _=some (Rq (Rr bs c) es);unfold Rr;by_cases h0:c<0
  ·rw[decide_eq_true h0,cond_true,aO];rcases EQ (s:=bs) (by omega) (-1 - c) with ⟨h1,h2⟩ | ⟨q,e,h1,h2,h3⟩
   ·rw[h2,af,show decide ((-1:Int)<0)=true from rfl,cond_true,zm (by simp; omega),cond_true,key _ (by simp; omega),h1]
    rfl
   ·rw[h1,af,decide_eq_false (show ¬(q:Int)<0 by omega),cond_false,key _ (by omega),h3]
    rfl
  ·rw[decide_eq_false h0,cond_false,bp,cond_false,key _ (by omega)]
theorem MN {rows:List jI} (L:List zc) (T:List jI) (C:List zc) (hrows:∀ r∈rows,uW r):(es:List jI)->(i:Nat)->(bs:List (Int×List Int))->rows.drop i=es->bs.length+zi es<=1000 ->
  xJ rows L T C es i bs=some (es.foldl Rq bs)
 | [],_,_,_,_=>rfl
 | e::es,i,bs,hd,hb=>by
  have hg:=zr hd;have he:=hrows e (aP hg);have hs:zi (e::es)=e.length+zi es:=by simp [zi]
  unfold xJ;have:=E9 hg L T C he.1 e 0 zd bs rfl he.2 (by have:=he.1; unfold zd; omega) (by omega)
  rw[show ((0:Nat):Int)=0 from rfl] at this
  have hl:=NX e bs;rw[this,af,MN L T C hrows es (i+1) _ (zj hd) (by omega)]
  rfl
structure Rl (s:Jf) (bs:List (Int×List Int)):Prop where
 cnt:(bs.length:Int)=s.2
 at_:∀ v:Nat,sG bs (v:Int)=if s.1.getD v 0=0 then none else some [-(s.1.getD v 0)]
 one:∀ b∈bs,b.2.length=1
theorem IX (bs:List (Int×List Int)) (v w:Int) (t:List Int):sG (bs++[(v,t)]) w=match sG bs w with
  | some u=>some u
  | none=>cond (v==w) (some t) none:=by
 unfold sG;rw[List.find?_append];cases h:bs.find? fun b=>b.1==w with
 | some b=>rfl
 | none =>
  simp only[Option.none_or,d6,List.find?_nil,gp];cases v==w<;>rfl
theorem rl0:Rl (ax 24 (0:Int),0) [] where
 cnt:=rfl
 at_:=fun v=>by
  rw[if_pos]
  ·rfl
  ·show (ax 24 (0:Int)).getD v 0=0;rw[aG,bA];split<;>rfl
 one:=fun _ h=>(nomatch h)
theorem Rl.ok {s:Jf} {bs:List (Int×List Int)} (h:Rl s bs) (hI:RenI s):BindsOk bs where
 len:=by have:=h.cnt; have:=hI.next; omega
 all:=fun b hb=>by
  have:=h.one b hb;exact ⟨fun e=>by rw[e] at this; simp at this,by omega⟩
theorem Rl.step {s:Jf} {bs:List (Int×List Int)} (h:Rl s bs) (hI:RenI s) {c:Int} (hc : -24<=c):Rl (WR s c).2 (Rr bs c):=by
 unfold WR Rr;by_cases h0:c≥0
 ·rw[decide_eq_true h0,cond_true,decide_eq_false (show ¬ c<0 by omega),bp,cond_false]
  exact h
 ·rw[decide_eq_false h0,cond_false,decide_eq_true (show c<0 by omega),aO]
  obtain⟨v,rfl⟩:∃ v:Nat,c = -1 - (v:Int):=⟨(-1 - c).toNat,by omega⟩
  have e1:(-1 - (-1 - (v:Int)))=(v:Int):=by omega
  rw[e1,bh,h.at_ v];by_cases hz:s.1.getD v 0=0
  ·rw[if_pos hz,show (s.1.getD v 0==0)=true from by rw[hz]; rfl,cond_true,show (none:Option jI).isNone=true from rfl,cond_true]
   have hv:v<s.1.length:=by rw[hI.len]; omega
   have hcnt:=h.cnt;refine ⟨by show (((bs++[_]).length:Nat):Int)=s.2+1; rw[al,← hcnt]; simp,fun w => ?_,fun b hb => ?_⟩
   ·rw[IX,h.at_ w];show _=if (s.1.set v (s.2+1)).getD w 0=0 then none else some [-((s.1.set v (s.2+1)).getD w 0)]
    rw[tT hv];have hn:=hI.next;by_cases hw:w=v
    ·subst hw;rw[if_pos hz,if_pos rfl,if_neg (show ¬ s.2+1=0 by omega)]
     simp only[beq_self_eq_true,cond_true];rw[show -1 - (bs.length:Int) = -(s.2+1) from by omega]
    ·rw[if_neg hw];by_cases hz2:s.1.getD w 0=0
     ·rw[if_pos hz2];simp only;rw[show (((v:Nat):Int)==((w:Nat):Int))=false from by simp; omega]
      rfl
     ·rw[if_neg hz2]
   ·rcases aI.1 hb with hb | hb
    ·exact h.one b hb
    ·rw[ba.1 hb]; rfl
  ·rw[if_neg hz,show (s.1.getD v 0==0)=false from by simpa using hz,cond_false]
   exact h
theorem Rl.row:(r:List Int)->{s:Jf}->{bs:List (Int×List Int)}->Rl s bs->RenI s->(∀ c∈r,-24<=c)->Rl (sH s r).2 (Rq bs r)
 | [],_,_,h,_,_=>h
 | c::r,s,bs,h,hI,hc=>by
  have h1:=h.step hI (hc c (aj ..));exact Rl.row r h1 (I9 hI (hc c (aj ..))).1 fun d hd=>hc d (ai _ hd)
theorem Rl.lits:(ls:List zc)->{s:Jf}->{bs:List (Int×List Int)}->Rl s bs->RenI s->(∀ l∈ls,∀ c∈l.2,-24<=c)->Rl (wz s ls).2 ((ls.map (·.2)).foldl Rq bs)
 | [],_,_,h,_,_=>h
 | l::ls,s,bs,h,hI,hc=>by
  have h1:=h.row l.2 hI (hc l (aj ..));exact Rl.lits ls h1 (Yd l.2 hI (hc l (aj ..))).1 fun d hd=>hc d (ai _ hd)
theorem Rl.rows:(ls:List jI)->{s:Jf}->{bs:List (Int×List Int)}->Rl s bs->RenI s->(∀ l∈ls,∀ c∈l,-24<=c)->Rl (uY s ls).2 (ls.foldl Rq bs)
 | [],_,_,h,_,_=>h
 | l::ls,s,bs,h,hI,hc=>by
  have h1:=h.row l hI (hc l (aj ..));exact Rl.rows ls h1 (Yd l hI (hc l (aj ..))).1 fun d hd=>hc d (ai _ hd)
theorem JO {f:Jf} (hI:RenI f) {bs:List (Int×List Int)} (h:Rl f bs):(r:List Int)->(∀ c∈r,-24<=c)->(∀ x,Eu r x->f.1.getD x.toNat 0≠0)->onB bs r=uX (fun v=>.v (rho f v)) r
 | [],_,_=>rfl
 | c::r,hc,hz=>by
  have ih:=JO hI h r (fun d hd=>hc d (ai _ hd)) fun x ⟨d,hd,h1⟩=>hz x ⟨d,ai _ hd,h1⟩;have hc0:=hc c (aj ..);unfold onB uX at ih ⊢;rw[bt,bt,ih]
  congr 1
  unfold onC j5;by_cases h0:c≥0
  ·rw[decide_eq_true h0,cond_true,if_neg (by omega)]
  ·rw[decide_eq_false h0,cond_false,if_pos (by omega)]
   obtain⟨v,rfl⟩:∃ v:Nat,c = -1 - (v:Int):=⟨(-1 - c).toNat,by omega⟩
   have e1:(-1 - (-1 - (v:Int)))=(v:Int):=by omega
   have hv:=hz (v:Int) ⟨_,aj ..,by omega,by omega⟩
   rw[bh] at hv;rw[e1,h.at_ v,if_neg hv,bh];have:=hI.rng v;unfold rho;show [-(f.1.getD v 0)]=[-1 - (((f.1.getD v 0).toNat - 1:Nat):Int)]
   congr 1
   omega
theorem To {L:List zc} {T:List jI} {C:List zc} (hc:∀ r∈yd L T C,Cds r) (hl:L.length<=100) (ht:T.length<=100) (hcl:C.length<=100) (hsum:zi (L.map (·.2))+zi T+zi (C.map (·.2))<=1000):Kv L T C=some (uV L T C):=by
 have cL:∀ l∈L,Cds l.2:=fun l h=>hc _ (yH h);have cT:∀ l∈T,Cds l:=fun l h=>hc _ (qX h);have cC:∀ l∈C,Cds l.2:=fun l h=>hc _ (qS h);have mL:∀ l,l∈zS L []↔l∈L:=fun l=>by simpa using q7 (x:=l) L []
 have mT:∀ l,l∈zS T []↔l∈T:=fun l=>by simpa using q7 (x:=l) T []
 have mC:∀ l,l∈zS C []↔l∈C:=fun l=>by simpa using q7 (x:=l) C []
 have lL:=wo L [];have lT:=wo T [];have lC:=wo C [];simp only[bc,aR] at lL lT lC;have big:∀ r:List Int,Cds r->r.length<=1000000:=fun r h=>by have:=h.1; omega
 unfold Kv;rw[F3 (fun l h=>big _ (cL l h)) (by omega),af,F3 (fun l h=>big _ (cC l h)) (by omega),af,
  QG _ _ _ _ _ _ (by unfold maxLen; omega),DN (fun l h=>big _ (cT l h)) T 0 [] rfl (fun _ h=>(nomatch h)) (by simp; omega),af]
 simp only;rw[Yi _ _ _ (by omega) (by omega) (by omega),af]
 have nr:∀ r∈(zS L []).map (·.2)++zS T []++(zS C []).map (·.2),Cds r:=fun r hr=>by
  rcases aI.1 hr with hr | hr
  ·rcases aI.1 hr with hr | hr
   ·obtain⟨l,hl,rfl⟩:=aX.1 hr; exact cL l ((mL l).1 hl)
   ·exact cT r ((mT r).1 hr)
  ·obtain⟨l,hl,rfl⟩:=aX.1 hr; exact cC l ((mC l).1 hl)
 have sL:zi ((zS L []).map (·.2))<=zi (L.map (·.2)):=by
  have:=Zg (fun l:zc=>l.2.length) L [];have h4:(([]:List zc).map (fun l:zc=>l.2.length)).sum=0:=rfl;rw[h4,aR] at this;unfold zi;rw[cK,cK];exact this
 have sC:zi ((zS C []).map (·.2))<=zi (C.map (·.2)):=by
  have:=Zg (fun l:zc=>l.2.length) C [];have h4:(([]:List zc).map (fun l:zc=>l.2.length)).sum=0:=rfl;rw[h4,aR] at this;unfold zi;rw[cK,cK];exact this
 have sT:zi (zS T [])<=zi T:=by
  have:=Zg aa T [];unfold zi;simpa using this
 rw[QJ _ _ _ _ _ (by simp only[al,aL]; unfold maxLen; omega),MN _ _ _ (fun r hr=>(nr r hr).near) _ 0 [] bP (by rw[wk,wk]; simp only[bc]; omega),af,eU,eU]
 -- the numbering
 obtain⟨a1,a2,a3,a4⟩:=jt (zS L []) zcK fun l hl=>fun c h=>((cL l ((mL l).1 hl)).2 c h).1;obtain⟨b1,b2,b3,b4⟩:=XH (zS T []) a1 fun l hl=>fun c h=>((cT l ((mT l).1 hl)).2 c h).1;obtain⟨c1,c2,c3,c4⟩:=jt (zS C []) b1 fun l hl=>fun c h=>((cC l ((mC l).1 hl)).2 c h).1;have r1:=rl0.lits (zS L []) zcK fun l hl=>fun c h=>((cL l ((mL l).1 hl)).2 c h).1;have r2:=r1.rows (zS T []) a1 fun l hl=>fun c h=>((cT l ((mT l).1 hl)).2 c h).1;have r3:=r2.lits (zS C []) b1 fun l hl=>fun c h=>((cC l ((mC l).1 hl)).2 c h).1;have nz1:∀ x,jH ((zS L []).map (·.2)) x->(wz (uY (wz (ax 24 0,0) (zS L [])).2 (zS T [])).2 (zS C [])).2.1.getD x.toNat 0≠0:=fun x hx=>by
  have:=a3 x hx;rw[c2 _ (by rw[b2 _ this]; exact this),b2 _ this]
  exact this
 have nz2:∀ x,jH (zS T []) x->(wz (uY (wz (ax 24 0,0) (zS L [])).2 (zS T [])).2 (zS C [])).2.1.getD x.toNat 0≠0:=fun x hx=>by
  have:=b3 x hx;rw[c2 _ this];exact this
 rw[Dm (r3.ok c1) (fun l h=>(cL l ((mL l).1 h)).near) (fun l h=>(cT l ((mT l).1 h)).near) (fun l h=>(cC l ((mC l).1 h)).near) (by omega) (by omega) (by omega),af]
 unfold uV Uu;rw[a4 _ (b2.trans c2),b4 _ c2,c4 _ (ExtS.refl _)];have eL:KB _ (zS L [])=vL _ (zS L []):=bY fun l h=>by
  show (l.1,_)=(l.1,_);rw[JO c1 r3 l.2 (fun c hh=>((cL l ((mL l).1 h)).2 c hh).1) fun x hx=>nz1 x ⟨_,bl h,hx⟩]
 have eT:Et _ (zS T [])=(zS T []).map _:=bY fun l h=>JO c1 r3 l (fun c hh=>((cT l ((mT l).1 h)).2 c hh).1) fun x hx=>nz2 x ⟨_,h,hx⟩;have eC:KB _ (zS C [])=vL _ (zS C []):=bY fun l h=>by
  show (l.1,_)=(l.1,_);rw[JO c1 r3 l.2 (fun c hh=>((cC l ((mC l).1 h)).2 c hh).1) fun x hx=>c3 x ⟨_,bl h,hx⟩]
 rw[eL,eT,eC]
theorem TopV.unique {rs:List jI} {m m':Int} (h:TopV rs m) (h':TopV rs m') (h0:0<=m) (h0':0<=m'):m=m':=by
 have a:m'<=m:=by
  rcases h'.2 with e | e
  ·omega
  ·have:=h.1 _ e; omega
 have b:m<=m':=by
  rcases h.2 with e | e
  ·omega
  ·have:=h'.1 _ e; omega
 omega
def upB (b:Nat) (vs:List Nat):List (Int×List Int):=vs.map fun v:Nat=>((v:Int),[-1 - (v:Int) - (b:Int)])
theorem JD {b:Nat} (hb:b<=24):(vs:List Nat)->(bs:List (Int×List Int))->(∀ v∈vs,v<24)->bs.length+vs.length<=1000->y9 (b:Int) (vs.map fun v:Nat=>(v:Int)) bs=some (cond (vs.all fun v=>decide (v+b<=23)) (.inl (bs++upB b vs)) (.inr false))
 | [],bs,_,_=>by simp [y9,upB]
 | v::vs,bs,h,hl=>by
  have hv:=h v (aj ..);simp only[ak] at hl;rw[aN];unfold y9;have w1:ag .i64 ((v:Int)+(b:Int))=(v:Int)+(b:Int):=by rw[zn]<;>omega
  have w2:ag .i64 ((-1) - (v:Int)) = -1 - (v:Int):=by rw[zn]<;>omega
  have w3:ag .i64 (-1 - (v:Int) - (b:Int)) = -1 - (v:Int) - (b:Int):=by rw[zn]<;>omega
  rw[w1,w2,w3,ce];by_cases hvb:v+b<=23
  ·rw[decide_eq_false (show ¬(v:Int)+(b:Int)>23 by omega),cond_false,zm (by simp; omega),cond_true,JD hb vs _ (fun x hx=>h x (ai _ hx)) (by simp; omega),decide_eq_true hvb,aO]
   simp [upB]
  ·rw[decide_eq_true (show (v:Int)+(b:Int)>23 by omega),cond_true,decide_eq_false hvb]
   rfl
theorem VQ {α β:Type} (f:α->β):(r:List α)->(g:α->List β)->(∀ c∈r,g c=[f c])->r.flatMap g=r.map f
 | [],_,_=>rfl
 | c::r,g,h=>by rw[bt,h c (aj ..),VQ f r g fun d hd=>h d (ai _ hd)]; rfl
theorem AN (b:Nat) (v:Nat):(vs:List Nat)->v∈vs->sG (upB b vs) (v:Int)=some [-1 - (v:Int) - (b:Int)]
 | [],h=>(nomatch h)
 | w::vs,h=>by
  have ih:=AN b v vs;unfold sG upB at ih ⊢;rw[aN,d6];by_cases hw:w=v
  ·subst hw;simp
  ·rw[show (((w:Nat):Int)==((v:Nat):Int))=false from by simp; omega]
   rcases aC.1 h with h | h
   ·exact absurd h.symm hw
   ·exact ih h
theorem P1 {b:Nat} {vs:List Nat} {r:List Int} (h:∀ x,Eu r x->0<=x∧x.toNat∈vs):onB (upB b vs) r=r.map (upC (b:Int)):=by
 unfold onB;refine VQ _ r _ fun c hc => ?_;unfold onC upC;by_cases h0:c<0
 ·obtain⟨h1,h2⟩:=h (-1 - c) ⟨c,hc,h0,rfl⟩;have:=AN b (-1 - c).toNat vs h2;rw[cI h1] at this;rw[decide_eq_false (show ¬ c≥0 by omega),cond_false,this,decide_eq_true h0,cond_true]
  show [_]=[_]
  congr 1
  omega
 ·rw[decide_eq_true (show c≥0 by omega),cond_true,decide_eq_false h0,cond_false]
theorem U8 (b:Nat) (vs:List Nat) (h:vs.length<=1000):BindsOk (upB b vs) where
 len:=by unfold upB; rw[aL]; exact h
 all:=fun q hq=>by
  obtain⟨v,-,rfl⟩:=aX.1 hq;exact ⟨by simp,by simp⟩
theorem DL {a0:List zh} (_hs:SignOk a0) {L:List zc} {T:List jI} {C:List zc} (h:wm a0 L T C=true):L.length<=5∧T.length<=3∧C.length<=3∧zi (L.map (·.2))+zi T+zi (C.map (·.2))<=1000:=by
 obtain⟨-,h1,h2,h3,-,-,-,h7⟩:=zK h;exact ⟨h1,h2,h3,by omega⟩
theorem Wo {a0:List zh} (hs:SignOk a0) {L:List zc} {T:List jI} {C:List zc} {L':List zc} {T':List jI} {C':List zc} (h:wm a0 L T C=true) (h':wm a0 L' T' C'=true) {b:Nat} (hb:b<=24) (htop:TopV (yd L T C) (b:Int)) :
  (rT L T C L' T' C'=some ([],[],false,[])∧∃ x,jH (yd L' T' C') x∧23<x+(b:Int)) ∨
  (rT L T C L' T' C'=some (rJ (b:Int) L',T'.map (c5 (upC (b:Int))),true,rJ (b:Int) C')∧∀ x,jH (yd L' T' C') x->x+(b:Int)<=23):=by
 obtain⟨l1,l2,l3,l4⟩:=DL hs h;obtain⟨m1,m2,m3,m4⟩:=DL hs h';have hcd:=j8 hs h';have hwm:∀ x,x∈(Y6 L T C).map (fun v:Nat=>(v:Int))↔jH (yd L T C) x:=fun x=>by
  constructor
  ·intro hx;obtain⟨v,hv,rfl⟩:=aX.1 hx;exact (Xo (QW v hv)).1 hv
  ·intro hx;have:=jV h hx;obtain⟨v,rfl⟩:∃ v:Nat,x=(v:Int):=⟨x.toNat,by omega⟩
   exact bl ((Xo (by omega)).2 hx)
 have hrise:Rise ((Y6 L T C).map fun v:Nat=>(v:Int)):=by
  have h1:(Y6 L T C).Pairwise (· < ·):=gS List.filter_sublist List.pairwise_lt_range;unfold Rise;rw[List.pairwise_map];exact h1.imp fun h=>by omega
 have hv':∀ x,jH (yd L' T' C') x->0<=x∧x.toNat∈Y6 L' T' C':=fun x hx=>by
  have:=jV h' hx;refine ⟨this.1,(Xo (by omega)).2 ?_⟩
  rw[cI this.1]; exact hx
 have hvl:(Y6 L' T' C').length<=24:=by
  have:=Gd _ (aJ 24) (Vm L' T' C') fun v hv=>ck.2 (QW v hv);simpa using this
 -- the last part, whatever the way to it
 have fin:∀ o:Option (List zc×List jI×Bool×List zc),o=((lp ww zd) ((b:Int),(Y6 L' T' C').map (fun v:Nat=>(v:Int)),0,L',T',C',([]:List (Int×List Int)))).bind (fun r27=>yl r27 (fun z28=>(sE z28 L' T' C').bind fun r29=>some (r29.1,r29.2.1,true,r29.2.2)) (fun z30=>some (([]:List zc),([]:List jI),z30,([]:List zc)))) ->
   (o=some ([],[],false,[])∧∃ x,jH (yd L' T' C') x∧23<x+(b:Int))∨(o=some (rJ (b:Int) L',T'.map (c5 (upC (b:Int))),true,rJ (b:Int) C')∧∀ x,jH (yd L' T' C') x->x+(b:Int)<=23):=by
  intro o ho;rw[ho,Yb _ _ _ _ _ _ (by rw[aL]; unfold maxLen; omega),JD hb _ [] QW (by simp; omega)]
  cases ha:(Y6 L' T' C').all fun v=>decide (v+b<=23) with
  | false =>
   refine .inl ⟨rfl,?_⟩;obtain⟨v,hv,hvb⟩:=List.all_eq_false.1 ha;have hvb:¬ v+b<=23:=by simpa using hvb
   exact ⟨(v:Int),(Xo (QW v hv)).1 hv,by omega⟩
  | true =>
   refine .inr ⟨?_,fun x hx => ?_⟩
   ·simp only[cond_true,af,u2,bj];rw[Dm (U8 b _ (by omega)) (fun l hl=>(hcd _ (yH hl)).near) (fun l hl=>(hcd _ (qX hl)).near) (fun l hl=>(hcd _ (qS hl)).near) (by omega) (by omega) (by omega),af]
    have eL:∀ ls:List zc,(∀ l∈ls,l.2∈yd L' T' C')->KB (upB b (Y6 L' T' C')) ls=rJ (b:Int) ls:=fun ls hls=>bY fun l hl=>by
     show (l.1,_)=(l.1,_);rw[P1 fun x hx=>hv' x ⟨_,hls l hl,hx⟩]
    have eT:Et (upB b (Y6 L' T' C')) T'=T'.map (c5 (upC (b:Int))):=bY fun l hl=>P1 fun x hx=>hv' x ⟨_,qX hl,hx⟩;rw[eL L' fun l hl=>yH hl,eL C' fun l hl=>qS hl,eT]
   ·obtain⟨h1,h2⟩:=hv' x hx;have:=aH.1 ha _ h2;have:x.toNat+b<=23:=by simpa using this
    omega
 unfold rT;rw[jd (by omega) (by omega) (by omega) (by omega),af]
 rcases ES hrise hwm with ⟨h1,h2⟩ | ⟨x,h1,h2,h3⟩
 ·have e0:(b:Int)=0:=htop.unique h2 (by omega) (by omega)
  rw[h1];refine fin _ ?_;rw[e0,show decide (((aa ([]:List Int):Nat):Int)>0)=false from rfl,cond_false,jd (by omega) (by omega) (by omega) (by omega),af]
 ·have hx0:0<=x:=by
   have:=(hwm x).1 (aP h1);exact (jV h this).1
  have hx24:=(jV h ((hwm x).1 (aP h1))).2;have e0:(b:Int)=x+1:=htop.unique h3 (by omega) (by omega)
  refine fin _ ?_;have hl24:((Y6 L T C).map fun v:Nat=>(v:Int)).length<=24:=by
   have:=Gd _ (aJ 24) (Vm L T C) fun v hv=>ck.2 (QW v hv);simpa using this
  generalize (Y6 L T C).map (fun v:Nat=>(v:Int))=ws at h1 h2 hl24 ⊢;have w1:ag .i64 (((aa ws:Nat):Int) - 1)=((ws.length - 1:Nat):Int):=by rw[zn]<;>omega
  have w2:ag .i64 (x+1)=(b:Int):=by rw[zn]<;>omega
  rw[decide_eq_true (show ((aa ws:Nat):Int)>0 by omega),cond_true,w1,zO (by omega),af,h1,af,jd (by omega) (by omega) (by omega) (by omega),af,w2]
theorem A0 {α:Type} (xs:List α) {i:Nat} (h:i<=xs.length):vI xs (some (i:Int)) none=some (xs.drop i):=by
 show slc xs (i:Int) (xs.length:Int)=some _;unfold slc;rw[decide_eq_true (show (0:Int)<=(i:Int) by omega),decide_eq_true (show (i:Int)<=(xs.length:Int) by omega),decide_eq_true (show (xs.length:Int)<=((xs.length:Nat):Int) by omega)]
 simp
theorem V0 {α:Type} (s:Nat):(es:List α)->(i:Nat)->s<i->zv (s:Int) es i=es
 | [],_,_=>rfl
 | e::es,i,h=>by
  show cond ((i:Int) != (s:Int)) (e::zv (s:Int) es (i+1)) (zv (s:Int) es (i+1))=_;rw[show ((i:Int) != (s:Int))=true from by simp; omega,cond_true,V0 s es (i+1) (by omega)]
theorem Za {α:Type} (s:Nat):(es:List α)->(i:Nat)->i<=s->s<i+es.length->zv (s:Int) es i=es.take (s - i)++es.drop (s - i+1)
 | [],i,h,h2=>by simp at h2; omega
 | e::es,i,h,h2=>by
  show cond ((i:Int) != (s:Int)) (e::zv (s:Int) es (i+1)) (zv (s:Int) es (i+1))=_;simp only[ak] at h2;by_cases he:i=s
  ·subst he;rw[show ((i:Int) != (i:Int))=false from by simp,cond_false,V0 i es (i+1) (by omega)]
   simp
  ·rw[show ((i:Int) != (s:Int))=true from by simp; omega,cond_true,Za s es (i+1) (by omega) (by omega)]
   rw[show s - i=(s - (i+1))+1 from by omega]
   rfl
theorem Wi {L:List zc} {i:Int} (h:yk L i=true) (hl:L.length<=1000):uZ L i=some (zv i L 0):=by
 unfold yk at h;simp only[ay,decide_eq_true_eq] at h;obtain⟨k,rfl⟩:∃ k:Nat,i=(k:Int):=⟨i.toNat,by omega⟩
 have w1:ag .i64 ((k:Int)+1)=((k+1:Nat):Int):=by rw[zn]<;>omega
 unfold uZ;rw[w1,JT L (by omega),af,zm (by simp; omega),cond_true,A0 L (by omega),af,zm (by simp; omega),cond_true,Za k L 0 (by omega) (by omega)]
 simp
theorem Nu {σ:Sb} (hsh:qO σ (aJ 24)=true) {L:List zc} {T:List jI} {C:List zc} (hL:∀ l∈L,Cds l.2) (hT:∀ r∈T,Cds r) (hC:∀ l∈C,Cds l.2) (h1:L.length<=1000) (h2:T.length<=1000) (h3:C.length<=1000) :
  sE (un σ) L T C=some (vL σ L,T.map (uX σ),vL σ C):=by
 rw[Dm (Y4 hsh) (fun l hl=>(hL l hl).near) (fun r hr=>(hT r hr).near) (fun l hl=>(hC l hl).near) h1 h2 h3,
  WZ fun l hl c hc=>((hL l hl).2 c hc).1,WZ fun l hl c hc=>((hC l hl).2 c hc).1,B0 fun r hr c hc=>((hT r hr).2 c hc).1]
theorem IV {a0:List zh} {σ:Sb} (hs:SignOk a0) (hsh:qO σ (aJ 24)=true) {L:List zc} {T:List jI} {C:List zc} (hL:∀ l∈L,Cds l.2) (hT:∀ r∈T,Cds r) (hC:∀ l∈C,Cds l.2) (h1:L.length<=1000) (h2:T.length<=1000) (h3:C.length<=1000) (k:Int) :
  ((jr a0 (un σ) L T C).bind fun r40=>cond (!r40.2.2.1) (wY k) (some (r40.1,r40.2.1,true,(0:Int),r40.2.2.2)))=ZJ a0 σ L T C k:=by
 unfold jr ZJ;rw[Nu hsh hL hT hC h1 h2 h3,af];simp only;rw[zY,af];cases hm:wm a0 (vL σ L) (T.map (uX σ)) (vL σ C) with
 | false=>rfl
 | true =>
  obtain⟨l1,l2,l3,l4⟩:=DL hs hm;rw[az,cond_false,To (j8 hs hm) (by omega) (by omega) (by omega) l4]
  rfl
theorem kp (L:List zc) (T:List jI) (C:List zc) (i:Int):rC L T C i=some (yk L i):=by
 unfold rC yk;by_cases h:i≥0
 ·rw[decide_eq_true h,cond_true,aO]
 ·rw[decide_eq_false h,cond_false,bp]
def tn (rec:(jS×jI×Int×Int)->Option Int) (x:(jS×jI×Int×Int)):Option Int :=
 cond (decide (x.2.2.2<((aa x.2.1:Nat):Int)))
 ((gx x.2.1 x.2.2.2).bind fun e4 =>
  cond (decide (e4<0))
  (rec (x.1,x.2.1,(ag .i64 (x.2.2.1+1)),(ag .i64 (x.2.2.2+1))))
  ((gx x.2.1 x.2.2.2).bind fun e5 =>
   (gx x.1 e5).bind fun e6 =>
   rec (x.1,x.2.1,(ag .i64 (x.2.2.1+e6.2.2.2)),(ag .i64 (x.2.2.2+1)))))
 (some x.2.2.1)
def YU (a0:jS) (a1:jI):Option Int :=
 ((lp tn zd) (a0,a1,0,0)).bind fun r8 =>
 some r8
def tu (rec:(jI×jI×Int×Int×Int)->Option Int) (x:(jI×jI×Int×Int×Int)):Option Int :=
 cond (decide (x.2.2.2.2<((aa x.2.1:Nat):Int)))
 ((gx x.2.1 x.2.2.2.2).bind fun e5 =>
  cond (e5==(ag .i64 ((-1) - x.2.2.1)))
  (rec (x.1,x.2.1,x.2.2.1,(ag .i64 (x.2.2.2.1 - 1)),(ag .i64 (x.2.2.2.2+1))))
  (rec (x.1,x.2.1,x.2.2.1,x.2.2.2.1,(ag .i64 (x.2.2.2.2+1)))))
 (some x.2.2.2.1)
def tf (rec:(jI×jI×Int×Int×Int)->Option Int) (x:(jI×jI×Int×Int×Int)):Option Int :=
 cond (decide (x.2.2.2.2<((aa x.1:Nat):Int)))
 ((gx x.1 x.2.2.2.2).bind fun e2 =>
  cond (e2==(ag .i64 ((-1) - x.2.2.1)))
  (rec (x.1,x.2.1,x.2.2.1,(ag .i64 (x.2.2.2.1+1)),(ag .i64 (x.2.2.2.2+1))))
  (rec (x.1,x.2.1,x.2.2.1,x.2.2.2.1,(ag .i64 (x.2.2.2.2+1)))))
 (some x.2.2.2.1)
def ub (rec:(jI×jI×Int)->Option (Unit⊕Bool)) (x:(jI×jI×Int)):Option (Unit⊕Bool) :=
 cond (decide (x.2.2<=23))
 (((lp tf zd) (x.1,x.2.1,x.2.2,0,0)).bind fun r7 =>
  ((lp tu zd) (x.1,x.2.1,x.2.2,r7,0)).bind fun r8 =>
  cond (decide (r8<0))
  (some (aF false))
  (rec (x.1,x.2.1,(ag .i64 (x.2.2+1)))))
 (some (aW ()))
def X3 (a0:jI) (a1:jI):Option Bool :=
 ((lp ub zd) (a0,a1,0)).bind fun r12 =>
 yl r12
 (fun _z13=>some true)
 (fun z14=>some z14)
def so (rf:((jS×jI×jI)->Option Bool)) (rec:(jS×jR×jR×Int)->Option (Unit⊕Bool)) (x:(jS×jR×jR×Int)):Option (Unit⊕Bool) :=
 cond (decide (x.2.2.2<((aa x.2.1:Nat):Int)))
 ((gx x.2.1 x.2.2.2).bind fun e20 =>
  (gx x.2.2.1 x.2.2.2).bind fun e21 =>
  (th e20 e21).bind fun r22 =>
  cond (!r22)
  ((gx x.2.1 x.2.2.2).bind fun e23 =>
   (gx x.2.2.1 x.2.2.2).bind fun e24 =>
   (rf (x.1,e23,e24)).bind fun r25 =>
   some (aF r25))
  (rec (x.1,x.2.1,x.2.2.1,(ag .i64 (x.2.2.2+1)))))
 (some (aW ()))
def Qu (rf:((jS×jI×jI)->Option Bool)) (a0:jS) (a1:jI) (a2:jI):Option Bool :=
 (YU a0 a1).bind fun r29 =>
 (YU a0 a2).bind fun r30 =>
 (X3 a1 a2).bind fun r31 =>
 cond (!r31)
 (some false)
 (cond (decide (r29<r30))
  (some false)
  (cond (decide (r29>r30))
   (cond (decide (r29>r30))
    (some true)
    ((gx a1 0).bind fun e32 =>
     (gx a2 0).bind fun e33 =>
     some (decide (e32>e33))))
   ((gx a1 0).bind fun e34 =>
    (gx a2 0).bind fun e35 =>
    cond (e34 != e35)
    (cond (decide (r29>r30))
     (some true)
     ((gx a1 0).bind fun e36 =>
      (gx a2 0).bind fun e37 =>
      some (decide (e36>e37))))
    ((vI a1 (some 1) none).bind fun y38 =>
     (ya a0 y38).bind fun r39 =>
     (vI a2 (some 1) none).bind fun y40 =>
     (ya a0 y40).bind fun r41 =>
     ((lp (so rf) zd) (a0,r39,r41,0)).bind fun r42 =>
     yl r42
     (fun _z43=>some false)
     (fun z44=>some z44)))))
def WG (rf:((jS×jI×jI)->Option Bool)):((jS×jI×jI)->Option Bool) :=
 fun (x:(jS×jI×jI))=>Qu rf x.1 x.2.1 x.2.2
def WM:((jS×jI×jI)->Option Bool):=fun _=>none
def QK (k:Nat):((jS×jI×jI)->Option Bool):=lpR WM WG k
def Kb (a0:jS) (a1:jI) (a2:jI):Option Bool:=(QK zd) (a0,a1,a2)
def rj (a0:jS) (a1:jI) (a2:jI):Option Int :=
 (th a1 a2).bind fun r4 =>
 cond r4
 (some 1)
 ((Kb a0 a1 a2).bind fun r5 =>
  cond r5
  (some 2)
  ((Kb a0 a2 a1).bind fun r6 =>
   cond r6
   (some 0)
   (some 3)))
def qz (s0:jS):List Int->Int->Option Int
 | [],s2=>some s2
 | e::es,s2 =>
  cond (decide (e<0))
  (qz s0 es (ag .i64 (s2+1)))
  ((gx s0 e).bind fun e6 =>
   qz s0 es (ag .i64 (s2+e6.2.2.2)))
theorem Y7 (s0:jS) (s1:jI) (s2:Int) (hl:aa s1<=maxLen):lp tn zd (s0,s1,s2,0)=qz s0 s1 s2:=xB tn (fun i s2=>(s0,s1,s2,i)) (fun es i s2=>qz s0 es s2) hl (fun r i s2 h=>by unfold tn qz; simp only[h,cond_false]) (fun r i s2 e es h g w k=>by unfold tn qz; simp only[h,cond_true,g,af,w,k]) s2
def yW (s2:Int):List Int->Int->Option Int
 | [],s3=>some s3
 | e::es,s3 =>
  cond (e==(ag .i64 ((-1) - s2)))
  (yW s2 es (ag .i64 (s3 - 1)))
  (yW s2 es s3)
theorem Y9 (s0:jI) (s1:jI) (s2:Int) (s3:Int) (hl:aa s1<=maxLen):lp tu zd (s0,s1,s2,s3,0)=yW s2 s1 s3:=xB tu (fun i s3=>(s0,s1,s2,s3,i)) (fun es i s3=>yW s2 es s3) hl (fun r i s3 h=>by unfold tu yW; simp only[h,cond_false]) (fun r i s3 e es h g w k=>by unfold tu yW; simp only[h,cond_true,g,af,w,k]) s3
def yS (s2:Int):List Int->Int->Option Int
 | [],s3=>some s3
 | e::es,s3 =>
  cond (e==(ag .i64 ((-1) - s2)))
  (yS s2 es (ag .i64 (s3+1)))
  (yS s2 es s3)
theorem Qb (s0:jI) (s1:jI) (s2:Int) (s3:Int) (hl:aa s0<=maxLen):lp tf zd (s0,s1,s2,s3,0)=yS s2 s0 s3:=xB tf (fun i s3=>(s0,s1,s2,s3,i)) (fun es i s3=>yS s2 es s3) hl (fun r i s3 h=>by unfold tf yS; simp only[h,cond_false]) (fun r i s3 e es h g w k=>by unfold tf yS; simp only[h,cond_true,g,af,w,k]) s3
def xM (rf:((jS×jI×jI)->Option Bool)) (s0:jS) (s2:jR):List jI->Nat->Option (Unit⊕Bool)
 | [],_i=>some (aW ())
 | e::es,i =>
  (gx s2 (i:Int)).bind fun e21 =>
  (th e e21).bind fun r22 =>
  cond (!r22)
  ((gx s2 (i:Int)).bind fun e24 =>
   (rf (s0,e,e24)).bind fun r25 =>
   some (aF r25))
  (xM rf s0 s2 es (i+1))
theorem Qn (rf:((jS×jI×jI)->Option Bool)) (s0:jS) (s1:jR) (s2:jR) (hl:aa s1<=maxLen):lp (so rf) zd (s0,s1,s2,0)=xM rf s0 s2 s1 0:=sV (so rf) (fun i=>(s0,s1,s2,i)) (fun es i=>xM rf s0 s2 es i) hl (fun r i h=>by unfold so xM; simp only[h,cond_false]) (fun r i e es h g w k=>by unfold so xM; simp only[h,cond_true,g,af,w,k])
theorem JU (a0:List zh):(es:List Int)->(s:Int)->qz a0 es s=ql a0 es s
 | [],_=>rfl
 | e::es,s=>by
  unfold qz ql;rw[JU a0 es]
  congr 1
  congr 1
  funext e6
  exact JU a0 es _
theorem BV (a0:List zh) {r:List Int} (h:r.length<=1000000):YU a0 r=Zr a0 r:=by
 unfold YU Zr;rw[Y7 _ _ _ (by unfold maxLen; omega),kF _ _ _ (by unfold maxLen; omega),JU]
def Xk (r:List Int) (v:Nat):Nat:=r.count (-1 - (v:Int))
theorem FA (r:List Int) (v:Nat):Xk r v<=r.length:=List.count_le_length
theorem QY (c:Int) (r:List Int) (v:Nat):Xk (c::r) v=Xk r v+cond (c == -1 - (v:Int)) 1 0:=by
 unfold Xk;rw[List.count_cons];cases c == -1 - (v:Int)<;>rfl
theorem JW {v:Nat} (hv:v<24):(es:List Int)->(s:Int) -> -1000000000<=s->s+es.length<=1000000000->yS (v:Int) es s=some (s+(Xk es v:Int))
 | [],s,_,_=>by simp [yS,Xk]
 | e::es,s,h0,h1=>by
  simp only[ak] at h1;unfold yS;have w1:ag .i64 ((-1) - (v:Int)) = -1 - (v:Int):=by rw[zn]<;>omega
  have w2:ag .i64 (s+1)=s+1:=by rw[zn]<;>omega
  rw[w1,w2,QY];cases e == -1 - (v:Int) with
  | true=>rw[cond_true,cond_true,JW hv es _ (by omega) (by omega)]; congr 1; omega
  | false=>rw[cond_false,cond_false,JW hv es _ (by omega) (by omega)]; congr 1
theorem J9 {v:Nat} (hv:v<24):(es:List Int)->(s:Int) -> -1000000000<=s - es.length->s<=1000000000->yW (v:Int) es s=some (s - (Xk es v:Int))
 | [],s,_,_=>by simp [yW,Xk]
 | e::es,s,h0,h1=>by
  simp only[ak] at h0;unfold yW;have w1:ag .i64 ((-1) - (v:Int)) = -1 - (v:Int):=by rw[zn]<;>omega
  have w2:ag .i64 (s - 1)=s - 1:=by rw[zn]<;>omega
  rw[w1,w2,QY];cases e == -1 - (v:Int) with
  | true=>rw[cond_true,cond_true,J9 hv es _ (by omega) (by omega)]; congr 1; omega
  | false=>rw[cond_false,cond_false,J9 hv es _ (by omega) (by omega)]; congr 1
def Xq (a b:List Int) (vs:List Nat):Bool:=vs.all fun v=>decide (Xk b v<=Xk a v)
theorem Ob {a b:List Int} (ha:a.length<=1000000) (hb:b.length<=1000000):∀(m v k:Nat),24 - v=m->v<=24->m<k->lp ub k (a,b,(v:Int))=some (cond (Xq a b ((aJ 24).drop v)) (.inl ()) (.inr false)):=by
 intro m
 induction m with
 | zero =>
  intro v k hm hv hk;obtain⟨k,rfl⟩:∃ k',k=k'+1:=⟨k - 1,by omega⟩
  rw[zx];generalize lp ub k=rec;unfold ub;have:v=24:=by omega
  subst this;rw[show (aJ 24).drop 24=[] from rfl]
  rfl
 | succ m ih =>
  intro v k hm hv hk;obtain⟨k,rfl⟩:∃ k',k=k'+1:=⟨k - 1,by omega⟩
  rw[zx];have key:=ih (v+1) k (by omega) (by omega) (by omega)
  generalize lp ub k=rec at key ⊢;unfold ub;have w1:ag .i64 ((v:Int)+1)=((v+1:Nat):Int):=by rw[zn]<;>omega
  have hdr:(aJ 24).drop v=v::(aJ 24).drop (v+1):=by
   rw[aY (by simp; omega)]
   simp
  have hca:=FA a v;have hcb:=FA b v;simp only[decide_eq_true (show (v:Int)<=23 by omega),cond_true,w1]
  rw[Qb _ _ _ _ (by unfold maxLen; omega),JW (by omega) a 0 (by omega) (by omega),af,Y9 _ _ _ _ (by unfold maxLen; omega),J9 (by omega) b _ (by omega) (by omega),af,key,hdr]
  unfold Xq;rw[ce];by_cases hc:Xk b v<=Xk a v
  ·rw[decide_eq_false (show ¬(0+(Xk a v:Int) - (Xk b v:Int)<0) by omega),cond_false,decide_eq_true hc,aO]
  ·rw[decide_eq_true (show 0+(Xk a v:Int) - (Xk b v:Int)<0 by omega),cond_true,decide_eq_false hc,bp,cond_false]
theorem Nc {a b:List Int} (ha:a.length<=1000000) (hb:b.length<=1000000):X3 a b=some (Xq a b (aJ 24)):=by
 unfold X3;have:=Ob ha hb 24 0 zd rfl (by omega) (by unfold zd; omega)
 rw[show ((0:Nat):Int)=0 from rfl,bP] at this
 rw[this];cases Xq a b (aJ 24)<;>rfl
theorem JN:(es:List Int)->(xs:List Int)->(∀ c∈es,-24<=c)->xs.length=24->(∀ v,v<24->0<=xs.getD v 0∧xs.getD v 0+es.length<=1000000000)->∃ ys,qh es xs=some ys∧ys.length=24∧∀ v,v<24->ys.getD v 0=xs.getD v 0+(Xk es v:Int)
 | [],xs,_,hl,_=>⟨xs,rfl,hl,fun v _=>by simp [Xk]⟩
 | c::es,xs,hc,hl,hb=>by
  have hc0:=hc c (aj ..);simp only[ak] at hb;unfold qh;by_cases h0:c<0
  ·obtain⟨u,rfl⟩:∃ u:Nat,c = -1 - (u:Int):=⟨(-1 - c).toNat,by omega⟩
   have hu:u<24:=by omega
   have hbu:=hb u hu;have hg:xs[u]? = some (xs.getD u 0):=by
    rw[aG,am (by omega)]
    rfl
   have w1:ag .i64 (xs.getD u 0+1)=xs.getD u 0+1:=by rw[zn]<;>omega
   rw[decide_eq_true h0,cond_true,qm (by omega) (by omega),af,show -1 - (-1 - (u:Int))=(u:Int) from by omega,zO hu,af,hg,af,af,hg,af,w1]
   obtain⟨ys,g1,g2,g3⟩:=JN es (xs.set u (xs.getD u 0+1)) (fun d hd=>hc d (ai _ hd)) (by rw[bX]; exact hl) (fun v hv=>by
    rw[tT (by omega)]
    have:=hb v hv;split<;>omega)
   refine ⟨ys,g1,g2,fun v hv => ?_⟩;rw[g3 v hv,tT (by omega),QY]
   by_cases hvu:v=u
   ·subst hvu;rw[if_pos rfl,show ((-1 - (v:Int)) == -1 - (v:Int))=true from by simp,cond_true]
    omega
   ·rw[if_neg hvu,show ((-1 - (u:Int)) == -1 - (v:Int))=false from by simp; omega,cond_false]
    omega
  ·rw[decide_eq_false h0,cond_false];obtain⟨ys,g1,g2,g3⟩:=JN es xs (fun d hd=>hc d (ai _ hd)) hl (fun v hv=>by have:=hb v hv; omega)
   refine ⟨ys,g1,g2,fun v hv => ?_⟩;rw[g3 v hv,QY,show (c == -1 - (v:Int))=false from by simp; omega,cond_false]
   omega
theorem B8 {r:List Int} (hl:r.length<=1000000) (hc:∀ c∈r,-24<=c):∃ ys,rK r=some ys∧ys.length=24∧∀ v,v<24->ys.getD v 0=(Xk r v:Int):=by
 have hz:∀ v,(ax 24 (0:Int)).getD v 0=0:=fun v=>by
  rw[aG,bA];split<;>rfl
 obtain⟨ys,g1,g2,g3⟩:=JN r (ax 24 (0:Int)) hc (by simp) (fun v _=>by rw[hz]; omega)
 refine ⟨ys,?_,g2,fun v hv=>by rw[g3 v hv,hz]; omega⟩
 unfold rK;rw[ZW _ _ (by unfold maxLen; omega),g1,af,g2]
 rfl
theorem Cn {a b xs ys:List Int} (hx:xs.length=24) (hy:ys.length=24) (gx:∀ v,v<24->xs.getD v 0=(Xk a v:Int)) (gy:∀ v,v<24->ys.getD v 0=(Xk b v:Int)):∀(m v k:Nat),24 - v=m->v<=24->m<k->lp xD k ((v:Int),xs,ys)=some (cond (Xq a b ((aJ 24).drop v)) (.inl ()) (.inr false)):=by
 intro m
 induction m with
 | zero =>
  intro v k hm hv hk;obtain⟨k,rfl⟩:∃ k',k=k'+1:=⟨k - 1,by omega⟩
  rw[zx];generalize lp xD k=rec;unfold xD;have:v=24:=by omega
  subst this;rw[show (aJ 24).drop 24=[] from rfl]
  rfl
 | succ m ih =>
  intro v k hm hv hk;obtain⟨k,rfl⟩:∃ k',k=k'+1:=⟨k - 1,by omega⟩
  rw[zx];have key:=ih (v+1) k (by omega) (by omega) (by omega)
  generalize lp xD k=rec at key ⊢;unfold xD;have w1:ag .i64 ((v:Int)+1)=((v+1:Nat):Int):=by rw[zn]<;>omega
  have hdr:(aJ 24).drop v=v::(aJ 24).drop (v+1):=by
   rw[aY (by simp; omega)]
   simp
  have h1:xs[v]? = some (Xk a v:Int):=by
   rw[← gx v (by omega),aG,am (by omega)]
   rfl
  have h2:ys[v]? = some (Xk b v:Int):=by
   rw[← gy v (by omega),aG,am (by omega)]
   rfl
  simp only[decide_eq_true (show (v:Int)<24 by omega),cond_true,w1,zO (show v<24 by omega),af,h1,h2]
  rw[key,hdr];unfold Xq;rw[ce];by_cases hc:Xk b v<=Xk a v
  ·rw[decide_eq_false (show ¬((Xk a v:Int)<(Xk b v:Int)) by omega),cond_false,decide_eq_true hc,aO]
  ·rw[decide_eq_true (show (Xk a v:Int)<(Xk b v:Int) by omega),cond_true,decide_eq_false hc,bp,cond_false]
theorem HH {a b:List Int} (ha:a.length<=1000000) (hb:b.length<=1000000) (ca:∀ c∈a,-24<=c) (cb:∀ c∈b,-24<=c):ky a b=some (Xq a b (aJ 24)):=by
 obtain⟨xs,h1,h2,h3⟩:=B8 ha ca;obtain⟨ys,g1,g2,g3⟩:=B8 hb cb;unfold ky;rw[h1,af,g1,af];have:=Cn (a:=a) (b:=b) h2 g2 h3 g3 24 0 zd rfl (by omega) (by unfold zd; omega)
 rw[show ((0:Nat):Int)=0 from rfl,bP] at this
 rw[show aA (aa (ax 24 (0:Int))) 24=true from by simp,cond_true,cond_true,this]
 cases Xq a b (aJ 24)<;>rfl
structure HF (a0:List zh) (a:List Int) (c:Int) (ts:List Tm):Prop where
 eq:a=c::za ts
 ok:okR a0 24 ts
 len:a.length<=1000
 low : -24<=c
 sym:0<=c->∃ e,gx a0 c=some e
theorem ED {a0:List zh} (hs:SignOk a0) {t:Tm} (ho:t.ok a0 24) (hl:t.codes.length<=1000):∃ c ts,HF a0 t.codes c ts∧(∀ d us u,u=t->u.codes=d::za us->True)∧xi ts<t.size:=by
 cases t with
 | v n =>
  have hn:n<24:=ho;exact ⟨-1 - (n:Int),[],⟨rfl,trivial,hl,by omega,fun h=>by omega⟩,fun _ _ _ _ _=>trivial,by simp [xi,Tm.size]⟩
 | f c as =>
  obtain⟨e,he,-⟩:=Az hs ho.1;exact ⟨(c:Int),as,⟨rfl,ho.2,hl,by omega,fun _=>⟨e,he⟩⟩,fun _ _ _ _ _=>trivial,by simp [Tm.size]⟩
mutual
theorem Tm.syms {a0:List zh} (hs:SignOk a0):(t:Tm)->t.ok a0 24->∀ c∈t.codes,-24<=c∧(0<=c->∃ e,gx a0 c=some e)
 | .v n,ho,c,hc=>by
  have hn:n<24:=ho;have hc:c = -1 - (n:Int):=by simpa[Tm.codes] using hc
  exact ⟨by omega,fun h=>by omega⟩
 | .f d as,ho,c,hc=>by
  rcases aC.1 (show c∈(d:Int)::za as from hc) with rfl | hc
  ·obtain⟨e,he,-⟩:=Az hs ho.1;exact ⟨by omega,fun _=>⟨e,he⟩⟩
  ·exact RQ hs as ho.2 c hc
theorem RQ {a0:List zh} (hs:SignOk a0):(ts:List Tm)->okR a0 24 ts->∀ c∈za ts,-24<=c∧(0<=c->∃ e,gx a0 c=some e)
 | [],_,_,hc=>by simp [za] at hc
 | t::ts,ho,c,hc=>by
  rcases aI.1 (show c∈t.codes++za ts from hc) with hc | hc
  ·exact Tm.syms hs t ho.1 c hc
  ·exact RQ hs ts ho.2 c hc
end
theorem HF.syms {a0:List zh} (hs:SignOk a0) {a:List Int} {c:Int} {ts:List Tm} (h:HF a0 a c ts):∀ d∈a,-24<=d∧(0<=d->∃ e,gx a0 d=some e):=fun d hd=>by
 rw[h.eq] at hd;rcases aC.1 hd with rfl | hd
 ·exact ⟨h.low,h.sym⟩
 ·exact RQ hs ts h.ok d hd
theorem Wk {a0:List zh}:(es:List Int)->(s:Int)->(∀ d∈es,-24<=d∧(0<=d->∃ e,gx a0 d=some e))->∃ r,ql a0 es s=some r
 | [],s,_=>⟨s,rfl⟩
 | e::es,s,h=>by
  unfold ql;have ih:=fun s=>Wk es s fun d hd=>h d (ai _ hd);by_cases h0:e<0
  ·rw[decide_eq_true h0]; exact ih _
  ·obtain⟨x,hx⟩:=(h e (aj ..)).2 (by omega)
   rw[decide_eq_false h0,cond_false,hx];exact ih _
theorem HF.sum {a0:List zh} (hs:SignOk a0) {a:List Int} {c:Int} {ts:List Tm} (h:HF a0 a c ts):∃ r,Zr a0 a=some r:=by
 have:=h.len;obtain⟨r,hr⟩:=Wk a 0 (h.syms hs);refine ⟨r,?_⟩;unfold Zr;rw[kF _ _ _ (by unfold maxLen; omega),hr]
 rfl
def Qg:List Tm->List Tm->Option (Tm×Tm)
 | t::ts,u::us=>if t.codes=u.codes then Qg ts us else some (t,u)
 | _,_=>none
theorem Kl:{ts us:List Tm}->{p:Tm×Tm}->Qg ts us=some p->p.1∈ts∧p.2∈us∧p.1.codes≠p.2.codes
 | [],_,_,h=>by cases h
 | _::_,[],_,h=>by cases h
 | t::ts,u::us,p,h=>by
  unfold Qg at h;split at h
  ·obtain⟨h1,h2,h3⟩:=Kl h;exact ⟨ai _ h1,ai _ h2,h3⟩
  ·rename_i hne;injection h with h;subst h;exact ⟨aj ..,aj ..,hne⟩
theorem VO:{ts us:List Tm}->ts.length=us.length->Qg ts us=none->za ts=za us
 | [],[],_,_=>rfl
 | [],_::_,h,_=>by simp at h
 | _::_,[],h,_=>by simp at h
 | t::ts,u::us,hl,h=>by
  unfold Qg at h;split at h
  ·rename_i he;show t.codes++za ts=u.codes++za us;rw[he,VO (by simpa using hl) h]
  ·cases h
theorem Ij {usA:List Tm} (hsm:∀ t∈usA,t.codes.length<=1000):(ts us:List Tm)->(i:Nat)->usA.drop i=us->ts.length=us.length->(∀ t∈ts,t.codes.length<=1000)->yL (usA.map Tm.codes) (ts.map Tm.codes) i=some (match Qg ts us with
  | none=>.inl ()
  | some p=>.inr (p.1.codes,p.2.codes))
 | [],[],i,_,_,_=>rfl
 | [],_::_,_,_,h,_=>by simp at h
 | _::_,[],_,_,h,_=>by simp at h
 | t::ts,u::us,i,hd,hl,hsmt=>by
  have hi:=qg hd;have hg:=zr hd;have ht:=hsmt t (aj ..);rw[aN];unfold yL Qg;rw[aL,decide_eq_true (show (i:Int)<(usA.length:Int) by omega),cond_true,yE,br,hg]
  simp only[bx,af];rw[vU (by unfold maxLen; omega),af]
  by_cases he:t.codes=u.codes
  ·rw[decide_eq_true he,az,cond_false,if_pos he];exact Ij hsm ts us (i+1) (zj hd) (by simpa using hl) fun t h=>hsmt t (ai _ h)
  ·rw[decide_eq_false he,bN,cond_true,if_neg he]
theorem Hg {a0:List zh} {rf:(List zh×List Int×List Int)->Option Bool} {usA:List Tm}:(ts us:List Tm)->(i:Nat)->usA.drop i=us->ts.length=us.length->(∀ t∈ts,t.codes.length<=1000)->xM rf a0 (usA.map Tm.codes) (ts.map Tm.codes) i=(match Qg ts us with
  | none=>some (.inl ())
  | some p=>(rf (a0,p.1.codes,p.2.codes)).bind fun r=>some (.inr r))
 | [],[],i,_,_,_=>rfl
 | [],_::_,_,_,h,_=>by simp at h
 | _::_,[],_,_,h,_=>by simp at h
 | t::ts,u::us,i,hd,hl,hsmt=>by
  have hg:=zr hd;have ht:=hsmt t (aj ..);rw[aN];unfold xM Qg;rw[yE,br,hg];simp only[bx,af];rw[Xc (by omega),af]
  by_cases he:t.codes=u.codes
  ·rw[decide_eq_true he,az,cond_false,if_pos he];exact Hg ts us (i+1) (zj hd) (by simpa using hl) fun t h=>hsmt t (ai _ h)
  ·rw[decide_eq_false he,bN,cond_true,if_neg he]
theorem AI {a0:List zh} (hs:SignOk a0) {t u:Tm} (ht:t.ok a0 24) (hu:u.ok a0 24) (hlt:t.codes.length<=1000) (hlu:u.codes.length<=1000):∃ c ts d us,HF a0 t.codes c ts∧HF a0 u.codes d us∧(c=d->ts.length=us.length):=by
 obtain⟨c,ts,h1,-,-⟩:=ED hs ht hlt;obtain⟨d,us,h2,-,-⟩:=ED hs hu hlu;have inj:∀{c c':Int} {r r':List Int},c::r=c'::r'->c=c'∧r=r':=fun h=>by injection h with a b; exact ⟨a,b⟩
 refine ⟨c,ts,d,us,h1,h2,fun hcd => ?_⟩;cases t with
 | v n =>
  obtain⟨e1,e2⟩:=inj (show (-1 - (n:Int))::[]=c::za ts from h1.eq)
  have e3:ts=[]:=uj (a0:=a0) _ ts [] (aE _) h1.ok trivial e2.symm;cases u with
  | v m =>
   obtain⟨-,e5⟩:=inj (show (-1 - (m:Int))::[]=d::za us from h2.eq)
   have e6:us=[]:=uj (a0:=a0) _ us [] (aE _) h2.ok trivial e5.symm;rw[e3,e6]
  | f q bs =>
   obtain⟨e4,-⟩:=inj (show (q:Int)::za bs=d::za us from h2.eq)
   omega
 | f p as =>
  obtain⟨e1,e2⟩:=inj (show (p:Int)::za as=c::za ts from h1.eq)
  have e3:as=ts:=uj (a0:=a0) _ as ts (aE _) ht.2 h1.ok e2;cases u with
  | v m =>
   obtain⟨e4,-⟩:=inj (show (-1 - (m:Int))::[]=d::za us from h2.eq)
   omega
  | f q bs =>
   obtain⟨e4,e5⟩:=inj (show (q:Int)::za bs=d::za us from h2.eq)
   have e6:bs=us:=uj (a0:=a0) _ bs us (aE _) hu.2 h2.ok e5;have hpq:p=q:=by omega
   subst hpq;have h3:=ht.1;have h4:=hu.1;rw[h3] at h4;injection h4 with h4;rw[← e3,← e6,h4]
theorem Nd {a0:List zh} (hs:SignOk a0):∀(n:Nat) (a b:List Int) (c d:Int) (ts us:List Tm),a.length<=n->HF a0 a c ts->HF a0 b d us->(c=d->ts.length=us.length)->a≠b->∀ k k',n<k->n<k' ->
  ∃(r:Bool) (z:Unit⊕Bool),QK k (a0,a,b)=some r∧lp te k' (a0,a,b)=some z∧yl z (fun _=>false) (fun x=>x)=r:=by
 intro n
 induction n with
 | zero =>
  intro a b c d ts us hn h;rw[h.eq] at hn;simp at hn
 | succ n ih =>
  intro a b c d ts us hn ha hb har hne k k' hk hk';obtain⟨k,rfl⟩:∃ q,k=q+1:=⟨k - 1,by omega⟩
  obtain⟨k',rfl⟩:∃ q,k'=q+1:=⟨k' - 1,by omega⟩
  show ∃ r z,Qu (QK k) a0 a b=some r∧_;rw[zx];have key:=fun a b c d ts us h1 h2 h3 h4 h5=>ih a b c d ts us h1 h2 h3 h4 h5 k k' (by omega) (by omega)
  generalize lp te k'=rec at key ⊢;have la:=ha.len;have lb:=hb.len;obtain⟨x,hx⟩:=ha.sum hs;obtain⟨y,hy⟩:=hb.sum hs;unfold Qu te;simp only;have hnn:nn a=some a:=by rw[ha.eq]; rfl
  rw[BV a0 (by omega),hx,af,BV a0 (by omega),hy,af,Nc (by omega) (by omega),af,hnn,af,af,bN,cond_true,
   HH (by omega) (by omega) (fun e he=>(ha.syms hs e he).1) (fun e he=>(hb.syms hs e he).1),af]
  cases Xq a b (aJ 24) with
  | false=>exact ⟨false,.inl (),rfl,rfl,rfl⟩
  | true =>
   rw[az,cond_false,cond_true];simp only[af];by_cases hxy:x=y
   ·subst hxy;rw[decide_eq_false (Int.lt_irrefl x),show (x != x)=false from by simp]
    simp only[cond_false];have ga:gx a 0=some c:=by rw[ha.eq]; rfl
    have gb:gx b 0=some d:=by rw[hb.eq]; rfl
    simp only[ga,gb,af];by_cases hcd:c=d
    ·subst hcd;have hl:=har rfl;rw[show (c != c)=false from by simp,cond_false,cond_false]
     have ea:=ha.eq;have eb:=hb.eq;have hlt:(za ts).length+1=a.length:=by rw[ea]; rfl
     have hlu:(za us).length+1=b.length:=by rw[eb]; rfl
     have sa:vI a (some 1) none=some (za ts):=by rw[ea]; exact wE _ _
     have sb:vI b (some 1) none=some (za us):=by rw[eb]; exact wE _ _
     have ct:∀ t∈ts,t.codes.length<=1000:=fun t h=>by have:=uz h; omega
     have cu:∀ t∈us,t.codes.length<=1000:=fun t h=>by have:=uz h; omega
     have cuts1:=yM ts ha.ok;have cuts2:=yM us hb.ok;have lts:=YY cuts1;have lus:=YY cuts2;rw[aL] at lts lus;have pa:=vd hs (a1:=za ts) (by omega) cuts1
     have pb:=vd hs (a1:=za us) (by omega) cuts2
     have ta:=uv hs (a1:=za ts) (by omega) cuts1
     have tb:=uv hs (a1:=za us) (by omega) cuts2
     unfold Yl;simp only[sa,sb,pa,pb,ta,tb,af];rw[ZV _ _ (by rw[aL]; unfold maxLen; omega),Ij cu ts us 0 rfl hl ct,af,
      Qn _ _ _ _ (by rw[aL]; unfold maxLen; omega),Hg ts us 0 rfl hl ct]
     cases hf:Qg ts us with
     | none =>
      exfalso;exact hne (by rw[ea,eb,VO hl hf])
     | some p =>
      obtain⟨q1,q2,q3⟩:=Kl hf;obtain⟨c1,ts1,d1,us1,f1,f2,f3⟩:=AI hs (wU.1 ha.ok _ q1) (wU.1 hb.ok _ q2) (ct _ q1) (cu _ q2);have:=uz q1;obtain⟨r,z,g1,g2,g3⟩:=key p.1.codes p.2.codes c1 d1 ts1 us1 (by omega) f1 f2 f3 q3
      refine ⟨r,z,?_,g2,g3⟩;simp only;rw[g1];rfl
    ·rw[show (c != d)=true from by simp [hcd],cond_true,cond_true]
     exact ⟨decide (c>d),.inr (decide (c>d)),rfl,rfl,rfl⟩
   ·rw[show (x != y)=true from by simp [hxy],cond_true]
    by_cases hlt:x<y
    ·rw[decide_eq_true hlt,cond_true];refine ⟨false,.inr (decide (x>y)),rfl,rfl,?_⟩;rw[decide_eq_false (show ¬ x>y by omega)]
     rfl
    ·rw[decide_eq_false hlt,cond_false,decide_eq_true (show x>y by omega),cond_true]
     exact ⟨true,.inr true,rfl,rfl,rfl⟩
theorem MD {a0:List zh} (hs:SignOk a0) {a b:List Int} {c d:Int} {ts us:List Tm} (ha:HF a0 a c ts) (hb:HF a0 b d us) (har:c=d->ts.length=us.length) (hne:a≠b):∃ r,Kb a0 a b=some r∧xy a0 a b=some r:=by
 have la:=ha.len;obtain⟨r,z,h1,h2,h3⟩:=Nd hs a.length a b c d ts us (aE _) ha hb har hne zd zd (by unfold zd; omega) (by unfold zd; omega)
 refine ⟨r,h1,?_⟩;unfold xy;rw[h2,af,← h3];cases z<;>rfl
def XK (a0:List zh) (a b:List Int):Option (Int×Int) :=
 (yJ a b).bind fun r34=>cond r34 (some (1,0)) ((xy a0 a b).bind fun r35=>cond r35 (some (2,0)) ((xy a0 b a).bind fun r36=>cond r36 (some (0,0)) (some (3,0))))
theorem NN {a0:List zh} (hs:SignOk a0) {a b:List Int} {c d:Int} {ts us:List Tm} (ha:HF a0 a c ts) (hb:HF a0 b d us) (har:c=d->ts.length=us.length):∃ k,rj a0 a b=some k∧XK a0 a b=some (k,0):=by
 have la:=ha.len;unfold rj XK;rw[Xc (by omega),af,vU (by unfold maxLen; omega),af]
 by_cases he:a=b
 ·rw[decide_eq_true he]; exact ⟨1,rfl,rfl⟩
 ·rw[decide_eq_false he,cond_false,cond_false];obtain⟨r,h1,h2⟩:=MD hs ha hb har he;rw[h1,h2,af,af];cases r with
  | true=>exact ⟨2,rfl,rfl⟩
  | false =>
   obtain⟨r',g1,g2⟩:=MD hs hb ha (fun h=>(har h.symm).symm) (dN he);rw[cond_false,cond_false,g1,g2,af,af];cases r' with
   | true=>exact ⟨0,rfl,rfl⟩
   | false=>exact ⟨3,rfl,rfl⟩
theorem JR {a0:List zh} (hs:SignOk a0) {t u:Tm} (ht:t.ok a0 24) (hu:u.ok a0 24) (hlt:t.codes.length<=1000) (hlu:u.codes.length<=1000):∃ k,rj a0 t.codes u.codes=some k∧XK a0 t.codes u.codes=some (k,0):=by
 obtain⟨c,ts,d,us,h1,h2,h3⟩:=AI hs ht hu hlt hlu;exact NN hs h1 h2 h3
def Au (L:List zc) (T:List jI) (C:List zc):Prop:=wN L T C L T C=some true
theorem CT:Au [] [] []:=by
 unfold Au;exact sN (by simp) (by simp) (by simp) (by simp) (by simp) (by simp)
theorem WP {a0:List zh} {L:List zc} {T:List jI} {C:List zc} (h:wm a0 L T C=true):wm a0 (uV L T C).1 (uV L T C).2.1 (uV L T C).2.2=true:=by
 obtain⟨Lt,Tt,Ct,rfl,rfl,rfl,hL,hT,hC⟩:=NZ h;obtain⟨L1,T1,C1,ρ,e,-,-,-,hm,-⟩:=Bu h hL hT hC;rw[e];exact hm
def OkR (a0:List zh) (o:Option Vp):Prop:=∃ r,o=some r∧Au r.1 r.2.1 r.2.2.2.2∧(r.2.2.1=true->r.2.2.2.1=0->wm a0 r.1 r.2.1 r.2.2.2.2=true)
theorem qB {a0:List zh} {o:Option Vp} {k:Int} (h:o=wY k):OkR a0 o:=⟨_,h,CT,fun h=>by cases h⟩
theorem YQ {a0:List zh} {σ:Sb} {L:List zc} {T:List jI} {C:List zc} {k:Int}:OkR a0 (ZJ a0 σ L T C k):=by
 unfold ZJ;cases hm:wm a0 (vL σ L) (T.map (uX σ)) (vL σ C) with
 | true=>exact ⟨_,rfl,CV hm,fun _ _=>WP hm⟩
 | false=>exact qB rfl
theorem CQ (a0:List zh) (L:List zc) (T:List jI) (C:List zc) (i j:Int):OkR a0 (YM a0 L T C i j):=by
 unfold YM;rw[yB,af];cases hmay:wm a0 L T C with
 | false=>exact qB (k:=1400) rfl
 | true =>
  rw[az,cond_false,rO,af];cases hpi:yk L i with
  | false=>exact qB (k:=1400) rfl
  | true =>
   rw[az,cond_false,rO,af];cases hpj:yk L j with
   | false=>exact qB (k:=1400) rfl
   | true =>
    rw[az,cond_false];by_cases hij:i=j
    ·rw[show (i==j)=true from by simp [hij],cond_true]
     exact qB (k:=1400) rfl
    ·rw[show (i==j)=false from by simp [hij],cond_false]
     have eta:∀ o:Option Vp,(o.bind fun r=>some (r.1,r.2.1,r.2.2.1,r.2.2.2.1,r.2.2.2.2))=o:=fun o=>by cases o<;>rfl
     rw[eta];have hs:=v6 (zK hmay).1;obtain⟨⟨n,A⟩,hi⟩:=uw hpi;obtain⟨⟨n',A'⟩,hj⟩:=uw hpj;rcases VF hs hmay hi hj with ⟨k,r1⟩ | ⟨hnn,c,ts,us,σ,rfl,rfl,ho,ho',hll,hmgu,hok,r1⟩
     ·exact qB r1
     ·rw[r1];exact YQ
abbrev wX:=Int×Int×Int×Int×Int×Int×Int×List zc×List jI×List zc
section
variable {a0:List zh} {L:List zc} {T:List jI} {C:List zc} (hmay:wm a0 L T C=true)
include hmay
end
section
variable {a0:List zh} {L:List zc} {T:List jI} {C:List zc} (hmay:wm a0 L T C=true)
include hmay
end
def u3 (a0:jQ) (_a1:jR) (_a2:jQ) (a3:Int) (a4:Bool):Option Bool :=
 cond (decide (a3≥0))
 (cond (decide (a3<((aa a0:Nat):Int)))
  ((gx a0 a3).bind fun e4 =>
   (gx e4.2 0).bind fun e5 =>
   cond (e5==0)
   ((gx a0 a3).bind fun e6 =>
    some (e6.1==a4))
   (some false))
  (some false))
 (some false)
def tj (a0:jS) (a1:jQ) (a2:jR) (a3:jQ) (a4:jQ) (a5:jR) (a6:jQ):Option (Bool×jQ×jR×jQ) :=
 (qr a0 a1 a2 a3).bind fun r14 =>
 cond (decide (((aa r14.2:Nat):Int)>0))
 ((inR (ag .i64 (((aa r14.2:Nat):Int) - 1)) (aa r14.2)).bind fun k15 =>
  (r14.2[k15]?).bind fun x16 =>
  (qr a0 a4 a5 a6).bind fun r17 =>
  cond (decide (((aa r17.2:Nat):Int)>0))
  ((inR (ag .i64 (((aa r17.2:Nat):Int) - 1)) (aa r17.2)).bind fun k18 =>
   (r17.2[k18]?).bind fun x19 =>
   cond (decide ((ag .i64 (x19+(ag .i64 (x16+1))))>23))
   (some (false,([]:jQ),([]:jR),([]:jQ)))
   ((zH a4 a5 a6 (ag .i64 (x16+1))).bind fun r20 =>
    some (true,r20.1,r20.2.1,r20.2.2)))
  ((zH a4 a5 a6 (ag .i64 (x16+1))).bind fun r21 =>
   some (true,r21.1,r21.2.1,r21.2.2)))
 ((qr a0 a4 a5 a6).bind fun r22 =>
  cond (decide (((aa r22.2:Nat):Int)>0))
  ((inR (ag .i64 (((aa r22.2:Nat):Int) - 1)) (aa r22.2)).bind fun k23 =>
   (r22.2[k23]?).bind fun x24 =>
   cond (decide ((ag .i64 (x24+0))>23))
   (some (false,([]:jQ),([]:jR),([]:jQ)))
   ((zH a4 a5 a6 0).bind fun r25 =>
    some (true,r25.1,r25.2.1,r25.2.2)))
  ((zH a4 a5 a6 0).bind fun r26 =>
   some (true,r26.1,r26.2.1,r26.2.2)))
def uc (a0:jS) (a1:jI):Option jR :=
 (vI a1 (some 1) none).bind fun y3 =>
 (vR a0 y3).bind fun r4 =>
 some r4
def QA (a0:jS) (a1:jI) (a2:jI):Option Bool :=
 (v9 a0 a1 a2).bind fun r2 =>
 cond (r2.1 != 2)
 (some (r2.1 != 3))
 (some false)
def Yn (a0:jS) (a1:jI) (a2:Int) (a3:jI):Option jI :=
 (xE a0 a1 a2).bind fun r5 =>
 (vI a1 none (some a2)).bind fun y6 =>
 (vI a1 (some r5.1) none).bind fun y7 =>
 (wO ([y6,a3,y7]:List jI)).bind fun r8 =>
 some r8
def kn (a0:jS) (a1:jQ) (a2:jR) (a3:jQ) (a4:Int) (a5:Int) (a6:jQ) (a7:jR) (a8:jQ) (a9:Int) (a10:Int):Option (jQ×jR×Bool×Int×jQ) :=
 (gx a6 a9).bind fun e28 =>
 (gx e28.2 a10).bind fun e29 =>
 cond (decide (e29<0))
 (some (([]:jQ),([]:jR),false,0,([]:jQ)))
 ((tj a0 a1 a2 a3 a6 a7 a8).bind fun r30 =>
  cond (!r30.1)
  (some (([]:jQ),([]:jR),false,1501,([]:jQ)))
  ((gx a1 a4).bind fun e31 =>
   (uc a0 e31.2).bind fun r32 =>
   (inR a9 (aa r30.2.1)).bind fun k33 =>
   (r30.2.1[k33]?).bind fun x34 =>
   (xE a0 x34.2 a10).bind fun r35 =>
   (inR a5 (aa r32)).bind fun k36 =>
   (r32[k36]?).bind fun x37 =>
   (vI x34.2 (some a10) (some r35.1)).bind fun y38 =>
   (vQ a0 x37 y38).bind fun r39 =>
   cond (r39.2.1 != 0)
   (some (([]:jQ),([]:jR),false,1502,([]:jQ)))
   (cond (!r39.1)
    (some (([]:jQ),([]:jR),false,0,([]:jQ)))
    ((inR a5 (aa r32)).bind fun k40 =>
     (r32[k40]?).bind fun x41 =>
     (Zt r39.2.2 x41).bind fun r42 =>
     (inR (ag .i64 (1 - a5)) (aa r32)).bind fun k43 =>
     (r32[k43]?).bind fun x44 =>
     (Zt r39.2.2 x44).bind fun r45 =>
     cond (decide (((aa r42:Nat):Int)>48))
     (some (([]:jQ),([]:jR),false,1502,([]:jQ)))
     (cond (decide (((aa r45:Nat):Int)>48))
      (some (([]:jQ),([]:jR),false,1502,([]:jQ)))
      ((QA a0 r42 r45).bind fun r46 =>
       cond r46
       (some (([]:jQ),([]:jR),false,0,([]:jQ)))
       ((inR (ag .i64 (1 - a5)) (aa r32)).bind fun k47 =>
        (r32[k47]?).bind fun x48 =>
        (Yn a0 x34.2 a10 x48).bind fun r49 =>
        (inR a9 (aa r30.2.1)).bind fun k50 =>
        (r30.2.1[k50]?).bind fun x51 =>
        (wZ a1 a2 a3 a4 (bn r30.2.1 k50 (x51.1,r49)) r30.2.2.1 r30.2.2.2 (-1)).bind fun r52 =>
        (t6 r39.2.2 r52.2.1 r52.1 r52.2.2).bind fun r53 =>
        (qQ a0 r53.1 r53.2.1 r53.2.2).bind fun r54 =>
        cond (r54.2.2.1 != 0)
        (some (([]:jQ),([]:jR),false,1502,([]:jQ)))
        (some (r54.1,r54.2.1,true,0,r54.2.2.2)))))))))
def YK (a0:jS) (a1:jQ) (a2:jR) (a3:jQ) (a4:Int) (a5:Int) (a6:jQ) (a7:jR) (a8:jQ) (a9:Int) (a10:Int):Option (jQ×jR×Bool×Int×jQ) :=
 (qx a0 a1 a2 a3).bind fun r8 =>
 cond (!r8)
 (some (([]:jQ),([]:jR),false,1500,([]:jQ)))
 ((qx a0 a6 a7 a8).bind fun r9 =>
  cond (!r9)
  (some (([]:jQ),([]:jR),false,1500,([]:jQ)))
  ((u3 a1 a2 a3 a4 false).bind fun r10 =>
   cond (!r10)
   (some (([]:jQ),([]:jR),false,1500,([]:jQ)))
   (cond (a5 != 0)
    (cond (a5 != 1)
     (some (([]:jQ),([]:jR),false,1500,([]:jQ)))
     (cond (decide (a9<0))
      (some (([]:jQ),([]:jR),false,1500,([]:jQ)))
      (cond (decide (a9≥((aa a6:Nat):Int)))
       (some (([]:jQ),([]:jR),false,1500,([]:jQ)))
       (cond (decide (a10<1))
        (some (([]:jQ),([]:jR),false,1500,([]:jQ)))
        ((gx a6 a9).bind fun e11 =>
         cond (decide (a10≥((aa e11.2:Nat):Int)))
         (some (([]:jQ),([]:jR),false,1500,([]:jQ)))
         ((kn a0 a1 a2 a3 a4 a5 a6 a7 a8 a9 a10).bind fun r12 =>
          some (r12.1,r12.2.1,r12.2.2.1,r12.2.2.2.1,r12.2.2.2.2)))))))
    (cond (decide (a9<0))
     (some (([]:jQ),([]:jR),false,1500,([]:jQ)))
     (cond (decide (a9≥((aa a6:Nat):Int)))
      (some (([]:jQ),([]:jR),false,1500,([]:jQ)))
      (cond (decide (a10<1))
       (some (([]:jQ),([]:jR),false,1500,([]:jQ)))
       ((gx a6 a9).bind fun e13 =>
        cond (decide (a10≥((aa e13.2:Nat):Int)))
        (some (([]:jQ),([]:jR),false,1500,([]:jQ)))
        ((kn a0 a1 a2 a3 a4 a5 a6 a7 a8 a9 a10).bind fun r14 =>
         some (r14.1,r14.2.1,r14.2.2.1,r14.2.2.2.1,r14.2.2.2.2)))))))))
def tW (a0:jQ) (a1:jR) (a2:jQ) (a3:Int):Option Bool :=
 (rC a0 a1 a2 a3).bind fun r5 =>
 cond r5
 ((gx a0 a3).bind fun e6 =>
  cond (!e6.1)
  ((gx a0 a3).bind fun e7 =>
   (gx e7.2 0).bind fun e8 =>
   some (e8==0))
  (some false))
 (some false)
def ZC (a0:jI) (a1:Int) (a2:Int) (a3:jI):Option jI :=
 (vI a0 none (some a1)).bind fun y3 =>
 cond (yb (aa ([]:List Int)+aa y3) 8)
 (cond (yb (aa (([]:List Int)++y3)+aa a3) 8)
  ((vI a0 (some a2) none).bind fun y4 =>
   cond (yb (aa ((([]:List Int)++y3)++a3)+aa y4) 8)
   (some (((([]:List Int)++y3)++a3)++y4))
   (none))
  (none))
 (none)
def qd (a0:jS) (a1:jQ) (a2:jR) (a3:jQ) (a4:Int) (a5:Int) (a6:jQ) (a7:jR) (a8:jQ) (a9:Int) (a10:Int):Option (jQ×jR×Bool×Int×jQ) :=
 (YS a0 a1 a2 a3).bind fun r30 =>
 cond (!r30)
 (some (([]:jQ),([]:jR),false,1500,([]:jQ)))
 ((YS a0 a6 a7 a8).bind fun r31 =>
  cond (!r31)
  (some (([]:jQ),([]:jR),false,1500,([]:jQ)))
  ((tW a1 a2 a3 a4).bind fun r32 =>
   cond (!r32)
   (some (([]:jQ),([]:jR),false,1500,([]:jQ)))
   (cond (decide (a5<0))
    (some (([]:jQ),([]:jR),false,1500,([]:jQ)))
    (cond (decide (a5>1))
     (some (([]:jQ),([]:jR),false,1500,([]:jQ)))
     ((rC a6 a7 a8 a9).bind fun r33 =>
      cond (!r33)
      (some (([]:jQ),([]:jR),false,1500,([]:jQ)))
      (cond (decide (a10<1))
       (some (([]:jQ),([]:jR),false,1500,([]:jQ)))
       ((gx a6 a9).bind fun e34 =>
        cond (decide (a10≥((aa e34.2:Nat):Int)))
        (some (([]:jQ),([]:jR),false,1500,([]:jQ)))
        ((gx a6 a9).bind fun e35 =>
         (gx e35.2 a10).bind fun e36 =>
         cond (decide (e36<0))
         (some (([]:jQ),([]:jR),false,0,([]:jQ)))
         ((rT a1 a2 a3 a6 a7 a8).bind fun r37 =>
          cond (!r37.2.2.1)
          (some (([]:jQ),([]:jR),false,1501,([]:jQ)))
          ((gx a1 a4).bind fun e38 =>
           (vI e38.2 (some 1) none).bind fun y39 =>
           (ya a0 y39).bind fun r40 =>
           (inR a5 (aa r40)).bind fun k41 =>
           (r40[k41]?).bind fun x42 =>
           (inR (ag .i64 (1 - a5)) (aa r40)).bind fun k43 =>
           (r40[k43]?).bind fun x44 =>
           (gx r37.1 a9).bind fun e45 =>
           (Y0 a0 e45.2 a10).bind fun r46 =>
           (vI e45.2 (some a10) (some r46)).bind fun y47 =>
           (uk a0 x42 y47).bind fun r48 =>
           cond (!r48.2.1)
           (some (([]:jQ),([]:jR),false,1502,([]:jQ)))
           (cond (!r48.1)
            (some (([]:jQ),([]:jR),false,0,([]:jQ)))
            ((uA r48.2.2 x42).bind fun r49 =>
             (uA r48.2.2 x44).bind fun r50 =>
             cond (decide (((aa r49:Nat):Int)>48))
             (some (([]:jQ),([]:jR),false,1502,([]:jQ)))
             (cond (decide (((aa r50:Nat):Int)>48))
              (some (([]:jQ),([]:jR),false,1502,([]:jQ)))
              ((rj a0 r49 r50).bind fun r51 =>
               cond (r51==0)
               (some (([]:jQ),([]:jR),false,0,([]:jQ)))
               (cond (r51==1)
                (some (([]:jQ),([]:jR),false,0,([]:jQ)))
                ((uZ a1 a4).bind fun r52 =>
                 cond (yb (aa r52+aa r37.1) 32)
                 ((gx r37.1 a9).bind fun e53 =>
                  (ZC e45.2 a10 r46 x44).bind fun r54 =>
                  (inR (ag .i64 ((ag .i64 (((aa a1:Nat):Int) - 1))+a9)) (aa (r52++r37.1))).bind fun k55 =>
                  ((r52++r37.1)[k55]?).bind fun _x56 =>
                  (XW (bn (r52++r37.1) k55 (e53.1,r54)) a1 a2 a3 r37.1 r37.2.1 r37.2.2.2).bind fun r57 =>
                  (jr a0 r48.2.2 r57.1 r57.2.1 r57.2.2).bind fun r58 =>
                  cond (!r58.2.2.1)
                  (some (([]:jQ),([]:jR),false,1502,([]:jQ)))
                  (some (r58.1,r58.2.1,true,0,r58.2.2.2)))
                 (none)))))))))))))))))
def tF (a0:jS) (a1:jQ) (a2:jR) (a3:jQ) (a4:Int):Option (jQ×jR×Bool×Int×jQ) :=
 (gx a1 a4).bind fun e11 =>
 (uc a0 e11.2).bind fun r12 =>
 (inR 0 (aa r12)).bind fun k13 =>
 (r12[k13]?).bind fun x14 =>
 (inR 1 (aa r12)).bind fun k15 =>
 (r12[k15]?).bind fun x16 =>
 (vQ a0 x14 x16).bind fun r17 =>
 cond (r17.2.1 != 0)
 (some (([]:jQ),([]:jR),false,1502,([]:jQ)))
 (cond (!r17.1)
  (some (([]:jQ),([]:jR),false,0,([]:jQ)))
  ((wZ a1 a2 a3 a4 ([]:jQ) ([]:jR) ([]:jQ) (-1)).bind fun r18 =>
   (t6 r17.2.2 r18.2.1 r18.1 r18.2.2).bind fun r19 =>
   (qQ a0 r19.1 r19.2.1 r19.2.2).bind fun r20 =>
   cond (r20.2.2.1 != 0)
   (some (([]:jQ),([]:jR),false,1502,([]:jQ)))
   (some (r20.1,r20.2.1,true,0,r20.2.2.2))))
def rH (a0:jS) (a1:jQ) (a2:jR) (a3:jQ) (a4:Int):Option (jQ×jR×Bool×Int×jQ) :=
 (qx a0 a1 a2 a3).bind fun r4 =>
 cond (!r4)
 (some (([]:jQ),([]:jR),false,1500,([]:jQ)))
 ((u3 a1 a2 a3 a4 true).bind fun r5 =>
  cond (!r5)
  (some (([]:jQ),([]:jR),false,1500,([]:jQ)))
  ((tF a0 a1 a2 a3 a4).bind fun r6 =>
   some (r6.1,r6.2.1,r6.2.2.1,r6.2.2.2.1,r6.2.2.2.2)))
def uN (a0:jS) (a1:jQ) (a2:jR) (a3:jQ) (a4:Int):Option (jQ×jR×Bool×Int×jQ) :=
 (YS a0 a1 a2 a3).bind fun r16 =>
 cond (!r16)
 (some (([]:jQ),([]:jR),false,1500,([]:jQ)))
 ((rC a1 a2 a3 a4).bind fun r17 =>
  cond (!r17)
  (some (([]:jQ),([]:jR),false,1500,([]:jQ)))
  ((gx a1 a4).bind fun e18 =>
   cond (!e18.1)
   (some (([]:jQ),([]:jR),false,1500,([]:jQ)))
   ((gx a1 a4).bind fun e19 =>
    (gx e19.2 0).bind fun e20 =>
    cond (e20 != 0)
    (some (([]:jQ),([]:jR),false,1500,([]:jQ)))
    ((gx a1 a4).bind fun e21 =>
     (vI e21.2 (some 1) none).bind fun y22 =>
     (ya a0 y22).bind fun r23 =>
     (inR 0 (aa r23)).bind fun k24 =>
     (r23[k24]?).bind fun x25 =>
     (inR 1 (aa r23)).bind fun k26 =>
     (r23[k26]?).bind fun x27 =>
     (uk a0 x25 x27).bind fun r28 =>
     cond (!r28.2.1)
     (some (([]:jQ),([]:jR),false,1502,([]:jQ)))
     (cond (!r28.1)
      (some (([]:jQ),([]:jR),false,0,([]:jQ)))
      ((uZ a1 a4).bind fun r29 =>
       (jr a0 r28.2.2 r29 a2 a3).bind fun r30 =>
       cond (!r30.2.2.1)
       (some (([]:jQ),([]:jR),false,1502,([]:jQ)))
       (some (r30.1,r30.2.1,true,0,r30.2.2.2))))))))
inductive RT (t u:Tm):Tm->Tm->Prop
 | here:RT t u t u
 | arg (c:Nat) (l r:List Tm) {a b:Tm}:RT t u a b->RT t u (.f c (l++a::r)) (.f c (l++b::r))
theorem W3:(ts:List Tm)->(p:Nat)->p<(za ts).length->∃ l a r,ts=l++a::r∧(za l).length<=p∧p<(za l).length+a.codes.length
 | [],p,h=>by simp [za] at h
 | t::ts,p,h=>by
  simp only[za,al] at h;by_cases hp:p<t.codes.length
  ·exact ⟨[],t,ts,rfl,bK _,by simpa[za] using hp⟩
  ·obtain⟨l,a,r,rfl,h1,h2⟩:=W3 ts (p - t.codes.length) (by omega)
   exact ⟨t::l,a,r,rfl,by simp only[za,al]; omega,by simp only[za,al]; omega⟩
theorem FR {a0:List zh} {N:Nat} {l r:List Tm} {a:Tm} (h:okR a0 N (l++a::r)):a.ok a0 N:=wU.1 h a (by simp)
theorem E4 {a0:List zh}:∀(n:Nat) (a:Tm) (p:Nat),a.size<=n->a.ok a0 24->p<a.codes.length->∃ t:Tm,t.ok a0 24∧(∃ x y,a.codes=x++t.codes++y∧x.length=p∧∀ u:Tm,∃ b,RT t u a b∧b.codes=x++u.codes++y)
 | 0,a,p,h,_,_=>by have:=a.size_pos; omega
 | n+1,a,0,_,ho,_=>⟨a,ho,[],[],by simp,rfl,fun u=>⟨u,.here,by simp⟩⟩
 | n+1,.v m,p+1,_,_,h=>by simp [Tm.codes] at h
 | n+1,.f c as,p+1,hn,ho,h=>by
  simp only[Tm.codes,ak] at h;obtain⟨l,a,r,rfl,h1,h2⟩:=W3 as p (by omega)
  simp only[Tm.size,VH,xi] at hn;obtain⟨t,h3,x,y,h4,h5,h6⟩:=E4 n a (p - (za l).length) (by omega) (FR ho.2) (by omega)
  refine ⟨t,h3,(c:Int)::za l++x,y++za r,?_,?_,fun u => ?_⟩
  ·simp only[Tm.codes,v8,za,h4]; simp
  ·simp only[List.cons_append,ak,al]; omega
  ·obtain⟨b,g1,g2⟩:=h6 u;refine ⟨.f c (l++b::r),.arg c l r g1,?_⟩;simp only[Tm.codes,v8,za,g2]; simp
def RR (t u:Tm) (ts us:List Tm):Prop:=∃ l a b r,ts=l++a::r∧us=l++b::r∧RT t u a b
theorem Py {a0:List zh} {ts:List Tm} {p:Nat} (ho:okR a0 24 ts) (h:p<(za ts).length):∃ t:Tm,t.ok a0 24∧∃ x y,za ts=x++t.codes++y∧x.length=p∧∀ u:Tm,∃ us,RR t u ts us∧za us=x++u.codes++y:=by
 obtain⟨l,a,r,rfl,h1,h2⟩:=W3 ts p h;obtain⟨t,h3,x,y,h4,h5,h6⟩:=E4 a.size a (p - (za l).length) (aE _) (FR ho) (by omega)
 refine ⟨t,h3,za l++x,y++za r,by simp only[v8,za,h4]; simp,by simp only[al]; omega,fun u => ?_⟩
 obtain⟨b,g1,g2⟩:=h6 u;exact ⟨l++b::r,⟨l,a,b,r,rfl,rfl,g1⟩,by simp only[v8,za,g2]; simp⟩
theorem RT.ok {a0:List zh} {N:Nat} {t u a b:Tm} (h:RT t u a b) (hu:u.ok a0 N) (ha:a.ok a0 N):b.ok a0 N:=by
 induction h with
 | here=>exact hu
 | arg c l r h ih =>
  refine ⟨by have:=ha.1; simpa using this,wU.2 fun w hw => ?_⟩
  have h2:=wU.1 ha.2;rcases aI.1 hw with hw | hw
  ·exact h2 w (bM _ hw)
  ·rcases aC.1 hw with rfl | hw
   ·exact ih (h2 _ (by simp))
   ·exact h2 w (by simp [hw])
theorem RR.ok {a0:List zh} {N:Nat} {t u:Tm} {ts us:List Tm} (h:RR t u ts us) (hu:u.ok a0 N) (ha:okR a0 N ts):okR a0 N us:=by
 obtain⟨l,a,b,r,rfl,rfl,h⟩:=h;refine wU.2 fun w hw => ?_;have h2:=wU.1 ha;rcases aI.1 hw with hw | hw
 ·exact h2 w (bM _ hw)
 ·rcases aC.1 hw with rfl | hw
  ·exact h.ok hu (h2 _ (by simp))
  ·exact h2 w (by simp [hw])
theorem RR.len {t u:Tm} {ts us:List Tm} (h:RR t u ts us):us.length=ts.length:=by
 obtain⟨l,a,b,r,rfl,rfl,h⟩:=h;simp
theorem Pe {a0:List zh} {t:Tm} (ht:t.ok a0 24) (x y:List Int):sk a0 1 ((x++t.codes++y).drop x.length)=some t.codes.length:=by
 rw[aU,ek];exact Ds y (t.sk_codes ht)
theorem YR {a0:List zh} (hs:SignOk a0) {t:Tm} (ht:t.ok a0 24) (x y:List Int) (hl:(x++t.codes++y).length<=1000):xE a0 (x++t.codes++y) (x.length:Int)=some (((x.length+t.codes.length:Nat):Int),true):=by
 rw[kw hs _ (by omega),Pe ht]
theorem Tx {a0:List zh} (hs:SignOk a0) {t:Tm} (ht:t.ok a0 24) (x y:List Int) (hl:(x++t.codes++y).length<=1000):Y0 a0 (x++t.codes++y) (x.length:Int)=some ((x.length+t.codes.length:Nat):Int):=by
 rw[Ki hs _ (by omega) _ (by simp only[al]; omega),Pe ht]
 rfl
theorem BC (x z y:List Int):vI (x++z++y) (some (x.length:Int)) (some ((x.length+z.length:Nat):Int))=some z:=by
 show slc (x++z++y) (x.length:Int) ((x.length+z.length:Nat):Int)=_;unfold slc;rw[decide_eq_true (show (0:Int)<=(x.length:Int) by omega),decide_eq_true (show (x.length:Int)<=((x.length+z.length:Nat):Int) by omega),decide_eq_true (show ((x.length+z.length:Nat):Int)<=(((x++z++y).length:Nat):Int) by simp only[al]; omega)]
 simp only[cond_true,bh];have e:(x++z++y).take (x.length+z.length)=x++z:=by rw[show x.length+z.length=(x++z).length by simp,List.take_left]
 rw[e,ek]
theorem Iz (x z y:List Int):vI (x++z++y) none (some (x.length:Int))=some x:=by
 rw[JT _ (by simp only[al]; omega)]
 simp
theorem AP (x z y:List Int):vI (x++z++y) (some ((x.length+z.length:Nat):Int)) none=some y:=by
 rw[A0 _ (by simp only[al]; omega)]
 rw[show x.length+z.length=(x++z).length by simp,ek]
theorem kG {a0:List zh} (hb:ug a0=true) {t:Tm} (ht:t.ok a0 24) (hl:t.codes.length<=48):uI a0 t.codes=some true:=by
 have h:=yM (a0:=a0) [t] ⟨ht,trivial⟩;have e:za [t]=t.codes:=by simp [za]
 rw[e] at h;unfold uI;rw[kX,af];unfold vG;rw[hb,decide_eq_true hl];simp only[cY,cond_true,h];rfl
theorem Vi (a0:List zh) (xs:List Int):∃ b,vk a0 xs=some b:=⟨_,kY a0 xs⟩
theorem NO {a0:List zh} {a b:List Int} {k:Int} (h:XK a0 a b=some (k,0)):k=0∨k=1∨k=2∨k=3:=by
 unfold XK at h;simp only[ah] at h;obtain⟨r,-,h⟩:=h;cases r with
 | true=>injection h with h; injection h with h; exact .inr (.inl h.symm)
 | false =>
  simp only[cond_false,ah] at h;obtain⟨r,-,h⟩:=h;cases r with
  | true=>injection h with h; injection h with h; exact .inr (.inr (.inl h.symm))
  | false =>
   simp only[cond_false,ah] at h;obtain⟨r,-,h⟩:=h;cases r with
   | true=>injection h with h; injection h with h; exact .inl h.symm
   | false=>injection h with h; injection h with h; exact .inr (.inr (.inr h.symm))
theorem sY {a0:List zh} (hb:ug a0=true) {t u:Tm} (ht:t.ok a0 24) (hu:u.ok a0 24) (hlt:t.codes.length<=48) (hlu:u.codes.length<=48):∃ k,rj a0 t.codes u.codes=some k∧v9 a0 t.codes u.codes=some (k,0)∧XK a0 t.codes u.codes=some (k,0)∧(k=0∨k=1∨k=2∨k=3):=by
 obtain⟨k,h1,h2⟩:=JR (v6 hb) ht hu (by omega) (by omega)
 refine ⟨k,h1,?_,h2,NO h2⟩;rw[← h2];obtain⟨b1,e1⟩:=Vi a0 t.codes;obtain⟨b2,e2⟩:=Vi a0 u.codes;unfold v9;rw[kG hb ht hlt,kG hb hu hlu,e1,e2];cases b1<;>cases b2<;>rfl
theorem Je (a0:List zh) (L:List zc) (T:List jI) (C:List zc) (L':List zc) (T':List jI) (C':List zc) :
  tj a0 L T C L' T' C'=(vj a0 L T C L' T' C').bind fun r=>some (r.2.2.1,r.1,r.2.1,r.2.2.2):=by
 have half:∀(n:Int),((qr a0 L' T' C').bind fun r17 =>
   cond (decide (((aa r17.2:Nat):Int)>0))
   ((inR (ag .i64 (((aa r17.2:Nat):Int) - 1)) (aa r17.2)).bind fun k18 =>
    (r17.2[k18]?).bind fun x19 =>
    cond (decide ((ag .i64 (x19+n))>23))
    (some (false,([]:jQ),([]:jR),([]:jQ)))
    ((zH L' T' C' n).bind fun r20=>some (true,r20.1,r20.2.1,r20.2.2)))
   ((zH L' T' C' n).bind fun r21=>some (true,r21.1,r21.2.1,r21.2.2))) =
  ((qr a0 L' T' C').bind fun r17 =>
   cond (decide (((aa r17.2:Nat):Int)>0))
   ((inR (ag .i64 (((aa r17.2:Nat):Int) - 1)) (aa r17.2)).bind fun k18 =>
    (r17.2[k18]?).bind fun x19 =>
    cond (decide ((ag .i64 (x19+n))>23))
    (some (([]:jQ),([]:jR),false,([]:jQ)))
    ((zH L' T' C' n).bind fun r20=>some (r20.1,r20.2.1,true,r20.2.2)))
   ((zH L' T' C' n).bind fun r21=>some (r21.1,r21.2.1,true,r21.2.2))).bind fun r=>some (r.2.2.1,r.1,r.2.1,r.2.2.2):=by
  intro n;cases qr a0 L' T' C' with
  | none=>rfl
  | some r17 =>
   simp only[af];have fin:((zH L' T' C' n).bind fun r20=>some (true,r20.1,r20.2.1,r20.2.2))=((zH L' T' C' n).bind fun r20=>some (r20.1,r20.2.1,true,r20.2.2)).bind fun r=>some (r.2.2.1,r.1,r.2.1,r.2.2.2):=by
    cases zH L' T' C' n<;>rfl
   cases decide (((aa r17.2:Nat):Int)>0) with
   | false=>exact fin
   | true =>
    simp only[cond_true];cases inR (ag .i64 (((aa r17.2:Nat):Int) - 1)) (aa r17.2) with
    | none=>rfl
    | some k18 =>
     simp only[af];cases r17.2[k18]? with
     | none=>rfl
     | some x19 =>
      simp only[af];cases decide (ag .i64 (x19+n)>23) with
      | true=>rfl
      | false=>exact fin
 unfold tj vj;cases qr a0 L T C with
 | none=>rfl
 | some r14 =>
  simp only[af];cases decide (((aa r14.2:Nat):Int)>0) with
  | false=>exact half 0
  | true =>
   simp only[cond_true];cases inR (ag .i64 (((aa r14.2:Nat):Int) - 1)) (aa r14.2) with
   | none=>rfl
   | some k15 =>
    simp only[af];cases r14.2[k15]? with
    | none=>rfl
    | some x16=>exact half _
theorem V6:(es:List zc)->(i:Nat)->zv (-1) es i=es
 | [],_=>rfl
 | e::es,i=>by
  unfold zv;rw[show ((i:Int) != -1)=true from by simp,cond_true,V6 es (i+1)]
theorem Is {L:List zc} {i:Int} (h:yk L i=true):(zv i L 0).length+1=L.length:=by
 unfold yk at h;simp only[ay,decide_eq_true_eq] at h;obtain⟨k,rfl⟩:∃ k:Nat,i=(k:Int):=⟨i.toNat,by omega⟩
 rw[Za k L 0 (by omega) (by omega)]
 simp; omega
theorem Of {side:Int} (hside:side=0∨side=1) (s0 s1:Tm):∃(ks kt:Nat) (fr to:Tm),inR side 2=some ks∧inR (ag .i64 (1 - side)) 2=some kt∧([s0.codes,s1.codes])[ks]? = some fr.codes∧([s0.codes,s1.codes])[kt]? = some to.codes ∧
  ((side=0∧fr=s0∧to=s1)∨(side=1∧fr=s1∧to=s0))∧decide (side<0)=false∧decide (side>1)=false:=by
 rcases hside with rfl | rfl
 ·exact ⟨0,1,s0,s1,rfl,rfl,rfl,rfl,.inl ⟨rfl,rfl,rfl⟩,rfl,rfl⟩
 ·exact ⟨1,0,s1,s0,rfl,rfl,rfl,rfl,.inr ⟨rfl,rfl,rfl⟩,rfl,rfl⟩
def PSpec (a0:List zh) (L:List zc) (T:List jI) (C:List zc) (i:Int) (fr to:Tm) (L':List zc) (T':List jI) (C':List zc) (j:Int) (n':Bool) (A':List Int) (at':Nat) (o:Option Vp):Prop :=
 (∃ v,A'[at']? = some v∧v<0∧o=wY 0) ∨
 ∃(v:Int) (b c:Nat) (us:List Tm),A'[at']? = some v∧0<=v∧b<=24∧TopV (yd L T C) (b:Int)∧A'=(c:Int)::za us∧okR a0 24 us ∧
  ((o=wY 1501∧∃ x,jH (yd L' T' C') x∧23<x+(b:Int)) ∨
   ((∀ x,jH (yd L' T' C') x->x+(b:Int)<=23)∧∃(t:Tm) (x y:List Int),t.ok a0 24∧za (us.map (Tm.up b))=x++t.codes++y∧at'=x.length+1∧okR a0 24 (us.map (Tm.up b))∧(∀ u:Tm,∃ ws,RR t u (us.map (Tm.up b)) ws∧za ws=x++u.codes++y) ∧
    ((o=wY 0∧∀ θ,¬ Sol θ ([fr].zip [t])) ∨
    ∃ σ,Mgu σ ([fr].zip [t])∧(∀ x,x<24->(σ x).ok a0 24) ∧
     ((o=wY 1502∧(qO σ (aJ 24)=false∨48<(fr.sub σ).codes.length∨48<(to.sub σ).codes.length)) ∨
      (qO σ (aJ 24)=true∧(fr.sub σ).codes.length<=48∧(to.sub σ).codes.length<=48∧∃ k,v9 a0 (fr.sub σ).codes (to.sub σ).codes=some (k,0) ∧
       ((o=wY 0∧(k=0∨k=1)) ∨
       (o=ZJ a0 σ (zv i L 0++(rJ (b:Int) L').set j.toNat (n',(c:Int)::(x++to.codes++y))) (J4 b T T') (JV b C C') 1502∧(k=2∨k=3))))))))
theorem qD (t:Tm):t.codes=za [t]:=by simp [za]
theorem Mr {α:Type} {x y:α}:{xs:List α}->{i:Nat}->y∈xs.set i x->y∈xs∨y=x
 | [],i,h=>by simp at h
 | z::zs,0,h=>by
  rcases aC.1 h with h | h
  ·exact .inr h
  ·exact .inl (ai _ h)
 | z::zs,i+1,h=>by
  rcases aC.1 h with h | h
  ·exact .inl (h▸aj ..)
  ·rcases Mr h with h | h
   ·exact .inl (ai _ h)
   ·exact .inr h
theorem J1 {a0:List zh} {A:List Int} (h:ua a0 A=true) (h0:gx A 0=some 0):∃ s0 s1:Tm,A=0::za [s0,s1]∧s0.ok a0 24∧s1.ok a0 24∧(za [s0,s1]).length<=48:=by
 obtain⟨c,ts,e,rfl,ho,he,-,hlen,hl48,hb⟩:=vM h;rw[yh,aB] at h0;injection h0 with h0;obtain rfl:c=0:=by omega
 rw[(v6 hb).eq] at he;injection he with he;subst he
 match ts,hlen,ho,hl48 with
 | [],hlen,_,_=>exact absurd hlen (by decide)
 | [_],hlen,_,_=>exact absurd hlen (by show ¬(((1:Nat):Int)=(2:Int)); decide)
 | _::_::_::_,hlen,_,_=>simp only[ak] at hlen; exact absurd hlen (by show ¬(_=(2:Int)); omega)
 | [s0,s1],_,ho,hl48=>exact ⟨s0,s1,rfl,ho.1,ho.2.1,hl48⟩
theorem Gg {a0:List zh} (hs:SignOk a0) {s0 s1:Tm} (h0:s0.ok a0 24) (h1:s1.ok a0 24) (hl:(za [s0,s1]).length<=48):uc a0 (0::za [s0,s1])=some [s0.codes,s1.codes]∧ya a0 (za [s0,s1])=some [s0.codes,s1.codes]:=by
 have hc:=yM (a0:=a0) [s0,s1] ⟨h0,h1,trivial⟩;refine ⟨?_,vd hs (by omega) hc⟩
 unfold uc;rw[wE,af,uv hs (by omega) hc]
 rfl
theorem Bh {σ:Sb} (t:Tm) (h:∀ c∈t.codes,-24<=c):onB (un σ) t.codes=(t.sub σ).codes:=by
 rw[Bk h,Tm.codes_sub];rfl
theorem Lg {a0:List zh} {L:List zc} {T:List jI} {C:List zc} {L':List zc} {T':List jI} {C':List zc} (h:wm a0 L T C=true) (h':wm a0 L' T' C'=true) {i j:Int} {n':Bool} {A A':List Int}
  (hi:gx L i=some (false,A)) (h0:gx A 0=some 0) (hj:gx L' j=some (n',A')) {side:Int} (hside:side=0∨side=1) {at':Nat} (h1:1<=at') (h2:at'<A'.length) :
  ∃ s0 s1 fr to:Tm,A=0::za [s0,s1]∧s0.ok a0 24∧s1.ok a0 24∧((side=0∧fr=s0∧to=s1)∨(side=1∧fr=s1∧to=s0))∧∃ o,kn a0 L T C i side L' T' C' j (at':Int)=o∧qd a0 L T C i side L' T' C' j (at':Int)=o∧PSpec a0 L T C i fr to L' T' C' j n' A' at' o:=by
 obtain⟨hsb,l1,l2,l3,l4,l5,l6,-⟩:=zK h;obtain⟨-,l1',l2',l3',l4',l5',l6',-⟩:=zK h';have hs:=v6 hsb;obtain⟨s0,s1,rfl,ok0,ok1,hA48⟩:=J1 (aH.1 l4 _ (kx hi)) h0;obtain⟨c,us,e',rfl,ho',he',-,hlen',hl48',-⟩:=vM (aH.1 l4' (n',A') (kx hj));obtain⟨ks,kt,fr,to,e1,e2,e3,e4,hft,hsd1,hsd2⟩:=Of hside s0 s1;refine ⟨s0,s1,fr,to,rfl,ok0,ok1,hft,?_⟩;obtain⟨sd1,sd2⟩:=Gg hs ok0 ok1 hA48;have hcd:=j8 hs h;have hcd':=j8 hs h';have hcA:Cds (0::za [s0,s1]):=hcd _ (yH (kx hi));have hs0:s0.codes.length+s1.codes.length<=48:=by simpa[za] using hA48
 have hfr:fr.ok a0 24∧fr.codes.length<=48∧∀ c∈fr.codes,-24<=c∧c<=1000000:=by
  rcases hft with ⟨-,rfl,rfl⟩ | ⟨-,rfl,rfl⟩
  ·exact ⟨ok0,by omega,fun c hc=>hcA.2 c (by simp [za,hc])⟩
  ·exact ⟨ok1,by omega,fun c hc=>hcA.2 c (by simp [za,hc])⟩
 have hto:to.ok a0 24∧to.codes.length<=48∧∀ c∈to.codes,-24<=c∧c<=1000000:=by
  rcases hft with ⟨-,rfl,rfl⟩ | ⟨-,rfl,rfl⟩
  ·exact ⟨ok1,by omega,fun c hc=>hcA.2 c (by simp [za,hc])⟩
  ·exact ⟨ok0,by omega,fun c hc=>hcA.2 c (by simp [za,hc])⟩
 obtain⟨hjp,hjl,hjm⟩:0<=j∧j<L'.length∧L'[j.toNat]? = some (n',(c:Int)::za us):=by
  have hj0:=hj;unfold gx at hj0;by_cases hn:0<=j
  ·rw[decide_eq_true hn,cond_true] at hj0;have:=(au.1 hj0).1;exact ⟨hn,by omega,hj0⟩
  ·rw[decide_eq_false hn] at hj0; cases hj0
 have hpi:yk L i=true:=by
  unfold gx at hi;by_cases hn:0<=i
  ·rw[decide_eq_true hn,cond_true] at hi;have:=(au.1 hi).1;unfold yk;simp only[ay,decide_eq_true_eq];omega
  ·rw[decide_eq_false hn] at hi; cases hi
 have hpj:yk L' j=true:=by
  unfold yk;simp only[ay,decide_eq_true_eq];omega
 obtain⟨v,hv⟩:∃ v,((c:Int)::za us)[at']? = some v:=⟨_,am h2⟩;have hvat:gx ((c:Int)::za us) (at':Int)=some v:=by rw[yE]; exact hv
 -- the reference's guards
 have href:qd a0 L T C i side L' T' C' j (at':Int)=(cond (decide (v<0)) (wY 0)
   ((rT L T C L' T' C').bind fun r37 =>
          cond (!r37.2.2.1)
          (wY 1501)
           ((gx r37.1 j).bind fun e45 =>
           (Y0 a0 e45.2 (at':Int)).bind fun r46 =>
           (vI e45.2 (some (at':Int)) (some r46)).bind fun y47 =>
           (uk a0 fr.codes y47).bind fun r48 =>
           cond (!r48.2.1)
           (wY 1502)
           (cond (!r48.1)
            (wY 0)
            ((uA r48.2.2 fr.codes).bind fun r49 =>
             (uA r48.2.2 to.codes).bind fun r50 =>
             cond (decide (((aa r49:Nat):Int)>48))
             (wY 1502)
             (cond (decide (((aa r50:Nat):Int)>48))
              (wY 1502)
              ((rj a0 r49 r50).bind fun r51 =>
               cond (r51==0)
               (wY 0)
               (cond (r51==1)
                (wY 0)
                ((uZ L i).bind fun r52 =>
                 cond (yb (aa r52+aa r37.1) 32)
                 ((gx r37.1 j).bind fun e53 =>
                  (ZC e45.2 (at':Int) r46 to.codes).bind fun r54 =>
                  (inR (ag .i64 ((ag .i64 (((aa L:Nat):Int) - 1))+j)) (aa (r52++r37.1))).bind fun k55 =>
                  ((r52++r37.1)[k55]?).bind fun x56 =>
                  (XW (bn (r52++r37.1) k55 (e53.1,r54)) L T C r37.1 r37.2.1 r37.2.2.2).bind fun r57 =>
                  (jr a0 r48.2.2 r57.1 r57.2.1 r57.2.2).bind fun r58 =>
                  cond (!r58.2.2.1)
                  (wY 1502)
                  (some (r58.1,r58.2.1,true,(0:Int),r58.2.2.2)))
                 (none)))))))))):=by
  unfold qd tW;rw[zY,h,af,zY,h',af,kp,hpi,kp,hpj];simp only[az,cond_false,af,cond_true,hi,h0,bN,beq_self_eq_true,hsd1,hsd2,hj,hvat];rw[decide_eq_false (show ¬((at':Int)<1) by omega),cond_false,decide_eq_false (show ¬((at':Int)≥((aa ((c:Int)::za us):Nat):Int)) by omega),cond_false]
  cases decide (v<0) with
  | true=>rfl
  | false =>
   simp only[cond_false,wE,af,sd2,ak,bc,aR,gH,e1,e2,e3,e4];rfl
 rw[href];unfold kn;rw[hj,af];simp only[hvat,af];by_cases hv0:v<0
 ·rw[decide_eq_true hv0];exact ⟨wY 0,rfl,rfl,.inl ⟨v,hv,hv0,rfl⟩⟩
 ·rw[decide_eq_false hv0,cond_false,cond_false];obtain⟨b,hb,htop,hap⟩:=apart_spec hs h h';have fin:∀{o1 o2:Option Vp} {o:Option Vp},o1=o->o2=o->PSpec a0 L T C i fr to L' T' C' j n' ((c:Int)::za us) at' o->∃ o,o1=o∧o2=o∧PSpec a0 L T C i fr to L' T' C' j n' ((c:Int)::za us) at' o:=fun h1 h2 h3=>⟨_,h1,h2,h3⟩;have mk:=fun {o:Option Vp} (hq:_)=>show PSpec a0 L T C i fr to L' T' C' j n' ((c:Int)::za us) at' o from .inr ⟨v,b,c,us,hv,by omega,hb,htop,rfl,ho',hq⟩
  rcases hap with ⟨hap,hfar⟩ | ⟨hap,hnear⟩
  ·rcases Wo hs h h' hb htop with ⟨ap,-⟩ | ⟨ap,hn2⟩
   ·rw[Je,hap,ap];exact fin rfl rfl (mk (.inl ⟨rfl,hfar⟩))
   ·obtain⟨x,hx,hfar⟩:=hfar;have:=hn2 x hx; omega
  ·rcases Wo hs h h' hb htop with ⟨ap,x,hx,hfar⟩ | ⟨ap,-⟩
   ·have:=hnear x hx; omega
   ·rw[Je,hap,ap];simp only[af,az,cond_false];have hj2:gx (rJ (b:Int) L') j=some (n',(c:Int)::za (us.map (Tm.up b))):=by
     have:=Rk (fun l:zc=>(l.1,l.2.map (upC (b:Int)))) hj;rw[B7] at this;exact this
    have hvar:∀ k:Nat,jE k us->k+b<24:=fun k hk=>by
     have:=hnear (k:Int) ⟨_,yH (kx hj),by
      obtain⟨c0,h1,h2,h3⟩:=ru.2 ⟨k,rfl,hk⟩;exact ⟨c0,ai _ h1,h2,h3⟩⟩
     omega
    have hou:=Lb ho' hvar;have hlu:(za (us.map (Tm.up b))).length=(za us).length:=by rw[← JH,aL]
    obtain⟨p,rfl⟩:∃ p,at'=p+1:=⟨at' - 1,by omega⟩
    rw[ak] at h2;obtain⟨t,ht,x,y,e5,e6,hrep⟩:=Py hou (p:=p) (by omega)
    subst e6;have hlx:x.length+t.codes.length+y.length<=48:=by
     have:=congrArg aa e5;simp only[al] at this;omega
    have mk2:=fun {o:Option Vp} (hq:_)=>mk (o:=o) (.inr ⟨hnear,t,x,y,ht,e5,rfl,hou,hrep,hq⟩);have e7:(c:Int)::za (us.map (Tm.up b))=((c:Int)::x)++t.codes++y:=by rw[e5]; simp
    have e8:((x.length+1:Nat):Int)=((((c:Int)::x).length:Nat):Int):=by simp
    have hl1:(((c:Int)::x)++t.codes++y).length<=1000:=by simp only[al,ak]; omega
    have hjn:inR j (rJ (b:Int) L').length=some j.toNat:=by
     obtain⟨k,rfl⟩:=de hjp;exact zO (by simp [rJ]; omega)
    have hjd:(rJ (b:Int) L')[j.toNat]? = some (n',(c:Int)::za (us.map (Tm.up b))):=by
     have h3:=hj2;unfold gx at h3;rwa [decide_eq_true hjp,cond_true] at h3
    rw[hi,af,hj2,af];simp only[sd1,af,ak,bc,aR,gH,e1,e2,e3,e4,hjn,hjd];rw[e8,e7,YR hs ht _ _ hl1,Tx hs ht _ _ hl1];simp only[af,BC];rw[qD fr,qD t];rcases Y5 hs (xs:=za [fr]) (ys:=za [t]) rfl rfl ⟨hfr.1,trivial⟩ ⟨ht,trivial⟩ hsb (by rw[← qD]; omega) (by rw[← qD]; omega) with ⟨hu,hno⟩ | ⟨-,σ,hm,hok,hu⟩
    ·rcases sW hs (ts:=[fr]) (us:=[t]) ⟨hfr.1,trivial⟩ ⟨ht,trivial⟩ (by rw[← qD]; omega) (by rw[← qD]; omega) with ⟨tg,-⟩ | ⟨-,σ',hm',tg⟩
     ·rw[hu,tg];exact fin rfl rfl (mk2 (.inl ⟨rfl,hno.resolve_left fun h=>h rfl⟩))
     ·exact absurd hm'.sol (hno.resolve_left (fun h=>h rfl) σ')
    ·rcases sW hs (ts:=[fr]) (us:=[t]) ⟨hfr.1,trivial⟩ ⟨ht,trivial⟩ (by rw[← qD]; omega) (by rw[← qD]; omega) with ⟨tg,hno⟩ | ⟨-,σ',hm',tg⟩
     ·exact absurd hm.sol (hno.resolve_left (fun h=>h rfl) σ)
     ·have:=hm.unique hm';subst this;rw[hu,tg];have mk3:=fun {o:Option Vp} (hq:_)=>mk2 (o:=o) (.inr ⟨σ,hm,hok,hq⟩);cases hsh:qO σ (aJ 24) with
      | false=>exact fin rfl rfl (mk3 (.inl ⟨rfl,.inl hsh⟩))
      | true =>
       simp only[cond_true,af,show ((0:Int) != 0)=false from rfl,cond_false,az]
       rw[← qD fr,← qD t];have nfr:uW fr.codes:=⟨by omega,fun c hc=>by have:=hfr.2.2 c hc; omega⟩
       have nto:uW to.codes:=⟨by omega,fun c hc=>by have:=hto.2.2 c hc; omega⟩
       rw[rk (Y4 hsh) nfr.1 nfr.2,I8 (Y4 hsh) nfr,rk (Y4 hsh) nto.1 nto.2,I8 (Y4 hsh) nto,Bh fr fun c hc=>(hfr.2.2 c hc).1,Bh to fun c hc=>(hto.2.2 c hc).1];simp only[af];have okf:(fr.sub σ).ok a0 24:=Tm.ok_sub fr hfr.1 fun x hx=>hok x (Tm.ok_has fr hfr.1 hx);have okt:(to.sub σ).ok a0 24:=Tm.ok_sub to hto.1 fun x hx=>hok x (Tm.ok_has to hto.1 hx);by_cases g1:48<(fr.sub σ).codes.length
       ·rw[decide_eq_true (show ((aa (fr.sub σ).codes:Nat):Int)>48 by omega)]
        exact fin rfl rfl (mk3 (.inl ⟨rfl,.inr (.inl g1)⟩))
       ·rw[decide_eq_false (show ¬((aa (fr.sub σ).codes:Nat):Int)>48 by omega),cond_false,cond_false]
        by_cases g2:48<(to.sub σ).codes.length
        ·rw[decide_eq_true (show ((aa (to.sub σ).codes:Nat):Int)>48 by omega)]
         exact fin rfl rfl (mk3 (.inl ⟨rfl,.inr (.inr g2)⟩))
        ·rw[decide_eq_false (show ¬((aa (to.sub σ).codes:Nat):Int)>48 by omega),cond_false,cond_false]
         obtain⟨k,w1,w2,-,w4⟩:=sY hsb okf okt (by omega) (by omega)
         unfold QA;rw[w1,w2];simp only[af];have mk4:=fun {o:Option Vp} (hq:_)=>mk3 (o:=o) (.inr ⟨hsh,by omega,by omega,k,w2,hq⟩)
         by_cases hk:k=0∨k=1
         ·refine fin (o:=wY 0) ?_ ?_ (mk4 (.inl ⟨rfl,hk⟩))
          ·rcases hk with rfl | rfl<;>rfl
          ·rcases hk with rfl | rfl<;>rfl
         ·have hk2:k=2∨k=3:=by omega
          have hb1:(cond (k != 2) (some (k != 3)) (some false):Option Bool)=some false:=by rcases hk2 with rfl | rfl<;>rfl
          rw[hb1,af,cond_false,show (k==0)=false by simp; omega,show (k==1)=false by simp; omega,cond_false,cond_false]
          unfold Yn ZC;have hlto:to.codes.length<=48:=hto.2.1;have hul:(rJ (b:Int) L').length=L'.length:=by simp [rJ]
          have hucl:(rJ (b:Int) C').length=C'.length:=by simp [rJ]
          have hwl:=Is hpi;rw[YR hs ht _ _ hl1];simp only[af,Iz,AP];rw[BG (by simp only[ak]; omega),Wi hpi (by omega),zm (by first | omega | (simp only[ak,bc]; omega)),cond_true,zm (by first | omega | (simp only[al,ak,bc]; omega)),cond_true,zm (by first | omega | (simp only[al,ak,bc]; omega)),cond_true]
          simp only[af];rw[zm (by first | omega | (simp only[al,ak,bc,aL]; omega)),cond_true]
          have w5:inR (ag .i64 ((ag .i64 (((aa L:Nat):Int) - 1))+j)) (aa (zv i L 0++rJ (b:Int) L'))=some ((zv i L 0).length+j.toNat):=by
           rw[show ag .i64 (((aa L:Nat):Int) - 1)=(((zv i L 0).length:Nat):Int) by rw[zn]<;>omega,show ag .i64 ((((zv i L 0).length:Nat):Int)+j)=(((zv i L 0).length+j.toNat:Nat):Int) by rw[zn]<;>omega]
           exact zO (by rw[al]; omega)
          have w6:(zv i L 0++rJ (b:Int) L')[(zv i L 0).length+j.toNat]? = some (n',(c:Int)::za (us.map (Tm.up b))):=by
           rw[List.getElem?_append_right (by omega),show (zv i L 0).length+j.toNat - (zv i L 0).length=j.toNat by omega]
           exact hjd
          rw[w5,af,w6,af,List.set_append_right _ _ (by omega),show (zv i L 0).length+j.toNat - (zv i L 0).length=j.toNat by omega]
          have e9:(((([]:List Int)++(c:Int)::x))++to.codes)++y=(c:Int)::(x++to.codes++y):=by simp
          have e10:(((c:Int)::x)++to.codes)++y=(c:Int)::(x++to.codes++y):=by simp
          rw[e9,e10];have hul2:((rJ (b:Int) L').set j.toNat (n',(c:Int)::(x++to.codes++y))).length=L'.length:=by rw[bX]; exact hul
          unfold XW;rw[vY i (-1) (by omega) (by omega) (by omega) (by omega) (by simp; omega) (by omega),af,V6,
           zm (by first | omega | (simp only[al,ak,bc,aL]; omega)),cond_true,zm (by first | omega | (simp only[aL]; omega)),cond_true,zm (by first | omega | (simp only[al,ak,bc,aL]; omega)),cond_true,zm (by first | omega | (simp only[al,ak,bc,aL]; omega)),cond_true,af]
          have hup:∀ r∈yd L' T' C',Cds (r.map (upC (b:Int))):=fun r hr=>PK (hcd' r hr) fun x hx=>hnear x ⟨r,hr,hx⟩;have hupl:∀ ls:List zc,(∀ l∈ls,l.2∈yd L' T' C')->∀ l∈rJ (b:Int) ls,Cds l.2:=fun ls hls l hl=>by
           obtain⟨l0,h0,rfl⟩:=aX.1 hl;exact hup _ (hls l0 h0)
          have hA2:Cds ((c:Int)::za (us.map (Tm.up b))):=hupl L' (fun l hl=>yH hl) _ (kx hj2);have hnew:Cds ((c:Int)::(x++to.codes++y)):=by
           refine ⟨by simp only[ak,al]; omega,fun d hd => ?_⟩
           rcases aC.1 hd with rfl | hd
           ·exact hA2.2 _ (aj ..)
           ·rcases aI.1 hd with hd | hd
            ·rcases aI.1 hd with hd | hd
             ·exact hA2.2 d (by rw[e5]; simp [hd])
             ·exact hto.2.2 d hd
            ·exact hA2.2 d (by rw[e5]; simp [hd])
          have cL:∀ l∈zv i L 0++(rJ (b:Int) L').set j.toNat (n',(c:Int)::(x++to.codes++y)),Cds l.2:=fun l hl=>by
           rcases aI.1 hl with hl | hl
           ·exact hcd _ (yH (vZ L 0 hl))
           ·rcases Mr hl with hl | rfl
            ·exact hupl L' (fun l hl=>yH hl) l hl
            ·exact hnew
          have cT:∀ r∈J4 b T T',Cds r:=fun r hr=>by
           unfold J4 at hr;rcases aI.1 hr with hr | hr
           ·exact hcd _ (qX hr)
           ·obtain⟨r0,h0,rfl⟩:=aX.1 hr;exact hup _ (qX h0)
          have cC:∀ l∈JV b C C',Cds l.2:=fun l hl=>by
           unfold JV at hl;rcases aI.1 hl with hl | hl
           ·exact hcd _ (qS hl)
           ·exact hupl C' (fun l hl=>qS hl) l hl
          have nL:(zv i L 0++(rJ (b:Int) L').set j.toNat (n',(c:Int)::(x++to.codes++y))).length<=100:=by rw[al]; omega
          have nT:(J4 b T T').length<=100:=by unfold J4; rw[al,aL]; omega
          have nC:(JV b C C').length<=100:=by unfold JV; rw[al]; omega
          refine fin ?_ (IV (a0:=a0) hs hsh cL cT cC (by omega) (by omega) (by omega) 1502) (mk4 (.inr ⟨rfl,hk2⟩))
          simp only;rw[show T++T'.map (c5 (upC (b:Int)))=J4 b T T' from rfl,show C++rJ (b:Int) C'=JV b C C' from rfl,Ae hsh cL cT cC (by omega) (by omega) (by omega),af,xk,af]
          unfold ZJ;cases wm a0 (vL σ (zv i L 0++(rJ (b:Int) L').set j.toNat (n',(c:Int)::(x++to.codes++y)))) ((J4 b T T').map (uX σ)) (vL σ (JV b C C')) with
          | true=>rfl
          | false=>rfl
theorem PSpec.okR {a0:List zh} {L:List zc} {T:List jI} {C:List zc} {i:Int} {fr to:Tm} {L':List zc} {T':List jI} {C':List zc} {j:Int} {n':Bool} {A':List Int} {at':Nat} {o:Option Vp} (h:PSpec a0 L T C i fr to L' T' C' j n' A' at' o):OkR a0 o:=by
 rcases h with ⟨_,_,_,h⟩ | ⟨_,_,_,_,_,_,_,_,_,_,⟨h,_⟩ | ⟨_,_,_,_,_,_,_,_,_,⟨h,_⟩ | ⟨_,_,_,⟨h,_⟩ | ⟨_,_,_,_,_,⟨h,_⟩ | ⟨h,_⟩⟩⟩⟩⟩
 ·exact qB h
 ·exact qB h
 ·exact qB h
 ·exact qB h
 ·exact qB h
 ·rw[h]; exact YQ
def eqB (L:List zc) (i:Int) (neg:Bool):Bool:=yk L i&&(match gx L i with
 | some l=>(gx l.2 0==some 0)&&(l.1==neg)
 | none=>false)
theorem Aq {L:List zc} {i:Int} {neg:Bool} (h:eqB L i neg=true):∃ A,gx L i=some (neg,A)∧gx A 0=some 0:=by
 unfold eqB at h;cases hp:yk L i with
 | false=>rw[hp] at h; cases h
 | true =>
  rw[hp,aO] at h;cases hg:gx L i with
  | none=>rw[hg] at h; cases h
  | some l =>
   rw[hg] at h;simp only[ay,beq_iff_eq] at h;exact ⟨l.2,by rw[← h.2],h.1⟩
theorem LX {L:List zc} {i:Int} {n neg:Bool} {A:List Int} (h:gx L i=some (n,A)) (hp:yk L i=true):eqB L i neg=((gx A 0==some 0)&&(n==neg)):=by
 unfold eqB;rw[hp,h,aO]
theorem Q6 {a0:List zh} {A:List Int} (h:ua a0 A=true):∃ c:Nat,gx A 0=some (c:Int):=by
 obtain⟨c,ts,e,rfl,-⟩:=vM h;exact ⟨c,by rw[yh]; rfl⟩
theorem ZL {a0:List zh} {L:List zc} (hL:∀ l∈L,ua a0 l.2=true) (T:List jI) (C:List zc) (i:Int) (neg:Bool):u3 L T C i neg=some (eqB L i neg):=by
 unfold u3;by_cases h0:i≥0
 ·rw[decide_eq_true h0,cond_true];by_cases h1:i<((aa L:Nat):Int)
  ·have hp:yk L i=true:=by unfold yk; simp only[ay,decide_eq_true_eq]; exact ⟨h0,h1⟩
   obtain⟨⟨n,A⟩,hg⟩:=uw hp;obtain⟨c,hc⟩:=Q6 (hL _ (kx hg));rw[decide_eq_true h1,cond_true,hg,af,hc,af,af,LX hg hp,hc];by_cases e:(c:Int)=0
   ·rw[e]; rfl
   ·rw[show ((c:Int)==0)=false by simpa using e,show (some (c:Int)==some 0)=false by simpa using e]; rfl
  ·have hp:yk L i=false:=by unfold yk; rw[decide_eq_false h1,cA]
   rw[decide_eq_false h1,cond_false];unfold eqB;rw[hp]; rfl
 ·have hp:yk L i=false:=by unfold yk; rw[decide_eq_false h0,bp]
  rw[decide_eq_false h0,cond_false];unfold eqB;rw[hp]; rfl
theorem wF {a0:List zh} {L:List zc} (hL:∀ l∈L,ua a0 l.2=true) (T:List jI) (C:List zc) (i:Int):tW L T C i=some (eqB L i false):=by
 unfold tW;rw[kp,af];cases hp:yk L i with
 | false=>unfold eqB; rw[hp]; rfl
 | true =>
  obtain⟨⟨n,A⟩,hg⟩:=uw hp;obtain⟨c,hc⟩:=Q6 (hL _ (kx hg));rw[cond_true,hg,af,af,hc,af,LX hg hp,hc];have e:(some (c:Int)==some 0)=((c:Int)==0):=rfl;rw[e];cases n<;>cases (c:Int)==0<;>rfl
theorem zdA (o:Option Vp):(o.bind fun r=>some (r.1,r.2.1,r.2.2.1,r.2.2.2.1,r.2.2.2.2))=o:=by cases o<;>rfl
theorem HI (a0:List zh) (L:List zc) (T:List jI) (C:List zc) (i side:Int) (L':List zc) (T':List jI) (C':List zc) (j at':Int) :
  qd a0 L T C i side L' T' C' j at'=YK a0 L T C i side L' T' C' j at'∧OkR a0 (YK a0 L T C i side L' T' C' j at'):=by
 have bad:∀{o o':Option Vp} {k:Int},o=wY k->o'=wY k->o=o'∧OkR a0 o':=fun h h'=>⟨h.trans h'.symm,qB h'⟩;have key:wm a0 L T C=true->wm a0 L' T' C'=true->eqB L i false=true->(side=0∨side=1)->0<=j->j<L'.length->1<=at'->(∀ l,gx L' j=some l->at'<l.2.length)->qd a0 L T C i side L' T' C' j at'=kn a0 L T C i side L' T' C' j at'∧OkR a0 (kn a0 L T C i side L' T' C' j at'):=by
  intro h h' he hsd hj0 hj1 ha hal;obtain⟨A,g1,g2⟩:=Aq he;obtain⟨⟨n',A'⟩,g3,-⟩:=Kx hj0 hj1;obtain⟨k,rfl⟩:=de (show 0<=at' by omega)
  obtain⟨s0,s1,fr,to,-,-,-,-,o,o1,o2,o3⟩:=Lg h h' g1 g2 g3 hsd (show 1<=k by omega) (by have:=hal _ g3; exact Int.ofNat_lt.1 this)
  rw[o1,o2];exact ⟨rfl,o3.okR⟩
 unfold YK;rw[yB,af];cases h:wm a0 L T C with
 | false=>unfold qd; rw[zY,h]; exact bad (k:=1500) rfl rfl
 | true =>
  rw[az,cond_false,yB,af];cases h':wm a0 L' T' C' with
  | false=>unfold qd; rw[zY,h,af,zY,h']; exact bad (k:=1500) rfl rfl
  | true =>
   have hL:∀ l∈L,ua a0 l.2=true:=fun l hl=>aH.1 (zK h).2.2.2.2.1 l hl;rw[az,cond_false,ZL hL,af];cases he:eqB L i false with
   | false=>unfold qd; rw[zY,h,af,zY,h',af,wF hL,he]; exact bad (k:=1500) rfl rfl
   | true =>
    rw[az,cond_false];have refl:∀{b:Bool},(decide (side<0)||decide (side>1))=b->qd a0 L T C i side L' T' C' j at'=cond b (wY 1500) (qd a0 L T C i side L' T' C' j at'):=by
     intro b hb;cases b with
     | false=>rfl
     | true =>
      unfold qd;rw[zY,h,af,zY,h',af,wF hL,he];simp only[af,az,cond_false];cases h1:decide (side<0) with
      | true=>rfl
      | false=>rw[h1,Bool.false_or] at hb; rw[hb]; rfl
    have ref2:(side=0∨side=1)->∀{o:Option Vp},o=cond (decide (j<0)) (wY 1500) (cond (decide (j≥((aa L':Nat):Int))) (wY 1500) (cond (decide (at'<1)) (wY 1500) ((gx L' j).bind fun e11=>cond (decide (at'≥((aa e11.2:Nat):Int))) (wY 1500) ((kn a0 L T C i side L' T' C' j at').bind fun r12=>some (r12.1,r12.2.1,r12.2.2.1,r12.2.2.2.1,r12.2.2.2.2))))) ->
      qd a0 L T C i side L' T' C' j at'=o∧OkR a0 o:=by
     intro hsd o ho;have hsd1:decide (side<0)=false:=by rcases hsd with rfl | rfl<;>rfl
     have hsd2:decide (side>1)=false:=by rcases hsd with rfl | rfl<;>rfl
     have step:qd a0 L T C i side L' T' C' j at'=cond (!yk L' j) (wY 1500) (cond (decide (at'<1)) (wY 1500) ((gx L' j).bind fun e=>cond (decide (at'≥((aa e.2:Nat):Int))) (wY 1500) (qd a0 L T C i side L' T' C' j at'))):=by
      cases hp:yk L' j with
      | false=>unfold qd; rw[zY,h,af,zY,h',af,wF hL,he,kp,hp,hsd1,hsd2]; rfl
      | true =>
       rw[az,cond_false];cases h1:decide (at'<1) with
       | true=>unfold qd; rw[zY,h,af,zY,h',af,wF hL,he,kp,hp,hsd1,hsd2,h1]; rfl
       | false =>
        obtain⟨l,hg⟩:=uw hp;rw[cond_false,hg,af];cases h2:decide (at'≥((aa l.2:Nat):Int)) with
        | true =>
         rw[cond_true];unfold qd;rw[zY,h,af,zY,h',af,wF hL,he,kp,hp,hsd1,hsd2,h1,hg];simp only[af,az,cond_false,h2];rfl
        | false=>rfl
     rw[ho];by_cases j0:j<0
     ·have hp:yk L' j=false:=by unfold yk; rw[decide_eq_false (show ¬ j≥0 by omega),bp]
      rw[decide_eq_true j0];refine bad (k:=1500) ?_ rfl;rw[step,hp]; rfl
     ·rw[decide_eq_false j0,cond_false];by_cases j1:j≥((aa L':Nat):Int)
      ·have hp:yk L' j=false:=by unfold yk; rw[decide_eq_false (show ¬ j<((aa L':Nat):Int) by omega),cA]
       rw[decide_eq_true j1];refine bad (k:=1500) ?_ rfl;rw[step,hp]; rfl
      ·have hp:yk L' j=true:=by unfold yk; simp only[ay,decide_eq_true_eq]; omega
       rw[decide_eq_false j1,cond_false];by_cases a1:at'<1
       ·rw[decide_eq_true a1];refine bad (k:=1500) ?_ rfl;rw[step,hp,decide_eq_true a1]; rfl
       ·obtain⟨l,hg⟩:=uw hp;rw[decide_eq_false a1,cond_false,hg,af];by_cases a2:at'≥((aa l.2:Nat):Int)
        ·rw[decide_eq_true a2];refine bad (k:=1500) ?_ rfl;rw[step,hp,decide_eq_false a1,hg,af,decide_eq_true a2]; rfl
        ·rw[decide_eq_false a2,cond_false,zdA];exact key h h' he hsd (by omega) (by omega) (by omega) fun l2 hl2=>by
          rw[hg] at hl2; injection hl2 with hl2; subst hl2; omega
    by_cases s0:side=0
    ·rw[show (side != 0)=false by simp [s0],cond_false]
     exact ref2 (.inl s0) rfl
    ·rw[show (side != 0)=true by simp [s0],cond_true]
     by_cases s1:side=1
     ·rw[show (side != 1)=false by simp [s1],cond_false]
      exact ref2 (.inr s1) rfl
     ·rw[show (side != 1)=true by simp [s1],cond_true]
      refine bad (k:=1500) ?_ rfl;rw[refl (b:=true) (by simp only[Bool.or_eq_true,decide_eq_true_eq]; omega)]
      rfl
theorem BE {a0:List zh} {L:List zc} {T:List jI} {C:List zc} (h:wm a0 L T C=true) {i:Int} (he:eqB L i true=true) :
  ∃ A s0 s1,gx L i=some (true,A)∧A=0::za [s0,s1]∧s0.ok a0 24∧s1.ok a0 24∧∃ o,tF a0 L T C i=o∧uN a0 L T C i=o ∧
   ((∃ k,o=wY k)∨∃ σ,Mgu σ ([s0].zip [s1])∧(∀ x,x<24->(σ x).ok a0 24)∧o=ZJ a0 σ (zv i L 0) T C 1502):=by
 obtain⟨A,hi,h0⟩:=Aq he;obtain⟨hsb,l1,l2,l3,l4,l5,l6,-⟩:=zK h;have hs:=v6 hsb;obtain⟨s0,s1,rfl,ok0,ok1,hA48⟩:=J1 (aH.1 l4 _ (kx hi)) h0;obtain⟨sd1,sd2⟩:=Gg hs ok0 ok1 hA48;have hcd:=j8 hs h;have hs0:s0.codes.length+s1.codes.length<=48:=by simpa[za] using hA48
 refine ⟨_,s0,s1,hi,rfl,ok0,ok1,?_⟩;have hpi:yk L i=true:=by
  unfold eqB at he;cases hp:yk L i with
  | true=>rfl
  | false=>rw[hp] at he; cases he
 have fin:∀{o1 o2:Option Vp} {o:Option Vp} {P:Option Vp->Prop},o1=o->o2=o->P o->∃ o,o1=o∧o2=o∧P o:=fun h1 h2 h3=>⟨_,h1,h2,h3⟩;unfold tF uN;rw[zY,h,kp,hpi,hi];simp only[af,az,cond_false,h0,bne_self_eq_false,wE,sd1,sd2,show inR 0 ([s0.codes,s1.codes]).length=some 0 from rfl,show inR 1 ([s0.codes,s1.codes]).length=some 1 from rfl,aB,List.getElem?_cons_succ]
 rw[qD s0,qD s1];rcases Y5 hs (xs:=za [s0]) (ys:=za [s1]) rfl rfl ⟨ok0,trivial⟩ ⟨ok1,trivial⟩ hsb (by rw[← qD]; omega) (by rw[← qD]; omega) with ⟨hu,hno⟩ | ⟨-,σ,hm,hok,hu⟩
 ·rcases sW hs (ts:=[s0]) (us:=[s1]) ⟨ok0,trivial⟩ ⟨ok1,trivial⟩ (by rw[← qD]; omega) (by rw[← qD]; omega) with ⟨tg,-⟩ | ⟨-,σ',hm',tg⟩
  ·rw[hu,tg];exact fin (o:=wY 0) rfl rfl (.inl ⟨_,rfl⟩)
  ·exact absurd hm'.sol (hno.resolve_left (fun h=>h rfl) σ')
 ·rcases sW hs (ts:=[s0]) (us:=[s1]) ⟨ok0,trivial⟩ ⟨ok1,trivial⟩ (by rw[← qD]; omega) (by rw[← qD]; omega) with ⟨tg,hno⟩ | ⟨-,σ',hm',tg⟩
  ·exact absurd hm.sol (hno.resolve_left (fun h=>h rfl) σ)
  ·have:=hm.unique hm';subst this;rw[hu,tg];cases hsh:qO σ (aJ 24) with
   | false=>exact fin (o:=wY 1502) rfl rfl (.inl ⟨_,rfl⟩)
   | true =>
    simp only[cond_true,af,show ((0:Int) != 0)=false from rfl,cond_false,az]
    have hwl:=tQ i L 0;have cW:∀ l∈zv i L 0,Cds l.2:=fun l hl=>hcd _ (yH (vZ L 0 hl));have cT:∀ r∈T,Cds r:=fun r hr=>hcd _ (qX hr);have cC:∀ l∈C,Cds l.2:=fun l hl=>hcd _ (qS hl);rw[Wi hpi (by omega),af,vY i (-1) (by omega) (by omega) (by omega) (by simp) (by simp) (by simp),af]
    simp only[bG,zv];refine fin ?_ (IV (a0:=a0) hs hsh cW cT cC (by omega) (by omega) (by omega) 1502) (.inr ⟨σ,hm,hok,rfl⟩)
    rw[Ae hsh cW cT cC (by omega) (by omega) (by omega),af,xk,af]
    unfold ZJ;cases wm a0 (vL σ (zv i L 0)) (T.map (uX σ)) (vL σ C) with
    | true=>rfl
    | false=>rfl
theorem C3 {a0:List zh} {L:List zc} {T:List jI} {C:List zc} (h:wm a0 L T C=true) {i:Int} (he:eqB L i true=true):uN a0 L T C i=tF a0 L T C i∧OkR a0 (tF a0 L T C i):=by
 obtain⟨A,s0,s1,-,-,-,-,o,o1,o2,o3⟩:=BE h he;rw[o1,o2];refine ⟨rfl,?_⟩;rcases o3 with ⟨k,h⟩ | ⟨σ,-,-,h⟩
 ·exact qB h
 ·rw[h]; exact YQ
theorem DB (a0:List zh) (L:List zc) (T:List jI) (C:List zc) (i:Int):uN a0 L T C i=rH a0 L T C i∧OkR a0 (rH a0 L T C i):=by
 have bad:∀{o o':Option Vp} {k:Int},o=wY k->o'=wY k->o=o'∧OkR a0 o':=fun h h'=>⟨h.trans h'.symm,qB h'⟩;unfold rH;rw[yB,af];cases h:wm a0 L T C with
 | false=>unfold uN; rw[zY,h]; exact bad (k:=1500) rfl rfl
 | true =>
  have hL:∀ l∈L,ua a0 l.2=true:=fun l hl=>aH.1 (zK h).2.2.2.2.1 l hl;rw[az,cond_false,ZL hL,af];cases he:eqB L i true with
  | true =>
   rw[az,cond_false,zdA];exact C3 h he
  | false =>
   refine bad (k:=1500) ?_ rfl;unfold uN;rw[zY,h,af,kp,af];cases hp:yk L i with
   | false=>rfl
   | true =>
    obtain⟨⟨n,A⟩,hg⟩:=uw hp;obtain⟨c,hc⟩:=Q6 (hL _ (kx hg));rw[LX hg hp,hc] at he;rw[hg,az,cond_false,cond_false,af];cases n with
    | false=>rfl
    | true =>
     simp only[af,hc,az,cond_false];have hcc:(c:Int)≠0:=fun e=>by rw[e] at he; exact absurd he (by decide)
     rw[show ((c:Int) != 0)=true by simpa using hcc]
     rfl
section
variable {a0:List zh} {L:List zc} (hL:∀ l∈L,ua a0 l.2=true) (T:List jI) (C:List zc)
include hL
end
section
variable (a0:List zh) (L:List zc) (T:List jI) (C:List zc) (a b:Int) (L':List zc) (T':List jI) (C':List zc)
def zaH (j:Int):Nat:=match gx L' j with
 | some l=>l.2.length
 | none=>0
variable {a0 L T C a b L' T' C'} (h:wm a0 L T C=true) (h':wm a0 L' T' C'=true)
include h h'
end
section
variable {a0:List zh} {L:List zc} {T:List jI} {C:List zc} {a b:Int} {L':List zc} {T':List jI} {C':List zc} (h:wm a0 L T C=true) (h':wm a0 L' T' C'=true)
 {P:wX->Prop} (hP:∀(i side j:Int) (at':Nat) (r:Vp),eqB L i false=true->(side=0∨side=1)->0<=j->j<L'.length->1<=at'->at'<zaH L' j->YK a0 L T C i side L' T' C' j (at':Int)=some r->r.2.2.1=true->r.2.2.2.1=0->wm a0 r.1 r.2.1 r.2.2.2.2=true->Au r.1 r.2.1 r.2.2.2.2->P (3,a,i,side,b,j,(at':Int),r.1,r.2.1,r.2.2.2.2))
include h h' hP
end
section
variable (a0:List zh) (L:List zc) (T:List jI) (C:List zc) (a:Int)
variable {a0 L T C a} (h:wm a0 L T C=true)
include h
end
theorem DY {m:Int} {nums:List Int} {env:Nat->Int}:(ts:List Tm)->De m nums env ts=ts.map (Gu m nums env)
 | []=>rfl
 | t::ts=>by rw[De,DY ts]; rfl
theorem RT.val {m:Int} {nums:List Int} {env:Nat->Int} {t u a b:Tm} (h:RT t u a b) (hv:Gu m nums env t=Gu m nums env u):Gu m nums env a=Gu m nums env b:=by
 induction h with
 | here=>exact hv
 | arg c l r h ih=>simp only[Gu,DY,dg,aN,ih]
theorem RR.val {m:Int} {nums:List Int} {env:Nat->Int} {t u:Tm} {ts us:List Tm} (h:RR t u ts us) (hv:Gu m nums env t=Gu m nums env u):De m nums env ts=De m nums env us:=by
 obtain⟨l,a,b,r,rfl,rfl,h⟩:=h;simp only[DY,dg,aN,h.val hv]
section
variable {m:Nat} (hm:0<m) (hm3:m<=3) {nums:List Int} (hn:I5 nums) {a0:List zh} (hs:SignOk a0)
include hm hm3 hn hs
end
theorem Rise.ext:{xs ys:List Int}->Rise xs->Rise ys->(∀ x,x∈xs↔x∈ys)->xs=ys
 | [],[],_,_,_=>rfl
 | [],y::ys,_,_,h=>nomatch (h y).2 (aj ..)
 | x::xs,[],_,_,h=>nomatch (h x).1 (aj ..)
 | x::xs,y::ys,hx,hy,h=>by
  have hx:=cz.1 hx;have hy:=cz.1 hy;have e:x=y:=by
   rcases aC.1 ((h x).1 (aj ..)) with h1 | h1
   ·exact h1
   ·rcases aC.1 ((h y).2 (aj ..)) with h2 | h2
    ·exact h2.symm
    ·have:=hx.1 y h2;have:=hy.1 x h1;omega
  subst e;rw[Rise.ext hx.2 hy.2 fun z => ?_];constructor
  ·intro hz;rcases aC.1 ((h z).1 (ai _ hz)) with h1 | h1
   ·have:=hx.1 z hz; omega
   ·exact h1
  ·intro hz;rcases aC.1 ((h z).2 (ai _ hz)) with h1 | h1
   ·have:=hy.1 z hz; omega
   ·exact h1
theorem Rise.bound {n:Nat}:{xs:List Int}->{a:Int}->Rise xs->(∀ x∈xs,a<=x∧x<a+n)->xs.length<=n
 | [],_,_,_=>bK _
 | x::xs,a,h,hb=>by
  have h:=cz.1 h;have h0:=hb x (aj ..);have:xs.length<=n - 1:=Rise.bound (n:=n - 1) (a:=a+1) h.2 fun y hy=>by
   have:=h.1 y hy;have:=hb y (ai _ hy);omega
  rw[ak];omega
def Ext (sg sg':List zh):Prop:=∃ l,sg'=sg++l∧∀ e∈l,e.2.1=2∧e.2.2.2=1
theorem Ext.refl (sg:List zh):Ext sg sg:=⟨[],by simp,fun e h=>nomatch h⟩
theorem Ext.trans {a b c:List zh} (h:Ext a b) (h':Ext b c):Ext a c:=by
 obtain⟨l,rfl,hl⟩:=h;obtain⟨m,rfl,hm⟩:=h';exact ⟨l++m,by rw[aU],fun e he=>(aI.1 he).elim (hl e) (hm e)⟩
theorem Ext.get {a b:List zh} (h:Ext a b) {i:Nat} {e:zh} (he:a[i]? = some e):b[i]? = some e:=by
 obtain⟨l,rfl,-⟩:=h;rw[List.getElem?_append_left (au.1 he).1,he]
theorem Ck {a b:List zh} (h:Ext a b) {x:Int} {k:Nat} (hk:v7 a x=some k):v7 b x=some k:=by
 unfold v7 at hk ⊢;cases hx:decide (x<0) with
 | true=>rw[hx] at hk; exact hk
 | false =>
  rw[hx] at hk;simp only[cond_false] at hk ⊢;cases he:a[x.toNat]? with
  | none=>rw[he] at hk; cases hk
  | some e=>rw[he] at hk; rw[h.get he]; exact hk
mutual
theorem TF {a b:List zh} (h:Ext a b) {N:Nat}:(t:Tm)->t.ok a N->t.ok b N
 | .v _,ht=>ht
 | .f _ as,ht=>⟨Ck h ht.1,Af h as ht.2⟩
theorem Af {a b:List zh} (h:Ext a b) {N:Nat}:(ts:List Tm)->okR a N ts->okR b N ts
 | [],_=>trivial
 | t::ts,ht=>⟨TF h t ht.1,Af h ts ht.2⟩
end
def KD (σ:Sb) (v:Nat) (t:Tm):Sb:=fun x=>if x=v then t else σ x
def tM:Option jS :=
 some ([(([61]:Str),0,2,1),(([97]:Str),1,0,1),(([98]:Str),1,0,2),(([102]:Str),1,1,1),(([103]:Str),1,2,3),(([112]:Str),0,1,1),(([114]:Str),0,2,2)]:List zh)
def jo:Option jT :=
 some ([(0,(-1),0,0,(-1),0,0,([(false,([5,1]:List Int))]:List zc),([]:jR),([]:jQ)),(0,(-1),0,0,(-1),0,0,([(true,([5,(-1)]:List Int))]:List zc),([([(-1)]:List Int)]:List jI),([]:jQ)),(1,0,0,0,1,0,0,([]:jQ),([([1]:List Int)]:List jI),([]:jQ))]:List jU)
def wx (a0:Int) (a1:Int) (a2:Int):Option Bool :=
 cond (decide (a0≥a1))
 (some (decide (a0<=a2)))
 (some false)
def tc (a0:Int) (a1:Int) (a2:Int) (a3:Int) (a4:Int) (a5:Int) (a6:Int) (a7:jQ) (a8:jR) (a9:jQ):Option Bool :=
 (wx a0 0 7).bind fun r8 =>
 cond r8
 ((wx a1 (-1) 199).bind fun r9 =>
  cond r9
  ((wx a4 (-1) 199).bind fun r10 =>
   cond r10
   ((wx a2 0 4).bind fun r11 =>
    cond r11
    ((wx a5 0 4).bind fun r12 =>
     cond r12
     ((wx a3 0 1).bind fun r13 =>
      cond r13
      ((wx a6 0 48).bind fun r14 =>
       some r14)
      (some false))
     (some false))
    (some false))
   (some false))
  (some false))
 (some false)
def WW (a0:jS) (a1:Int) (a2:Int) (a3:Int) (a4:Int) (a5:Int) (a6:Int) (a7:Int) (a8:jQ) (a9:jR) (a10:jQ):Option Bool :=
 (tc a1 a2 a3 a4 a5 a6 a7 a8 a9 a10).bind fun r3 =>
 cond r3
 ((qx a0 a8 a9 a10).bind fun r4 =>
  some r4)
 (some false)
def u9 (a0:Int) (a1:Int) (a2:Int) (a3:Int) (a4:Int) (a5:Int) (a6:Int) (a7:jQ) (a8:jR) (a9:jQ) (a10:jS):Option Bool :=
 (WW a10 a0 a1 a2 a3 a4 a5 a6 a7 a8 a9).bind fun r2 =>
 some (!r2)
def yO (rec:(jT×Int×Int×jS)->Option (Unit⊕Int)) (x:(jT×Int×Int×jS)):Option (Unit⊕Int) :=
 cond (decide (x.2.2.1<x.2.1))
 ((gx x.1 x.2.2.1).bind fun e3 =>
  (u9 e3.1 e3.2.1 e3.2.2.1 e3.2.2.2.1 e3.2.2.2.2.1 e3.2.2.2.2.2.1 e3.2.2.2.2.2.2.1 e3.2.2.2.2.2.2.2.1 e3.2.2.2.2.2.2.2.2.1 e3.2.2.2.2.2.2.2.2.2 x.2.2.2).bind fun r4 =>
  cond r4
  (some (aF x.2.2.1))
  (rec (x.1,x.2.1,(ag .i64 (x.2.2.1+1)),x.2.2.2)))
 (some (aW ()))
def uM (a0:jT) (a1:jS):Option Int :=
 ((lp yO zd) (a0,((aa a0:Nat):Int),0,a1)).bind fun r8 =>
 yl r8
 (fun z9=>some (-1))
 (fun z10=>some z10)
def vN (a0:jT) (a1:jS):Option Bool :=
 (uM a0 a1).bind fun r2 =>
 some (decide (r2≥0))
def uO (a0:jS) (a1:jT):Option Bool :=
 (YP a0).bind fun r3 =>
 cond r3
 (cond (decide (((aa a1:Nat):Int)<=200))
  ((vN a1 a0).bind fun r4 =>
   some (!r4))
  (some false))
 (some false)
def Zf (a0:Int) (a1:Int) (a2:Int) (a3:Int) (a4:Int) (a5:Int) (a6:Int) (a7:jQ) (a8:jR) (a9:jQ):Option (Int×Int×Int×Int×Int×Int×Int) :=
 cond (a0==0)
 (some (a0,(-1),0,0,(-1),0,0))
 (cond (a0==1)
  (some (a0,a1,a2,0,a4,a5,0))
  (cond (a0==2)
   (some (a0,a1,a2,0,(-1),a5,0))
   (cond (a0==3)
    (some (a0,a1,a2,a3,a4,a5,a6))
    (cond (a0==4)
     (cond (a0==4)
      (some (a0,a1,a2,0,(-1),0,0))
      (cond (a0==5)
       (cond (a0==5)
        (some (a0,a1,0,0,a4,0,0))
        (some (a0,a1,0,0,(-1),0,0)))
       (cond (a0==6)
        (some (a0,a1,0,0,a4,0,0))
        (some (a0,a1,0,0,(-1),0,0)))))
     (cond (a0==7)
      (some (a0,a1,a2,0,(-1),0,0))
      (cond (a0==5)
       (cond (a0==5)
        (some (a0,a1,0,0,a4,0,0))
        (some (a0,a1,0,0,(-1),0,0)))
       (cond (a0==6)
        (some (a0,a1,0,0,a4,0,0))
        (some (a0,a1,0,0,(-1),0,0)))))))))
def wP (a0:Int) (a1:Int) (a2:Int) (a3:Int) (a4:Int) (a5:Int) (a6:Int) (a7:jQ) (a8:jR) (a9:jQ) (a10:Int) (a11:Int) (a12:Int) (a13:Int) (a14:Int) (a15:Int) (a16:Int) (a17:jQ) (a18:jR) (a19:jQ):Option Bool :=
 cond (a0==a10)
 (cond (a1==a11)
  (cond (a2==a12)
   (cond (a3==a13)
    (cond (a4==a14)
     (cond (a5==a15)
      (some (a6==a16))
      (some false))
     (some false))
    (some false))
   (some false))
  (some false))
 (some false)
def xZ (rec:(jQ×Int×Int×jQ×jR×jQ)->Option (jQ×jR×jQ)) (x:(jQ×Int×Int×jQ×jR×jQ)):Option (jQ×jR×jQ) :=
 cond (decide (x.2.2.1<x.2.1))
 ((gx x.1 x.2.2.1).bind fun e19 =>
  (zB e19.2).bind fun r20 =>
  cond (yb (aa x.2.2.2.2.2+aa ([(e19.1,r20)]:List zc)) 32)
  (rec (x.1,x.2.1,(ag .i64 (x.2.2.1+1)),x.2.2.2.1,x.2.2.2.2.1,(x.2.2.2.2.2++([(e19.1,r20)]:List zc))))
  (none))
 (some (x.2.2.2.1,x.2.2.2.2.1,x.2.2.2.2.2))
def xY (rec:(jR×Int×Int×jQ×jR×jQ×jQ×jR)->Option (jQ×jR)) (x:(jR×Int×Int×jQ×jR×jQ×jQ×jR)):Option (jQ×jR) :=
 cond (decide (x.2.2.1<x.2.1))
 ((gx x.1 x.2.2.1).bind fun e12 =>
  (zB e12).bind fun r13 =>
  cond (yb (aa x.2.2.2.2.2.2.2+aa ([r13]:List jI)) 24)
  (rec (x.1,x.2.1,(ag .i64 (x.2.2.1+1)),x.2.2.2.1,x.2.2.2.2.1,x.2.2.2.2.2.1,x.2.2.2.2.2.2.1,(x.2.2.2.2.2.2.2++([r13]:List jI))))
  (none))
 (some (x.2.2.2.2.2.2.1,x.2.2.2.2.2.2.2))
def wh (rec:(jQ×Int×Int×jQ×jR×jQ×jQ)->Option jQ) (x:(jQ×Int×Int×jQ×jR×jQ×jQ)):Option jQ :=
 cond (decide (x.2.2.1<x.2.1))
 ((gx x.1 x.2.2.1).bind fun e5 =>
  (zB e5.2).bind fun r6 =>
  cond (yb (aa x.2.2.2.2.2.2+aa ([(e5.1,r6)]:List zc)) 32)
  (rec (x.1,x.2.1,(ag .i64 (x.2.2.1+1)),x.2.2.2.1,x.2.2.2.2.1,x.2.2.2.2.2.1,(x.2.2.2.2.2.2++([(e5.1,r6)]:List zc))))
  (none))
 (some x.2.2.2.2.2.2)
def jW (a0:jQ) (a1:jR) (a2:jQ):Option (jQ×jR×jQ) :=
 ((lp wh zd) (a0,((aa a0:Nat):Int),0,a0,a1,a2,([]:jQ))).bind fun r22 =>
 ((lp xY zd) (a1,((aa a1:Nat):Int),0,a0,a1,a2,r22,([]:jR))).bind fun r23 =>
 ((lp xZ zd) (a2,((aa a2:Nat):Int),0,r23.1,r23.2,([]:jQ))).bind fun r24 =>
 some (r24.1,r24.2.1,r24.2.2)
def uF (a0:jQ) (a1:jR) (a2:jQ):Option (jQ×jR×jQ) :=
 (jW a0 a1 a2).bind fun r2 =>
 some (r2.1,r2.2.1,r2.2.2)
def rV (a0:jQ) (a1:jR) (a2:jQ):Option Bool :=
 cond (((aa a0:Nat):Int)==1)
 (cond (((aa a1:Nat):Int)==0)
  (some (((aa a2:Nat):Int)==0))
  (some false))
 (some false)
def xz (rec:((Option jI)×jI×Int×Int)->Option (Unit⊕Bool)) (x:((Option jI)×jI×Int×Int)):Option (Unit⊕Bool) :=
 cond (decide (x.2.2.2<x.2.2.1))
 ((gx (bJ x.1 []) x.2.2.2).bind fun e3 =>
  (gx x.2.1 x.2.2.2).bind fun e4 =>
  cond (e3 != e4)
  (some (aF false))
  (rec (x.1,x.2.1,x.2.2.1,(ag .i64 (x.2.2.2+1)))))
 (some (aW ()))
def wy (a0:(Option jI)) (a1:jI):Option Bool :=
 cond (((aa (bJ a0 []):Nat):Int) != ((aa a1:Nat):Int))
 (some false)
 (((lp xz zd) (a0,a1,((aa (bJ a0 []):Nat):Int),0)).bind fun r8 =>
  yl r8
  (fun z9=>some true)
  (fun z10=>some z10))
def qI (rec:(jS×jI×Int×jI×Int×Int×(List (Option jI)))->Option ((Int×(List (Option jI)))⊕(Bool×(List (Option jI))))) (x:(jS×jI×Int×jI×Int×Int×(List (Option jI)))):Option ((Int×(List (Option jI)))⊕(Bool×(List (Option jI)))) :=
 cond (decide (x.2.2.2.2.2.1<x.2.2.2.2.1))
 ((gx x.2.2.2.1 x.2.2.2.2.2.1).bind fun e17 =>
  cond (decide (x.2.2.1≥((aa x.2.1:Nat):Int)))
  (some (aF (false,x.2.2.2.2.2.2)))
  (cond (decide (e17≥0))
   ((gx x.2.1 x.2.2.1).bind fun e18 =>
    cond (e18 != e17)
    (some (aF (false,x.2.2.2.2.2.2)))
    (rec (x.1,x.2.1,(ag .i64 (x.2.2.1+1)),x.2.2.2.1,x.2.2.2.2.1,(ag .i64 (x.2.2.2.2.2.1+1)),x.2.2.2.2.2.2)))
   ((xE x.1 x.2.1 x.2.2.1).bind fun r19 =>
    cond (!r19.2)
    (some (aF (false,x.2.2.2.2.2.2)))
    ((vI x.2.1 (some x.2.2.1) (some r19.1)).bind fun y20 =>
     (zP e17).bind fun r21 =>
     (inR r21 24).bind fun k22 =>
     (x.2.2.2.2.2.2[k22]?).bind fun x23 =>
     cond (cm x23)
     ((inR r21 24).bind fun k24 =>
      (x.2.2.2.2.2.2[k24]?).bind fun x25 =>
      (nn y20).bind fun p26 =>
      (inR r21 24).bind fun k27 =>
      ((bn x.2.2.2.2.2.2 k24 (some p26))[k27]?).bind fun x28 =>
      (wy x28 y20).bind fun r29 =>
      cond (!r29)
      (some (aF (false,(bn x.2.2.2.2.2.2 k24 (some p26)))))
      (rec (x.1,x.2.1,r19.1,x.2.2.2.1,x.2.2.2.2.1,(ag .i64 (x.2.2.2.2.2.1+1)),(bn x.2.2.2.2.2.2 k24 (some p26)))))
     ((inR r21 24).bind fun k30 =>
      (x.2.2.2.2.2.2[k30]?).bind fun x31 =>
      (wy x31 y20).bind fun r32 =>
      cond (!r32)
      (some (aF (false,x.2.2.2.2.2.2)))
      (rec (x.1,x.2.1,r19.1,x.2.2.2.1,x.2.2.2.2.1,(ag .i64 (x.2.2.2.2.2.1+1)),x.2.2.2.2.2.2)))))))
 (some (aW (x.2.2.1,x.2.2.2.2.2.2)))
def qA (a0:jS) (a1:jI) (a2:jI) (a3:(List (Option jI))):Option (Bool×(List (Option jI))) :=
 ((lp qI zd) (a0,a2,0,a1,((aa a1:Nat):Int),0,a3)).bind fun r36 =>
 yl r36
 (fun z37=>cond (aA (aa a3) (aa z37.2)&&true)
  (some ((z37.1==((aa a2:Nat):Int)),z37.2))
  (none))
 (fun z38=>cond (aA (aa a3) (aa z38.2)&&true)
  (some (z38.1,z38.2))
  (none))
def xj (a0:Bool) (a1:jI) (a2:Bool) (a3:jI) (a4:jS):Option Bool :=
 cond (!(a0==a2))
 ((qA a4 a3 a1 (ax 24 (none:(Option jI)))).bind fun r2 =>
  some r2.1)
 (some false)
def yN (rec:(jQ×Int×Int×Bool×jI×jS)->Option (Unit⊕Int)) (x:(jQ×Int×Int×Bool×jI×jS)):Option (Unit⊕Int) :=
 cond (decide (x.2.2.1<x.2.1))
 ((gx x.1 x.2.2.1).bind fun e3 =>
  (xj e3.1 e3.2 x.2.2.2.1 x.2.2.2.2.1 x.2.2.2.2.2).bind fun r4 =>
  cond r4
  (some (aF x.2.2.1))
  (rec (x.1,x.2.1,(ag .i64 (x.2.2.1+1)),x.2.2.2.1,x.2.2.2.2.1,x.2.2.2.2.2)))
 (some (aW ()))
def uL (a0:jQ) (a1:Bool) (a2:jI) (a3:jS):Option Int :=
 ((lp yN zd) (a0,((aa a0:Nat):Int),0,a1,a2,a3)).bind fun r8 =>
 yl r8
 (fun z9=>some (-1))
 (fun z10=>some z10)
def yg (rec:(Int×Int×jQ×Bool×jI×jS)->Option (Int×jQ)) (x:(Int×Int×jQ×Bool×jI×jS)):Option (Int×jQ) :=
 cond (decide (x.2.1<((aa x.2.2.1:Nat):Int)))
 ((inR x.2.1 (aa x.2.2.1)).bind fun k12 =>
  (x.2.2.1[k12]?).bind fun x13 =>
  (xj x13.1 x13.2 x.2.2.2.1 x.2.2.2.2.1 x.2.2.2.2.2).bind fun r14 =>
  cond (!r14)
  ((inR x.1 (aa x.2.2.1)).bind fun k15 =>
   (x.2.2.1[k15]?).bind fun x16 =>
   rec ((ag .i64 (x.1+1)),(ag .i64 (x.2.1+1)),(bn x.2.2.1 k15 (x13.1,x13.2)),x.2.2.2.1,x.2.2.2.2.1,x.2.2.2.2.2))
  (rec (x.1,(ag .i64 (x.2.1+1)),x.2.2.1,x.2.2.2.1,x.2.2.2.2.1,x.2.2.2.2.2)))
 (some (x.1,x.2.2.1))
def vh (a0:jQ) (a1:Bool) (a2:jI) (a3:jS):Option jQ :=
 (uL a0 a1 a2 a3).bind fun r19 =>
 cond (r19==(-1))
 (some a0)
 (((lp yg zd) (r19,(ag .i64 (r19+1)),a0,a1,a2,a3)).bind fun r20 =>
  cond (decide (0<=r20.1))
  (cond (decide (r20.1<=((aa r20.2:Nat):Int)))
   (cond (decide (((aa r20.2:Nat):Int)<=((aa r20.2:Nat):Int)))
    ((vI (Df (false,([]:jI)) r20.2 (0+bb r20.1) (bb ((aa r20.2:Nat):Int) - bb r20.1)) none (some r20.1)).bind fun y21 =>
     some y21)
    (none))
   (none))
  (none))
def WS (a0:jS) (a1:Bool) (a2:jI) (a3:jQ) (a4:jR) (a5:jQ):Option (jQ×jR×Int×Int×jQ) :=
 (Yp a0 a1 a2).bind fun r6 =>
 cond (!r6)
 (some (([]:jQ),([]:jR),0,1600,([]:jQ)))
 ((qx a0 a3 a4 a5).bind fun r7 =>
  cond (!r7)
  (some (([]:jQ),([]:jR),0,1600,([]:jQ)))
  ((uF a3 a4 a5).bind fun r8 =>
   (vh r8.1 a1 a2 a0).bind fun r9 =>
   (qQ a0 r9 r8.2.1 r8.2.2).bind fun r10 =>
   some (r10.1,r10.2.1,(ag .i64 (((aa a3:Nat):Int) - ((aa r9:Nat):Int))),0,r10.2.2.2)))
def sq (a0:jS) (a1:jI) (a2:jI):Option Bool :=
 (v9 a0 a1 a2).bind fun r2 =>
 cond (r2.2==0)
 (some (r2.1==2))
 (some false)
def t9 (rec:(jS×jR×Int×Int)->Option (Unit⊕(Bool×Int×jI×jI))) (x:(jS×jR×Int×Int)):Option (Unit⊕(Bool×Int×jI×jI)) :=
 cond (decide (x.2.2.2<x.2.2.1))
 ((gx x.2.1 x.2.2.2).bind fun e15 =>
  (gx x.2.1 (ag .i64 (1 - x.2.2.2))).bind fun e16 =>
  (sq x.1 e15 e16).bind fun r17 =>
  cond r17
  ((gx x.2.1 x.2.2.2).bind fun e18 =>
   (zB e18).bind fun r19 =>
   (gx x.2.1 (ag .i64 (1 - x.2.2.2))).bind fun e20 =>
   (zB e20).bind fun r21 =>
   some (aF (true,0,r19,r21)))
  (rec (x.1,x.2.1,x.2.2.1,(ag .i64 (x.2.2.2+1)))))
 (some (aW ()))
def Q4 (a0:jS) (a1:jQ) (a2:jR) (a3:jQ):Option (Bool×Int×jI×jI) :=
 (qx a0 a1 a2 a3).bind fun r25 =>
 cond (!r25)
 (some (false,1600,([]:jI),([]:jI)))
 ((rV a1 a2 a3).bind fun r26 =>
  cond (!r26)
  (some (false,0,([]:jI),([]:jI)))
  ((gx a1 0).bind fun e27 =>
   cond e27.1
   (some (false,0,([]:jI),([]:jI)))
   ((gx a1 0).bind fun e28 =>
    (gx e28.2 0).bind fun e29 =>
    cond (e29 != 0)
    (some (false,0,([]:jI),([]:jI)))
    ((gx a1 0).bind fun e30 =>
     (uc a0 e30.2).bind fun r31 =>
     ((lp t9 zd) (a0,r31,((aa r31:Nat):Int),0)).bind fun r32 =>
     yl r32
     (fun z33=>some (false,0,([]:jI),([]:jI)))
     (fun z34=>some (z34.1,z34.2.1,z34.2.2.1,z34.2.2.2))))))
def vW (a0:jS) (a1:jI) (a2:jI):Option Bool :=
 (uI a0 a1).bind fun r4 =>
 cond r4
 ((uI a0 a2).bind fun r5 =>
  cond r5
  ((sq a0 a1 a2).bind fun r6 =>
   some r6)
  (some false))
 (some false)
def qM (rec:(Int×(List (Option jI))×(List (Int×jI)))->Option ((List (Option jI))×(List (Int×jI)))) (x:(Int×(List (Option jI))×(List (Int×jI)))):Option ((List (Option jI))×(List (Int×jI))) :=
 cond (decide (x.1<24))
 ((inR x.1 24).bind fun k10 =>
  (x.2.1[k10]?).bind fun x11 =>
  cond (!(cm x11))
  (cond (decide (((aa (bJ x11 []):Nat):Int)>1))
   ((zB (bJ x11 [])).bind fun r12 =>
    cond (yb (aa x.2.2+aa ([(x.1,r12)]:List (Int×jI))) 32)
    (rec ((ag .i64 (x.1+1)),x.2.1,(x.2.2++([(x.1,r12)]:List (Int×jI)))))
    (none))
   ((gx (bJ x11 []) 0).bind fun e13 =>
    (zP x.1).bind fun r14 =>
    cond (e13 != r14)
    ((zB (bJ x11 [])).bind fun r15 =>
     cond (yb (aa x.2.2+aa ([(x.1,r15)]:List (Int×jI))) 32)
     (rec ((ag .i64 (x.1+1)),x.2.1,(x.2.2++([(x.1,r15)]:List (Int×jI)))))
     (none))
    (rec ((ag .i64 (x.1+1)),x.2.1,x.2.2))))
  (rec ((ag .i64 (x.1+1)),x.2.1,x.2.2)))
 (some (x.2.1,x.2.2))
def vm (a0:(List (Option jI))):Option ((List (Int×jI))×(List (Option jI))) :=
 ((lp qM zd) (0,a0,([]:(List (Int×jI))))).bind fun r17 =>
 cond (aA (aa a0) (aa r17.1)&&true)
 (some (r17.2,r17.1))
 (none)
def zI (rec:(jS×jI×Int×Int×jI×jI)->Option (jI×Int×Bool)) (x:(jS×jI×Int×Int×jI×jI)):Option (jI×Int×Bool) :=
 cond (x.2.2.2.1==((aa x.2.1:Nat):Int))
 (some (x.2.1,x.2.2.1,true))
 ((xE x.1 x.2.1 x.2.2.2.1).bind fun r12 =>
  (vI x.2.1 (some x.2.2.2.1) (some r12.1)).bind fun y13 =>
  (qA x.1 x.2.2.2.2.1 y13 (ax 24 (none:(Option jI)))).bind fun r14 =>
  cond (!r14.1)
  (rec (x.1,x.2.1,x.2.2.1,(ag .i64 (x.2.2.2.1+1)),x.2.2.2.2.1,x.2.2.2.2.2))
  (cond (x.2.2.1==100)
   (some (([]:jI),0,false))
   ((vI x.2.1 none (some x.2.2.2.1)).bind fun y15 =>
    (vm r14.2).bind fun r16 =>
    (Zt r16.1 x.2.2.2.2.2).bind fun r17 =>
    (vI x.2.1 (some r12.1) none).bind fun y18 =>
    (wO ([y15,r17,y18]:List jI)).bind fun r19 =>
    cond (decide (((aa r19:Nat):Int)>48))
    (some (([]:jI),0,false))
    (rec (x.1,r19,(ag .i64 (x.2.2.1+1)),0,x.2.2.2.2.1,x.2.2.2.2.2)))))
def kv (a0:jS) (a1:jI) (a2:jI) (a3:jI):Option (jI×Int×Bool) :=
 (zB a3).bind fun r25 =>
 cond (0==((aa r25:Nat):Int))
 (some (r25,0,true))
 ((xE a0 r25 0).bind fun r26 =>
  cond (decide (0<=r26.1))
  (cond (decide (r26.1<=((aa r25:Nat):Int)))
   ((qA a0 a1 (er (bb r26.1 - bb 0) (ep 0 r25)) (ax 24 (none:(Option jI)))).bind fun r27 =>
    cond (!r27.1)
    ((((lp zI zd) (a0,r25,0,1,a1,a2))).bind fun r28 =>
     some (r28.1,r28.2.1,r28.2.2))
    (cond (decide (0<=0))
     (cond (decide (0<=((aa r25:Nat):Int)))
      ((vm r27.2).bind fun r29 =>
       (Zt r29.1 a2).bind fun r30 =>
       cond (decide (0<=r26.1))
       (cond (decide (r26.1<=((aa r25:Nat):Int)))
        (cond (decide (((aa r25:Nat):Int)<=((aa r25:Nat):Int)))
         ((wO ([(er (bb 0 - bb 0) (ep 0 r25)),r30,(er (bb ((aa r25:Nat):Int) - bb r26.1) (ep (0+bb r26.1) r25))]:List jI)).bind fun r31 =>
          cond (decide (((aa r31:Nat):Int)>48))
          (some (([]:jI),0,false))
          ((((lp zI zd) (a0,r31,1,0,a1,a2))).bind fun r32 =>
           some (r32.1,r32.2.1,r32.2.2)))
         (none))
        (none))
       (none))
      (none))
     (none)))
   (none))
  (none))
def wv (rec:(jS×Int×Int×Int×jI×jI×jR×jQ×jQ)->Option ((Int×jR×jQ×jQ)⊕(Int×Int))) (x:(jS×Int×Int×Int×jI×jI×jR×jQ×jQ)):Option ((Int×jR×jQ×jQ)⊕(Int×Int)) :=
 cond (decide (x.2.2.2.1<x.2.2.1))
 ((inR x.2.2.2.1 (aa x.2.2.2.2.2.2.2.2)).bind fun k18 =>
  (x.2.2.2.2.2.2.2.2[k18]?).bind fun x19 =>
  (vI x19.2 (some 1) none).bind fun y20 =>
  (kv x.1 x.2.2.2.2.1 x.2.2.2.2.2.1 y20).bind fun r21 =>
  cond (!r21.2.2)
  (some (aF (0,1601)))
  ((gx x19.2 0).bind fun e22 =>
   cond (yb (aa ([e22]:List Int)+aa r21.1) 8)
   ((inR x.2.2.2.1 (aa x.2.2.2.2.2.2.2.2)).bind fun k23 =>
    (x.2.2.2.2.2.2.2.2[k23]?).bind fun x24 =>
    rec (x.1,(ag .i64 (x.2.1+r21.2.1)),x.2.2.1,(ag .i64 (x.2.2.2.1+1)),x.2.2.2.2.1,x.2.2.2.2.2.1,x.2.2.2.2.2.2.1,x.2.2.2.2.2.2.2.1,(bn x.2.2.2.2.2.2.2.2 k23 (x24.1,(([e22]:List Int)++r21.1)))))
   (none)))
 (some (aW (x.2.1,x.2.2.2.2.2.2.1,x.2.2.2.2.2.2.2.1,x.2.2.2.2.2.2.2.2)))
def Zk (a0:jS) (a1:jI) (a2:jI) (a3:jQ) (a4:jR) (a5:jQ):Option (jQ×jR×Int×Int×jQ) :=
 (vW a0 a1 a2).bind fun r29 =>
 cond (!r29)
 (some (([]:jQ),([]:jR),0,1600,([]:jQ)))
 ((qx a0 a3 a4 a5).bind fun r30 =>
  cond (!r30)
  (some (([]:jQ),([]:jR),0,1600,([]:jQ)))
  ((uF a3 a4 a5).bind fun r31 =>
   ((lp wv zd) (a0,0,((aa r31.1:Nat):Int),0,a1,a2,r31.2.1,r31.2.2,r31.1)).bind fun r32 =>
   yl r32
   (fun z33=>(qQ a0 z33.2.2.2 z33.2.1 z33.2.2.1).bind fun r34 =>
    cond (r34.2.2.1 != 0)
    (some (([]:jQ),([]:jR),0,1601,([]:jQ)))
    (some (r34.1,r34.2.1,z33.1,0,r34.2.2.2)))
   (fun z35=>some (([]:jQ),([]:jR),z35.1,z35.2,([]:jQ)))))
def u5 (a0:jS) (a1:Int) (a2:jQ) (a3:jR) (a4:jQ) (a5:jQ) (a6:jR) (a7:jQ):Option (jQ×jR×Bool×jQ) :=
 cond (a1==6)
 ((rV a5 a6 a7).bind fun r6 =>
  cond (!r6)
  (some (([]:jQ),([]:jR),false,([]:jQ)))
  ((gx a5 0).bind fun e7 =>
   (WS a0 e7.1 e7.2 a2 a3 a4).bind fun r8 =>
   cond (r8.2.2.2.1==0)
   (some (r8.1,r8.2.1,(decide (r8.2.2.1>0)),r8.2.2.2.2))
   (some (r8.1,r8.2.1,false,r8.2.2.2.2))))
 ((Q4 a0 a5 a6 a7).bind fun r9 =>
  cond (!r9.1)
  (some (([]:jQ),([]:jR),false,([]:jQ)))
  ((Zk a0 r9.2.2.1 r9.2.2.2 a2 a3 a4).bind fun r10 =>
   cond (r10.2.2.2.1==0)
   (some (r10.1,r10.2.1,(decide (r10.2.2.1>0)),r10.2.2.2.2))
   (some (r10.1,r10.2.1,false,r10.2.2.2.2))))
def wI (a0:jS) (a1:Int) (a2:Int) (a3:Int) (a4:Int) (a5:Int) (a6:Int) (a7:Int) (a8:jQ) (a9:jR) (a10:jQ) (a11:jQ) (a12:jR) (a13:jQ) (a14:jQ) (a15:jR) (a16:jQ):Option (jQ×jR×Bool×jQ) :=
 cond (a1==1)
 ((kc a0 a11 a12 a13 a3 a14 a15 a16 a6).bind fun r11 =>
  cond r11.2.2.1
  (some (r11.1,r11.2.1,(r11.2.2.2.1==0),r11.2.2.2.2))
  (some (r11.1,r11.2.1,false,r11.2.2.2.2)))
 (cond (a1==2)
  ((YM a0 a11 a12 a13 a3 a6).bind fun r12 =>
   cond r12.2.2.1
   (some (r12.1,r12.2.1,(r12.2.2.2.1==0),r12.2.2.2.2))
   (some (r12.1,r12.2.1,false,r12.2.2.2.2)))
  (cond (a1==3)
   ((YK a0 a11 a12 a13 a3 a4 a14 a15 a16 a6 a7).bind fun r13 =>
    cond r13.2.2.1
    (some (r13.1,r13.2.1,(r13.2.2.2.1==0),r13.2.2.2.2))
    (some (r13.1,r13.2.1,false,r13.2.2.2.2)))
   (cond (a1==4)
    ((rH a0 a11 a12 a13 a3).bind fun r14 =>
     cond r14.2.2.1
     (some (r14.1,r14.2.1,(r14.2.2.2.1==0),r14.2.2.2.2))
     (some (r14.1,r14.2.1,false,r14.2.2.2.2)))
    (cond (a1==5)
     (cond (a1==5)
      ((u5 a0 a1 a11 a12 a13 a14 a15 a16).bind fun r15 =>
       some (r15.1,r15.2.1,r15.2.2.1,r15.2.2.2))
      (cond (a1==7)
       (cond (decide (a3<((aa a11:Nat):Int)))
        ((gx a11 a3).bind fun e16 =>
         cond e16.1
         ((va a0 a11 a12 a13 a3).bind fun r17 =>
          cond e16.1
          (some (r17.1,r17.2.1,(r17.2.2.1==0),r17.2.2.2))
          (some (r17.1,r17.2.1,false,r17.2.2.2)))
         (cond e16.1
          (some (([]:jQ),([]:jR),true,([]:jQ)))
          (some (([]:jQ),([]:jR),false,([]:jQ)))))
        (some (([]:jQ),([]:jR),false,([]:jQ))))
       (some (([]:jQ),([]:jR),false,([]:jQ)))))
     (cond (a1==6)
      ((u5 a0 a1 a11 a12 a13 a14 a15 a16).bind fun r18 =>
       some (r18.1,r18.2.1,r18.2.2.1,r18.2.2.2))
      (cond (a1==7)
       (cond (decide (a3<((aa a11:Nat):Int)))
        ((gx a11 a3).bind fun e19 =>
         cond e19.1
         ((va a0 a11 a12 a13 a3).bind fun r20 =>
          cond e19.1
          (some (r20.1,r20.2.1,(r20.2.2.1==0),r20.2.2.2))
          (some (r20.1,r20.2.1,false,r20.2.2.2)))
         (cond e19.1
          (some (([]:jQ),([]:jR),true,([]:jQ)))
          (some (([]:jQ),([]:jR),false,([]:jQ)))))
        (some (([]:jQ),([]:jR),false,([]:jQ))))
       (some (([]:jQ),([]:jR),false,([]:jQ)))))))))
def rx (a0:jS) (a1:jT) (a2:Int):Option (jQ×jR×Bool×jQ) :=
 (gx a1 a2).bind fun e25 =>
 (Zf e25.1 e25.2.1 e25.2.2.1 e25.2.2.2.1 e25.2.2.2.2.1 e25.2.2.2.2.2.1 e25.2.2.2.2.2.2.1 e25.2.2.2.2.2.2.2.1 e25.2.2.2.2.2.2.2.2.1 e25.2.2.2.2.2.2.2.2.2).bind fun r26 =>
 (wP r26.1 r26.2.1 r26.2.2.1 r26.2.2.2.1 r26.2.2.2.2.1 r26.2.2.2.2.2.1 r26.2.2.2.2.2.2 ([]:jQ) ([]:jR) ([]:jQ) e25.1 e25.2.1 e25.2.2.1 e25.2.2.2.1 e25.2.2.2.2.1 e25.2.2.2.2.2.1 e25.2.2.2.2.2.2.1 e25.2.2.2.2.2.2.2.1 e25.2.2.2.2.2.2.2.2.1 e25.2.2.2.2.2.2.2.2.2).bind fun r27 =>
 cond (!r27)
 (some (([]:jQ),([]:jR),false,([]:jQ)))
 (cond (e25.1==0)
  ((uF e25.2.2.2.2.2.2.2.1 e25.2.2.2.2.2.2.2.2.1 e25.2.2.2.2.2.2.2.2.2).bind fun r28 =>
   some (r28.1,r28.2.1,true,r28.2.2))
  (cond (decide (e25.2.1<0))
   (some (([]:jQ),([]:jR),false,([]:jQ)))
   (cond (decide (e25.2.1≥a2))
    (some (([]:jQ),([]:jR),false,([]:jQ)))
    (cond (e25.1==1)
     (cond (e25.1==1)
      (cond (decide (e25.2.2.2.2.1<0))
       (some (([]:jQ),([]:jR),false,([]:jQ)))
       (cond (decide (e25.2.2.2.2.1≥a2))
        (some (([]:jQ),([]:jR),false,([]:jQ)))
        ((gx a1 e25.2.2.2.2.1).bind fun e29 =>
         (gx a1 e25.2.1).bind fun e30 =>
         (wI a0 e25.1 e25.2.1 e25.2.2.1 e25.2.2.2.1 e25.2.2.2.2.1 e25.2.2.2.2.2.1 e25.2.2.2.2.2.2.1 e25.2.2.2.2.2.2.2.1 e25.2.2.2.2.2.2.2.2.1 e25.2.2.2.2.2.2.2.2.2 e30.2.2.2.2.2.2.2.1 e30.2.2.2.2.2.2.2.2.1 e30.2.2.2.2.2.2.2.2.2 e29.2.2.2.2.2.2.2.1 e29.2.2.2.2.2.2.2.2.1 e29.2.2.2.2.2.2.2.2.2).bind fun r31 =>
         cond (!r31.2.2.1)
         (some (([]:jQ),([]:jR),false,([]:jQ)))
         (some (r31.1,r31.2.1,true,r31.2.2.2)))))
      ((gx a1 e25.2.1).bind fun e32 =>
       (wI a0 e25.1 e25.2.1 e25.2.2.1 e25.2.2.2.1 e25.2.2.2.2.1 e25.2.2.2.2.2.1 e25.2.2.2.2.2.2.1 e25.2.2.2.2.2.2.2.1 e25.2.2.2.2.2.2.2.2.1 e25.2.2.2.2.2.2.2.2.2 e32.2.2.2.2.2.2.2.1 e32.2.2.2.2.2.2.2.2.1 e32.2.2.2.2.2.2.2.2.2 ([]:jQ) ([]:jR) ([]:jQ)).bind fun r33 =>
       cond (!r33.2.2.1)
       (some (([]:jQ),([]:jR),false,([]:jQ)))
       (some (r33.1,r33.2.1,true,r33.2.2.2))))
     (cond (e25.1==3)
      (cond (e25.1==3)
       (cond (decide (e25.2.2.2.2.1<0))
        (some (([]:jQ),([]:jR),false,([]:jQ)))
        (cond (decide (e25.2.2.2.2.1≥a2))
         (some (([]:jQ),([]:jR),false,([]:jQ)))
         ((gx a1 e25.2.2.2.2.1).bind fun e34 =>
          (gx a1 e25.2.1).bind fun e35 =>
          (wI a0 e25.1 e25.2.1 e25.2.2.1 e25.2.2.2.1 e25.2.2.2.2.1 e25.2.2.2.2.2.1 e25.2.2.2.2.2.2.1 e25.2.2.2.2.2.2.2.1 e25.2.2.2.2.2.2.2.2.1 e25.2.2.2.2.2.2.2.2.2 e35.2.2.2.2.2.2.2.1 e35.2.2.2.2.2.2.2.2.1 e35.2.2.2.2.2.2.2.2.2 e34.2.2.2.2.2.2.2.1 e34.2.2.2.2.2.2.2.2.1 e34.2.2.2.2.2.2.2.2.2).bind fun r36 =>
          cond (!r36.2.2.1)
          (some (([]:jQ),([]:jR),false,([]:jQ)))
          (some (r36.1,r36.2.1,true,r36.2.2.2)))))
       ((gx a1 e25.2.1).bind fun e37 =>
        (wI a0 e25.1 e25.2.1 e25.2.2.1 e25.2.2.2.1 e25.2.2.2.2.1 e25.2.2.2.2.2.1 e25.2.2.2.2.2.2.1 e25.2.2.2.2.2.2.2.1 e25.2.2.2.2.2.2.2.2.1 e25.2.2.2.2.2.2.2.2.2 e37.2.2.2.2.2.2.2.1 e37.2.2.2.2.2.2.2.2.1 e37.2.2.2.2.2.2.2.2.2 ([]:jQ) ([]:jR) ([]:jQ)).bind fun r38 =>
        cond (!r38.2.2.1)
        (some (([]:jQ),([]:jR),false,([]:jQ)))
        (some (r38.1,r38.2.1,true,r38.2.2.2))))
      (cond (e25.1==5)
       (cond (e25.1==5)
        (cond (decide (e25.2.2.2.2.1<0))
         (some (([]:jQ),([]:jR),false,([]:jQ)))
         (cond (decide (e25.2.2.2.2.1≥a2))
          (some (([]:jQ),([]:jR),false,([]:jQ)))
          ((gx a1 e25.2.2.2.2.1).bind fun e39 =>
           (gx a1 e25.2.1).bind fun e40 =>
           (wI a0 e25.1 e25.2.1 e25.2.2.1 e25.2.2.2.1 e25.2.2.2.2.1 e25.2.2.2.2.2.1 e25.2.2.2.2.2.2.1 e25.2.2.2.2.2.2.2.1 e25.2.2.2.2.2.2.2.2.1 e25.2.2.2.2.2.2.2.2.2 e40.2.2.2.2.2.2.2.1 e40.2.2.2.2.2.2.2.2.1 e40.2.2.2.2.2.2.2.2.2 e39.2.2.2.2.2.2.2.1 e39.2.2.2.2.2.2.2.2.1 e39.2.2.2.2.2.2.2.2.2).bind fun r41 =>
           cond (!r41.2.2.1)
           (some (([]:jQ),([]:jR),false,([]:jQ)))
           (some (r41.1,r41.2.1,true,r41.2.2.2)))))
        ((gx a1 e25.2.1).bind fun e42 =>
         (wI a0 e25.1 e25.2.1 e25.2.2.1 e25.2.2.2.1 e25.2.2.2.2.1 e25.2.2.2.2.2.1 e25.2.2.2.2.2.2.1 e25.2.2.2.2.2.2.2.1 e25.2.2.2.2.2.2.2.2.1 e25.2.2.2.2.2.2.2.2.2 e42.2.2.2.2.2.2.2.1 e42.2.2.2.2.2.2.2.2.1 e42.2.2.2.2.2.2.2.2.2 ([]:jQ) ([]:jR) ([]:jQ)).bind fun r43 =>
         cond (!r43.2.2.1)
         (some (([]:jQ),([]:jR),false,([]:jQ)))
         (some (r43.1,r43.2.1,true,r43.2.2.2))))
       (cond (e25.1==6)
        (cond (decide (e25.2.2.2.2.1<0))
         (some (([]:jQ),([]:jR),false,([]:jQ)))
         (cond (decide (e25.2.2.2.2.1≥a2))
          (some (([]:jQ),([]:jR),false,([]:jQ)))
          ((gx a1 e25.2.2.2.2.1).bind fun e44 =>
           (gx a1 e25.2.1).bind fun e45 =>
           (wI a0 e25.1 e25.2.1 e25.2.2.1 e25.2.2.2.1 e25.2.2.2.2.1 e25.2.2.2.2.2.1 e25.2.2.2.2.2.2.1 e25.2.2.2.2.2.2.2.1 e25.2.2.2.2.2.2.2.2.1 e25.2.2.2.2.2.2.2.2.2 e45.2.2.2.2.2.2.2.1 e45.2.2.2.2.2.2.2.2.1 e45.2.2.2.2.2.2.2.2.2 e44.2.2.2.2.2.2.2.1 e44.2.2.2.2.2.2.2.2.1 e44.2.2.2.2.2.2.2.2.2).bind fun r46 =>
           cond (!r46.2.2.1)
           (some (([]:jQ),([]:jR),false,([]:jQ)))
           (some (r46.1,r46.2.1,true,r46.2.2.2)))))
        ((gx a1 e25.2.1).bind fun e47 =>
         (wI a0 e25.1 e25.2.1 e25.2.2.1 e25.2.2.2.1 e25.2.2.2.2.1 e25.2.2.2.2.2.1 e25.2.2.2.2.2.2.1 e25.2.2.2.2.2.2.2.1 e25.2.2.2.2.2.2.2.2.1 e25.2.2.2.2.2.2.2.2.2 e47.2.2.2.2.2.2.2.1 e47.2.2.2.2.2.2.2.2.1 e47.2.2.2.2.2.2.2.2.2 ([]:jQ) ([]:jR) ([]:jQ)).bind fun r48 =>
         cond (!r48.2.2.1)
         (some (([]:jQ),([]:jR),false,([]:jQ)))
         (some (r48.1,r48.2.1,true,r48.2.2.2))))))))))
def Xz (a0:jS) (a1:jT) (a2:Int):Option (jQ×jR×Bool×Int×jQ) :=
 (uO a0 a1).bind fun r3 =>
 cond (!r3)
 (some (([]:jQ),([]:jR),false,1800,([]:jQ)))
 (cond (decide (a2<0))
  (some (([]:jQ),([]:jR),false,1800,([]:jQ)))
  (cond (decide (a2≥((aa a1:Nat):Int)))
   (some (([]:jQ),([]:jR),false,1800,([]:jQ)))
   ((rx a0 a1 a2).bind fun r4 =>
    some (r4.1,r4.2.1,r4.2.2.1,0,r4.2.2.2))))
def qK (rec:(jQ×jQ×Int×Int)->Option (Unit⊕Bool)) (x:(jQ×jQ×Int×Int)):Option (Unit⊕Bool) :=
 cond (decide (x.2.2.2<x.2.2.1))
 ((gx x.2.1 x.2.2.2).bind fun e4 =>
  (gx x.1 x.2.2.2).bind fun e5 =>
  (Y1 e4.1 e4.2 e5.1 e5.2).bind fun r6 =>
  cond (!r6)
  (some (aF false))
  (rec (x.1,x.2.1,x.2.2.1,(ag .i64 (x.2.2.2+1)))))
 (some (aW ()))
def vp (a0:jQ) (a1:jQ):Option Bool :=
 cond (((aa a0:Nat):Int) != ((aa a1:Nat):Int))
 (some false)
 (((lp qK zd) (a1,a0,((aa a0:Nat):Int),0)).bind fun r10 =>
  yl r10
  (fun z11=>some true)
  (fun z12=>some z12))
def y8 (rec:(jR×jR×Int×Int)->Option (Unit⊕Bool)) (x:(jR×jR×Int×Int)):Option (Unit⊕Bool) :=
 cond (decide (x.2.2.2<x.2.2.1))
 ((gx x.2.1 x.2.2.2).bind fun e4 =>
  (gx x.1 x.2.2.2).bind fun e5 =>
  (yJ e4 e5).bind fun r6 =>
  cond (!r6)
  (some (aF false))
  (rec (x.1,x.2.1,x.2.2.1,(ag .i64 (x.2.2.2+1)))))
 (some (aW ()))
def vK (a0:jR) (a1:jR):Option Bool :=
 cond (((aa a0:Nat):Int) != ((aa a1:Nat):Int))
 (some false)
 (((lp y8 zd) (a1,a0,((aa a0:Nat):Int),0)).bind fun r10 =>
  yl r10
  (fun z11=>some true)
  (fun z12=>some z12))
def Zy (a0:jQ) (a1:jR) (a2:jQ) (a3:jQ) (a4:jR) (a5:jQ):Option Bool :=
 (vp a0 a3).bind fun r4 =>
 cond r4
 ((vK a1 a4).bind fun r5 =>
  cond r5
  ((vp a2 a5).bind fun r6 =>
   some r6)
  (some false))
 (some false)
def xw (rec:(jS×jT×Int×Int)->Option (Unit⊕(Int×Int))) (x:(jS×jT×Int×Int)):Option (Unit⊕(Int×Int)) :=
 cond (decide (x.2.2.2<x.2.2.1))
 ((rx x.1 x.2.1 x.2.2.2).bind fun r5 =>
  cond (!r5.2.2.1)
  (some (aF (x.2.2.2,0)))
  ((gx x.2.1 x.2.2.2).bind fun e6 =>
   (Zy r5.1 r5.2.1 r5.2.2.2 e6.2.2.2.2.2.2.2.1 e6.2.2.2.2.2.2.2.2.1 e6.2.2.2.2.2.2.2.2.2).bind fun r7 =>
   cond (!r7)
   (some (aF (x.2.2.2,0)))
   (rec (x.1,x.2.1,x.2.2.1,(ag .i64 (x.2.2.2+1))))))
 (some (aW ()))
def xI (a0:jS) (a1:jT):Option (Int×Int) :=
 (uO a0 a1).bind fun r11 =>
 cond (!r11)
 (some (0,1800))
 (((lp xw zd) (a0,a1,((aa a1:Nat):Int),0)).bind fun r12 =>
  yl r12
  (fun z13=>some ((-1),0))
  (fun z14=>some (z14.1,z14.2)))
def yz (rec:(Int×Int×jI)->Option jI) (x:(Int×Int×jI)):Option jI :=
 cond (decide (x.1<x.2.1))
 ((inR x.2.1 (aa x.2.2)).bind fun k17 =>
  (x.2.2[k17]?).bind fun x18 =>
  (inR x.1 (aa x.2.2)).bind fun k19 =>
  (x.2.2[k19]?).bind fun x20 =>
  (inR x.1 (aa x.2.2)).bind fun k21 =>
  (x.2.2[k21]?).bind fun x22 =>
  (inR x.2.1 (aa (bn x.2.2 k21 x18))).bind fun k23 =>
  ((bn x.2.2 k21 x18)[k23]?).bind fun x24 =>
  rec ((ag .i64 (x.1+1)),(ag .i64 (x.2.1 - 1)),(bn (bn x.2.2 k21 x18) k23 x20)))
 (some x.2.2)
def xv (a0:jI):Option jI :=
 ((lp yz zd) (0,(ag .i64 (((aa a0:Nat):Int) - 1)),a0)).bind fun r26 =>
 cond (!(List.isEmpty a0)&&true)
 (cond (aA (aa a0) (aa r26)&&true)
  (some r26)
  (none))
 (none)
def w9 (rec:(jT×Int×jI×Int×Int×(List Bool))->Option (List Bool)) (x:(jT×Int×jI×Int×Int×(List Bool))):Option (List Bool) :=
 cond (decide (x.2.2.2.2.1<x.2.2.2.1))
 ((gx x.2.2.1 x.2.2.2.2.1).bind fun e22 =>
  cond (decide (e22≥0))
  (cond (decide (e22<x.2.1))
   ((inR e22 (aa x.2.2.2.2.2)).bind fun k23 =>
    (x.2.2.2.2.2[k23]?).bind fun x24 =>
    rec (x.1,x.2.1,x.2.2.1,x.2.2.2.1,(ag .i64 (x.2.2.2.2.1+1)),(bn x.2.2.2.2.2 k23 true)))
   (rec (x.1,x.2.1,x.2.2.1,x.2.2.2.1,(ag .i64 (x.2.2.2.2.1+1)),x.2.2.2.2.2)))
  (rec (x.1,x.2.1,x.2.2.1,x.2.2.2.1,(ag .i64 (x.2.2.2.2.1+1)),x.2.2.2.2.2)))
 (some x.2.2.2.2.2)
def ve (rec:(jT×Int×jI×Int×Int×(List Bool))->Option (List Bool)) (x:(jT×Int×jI×Int×Int×(List Bool))):Option (List Bool) :=
 cond (decide (x.2.2.2.2.1<x.2.2.2.1))
 ((gx x.2.2.1 x.2.2.2.2.1).bind fun e11 =>
  cond (decide (e11≥0))
  (cond (decide (e11<x.2.1))
   ((inR e11 (aa x.2.2.2.2.2)).bind fun k12 =>
    (x.2.2.2.2.2[k12]?).bind fun x13 =>
    rec (x.1,x.2.1,x.2.2.1,x.2.2.2.1,(ag .i64 (x.2.2.2.2.1+1)),(bn x.2.2.2.2.2 k12 true)))
   (rec (x.1,x.2.1,x.2.2.1,x.2.2.2.1,(ag .i64 (x.2.2.2.2.1+1)),x.2.2.2.2.2)))
  (rec (x.1,x.2.1,x.2.2.1,x.2.2.2.1,(ag .i64 (x.2.2.2.2.1+1)),x.2.2.2.2.2)))
 (some x.2.2.2.2.2)
def vi (rec:(jT×Int×(List Bool)×jI)->Option (Int×jI)) (x:(jT×Int×(List Bool)×jI)):Option (Int×jI) :=
 (inR x.2.1 (aa x.2.2.1)).bind fun k28 =>
 (x.2.2.1[k28]?).bind fun x29 =>
 cond x29
 (cond (yb (aa x.2.2.2+aa ([x.2.1]:List Int)) 8)
  ((gx x.1 x.2.1).bind fun e30 =>
   (gx x.1 x.2.1).bind fun e31 =>
   ((lp w9 zd) (x.1,x.2.1,([e30.2.1,e31.2.2.2.2.1]:List Int),((aa ([e30.2.1,e31.2.2.2.2.1]:List Int):Nat):Int),0,x.2.2.1)).bind fun r32 =>
   cond (decide ((ag .i64 (x.2.1 - 1))≥0))
   (rec (x.1,(ag .i64 (x.2.1 - 1)),r32,(x.2.2.2++([x.2.1]:List Int))))
   ((xv (x.2.2.2++([x.2.1]:List Int))).bind fun r33 =>
    some (0,r33)))
  (none))
 (cond (decide ((ag .i64 (x.2.1 - 1))≥0))
  (rec (x.1,(ag .i64 (x.2.1 - 1)),x.2.2.1,x.2.2.2))
  ((xv x.2.2.2).bind fun r34 =>
   some (0,r34)))
def jx (a0:jS) (a1:jT) (a2:Int):Option (Int×jI) :=
 (uO a0 a1).bind fun r39 =>
 cond (!r39)
 (some (1800,([]:jI)))
 (cond (decide (a2<0))
  (some (1800,([]:jI)))
  (cond (decide (a2≥((aa a1:Nat):Int)))
   (some (1800,([]:jI)))
   (cond (eqI (ag .i64 (a2+1)) (ag .i64 (a2+1)))
    (cond (BY (ag .i64 (a2+1)))
     (cond (yb (bb (ag .i64 (a2+1))) 1)
      ((inR a2 (aa (ax (bb (ag .i64 (a2+1))) false))).bind fun k40 =>
       ((ax (bb (ag .i64 (a2+1))) false)[k40]?).bind fun x41 =>
       (inR a2 (aa (bn (ax (bb (ag .i64 (a2+1))) false) k40 true))).bind fun k42 =>
       ((bn (ax (bb (ag .i64 (a2+1))) false) k40 true)[k42]?).bind fun x43 =>
       cond x43
       (cond (yb (aa ([a2]:List Int)) 8)
        ((gx a1 a2).bind fun e44 =>
         (gx a1 a2).bind fun e45 =>
         ((lp ve zd) (a1,a2,([e44.2.1,e45.2.2.2.2.1]:List Int),((aa ([e44.2.1,e45.2.2.2.2.1]:List Int):Nat):Int),0,(bn (ax (bb (ag .i64 (a2+1))) false) k40 true))).bind fun r46 =>
         cond (decide ((ag .i64 (a2 - 1))≥0))
         ((((lp vi zd) (a1,(ag .i64 (a2 - 1)),r46,([a2]:List Int)))).bind fun r47 =>
          some (r47.1,r47.2))
         ((xv ([a2]:List Int)).bind fun r48 =>
          some (0,r48)))
        (none))
       (cond (decide ((ag .i64 (a2 - 1))≥0))
        ((((lp vi zd) (a1,(ag .i64 (a2 - 1)),(bn (ax (bb (ag .i64 (a2+1))) false) k40 true),([]:jI)))).bind fun r49 =>
         some (r49.1,r49.2))
        (none)))
      (none))
     (none))
    (none))))
def QM:Option Bool :=
 (tM).bind fun r25 =>
 (jo).bind fun r26 =>
 (Xz r25 r26 2).bind fun r27 =>
 (tM).bind fun r28 =>
 (jo).bind fun r29 =>
 (xI r28 r29).bind fun r30 =>
 (tM).bind fun r31 =>
 (jo).bind fun r32 =>
 (jx r31 r32 2).bind fun r33 =>
 (jo).bind fun r34 =>
 (inR 2 (aa r34)).bind fun k35 =>
 (r34[k35]?).bind fun x36 =>
 (tM).bind fun r37 =>
 (xI r37 (bn r34 k35 (x36.1,x36.2.1,x36.2.2.1,x36.2.2.2.1,x36.2.2.2.2.1,x36.2.2.2.2.2.1,x36.2.2.2.2.2.2.1,([]:jQ),([]:jR),([]:jQ)))).bind fun r38 =>
 (tM).bind fun r39 =>
 (jo).bind fun r40 =>
 (Xz r39 r40 3).bind fun r41 =>
 cond r27.2.2.1
 ((uf r27.2.2.2.1).bind fun r42 =>
  cond (r42==0)
  ((wN r27.1 r27.2.1 r27.2.2.2.2 ([]:jQ) ([([1]:List Int)]:List jI) ([]:jQ)).bind fun r43 =>
   cond r43
   (cond (r30.1==(-1))
    ((uf r30.2).bind fun r44 =>
     cond (r44==0)
     ((wj r33.2 ([0,1,2]:List Int)).bind fun r45 =>
      cond r45
      ((uf r33.1).bind fun r46 =>
       cond (r46==0)
       (cond (r38.1==2)
        ((uf r38.2).bind fun r47 =>
         cond (r47==0)
         ((uf r41.2.2.2.1).bind fun r48 =>
          some (r48==1800))
         (some false))
        (some false))
       (some false))
      (some false))
     (some false))
    (some false))
   (some false))
  (some false))
 (some false)
def xc (rec:(jS×jT×jI×Int×jI×jT)->Option (jT⊕Bool)) (x:(jS×jT×jI×Int×jI×jT)):Option (jT⊕Bool) :=
 cond (decide (x.2.2.2.1<((aa x.2.2.1:Nat):Int)))
 ((gx x.2.2.1 x.2.2.2.1).bind fun e65 =>
  cond (decide (e65<0))
  (some (aF false))
  ((gx x.2.2.1 x.2.2.2.1).bind fun e66 =>
   cond (decide (e66≥((aa x.2.1:Nat):Int)))
   (some (aF false))
   (cond (decide (x.2.2.2.1>0))
    ((gx x.2.2.1 (ag .i64 (x.2.2.2.1 - 1))).bind fun e67 =>
     (gx x.2.2.1 x.2.2.2.1).bind fun e68 =>
     cond (decide (e67≥e68))
     (some (aF false))
     ((gx x.2.2.1 x.2.2.2.1).bind fun e69 =>
      (gx x.2.1 e69).bind fun e70 =>
      cond (decide (e70.2.1≥((aa x.2.1:Nat):Int)))
      (some (aF false))
      (cond (decide (e70.2.2.2.2.1≥((aa x.2.1:Nat):Int)))
       (some (aF false))
       (cond (decide (e70.2.1≥0))
        ((inR e70.2.1 (aa x.2.2.2.2.1)).bind fun k71 =>
         (x.2.2.2.2.1[k71]?).bind fun x72 =>
         cond (decide (e70.2.2.2.2.1≥0))
         ((inR e70.2.2.2.2.1 (aa x.2.2.2.2.1)).bind fun k73 =>
          (x.2.2.2.2.1[k73]?).bind fun x74 =>
          (gx x.2.2.1 x.2.2.2.1).bind fun e75 =>
          (inR e75 (aa x.2.2.2.2.1)).bind fun k76 =>
          (x.2.2.2.2.1[k76]?).bind fun x77 =>
          cond (yb (aa x.2.2.2.2.2+aa ([(e70.1,x72,e70.2.2.1,e70.2.2.2.1,x74,e70.2.2.2.2.2.1,e70.2.2.2.2.2.2.1,e70.2.2.2.2.2.2.2.1,e70.2.2.2.2.2.2.2.2.1,e70.2.2.2.2.2.2.2.2.2)]:List jU)) 128)
          (rec (x.1,x.2.1,x.2.2.1,(ag .i64 (x.2.2.2.1+1)),(bn x.2.2.2.2.1 k76 x.2.2.2.1),(x.2.2.2.2.2++([(e70.1,x72,e70.2.2.1,e70.2.2.2.1,x74,e70.2.2.2.2.2.1,e70.2.2.2.2.2.2.1,e70.2.2.2.2.2.2.2.1,e70.2.2.2.2.2.2.2.2.1,e70.2.2.2.2.2.2.2.2.2)]:List jU))))
          (none))
         ((gx x.2.2.1 x.2.2.2.1).bind fun e78 =>
          (inR e78 (aa x.2.2.2.2.1)).bind fun k79 =>
          (x.2.2.2.2.1[k79]?).bind fun x80 =>
          cond (yb (aa x.2.2.2.2.2+aa ([(e70.1,x72,e70.2.2.1,e70.2.2.2.1,e70.2.2.2.2.1,e70.2.2.2.2.2.1,e70.2.2.2.2.2.2.1,e70.2.2.2.2.2.2.2.1,e70.2.2.2.2.2.2.2.2.1,e70.2.2.2.2.2.2.2.2.2)]:List jU)) 128)
          (rec (x.1,x.2.1,x.2.2.1,(ag .i64 (x.2.2.2.1+1)),(bn x.2.2.2.2.1 k79 x.2.2.2.1),(x.2.2.2.2.2++([(e70.1,x72,e70.2.2.1,e70.2.2.2.1,e70.2.2.2.2.1,e70.2.2.2.2.2.1,e70.2.2.2.2.2.2.1,e70.2.2.2.2.2.2.2.1,e70.2.2.2.2.2.2.2.2.1,e70.2.2.2.2.2.2.2.2.2)]:List jU))))
          (none)))
        (cond (decide (e70.2.2.2.2.1≥0))
         ((inR e70.2.2.2.2.1 (aa x.2.2.2.2.1)).bind fun k81 =>
          (x.2.2.2.2.1[k81]?).bind fun x82 =>
          (gx x.2.2.1 x.2.2.2.1).bind fun e83 =>
          (inR e83 (aa x.2.2.2.2.1)).bind fun k84 =>
          (x.2.2.2.2.1[k84]?).bind fun x85 =>
          cond (yb (aa x.2.2.2.2.2+aa ([(e70.1,e70.2.1,e70.2.2.1,e70.2.2.2.1,x82,e70.2.2.2.2.2.1,e70.2.2.2.2.2.2.1,e70.2.2.2.2.2.2.2.1,e70.2.2.2.2.2.2.2.2.1,e70.2.2.2.2.2.2.2.2.2)]:List jU)) 128)
          (rec (x.1,x.2.1,x.2.2.1,(ag .i64 (x.2.2.2.1+1)),(bn x.2.2.2.2.1 k84 x.2.2.2.1),(x.2.2.2.2.2++([(e70.1,e70.2.1,e70.2.2.1,e70.2.2.2.1,x82,e70.2.2.2.2.2.1,e70.2.2.2.2.2.2.1,e70.2.2.2.2.2.2.2.1,e70.2.2.2.2.2.2.2.2.1,e70.2.2.2.2.2.2.2.2.2)]:List jU))))
          (none))
         ((gx x.2.2.1 x.2.2.2.1).bind fun e86 =>
          (inR e86 (aa x.2.2.2.2.1)).bind fun k87 =>
          (x.2.2.2.2.1[k87]?).bind fun x88 =>
          cond (yb (aa x.2.2.2.2.2+aa ([(e70.1,e70.2.1,e70.2.2.1,e70.2.2.2.1,e70.2.2.2.2.1,e70.2.2.2.2.2.1,e70.2.2.2.2.2.2.1,e70.2.2.2.2.2.2.2.1,e70.2.2.2.2.2.2.2.2.1,e70.2.2.2.2.2.2.2.2.2)]:List jU)) 128)
          (rec (x.1,x.2.1,x.2.2.1,(ag .i64 (x.2.2.2.1+1)),(bn x.2.2.2.2.1 k87 x.2.2.2.1),(x.2.2.2.2.2++([(e70.1,e70.2.1,e70.2.2.1,e70.2.2.2.1,e70.2.2.2.2.1,e70.2.2.2.2.2.1,e70.2.2.2.2.2.2.1,e70.2.2.2.2.2.2.2.1,e70.2.2.2.2.2.2.2.2.1,e70.2.2.2.2.2.2.2.2.2)]:List jU))))
          (none)))))))
    ((gx x.2.2.1 x.2.2.2.1).bind fun e89 =>
     (gx x.2.1 e89).bind fun e90 =>
     cond (decide (e90.2.1≥((aa x.2.1:Nat):Int)))
     (some (aF false))
     (cond (decide (e90.2.2.2.2.1≥((aa x.2.1:Nat):Int)))
      (some (aF false))
      (cond (decide (e90.2.1≥0))
       ((inR e90.2.1 (aa x.2.2.2.2.1)).bind fun k91 =>
        (x.2.2.2.2.1[k91]?).bind fun x92 =>
        cond (decide (e90.2.2.2.2.1≥0))
        ((inR e90.2.2.2.2.1 (aa x.2.2.2.2.1)).bind fun k93 =>
         (x.2.2.2.2.1[k93]?).bind fun x94 =>
         (gx x.2.2.1 x.2.2.2.1).bind fun e95 =>
         (inR e95 (aa x.2.2.2.2.1)).bind fun k96 =>
         (x.2.2.2.2.1[k96]?).bind fun x97 =>
         cond (yb (aa x.2.2.2.2.2+aa ([(e90.1,x92,e90.2.2.1,e90.2.2.2.1,x94,e90.2.2.2.2.2.1,e90.2.2.2.2.2.2.1,e90.2.2.2.2.2.2.2.1,e90.2.2.2.2.2.2.2.2.1,e90.2.2.2.2.2.2.2.2.2)]:List jU)) 128)
         (rec (x.1,x.2.1,x.2.2.1,(ag .i64 (x.2.2.2.1+1)),(bn x.2.2.2.2.1 k96 x.2.2.2.1),(x.2.2.2.2.2++([(e90.1,x92,e90.2.2.1,e90.2.2.2.1,x94,e90.2.2.2.2.2.1,e90.2.2.2.2.2.2.1,e90.2.2.2.2.2.2.2.1,e90.2.2.2.2.2.2.2.2.1,e90.2.2.2.2.2.2.2.2.2)]:List jU))))
         (none))
        ((gx x.2.2.1 x.2.2.2.1).bind fun e98 =>
         (inR e98 (aa x.2.2.2.2.1)).bind fun k99 =>
         (x.2.2.2.2.1[k99]?).bind fun x100 =>
         cond (yb (aa x.2.2.2.2.2+aa ([(e90.1,x92,e90.2.2.1,e90.2.2.2.1,e90.2.2.2.2.1,e90.2.2.2.2.2.1,e90.2.2.2.2.2.2.1,e90.2.2.2.2.2.2.2.1,e90.2.2.2.2.2.2.2.2.1,e90.2.2.2.2.2.2.2.2.2)]:List jU)) 128)
         (rec (x.1,x.2.1,x.2.2.1,(ag .i64 (x.2.2.2.1+1)),(bn x.2.2.2.2.1 k99 x.2.2.2.1),(x.2.2.2.2.2++([(e90.1,x92,e90.2.2.1,e90.2.2.2.1,e90.2.2.2.2.1,e90.2.2.2.2.2.1,e90.2.2.2.2.2.2.1,e90.2.2.2.2.2.2.2.1,e90.2.2.2.2.2.2.2.2.1,e90.2.2.2.2.2.2.2.2.2)]:List jU))))
         (none)))
       (cond (decide (e90.2.2.2.2.1≥0))
        ((inR e90.2.2.2.2.1 (aa x.2.2.2.2.1)).bind fun k101 =>
         (x.2.2.2.2.1[k101]?).bind fun x102 =>
         (gx x.2.2.1 x.2.2.2.1).bind fun e103 =>
         (inR e103 (aa x.2.2.2.2.1)).bind fun k104 =>
         (x.2.2.2.2.1[k104]?).bind fun x105 =>
         cond (yb (aa x.2.2.2.2.2+aa ([(e90.1,e90.2.1,e90.2.2.1,e90.2.2.2.1,x102,e90.2.2.2.2.2.1,e90.2.2.2.2.2.2.1,e90.2.2.2.2.2.2.2.1,e90.2.2.2.2.2.2.2.2.1,e90.2.2.2.2.2.2.2.2.2)]:List jU)) 128)
         (rec (x.1,x.2.1,x.2.2.1,(ag .i64 (x.2.2.2.1+1)),(bn x.2.2.2.2.1 k104 x.2.2.2.1),(x.2.2.2.2.2++([(e90.1,e90.2.1,e90.2.2.1,e90.2.2.2.1,x102,e90.2.2.2.2.2.1,e90.2.2.2.2.2.2.1,e90.2.2.2.2.2.2.2.1,e90.2.2.2.2.2.2.2.2.1,e90.2.2.2.2.2.2.2.2.2)]:List jU))))
         (none))
        ((gx x.2.2.1 x.2.2.2.1).bind fun e106 =>
         (inR e106 (aa x.2.2.2.2.1)).bind fun k107 =>
         (x.2.2.2.2.1[k107]?).bind fun x108 =>
         cond (yb (aa x.2.2.2.2.2+aa ([(e90.1,e90.2.1,e90.2.2.1,e90.2.2.2.1,e90.2.2.2.2.1,e90.2.2.2.2.2.1,e90.2.2.2.2.2.2.1,e90.2.2.2.2.2.2.2.1,e90.2.2.2.2.2.2.2.2.1,e90.2.2.2.2.2.2.2.2.2)]:List jU)) 128)
         (rec (x.1,x.2.1,x.2.2.1,(ag .i64 (x.2.2.2.1+1)),(bn x.2.2.2.2.1 k107 x.2.2.2.1),(x.2.2.2.2.2++([(e90.1,e90.2.1,e90.2.2.1,e90.2.2.2.1,e90.2.2.2.2.1,e90.2.2.2.2.2.1,e90.2.2.2.2.2.2.1,e90.2.2.2.2.2.2.2.1,e90.2.2.2.2.2.2.2.2.1,e90.2.2.2.2.2.2.2.2.2)]:List jU))))
         (none)))))))))
 (some (aW x.2.2.2.2.2))
def xH (a0:jS) (a1:jT) (a2:Int):Option Bool :=
 (QM).bind fun r114 =>
 cond (!r114)
 (some false)
 ((xI a0 a1).bind fun r115 =>
  (uf r115.2).bind fun r116 =>
  cond (r116 != 0)
  (some true)
  (cond (r115.1 != (-1))
   (some true)
   (cond (((aa a1:Nat):Int)==0)
    (some true)
    (cond (decide ((ag .u64 ((aa a1:Nat):Int))=0))
     (none)
     ((jx a0 a1 (ag .i64 (ez (ag .u64 a2) (ag .u64 ((aa a1:Nat):Int))))).bind fun r117 =>
      (uf r117.1).bind fun r118 =>
      cond (r118 != 0)
      (some false)
      (cond (((aa r117.2:Nat):Int)==0)
       (some false)
       ((inR (ag .i64 (((aa r117.2:Nat):Int) - 1)) (aa r117.2)).bind fun k119 =>
        (r117.2[k119]?).bind fun x120 =>
        cond (x120 != (ag .i64 (ez (ag .u64 a2) (ag .u64 ((aa a1:Nat):Int)))))
        (some false)
        (cond (eqI ((aa a1:Nat):Int) ((aa a1:Nat):Int))
         (cond (BY ((aa a1:Nat):Int))
          (cond (yb (bb ((aa a1:Nat):Int)) 8)
           (((lp xc zd) (a0,a1,r117.2,0,(ax (bb ((aa a1:Nat):Int)) (0:Int)),([]:jT))).bind fun r121 =>
            yl r121
            (fun z122=>(xI a0 z122).bind fun r123 =>
             (uf r123.2).bind fun r124 =>
             cond (r124==0)
             (some (r123.1==(-1)))
             (some false))
            (fun z125=>some z125))
           (none))
          (none))
         (none)))))))))
def zF (s3:jS):List jU->Nat->Option (Unit⊕Int)
 | [],i=>some (aW ())
 | e::es,i =>
  (u9 e.1 e.2.1 e.2.2.1 e.2.2.2.1 e.2.2.2.2.1 e.2.2.2.2.2.1 e.2.2.2.2.2.2.1 e.2.2.2.2.2.2.2.1 e.2.2.2.2.2.2.2.2.1 e.2.2.2.2.2.2.2.2.2 s3).bind fun r4 =>
  cond r4
  (some (aF (i:Int)))
  (zF s3 es (i+1))
theorem sI (s0:jT) (s3:jS) (hl:aa s0<=maxLen):lp yO zd (s0,((aa s0:Nat):Int),0,s3)=zF s3 s0 0:=sV yO (fun i=>(s0,((aa s0:Nat):Int),i,s3)) (fun es i=>zF s3 es i) hl (fun r i h=>by unfold yO zF; simp only[h,cond_false]) (fun r i e es h g w k=>by unfold yO zF; simp only[h,cond_true,g,af,w,k])
def yv (s3:jQ) (s4:jR):List zc->jQ->Option (jQ×jR×jQ)
 | [],s5=>some (s3,s4,s5)
 | e::es,s5 =>
  (zB e.2).bind fun r20 =>
  cond (yb (aa s5+aa ([(e.1,r20)]:List zc)) 32)
  (yv s3 s4 es (s5++([(e.1,r20)]:List zc)))
  (none)
theorem Zj (s0:jQ) (s3:jQ) (s4:jR) (s5:jQ) (hl:aa s0<=maxLen):lp xZ zd (s0,((aa s0:Nat):Int),0,s3,s4,s5)=yv s3 s4 s0 s5:=xB xZ (fun i s5=>(s0,((aa s0:Nat):Int),i,s3,s4,s5)) (fun es i s5=>yv s3 s4 es s5) hl (fun r i s5 h=>by unfold xZ yv; simp only[h,cond_false]) (fun r i s5 e es h g w k=>by unfold xZ yv; simp only[h,cond_true,g,af,w,k]) s5
def yx (s6:jQ):List jI->jR->Option (jQ×jR)
 | [],s7=>some (s6,s7)
 | e::es,s7 =>
  (zB e).bind fun r13 =>
  cond (yb (aa s7+aa ([r13]:List jI)) 24)
  (yx s6 es (s7++([r13]:List jI)))
  (none)
theorem Zm (s0:jR) (s3:jQ) (s4:jR) (s5:jQ) (s6:jQ) (s7:jR) (hl:aa s0<=maxLen):lp xY zd (s0,((aa s0:Nat):Int),0,s3,s4,s5,s6,s7)=yx s6 s0 s7:=xB xY (fun i s7=>(s0,((aa s0:Nat):Int),i,s3,s4,s5,s6,s7)) (fun es i s7=>yx s6 es s7) hl (fun r i s7 h=>by unfold xY yx; simp only[h,cond_false]) (fun r i s7 e es h g w k=>by unfold xY yx; simp only[h,cond_true,g,af,w,k]) s7
def yw:List zc->jQ->Option jQ
 | [],s6=>some s6
 | e::es,s6 =>
  (zB e.2).bind fun r6 =>
  cond (yb (aa s6+aa ([(e.1,r6)]:List zc)) 32)
  (yw es (s6++([(e.1,r6)]:List zc)))
  (none)
theorem Zq (s0:jQ) (s3:jQ) (s4:jR) (s5:jQ) (s6:jQ) (hl:aa s0<=maxLen):lp wh zd (s0,((aa s0:Nat):Int),0,s3,s4,s5,s6)=yw s0 s6:=xB wh (fun i s6=>(s0,((aa s0:Nat):Int),i,s3,s4,s5,s6)) (fun es i s6=>yw es s6) hl (fun r i s6 h=>by unfold wh yw; simp only[h,cond_false]) (fun r i s6 e es h g w k=>by unfold wh yw; simp only[h,cond_true,g,af,w,k]) s6
def zg (s0:jS) (s1:jI):List Int->Int->(List (Option jI))->Option ((Int×(List (Option jI)))⊕(Bool×(List (Option jI))))
 | [],s2,s6=>some (aW (s2,s6))
 | e::es,s2,s6 =>
  cond (decide (s2≥((aa s1:Nat):Int)))
  (some (aF (false,s6)))
  (cond (decide (e≥0))
   ((gx s1 s2).bind fun e18 =>
    cond (e18 != e)
    (some (aF (false,s6)))
    (zg s0 s1 es (ag .i64 (s2+1)) s6))
   ((xE s0 s1 s2).bind fun r19 =>
    cond (!r19.2)
    (some (aF (false,s6)))
    ((vI s1 (some s2) (some r19.1)).bind fun y20 =>
     (zP e).bind fun r21 =>
     (inR r21 24).bind fun k22 =>
     (s6[k22]?).bind fun x23 =>
     cond (cm x23)
     ((inR r21 24).bind fun k24 =>
      (s6[k24]?).bind fun x25 =>
      (nn y20).bind fun p26 =>
      (inR r21 24).bind fun k27 =>
      ((bn s6 k24 (some p26))[k27]?).bind fun x28 =>
      (wy x28 y20).bind fun r29 =>
      cond (!r29)
      (some (aF (false,(bn s6 k24 (some p26)))))
      (zg s0 s1 es r19.1 (bn s6 k24 (some p26))))
     ((inR r21 24).bind fun k30 =>
      (s6[k30]?).bind fun x31 =>
      (wy x31 y20).bind fun r32 =>
      cond (!r32)
      (some (aF (false,s6)))
      (zg s0 s1 es r19.1 s6)))))
theorem ul (s0:jS) (s1:jI) (s3:jI) (s2:Int) (s6:(List (Option jI))) (hl:aa s3<=maxLen):lp qI zd (s0,s1,s2,s3,((aa s3:Nat):Int),0,s6)=zg s0 s1 s3 s2 s6:=NM qI (fun i s2 s6=>(s0,s1,s2,s3,((aa s3:Nat):Int),i,s6)) (fun es i s2 s6=>zg s0 s1 es s2 s6) hl (fun r i s2 s6 h=>by unfold qI zg; simp only[h,cond_false]) (fun r i s2 s6 e es h g w k=>by unfold qI zg; simp only[h,cond_true,g,af,w,k]) s2 s6
def zG (s3:Bool) (s4:jI) (s5:jS):List zc->Nat->Option (Unit⊕Int)
 | [],i=>some (aW ())
 | e::es,i =>
  (xj e.1 e.2 s3 s4 s5).bind fun r4 =>
  cond r4
  (some (aF (i:Int)))
  (zG s3 s4 s5 es (i+1))
theorem sK (s0:jQ) (s3:Bool) (s4:jI) (s5:jS) (hl:aa s0<=maxLen):lp yN zd (s0,((aa s0:Nat):Int),0,s3,s4,s5)=zG s3 s4 s5 s0 0:=sV yN (fun i=>(s0,((aa s0:Nat):Int),i,s3,s4,s5)) (fun es i=>zG s3 s4 s5 es i) hl (fun r i h=>by unfold yN zG; simp only[h,cond_false]) (fun r i e es h g w k=>by unfold yN zG; simp only[h,cond_true,g,af,w,k])
def yf (s0:jQ):List zc->Nat->Option (Unit⊕Bool)
 | [],i=>some (aW ())
 | e::es,i =>
  (gx s0 (i:Int)).bind fun e5 =>
  (Y1 e.1 e.2 e5.1 e5.2).bind fun r6 =>
  cond (!r6)
  (some (aF false))
  (yf s0 es (i+1))
theorem kl (s0:jQ) (s1:jQ) (hl:aa s1<=maxLen):lp qK zd (s0,s1,((aa s1:Nat):Int),0)=yf s0 s1 0:=sV qK (fun i=>(s0,s1,((aa s1:Nat):Int),i)) (fun es i=>yf s0 es i) hl (fun r i h=>by unfold qK yf; simp only[h,cond_false]) (fun r i e es h g w k=>by unfold qK yf; simp only[h,cond_true,g,af,w,k])
def zT (s0:jR):List jI->Nat->Option (Unit⊕Bool)
 | [],i=>some (aW ())
 | e::es,i =>
  (gx s0 (i:Int)).bind fun e5 =>
  (yJ e e5).bind fun r6 =>
  cond (!r6)
  (some (aF false))
  (zT s0 es (i+1))
theorem rd (s0:jR) (s1:jR) (hl:aa s1<=maxLen):lp y8 zd (s0,s1,((aa s1:Nat):Int),0)=zT s0 s1 0:=sV y8 (fun i=>(s0,s1,((aa s1:Nat):Int),i)) (fun es i=>zT s0 es i) hl (fun r i h=>by unfold y8 zT; simp only[h,cond_false]) (fun r i e es h g w k=>by unfold y8 zT; simp only[h,cond_true,g,af,w,k])
def yT (s1:Int):List Int->(List Bool)->Option (List Bool)
 | [],s5=>some s5
 | e::es,s5 =>
  cond (decide (e≥0))
  (cond (decide (e<s1))
   ((inR e (aa s5)).bind fun k23 =>
    (s5[k23]?).bind fun x24 =>
    yT s1 es (bn s5 k23 true))
   (yT s1 es s5))
  (yT s1 es s5)
theorem Qd (s0:jT) (s1:Int) (s2:jI) (s5:(List Bool)) (hl:aa s2<=maxLen):lp w9 zd (s0,s1,s2,((aa s2:Nat):Int),0,s5)=yT s1 s2 s5:=xB w9 (fun i s5=>(s0,s1,s2,((aa s2:Nat):Int),i,s5)) (fun es i s5=>yT s1 es s5) hl (fun r i s5 h=>by unfold w9 yT; simp only[h,cond_false]) (fun r i s5 e es h g w k=>by unfold w9 yT; simp only[h,cond_true,g,af,w,k]) s5
def z5 (s1:Int):List Int->(List Bool)->Option (List Bool)
 | [],s5=>some s5
 | e::es,s5 =>
  cond (decide (e≥0))
  (cond (decide (e<s1))
   ((inR e (aa s5)).bind fun k12 =>
    (s5[k12]?).bind fun x13 =>
    z5 s1 es (bn s5 k12 true))
   (z5 s1 es s5))
  (z5 s1 es s5)
theorem Y8 (s0:jT) (s1:Int) (s2:jI) (s5:(List Bool)) (hl:aa s2<=maxLen):lp ve zd (s0,s1,s2,((aa s2:Nat):Int),0,s5)=z5 s1 s2 s5:=xB ve (fun i s5=>(s0,s1,s2,((aa s2:Nat):Int),i,s5)) (fun es i s5=>z5 s1 es s5) hl (fun r i s5 h=>by unfold ve z5; simp only[h,cond_false]) (fun r i s5 e es h g w k=>by unfold ve z5; simp only[h,cond_true,g,af,w,k]) s5
def zo (s1:jT) (s2:jI):List Int->Nat->jI->jT->Option (jT⊕Bool)
 | [],i,s4,s5=>some (aW s5)
 | e::es,i,s4,s5 =>
  cond (decide (e<0))
  (some (aF false))
  (cond (decide (e≥((aa s1:Nat):Int)))
   (some (aF false))
   (cond (decide ((i:Int)>0))
    ((gx s2 (ag .i64 ((i:Int) - 1))).bind fun e67 =>
     cond (decide (e67≥e))
     (some (aF false))
     ((gx s1 e).bind fun e70 =>
      cond (decide (e70.2.1≥((aa s1:Nat):Int)))
      (some (aF false))
      (cond (decide (e70.2.2.2.2.1≥((aa s1:Nat):Int)))
       (some (aF false))
       (cond (decide (e70.2.1≥0))
        ((inR e70.2.1 (aa s4)).bind fun k71 =>
         (s4[k71]?).bind fun x72 =>
         cond (decide (e70.2.2.2.2.1≥0))
         ((inR e70.2.2.2.2.1 (aa s4)).bind fun k73 =>
          (s4[k73]?).bind fun x74 =>
          (inR e (aa s4)).bind fun k76 =>
          (s4[k76]?).bind fun x77 =>
          cond (yb (aa s5+aa ([(e70.1,x72,e70.2.2.1,e70.2.2.2.1,x74,e70.2.2.2.2.2.1,e70.2.2.2.2.2.2.1,e70.2.2.2.2.2.2.2.1,e70.2.2.2.2.2.2.2.2.1,e70.2.2.2.2.2.2.2.2.2)]:List jU)) 128)
          (zo s1 s2 es (i+1) (bn s4 k76 (i:Int)) (s5++([(e70.1,x72,e70.2.2.1,e70.2.2.2.1,x74,e70.2.2.2.2.2.1,e70.2.2.2.2.2.2.1,e70.2.2.2.2.2.2.2.1,e70.2.2.2.2.2.2.2.2.1,e70.2.2.2.2.2.2.2.2.2)]:List jU)))
          (none))
         ((inR e (aa s4)).bind fun k79 =>
          (s4[k79]?).bind fun x80 =>
          cond (yb (aa s5+aa ([(e70.1,x72,e70.2.2.1,e70.2.2.2.1,e70.2.2.2.2.1,e70.2.2.2.2.2.1,e70.2.2.2.2.2.2.1,e70.2.2.2.2.2.2.2.1,e70.2.2.2.2.2.2.2.2.1,e70.2.2.2.2.2.2.2.2.2)]:List jU)) 128)
          (zo s1 s2 es (i+1) (bn s4 k79 (i:Int)) (s5++([(e70.1,x72,e70.2.2.1,e70.2.2.2.1,e70.2.2.2.2.1,e70.2.2.2.2.2.1,e70.2.2.2.2.2.2.1,e70.2.2.2.2.2.2.2.1,e70.2.2.2.2.2.2.2.2.1,e70.2.2.2.2.2.2.2.2.2)]:List jU)))
          (none)))
        (cond (decide (e70.2.2.2.2.1≥0))
         ((inR e70.2.2.2.2.1 (aa s4)).bind fun k81 =>
          (s4[k81]?).bind fun x82 =>
          (inR e (aa s4)).bind fun k84 =>
          (s4[k84]?).bind fun x85 =>
          cond (yb (aa s5+aa ([(e70.1,e70.2.1,e70.2.2.1,e70.2.2.2.1,x82,e70.2.2.2.2.2.1,e70.2.2.2.2.2.2.1,e70.2.2.2.2.2.2.2.1,e70.2.2.2.2.2.2.2.2.1,e70.2.2.2.2.2.2.2.2.2)]:List jU)) 128)
          (zo s1 s2 es (i+1) (bn s4 k84 (i:Int)) (s5++([(e70.1,e70.2.1,e70.2.2.1,e70.2.2.2.1,x82,e70.2.2.2.2.2.1,e70.2.2.2.2.2.2.1,e70.2.2.2.2.2.2.2.1,e70.2.2.2.2.2.2.2.2.1,e70.2.2.2.2.2.2.2.2.2)]:List jU)))
          (none))
         ((inR e (aa s4)).bind fun k87 =>
          (s4[k87]?).bind fun x88 =>
          cond (yb (aa s5+aa ([(e70.1,e70.2.1,e70.2.2.1,e70.2.2.2.1,e70.2.2.2.2.1,e70.2.2.2.2.2.1,e70.2.2.2.2.2.2.1,e70.2.2.2.2.2.2.2.1,e70.2.2.2.2.2.2.2.2.1,e70.2.2.2.2.2.2.2.2.2)]:List jU)) 128)
          (zo s1 s2 es (i+1) (bn s4 k87 (i:Int)) (s5++([(e70.1,e70.2.1,e70.2.2.1,e70.2.2.2.1,e70.2.2.2.2.1,e70.2.2.2.2.2.1,e70.2.2.2.2.2.2.1,e70.2.2.2.2.2.2.2.1,e70.2.2.2.2.2.2.2.2.1,e70.2.2.2.2.2.2.2.2.2)]:List jU)))
          (none)))))))
    ((gx s1 e).bind fun e90 =>
     cond (decide (e90.2.1≥((aa s1:Nat):Int)))
     (some (aF false))
     (cond (decide (e90.2.2.2.2.1≥((aa s1:Nat):Int)))
      (some (aF false))
      (cond (decide (e90.2.1≥0))
       ((inR e90.2.1 (aa s4)).bind fun k91 =>
        (s4[k91]?).bind fun x92 =>
        cond (decide (e90.2.2.2.2.1≥0))
        ((inR e90.2.2.2.2.1 (aa s4)).bind fun k93 =>
         (s4[k93]?).bind fun x94 =>
         (inR e (aa s4)).bind fun k96 =>
         (s4[k96]?).bind fun x97 =>
         cond (yb (aa s5+aa ([(e90.1,x92,e90.2.2.1,e90.2.2.2.1,x94,e90.2.2.2.2.2.1,e90.2.2.2.2.2.2.1,e90.2.2.2.2.2.2.2.1,e90.2.2.2.2.2.2.2.2.1,e90.2.2.2.2.2.2.2.2.2)]:List jU)) 128)
         (zo s1 s2 es (i+1) (bn s4 k96 (i:Int)) (s5++([(e90.1,x92,e90.2.2.1,e90.2.2.2.1,x94,e90.2.2.2.2.2.1,e90.2.2.2.2.2.2.1,e90.2.2.2.2.2.2.2.1,e90.2.2.2.2.2.2.2.2.1,e90.2.2.2.2.2.2.2.2.2)]:List jU)))
         (none))
        ((inR e (aa s4)).bind fun k99 =>
         (s4[k99]?).bind fun x100 =>
         cond (yb (aa s5+aa ([(e90.1,x92,e90.2.2.1,e90.2.2.2.1,e90.2.2.2.2.1,e90.2.2.2.2.2.1,e90.2.2.2.2.2.2.1,e90.2.2.2.2.2.2.2.1,e90.2.2.2.2.2.2.2.2.1,e90.2.2.2.2.2.2.2.2.2)]:List jU)) 128)
         (zo s1 s2 es (i+1) (bn s4 k99 (i:Int)) (s5++([(e90.1,x92,e90.2.2.1,e90.2.2.2.1,e90.2.2.2.2.1,e90.2.2.2.2.2.1,e90.2.2.2.2.2.2.1,e90.2.2.2.2.2.2.2.1,e90.2.2.2.2.2.2.2.2.1,e90.2.2.2.2.2.2.2.2.2)]:List jU)))
         (none)))
       (cond (decide (e90.2.2.2.2.1≥0))
        ((inR e90.2.2.2.2.1 (aa s4)).bind fun k101 =>
         (s4[k101]?).bind fun x102 =>
         (inR e (aa s4)).bind fun k104 =>
         (s4[k104]?).bind fun x105 =>
         cond (yb (aa s5+aa ([(e90.1,e90.2.1,e90.2.2.1,e90.2.2.2.1,x102,e90.2.2.2.2.2.1,e90.2.2.2.2.2.2.1,e90.2.2.2.2.2.2.2.1,e90.2.2.2.2.2.2.2.2.1,e90.2.2.2.2.2.2.2.2.2)]:List jU)) 128)
         (zo s1 s2 es (i+1) (bn s4 k104 (i:Int)) (s5++([(e90.1,e90.2.1,e90.2.2.1,e90.2.2.2.1,x102,e90.2.2.2.2.2.1,e90.2.2.2.2.2.2.1,e90.2.2.2.2.2.2.2.1,e90.2.2.2.2.2.2.2.2.1,e90.2.2.2.2.2.2.2.2.2)]:List jU)))
         (none))
        ((inR e (aa s4)).bind fun k107 =>
         (s4[k107]?).bind fun x108 =>
         cond (yb (aa s5+aa ([(e90.1,e90.2.1,e90.2.2.1,e90.2.2.2.1,e90.2.2.2.2.1,e90.2.2.2.2.2.1,e90.2.2.2.2.2.2.1,e90.2.2.2.2.2.2.2.1,e90.2.2.2.2.2.2.2.2.1,e90.2.2.2.2.2.2.2.2.2)]:List jU)) 128)
         (zo s1 s2 es (i+1) (bn s4 k107 (i:Int)) (s5++([(e90.1,e90.2.1,e90.2.2.1,e90.2.2.2.1,e90.2.2.2.2.1,e90.2.2.2.2.2.1,e90.2.2.2.2.2.2.1,e90.2.2.2.2.2.2.2.1,e90.2.2.2.2.2.2.2.2.1,e90.2.2.2.2.2.2.2.2.2)]:List jU)))
         (none))))))))
theorem jb (s0:jS) (s1:jT) (s2:jI) (s4:jI) (s5:jT) (hl:aa s2<=maxLen):lp xc zd (s0,s1,s2,0,s4,s5)=zo s1 s2 s2 0 s4 s5:=NM xc (fun i s4 s5=>(s0,s1,s2,i,s4,s5)) (fun es i s4 s5=>zo s1 s2 es i s4 s5) hl (fun r i s4 s5 h=>by unfold xc zo; simp only[h,cond_false]) (fun r i s4 s5 e es h g w k=>by unfold xc zo; simp only[h,cond_true,g,af,w,k]) s4 s5
theorem ZF {o:Option jI} {ys:List Int} (hl:(o.getD []).length<=100000):wy o ys=some (decide (o.getD []=ys)):=by
 unfold wy;generalize ho:o.getD []=xs at hl;have go:∀(m i k:Nat),xs.length - i=m->m<k->xs.length=ys.length->lp xz k (o,ys,((xs.length:Nat):Int),(i:Int))=some (cond (decide (xs.drop i=ys.drop i)) (.inl ()) (.inr false)):=by
  intro m
  induction m with
  | zero =>
   intro i k hm hk hle;obtain⟨k,rfl⟩:∃ k',k=k'+1:=⟨k - 1,by omega⟩
   rw[zx];unfold xz;simp only;rw[decide_eq_false (show ¬((i:Int)<((xs.length:Nat):Int)) by omega),cond_false,cD (by omega),cD (by omega)]
   rfl
  | succ m ih =>
   intro i k hm hk hle;obtain⟨k,rfl⟩:∃ k',k=k'+1:=⟨k - 1,by omega⟩
   rw[zx];have ih:=ih (i+1) k (by omega) (by omega) hle
   generalize lp xz k=rec at ih ⊢;unfold xz;simp only[ho];have h1:i<xs.length:=by omega
   have h2:i<ys.length:=by omega
   rw[decide_eq_true (show (i:Int)<((xs.length:Nat):Int) by omega),cond_true,yE,yE,am h1,am h2,af,af,aY h1,aY h2]
   by_cases he:xs[i]=ys[i]
   ·rw[show (xs[i] != ys[i])=false from by simp [he],cond_false,show ag .i64 ((i:Int)+1)=((i+1:Nat):Int) by rw[zn]<;>omega,ih,he]
    congr 1
    have:decide (xs.drop (i+1)=ys.drop (i+1))=decide (ys[i]::xs.drop (i+1)=ys[i]::ys.drop (i+1)):=decide_eq_decide.2 ⟨fun h=>by rw[h],fun h=>by injection h⟩
    rw[this]
   ·rw[show (xs[i] != ys[i])=true from by simp [he],cond_true,decide_eq_false (fun h=>he (by injection h))]
    rfl
 by_cases hle:xs.length=ys.length
 ·rw[show (((aa xs:Nat):Int) != ((aa ys:Nat):Int))=false from by simp [hle],cond_false]
  have:=go xs.length 0 zd (by omega) (co hl (by decide)) hle
  rw[show ((0:Int))=((0:Nat):Int) from rfl,this,bP,bP,af]
  cases decide (xs=ys)<;>rfl
 ·rw[show (((aa xs:Nat):Int) != ((aa ys:Nat):Int))=true from by rw[bne_iff_ne]; omega,cond_true,decide_eq_false (fun h=>hle (by rw[h]))]
def O9 (B:Bd) (x:Nat) (u:Tm):Bd:=fun y=>if y=x then some u else B y
def mt:Nat->List Tm->List Tm->Bd->Option Bd
 | _,[],bs,B=>match bs with
  | []=>some B
  | _::_=>none
 | 0,_::_,_,_=>none
 | n+1,.v x::as,bs,B=>match bs with
  | []=>none
  | u::bs=>match B x with
   | none=>mt n as bs (O9 B x u)
   | some w=>if w.codes=u.codes then mt n as bs B else none
 | n+1,.f c ts::as,bs,B=>match bs with
  | .f d us::bs=>if c=d then mt n (ts++as) (us++bs) B else none
  | _=>none
structure RB (s:List (Option jI)) (B:Bd):Prop where
 len:s.length=24
 at':∀ v,v<24->s[v]? = some ((B v).map Tm.codes)
structure BOk (a0:List zh) (B:Bd):Prop where
 ok:∀ x t,B x=some t->t.ok a0 24∧t.codes.length<=1000
theorem RB.set {s:List (Option jI)} {B:Bd} (h:RB s B) {x:Nat} (hx:x<24) (u:Tm):RB (s.set x (some u.codes)) (O9 B x u):=by
 refine ⟨by rw[bX]; exact h.len,fun v hv => ?_⟩
 unfold O9;by_cases he:v=x
 ·subst he; rw[if_pos rfl,bH (by rw[h.len]; exact hv)]; rfl
 ·rw[if_neg he,List.getElem?_set_ne (dN he)]; exact h.at' v hv
theorem BOk.set {a0:List zh} {B:Bd} (h:BOk a0 B) {x:Nat} {u:Tm} (hu:u.ok a0 24) (hl:u.codes.length<=1000):BOk a0 (O9 B x u):=⟨fun y t ht=>by
 unfold O9 at ht;by_cases he:y=x
 ·rw[if_pos he] at ht; injection ht with ht; subst ht; exact ⟨hu,hl⟩
 ·rw[if_neg he] at ht; exact h.ok y t ht⟩
def zcp (b:List Int) (o:Option Bd) (r:(Int×List (Option jI))⊕(Bool×List (Option jI))):Prop:=match o with
 | some B=>∃ s,r = .inl ((b.length:Int),s)∧RB s B
 | none=>(∃ s,r = .inr (false,s)∧s.length=24)∨∃ q s,r = .inl (q,s)∧q≠(b.length:Int)∧s.length=24
theorem XL {a0:List zh} {N:Nat} {ts us:List Tm}:okR a0 N (ts++us)↔okR a0 N ts∧okR a0 N us:=by
 rw[wU,wU,wU];exact ⟨fun h=>⟨fun t ht=>h t (bM _ ht),fun t ht=>h t (bW _ ht)⟩,fun h t ht=>(aI.1 ht).elim (h.1 t) (h.2 t)⟩
theorem J8 {a0:List zh} (hs:SignOk a0):(n:Nat)->(as bs:List Tm)->xi as<=n->okR a0 24 as->okR a0 24 bs->(B:Bd)->BOk a0 B->(s:List (Option jI))->RB s B->(x:List Int)->(x++za bs).length<=1000 ->
  ∃ r,zg a0 (x++za bs) (za as) (x.length:Int) s=some r∧zcp (x++za bs) (mt n as bs B) r
 | n,[],bs,_,_,_,B,_,s,hR,x,hl=>by
  have e0:za ([]:List Tm)=[]:=rfl;rw[e0];unfold zg;refine ⟨_,rfl,?_⟩;cases bs with
  | nil=>unfold mt; exact ⟨s,by simp [za],hR⟩
  | cons u bs =>
   unfold mt;refine .inr ⟨_,s,rfl,?_,hR.len⟩;have:=vq u;rw[al,za,al];omega
 | 0,t::as,bs,h,_,_,B,_,s,hR,x,hl=>by
  exfalso;unfold xi at h;cases t with
  | v y=>unfold Tm.size at h; omega
  | f c ts=>unfold Tm.size at h; omega
 | n+1,.v y::as,[],h,hA,hB,B,hBo,s,hR,x,hl=>by
  unfold za Tm.codes;rw[List.singleton_append];unfold zg;rw[decide_eq_true (show (x.length:Int)≥(((x++([]:List Int)).length:Nat):Int) by simp),cond_true]
  exact ⟨_,rfl,.inl ⟨s,rfl,hR.len⟩⟩
 | n+1,.v y::as,u::bs,h,hA,hB,B,hBo,s,hR,x,hl=>by
  have hy:y<24:=hA.1;have hu:u.ok a0 24:=hB.1;have hup:=vq u;have e1:x++za (u::bs)=x++u.codes++za bs:=by rw[za,aU]
  have e2:za (Tm.v y::as)=(-1 - (y:Int))::za as:=rfl;have hsz:xi as<=n:=by unfold xi Tm.size at h; omega
  rw[e1] at hl ⊢;rw[e2];have hl2:(x++u.codes++za bs).length=x.length+u.codes.length+(za bs).length:=by simp; omega
  have next:∀(B':Bd) (s':List (Option jI)),BOk a0 B'->RB s' B'->∃ r,zg a0 (x++u.codes++za bs) (za as) ((x.length+u.codes.length:Nat):Int) s'=some r∧zcp (x++u.codes++za bs) (mt n as bs B') r:=fun B' s' h1 h2=>by
   have:=J8 hs n as bs hsz hA.2 hB.2 B' h1 s' h2 (x++u.codes) hl;rw[al] at this;exact this
  have hi:inR (y:Int) 24=some y:=zO hy;have hsy:=hR.at' y hy;unfold zg;rw[decide_eq_false (show ¬((x.length:Int)≥(((x++u.codes++za bs).length:Nat):Int)) by omega),cond_false,decide_eq_false (show ¬(-1 - (y:Int)≥0) by omega),cond_false,YR hs hu x _ hl,af]
  simp only[az,cond_false];rw[BC,af,qm (by omega) (by omega),show -1 - (-1 - (y:Int))=(y:Int) by omega,af,hi,af,hsy,af]
  unfold mt;cases hb:B y with
  | none =>
   simp only[gp,Option.isNone_none,cond_true,af];have hnn:nn u.codes=some u.codes:=by unfold nn; cases hc:u.codes with
    | nil=>rw[hc] at hup; exact absurd hup (by simp)
    | cons _ _=>rfl
   rw[hsy,af,hnn,af,bH (by rw[hR.len]; exact hy),af,ZF (by rw[bk]; omega),bk,decide_eq_true rfl,af]
   simp only[az,cond_false];exact next _ _ (hBo.set hu (by omega)) (hR.set hy u)
  | some w =>
   have hw:=(hBo.ok y w hb).2;simp only[bx,cp,cond_false,af];rw[hsy,af,hb,bx,ZF (by rw[bk]; omega),bk,af]
   by_cases he:w.codes=u.codes
   ·rw[decide_eq_true he,if_pos he];simp only[az,cond_false];exact next _ _ hBo hR
   ·rw[decide_eq_false he,if_neg he];exact ⟨_,rfl,.inl ⟨s,rfl,hR.len⟩⟩
 | n+1,.f c ts::as,[],h,hA,hB,B,hBo,s,hR,x,hl=>by
  have e2:za (Tm.f c ts::as)=(c:Int)::(za ts++za as):=rfl;rw[e2];unfold zg;rw[decide_eq_true (show (x.length:Int)≥(((x++za []).length:Nat):Int) by simp [za]),cond_true]
  exact ⟨_,rfl,.inl ⟨s,rfl,hR.len⟩⟩
 | n+1,.f c ts::as,.v y::bs,h,hA,hB,B,hBo,s,hR,x,hl=>by
  have e2:za (Tm.f c ts::as)=(c:Int)::(za ts++za as):=rfl;have e1:za (Tm.v y::bs)=(-1 - (y:Int))::za bs:=rfl;rw[e1] at hl ⊢;rw[e2];unfold zg;rw[decide_eq_false (show ¬((x.length:Int)≥(((x++(-1 - (y:Int))::za bs).length:Nat):Int)) by simp; omega),cond_false,decide_eq_true (show (c:Int)≥0 by omega),cond_true,yE,rP,af,
   show ((-1 - (y:Int)) != (c:Int))=true from by rw[bne_iff_ne]; omega,cond_true]
  exact ⟨_,rfl,.inl ⟨s,rfl,hR.len⟩⟩
 | n+1,.f c ts::as,.f d us::bs,h,hA,hB,B,hBo,s,hR,x,hl=>by
  have e2:za (Tm.f c ts::as)=(c:Int)::za (ts++as):=by rw[v8]; rfl
  have e1:za (Tm.f d us::bs)=(d:Int)::za (us++bs):=by rw[v8]; rfl
  rw[e1] at hl ⊢;rw[e2];unfold zg;rw[decide_eq_false (show ¬((x.length:Int)≥(((x++(d:Int)::za (us++bs)).length:Nat):Int)) by simp; omega),cond_false,decide_eq_true (show (c:Int)≥0 by omega),cond_true,yE,rP,af]
  unfold mt;simp only;by_cases hcd:c=d
  ·subst hcd;rw[show (((c:Nat):Int) != ((c:Nat):Int))=false from by simp,cond_false,if_pos rfl]
   have e3:x++(c:Int)::za (us++bs)=(x++[(c:Int)])++za (us++bs):=by simp
   have hsz:xi (ts++as)<=n:=by
    rw[VH];unfold xi Tm.size at h;omega
   have:=J8 hs n (ts++as) (us++bs) hsz (XL.2 ⟨hA.1.2,hA.2⟩) (XL.2 ⟨hB.1.2,hB.2⟩) B hBo s hR (x++[(c:Int)]) (by rw[← e3]; exact hl)
   rw[← e3,al] at this;have hw:ag .i64 ((x.length:Int)+1)=((x.length+[(c:Int)].length:Nat):Int):=by
    rw[al] at hl;rw[List.length_singleton,zn]<;>omega
   rw[hw];exact this
  ·rw[show (((d:Nat):Int) != ((c:Nat):Int))=true from by rw[bne_iff_ne]; omega,cond_true,if_neg hcd]
   exact ⟨_,rfl,.inl ⟨s,rfl,hR.len⟩⟩
def BLe (B B':Bd):Prop:=∀ x t,B x=some t->B' x=some t
def BSub (B:Bd) (σ:Sb):Prop:=∀ x t,B x=some t->σ x=t
theorem W0 {a0:List zh}:(n:Nat)->(as bs:List Tm)->okR a0 24 as->okR a0 24 bs->(∀ t∈bs,t.codes.length<=1000)->(B B':Bd)->BOk a0 B->mt n as bs B=some B'->BLe B B'∧(∀ σ,BSub B' σ->wl σ as=bs)∧(∀ x,jE x as->(B' x).isSome)∧∀ x,B x=none->(B' x).isSome->jE x as
 | n,[],bs,_,_,_,B,B',_,h=>by
  unfold mt at h;cases bs with
  | nil=>injection h with h; subst h; exact ⟨fun _ _ h=>h,fun _ _=>rfl,fun x hx=>(nomatch (rg.1 hx).choose_spec.1),fun x h1 h2=>by rw[h1] at h2; cases h2⟩
  | cons _ _=>cases h
 | 0,_::_,_,_,_,_,_,_,_,h=>by unfold mt at h; cases h
 | n+1,.v y::as,[],_,_,_,_,_,_,h=>by unfold mt at h; cases h
 | n+1,.v y::as,u::bs,hA,hB,hl,B,B',hBo,h=>by
  have hul:=hl u (aj ..);have hl':∀ t∈bs,t.codes.length<=1000:=fun t ht=>hl t (ai _ ht);unfold mt at h;have has:∀ x,jE x (.v y::as)↔x=y∨jE x as:=fun x=>by
   rw[rg,rg];constructor
   ·rintro⟨t,ht,hx⟩;rcases aC.1 ht with rfl | ht
    ·exact .inl (fH hx)
    ·exact .inr ⟨t,ht,hx⟩
   ·rintro (h | ⟨t,ht,hx⟩)
    ·exact ⟨_,aj ..,fH h⟩
    ·exact ⟨t,ai _ ht,hx⟩
  cases hb:B y with
  | none =>
   rw[hb] at h;simp only at h;obtain⟨h1,h2,h3,h4⟩:=W0 n as bs hA.2 hB.2 hl' _ _ (hBo.set hB.1 hul) h;have hy:B' y=some u:=h1 y u (by unfold O9; rw[if_pos rfl])
   refine ⟨fun x t hx=>h1 x t ?_,fun σ hσ => ?_,fun x hx => ?_,fun x hx1 hx2 => ?_⟩
   ·unfold O9;rw[if_neg (fun e=>by rw[e,hb] at hx; cases hx)]
    exact hx
   ·show σ y::wl σ as=_;rw[h2 σ hσ,hσ y u hy]
   ·rcases (has x).1 hx with rfl | hx
    ·rw[hy]; rfl
    ·exact h3 x hx
   ·rw[has];by_cases hxy:x=y
    ·exact .inl hxy
    ·exact .inr (h4 x (by unfold O9; rw[if_neg hxy]; exact hx1) hx2)
  | some w =>
   rw[hb] at h;simp only at h;split at h
   ·rename_i he;obtain⟨h1,h2,h3,h4⟩:=W0 n as bs hA.2 hB.2 hl' _ _ hBo h;have hy:B' y=some w:=h1 y w hb;refine ⟨h1,fun σ hσ => ?_,fun x hx => ?_,fun x hx1 hx2=>(has x).2 (.inr (h4 x hx1 hx2))⟩
    ·show σ y::wl σ as=_;rw[h2 σ hσ,hσ y w hy];rw[If (hBo.ok y w hb).1 hB.1 he]
    ·rcases (has x).1 hx with rfl | hx
     ·rw[hy]; rfl
     ·exact h3 x hx
   ·cases h
 | n+1,.f c ts::as,[],_,_,_,_,_,_,h=>by unfold mt at h; cases h
 | n+1,.f c ts::as,.v y::bs,_,_,_,_,_,_,h=>by unfold mt at h; cases h
 | n+1,.f c ts::as,.f d us::bs,hA,hB,hl,B,B',hBo,h=>by
  unfold mt at h;simp only at h;by_cases hcd:c=d
  ·subst hcd;rw[if_pos rfl] at h;obtain⟨h1,h2,h3,h4⟩:=W0 n (ts++as) (us++bs) (XL.2 ⟨hA.1.2,hA.2⟩) (XL.2 ⟨hB.1.2,hB.2⟩) (fun t ht=>by
    rcases aI.1 ht with ht | ht
    ·have h1:=uz ht;have h2:=hl (.f c us) (aj ..);rw[Tm.codes,ak] at h2;omega
    ·exact hl t (ai _ ht)) _ _ hBo h
   have hlen:ts.length=us.length:=by
    have a:=hA.1.1;have b:=hB.1.1;rw[a] at b;injection b
   have has:∀ x,jE x (.f c ts::as)↔jE x (ts++as):=fun x=>by
    rw[rg,rg];constructor
    ·rintro⟨t,ht,hx⟩;rcases aC.1 ht with rfl | ht
     ·obtain⟨u,hu,hx⟩:=rg.1 (show jE x ts from hx)
      exact ⟨u,bM _ hu,hx⟩
     ·exact ⟨t,bW _ ht,hx⟩
    ·rintro⟨t,ht,hx⟩;rcases aI.1 ht with ht | ht
     ·exact ⟨_,aj ..,show jE x ts from rg.2 ⟨t,ht,hx⟩⟩
     ·exact ⟨t,ai _ ht,hx⟩
   refine ⟨h1,fun σ hσ => ?_,fun x hx=>h3 x ((has x).1 hx),fun x hx1 hx2=>(has x).2 (h4 x hx1 hx2)⟩;have h5:=h2 σ hσ;rw[Oa] at h5;obtain⟨h6,h7⟩:=List.append_inj h5 (by rw[rZ]; exact hlen)
   show Tm.f c (wl σ ts)::wl σ as=_;rw[h6,h7]
  ·rw[if_neg hcd] at h; cases h
def sbB (B:Bd):Sb:=fun x=>(B x).getD (.v x)
theorem BSub.sb (B:Bd):BSub B (sbB B):=fun x t h=>by unfold sbB; rw[h]; rfl
def none24:List (Option jI):=ax 24 none
theorem RB.zero:RB none24 (fun _=>none):=⟨by unfold none24; simp,fun v hv=>by unfold none24; rw[bA,if_pos hv]; rfl⟩
theorem BOk.zero (a0:List zh):BOk a0 (fun _=>none):=⟨fun x t h=>nomatch h⟩
def Bi (B:Bd) (vs:List Nat):List (Int×List Int):=(vs.filter (moved (sbB B))).map fun v:Nat=>((v:Int),(sbB B v).codes)
theorem Jb {a0:List zh} {s:List (Option jI)} {B:Bd} (hR:RB s B) (hB:BOk a0 B):(m v k:Nat)->24 - v=m->m<k->v<=24->(out:List (Int×List Int))->out.length+m<=1000 ->
  lp qM k ((v:Int),s,out)=some (s,out++Bi B ((aJ 24).drop v))
 | m,v,k,hm,hk,hv,out,hl=>by
  obtain⟨k,rfl⟩:∃ k',k=k'+1:=⟨k - 1,by omega⟩
  rw[zx];have ih:∀ m' out',m=m'+1->out'.length+m'<=1000->lp qM k (((v+1:Nat):Int),s,out')=some (s,out'++Bi B ((aJ 24).drop (v+1))):=fun m' out' h h2=>by
   subst h;exact Jb hR hB m' (v+1) k (by omega) (by omega) (by omega) out' h2
  generalize lp qM k=rec at ih ⊢;unfold qM;simp only;by_cases h24:v<24
  ·have hd:(aJ 24).drop v=v::(aJ 24).drop (v+1):=by
    have:=aY (l:=aJ 24) (i:=v) (by rw[List.length_range]; exact h24)
    rwa [List.getElem_range] at this
   have e0:∀ b,moved (sbB B) v=b->Bi B ((aJ 24).drop v)=cond b [((v:Int),(sbB B v).codes)] []++Bi B ((aJ 24).drop (v+1)):=fun b hb=>by
    rw[hd];unfold Bi;cases b with
    | true=>rw[dc hb,aN]; rfl
    | false=>rw[cP (by rw[hb]; simp)]; rfl
   have hw:ag .i64 ((v:Int)+1)=((v+1:Nat):Int):=by rw[zn]<;>omega
   rw[decide_eq_true (show (v:Int)<24 by omega),cond_true,zO h24,af,hR.at' v h24,af,hw]
   obtain⟨m,rfl⟩:∃ m',m=m'+1:=⟨m - 1,by omega⟩
   cases hb:B v with
   | none =>
    have hm':moved (sbB B) v=false:=by unfold moved sbB; rw[hb]; simp
    rw[e0 false hm'];exact ih m out rfl (by omega)
   | some t =>
    have hs:sbB B v=t:=by unfold sbB; rw[hb]; rfl
    obtain⟨-,htl⟩:=hB.ok v t hb;simp only[bx,cp,bN,cond_true,bk];have put:moved (sbB B) v=true->(zB t.codes).bind (fun r12=>cond (yb (aa out+aa ([((v:Int),r12)]:List (Int×jI))) 32) (rec (((v+1:Nat):Int),s,(out++([((v:Int),r12)]:List (Int×jI))))) none)=some (s,out++Bi B ((aJ 24).drop v)):=fun hm'=>by
     rw[zZ (by omega),af,zm (by simp; omega),cond_true,ih m _ rfl (by simp; omega),e0 true hm',hs,cond_true,aU]
    cases t with
    | f c ts =>
     have hm':moved (sbB B) v=true:=by unfold moved; rw[hs]
     by_cases h1:(((Tm.f c ts).codes.length:Nat):Int)>1
     ·rw[decide_eq_true h1,cond_true]; exact put hm'
     ·rw[decide_eq_false h1,cond_false];have hg:gx (Tm.f c ts).codes 0=some (c:Int):=by rw[yh]; rfl
      rw[hg,af,qm (by omega) (by omega),af,show ((c:Int) != -1 - (v:Int))=true from by rw[bne_iff_ne]; omega,cond_true]
      exact put hm'
    | v y =>
     have hg:gx (Tm.v y).codes 0=some (-1 - (y:Int)):=by rw[yh]; rfl
     rw[decide_eq_false (show ¬((((Tm.v y).codes.length:Nat):Int)>1) by simp [Tm.codes]),cond_false,hg,af,qm (by omega) (by omega),af]
     by_cases hy:y=v
     ·have hm':moved (sbB B) v=false:=by unfold moved; rw[hs]; simp [hy]
      rw[show ((-1 - (y:Int)) != -1 - (v:Int))=false from by rw[hy]; simp,cond_false,e0 false hm']
      exact ih m out rfl (by omega)
     ·have hm':moved (sbB B) v=true:=by unfold moved; rw[hs]; simpa using hy
      rw[show ((-1 - (y:Int)) != -1 - (v:Int))=true from by rw[bne_iff_ne]; omega,cond_true]
      exact put hm'
  ·have hv24:v=24:=by omega
   subst hv24;rw[decide_eq_false (by omega),cond_false]
   have:Bi B ((aJ 24).drop 24)=[]:=by rw[show (aJ 24).drop 24=[] from rfl]; rfl
   rw[this,bG]
theorem Xi {a0:List zh} {s:List (Option jI)} {B:Bd} (hR:RB s B) (hB:BOk a0 B):vm s=some (un (sbB B),s):=by
 unfold vm;rw[show (0:Int)=((0:Nat):Int) from rfl,Jb hR hB 24 0 zd rfl (by decide) (by omega) [] (by simp),af,cH]
 rfl
def mtR (as bs:List Tm):Option Bd:=mt (xi as) as bs fun _=>none
theorem j6 {a0:List zh} (hs:SignOk a0) {as bs:List Tm} (hA:okR a0 24 as) (hB:okR a0 24 bs) (hl:(za as).length<=1000) (hl2:(za bs).length<=1000) :
  ∃ s,qA a0 (za as) (za bs) none24=some ((mtR as bs).isSome,s)∧∀ B,mtR as bs=some B->RB s B:=by
 obtain⟨r,h1,h2⟩:=J8 hs (xi as) as bs (aE _) hA hB _ (BOk.zero a0) _ RB.zero [] (by simpa using hl2)
 unfold qA;rw[ul _ _ _ _ _ (by unfold maxLen; omega)]
 rw[bj,bc] at h1;rw[bj] at h2;rw[show (0:Int)=((0:Nat):Int) from rfl,h1,af]
 have l24:none24.length=24:=by unfold none24; simp
 unfold mtR;cases hm:mt (xi as) as bs fun _=>none with
 | some B =>
  rw[hm] at h2;obtain⟨s,rfl,hR⟩:=h2;refine ⟨s,?_,fun B' h=>by injection h with h; rw[← h]; exact hR⟩
  simp only[yl,l24,hR.len,cH,cY,cond_true,beq_self_eq_true,dE]
 | none =>
  rw[hm] at h2;rcases h2 with ⟨s,rfl,hs24⟩ | ⟨q,s,rfl,hq,hs24⟩
  ·refine ⟨s,?_,fun B' h=>nomatch h⟩;simp only[yl,l24,hs24,cH,cY,cond_true,cM]
  ·refine ⟨s,?_,fun B' h=>nomatch h⟩;simp only[yl,l24,hs24,cH,cY,cond_true,cM];rw[show (q==((aa (za bs):Nat):Int))=false from by rw[beq_eq_false_iff_ne]; exact hq]
theorem Al {a0:List zh}:(n:Nat)->(as bs:List Tm)->okR a0 24 as->okR a0 24 bs->(∀ t∈bs,t.codes.length<=1000)->(B B':Bd)->BOk a0 B->mt n as bs B=some B'->BOk a0 B'
 | n,[],bs,_,_,_,B,B',hBo,h=>by
  unfold mt at h;cases bs with
  | nil=>injection h with h; subst h; exact hBo
  | cons _ _=>cases h
 | 0,_::_,_,_,_,_,_,_,_,h=>by unfold mt at h; cases h
 | n+1,.v y::as,[],_,_,_,_,_,_,h=>by unfold mt at h; cases h
 | n+1,.v y::as,u::bs,hA,hB,hl,B,B',hBo,h=>by
  unfold mt at h;have hul:=hl u (aj ..);have hl':∀ t∈bs,t.codes.length<=1000:=fun t ht=>hl t (ai _ ht);cases hb:B y with
  | none =>
   rw[hb] at h;exact Al n as bs hA.2 hB.2 hl' _ _ (hBo.set hB.1 hul) h
  | some w =>
   rw[hb] at h;simp only at h;split at h
   ·exact Al n as bs hA.2 hB.2 hl' _ _ hBo h
   ·cases h
 | n+1,.f c ts::as,[],_,_,_,_,_,_,h=>by unfold mt at h; cases h
 | n+1,.f c ts::as,.v y::bs,_,_,_,_,_,_,h=>by unfold mt at h; cases h
 | n+1,.f c ts::as,.f d us::bs,hA,hB,hl,B,B',hBo,h=>by
  unfold mt at h;simp only at h;by_cases hcd:c=d
  ·rw[if_pos hcd] at h;exact Al n (ts++as) (us++bs) (XL.2 ⟨hA.1.2,hA.2⟩) (XL.2 ⟨hB.1.2,hB.2⟩) (fun t ht=>by
    rcases aI.1 ht with ht | ht
    ·have h1:=uz ht;have h2:=hl (.f d us) (aj ..);rw[Tm.codes,ak] at h2;omega
    ·exact hl t (ai _ ht)) _ _ hBo h
  ·rw[if_neg hcd] at h; cases h
inductive Step (a0:List zh) (l rr:Tm) (us:List Tm) (r:List Int):Nat->Option jI->Prop
 | stop:Step a0 l rr us r r.length none
 | skip (t:Tm) (x y:List Int) (p:Nat) (o:Option jI):t.ok a0 24->r=x++t.codes++y->x.length=p->mtR [l] [t]=none->Step a0 l rr us r (p+1) o->Step a0 l rr us r p o
 | here (t:Tm) (x y:List Int) (p:Nat) (B:Bd) (ws:List Tm):t.ok a0 24->r=x++t.codes++y->x.length=p->mtR [l] [t]=some B->RR t (rr.sub (sbB B)) us ws->za ws=x++(rr.sub (sbB B)).codes++y->Step a0 l rr us r p (some (za ws))
theorem Av {a0:List zh} {l rr:Tm} {us:List Tm} (hu:okR a0 24 us):(m p:Nat)->(za us).length - p=m->p<=(za us).length->∃ o,Step a0 l rr us (za us) p o
 | m,p,hm,hp=>by
  rcases Nat.lt_or_ge p (za us).length with h | h
  ·obtain⟨t,ht,x,y,e1,e2,e3⟩:=Py hu h;cases hB:mtR [l] [t] with
   | none =>
    obtain⟨o,ho⟩:=Av (l:=l) (rr:=rr) hu (m - 1) (p+1) (by omega) h
    exact ⟨o,.skip t x y p o ht e1 e2 hB ho⟩
   | some B =>
    obtain⟨ws,g1,g2⟩:=e3 (rr.sub (sbB B));exact ⟨_,.here t x y p B ws ht e1 e2 hB g1 g2⟩
  ·have:p=(za us).length:=by omega
   rw[this];exact ⟨none,.stop⟩
termination_by m p=>(za us).length - p
theorem DK {a0:List zh} (hs:SignOk a0) {t:Tm} (ht:t.ok a0 24):∀ c∈t.codes,c<=1000000:=fun c hc=>by
 have h:=Qo (t.sk_codes ht) c (by rw[List.take_length]; exact hc)
 have:=hs.len;omega
mutual
theorem VM {σ:Sb} {x:Nat}:(t:Tm)->t.has x->(σ x).codes.length<=(t.sub σ).codes.length
 | .v y,h=>by
  have h:y=x:=h;subst h;exact aE _
 | .f c ts,h=>by
  have:=Wl (σ:=σ) ts h;show _<=((c:Int)::za (wl σ ts)).length;rw[ak];omega
theorem Wl {σ:Sb} {x:Nat}:(ts:List Tm)->jE x ts->(σ x).codes.length<=(za (wl σ ts)).length
 | [],h=>h.elim
 | t::ts,h=>by
  show _<=((t.sub σ).codes++za (wl σ ts)).length;rw[al];rcases h with h | h
  ·have:=VM (σ:=σ) t h; omega
  ·have:=Wl (σ:=σ) ts h; omega
end
theorem x6 (t:Tm):za [t]=t.codes:=by simp [za]
theorem DX {a0:List zh} (hs:SignOk a0) {l rr:Tm} (hl:l.ok a0 24) (hr:rr.ok a0 24) (hrl:rr.codes.length<=48) {t:Tm} (ht:t.ok a0 24) (htl:t.codes.length<=48) {B:Bd} (hB:mtR [l] [t]=some B):BOk a0 B∧(∀ x,(sbB B x).codes.length<=48)∧(∀ x,x<24->(sbB B x).ok a0 24)∧Zt (un (sbB B)) rr.codes=some (rr.sub (sbB B)).codes∧l.sub (sbB B)=t:=by
 have hBo:BOk a0 B:=Al _ [l] [t] ⟨hl,trivial⟩ ⟨ht,trivial⟩ (fun u hu=>by rw[ba.1 hu]; omega) _ _ (BOk.zero a0) hB
 obtain⟨h1,h2,h3,h4⟩:=W0 (a0:=a0) _ [l] [t] ⟨hl,trivial⟩ ⟨ht,trivial⟩ (fun u hu=>by rw[ba.1 hu]; omega) _ _ (BOk.zero a0) hB
 have hsub:=h2 (sbB B) (BSub.sb B);have hsub:l.sub (sbB B)=t:=by simpa[wl] using hsub
 have hvar:∀ x,l.has x->(sbB B x).codes.length<=t.codes.length:=fun x hx=>by
  rw[← hsub];exact VM l hx
 have hlen:∀ x,(sbB B x).codes.length<=48:=fun x=>by
  by_cases hx:(B x).isSome
  ·have h5:=h4 x rfl hx;rw[rg] at h5;obtain⟨u,hu,h5⟩:=h5;rw[ba.1 hu] at h5;exact aV (hvar x h5) htl
  ·unfold sbB;rw[Option.not_isSome_iff_eq_none.1 hx];simp [Tm.codes]
 refine ⟨hBo,hlen,fun x hx => ?_,?_,hsub⟩
 ·unfold sbB;cases hb:B x with
  | none=>exact hx
  | some w=>exact (hBo.ok x w hb).1
 ·have hb:BindsOk (un (sbB B)):=by
   refine ⟨?_,fun b hb => ?_⟩
   ·unfold un;rw[aL];exact aV (dJ _ _) (by simp)
   ·obtain⟨v,-,rfl⟩:=aX.1 hb;have:=vq (sbB B v);have:=hlen v;exact ⟨fun h=>by simp only at h; rw[h] at this; simp_all,by simp only; omega⟩
  have hc:=jv hr;have hcr:∀ c∈rr.codes,-1000000<=c∧c<=1000000:=fun c hcm=>by
   have h1:=(hc c hcm).1;have h2:=DK hs hr c hcm;omega
  rw[rk hb (by omega) hcr,Bh rr fun c hcm=>(hc c hcm).1]
theorem HD {f:Int->List Int} {n:Nat}:(cs:List Int)->(∀ c∈cs,(f c).length<=n)->(cs.flatMap f).length<=cs.length*n
 | [],_=>bK _
 | c::cs,h=>by
  have h1:=h c (aj ..);have h2:=HD cs fun x hx=>h x (ai _ hx);rw[bt,al,ak,Nat.add_mul,Nat.one_mul];omega
theorem FL {rr:Tm} (hrl:rr.codes.length<=48) {σ:Sb} (h:∀ x,(σ x).codes.length<=48):(rr.sub σ).codes.length<=48*48:=by
 rw[Tm.codes_sub];refine aV (HD (n:=48) rr.codes fun c _ => ?_) (Nat.mul_le_mul_right 48 hrl);unfold j5;split
 ·exact h _
 ·simp
theorem Im {α β γ:Type} (o:Option (α×β×γ)):(o.bind fun r=>some (r.1,r.2.1,r.2.2))=o:=by cases o<;>rfl
inductive Rew (a0:List zh) (l rr:Tm):List Tm->Nat->List Int×Int×Bool->Prop
 | stop (us:List Tm) (n:Nat):Step a0 l rr us (za us) 0 none->Rew a0 l rr us n (za us,(n:Int),true)
 | full (us:List Tm) (n:Nat) (r:List Int):Step a0 l rr us (za us) 0 (some r)->n=100∨48<r.length->Rew a0 l rr us n ([],0,false)
 | next (us ws:List Tm) (n:Nat) (σ:Sb) (res:List Int×Int×Bool):Step a0 l rr us (za us) 0 (some (za ws))->n≠100->(za ws).length<=48->(∀ x,x<24->(σ x).ok a0 24)->RR (l.sub σ) (rr.sub σ) us ws->okR a0 24 ws->Rew a0 l rr ws (n+1) res->Rew a0 l rr us n res
theorem FM {a0:List zh} (hs:SignOk a0) {l rr:Tm} (hl:l.ok a0 24) (hr:rr.ok a0 24) (hrl:rr.codes.length<=48) {us:List Tm} (hu:okR a0 24 us) (hul:(za us).length<=48) {p:Nat} {r':List Int} {o:Option jI} (h:Step a0 l rr us (za us) p o) (ho:o=some r') :
  ∃(ws:List Tm) (σ:Sb),r'=za ws∧(∀ x,x<24->(σ x).ok a0 24)∧RR (l.sub σ) (rr.sub σ) us ws∧okR a0 24 ws:=by
 induction h with
 | stop=>cases ho
 | skip t x y p o ht e1 e2 e3 e4 ih=>exact ih ho
 | here t x y p B ws ht e1 e2 e3 e4 e5 =>
  injection ho with ho;have htl:t.codes.length<=48:=by rw[e1] at hul; simp only[al] at hul; omega
  obtain⟨h1,h2,h3,h4,h5⟩:=DX hs hl hr hrl ht htl e3;refine ⟨ws,sbB B,ho.symm,h3,by rw[h5]; exact e4,e4.ok ?_ hu⟩
  exact Tm.ok_sub rr hr fun x hx=>h3 x (Du [rr] ⟨hr,trivial⟩ (.inl hx))
theorem He {a0:List zh} (hs:SignOk a0) {l rr:Tm} (hl:l.ok a0 24) (hr:rr.ok a0 24) (hrl:rr.codes.length<=48):(m n:Nat)->100 - n=m->n<=100->(us:List Tm)->okR a0 24 us->(za us).length<=48->∃ res,Rew a0 l rr us n res
 | m,n,hm,hn,us,hu,hul=>by
  obtain⟨o,ho⟩:=Av (l:=l) (rr:=rr) hu (za us).length 0 (Nat.sub_zero _) (bK _);cases o with
  | none=>exact ⟨_,.stop us n ho⟩
  | some r' =>
   by_cases h100:n=100
   ·exact ⟨_,.full us n r' ho (.inl h100)⟩
   by_cases h48:48<r'.length
   ·exact ⟨_,.full us n r' ho (.inr h48)⟩
   obtain⟨ws,σ,rfl,h1,h2,h3⟩:=FM hs hl hr hrl hu hul ho rfl;obtain⟨res,h4⟩:=He hs hl hr hrl (m - 1) (n+1) (by omega) (by omega) ws h3 (by omega)
   exact ⟨res,.next us ws n σ res ho h100 (by omega) h1 h2 h3 h4⟩
section
variable {a0:List zh} (hs:SignOk a0) {l rr:Tm} (hl:l.ok a0 24) (hr:rr.ok a0 24) (hll:l.codes.length<=48) (hrl:rr.codes.length<=48)
include hs hl hr hll hrl
theorem YN {us:List Tm} (hul:(za us).length<=48) {n:Nat} (hn:n<=100) {t:Tm} {x y:List Int} (ht:t.ok a0 24) (e1:za us=x++t.codes++y) (k:Nat) :
  (∀ B (ws:List Tm),mtR [l] [t]=some B->za ws=x++(rr.sub (sbB B)).codes++y->lp zI (k+1) (a0,za us,(n:Int),(x.length:Int),l.codes,rr.codes)=cond (n==100) (some ([],0,false)) (cond (decide ((za ws).length>48)) (some ([],0,false)) (lp zI k (a0,za ws,((n+1:Nat):Int),((0:Nat):Int),l.codes,rr.codes)))) ∧
  (mtR [l] [t]=none->lp zI (k+1) (a0,za us,(n:Int),(x.length:Int),l.codes,rr.codes)=lp zI k (a0,za us,(n:Int),((x.length+1:Nat):Int),l.codes,rr.codes)):=by
 have htp:=vq t;have hul2:(x++t.codes++y).length<=48:=by rw[← e1]; exact hul
 have hlen:(x++t.codes++y).length=x.length+t.codes.length+y.length:=by simp only[al]
 have htl:t.codes.length<=48:=by omega
 obtain⟨s,g1,g2⟩:=j6 hs (as:=[l]) (bs:=[t]) ⟨hl,trivial⟩ ⟨ht,trivial⟩ (by rw[x6]; omega) (by rw[x6]; omega)
 rw[x6,x6] at g1;rw[zx,e1];generalize lp zI k=rec;unfold zI;simp only;rw[show ((x.length:Int)==(((x++t.codes++y).length:Nat):Int))=false from by rw[beq_eq_false_iff_ne]; omega,cond_false,YR hs ht x y (by omega),af]
 simp only;rw[BC,af];rw[show ax 24 (none:Option jI)=none24 from rfl,g1,af]
 constructor
 ·intro B ws hB hws;have hR:=g2 B hB;obtain⟨h1,h2,h3,h4,h5⟩:=DX hs hl hr hrl ht htl hB;have hcl:(za ws).length=x.length+(rr.sub (sbB B)).codes.length+y.length:=by rw[hws]; simp only[al]
  have hsl:(rr.sub (sbB B)).codes.length<=48*48:=FL hrl h2;simp only[hB,dE,az,cond_false];rw[show ((n:Int)==100)=(n==100) from by rw[Bool.eq_iff_iff,beq_iff_eq,beq_iff_eq]; omega]
  cases n==100 with
  | true=>rfl
  | false =>
   simp only[cond_false];rw[Iz,af,Xi hR h1,af,h4,af,AP,af,BG (by omega),af,← hws,show ag .i64 ((n:Int)+1)=((n+1:Nat):Int) by rw[zn]<;>omega]
   by_cases h48:(za ws).length>48
   ·rw[decide_eq_true h48,decide_eq_true (show (((za ws).length:Nat):Int)>48 by omega)]
    rfl
   ·rw[decide_eq_false h48,decide_eq_false (show ¬((((za ws).length:Nat):Int)>48) by omega)]
    rfl
 ·intro hB;simp only[hB,cM,bN,cond_true];rw[show ag .i64 ((x.length:Int)+1)=((x.length+1:Nat):Int) by rw[zn]<;>omega]
theorem Vj {us:List Tm} (hul:(za us).length<=48) {n:Nat} (hn:n<=100) {p:Nat} {o:Option jI} (h:Step a0 l rr us (za us) p o):p<=(za us).length∧∀ k,(za us).length - p<k ->
  (o=none->lp zI k (a0,za us,(n:Int),(p:Int),l.codes,rr.codes)=some (za us,(n:Int),true)) ∧
  ∀ r',o=some r'->∃ k',k<=k'+1+((za us).length - p)∧lp zI k (a0,za us,(n:Int),(p:Int),l.codes,rr.codes)=cond (n==100) (some ([],0,false)) (cond (decide (r'.length>48)) (some ([],0,false)) (lp zI k' (a0,r',((n+1:Nat):Int),((0:Nat):Int),l.codes,rr.codes))):=by
 induction h with
 | stop =>
  refine ⟨aE _,fun k hk=>⟨fun _ => ?_,fun r' h=>nomatch h⟩⟩;obtain⟨k,rfl⟩:∃ k',k=k'+1:=⟨k - 1,by omega⟩
  rw[zx];unfold zI;simp only[beq_self_eq_true,cond_true]
 | skip t x y p o ht e1 e2 e3 e4 ih =>
  subst e2;have htp:=vq t;have hlen:(za us).length=x.length+t.codes.length+y.length:=by rw[e1]; simp only[al]
  refine ⟨by omega,fun k hk => ?_⟩
  obtain⟨k,rfl⟩:∃ k',k=k'+1:=⟨k - 1,by omega⟩
  have h1:=(YN hs hl hr hll hrl hul hn ht e1 k).2 e3;obtain⟨h2,h3⟩:=ih.2 k (by omega)
  rw[h1];refine ⟨h2,fun r' hr' => ?_⟩;obtain⟨k',h4,h5⟩:=h3 r' hr';exact ⟨k',by omega,h5⟩
 | here t x y p B ws ht e1 e2 e3 e4 e5 =>
  subst e2;have htp:=vq t;have hlen:(za us).length=x.length+t.codes.length+y.length:=by rw[e1]; simp only[al]
  refine ⟨by omega,fun k hk=>⟨fun h=>(nomatch h),fun r' hr' => ?_⟩⟩
  injection hr' with hr';subst hr';obtain⟨k,rfl⟩:∃ k',k=k'+1:=⟨k - 1,by omega⟩
  exact ⟨k,by omega,(YN hs hl hr hll hrl hul hn ht e1 k).1 B ws e3 e5⟩
theorem MV {us:List Tm} (hul:(za us).length<=48) {n:Nat} (hn:n<=100) {res:List Int×Int×Bool} (h:Rew a0 l rr us n res):∀ k,60*(101 - n)<k->lp zI k (a0,za us,(n:Int),((0:Nat):Int),l.codes,rr.codes)=some res:=by
 induction h with
 | stop us n h1 =>
  intro k hk;exact ((Vj hs hl hr hll hrl hul hn h1).2 k (by omega)).1 rfl
 | full us n r h1 h2 =>
  intro k hk;obtain⟨k',-,h3⟩:=((Vj hs hl hr hll hrl hul hn h1).2 k (by omega)).2 r rfl
  rw[h3];rcases h2 with rfl | h2
  ·rfl
  ·rw[decide_eq_true h2];cases n==100<;>rfl
 | next us ws n σ res h1 h2 h3 h4 h5 h6 h7 ih =>
  intro k hk;obtain⟨k',h8,h9⟩:=((Vj hs hl hr hll hrl hul hn h1).2 k (by omega)).2 _ rfl
  rw[h9,show (n==100)=false from by simpa using h2,decide_eq_false (by omega)]
  exact ih h3 (by omega) k' (by omega)
theorem CC {us:List Tm} (hul:(za us).length<=48) {res:List Int×Int×Bool} (h:Rew a0 l rr us 0 res):kv a0 l.codes rr.codes (za us)=some res:=by
 have key:=MV hs hl hr hll hrl hul (bK 100) h (zd+1) (Nat.lt_succ_of_lt (by decide))
 rw[← key];unfold kv;rw[zZ (by omega),af]
 have hstep:∃ o,Step a0 l rr us (za us) 0 o:=by cases h with
  | stop _ _ h=>exact ⟨_,h⟩
  | full _ _ _ h=>exact ⟨_,h⟩
  | next _ _ _ _ _ h=>exact ⟨_,h⟩
 obtain⟨o,ho⟩:=hstep;generalize hr0:za us=r0 at ho;generalize hp0:(0:Nat)=p0 at ho;cases ho with
 | stop =>
  have h0:r0=[]:=aZ hp0.symm;rw[h0,zx];rfl
 | skip t x y _ _ ht e1 e2 e3 e4 =>
  subst hp0;have hx:x=[]:=aZ e2;subst hx;have htp:=vq t;have e1':za us=[]++t.codes++y:=hr0.trans e1;have h1:=(YN hs hl hr hll hrl hul (bK 100) ht e1' zd).2 e3;have hlen:r0.length=t.codes.length+y.length:=by rw[e1]; simp
  have hul':r0.length<=48:=by rw[← hr0]; exact hul
  have hsk:=YR hs ht [] y (by rw[← e1]; omega)
  rw[← e1] at hsk;have hsk:xE a0 r0 0=some (((t.codes.length:Nat):Int),true):=by simpa using hsk
  obtain⟨s,g1,-⟩:=j6 hs (as:=[l]) (bs:=[t]) ⟨hl,trivial⟩ ⟨ht,trivial⟩ (by rw[x6]; omega) (by rw[x6]; omega)
  rw[x6,x6,e3] at g1;rw[show (0==((aa r0:Nat):Int))=false from by rw[beq_eq_false_iff_ne]; omega,cond_false,hsk,af]
  simp only;rw[decide_eq_true (show (0:Int)<=((t.codes.length:Nat):Int) by omega),cond_true,decide_eq_true (show ((t.codes.length:Nat):Int)<=((aa r0:Nat):Int) by omega),cond_true]
  have htk:er (bb ((t.codes.length:Nat):Int) - bb 0) (ep 0 r0)=t.codes:=by rw[e1]; simp
  rw[htk,show ax 24 (none:Option jI)=none24 from rfl,g1,af]
  simp only[cM,bN,cond_true];rw[hr0] at h1;refine ik ?_ h1.symm;exact Im _
 | here t x y _ B ws ht e1 e2 e3 e4 e5 =>
  subst hp0;have hx:x=[]:=aZ e2;subst hx;have htp:=vq t;have e1':za us=[]++t.codes++y:=hr0.trans e1;have h1:=(YN hs hl hr hll hrl hul (bK 100) ht e1' zd).1 B ws e3 e5;have hlen:r0.length=t.codes.length+y.length:=by rw[e1]; simp
  have hul':r0.length<=48:=by rw[← hr0]; exact hul
  have hsk:=YR hs ht [] y (by rw[← e1]; omega)
  rw[← e1] at hsk;have hsk:xE a0 r0 0=some (((t.codes.length:Nat):Int),true):=by simpa using hsk
  obtain⟨s,g1,g2⟩:=j6 hs (as:=[l]) (bs:=[t]) ⟨hl,trivial⟩ ⟨ht,trivial⟩ (by rw[x6]; omega) (by rw[x6]; omega)
  rw[x6,x6,e3] at g1;obtain⟨k1,k2,k3,k4,k5⟩:=DX hs hl hr hrl ht (by omega) e3
  have hsl:(rr.sub (sbB B)).codes.length<=48*48:=FL hrl k2;rw[show (0==((aa r0:Nat):Int))=false from by rw[beq_eq_false_iff_ne]; omega,cond_false,hsk,af]
  simp only;have d1:decide ((0:Int)<=((t.codes.length:Nat):Int))=true:=decide_eq_true (by omega)
  have d2:decide (((t.codes.length:Nat):Int)<=((aa r0:Nat):Int))=true:=decide_eq_true (by omega)
  have d3:decide ((0:Int)<=((aa r0:Nat):Int))=true:=decide_eq_true (by omega)
  have d4:decide (((aa r0:Nat):Int)<=((aa r0:Nat):Int))=true:=decide_eq_true (by omega)
  have htk:er (bb ((t.codes.length:Nat):Int) - bb 0) (ep 0 r0)=t.codes:=by rw[e1]; simp
  have hyk:er (bb ((aa r0:Nat):Int) - bb ((t.codes.length:Nat):Int)) (ep (0+bb ((t.codes.length:Nat):Int)) r0)=y:=by
   rw[bh,bh,aR,hlen,e1];simp
  rw[d1,cond_true,d2,cond_true,htk,show ax 24 (none:Option jI)=none24 from rfl,g1,af]
  simp only[dE,az,cond_false];rw[show decide ((0:Nat)<=0)=true from rfl,cond_true,d3,cond_true,Xi (g2 B e3) k1,af,k4,af,d4,cond_true,hyk,
   show er (bb 0 - bb 0) (ep 0 r0)=[] by simp,BG (by simp; omega),af]
  rw[hr0] at h1;have h1':lp zI (zd+1) (a0,r0,0,0,l.codes,rr.codes)=_:=h1;refine ik ?_ h1'.symm;rw[← e5,show ((0:Nat)==100)=false from rfl,cond_false]
  simp only[cond_true];by_cases h48:(za ws).length>48
  ·rw[decide_eq_true h48,decide_eq_true (show (((za ws).length:Nat):Int)>48 by omega)]; rfl
  ·rw[decide_eq_false h48,decide_eq_false (show ¬((((za ws).length:Nat):Int)>48) by omega),cond_false,cond_false]
   exact Im _
end
theorem AG:(es out:List zc)->(∀ l∈es,l.2.length<=1000)->out.length+es.length<=1000->yw es out=some (out++es)
 | [],out,_,_=>by unfold yw; rw[bG]
 | e::es,out,h,hl=>by
  rw[ak] at hl;have:=h e (aj ..);unfold yw;rw[zZ (by omega),af,zm (by simp; omega),cond_true,AG es _ (fun l hl=>h l (ai _ hl)) (by simp; omega),aU]
  rfl
theorem AR (L:List zc):(es out:List jI)->(∀ l∈es,l.length<=1000)->out.length+es.length<=1000->yx L es out=some (L,out++es)
 | [],out,_,_=>by unfold yx; rw[bG]
 | e::es,out,h,hl=>by
  rw[ak] at hl;have:=h e (aj ..);unfold yx;rw[zZ (by omega),af,zm (by simp; omega),cond_true,AR L es _ (fun l hl=>h l (ai _ hl)) (by simp; omega),aU]
  rfl
theorem AM (L:List zc) (T:List jI):(es out:List zc)->(∀ l∈es,l.2.length<=1000)->out.length+es.length<=1000->yv L T es out=some (L,T,out++es)
 | [],out,_,_=>by unfold yv; rw[bG]
 | e::es,out,h,hl=>by
  rw[ak] at hl;have:=h e (aj ..);unfold yv;rw[zZ (by omega),af,zm (by simp; omega),cond_true,AM L T es _ (fun l hl=>h l (ai _ hl)) (by simp; omega),aU]
  rfl
theorem kU {a0:List zh} {L:List zc} {T:List jI} {C:List zc} (h:wm a0 L T C=true):uF L T C=some (L,T,C):=by
 obtain⟨h0,h1,h2,h3,h4,-,h6,-⟩:=zK h;have hT:∀ r∈T,r.length<=1000:=fun r hr=>(j8 (v6 h0) h r (qX hr)).1;unfold uF jW;rw[Zq _ _ _ _ _ (by unfold maxLen; omega),AG L [] (fun l hl=>(xP h4 l hl).1) (by simp; omega),af,
  Zm _ _ _ _ _ _ (by unfold maxLen; omega),AR _ T [] hT (by simp; omega),af,
  Zj _ _ _ _ (by unfold maxLen; omega),AM _ _ C [] (fun l hl=>(xP h6 l hl).1) (by simp; omega),af]
 rfl
def mtA (c:Nat) (ts:List Tm) (d:Nat) (us:List Tm):Option Bd:=if c=d then mtR ts us else none
theorem Hq {a0:List zh} (hs:SignOk a0) {c d:Nat} {ts us:List Tm} (hA:okR a0 24 ts) (hB:okR a0 24 us) (hl:(za ts).length<=48) (hl2:(za us).length<=48) :
  ∃ s,qA a0 ((c:Int)::za ts) ((d:Int)::za us) none24=some ((mtA c ts d us).isSome,s):=by
 unfold qA;have l24:none24.length=24:=by unfold none24; simp
 rw[ul _ _ _ _ _ (by rw[ak]; unfold maxLen; omega)]
 unfold zg;rw[decide_eq_false (show ¬((0:Int)≥((((d:Int)::za us).length:Nat):Int)) by rw[ak]; omega),cond_false,decide_eq_true (show (c:Int)≥0 by omega),cond_true,yh,aB,af]
 unfold mtA;by_cases hcd:c=d
 ·subst hcd;rw[show (((c:Nat):Int) != ((c:Nat):Int))=false from by simp,cond_false,if_pos rfl]
  obtain⟨r,h1,h2⟩:=J8 hs (xi ts) ts us (aE _) hA hB _ (BOk.zero a0) _ RB.zero [(c:Int)] (by simp; omega)
  have h1:zg a0 ((c:Int)::za us) (za ts) (ag .i64 (0+1)) none24=some r:=h1;rw[h1,af];have h2:zcp ((c:Int)::za us) (mtR ts us) r:=h2;cases hm:mtR ts us with
  | some B =>
   rw[hm] at h2;obtain⟨s,rfl,hR⟩:=h2;refine ⟨s,?_⟩;simp only[yl,l24,hR.len,cH,cY,cond_true,beq_self_eq_true,dE]
  | none =>
   rw[hm] at h2;rcases h2 with ⟨s,rfl,hs24⟩ | ⟨q,s,rfl,hq,hs24⟩
   ·refine ⟨s,?_⟩;simp only[yl,l24,hs24,cH,cY,cond_true,cM]
   ·refine ⟨s,?_⟩;simp only[yl,l24,hs24,cH,cY,cond_true,cM];rw[show (q==((aa ((c:Int)::za us):Nat):Int))=false from by rw[beq_eq_false_iff_ne]; exact hq]
 ·rw[show (((d:Nat):Int) != ((c:Nat):Int))=true from by rw[bne_iff_ne]; omega,cond_true,if_neg hcd,af]
  refine ⟨none24,?_⟩;simp only[yl,cH,cY,cond_true,cM]
def WB (a0:List zh) (n:Bool) (A:List Int) (l:zc):Bool:=(xj l.1 l.2 n A a0).getD false
theorem RS {a0:List zh} (hs:SignOk a0) {n m:Bool} {A a:List Int} (hA:ua a0 A=true) (ha:ua a0 a=true):xj m a n A a0=some (WB a0 n A (m,a)) ∧
  ∀(c d:Nat) (ts us:List Tm),A=(c:Int)::za ts->a=(d:Int)::za us->okR a0 24 ts->okR a0 24 us->(WB a0 n A (m,a)=true↔m≠n∧(mtA c ts d us).isSome=true):=by
 obtain⟨c,ts,-,rfl,h1,-,-,-,h2,-⟩:=vM hA;obtain⟨d,us,-,rfl,h3,-,-,-,h4,-⟩:=vM ha;obtain⟨s,h5⟩:=Hq hs (c:=c) (d:=d) h1 h3 h2 h4;have e:xj m ((d:Int)::za us) n ((c:Int)::za ts) a0=some (!(m==n)&&(mtA c ts d us).isSome):=by
  unfold xj;cases m==n with
  | true=>rfl
  | false =>
   simp only[bN,cond_true,aO];rw[show ax 24 (none:Option jI)=none24 from rfl,h5]
   rfl
 have e2:WB a0 n ((c:Int)::za ts) (m,(d:Int)::za us)=(!(m==n)&&(mtA c ts d us).isSome):=by unfold WB; rw[e]; rfl
 refine ⟨by rw[e,e2],fun c' d' ts' us' h6 h7 h8 h9 => ?_⟩
 injection h6 with a1 a2;injection h7 with a3 a4;have b1:c=c':=by omega
 have b2:d=d':=by omega
 have b3:=uj _ ts ts' (aE _) h1 h8 a2;have b4:=uj _ us us' (aE _) h3 h9 a4;subst b1; subst b2; subst b3; subst b4;rw[e2,ay,Bool.not_eq_true',beq_eq_false_iff_ne]
section
variable {a0:List zh} {n:Bool} {A:List Int} {q:zc->Bool}
theorem Aj {xs:List zc} (hq:∀ e∈xs,xj e.1 e.2 n A a0=some (!q e)):(es:List zc)->(i:Nat)->xs.drop i=es ->
  (zG n A a0 es i=some (.inl ())∧∀ e∈es,q e=true) ∨
  ∃ pre e post,es=pre++e::post∧(∀ x∈pre,q x=true)∧q e=false∧zG n A a0 es i=some (.inr ((i+pre.length:Nat):Int))
 | [],i,_=>.inl ⟨rfl,fun _ h=>(nomatch h)⟩
 | e::es,i,h=>by
  have ih:=Aj hq es (i+1) (zj h);have he:=hq e (aP (zr h));unfold zG;rw[he,af];cases hqe:q e with
  | false=>exact .inr ⟨[],e,es,rfl,fun _ h=>(nomatch h),hqe,rfl⟩
  | true =>
   rw[az,cond_false];rcases ih with ⟨h1,h2⟩ | ⟨pre,d,post,rfl,h2,h3,h4⟩
   ·refine .inl ⟨h1,fun x hx => ?_⟩;rcases aC.1 hx with rfl | hx
    ·exact hqe
    ·exact h2 x hx
   ·refine .inr ⟨e::pre,d,post,rfl,fun x hx => ?_,h3,?_⟩
    ·rcases aC.1 hx with rfl | hx
     ·exact hqe
     ·exact h2 x hx
    ·rw[h4,ak,show i+1+pre.length=i+(pre.length+1) by omega]
theorem DR:(es:List zc)->(i j k:Nat)->(xs:List zc)->xs.length<=1000->xs.drop j=es->i<=j->i<=xs.length->es.length<k->(∀ e∈es,xj e.1 e.2 n A a0=some (!q e)) ->
  ∃(xs':List zc) (i':Nat),lp yg k ((i:Int),(j:Int),xs,n,A,a0)=some ((i':Int),xs')∧xs'.length=xs.length∧i'<=xs.length∧xs'.take i'=xs.take i++es.filter q
 | _,_,_,0,_,_,_,_,_,h,_=>by omega
 | [],i,j,k+1,xs,hl,h,hij,hi,_,_=>by
  rw[zx];generalize lp yg k=rec;unfold yg;simp only[kz (xL h),cond_false];exact ⟨xs,i,rfl,rfl,hi,by simp⟩
 | e::es,i,j,k+1,xs,hl,h,hij,hi0,hk,hq=>by
  have hj:=qg h;have hM:xs.length<=maxLen:=by unfold maxLen; omega
  have hq':∀ e∈es,xj e.1 e.2 n A a0=some (!q e):=fun x hx=>hq x (ai _ hx);have hqe:=hq e (aj ..);have ih1:=DR es (i+1) (j+1) k (xs.set i e);have ih2:=DR es i (j+1) k xs hl (zj h) (by omega) hi0 (by simpa using hk) hq'
  rw[zx];generalize lp yg k=rec at ih1 ih2 ⊢;unfold yg;simp only[ZD hj,cond_true,zO hj,zr h,af,hqe,jc hj hM];cases he:q e with
  | true =>
   have hi:i<xs.length:=by omega
   rw[az,bN,cond_true,zO hi,af,am hi,af,jc hi hM];obtain⟨xs',i',h1,h2,h3,h4⟩:=ih1 (by rw[bX]; exact hl) (by
    rw[← zj h,List.drop_set];rw[if_pos (by omega)]) (by omega) (by rw[bX]; omega) (by simpa using hk) hq'
   rw[bX] at h2 h3;refine ⟨xs',i',h1,h2,h3,?_⟩;rw[h4,dc (by simpa using he),List.take_add_one]
   rw[bH hi,List.take_set,List.set_eq_of_length_le (by rw[cG]; omega)]
   simp
  | false =>
   rw[bN,az,cond_false];obtain⟨xs',i',h1,h2,h3,h4⟩:=ih2;exact ⟨xs',i',h1,h2,h3,by rw[h4,cP (by simpa using he)]⟩
theorem Ed {xs:List zc} (hl:xs.length<=1000) (hq:∀ e∈xs,xj e.1 e.2 n A a0=some (!q e)):vh xs n A a0=some (xs.filter q):=by
 unfold vh uL;rw[sK _ _ _ _ (by unfold maxLen; omega)]
 rcases Aj hq xs 0 rfl with ⟨h1,h2⟩ | ⟨pre,e,post,h1,h2,h3,h4⟩
 ·rw[h1];show some xs=_;rw[fL.2 fun e he=>h2 e he]
 ·rw[h4];have hpl:pre.length<xs.length:=by rw[h1]; simp
  have hpost:xs.drop (pre.length+1)=post:=by rw[h1,show pre.length+1=(pre++[e]).length by simp,show pre++e::post=(pre++[e])++post by simp,ek]
  have hM:xs.length<=maxLen:=by unfold maxLen; omega
  simp only[af,yl,aR];rw[show ((((pre.length:Nat):Int)) == -1)=false by simp,cond_false,jc hpl hM]
  obtain⟨xs',i',g1,g2,g3,g4⟩:=DR post pre.length (pre.length+1) zd xs hl hpost (by omega) (by omega) (co (show post.length<=1000 by rw[← hpost,List.length_drop]; omega) (by decide)) (fun x hx=>hq x (by rw[h1]; simp [hx]))
  rw[g1,af,decide_eq_true (by omega),cond_true,decide_eq_true (show (i':Int)<=((aa xs':Nat):Int) by omega),cond_true,decide_eq_true (by omega),cond_true]
  simp only[bh,aR];have e1:(Df (false,([]:List Int)) xs' i' (xs'.length - i')).take i'=xs'.take i':=by
   unfold Df;rw[aU,gq (by rw[cG]; omega)]
  rw[JT _ (by unfold Df; simp only[al,cG]; omega),af,e1,g4,h1]
  rw[List.filter_append,fL.2 fun e he=>h2 e he,cP (by simpa using h3),gq rfl]
end
theorem Jx {a0:List zh} {L:List zc} {T:List jI} {C:List zc} (h:wm a0 L T C=true) (q:zc->Bool):wm a0 (L.filter q) T C=true:=by
 obtain⟨h0,h1,h2,h3,h4,h5,h6,h7⟩:=zK h;refine DE h0 (aV (dJ _ _) h1) h2 h3 (aH.2 fun l hl=>aH.1 h4 l (List.mem_filter.1 hl).1) h5 h6 ?_;have:zi ((L.filter q).map (·.2))<=zi (L.map (·.2)):=by
  clear h h1 h4 h7
  induction L with
  | nil=>exact aE _
  | cons l L ih =>
   unfold zi at ih ⊢;cases hq:q l with
   | true=>rw[dc hq]; simp only[aN,cB]; omega
   | false=>rw[cP (by rw[hq]; simp)]; simp only[aN,cB]; omega
 omega
theorem Dk {a0:List zh} {n:Bool} {A:List Int} (hA:ua a0 A=true) {L:List zc} {T:List jI} {C:List zc} (h:wm a0 L T C=true) :
  WS a0 n A L T C=some ((uV (L.filter fun l => !WB a0 n A l) T C).1,(uV (L.filter fun l => !WB a0 n A l) T C).2.1,((L.length - (L.filter fun l => !WB a0 n A l).length:Nat):Int),0,(uV (L.filter fun l => !WB a0 n A l) T C).2.2):=by
 obtain⟨h0,h1,h2,h3,h4,-⟩:=zK h;have hs:=v6 h0;have hlm:Yp a0 n A=some true:=by rw[Ce,hA]
 have hfl:(L.filter fun l => !WB a0 n A l).length<=L.length:=dJ _ _;unfold WS;rw[hlm,af,yB,h,af,kU h];simp only[az,cond_false,af];rw[Ed (q:=fun l => !WB a0 n A l) (by omega) (fun e he=>by rw[(RS hs hA (aH.1 h4 e he)).1,Bool.not_not]),af,xk,Jx h]
 simp only[cond_true,af];rw[zn (by omega) (by omega),show ((L.length:Nat):Int) - (((L.filter fun l => !WB a0 n A l).length:Nat):Int)=((L.length - (L.filter fun l => !WB a0 n A l).length:Nat):Int) by omega]
end Go.Abs.Q
