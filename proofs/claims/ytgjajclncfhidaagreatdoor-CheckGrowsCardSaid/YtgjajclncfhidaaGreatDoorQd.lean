import Derived.Test.YtgjajclncfhidaaGreatDoorQc
/-
  What the functions make of plain values, and what the law says of that.
-/
open Bool renaming and_eq_true -> ax, and_self -> cX, decide_and -> de, not_false -> bu, not_true -> ay, or_eq_false_iff -> cM, true_and -> aN
open Eq renaming symm -> fH, trans -> ik
open Go.IntKind renaming wrap -> ag
open Int renaming eq_ofNat_of_zero_le -> dy, le_refl -> ef, tmod -> dx, toNat -> bc, toNat_natCast -> bl
open List renaming all_eq_true -> aC, append_assoc -> aU, append_nil -> bG, drop -> eu, drop_eq_getElem_cons -> aX, drop_eq_nil_of_le -> cB, drop_zero -> bM, eq_nil_of_length_eq_zero -> aZ, filter_cons_of_neg -> cO, filter_cons_of_pos -> db, filter_eq_self -> fL, getElem?_append_left -> bw, getElem?_cons_zero -> aB, getElem?_eq_getElem -> al, getElem?_eq_some_iff -> au, getElem?_set_self -> bZ, length -> af, length_append -> am, length_cons -> ak, length_eq_zero_iff -> cj, length_filter_le -> dK, length_nil -> bb, length_set -> cg, length_singleton -> aV, length_take -> cF, map_cons -> aM, mem_append -> aJ, mem_append_left -> bN, mem_append_right -> bX, mem_cons -> aD, mem_cons_of_mem -> ai, mem_cons_self -> aj, mem_of_getElem? -> aI, mem_singleton -> bq, nil_append -> bm, range -> aK, replicate -> az, sum_cons -> cA, take -> ew, take_left' -> gq
open List.cons renaming inj -> gI
open Nat renaming beq_refl -> cI, le_refl -> aF, le_trans -> aH, lt_of_le_of_lt -> cn, zero_add -> aQ, zero_le -> bI
open Nat.succ renaming inj -> gQ
open Option renaming bind_some -> aa, getD_some -> ba, isNone_some -> co, isSome_none -> cK, isSome_some -> dF, map_some -> bx
open Option.some renaming inj -> eD
open Prod.mk renaming injEq -> aL
namespace Go.Abs.Q
open Go Go.Abs
theorem YN {o:Option jI} {ys:List Int} (hl:(o.getD []).length<=100000):vi o ys=some (decide (o.getD []=ys)):=by
 unfold vi;generalize ho:o.getD []=xs at hl;have go:∀(m i k:Nat),xs.length - i=m->m<k->xs.length=ys.length->lp wa k (o,ys,((xs.length:Nat):Int),(i:Int))=some (cond (decide (xs.drop i=ys.drop i)) (.inl ()) (.inr false)):=by
  intro m
  induction m with
  | zero =>
   intro i k hm hk hle;obtain⟨k,rfl⟩:∃ k',k=k'+1:=⟨k - 1,by omega⟩
   rw[zu];unfold wa;simp only;rw[decide_eq_false (show ¬((i:Int)<((xs.length:Nat):Int)) by omega),cond_false,cB (by omega),cB (by omega)]
   rfl
  | succ m ih =>
   intro i k hm hk hle;obtain⟨k,rfl⟩:∃ k',k=k'+1:=⟨k - 1,by omega⟩
   rw[zu];have ih:=ih (i+1) k (by omega) (by omega) hle
   generalize lp wa k=rec at ih ⊢;unfold wa;simp only[ho];have h1:i<xs.length:=by omega
   have h2:i<ys.length:=by omega
   rw[decide_eq_true (show (i:Int)<((xs.length:Nat):Int) by omega),cond_true,yH,yH,al h1,al h2,aa,aa,aX h1,aX h2]
   by_cases he:xs[i]=ys[i]
   ·rw[show (xs[i] != ys[i])=false from by simp [he],cond_false,show ag .i64 ((i:Int)+1)=((i+1:Nat):Int) by rw[zp]<;>omega,ih,he]
    congr 1
    have:decide (xs.drop (i+1)=ys.drop (i+1))=decide (ys[i]::xs.drop (i+1)=ys[i]::ys.drop (i+1)):=decide_eq_decide.2 ⟨fun h=>by rw[h],fun h=>by injection h⟩
    rw[this]
   ·rw[show (xs[i] != ys[i])=true from by simp [he],cond_true,decide_eq_false (fun h=>he (by injection h))]
    rfl
 by_cases hle:xs.length=ys.length
 ·rw[show (((af xs:Nat):Int) != ((af ys:Nat):Int))=false from by simp [hle],cond_false]
  have:=go xs.length 0 ze (by omega) (cn hl (by decide)) hle
  rw[show ((0:Int))=((0:Nat):Int) from rfl,this,bM,bM,aa]
  cases decide (xs=ys)<;>rfl
 ·rw[show (((af xs:Nat):Int) != ((af ys:Nat):Int))=true from by rw[bne_iff_ne]; omega,cond_true,decide_eq_false (fun h=>hle (by rw[h]))]
def S3 (B:Bd) (x:Nat) (u:Tm):Bd:=fun y=>if y=x then some u else B y
def mt:Nat->List Tm->List Tm->Bd->Option Bd
 | _,[],bs,B=>match bs with
  | []=>some B
  | _::_=>none
 | 0,_::_,_,_=>none
 | n+1,.v x::as,bs,B=>match bs with
  | []=>none
  | u::bs=>match B x with
   | none=>mt n as bs (S3 B x u)
   | some w=>if w.codes=u.codes then mt n as bs B else none
 | n+1,.f c ts::as,bs,B=>match bs with
  | .f d us::bs=>if c=d then mt n (ts++as) (us++bs) B else none
  | _=>none
structure RB (s:List (Option jI)) (B:Bd):Prop where
 len:s.length=24
 at':∀ v,v<24->s[v]? = some ((B v).map Tm.codes)
structure BOk (a0:List zg) (B:Bd):Prop where
 ok:∀ x t,B x=some t->t.ok a0 24∧t.codes.length<=1000
theorem RB.set {s:List (Option jI)} {B:Bd} (h:RB s B) {x:Nat} (hx:x<24) (u:Tm):RB (s.set x (some u.codes)) (S3 B x u):=by
 refine ⟨by rw[cg]; exact h.len,fun v hv => ?_⟩
 unfold S3;by_cases he:v=x
 ·subst he; rw[if_pos rfl,bZ (by rw[h.len]; exact hv)]; rfl
 ·rw[if_neg he,List.getElem?_set_ne (Ne.symm he)]; exact h.at' v hv
theorem BOk.set {a0:List zg} {B:Bd} (h:BOk a0 B) {x:Nat} {u:Tm} (hu:u.ok a0 24) (hl:u.codes.length<=1000):BOk a0 (S3 B x u):=⟨fun y t ht=>by
 unfold S3 at ht;by_cases he:y=x
 ·rw[if_pos he] at ht; injection ht with ht; subst ht; exact ⟨hu,hl⟩
 ·rw[if_neg he] at ht; exact h.ok y t ht⟩
def zgE (b:List Int) (o:Option Bd) (r:(Int×List (Option jI))⊕(Bool×List (Option jI))):Prop:=match o with
 | some B=>∃ s,r = .inl ((b.length:Int),s)∧RB s B
 | none=>(∃ s,r = .inr (false,s)∧s.length=24)∨∃ q s,r = .inl (q,s)∧q≠(b.length:Int)∧s.length=24
theorem Vq {a0:List zg} {N:Nat} {ts us:List Tm}:okR a0 N (ts++us)↔okR a0 N ts∧okR a0 N us:=by
 rw[vI,vI,vI];exact ⟨fun h=>⟨fun t ht=>h t (bN _ ht),fun t ht=>h t (bX _ ht)⟩,fun h t ht=>(aJ.1 ht).elim (h.1 t) (h.2 t)⟩
theorem IN {a0:List zg} (hs:SignOk a0):(n:Nat)->(as bs:List Tm)->xK as<=n->okR a0 24 as->okR a0 24 bs->(B:Bd)->BOk a0 B->(s:List (Option jI))->RB s B->(x:List Int)->(x++za bs).length<=1000 ->
  ∃ r,zh a0 (x++za bs) (za as) (x.length:Int) s=some r∧zgE (x++za bs) (mt n as bs B) r
 | n,[],bs,_,_,_,B,_,s,hR,x,hl=>by
  have e0:za ([]:List Tm)=[]:=rfl;rw[e0];unfold zh;refine ⟨_,rfl,?_⟩;cases bs with
  | nil=>unfold mt; exact ⟨s,by simp [za],hR⟩
  | cons u bs =>
   unfold mt;refine .inr ⟨_,s,rfl,?_,hR.len⟩;have:=uf u;rw[am,za,am];omega
 | 0,t::as,bs,h,_,_,B,_,s,hR,x,hl=>by
  exfalso;unfold xK at h;cases t with
  | v y=>unfold Tm.size at h; omega
  | f c ts=>unfold Tm.size at h; omega
 | n+1,.v y::as,[],h,hA,hB,B,hBo,s,hR,x,hl=>by
  unfold za Tm.codes;rw[List.singleton_append];unfold zh;rw[decide_eq_true (show (x.length:Int)≥(((x++([]:List Int)).length:Nat):Int) by simp),cond_true]
  exact ⟨_,rfl,.inl ⟨s,rfl,hR.len⟩⟩
 | n+1,.v y::as,u::bs,h,hA,hB,B,hBo,s,hR,x,hl=>by
  have hy:y<24:=hA.1;have hu:u.ok a0 24:=hB.1;have hup:=uf u;have e1:x++za (u::bs)=x++u.codes++za bs:=by rw[za,aU]
  have e2:za (Tm.v y::as)=(-1 - (y:Int))::za as:=rfl;have hsz:xK as<=n:=by unfold xK Tm.size at h; omega
  rw[e1] at hl ⊢;rw[e2];have hl2:(x++u.codes++za bs).length=x.length+u.codes.length+(za bs).length:=by simp; omega
  have next:∀(B':Bd) (s':List (Option jI)),BOk a0 B'->RB s' B'->∃ r,zh a0 (x++u.codes++za bs) (za as) ((x.length+u.codes.length:Nat):Int) s'=some r∧zgE (x++u.codes++za bs) (mt n as bs B') r:=fun B' s' h1 h2=>by
   have:=IN hs n as bs hsz hA.2 hB.2 B' h1 s' h2 (x++u.codes) hl;rw[am] at this;exact this
  have hi:inR (y:Int) 24=some y:=yN hy;have hsy:=hR.at' y hy;unfold zh;rw[decide_eq_false (show ¬((x.length:Int)≥(((x++u.codes++za bs).length:Nat):Int)) by omega),cond_false,decide_eq_false (show ¬(-1 - (y:Int)≥0) by omega),cond_false,Xa hs hu x _ hl,aa]
  simp only[ay,cond_false];rw[Cl,aa,qA (by omega) (by omega),show -1 - (-1 - (y:Int))=(y:Int) by omega,aa,hi,aa,hsy,aa]
  unfold mt;cases hb:B y with
  | none =>
   simp only[Option.map_none,Option.isNone_none,cond_true,aa];have hnn:nn u.codes=some u.codes:=by unfold nn; cases hc:u.codes with
    | nil=>rw[hc] at hup; exact absurd hup (by simp)
    | cons _ _=>rfl
   rw[hsy,aa,hnn,aa,bZ (by rw[hR.len]; exact hy),aa,YN (by rw[ba]; omega),ba,decide_eq_true rfl,aa]
   simp only[ay,cond_false];exact next _ _ (hBo.set hu (by omega)) (hR.set hy u)
  | some w =>
   have hw:=(hBo.ok y w hb).2;simp only[bx,co,cond_false,aa];rw[hsy,aa,hb,bx,YN (by rw[ba]; omega),ba,aa]
   by_cases he:w.codes=u.codes
   ·rw[decide_eq_true he,if_pos he];simp only[ay,cond_false];exact next _ _ hBo hR
   ·rw[decide_eq_false he,if_neg he];exact ⟨_,rfl,.inl ⟨s,rfl,hR.len⟩⟩
 | n+1,.f c ts::as,[],h,hA,hB,B,hBo,s,hR,x,hl=>by
  have e2:za (Tm.f c ts::as)=(c:Int)::(za ts++za as):=rfl;rw[e2];unfold zh;rw[decide_eq_true (show (x.length:Int)≥(((x++za []).length:Nat):Int) by simp [za]),cond_true]
  exact ⟨_,rfl,.inl ⟨s,rfl,hR.len⟩⟩
 | n+1,.f c ts::as,.v y::bs,h,hA,hB,B,hBo,s,hR,x,hl=>by
  have e2:za (Tm.f c ts::as)=(c:Int)::(za ts++za as):=rfl;have e1:za (Tm.v y::bs)=(-1 - (y:Int))::za bs:=rfl;rw[e1] at hl ⊢;rw[e2];unfold zh;rw[decide_eq_false (show ¬((x.length:Int)≥(((x++(-1 - (y:Int))::za bs).length:Nat):Int)) by simp; omega),cond_false,decide_eq_true (show (c:Int)≥0 by omega),cond_true,yH,QQ,aa,
   show ((-1 - (y:Int)) != (c:Int))=true from by rw[bne_iff_ne]; omega,cond_true]
  exact ⟨_,rfl,.inl ⟨s,rfl,hR.len⟩⟩
 | n+1,.f c ts::as,.f d us::bs,h,hA,hB,B,hBo,s,hR,x,hl=>by
  have e2:za (Tm.f c ts::as)=(c:Int)::za (ts++as):=by rw[uV]; rfl
  have e1:za (Tm.f d us::bs)=(d:Int)::za (us++bs):=by rw[uV]; rfl
  rw[e1] at hl ⊢;rw[e2];unfold zh;rw[decide_eq_false (show ¬((x.length:Int)≥(((x++(d:Int)::za (us++bs)).length:Nat):Int)) by simp; omega),cond_false,decide_eq_true (show (c:Int)≥0 by omega),cond_true,yH,QQ,aa]
  unfold mt;simp only;by_cases hcd:c=d
  ·subst hcd;rw[show (((c:Nat):Int) != ((c:Nat):Int))=false from by simp,cond_false,if_pos rfl]
   have e3:x++(c:Int)::za (us++bs)=(x++[(c:Int)])++za (us++bs):=by simp
   have hsz:xK (ts++as)<=n:=by
    rw[Jw];unfold xK Tm.size at h;omega
   have:=IN hs n (ts++as) (us++bs) hsz (Vq.2 ⟨hA.1.2,hA.2⟩) (Vq.2 ⟨hB.1.2,hB.2⟩) B hBo s hR (x++[(c:Int)]) (by rw[← e3]; exact hl)
   rw[← e3,am] at this;have hw:ag .i64 ((x.length:Int)+1)=((x.length+[(c:Int)].length:Nat):Int):=by
    rw[am] at hl;rw[aV,zp]<;>omega
   rw[hw];exact this
  ·rw[show (((d:Nat):Int) != ((c:Nat):Int))=true from by rw[bne_iff_ne]; omega,cond_true,if_neg hcd]
   exact ⟨_,rfl,.inl ⟨s,rfl,hR.len⟩⟩
def BLe (B B':Bd):Prop:=∀ x t,B x=some t->B' x=some t
def BSub (B:Bd) (σ:Sb):Prop:=∀ x t,B x=some t->σ x=t
theorem V6 {a0:List zg}:(n:Nat)->(as bs:List Tm)->okR a0 24 as->okR a0 24 bs->(∀ t∈bs,t.codes.length<=1000)->(B B':Bd)->BOk a0 B->mt n as bs B=some B'->BLe B B'∧(∀ σ,BSub B' σ->ve σ as=bs)∧(∀ x,Zm x as->(B' x).isSome)∧∀ x,B x=none->(B' x).isSome->Zm x as
 | n,[],bs,_,_,_,B,B',_,h=>by
  unfold mt at h;cases bs with
  | nil=>injection h with h; subst h; exact ⟨fun _ _ h=>h,fun _ _=>rfl,fun x hx=>(nomatch (kq.1 hx).choose_spec.1),fun x h1 h2=>by rw[h1] at h2; cases h2⟩
  | cons _ _=>cases h
 | 0,_::_,_,_,_,_,_,_,_,h=>by unfold mt at h; cases h
 | n+1,.v y::as,[],_,_,_,_,_,_,h=>by unfold mt at h; cases h
 | n+1,.v y::as,u::bs,hA,hB,hl,B,B',hBo,h=>by
  have hul:=hl u (aj ..);have hl':∀ t∈bs,t.codes.length<=1000:=fun t ht=>hl t (ai _ ht);unfold mt at h;have has:∀ x,Zm x (.v y::as)↔x=y∨Zm x as:=fun x=>by
   rw[kq,kq];constructor
   ·rintro⟨t,ht,hx⟩;rcases aD.1 ht with rfl | ht
    ·exact .inl (fH hx)
    ·exact .inr ⟨t,ht,hx⟩
   ·rintro (h | ⟨t,ht,hx⟩)
    ·exact ⟨_,aj ..,fH h⟩
    ·exact ⟨t,ai _ ht,hx⟩
  cases hb:B y with
  | none =>
   rw[hb] at h;simp only at h;obtain⟨h1,h2,h3,h4⟩:=V6 n as bs hA.2 hB.2 hl' _ _ (hBo.set hB.1 hul) h;have hy:B' y=some u:=h1 y u (by unfold S3; rw[if_pos rfl])
   refine ⟨fun x t hx=>h1 x t ?_,fun σ hσ => ?_,fun x hx => ?_,fun x hx1 hx2 => ?_⟩
   ·unfold S3;rw[if_neg (fun e=>by rw[e,hb] at hx; cases hx)]
    exact hx
   ·show σ y::ve σ as=_;rw[h2 σ hσ,hσ y u hy]
   ·rcases (has x).1 hx with rfl | hx
    ·rw[hy]; rfl
    ·exact h3 x hx
   ·rw[has];by_cases hxy:x=y
    ·exact .inl hxy
    ·exact .inr (h4 x (by unfold S3; rw[if_neg hxy]; exact hx1) hx2)
  | some w =>
   rw[hb] at h;simp only at h;split at h
   ·rename_i he;obtain⟨h1,h2,h3,h4⟩:=V6 n as bs hA.2 hB.2 hl' _ _ hBo h;have hy:B' y=some w:=h1 y w hb;refine ⟨h1,fun σ hσ => ?_,fun x hx => ?_,fun x hx1 hx2=>(has x).2 (.inr (h4 x hx1 hx2))⟩
    ·show σ y::ve σ as=_;rw[h2 σ hσ,hσ y w hy];rw[Be (hBo.ok y w hb).1 hB.1 he]
    ·rcases (has x).1 hx with rfl | hx
     ·rw[hy]; rfl
     ·exact h3 x hx
   ·cases h
 | n+1,.f c ts::as,[],_,_,_,_,_,_,h=>by unfold mt at h; cases h
 | n+1,.f c ts::as,.v y::bs,_,_,_,_,_,_,h=>by unfold mt at h; cases h
 | n+1,.f c ts::as,.f d us::bs,hA,hB,hl,B,B',hBo,h=>by
  unfold mt at h;simp only at h;by_cases hcd:c=d
  ·subst hcd;rw[if_pos rfl] at h;obtain⟨h1,h2,h3,h4⟩:=V6 n (ts++as) (us++bs) (Vq.2 ⟨hA.1.2,hA.2⟩) (Vq.2 ⟨hB.1.2,hB.2⟩) (fun t ht=>by
    rcases aJ.1 ht with ht | ht
    ·have h1:=u6 ht;have h2:=hl (.f c us) (aj ..);rw[Tm.codes,ak] at h2;omega
    ·exact hl t (ai _ ht)) _ _ hBo h
   have hlen:ts.length=us.length:=by
    have a:=hA.1.1;have b:=hB.1.1;rw[a] at b;injection b
   have has:∀ x,Zm x (.f c ts::as)↔Zm x (ts++as):=fun x=>by
    rw[kq,kq];constructor
    ·rintro⟨t,ht,hx⟩;rcases aD.1 ht with rfl | ht
     ·obtain⟨u,hu,hx⟩:=kq.1 (show Zm x ts from hx)
      exact ⟨u,bN _ hu,hx⟩
     ·exact ⟨t,bX _ ht,hx⟩
    ·rintro⟨t,ht,hx⟩;rcases aJ.1 ht with ht | ht
     ·exact ⟨_,aj ..,show Zm x ts from kq.2 ⟨t,ht,hx⟩⟩
     ·exact ⟨t,ai _ ht,hx⟩
   refine ⟨h1,fun σ hσ => ?_,fun x hx=>h3 x ((has x).1 hx),fun x hx1 hx2=>(has x).2 (h4 x hx1 hx2)⟩;have h5:=h2 σ hσ;rw[Rc] at h5;obtain⟨h6,h7⟩:=List.append_inj h5 (by rw[ja]; exact hlen)
   show Tm.f c (ve σ ts)::ve σ as=_;rw[h6,h7]
  ·rw[if_neg hcd] at h; cases h
def sbB (B:Bd):Sb:=fun x=>(B x).getD (.v x)
theorem BSub.sb (B:Bd):BSub B (sbB B):=fun x t h=>by unfold sbB; rw[h]; rfl
def none24:List (Option jI):=az 24 none
theorem RB.zero:RB none24 (fun _=>none):=⟨by unfold none24; simp,fun v hv=>by unfold none24; rw[List.getElem?_replicate,if_pos hv]; rfl⟩
theorem BOk.zero (a0:List zg):BOk a0 (fun _=>none):=⟨fun x t h=>nomatch h⟩
def CA (B:Bd) (vs:List Nat):List (Int×List Int):=(vs.filter (moved (sbB B))).map fun v:Nat=>((v:Int),(sbB B v).codes)
theorem G4 {a0:List zg} {s:List (Option jI)} {B:Bd} (hR:RB s B) (hB:BOk a0 B):(m v k:Nat)->24 - v=m->m<k->v<=24->(out:List (Int×List Int))->out.length+m<=1000 ->
  lp q7 k ((v:Int),s,out)=some (s,out++CA B ((aK 24).drop v))
 | m,v,k,hm,hk,hv,out,hl=>by
  obtain⟨k,rfl⟩:∃ k',k=k'+1:=⟨k - 1,by omega⟩
  rw[zu];have ih:∀ m' out',m=m'+1->out'.length+m'<=1000->lp q7 k (((v+1:Nat):Int),s,out')=some (s,out'++CA B ((aK 24).drop (v+1))):=fun m' out' h h2=>by
   subst h;exact G4 hR hB m' (v+1) k (by omega) (by omega) (by omega) out' h2
  generalize lp q7 k=rec at ih ⊢;unfold q7;simp only;by_cases h24:v<24
  ·have hd:(aK 24).drop v=v::(aK 24).drop (v+1):=by
    have:=aX (l:=aK 24) (i:=v) (by rw[List.length_range]; exact h24)
    rwa [List.getElem_range] at this
   have e0:∀ b,moved (sbB B) v=b->CA B ((aK 24).drop v)=cond b [((v:Int),(sbB B v).codes)] []++CA B ((aK 24).drop (v+1)):=fun b hb=>by
    rw[hd];unfold CA;cases b with
    | true=>rw[db hb,aM]; rfl
    | false=>rw[cO (by rw[hb]; simp)]; rfl
   have hw:ag .i64 ((v:Int)+1)=((v+1:Nat):Int):=by rw[zp]<;>omega
   rw[decide_eq_true (show (v:Int)<24 by omega),cond_true,yN h24,aa,hR.at' v h24,aa,hw]
   obtain⟨m,rfl⟩:∃ m',m=m'+1:=⟨m - 1,by omega⟩
   cases hb:B v with
   | none =>
    have hm':moved (sbB B) v=false:=by unfold moved sbB; rw[hb]; simp
    rw[e0 false hm'];exact ih m out rfl (by omega)
   | some t =>
    have hs:sbB B v=t:=by unfold sbB; rw[hb]; rfl
    obtain⟨-,htl⟩:=hB.ok v t hb;simp only[bx,co,bu,cond_true,ba];have put:moved (sbB B) v=true->(zC t.codes).bind (fun r12=>cond (yp (af out+af ([((v:Int),r12)]:List (Int×jI))) 32) (rec (((v+1:Nat):Int),s,(out++([((v:Int),r12)]:List (Int×jI))))) none)=some (s,out++CA B ((aK 24).drop v)):=fun hm'=>by
     rw[ye (by omega),aa,zk (by simp; omega),cond_true,ih m _ rfl (by simp; omega),e0 true hm',hs,cond_true,aU]
    cases t with
    | f c ts =>
     have hm':moved (sbB B) v=true:=by unfold moved; rw[hs]
     by_cases h1:(((Tm.f c ts).codes.length:Nat):Int)>1
     ·rw[decide_eq_true h1,cond_true]; exact put hm'
     ·rw[decide_eq_false h1,cond_false];have hg:gx (Tm.f c ts).codes 0=some (c:Int):=by rw[yc]; rfl
      rw[hg,aa,qA (by omega) (by omega),aa,show ((c:Int) != -1 - (v:Int))=true from by rw[bne_iff_ne]; omega,cond_true]
      exact put hm'
    | v y =>
     have hg:gx (Tm.v y).codes 0=some (-1 - (y:Int)):=by rw[yc]; rfl
     rw[decide_eq_false (show ¬((((Tm.v y).codes.length:Nat):Int)>1) by simp [Tm.codes]),cond_false,hg,aa,qA (by omega) (by omega),aa]
     by_cases hy:y=v
     ·have hm':moved (sbB B) v=false:=by unfold moved; rw[hs]; simp [hy]
      rw[show ((-1 - (y:Int)) != -1 - (v:Int))=false from by rw[hy]; simp,cond_false,e0 false hm']
      exact ih m out rfl (by omega)
     ·have hm':moved (sbB B) v=true:=by unfold moved; rw[hs]; simpa using hy
      rw[show ((-1 - (y:Int)) != -1 - (v:Int))=true from by rw[bne_iff_ne]; omega,cond_true]
      exact put hm'
  ·have hv24:v=24:=by omega
   subst hv24;rw[decide_eq_false (by omega),cond_false]
   have:CA B ((aK 24).drop 24)=[]:=by rw[show (aK 24).drop 24=[] from rfl]; rfl
   rw[this,bG]
theorem Wg {a0:List zg} {s:List (Option jI)} {B:Bd} (hR:RB s B) (hB:BOk a0 B):ub s=some (tn (sbB B),s):=by
 unfold ub;rw[show (0:Int)=((0:Nat):Int) from rfl,G4 hR hB 24 0 ze rfl (by decide) (by omega) [] (by simp),aa,cI]
 rfl
def mtR (as bs:List Tm):Option Bd:=mt (xK as) as bs fun _=>none
theorem Z9 {a0:List zg} (hs:SignOk a0) {as bs:List Tm} (hA:okR a0 24 as) (hB:okR a0 24 bs) (hl:(za as).length<=1000) (hl2:(za bs).length<=1000) :
  ∃ s,qQ a0 (za as) (za bs) none24=some ((mtR as bs).isSome,s)∧∀ B,mtR as bs=some B->RB s B:=by
 obtain⟨r,h1,h2⟩:=IN hs (xK as) as bs (aF _) hA hB _ (BOk.zero a0) _ RB.zero [] (by simpa using hl2)
 unfold qQ;rw[u9 _ _ _ _ _ (by unfold maxLen; omega)]
 rw[bm,bb] at h1;rw[bm] at h2;rw[show (0:Int)=((0:Nat):Int) from rfl,h1,aa]
 have l24:none24.length=24:=by unfold none24; simp
 unfold mtR;cases hm:mt (xK as) as bs fun _=>none with
 | some B =>
  rw[hm] at h2;obtain⟨s,rfl,hR⟩:=h2;refine ⟨s,?_,fun B' h=>by injection h with h; rw[← h]; exact hR⟩
  simp only[zR,l24,hR.len,cI,cX,cond_true,beq_self_eq_true,dF]
 | none =>
  rw[hm] at h2;rcases h2 with ⟨s,rfl,hs24⟩ | ⟨q,s,rfl,hq,hs24⟩
  ·refine ⟨s,?_,fun B' h=>nomatch h⟩;simp only[zR,l24,hs24,cI,cX,cond_true,cK]
  ·refine ⟨s,?_,fun B' h=>nomatch h⟩;simp only[zR,l24,hs24,cI,cX,cond_true,cK];rw[show (q==((af (za bs):Nat):Int))=false from by rw[beq_eq_false_iff_ne]; exact hq]
theorem C9 {a0:List zg}:(n:Nat)->(as bs:List Tm)->okR a0 24 as->okR a0 24 bs->(∀ t∈bs,t.codes.length<=1000)->(B B':Bd)->BOk a0 B->mt n as bs B=some B'->BOk a0 B'
 | n,[],bs,_,_,_,B,B',hBo,h=>by
  unfold mt at h;cases bs with
  | nil=>injection h with h; subst h; exact hBo
  | cons _ _=>cases h
 | 0,_::_,_,_,_,_,_,_,_,h=>by unfold mt at h; cases h
 | n+1,.v y::as,[],_,_,_,_,_,_,h=>by unfold mt at h; cases h
 | n+1,.v y::as,u::bs,hA,hB,hl,B,B',hBo,h=>by
  unfold mt at h;have hul:=hl u (aj ..);have hl':∀ t∈bs,t.codes.length<=1000:=fun t ht=>hl t (ai _ ht);cases hb:B y with
  | none =>
   rw[hb] at h;exact C9 n as bs hA.2 hB.2 hl' _ _ (hBo.set hB.1 hul) h
  | some w =>
   rw[hb] at h;simp only at h;split at h
   ·exact C9 n as bs hA.2 hB.2 hl' _ _ hBo h
   ·cases h
 | n+1,.f c ts::as,[],_,_,_,_,_,_,h=>by unfold mt at h; cases h
 | n+1,.f c ts::as,.v y::bs,_,_,_,_,_,_,h=>by unfold mt at h; cases h
 | n+1,.f c ts::as,.f d us::bs,hA,hB,hl,B,B',hBo,h=>by
  unfold mt at h;simp only at h;by_cases hcd:c=d
  ·rw[if_pos hcd] at h;exact C9 n (ts++as) (us++bs) (Vq.2 ⟨hA.1.2,hA.2⟩) (Vq.2 ⟨hB.1.2,hB.2⟩) (fun t ht=>by
    rcases aJ.1 ht with ht | ht
    ·have h1:=u6 ht;have h2:=hl (.f d us) (aj ..);rw[Tm.codes,ak] at h2;omega
    ·exact hl t (ai _ ht)) _ _ hBo h
  ·rw[if_neg hcd] at h; cases h
inductive Step (a0:List zg) (l rr:Tm) (us:List Tm) (r:List Int):Nat->Option jI->Prop
 | stop:Step a0 l rr us r r.length none
 | skip (t:Tm) (x y:List Int) (p:Nat) (o:Option jI):t.ok a0 24->r=x++t.codes++y->x.length=p->mtR [l] [t]=none->Step a0 l rr us r (p+1) o->Step a0 l rr us r p o
 | here (t:Tm) (x y:List Int) (p:Nat) (B:Bd) (ws:List Tm):t.ok a0 24->r=x++t.codes++y->x.length=p->mtR [l] [t]=some B->RR t (rr.sub (sbB B)) us ws->za ws=x++(rr.sub (sbB B)).codes++y->Step a0 l rr us r p (some (za ws))
theorem ER {a0:List zg} {l rr:Tm} {us:List Tm} (hu:okR a0 24 us):(m p:Nat)->(za us).length - p=m->p<=(za us).length->∃ o,Step a0 l rr us (za us) p o
 | m,p,hm,hp=>by
  rcases Nat.lt_or_ge p (za us).length with h | h
  ·obtain⟨t,ht,x,y,e1,e2,e3⟩:=Tv hu h;cases hB:mtR [l] [t] with
   | none =>
    obtain⟨o,ho⟩:=ER (l:=l) (rr:=rr) hu (m - 1) (p+1) (by omega) h
    exact ⟨o,.skip t x y p o ht e1 e2 hB ho⟩
   | some B =>
    obtain⟨ws,g1,g2⟩:=e3 (rr.sub (sbB B));exact ⟨_,.here t x y p B ws ht e1 e2 hB g1 g2⟩
  ·have:p=(za us).length:=by omega
   rw[this];exact ⟨none,.stop⟩
termination_by m p=>(za us).length - p
theorem AH {a0:List zg} (hs:SignOk a0) {t:Tm} (ht:t.ok a0 24):∀ c∈t.codes,c<=1000000:=fun c hc=>by
 have h:=X3 (t.sk_codes ht) c (by rw[List.take_length]; exact hc)
 have:=hs.len;omega
mutual
theorem Jv {σ:Sb} {x:Nat}:(t:Tm)->t.has x->(σ x).codes.length<=(t.sub σ).codes.length
 | .v y,h=>by
  have h:y=x:=h;subst h;exact aF _
 | .f c ts,h=>by
  have:=VJ (σ:=σ) ts h;show _<=((c:Int)::za (ve σ ts)).length;rw[ak];omega
theorem VJ {σ:Sb} {x:Nat}:(ts:List Tm)->Zm x ts->(σ x).codes.length<=(za (ve σ ts)).length
 | [],h=>h.elim
 | t::ts,h=>by
  show _<=((t.sub σ).codes++za (ve σ ts)).length;rw[am];rcases h with h | h
  ·have:=Jv (σ:=σ) t h; omega
  ·have:=VJ (σ:=σ) ts h; omega
end
theorem wO (t:Tm):za [t]=t.codes:=by simp [za]
theorem CB {a0:List zg} (hs:SignOk a0) {l rr:Tm} (hl:l.ok a0 24) (hr:rr.ok a0 24) (hrl:rr.codes.length<=48) {t:Tm} (ht:t.ok a0 24) (htl:t.codes.length<=48) {B:Bd} (hB:mtR [l] [t]=some B):BOk a0 B∧(∀ x,(sbB B x).codes.length<=48)∧(∀ x,x<24->(sbB B x).ok a0 24)∧Yr (tn (sbB B)) rr.codes=some (rr.sub (sbB B)).codes∧l.sub (sbB B)=t:=by
 have hBo:BOk a0 B:=C9 _ [l] [t] ⟨hl,trivial⟩ ⟨ht,trivial⟩ (fun u hu=>by rw[bq.1 hu]; omega) _ _ (BOk.zero a0) hB
 obtain⟨h1,h2,h3,h4⟩:=V6 (a0:=a0) _ [l] [t] ⟨hl,trivial⟩ ⟨ht,trivial⟩ (fun u hu=>by rw[bq.1 hu]; omega) _ _ (BOk.zero a0) hB
 have hsub:=h2 (sbB B) (BSub.sb B);have hsub:l.sub (sbB B)=t:=by simpa[ve] using hsub
 have hvar:∀ x,l.has x->(sbB B x).codes.length<=t.codes.length:=fun x hx=>by
  rw[← hsub];exact Jv l hx
 have hlen:∀ x,(sbB B x).codes.length<=48:=fun x=>by
  by_cases hx:(B x).isSome
  ·have h5:=h4 x rfl hx;rw[kq] at h5;obtain⟨u,hu,h5⟩:=h5;rw[bq.1 hu] at h5;exact aH (hvar x h5) htl
  ·unfold sbB;rw[Option.not_isSome_iff_eq_none.1 hx];simp [Tm.codes]
 refine ⟨hBo,hlen,fun x hx => ?_,?_,hsub⟩
 ·unfold sbB;cases hb:B x with
  | none=>exact hx
  | some w=>exact (hBo.ok x w hb).1
 ·have hb:BindsOk (tn (sbB B)):=by
   refine ⟨?_,fun b hb => ?_⟩
   ·unfold tn;rw[List.length_map];exact aH (dK _ _) (by simp)
   ·obtain⟨v,-,rfl⟩:=List.mem_map.1 hb;have:=uf (sbB B v);have:=hlen v;exact ⟨fun h=>by simp only at h; rw[h] at this; simp_all,by simp only; omega⟩
  have hc:=ZC hr;have hcr:∀ c∈rr.codes,-1000000<=c∧c<=1000000:=fun c hcm=>by
   have h1:=(hc c hcm).1;have h2:=AH hs hr c hcm;omega
  rw[kC hb (by omega) hcr,Ah rr fun c hcm=>(hc c hcm).1]
theorem OZ {f:Int->List Int} {n:Nat}:(cs:List Int)->(∀ c∈cs,(f c).length<=n)->(cs.flatMap f).length<=cs.length*n
 | [],_=>bI _
 | c::cs,h=>by
  have h1:=h c (aj ..);have h2:=OZ cs fun x hx=>h x (ai _ hx);rw[List.flatMap_cons,am,ak,Nat.add_mul,Nat.one_mul];omega
theorem La {rr:Tm} (hrl:rr.codes.length<=48) {σ:Sb} (h:∀ x,(σ x).codes.length<=48):(rr.sub σ).codes.length<=48*48:=by
 rw[Tm.codes_sub];refine aH (OZ (n:=48) rr.codes fun c _ => ?_) (Nat.mul_le_mul_right 48 hrl);unfold Yj;split
 ·exact h _
 ·simp
theorem DS {α β γ:Type} (o:Option (α×β×γ)):(o.bind fun r=>some (r.1,r.2.1,r.2.2))=o:=by cases o<;>rfl
inductive Rew (a0:List zg) (l rr:Tm):List Tm->Nat->List Int×Int×Bool->Prop
 | stop (us:List Tm) (n:Nat):Step a0 l rr us (za us) 0 none->Rew a0 l rr us n (za us,(n:Int),true)
 | full (us:List Tm) (n:Nat) (r:List Int):Step a0 l rr us (za us) 0 (some r)->n=100∨48<r.length->Rew a0 l rr us n ([],0,false)
 | next (us ws:List Tm) (n:Nat) (σ:Sb) (res:List Int×Int×Bool):Step a0 l rr us (za us) 0 (some (za ws))->n≠100->(za ws).length<=48->(∀ x,x<24->(σ x).ok a0 24)->RR (l.sub σ) (rr.sub σ) us ws->okR a0 24 ws->Rew a0 l rr ws (n+1) res->Rew a0 l rr us n res
theorem Ls {a0:List zg} (hs:SignOk a0) {l rr:Tm} (hl:l.ok a0 24) (hr:rr.ok a0 24) (hrl:rr.codes.length<=48) {us:List Tm} (hu:okR a0 24 us) (hul:(za us).length<=48) {p:Nat} {r':List Int} {o:Option jI} (h:Step a0 l rr us (za us) p o) (ho:o=some r') :
  ∃(ws:List Tm) (σ:Sb),r'=za ws∧(∀ x,x<24->(σ x).ok a0 24)∧RR (l.sub σ) (rr.sub σ) us ws∧okR a0 24 ws:=by
 induction h with
 | stop=>cases ho
 | skip t x y p o ht e1 e2 e3 e4 ih=>exact ih ho
 | here t x y p B ws ht e1 e2 e3 e4 e5 =>
  injection ho with ho;have htl:t.codes.length<=48:=by rw[e1] at hul; simp only[am] at hul; omega
  obtain⟨h1,h2,h3,h4,h5⟩:=CB hs hl hr hrl ht htl e3;refine ⟨ws,sbB B,ho.symm,h3,by rw[h5]; exact e4,e4.ok ?_ hu⟩
  exact Tm.ok_sub rr hr fun x hx=>h3 x (A0 [rr] ⟨hr,trivial⟩ (.inl hx))
theorem O1 {a0:List zg} (hs:SignOk a0) {l rr:Tm} (hl:l.ok a0 24) (hr:rr.ok a0 24) (hrl:rr.codes.length<=48):(m n:Nat)->100 - n=m->n<=100->(us:List Tm)->okR a0 24 us->(za us).length<=48->∃ res,Rew a0 l rr us n res
 | m,n,hm,hn,us,hu,hul=>by
  obtain⟨o,ho⟩:=ER (l:=l) (rr:=rr) hu (za us).length 0 (Nat.sub_zero _) (bI _);cases o with
  | none=>exact ⟨_,.stop us n ho⟩
  | some r' =>
   by_cases h100:n=100
   ·exact ⟨_,.full us n r' ho (.inl h100)⟩
   by_cases h48:48<r'.length
   ·exact ⟨_,.full us n r' ho (.inr h48)⟩
   obtain⟨ws,σ,rfl,h1,h2,h3⟩:=Ls hs hl hr hrl hu hul ho rfl;obtain⟨res,h4⟩:=O1 hs hl hr hrl (m - 1) (n+1) (by omega) (by omega) ws h3 (by omega)
   exact ⟨res,.next us ws n σ res ho h100 (by omega) h1 h2 h3 h4⟩
section
variable {a0:List zg} (hs:SignOk a0) {l rr:Tm} (hl:l.ok a0 24) (hr:rr.ok a0 24) (hll:l.codes.length<=48) (hrl:rr.codes.length<=48)
include hs hl hr hll hrl
theorem Xc {us:List Tm} (hul:(za us).length<=48) {n:Nat} (hn:n<=100) {t:Tm} {x y:List Int} (ht:t.ok a0 24) (e1:za us=x++t.codes++y) (k:Nat) :
  (∀ B (ws:List Tm),mtR [l] [t]=some B->za ws=x++(rr.sub (sbB B)).codes++y->lp zJ (k+1) (a0,za us,(n:Int),(x.length:Int),l.codes,rr.codes)=cond (n==100) (some ([],0,false)) (cond (decide ((za ws).length>48)) (some ([],0,false)) (lp zJ k (a0,za ws,((n+1:Nat):Int),((0:Nat):Int),l.codes,rr.codes)))) ∧
  (mtR [l] [t]=none->lp zJ (k+1) (a0,za us,(n:Int),(x.length:Int),l.codes,rr.codes)=lp zJ k (a0,za us,(n:Int),((x.length+1:Nat):Int),l.codes,rr.codes)):=by
 have htp:=uf t;have hul2:(x++t.codes++y).length<=48:=by rw[← e1]; exact hul
 have hlen:(x++t.codes++y).length=x.length+t.codes.length+y.length:=by simp only[am]
 have htl:t.codes.length<=48:=by omega
 obtain⟨s,g1,g2⟩:=Z9 hs (as:=[l]) (bs:=[t]) ⟨hl,trivial⟩ ⟨ht,trivial⟩ (by rw[wO]; omega) (by rw[wO]; omega)
 rw[wO,wO] at g1;rw[zu,e1];generalize lp zJ k=rec;unfold zJ;simp only;rw[show ((x.length:Int)==(((x++t.codes++y).length:Nat):Int))=false from by rw[beq_eq_false_iff_ne]; omega,cond_false,Xa hs ht x y (by omega),aa]
 simp only;rw[Cl,aa];rw[show az 24 (none:Option jI)=none24 from rfl,g1,aa]
 constructor
 ·intro B ws hB hws;have hR:=g2 B hB;obtain⟨h1,h2,h3,h4,h5⟩:=CB hs hl hr hrl ht htl hB;have hcl:(za ws).length=x.length+(rr.sub (sbB B)).codes.length+y.length:=by rw[hws]; simp only[am]
  have hsl:(rr.sub (sbB B)).codes.length<=48*48:=La hrl h2;simp only[hB,dF,ay,cond_false];rw[show ((n:Int)==100)=(n==100) from by rw[Bool.eq_iff_iff,beq_iff_eq,beq_iff_eq]; omega]
  cases n==100 with
  | true=>rfl
  | false =>
   simp only[cond_false];rw[I5,aa,Wg hR h1,aa,h4,aa,EK,aa,CG (by omega),aa,← hws,show ag .i64 ((n:Int)+1)=((n+1:Nat):Int) by rw[zp]<;>omega]
   by_cases h48:(za ws).length>48
   ·rw[decide_eq_true h48,decide_eq_true (show (((za ws).length:Nat):Int)>48 by omega)]
    rfl
   ·rw[decide_eq_false h48,decide_eq_false (show ¬((((za ws).length:Nat):Int)>48) by omega)]
    rfl
 ·intro hB;simp only[hB,cK,bu,cond_true];rw[show ag .i64 ((x.length:Int)+1)=((x.length+1:Nat):Int) by rw[zp]<;>omega]
theorem Jm {us:List Tm} (hul:(za us).length<=48) {n:Nat} (hn:n<=100) {p:Nat} {o:Option jI} (h:Step a0 l rr us (za us) p o):p<=(za us).length∧∀ k,(za us).length - p<k ->
  (o=none->lp zJ k (a0,za us,(n:Int),(p:Int),l.codes,rr.codes)=some (za us,(n:Int),true)) ∧
  ∀ r',o=some r'->∃ k',k<=k'+1+((za us).length - p)∧lp zJ k (a0,za us,(n:Int),(p:Int),l.codes,rr.codes)=cond (n==100) (some ([],0,false)) (cond (decide (r'.length>48)) (some ([],0,false)) (lp zJ k' (a0,r',((n+1:Nat):Int),((0:Nat):Int),l.codes,rr.codes))):=by
 induction h with
 | stop =>
  refine ⟨aF _,fun k hk=>⟨fun _ => ?_,fun r' h=>nomatch h⟩⟩;obtain⟨k,rfl⟩:∃ k',k=k'+1:=⟨k - 1,by omega⟩
  rw[zu];unfold zJ;simp only[beq_self_eq_true,cond_true]
 | skip t x y p o ht e1 e2 e3 e4 ih =>
  subst e2;have htp:=uf t;have hlen:(za us).length=x.length+t.codes.length+y.length:=by rw[e1]; simp only[am]
  refine ⟨by omega,fun k hk => ?_⟩
  obtain⟨k,rfl⟩:∃ k',k=k'+1:=⟨k - 1,by omega⟩
  have h1:=(Xc hs hl hr hll hrl hul hn ht e1 k).2 e3;obtain⟨h2,h3⟩:=ih.2 k (by omega)
  rw[h1];refine ⟨h2,fun r' hr' => ?_⟩;obtain⟨k',h4,h5⟩:=h3 r' hr';exact ⟨k',by omega,h5⟩
 | here t x y p B ws ht e1 e2 e3 e4 e5 =>
  subst e2;have htp:=uf t;have hlen:(za us).length=x.length+t.codes.length+y.length:=by rw[e1]; simp only[am]
  refine ⟨by omega,fun k hk=>⟨fun h=>(nomatch h),fun r' hr' => ?_⟩⟩
  injection hr' with hr';subst hr';obtain⟨k,rfl⟩:∃ k',k=k'+1:=⟨k - 1,by omega⟩
  exact ⟨k,by omega,(Xc hs hl hr hll hrl hul hn ht e1 k).1 B ws e3 e5⟩
theorem PQ {us:List Tm} (hul:(za us).length<=48) {n:Nat} (hn:n<=100) {res:List Int×Int×Bool} (h:Rew a0 l rr us n res):∀ k,60*(101 - n)<k->lp zJ k (a0,za us,(n:Int),((0:Nat):Int),l.codes,rr.codes)=some res:=by
 induction h with
 | stop us n h1 =>
  intro k hk;exact ((Jm hs hl hr hll hrl hul hn h1).2 k (by omega)).1 rfl
 | full us n r h1 h2 =>
  intro k hk;obtain⟨k',-,h3⟩:=((Jm hs hl hr hll hrl hul hn h1).2 k (by omega)).2 r rfl
  rw[h3];rcases h2 with rfl | h2
  ·rfl
  ·rw[decide_eq_true h2];cases n==100<;>rfl
 | next us ws n σ res h1 h2 h3 h4 h5 h6 h7 ih =>
  intro k hk;obtain⟨k',h8,h9⟩:=((Jm hs hl hr hll hrl hul hn h1).2 k (by omega)).2 _ rfl
  rw[h9,show (n==100)=false from by simpa using h2,decide_eq_false (by omega)]
  exact ih h3 (by omega) k' (by omega)
theorem Hm {us:List Tm} (hul:(za us).length<=48) {res:List Int×Int×Bool} (h:Rew a0 l rr us 0 res):jW a0 l.codes rr.codes (za us)=some res:=by
 have key:=PQ hs hl hr hll hrl hul (bI 100) h (ze+1) (Nat.lt_succ_of_lt (by decide))
 rw[← key];unfold jW;rw[ye (by omega),aa]
 have hstep:∃ o,Step a0 l rr us (za us) 0 o:=by cases h with
  | stop _ _ h=>exact ⟨_,h⟩
  | full _ _ _ h=>exact ⟨_,h⟩
  | next _ _ _ _ _ h=>exact ⟨_,h⟩
 obtain⟨o,ho⟩:=hstep;generalize hr0:za us=r0 at ho;generalize hp0:(0:Nat)=p0 at ho;cases ho with
 | stop =>
  have h0:r0=[]:=aZ hp0.symm;rw[h0,zu];rfl
 | skip t x y _ _ ht e1 e2 e3 e4 =>
  subst hp0;have hx:x=[]:=aZ e2;subst hx;have htp:=uf t;have e1':za us=[]++t.codes++y:=hr0.trans e1;have h1:=(Xc hs hl hr hll hrl hul (bI 100) ht e1' ze).2 e3;have hlen:r0.length=t.codes.length+y.length:=by rw[e1]; simp
  have hul':r0.length<=48:=by rw[← hr0]; exact hul
  have hsk:=Xa hs ht [] y (by rw[← e1]; omega)
  rw[← e1] at hsk;have hsk:wu a0 r0 0=some (((t.codes.length:Nat):Int),true):=by simpa using hsk
  obtain⟨s,g1,-⟩:=Z9 hs (as:=[l]) (bs:=[t]) ⟨hl,trivial⟩ ⟨ht,trivial⟩ (by rw[wO]; omega) (by rw[wO]; omega)
  rw[wO,wO,e3] at g1;rw[show (0==((af r0:Nat):Int))=false from by rw[beq_eq_false_iff_ne]; omega,cond_false,hsk,aa]
  simp only;rw[decide_eq_true (show (0:Int)<=((t.codes.length:Nat):Int) by omega),cond_true,decide_eq_true (show ((t.codes.length:Nat):Int)<=((af r0:Nat):Int) by omega),cond_true]
  have htk:ew (bc ((t.codes.length:Nat):Int) - bc 0) (eu 0 r0)=t.codes:=by rw[e1]; simp
  rw[htk,show az 24 (none:Option jI)=none24 from rfl,g1,aa]
  simp only[cK,bu,cond_true];rw[hr0] at h1;refine ik ?_ h1.symm;exact DS _
 | here t x y _ B ws ht e1 e2 e3 e4 e5 =>
  subst hp0;have hx:x=[]:=aZ e2;subst hx;have htp:=uf t;have e1':za us=[]++t.codes++y:=hr0.trans e1;have h1:=(Xc hs hl hr hll hrl hul (bI 100) ht e1' ze).1 B ws e3 e5;have hlen:r0.length=t.codes.length+y.length:=by rw[e1]; simp
  have hul':r0.length<=48:=by rw[← hr0]; exact hul
  have hsk:=Xa hs ht [] y (by rw[← e1]; omega)
  rw[← e1] at hsk;have hsk:wu a0 r0 0=some (((t.codes.length:Nat):Int),true):=by simpa using hsk
  obtain⟨s,g1,g2⟩:=Z9 hs (as:=[l]) (bs:=[t]) ⟨hl,trivial⟩ ⟨ht,trivial⟩ (by rw[wO]; omega) (by rw[wO]; omega)
  rw[wO,wO,e3] at g1;obtain⟨k1,k2,k3,k4,k5⟩:=CB hs hl hr hrl ht (by omega) e3
  have hsl:(rr.sub (sbB B)).codes.length<=48*48:=La hrl k2;rw[show (0==((af r0:Nat):Int))=false from by rw[beq_eq_false_iff_ne]; omega,cond_false,hsk,aa]
  simp only;have d1:decide ((0:Int)<=((t.codes.length:Nat):Int))=true:=decide_eq_true (by omega)
  have d2:decide (((t.codes.length:Nat):Int)<=((af r0:Nat):Int))=true:=decide_eq_true (by omega)
  have d3:decide ((0:Int)<=((af r0:Nat):Int))=true:=decide_eq_true (by omega)
  have d4:decide (((af r0:Nat):Int)<=((af r0:Nat):Int))=true:=decide_eq_true (by omega)
  have htk:ew (bc ((t.codes.length:Nat):Int) - bc 0) (eu 0 r0)=t.codes:=by rw[e1]; simp
  have hyk:ew (bc ((af r0:Nat):Int) - bc ((t.codes.length:Nat):Int)) (eu (0+bc ((t.codes.length:Nat):Int)) r0)=y:=by
   rw[bl,bl,aQ,hlen,e1];simp
  rw[d1,cond_true,d2,cond_true,htk,show az 24 (none:Option jI)=none24 from rfl,g1,aa]
  simp only[dF,ay,cond_false];rw[show decide ((0:Nat)<=0)=true from rfl,cond_true,d3,cond_true,Wg (g2 B e3) k1,aa,k4,aa,d4,cond_true,hyk,
   show ew (bc 0 - bc 0) (eu 0 r0)=[] by simp,CG (by simp; omega),aa]
  rw[hr0] at h1;have h1':lp zJ (ze+1) (a0,r0,0,0,l.codes,rr.codes)=_:=h1;refine ik ?_ h1'.symm;rw[← e5,show ((0:Nat)==100)=false from rfl,cond_false]
  simp only[cond_true];by_cases h48:(za ws).length>48
  ·rw[decide_eq_true h48,decide_eq_true (show (((za ws).length:Nat):Int)>48 by omega)]; rfl
  ·rw[decide_eq_false h48,decide_eq_false (show ¬((((za ws).length:Nat):Int)>48) by omega),cond_false,cond_false]
   exact DS _
end
theorem CR:(es out:List zc)->(∀ l∈es,l.2.length<=1000)->out.length+es.length<=1000->yy es out=some (out++es)
 | [],out,_,_=>by unfold yy; rw[bG]
 | e::es,out,h,hl=>by
  rw[ak] at hl;have:=h e (aj ..);unfold yy;rw[ye (by omega),aa,zk (by simp; omega),cond_true,CR es _ (fun l hl=>h l (ai _ hl)) (by simp; omega),aU]
  rfl
theorem Ek (L:List zc):(es out:List jI)->(∀ l∈es,l.length<=1000)->out.length+es.length<=1000->yD L es out=some (L,out++es)
 | [],out,_,_=>by unfold yD; rw[bG]
 | e::es,out,h,hl=>by
  rw[ak] at hl;have:=h e (aj ..);unfold yD;rw[ye (by omega),aa,zk (by simp; omega),cond_true,Ek L es _ (fun l hl=>h l (ai _ hl)) (by simp; omega),aU]
  rfl
theorem E6 (L:List zc) (T:List jI):(es out:List zc)->(∀ l∈es,l.2.length<=1000)->out.length+es.length<=1000->yG L T es out=some (L,T,out++es)
 | [],out,_,_=>by unfold yG; rw[bG]
 | e::es,out,h,hl=>by
  rw[ak] at hl;have:=h e (aj ..);unfold yG;rw[ye (by omega),aa,zk (by simp; omega),cond_true,E6 L T es _ (fun l hl=>h l (ai _ hl)) (by simp; omega),aU]
  rfl
theorem j6 {a0:List zg} {L:List zc} {T:List jI} {C:List zc} (h:xD a0 L T C=true):tE L T C=some (L,T,C):=by
 obtain⟨h0,h1,h2,h3,h4,-,h6,-⟩:=zn h;have hT:∀ r∈T,r.length<=1000:=fun r hr=>(jm (xS h0) h r (qn hr)).1;unfold tE Yl;rw[Ys _ _ _ _ _ (by unfold maxLen; omega),CR L [] (fun l hl=>(qX h4 l hl).1) (by simp; omega),aa,
  Yu _ _ _ _ _ _ (by unfold maxLen; omega),Ek _ T [] hT (by simp; omega),aa,
  ZR _ _ _ _ (by unfold maxLen; omega),E6 _ _ C [] (fun l hl=>(qX h6 l hl).1) (by simp; omega),aa]
 rfl
def mtA (c:Nat) (ts:List Tm) (d:Nat) (us:List Tm):Option Bd:=if c=d then mtR ts us else none
theorem Lo {a0:List zg} (hs:SignOk a0) {c d:Nat} {ts us:List Tm} (hA:okR a0 24 ts) (hB:okR a0 24 us) (hl:(za ts).length<=48) (hl2:(za us).length<=48) :
  ∃ s,qQ a0 ((c:Int)::za ts) ((d:Int)::za us) none24=some ((mtA c ts d us).isSome,s):=by
 unfold qQ;have l24:none24.length=24:=by unfold none24; simp
 rw[u9 _ _ _ _ _ (by rw[ak]; unfold maxLen; omega)]
 unfold zh;rw[decide_eq_false (show ¬((0:Int)≥((((d:Int)::za us).length:Nat):Int)) by rw[ak]; omega),cond_false,decide_eq_true (show (c:Int)≥0 by omega),cond_true,yc,aB,aa]
 unfold mtA;by_cases hcd:c=d
 ·subst hcd;rw[show (((c:Nat):Int) != ((c:Nat):Int))=false from by simp,cond_false,if_pos rfl]
  obtain⟨r,h1,h2⟩:=IN hs (xK ts) ts us (aF _) hA hB _ (BOk.zero a0) _ RB.zero [(c:Int)] (by simp; omega)
  have h1:zh a0 ((c:Int)::za us) (za ts) (ag .i64 (0+1)) none24=some r:=h1;rw[h1,aa];have h2:zgE ((c:Int)::za us) (mtR ts us) r:=h2;cases hm:mtR ts us with
  | some B =>
   rw[hm] at h2;obtain⟨s,rfl,hR⟩:=h2;refine ⟨s,?_⟩;simp only[zR,l24,hR.len,cI,cX,cond_true,beq_self_eq_true,dF]
  | none =>
   rw[hm] at h2;rcases h2 with ⟨s,rfl,hs24⟩ | ⟨q,s,rfl,hq,hs24⟩
   ·refine ⟨s,?_⟩;simp only[zR,l24,hs24,cI,cX,cond_true,cK]
   ·refine ⟨s,?_⟩;simp only[zR,l24,hs24,cI,cX,cond_true,cK];rw[show (q==((af ((c:Int)::za us):Nat):Int))=false from by rw[beq_eq_false_iff_ne]; exact hq]
 ·rw[show (((d:Nat):Int) != ((c:Nat):Int))=true from by rw[bne_iff_ne]; omega,cond_true,if_neg hcd,aa]
  refine ⟨none24,?_⟩;simp only[zR,cI,cX,cond_true,cK]
def VR (a0:List zg) (n:Bool) (A:List Int) (l:zc):Bool:=(xM l.1 l.2 n A a0).getD false
theorem zaf {a0:List zg} (hs:SignOk a0) {n m:Bool} {A a:List Int} (hA:qN a0 A=true) (ha:qN a0 a=true):xM m a n A a0=some (VR a0 n A (m,a)) ∧
  ∀(c d:Nat) (ts us:List Tm),A=(c:Int)::za ts->a=(d:Int)::za us->okR a0 24 ts->okR a0 24 us->(VR a0 n A (m,a)=true↔m≠n∧(mtA c ts d us).isSome=true):=by
 obtain⟨c,ts,-,rfl,h1,-,-,-,h2,-⟩:=xP hA;obtain⟨d,us,-,rfl,h3,-,-,-,h4,-⟩:=xP ha;obtain⟨s,h5⟩:=Lo hs (c:=c) (d:=d) h1 h3 h2 h4;have e:xM m ((d:Int)::za us) n ((c:Int)::za ts) a0=some (!(m==n)&&(mtA c ts d us).isSome):=by
  unfold xM;cases m==n with
  | true=>rfl
  | false =>
   simp only[bu,cond_true,aN];rw[show az 24 (none:Option jI)=none24 from rfl,h5]
   rfl
 have e2:VR a0 n ((c:Int)::za ts) (m,(d:Int)::za us)=(!(m==n)&&(mtA c ts d us).isSome):=by unfold VR; rw[e]; rfl
 refine ⟨by rw[e,e2],fun c' d' ts' us' h6 h7 h8 h9 => ?_⟩
 injection h6 with a1 a2;injection h7 with a3 a4;have b1:c=c':=by omega
 have b2:d=d':=by omega
 have b3:=u3 _ ts ts' (aF _) h1 h8 a2;have b4:=u3 _ us us' (aF _) h3 h9 a4;subst b1; subst b2; subst b3; subst b4;rw[e2,ax,Bool.not_eq_true',beq_eq_false_iff_ne]
section
variable {a0:List zg} {n:Bool} {A:List Int} {q:zc->Bool}
theorem C8 {xs:List zc} (hq:∀ e∈xs,xM e.1 e.2 n A a0=some (!q e)):(es:List zc)->(i:Nat)->xs.drop i=es ->
  (zI n A a0 es i=some (.inl ())∧∀ e∈es,q e=true) ∨
  ∃ pre e post,es=pre++e::post∧(∀ x∈pre,q x=true)∧q e=false∧zI n A a0 es i=some (.inr ((i+pre.length:Nat):Int))
 | [],i,_=>.inl ⟨rfl,fun _ h=>(nomatch h)⟩
 | e::es,i,h=>by
  have ih:=C8 hq es (i+1) (zj h);have he:=hq e (aI (zw h));unfold zI;rw[he,aa];cases hqe:q e with
  | false=>exact .inr ⟨[],e,es,rfl,fun _ h=>(nomatch h),hqe,rfl⟩
  | true =>
   rw[ay,cond_false];rcases ih with ⟨h1,h2⟩ | ⟨pre,d,post,rfl,h2,h3,h4⟩
   ·refine .inl ⟨h1,fun x hx => ?_⟩;rcases aD.1 hx with rfl | hx
    ·exact hqe
    ·exact h2 x hx
   ·refine .inr ⟨e::pre,d,post,rfl,fun x hx => ?_,h3,?_⟩
    ·rcases aD.1 hx with rfl | hx
     ·exact hqe
     ·exact h2 x hx
    ·rw[h4,ak,show i+1+pre.length=i+(pre.length+1) by omega]
theorem AB:(es:List zc)->(i j k:Nat)->(xs:List zc)->xs.length<=1000->xs.drop j=es->i<=j->i<=xs.length->es.length<k->(∀ e∈es,xM e.1 e.2 n A a0=some (!q e)) ->
  ∃(xs':List zc) (i':Nat),lp yk k ((i:Int),(j:Int),xs,n,A,a0)=some ((i':Int),xs')∧xs'.length=xs.length∧i'<=xs.length∧xs'.take i'=xs.take i++es.filter q
 | _,_,_,0,_,_,_,_,_,h,_=>by omega
 | [],i,j,k+1,xs,hl,h,hij,hi,_,_=>by
  rw[zu];generalize lp yk k=rec;unfold yk;simp only[tq (vk h),cond_false];exact ⟨xs,i,rfl,rfl,hi,by simp⟩
 | e::es,i,j,k+1,xs,hl,h,hij,hi0,hk,hq=>by
  have hj:=qj h;have hM:xs.length<=maxLen:=by unfold maxLen; omega
  have hq':∀ e∈es,xM e.1 e.2 n A a0=some (!q e):=fun x hx=>hq x (ai _ hx);have hqe:=hq e (aj ..);have ih1:=AB es (i+1) (j+1) k (xs.set i e);have ih2:=AB es i (j+1) k xs hl (zj h) (by omega) hi0 (by simpa using hk) hq'
  rw[zu];generalize lp yk k=rec at ih1 ih2 ⊢;unfold yk;simp only[sZ hj,cond_true,yN hj,zw h,aa,hqe,t8 hj hM];cases he:q e with
  | true =>
   have hi:i<xs.length:=by omega
   rw[ay,bu,cond_true,yN hi,aa,al hi,aa,t8 hi hM];obtain⟨xs',i',h1,h2,h3,h4⟩:=ih1 (by rw[cg]; exact hl) (by
    rw[← zj h,List.drop_set];rw[if_pos (by omega)]) (by omega) (by rw[cg]; omega) (by simpa using hk) hq'
   rw[cg] at h2 h3;refine ⟨xs',i',h1,h2,h3,?_⟩;rw[h4,db (by simpa using he),List.take_add_one]
   rw[bZ hi,List.take_set,List.set_eq_of_length_le (by rw[cF]; omega)]
   simp
  | false =>
   rw[bu,ay,cond_false];obtain⟨xs',i',h1,h2,h3,h4⟩:=ih2;exact ⟨xs',i',h1,h2,h3,by rw[h4,cO (by simpa using he)]⟩
theorem Fm {xs:List zc} (hl:xs.length<=1000) (hq:∀ e∈xs,xM e.1 e.2 n A a0=some (!q e)):vX xs n A a0=some (xs.filter q):=by
 unfold vX tA;rw[kf _ _ _ _ (by unfold maxLen; omega)]
 rcases C8 hq xs 0 rfl with ⟨h1,h2⟩ | ⟨pre,e,post,h1,h2,h3,h4⟩
 ·rw[h1];show some xs=_;rw[fL.2 fun e he=>h2 e he]
 ·rw[h4];have hpl:pre.length<xs.length:=by rw[h1]; simp
  have hpost:xs.drop (pre.length+1)=post:=by rw[h1,show pre.length+1=(pre++[e]).length by simp,show pre++e::post=(pre++[e])++post by simp,List.drop_left]
  have hM:xs.length<=maxLen:=by unfold maxLen; omega
  simp only[aa,zR,aQ];rw[show ((((pre.length:Nat):Int)) == -1)=false by simp,cond_false,t8 hpl hM]
  obtain⟨xs',i',g1,g2,g3,g4⟩:=AB post pre.length (pre.length+1) ze xs hl hpost (by omega) (by omega) (cn (show post.length<=1000 by rw[← hpost,List.length_drop]; omega) (by decide)) (fun x hx=>hq x (by rw[h1]; simp [hx]))
  rw[g1,aa,decide_eq_true (by omega),cond_true,decide_eq_true (show (i':Int)<=((af xs':Nat):Int) by omega),cond_true,decide_eq_true (by omega),cond_true]
  simp only[bl,aQ];have e1:(BY (false,([]:List Int)) xs' i' (xs'.length - i')).take i'=xs'.take i':=by
   unfold BY;rw[aU,gq (by rw[cF]; omega)]
  rw[Im _ (by unfold BY; simp only[am,cF]; omega),aa,e1,g4,h1]
  rw[List.filter_append,fL.2 fun e he=>h2 e he,cO (by simpa using h3),gq rfl]
end
theorem GZ {a0:List zg} {L:List zc} {T:List jI} {C:List zc} (h:xD a0 L T C=true) (q:zc->Bool):xD a0 (L.filter q) T C=true:=by
 obtain⟨h0,h1,h2,h3,h4,h5,h6,h7⟩:=zn h;refine Cz h0 (aH (dK _ _) h1) h2 h3 (aC.2 fun l hl=>aC.1 h4 l (List.mem_filter.1 hl).1) h5 h6 ?_;have:zi ((L.filter q).map (·.2))<=zi (L.map (·.2)):=by
  clear h h1 h4 h7
  induction L with
  | nil=>exact aF _
  | cons l L ih =>
   unfold zi at ih ⊢;cases hq:q l with
   | true=>rw[db hq]; simp only[aM,cA]; omega
   | false=>rw[cO (by rw[hq]; simp)]; simp only[aM,cA]; omega
 omega
theorem CH {a0:List zg} {n:Bool} {A:List Int} (hA:qN a0 A=true) {L:List zc} {T:List jI} {C:List zc} (h:xD a0 L T C=true) :
  Ka a0 n A L T C=some ((tX (L.filter fun l => !VR a0 n A l) T C).1,(tX (L.filter fun l => !VR a0 n A l) T C).2.1,((L.length - (L.filter fun l => !VR a0 n A l).length:Nat):Int),0,(tX (L.filter fun l => !VR a0 n A l) T C).2.2):=by
 obtain⟨h0,h1,h2,h3,h4,-⟩:=zn h;have hs:=xS h0;have hlm:sY a0 n A=some true:=by rw[FT,hA]
 have hfl:(L.filter fun l => !VR a0 n A l).length<=L.length:=dK _ _;unfold Ka;rw[hlm,aa,zD,h,aa,j6 h];simp only[ay,cond_false,aa];rw[Fm (q:=fun l => !VR a0 n A l) (by omega) (fun e he=>by rw[(zaf hs hA (aC.1 h4 e he)).1,Bool.not_not]),aa,qO,GZ h]
 simp only[cond_true,aa];rw[zp (by omega) (by omega),show ((L.length:Nat):Int) - (((L.filter fun l => !VR a0 n A l).length:Nat):Int)=((L.length - (L.filter fun l => !VR a0 n A l).length:Nat):Int) by omega]
def LRw (a0:List zg) (l rr:Tm) (e e':zc) (m:Nat):Prop:=∃(c:Nat) (us ws:List Tm),e.2=(c:Int)::za us∧okR a0 24 us∧e'=(e.1,(c:Int)::za ws)∧Rew a0 l rr us 0 (za ws,(m:Int),true)
inductive LRws (a0:List zg) (l rr:Tm):List zc->List zc->Nat->Prop
 | nil:LRws a0 l rr [] [] 0
 | cons (e e':zc) (es es':List zc) (m k:Nat):LRw a0 l rr e e' m->LRws a0 l rr es es' k->LRws a0 l rr (e::es) (e'::es') (m+k)
theorem Ow {a0:List zg} {l rr:Tm} {us:List Tm} {n:Nat} {res:List Int×Int×Bool} (h:Rew a0 l rr us n res) (hn:n<=100) (hul:(za us).length<=48):res=([],0,false)∨∃(ws:List Tm) (m:Nat),res=(za ws,(m:Int),true)∧n<=m∧m<=100∧(za ws).length<=48:=by
 induction h with
 | stop us n _=>exact .inr ⟨us,n,rfl,aF _,hn,hul⟩
 | full=>exact .inl rfl
 | next us ws n σ res _ h2 h3 _ _ _ _ ih =>
  rcases ih (by omega) h3 with h | ⟨vs,m,h,h4,h5⟩
  ·exact .inl h
  ·exact .inr ⟨vs,m,h,by omega,h5⟩
theorem RX {a0:List zg} {l rr:Tm} (hl:l.ok a0 24) (hr:rr.ok a0 24) (hll:l.codes.length<=48) (hrl:rr.codes.length<=48):uT a0 l.codes rr.codes=some false∨uT a0 l.codes rr.codes=some true∨uP a0=false:=by
 cases hb:uP a0 with
 | false=>exact .inr (.inr rfl)
 | true =>
  obtain⟨k,-,h1,-⟩:=ki hb hl hr hll hrl;unfold uT rF;rw[jD hb hl hll,jD hb hr hrl,h1];simp only[aa,cond_true,beq_self_eq_true];cases k==2
  ·exact .inl rfl
  ·exact .inr (.inl rfl)
section
variable {a0:List zg} (hs:SignOk a0) {l rr:Tm} (hl:l.ok a0 24) (hr:rr.ok a0 24) (hll:l.codes.length<=48) (hrl:rr.codes.length<=48)
include hs hl hr hll hrl
theorem VD (T:List jI) (C:List zc):(es done:List zc)->(k all:Nat)->es.length<k->(∀ e∈es,qN a0 e.2=true)->all+100*es.length<=100000->done.length+es.length<=1000 ->
  ∃ r,lp vj k (a0,(all:Int),((done.length+es.length:Nat):Int),((done.length:Nat):Int),l.codes,rr.codes,T,C,done++es)=some r ∧
   (r = .inr (0,1601)∨∃ es' m,LRws a0 l rr es es' m∧r = .inl (((all+m:Nat):Int),T,C,done++es'))
 | _,_,0,_,h,_,_,_=>by omega
 | [],done,k+1,all,_,_,_,_=>by
  rw[zu];generalize lp vj k=rec;unfold vj;simp only;rw[decide_eq_false (show ¬(((done.length:Nat):Int)<((done.length+([]:List zc).length:Nat):Int)) by simp),cond_false]
  exact ⟨_,rfl,.inr ⟨[],0,.nil,rfl⟩⟩
 | e::es,done,k+1,all,hk,ha,hal,hdl=>by
  rw[ak] at hk hal hdl;have he:=ha e (aj ..);obtain⟨c,us,-,hc,ho,-,-,-,h48,-⟩:=xP he;obtain⟨res,hrew⟩:=O1 hs hl hr hrl 100 0 rfl (bI _) us ho h48;have hrw:=Hm hs hl hr hll hrl h48 hrew;have ih:=fun (e':zc) (m:Nat) (hm:m<=100)=>VD T C es (done++[e']) k (all+m) (by omega) (fun x hx=>ha x (ai _ hx)) (by omega) (by rw[am,aV]; omega)
  rw[zu];generalize lp vj k=rec at ih ⊢;unfold vj;simp only;rw[decide_eq_true (show ((done.length:Nat):Int)<((done.length+(e::es).length:Nat):Int) by rw[ak]; omega),cond_true,yN (by rw[am,ak]; omega),aa,QQ,aa,hc,wB,aa,hrw,aa]
  rcases Ow hrew (bI _) h48 with rfl | ⟨ws,m,rfl,-,hm,hwl⟩
  ·exact ⟨_,rfl,.inl rfl⟩
  ·simp only[ay,cond_false];rw[yc,aB,aa,zk (by simp; omega),cond_true,aa,QQ,aa,Cx]
   obtain⟨r,g1,g2⟩:=ih (e.1,(c:Int)::za ws) m hm;rw[am,aV,aU,show done.length+1+es.length=done.length+(e::es).length by rw[ak]; omega] at g1
   have w1:ag .i64 ((all:Int)+(m:Int))=((all+m:Nat):Int):=by rw[zp]<;>omega
   have w2:ag .i64 (((done.length:Nat):Int)+1)=((done.length+1:Nat):Int):=by rw[zp]<;>omega
   refine ⟨r,by rw[w1,w2]; exact g1,g2.imp id ?_⟩
   rintro⟨es',k',g3,rfl⟩;refine ⟨(e.1,(c:Int)::za ws)::es',m+k',.cons _ _ _ _ _ _ ⟨c,us,ws,hc,ho,rfl,hrew⟩ g3,?_⟩;rw[aU,Nat.add_assoc];rfl
theorem VU {L:List zc} {T:List jI} {C:List zc} (h:xD a0 L T C=true) :
  ∃ r,ZN a0 l.codes rr.codes L T C=some r∧((∃ m k,(k=1600∨k=1601)∧r=([],[],m,k,[]))∨∃ L' m,LRws a0 l rr L L' m∧xD a0 L' T C=true∧r=((tX L' T C).1,(tX L' T C).2.1,(m:Int),0,(tX L' T C).2.2)):=by
 obtain⟨h0,h1,h2,h3,h4,-⟩:=zn h;unfold ZN;rcases RX hl hr hll hrl with h5 | h5 | h5
 ·rw[h5];exact ⟨_,rfl,.inl ⟨0,1600,.inl rfl,rfl⟩⟩
 ·rw[h5,aa,zD,h];simp only[ay,cond_false,aa];rw[j6 h,aa];obtain⟨r,g1,g2⟩:=VD hs hl hr hll hrl T C L [] ze 0 (cn h1 (by decide)) (aC.1 h4) (by omega) (by simp; omega)
  rw[bb,aQ,bm] at g1;rw[show (0:Int)=((0:Nat):Int) from rfl,g1,aa]
  rcases g2 with rfl | ⟨L',m,g2,rfl⟩
  ·exact ⟨_,rfl,.inl ⟨0,1601,.inr rfl,rfl⟩⟩
  ·simp only[zR,bm,aQ];rw[qO];cases hm:xD a0 L' T C with
   | false=>exact ⟨_,rfl,.inl ⟨0,1601,.inr rfl,rfl⟩⟩
   | true=>exact ⟨_,rfl,.inr ⟨L',m,g2,hm,rfl⟩⟩
 ·rw[h5] at h0; cases h0
end
theorem Of (L:List zc) (T:List jI) (C:List zc):jk L T C=some (decide (L.length=1∧T=[]∧C=[])):=by
 unfold jk;by_cases h1:L.length=1
 ·rw[show (((af L:Nat):Int)==1)=true from by rw[beq_iff_eq]; omega,cond_true]
  cases T with
  | nil =>
   cases C with
   | nil=>rw[decide_eq_true ⟨h1,rfl,rfl⟩]; rfl
   | cons _ _=>rw[decide_eq_false (by rintro⟨-,-,h⟩; cases h)]; rw[show (((af ([]:List jI):Nat):Int)==0)=true from rfl,cond_true]; congr 1
  | cons _ _=>rw[decide_eq_false (by rintro⟨-,h,-⟩; cases h),show (((af (_::_:List jI):Nat):Int)==0)=false from by rw[beq_eq_false_iff_ne,ak]; omega]; rfl
 ·rw[show (((af L:Nat):Int)==1)=false from by rw[beq_eq_false_iff_ne]; omega,decide_eq_false (fun h=>h1 h.1)]; rfl
theorem J6 (a0:List zg) (L:List zc) (T:List jI) (C:List zc) (h:xD a0 L T C=true):∃ r,Wd a0 L T C=some r∧(r.1=true->∃ s0 s1 l rr:Tm,L=[(false,0::za [s0,s1])]∧T=[]∧C=[]∧((l=s0∧rr=s1)∨(l=s1∧rr=s0))∧l.ok a0 24∧rr.ok a0 24∧l.codes.length<=48∧rr.codes.length<=48∧r=(true,0,l.codes,rr.codes)):=by
 obtain⟨h0,h1,h2,h3,h4,-⟩:=zn h;have hs:=xS h0;unfold Wd;rw[zD,h,aa,Of];simp only[ay,cond_false,aa];by_cases hu:L.length=1∧T=[]∧C=[]
 ·rw[decide_eq_true hu];obtain⟨hu1,rfl,rfl⟩:=hu;obtain⟨⟨n,A⟩,rfl⟩:∃ e,L=[e]:=by
   match L,hu1 with
   | [e],_=>exact ⟨e,rfl⟩
  have hA:qN a0 A=true:=aC.1 h4 (n,A) (aj ..);simp only[ay,cond_false,yc,aB,aa];cases n with
  | true=>exact ⟨_,rfl,fun h=>nomatch h⟩
  | false =>
   simp only[cond_false];obtain⟨c,hc⟩:=Wi hA;rw[yc] at hc;rw[hc,aa];by_cases hc0:c=0
   ·subst hc0;obtain⟨s0,s1,rfl,o0,o1,hl⟩:=IQ hA (by rw[yc]; exact hc)
    have l0:s0.codes.length<=48:=aH (u6 (aj ..)) hl;have l1:s1.codes.length<=48:=aH (u6 (ai _ (aj ..))) hl;rw[show (((0:Nat):Int) != 0)=false from rfl,cond_false,(Ik hs o0 o1 hl).1,aa]
    obtain⟨k0,-,m0,-⟩:=ki h0 o0 o1 l0 l1;obtain⟨k1,-,m1,-⟩:=ki h0 o1 o0 l1 l0;have e0:rF a0 s0.codes s1.codes=some (k0==2):=by unfold rF; rw[m0]; rfl
    have e1:rF a0 s1.codes s0.codes=some (k1==2):=by unfold rF; rw[m1]; rfl
    have hx:∃ r,lp rE ze (a0,[s0.codes,s1.codes],((af [s0.codes,s1.codes]:Nat):Int),0)=some r∧(r = .inl ()∨r = .inr (true,0,s0.codes,s1.codes)∨r = .inr (true,0,s1.codes,s0.codes)):=by
     rw[show ze=(ze - 3)+1+1+1 from rfl,zu,zu,zu]
     generalize lp rE (ze - 3)=rec;have q0:zC s0.codes=some s0.codes:=ye (by omega)
     have q1:zC s1.codes=some s1.codes:=ye (by omega)
     generalize s0.codes=p0 at e0 e1 q0 q1 ⊢;generalize s1.codes=p1 at e0 e1 q0 q1 ⊢;unfold rE;simp only[show gx [p0,p1] 0=some p0 from rfl,show gx [p0,p1] (ag .i64 (1 - 0))=some p1 from rfl,show gx [p0,p1] (ag .i64 (0+1))=some p1 from rfl,show gx [p0,p1] (ag .i64 (1 - ag .i64 (0+1)))=some p0 from rfl,
      show decide ((0:Int)<((af [p0,p1]:Nat):Int))=true from rfl,show decide (ag .i64 (0+1)<((af [p0,p1]:Nat):Int))=true from rfl,show decide (ag .i64 (ag .i64 (0+1)+1)<((af [p0,p1]:Nat):Int))=false from rfl,aa,cond_true,cond_false,e0,e1,q0,q1]
     cases k0==2 with
     | true=>exact ⟨_,rfl,.inr (.inl rfl)⟩
     | false =>
      cases k1==2 with
      | true=>exact ⟨_,rfl,.inr (.inr rfl)⟩
      | false=>exact ⟨_,rfl,.inl rfl⟩
    obtain⟨r,g1,g2⟩:=hx;rw[g1,aa];rcases g2 with rfl | rfl | rfl
    ·exact ⟨_,rfl,fun h=>nomatch h⟩
    ·exact ⟨_,rfl,fun _=>⟨s0,s1,s0,s1,rfl,trivial,trivial,.inl ⟨rfl,rfl⟩,o0,o1,l0,l1,rfl⟩⟩
    ·exact ⟨_,rfl,fun _=>⟨s0,s1,s1,s0,rfl,trivial,trivial,.inr ⟨rfl,rfl⟩,o1,o0,l1,l0,rfl⟩⟩
   ·rw[show (((c:Nat):Int) != 0)=true from by rw[bne_iff_ne]; omega]
    exact ⟨_,rfl,fun h=>nomatch h⟩
 ·rw[decide_eq_false hu];exact ⟨_,rfl,fun h=>nomatch h⟩
theorem GB {a0:List zg} (rule:Int) {L:List zc} {T:List jI} {C:List zc} (h:xD a0 L T C=true) {L':List zc} {T':List jI} {C':List zc} (h':xD a0 L' T' C'=true) :
  ∃ r,sx a0 rule L T C L' T' C'=some r∧(r.2.2.1=true->xD a0 r.1 r.2.1 r.2.2.2=true):=by
 unfold sx;cases rule==6 with
 | true =>
  simp only[cond_true];rw[Of,aa];by_cases hu:L'.length=1∧T'=[]∧C'=[]
  ·rw[decide_eq_true hu];obtain⟨⟨n,A⟩,rfl⟩:∃ e,L'=[e]:=by
    match L',hu.1 with
    | [e],_=>exact ⟨e,rfl⟩
   have hA:qN a0 A=true:=aC.1 (zn h').2.2.2.2.1 (n,A) (aj ..);simp only[ay,cond_false,yc,aB,aa];rw[CH hA h,aa];exact ⟨_,rfl,fun _=>Ki (GZ h _)⟩
  ·rw[decide_eq_false hu];exact ⟨_,rfl,fun h=>nomatch h⟩
 | false =>
  simp only[cond_false];obtain⟨r,h1,h2⟩:=J6 a0 L' T' C' h';rw[h1,aa];cases hr:r.1 with
  | false=>exact ⟨_,rfl,fun h=>nomatch h⟩
  | true =>
   obtain⟨s0,s1,l,rr,-,-,-,-,o0,o1,l0,l1,rfl⟩:=h2 hr;simp only[ay,cond_false];obtain⟨q,g1,g2⟩:=VU (xS (zn h).1) o0 o1 l0 l1 h;rw[g1,aa];rcases g2 with ⟨m,k,hk,rfl⟩ | ⟨L2,m,g2,g3,rfl⟩
   ·simp only;rw[show (k==0)=false from by rw[beq_eq_false_iff_ne]; omega]
    exact ⟨_,rfl,fun h=>nomatch h⟩
   ·exact ⟨_,rfl,fun _=>Ki g3⟩
def wiB (x lo hi:Int):Bool:=decide (lo<=x)&&decide (x<=hi)
theorem Oa (x lo hi:Int):vm x lo hi=some (wiB x lo hi):=by
 unfold vm wiB;cases h:decide (x≥lo) with
 | true=>rfl
 | false=>rfl
def I0 (r a i s b j t:Int):Bool:=wiB r 0 7&&(wiB a (-1) 199&&(wiB b (-1) 199&&(wiB i 0 4&&(wiB j 0 4&&(wiB s 0 1&&wiB t 0 48)))))
theorem zbt (r a i s b j t:Int) (L:List zc) (T:List jI) (C:List zc):sq r a i s b j t L T C=some (I0 r a i s b j t):=by
 unfold sq I0;simp only[Oa,aa];cases wiB r 0 7<;>cases wiB a (-1) 199<;>cases wiB b (-1) 199<;>cases wiB i 0 4<;>cases wiB j 0 4<;>cases wiB s 0 1<;>rfl
def ZP (a0:List zg) (x:qa):Bool:=I0 x.1 x.2.1 x.2.2.1 x.2.2.2.1 x.2.2.2.2.1 x.2.2.2.2.2.1 x.2.2.2.2.2.2.1&&xD a0 x.2.2.2.2.2.2.2.1 x.2.2.2.2.2.2.2.2.1 x.2.2.2.2.2.2.2.2.2
theorem AQ (a0:List zg) (x:qa):V7 a0 x.1 x.2.1 x.2.2.1 x.2.2.2.1 x.2.2.2.2.1 x.2.2.2.2.2.1 x.2.2.2.2.2.2.1 x.2.2.2.2.2.2.2.1 x.2.2.2.2.2.2.2.2.1 x.2.2.2.2.2.2.2.2.2=some (ZP a0 x):=by
 unfold V7 ZP;rw[zbt,aa,zD];cases I0 x.1 x.2.1 x.2.2.1 x.2.2.2.1 x.2.2.2.2.1 x.2.2.2.2.2.1 x.2.2.2.2.2.2.1<;>rfl
theorem Pv (a0:List zg):(es:List qa)->(i:Nat)->(es.all (ZP a0)=true->zG a0 es i=some (.inl ()))∧(es.all (ZP a0)=false->∃ j:Nat,zG a0 es i=some (.inr (j:Int)))
 | [],_=>⟨fun _=>rfl,(fun h=>nomatch h)⟩
 | e::es,i=>by
  obtain⟨h1,h2⟩:=Pv a0 es (i+1);unfold zG t7;rw[AQ,aa,aa,List.all_cons];cases ZP a0 e with
  | true=>exact ⟨h1,h2⟩
  | false=>exact ⟨(fun h=>nomatch h),fun _=>⟨i,rfl⟩⟩
def At (a0:List zg) (log:List qa):Bool:=uP a0&&(decide (log.length<=200)&&log.all (ZP a0))
theorem DE (a0:List zg) (log:List qa):tU a0 log=some (At a0 log):=by
 unfold tU At;rw[YG,aa];cases uP a0 with
 | false=>rfl
 | true =>
  simp only[cond_true,aN];by_cases hl:log.length<=200
  ·rw[decide_eq_true (show ((log.length:Nat):Int)<=200 by omega),decide_eq_true hl,cond_true,aN]
   unfold uK tB;rw[ka log a0 (aH hl (by decide))]
   obtain⟨h1,h2⟩:=Pv a0 log 0;cases ha:log.all (ZP a0) with
   | true=>rw[h1 ha]; rfl
   | false =>
    obtain⟨j,hj⟩:=h2 ha;rw[hj];simp only[aa,zR];rw[decide_eq_true (show (j:Int)≥0 by omega)]
    rfl
  ·rw[decide_eq_false (show ¬((log.length:Nat):Int)<=200 by omega),decide_eq_false hl]
   rfl
theorem sD {a0:List zg} {log:List qa} (h:At a0 log=true):uP a0=true∧log.length<=200∧∀ s∈log,ZP a0 s=true:=by
 unfold At at h;rw[ax,ax] at h;exact ⟨h.1,of_decide_eq_true h.2.1,aC.1 h.2.2⟩
theorem ZG {a0:List zg} {x:qa} (h:ZP a0 x=true):xD a0 x.2.2.2.2.2.2.2.1 x.2.2.2.2.2.2.2.2.1 x.2.2.2.2.2.2.2.2.2=true:=by
 unfold ZP at h;exact ((ax _ _).mp h).2
def Jx (r a i s b j t:Int):Bool :=
 if r=0 then decide (a = -1∧i=0∧s=0∧b = -1∧j=0∧t=0)
 else if r=1 then decide (s=0∧t=0)
 else if r=2 then decide (s=0∧b = -1∧t=0)
 else if r=3 then true
 else if r=4 then decide (s=0∧b = -1∧j=0∧t=0)
 else if r=7 then decide (s=0∧b = -1∧j=0∧t=0)
 else if r=5 then decide (i=0∧s=0∧j=0∧t=0)
 else if r=6 then decide (i=0∧s=0∧j=0∧t=0)
 else decide (i=0∧s=0∧b = -1∧j=0∧t=0)
theorem xg (a0 a1 a2 a3 a4 a5 a6 b0 b1 b2 b3 b4 b5 b6:Int) (L:List zc) (T:List jI) (C:List zc) (L':List zc) (T':List jI) (C':List zc) :
  vE a0 a1 a2 a3 a4 a5 a6 L T C b0 b1 b2 b3 b4 b5 b6 L' T' C'=some ((a0==b0)&&((a1==b1)&&((a2==b2)&&((a3==b3)&&((a4==b4)&&((a5==b5)&&(a6==b6))))))):=by
 unfold vE;cases a0==b0<;>cases a1==b1<;>cases a2==b2<;>cases a3==b3<;>cases a4==b4<;>cases a5==b5<;>rfl
theorem Se (r a i s b j t:Int) (L:List zc) (T:List jI) (C:List zc):∃ p,Yz r a i s b j t L T C=some p∧∀ L' T' C',vE p.1 p.2.1 p.2.2.1 p.2.2.2.1 p.2.2.2.2.1 p.2.2.2.2.2.1 p.2.2.2.2.2.2 [] [] [] r a i s b j t L' T' C'=some (Jx r a i s b j t):=by
 unfold Yz Jx;have q:∀ x y:Int,(x==y)=decide (y=x):=fun x y=>by
  by_cases h:x=y
  ·subst h; simp
  ·rw[beq_eq_false_iff_ne.2 h,decide_eq_false (fun e=>h e.symm)]
 have q':∀ x:Int,(x==x)=true:=fun x=>by simp
 by_cases h0:r=0
 ·rw[if_pos h0,show (r==0)=true from by simp [h0],cond_true]
  refine ⟨_,rfl,fun _ _ _ => ?_⟩;rw[xg,q',aN];simp only[q,de]
 rw[if_neg h0,show (r==0)=false from by simp [h0],cond_false]
 by_cases h1:r=1
 ·rw[if_pos h1,show (r==1)=true from by simp [h1],cond_true]
  refine ⟨_,rfl,fun _ _ _ => ?_⟩;rw[xg];simp only[q',aN,q,de]
 rw[if_neg h1,show (r==1)=false from by simp [h1],cond_false]
 by_cases h2:r=2
 ·rw[if_pos h2,show (r==2)=true from by simp [h2],cond_true]
  refine ⟨_,rfl,fun _ _ _ => ?_⟩;rw[xg];simp only[q',aN,q,de]
 rw[if_neg h2,show (r==2)=false from by simp [h2],cond_false]
 by_cases h3:r=3
 ·rw[if_pos h3,show (r==3)=true from by simp [h3],cond_true]
  refine ⟨_,rfl,fun _ _ _ => ?_⟩;rw[xg];simp only[q',aN]
 rw[if_neg h3,show (r==3)=false from by simp [h3],cond_false]
 by_cases h4:r=4
 ·rw[if_pos h4,show (r==4)=true from by simp [h4],cond_true]
  refine ⟨_,rfl,fun _ _ _ => ?_⟩;rw[xg];simp only[q',aN,q,de]
 rw[if_neg h4,show (r==4)=false from by simp [h4],cond_false]
 by_cases h7:r=7
 ·rw[if_pos h7,show (r==7)=true from by simp [h7],cond_true]
  refine ⟨_,rfl,fun _ _ _ => ?_⟩;rw[xg];simp only[q',aN,q,de]
 rw[if_neg h7,show (r==7)=false from by simp [h7],cond_false]
 by_cases h5:r=5
 ·rw[if_pos h5,show (r==5)=true from by simp [h5],cond_true]
  refine ⟨_,rfl,fun _ _ _ => ?_⟩;rw[xg];simp only[q',aN,q,de]
 rw[if_neg h5,show (r==5)=false from by simp [h5],cond_false]
 by_cases h6:r=6
 ·rw[if_pos h6,show (r==6)=true from by simp [h6],cond_true]
  refine ⟨_,rfl,fun _ _ _ => ?_⟩;rw[xg];simp only[q',aN,q,de]
 rw[if_neg h6,show (r==6)=false from by simp [h6],cond_false]
 refine ⟨_,rfl,fun _ _ _ => ?_⟩;rw[xg];simp only[q',aN,q,de]
theorem TW (ys:List zc):(es:List zc)->(i:Nat)->(∀ e∈es,e.2.length<=maxLen)->(ys.drop i).length=es.length->yl ys es i=some (cond (decide (es=ys.drop i)) (.inl ()) (.inr false))
 | [],i,_,h=>by
  rw[decide_eq_true (cj.1 h).symm];rfl
 | e::es,i,hm,h=>by
  match hd:ys.drop i,h with
  | y::rest,h =>
   have hy:ys[i]? = some y:=zw hd;have hr:ys.drop (i+1)=rest:=zj hd;have ih:=TW ys es (i+1) (fun x hx=>hm x (ai _ hx)) (by rw[hr]; exact gQ h)
   rw[hr] at ih;unfold yl;rw[yH,hy,aa,Jp (hm e (aj ..)),aa,ih];by_cases h1:e=y
   ·subst h1;by_cases h2:es=rest
    ·subst h2; simp
    ·simp [h2]
   ·rw[decide_eq_false (fun h=>h1 h),decide_eq_false (fun h:e::es=y::rest=>h1 (gI h).1)];rfl
theorem DF {xs ys:List zc} (hl:xs.length<=maxLen) (hm:∀ e∈xs,e.2.length<=maxLen):uj xs ys=some (decide (xs=ys)):=by
 unfold uj;by_cases h:xs.length=ys.length
 ·rw[show (((af xs:Nat):Int) != ((af ys:Nat):Int))=false from by rw[h]; simp,cond_false,jA ys xs hl,TW ys xs 0 hm h.symm,bM]
  cases decide (xs=ys)<;>rfl
 ·rw[show (((af xs:Nat):Int) != ((af ys:Nat):Int))=true from by rw[bne_iff_ne]; omega,decide_eq_false (fun e=>h (by rw[e]))]
  rfl
theorem Or (ys:List jI):(es:List jI)->(i:Nat)->(∀ e∈es,e.length<=maxLen)->(ys.drop i).length=es.length->zY ys es i=some (cond (decide (es=ys.drop i)) (.inl ()) (.inr false))
 | [],i,_,h=>by
  rw[decide_eq_true (cj.1 h).symm];rfl
 | e::es,i,hm,h=>by
  match hd:ys.drop i,h with
  | y::rest,h =>
   have hy:ys[i]? = some y:=zw hd;have hr:ys.drop (i+1)=rest:=zj hd;have ih:=Or ys es (i+1) (fun x hx=>hm x (ai _ hx)) (by rw[hr]; exact gQ h)
   rw[hr] at ih;unfold zY;rw[yH,hy,aa,wo (hm e (aj ..)),aa,ih];by_cases h1:e=y
   ·subst h1;by_cases h2:es=rest
    ·subst h2; simp
    ·simp [h2]
   ·rw[decide_eq_false (fun h=>h1 h),decide_eq_false (fun h:e::es=y::rest=>h1 (gI h).1)];rfl
theorem Hj {xs ys:List jI} (hl:xs.length<=maxLen) (hm:∀ e∈xs,e.length<=maxLen):uI xs ys=some (decide (xs=ys)):=by
 unfold uI;by_cases h:xs.length=ys.length
 ·rw[show (((af xs:Nat):Int) != ((af ys:Nat):Int))=false from by rw[h]; simp,cond_false,kx ys xs hl,Or ys xs 0 hm h.symm,bM]
  cases decide (xs=ys)<;>rfl
 ·rw[show (((af xs:Nat):Int) != ((af ys:Nat):Int))=true from by rw[bne_iff_ne]; omega,decide_eq_false (fun e=>h (by rw[e]))]
  rfl
theorem Gd {a0:List zg} {L:List zc} {T:List jI} {C:List zc} (h:xD a0 L T C=true) (L':List zc) (T':List jI) (C':List zc):Yg L T C L' T' C'=some (decide ((L,T,C)=(L',T',C'))):=by
 obtain⟨-,h1,h2,h3,h4,h5,h6,-⟩:=zn h;have w:(1000:Nat)<=maxLen:=by decide
 unfold Yg;rw[DF (aH h1 (by decide)) (fun e he=>aH (qX h4 e he).1 w),aa,Hj (aH h2 (by decide)) (fun e he=>aH (ZQ h5 e he).1 w),aa,DF (aH h3 (by decide)) (fun e he=>aH (qX h6 e he).1 w)]
 by_cases e1:L=L'<;>by_cases e2:T=T'<;>by_cases e3:C=C'<;>simp [e1,e2,e3]
theorem KY (a0:List zg) (L:List zc) (T:List jI) (C:List zc) (i:Int) (L':List zc) (T':List jI) (C':List zc) (j:Int):OkR a0 (sP a0 L T C i L' T' C' j):=by
 rw[Xs];cases hmay:xD a0 L T C with
 | false=>exact qU (k:=1300) rfl
 | true =>
  cases hmay':xD a0 L' T' C' with
  | false=>exact qU (k:=1300) rfl
  | true =>
   rw[aN,aN];cases hpi:z5 L i with
   | false=>exact qU (k:=1300) rfl
   | true =>
    rw[aN];cases hpj:z5 L' j with
    | false=>exact qU (k:=1300) rfl
    | true =>
     rw[cond_true];have hs:=xS (zn hmay).1;obtain⟨⟨n,A⟩,hi⟩:=uh hpi;obtain⟨⟨n',A'⟩,hj⟩:=uh hpj;rcases V2 hs hmay hmay' hi hj with ⟨-,r1⟩ | ⟨hnn,b,c,ts,us,hb,-,rfl,rfl,ho,ho',hll,⟨r1,-⟩ | ⟨hnear,⟨r1,-⟩ | ⟨σ,hmgu,hok,⟨-,r1⟩ | ⟨-,r1⟩⟩⟩⟩
     ·exact qU r1
     ·exact qU r1
     ·exact qU r1
     ·exact qU r1
     ·rw[r1];exact Q5
theorem Oy (a0:List zg) (L:List zc) (T:List jI) (C:List zc) (i:Int):∃ r,vT a0 L T C i=some r∧(r.2.2.1=0->xD a0 r.1 r.2.1 r.2.2.2=true):=by
 rw[VW];cases hmay:xD a0 L T C with
 | false=>exact ⟨_,rfl,fun h=>by cases h⟩
 | true =>
  rw[aN];cases hpi:z5 L i with
  | false=>exact ⟨_,rfl,fun h=>by cases h⟩
  | true =>
   rw[cond_true];by_cases h3:C.length=3
   ·rw[decide_eq_true h3]; exact ⟨_,rfl,fun h=>by cases h⟩
   ·rw[decide_eq_false h3,cond_false];refine ⟨_,rfl,fun _ => ?_⟩;obtain⟨x,hi⟩:=uh hpi;obtain⟨-,-,-,n3,-⟩:=zn hmay;unfold gx at hi;by_cases h0:0<=i
    ·rw[decide_eq_true h0,cond_true] at hi;have hm2:=G1 hmay h0 hi (by omega)
     unfold KN;rw[hi];exact Ki hm2
    ·rw[decide_eq_false h0] at hi; cases hi
abbrev CP:=List zc×List jI×Bool×List zc
abbrev UL:=List zc×List jI×List zc
def Ci (a0:List zg) (r i s j t:Int) (c d:UL):Option CP:=wh a0 r 0 i s 0 j t [] [] [] c.1 c.2.1 c.2.2 d.1 d.2.1 d.2.2
theorem zaI {a0:List zg} (r i s j t:Int) {c d:UL} (hc:xD a0 c.1 c.2.1 c.2.2=true) (hd:xD a0 d.1 d.2.1 d.2.2=true∨(r≠5∧r≠6)) (hi:0<=i):∃ q,Ci a0 r i s j t c d=some q∧(q.2.2.1=true->xD a0 q.1 q.2.1 q.2.2.2=true):=by
 have fin:∀{o:Option Vf},OkR a0 o->∃ q,(o.bind fun r11=>cond r11.2.2.1 (some (r11.1,r11.2.1,(r11.2.2.2.1==0),r11.2.2.2.2)) (some (r11.1,r11.2.1,false,r11.2.2.2.2)))=some q∧(q.2.2.1=true->xD a0 q.1 q.2.1 q.2.2.2=true):=by
  rintro o ⟨x,rfl,-,hx⟩;rw[aa];cases hok:x.2.2.1 with
  | false=>exact ⟨_,rfl,fun h=>nomatch h⟩
  | true=>exact ⟨_,rfl,fun h=>hx hok (by simpa using h)⟩
 have asm:∃ q,(cond (decide (i<((af c.1:Nat):Int)))
   ((gx c.1 i).bind fun e16 =>
    cond e16.1
    ((vT a0 c.1 c.2.1 c.2.2 i).bind fun r17 =>
     cond e16.1
     (some (r17.1,r17.2.1,(r17.2.2.1==0),r17.2.2.2))
     (some (r17.1,r17.2.1,false,r17.2.2.2)))
    (cond e16.1
     (some (([]:jQ),([]:jR),true,([]:jQ)))
     (some (([]:jQ),([]:jR),false,([]:jQ)))))
   (some (([]:jQ),([]:jR),false,([]:jQ))))=some q∧(q.2.2.1=true->xD a0 q.1 q.2.1 q.2.2.2=true):=by
  by_cases hil:i<((af c.1:Nat):Int)
  ·rw[decide_eq_true hil,cond_true];obtain⟨e,g1,-⟩:=JZ hi hil;rw[g1,aa];cases e.1 with
   | false=>exact ⟨_,rfl,fun h=>nomatch h⟩
   | true =>
    obtain⟨x,g2,g3⟩:=Oy a0 c.1 c.2.1 c.2.2 i;simp only[cond_true,g2,aa];exact ⟨_,rfl,fun h=>g3 (by simpa using h)⟩
  ·rw[decide_eq_false hil];exact ⟨_,rfl,fun h=>nomatch h⟩
 unfold Ci wh;cases h1:r==1 with
 | true=>exact fin (KY ..)
 | false =>
  cases h2:r==2 with
  | true=>exact fin (GA ..)
  | false =>
   cases h3:r==3 with
   | true=>exact fin (O7 ..).2
   | false =>
    cases h4:r==4 with
    | true=>exact fin (Cm ..).2
    | false =>
     cases h5:r==5 with
     | true =>
      obtain⟨q,g1,g2⟩:=GB r hc (hd.resolve_right fun h=>h.1 (by simpa using h5))
      simp only[cond_true,cond_false,g1,aa];exact ⟨_,rfl,g2⟩
     | false =>
      cases h6:r==6 with
      | true =>
       obtain⟨q,g1,g2⟩:=GB r hc (hd.resolve_right fun h=>h.2 (by simpa using h6))
       simp only[cond_true,cond_false,g1,aa];exact ⟨_,rfl,g2⟩
      | false =>
       cases h7:r==7 with
       | true=>exact asm
       | false=>exact ⟨_,rfl,fun h=>nomatch h⟩
def QU (x:qa):UL:=(x.2.2.2.2.2.2.2.1,x.2.2.2.2.2.2.2.2.1,x.2.2.2.2.2.2.2.2.2)
def zfP:UL:=([],[],[])
def Ds:CP:=([],[],false,[])
def Fh (o:Option CP):Option CP:=o.bind fun r=>cond (!r.2.2.1) (some Ds) (some (r.1,r.2.1,true,r.2.2.2))
def Xr (x:qa):Bool:=Jx x.1 x.2.1 x.2.2.1 x.2.2.2.1 x.2.2.2.2.1 x.2.2.2.2.2.1 x.2.2.2.2.2.2.1
def Tk (r:Int):Bool:=r==1||(r==3||(r==5||r==6))
def X4 (a0:List zg) (x:qa) (k:Int) (g:Int->Option qa):Option CP :=
 cond (!Xr x) (some Ds)
 (cond (x.1==0) ((tE x.2.2.2.2.2.2.2.1 x.2.2.2.2.2.2.2.2.1 x.2.2.2.2.2.2.2.2.2).bind fun r=>some (r.1,r.2.1,true,r.2.2))
  (cond (decide (x.2.1<0)) (some Ds)
   (cond (decide (x.2.1≥k)) (some Ds)
    (cond (Tk x.1)
     (cond (decide (x.2.2.2.2.1<0)) (some Ds)
      (cond (decide (x.2.2.2.2.1≥k)) (some Ds)
       ((g x.2.2.2.2.1).bind fun sb=>(g x.2.1).bind fun sa=>Fh (Ci a0 x.1 x.2.2.1 x.2.2.2.1 x.2.2.2.2.2.1 x.2.2.2.2.2.2.1 (QU sa) (QU sb)))))
     ((g x.2.1).bind fun sa=>Fh (Ci a0 x.1 x.2.2.1 x.2.2.2.1 x.2.2.2.2.2.1 x.2.2.2.2.2.2.1 (QU sa) zfP))))))
theorem zcj (a0:List zg) (log:List qa) (k:Int):kB a0 log k=(gx log k).bind fun x=>X4 a0 x k (gx log):=by
 unfold kB;cases gx log k with
 | none=>rfl
 | some x =>
  obtain⟨p,h1,h2⟩:=Se x.1 x.2.1 x.2.2.1 x.2.2.2.1 x.2.2.2.2.1 x.2.2.2.2.2.1 x.2.2.2.2.2.2.1 x.2.2.2.2.2.2.2.1 x.2.2.2.2.2.2.2.2.1 x.2.2.2.2.2.2.2.2.2;simp only[aa];rw[h1,aa,h2,aa];unfold X4;rw[show Xr x=Jx x.1 x.2.1 x.2.2.1 x.2.2.2.1 x.2.2.2.2.1 x.2.2.2.2.2.1 x.2.2.2.2.2.2.1 from rfl]
  cases Jx x.1 x.2.1 x.2.2.1 x.2.2.2.1 x.2.2.2.2.1 x.2.2.2.2.2.1 x.2.2.2.2.2.2.1 with
  | false=>rfl
  | true =>
   unfold Tk;cases x.1==0 with
   | true=>rfl
   | false =>
    cases decide (x.2.1<0) with
    | true=>rfl
    | false =>
     cases decide (x.2.1≥k) with
     | true=>rfl
     | false =>
      cases x.1==1 with
      | true=>rfl
      | false =>
       cases x.1==3 with
       | true=>rfl
       | false =>
        cases x.1==5 with
        | true=>rfl
        | false =>
         cases x.1==6 with
         | true=>rfl
         | false=>rfl
def Dh (a0:List zg) (log:List qa) (k:Nat):Prop:=∃ x,log[k]? = some x∧X4 a0 x (k:Int) (gx log)=some (x.2.2.2.2.2.2.2.1,x.2.2.2.2.2.2.2.2.1,true,x.2.2.2.2.2.2.2.2.2)
theorem zbC {a0:List zg} {log:List qa} (h:At a0 log=true) {k:Nat} {x:qa} (hk:log[k]? = some x):∃ q,X4 a0 x (k:Int) (gx log)=some q∧(q.2.2.1=true->xD a0 q.1 q.2.1 q.2.2.2=true):=by
 obtain⟨hs,hl,hall⟩:=sD h;have hx:=hall x (aI hk);obtain⟨hkl,-⟩:=au.1 hk;have bad:∃ q,some Ds=some q∧(q.2.2.1=true->xD a0 q.1 q.2.1 q.2.2.2=true):=⟨_,rfl,fun h=>nomatch h⟩;unfold X4;cases Xr x with
 | false=>exact bad
 | true =>
  cases x.1==0 with
  | true =>
   have hm:=ZG hx;simp only[ay,cond_true,cond_false];rw[j6 hm];exact ⟨_,rfl,fun _=>hm⟩
  | false =>
   simp only[ay,cond_false];by_cases ha:x.2.1<0
   ·rw[decide_eq_true ha]; exact bad
   rw[decide_eq_false ha,cond_false];by_cases hak:x.2.1≥(k:Int)
   ·rw[decide_eq_true hak]; exact bad
   rw[decide_eq_false hak,cond_false];obtain⟨sa,ga,gm,-⟩:=JZ (xs:=log) (i:=x.2.1) (by omega) (by omega)
   have hma:=ZG (hall sa gm);have fin:∀{d:UL},(xD a0 d.1 d.2.1 d.2.2=true∨(x.1≠5∧x.1≠6))->∃ q,Fh (Ci a0 x.1 x.2.2.1 x.2.2.2.1 x.2.2.2.2.2.1 x.2.2.2.2.2.2.1 (QU sa) d)=some q∧(q.2.2.1=true->xD a0 q.1 q.2.1 q.2.2.2=true):=by
    intro d hd;have hi:0<=x.2.2.1:=by
     unfold ZP I0 wiB at hx;simp only[ax,decide_eq_true_eq] at hx;exact hx.1.2.2.2.1.1
    obtain⟨q,g1,g2⟩:=zaI (a0:=a0) x.1 x.2.2.1 x.2.2.2.1 x.2.2.2.2.2.1 x.2.2.2.2.2.2.1 (c:=QU sa) (d:=d) hma hd hi;unfold Fh;rw[g1,aa];cases hq:q.2.2.1 with
    | false=>exact bad
    | true=>exact ⟨_,rfl,fun _=>g2 hq⟩
   cases ht:Tk x.1 with
   | true =>
    rw[cond_true];by_cases hb:x.2.2.2.2.1<0
    ·rw[decide_eq_true hb]; exact bad
    rw[decide_eq_false hb,cond_false];by_cases hbk:x.2.2.2.2.1≥(k:Int)
    ·rw[decide_eq_true hbk]; exact bad
    rw[decide_eq_false hbk,cond_false];obtain⟨sb,gb,gmb,-⟩:=JZ (xs:=log) (i:=x.2.2.2.2.1) (by omega) (by omega)
    rw[gb,aa,ga,aa];exact fin (.inl (ZG (hall sb gmb)))
   | false =>
    rw[cond_false,ga,aa];refine fin (.inr ?_);unfold Tk at ht;simp only[cM,beq_eq_false_iff_ne] at ht;exact ⟨ht.2.2.1,ht.2.2.2⟩
theorem Ei {a0:List zg} {log:List qa} (h:At a0 log=true):(es:List qa)->(k i:Nat)->es.length<k->log.drop i=es ->
  (lp x9 k (a0,log,((log.length:Nat):Int),(i:Int))=some (.inl ())∧∀ m,i<=m->m<log.length->Dh a0 log m) ∨
  ∃ m:Nat,i<=m∧m<log.length∧¬ Dh a0 log m∧lp x9 k (a0,log,((log.length:Nat):Int),(i:Int))=some (.inr ((m:Int),0))
 | _,0,_,h,_=>by omega
 | [],k+1,i,_,hd=>by
  refine .inl ⟨?_,fun m h1 h2 => ?_⟩
  ·rw[zu];generalize lp x9 k=rec;unfold x9;simp only[tq (vk hd),cond_false]
  ·have:=vk hd; omega
 | x::es,k+1,i,hk,hd=>by
  have hx:=zw hd;have hi:=qj hd;have hl:log.length<=maxLen:=aH (sD h).2.1 (by decide)
  obtain⟨q,g1,g2⟩:=zbC h hx;have e1:kB a0 log (i:Int)=some q:=by rw[zcj,yH,hx]; exact g1
  have ih:=Ei h es k (i+1) (by rw[ak] at hk; omega) (zj hd)
  rw[zu];generalize lp x9 k=rec at ih ⊢;unfold x9;simp only[sZ hi,cond_true,e1,aa,yH,hx,t8 hi hl];cases hq:q.2.2.1 with
  | false =>
   refine .inr ⟨i,aF _,hi,?_,rfl⟩;rintro⟨y,h1,h2⟩;rw[hx] at h1;cases h1
   rw[g1] at h2;rw[eD h2] at hq;cases hq
  | true =>
   rw[Gd (g2 hq),aa];simp only[ay,cond_false];by_cases he:(q.1,q.2.1,q.2.2.2)=(x.2.2.2.2.2.2.2.1,x.2.2.2.2.2.2.2.2.1,x.2.2.2.2.2.2.2.2.2)
   ·rw[decide_eq_true he];simp only[ay,cond_false];refine ih.imp (fun h=>⟨h.1,fun m h1 h2 => ?_⟩) (fun ⟨m,h1,h2⟩=>⟨m,by omega,h2⟩)
    by_cases hm:m=i
    ·subst hm;refine ⟨x,hx,?_⟩;rw[g1];obtain⟨q1,q2,q3,q4⟩:=q;simp only[aL] at he hq;rw[he.1,he.2.1,he.2.2,hq]
    ·exact h.2 m (by omega) h2
   ·rw[decide_eq_false he];refine .inr ⟨i,aF _,hi,?_,rfl⟩;rintro⟨y,h1,h2⟩;rw[hx] at h1;cases h1
    rw[g1] at h2;apply he;rw[eD h2]
theorem GK {a0:List zg} {log:List qa} (h:At a0 log=true):(wj a0 log=some (-1,0)∧∀ m,m<log.length->Dh a0 log m)∨∃ m:Nat,m<log.length∧¬ Dh a0 log m∧wj a0 log=some ((m:Int),0):=by
 unfold wj;rw[DE,h,aa];simp only[ay,cond_false];rcases Ei h log ze 0 (cn (sD h).2.1 (by decide)) rfl with ⟨g1,g2⟩ | ⟨m,g1,g2,g3,g4⟩
 ·refine .inl ⟨?_,fun m hm=>g2 m (bI _) hm⟩;rw[show (0:Int)=((0:Nat):Int) from rfl,g1]
  rfl
 ·refine .inr ⟨m,g2,g3,?_⟩;rw[show (0:Int)=((0:Nat):Int) from rfl,g4]
  rfl
theorem Mu {a0:List zg} {log:List qa} (h:At a0 log=false):wj a0 log=some (0,1800):=by
 unfold wj;rw[DE,h];rfl
theorem Gk:XB=some true:=by kernel_rfl
theorem zaU {a0:List zg} {x:qa} {k:Int} {g:Int->Option qa} {q:CP} (hx:ZP a0 x=true) (h:X4 a0 x k g=some q) (hq:q.2.2.1=true):(x.2.1 = -1∨(0<=x.2.1∧x.2.1<k))∧(x.2.2.2.2.1 = -1∨(0<=x.2.2.2.2.1∧x.2.2.2.2.1<k)):=by
 have bad:some Ds=some q->False:=fun h=>by rw[← eD h] at hq; cases hq
 unfold ZP I0 wiB at hx;simp only[ax,decide_eq_true_eq] at hx;unfold X4 at h;cases hn:Xr x with
 | false=>rw[hn] at h; exact (bad h).elim
 | true =>
  rw[hn] at h;unfold Xr Jx at hn;cases h0:x.1==0 with
  | true =>
   rw[if_pos (by simpa using h0),decide_eq_true_eq] at hn
   exact ⟨.inl hn.1,.inl hn.2.2.2.1⟩
  | false =>
   rw[h0] at h;simp only[ay,cond_false] at h;by_cases ha:x.2.1<0
   ·rw[decide_eq_true ha] at h; exact (bad h).elim
   rw[decide_eq_false ha,cond_false] at h;by_cases hak:x.2.1≥k
   ·rw[decide_eq_true hak] at h; exact (bad h).elim
   rw[decide_eq_false hak,cond_false] at h;refine ⟨.inr ⟨by omega,by omega⟩,?_⟩
   cases ht:Tk x.1 with
   | true =>
    rw[ht,cond_true] at h;by_cases hb:x.2.2.2.2.1<0
    ·rw[decide_eq_true hb] at h; exact (bad h).elim
    rw[decide_eq_false hb,cond_false] at h;by_cases hbk:x.2.2.2.2.1≥k
    ·rw[decide_eq_true hbk] at h; exact (bad h).elim
    exact .inr ⟨by omega,by omega⟩
   | false =>
    left;unfold Tk at ht;simp only[cM,beq_eq_false_iff_ne] at ht h0;rw[if_neg h0,if_neg ht.1,if_neg ht.2.1,if_neg ht.2.2.1,if_neg ht.2.2.2] at hn;by_cases h2:x.1=2
    ·rw[if_pos h2,decide_eq_true_eq] at hn; exact hn.2.1
    by_cases h4:x.1=4
    ·rw[if_neg h2,if_pos h4,decide_eq_true_eq] at hn; exact hn.2.1
    by_cases h7:x.1=7
    ·rw[if_neg h2,if_neg h4,if_pos h7,decide_eq_true_eq] at hn; exact hn.2.1
    rw[if_neg h2,if_neg h4,if_neg h7,decide_eq_true_eq] at hn;exact hn.2.2.1
def Par (x:qa) (p:Nat):Prop:=(p:Int)=x.2.1∨(p:Int)=x.2.2.2.2.1
section
variable {a0:List zg} {log:List qa} (h:At a0 log=true) (hr:∀ m,m<log.length->Dh a0 log m)
include h hr
theorem ze5 {m:Nat} {x:qa} (hx:log[m]? = some x):(x.2.1 = -1∨(0<=x.2.1∧x.2.1<(m:Int)))∧(x.2.2.2.2.1 = -1∨(0<=x.2.2.2.2.1∧x.2.2.2.2.1<(m:Int))):=by
 obtain⟨hm,-⟩:=au.1 hx;obtain⟨y,h1,h2⟩:=hr m hm;rw[hx] at h1;cases h1
 exact zaU ((sD h).2.2 x (aI hx)) h2 rfl
end
def Ex (x:qa) (a b:Int):qa:=(x.1,a,x.2.2.1,x.2.2.2.1,b,x.2.2.2.2.2.1,x.2.2.2.2.2.2.1,x.2.2.2.2.2.2.2.1,x.2.2.2.2.2.2.2.2.1,x.2.2.2.2.2.2.2.2.2)
theorem AI (x:qa) (a b:Int) (ha:x.2.1 = -1↔a = -1) (hb:x.2.2.2.2.1 = -1↔b = -1):Xr (Ex x a b)=Xr x:=by
 unfold Xr Ex Jx;simp only[ha,hb]
theorem NV {a0:List zg} (x:qa) {a b k k':Int} {g g':Int->Option qa}
  (ha:(x.2.1 = -1∧a = -1)∨(0<=x.2.1∧x.2.1<k∧0<=a∧a<k'∧∃ y y',g x.2.1=some y∧g' a=some y'∧QU y'=QU y))
  (hb:(x.2.2.2.2.1 = -1∧b = -1)∨(0<=x.2.2.2.2.1∧x.2.2.2.2.1<k∧0<=b∧b<k'∧∃ y y',g x.2.2.2.2.1=some y∧g' b=some y'∧QU y'=QU y)) :
  X4 a0 (Ex x a b) k' g'=X4 a0 x k g:=by
 unfold X4;rw[AI x a b (by rcases ha with h | h<;>omega) (by rcases hb with h | h<;>omega)]
 unfold Ex;simp only;rcases ha with ⟨ha,ha'⟩ | ⟨a1,a2,a3,a4,y,y',a5,a6,a7⟩
 ·rw[ha,ha'];rfl
 ·rw[decide_eq_false (show ¬ x.2.1<0 by omega),decide_eq_false (show ¬ a<0 by omega),decide_eq_false (show ¬ x.2.1≥k by omega),decide_eq_false (show ¬ a≥k' by omega),a5,a6]
  rcases hb with ⟨hb,hb'⟩ | ⟨b1,b2,b3,b4,z,z',b5,b6,b7⟩
  ·rw[hb,hb'];simp only[aa,a7];rfl
  ·rw[decide_eq_false (show ¬ x.2.2.2.2.1<0 by omega),decide_eq_false (show ¬ b<0 by omega),decide_eq_false (show ¬ x.2.2.2.2.1≥k by omega),decide_eq_false (show ¬ b≥k' by omega),b5,b6]
   simp only[aa,a7,b7]
section
variable {a0:List zg} {log:List qa} (h:At a0 log=true) (hr:∀ m,m<log.length->Dh a0 log m)
 {ns:List Nat} (hp:ns.Pairwise (fun a b=>a<b)) (hlt:∀ u∈ns,u<log.length) (hclo:∀ u∈ns,∀ x,log[u]? = some x->∀ p,Par x p->p∈ns)
include h hr hp hlt hclo
end
def GR (a0:List zg) (a b:Int) (c d:UL) (s:qa):Prop:=∃(i j:Int) (r:Vf),(0<=i∧i<=4)∧(0<=j∧j<=4)∧sP a0 c.1 c.2.1 c.2.2 i d.1 d.2.1 d.2.2 j=some r∧r.2.2.1=true∧r.2.2.2.1=0∧xD a0 r.1 r.2.1 r.2.2.2.2=true∧s=(1,a,i,0,b,j,0,r.1,r.2.1,r.2.2.2.2)
def GF (a0:List zg) (a:Int) (c:UL) (s:qa):Prop:=∃(i j:Int) (r:Vf),(0<=i∧i<=4)∧(0<=j∧j<=4)∧wd a0 c.1 c.2.1 c.2.2 i j=some r∧r.2.2.1=true∧r.2.2.2.1=0∧xD a0 r.1 r.2.1 r.2.2.2.2=true∧s=(2,a,i,0,-1,j,0,r.1,r.2.1,r.2.2.2.2)
theorem Gw {a0:List zg} {L:List zc} {i:Int} (h:i∈yI a0 L L 0):0<=i∧i<L.length:=by
 obtain⟨j,l,h1,h2,-⟩:=(jH L 0 i).1 h;obtain⟨h3,-⟩:=au.1 h1;omega
section
variable {a0:List zg} {c d:UL} (hc:xD a0 c.1 c.2.1 c.2.2=true) (hd:xD a0 d.1 d.2.1 d.2.2=true) (a b:Int)
include hc hd
theorem Tu {i:Int} (hi:0<=i∧i<c.1.length):(es:List Int)->(n:Nat)->(∀ j∈es,0<=j∧j<d.1.length)->n+es.length<=100000->(k:Int)->(st:List qa)->Inv (GR a0 a b c d) n (k,st) ->
  ∃ q,xc a0 a b i c.1 c.2.1 c.2.2 d.1 d.2.1 d.2.2 es a0 k st=some (a0,q.1,q.2)∧Inv (GR a0 a b c d) (n+es.length) q
 | [],n,_,_,k,st,hI=>⟨(k,st),rfl,hI⟩
 | j::es,n,hj,hn,k,st,hI=>by
  have hj0:=hj j (aj ..);have lc:=(zn hc).2.1;have ld:=(zn hd).2.1;rw[ak] at hn;have pl:∀{L:List zc} {i:Int},0<=i∧i<L.length->z5 L i=true:=fun h=>by unfold z5; simp; omega
  obtain⟨r,h1,-,h3⟩:=KY a0 c.1 c.2.1 c.2.2 i d.1 d.2.1 d.2.2 j;have h1':xI a0 c.1 c.2.1 c.2.2 i d.1 d.2.1 d.2.2 j=some r:=by
   rw[Xs,hc,hd,pl hi,pl hj0] at h1;exact h1
  obtain⟨q,g1,g2⟩:=EN (sig:=a0) (c:=k) (r:=1) (a:=a) (i:=i) (s:=0) (b:=b) (j:=j) (t:=0) (st:=st) h3 (P:=GR a0 a b c d) (fun e1 e2=>⟨i,j,r,⟨hi.1,by omega⟩,⟨hj0.1,by omega⟩,h1,e1,e2,h3 e1 e2,rfl⟩) hI (by omega)
  obtain⟨p,g3,g4⟩:=Tu hi es (n+1) (fun x hx=>hj x (ai _ hx)) (by omega) q.1 q.2 g2
  refine ⟨p,?_,by rw[ak,show n+(es.length+1)=n+1+es.length by omega]; exact g4⟩
  unfold xc;rw[h1',aa,CT _ _ _ _ _ _ _ _ _ _ _ _ _ _ _ _ _ _ h3,g1];exact g3
theorem UA {js:List Int} (hjs:∀ j∈js,0<=j∧j<d.1.length) (hjl:js.length<=5) (s4:List Int):(es:List Int)->(m n:Nat)->(∀ i∈es,0<=i∧i<c.1.length)->n+5*es.length<=100000->(k:Int)->(st:List qa)->Inv (GR a0 a b c d) n (k,st) ->
  ∃ q,qY a0 a b js s4 c.1 c.2.1 c.2.2 d.1 d.2.1 d.2.2 es m a0 k st=some (a0,q.1,q.2)∧Inv (GR a0 a b c d) (n+5*es.length) q
 | [],_,n,_,_,k,st,hI=>⟨(k,st),rfl,hI⟩
 | i::es,m,n,hi,hn,k,st,hI=>by
  rw[ak] at hn;obtain⟨q,g1,g2⟩:=Tu hc hd a b (hi i (aj ..)) js n hjs (by omega) k st hI
  obtain⟨p,g3,g4⟩:=UA hjs hjl s4 es (m+1) (n+5) (fun x hx=>hi x (ai _ hx)) (by omega) q.1 q.2 (g2.more (by omega))
  refine ⟨p,?_,by rw[ak,show n+5*(es.length+1)=n+5+5*es.length by omega]; exact g4⟩
  unfold qY;rw[Qu _ _ _ _ _ _ _ _ _ _ _ _ _ _ _ _ _ _ (aH hjl (by decide)),g1,aa]
  exact g3
theorem NR:∃ q:Int×List qa,Yp a0 c.1 c.2.1 c.2.2 a d.1 d.2.1 d.2.2 b=some (q.1,0,q.2)∧Inv (GR a0 a b c d) 25 q:=by
 obtain⟨hs,lc,-,-,ac,-⟩:=zn hc;obtain⟨-,ld,-,-,ad,-⟩:=zn hd;unfold Yp;rw[zD,hc,aa,zD,hd];simp only[ay,cond_false,aa];rw[B8 hs (fun l hl=>aC.1 ac l hl) (by omega),aa,B8 hs (fun l hl=>aC.1 ad l hl) (by omega),aa]
 have t1:=jZ (a0:=a0) (L:=c.1) c.1 0;have t2:=jZ (a0:=a0) (L:=d.1) d.1 0;obtain⟨q,g1,g2⟩:=UA hc hd a b (js:=yI a0 d.1 d.1 0) (fun j hj=>Gw hj) (by omega) (yI a0 c.1 c.1 0) (yI a0 c.1 c.1 0) 0 0 (fun j hj=>Gw hj) (by omega) 0 [] ⟨ef _,by simp,by simp,fun s hs=>nomatch hs⟩
 rw[Qs _ _ _ _ _ _ _ _ _ _ _ _ _ _ (aH (show (yI a0 c.1 c.1 0).length<=5 by omega) (by decide)),g1,aa]
 exact ⟨q,rfl,g2.more (by omega)⟩
end
section
variable {a0:List zg} {L:List zc} {T:List jI} {C:List zc} (hmay:xD a0 L T C=true)
include hmay
theorem Dr (k:Int) {i:Nat} (hi:i<L.length):(f:Nat)->(j n:Nat)->L.length - j<f->i<j->(c:Int)->(st:List qa)->Inv (GF a0 k (L,T,C)) n (c,st)->n+(L.length - j)<=100000 ->
  ∃ q,lp qP f (a0,k,c,(i:Int),(j:Int),L,T,C,st)=some q∧Inv (GF a0 k (L,T,C)) (n+(L.length - j)) q
 | 0,_,_,h,_,_,_,_,_=>by omega
 | f+1,j,n,hf,hij,c,st,hg,hl=>by
  have ih:=Dr k hi f (j+1);rw[zu];generalize lp qP f=r2 at ih ⊢;obtain⟨-,l1,-⟩:=zn hmay;unfold qP;simp only;by_cases hj:j<L.length
  ·obtain⟨t1,t2⟩:=Kk hmay hi;obtain⟨t3,t4⟩:=Kk hmay hj;obtain⟨o1,o2⟩:=En hmay hi hj (by omega)
   have key:∃ q,((uS a0 L T C (i:Int) (j:Int)).bind fun r12=>(x5 a0 c 2 k (i:Int) 0 (-1) (j:Int) 0 r12.1 r12.2.1 r12.2.2.2.2 r12.2.2.1 r12.2.2.2.1 st).bind fun r13=>r2 (a0,k,r13.1,(i:Int),((j+1:Nat):Int),L,T,C,r13.2))=some q∧Inv (GF a0 k (L,T,C)) (n+(L.length - j)) q:=by
    obtain⟨r,h1,h2,h3⟩:=Av (a0:=a0) (L:=L) (T:=T) (C:=C) (i:Int) (j:Int);rw[o2,h1,aa];obtain⟨q,h4,h5⟩:=EN (sig:=a0) (c:=c) (r:=2) (a:=k) (i:=(i:Int)) (s:=0) (b := -1) (j:=(j:Int)) (t:=0) (st:=st) h3 (P:=GF a0 k (L,T,C)) (fun e1 e2=>⟨i,j,r,⟨by omega,by omega⟩,⟨by omega,by omega⟩,h1,e1,e2,h3 e1 e2,rfl⟩) hg (by omega)
    rw[h4,aa];obtain⟨p,h7,h8⟩:=ih (n+1) (by omega) (by omega) q.1 q.2 h5 (by omega)
    exact ⟨p,h7,h8.more (by omega)⟩
   rw[sZ hj,cond_true,t2,aa,t8 hj (by unfold maxLen; omega)]
   cases decide ((i:Int)∈yI a0 L L 0) with
   | true=>exact key
   | false =>
    rw[cond_false,t4,aa];cases decide ((j:Int)∈yI a0 L L 0) with
    | true=>exact key
    | false =>
     obtain⟨p,h7,h8⟩:=ih n (by omega) (by omega) c st hg (by omega)
     exact ⟨p,h7,h8.more (by omega)⟩
  ·rw[tq (by omega),cond_false]
   exact ⟨_,rfl,hg.more (by omega)⟩
theorem BQ (k:Int):(f:Nat)->(i n:Nat)->L.length - i<f->(c:Int)->(st:List qa)->Inv (GF a0 k (L,T,C)) n (c,st)->n+(L.length - i)*5<=1000 ->
  ∃ q,lp qS f (a0,k,c,(i:Int),L,T,C,st)=some q∧Inv (GF a0 k (L,T,C)) (n+(L.length - i)*5) q
 | 0,_,_,h,_,_,_,_=>by omega
 | f+1,i,n,hf,c,st,hg,hl=>by
  have ih:=BQ k f (i+1);rw[zu];generalize lp qS f=r2 at ih ⊢;obtain⟨-,l1,-⟩:=zn hmay;unfold qS;simp only;by_cases hi:i<L.length
  ·have hfu:L.length - (i+1)<ze:=cn (show L.length - (i+1)<=5 by omega) (by decide)
   obtain⟨q,h1,h2⟩:=Dr hmay k hi ze (i+1) n hfu (by omega) c st hg (by omega)
   rw[sZ hi,cond_true,t8 hi (by unfold maxLen; omega),h1,aa]
   obtain⟨p,h4,h5⟩:=ih (n+5) (by omega) q.1 q.2 (h2.more (by omega)) (by omega)
   exact ⟨p,h4,h5.more (by omega)⟩
  ·rw[tq (by omega),cond_false]
   exact ⟨_,rfl,hg.more (by omega)⟩
theorem Oe (k:Int):∃ q:Int×List qa,ZI a0 L T C k=some (q.1,0,q.2)∧Inv (GF a0 k (L,T,C)) 25 q:=by
 rw[De];unfold Z8;rw[zL,aa,hmay,ay,cond_false];obtain⟨-,l1,-⟩:=zn hmay;obtain⟨q,h1,h2⟩:=BQ hmay k ze 0 0 (cn (show L.length - 0<=5 by omega) (by decide)) 0 [] ⟨ef _,by simp,by simp,fun s hs=>nomatch hs⟩ (by omega)
 rw[show ((0:Nat):Int)=0 from rfl] at h1
 rw[h1,aa];exact ⟨q,rfl,h2.more (by omega)⟩
end
theorem VE {a0:List zg}:(es acc:List qa)->(∀ s∈es,ZP a0 s=true)->acc.length+es.length<=1000->yO es acc=some (acc++es)
 | [],acc,_,_=>by rw[bG]; rfl
 | e::es,acc,h,hl=>by
  rw[ak] at hl;have hm:=ZG (h e (aj ..));unfold yO;rw[Rw hm,aa,zk (by rw[aV]; omega),cond_true,VE es _ (fun s hs=>h s (ai _ hs)) (by rw[am,aV]; omega),aU]
  rfl
theorem BD {a0:List zg} {log:List qa} (h:At a0 log=true):ri log=some log:=by
 obtain⟨-,h1,h2⟩:=sD h;unfold ri;rw[ZH log [] (aH h1 (by decide)),VE log [] h2 (by simp; omega)]
 rfl
def zgv (x:qa):CP:=(x.2.2.2.2.2.2.2.1,x.2.2.2.2.2.2.2.2.1,true,x.2.2.2.2.2.2.2.2.2)
theorem F4 {a0:List zg} {log:List qa} (h:At a0 log=true) (hr:∀ m,m<log.length->Dh a0 log m) {es:List qa} (hl:log.length+es.length<=200)
  (hes:∀ s∈es,ZP a0 s=true∧∀ k:Int,((log.length:Nat):Int)<=k->X4 a0 s k (gx (log++es))=some (zgv s)) :
  At a0 (log++es)=true∧∀ m,m<(log++es).length->Dh a0 (log++es) m:=by
 obtain⟨h1,h2,h3⟩:=sD h;refine ⟨?_,fun m hm => ?_⟩
 ·unfold At;rw[h1,decide_eq_true (show (log++es).length<=200 by rw[am]; exact hl),aN,aN,aC]
  intro s hs;rcases aJ.1 hs with hs | hs
  ·exact h3 s hs
  ·exact (hes s hs).1
 ·by_cases hml:m<log.length
  ·obtain⟨x,e1,e2⟩:=hr m hml;refine ⟨x,by rw[bw hml]; exact e1,?_⟩
   have hpl:=ze5 h hr e1;have one:∀{p:Int},(p = -1∨(0<=p∧p<(m:Int)))->(p = -1∧p = -1)∨(0<=p∧p<(m:Int)∧0<=p∧p<(m:Int)∧∃ y y',gx log p=some y∧gx (log++es) p=some y'∧QU y'=QU y):=by
    rintro p (rfl | ⟨p0,p1⟩)
    ·exact .inl ⟨rfl,rfl⟩
    ·obtain⟨q,rfl⟩:=dy p0;obtain⟨y,hy⟩:∃ y,log[q]? = some y:=⟨_,al (by omega)⟩
     exact .inr ⟨p0,p1,p0,p1,y,y,by rw[yH]; exact hy,by rw[yH,bw (by omega)]; exact hy,rfl⟩
   have:=NV (a0:=a0) x (one hpl.1) (one hpl.2);rw[e2] at this;exact this
  ·rw[am] at hm;obtain⟨s,hs⟩:∃ s,es[m - log.length]? = some s:=⟨_,al (by omega)⟩
   refine ⟨s,by rw[List.getElem?_append_right (by omega)]; exact hs,?_⟩
   exact (hes s (aI hs)).2 m (by omega)
theorem zdg {a0:List zg} {a b:Int} {sa sb:qa} {s:qa} {g:Int->Option qa} (h:GR a0 a b (QU sa) (QU sb) s) (ha:0<=a∧a<=199) (hb:0<=b∧b<=199) (ga:g a=some sa) (gb:g b=some sb):ZP a0 s=true∧∀ k:Int,a<k->b<k->X4 a0 s k g=some (zgv s):=by
 obtain⟨i,j,r,hi,hj,h1,h2,h3,h4,rfl⟩:=h;refine ⟨?_,fun k hak hbk => ?_⟩
 ·unfold ZP I0 wiB;simp only[h4,ax,decide_eq_true_eq,and_true];omega
 ·unfold X4;have hn:Xr (1,a,i,0,b,j,0,r.1,r.2.1,r.2.2.2.2)=true:=rfl;rw[hn];simp only[ay,cond_false,show ((1:Int)==0)=false from rfl,show Tk 1=true from rfl,cond_true,decide_eq_false (show ¬ a<0 by omega),decide_eq_false (show ¬ b<0 by omega),decide_eq_false (show ¬ a≥k by omega),decide_eq_false (show ¬ b≥k by omega),ga,gb,aa]
  unfold Fh Ci wh;simp only[show ((1:Int)==1)=true from rfl,cond_true,h1,aa,h2,h3]
  rfl
theorem zcG {a0:List zg} {a:Int} {sa:qa} {s:qa} {g:Int->Option qa} (h:GF a0 a (QU sa) s) (ha:0<=a∧a<=199) (ga:g a=some sa):ZP a0 s=true∧∀ k:Int,a<k->X4 a0 s k g=some (zgv s):=by
 obtain⟨i,j,r,hi,hj,h1,h2,h3,h4,rfl⟩:=h;refine ⟨?_,fun k hak => ?_⟩
 ·unfold ZP I0 wiB;simp only[h4,ax,decide_eq_true_eq,and_true];omega
 ·unfold X4;have hn:Xr (2,a,i,0,-1,j,0,r.1,r.2.1,r.2.2.2.2)=true:=rfl;rw[hn];simp only[ay,cond_false,show ((2:Int)==0)=false from rfl,show Tk 2=false from rfl,decide_eq_false (show ¬ a<0 by omega),decide_eq_false (show ¬ a≥k by omega),ga,aa]
  unfold Fh Ci wh;simp only[show ((2:Int)==1)=false from rfl,show ((2:Int)==2)=true from rfl,cond_true,cond_false,h1,aa,h2,h3]
  rfl
theorem QD (a0:List zg) (log:List qa) (a b:Int):xJ a0 log a b=some true:=by
 unfold xJ;rw[Gk,aa];simp only[ay,cond_false];cases h:At a0 log with
 | false=>rw[Mu h]; rfl
 | true =>
  rcases GK h with ⟨g1,g2⟩ | ⟨m,-,-,g1⟩
  ·rw[g1,aa];simp only[show tp 0=some 0 from rfl,aa,show ((0:Int) != 0)=false from rfl,show ((-1:Int) != -1)=false from rfl,cond_false]
   have h200:=(sD h).2.1;by_cases h0:log.length=0
   ·rw[show (((af log:Nat):Int)==0)=true from by rw[h0]; rfl]; rfl
   by_cases h20:((log.length:Nat):Int)>20
   ·rw[show (((af log:Nat):Int)==0)=false from by rw[beq_eq_false_iff_ne]; omega,cond_false,decide_eq_true h20]; rfl
   have hpos:(0:Int)<((log.length:Nat):Int):=by omega
   rw[show (((af log:Nat):Int)==0)=false from by rw[beq_eq_false_iff_ne]; omega,cond_false,decide_eq_false h20,cond_false,LF (by omega) (by omega),decide_eq_false (show ¬((log.length:Nat):Int)=0 by omega),cond_false,cond_false]
   have md:∀ k:Int,∃ K:Nat,dx (ag .u64 k) ((log.length:Nat):Int)=(K:Int)∧K<log.length:=fun k=>by
    have hk0:(0:Int)<=ag .u64 k:=(Gc k).1;have hr1:0<=dx (ag .u64 k) ((log.length:Nat):Int):=Int.tmod_nonneg _ hk0;have hr2:dx (ag .u64 k) ((log.length:Nat):Int)<((log.length:Nat):Int):=Int.tmod_lt_of_pos _ hpos;obtain⟨K,hK⟩:=dy hr1;exact ⟨K,hK,by omega⟩
   obtain⟨A,hA,hAl⟩:=md a;obtain⟨B,hB,hBl⟩:=md b;rw[hA,hB,zp (n:=(A:Int)) (by omega) (by omega),zp (n:=(B:Int)) (by omega) (by omega)]
   obtain⟨sa,ga⟩:∃ sa,log[A]? = some sa:=⟨_,al hAl⟩;obtain⟨sb,gb⟩:∃ sb,log[B]? = some sb:=⟨_,al hBl⟩;have ma:=ZG ((sD h).2.2 sa (aI ga));have mb:=ZG ((sD h).2.2 sb (aI gb));obtain⟨p,p1,p2⟩:=NR (c:=QU sa) (d:=QU sb) ma mb (A:Int) (B:Int);obtain⟨q,q1,q2⟩:=Oe ma (A:Int);unfold QU at p1;simp only[yH,ga,gb,aa,p1,q1,BD h];have lp:=p2.len;have lq:=q2.len;rw[zk (by omega),cond_true,zk (by rw[am]; omega),cond_true]
   have hg:∀{n:Nat} {s:qa},log[n]? = some s->gx (log++(p.2++q.2)) (n:Int)=some s:=fun {n s} hs=>by
    rw[yH,bw (au.1 hs).1]; exact hs
   obtain⟨z1,z2⟩:=F4 h g2 (es:=p.2++q.2) (by rw[am]; omega) (fun s hs=>by
    rcases aJ.1 hs with hs | hs
    ·obtain⟨e1,e2⟩:=zdg (g:=gx (log++(p.2++q.2))) (p2.all s hs) ⟨by omega,by omega⟩ ⟨by omega,by omega⟩ (hg ga) (hg gb)
     exact ⟨e1,fun k hk=>e2 k (by omega) (by omega)⟩
    ·obtain⟨e1,e2⟩:=zcG (g:=gx (log++(p.2++q.2))) (sa:=sa) (q2.all s hs) ⟨by omega,by omega⟩ (hg ga)
     exact ⟨e1,fun k hk=>e2 k (by omega)⟩)
   have fin:wj a0 ((log++p.2)++q.2)=some (-1,0):=by
    rw[aU];rcases GK z1 with ⟨z,-⟩ | ⟨m,y1,y2,-⟩
    ·exact z
    ·exact (y2 (z2 m y1)).elim
   rw[fin];rfl
  ·rw[g1,aa];simp only[show tp 0=some 0 from rfl,aa,show ((0:Int) != 0)=false from rfl,cond_false]
   rw[show ((m:Int) != -1)=true from by rw[bne_iff_ne]; omega]
   rfl
end Go.Abs.Q
