import Derived.Shelf.Spec.SlicesInsert
import Derived.Shelf.Spec.SlicesInsertGrow
import Derived.Test.YtgjajclncfhidaaGreatDoorQd
/-
  What a function of the library does to a list of the caller's own.
-/
open Array renaming getElem?_append_left -> cR, getElem?_eq_getElem -> bi, getElem?_eq_some_iff -> bJ, getElem?_toList -> aV, length_toList -> aO, size_append -> dQ
open Go.Builtin renaming zeroCells -> br
open Go.Value renaming int -> dl
open Go.World renaming frozen? -> d8, setRow -> fw, shape? -> ib
open List renaming getElem?_drop -> bu, getElem?_eq_some_iff -> aw, getElem?_map -> bh, getElem?_toArray -> bR, length -> af, length_map -> aF, mem_of_mem_drop -> eK, size_toArray -> bn
open Nat renaming add_zero -> dk, le_refl -> aC, mul_one -> fc, zero_add -> aP
open Option renaming isSome_iff_exists -> cK
namespace Go.Abs
open Go Go.Proofs Go.Shelf Go.RowKit Go.Lib
theorem Ki (w:World) (b o:Nat):w.cell? ⟨b,o,none⟩=mem w b o:=rfl
theorem rG (P:Program) {w:World} {r o:Nat} {cur:Array Value} {e:TypeId} {vs:List Value} (hw:w.heap[r]? = some (.cells cur e (0,0))) (hle:o+vs.length<=cur.size) (h1:∀ v∈vs,v.oneCell'=true) :
  w.setCells r o vs=w.setRow r (zS cur.toList o vs).toArray:=by
 have hall:vs.all (·.oneCell')=true:=List.all_eq_true.2 h1;have a:=run_storeCells_at P r o e vs 0 cur w hw (by rw[dk]; exact hle) (by simpa using hall)
 have b:=run_storeCells_cells (P:=P) r o vs 0 w (fun j hj=>by
  show (mem w r (o+0+j)).isSome=true;rw[zB hw,bi (by omega)]
  rfl) (fun j hj=>by simp [d8,hw]) h1
 rw[a] at b;injection b with _ b;rw[dk] at b;rw[← b];simp [zS]
def iv (n:Int):Value:=.int .i64 n
structure InsDone (w:World) (r0:Option Nat) (zs:List Int) (v:Value) (w':World):Prop where
 os:w'.os=w.os
 tape:w'.tape=w.tape
 output:w'.output=w.output
 size:w.heap.size<=w'.heap.size
 rows:∀ j,j<w.heap.size->r0≠some j->w'.heap[j]? = w.heap[j]?
 same:∀ r,r0=some r->∀ o,(mem w r o).isSome->(mem w' r o).isSome
 res:∃ l cap cc e,v = .slice (some ⟨l,0,none⟩) zs.length cap∧zs.length<=cap∧cap<=9223372036854775807∧(l=w.heap.size∨r0=some l)∧w'.heap[l]? = some (.cells cc e (0,0))∧cap<=cc.size ∧
  ∀(j:Nat) z,zs[j]? = some z->cc[j]? = some (iv z)
theorem t5 {xs:List Int}:∀ v∈xs.map iv,v.oneCell'=true:=by
 intro v hv;obtain⟨x,-,rfl⟩:=List.mem_map.1 hv;rfl
theorem CM {w w':World} {r:Nat} {cur cc:Array Value} {e:TypeId} {zs:List Int} {cap:Nat} (hw:w.heap[r]? = some (.cells cur e (0,0))) (hw':w'.heap[r]? = some (.cells cc e (0,0))) (hsz:cc.size=cur.size)
  (ho:w'.os=w.os) (ht:w'.tape=w.tape) (hp:w'.output=w.output) (hs:w'.heap.size=w.heap.size) (hrow:∀ j,j≠r->w'.heap[j]? = w.heap[j]?) (hl:zs.length<=cap) (hc:cap<=9223372036854775807) (hcs:cap<=cur.size)
  (hz:∀(j:Nat) z,zs[j]? = some z->cc[j]? = some (iv z)):InsDone w (some r) zs (.slice (some ⟨r,0,none⟩) zs.length cap) w' where
 os:=ho
 tape:=ht
 output:=hp
 size:=by omega
 rows:=fun j _ hj=>hrow j fun he=>hj (by rw[he])
 same:=fun r' hr o h=>by
  injection hr with hr;subst hr;rw[zB hw] at h;rw[zB hw'];have:=(bJ.1 (cK.1 h).choose_spec).1;rw[bi (by omega)]
  rfl
 res:=⟨r,cap,cc,e,rfl,hl,hc,.inr rfl,hw',by omega,hz⟩
theorem MH {w w':World} {r0:Option Nat} {cc:Array Value} {e:TypeId} {zs:List Int} {cap:Nat} (hw':w'.heap[w.heap.size]? = some (.cells cc e (0,0)))
  (ho:w'.os=w.os) (ht:w'.tape=w.tape) (hp:w'.output=w.output) (hrow:∀ j,j<w.heap.size->w'.heap[j]? = w.heap[j]?) (hl:zs.length<=cap) (hc:cap<=9223372036854775807) (hcs:cap<=cc.size)
  (hz:∀(j:Nat) z,zs[j]? = some z->cc[j]? = some (iv z)):InsDone w r0 zs (.slice (some ⟨w.heap.size,0,none⟩) zs.length cap) w' where
 os:=ho
 tape:=ht
 output:=hp
 size:=by have:=(bJ.1 hw').1; omega
 rows:=fun j h _=>hrow j h
 same:=fun r _ o h=>by rw[zE (hrow r (mem_lt h))]; exact h
 res:=⟨_,cap,cc,e,rfl,hl,hc,.inl rfl,hw',hcs,hz⟩
theorem Zp {xs:List Int} {j:Nat} {v:Value} (h:(xs.map iv)[j]? = some v):∃ x,xs[j]? = some x∧v=iv x:=by
 rw[bh] at h;obtain⟨x,h1,h2⟩:=Option.map_eq_some_iff.1 h;exact ⟨x,h1,h2.symm⟩
theorem W0 (k:Nat):(br (dl .i64 0).cells k).size=k:=by
 simp [br,Value.cells]
variable {P:Program} {ρ:Ren}
theorem RG (L:Lays2.n21 P ρ) {w:World} {r0:Option Nat} {xs ys:List Int} {i cap vb vc:Nat} {ad:Option Addr} {cv:Array Value} {ev:TypeId}
  (hcap:xs.length<=cap∧cap<=9223372036854775807) (hc:cap=0∨∃ r,r0=some r∧ad=some ⟨r,0,none⟩∧∀ j,j<cap->(mem w r j).isSome)
  (hrow:(r0=none∧xs=[])∨∃ r c e,r0=some r∧w.heap[r]? = some (.cells c e (0,0))∧∀(j:Nat) x,xs[j]? = some x->c[j]? = some (iv x))
  (hvw:w.heap[vb]? = some (.cells cv ev (0,0))) (hvs:∀(j:Nat) y,ys[j]? = some y->cv[j]? = some (iv y)) (hy:0<ys.length) (hne:r0≠some vb) (hi:i<=xs.length) (hroom:(xs.length+ys.length)*8<=140737488351232) :
  Calls P (ρ.f 21) #[.slice ad xs.length cap,.int .i64 i,.slice (some ⟨vb,0,none⟩) ys.length vc] w fun e w'=>∃ v,e = .returned v∧InsDone w r0 (QC xs i ys) v w':=by
 have hvcell:∀(j:Nat) (v:Value),(ys.map iv)[j]? = some v->w.cell? ⟨vb,0+j,none⟩=some v:=fun j v hj=>by
  obtain⟨y,h1,rfl⟩:=Zp hj;rw[Ki,zB hvw,aP];exact hvs j y h1
 have hzl:=Vz xs ys hi;have hgl:grownCap w (xs.length+ys.length) cap (ρ.t 3)<=9223372036854775807:=grownCap_le_maxLen w (xs.length+ys.length) cap (ρ.t 3) (by simp only[maxLen]; omega)
 have hgg:=grownCap_ge w (xs.length+ys.length) cap (ρ.t 3);have fin:∀{e:Ending} {w' w'':World} {v:Value},e = .returned v->w'=w''->InsDone w r0 (QC xs i ys) v w''->∃ v,e = .returned v∧InsDone w r0 (QC xs i ys) v w':=fun h1 h2 h3=>⟨_,h1,h2▸h3⟩;by_cases hroomy:xs.length+ys.length<=cap
 ·-- there is room
  obtain⟨r,rfl,rfl,hthr⟩:∃ r,r0=some r∧ad=some ⟨r,0,none⟩∧∀ j,j<cap->(mem w r j).isSome:=by
   rcases hc with hc | hc
   ·omega
   ·exact hc
  rcases hrow with ⟨h',-⟩ | ⟨r',cur,e',hr',hw,hel⟩
  ·cases h'
  injection hr' with hr'; subst hr';have hcs:cap<=cur.size:=by
   have:=hthr (cap - 1) (by omega)
   rw[zB hw] at this;have:=(bJ.1 (cK.1 this).choose_spec).1;omega
  have hfr:∀ o,w.frozen? ⟨r,o,none⟩=false:=fun o=>by simp [d8,hw]
  have hsp:∀ o,o<cap->(w.cell? ⟨r,o,none⟩).isSome=true:=fun o ho=>hthr o ho;by_cases hin:i=xs.length
  ·subst hin;refine (Any2.slices_Insert_int_end_room L r 0 xs.length cap vb 0 ys.length vc (ys.map iv) w hy hroomy hcap.2 (by simp) (fun j hj=>hsp _ (by omega)) (fun j hj=>hfr _) hvcell t5).mono ?_
   rintro e w' ⟨h1,h2⟩;refine fin h1 h2 ?_;rw[aP,rG P hw (by simp; omega) t5,← hzl]
   have hlen:xs.length+(ys.map iv).length<=cur.toList.length:=by rw[aO (xs:=cur),aF]; omega
   refine CM hw (setRow_heap w r cur _ e' (0,0) hw) (by rw[bn,z5 hlen,aO (xs:=cur)]) rfl rfl rfl (by simp [fw]) (fun j hj=>setRow_other w r j _ hj) (by omega) hcap.2 hcs fun j z hj => ?_
   rw[KB xs ys hi] at hj;rw[bR,yV hlen,aF];split at hj
   ·rename_i h;rw[if_pos h,aV];exact hel j z hj
   ·rename_i h;rw[if_neg h];split at hj
    ·rename_i h2;rw[if_pos h2,bh,hj];rfl
    ·rw[List.getElem?_eq_none (by omega)] at hj; cases hj
  ·have hlt:i<xs.length:=by omega
   refine (Any2.slices_Insert_int_shift L r 0 xs.length cap i vb 0 ys.length vc (xs.map iv) (ys.map iv) w hlt hy hroomy hcap.2 (fun h=>hne (by rw[h])) (by simp) (by simp)
    (fun j v hj=>by
     obtain⟨x,h1,rfl⟩:=Zp hj;rw[Ki,zB hw,aP]; exact hel j x h1)
    (fun j hj=>hsp _ (by omega)) (fun j hj=>hfr _) hvcell t5 t5 ev e' cv.size cur.size (by simp [ib,hvw]) (by simp [ib,hw]) (by omega) (by simp [d8,hvw]) (by simp [d8,hvw])).mono ?_
   rintro e w' ⟨h1,h2⟩;refine fin h1 h2 ?_;have hwd:w.drew.heap[r]? = some (.cells cur e' (0,0)):=hw;have hdl:((xs.map iv).drop i).length=xs.length - i:=by simp
   have hone:∀ v∈(xs.map iv).drop i,v.oneCell'=true:=fun v hv=>t5 v (eK hv);rw[aP,aP,rG P hwd (by rw[hdl]; omega) hone]
   have hlen1:(i+ys.length)+((xs.map iv).drop i).length<=cur.toList.length:=by rw[aO (xs:=cur),hdl]; omega
   have hl1:(zS cur.toList (i+ys.length) ((xs.map iv).drop i)).length=cur.size:=by rw[z5 hlen1,aO (xs:=cur)]
   have hw1:=setRow_heap w.drew r cur (zS cur.toList (i+ys.length) ((xs.map iv).drop i)).toArray e' (0,0) hwd;rw[rG P hw1 (by rw[bn,hl1,aF]; omega) t5]
   have hlen2:i+(ys.map iv).length<=(zS cur.toList (i+ys.length) ((xs.map iv).drop i)).length:=by rw[hl1,aF]; omega
   rw[← hzl];refine CM hw (setRow_heap _ r _ _ e' (0,0) hw1) (by simp only[bn]; rw[z5 hlen2,hl1]) rfl rfl rfl (by simp [fw]) (fun j hj=>(setRow_other _ r j _ hj).trans (setRow_other w.drew r j _ hj)) (by omega) hcap.2 hcs fun j z hj => ?_
   rw[KB xs ys hi] at hj;simp only[bR];rw[yV hlen2,aF];split at hj
   ·rename_i h;rw[if_pos h,yV hlen1,if_pos (by omega),aV]
    exact hel j z hj
   ·rename_i h;rw[if_neg h];split at hj
    ·rename_i h2;rw[if_pos h2,bh,hj];rfl
    ·rename_i h2;have hjl:j - ys.length<xs.length:=(aw.1 hj).1;rw[if_neg h2,yV hlen1,if_neg h2,if_pos (by rw[hdl]; omega),bu,bh,show i+(j - (i+ys.length))=j - ys.length from by omega,hj]
     rfl
 ·-- there is none
  by_cases hin:i=xs.length
  ·subst hin;refine (Any2.slices_Insert_int_end_grow L ad xs.length cap vb 0 ys.length vc (xs.map iv) (ys.map iv) w hy hcap.1 (by omega) (by omega) (by simp) (by simp) (fun hn=>by
     rcases hc with hc | ⟨r,-,h,-⟩
     ·omega
     ·rw[hn] at h; cases h) (fun a ha j v hj=>by
     rcases hc with hc | ⟨r,h1,h2,-⟩
     ·obtain⟨x,h1,-⟩:=Zp hj;have:=(aw.1 h1).1;omega
     ·rw[ha] at h2; injection h2 with h2; subst h2;obtain⟨x,h3,rfl⟩:=Zp hj;rcases hrow with ⟨h4,-⟩ | ⟨r',cur,e',hr',hw,hel⟩
      ·rw[h1] at h4; cases h4
      ·rw[h1] at hr'; injection hr' with hr'; subst hr';rw[Addr.add_lit,Ki,zB hw,aP];exact hel j x h3) hvcell t5).mono ?_
   rintro e w' ⟨h1,h2⟩;refine fin h1 h2 ?_;rw[← hzl];have hz:xs.map iv++ys.map iv=(QC xs xs.length ys).map iv:=by simp [QC]
   rw[hz];refine MH (jg w.drew _) rfl rfl rfl (fun j hj=>uz w.drew _ hj) (by rw[hzl]; exact hgg) (by rw[hzl]; exact hgl) ?_ fun j z hj => ?_
   ·rw[dQ,bn,aF,W0,hzl]; omega
   ·rw[cR (by rw[bn,aF]; exact (aw.1 hj).1),bR,bh,hj]
    rfl
  ·have hlt:i<xs.length:=by omega
   obtain⟨r,rfl,rfl,hthr⟩:∃ r,r0=some r∧ad=some ⟨r,0,none⟩∧∀ j,j<cap->(mem w r j).isSome:=by
    rcases hc with hc | hc
    ·omega
    ·exact hc
   rcases hrow with ⟨h',-⟩ | ⟨r',cur,e',hr',hw,hel⟩
   ·cases h'
   injection hr' with hr'; subst hr';refine (Any2.slices_Insert_int_grow L r 0 xs.length cap i vb 0 ys.length vc (xs.map iv) (ys.map iv) w hlt hy hcap.1 (by omega) (by omega) (by simp) (by simp)
    (fun j v hj=>by
     obtain⟨x,h1,rfl⟩:=Zp hj;rw[Ki,zB hw,aP]; exact hel j x h1) hvcell t5 t5).mono ?_
   rintro e w' ⟨h1,h2⟩;refine fin h1 h2 ?_;generalize hG:grownCap w (xs.length+ys.length) cap (ρ.t 3)=G at *;generalize hA:((xs.map iv).take i).toArray++br (dl .i64 0).cells (xs.length+ys.length - i)++br (dl .i64 0).cells (G - (xs.length+ys.length))=A;have hAs:A.size=G:=by
    rw[← hA,dQ,dQ,W0,W0,bn];simp only[List.length_take,aF];omega
   have hAi:∀ j,j<i->A[j]? = (xs.map iv)[j]? := fun j hj=>by
    rw[← hA,Array.append_assoc,cR (by simp; omega),bR,List.getElem?_take,if_pos hj]
   have hAl:A.toList.length=G:=by rw[aO (xs:=A),hAs]
   have hw0:(w.alloc (.cells A (ρ.t 3))).drew.heap[w.heap.size]? = some (.cells A (ρ.t 3) (0,0)):=jg w (.cells A (ρ.t 3));have hdl:((xs.map iv).drop i).length=xs.length - i:=by simp
   have hone:∀ v∈(xs.map iv).drop i,v.oneCell'=true:=fun v hv=>t5 v (eK hv);rw[rG P hw0 (by rw[hAs,aF]; omega) t5]
   have hlen1:i+(ys.map iv).length<=A.toList.length:=by rw[hAl,aF]; omega
   have hl1:(zS A.toList i (ys.map iv)).length=G:=by rw[z5 hlen1,hAl]
   have hw1:((w.alloc (.cells A (ρ.t 3))).drew.setRow w.heap.size (zS A.toList i (ys.map iv)).toArray).drew.heap[w.heap.size]? = some (.cells (zS A.toList i (ys.map iv)).toArray (ρ.t 3) (0,0)):=setRow_heap (w.alloc (.cells A (ρ.t 3))).drew _ A _ (ρ.t 3) (0,0) hw0;rw[rG P hw1 (by rw[bn,hl1,hdl]; omega) hone]
   have hlen2:(i+ys.length)+((xs.map iv).drop i).length<=(zS A.toList i (ys.map iv)).length:=by rw[hl1,hdl]; omega
   rw[← hzl];refine MH (setRow_heap _ w.heap.size _ _ (ρ.t 3) (0,0) hw1) rfl rfl rfl (fun j hj => ?_) (by rw[hzl]; exact hgg) hgl ?_ fun j z hj => ?_
   ·have hjn:j≠w.heap.size:=by omega
    exact (setRow_other _ w.heap.size j _ hjn).trans ((setRow_other (w.alloc (.cells A (ρ.t 3))).drew w.heap.size j _ hjn).trans (uz w (.cells A (ρ.t 3)) hj))
   ·simp only[bn];rw[z5 hlen2,hl1];exact aC _
   ·rw[KB xs ys hi] at hj;simp only[bR];rw[yV hlen2];split at hj
    ·rename_i h;rw[if_pos (by omega),yV hlen1,if_pos h,aV,hAi j h,bh,hj]
     rfl
    ·rename_i h;split at hj
     ·rename_i h2;rw[if_pos h2,yV hlen1,if_neg h,if_pos (by rw[aF]; omega),bh,hj]
      rfl
     ·rename_i h2;have hjl:j - ys.length<xs.length:=(aw.1 hj).1;rw[if_neg h2,if_pos (by rw[hdl]; omega),bu,bh,show i+(j - (i+ys.length))=j - ys.length from by omega,hj]
      rfl
abbrev tI:Tys:=.one (.int .i64)
theorem PE {P:Program} {w:World} {A:Reg} {N:Nat->Prop} {hN:∀ b,w.heap.size<=b->N b} {g:Gh} {H:Nat->Blk} {Z:Nat->Bool} {U:Nat->Prop} (hS:g.S=fun q b o=>(q=0∨q=1)∧A b o) (hm:MemOk (Y0 P (fun _=>none) w A N hN g H Z) g H Z U w)
  {q:Nat} {xs:List Int} (hH:H 8 = .seq q tI xs) (hZ:Z 8=false) {zs:List Int} {v:Value} {w':World} (h:InsDone w (g.loc 8) zs v w') (n1:Nat) :
  ∃ g',MemOk (Y0 P (fun _=>none) w A N hN g H Z) g' (mkH n1 [.seq 2 tI zs]) (mkZ n1 [.seq false]) (jF n1 1) w'∧RAV (mem w') g' (mkH n1 [.seq 2 tI zs]) (jF n1 1) (.view n1) v∧∀ b o,A b o->mem w' b o=mem w b o:=by
 obtain⟨hos,htape,hout,hsize,hrows,hsame,l,cap,cc,e,rfl,hl1,hl2,hl3,hw',hcs,hget⟩:=h;have hlive:H 8 ≠ .dead:=by rw[hH]; simp
 -- where the region lies, nothing was written
 have hold:∀ q b o,g.S q b o->mem w' b o=mem w b o:=fun q b o hs=>by
  refine zE (hrows b (mem_lt (hm.acc q b o hs)) fun hb => ?_) o;have:=(hm.sep q b o 8 hs hlive hb).1;rw[hZ] at this; cases this
 have hat:mkH n1 [Blk.seq 2 tI zs] n1 = .seq 2 tI zs:=Jy (n0:=n1) (j:=0) rfl;have hzat:mkZ n1 [TB.seq false] n1=false:=WG (n0:=n1) (j:=0) (t:=.seq false) rfl;have honly:∀ b,mkH n1 [Blk.seq 2 tI zs] b ≠ .dead->b=n1:=fun b hb=>by
  obtain⟨j,k,rfl,hj,-⟩:=sY hb;have:=(aw.1 hj).1;simp at this;omega
 have hlent:g.loc 8=some l->lent g H Z l:=fun h=>⟨8,hlive,h,fun h'=>by rw[hZ] at h'; cases h'.1⟩
 refine ⟨{ S:=g.S,loc:=fun b=>if b=n1 then some l else none },?_,?_,fun b o hb=>hold 1 b o (by rw[hS]; exact ⟨.inr rfl,hb⟩)⟩
 ·have hloc:(if n1=n1 then some l else none:Option Nat)=some l:=if_pos rfl
  refine { blk:=fun b => ?_,used:=fun b hb => ?_,inj:=fun b b' r hb hb' _ _=>(honly b hb).trans (honly b' hb').symm,acc:=fun q b o hs=>by rw[hold q b o hs]; exact hm.acc q b o hs,sep:=fun q r o x hs hx hlx => ?_,up0:=hm.up0,up2:=hm.up2,dn:=hm.dn,fr:=hm.fr,nf:=fun b o hs hB=>(by
  by_cases h8:g.loc 8=some b
  ·have:=(hm.sep 0 b o 8 hs hlive h8).1;rw[hZ] at this; cases this
  ·rw[vM (hrows b (mem_lt (hm.acc 0 b o hs)) h8)]; exact hm.nf b o hs hB),keep:=fun k hk => ?_,mine:=fun x r hx hlx hk => ?_,own:=fun x r hx hlx => ?_,os:=hos,tape:=htape,output:=hout,size:=hsize,bnd:=hsize,glob:=fun q z hz=>(by cases hz),grow:=fun r j hj => ?_ }
  ·by_cases hb:b=n1
   ·subst hb;rw[hat];refine .inr ⟨l,cc,e,if_pos rfl,hw',?_,fun i x hx => ?_⟩
    ·show zs.length*1<=cc.size;omega
    ·refine ⟨trivial,_,?_,rfl⟩;simp only[Tys.size,fc];rw[zB hw'];exact hget i x hx
   ·by_cases hd:mkH n1 [Blk.seq 2 tI zs] b = .dead
    ·rw[hd]; trivial
    ·exact absurd (honly b hd) hb
  ·rw[honly b hb]; exact ⟨aC _,by omega⟩
  ·rw[honly x hx] at hlx;have hlx:(if n1=n1 then some l else none:Option Nat)=some r:=hlx
   rw[if_pos rfl] at hlx;injection hlx with hlx; subst hlx;rcases hl3 with hl | hl
   ·have:=mem_lt (hm.acc q l o hs); omega
   ·have:=(hm.sep q l o 8 hs hlive hl).1;rw[hZ] at this; cases this
  ·exact hrows k hk.1 fun h8=>hk.2 ⟨8,hlive,h8,fun h'=>by rw[hZ] at h'; cases h'.1⟩
  ·rw[honly x hx] at hlx;have hlx:(if n1=n1 then some l else none:Option Nat)=some r:=hlx
   rw[if_pos rfl] at hlx;injection hlx with hlx; subst hlx;rcases hl3 with hl | hl
   ·have:=hk.1; omega
   ·exact absurd (hlent hl) hk.2
  ·rw[honly x hx] at hlx;have hlx:(if n1=n1 then some l else none:Option Nat)=some r:=hlx
   rw[if_pos rfl] at hlx;injection hlx with hlx; subst hlx;rcases hl3 with hl | hl
   ·exact .inl (by show w.heap.size<=l; omega)
   ·exact .inr (.inl (hlent hl))
  ·by_cases h8:g.loc 8=some r
   ·exact hsame r h8 j hj
   ·rw[zE (hrows r (mem_lt hj) h8)]; exact hj
 ·refine ⟨⟨aC _,by omega⟩,rfl,?_⟩
  rw[hat];refine ⟨_,cap,rfl,⟨hl1,hl2⟩,.inr ⟨l,if_pos rfl,rfl,fun j hj => ?_⟩⟩;simp only[Tys.size,fc] at hj;rw[zB hw',bi (by omega)]
  rfl
def insC:ShC:=⟨⟨[.view 0,.hole,.view 1],[.seq false,.seq false],[1,1,1],[.int .i64,.sl tI,.sl tI]⟩,⟨[.view 0],[.seq false],[2],[.sl tI]⟩,1,[],[],false,false,fun (x:Int×List Int×List Int)=>zeA x.1 x.2.1 x.2.2⟩
theorem NJ {P:Program} {ρ:Ren} {gl:Gl} {f:FuncId} {fn:Func} {code:Code} (hfn:P.funcs[f]? = some fn) (hnm:(fn.name == "runtime.NumGoroutine")=false) (hbody:fn.body=some code) (L:Lays2.n21 P ρ) (hf:ρ.f 21=f):ShOk P gl f insC where
 ok:=rfl
 does:=by
  intro w A A2 N hN g vs x y hh2 hNO hS hm hrl hy;rw[IS (hh2 rfl).1] at hS;obtain⟨i,xs,ys⟩:Int×List Int×List Int:=x;have hm:MemOk (Y0 P (fun _=>none) w A N hN g (insC.entry (i,xs,ys)).H (insC.entry (i,xs,ys)).Z) g (insC.entry (i,xs,ys)).H (insC.entry (i,xs,ys)).Z (jF 8 2) w:=hm;have hy:zeA i xs ys=some y:=hy;have hrl:RL (mem w) g (insC.entry (i,xs,ys)).H (jF 8 2) [.view 8,.val 1 (.int .i64) i,.view 9] vs.toList:=hrl;show Does P (callFunc f vs) w fun v w'=>∀ n1,∃ g' us,MemOk (Y0 P (fun _=>none) w A N hN g (insC.entry (i,xs,ys)).H (insC.entry (i,xs,ys)).Z) g' (mkH n1 [Blk.seq 2 tI y]) (mkZ n1 [TB.seq false]) (jF n1 1) w' ∧
   RL (mem w') g' (mkH n1 [Blk.seq 2 tI y]) (jF n1 1) [.view (n1+0)] us∧v=G2 (us.take 1) ∧
   (∀ p,p∈([]:List (Nat×Nat))->(∃ r,g.loc (8+p.1)=some r∧g'.loc (n1+p.2)=some r)∧SameKind ((insC.entry (i,xs,ys)).H (8+p.1)) (mkH n1 [Blk.seq 2 tI y] (n1+p.2)))∧(∀ b o,A b o->mem w' b o=mem w b o)
  generalize hHd:(insC.entry (i,xs,ys)).H=H at *;generalize hZd:(insC.entry (i,xs,ys)).Z=Z at *;have hH8:H 8 = .seq 1 tI xs:=by rw[← hHd]; rfl
  have hH9:H 9 = .seq 1 tI ys:=by rw[← hHd]; rfl
  have hZ8:Z 8=false:=by rw[← hZd]; rfl
  obtain⟨v1,us1,hvs,h1,v2,us2,rfl,h2,v3,us3,rfl,h3,h4⟩:=hrl;have h4:us3=[]:=h4;subst h4;have h2:v2 = .int .i64 i:=h2;subst h2;have hvs:vs = #[v1,.int .i64 i,v3]:=by rw[← Array.toArray_toList (xs:=vs),hvs]
  subst hvs;unfold zeA at hy;cases hc:Pv i&&decide (i<=(af xs:Int))&&Ei (af ys:Int)&&yK (af xs+af ys) 8 with
  | false=>rw[hc] at hy; cases hy
  | true =>
   rw[hc] at hy;injection hy with hy;subst hy;simp only[Bool.and_eq_true,Pv,Ei,yK,decide_eq_true_eq] at hc;obtain⟨⟨⟨hi0,hi1⟩,hy0⟩,hrm⟩:=hc;have hi:i=((i.toNat:Nat):Int):=(Int.toNat_of_nonneg hi0).symm;obtain⟨-,-,hv1⟩:=h1;rw[hH8] at hv1;obtain⟨ad,cap,rfl,hcap,hcc⟩:=hv1;obtain⟨-,-,hv3⟩:=h3;rw[hH9] at hv3;obtain⟨ad3,vc,rfl,hcap3,hcc3⟩:=hv3;have hb8:=hm.blk 8;rw[hH8] at hb8;have hb9:=hm.blk 9;rw[hH9] at hb9;obtain⟨vb,hvl,rfl,-⟩:∃ r,g.loc 9=some r∧ad3=some ⟨r,0,none⟩∧∀ j,j<vc*tI.size->(mem w r j).isSome:=by
    rcases hcc3 with h | h
    ·have h1:(af ys:Nat)<=vc:=hcap3.1;omega
    ·exact h
   have hb9:∃ c e,w.heap[vb]? = some (.cells c e (0,0))∧∀(j:Nat) y,ys[j]? = some y->c[j]? = some (iv y):=by
    rcases hb9 with ⟨h5,-⟩ | ⟨r,c,e,h5,h6,h7,h8⟩
    ·rw[hvl] at h5; cases h5
    ·rw[hvl] at h5; injection h5 with h5; subst h5;refine ⟨c,e,h6,fun j y hj => ?_⟩;obtain⟨-,u,h9,h10⟩:=h8 j y hj;simp only[Tys.size,fc] at h9;rw[zB h6] at h9;rw[h9];exact congrArg some h10
   obtain⟨cv,ev,hvw,hvs⟩:=hb9;have hroad:=RG L (w:=w) (r0:=g.loc 8) (xs:=xs) (ys:=ys) (i:=i.toNat) (cap:=cap) (vb:=vb) (vc:=vc) (ad:=ad) hcap (by
     refine hcc.imp (fun h=>h) ?_;rintro⟨r,h5,h6,h7⟩;exact ⟨r,h5,h6,fun j hj=>h7 j (by simpa[Tys.size] using hj)⟩) (by
     rcases hb8 with h5 | ⟨r,c,e,h5,h6,h7,h8⟩
     ·exact .inl h5
     ·refine .inr ⟨r,c,e,h5,h6,fun j y hj => ?_⟩;obtain⟨-,u,h9,h10⟩:=h8 j y hj;simp only[Tys.size,fc] at h9;rw[zB h6] at h9;rw[h9];exact congrArg some h10) hvw hvs (by omega) (fun h=>by
     have:=hm.inj 8 9 vb (by rw[hH8]; simp) (by rw[hH9]; simp) h hvl
     omega) (by omega) (by omega)
   rw[hf,← hi] at hroad;unfold Does;rw[Qv hfn hnm hbody];refine hroad.mono ?_;rintro e w' ⟨v,rfl,hd⟩;refine ⟨v,rfl,fun n1 => ?_⟩;obtain⟨g',h5,h6,h7⟩:=PE hS hm hH8 hZ8 hd n1;exact ⟨g',[v],h5,⟨v,[],rfl,h6,rfl⟩,rfl,fun p hp=>(nomatch hp),h7⟩
end Go.Abs
