import Derived.ScopeJumps
import Derived.Lib.Join
import Derived.Lib.ItoaNum
import Derived.Lib.Bytealg
import Derived.ProofKit
import Derived.OpenShut
import Derived.Deep.DeepHandedRow
import Derived.Lib.LaidTab
import Derived.MakeChecks
import Derived.Test.YtgjajclncfhidaaGreatDoorFb
/-
  A reading of Go code as pure functions: what the operations, rounds and calls of a text make, with proofs.
-/
open Array renaming length_toList -> aO
open Bool renaming and_eq_true -> ay, not_eq_true' -> cp
open Classical renaming byContradiction -> eY
open Go.DataW renaming TrodAll -> dO, trod -> dS, trod_bool -> gE, trod_int -> gO, trod_slice -> gq, trod_string -> gf, trod_struct -> gg
open Go.MakeChecks renaming laidMetH_plain -> gQ
open Go.Program renaming cellsOf -> iA
open Go.Steps renaming trans -> il
open Go.Value renaming okWide -> fD
open Go.World renaming holding -> fY
open Iff renaming rfl -> fv
open List renaming all_eq_true -> aD, append_nil -> bO, drop_drop -> cf, drop_eq_nil_iff -> cP, getD_eq_getElem?_getD -> aE, getElem?_append_left -> bP, getElem?_append_right -> bI, getElem?_eq_getElem -> al, getElem?_eq_none -> aQ, getElem?_eq_none_iff -> d5, getElem?_eq_some_iff -> aw, getElem?_map -> bh, getElem_mem -> dx, length -> af, length_append -> am, length_nil -> bm, map -> cV, map_cons -> aK, mem_append -> aI, mem_append_left -> bk, mem_append_right -> bp, mem_cons -> aG, mem_cons_of_mem -> ai, mem_range -> bZ, mem_singleton -> bb, replicate -> ax, take_append_drop -> bW
open List.Pairwise renaming nil -> ge
open Nat renaming beq -> aA, ble -> ci, eq_of_beq_eq_true -> au, le_of_ble_eq_true -> bV, le_refl -> aC, le_trans -> aT, not_lt -> ir, zero_add -> aP, zero_le -> bN
open Option renaming bind_assoc -> bS, bind_eq_some_iff -> ah, bind_some -> aa
open Sum renaming inl -> aU, inr -> aH
namespace Go.Abs
theorem Rc {w:World} {g g':Gh} {H H':Nat->Blk} {U U':Nat->Prop} {nm nm':Nat->Nat} (rn:Rn (mem w) g H U (mem w) g' H' U' nm nm') {b b':Nat} (hl:g'.loc b'=g.loc b) (t:TB) {M M':List AV} (hf:F2 (LR g.S g'.S (mem w) (mem w)) M M')
  (h:RBlk w g H U b (vF nm t M).1):RBlk w g' H' U' b' (vF nm' t M').1:=by
 cases t with
 | cells z l =>
  obtain⟨r,cc,e,h1,h2,h3⟩:=(show ∃ r cc e,g.loc b=some r∧w.heap[r]? = some (.cells cc e (0,0))∧RF (mem w) g H U (sy nm l M).1 cc.toList from h)
  exact ⟨r,cc,e,hl.trans h1,h2,(II rn l (hf.imp' fun a b hab=>hab.lc) h3).1⟩
 | seq z =>
  cases hf with
  | nil=>trivial
  | cons h1 h2 =>
   obtain⟨k,k',t,y,rfl,rfl,hs⟩:=h1;cases t with
   | sl ts =>
    refine (show _∨_ from h).imp (fun h=>⟨hl.trans h.1,h.2⟩) ?_
    rintro⟨r,cc,e,h3,h4,h5,h6⟩;exact ⟨r,cc,e,hl.trans h3,h4,h5,h6.imp fun i x _ hx=>RC.mono hs (fun _ _ h=>⟨h,rfl⟩) _ x _ _ hx⟩
   | _=>trivial
theorem De {w:World} {g g':Gh} {H H':Nat->Blk} {U U':Nat->Prop} {nm nm':Nat->Nat} (rn:Rn (mem w) g H U (mem w) g' H' U' nm nm'):(ts:List TB)->{M M':List AV}->F2 (LR g.S g'.S (mem w) (mem w)) M M'->∀(j b b':Nat) k k',g'.loc b'=g.loc b ->
  (qv nm ts M)[j]? = some k->(qv nm' ts M')[j]? = some k'->RBlk w g H U b k->RBlk w g' H' U' b' k'
 | [],M,M',_,j,b,b',k,k',_,h,_,_=>by simp [qv] at h
 | t::ts,M,M',hf,0,b,b',k,k',hl,h,h',hr=>by
  injection h with h; injection h' with h'; subst h; subst h';exact Rc rn hl t hf hr
 | t::ts,M,M',hf,j+1,b,b',k,k',hl,h,h',hr=>De rn ts (Jb nm nm' t hf).2 j b b' k k' hl (show (qv nm ts (vF nm t M).2)[j]? = some k from h) (show (qv nm' ts (vF nm' t M').2)[j]? = some k' from h') hr
structure Retag (w:World) (g g':Gh) (sh:Sh) (tg':List Nat) (n0:Nat) (x:jv sh.hs):Prop where
 loc:∀ b,g'.loc b=g.loc b
 S:∀ i,i<sh.hs.length->∀ b o,g.S (sh.tg.getD i 0) b o->g'.S (tg'.getD i 0) b o
section
variable {w:World} {g g':Gh} {sh:Sh} {tg':List Nat} {n0:Nat} {x:jv sh.hs}
theorem Retag.f2 (h:Retag w g g' sh tg' n0 x):F2 (LR g.S g'.S (mem w) (mem w)) (mkL sh.tg sh.hs x) (mkL tg' sh.hs x):=Mx _ _ _ _ fun i hi b o hb=>⟨h.S i hi b o hb,rfl⟩
theorem Retag.two (h:Retag w g g' sh tg' n0 x) (j:Nat) (k:Blk) (hk:(sh.bks (fun j=>n0+j) x)[j]? = some k):∃ k',(Sh.bks { sh with tg:=tg' } (fun j=>n0+j) x)[j]? = some k'∧TwoB g.S g'.S (mem w) (mem w) k k' :=
 GB _ _ sh.blks (Vx _ _ sh.slots h.f2) j k hk
theorem Retag.H (h:Retag w g g' sh tg' n0 x) (b:Nat):TwoB g.S g'.S (mem w) (mem w) (mkH n0 (sh.bks (fun j=>n0+j) x) b) (mkH n0 (Sh.bks { sh with tg:=tg' } (fun j=>n0+j) x) b):=by
 have hl:(sh.bks (fun j=>n0+j) x).length=(Sh.bks { sh with tg:=tg' } (fun j=>n0+j) x).length:=by
  unfold Sh.bks; rw[uP,uP]
 unfold mkH;cases hb:ci n0 b with
 | false=>trivial
 | true =>
  simp only[cond_true,aE];cases hk:(sh.bks (fun j=>n0+j) x)[b - n0]? with
  | none =>
   rw[d5] at hk;rw[aQ (by omega)]
   trivial
  | some k =>
   obtain⟨k',h1,h2⟩:=h.two (b - n0) k hk;rw[h1];exact h2
theorem Retag.rn (h:Retag w g g' sh tg' n0 x):Rn (mem w) g (mkH n0 (sh.bks (fun j=>n0+j) x)) (jF n0 sh.blks.length) (mem w) g' (mkH n0 (Sh.bks { sh with tg:=tg' } (fun j=>n0+j) x)) (jF n0 sh.blks.length) (fun j=>n0+j) (fun j=>n0+j) :=
 ⟨fun _ h=>h,fun _j _ _=>h.loc _,fun j _=>(h.H (n0+j)).live.2.2.2,fun _ _ _ _ h=>h⟩
theorem Retag.RL (h:Retag w g g' sh tg' n0 x) {vs:List Value} (hr:Abs.RL (mem w) g (mkH n0 (sh.bks (fun j=>n0+j) x)) (jF n0 sh.blks.length) (sh.avs (fun j=>n0+j) x) vs) :
  Abs.RL (mem w) g' (mkH n0 (Sh.bks { sh with tg:=tg' } (fun j=>n0+j) x)) (jF n0 sh.blks.length) (Sh.avs { sh with tg:=tg' } (fun j=>n0+j) x) vs :=
 (Ai h.rn sh.slots (h.f2.imp' fun _a _b hab=>hab.lc) hr).1
theorem Retag.blk (h:Retag w g g' sh tg' n0 x) (hb:∀ b,RBlk w g (mkH n0 (sh.bks (fun j=>n0+j) x)) (jF n0 sh.blks.length) b (mkH n0 (sh.bks (fun j=>n0+j) x) b)) (b:Nat) :
  RBlk w g' (mkH n0 (Sh.bks { sh with tg:=tg' } (fun j=>n0+j) x)) (jF n0 sh.blks.length) b (mkH n0 (Sh.bks { sh with tg:=tg' } (fun j=>n0+j) x) b):=by
 by_cases hd:mkH n0 (Sh.bks { sh with tg:=tg' } (fun j=>n0+j) x) b = .dead
 ·rw[hd]; trivial
 ·have h1:=(h.H b).live.1 hd;obtain⟨j,k,rfl,h2,h3⟩:=sY h1;obtain⟨k',h4,-⟩:=h.two j k h2;rw[Jy h4];have hbb:=hb (n0+j);rw[Jy h2] at hbb;exact De h.rn sh.blks (Vx _ _ sh.slots h.f2) j _ _ k k' (h.loc _) h2 h4 hbb
theorem Retag.lent (h:Retag w g g' sh tg' n0 x) {Z:Nat->Bool}:Abs.lent g' (mkH n0 (Sh.bks { sh with tg:=tg' } (fun j=>n0+j) x)) Z=Abs.lent g (mkH n0 (sh.bks (fun j=>n0+j) x)) Z:=by
 funext r
 refine propext ⟨?_,?_⟩
 ·rintro⟨b,h1,h2,h3⟩;have hl:=(h.H b).live;exact ⟨b,hl.1 h1,by rw[← h.loc b]; exact h2,by rw[hl.2.2.1]; exact h3⟩
 ·rintro⟨b,h1,h2,h3⟩;have hl:=(h.H b).live;exact ⟨b,hl.2.1 h1,by rw[h.loc b]; exact h2,by rw[← hl.2.2.1]; exact h3⟩
end
section
variable {R:Type}
def zb5 (H:Nat->Blk) (fz:Nat):List AV->Nat
 | []=>2
 | a::as=>jn (ZC H fz a) (zb5 H fz as)
def IE (id ga fz t:Nat):Nat:=cond (ci 2 t) id (cond (aA fz 2) (jn ga 2) 0)
def rL (bd:Bnd) (id k:Nat):List (Nat×Nat)->Nat
 | []=>id+k
 | p::mu=>cond (aA p.2 k) (match bd[p.1]? with
  | some (some i)=>i
  | _=>id+k) (rL bd id k mu)
def Hx (mu:List (Nat×Nat)) (bd:Bnd) (id:Nat):Nat->List Blk->List (Nat×Blk)
 | _,[]=>[]
 | k,b::bs=>(rL bd id k mu,b)::Hx mu bd id (k+1) bs
def zfn:List AV->AV
 | [v]=>v
 | vs=>.tup vs
def ShC.inpT (c:ShC) (ga:Nat):Sh:={ c.inp with tg:=X5 c.inp.tg ga c.inp.hs.length }
def ShC.outT (c:ShC) (id ga fz:Nat):Sh:={ c.out with tg:=c.out.tg.map (IE id ga fz) }
def zfD (c:ShC) (id fz:Nat) (as:List AV) (H:Nat->Blk) (Z:Nat->Bool) (ga:Nat) (κ:K R):Option R :=
 ((c.inpT ga).dec H Z fz as).bind fun d=>(c.F d.x).bind fun y =>
  κ (zfn (((c.outT id ga fz).avs (fun k=>id+k) y).take c.nres)) ⟨(sI c.inp d.bd).map (fun b=>(b,.dead))++Hx c.mu d.bd id 0 ((c.outT id ga fz).bks (fun k=>id+k) y),cond c.leak d.zs []⟩
def shE (c:ShC) (id fz:Nat) (as:List AV) (H:Nat->Blk) (Z:Nat->Bool) (κ:K R):Option R :=
 (uS c.inp.slots as []).bind fun p=>(JX H Z c.inp.blks 0 p.2).bind fun q=>zfD c id fz as H Z (cond c.glob (jn (zb5 H fz (p.1++q.1)) 1) (zb5 H fz (p.1++q.1))) κ
theorem zbH (c:ShC) (id fz:Nat) (as:List AV) (H:Nat->Blk) (Z:Nat->Bool) (κ:K R):shE c id fz as H Z κ=(shE c id fz as H Z pk).bind (kb κ):=by
 unfold shE zfD;exact zm _ _ _ _ fun _=>zm _ _ _ _ fun _=>zm _ _ _ _ fun _=>zm _ _ _ _ fun _=>rfl
theorem E9 {H:Nat->Blk} {fz:Nat} {t:Ty} {a:AV} {y:Nat×El t} (h:vz H fz t a=some y):∀ b,b∈a.shows->H b ≠ .dead:=by
 intro b hb;cases a with
 | view b' =>
  rw[bb.1 hb];simp only[vz] at h;intro hd;rw[hd] at h;cases h
 | part b' o n =>
  rw[bb.1 hb];simp only[vz] at h;intro hd;rw[hd] at h;cases h
 | _=>cases hb
theorem F2.left {α β:Type} {r:α->β->Prop}:{as:List α}->{bs:List β}->F2 r as bs->∀ a,a∈as->∃ b,r a b
 | [],_,_,a,h=>by cases h
 | a::as,_,hf,x,h=>by
  cases hf with
  | cons h1 h2 =>
   rcases aG.1 h with rfl | h
   ·exact ⟨_,h1⟩
   ·exact h2.left x h
theorem MA {g:Gh} {H hv:Nat->Blk} (hh:∀ b,hv b = .dead∨hv b=H b) {fz:Nat} {bs:List Nat} (hb:∀ b,b∈bs->hv b ≠ .dead):(g.show hv fz bs).S=(g.show H fz bs).S:=by
 funext q b o
 refine propext (or_congr fv (and_congr fv ⟨?_,?_⟩))
 ·rintro⟨x,hx,q',ts,xs,h1,h2⟩;exact ⟨x,hx,q',ts,xs,((hh x).resolve_left (hb x hx))▸h1,h2⟩
 ·rintro⟨x,hx,q',ts,xs,h1,h2⟩;exact ⟨x,hx,q',ts,xs,((hh x).resolve_left (hb x hx)).trans h1,h2⟩
theorem Jl (bd:Bnd) (id k:Nat):(mu:List (Nat×Nat))->((∀ p,p∈mu->p.2≠k)∧rL bd id k mu=id+k)∨∃ p,p∈mu∧p.2=k∧rL bd id k mu=(match bd[p.1]? with | some (some i)=>i | _=>id+k)
 | []=>.inl ⟨(fun p hp=>by cases hp),rfl⟩
 | p::mu=>by
  unfold rL;cases h:aA p.2 k with
  | true=>exact .inr ⟨p,by simp,au h,rfl⟩
  | false =>
   have hne:p.2≠k:=fun e=>by rw[e,Nat.beq_refl] at h; cases h
   rcases Jl bd id k mu with ⟨h1,h2⟩ | ⟨q,h1,h2,h3⟩
   ·exact .inl ⟨fun q hq=>by rcases aG.1 hq with rfl | hq; exact hne; exact h1 q hq,h2⟩
   ·exact .inr ⟨q,by simp [h1],h2,h3⟩
theorem Kk {mu:List (Nat×Nat)} {bd:Bnd} {id:Nat}:(k0:Nat)->(bs:List Blk)->∀ p,p∈Hx mu bd id k0 bs↔∃ n b,bs[n]? = some b∧p=(rL bd id (k0+n) mu,b)
 | k0,[],p=>by simp [Hx]
 | k0,b::bs,p=>by
  simp only[Hx,aG,Kk (k0+1) bs p];constructor
  ·rintro (rfl | ⟨n,b',h1,h2⟩)
   ·exact ⟨0,b,rfl,rfl⟩
   ·exact ⟨n+1,b',by simpa using h1,by rw[h2]; congr 2; omega⟩
  ·rintro⟨n,b',h1,h2⟩;cases n with
   | zero=>injection h1 with h1; subst h1; exact .inl h2
   | succ n=>exact .inr ⟨n,b',by simpa using h1,by rw[h2]; congr 2; omega⟩
end
theorem Be {tg:List Nat} {t n i:Nat} (h:i<n):(X5 tg t n).getD i 0=cond (ci 2 (tg.getD i 1)) 2 t:=by
 unfold X5;rw[aE,bh,List.getElem?_range h]; rfl
theorem zbN {c:ShC} {i:Nat} (hi:i<c.inp.hs.length) (h:ci 2 (c.inp.tg.getD i 1)=true):c.has2=true:=by
 unfold ShC.has2;rw[List.any_eq_true];refine ⟨2,?_,rfl⟩;unfold X5;exact List.mem_map.2 ⟨i,bZ.2 hi,by rw[h]; rfl⟩
def Px (c:ShC) (g8:Gh) (ga:Nat):Reg:=fun b o=>g8.S ga b o∨(c.has2=true∧g8.S 2 b o)
def P6 (c:ShC) (g8:Gh):Reg:=fun b o=>c.has2=true∧g8.S 2 b o
def zbK (c:ShC) (X:Fx) (w:World) (l:Nat->Prop):Nat->Prop:=fun b=>w.heap.size<=b∨l b∨(c.has2=true∧X.N b)
theorem Jo {c:ShC} {X:Fx} {w:World} {l:Nat->Prop}:∀ b,w.heap.size<=b->zbK c X w l b:=fun _ h=>.inl h
theorem MemOk.enter {X:Fx} {g8:Gh} {w:World} {c:ShC} {ga:Nat} {x:jv c.inp.hs} (P:Program) (gl:Gl)
  (hm:MemOk X g8 (mkH 8 ((c.inpT ga).bks (fun j=>8+j) x)) (mkZ 8 c.inp.blks) (jF 8 c.inp.blks.length) w) (hgl:∀ q z,gl q=some z->X.gl q=some z∧Le 1 ga)
  {gc:Gh} (hgc:gc = { S:=zfj (Px c g8 ga) (P6 c g8),loc:=g8.loc }) :
  Retag w g8 gc (c.inpT ga) (X5 c.inp.tg 1 c.inp.hs.length) 8 x∧MemOk (Y0 P gl w (Px c g8 ga) (zbK c X w (lent gc (c.entry x).H (c.entry x).Z)) Jo gc (c.entry x).H (c.entry x).Z) gc (c.entry x).H (c.entry x).Z (jF 8 c.inp.blks.length) w:=by
 have hrt:Retag w g8 gc (c.inpT ga) (X5 c.inp.tg 1 c.inp.hs.length) 8 x:=by
  refine ⟨fun b=>by rw[hgc],fun i hi b o hb => ?_⟩
  rw[hgc];have hi':i<c.inp.hs.length:=hi;have e1:(c.inpT ga).tg.getD i 0=cond (ci 2 (c.inp.tg.getD i 1)) 2 ga:=Be hi';have e2:(X5 c.inp.tg 1 c.inp.hs.length).getD i 0=cond (ci 2 (c.inp.tg.getD i 1)) 2 1:=Be hi';rw[e1] at hb;rw[e2];cases hk:ci 2 (c.inp.tg.getD i 1) with
  | true =>
   rw[hk] at hb;exact .inr ⟨rfl,zbN hi' hk,hb⟩
  | false =>
   rw[hk] at hb;exact .inl ⟨.inr rfl,.inl hb⟩
 refine ⟨hrt,?_⟩;have hH:(c.entry x).H=mkH 8 (Sh.bks { c.inpT ga with tg:=X5 c.inp.tg 1 c.inp.hs.length } (fun j=>8+j) x):=rfl;have live:∀ b,(c.entry x).H b ≠ .dead->mkH 8 ((c.inpT ga).bks (fun j=>8+j) x) b ≠ .dead:=fun b h=>(hrt.H b).live.1 (hH▸h);have hloc:∀ b,gc.loc b=g8.loc b:=hrt.loc;have hA:∀ b o,Px c g8 ga b o->∃ q,g8.S q b o:=fun b o h=>h.elim (fun h=>⟨ga,h⟩) fun h=>⟨2,h.2⟩;have hS:∀ q b o,gc.S q b o->(q=0∨q=1∨q=2)∧Px c g8 ga b o∧(q=2->P6 c g8 b o):=fun q b o h=>by
  rw[hgc] at h;rcases h with ⟨h1,h2⟩ | ⟨h1,h2⟩
  ·exact ⟨h1.imp (fun h=>h) .inl,h2,fun h=>by rcases h1 with h' | h'<;>omega⟩
  ·exact ⟨.inr (.inr h1),.inr h2,fun _=>h2⟩
 have hS':∀ b o,Px c g8 ga b o->gc.S 1 b o∧gc.S 0 b o:=fun b o h=>by rw[hgc]; exact ⟨.inl ⟨.inr rfl,h⟩,.inl ⟨.inl rfl,h⟩⟩
 refine { blk:=fun b=>by rw[hH]; exact hrt.blk hm.blk b,used:=fun b hb=>hm.used b (live b hb),inj:=fun b b' r hb hb' hl hl'=>hm.inj b b' r (live b hb) (live b' hb') (hloc b▸hl) (hloc b'▸hl'),acc:=fun q b o hs=>(by obtain⟨k,hk⟩:=hA b o (hS q b o hs).2.1; exact hm.acc k b o hk),sep:=fun q r o b hs hb hl => ?_,up0:=fun q b o hs=>(hS' b o (hS q b o hs).2.1).2,up2:=fun q b o hq hs=>(by
  obtain⟨h1,h2,h3⟩:=hS q b o hs;have:q=2:=by omega
  subst this;rw[hgc];exact .inr ⟨rfl,h3 rfl⟩),dn:=fun b o hs=>.inl (hS 0 b o hs).2.1,fr:=fun b o hs=>.inr (.inr ⟨((hS 2 b o hs).2.2 rfl).1,hm.fr b o ((hS 2 b o hs).2.2 rfl).2⟩),nf:=fun b o hs hB=>(by
  obtain⟨k,hk⟩:=hA b o (hS 0 b o hs).2.1;rcases hB with (hB | ⟨x,hx,hl,-⟩ | ⟨-,hB⟩) | ⟨x,hx,hl,-⟩
  ·have:=hm.mem_lt hk;exact absurd this (ir.2 hB)
  ·exact hm.blkFrz (live x hx) (hloc x▸hl) o
  ·exact hm.nf b o (hm.up0 k b o hk) (.inl hB)
  ·exact hm.blkFrz (live x hx) (hloc x▸hl) o),keep:=fun _ _=>rfl,mine:=fun b r hb hl hk => ?_,own:=fun b r hb hl => ?_,os:=rfl,tape:=rfl,output:=rfl,size:=aC _,bnd:=aC _,glob:=fun q z hz => ?_,grow:=fun _ _ h=>h }
 ·obtain⟨k,hk⟩:=hA r o (hS q r o hs).2.1;obtain⟨h1,q',ts,xs,h2,h3⟩:=hm.sep k r o b hk (live b hb) (hloc b▸hl);refine ⟨h1,?_⟩;have ht:=hrt.H b;rw[h2] at ht;rw[hH] at hb ⊢;cases hk:mkH 8 (Sh.bks { c.inpT ga with tg:=X5 c.inp.tg 1 c.inp.hs.length } (fun j=>8+j) x) b with
  | dead=>exact absurd hk hb
  | cells cs=>rw[hk] at ht; exact ht.elim
  | seq q2 us ys =>
   rw[hk] at ht;obtain⟨⟨rfl,rfl⟩,-⟩:=ht;exact ⟨q2,_,_,rfl,h3⟩
 ·exact eY fun hc=>hk.2 ⟨b,hb,hl,hc⟩
 ·by_cases hc:(c.entry x).Z b=true∧((c.entry x).H b).isCells=true
  ·exact .inr (.inr hc)
  ·exact .inr (.inl ⟨b,hb,hl,hc⟩)
 ·obtain⟨h1,h2⟩:=hgl q z hz;have hsub:∀ b o,g8.S 1 b o->gc.S 1 b o∧mem w b o=mem w b o:=fun b o h=>⟨(hS' b o (.inl (hm.le h2 h))).1,rfl⟩;exact RC.mono hsub hsub _ _ _ _ (hm.glob q z h1)
theorem VO {nm:Nat->Nat}:(ts:List TB)->{ms:List AV}->{j:Nat}->{q:Nat}->{us:Tys}->{xs:List (Tup us)}->(qv nm ts ms)[j]? = some (.seq q us xs)->∃ z,ts[j]? = some (.seq z)
 | [],_,_,_,_,_,h=>by simp [qv] at h
 | t::ts,ms,0,q,us,xs,h=>by
  have h:some (vF nm t ms).1=some (.seq q us xs):=h;injection h with h;cases t with
  | seq z=>exact ⟨z,rfl⟩
  | cells z l=>cases h
 | t::ts,ms,j+1,q,us,xs,h=>VO ts (show (qv nm ts (vF nm t ms).2)[j]? = _ from h)
theorem PA {X:Fx} {g8:Gh} {w:World} {c:ShC} (hok:okC c=true) {ga:Nat} {x:jv c.inp.hs} (hm:MemOk X g8 (mkH 8 ((c.inpT ga).bks (fun j=>8+j) x)) (mkZ 8 c.inp.blks) (jF 8 c.inp.blks.length) w) {q r o:Nat} (hs:g8.S q r o) :
  ¬ lent g8 (mkH 8 ((c.inpT ga).bks (fun j=>8+j) x)) (mkZ 8 c.inp.blks) r:=by
 rintro⟨b,hb,hl,-⟩;obtain⟨hz,q',ts,xs,hH,-⟩:=hm.sep q r o b hs hb hl;obtain⟨j,k,rfl,h1,h2⟩:=sY hb;rw[h2] at hH;subst hH;obtain⟨z,ht⟩:=VO _ h1;have ht:c.inp.blks[j]? = some (.seq z):=ht;rw[WG ht] at hz;have:=zaJ hok _ (List.mem_of_getElem? ht);have hz:z=true:=hz;subst hz;cases this
def I2 (go g':Gh) (leak:Bool) (N:Nat->Prop) (id:Nat):Gh :=
 {S:=fun q b o=>go.S q b o∨((cond leak (g'.S 0 b o) (g'.S 2 b o))∧(q=0∨(N b∧(q=2∨(id<=q∧q<id+8))))),loc:=g'.loc }
theorem MemOk.leave {X:Fx} {g8 go:Gh} {Ho:Nat->Blk} {Zo:Nat->Bool} {Uo:Nat->Prop} {w w':World} {c:ShC} (hok:okC c=true) {ga:Nat} {x:jv c.inp.hs} {P:Program} {gl:Gl}
  (ho:MemOk X go Ho Zo Uo w) (hm:MemOk X g8 (mkH 8 ((c.inpT ga).bks (fun j=>8+j) x)) (mkZ 8 c.inp.blks) (jF 8 c.inp.blks.length) w) (hsub:∀ q b o,go.S q b o->g8.S q b o) (hlk:c.leak=true->go.S=g8.S)
  {gc:Gh} (_hgc:gc = { S:=zfj (Px c g8 ga) (P6 c g8),loc:=g8.loc }) (hrt:Retag w g8 gc (c.inpT ga) (X5 c.inp.tg 1 c.inp.hs.length) 8 x)
  {g':Gh} {n id fz:Nat} {y:jv c.out.hs} (hfz:∀ r,X.O r->X.N r) (hf:MemOk (Y0 P gl w (Px c g8 ga) (zbK c X w (lent gc (c.entry x).H (c.entry x).Z)) Jo gc (c.entry x).H (c.entry x).Z) g' (mkH n (c.out.bks (fun j=>n+j) y)) (mkZ n c.out.blks) (jF n c.out.blks.length) w') {hb:X.D<=w.heap.size} :
  Retag w' g' (I2 go g' c.leak X.N id) c.out (c.out.tg.map (IE id ga fz)) n y ∧
  MemOk (X.inner { S:=go.S,loc:=g8.loc } (mkH 8 ((c.inpT ga).bks (fun j=>8+j) x)) (mkZ 8 c.inp.blks) w hb) (I2 go g' c.leak X.N id) (mkH n ((c.outT id ga fz).bks (fun j=>n+j) y)) (mkZ n c.out.blks) (jF n c.out.blks.length) w' ∧
  ∀ q b o,go.S q b o->mem w' b o=mem w b o:=by
 have hlent:∀ r,lent gc (c.entry x).H (c.entry x).Z r↔lent g8 (mkH 8 ((c.inpT ga).bks (fun j=>8+j) x)) (mkZ 8 c.inp.blks) r:=fun r=>by
  have:=hrt.lent (Z:=mkZ 8 c.inp.blks);exact (congrFun this r)▸fv
 have hkeep:∀ q b o,go.S q b o->(Y0 P gl w (Px c g8 ga) (zbK c X w (lent gc (c.entry x).H (c.entry x).Z)) Jo gc (c.entry x).H (c.entry x).Z).Keep b:=fun q b o hs =>
  ⟨ho.mem_lt hs,fun hl=>PA hok hm (hsub q b o hs) ((hlent b).1 hl)⟩
 have hmem:∀ q b o,go.S q b o->mem w' b o=mem w b o:=fun q b o hs=>zE (hf.keep b (hkeep q b o hs)) o;have hlO:∀ r,lent gc (c.entry x).H (c.entry x).Z r->X.D<=r∨X.O r:=fun r hr=>(WO hm ((hlent r).1 hr)).1;have hlB:∀ r,lent gc (c.entry x).H (c.entry x).Z r->X.N r:=fun r hr=>by
  rcases hlO r hr with h | h
  ·exact X.hN _ h
  ·exact hfz r h
 have hN0:∀ b o,cond c.leak (g'.S 0 b o) (g'.S 2 b o)->g'.S 0 b o:=fun b o h=>by
  cases hl:c.leak with
  | true=>rw[hl] at h; exact h
  | false=>rw[hl] at h; exact hf.up0 2 b o h
 have hfresh:∀ b o,g'.S 2 b o->zbK c X w (lent gc (c.entry x).H (c.entry x).Z) b:=fun b o h=>hf.fr b o h;have hNX:∀ b,zbK c X w (lent gc (c.entry x).H (c.entry x).Z) b->X.N b:=fun b h=>h.elim (fun h=>X.hN _ (aT hb h)) fun h=>h.elim (hlB b) fun h=>h.2;have h2N:∀ b o,g'.S 2 b o->cond c.leak (g'.S 0 b o) (g'.S 2 b o):=fun b o h=>by
  cases hl:c.leak with
  | true=>exact hf.up0 2 b o h
  | false=>exact h
 have hrt2:Retag w' g' (I2 go g' c.leak X.N id) c.out (c.out.tg.map (IE id ga fz)) n y:=by
  refine ⟨fun b=>rfl,fun i hi b o hs => ?_⟩;by_cases hlt:i<c.out.tg.length
  ·have e1:c.out.tg.getD i 0=c.out.tg[i]:=by rw[aE,al hlt]; rfl
   have e2:(c.out.tg.map (IE id ga fz)).getD i 0=IE id ga fz c.out.tg[i]:=by rw[aE,bh,al hlt]; rfl
   rw[e1] at hs;rw[e2];unfold IE;cases ht:ci 2 c.out.tg[i] with
   | true =>
    have ht:=bV ht;have hs2:=hf.up2 _ b o ht hs;exact .inr ⟨h2N b o hs2,.inr ⟨hNX b (hfresh b o hs2),.inr ⟨aC _,by simp⟩⟩⟩
   | false =>
    have hleak:c.leak=true:=by
     rcases Iu hok with h | ⟨⟨-,h⟩,-⟩
     ·exact h
     ·have:=h _ (dx hlt);rw[Nat.ble_eq_true_of_le this] at ht; cases ht
    have hs0:=hf.up0 _ b o hs;have hNN:cond c.leak (g'.S 0 b o) (g'.S 2 b o):=by rw[hleak]; exact hs0
    simp only[cond_false];cases hz:aA fz 2 with
    | false=>exact .inr ⟨hNN,.inl rfl⟩
    | true =>
     have hz:=au hz;simp only[cond_true];rcases hf.dn b o hs0 with h | h | h
     ·left;rw[hlk hleak];rcases h with h | h
      ·exact hm.le (Ze ga 2) h
      ·exact hm.le (jM ga 2) h.2
     ·have h:w.heap.size<=b:=h;right;refine ⟨hNN,?_⟩;rcases S5 ga with h' | h'<;>rw[h']
      ·exact .inl rfl
      ·exact .inr ⟨hNX b (.inl h),.inl rfl⟩
     ·right;refine ⟨hNN,?_⟩;rcases S5 ga with h' | h'<;>rw[h']
      ·exact .inl rfl
      ·exact .inr ⟨hlB b h,.inl rfl⟩
  ·have e1:c.out.tg.getD i 0=0:=by rw[aE,aQ (by omega)]; rfl
   have e2:(c.out.tg.map (IE id ga fz)).getD i 0=0:=by rw[aE,aQ (by simp; omega)]; rfl
   rw[e1] at hs;rw[e2];have hleak:c.leak=true:=by
    rcases Iu hok with h | ⟨⟨h,-⟩,-⟩
    ·exact h
    ·omega
   exact .inr ⟨by rw[hleak]; exact hs,.inl rfl⟩
 refine ⟨hrt2,?_,hmem⟩;have hH:∀ b,TwoB _ _ _ _ _ _:=fun b=>hrt2.H b;have live:∀ b,mkH n ((c.outT id ga fz).bks (fun j=>n+j) y) b ≠ .dead->mkH n (c.out.bks (fun j=>n+j) y) b ≠ .dead:=fun b h=>(hrt2.H b).live.1 h;have cellsEq:∀ b,(mkH n ((c.outT id ga fz).bks (fun j=>n+j) y) b).isCells=(mkH n (c.out.bks (fun j=>n+j) y) b).isCells:=fun b=>(hrt2.H b).live.2.2.1.symm;have keepI:∀ k,(X.inner { S:=go.S,loc:=g8.loc } (mkH 8 ((c.inpT ga).bks (fun j=>8+j) x)) (mkZ 8 c.inp.blks) w hb).Keep k↔(Y0 P gl w (Px c g8 ga) (zbK c X w (lent gc (c.entry x).H (c.entry x).Z)) Jo gc (c.entry x).H (c.entry x).Z).Keep k:=fun k =>
  and_congr fv (not_congr (hlent k).symm)
 have lentI:∀ r,lent gc (c.entry x).H (c.entry x).Z r->lent { S:=go.S,loc:=g8.loc } (mkH 8 ((c.inpT ga).bks (fun j=>8+j) x)) (mkZ 8 c.inp.blks) r:=fun r hr=>(hlent r).1 hr
 refine { blk:=fun b=>hrt2.blk hf.blk b,used:=fun b hb=>hf.used b (live b hb),inj:=fun b b' r hb hb' hl hl'=>hf.inj b b' r (live b hb) (live b' hb') hl hl',acc:=fun q b o hs => ?_,sep:=fun q r o b hs hbd hl => ?_,up0:=fun q b o hs => ?_,up2:=fun q b o hq hs => ?_,dn:=fun b o hs => ?_,fr:=fun b o hs => ?_,nf:=fun b o hs hB=>(by
  have lentJ:∀ r,lent { S:=go.S,loc:=g8.loc } (mkH 8 ((c.inpT ga).bks (fun j=>8+j) x)) (mkZ 8 c.inp.blks) r->lent gc (c.entry x).H (c.entry x).Z r:=fun r hr=>(hlent r).2 hr;rcases hs with hs | ⟨hs,-⟩
  ·have hk:=hkeep 0 b o hs;rcases hB with hB | hB
   ·rw[vM (hf.keep b hk)];exact ho.nf b o hs (.inl hB)
   ·exact absurd (lentJ b hB) hk.2
  ·have hs0:=hN0 b o hs;by_cases hlb:lent gc (c.entry x).H (c.entry x).Z b
   ·exact hf.nf b o hs0 (.inr hlb)
   ·rcases hf.dn b o hs0 with h5 | h5 | h5
    ·obtain⟨k5,h5⟩:∃ k,g8.S k b o:=h5.elim (fun h=>⟨ga,h⟩) fun h=>⟨2,h.2⟩;rw[vM (hf.keep b ⟨hm.mem_lt h5,hlb⟩)];rcases hB with hB | hB
     ·exact hm.nf b o (hm.up0 k5 b o h5) (.inl hB)
     ·exact absurd (lentJ b hB) hlb
    ·exact hf.nf b o hs0 (.inl (.inl h5))
    ·exact absurd h5 hlb),keep:=fun k hk=>hf.keep k ((keepI k).1 hk),mine:=fun b r hbd hl hk => ?_,own:=fun b r hbd hl => ?_,os:=hf.os,tape:=hf.tape,output:=hf.output,size:=hf.size,bnd:=hf.bnd,glob:=fun q z hz => ?_,grow:=hf.grow }
 ·rcases hs with hs | ⟨hs,-⟩
  ·rw[hmem q b o hs]; exact ho.acc q b o hs
  ·exact hf.acc 0 b o (hN0 b o hs)
 ·have hlv:=live b hbd;have hs':g'.S 0 r o:=by
   rcases hs with hs | ⟨hs,-⟩
   ·exfalso;have hk:=hkeep q r o hs;rcases hf.own b r hlv hl with h | h | ⟨h1,h2⟩
    ·have h:w.heap.size<=r:=h;have:=hk.1; omega
    ·exact hk.2 h
    ·obtain⟨j,k,rfl,h3,h4⟩:=sY hlv;have hjl:j<c.out.blks.length:=by
      have:=(aw.1 h3).1;unfold Sh.bks at this;rwa [uP] at this
     have ht:=al hjl;rw[WG ht,C3 hok _ (dx hjl)] at h1;cases h1
   ·exact hN0 r o hs
  obtain⟨h1,q',ts,xs,h2,h3⟩:=hf.sep 0 r o b hs' hlv hl;refine ⟨h1,?_⟩;have ht:=hrt2.H b;rw[h2] at ht;cases hk:mkH n ((c.outT id ga fz).bks (fun j=>n+j) y) b with
  | dead=>exact absurd hk hbd
  | cells cs=>rw[show mkH n (Sh.bks { c.out with tg:=c.out.tg.map (IE id ga fz) } (fun j=>n+j) y) b = .cells cs from hk] at ht; exact ht.elim
  | seq q2 us ys =>
   rw[show mkH n (Sh.bks { c.out with tg:=c.out.tg.map (IE id ga fz) } (fun j=>n+j) y) b = .seq q2 us ys from hk] at ht
   obtain⟨⟨rfl,rfl⟩,-⟩:=ht;exact ⟨q2,_,_,rfl,h3⟩
 ·rcases hs with hs | ⟨hs,-⟩
  ·exact .inl (ho.up0 q b o hs)
  ·exact .inr ⟨hs,.inl rfl⟩
 ·rcases hs with hs | ⟨hs,h | h⟩
  ·exact .inl (ho.up2 q b o hq hs)
  ·omega
  ·exact .inr ⟨hs,.inr ⟨h.1,.inl rfl⟩⟩
 ·rcases hs with hs | ⟨hs,-⟩
  ·exact .inl hs
  ·cases hl:c.leak with
   | true =>
    rcases hf.dn b o (hN0 b o hs) with h | h | h
    ·left;show go.S 0 b o;rw[hlk hl];exact h.elim (hm.up0 ga b o) fun h=>hm.up0 2 b o h.2
    ·exact .inr (.inl h)
    ·exact .inr (.inr (lentI b h))
   | false =>
    rw[hl] at hs;have hno:c.has2=false:=by
     rcases Iu hok with h | ⟨-,h⟩
     ·rw[hl] at h; cases h
     ·exact h
    rcases hfresh b o hs with h | h | h
    ·exact .inr (.inl h)
    ·exact .inr (.inr (lentI b h))
    ·rw[hno] at h; cases h.1
 ·rcases hs with hs | ⟨hs,h | h⟩
  ·exact ho.fr b o hs
  ·omega
  ·exact h.1
 ·have:=hf.mine b r (live b hbd) hl ((keepI r).1 hk);exact ⟨this.1,by rw[cellsEq]; exact this.2⟩
 ·rcases hf.own b r (live b hbd) hl with h | h | ⟨h1,h2⟩
  ·exact .inl h
  ·exact .inr (.inl (lentI r h))
  ·exact .inr (.inr ⟨h1,by rw[cellsEq]; exact h2⟩)
 ·have hsb:∀ b o,go.S 1 b o->(I2 go g' c.leak X.N id).S 1 b o∧mem w' b o=mem w b o:=fun b o h=>⟨.inl h,hmem 1 b o h⟩;exact RC.mono hsb hsb _ _ _ _ (ho.glob q z hz)
theorem HA {c:Mem} {g:Gh} {H:Nat->Blk} {U:Nat->Prop} {as:List AV} {vs:List Value} (h:RL c g H U as vs):RAV c g H U (zfn as) (G2 vs):=by
 unfold zfn G2
 match as,vs,h with
 | [],vs,h =>
  simp only[RL] at h; subst h;exact ⟨_,rfl,rfl⟩
 | [a],vs,h =>
  obtain⟨v,us,rfl,h1,h2⟩:=h;have h2:us=[]:=h2;subst h2;exact h1
 | a::b::as,vs,h =>
  obtain⟨v,us,rfl,h1,h2⟩:=h;obtain⟨u,ws,rfl,h3,h4⟩:=h2;exact ⟨_,rfl,⟨v,u::ws,by simp,h1,u,ws,rfl,h3,h4⟩⟩
theorem Xq:(ts:List TB)->(bs:List Blk)->vH ts bs=true->∀(n:Nat) (t:TB) (b:Blk),ts[n]? = some t->bs[n]? = some b->Xi t b=true
 | [],_,_,_,_,_,ht,_=>by simp at ht
 | t0::ts,[],_,_,_,_,_,hb=>by simp at hb
 | t0::ts,b0::bs,hk,n,t,b,ht,hb=>by
  obtain⟨hk1,hk2⟩:=jB hk;cases n with
  | zero=>injection ht with ht; injection hb with hb; subst ht; subst hb; exact hk1
  | succ n=>exact Xq ts bs hk2 n t b (by simpa using ht) (by simpa using hb)
theorem EI {t:TB} (h:t.ro=true):∃ l,t = .cells true l:=by
 cases t with
 | seq z=>cases h
 | cells z l=>cases z with
  | true=>exact ⟨l,rfl⟩
  | false=>cases h
theorem X6 (H:Nat->Blk) (ws us:List (Nat×Blk)):qQ H (ws++us)=qQ (qQ H ws) us:=by
 unfold qQ; rw[List.foldl_append]
theorem Ar {H:Nat->Blk}:(C:List Nat)->(b:Nat)->qQ H (C.map fun b=>(b,Blk.dead)) b = .dead∨(b∉C∧qQ H (C.map fun b=>(b,Blk.dead)) b=H b):=by
 intro C
 induction C generalizing H with
 | nil=>intro b; exact .inr ⟨by simp,rfl⟩
 | cons c C ih =>
  intro b;show qQ (upd H c .dead) (C.map fun b=>(b,Blk.dead)) b = .dead∨_;rcases ih (H:=upd H c .dead) b with h | ⟨h1,h2⟩
  ·exact .inl h
  ·by_cases hb:b=c
   ·subst hb;rw[zx] at h2;exact .inl h2
   ·rw[xV _ _ hb] at h2;refine .inr ⟨by simp [hb,h1],?_⟩
    show qQ (upd H c .dead) (C.map fun b=>(b,Blk.dead)) b=H b;exact h2
theorem zeh {P:Program} {X:Fx} {fz:Nat} (hfz2:fz=2) (hB:fz=2->∀ r,X.O r->X.N r) {f:FuncId} {c:ShC} (hc:ShOk P X.gl f c):Rk P X fz f (.gen (shE c)):=by
 have hfz:fz=0∨fz=2:=.inr hfz2;intro R κ x g H hv Z U w id as vs hm hh hid hrl h;have h:shE c id fz as hv Z κ=some x:=h;unfold shE at h;obtain⟨p,hp,h⟩:=ah.1 h;obtain⟨q,hq,h⟩:=ah.1 h;generalize zb5 hv fz (p.1++q.1)=g0 at h;generalize hga:cond c.glob (jn g0 1) g0=ga at h;unfold zfD at h;obtain⟨d,hd,h⟩:=ah.1 h;obtain⟨y,hy,h⟩:=ah.1 h;clear hp hq;obtain⟨L1,L2,b1,hdok⟩:=Bx hd;have hok:=hc.ok
 -- what may be seen
 obtain⟨hmv,hmov⟩:=hm.fewer hh;obtain⟨g8,hS8,hl8,hm8,hrl8,hk8⟩:=hmv.weak hfz hB hdok (RL.mono hmov _ _ hrl) 8;have hm8:MemOk X g8 (mkH 8 ((c.inpT ga).bks (fun j=>8+j) d.x)) (mkZ 8 c.inp.blks) (jF 8 c.inp.blks.length) w:=hm8;have halive:∀ b,b∈d.zs->hv b ≠ .dead:=by
  intro b hb;rw[hdok.zs] at hb;obtain⟨a,ha,hb⟩:=List.mem_flatMap.1 hb;obtain⟨m,k,t,z,qq,-,h1,-⟩:=hdok.lf.left a ha;exact E9 h1 b hb
 have hS8':g8.S=(g.show H fz d.zs).S:=hS8.trans (MA hh halive)
 -- the outer state
 obtain⟨hmo,hmoo,-⟩:=hm.shown hfz hB (cond c.leak d.zs []);have hsub:∀ q b o,(g.show H fz (cond c.leak d.zs [])).S q b o->g8.S q b o:=by
  intro q b o hs;rw[hS8'];cases hlk:c.leak with
  | true=>rw[hlk] at hs; exact hs
  | false =>
   rw[hlk] at hs;rcases hs with hs | ⟨-,xx,hx,-⟩
   ·exact .inl hs
   ·cases hx
 have hlkS:c.leak=true->(g.show H fz (cond c.leak d.zs [])).S=g8.S:=by
  intro hlk;rw[hlk,hS8']; rfl
 -- the call
 obtain⟨hrt,hmc⟩:=MemOk.enter P (cond c.glob X.gl fun _=>none) hm8 (fun q z hz=>by
  cases hg:c.glob with
  | false=>rw[hg] at hz; cases hz
  | true =>
   rw[hg] at hz hga;exact ⟨hz,by rw[← hga]; exact jM g0 1⟩) rfl
 have hrlc:=hrt.RL hrl8;refine (hc.does w (Px c g8 ga) (P6 c g8) _ Jo _ vs d.x y (fun h2=>⟨fun b o h=>(nomatch (h2.symm.trans h.1:false=true)),fun b h=>h.elim .inl fun h=>h.elim .inr fun h=>(nomatch (h2.symm.trans h.1:false=true))⟩) (fun r hr=>.inr (.inl hr)) rfl hmc hrlc hy).mono ?_;intro v w' hpost;obtain⟨g',us,hf,hrl',hv',hmu,-⟩:=hpost id;obtain⟨hrt2,hmL,hmem⟩:=MemOk.leave hok hmo hm8 hsub hlkS rfl hrt (id:=id) (hB hfz2) hf (hb:=hmo.bB);have hmuok:=zcK hok;have hlen:=hdok.len;have hlen:d.bd.length=c.inp.blks.length:=hlen;have hfew:=zat hok
 -- blocks that are changed
 have hmub:∀ p,p∈c.mu->∃ i,d.bd[p.1]? = some (some i)∧U i∧hv i=H i∧g8.loc (8+p.1)=g.loc i∧SameKind (H i) ((c.entry d.x).H (8+p.1)):=by
  intro p hp;obtain⟨h1,h2,h3⟩:=hmuok p hp;obtain⟨⟨r,hr1,hr2⟩,hsk⟩:=hmu p hp;have hr1:g8.loc (8+p.1)=some r:=hr1;have hlt:p.1<d.bd.length:=by rw[hlen]; exact h1
  have ho:=al hlt;cases hoi:d.bd[p.1] with
  | none =>
   exfalso;rw[hoi] at ho;have hl:=hl8 p.1 none ho;rw[hr1] at hl;cases hl
  | some i =>
   rw[hoi] at ho;obtain⟨h4,-⟩:=hk8 p.1 i ho;have h4:SameKind (hv i) (mkH 8 ((c.inpT ga).bks (fun j=>8+j) d.x) (8+p.1)):=h4;have hne:hv i ≠ .dead:=fun e=>by rw[e] at h4; exact h4
   have hve:=(hh i).resolve_left hne;refine ⟨i,ho,hm.used i (hve▸hne),hve,hl8 p.1 _ ho,?_⟩;rw[hve] at h4;refine h4.trans ?_;have:=(hrt.H (8+p.1)).live.2.2.2;rcases this with hd' | hd'
   ·exfalso;have hsk':=hsk;rw[show (c.entry d.x).H (8+p.1) = .dead from hd'] at hsk'
    exact SameKind.dead hsk'
   ·exact hd'
 have hin:=zbT hok
 -- the names of the blocks behind
 have hname:∀ k,(rL d.bd id k c.mu=id+k∧∀ p,p∈c.mu->p.2≠k)∨∃ p i,p∈c.mu∧p.2=k∧d.bd[p.1]? = some (some i)∧rL d.bd id k c.mu=i:=by
  intro k;rcases Jl d.bd id k c.mu with ⟨h1,h2⟩ | ⟨p,h1,h2,h3⟩
  ·exact .inl ⟨h2,h1⟩
  ·obtain⟨i,h4,-⟩:=hmub p h1;rw[h4] at h3;exact .inr ⟨p,i,h1,h2,h4,h3⟩
 have hnew:∀ k,k<8->¬ U (id+k):=fun k hk=>hid _ (by omega) (by omega)
 have hUi:∀ p i,p∈c.mu->d.bd[p.1]? = some (some i)->U i:=by
  intro p i hp hi;obtain⟨i',h1,h2,-⟩:=hmub p hp;rw[h1] at hi;injection hi with hi; injection hi with hi;rw[← hi]; exact h2
 have hninj:∀ k k',k<8->k'<8->rL d.bd id k c.mu=rL d.bd id k' c.mu->k=k':=by
  intro k k' hk hk' he;rcases hname k with ⟨h1,h2⟩ | ⟨p,i,h1,h2,h3,h4⟩<;>rcases hname k' with ⟨h1',h2'⟩ | ⟨p',i',h1',h2',h3',h4'⟩
  ·omega
  ·exact absurd (hUi p' i' h1' h3') (by rw[← h4',← he,h1]; exact hnew k hk)
  ·exact absurd (hUi p i h1 h3) (by rw[← h4,he,h1']; exact hnew k' hk')
  ·have:i=i':=by rw[← h4,← h4',he]
   subst this;have:=hdok.inj _ _ _ h3 h3';have:=hin.1 p p' h1 h1' this;rw[← h2,← h2',this]
 -- from where a block comes
 let bks:=(c.outT id ga fz).bks (fun k=>id+k) y
 have hbl:bks.length=c.out.blks.length:=by show ((c.outT id ga fz).bks _ y).length=_; unfold Sh.bks; rw[uP]; rfl
 have hbl8:bks.length<=8:=by rw[hbl]; exact hfew
 let tk:List (Nat×Blk):=(sI c.inp d.bd).map fun b=>(b,Blk.dead)
 have hkeys:(Hx c.mu d.bd id 0 bks).Pairwise (fun p q=>p.1≠q.1):=by
  have gen:∀(bs:List Blk) (k0:Nat),k0+bs.length<=8->(Hx c.mu d.bd id k0 bs).Pairwise (fun p q=>p.1≠q.1):=by
   intro bs
   induction bs with
   | nil=>intro k0 _; exact ge
   | cons b bs ih =>
    intro k0 hk;simp only[List.length_cons] at hk;refine List.pairwise_cons.2 ⟨fun q hq => ?_,ih (k0+1) (by omega)⟩
    obtain⟨n,b',h1,rfl⟩:=(Kk (k0+1) bs q).1 hq;have hn:=(aw.1 h1).1;intro e;have:=hninj k0 (k0+1+n) (by omega) (by omega) e
    omega
  exact gen bks 0 (by omega)
 have hkey:∀ k,k<bks.length->∀ b,bks[k]? = some b->qQ H (tk++Hx c.mu d.bd id 0 bks) (rL d.bd id k c.mu)=b:=by
  intro k hk b hb;rw[X6];have hp:(rL d.bd id k c.mu,b)∈Hx c.mu d.bd id 0 bks:=(Kk 0 bks _).2 ⟨k,b,hb,by rw[aP]⟩
  exact Gm hkeys _ hp
 have hnokey:∀ b,(∀ k,k<bks.length->rL d.bd id k c.mu≠b)->qQ H (tk++Hx c.mu d.bd id 0 bks) b = .dead∨(b∉sI c.inp d.bd∧qQ H (tk++Hx c.mu d.bd id 0 bks) b=H b):=by
  intro b hb;rw[X6,vr fun r hr => ?_]
  ·exact Ar _ b
  ·obtain⟨n,b',h1,rfl⟩:=(Kk 0 bks r).1 hr;rw[aP];exact hb n (aw.1 h1).1
 obtain⟨src,hsrc1,hsrc2⟩:∃ src:Nat->Option Nat,(∀ k,k<bks.length->src (rL d.bd id k c.mu)=some (id+k))∧∀ b,(src b=none∧∀ k,k<bks.length->rL d.bd id k c.mu≠b)∨∃ k,k<bks.length∧rL d.bd id k c.mu=b∧src b=some (id+k):=by
  classical
  refine ⟨fun b=>if h:∃ k,k<bks.length∧rL d.bd id k c.mu=b then some (id+h.choose) else none,fun k hk => ?_,fun b => ?_⟩
  ·have hex:∃ k',k'<bks.length∧rL d.bd id k' c.mu=rL d.bd id k c.mu:=⟨k,hk,rfl⟩;have h1:=hex.choose_spec;show (if h:∃ k',k'<bks.length∧rL d.bd id k' c.mu=rL d.bd id k c.mu then some (id+h.choose) else none)=_
   rw[dif_pos hex,hninj _ _ (by omega) (by omega) h1.2]
  ·by_cases hex:∃ k,k<bks.length∧rL d.bd id k c.mu=b
   ·have h1:=hex.choose_spec;exact .inr ⟨hex.choose,h1.1,h1.2,by show (if h:∃ k,k<bks.length∧rL d.bd id k c.mu=b then some (id+h.choose) else none)=_; rw[dif_pos hex]⟩
   ·refine .inl ⟨by show (if h:∃ k,k<bks.length∧rL d.bd id k c.mu=b then some (id+h.choose) else none)=_; rw[dif_neg hex],fun k hk e=>hex ⟨k,hk,e⟩⟩
 have houtz:∀ b,mkZ id c.out.blks b=true->mkH id bks b = .dead:=by
  intro b hz;by_cases hd:mkH id bks b = .dead
  ·exact hd
  ·exfalso;obtain⟨j,k,rfl,h1,h2⟩:=sY hd;have hj:j<c.out.blks.length:=by rw[← hbl]; exact (aw.1 h1).1
   have ht:=al hj;rw[WG ht,C3 hok _ (dx hj)] at hz;cases hz
 have hHi:∀ k,k<bks.length->bks[k]? = some (mkH id bks (id+k)):=by
  intro k hk;have ht:=al hk;rw[Jy ht]; exact ht
 have hnotlent:∀ b,b∉sI c.inp d.bd->H b ≠ .dead->∀ r,g.loc b=some r->¬ lent g8 (mkH 8 ((c.inpT ga).bks (fun j=>8+j) d.x)) (mkZ 8 c.inp.blks) r:=by
  rintro b hnt hbd r hl ⟨b8,hb1,hb2,hb3⟩;obtain⟨j,kk,rfl,hj1,hj2⟩:=sY hb1;have hjl:j<d.bd.length:=by
   rw[hlen];have:=(aw.1 hj1).1;unfold Sh.bks at this;rw[uP] at this;exact this
  have ho:=al hjl;have hlj:=hl8 j _ ho;rw[hb2] at hlj;cases hoi:d.bd[j] with
  | none=>rw[hoi] at hlj; cases hlj
  | some i =>
   rw[hoi] at hlj ho;have hlj:some r=g.loc i:=hlj;obtain⟨hk1,-⟩:=hk8 j i ho;have hvi:hv i ≠ .dead:=fun e=>by rw[e] at hk1; exact hk1
   have hve:=(hh i).resolve_left hvi;have:b=i:=hm.inj b i r hbd (hve▸hvi) hl hlj.symm;subst this;have hjt:j<c.inp.blks.length:=by rw[← hlen]; exact hjl
   have ht:=al hjt;apply hnt;refine KU ht ?_ ho;cases hr:c.inp.blks[j].ro with
   | false=>rfl
   | true =>
    exfalso;apply hb3;obtain⟨l,hl2⟩:=EI hr;refine ⟨?_,?_⟩
    ·rw[WG ht,hl2]; rfl
    ·have:=Xq _ _ (hdok.kinds fun j=>8+j) j _ _ (show (c.inpT ga).blks[j]? = _ from ht) hj1
     rw[hl2] at this;rw[hj2];cases kk<;>first | rfl | cases this
 have em:Emb { S:=(g.show H fz (cond c.leak d.zs [])).S,loc:=g8.loc } (mkH 8 ((c.inpT ga).bks (fun j=>8+j) d.x)) (mkZ 8 c.inp.blks) (g.show H fz (cond c.leak d.zs [])) H (wu Z (cond c.leak d.zs [])) U
   (I2 (g.show H fz (cond c.leak d.zs [])) g' c.leak X.N id) (mkH id bks) (mkZ id c.out.blks) (jF id c.out.blks.length) (mem w) (mem w') (fun b=>match src b with | none=>g.loc b | some b'=>g'.loc b') (qQ H (tk++Hx c.mu d.bd id 0 bks)) (wu Z (cond c.leak d.zs [])) (UI U id) src:=by
  refine { old:=fun b hd hs => ?_,new:=fun b b' hd hs => ?_,inj:=fun b b2 b' hs hs' => ?_,used:=fun b hd => ?_,uo:=fun b hb=>.inl hb,ui:=fun b hb=>.inr ⟨hb.1,Nat.lt_of_lt_of_le hb.2 (by omega)⟩,outer:=fun b hb => ?_,inner:=fun b hb => ?_ }
  ·rcases hsrc2 b with ⟨-,h1⟩ | ⟨k,-,-,h3⟩
   ·rcases hnokey b h1 with h2 | ⟨h2,h3⟩
    ·exact absurd h2 hd
    ·refine ⟨h3,by show (match src b with | none=>g.loc b | some b'=>g'.loc b')=_; rw[hs]; rfl,fun r hr => ?_,fun h=>h⟩
     exact hnotlent b h2 (h3▸hd) r hr
   ·rw[hs] at h3; cases h3
  ·rcases hsrc2 b with ⟨h1,-⟩ | ⟨k,h1,h2,h3⟩
   ·rw[hs] at h1; cases h1
   ·rw[hs] at h3;injection h3 with h3;subst h3;subst h2;have h4:=hkey k h1 _ (hHi k h1);refine ⟨h4,by show (match src _ with | none=>g.loc _ | some b'=>g'.loc b')=_; rw[hs]; rfl,fun hz => ?_⟩
    rw[h4,houtz _ hz] at hd;exact absurd rfl hd
  ·rcases hsrc2 b with ⟨h1,-⟩ | ⟨k,h1,h2,h3⟩
   ·rw[hs] at h1; cases h1
   ·rcases hsrc2 b2 with ⟨h1',-⟩ | ⟨k',h1',h2',h3'⟩
    ·rw[hs'] at h1'; cases h1'
    ·rw[hs] at h3; rw[hs'] at h3';injection h3 with h3; injection h3' with h3';have:k=k':=by omega
     rw[← h2,← h2',this]
  ·rcases hsrc2 b with ⟨-,h1⟩ | ⟨k,h1,h2,-⟩
   ·rcases hnokey b h1 with h2 | ⟨-,h3⟩
    ·exact absurd h2 hd
    ·exact .inl (hm.used b (h3▸hd))
   ·rw[← h2];rcases hname k with ⟨h4,-⟩ | ⟨p,i,h4,-,h5,h6⟩
    ·rw[h4]; exact .inr ⟨by omega,by omega⟩
    ·rw[h6]; exact .inl (hUi p i h4 h5)
  ·rcases hsrc2 b with ⟨h1,-⟩ | ⟨k,h1,h2,h3⟩
   ·exact .inl h1
   ·rcases hname k with ⟨h4,-⟩ | ⟨p,i,h4,h5,h6,h7⟩
    ·rw[h2] at h4;exact absurd hb (h4▸hnew k (by omega))
    ·rw[h2] at h7;subst h7;obtain⟨i',h8,-,-,h10,h11⟩:=hmub p h4;rw[h6] at h8;injection h8 with h8; injection h8 with h8;subst h8;obtain⟨⟨r,hr1,hr2⟩,hsk⟩:=hmu p h4;have hr1:g8.loc (8+p.1)=some r:=hr1;rw[h10] at hr1;rw[h5] at hr2 hsk;have hkk:=hkey k h1 _ (hHi k h1);rw[h2] at hkk;have hsk2:SameKind (H b) (mkH id bks (id+k)):=by
      refine (h11.trans hsk).trans ?_;rcases (hrt2.H (id+k)).live.2.2.2 with hd' | hd'
      ·exfalso;have hl1:=(hrt2.H (id+k)).live.2.1 (fun e=>by rw[e] at hsk; cases hd0:(c.entry d.x).H (8+p.1)<;>rw[hd0] at hsk<;>exact hsk)
       exact hl1 hd'
      ·exact hd'
     refine .inr ⟨id+k,h3,hsk2,hr2.trans hr1.symm,hkk,?_,fun r0 _ j hj=>hmL.grow r0 j hj⟩;show (match src b with | none=>g.loc b | some b'=>g'.loc b')=g.loc b
     rw[h3];exact hr2.trans hr1.symm
  ·obtain⟨hb1,hb2⟩:=hb;obtain⟨k,rfl⟩:∃ k,b=id+k:=⟨b - id,by omega⟩
   have hk:k<bks.length:=by rw[hbl]; omega
   rcases hname k with ⟨h4,-⟩ | ⟨p,i,h4,h5,h6,h7⟩
   ·right;have h1:=hkey k hk _ (hHi k hk);have h2:=hsrc1 k hk;rw[h4] at h1 h2;exact ⟨h1,by show (match src _ with | none=>g.loc _ | some b'=>g'.loc b')=_; rw[h2]; rfl⟩
   ·left;have hnk:∀ k',k'<bks.length->rL d.bd id k' c.mu≠id+k:=by
     intro k' hk' e;rcases hname k' with ⟨h8,-⟩ | ⟨p',i',h8,-,h9,h10⟩
     ·have:k'=k:=by omega
      subst this;rw[e] at h7;exact absurd (hUi p i h4 h6) (h7▸hnew k' (by omega))
     ·rw[e] at h10;exact absurd (hUi p' i' h8 h9) (h10▸hnew k (by omega))
    rcases hnokey (id+k) hnk with h | ⟨-,h⟩
    ·exact h
    ·rw[h];cases hd:H (id+k) with
     | dead=>rfl
     | _=>exact absurd (hm.used _ (by rw[hd]; simp)) (hnew k (by omega))
 obtain⟨hM,hM1,hM2⟩:=hmo.embed2 (hb:=hmo.bB) hmL em rfl (fun q b o hs=>⟨.inl hs,hmem q b o hs⟩) (fun r hr=>by
  have:=WO hm8 (r:=r) hr;exact ⟨this.1,this.2.1⟩) (fun b hb h=>hb (houtz b h.1))
 refine ⟨_,_,_,h,?_,hM,hmoo.trans hM1⟩;rw[hv'];exact HA (RL.take (RL.mono hM2 _ _ (hrt2.RL hrl')) c.nres)
section
variable {R:Type}
def PL (H:Nat->Blk) (fz:Nat):List Nat->(hs:List Ty)->List AV->(jv hs->Option R)->Option R
 | _,[],[],κ=>κ ()
 | tg,[h],[a],κ=>cond (leB (ZC H fz a) (tg.headD 0)) (JT H fz h a fun y=>κ y) none
 | tg,h::i::hs,a::as,κ=>cond (leB (ZC H fz a) (tg.headD 0)) (JT H fz h a fun y=>PL H fz tg.tail (i::hs) as fun z=>κ (y,z)) none
 | _,_,_,_=>none
theorem CG (H:Nat->Blk) (fz:Nat):(tg:List Nat)->(hs:List Ty)->(as:List AV)->(κ:jv hs->Option R)->PL H fz tg hs as κ=(zb8 H fz tg hs as).bind κ
 | _,[],[],κ=>rfl
 | _,[],_::_,κ=>rfl
 | tg,[h],[],κ=>rfl
 | tg,[h],_::_::_,κ=>rfl
 | tg,[h],[a],κ=>by
  show cond (leB (ZC H fz a) (tg.headD 0)) (JT H fz h a fun y=>κ y) none=(cond (leB (ZC H fz a) (tg.headD 0)) ((vz H fz h a).bind fun y=>some y.2) none:Option (jv [h])).bind κ;cases leB (ZC H fz a) (tg.headD 0) with
  | false=>rfl
  | true =>
   simp only[cond_true,Kh];rw[bS];rfl
 | tg,h::i::hs,[],κ=>rfl
 | tg,h::i::hs,a::as,κ=>by
  show cond (leB (ZC H fz a) (tg.headD 0)) (JT H fz h a fun y=>PL H fz tg.tail (i::hs) as fun z=>κ (y,z)) none =
   (cond (leB (ZC H fz a) (tg.headD 0)) ((vz H fz h a).bind fun y=>(zb8 H fz tg.tail (i::hs) as).bind fun z=>some (y.2,z)) none:Option (jv (h::i::hs))).bind κ
  cases leB (ZC H fz a) (tg.headD 0) with
  | false=>rfl
  | true =>
   simp only[cond_true,Kh];rw[bS]
   congr 1
   funext y
   rw[CG H fz tg.tail (i::hs) as,bS];rfl
def Sh.decK (sh:Sh) (H:Nat->Blk) (Z:Nat->Bool) (fz:Nat) (as:List AV) (κ:Dec sh->Option R):Option R :=
 (uS sh.slots as []).bind fun p=>(JX H Z sh.blks 0 p.2).bind fun q=>PL H fz sh.tg sh.hs (p.1++q.1) fun x =>
  cond (vH sh.blks (sh.bks (fun j=>j) x)&&(yJ (p.1++q.1)).all fun b=>Xn (some b) q.2) (κ ⟨x,q.2,yJ (p.1++q.1)⟩) none
theorem Sh.decK_eq (sh:Sh) (H:Nat->Blk) (Z:Nat->Bool) (fz:Nat) (as:List AV) (κ:Dec sh->Option R):sh.decK H Z fz as κ=(sh.dec H Z fz as).bind κ:=by
 unfold Sh.decK Sh.dec;rw[bS]
 congr 1
 funext p
 rw[bS]
 congr 1
 funext q
 rw[CG,bS]
 congr 1
 funext x
 cases (vH sh.blks (sh.bks (fun j=>j) x)&&(yJ (p.1++q.1)).all fun b=>Xn (some b) q.2)<;>rfl
def XZ (tb:Tb) (st:St):List RT'->(List AV->Option R)->Option R
 | [],κ=>κ []
 | .tmp t::rs,κ=>XZ tb st rs fun as=>κ (st.φ t::as)
 | .cell a ty::rs,κ=>XL tb st.H ty (st.φ a) fun v=>XZ tb st rs fun as=>κ (v::as)
theorem WT (tb:Tb) (st:St):(rts:List RT')->(κ:List AV->Option R)->XZ tb st rts κ=(jd tb st rts).bind κ
 | [],κ=>rfl
 | .tmp t::rs,κ=>by
  show XZ tb st rs (fun as=>κ (st.φ t::as))=((jd tb st rs).bind fun as=>some (st.φ t::as)).bind κ;rw[WT tb st rs,bS];rfl
 | .cell a ty::rs,κ=>by
  show XL tb st.H ty (st.φ a) (fun v=>XZ tb st rs fun as=>κ (v::as))=((XL tb st.H ty (st.φ a) some).bind fun v=>(jd tb st rs).bind fun as=>some (v::as)).bind κ;rw[Dk,bS]
  congr 1
  funext v
  rw[WT tb st rs,bS];rfl
def Rw (tb:Tb) (fz:Nat) (c:ShC) (rts:List RT') (x:jv c.inp.hs):XE->St->Option (jv c.out.hs)
 | .normal,st=>XZ tb st rts fun as=>c.out.decK st.H st.Z fz (as++c.ms.map st.φ) fun d=>cond (neB c x) (cond (BN c x d.x) (some d.x) none) none
 | .ret,st=>XZ tb st rts fun as=>c.out.decK st.H st.Z fz (as++c.ms.map st.φ) fun d=>cond (neB c x) (cond (BN c x d.x) (some d.x) none) none
 | _,_=>none
theorem PT (tb:Tb) (fz:Nat) (c:ShC) (rts:List RT') (x:jv c.inp.hs):Rw tb fz c rts x=zgc tb fz c rts x:=by
 funext e st
 cases e<;>first | rfl | (simp only[Rw,zgc,WT]; congr 1; funext as; exact Sh.decK_eq ..)
def zb4 (c:ShC) (id fz:Nat) (as:List AV) (H:Nat->Blk) (Z:Nat->Bool) (κ:K R):Option R :=
 (uS c.inp.slots as []).bind fun p=>(JX H Z c.inp.blks 0 p.2).bind fun q =>
  let ga:=cond c.glob (jn (zb5 H fz (p.1++q.1)) 1) (zb5 H fz (p.1++q.1))
  (c.inpT ga).decK H Z fz as fun d=>(c.F d.x).bind fun y =>
   κ (zfn (((c.outT id ga fz).avs (fun k=>id+k) y).take c.nres)) ⟨(sI c.inp d.bd).map (fun b=>(b,.dead))++Hx c.mu d.bd id 0 ((c.outT id ga fz).bks (fun k=>id+k) y),cond c.leak d.zs []⟩
theorem NP (c:ShC) (id fz:Nat) (as:List AV) (H:Nat->Blk) (Z:Nat->Bool) (κ:K R):zb4 c id fz as H Z κ=shE c id fz as H Z κ:=by
 unfold zb4 shE
 congr 1
 funext p
 congr 1
 funext q
 exact Sh.decK_eq ..
theorem ze8 {P:Program} {gl:Gl} {f:FuncId} {ts:Tys} {out:Sh} {nres:Nat} {leak glob:Bool} {F:List (Tup ts)->Option (jv out.hs)} {F1:Unit->Option (jv out.hs)} {F2:Option (List (Tup ts))->Option (jv out.hs)}
  (h1:ShOk P gl f ⟨⟨[.nilv],[],[],[]⟩,out,nres,[],[],leak,glob,F1⟩) (h2:ShOk P gl f ⟨⟨[.hole],[],[1],[.ns ts]⟩,out,nres,[],[],leak,glob,F2⟩)
  (hF:∀ xs y,F xs=some y->F2 (some xs)=some y∧(xs=[]->F1 ()=some y)):ShOk P gl f ⟨⟨[.hole],[],[1],[.sl ts]⟩,out,nres,[],[],leak,glob,F⟩ where
 ok:=h1.ok
 does:=by
  intro w A A2 N hN g vs x y hh2 hNO hS hm hrl hy;obtain⟨e2,e1⟩:=hF x y hy;obtain⟨v,us,hvs,hv,hus⟩:=hrl;have hus:us=[]:=hus;subst hus;have hv:RE (mem w) (g.S 1) (.sl ts) x v:=hv;simp only[RE] at hv;obtain⟨a,cap,rfl,⟨hc1,hc2⟩,hx⟩:=hv;cases a with
  | none =>
   have hc:=hc2 rfl;subst hc;have hx0:x=[]:=List.eq_nil_of_length_eq_zero (by omega)
   subst hx0;exact h1.does w A A2 N hN g vs () y (fun _=>hh2 rfl) hNO hS hm ⟨_,[],hvs,rfl,rfl⟩ (e1 rfl)
  | some a =>
   refine h2.does w A A2 N hN g vs (some x) y (fun _=>hh2 rfl) hNO hS hm ⟨_,[],hvs,?_,rfl⟩ e2;show RE (mem w) (g.S 1) (.ns ts) (some x) _;simp only[RE];refine ⟨a,cap,rfl,hc1,hx.imp (fun h=>h) ?_⟩;rintro⟨b,o,h,hel⟩;injection h with h;subst h;exact ⟨rfl,hel⟩
end
def lp {X Y:Type} (step:(X->Option Y)->X->Option Y):Nat->X->Option Y
 | 0=>fun _=>none
 | k+1=>step (lp step k)
def ze:Nat:=13407807929942597099574024998205846127479365820592393377723561443721764030073546976801874298166903427690031858186486050853753882811946569946433649006084096
def yb {α β γ:Type} (y:α⊕β) (f:α->γ) (g:β->γ):γ :=
 match y with
 | .inl a=>f a
 | .inr b=>g b
theorem vT {α β γ:Type} (a:α) (f:α->γ) (g:β->γ):yb (.inl a) f g=f a:=rfl
theorem Lo {α β γ:Type} (b:β) (f:α->γ) (g:β->γ):yb (.inr b) f g=g b:=rfl
def RU (c:ShC) (as:List AV):Bool:=(uS c.inp.slots as []).isSome
def qp {R:Type}:List ShC->(id fz:Nat)->List AV->(Nat->Blk)->(Nat->Bool)->K R->Option R
 | [],_,_,_,_,_,_=>none
 | c::cs,id,fz,as,H,Z,κ=>cond (RU c as) (zb4 c id fz as H Z κ) (qp cs id fz as H Z κ)
theorem EY {R:Type} (c:ShC) (id fz:Nat) (H:Nat->Blk) (Z Z':Nat->Bool) (κ:K R):zb4 c id fz [] H Z κ=zb4 c id fz [] H Z' κ:=by
 have hB:∀ p,uS c.inp.slots [] []=some p->∀ Z,JX H Z c.inp.blks 0 p.2=JX H Z' c.inp.blks 0 p.2:=by
  intro p hp Z;have h2:p.2=[]:=by
   cases hs:c.inp.slots with
   | nil=>rw[hs] at hp; injection hp with hp; rw[← hp]
   | cons t ts=>rw[hs] at hp; cases hp
  rw[h2];cases c.inp.blks<;>rfl
 unfold zb4 Sh.decK;cases hp:uS c.inp.slots [] [] with
 | none=>rfl
 | some p =>
  simp only[aa];rw[hB p hp Z];cases hq:JX H Z' c.inp.blks 0 p.2 with
  | none=>rfl
  | some q =>
   simp only[aa];show ((uS c.inp.slots [] []).bind fun p=>(JX H Z c.inp.blks 0 p.2).bind _)=((uS c.inp.slots [] []).bind fun p=>(JX H Z' c.inp.blks 0 p.2).bind _);rw[hp];simp only[aa];rw[hB p hp Z]
theorem Gy {R:Type}:(cs:List ShC)->(id fz:Nat)->(H:Nat->Blk)->(Z Z':Nat->Bool)->(κ:K R)->qp cs id fz [] H Z κ=qp cs id fz [] H Z' κ
 | [],_,_,_,_,_,_=>rfl
 | c::cs,id,fz,H,Z,Z',κ=>by
  unfold qp;cases RU c [] with
  | true=>exact EY ..
  | false=>exact Gy cs ..
theorem Eu {R:Type}:(cs:List ShC)->(id fz:Nat)->(as:List AV)->(H:Nat->Blk)->(Z:Nat->Bool)->(κ:K R)->qp cs id fz as H Z κ=(qp cs id fz as H Z pk).bind (kb κ)
 | [],_,_,_,_,_,_=>rfl
 | c::cs,id,fz,as,H,Z,κ=>by
  unfold qp;cases RU c as with
  | true =>
   simp only[cond_true,NP];exact zbH ..
  | false=>exact Eu cs ..
def Good (P:Program) (gl:Gl) (f:FuncId) (c:Con):Prop :=
 c.nat∧∀ X:Fx,X.gl=gl->∀ fz,fz=2->(fz=2->∀ r,X.O r->X.N r)->Rk P X fz f c
theorem ID {P:Program} {gl:Gl} {f:FuncId} {cs:List ShC} (h:∀ c,c∈cs->ShOk P gl f c):Good P gl f (.gen (qp cs)):=by
 refine ⟨⟨fun {R}=>Eu cs,fun {R}=>Gy cs⟩,fun X hg fz hfz hB => ?_⟩;subst hg;intro R κ x g H hv Z U w id as vs hm hh hid hrl he;have he:qp cs id fz as hv Z κ=some x:=he
 induction cs with
 | nil=>cases he
 | cons c cs ih =>
  unfold qp at he;cases hf:RU c as with
  | true =>
   rw[hf,cond_true,NP] at he;exact zeh hfz hB (h c (by simp)) κ x g H hv Z U w id as vs hm hh hid hrl he
  | false =>
   rw[hf] at he;exact ih (fun c hc=>h c (by simp [hc])) he he
def gam:List (Nat×Con)->Ctx
 | [],_=>none
 | p::l,f=>cond (aA f p.1) (some p.2) (gam l f)
theorem BQ:{l:List (Nat×Con)}->{f:FuncId}->{c:Con}->gam l f=some c->(f,c)∈l
 | [],f,c,h=>by cases h
 | p::l,f,c,h=>by
  unfold gam at h;cases hb:aA f p.1 with
  | true =>
   rw[hb] at h;injection h with h;rw[au hb,← h];simp
  | false =>
   rw[hb] at h;exact ai _ (BQ h)
def WA (P:Program) (gl:Gl) (l:List (Nat×Con)):Prop:=∀ p,p∈l->Good P gl p.1 p.2
theorem zb {P:Program} {gl:Gl}:WA P gl []:=fun p hp=>by cases hp
theorem W7 {P:Program} {gl:Gl} {f:Nat} {c:Con} {l:List (Nat×Con)} (h:Good P gl f c) (hl:WA P gl l):WA P gl ((f,c)::l):=fun p hp=>by
 rcases aG.1 hp with rfl | hp
 ·exact h
 ·exact hl p hp
theorem ShOk.anyGl {P:Program} {gl gl':Gl} {f:FuncId} {c:ShC} (hg:c.glob=false) (h:ShOk P gl f c):ShOk P gl' f c:=by
 refine ⟨h.ok,?_⟩;have hd:=h.does;rw[hg] at hd ⊢;exact hd
def TQ:List (Nat×TD)->Tb
 | [],_=>none
 | p::l,t=>cond (aA t p.1) (some p.2) (TQ l t)
theorem En:{l:List (Nat×TD)}->{t:Nat}->{td:TD}->TQ l t=some td->(t,td)∈l
 | [],_,_,h=>by cases h
 | p::l,t,td,h=>by
  unfold TQ at h;cases hb:aA t p.1 with
  | true =>
   rw[hb] at h;injection h with h;rw[au hb,← h];simp
  | false =>
   rw[hb] at h;exact ai _ (En h)
def zfO (P:Program) (tb:Tb) (l:List (Nat×TD)):Prop:=∀ p,p∈l->zgE P tb p.1 p.2
theorem zd {P:Program} {l:List (Nat×TD)} (h:zfO P (TQ l) l):jk P (TQ l):=fun _ _ ht=>h _ (En ht)
def XN (tb:Tb) (gl:Gl) (l:List (Nat×Con)) (c:ShC) (n:Nat):Env :=
 {tb:=tb,gl:=cond c.glob gl fun _=>none,Γ:=gam l,fz:=2,n:=n }
theorem zq {P:Program} {tb:Tb} {gl:Gl} {l:List (Nat×Con)} {c:ShC} {n:Nat} (ht:jk P tb) (hg:WA P (cond c.glob gl fun _=>none) l):VAll P (XN tb gl l c n):=by
 have hfz:(XN tb gl l c n).fz=0∨(XN tb gl l c n).fz=2:=.inr rfl;exact ⟨ht,hfz,fun f c' h=>(hg _ (BQ h)).1,fun f c' h X hX hB=>(hg _ (BQ h)).2 X hX _ rfl hB⟩
def zgg (fn:Func) (c:ShC) (n:Nat):Bool :=
 !(fn.name == "runtime.NumGoroutine")&&ci c.inp.slots.length fn.ntmps&&aA n fn.ntmps&&okC c
def xR:Code->List Nat->Code
 | c,[]=>c
 | .seq a _,0::p=>xR a p
 | .seq _ b,_::p=>xR b p
 | .cond _ a _,0::p=>xR a p
 | .cond _ _ b,_::p=>xR b p
 | .block _ c,_::p=>xR c p
 | .loop c,_::p=>xR c p
 | .scope c,_::p=>xR c p
 | c,_=>c
def obl:Code->AC->List (Code×Un)
 | c,.unit u=>[(c,u)]
 | .seq a b,ac=>obl a ac.one++obl b ac.two
 | .cond _ a b,ac=>obl a ac.one++obl b ac.two
 | .block _ c,ac=>obl c ac.one
 | _,_=>[]
def Obl (P:Program) (X:Fx) (V:Env) (l:List (Code×Un)):Prop:=∀ p,p∈l->Pt P X V p.1 p.2
theorem zbC {P:Program} {X:Fx} {V:Env}:Obl P X V []:=fun p hp=>by cases hp
theorem RK {P:Program} {X:Fx} {V:Env} {c:Code} {u:Un} {l:List (Code×Un)} (h:Pt P X V c u) (hl:Obl P X V l):Obl P X V ((c,u)::l):=fun p hp=>by
 rcases aG.1 hp with rfl | hp
 ·exact h
 ·exact hl p hp
theorem Wi {P:Program} {X:Fx} {V:Env} (c:Code):∀ ac:AC,Obl P X V (obl c ac)->XX P X V c ac:=by
 induction c with
 | seq a b iha ihb =>
  intro ac h;by_cases hu:∃ u,ac = .unit u
  ·obtain⟨u,rfl⟩:=hu;exact h (_,u) (by simp [obl])
  ·have e:obl (.seq a b) ac=obl a ac.one++obl b ac.two:=by cases ac<;>first | rfl | exact absurd ⟨_,rfl⟩ hu
   have e':XX P X V (.seq a b) ac=(XX P X V a ac.one∧XX P X V b ac.two):=by cases ac<;>first | rfl | exact absurd ⟨_,rfl⟩ hu
   rw[e'];rw[e] at h;exact ⟨iha _ fun p hp=>h p (bk _ hp),ihb _ fun p hp=>h p (bp _ hp)⟩
 | cond x a b iha ihb =>
  intro ac h;by_cases hu:∃ u,ac = .unit u
  ·obtain⟨u,rfl⟩:=hu;exact h (_,u) (by simp [obl])
  ·have e:obl (.cond x a b) ac=obl a ac.one++obl b ac.two:=by cases ac<;>first | rfl | exact absurd ⟨_,rfl⟩ hu
   have e':XX P X V (.cond x a b) ac=(XX P X V a ac.one∧XX P X V b ac.two):=by cases ac<;>first | rfl | exact absurd ⟨_,rfl⟩ hu
   rw[e'];rw[e] at h;exact ⟨iha _ fun p hp=>h p (bk _ hp),ihb _ fun p hp=>h p (bp _ hp)⟩
 | block i c ih =>
  intro ac h;by_cases hu:∃ u,ac = .unit u
  ·obtain⟨u,rfl⟩:=hu;exact h (_,u) (by simp [obl])
  ·have e:obl (.block i c) ac=obl c ac.one:=by cases ac<;>first | rfl | exact absurd ⟨_,rfl⟩ hu
   have e':XX P X V (.block i c) ac=XX P X V c ac.one:=by cases ac<;>first | rfl | exact absurd ⟨_,rfl⟩ hu
   rw[e'];rw[e] at h;exact ih _ h
 | _ =>
  intro ac h;cases ac with
  | unit u=>exact h (_,u) (by simp [obl])
  | _=>trivial
theorem zeG {P:Program} {X:Fx} {V:Env} (c:Code):XX P X V c .run:=by
 induction c with
 | seq a b iha ihb=>exact ⟨iha,ihb⟩
 | cond x a b iha ihb=>exact ⟨iha,ihb⟩
 | block i c ih=>exact ih
 | _=>trivial
theorem zgr {P:Program} {V:Env} (hA:VAll P V) (zu:P.follows .mixedOrders=true) {c:Code} {ac:AC} {l:List (Code×Un)} (hl:obl c ac=l) (hac:∀ X:Fx,VOk P X V->Obl P X V l) {hd:SS} {es:Exs} {step:(hd.X->Option (YT es))->hd.X->Option (YT es)}
  (hs:∀ f x,E V c ac (mkS hd 8 x) (Bp V.fz hd es f)=step f x) {W:List Nat} (hW:ZJ c=W) (hro:es.all (fun e=>YF e.2.sh)=true) {X:Fx} (hX:VOk P X V):Pt P X V (.loop c) (lpU V.fz W hd es (lp step ze)) :=
 zfW hA zu (fun X hX=>Wi c ac (hl▸hac X hX)) (Fl:=lp step) (fun _=>rfl) (fun k x y h=>(hs (lp step k) x).trans h) hW (fun e s hm=>by
  rw[aD] at hro;exact hro _ hm) ze hX
theorem zf7 {P:Program} {tb:Tb} {gl:Gl} {l:List (Nat×Con)} {f:FuncId} {c:ShC} {n:Nat} {fn:Func} {code:Code} {rts:List RT'} (ht:jk P tb) (zu:P.follows .mixedOrders=true) (hg:WA P (cond c.glob gl fun _=>none) l)
  (hfn:P.funcs[f]? = some fn) (hb:fn.body=some code) (hr:fn.results=(rts.map RT'.var).toArray) (hn:c.nres=rts.length) (hrow:zgg fn c n=true) {ac:AC} {ob:List (Code×Un)} (hl:obl code ac=ob)
  (hac:∀ X:Fx,VOk P X (XN tb gl l c n)->Obl P X (XN tb gl l c n) ob)
  (hk:c.ms.all (fun t => !((ZJ code).any (aA t)))=true)
  (hE:∀ x,E (XN tb gl l c n) code ac (c.entry x) (Rw tb (XN tb gl l c n).fz c rts x)=c.F x):ShOk P gl f c:=by
 simp only[zgg,ay,cp] at hrow;obtain⟨⟨⟨h1,h2⟩,h3⟩,h4⟩:=hrow;refine FA (V:=XN tb gl l c n) (fn:=fn) (code:=code) (rts:=rts) ⟨hfn,h1,hb,hr,hn,bV h2,au h3,rfl,zq ht hg,zu,h4,hk⟩ ac (fun X hX=>Wi code ac (hl▸hac X hX)) (fun x y h=>by
  have:=(hE x).trans h;rw[PT] at this;exact this)
def RoundsL (P:Program) (c:Code) (Q:Exit->Act->World->Prop):Nat->Nat->Act->World->Prop
 | 0,_,_,_=>False
 | k+1,l,a,w=>∃ rest,findLabel c l=some rest∧rest.wp P (fun e a' w'=>match e with
  | .goto l'=>RoundsL P c Q k l' a' w'
  | e=>Q e a' w') a w
theorem RoundsL.mono {P:Program} {c:Code} {Q Q':Exit->Act->World->Prop} (h:∀ e a w,(∀ l,e ≠ .goto l)->Q e a w->Q' e a w):(k:Nat)->{l:Nat}->{a:Act}->{w:World}->RoundsL P c Q k l a w->RoundsL P c Q' k l a w
 | 0,_,_,_,h'=>h'.elim
 | k+1,l,a,w,h'=>by
  obtain⟨rest,h1,h2⟩:=h';refine ⟨rest,h1,wp_mono h2 fun e a' w' hq => ?_⟩;cases e with
  | goto l'=>exact RoundsL.mono h k hq
  | _=>exact h _ _ _ (by intro l; simp) hq
theorem JK {P:Program} {c:Code} {Q:Exit->Act->World->Prop} {a:Act} {w:World} (first:c.wp P (fun e a' w'=>match e with
  | .goto l=>∃ k,RoundsL P c Q k l a' w'
  | e=>Q e a' w') a w):(Code.scope c).wp P Q a w:=by
 intro b k cs;have key:∀ n l a w,RoundsL P c Q n l a w->∃ rest,gotoIn l (.inScope c::k)=some (.code rest :: .inScope c::k)∧∃ e a' w',Q e a' w'∧Arrives P (lone (b.at a (.code rest :: .inScope c::k)) cs w) b k cs e a' w':=by
  intro n
  induction n with
  | zero=>intro l a w h; exact h.elim
  | succ n ih =>
   intro l a w h;obtain⟨rest,hf,h⟩:=h;refine ⟨rest,by simp [gotoIn,hf],?_⟩
   obtain⟨e,a₁,w₁,hq,harr⟩:=h b (.inScope c::k) cs;cases e with
   | normal=>exact ⟨.normal,a₁,w₁,hq,il harr (.one step_inScope)⟩
   | exit id=>exact ⟨.exit id,a₁,w₁,hq,fun k' hk=>harr k' (by simp [exitTo,hk])⟩
   | goto l' =>
    obtain⟨rest',hg,e₂,a₂,w₂,hq₂,harr₂⟩:=ih l' a₁ w₁ hq;exact ⟨e₂,a₂,w₂,hq₂,.of_steps (harr _ hg) harr₂⟩
   | ret=>exact ⟨_,a₁,w₁,hq,harr⟩
   | panic ch=>exact ⟨_,a₁,w₁,hq,harr⟩
   | outgrown=>exact ⟨_,a₁,w₁,hq,harr⟩
 obtain⟨e,a₁,w₁,hq,harr⟩:=first b (.inScope c::k) cs;cases e with
 | normal=>exact ⟨.normal,a₁,w₁,hq,.head step_scope (il harr (.one step_inScope))⟩
 | exit id=>exact ⟨.exit id,a₁,w₁,hq,fun k' hk=>.head step_scope (harr k' (by simp [exitTo,hk]))⟩
 | goto l' =>
  obtain⟨n,hn⟩:=hq;obtain⟨rest',hg,e₂,a₂,w₂,hq₂,harr₂⟩:=key n l' a₁ w₁ hn;exact ⟨e₂,a₂,w₂,hq₂,.of_steps (.head step_scope (harr _ hg)) harr₂⟩
 | ret=>exact ⟨_,a₁,w₁,hq,.of_steps (.one step_scope) harr⟩
 | panic ch=>exact ⟨_,a₁,w₁,hq,.of_steps (.one step_scope) harr⟩
 | outgrown=>exact ⟨_,a₁,w₁,hq,.of_steps (.one step_scope) harr⟩
theorem Hl {l:Nat}:(c:Code)->{rest:Code}->findLabel c l=some rest->∀ t,t∈ZJ rest->t∈ZJ c:=by
 intro c
 induction c with
 | seq a b iha ihb =>
  intro rest h t ht;simp only[findLabel] at h;split at h
  ·rename_i r hr;injection h with h; subst h;simp only[ZJ,aI] at ht ⊢;exact ht.imp (iha hr t) fun h=>h
  ·simp only[ZJ,aI];exact .inr (ihb h t ht)
 | label l' =>
  intro rest h t ht;simp only[findLabel] at h;split at h
  ·injection h with h; subst h; cases ht
  ·cases h
 | _=>intro rest h; simp [findLabel] at h
def ST (fz:Nat) (js es:Exs) (f:YT js->Option (YT es)):XE->St->Option (YT es)
 | .normal,st=>HG fz es .normal st
 | .exit i,st=>HG fz es (.exit i) st
 | .goto l,st=>(HG fz js (.goto l) st).bind f
 | .ret,st=>HG fz es .ret st
def Hp {R:Type} (fz:Nat) (W:List Nat) (es:Exs):(js:Exs)->(YT js->Option (YT es))->XE->St->(XE->St->Option R)->Option R
 | [],_,_,_,_=>none
 | [e],F,xe,st,κ=>cond (XP e.1 xe) ((IL fz e.2 st).bind fun d=>(F d.x).bind fun y=>Wn es y fun xe s z=>κ xe (J2 W (sI e.2.sh d.bd) d.zs st s z)) none
 | e::f::js,F,xe,st,κ=>cond (XP e.1 xe) ((IL fz e.2 st).bind fun d=>(F (aU d.x)).bind fun y=>Wn es y fun xe s z=>κ xe (J2 W (sI e.2.sh d.bd) d.zs st s z))
   (Hp fz W es (f::js) (fun y=>F (aH y)) xe st κ)
def scU (V:Env) (W:List Nat) (js es:Exs) (c:Code) (ac:AC) (F:YT js->Option (YT es)):Un :=
 ⟨fun st κ=>E V c ac st fun xe st'=>match xe with
  | .normal=>κ .normal st'
  | .exit i=>κ (.exit i) st'
  | .goto l=>Hp V.fz W es js F (.goto l) st' κ
  | .ret=>κ .ret st'⟩
def Fi (V:Env) (c:Code) (acs:Nat->AC) (js es:Exs) (f:YT js->Option (YT es)) (y:YT js):Option (YT es) :=
 Wn js y fun xe s z=>match xe with
  | .goto l=>match findLabel c l with
   | some rest=>E V rest (acs l) (mkS s 8 z) (ST V.fz js es f)
   | none=>none
  | _=>none
def KH (es:Exs):Bool:=es.all fun e=>match e.1 with
 | .goto _=>false
 | _=>true
theorem He {P:Program} {V:Env} (hA:VAll P V) {X:Fx} (hX:VOk P X V) {R:Type} {st:St} {κ:XE->St->Option R} {x:R} {d:List Deferred} {a:Act} {w:World} {g:Gh} {U:Nat->Prop} (hn:Now X V d tC st a w g U)
  {hd:SS} {dd:Dec hd.sh} (hdd:IL V.fz hd st=some dd) {es:Exs} {y:YT es} {W:List Nat} (hro:∀ e s,(e,s)∈es->YF s.sh=true) (h:Wn es y (fun xe s z=>κ xe (J2 W (sI hd.sh dd.bd) dd.zs st s z))=some x) :
  ∃ g1,∃ hb:X.D<=w.heap.size,Now (X.inner g1 (mkS hd 8 dd.x).H (mkS hd 8 dd.x).Z w hb) V d tC (mkS hd 8 dd.x) a w g1 (jF 8 hd.sh.blks.length)∧(X.inner g1 (mkS hd 8 dd.x).H (mkS hd 8 dd.x).Z w hb).gl=V.gl ∧
   (V.fz=2->∀ r,(X.inner g1 (mkS hd 8 dd.x).H (mkS hd 8 dd.x).Z w hb).O r->(X.inner g1 (mkS hd 8 dd.x).H (mkS hd 8 dd.x).Z w hb).N r) ∧
   ∀ e a' w',Vq (X.inner g1 (mkS hd 8 dd.x).H (mkS hd 8 dd.x).Z w hb) V W d es y st.nx w g1 a e a' w'->JQ X V W d κ x st a w g U e a' w':=by
 have hg:X.gl=V.gl:=hX.gl.symm;obtain⟨g1,hS1,hn1,hloc,hkz⟩:=hn.weak hA.fz hX.own hdd 8;obtain⟨L1,L2,b1,hdok⟩:=Bx hdd;have hin:=hn1.mem.inner;have hB':V.fz=2->∀ r,(X.inner g1 (mkS hd 8 dd.x).H (mkS hd 8 dd.x).Z w hn1.mem.bB).O r->(X.inner g1 (mkS hd 8 dd.x).H (mkS hd 8 dd.x).Z w hn1.mem.bB).N r:=fun h2 r hr=>by
  rcases (WO hn1.mem hr).1 with h' | h'
  ·exact X.hN _ h'
  ·exact hX.own h2 r h'
 have hnin:Now (X.inner g1 (mkS hd 8 dd.x).H (mkS hd 8 dd.x).Z w hn1.mem.bB) V d tC (mkS hd 8 dd.x) a w g1 (jF 8 hd.sh.blks.length):={ hn1 with mem:=hin };refine ⟨g1,hn1.mem.bB,hnin,hg,hB',fun e a' w' hq => ?_⟩;have hex:=Qe es (q:=fun xe s z=>∃ g3 U3,kV e xe∧Now X V d tC (J2 W (sI hd.sh dd.bd) dd.zs st s z) a' w' g3 U3∧Since (· ∈ W) w g st.H U a w' g3 (J2 W (sI hd.sh dd.bd) dd.zs st s z).H U3 a') (fun xe s z hm hp=>by
  obtain⟨he,g',hn',hsi⟩:=hp;obtain⟨g3,U3,h3,h4⟩:=hn.join (fz:=V.fz) hA.fz hX.own (C:=sI hd.sh dd.bd) hS1 (fun r hr=>by
   obtain⟨b,hb1,hb2,hb3⟩:=hr;obtain⟨j,kk,rfl,hj1,hj2⟩:=sY hb1;have hjl:j<dd.bd.length:=by
    rw[hdok.len];have:=(aw.1 hj1).1;unfold Sh.bks at this;rwa [uP] at this
   have ho:=al hjl;have hl:=hloc j _ ho;rw[hb2] at hl;cases hoi:dd.bd[j] with
   | none=>rw[hoi] at hl; cases hl
   | some i =>
    rw[hoi] at hl ho;obtain⟨hk1,hk2⟩:=hkz j i ho;have hjt:j<hd.sh.blks.length:=by rw[← hdok.len]; exact hjl
    have ht:=al hjt;have hzi:wu st.Z dd.zs i=st.Z i:=by
     rw[QE];have:(dd.zs.any fun z=>aA i z)=false:=by
      rw[List.any_eq_false];intro z hz he;have:=au he;subst this;exact kG (hdok.fresh _ hz) j ho
     rw[this,Bool.or_false]
    refine ⟨i,KU ht ?_ ho,fun hdd' => ?_,hl.symm,fun hc=>hb3 ?_⟩
    ·cases hr:hd.sh.blks[j].ro with
     | false=>rfl
     | true =>
      exfalso;apply hb3;obtain⟨l,hl2⟩:=EI hr;refine ⟨?_,?_⟩
      ·show mkZ 8 hd.sh.blks (8+j)=true;rw[WG ht,hl2]; rfl
      ·have:=Xq _ _ (hdok.kinds fun j=>8+j) j _ _ ht hj1;rw[hl2] at this;show (mkH 8 _ (8+j)).isCells=true;rw[hj2];cases kk<;>first | rfl | cases this
    ·rw[hdd'] at hk1;exact hk1.elim
    ·have hz:st.Z i=true:=hzi▸hc.1;refine ⟨hk2 hz,?_⟩;have hcs:=hc.2;cases hHi:st.H i<;>rw[hHi] at hcs hk1<;>first | cases hcs | skip
     cases hHj:(mkS hd 8 dd.x).H (8+j)<;>rw[hHj] at hk1<;>first | rfl | exact hk1.elim) (hro xe s hm) hn' hsi
  exact ⟨g3,U3,he,h3,h4⟩) hq
 have fin:∀(es:Exs) (y:YT es),Wn es y (fun xe s z=>κ xe (J2 W (sI hd.sh dd.bd) dd.zs st s z))=some x->Wn es y (fun xe s z=>∃ g3 U3,kV e xe∧Now X V d tC (J2 W (sI hd.sh dd.bd) dd.zs st s z) a' w' g3 U3∧Since (· ∈ W) w g st.H U a w' g3 (J2 W (sI hd.sh dd.bd) dd.zs st s z).H U3 a') ->
   JQ X V W d κ x st a w g U e a' w':=by
  intro es
  induction es with
  | nil=>intro y; exact nomatch y
  | cons e0 es ih =>
   intro y h1 h2;cases es with
   | nil =>
    obtain⟨g3,U3,he,h3,h4⟩:=h2;exact ⟨e0.1,_,g3,U3,he,h1,h3,h4⟩
   | cons f es =>
    match y,h1,h2 with
    | .inl z,h1,h2 =>
     obtain⟨g3,U3,he,h3,h4⟩:=h2;exact ⟨e0.1,_,g3,U3,he,h1,h3,h4⟩
    | .inr z,h1,h2=>exact ih z h1 h2
 exact fin es y h hex
theorem VD {P:Program} {V:Env} (hA:VAll P V) (zu:P.follows .mixedOrders=true) {c:Code} {acs:Nat->AC} {js es:Exs} (hac:∀ X:Fx,VOk P X V->∀ l rest,findLabel c l=some rest->XX P X V rest (acs l)) {Fl:Nat->YT js->Option (YT es)} (h0:∀ x,Fl 0 x=none)
  (hs:∀ k x y,Fl (k+1) x=some y->Fi V c acs js es (Fl k) x=some y) (hgo:KH es=true) {X:Fx} (hg:X.gl=V.gl) (hB:V.fz=2->∀ r,X.O r->X.N r) {n1:Nat} {d:List Deferred} {W:List Nat} (hW:∀ t,t∈ZJ c->t∈W) {w0:World} {g0:Gh} {a0:Act} :
  (k:Nat)->{x:YT js}->{y:YT es}->Fl k x=some y->Wn js x fun xe s z=>∀(a:Act) (w:World) (g:Gh) (U:Nat->Prop),Now X V d tC (mkS s 8 z) a w g U->SinceS W w0 g0 a0 w g a->∃ l,xe = .goto l∧RoundsL P c (Vq X V W d es y n1 w0 g0 a0) k l a w
 | 0,x,y,h=>by rw[h0] at h; cases h
 | k+1,x,y,h=>by
  have hX:=hA.ok hg hB;have hp:=hs k x y h;unfold Fi at hp;have gen:∀(js':Exs) (x':YT js'),Wn js' x' (fun xe s z=>(match xe with
    | .goto l=>match findLabel c l with
     | some rest=>E V rest (acs l) (mkS s 8 z) (ST V.fz js es (Fl k))
     | none=>none
    | _=>none)=some y)->Wn js' x' fun xe s z=>∀(a:Act) (w:World) (g:Gh) (U:Nat->Prop),Now X V d tC (mkS s 8 z) a w g U->SinceS W w0 g0 a0 w g a->∃ l,xe = .goto l∧RoundsL P c (Vq X V W d es y n1 w0 g0 a0) (k+1) l a w:=by
   intro js' x' hp;refine Qe js' (fun xe s z _ hp a w g U hn hsi => ?_) hp;cases xe with
   | goto l =>
    simp only at hp;split at hp
    ·rename_i rest hf;refine ⟨l,rfl,rest,hf,?_⟩;refine wp_mono (IB hX hA.nat zu rest (acs l) (hac X hX l rest hf) _ _ _ hp d a w g U hn) ?_;rintro e a1 w1 ⟨xe,st1,g1,U1,he,hk,hn1,hs1⟩;have hsi1:SinceS W w0 g0 a0 w1 g1 a1:=hsi.trans ⟨hs1.mono.hS,fun t ht=>hs1.tmps t fun h'=>ht (hW t (Hl c hf t h'))⟩;cases e<;>cases xe<;>simp only[kV] at he
     ·exact WZ hA.fz hB (e:=.normal) (xe:=.normal) trivial hn1 hk hsi1
     ·exact WZ hA.fz hB (xe:=.exit _) (by exact he) hn1 hk hsi1
     ·rename_i l1 l2;subst he;have hk:(HG V.fz js (.goto l1) st1).bind (Fl k)=some y:=hk;obtain⟨y1,hy1,hk⟩:=ah.1 hk;have ih:=VD hA zu hac h0 hs hgo hg hB (n1:=n1) (d:=d) hW (w0:=w0) (g0:=g0) (a0:=a0) k hk;have hdx:=Cm js hy1;have hboth:∀(js:Exs) (y1:YT js),Wn js y1 (fun xe' s z=>xe' = .goto l1∧∃ d,IL V.fz s st1=some d∧d.x=z)->Wn js y1 (fun xe s z=>∀(a:Act) (w:World) (g:Gh) (U:Nat->Prop),Now X V d tC (mkS s 8 z) a w g U->SinceS W w0 g0 a0 w g a->∃ l,xe = .goto l∧RoundsL P c (Vq X V W d es y n1 w0 g0 a0) k l a w) ->
        RoundsL P c (Vq X V W d es y n1 w0 g0 a0) k l1 a1 w1:=by
       intro js;have one:∀(xe':XE) (s:SS) (z:s.X),(xe' = .goto l1∧∃ d,IL V.fz s st1=some d∧d.x=z)->(∀(a:Act) (w:World) (g:Gh) (U:Nat->Prop),Now X V d tC (mkS s 8 z) a w g U->SinceS W w0 g0 a0 w g a->∃ l,xe' = .goto l∧RoundsL P c (Vq X V W d es y n1 w0 g0 a0) k l a w) ->
         RoundsL P c (Vq X V W d es y n1 w0 g0 a0) k l1 a1 w1:=by
        rintro xe' s z ⟨rfl,dd,hdd,rfl⟩ hr;obtain⟨g',h1,h2,-,-⟩:=hn1.weak hA.fz hB hdd 8;obtain⟨l,hl,hr⟩:=hr _ _ _ _ h2 (hsi1.sub (G8 h1));injection hl with hl; subst hl;exact hr
       induction js with
       | nil=>intro y1; exact nomatch y1
       | cons e0 js ih =>
        intro y1 h1 h2;cases js with
        | nil=>exact one _ _ _ h1 h2
        | cons f js =>
         match y1,h1,h2 with
         | .inl z,h1,h2=>exact one _ _ _ h1 h2
         | .inr z,h1,h2=>exact ih z h1 h2
      exact hboth js y1 hdx ih
     ·exact WZ hA.fz hB (e:=.ret) (xe:=.ret) trivial hn1 hk hsi1
    ·cases hp
   | _=>cases hp
  refine gen js x ?_;have lift:∀(js':Exs) (x':YT js') (f:XE->(s:SS)->s.X->Option (YT es)),Wn js' x' f=some y->Wn js' x' fun xe s z=>f xe s z=some y:=by
   intro js'
   induction js' with
   | nil=>intro x'; exact nomatch x'
   | cons e0 js' ih =>
    intro x' f h;cases js' with
    | nil=>exact h
    | cons e1 js' =>
     match x',h with
     | .inl z,h=>exact h
     | .inr z,h=>exact ih z f h
  exact lift js x _ hp
theorem zfC {P:Program} {V:Env} (hA:VAll P V) (zu:P.follows .mixedOrders=true) {c:Code} {ac:AC} {acs:Nat->AC} (hac0:∀ X:Fx,VOk P X V->XX P X V c ac) {js es:Exs} (hac:∀ X:Fx,VOk P X V->∀ l rest,findLabel c l=some rest->XX P X V rest (acs l)) {Fl:Nat->YT js->Option (YT es)} (h0:∀ x,Fl 0 x=none)
  (hs:∀ k x y,Fl (k+1) x=some y->Fi V c acs js es (Fl k) x=some y) (hgo:KH es=true) {W:List Nat} (hW:ZJ c=W) (hro:∀ e s,(e,s)∈es->YF s.sh=true) (k:Nat) {X:Fx} (hX:VOk P X V):Pt P X V (.scope c) (scU V W js es c ac (Fl k)):=by
 intro R st κ x h d a w g U hn;have h:E V c ac st (fun xe st'=>match xe with
  | .normal=>κ .normal st'
  | .exit i=>κ (.exit i) st'
  | .goto l=>Hp V.fz W es js (Fl k) (.goto l) st' κ
  | .ret=>κ .ret st')=some x:=h
 refine JK (wp_mono (IB hX hA.nat zu c ac (hac0 X hX) _ _ _ h d a w g U hn) ?_);rintro e a1 w1 ⟨xe,st1,g1,U1,he,hk,hn1,hs1⟩;have hs1:Since (· ∈ W) w g st.H U a w1 g1 st1.H U1 a1:=hW▸hs1;cases e<;>cases xe<;>simp only[kV] at he
 ·exact ⟨.normal,st1,g1,U1,trivial,hk,hn1,by show Since (· ∈ ZJ c) _ _ _ _ _ _ _ _ _ _; rw[hW]; exact hs1⟩
 ·exact ⟨.exit _,st1,g1,U1,he,by subst he; exact hk,hn1,by show Since (· ∈ ZJ c) _ _ _ _ _ _ _ _ _ _; rw[hW]; exact hs1⟩
 ·rename_i l1 l2;subst he;have hk:Hp V.fz W es js (Fl k) (.goto l1) st1 κ=some x:=hk;refine ⟨k,?_⟩;have one:∀(xe':XE) (hd:SS) (z:hd.X) (dd:Dec hd.sh) (y:YT es),XP xe' (.goto l1)=true->IL V.fz hd st1=some dd->dd.x=z->Wn es y (fun xe s z=>κ xe (J2 W (sI hd.sh dd.bd) dd.zs st1 s z))=some x ->
    (∀(X:Fx),X.gl=V.gl->(V.fz=2->∀ r,X.O r->X.N r)->∀(n1:Nat) (w0:World) (g0:Gh) (a0:Act) (a:Act) (w:World) (g:Gh) (U:Nat->Prop),Now X V d tC (mkS hd 8 z) a w g U->SinceS W w0 g0 a0 w g a->∃ l,xe' = .goto l∧RoundsL P c (Vq X V W d es y n1 w0 g0 a0) k l a w) ->
    RoundsL P c (JQ X V (ZJ (.scope c)) d κ x st a w g U) k l1 a1 w1:=by
   intro xe' hd z dd y hx hdd hz h1 hr;subst hz;have hx:=IG hx;subst hx;obtain⟨g2,hb,hnin,hg2,hB2,hex⟩:=He hA hX hn1 hdd hro h1;obtain⟨l,hl,hr⟩:=hr _ hg2 hB2 st1.nx w1 g2 a1 a1 w1 g2 _ hnin (SinceS.refl (W:=W));injection hl with hl; subst hl;refine RoundsL.mono (fun e a' w' _ hq => ?_) k hr;obtain⟨xe,st2,g3,U3,he,hk3,hn3,hs3⟩:=hex e a' w' hq;refine ⟨xe,st2,g3,U3,he,hk3,hn3,?_⟩;show Since (· ∈ ZJ c) _ _ _ _ _ _ _ _ _ _;rw[hW];exact hs1.trans hs3
  have gen:∀(js':Exs) (F:YT js'->Option (YT es)),(∀(y':YT js') (y:YT es),F y'=some y->Wn js' y' fun xe s z=>∀(X:Fx),X.gl=V.gl->(V.fz=2->∀ r,X.O r->X.N r)->∀(n1:Nat) (w0:World) (g0:Gh) (a0:Act) (a:Act) (w:World) (g:Gh) (U:Nat->Prop),Now X V d tC (mkS s 8 z) a w g U->SinceS W w0 g0 a0 w g a->∃ l,xe = .goto l∧RoundsL P c (Vq X V W d es y n1 w0 g0 a0) k l a w) ->
    Hp V.fz W es js' F (.goto l1) st1 κ=some x->RoundsL P c (JQ X V (ZJ (.scope c)) d κ x st a w g U) k l1 a1 w1:=by
   intro js'
   induction js' with
   | nil=>intro F hF h; cases h
   | cons e0 js' ih =>
    intro F hF h;cases js' with
    | nil =>
     have h:cond (XP e0.1 (.goto l1)) ((IL V.fz e0.2 st1).bind fun d=>(F d.x).bind fun y=>Wn es y fun xe s z=>κ xe (J2 W (sI e0.2.sh d.bd) d.zs st1 s z)) none=some x:=h;cases hx:XP e0.1 (.goto l1) with
     | false=>rw[hx] at h; cases h
     | true =>
      rw[hx] at h;obtain⟨dd,hdd,h⟩:=ah.1 h;obtain⟨y,hy,h⟩:=ah.1 h;exact one e0.1 e0.2 dd.x dd y hx hdd rfl h (hF dd.x y hy)
    | cons f js' =>
     have h:cond (XP e0.1 (.goto l1)) ((IL V.fz e0.2 st1).bind fun d=>(F (aU d.x)).bind fun y=>Wn es y fun xe s z=>κ xe (J2 W (sI e0.2.sh d.bd) d.zs st1 s z)) (Hp V.fz W es (f::js') (fun y=>F (aH y)) (.goto l1) st1 κ)=some x:=h;cases hx:XP e0.1 (.goto l1) with
     | false =>
      rw[hx] at h;exact ih (fun y=>F (aH y)) (fun y' y hy=>hF (aH y') y hy) h
     | true =>
      rw[hx] at h;obtain⟨dd,hdd,h⟩:=ah.1 h;obtain⟨y,hy,h⟩:=ah.1 h;exact one e0.1 e0.2 dd.x dd y hx hdd rfl h (hF (aU dd.x) y hy)
  refine gen js (Fl k) (fun y' y hy => ?_) hk;have base:=fun (X:Fx) hg hB (n1:Nat) w0 g0 a0=>VD (X:=X) hA zu hac h0 hs hgo hg hB (n1:=n1) (d:=d) (W:=W) (fun t ht=>hW▸ht) (w0:=w0) (g0:=g0) (a0:=a0) k hy;have zeu:∀(js':Exs) (y':YT js'),(∀(X:Fx),X.gl=V.gl->(V.fz=2->∀ r,X.O r->X.N r)->∀(n1:Nat) (w0:World) (g0:Gh) (a0:Act),Wn js' y' fun xe s z=>∀(a:Act) (w:World) (g:Gh) (U:Nat->Prop),Now X V d tC (mkS s 8 z) a w g U->SinceS W w0 g0 a0 w g a->∃ l,xe = .goto l∧RoundsL P c (Vq X V W d es y n1 w0 g0 a0) k l a w) ->
    Wn js' y' fun xe s z=>∀(X:Fx),X.gl=V.gl->(V.fz=2->∀ r,X.O r->X.N r)->∀(n1:Nat) (w0:World) (g0:Gh) (a0:Act) (a:Act) (w:World) (g:Gh) (U:Nat->Prop),Now X V d tC (mkS s 8 z) a w g U->SinceS W w0 g0 a0 w g a->∃ l,xe = .goto l∧RoundsL P c (Vq X V W d es y n1 w0 g0 a0) k l a w:=by
   intro js'
   induction js' with
   | nil=>intro y'; exact nomatch y'
   | cons e0 js' ih =>
    intro y' h;cases js' with
    | nil=>exact fun X hg hB n1 w0 g0 a0=>h X hg hB n1 w0 g0 a0
    | cons f js' =>
     match y',h with
     | .inl z,h=>exact fun X hg hB n1 w0 g0 a0=>h X hg hB n1 w0 g0 a0
     | .inr z,h=>exact ih z h
  exact zeu js y' base
 ·exact ⟨.ret,st1,g1,U1,trivial,hk,hn1,by show Since (· ∈ ZJ c) _ _ _ _ _ _ _ _ _ _; rw[hW]; exact hs1⟩
theorem zfy {P:Program} {V:Env} (hA:VAll P V) (zu:P.follows .mixedOrders=true) {c:Code} {ac:AC} {acs:Nat->AC} {l:List (Code×Un)} (hl:obl c ac=l) (hac:∀ X:Fx,VOk P X V->Obl P X V l) {js es:Exs} (hacs:∀ X:Fx,VOk P X V->∀ l rest,findLabel c l=some rest->XX P X V rest (acs l))
  {step:(YT js->Option (YT es))->YT js->Option (YT es)} (hs:∀ f x,Fi V c acs js es f x=step f x) (hgo:KH es=true) {W:List Nat} (hW:ZJ c=W) (hro:es.all (fun e=>YF e.2.sh)=true) {X:Fx} (hX:VOk P X V) :
  Pt P X V (.scope c) (scU V W js es c ac (lp step ze)) :=
 zfC hA zu (fun X hX=>Wi c ac (hl▸hac X hX)) hacs (Fl:=lp step) (fun _=>rfl) (fun k x y h=>(hs (lp step k) x).trans h) hgo hW (fun e s hm=>by
  rw[aD] at hro;exact hro _ hm) ze hX
def zn (fn:Func):Code:=fn.body.getD .skip
abbrev Str:=List UInt8
def lpR {A:Type} (base:A) (step:A->A):Nat->A
 | 0=>base
 | k+1=>step (lpR base step k)
theorem Ie {P:Program} {gl:Gl} {f:FuncId}:∀ c,c∈([]:List ShC)->ShOk P gl f c:=fun c hc=>by cases hc
theorem DK {P:Program} {gl:Gl} {f:FuncId} {c:ShC} {cs:List ShC} (h:ShOk P gl f c) (hs:∀ c,c∈cs->ShOk P gl f c):∀ d,d∈c::cs->ShOk P gl f d:=fun d hd=>by
 rcases aG.1 hd with rfl | hd
 ·exact h
 ·exact hs d hd
theorem zdr {P:Program} {V:Env} {c0 c:Code} (h0:c0 = .loop c) (hA:VAll P V) (zu:P.follows .mixedOrders=true) {ac:AC} {ob:List (Code×Un)} (hl:obl c ac=ob) (hac:∀ X:Fx,VOk P X V->Obl P X V ob) {hd:SS} {es:Exs} {step:(hd.X->Option (YT es))->hd.X->Option (YT es)}
  (hs:∀ f x,E V c ac (mkS hd 8 x) (Bp V.fz hd es f)=step f x) {W:List Nat} (hW:ZJ c=W) (hro:es.all (fun e=>YF e.2.sh)=true) {X:Fx} (hX:VOk P X V):Pt P X V c0 (lpU V.fz W hd es (lp step ze)):=by
 rw[h0];exact zgr hA zu hl hac hs hW hro hX
theorem zem {P:Program} {V:Env} {c0 c:Code} (h0:c0 = .scope c) (hA:VAll P V) (zu:P.follows .mixedOrders=true) {ac:AC} {acs:Nat->AC} {ob:List (Code×Un)} (hl:obl c ac=ob) (hac:∀ X:Fx,VOk P X V->Obl P X V ob) {js es:Exs} (hacs:∀ X:Fx,VOk P X V->∀ l rest,findLabel c l=some rest->XX P X V rest (acs l))
  {step:(YT js->Option (YT es))->YT js->Option (YT es)} (hs:∀ f x,Fi V c acs js es f x=step f x) (hgo:KH es=true) {W:List Nat} (hW:ZJ c=W) (hro:es.all (fun e=>YF e.2.sh)=true) {X:Fx} (hX:VOk P X V) :
  Pt P X V c0 (scU V W js es c ac (lp step ze)):=by
 rw[h0];exact zfy hA zu hl hac hacs hs hgo hW hro hX
def GE (c:Code) (l:Nat):Code:=(findLabel c l).getD .skip
def PW:List (Nat×AC)->Nat->AC
 | [],_=>.run
 | p::l,i=>cond (aA i p.1) p.2 (PW l i)
def IW (P:Program) (X:Fx) (V:Env) (c:Code) (l:List (Nat×AC)):Prop:=∀ p,p∈l->XX P X V (GE c p.1) p.2
theorem zaw {P:Program} {X:Fx} {V:Env} {c:Code}:IW P X V c []:=fun p hp=>by cases hp
theorem R5 {P:Program} {X:Fx} {V:Env} {c:Code} {i:Nat} {a:AC} {ob:List (Code×Un)} (h:obl (GE c i) a=ob) (ho:Obl P X V ob) {l:List (Nat×AC)} (hl:IW P X V c l):IW P X V c ((i,a)::l):=fun p hp=>by
 rcases aG.1 hp with rfl | hp
 ·exact Wi _ _ (h▸ho)
 ·exact hl p hp
theorem zeY {P:Program} {X:Fx} {V:Env} {c:Code} {l:List (Nat×AC)} (h:IW P X V c l):∀ i rest,findLabel c i=some rest->XX P X V rest (PW l i):=by
 intro i rest hr;have e:GE c i=rest:=by unfold GE; rw[hr]; rfl
 induction l with
 | nil=>exact zeG rest
 | cons p l ih =>
  unfold PW;cases hb:aA i p.1 with
  | true =>
   have:=au hb;subst this;rw[← e];exact h p (by simp)
  | false=>exact ih fun q hq=>h q (by simp [hq])
def zcE (tb:Tb) (t:TypeId) (i:TypeInfo):Bool :=
 match zeroCells tb 5 t with
 | some cs=>match i.zero with
  | some z=>zFs cs z.cells.toList
  | none=>false
 | none=>true
def Jn (P:Program) (t:TypeId):TD->Bool
 | .int k=>match P.underlying t with
  | some (.int k')=>decide (k'=k)
  | _=>false
 | .bool=>match P.underlying t with
  | some .bool=>true
  | _=>false
 | .str=>match P.underlying t with
  | some .string=>true
  | _=>false
 | .cx=>match P.underlying t with
  | some (.complex .f64)=>true
  | _=>false
 | .fl=>match P.underlying t with
  | some (.float .f64)=>true
  | _=>false
 | .fa e k n=>match P.underlying t,P.info? e with
  | some (.array n' e'),some i=>aA n' n&&aA e' e&&aA i.size k
  | _,_=>false
 | .sl e ts bytes=>match P.underlying t,P.info? e with
  | some (.slice e'),some i=>match i.zero with
   | some z=>aA e' e&&aA i.size ts.size&&aA i.bytes bytes&&Nat.blt 0 bytes&&aA z.cells.size ts.size&&BG (xS 2 ts (qb ts)) z.cells.toList
   | none=>false
  | _,_=>false
 | .st fs _=>match P.underlying t with
  | some (.struct fields)=>decide (fields.toList.map (fun f=>(f.type,f.offset))=fs)&&fields.toList.all (fun f => !(f.name == "_")&&match P.info? f.type with
   | some i => !(aA i.size 0)
   | none=>false) && !(P.eqGuardType P.depth t) && !(P.stoodInHeld t)
  | _=>false
 | .fn=>match P.underlying t with
  | some (.func _ _ _)=>true
  | _=>false
 | .arr e ts n=>match P.underlying t,P.info? e,P.info? t with
  | some (.array n' e'),some i,some it=>match it.zero with
   | some z=>aA n' n&&aA e' e&&aA i.size ts.size&&aA z.cells.size (n*ts.size)&&(List.range n).all (fun j=>BG (xS 2 ts (qb ts)) ((z.cells.toList.drop (j*ts.size)).take ts.size))
   | none=>false
  | _,_,_=>false
def tdB (P:Program) (tb:Tb) (t:TypeId) (td:TD):Bool :=
 match P.info? t with
 | some i=>aA i.size td.size&&zcE tb t i&&Jn P t td
 | none=>false
theorem ze0 {P:Program} {tb:Tb} {t:TypeId} {td:TD} (h:tdB P tb t td=true):zgE P tb t td:=by
 unfold tdB at h;split at h
 ·rename_i i hi;simp only[ay] at h;obtain⟨⟨h1,h2⟩,h3⟩:=h;refine ⟨⟨i,hi,au h1,fun cs hcs => ?_⟩,?_⟩
  ·unfold zcE at h2;rw[hcs] at h2;dsimp only at h2;split at h2
   ·rename_i z hz;exact ⟨z,hz,h2⟩
   ·cases h2
  ·cases td with
   | int k =>
    simp only[Jn] at h3;split at h3
    ·rename_i k' hu;rw[decide_eq_true_eq] at h3; subst h3; exact hu
    ·cases h3
   | bool=>simp only[Jn] at h3; split at h3<;>first | assumption | cases h3
   | str=>simp only[Jn] at h3; split at h3<;>first | assumption | cases h3
   | cx=>simp only[Jn] at h3; split at h3<;>first | assumption | cases h3
   | fl=>simp only[Jn] at h3; split at h3<;>first | assumption | cases h3
   | fa e k n =>
    simp only[Jn] at h3;split at h3
    ·rename_i n' e' i' hu he;simp only[ay] at h3;obtain⟨⟨a1,a2⟩,a3⟩:=h3;have a1:=au a1;have a2:=au a2;subst a1; subst a2;exact ⟨hu,i',he,au a3⟩
    ·cases h3
   | fn =>
    simp only[Jn] at h3;split at h3
    ·rename_i a b c hu; exact ⟨a,b,c,hu⟩
    ·cases h3
   | sl e ts bytes =>
    simp only[Jn] at h3;split at h3
    ·rename_i e' i' hu he;split at h3
     ·rename_i z hz;simp only[ay] at h3;obtain⟨⟨⟨⟨⟨a1,a2⟩,a3⟩,a4⟩,a5⟩,a6⟩:=h3;have a1:=au a1;subst a1;exact ⟨hu,i',z,he,au a2,au a3,hz,au a5,a6,bV a4⟩
     ·cases h3
    ·cases h3
   | st fs n =>
    simp only[Jn] at h3;split at h3
    ·rename_i fields hu;simp only[ay,decide_eq_true_eq,aD,cp] at h3;obtain⟨⟨⟨a1,a2⟩,a3⟩,a4⟩:=h3;refine ⟨fields,hu,a1,fun f hf => ?_,a3,a4⟩;obtain⟨b1,b2⟩:=a2 f hf;refine ⟨by simpa using b1,?_⟩
     split at b2
     ·rename_i i' hi';exact ⟨i',hi',fun e=>by rw[e] at b2; simp at b2⟩
     ·cases b2
    ·cases h3
   | arr e ts n =>
    simp only[Jn] at h3;split at h3
    ·rename_i n' e' i' it hu he ht;split at h3
     ·rename_i z hz;simp only[ay,aD] at h3;obtain⟨⟨⟨⟨a1,a2⟩,a3⟩,a4⟩,a5⟩:=h3;have a1:=au a1;have a2:=au a2;subst a1; subst a2;exact ⟨hu,⟨i',he,au a3⟩,it,z,ht,hz,au a4,fun j hj=>a5 j (bZ.2 hj)⟩
     ·cases h3
    ·cases h3
 ·cases h
theorem PU {P:Program} {l:List (Nat×TD)} (h:(l.all fun p=>tdB P (TQ l) p.1 p.2)=true):jk P (TQ l) :=
 zd fun p hp=>by
  rw[aD] at h;exact ze0 (h p hp)
end Go.Abs
namespace Go.Abs
open Go.ChangeShapes Go.WideShapes Go.ChangeAt Go.RowKit Go.WideElems
section
def zcY {α:Type} (p:α->Prop) (xs:List α):Prop:=∀ x,x∈xs->p x
mutual
def zb3:(t:Ty)->El t->Prop
 | .int k,n=>(Lit.int k n).wf=true
 | .bool,_=>True
 | .str,s=>af s<=maxLen
 | .cx,_=>True
 | .fl,_=>True
 | .ar _ _,_=>True
 | .sl ts,xs=>af xs<=maxLen∧zcY (M0 ts) xs
 | .ns ts,o=>∀ xs,(o:Option (List (Tup ts)))=some xs->af xs<=maxLen∧zcY (M0 ts) xs
def M0:(ts:Tys)->Tup ts->Prop
 | .one t,x=>zb3 t x
 | .cons t ts,x=>zb3 t x.1∧M0 ts x.2
end
mutual
def wt:(t:Ty)->El t->Nat
 | .int _,_=>1
 | .bool,_=>1
 | .str,s=>af s+1
 | .cx,_=>1
 | .fl,_=>1
 | .ar _ _,_=>1
 | .sl ts,xs=>(cV (wtT ts) (xs:List (Tup ts))).sum+1
 | .ns ts,o=>match (o:Option (List (Tup ts))) with
  | none=>1
  | some xs=>(cV (wtT ts) xs).sum+1
def wtT:(ts:Tys)->Tup ts->Nat
 | .one t,x=>wt t x
 | .cons t ts,x=>wt t x.1+wtT ts x.2
end
def Bm:(hs:List Ty)->jv hs->Prop
 | [],_=>True
 | [t],x=>zb3 t x
 | t::u::hs,x=>zb3 t x.1∧Bm (u::hs) x.2
def wtL:(hs:List Ty)->jv hs->Nat
 | [],_=>0
 | [t],x=>wt t x
 | t::u::hs,x=>wt t x.1+wtL (u::hs) x.2
def Tz:Tys->List Ty
 | .one t=>[t]
 | .cons t ts=>t::Tz ts
theorem Cw:(ts:Tys)->(Tz ts).length=ts.size
 | .one _=>rfl
 | .cons _ ts=>by show (Tz ts).length+1=ts.size+1; rw[Cw ts]
def Leaf (c:Mem) (A:Reg):List Ty->List AV->List Value->Nat->Prop
 | [],M,vs,_=>M=[]∧vs=[]
 | t::ts,M,vs,b=>∃(x:El t) (M':List AV) (v:Value) (vs':List Value) (b1 b2:Nat),M = .val 1 t x::M'∧vs=v::vs'∧RE c A t x v∧zb3 t x∧wt t x<=b1∧Leaf c A ts M' vs' b2∧b1+b2<=b
theorem Leaf.len {c:Mem} {A:Reg}:{hs:List Ty}->{M:List AV}->{vs:List Value}->{b:Nat}->Leaf c A hs M vs b->M.length=hs.length∧vs.length=hs.length
 | [],_,_,_,h=>by obtain⟨rfl,rfl⟩:=h; exact ⟨rfl,rfl⟩
 | t::ts,_,_,_,h=>by
  obtain⟨x,M',v,vs',b1,b2,rfl,rfl,_,_,_,h,_⟩:=h;have:=h.len;simp [this.1,this.2]
theorem Leaf.mono {c:Mem} {A:Reg} {hs:List Ty} {M:List AV} {vs:List Value} {b b':Nat} (h:Leaf c A hs M vs b) (hb:b<=b'):Leaf c A hs M vs b':=by
 cases hs with
 | nil=>exact h
 | cons t ts =>
  obtain⟨x,M',v,vs',b1,b2,h1,h2,h3,h4,h5,h6,h7⟩:=h;exact ⟨x,M',v,vs',b1,b2,h1,h2,h3,h4,h5,h6,aT h7 hb⟩
theorem Leaf.append {c:Mem} {A:Reg}:{hs:List Ty}->{M:List AV}->{vs:List Value}->{b:Nat}->{gs:List Ty}->{N:List AV}->{us:List Value}->{d:Nat}->Leaf c A hs M vs b->Leaf c A gs N us d->Leaf c A (hs++gs) (M++N) (vs++us) (b+d)
 | [],_,_,b,_,_,_,d,h,h'=>by obtain⟨rfl,rfl⟩:=h; exact h'.mono (Nat.le_add_left _ _)
 | t::ts,_,_,b,_,_,_,d,h,h'=>by
  obtain⟨x,M',v,vs',b1,b2,rfl,rfl,h3,h4,h5,h6,h7⟩:=h;exact ⟨x,_,v,_,b1,b2+d,rfl,rfl,h3,h4,h5,h6.append h',by omega⟩
theorem Leaf.one {c:Mem} {A:Reg} {t:Ty} {x:El t} {v:Value} {b:Nat} (h1:RE c A t x v) (h2:zb3 t x) (h3:wt t x<=b):Leaf c A [t] [.val 1 t x] [v] b :=
 ⟨x,[],v,[],b,0,rfl,rfl,h1,h2,h3,⟨rfl,rfl⟩,aC _⟩
theorem Leaf.tup {c:Mem} {A:Reg}:(ts:Tys)->{M:List AV}->{vs:List Value}->{b:Nat}->Leaf c A (Tz ts) M vs b->∃ x:Tup ts,M0 ts x∧wtT ts x<=b ∧
  ∀ blk off,(∀(j:Nat) v,vs[j]? = some v->A blk (off+j)∧c blk (off+j)=some v)->RC c A A ts x blk off
 | .one t,_,_,b,h=>by
  obtain⟨x,M',v,vs',b1,b2,rfl,rfl,h3,h4,h5,h6,h7⟩:=h;refine ⟨x,h4,by show wt t x<=b; omega,fun blk off hv => ?_⟩
  have:=hv 0 v rfl;exact ⟨this.1,v,this.2,h3⟩
 | .cons t ts,_,_,b,h=>by
  obtain⟨x,M',v,vs',b1,b2,rfl,rfl,h3,h4,h5,h6,h7⟩:=h;obtain⟨y,hy1,hy2,hy3⟩:=Leaf.tup ts h6;refine ⟨(x,y),⟨h4,hy1⟩,by show wt t x+wtT ts y<=b; omega,fun blk off hv=>⟨?_,hy3 blk (off+1) fun j u hu => ?_⟩⟩
  ·have:=hv 0 v rfl;exact ⟨this.1,v,this.2,h3⟩
  ·have:=hv (j+1) u hu;rwa [show off+(j+1)=off+1+j from by omega] at this
theorem Leaf.tupL {c:Mem} {A:Reg}:{hs:List Ty}->{M:List AV}->{vs:List Value}->{b:Nat}->Leaf c A hs M vs b->∃ x:jv hs,Bm hs x∧wtL hs x<=b∧mkL (zfq hs.length) hs x=M
 | [],_,_,b,h=>by obtain⟨rfl,rfl⟩:=h; exact ⟨(),trivial,bN _,rfl⟩
 | [t],_,_,b,h=>by
  obtain⟨x,M',v,vs',b1,b2,rfl,rfl,h3,h4,h5,⟨rfl,rfl⟩,h7⟩:=h;exact ⟨x,h4,by show wt t x<=b; omega,rfl⟩
 | t::u::hs,_,_,b,h=>by
  obtain⟨x,M',v,vs',b1,b2,rfl,rfl,h3,h4,h5,h6,h7⟩:=h;obtain⟨y,hy1,hy2,hy3⟩:=h6.tupL;exact ⟨(x,y),⟨h4,hy1⟩,by show wt t x+wtL (u::hs) y<=b; omega,by rw[← hy3]; rfl⟩
structure Bulk {H:Type} (B:DataW H->Nat) (Bs:List (DataW H)->Nat):Prop where
 str:∀ l,B (.lit (.string l))=l.length+1
 one:∀ d,1<=B d
 sl:∀ e s,Bs e+1<=B (.slice e s)
 agg:∀ l,Bs l<=B (.agg l)
 nil:Bs []=0
 cons:∀ d l,Bs (d::l)=B d+Bs l
def lvF (f:TypeId->Option (List Ty)):List (TypeId×Nat)->Nat->Option (List Ty)
 | [],_=>some []
 | (t,o)::fs,k=>cond (aA o k) ((f t).bind fun l=>(lvF f fs (k+l.length)).bind fun l'=>some (l++l')) none
def lv (tb:Tb):Nat->TypeId->Option (List Ty)
 | 0,_=>none
 | n+1,t=>match tb t with
  | some (.int k)=>some [.int k]
  | some .bool=>some [.bool]
  | some .str=>some [.str]
  | some (.sl e ts _)=>(lv tb n e).bind fun l=>cond (decide (l=Tz ts)) (some [.sl ts]) none
  | some (.st fs m)=>(lvF (lv tb n) fs 0).bind fun l=>cond (aA l.length m) (some l) none
  | _=>none
theorem GX {tb:Tb} {n:Nat} {t:TypeId} {hs:List Ty} (h:lv tb n t=some hs):∃ td,tb t=some td∧hs.length=td.size:=by
 cases n with
 | zero=>cases h
 | succ n =>
  unfold lv at h;split at h
  ·injection h with h; subst h; exact ⟨_,by assumption,rfl⟩
  ·injection h with h; subst h; exact ⟨_,by assumption,rfl⟩
  ·injection h with h; subst h; exact ⟨_,by assumption,rfl⟩
  ·rename_i e ts _ he;cases hl:lv tb n e with
   | none=>rw[hl] at h; cases h
   | some l =>
    rw[hl] at h;simp only[aa] at h;cases hd:decide (l=Tz ts) with
    | false=>rw[hd] at h; cases h
    | true=>rw[hd] at h; injection h with h; subst h; exact ⟨_,he,rfl⟩
  ·rename_i fs m he;cases hl:lvF (lv tb n) fs 0 with
   | none=>rw[hl] at h; cases h
   | some l =>
    rw[hl] at h;simp only[aa] at h;cases hd:aA l.length m with
    | false=>rw[hd] at h; cases h
    | true=>rw[hd] at h; injection h with h; subst h; exact ⟨_,he,au hd⟩
  ·cases h
theorem Zl {P:Program} {tb:Tb} (hT:jk P tb) {t:TypeId} {td:TD} (h:tb t=some td):P.cellsOf t=td.size:=by
 obtain⟨⟨i,hi,hs,_⟩,_⟩:=hT t td h;unfold iA;rw[hi];exact hs
def sx (w:World):Reg:=fun b o=>(mem w b o).isSome
theorem IP {w:World} {a:Addr} {n:Nat} {vs:List Value} (h:w.cells? 0 a n=some vs):vs.length=n∧∀(j:Nat) v,vs[j]? = some v->w.cell? (a.add j)=some v:=by
 unfold World.cells? at h;rw[if_pos (bN _)] at h;have hl:=mapM_some_length h;rw[List.length_range] at hl;refine ⟨hl,fun j v hj => ?_⟩;have hjn:j<n:=by
  have:=(aw.1 hj).1;omega
 have:=mapM_some_get h j j (by simp [hjn])
 rw[this,hj]
theorem AR {α:Type} {n:Nat} {Q:Nat->α->Prop} (h:∀ i,i<n->∃ x,Q i x):∃ xs:List α,xs.length=n∧∀(i:Nat) (x:α),xs[i]? = some x->Q i x:=by
 induction n with
 | zero=>exact ⟨[],rfl,fun i x h=>by simp at h⟩
 | succ n ih =>
  obtain⟨xs,hl,hx⟩:=ih fun i hi=>h i (by omega)
  obtain⟨y,hy⟩:=h n (by omega)
  refine ⟨xs++[y],by simp [hl],fun i x hi => ?_⟩
  rw[List.getElem?_append] at hi;split at hi
  ·exact hx i x hi
  ·rename_i hlt;have:i=n:=by
    have:=(aw.1 hi).1;simp at this;omega
   subst this;simp [hl] at hi;exact hi▸hy
theorem Bulk.elems {H:Type} {B:DataW H->Nat} {Bs:List (DataW H)->Nat} (hB:Bulk B Bs) {α:Type} (wf:α->Nat):(xs:List α)->(ys:List (DataW H×List MemPlace))->xs.length=ys.length ->
  (∀(i:Nat) x y,xs[i]? = some x->ys[i]? = some y->wf x<=B y.1)->(xs.map wf).sum<=Bs (ys.map (·.1))
 | [],[],_,_=>by simp [hB.nil]
 | [],_::_,h,_=>by simp at h
 | _::_,[],h,_=>by simp at h
 | x::xs,y::ys,hl,h=>by
  have h0:=h 0 x y rfl rfl;have hs:=hB.elems wf xs ys (by simpa using hl) fun i a b ha hb=>h (i+1) a b ha hb
  simp only[aK,List.sum_cons,hB.cons];omega
variable {H:Type} {enc:TypeId×Value->H} {P:Program} {tb:Tb} {w:World} {sp:Nat->Bool} {held:Bool}
theorem JE {B:DataW H->Nat} {Bs:List (DataW H)->Nat} (hB:Bulk B Bs) (hT:jk P tb) {n m:Nat}
  (ih:∀ t hs cs y,lv tb n t=some hs->dS enc P w 0 sp held m t cs=some y->∃ M,Leaf (mem w) (sx w) hs M cs (B y.1)) {cs:List Value} :
  (fs:List Field)->{k:Nat}->{l:List Ty}->{xs:List (DataW H×List MemPlace)}->lvF (lv tb n) (fs.map fun f=>(f.type,f.offset)) k=some l->xs.length=fs.length ->
   (∀(i:Nat) f,fs[i]? = some f->dS enc P w 0 sp held m f.type ((cs.drop f.offset).take (P.cellsOf f.type))=xs[i]?)->cs.length=k+l.length->∃ M,Leaf (mem w) (sx w) l M (cs.drop k) (Bs (xs.map (·.1)))
 | [],k,l,xs,hl,hx,h,hc=>by
  injection hl with hl; subst hl;refine ⟨[],rfl,?_⟩;rw[cP];simp only[bm] at hc;omega
 | f::fs,k,l,[],hl,hx,h,hc=>by simp at hx
 | f::fs,k,l,y::xs,hl,hx,h,hc=>by
  simp only[aK,lvF] at hl;cases ho:aA f.offset k with
  | false=>rw[ho] at hl; cases hl
  | true =>
   rw[ho,cond_true] at hl;have ho:=au ho;cases h1:lv tb n f.type with
   | none=>rw[h1] at hl; cases hl
   | some l1 =>
    rw[h1] at hl;simp only[aa] at hl;cases h2:lvF (lv tb n) (fs.map fun f=>(f.type,f.offset)) (k+l1.length) with
    | none=>rw[h2] at hl; cases hl
    | some l2 =>
     rw[h2] at hl;injection hl with hl; subst hl;obtain⟨td,htd,hsz⟩:=GX h1;have hco:P.cellsOf f.type=l1.length:=by rw[Zl hT htd,hsz]
     have hf:=h 0 f rfl;rw[hco,ho] at hf;obtain⟨M1,hM1⟩:=ih _ _ _ _ h1 (hf.trans rfl);rw[am] at hc;obtain⟨M2,hM2⟩:=JE hB hT ih fs (k:=k+l1.length) (l:=l2) (xs:=xs) h2 (by simpa using hx) (fun i g hg=>h (i+1) g hg) (by omega)
     refine ⟨M1++M2,?_⟩;have:=hM1.append hM2;rw[aK,hB.cons];rwa [← cf,bW] at this
theorem Ol {B:DataW H->Nat} {Bs:List (DataW H)->Nat} (hB:Bulk B Bs) (hT:jk P tb):∀ m n t hs cs y,lv tb n t=some hs->dS enc P w 0 sp held m t cs=some y->∃ M,Leaf (mem w) (sx w) hs M cs (B y.1):=by
 intro m
 induction m with
 | zero=>intro n t hs cs y _ h; simp [dS] at h
 | succ m ih =>
  intro n t hs cs y hl h;cases n with
  | zero=>cases hl
  | succ n =>
   unfold lv at hl;split at hl
   ·rename_i k ht;injection hl with hl; subst hl;obtain⟨z,rfl,rfl,hw⟩:=gO (hT _ _ ht).2 h;exact ⟨_,Leaf.one (t:=.int k) (x:=z) rfl hw (hB.one _)⟩
   ·rename_i ht;injection hl with hl; subst hl;obtain⟨z,rfl,rfl⟩:=gE (hT _ _ ht).2 h;exact ⟨_,Leaf.one (t:=.bool) (x:=z) rfl trivial (hB.one _)⟩
   ·rename_i ht;injection hl with hl; subst hl;obtain⟨z,rfl,rfl,hz⟩:=gf (hT _ _ ht).2 h;refine ⟨_,Leaf.one (t:=.str) (x:=z.data.toList) rfl ?_ ?_⟩
    ·show z.data.toList.length<=maxLen;rw[aO]; exact hz
    ·show z.data.toList.length+1<=B (.lit (.string z.data.toList));rw[hB.str]; exact aC _
   ·rename_i e ts bytes ht;cases he:lv tb n e with
    | none=>rw[he] at hl; cases hl
    | some l =>
     rw[he] at hl;simp only[aa] at hl;cases hd:decide (l=Tz ts) with
     | false=>rw[hd] at hl; cases hl
     | true =>
      rw[hd] at hl;injection hl with hl; subst hl;rw[decide_eq_true_eq] at hd; subst hd;have htd:=(hT _ _ ht).2;obtain⟨td,hte,hsz⟩:=GX he;rw[Cw] at hsz;have hco:P.cellsOf e=ts.size:=by rw[Zl hT hte,hsz]
      rcases gq htd.1 h with ⟨rfl,rfl⟩ | ⟨a,len,cap,elems,rest,m',hm',rfl,rfl,_,hlc,hcm,hel,hels,_,_⟩
      ·exact ⟨_,Leaf.one (t:=.sl ts) (x:=([]:List (Tup ts))) ⟨none,0,rfl,⟨⟨aC _,bN _⟩,fun _=>rfl⟩,.inl rfl⟩ ⟨bN _,fun x hx=>by cases hx⟩ (hB.one _)⟩
      ·injection hm' with hm'; subst hm';have hpos:0<ts.size:=by cases ts<;>simp [Tys.size]
       have hspot:0<len->a.spot=none:=fun h0=>by
        have h1:=hels 0 h0;rw[hco] at h1;cases hc:w.cells? 0 (a.add (0*ts.size)) ts.size with
        | none =>
         rw[hc] at h1;have:elems[0]? = none:=h1.symm;rw[d5] at this;omega
        | some vs =>
         obtain⟨hvl,hv⟩:=IP hc;have:=hv 0 vs[0] (al (by omega))
         rw[Nat.zero_mul] at this;exact World.cell?_spot (w:=w) (a:=a) this
       obtain⟨xs,hxl,hxs⟩:=AR (α:=Tup ts) (n:=len) (Q:=fun i x=>∃ y,elems[i]? = some y∧M0 ts x∧wtT ts x<=B y.1∧a.spot=none∧RC (mem w) (sx w) (sx w) ts x a.block (a.off+i*ts.size)) (by
        intro i hi;have h1:=hels i hi;rw[hco] at h1;cases hc:w.cells? 0 (a.add (i*ts.size)) ts.size with
        | none =>
         rw[hc] at h1;have:elems[i]? = none:=h1.symm;rw[d5] at this;omega
        | some vs =>
         rw[hc] at h1;simp only[aa] at h1;have hlt:i<elems.length:=by omega
         rw[al hlt] at h1;obtain⟨M,hM⟩:=ih n e _ vs _ he h1;obtain⟨x,hx1,hx2,hx3⟩:=hM.tup ts;obtain⟨hvl,hv⟩:=IP hc;have hspot:=hspot (by omega)
         refine ⟨x,_,al hlt,hx1,hx2,hspot,hx3 _ _ fun j v hj => ?_⟩;have:=hv j v hj;have he:(a.add (i*ts.size)).add j=⟨a.block,a.off+i*ts.size+j,none⟩:=by
          obtain⟨ab,ao,as⟩:=a;simp only at hspot;subst hspot;rw[add_plain,add_plain]
         rw[he] at this;have h2:mem w a.block (a.off+i*ts.size+j)=some v:=this;exact ⟨by unfold sx; rw[h2]; rfl,h2⟩)
       refine ⟨_,Leaf.one (t:=.sl ts) (x:=xs) ⟨some a,cap,by rw[hxl],⟨by rw[hxl]; exact ⟨hlc,hcm⟩,fun e=>by cases e⟩,?_⟩ ⟨by rw[hxl]; omega,?_⟩ ?_⟩
       ·cases xs with
        | nil=>exact .inl rfl
        | cons x0 xr =>
         refine .inr ⟨a.block,a.off,?_,fun i x hx => ?_⟩
         ·obtain⟨_,_,_,_,hs,_⟩:=hxs 0 x0 rfl;cases a; simp at hs; subst hs; rfl
         ·obtain⟨_,_,_,_,_,hr⟩:=hxs i x hx;exact hr
       ·intro x hx;obtain⟨i,hi,hix⟩:=List.mem_iff_getElem.1 hx;obtain⟨_,_,hf,_⟩:=hxs i x (by rw[al hi,hix])
        exact hf
       ·have:=hB.elems (wtT ts) xs elems (by rw[hxl,hel]) fun i x y hx hy=>by
         obtain⟨y',hy',_,hw,_⟩:=hxs i x hx;rw[hy] at hy'; injection hy' with hy'; subst hy';exact hw
        have h2:=hB.sl (elems.map (·.1)) (rest.map (·.1));show (xs.map (wtT ts)).sum+1<=B (.slice _ _);omega
   ·rename_i fs k ht;cases hf:lvF (lv tb n) fs 0 with
    | none=>rw[hf] at hl; cases hl
    | some l =>
     rw[hf] at hl;simp only[aa] at hl;cases hd:aA l.length k with
     | false=>rw[hd] at hl; cases hl
     | true =>
      rw[hd] at hl;injection hl with hl; subst hl;have hk:=au hd;obtain⟨fields,hu,hfs,_⟩:=(hT _ _ ht).2;obtain⟨xs,m',hm',rfl,hcl,hxl,hxs⟩:=gg hu h;injection hm' with hm'; subst hm';rw[← hfs] at hf;obtain⟨M,hM⟩:=JE hB hT (fun t hs cs y hlv=>ih n t hs cs y hlv) fields.toList (k:=0) (xs:=xs) hf (by rw[hxl,aO]) (fun i f hi=>hxs i f (by simpa using hi)) (by rw[hcl,Zl hT ht]; show k=_; omega)
      exact ⟨M,(by simpa using hM.mono (hB.agg _))⟩
   ·cases hl
end
section
variable {H:Type} {enc:TypeId×Value->H} {P:Program} {tb:Tb} {w:World} {sp:Nat->Bool} {held:Bool}
def zgO:Option TD->Bool
 | some (.st _ _)=>true
 | _=>false
def pv (tb:Tb) (n:Nat):List TypeId->Option (List TV×List Ty)
 | []=>some ([],[])
 | t::ts=>(lv tb n t).bind fun l=>(pv tb n ts).bind fun r=>some (cond (zgO (tb t)) (.agg (ax l.length .hole)) .hole::r.1,l++r.2)
theorem F3 (nm:Nat->Nat) (M N:List AV):sy nm (ax M.length .hole) (M++N)=(M,N):=by
 induction M with
 | nil=>rfl
 | cons m M ih =>
  show ((mkV nm .hole (m::(M++N))).1::(sy nm (ax M.length .hole) (M++N)).1,(sy nm (ax M.length .hole) (M++N)).2)=_;rw[ih]; rfl
theorem Leaf.rl {c:Mem} {g:Gh} {Hb:Nat->Blk} {U:Nat->Prop}:{hs:List Ty}->{M:List AV}->{vs:List Value}->{b:Nat}->Leaf c (g.S 1) hs M vs b->RL c g Hb U M vs
 | [],_,_,_,h=>by obtain⟨rfl,rfl⟩:=h; rfl
 | t::ts,_,_,_,h=>by
  obtain⟨x,M',v,vs',b1,b2,rfl,rfl,h3,h4,h5,h6,h7⟩:=h;exact ⟨v,vs',rfl,RVal.of h3,h6.rl⟩
theorem Leaf.rf {c:Mem} {g:Gh} {Hb:Nat->Blk} {U:Nat->Prop}:{hs:List Ty}->{M:List AV}->{vs:List Value}->{b:Nat}->Leaf c (g.S 1) hs M vs b->RF c g Hb U M vs
 | [],_,_,_,h=>by obtain⟨rfl,rfl⟩:=h; rfl
 | t::ts,_,_,_,h=>by
  obtain⟨x,M',v,vs',b1,b2,rfl,rfl,h3,h4,h5,h6,h7⟩:=h;exact ⟨v,[v],vs',rfl,RVal.of h3,by rw[RE.notAr h3 1]; rfl,h6.rf⟩
theorem DR {n:Nat} {t:TypeId} {td:TD} {l:List Ty} (htd:tb t=some td) (h:lv tb n t=some l) (h1:∀ k,td ≠ .int k) (h2:td ≠ .bool) (h3:td ≠ .str) (h4:∀ a b c,td ≠ .sl a b c) (h5:∀ a b,td ≠ .st a b):False:=by
 cases n with
 | zero=>cases h
 | succ n =>
  unfold lv at h;split at h
  ·rename_i k e; rw[htd] at e; injection e with e; exact h1 _ e
  ·rename_i e; rw[htd] at e; injection e with e; exact h2 e
  ·rename_i e; rw[htd] at e; injection e with e; exact h3 e
  ·rename_i e; rw[htd] at e; injection e with e; exact h4 _ _ _ e
  ·rename_i e; rw[htd] at e; injection e with e; exact h5 _ _ e
  ·cases h
theorem Kq {c:Mem} {g:Gh} {Hb:Nat->Blk} {U:Nat->Prop} {nm:Nat->Nat} {M1 M2:List AV} {v:Value} {us:List Value} {k:Nat} (hv:us=[v]) (hrl:RL c g Hb U M1 us) (hlen:M1.length=k∧us.length=k) :
  ∃ a:AV,mkV nm .hole (M1++M2)=(a,M2)∧RAV c g Hb U a v:=by
 subst hv;have hl1:M1.length=1:=by rw[hlen.1,← hlen.2]; rfl
 match M1,hl1,hrl with
 | [a],_,hrl =>
  obtain⟨v',us,e,ha,_⟩:=hrl;injection e with e1 e2;subst e1;exact ⟨a,rfl,ha⟩
theorem K6 {B:DataW H->Nat} {Bs:List (DataW H)->Nat} (hB:Bulk B Bs) (hT:jk P tb) {n:Nat} {r:Reach} {base:Nat} {g:Gh} (hg:g.S 1=sx w) {Hb:Nat->Blk} {U:Nat->Prop} (nm:Nat->Nat) :
  (ts:List TypeId)->{vs:List Value}->{ds:List (DataW H)}->{ps:List MemPlace}->{slots:List TV}->{hs:List Ty}->pv tb n ts=some (slots,hs)->dO enc P w 0 sp held ts vs ds ps ->
   (∀(j:Nat) t v,ts[j]? = some t->vs[j]? = some v->fD P w r base t v) ->
   ∃ M us,Leaf (mem w) (sx w) hs M us (Bs ds)∧∀ N,(sy nm slots (M++N)).2=N∧RL (mem w) g Hb U (sy nm slots (M++N)).1 vs
 | [],vs,ds,ps,slots,hs,hp,h,_=>by
  injection hp with hp; injection hp with hp1 hp2; subst hp1; subst hp2;cases vs with
  | cons _ _=>exact h.elim
  | nil=>cases ds with
   | cons _ _=>exact h.elim
   | nil=>exact ⟨[],[],⟨rfl,rfl⟩,fun N=>⟨rfl,rfl⟩⟩
 | t::ts,vs,ds,ps,slots,hs,hp,h,hok=>by
  cases vs with
  | nil=>cases ds<;>exact h.elim
  | cons v vs=>cases ds with
   | nil=>exact h.elim
   | cons d ds =>
    obtain⟨p,q,⟨m,hd⟩,hds,rfl⟩:=h;unfold pv at hp;cases h1:lv tb n t with
    | none=>rw[h1] at hp; cases hp
    | some l =>
     rw[h1] at hp;simp only[aa] at hp;cases h2:pv tb n ts with
     | none=>rw[h2] at hp; cases hp
     | some rr =>
      rw[h2] at hp;injection hp with hp; injection hp with hp1 hp2; subst hp1; subst hp2;obtain⟨M1,hM1⟩:=Ol hB hT m n t l _ _ h1 hd;obtain⟨M2,us2,hM2,hr2⟩:=K6 hB hT hg nm ts (slots:=rr.1) (hs:=rr.2) h2 hds fun j t v ht hv=>hok (j+1) t v ht hv;have hokv:=hok 0 t v rfl rfl;refine ⟨M1++M2,_,(by rw[hB.cons]; exact hM1.append hM2),fun N => ?_⟩
      have hlen:=hM1.len;have hrl:RL (mem w) g Hb U M1 v.cells.toList:=Leaf.rl (by rw[hg]; exact hM1)
      obtain⟨td,htd,hsz⟩:=GX h1;rw[List.append_assoc];have key:∃ a:AV,mkV nm (cond (zgO (tb t)) (.agg (ax l.length .hole)) .hole) (M1++(M2++N))=(a,M2++N)∧RAV (mem w) g Hb U a v:=by
       rw[htd];cases td with
       | st fs k =>
        obtain⟨fields,hu,_⟩:=(hT _ _ htd).2;have:∃ cs,v = .agg cs:=by
         simp only[fD,hu] at hokv;obtain⟨cs,rfl,_⟩:=hokv;exact ⟨cs,rfl⟩
        obtain⟨cs,rfl⟩:=this;refine ⟨.agg M1,?_,⟨cs,rfl,Leaf.rf (by rw[hg]; exact hM1)⟩⟩
        show (AV.agg (sy nm (ax l.length .hole) (M1++(M2++N))).1,(sy nm (ax l.length .hole) (M1++(M2++N))).2)=_;rw[← hlen.1,F3]
       | int _ =>
        have hv:v.cells.toList=[v]:=by
         obtain⟨z,rfl⟩:=okWide_int (hT _ _ htd).2 hokv;rfl
        exact Kq hv hrl hlen
       | bool =>
        have hv:v.cells.toList=[v]:=by
         obtain⟨z,rfl⟩:=okWide_bool (hT _ _ htd).2 hokv;rfl
        exact Kq hv hrl hlen
       | str =>
        have hv:v.cells.toList=[v]:=by
         obtain⟨z,rfl⟩:=okWide_string (hT _ _ htd).2 hokv;rfl
        exact Kq hv hrl hlen
       | sl _ _ _ =>
        have hv:v.cells.toList=[v]:=by
         obtain⟨a,len,cap,rfl⟩:=okWide_slice (hT _ _ htd).2.1 hokv;rfl
        exact Kq hv hrl hlen
       | cx =>
        exfalso;exact DR htd h1 (by intros; intro e; cases e) (by intro e; cases e) (by intro e; cases e) (by intros; intro e; cases e) (by intros; intro e; cases e)
       | fn =>
        exfalso;exact DR htd h1 (by intros; intro e; cases e) (by intro e; cases e) (by intro e; cases e) (by intros; intro e; cases e) (by intros; intro e; cases e)
       | fl =>
        exfalso;exact DR htd h1 (by intros; intro e; cases e) (by intro e; cases e) (by intro e; cases e) (by intros; intro e; cases e) (by intros; intro e; cases e)
       | fa _ _ _ =>
        exfalso;exact DR htd h1 (by intros; intro e; cases e) (by intro e; cases e) (by intro e; cases e) (by intros; intro e; cases e) (by intros; intro e; cases e)
       | arr _ _ _ =>
        exfalso;exact DR htd h1 (by intros; intro e; cases e) (by intro e; cases e) (by intro e; cases e) (by intros; intro e; cases e) (by intros; intro e; cases e)
      obtain⟨a,ha,hra⟩:=key;have h3:=hr2 N;refine ⟨?_,?_⟩
      ·show (sy nm rr.1 (mkV nm _ (M1++(M2++N))).2).2=N;rw[ha]; exact h3.1
      ·show RL (mem w) g Hb U ((mkV nm _ (M1++(M2++N))).1::(sy nm rr.1 (mkV nm _ (M1++(M2++N))).2).1) (v::vs);rw[ha];exact ⟨v,vs,rfl,hra,h3.2⟩
theorem WJ (hl:laidOutB P=true) {W W':World} {sp':Nat->Bool}:(ts:List TypeId)->{vs:List Value}->{ds:List (DataW H)}->{ps:List MemPlace}->(∀ t∈ts,P.readableRec t=true∧t<P.types.size) ->
  dO enc P W 0 (fun _=>true) true ts vs ds ps->(∀ p∈ps,W.sameAt W' p)->(∀ p∈ps,sp' p.block=true)->dO enc P W' 0 sp' true ts vs ds ps
 | [],vs,ds,ps,_,h,_,_=>by
  cases vs with
  | cons _ _=>exact h.elim
  | nil=>cases ds with
   | cons _ _=>exact h.elim
   | nil=>exact h
 | t::ts,vs,ds,ps,hr,h,hsame,hs=>by
  cases vs with
  | nil=>cases ds<;>exact h.elim
  | cons v vs=>cases ds with
   | nil=>exact h.elim
   | cons d ds =>
    obtain⟨p,q,hd,hds,rfl⟩:=h;exact ⟨p,q,Trod_stays hl (hr t (by simp)).1 (hr t (by simp)).2 hd (fun x hx=>hsame x (by simp [hx])) (fun x hx=>hs x (by simp [hx])),WJ hl ts (fun t ht=>hr t (by simp [ht])) hds (fun x hx=>hsame x (by simp [hx])) (fun x hx=>hs x (by simp [hx])),rfl⟩
def RH (gl:Gl) (w:World):Prop:=∀ q x,gl q=some x->RC (mem w) (sx w) (sx w) x.1 x.2 q 0
theorem OH {B:DataW H->Nat} {Bs:List (DataW H)->Nat} (hB:Bulk B Bs) (hT:jk P tb) {gl:Gl} {f:FuncId} {fn:Func} {code:Code} {slots:List TV} {tg:List Nat} {hs:List Ty} {leak glob:Bool} {F:jv hs->Option Bool}
  (h:ShOk P gl f ⟨⟨slots,[],tg,hs⟩,⟨[.hole],[],[2],[.bool]⟩,1,[],[],leak,glob,F⟩) (htg:X5 tg 1 hs.length=zfq hs.length) (hfn:P.funcs[f]? = some fn) (hnm:(fn.name == "runtime.NumGoroutine")=false) (hbody:fn.body=some code) {n:Nat} (hp:pv tb n fn.params.toList=some (slots,hs))
  {W:World} {base:Nat} {r:Reach} {args:Array Value} {ds:List (DataW H)} {ps:List MemPlace} (hG:RH gl W) (hW:dO enc P W 0 sp held fn.params.toList args.toList ds ps)
  (hok:∀(j:Nat) t v,fn.params[j]? = some t->args[j]? = some v->fD P W r base t v) (hF:∀ x,Bm hs x->wtL hs x<=Bs ds->F x=some true) :
  Calls P f args W fun e W'=>e = .returned (.bool true)∧Below W.heap.size W W':=by
 let g:Gh:={ S:=fun q b o=>(q=0∨q=1)∧sx W b o,loc:=fun _=>none }
 have hg:g.S 1=sx W:=by funext b o; exact propext ⟨fun h=>h.2,fun h=>⟨.inr rfl,h⟩⟩
 have hd:∀ n0,mkH n0 ([]:List Blk)=fun _=>.dead:=fun n0=>by
  funext b
  unfold mkH;cases ci n0 b<;>rfl
 obtain⟨M,us,hM,hrl⟩:=K6 hB hT hg (Hb:=fun _=>.dead) (U:=jF 8 0) (fun j=>8+j) _ hp hW (fun j t v ht hv=>hok j t v (by simpa using ht) (by simpa using hv))
 obtain⟨x,hx1,hx2,hx3⟩:=hM.tupL;have hrl:=(hrl []).2;rw[bO,← hx3] at hrl;have hlent:∀ r,¬ lent g (mkH 8 ([]:List Blk)) (mkZ 8 []) r:=fun r hl=>by
  obtain⟨b,hb,_⟩:=hl;rw[hd] at hb;exact hb rfl
 have hdoes:=h.does W (sx W) (fun _ _=>False) (fun b=>W.heap.size<=b) (fun _ h=>h) g args x true (fun _=>⟨fun _ _ h=>h,fun _ h=>.inl h⟩) (fun r hr=>absurd hr (hlent r)) (IS (fun _ _ h=>h)).symm ?_ ?_ (hF x hx1 hx2)
 ·unfold Does at hdoes;rw[Qv hfn hnm hbody] at hdoes;refine Calls.mono hdoes ?_;rintro e W' ⟨v,rfl,hv⟩;obtain⟨g',us',hm',hr',hv',_⟩:=hv 0;obtain⟨u1,us2,e1,hu,_⟩:=hr';have hu:u1 = .bool true:=hu;subst hu;subst e1;subst hv';exact ⟨rfl,hm'.os,hm'.tape,hm'.output,hm'.size,fun k hk=>hm'.keep k ⟨hk,hlent k⟩⟩
 ·have hdead:∀ b,mkH 8 ([]:List Blk) b = .dead:=fun b=>by rw[hd]
  exact { blk:=fun b=>by show RBlk W g (mkH 8 []) _ b (mkH 8 [] b); rw[hdead]; trivial,used:=fun b hb=>absurd (hdead b) hb,inj:=fun b b' r hb=>absurd (hdead b) hb,acc:=fun q b o hs=>hs.2,sep:=fun q r o b hs hb=>absurd (hdead b) hb,up0:=fun q b o hs=>⟨.inl rfl,hs.2⟩,up2:=fun q b o hq hs=>(by rcases hs.1 with h | h<;>omega),dn:=fun b o hs=>.inl hs.2,fr:=fun b o hs=>(by rcases hs.1 with h | h<;>omega),nf:=fun b o hs hB=>(by
  rcases hB with hB | hB
  ·exact absurd (Abs.mem_lt hs.2) (ir.2 hB)
  ·exact absurd hB (hlent b)),keep:=fun k hk=>rfl,mine:=fun b r hb=>absurd (hdead b) hb,own:=fun b r hb=>absurd (hdead b) hb,os:=rfl,tape:=rfl,output:=rfl,size:=aC _,bnd:=aC _,glob:=fun q z hz=>(by
       have hz':gl q=some z:=by
        cases glob with
        | true=>exact hz
        | false=>cases hz
       have:=hG q z hz'
       rw[hg]; exact this),grow:=fun r j hj=>hj }
 ·show RL (mem W) g (mkH 8 []) (jF 8 0) ((sy (fun j=>8+j) slots (mkL (X5 tg 1 hs.length) hs x)).1) args.toList;rw[hd,htg];exact hrl
theorem zaE {B:DataW H->Nat} {Bs:List (DataW H)->Nat} (hB:Bulk B Bs) (hT:jk P tb) {gl:Gl} {f:FuncId} {fn:Func} {code:Code} {slots:List TV} {tg:List Nat} {hs:List Ty} {leak glob:Bool} {F:jv hs->Option Bool}
  (h:ShOk P gl f ⟨⟨slots,[],tg,hs⟩,⟨[.hole],[],[2],[.bool]⟩,1,[],[],leak,glob,F⟩) (htg:X5 tg 1 hs.length=zfq hs.length) (hfn:P.funcs[f]? = some fn) (hnm:(fn.name == "runtime.NumGoroutine")=false) (hbody:fn.body=some code) {n:Nat} (hp:pv tb n fn.params.toList=some (slots,hs))
  (hlaid:laidOutB P=true) (hread:(fn.params.toList.all fun t=>P.readableRec t&&decide (t<P.types.size))=true) {tr:TypeId} (hres:fn.resultTypes = #[tr]) (hbool:P.underlying tr=some .bool)
  {s:ChangeSpec} (hvars:s.vars=[]) (hspec:∀ ds:List (DataW H),ds.length=fn.params.size->(s.fn H ds).results=[.lit (.bool true)]∧(s.fn H ds).args=ds∧(s.fn H ds).vars=[])
  {W:World} {base:Nat} {r:Reach} {args:Array Value} {ds gs:List (DataW H)} {before:List MemPlace} (hG:RH gl W) (hW:DataW.Whole enc P fn.params.toList s.vars false W args.toList ds gs before)
  (hok:∀(j:Nat) t v,fn.params[j]? = some t->args[j]? = some v->fD P W r base t v) (hF:∀ x,Bm hs x->wtL hs x<=Bs ds->F x=some true) :
  Calls P f args W fun e W'=>∃ v,e = .returned v∧s.post enc P fn false true false false W args v W':=by
 have hW':=hW;obtain⟨p,q,hA,hV,rfl,hfz,hnd⟩:=hW;rw[hvars] at hV;obtain⟨rfl,rfl⟩:=trodVars_none hV;refine (OH hB hT h htg hfn hnm hbody hp hG hA hok hF).mono fun e W' ⟨he,hb⟩ => ?_;subst he;have hlen:∀{ts:List TypeId} {vs:List Value} {ds:List (DataW H)} {ps:List MemPlace},dO enc P W 0 (fun _=>true) true ts vs ds ps->ds.length=ts.length:=by
  intro ts
  induction ts with
  | nil=>intro vs ds ps h; cases vs<;>cases ds<;>first | rfl | exact h.elim
  | cons t ts ih =>
   intro vs ds ps h;cases vs<;>cases ds<;>first | exact h.elim | skip
   obtain⟨p,q,_,h,_⟩:=h;simp [ih h]
 have hsp:=hspec ds (by rw[hlen hA,aO])
 have hlt:∀ x∈p++[],x.block<W.heap.size:=fun x hx=>hW'.lt x hx;rw[aD] at hread;have hargs:∀ sp:Nat->Bool,(∀ x∈p++[],sp x.block=true)->dO enc P W' 0 sp true fn.params.toList args.toList (s.fn H (ds++[])).args p:=by
  intro sp hs;rw[bO,hsp.2.1];exact WJ hlaid _ (fun t ht=>by have:=hread t ht; rw[ay,decide_eq_true_eq] at this; exact this) hA (fun x hx=>hb.same (hlt x (by simpa using hx))) (fun x hx=>hs x (by simpa using hx))
 have hresults:∀(b:Nat) (sp:Nat->Bool) (hd:Bool),dO enc P W' b sp hd fn.resultTypes.toList ((Value.bool true).resultList fn.resultTypes.size) (s.fn H (ds++[])).results []:=by
  intro b sp hd;rw[bO,hsp.1,hres];exact trodAll_mk1 (shut_bool hbool true)
 have hvars':∀ sp:Nat->Bool,DataW.TrodVars enc P W' sp s.vars (s.fn H (ds++[])).vars []:=by
  intro sp;rw[bO,hsp.2.2,hvars]; rfl
 have hold:∀ x∈p++[],(fun b=>decide (b<W.heap.size)) x.block=true:=fun x hx=>by simpa using hlt x hx
 refine ⟨_,rfl,ds,[],p++[],[],p,[],hW',hresults _ _ _,hargs _ hold,hvars' _,hb.frame _,fun _ => ?_⟩;refine ⟨ok_one hres rfl (okWide_bool_mk hbool true),_,_,([]++p)++[],⟨[]++p,[],trodAll_append (hargs _ (fun _ _=>rfl)) (hresults _ _ _),hvars' _,rfl,?_,?_⟩,?_⟩
 ·intro b off hp;have:=hlt (.cell b off) (by simpa using hp)
  rw[hb.frozen this];exact hfz b off (by simpa using hp)
 ·intro ha; cases ha
 ·intro x hx _;simpa using hx
end
section
variable {H:Type} {enc:TypeId×Value->H} {P:Program} {tb:Tb} {w:World} {sp:Nat->Bool} {held:Bool}
mutual
def Ml:DataW H->Option (List Value)
 | .lit (.int k n)=>some [.int k n]
 | .lit (.bool b)=>some [.bool b]
 | .lit (.string l)=>some [.string ⟨l.toArray⟩]
 | .agg ds=>Cy ds
 | _=>none
def Cy:List (DataW H)->Option (List Value)
 | []=>some []
 | d::ds=>match Ml d,Cy ds with
  | some a,some b=>some (a++b)
  | _,_=>none
end
theorem KS (hT:jk P tb) {n m:Nat}
  (ih:∀ t hs cs y vs,lv tb n t=some hs->dS enc P w 0 sp held m t cs=some y->Ml y.1=some vs->cs=vs) {cs:List Value} :
  (fs:List Field)->{k:Nat}->{l:List Ty}->{xs:List (DataW H×List MemPlace)}->{vs:List Value}->lvF (lv tb n) (fs.map fun f=>(f.type,f.offset)) k=some l->xs.length=fs.length ->
   (∀(i:Nat) f,fs[i]? = some f->dS enc P w 0 sp held m f.type ((cs.drop f.offset).take (P.cellsOf f.type))=xs[i]?)->cs.length=k+l.length->Cy (xs.map (·.1))=some vs->cs.drop k=vs
 | [],k,l,xs,vs,hl,hx,h,hc,hv=>by
  injection hl with hl; subst hl;have:xs=[]:=by simpa using hx
  subst this;injection hv with hv; subst hv;rw[cP];simp only[bm] at hc;omega
 | f::fs,k,l,[],vs,hl,hx,h,hc,hv=>by simp at hx
 | f::fs,k,l,y::xs,vs,hl,hx,h,hc,hv=>by
  simp only[aK,lvF] at hl;cases ho:aA f.offset k with
  | false=>rw[ho] at hl; cases hl
  | true =>
   rw[ho,cond_true] at hl;have ho:=au ho;cases h1:lv tb n f.type with
   | none=>rw[h1] at hl; cases hl
   | some l1 =>
    rw[h1] at hl;simp only[aa] at hl;cases h2:lvF (lv tb n) (fs.map fun f=>(f.type,f.offset)) (k+l1.length) with
    | none=>rw[h2] at hl; cases hl
    | some l2 =>
     rw[h2] at hl;injection hl with hl; subst hl;obtain⟨td,htd,hsz⟩:=GX h1;have hco:P.cellsOf f.type=l1.length:=by rw[Zl hT htd,hsz]
     have hf:=h 0 f rfl;rw[hco,ho] at hf;rw[aK] at hv;unfold Cy at hv;split at hv
     ·rename_i a b ha hb;injection hv with hv; subst hv;rw[am] at hc;have e1:=ih _ _ _ _ a h1 (hf.trans rfl) ha;have e2:=KS hT ih fs (k:=k+l1.length) (l:=l2) (xs:=xs) h2 (by simpa using hx) (fun i g hg=>h (i+1) g hg) (by omega) hb
      rw[← e1,← e2,← cf,bW]
     ·cases hv
theorem MR (hT:jk P tb):∀ m n t hs cs y vs,lv tb n t=some hs->dS enc P w 0 sp held m t cs=some y->Ml y.1=some vs->cs=vs:=by
 intro m
 induction m with
 | zero=>intro n t hs cs y vs _ h; simp [dS] at h
 | succ m ih =>
  intro n t hs cs y vs hl h hv;cases n with
  | zero=>cases hl
  | succ n =>
   unfold lv at hl;split at hl
   ·rename_i k ht;obtain⟨z,rfl,rfl,hw⟩:=gO (hT _ _ ht).2 h;injection hv
   ·rename_i ht;obtain⟨z,rfl,rfl⟩:=gE (hT _ _ ht).2 h;injection hv
   ·rename_i ht;obtain⟨z,rfl,rfl,hz⟩:=gf (hT _ _ ht).2 h;injection hv
   ·rename_i e ts bytes ht;rcases gq (hT _ _ ht).2.1 h with ⟨rfl,rfl⟩ | ⟨a,len,cap,elems,rest,m',hm',rfl,rfl,_⟩
    ·cases hv
    ·cases hv
   ·rename_i fs k ht;cases hf:lvF (lv tb n) fs 0 with
    | none=>rw[hf] at hl; cases hl
    | some l =>
     rw[hf] at hl;simp only[aa] at hl;cases hd:aA l.length k with
     | false=>rw[hd] at hl; cases hl
     | true =>
      have hk:=au hd;obtain⟨fields,hu,hfs,_⟩:=(hT _ _ ht).2;obtain⟨xs,m',hm',rfl,hcl,hxl,hxs⟩:=gg hu h;injection hm' with hm'; subst hm';rw[← hfs] at hf;have:=KS hT (fun t hs cs y vs hlv=>ih n t hs cs y vs hlv) fields.toList (k:=0) (xs:=xs) (vs:=vs) hf (by rw[hxl,aO]) (fun i f hi=>hxs i f (by simpa using hi)) (by rw[hcl,Zl hT ht]; show k=_; omega) hv
      simpa using this
   ·cases hl
theorem CY:(l:List (String×DataW Unit))->{ps:List MemPlace}->DataW.LaidVars P w l ps->∀(i:Nat) nm d,l[i]? = some (nm,d) ->
  ∃ g t cs ze p,P.globalNamed nm=some g∧(P.globals[g]?).map (·.type)=some t∧w.var? P nm=some cs∧dS (fun _=>()) P w 0 (fun _=>true) false ze t cs.toList=some (d,p)
 | [],_,_,i,nm,d,hi=>by simp at hi
 | (n,d')::r,ps,h,0,nm,d,hi=>by
  injection hi with hi; injection hi with h1 h2; subst h1; subst h2;obtain⟨g,t,cs,ze,p,q,a1,a2,a3,a4,_⟩:=h;exact ⟨g,t,cs,ze,p,a1,a2,a3,a4⟩
 | (n,d')::r,ps,h,i+1,nm,d,hi=>by
  obtain⟨g,t,cs,ze,p,q,a1,a2,a3,a4,a5,_⟩:=h;exact CY r a5 i nm d (by simpa using hi)
theorem zas (hT:jk P tb) {l:List (String×DataW Unit)} (h:laidMetH P l w) (hh:(l.all fun x=>x.2.handleName?.isNone)=true) (i:Nat) {nm:String} {d:DataW Unit} (hi:l[i]? = some (nm,d)) {q t:Nat} (hq:P.globalNamed nm=some q) (ht:(P.globals[q]?).map (·.type)=some t)
  {n:Nat} {ts:Tys} {x:Tup ts} {vs:List Value} (hlv:lv tb n t=some (Tz ts)) (hv:Ml d=some vs) (hx:∀ c A blk off,(∀(j:Nat) v,vs[j]? = some v->A blk (off+j)∧c blk (off+j)=some v)->RC c A A ts x blk off):RC (mem w) (sx w) (sx w) ts x q 0:=by
 rw[gQ _ _ _ hh] at h;obtain⟨ps,hps,_⟩:=h;obtain⟨g,t',cs,ze,p,a1,a2,a3,a4⟩:=CY l hps i nm d hi;rw[hq] at a1; injection a1 with a1; subst a1;rw[ht] at a2; injection a2 with a2; subst a2;have e:=MR hT ze n t _ _ _ vs hlv a4 hv;refine hx _ _ _ _ fun j v hj => ?_;have hc:=World.var?_cell hq a3 j;have:mem w q (0+j)=some v:=by
  rw[aP];show w.cell? ⟨q,j,none⟩=_;rw[hc,← hj,← e,Array.getElem?_toList]
 exact ⟨by unfold sx; rw[this]; rfl,this⟩
def za0 (P:Program) (os:Os) (l:List (Nat×Array Value)):World :=
 l.foldl (fun w p=>{ w with heap:=w.heap.modify p.1 fun
  | .cells _ t fr=>.cells p.2 t fr
  | o=>o }) (fY P os ⟨#[],#[],[]⟩)
theorem P1 (P:Program) (os:Os) (l:List (Nat×Array Value)) (h:(fY P os ⟨#[],#[],[]⟩).os=os):(za0 P os l).os=os:=by
 unfold za0;generalize fY P os ⟨#[],#[],[]⟩=w at h
 induction l generalizing w with
 | nil=>exact h
 | cons p l ih=>exact ih _ h
end
end Go.Abs
namespace Go.Abs
theorem ob0 {P:Program} {V:Env}:∀ X:Fx,VOk P X V->Obl P X V []:=fun _ _=>zbC
def UnA (P:Program) (V:Env) (c:Code) (u:Un):Prop:=∀ X:Fx,VOk P X V->Pt P X V c u
theorem ob1 {P:Program} {V:Env} {c:Code} {u:Un} {l:List (Code×Un)} (h:UnA P V c u) (hl:∀ X:Fx,VOk P X V->Obl P X V l):∀ X:Fx,VOk P X V->Obl P X V ((c,u)::l):=fun X hX=>RK (h X hX) (hl X hX)
def Ac:Code->Code
 | .loop c=>c
 | .scope c=>c
 | c=>c
def u9 {P:Program} {gl':Gl} {l:List (Nat×Con)} (tb:Tb) (gl:Gl) (_:WA P gl' l) (c:ShC) (fn:Func):Env:=XN tb gl l c fn.ntmps
theorem gd1 {P:Program} {gl gl':Gl} {f:FuncId} {c:ShC} {l:List (Nat×Con)} (h:ShOk P gl f c) (hl:WA P gl' l) (hg:c.glob=false:=by kernel_rfl):WA P gl' ((f,.gen (qp [c]))::l):=W7 (ID (DK (h.anyGl hg) Ie)) hl
theorem gdG {P:Program} {gl:Gl} {f:FuncId} {c:ShC} {l:List (Nat×Con)} (h:ShOk P gl f c) (hl:WA P gl l):WA P gl ((f,.gen (qp [c]))::l):=W7 (ID (DK h Ie)) hl
theorem gd0 {P:Program} {gl:Gl} {l:List (Nat×Con)} (f:FuncId) (hl:WA P gl l):WA P gl ((f,.gen (qp []))::l):=W7 (ID Ie) hl
theorem yq {P:Program} {tb:Tb} {gl:Gl} {l:List (Nat×Con)} {f:FuncId} {c:ShC} {fn:Func} (ac:AC) (rts:List RT') {ob:List (Code×Un)} (ht:jk P tb) (zu:P.follows .mixedOrders=true) (hg:WA P (cond c.glob gl fun _=>none) l)
  (hfn:P.funcs[f]? = some fn) (hac:∀ X:Fx,VOk P X (XN tb gl l c fn.ntmps)->Obl P X (XN tb gl l c fn.ntmps) ob) (hb:fn.body=some (zn fn):=by kernel_rfl) (hr:fn.results=(rts.map RT'.var).toArray:=by kernel_rfl)
  (hn:c.nres=rts.length:=by kernel_rfl) (hrow:zgg fn c fn.ntmps=true:=by kernel_rfl) (hl:obl (zn fn) ac=ob:=by kernel_rfl) (hk:c.ms.all (fun t => !((ZJ (zn fn)).any (aA t)))=true:=by kernel_rfl)
  (hE:∀ x,E (XN tb gl l c fn.ntmps) (zn fn) ac (c.entry x) (Rw tb (XN tb gl l c fn.ntmps).fz c rts x)=c.F x:=by intro x; kernel_rfl):ShOk P gl f c :=
 zf7 ht zu hg hfn hb hr hn hrow hl hac hk hE
theorem vE {P:Program} {V:Env} {c0:Code} (ac:AC) (zu:P.follows .mixedOrders=true) (hA:VAll P V) {ob:List (Code×Un)} (hac:∀ X:Fx,VOk P X V->Obl P X V ob) {hd:SS} {es:Exs} {step:(hd.X->Option (YT es))->hd.X->Option (YT es)} {W:List Nat}
  (h0:c0 = .loop (Ac c0):=by kernel_rfl) (hl:obl (Ac c0) ac=ob:=by kernel_rfl) (hs:∀ f x,E V (Ac c0) ac (mkS hd 8 x) (Bp V.fz hd es f)=step f x:=by intro f x; kernel_rfl) (hW:ZJ (Ac c0)=W:=by kernel_rfl)
  (hro:es.all (fun e=>YF e.2.sh)=true:=by kernel_rfl):UnA P V c0 (lpU V.fz W hd es (lp step ze)):=fun _ hX=>zdr h0 hA zu hl hac hs hW hro hX
theorem zex {P:Program} {V:Env} {c0:Code} (l:List (Nat×AC)) (zu:P.follows .mixedOrders=true) (hA:VAll P V) {ac:AC} {ob:List (Code×Un)} (hac:∀ X:Fx,VOk P X V->Obl P X V ob) (hacs:∀ X:Fx,VOk P X V->IW P X V (Ac c0) l) {js es:Exs}
  {step:(YT js->Option (YT es))->YT js->Option (YT es)} {W:List Nat} (h0:c0 = .scope (Ac c0):=by kernel_rfl) (hl:obl (Ac c0) ac=ob:=by kernel_rfl) (hs:∀ f x,Fi V (Ac c0) (PW l) js es f x=step f x:=by intro f x; kernel_rfl)
  (hgo:KH es=true:=by kernel_rfl) (hW:ZJ (Ac c0)=W:=by kernel_rfl) (hro:es.all (fun e=>YF e.2.sh)=true:=by kernel_rfl):UnA P V c0 (scU V W js es (Ac c0) ac (lp step ze)) :=
 fun _ hX=>zem h0 hA zu hl hac (fun X hX=>zeY (hacs X hX)) hs hgo hW hro hX
theorem zen {P:Program} {V:Env} {c:Code}:∀ X:Fx,VOk P X V->IW P X V c []:=fun _ _=>zaw
theorem zgN {P:Program} {V:Env} {c:Code} {i:Nat} {a:AC} {l:List (Nat×AC)} {ob:List (Code×Un)} (ho:∀ X:Fx,VOk P X V->Obl P X V ob) (hl:∀ X:Fx,VOk P X V->IW P X V c l) (h:obl (GE c i) a=ob:=by kernel_rfl) :
  ∀ X:Fx,VOk P X V->IW P X V c ((i,a)::l):=fun X hX=>R5 h (ho X hX) (hl X hX)
def QC {α:Type} (xs:List α) (i:Nat) (ys:List α):List α:=xs.take i++(ys++xs.drop i)
theorem Vz {α:Type} (xs:List α) {i:Nat} (ys:List α) (h:i<=xs.length):(QC xs i ys).length=xs.length+ys.length:=by
 simp [QC]; omega
theorem KB {α:Type} (xs:List α) {i:Nat} (ys:List α) (h:i<=xs.length) (j:Nat) :
  (QC xs i ys)[j]? = if j<i then xs[j]? else if j<i+ys.length then ys[j - i]? else xs[j - ys.length]? := by
 unfold QC;by_cases h1:j<i
 ·rw[if_pos h1,bP (by simp; omega),List.getElem?_take,if_pos h1]
 ·rw[if_neg h1,bI (by simp; omega)]
  simp only[List.length_take,Nat.min_eq_left h];by_cases h2:j<i+ys.length
  ·rw[if_pos h2,bP (by omega)]
  ·rw[if_neg h2,bI (by omega),List.getElem?_drop]
   congr 1
   omega
def zeA (i:Int) (xs ys:List Int):Option (List Int):=cond (Pv i&&decide (i<=(af xs:Int))&&Ei (af ys:Int)&&yK (af xs+af ys) 8) (some (QC xs i.toNat ys)) none
end Go.Abs
