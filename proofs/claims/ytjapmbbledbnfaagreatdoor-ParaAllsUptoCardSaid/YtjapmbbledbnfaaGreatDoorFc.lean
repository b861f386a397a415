import Derived.ScopeJumps
import Derived.Lib.Join
import Derived.Lib.ItoaNum
import Derived.Lib.Bytealg
import Derived.ProofKit
import Derived.OpenShut
import Derived.Deep.DeepHandedRow
import Derived.Lib.LaidTab
import Derived.MakeChecks
import Derived.Test.YtjapmbbledbnfaaGreatDoorFb
/-
  A reading of Go code as pure functions: what the operations, rounds and calls of a text make, with proofs.
-/
open Array renaming getD_eq_getD_getElem? -> aV, getElem?_eq_getElem -> aT, getElem?_modify -> fq, getElem?_toList -> aH, length_toList -> aL, replicate -> cZ
open Bool renaming and_eq_true -> aw, not_eq_true' -> bZ
open Classical renaming byContradiction -> eF
open Go.Code renaming region -> gd, rounds -> ge, seq -> gV
open Go.DataW renaming TrodAll -> dF, trod -> dK, trod_bool -> gh, trod_int -> gA, trod_slice -> fY, trod_string -> fR, trod_struct -> fS
open Go.Deferred renaming ofValue -> fX
open Go.Instr renaming loadAt -> c8, storeAt -> el
open Go.IntKind renaming bits -> dh, signed -> eB, wrap -> ah
open Go.MakeChecks renaming laidMetH_plain -> gC
open Go.Program renaming cellsOf -> ib
open Go.Region renaming wanted -> eM
open Go.Steps renaming trans -> gU
open Go.Value renaming cells -> gf, int -> bN, okWide -> fh
open Go.World renaming cell? -> d0, holding -> fH, setCell -> fI
open Iff renaming rfl -> eX
open List renaming all_eq_true -> aF, any_eq_false -> ce, append_assoc -> bc, append_nil -> cp, drop_drop -> cm, drop_eq_nil_iff -> cK, getD_eq_getElem?_getD -> aD, getElem?_append_left -> bv, getElem?_append_right -> bf, getElem?_drop -> bi, getElem?_eq_getElem -> al, getElem?_eq_none -> aP, getElem?_eq_none_iff -> dR, getElem?_eq_some_iff -> aq, getElem?_map -> br, getElem?_take -> ba, getElem_mem -> cJ, length -> aa, length_append -> ax, length_cons -> aj, length_nil -> bb, map -> cD, map_cons -> aJ, mem_append -> aQ, mem_append_left -> bl, mem_append_right -> bm, mem_cons -> aB, mem_cons_of_mem -> ai, mem_range -> b9, mem_singleton -> bE, replicate -> az, take_append_drop -> bR
open List.Pairwise renaming nil -> fQ
open Nat renaming add_assoc -> bI, add_comm -> cN, beq -> ay, beq_refl -> ef, ble -> bQ, ble_eq_true_of_le -> ck, eq_of_beq_eq_true -> am, le_of_ble_eq_true -> bA, le_refl -> aE, le_trans -> aK, lt_of_lt_of_le -> cG, not_lt -> gz, zero_add -> aN, zero_le -> b6
open Ne renaming symm -> dj
open Option renaming bind_assoc -> bz, bind_eq_some_iff -> ag, bind_some -> af, isSome_iff_exists -> cj, map_eq_some_iff -> bg
open Sum renaming inl -> aU, inr -> aG
namespace Go.Abs
theorem RU {w:World} {g g':Gh} {H H':Nat->Blk} {U U':Nat->Prop} {nm nm':Nat->Nat} (rn:Rn (mem w) g H U (mem w) g' H' U' nm nm') {b b':Nat} (hl:g'.loc b'=g.loc b) (t:TB) {M M':List AV} (hf:F2 (LR g.S g'.S (mem w) (mem w)) M M')
  (h:RBlk w g H U b (wK nm t M).1):RBlk w g' H' U' b' (wK nm' t M').1:=by
 cases t with
 | cells z l =>
  obtain⟨r,cc,e,h1,h2,h3⟩:=(show ∃ r cc e,g.loc b=some r∧w.heap[r]? = some (.cells cc e (0,0))∧RF (mem w) g H U (tM nm l M).1 cc.toList from h)
  exact ⟨r,cc,e,hl.trans h1,h2,(Gr rn l (hf.imp' fun a b hab=>hab.lc) h3).1⟩
 | seq z =>
  cases hf with
  | nil=>trivial
  | cons h1 h2 =>
   obtain⟨k,k',t,y,rfl,rfl,hs⟩:=h1;cases t with
   | sl ts =>
    refine (show _∨_ from h).imp (fun h=>⟨hl.trans h.1,h.2⟩) ?_
    rintro⟨r,cc,e,h3,h4,h5,h6⟩;exact ⟨r,cc,e,hl.trans h3,h4,h5,h6.imp fun i x _ hx=>RC.mono hs (fun _ _ h=>⟨h,rfl⟩) _ x _ _ hx⟩
   | _=>trivial
theorem IL {w:World} {g g':Gh} {H H':Nat->Blk} {U U':Nat->Prop} {nm nm':Nat->Nat} (rn:Rn (mem w) g H U (mem w) g' H' U' nm nm'):(ts:List TB)->{M M':List AV}->F2 (LR g.S g'.S (mem w) (mem w)) M M'->∀(j b b':Nat) k k',g'.loc b'=g.loc b ->
  (qe nm ts M)[j]? = some k->(qe nm' ts M')[j]? = some k'->RBlk w g H U b k->RBlk w g' H' U' b' k'
 | [],M,M',_,j,b,b',k,k',_,h,_,_=>by simp [qe] at h
 | t::ts,M,M',hf,0,b,b',k,k',hl,h,h',hr=>by
  injection h with h; injection h' with h'; subst h; subst h';exact RU rn hl t hf hr
 | t::ts,M,M',hf,j+1,b,b',k,k',hl,h,h',hr=>IL rn ts (Kz nm nm' t hf).2 j b b' k k' hl (show (qe nm ts (wK nm t M).2)[j]? = some k from h) (show (qe nm' ts (wK nm' t M').2)[j]? = some k' from h') hr
structure Retag (w:World) (g g':Gh) (sh:Sh) (tg':List Nat) (n0:Nat) (x:ko sh.hs):Prop where
 loc:∀ b,g'.loc b=g.loc b
 S:∀ i,i<sh.hs.length->∀ b o,g.S (sh.tg.getD i 0) b o->g'.S (tg'.getD i 0) b o
section
variable {w:World} {g g':Gh} {sh:Sh} {tg':List Nat} {n0:Nat} {x:ko sh.hs}
theorem Retag.f2 (h:Retag w g g' sh tg' n0 x):F2 (LR g.S g'.S (mem w) (mem w)) (mkL sh.tg sh.hs x) (mkL tg' sh.hs x):=HB _ _ _ _ fun i hi b o hb=>⟨h.S i hi b o hb,rfl⟩
theorem Retag.two (h:Retag w g g' sh tg' n0 x) (j:Nat) (k:Blk) (hk:(sh.bks (fun j=>n0+j) x)[j]? = some k):∃ k',(Sh.bks { sh with tg:=tg' } (fun j=>n0+j) x)[j]? = some k'∧TwoB g.S g'.S (mem w) (mem w) k k' :=
 Jz _ _ sh.blks (XW _ _ sh.slots h.f2) j k hk
theorem Retag.H (h:Retag w g g' sh tg' n0 x) (b:Nat):TwoB g.S g'.S (mem w) (mem w) (mkH n0 (sh.bks (fun j=>n0+j) x) b) (mkH n0 (Sh.bks { sh with tg:=tg' } (fun j=>n0+j) x) b):=by
 have hl:(sh.bks (fun j=>n0+j) x).length=(Sh.bks { sh with tg:=tg' } (fun j=>n0+j) x).length:=by
  unfold Sh.bks; rw[vL,vL]
 unfold mkH;cases hb:bQ n0 b with
 | false=>trivial
 | true =>
  simp only[cond_true,aD];cases hk:(sh.bks (fun j=>n0+j) x)[b - n0]? with
  | none =>
   rw[dR] at hk;rw[aP (by omega)]
   trivial
  | some k =>
   obtain⟨k',h1,h2⟩:=h.two (b - n0) k hk;rw[h1];exact h2
theorem Retag.rn (h:Retag w g g' sh tg' n0 x):Rn (mem w) g (mkH n0 (sh.bks (fun j=>n0+j) x)) (upto n0 sh.blks.length) (mem w) g' (mkH n0 (Sh.bks { sh with tg:=tg' } (fun j=>n0+j) x)) (upto n0 sh.blks.length) (fun j=>n0+j) (fun j=>n0+j) :=
 ⟨fun _ h=>h,fun _j _ _=>h.loc _,fun j _=>(h.H (n0+j)).live.2.2.2,fun _ _ _ _ h=>h⟩
theorem Retag.RL (h:Retag w g g' sh tg' n0 x) {vs:List Value} (hr:Abs.RL (mem w) g (mkH n0 (sh.bks (fun j=>n0+j) x)) (upto n0 sh.blks.length) (sh.avs (fun j=>n0+j) x) vs) :
  Abs.RL (mem w) g' (mkH n0 (Sh.bks { sh with tg:=tg' } (fun j=>n0+j) x)) (upto n0 sh.blks.length) (Sh.avs { sh with tg:=tg' } (fun j=>n0+j) x) vs :=
 (BX h.rn sh.slots (h.f2.imp' fun _a _b hab=>hab.lc) hr).1
theorem Retag.blk (h:Retag w g g' sh tg' n0 x) (hb:∀ b,RBlk w g (mkH n0 (sh.bks (fun j=>n0+j) x)) (upto n0 sh.blks.length) b (mkH n0 (sh.bks (fun j=>n0+j) x) b)) (b:Nat) :
  RBlk w g' (mkH n0 (Sh.bks { sh with tg:=tg' } (fun j=>n0+j) x)) (upto n0 sh.blks.length) b (mkH n0 (Sh.bks { sh with tg:=tg' } (fun j=>n0+j) x) b):=by
 by_cases hd:mkH n0 (Sh.bks { sh with tg:=tg' } (fun j=>n0+j) x) b = .dead
 ·rw[hd]; trivial
 ·have h1:=(h.H b).live.1 hd;obtain⟨j,k,rfl,h2,h3⟩:=sx h1;obtain⟨k',h4,-⟩:=h.two j k h2;rw[Vw h4];have hbb:=hb (n0+j);rw[Vw h2] at hbb;exact IL h.rn sh.blks (XW _ _ sh.slots h.f2) j _ _ k k' (h.loc _) h2 h4 hbb
theorem Retag.lent (h:Retag w g g' sh tg' n0 x) {Z:Nat->Bool}:Abs.lent g' (mkH n0 (Sh.bks { sh with tg:=tg' } (fun j=>n0+j) x)) Z=Abs.lent g (mkH n0 (sh.bks (fun j=>n0+j) x)) Z:=by
 funext r
 refine propext ⟨?_,?_⟩
 ·rintro⟨b,h1,h2,h3⟩;have hl:=(h.H b).live;exact ⟨b,hl.1 h1,by rw[← h.loc b]; exact h2,by rw[hl.2.2.1]; exact h3⟩
 ·rintro⟨b,h1,h2,h3⟩;have hl:=(h.H b).live;exact ⟨b,hl.2.1 h1,by rw[h.loc b]; exact h2,by rw[← hl.2.2.1]; exact h3⟩
end
section
variable {R:Type}
def zcB (H:Nat->Blk) (fz:Nat):List AV->Nat
 | []=>2
 | a::as=>jn (jk H fz a) (zcB H fz as)
def Gs (id ga fz t:Nat):Nat:=cond (bQ 2 t) id (cond (ay fz 2) (jn ga 2) 0)
def sX (bd:Bnd) (id k:Nat):List (Nat×Nat)->Nat
 | []=>id+k
 | p::mu=>cond (ay p.2 k) (match bd[p.1]? with
  | some (some i)=>i
  | _=>id+k) (sX bd id k mu)
def Ep (mu:List (Nat×Nat)) (bd:Bnd) (id:Nat):Nat->List Blk->List (Nat×Blk)
 | _,[]=>[]
 | k,b::bs=>(sX bd id k mu,b)::Ep mu bd id (k+1) bs
def zgq:List AV->AV
 | [v]=>v
 | vs=>.tup vs
def ShC.inpT (c:ShC) (ga:Nat):Sh:={ c.inp with tg:=Qb c.inp.tg ga c.inp.hs.length }
def ShC.outT (c:ShC) (id ga fz:Nat):Sh:={ c.out with tg:=c.out.tg.map (Gs id ga fz) }
def zhk (c:ShC) (id fz:Nat) (as:List AV) (H:Nat->Blk) (Z:Nat->Bool) (ga:Nat) (κ:K R):Option R :=
 ((c.inpT ga).dec H Z fz as).bind fun d=>(c.F d.x).bind fun y =>
  κ (zgq (((c.outT id ga fz).avs (fun k=>id+k) y).take c.nres)) ⟨(t9 c.inp d.bd).map (fun b=>(b,.dead))++Ep c.mu d.bd id 0 ((c.outT id ga fz).bks (fun k=>id+k) y),cond c.leak d.zs []⟩
def shE (c:ShC) (id fz:Nat) (as:List AV) (H:Nat->Blk) (Z:Nat->Bool) (κ:K R):Option R :=
 (vK c.inp.slots as []).bind fun p=>(KF H Z c.inp.blks 0 p.2).bind fun q=>zhk c id fz as H Z (cond c.glob (jn (zcB H fz (p.1++q.1)) 1) (zcB H fz (p.1++q.1))) κ
theorem zbP (c:ShC) (id fz:Nat) (as:List AV) (H:Nat->Blk) (Z:Nat->Bool) (κ:K R):shE c id fz as H Z κ=(shE c id fz as H Z pk).bind (kb κ):=by
 unfold shE zhk;exact zm _ _ _ _ fun _=>zm _ _ _ _ fun _=>zm _ _ _ _ fun _=>zm _ _ _ _ fun _=>rfl
theorem CF {H:Nat->Blk} {fz:Nat} {t:Ty} {a:AV} {y:Nat×El t} (h:wv H fz t a=some y):∀ b,b∈a.shows->H b ≠ .dead:=by
 intro b hb;cases a with
 | view b' =>
  rw[bE.1 hb];simp only[wv] at h;intro hd;rw[hd] at h;cases h
 | part b' o n =>
  rw[bE.1 hb];simp only[wv] at h;intro hd;rw[hd] at h;cases h
 | _=>cases hb
theorem F2.left {α β:Type} {r:α->β->Prop}:{as:List α}->{bs:List β}->F2 r as bs->∀ a,a∈as->∃ b,r a b
 | [],_,_,a,h=>by cases h
 | a::as,_,hf,x,h=>by
  cases hf with
  | cons h1 h2 =>
   rcases aB.1 h with rfl | h
   ·exact ⟨_,h1⟩
   ·exact h2.left x h
theorem HG {g:Gh} {H hv:Nat->Blk} (hh:∀ b,hv b = .dead∨hv b=H b) {fz:Nat} {bs:List Nat} (hb:∀ b,b∈bs->hv b ≠ .dead):(g.show hv fz bs).S=(g.show H fz bs).S:=by
 funext q b o
 refine propext (or_congr eX (and_congr eX ⟨?_,?_⟩))
 ·rintro⟨x,hx,q',ts,xs,h1,h2⟩;exact ⟨x,hx,q',ts,xs,((hh x).resolve_left (hb x hx))▸h1,h2⟩
 ·rintro⟨x,hx,q',ts,xs,h1,h2⟩;exact ⟨x,hx,q',ts,xs,((hh x).resolve_left (hb x hx)).trans h1,h2⟩
theorem Kr (bd:Bnd) (id k:Nat):(mu:List (Nat×Nat))->((∀ p,p∈mu->p.2≠k)∧sX bd id k mu=id+k)∨∃ p,p∈mu∧p.2=k∧sX bd id k mu=(match bd[p.1]? with | some (some i)=>i | _=>id+k)
 | []=>.inl ⟨(fun p hp=>by cases hp),rfl⟩
 | p::mu=>by
  unfold sX;cases h:ay p.2 k with
  | true=>exact .inr ⟨p,by simp,am h,rfl⟩
  | false =>
   have hne:p.2≠k:=fun e=>by rw[e,ef] at h; cases h
   rcases Kr bd id k mu with ⟨h1,h2⟩ | ⟨q,h1,h2,h3⟩
   ·exact .inl ⟨fun q hq=>by rcases aB.1 hq with rfl | hq; exact hne; exact h1 q hq,h2⟩
   ·exact .inr ⟨q,by simp [h1],h2,h3⟩
theorem WV {mu:List (Nat×Nat)} {bd:Bnd} {id:Nat}:(k0:Nat)->(bs:List Blk)->∀ p,p∈Ep mu bd id k0 bs↔∃ n b,bs[n]? = some b∧p=(sX bd id (k0+n) mu,b)
 | k0,[],p=>by simp [Ep]
 | k0,b::bs,p=>by
  simp only[Ep,aB,WV (k0+1) bs p];constructor
  ·rintro (rfl | ⟨n,b',h1,h2⟩)
   ·exact ⟨0,b,rfl,rfl⟩
   ·exact ⟨n+1,b',by simpa using h1,by rw[h2]; congr 2; omega⟩
  ·rintro⟨n,b',h1,h2⟩;cases n with
   | zero=>injection h1 with h1; subst h1; exact .inl h2
   | succ n=>exact .inr ⟨n,b',by simpa using h1,by rw[h2]; congr 2; omega⟩
end
theorem Im {tg:List Nat} {t n i:Nat} (h:i<n):(Qb tg t n).getD i 0=cond (bQ 2 (tg.getD i 1)) 2 t:=by
 unfold Qb;rw[aD,br,List.getElem?_range h]; rfl
theorem zaE {c:ShC} {i:Nat} (hi:i<c.inp.hs.length) (h:bQ 2 (c.inp.tg.getD i 1)=true):c.has2=true:=by
 unfold ShC.has2;rw[List.any_eq_true];refine ⟨2,?_,rfl⟩;unfold Qb;exact List.mem_map.2 ⟨i,b9.2 hi,by rw[h]; rfl⟩
def Pd (c:ShC) (g8:Gh) (ga:Nat):Reg:=fun b o=>g8.S ga b o∨(c.has2=true∧g8.S 2 b o)
def Pi (c:ShC) (g8:Gh):Reg:=fun b o=>c.has2=true∧g8.S 2 b o
def zbU (c:ShC) (X:Fx) (w:World) (l:Nat->Prop):Nat->Prop:=fun b=>w.heap.size<=b∨l b∨(c.has2=true∧X.N b)
theorem VX {c:ShC} {X:Fx} {w:World} {l:Nat->Prop}:∀ b,w.heap.size<=b->zbU c X w l b:=fun _ h=>.inl h
theorem MemOk.enter {X:Fx} {g8:Gh} {w:World} {c:ShC} {ga:Nat} {x:ko c.inp.hs} (P:Program) (gl:Gl)
  (hm:MemOk X g8 (mkH 8 ((c.inpT ga).bks (fun j=>8+j) x)) (mkZ 8 c.inp.blks) (upto 8 c.inp.blks.length) w) (hgl:∀ q z,gl q=some z->X.gl q=some z∧Le 1 ga)
  {gc:Gh} (hgc:gc = { S:=zgr (Pd c g8 ga) (Pi c g8),loc:=g8.loc }) :
  Retag w g8 gc (c.inpT ga) (Qb c.inp.tg 1 c.inp.hs.length) 8 x∧MemOk (Yv P gl w (Pd c g8 ga) (zbU c X w (lent gc (c.entry x).H (c.entry x).Z)) VX gc (c.entry x).H (c.entry x).Z) gc (c.entry x).H (c.entry x).Z (upto 8 c.inp.blks.length) w:=by
 have hrt:Retag w g8 gc (c.inpT ga) (Qb c.inp.tg 1 c.inp.hs.length) 8 x:=by
  refine ⟨fun b=>by rw[hgc],fun i hi b o hb => ?_⟩
  rw[hgc];have hi':i<c.inp.hs.length:=hi;have e1:(c.inpT ga).tg.getD i 0=cond (bQ 2 (c.inp.tg.getD i 1)) 2 ga:=Im hi';have e2:(Qb c.inp.tg 1 c.inp.hs.length).getD i 0=cond (bQ 2 (c.inp.tg.getD i 1)) 2 1:=Im hi';rw[e1] at hb;rw[e2];cases hk:bQ 2 (c.inp.tg.getD i 1) with
  | true =>
   rw[hk] at hb;exact .inr ⟨rfl,zaE hi' hk,hb⟩
  | false =>
   rw[hk] at hb;exact .inl ⟨.inr rfl,.inl hb⟩
 refine ⟨hrt,?_⟩;have hH:(c.entry x).H=mkH 8 (Sh.bks { c.inpT ga with tg:=Qb c.inp.tg 1 c.inp.hs.length } (fun j=>8+j) x):=rfl;have live:∀ b,(c.entry x).H b ≠ .dead->mkH 8 ((c.inpT ga).bks (fun j=>8+j) x) b ≠ .dead:=fun b h=>(hrt.H b).live.1 (hH▸h);have hloc:∀ b,gc.loc b=g8.loc b:=hrt.loc;have hA:∀ b o,Pd c g8 ga b o->∃ q,g8.S q b o:=fun b o h=>h.elim (fun h=>⟨ga,h⟩) fun h=>⟨2,h.2⟩;have hS:∀ q b o,gc.S q b o->(q=0∨q=1∨q=2)∧Pd c g8 ga b o∧(q=2->Pi c g8 b o):=fun q b o h=>by
  rw[hgc] at h;rcases h with ⟨h1,h2⟩ | ⟨h1,h2⟩
  ·exact ⟨h1.imp (fun h=>h) .inl,h2,fun h=>by rcases h1 with h' | h'<;>omega⟩
  ·exact ⟨.inr (.inr h1),.inr h2,fun _=>h2⟩
 have hS':∀ b o,Pd c g8 ga b o->gc.S 1 b o∧gc.S 0 b o:=fun b o h=>by rw[hgc]; exact ⟨.inl ⟨.inr rfl,h⟩,.inl ⟨.inl rfl,h⟩⟩
 refine { blk:=fun b=>by rw[hH]; exact hrt.blk hm.blk b,used:=fun b hb=>hm.used b (live b hb),inj:=fun b b' r hb hb' hl hl'=>hm.inj b b' r (live b hb) (live b' hb') (hloc b▸hl) (hloc b'▸hl'),acc:=fun q b o hs=>(by obtain⟨k,hk⟩:=hA b o (hS q b o hs).2.1; exact hm.acc k b o hk),sep:=fun q r o b hs hb hl => ?_,up0:=fun q b o hs=>(hS' b o (hS q b o hs).2.1).2,up2:=fun q b o hq hs=>(by
  obtain⟨h1,h2,h3⟩:=hS q b o hs;have:q=2:=by omega
  subst this;rw[hgc];exact .inr ⟨rfl,h3 rfl⟩),dn:=fun b o hs=>.inl (hS 0 b o hs).2.1,fr:=fun b o hs=>.inr (.inr ⟨((hS 2 b o hs).2.2 rfl).1,hm.fr b o ((hS 2 b o hs).2.2 rfl).2⟩),nf:=fun b o hs hB=>(by
  obtain⟨k,hk⟩:=hA b o (hS 0 b o hs).2.1;rcases hB with (hB | ⟨x,hx,hl,-⟩ | ⟨-,hB⟩) | ⟨x,hx,hl,-⟩
  ·have:=hm.mem_lt hk;exact absurd this (gz.2 hB)
  ·exact hm.blkFrz (live x hx) (hloc x▸hl) o
  ·exact hm.nf b o (hm.up0 k b o hk) (.inl hB)
  ·exact hm.blkFrz (live x hx) (hloc x▸hl) o),keep:=fun _ _=>rfl,mine:=fun b r hb hl hk => ?_,own:=fun b r hb hl => ?_,os:=rfl,tape:=rfl,output:=rfl,size:=aE _,bnd:=aE _,glob:=fun q z hz => ?_,grow:=fun _ _ h=>h }
 ·obtain⟨k,hk⟩:=hA r o (hS q r o hs).2.1;obtain⟨h1,q',ts,xs,h2,h3⟩:=hm.sep k r o b hk (live b hb) (hloc b▸hl);refine ⟨h1,?_⟩;have ht:=hrt.H b;rw[h2] at ht;rw[hH] at hb ⊢;cases hk:mkH 8 (Sh.bks { c.inpT ga with tg:=Qb c.inp.tg 1 c.inp.hs.length } (fun j=>8+j) x) b with
  | dead=>exact absurd hk hb
  | cells cs=>rw[hk] at ht; exact ht.elim
  | seq q2 us ys =>
   rw[hk] at ht;obtain⟨⟨rfl,rfl⟩,-⟩:=ht;exact ⟨q2,_,_,rfl,h3⟩
 ·exact eF fun hc=>hk.2 ⟨b,hb,hl,hc⟩
 ·by_cases hc:(c.entry x).Z b=true∧((c.entry x).H b).isCells=true
  ·exact .inr (.inr hc)
  ·exact .inr (.inl ⟨b,hb,hl,hc⟩)
 ·obtain⟨h1,h2⟩:=hgl q z hz;have hsub:∀ b o,g8.S 1 b o->gc.S 1 b o∧mem w b o=mem w b o:=fun b o h=>⟨(hS' b o (.inl (hm.le h2 h))).1,rfl⟩;exact RC.mono hsub hsub _ _ _ _ (hm.glob q z h1)
theorem WB {nm:Nat->Nat}:(ts:List TB)->{ms:List AV}->{j:Nat}->{q:Nat}->{us:Tys}->{xs:List (Tup us)}->(qe nm ts ms)[j]? = some (.seq q us xs)->∃ z,ts[j]? = some (.seq z)
 | [],_,_,_,_,_,h=>by simp [qe] at h
 | t::ts,ms,0,q,us,xs,h=>by
  have h:some (wK nm t ms).1=some (.seq q us xs):=h;injection h with h;cases t with
  | seq z=>exact ⟨z,rfl⟩
  | cells z l=>cases h
 | t::ts,ms,j+1,q,us,xs,h=>WB ts (show (qe nm ts (wK nm t ms).2)[j]? = _ from h)
theorem Si {X:Fx} {g8:Gh} {w:World} {c:ShC} (hok:okC c=true) {ga:Nat} {x:ko c.inp.hs} (hm:MemOk X g8 (mkH 8 ((c.inpT ga).bks (fun j=>8+j) x)) (mkZ 8 c.inp.blks) (upto 8 c.inp.blks.length) w) {q r o:Nat} (hs:g8.S q r o) :
  ¬ lent g8 (mkH 8 ((c.inpT ga).bks (fun j=>8+j) x)) (mkZ 8 c.inp.blks) r:=by
 rintro⟨b,hb,hl,-⟩;obtain⟨hz,q',ts,xs,hH,-⟩:=hm.sep q r o b hs hb hl;obtain⟨j,k,rfl,h1,h2⟩:=sx hb;rw[h2] at hH;subst hH;obtain⟨z,ht⟩:=WB _ h1;have ht:c.inp.blks[j]? = some (.seq z):=ht;rw[QX ht] at hz;have:=za6 hok _ (List.mem_of_getElem? ht);have hz:z=true:=hz;subst hz;cases this
def Dg (go g':Gh) (leak:Bool) (N:Nat->Prop) (id:Nat):Gh :=
 {S:=fun q b o=>go.S q b o∨((cond leak (g'.S 0 b o) (g'.S 2 b o))∧(q=0∨(N b∧(q=2∨(id<=q∧q<id+8))))),loc:=g'.loc }
theorem MemOk.leave {X:Fx} {g8 go:Gh} {Ho:Nat->Blk} {Zo:Nat->Bool} {Uo:Nat->Prop} {w w':World} {c:ShC} (hok:okC c=true) {ga:Nat} {x:ko c.inp.hs} {P:Program} {gl:Gl}
  (ho:MemOk X go Ho Zo Uo w) (hm:MemOk X g8 (mkH 8 ((c.inpT ga).bks (fun j=>8+j) x)) (mkZ 8 c.inp.blks) (upto 8 c.inp.blks.length) w) (hsub:∀ q b o,go.S q b o->g8.S q b o) (hlk:c.leak=true->go.S=g8.S)
  {gc:Gh} (_hgc:gc = { S:=zgr (Pd c g8 ga) (Pi c g8),loc:=g8.loc }) (hrt:Retag w g8 gc (c.inpT ga) (Qb c.inp.tg 1 c.inp.hs.length) 8 x)
  {g':Gh} {n id fz:Nat} {y:ko c.out.hs} (hfz:∀ r,X.O r->X.N r) (hf:MemOk (Yv P gl w (Pd c g8 ga) (zbU c X w (lent gc (c.entry x).H (c.entry x).Z)) VX gc (c.entry x).H (c.entry x).Z) g' (mkH n (c.out.bks (fun j=>n+j) y)) (mkZ n c.out.blks) (upto n c.out.blks.length) w') {hb:X.D<=w.heap.size} :
  Retag w' g' (Dg go g' c.leak X.N id) c.out (c.out.tg.map (Gs id ga fz)) n y ∧
  MemOk (X.inner { S:=go.S,loc:=g8.loc } (mkH 8 ((c.inpT ga).bks (fun j=>8+j) x)) (mkZ 8 c.inp.blks) w hb) (Dg go g' c.leak X.N id) (mkH n ((c.outT id ga fz).bks (fun j=>n+j) y)) (mkZ n c.out.blks) (upto n c.out.blks.length) w' ∧
  ∀ q b o,go.S q b o->mem w' b o=mem w b o:=by
 have hlent:∀ r,lent gc (c.entry x).H (c.entry x).Z r↔lent g8 (mkH 8 ((c.inpT ga).bks (fun j=>8+j) x)) (mkZ 8 c.inp.blks) r:=fun r=>by
  have:=hrt.lent (Z:=mkZ 8 c.inp.blks);exact (congrFun this r)▸eX
 have hkeep:∀ q b o,go.S q b o->(Yv P gl w (Pd c g8 ga) (zbU c X w (lent gc (c.entry x).H (c.entry x).Z)) VX gc (c.entry x).H (c.entry x).Z).Keep b:=fun q b o hs =>
  ⟨ho.mem_lt hs,fun hl=>Si hok hm (hsub q b o hs) ((hlent b).1 hl)⟩
 have hmem:∀ q b o,go.S q b o->mem w' b o=mem w b o:=fun q b o hs=>zv (hf.keep b (hkeep q b o hs)) o;have hlO:∀ r,lent gc (c.entry x).H (c.entry x).Z r->X.D<=r∨X.O r:=fun r hr=>(Xi hm ((hlent r).1 hr)).1;have hlB:∀ r,lent gc (c.entry x).H (c.entry x).Z r->X.N r:=fun r hr=>by
  rcases hlO r hr with h | h
  ·exact X.hN _ h
  ·exact hfz r h
 have hN0:∀ b o,cond c.leak (g'.S 0 b o) (g'.S 2 b o)->g'.S 0 b o:=fun b o h=>by
  cases hl:c.leak with
  | true=>rw[hl] at h; exact h
  | false=>rw[hl] at h; exact hf.up0 2 b o h
 have hfresh:∀ b o,g'.S 2 b o->zbU c X w (lent gc (c.entry x).H (c.entry x).Z) b:=fun b o h=>hf.fr b o h;have hNX:∀ b,zbU c X w (lent gc (c.entry x).H (c.entry x).Z) b->X.N b:=fun b h=>h.elim (fun h=>X.hN _ (aK hb h)) fun h=>h.elim (hlB b) fun h=>h.2;have h2N:∀ b o,g'.S 2 b o->cond c.leak (g'.S 0 b o) (g'.S 2 b o):=fun b o h=>by
  cases hl:c.leak with
  | true=>exact hf.up0 2 b o h
  | false=>exact h
 have hrt2:Retag w' g' (Dg go g' c.leak X.N id) c.out (c.out.tg.map (Gs id ga fz)) n y:=by
  refine ⟨fun b=>rfl,fun i hi b o hs => ?_⟩;by_cases hlt:i<c.out.tg.length
  ·have e1:c.out.tg.getD i 0=c.out.tg[i]:=by rw[aD,al hlt]; rfl
   have e2:(c.out.tg.map (Gs id ga fz)).getD i 0=Gs id ga fz c.out.tg[i]:=by rw[aD,br,al hlt]; rfl
   rw[e1] at hs;rw[e2];unfold Gs;cases ht:bQ 2 c.out.tg[i] with
   | true =>
    have ht:=bA ht;have hs2:=hf.up2 _ b o ht hs;exact .inr ⟨h2N b o hs2,.inr ⟨hNX b (hfresh b o hs2),.inr ⟨aE _,by simp⟩⟩⟩
   | false =>
    have hleak:c.leak=true:=by
     rcases J7 hok with h | ⟨⟨-,h⟩,-⟩
     ·exact h
     ·have:=h _ (cJ hlt);rw[ck this] at ht; cases ht
    have hs0:=hf.up0 _ b o hs;have hNN:cond c.leak (g'.S 0 b o) (g'.S 2 b o):=by rw[hleak]; exact hs0
    simp only[cond_false];cases hz:ay fz 2 with
    | false=>exact .inr ⟨hNN,.inl rfl⟩
    | true =>
     have hz:=am hz;simp only[cond_true];rcases hf.dn b o hs0 with h | h | h
     ·left;rw[hlk hleak];rcases h with h | h
      ·exact hm.le (kO ga 2) h
      ·exact hm.le (kv ga 2) h.2
     ·have h:w.heap.size<=b:=h;right;refine ⟨hNN,?_⟩;rcases TU ga with h' | h'<;>rw[h']
      ·exact .inl rfl
      ·exact .inr ⟨hNX b (.inl h),.inl rfl⟩
     ·right;refine ⟨hNN,?_⟩;rcases TU ga with h' | h'<;>rw[h']
      ·exact .inl rfl
      ·exact .inr ⟨hlB b h,.inl rfl⟩
  ·have e1:c.out.tg.getD i 0=0:=by rw[aD,aP (by omega)]; rfl
   have e2:(c.out.tg.map (Gs id ga fz)).getD i 0=0:=by rw[aD,aP (by simp; omega)]; rfl
   rw[e1] at hs;rw[e2];have hleak:c.leak=true:=by
    rcases J7 hok with h | ⟨⟨h,-⟩,-⟩
    ·exact h
    ·omega
   exact .inr ⟨by rw[hleak]; exact hs,.inl rfl⟩
 refine ⟨hrt2,?_,hmem⟩;have hH:∀ b,TwoB _ _ _ _ _ _:=fun b=>hrt2.H b;have live:∀ b,mkH n ((c.outT id ga fz).bks (fun j=>n+j) y) b ≠ .dead->mkH n (c.out.bks (fun j=>n+j) y) b ≠ .dead:=fun b h=>(hrt2.H b).live.1 h;have cellsEq:∀ b,(mkH n ((c.outT id ga fz).bks (fun j=>n+j) y) b).isCells=(mkH n (c.out.bks (fun j=>n+j) y) b).isCells:=fun b=>(hrt2.H b).live.2.2.1.symm;have keepI:∀ k,(X.inner { S:=go.S,loc:=g8.loc } (mkH 8 ((c.inpT ga).bks (fun j=>8+j) x)) (mkZ 8 c.inp.blks) w hb).Keep k↔(Yv P gl w (Pd c g8 ga) (zbU c X w (lent gc (c.entry x).H (c.entry x).Z)) VX gc (c.entry x).H (c.entry x).Z).Keep k:=fun k =>
  and_congr eX (not_congr (hlent k).symm)
 have lentI:∀ r,lent gc (c.entry x).H (c.entry x).Z r->lent { S:=go.S,loc:=g8.loc } (mkH 8 ((c.inpT ga).bks (fun j=>8+j) x)) (mkZ 8 c.inp.blks) r:=fun r hr=>(hlent r).1 hr
 refine { blk:=fun b=>hrt2.blk hf.blk b,used:=fun b hb=>hf.used b (live b hb),inj:=fun b b' r hb hb' hl hl'=>hf.inj b b' r (live b hb) (live b' hb') hl hl',acc:=fun q b o hs => ?_,sep:=fun q r o b hs hbd hl => ?_,up0:=fun q b o hs => ?_,up2:=fun q b o hq hs => ?_,dn:=fun b o hs => ?_,fr:=fun b o hs => ?_,nf:=fun b o hs hB=>(by
  have lentJ:∀ r,lent { S:=go.S,loc:=g8.loc } (mkH 8 ((c.inpT ga).bks (fun j=>8+j) x)) (mkZ 8 c.inp.blks) r->lent gc (c.entry x).H (c.entry x).Z r:=fun r hr=>(hlent r).2 hr;rcases hs with hs | ⟨hs,-⟩
  ·have hk:=hkeep 0 b o hs;rcases hB with hB | hB
   ·rw[q9 (hf.keep b hk)];exact ho.nf b o hs (.inl hB)
   ·exact absurd (lentJ b hB) hk.2
  ·have hs0:=hN0 b o hs;by_cases hlb:lent gc (c.entry x).H (c.entry x).Z b
   ·exact hf.nf b o hs0 (.inr hlb)
   ·rcases hf.dn b o hs0 with h5 | h5 | h5
    ·obtain⟨k5,h5⟩:∃ k,g8.S k b o:=h5.elim (fun h=>⟨ga,h⟩) fun h=>⟨2,h.2⟩;rw[q9 (hf.keep b ⟨hm.mem_lt h5,hlb⟩)];rcases hB with hB | hB
     ·exact hm.nf b o (hm.up0 k5 b o h5) (.inl hB)
     ·exact absurd (lentJ b hB) hlb
    ·exact hf.nf b o hs0 (.inl (.inl h5))
    ·exact absurd h5 hlb),keep:=fun k hk=>hf.keep k ((keepI k).1 hk),mine:=fun b r hbd hl hk => ?_,own:=fun b r hbd hl => ?_,os:=hf.os,tape:=hf.tape,output:=hf.output,size:=hf.size,bnd:=hf.bnd,glob:=fun q z hz => ?_,grow:=hf.grow }
 ·rcases hs with hs | ⟨hs,-⟩
  ·rw[hmem q b o hs]; exact ho.acc q b o hs
  ·exact hf.acc 0 b o (hN0 b o hs)
 ·have hlv:=live b hbd;have hs':g'.S 0 r o:=by
   rcases hs with hs | ⟨hs,-⟩
   ·exfalso;have hk:=hkeep q r o hs;rcases hf.own b r hlv hl with h | h | ⟨h1,h2⟩
    ·have h:w.heap.size<=r:=h;have:=hk.1; omega
    ·exact hk.2 h
    ·obtain⟨j,k,rfl,h3,h4⟩:=sx hlv;have hjl:j<c.out.blks.length:=by
      have:=(aq.1 h3).1;unfold Sh.bks at this;rwa [vL] at this
     have ht:=al hjl;rw[QX ht,AS hok _ (cJ hjl)] at h1;cases h1
   ·exact hN0 r o hs
  obtain⟨h1,q',ts,xs,h2,h3⟩:=hf.sep 0 r o b hs' hlv hl;refine ⟨h1,?_⟩;have ht:=hrt2.H b;rw[h2] at ht;cases hk:mkH n ((c.outT id ga fz).bks (fun j=>n+j) y) b with
  | dead=>exact absurd hk hbd
  | cells cs=>rw[show mkH n (Sh.bks { c.out with tg:=c.out.tg.map (Gs id ga fz) } (fun j=>n+j) y) b = .cells cs from hk] at ht; exact ht.elim
  | seq q2 us ys =>
   rw[show mkH n (Sh.bks { c.out with tg:=c.out.tg.map (Gs id ga fz) } (fun j=>n+j) y) b = .seq q2 us ys from hk] at ht
   obtain⟨⟨rfl,rfl⟩,-⟩:=ht;exact ⟨q2,_,_,rfl,h3⟩
 ·rcases hs with hs | ⟨hs,-⟩
  ·exact .inl (ho.up0 q b o hs)
  ·exact .inr ⟨hs,.inl rfl⟩
 ·rcases hs with hs | ⟨hs,h | h⟩
  ·exact .inl (ho.up2 q b o hq hs)
  ·omega
  ·exact .inr ⟨hs,.inr ⟨h.1,.inl rfl⟩⟩
 ·rcases hs with hs | ⟨hs,-⟩
  ·exact .inl hs
  ·cases hl:c.leak with
   | true =>
    rcases hf.dn b o (hN0 b o hs) with h | h | h
    ·left;show go.S 0 b o;rw[hlk hl];exact h.elim (hm.up0 ga b o) fun h=>hm.up0 2 b o h.2
    ·exact .inr (.inl h)
    ·exact .inr (.inr (lentI b h))
   | false =>
    rw[hl] at hs;have hno:c.has2=false:=by
     rcases J7 hok with h | ⟨-,h⟩
     ·rw[hl] at h; cases h
     ·exact h
    rcases hfresh b o hs with h | h | h
    ·exact .inr (.inl h)
    ·exact .inr (.inr (lentI b h))
    ·rw[hno] at h; cases h.1
 ·rcases hs with hs | ⟨hs,h | h⟩
  ·exact ho.fr b o hs
  ·omega
  ·exact h.1
 ·have:=hf.mine b r (live b hbd) hl ((keepI r).1 hk);exact ⟨this.1,by rw[cellsEq]; exact this.2⟩
 ·rcases hf.own b r (live b hbd) hl with h | h | ⟨h1,h2⟩
  ·exact .inl h
  ·exact .inr (.inl (lentI r h))
  ·exact .inr (.inr ⟨h1,by rw[cellsEq]; exact h2⟩)
 ·have hsb:∀ b o,go.S 1 b o->(Dg go g' c.leak X.N id).S 1 b o∧mem w' b o=mem w b o:=fun b o h=>⟨.inl h,hmem 1 b o h⟩;exact RC.mono hsb hsb _ _ _ _ (ho.glob q z hz)
theorem CY {c:Mem} {g:Gh} {H:Nat->Blk} {U:Nat->Prop} {as:List AV} {vs:List Value} (h:RL c g H U as vs):RAV c g H U (zgq as) (JS vs):=by
 unfold zgq JS
 match as,vs,h with
 | [],vs,h =>
  simp only[RL] at h; subst h;exact ⟨_,rfl,rfl⟩
 | [a],vs,h =>
  obtain⟨v,us,rfl,h1,h2⟩:=h;have h2:us=[]:=h2;subst h2;exact h1
 | a::b::as,vs,h =>
  obtain⟨v,us,rfl,h1,h2⟩:=h;obtain⟨u,ws,rfl,h3,h4⟩:=h2;exact ⟨_,rfl,⟨v,u::ws,by simp,h1,u,ws,rfl,h3,h4⟩⟩
theorem QE:(ts:List TB)->(bs:List Blk)->wW ts bs=true->∀(n:Nat) (t:TB) (b:Blk),ts[n]? = some t->bs[n]? = some b->Y4 t b=true
 | [],_,_,_,_,_,ht,_=>by simp at ht
 | t0::ts,[],_,_,_,_,_,hb=>by simp at hb
 | t0::ts,b0::bs,hk,n,t,b,ht,hb=>by
  obtain⟨hk1,hk2⟩:=kx hk;cases n with
  | zero=>injection ht with ht; injection hb with hb; subst ht; subst hb; exact hk1
  | succ n=>exact QE ts bs hk2 n t b (by simpa using ht) (by simpa using hb)
theorem Cb {t:TB} (h:t.ro=true):∃ l,t = .cells true l:=by
 cases t with
 | seq z=>cases h
 | cells z l=>cases z with
  | true=>exact ⟨l,rfl⟩
  | false=>cases h
theorem Xd (H:Nat->Blk) (ws us:List (Nat×Blk)):qz H (ws++us)=qz (qz H ws) us:=by
 unfold qz; rw[List.foldl_append]
theorem Ab {H:Nat->Blk}:(C:List Nat)->(b:Nat)->qz H (C.map fun b=>(b,Blk.dead)) b = .dead∨(b∉C∧qz H (C.map fun b=>(b,Blk.dead)) b=H b):=by
 intro C
 induction C generalizing H with
 | nil=>intro b; exact .inr ⟨by simp,rfl⟩
 | cons c C ih =>
  intro b;show qz (upd H c .dead) (C.map fun b=>(b,Blk.dead)) b = .dead∨_;rcases ih (H:=upd H c .dead) b with h | ⟨h1,h2⟩
  ·exact .inl h
  ·by_cases hb:b=c
   ·subst hb;rw[zw] at h2;exact .inl h2
   ·rw[xc _ _ hb] at h2;refine .inr ⟨by simp [hb,h1],?_⟩
    show qz (upd H c .dead) (C.map fun b=>(b,Blk.dead)) b=H b;exact h2
theorem zeK {P:Program} {X:Fx} {fz:Nat} (hfz2:fz=2) (hB:fz=2->∀ r,X.O r->X.N r) {f:FuncId} {c:ShC} (hc:ShOk P X.gl f c):R6 P X fz f (.gen (shE c)):=by
 have hfz:fz=0∨fz=2:=.inr hfz2;intro R κ x g H hv Z U w id as vs hm hh hid hrl h;have h:shE c id fz as hv Z κ=some x:=h;unfold shE at h;obtain⟨p,hp,h⟩:=ag.1 h;obtain⟨q,hq,h⟩:=ag.1 h;generalize zcB hv fz (p.1++q.1)=g0 at h;generalize hga:cond c.glob (jn g0 1) g0=ga at h;unfold zhk at h;obtain⟨d,hd,h⟩:=ag.1 h;obtain⟨y,hy,h⟩:=ag.1 h;clear hp hq;obtain⟨L1,L2,b1,hdok⟩:=Df hd;have hok:=hc.ok
 -- what may be seen
 obtain⟨hmv,hmov⟩:=hm.fewer hh;obtain⟨g8,hS8,hl8,hm8,hrl8,hk8⟩:=hmv.weak hfz hB hdok (RL.mono hmov _ _ hrl) 8;have hm8:MemOk X g8 (mkH 8 ((c.inpT ga).bks (fun j=>8+j) d.x)) (mkZ 8 c.inp.blks) (upto 8 c.inp.blks.length) w:=hm8;have halive:∀ b,b∈d.zs->hv b ≠ .dead:=by
  intro b hb;rw[hdok.zs] at hb;obtain⟨a,ha,hb⟩:=List.mem_flatMap.1 hb;obtain⟨m,k,t,z,qq,-,h1,-⟩:=hdok.lf.left a ha;exact CF h1 b hb
 have hS8':g8.S=(g.show H fz d.zs).S:=hS8.trans (HG hh halive)
 -- the outer state
 obtain⟨hmo,hmoo,-⟩:=hm.shown hfz hB (cond c.leak d.zs []);have hsub:∀ q b o,(g.show H fz (cond c.leak d.zs [])).S q b o->g8.S q b o:=by
  intro q b o hs;rw[hS8'];cases hlk:c.leak with
  | true=>rw[hlk] at hs; exact hs
  | false =>
   rw[hlk] at hs;rcases hs with hs | ⟨-,xx,hx,-⟩
   ·exact .inl hs
   ·cases hx
 have hlkS:c.leak=true->(g.show H fz (cond c.leak d.zs [])).S=g8.S:=by
  intro hlk;rw[hlk,hS8']; rfl
 -- the call
 obtain⟨hrt,hmc⟩:=MemOk.enter P (cond c.glob X.gl fun _=>none) hm8 (fun q z hz=>by
  cases hg:c.glob with
  | false=>rw[hg] at hz; cases hz
  | true =>
   rw[hg] at hz hga;exact ⟨hz,by rw[← hga]; exact kv g0 1⟩) rfl
 have hrlc:=hrt.RL hrl8;refine (hc.does w (Pd c g8 ga) (Pi c g8) _ VX _ vs d.x y (fun h2=>⟨fun b o h=>(nomatch (h2.symm.trans h.1:false=true)),fun b h=>h.elim .inl fun h=>h.elim .inr fun h=>(nomatch (h2.symm.trans h.1:false=true))⟩) (fun r hr=>.inr (.inl hr)) rfl hmc hrlc hy).mono ?_;intro v w' hpost;obtain⟨g',us,hf,hrl',hv',hmu,-⟩:=hpost id;obtain⟨hrt2,hmL,hmem⟩:=MemOk.leave hok hmo hm8 hsub hlkS rfl hrt (id:=id) (hB hfz2) hf (hb:=hmo.bB);have hmuok:=zfF hok;have hlen:=hdok.len;have hlen:d.bd.length=c.inp.blks.length:=hlen;have hfew:=zah hok
 -- blocks that are changed
 have hmub:∀ p,p∈c.mu->∃ i,d.bd[p.1]? = some (some i)∧U i∧hv i=H i∧g8.loc (8+p.1)=g.loc i∧SameKind (H i) ((c.entry d.x).H (8+p.1)):=by
  intro p hp;obtain⟨h1,h2,h3⟩:=hmuok p hp;obtain⟨⟨r,hr1,hr2⟩,hsk⟩:=hmu p hp;have hr1:g8.loc (8+p.1)=some r:=hr1;have hlt:p.1<d.bd.length:=by rw[hlen]; exact h1
  have ho:=al hlt;cases hoi:d.bd[p.1] with
  | none =>
   exfalso;rw[hoi] at ho;have hl:=hl8 p.1 none ho;rw[hr1] at hl;cases hl
  | some i =>
   rw[hoi] at ho;obtain⟨h4,-⟩:=hk8 p.1 i ho;have h4:SameKind (hv i) (mkH 8 ((c.inpT ga).bks (fun j=>8+j) d.x) (8+p.1)):=h4;have hne:hv i ≠ .dead:=fun e=>by rw[e] at h4; exact h4
   have hve:=(hh i).resolve_left hne;refine ⟨i,ho,hm.used i (hve▸hne),hve,hl8 p.1 _ ho,?_⟩;rw[hve] at h4;refine h4.trans ?_;have:=(hrt.H (8+p.1)).live.2.2.2;rcases this with hd' | hd'
   ·exfalso;have hsk':=hsk;rw[show (c.entry d.x).H (8+p.1) = .dead from hd'] at hsk'
    exact SameKind.dead hsk'
   ·exact hd'
 have hin:=zbN hok
 -- the names of the blocks behind
 have hname:∀ k,(sX d.bd id k c.mu=id+k∧∀ p,p∈c.mu->p.2≠k)∨∃ p i,p∈c.mu∧p.2=k∧d.bd[p.1]? = some (some i)∧sX d.bd id k c.mu=i:=by
  intro k;rcases Kr d.bd id k c.mu with ⟨h1,h2⟩ | ⟨p,h1,h2,h3⟩
  ·exact .inl ⟨h2,h1⟩
  ·obtain⟨i,h4,-⟩:=hmub p h1;rw[h4] at h3;exact .inr ⟨p,i,h1,h2,h4,h3⟩
 have hnew:∀ k,k<8->¬ U (id+k):=fun k hk=>hid _ (by omega) (by omega)
 have hUi:∀ p i,p∈c.mu->d.bd[p.1]? = some (some i)->U i:=by
  intro p i hp hi;obtain⟨i',h1,h2,-⟩:=hmub p hp;rw[h1] at hi;injection hi with hi; injection hi with hi;rw[← hi]; exact h2
 have hninj:∀ k k',k<8->k'<8->sX d.bd id k c.mu=sX d.bd id k' c.mu->k=k':=by
  intro k k' hk hk' he;rcases hname k with ⟨h1,h2⟩ | ⟨p,i,h1,h2,h3,h4⟩<;>rcases hname k' with ⟨h1',h2'⟩ | ⟨p',i',h1',h2',h3',h4'⟩
  ·omega
  ·exact absurd (hUi p' i' h1' h3') (by rw[← h4',← he,h1]; exact hnew k hk)
  ·exact absurd (hUi p i h1 h3) (by rw[← h4,he,h1']; exact hnew k' hk')
  ·have:i=i':=by rw[← h4,← h4',he]
   subst this;have:=hdok.inj _ _ _ h3 h3';have:=hin.1 p p' h1 h1' this;rw[← h2,← h2',this]
 -- from where a block comes
 let bks:=(c.outT id ga fz).bks (fun k=>id+k) y
 have hbl:bks.length=c.out.blks.length:=by show ((c.outT id ga fz).bks _ y).length=_; unfold Sh.bks; rw[vL]; rfl
 have hbl8:bks.length<=8:=by rw[hbl]; exact hfew
 let tk:List (Nat×Blk):=(t9 c.inp d.bd).map fun b=>(b,Blk.dead)
 have hkeys:(Ep c.mu d.bd id 0 bks).Pairwise (fun p q=>p.1≠q.1):=by
  have gen:∀(bs:List Blk) (k0:Nat),k0+bs.length<=8->(Ep c.mu d.bd id k0 bs).Pairwise (fun p q=>p.1≠q.1):=by
   intro bs
   induction bs with
   | nil=>intro k0 _; exact fQ
   | cons b bs ih =>
    intro k0 hk;simp only[aj] at hk;refine List.pairwise_cons.2 ⟨fun q hq => ?_,ih (k0+1) (by omega)⟩
    obtain⟨n,b',h1,rfl⟩:=(WV (k0+1) bs q).1 hq;have hn:=(aq.1 h1).1;intro e;have:=hninj k0 (k0+1+n) (by omega) (by omega) e
    omega
  exact gen bks 0 (by omega)
 have hkey:∀ k,k<bks.length->∀ b,bks[k]? = some b->qz H (tk++Ep c.mu d.bd id 0 bks) (sX d.bd id k c.mu)=b:=by
  intro k hk b hb;rw[Xd];have hp:(sX d.bd id k c.mu,b)∈Ep c.mu d.bd id 0 bks:=(WV 0 bks _).2 ⟨k,b,hb,by rw[aN]⟩
  exact JN hkeys _ hp
 have hnokey:∀ b,(∀ k,k<bks.length->sX d.bd id k c.mu≠b)->qz H (tk++Ep c.mu d.bd id 0 bks) b = .dead∨(b∉t9 c.inp d.bd∧qz H (tk++Ep c.mu d.bd id 0 bks) b=H b):=by
  intro b hb;rw[Xd,wB fun r hr => ?_]
  ·exact Ab _ b
  ·obtain⟨n,b',h1,rfl⟩:=(WV 0 bks r).1 hr;rw[aN];exact hb n (aq.1 h1).1
 obtain⟨src,hsrc1,hsrc2⟩:∃ src:Nat->Option Nat,(∀ k,k<bks.length->src (sX d.bd id k c.mu)=some (id+k))∧∀ b,(src b=none∧∀ k,k<bks.length->sX d.bd id k c.mu≠b)∨∃ k,k<bks.length∧sX d.bd id k c.mu=b∧src b=some (id+k):=by
  classical
  refine ⟨fun b=>if h:∃ k,k<bks.length∧sX d.bd id k c.mu=b then some (id+h.choose) else none,fun k hk => ?_,fun b => ?_⟩
  ·have hex:∃ k',k'<bks.length∧sX d.bd id k' c.mu=sX d.bd id k c.mu:=⟨k,hk,rfl⟩;have h1:=hex.choose_spec;show (if h:∃ k',k'<bks.length∧sX d.bd id k' c.mu=sX d.bd id k c.mu then some (id+h.choose) else none)=_
   rw[dif_pos hex,hninj _ _ (by omega) (by omega) h1.2]
  ·by_cases hex:∃ k,k<bks.length∧sX d.bd id k c.mu=b
   ·have h1:=hex.choose_spec;exact .inr ⟨hex.choose,h1.1,h1.2,by show (if h:∃ k,k<bks.length∧sX d.bd id k c.mu=b then some (id+h.choose) else none)=_; rw[dif_pos hex]⟩
   ·refine .inl ⟨by show (if h:∃ k,k<bks.length∧sX d.bd id k c.mu=b then some (id+h.choose) else none)=_; rw[dif_neg hex],fun k hk e=>hex ⟨k,hk,e⟩⟩
 have houtz:∀ b,mkZ id c.out.blks b=true->mkH id bks b = .dead:=by
  intro b hz;by_cases hd:mkH id bks b = .dead
  ·exact hd
  ·exfalso;obtain⟨j,k,rfl,h1,h2⟩:=sx hd;have hj:j<c.out.blks.length:=by rw[← hbl]; exact (aq.1 h1).1
   have ht:=al hj;rw[QX ht,AS hok _ (cJ hj)] at hz;cases hz
 have hHi:∀ k,k<bks.length->bks[k]? = some (mkH id bks (id+k)):=by
  intro k hk;have ht:=al hk;rw[Vw ht]; exact ht
 have hnotlent:∀ b,b∉t9 c.inp d.bd->H b ≠ .dead->∀ r,g.loc b=some r->¬ lent g8 (mkH 8 ((c.inpT ga).bks (fun j=>8+j) d.x)) (mkZ 8 c.inp.blks) r:=by
  rintro b hnt hbd r hl ⟨b8,hb1,hb2,hb3⟩;obtain⟨j,kk,rfl,hj1,hj2⟩:=sx hb1;have hjl:j<d.bd.length:=by
   rw[hlen];have:=(aq.1 hj1).1;unfold Sh.bks at this;rw[vL] at this;exact this
  have ho:=al hjl;have hlj:=hl8 j _ ho;rw[hb2] at hlj;cases hoi:d.bd[j] with
  | none=>rw[hoi] at hlj; cases hlj
  | some i =>
   rw[hoi] at hlj ho;have hlj:some r=g.loc i:=hlj;obtain⟨hk1,-⟩:=hk8 j i ho;have hvi:hv i ≠ .dead:=fun e=>by rw[e] at hk1; exact hk1
   have hve:=(hh i).resolve_left hvi;have:b=i:=hm.inj b i r hbd (hve▸hvi) hl hlj.symm;subst this;have hjt:j<c.inp.blks.length:=by rw[← hlen]; exact hjl
   have ht:=al hjt;apply hnt;refine Ki ht ?_ ho;cases hr:c.inp.blks[j].ro with
   | false=>rfl
   | true =>
    exfalso;apply hb3;obtain⟨l,hl2⟩:=Cb hr;refine ⟨?_,?_⟩
    ·rw[QX ht,hl2]; rfl
    ·have:=QE _ _ (hdok.kinds fun j=>8+j) j _ _ (show (c.inpT ga).blks[j]? = _ from ht) hj1
     rw[hl2] at this;rw[hj2];cases kk<;>first | rfl | cases this
 have em:Emb { S:=(g.show H fz (cond c.leak d.zs [])).S,loc:=g8.loc } (mkH 8 ((c.inpT ga).bks (fun j=>8+j) d.x)) (mkZ 8 c.inp.blks) (g.show H fz (cond c.leak d.zs [])) H (xH Z (cond c.leak d.zs [])) U
   (Dg (g.show H fz (cond c.leak d.zs [])) g' c.leak X.N id) (mkH id bks) (mkZ id c.out.blks) (upto id c.out.blks.length) (mem w) (mem w') (fun b=>match src b with | none=>g.loc b | some b'=>g'.loc b') (qz H (tk++Ep c.mu d.bd id 0 bks)) (xH Z (cond c.leak d.zs [])) (UI U id) src:=by
  refine { old:=fun b hd hs => ?_,new:=fun b b' hd hs => ?_,inj:=fun b b2 b' hs hs' => ?_,used:=fun b hd => ?_,uo:=fun b hb=>.inl hb,ui:=fun b hb=>.inr ⟨hb.1,cG hb.2 (by omega)⟩,outer:=fun b hb => ?_,inner:=fun b hb => ?_ }
  ·rcases hsrc2 b with ⟨-,h1⟩ | ⟨k,-,-,h3⟩
   ·rcases hnokey b h1 with h2 | ⟨h2,h3⟩
    ·exact absurd h2 hd
    ·refine ⟨h3,by show (match src b with | none=>g.loc b | some b'=>g'.loc b')=_; rw[hs]; rfl,fun r hr => ?_,fun h=>h⟩
     exact hnotlent b h2 (h3▸hd) r hr
   ·rw[hs] at h3; cases h3
  ·rcases hsrc2 b with ⟨h1,-⟩ | ⟨k,h1,h2,h3⟩
   ·rw[hs] at h1; cases h1
   ·rw[hs] at h3;injection h3 with h3;subst h3;subst h2;have h4:=hkey k h1 _ (hHi k h1);refine ⟨h4,by show (match src _ with | none=>g.loc _ | some b'=>g'.loc b')=_; rw[hs]; rfl,fun hz => ?_⟩
    rw[h4,houtz _ hz] at hd;exact absurd rfl hd
  ·rcases hsrc2 b with ⟨h1,-⟩ | ⟨k,h1,h2,h3⟩
   ·rw[hs] at h1; cases h1
   ·rcases hsrc2 b2 with ⟨h1',-⟩ | ⟨k',h1',h2',h3'⟩
    ·rw[hs'] at h1'; cases h1'
    ·rw[hs] at h3; rw[hs'] at h3';injection h3 with h3; injection h3' with h3';have:k=k':=by omega
     rw[← h2,← h2',this]
  ·rcases hsrc2 b with ⟨-,h1⟩ | ⟨k,h1,h2,-⟩
   ·rcases hnokey b h1 with h2 | ⟨-,h3⟩
    ·exact absurd h2 hd
    ·exact .inl (hm.used b (h3▸hd))
   ·rw[← h2];rcases hname k with ⟨h4,-⟩ | ⟨p,i,h4,-,h5,h6⟩
    ·rw[h4]; exact .inr ⟨by omega,by omega⟩
    ·rw[h6]; exact .inl (hUi p i h4 h5)
  ·rcases hsrc2 b with ⟨h1,-⟩ | ⟨k,h1,h2,h3⟩
   ·exact .inl h1
   ·rcases hname k with ⟨h4,-⟩ | ⟨p,i,h4,h5,h6,h7⟩
    ·rw[h2] at h4;exact absurd hb (h4▸hnew k (by omega))
    ·rw[h2] at h7;subst h7;obtain⟨i',h8,-,-,h10,h11⟩:=hmub p h4;rw[h6] at h8;injection h8 with h8; injection h8 with h8;subst h8;obtain⟨⟨r,hr1,hr2⟩,hsk⟩:=hmu p h4;have hr1:g8.loc (8+p.1)=some r:=hr1;rw[h10] at hr1;rw[h5] at hr2 hsk;have hkk:=hkey k h1 _ (hHi k h1);rw[h2] at hkk;have hsk2:SameKind (H b) (mkH id bks (id+k)):=by
      refine (h11.trans hsk).trans ?_;rcases (hrt2.H (id+k)).live.2.2.2 with hd' | hd'
      ·exfalso;have hl1:=(hrt2.H (id+k)).live.2.1 (fun e=>by rw[e] at hsk; cases hd0:(c.entry d.x).H (8+p.1)<;>rw[hd0] at hsk<;>exact hsk)
       exact hl1 hd'
      ·exact hd'
     refine .inr ⟨id+k,h3,hsk2,hr2.trans hr1.symm,hkk,?_,fun r0 _ j hj=>hmL.grow r0 j hj⟩;show (match src b with | none=>g.loc b | some b'=>g'.loc b')=g.loc b
     rw[h3];exact hr2.trans hr1.symm
  ·obtain⟨hb1,hb2⟩:=hb;obtain⟨k,rfl⟩:∃ k,b=id+k:=⟨b - id,by omega⟩
   have hk:k<bks.length:=by rw[hbl]; omega
   rcases hname k with ⟨h4,-⟩ | ⟨p,i,h4,h5,h6,h7⟩
   ·right;have h1:=hkey k hk _ (hHi k hk);have h2:=hsrc1 k hk;rw[h4] at h1 h2;exact ⟨h1,by show (match src _ with | none=>g.loc _ | some b'=>g'.loc b')=_; rw[h2]; rfl⟩
   ·left;have hnk:∀ k',k'<bks.length->sX d.bd id k' c.mu≠id+k:=by
     intro k' hk' e;rcases hname k' with ⟨h8,-⟩ | ⟨p',i',h8,-,h9,h10⟩
     ·have:k'=k:=by omega
      subst this;rw[e] at h7;exact absurd (hUi p i h4 h6) (h7▸hnew k' (by omega))
     ·rw[e] at h10;exact absurd (hUi p' i' h8 h9) (h10▸hnew k (by omega))
    rcases hnokey (id+k) hnk with h | ⟨-,h⟩
    ·exact h
    ·rw[h];cases hd:H (id+k) with
     | dead=>rfl
     | _=>exact absurd (hm.used _ (by rw[hd]; simp)) (hnew k (by omega))
 obtain⟨hM,hM1,hM2⟩:=hmo.embed2 (hb:=hmo.bB) hmL em rfl (fun q b o hs=>⟨.inl hs,hmem q b o hs⟩) (fun r hr=>by
  have:=Xi hm8 (r:=r) hr;exact ⟨this.1,this.2.1⟩) (fun b hb h=>hb (houtz b h.1))
 refine ⟨_,_,_,h,?_,hM,hmoo.trans hM1⟩;rw[hv'];exact CY (RL.take (RL.mono hM2 _ _ (hrt2.RL hrl')) c.nres)
section
variable {R:Type}
def PF (H:Nat->Blk) (fz:Nat):List Nat->(hs:List Ty)->List AV->(ko hs->Option R)->Option R
 | _,[],[],κ=>κ ()
 | tg,[h],[a],κ=>cond (leB (jk H fz a) (tg.headD 0)) (KE H fz h a fun y=>κ y) none
 | tg,h::i::hs,a::as,κ=>cond (leB (jk H fz a) (tg.headD 0)) (KE H fz h a fun y=>PF H fz tg.tail (i::hs) as fun z=>κ (y,z)) none
 | _,_,_,_=>none
theorem Cx (H:Nat->Blk) (fz:Nat):(tg:List Nat)->(hs:List Ty)->(as:List AV)->(κ:ko hs->Option R)->PF H fz tg hs as κ=(zcy H fz tg hs as).bind κ
 | _,[],[],κ=>rfl
 | _,[],_::_,κ=>rfl
 | tg,[h],[],κ=>rfl
 | tg,[h],_::_::_,κ=>rfl
 | tg,[h],[a],κ=>by
  show cond (leB (jk H fz a) (tg.headD 0)) (KE H fz h a fun y=>κ y) none=(cond (leB (jk H fz a) (tg.headD 0)) ((wv H fz h a).bind fun y=>some y.2) none:Option (ko [h])).bind κ;cases leB (jk H fz a) (tg.headD 0) with
  | false=>rfl
  | true =>
   simp only[cond_true,WY];rw[bz];rfl
 | tg,h::i::hs,[],κ=>rfl
 | tg,h::i::hs,a::as,κ=>by
  show cond (leB (jk H fz a) (tg.headD 0)) (KE H fz h a fun y=>PF H fz tg.tail (i::hs) as fun z=>κ (y,z)) none =
   (cond (leB (jk H fz a) (tg.headD 0)) ((wv H fz h a).bind fun y=>(zcy H fz tg.tail (i::hs) as).bind fun z=>some (y.2,z)) none:Option (ko (h::i::hs))).bind κ
  cases leB (jk H fz a) (tg.headD 0) with
  | false=>rfl
  | true =>
   simp only[cond_true,WY];rw[bz]
   congr 1
   funext y
   rw[Cx H fz tg.tail (i::hs) as,bz];rfl
def Sh.decK (sh:Sh) (H:Nat->Blk) (Z:Nat->Bool) (fz:Nat) (as:List AV) (κ:Dec sh->Option R):Option R :=
 (vK sh.slots as []).bind fun p=>(KF H Z sh.blks 0 p.2).bind fun q=>PF H fz sh.tg sh.hs (p.1++q.1) fun x =>
  cond (wW sh.blks (sh.bks (fun j=>j) x)&&(yx (p.1++q.1)).all fun b=>Y3 (some b) q.2) (κ ⟨x,q.2,yx (p.1++q.1)⟩) none
theorem Sh.decK_eq (sh:Sh) (H:Nat->Blk) (Z:Nat->Bool) (fz:Nat) (as:List AV) (κ:Dec sh->Option R):sh.decK H Z fz as κ=(sh.dec H Z fz as).bind κ:=by
 unfold Sh.decK Sh.dec;rw[bz]
 congr 1
 funext p
 rw[bz]
 congr 1
 funext q
 rw[Cx,bz]
 congr 1
 funext x
 cases (wW sh.blks (sh.bks (fun j=>j) x)&&(yx (p.1++q.1)).all fun b=>Y3 (some b) q.2)<;>rfl
def Qx (tb:Tb) (st:St):List RT'->(List AV->Option R)->Option R
 | [],κ=>κ []
 | .tmp t::rs,κ=>Qx tb st rs fun as=>κ (st.φ t::as)
 | .cell a ty::rs,κ=>YZ tb st.H ty (st.φ a) fun v=>Qx tb st rs fun as=>κ (v::as)
theorem Wf (tb:Tb) (st:St):(rts:List RT')->(κ:List AV->Option R)->Qx tb st rts κ=(rV tb st rts).bind κ
 | [],κ=>rfl
 | .tmp t::rs,κ=>by
  show Qx tb st rs (fun as=>κ (st.φ t::as))=((rV tb st rs).bind fun as=>some (st.φ t::as)).bind κ;rw[Wf tb st rs,bz];rfl
 | .cell a ty::rs,κ=>by
  show YZ tb st.H ty (st.φ a) (fun v=>Qx tb st rs fun as=>κ (v::as))=((YZ tb st.H ty (st.φ a) some).bind fun v=>(rV tb st rs).bind fun as=>some (v::as)).bind κ;rw[IT,bz]
  congr 1
  funext v
  rw[Wf tb st rs,bz];rfl
def PK (tb:Tb) (fz:Nat) (c:ShC) (rts:List RT') (x:ko c.inp.hs):XE->St->Option (ko c.out.hs)
 | .normal,st=>Qx tb st rts fun as=>c.out.decK st.H st.Z fz (as++c.ms.map st.φ) fun d=>cond (neB c x) (cond (BO c x d.x) (some d.x) none) none
 | .ret,st=>Qx tb st rts fun as=>c.out.decK st.H st.Z fz (as++c.ms.map st.φ) fun d=>cond (neB c x) (cond (BO c x d.x) (some d.x) none) none
 | _,_=>none
theorem Rh (tb:Tb) (fz:Nat) (c:ShC) (rts:List RT') (x:ko c.inp.hs):PK tb fz c rts x=zg2 tb fz c rts x:=by
 funext e st
 cases e<;>first | rfl | (simp only[PK,zg2,Wf]; congr 1; funext as; exact Sh.decK_eq ..)
def zcD (c:ShC) (id fz:Nat) (as:List AV) (H:Nat->Blk) (Z:Nat->Bool) (κ:K R):Option R :=
 (vK c.inp.slots as []).bind fun p=>(KF H Z c.inp.blks 0 p.2).bind fun q =>
  let ga:=cond c.glob (jn (zcB H fz (p.1++q.1)) 1) (zcB H fz (p.1++q.1))
  (c.inpT ga).decK H Z fz as fun d=>(c.F d.x).bind fun y =>
   κ (zgq (((c.outT id ga fz).avs (fun k=>id+k) y).take c.nres)) ⟨(t9 c.inp d.bd).map (fun b=>(b,.dead))++Ep c.mu d.bd id 0 ((c.outT id ga fz).bks (fun k=>id+k) y),cond c.leak d.zs []⟩
theorem H4 (c:ShC) (id fz:Nat) (as:List AV) (H:Nat->Blk) (Z:Nat->Bool) (κ:K R):zcD c id fz as H Z κ=shE c id fz as H Z κ:=by
 unfold zcD shE
 congr 1
 funext p
 congr 1
 funext q
 exact Sh.decK_eq ..
theorem zeh {P:Program} {gl:Gl} {f:FuncId} {ts:Tys} {out:Sh} {nres:Nat} {leak glob:Bool} {F:List (Tup ts)->Option (ko out.hs)} {F1:Unit->Option (ko out.hs)} {F2:Option (List (Tup ts))->Option (ko out.hs)}
  (h1:ShOk P gl f ⟨⟨[.nilv],[],[],[]⟩,out,nres,[],[],leak,glob,F1⟩) (h2:ShOk P gl f ⟨⟨[.hole],[],[1],[.ns ts]⟩,out,nres,[],[],leak,glob,F2⟩)
  (hF:∀ xs y,F xs=some y->F2 (some xs)=some y∧(xs=[]->F1 ()=some y)):ShOk P gl f ⟨⟨[.hole],[],[1],[.sl ts]⟩,out,nres,[],[],leak,glob,F⟩ where
 ok:=h1.ok
 does:=by
  intro w A A2 N hN g vs x y hh2 hNO hS hm hrl hy;obtain⟨e2,e1⟩:=hF x y hy;obtain⟨v,us,hvs,hv,hus⟩:=hrl;have hus:us=[]:=hus;subst hus;have hv:RE (mem w) (g.S 1) (.sl ts) x v:=hv;simp only[RE] at hv;obtain⟨a,cap,rfl,⟨hc1,hc2⟩,hx⟩:=hv;cases a with
  | none =>
   have hc:=hc2 rfl;subst hc;have hx0:x=[]:=List.eq_nil_of_length_eq_zero (by omega)
   subst hx0;exact h1.does w A A2 N hN g vs () y (fun _=>hh2 rfl) hNO hS hm ⟨_,[],hvs,rfl,rfl⟩ (e1 rfl)
  | some a =>
   refine h2.does w A A2 N hN g vs (some x) y (fun _=>hh2 rfl) hNO hS hm ⟨_,[],hvs,?_,rfl⟩ e2;show RE (mem w) (g.S 1) (.ns ts) (some x) _;simp only[RE];refine ⟨a,cap,rfl,hc1,hx.imp (fun h=>h) ?_⟩;rintro⟨b,o,h,hel⟩;injection h with h;subst h;exact ⟨rfl,hel⟩
end
def lp {X Y:Type} (step:(X->Option Y)->X->Option Y):Nat->X->Option Y
 | 0=>fun _=>none
 | k+1=>step (lp step k)
def ze:Nat:=13407807929942597099574024998205846127479365820592393377723561443721764030073546976801874298166903427690031858186486050853753882811946569946433649006084096
def yA {α β γ:Type} (y:α⊕β) (f:α->γ) (g:β->γ):γ :=
 match y with
 | .inl a=>f a
 | .inr b=>g b
theorem tB {α β γ:Type} (a:α) (f:α->γ) (g:β->γ):yA (.inl a) f g=f a:=rfl
def R8 (c:ShC) (as:List AV):Bool:=(vK c.inp.slots as []).isSome
def yu {R:Type}:List ShC->(id fz:Nat)->List AV->(Nat->Blk)->(Nat->Bool)->K R->Option R
 | [],_,_,_,_,_,_=>none
 | c::cs,id,fz,as,H,Z,κ=>cond (R8 c as) (zcD c id fz as H Z κ) (yu cs id fz as H Z κ)
theorem Fo {R:Type} (c:ShC) (id fz:Nat) (H:Nat->Blk) (Z Z':Nat->Bool) (κ:K R):zcD c id fz [] H Z κ=zcD c id fz [] H Z' κ:=by
 have hB:∀ p,vK c.inp.slots [] []=some p->∀ Z,KF H Z c.inp.blks 0 p.2=KF H Z' c.inp.blks 0 p.2:=by
  intro p hp Z;have h2:p.2=[]:=by
   cases hs:c.inp.slots with
   | nil=>rw[hs] at hp; injection hp with hp; rw[← hp]
   | cons t ts=>rw[hs] at hp; cases hp
  rw[h2];cases c.inp.blks<;>rfl
 unfold zcD Sh.decK;cases hp:vK c.inp.slots [] [] with
 | none=>rfl
 | some p =>
  simp only[af];rw[hB p hp Z];cases hq:KF H Z' c.inp.blks 0 p.2 with
  | none=>rfl
  | some q =>
   simp only[af];show ((vK c.inp.slots [] []).bind fun p=>(KF H Z c.inp.blks 0 p.2).bind _)=((vK c.inp.slots [] []).bind fun p=>(KF H Z' c.inp.blks 0 p.2).bind _);rw[hp];simp only[af];rw[hB p hp Z]
theorem JK {R:Type}:(cs:List ShC)->(id fz:Nat)->(H:Nat->Blk)->(Z Z':Nat->Bool)->(κ:K R)->yu cs id fz [] H Z κ=yu cs id fz [] H Z' κ
 | [],_,_,_,_,_,_=>rfl
 | c::cs,id,fz,H,Z,Z',κ=>by
  unfold yu;cases R8 c [] with
  | true=>exact Fo ..
  | false=>exact JK cs ..
theorem AH {R:Type}:(cs:List ShC)->(id fz:Nat)->(as:List AV)->(H:Nat->Blk)->(Z:Nat->Bool)->(κ:K R)->yu cs id fz as H Z κ=(yu cs id fz as H Z pk).bind (kb κ)
 | [],_,_,_,_,_,_=>rfl
 | c::cs,id,fz,as,H,Z,κ=>by
  unfold yu;cases R8 c as with
  | true =>
   simp only[cond_true,H4];exact zbP ..
  | false=>exact AH cs ..
def Good (P:Program) (gl:Gl) (f:FuncId) (c:Con):Prop :=
 c.nat∧∀ X:Fx,X.gl=gl->∀ fz,fz=2->(fz=2->∀ r,X.O r->X.N r)->R6 P X fz f c
theorem W0 {P:Program} {gl:Gl} {f:FuncId} {cs:List ShC} (h:∀ c,c∈cs->ShOk P gl f c):Good P gl f (.gen (yu cs)):=by
 refine ⟨⟨fun {R}=>AH cs,fun {R}=>JK cs⟩,fun X hg fz hfz hB => ?_⟩;subst hg;intro R κ x g H hv Z U w id as vs hm hh hid hrl he;have he:yu cs id fz as hv Z κ=some x:=he
 induction cs with
 | nil=>cases he
 | cons c cs ih =>
  unfold yu at he;cases hf:R8 c as with
  | true =>
   rw[hf,cond_true,H4] at he;exact zeK hfz hB (h c (by simp)) κ x g H hv Z U w id as vs hm hh hid hrl he
  | false =>
   rw[hf] at he;exact ih (fun c hc=>h c (by simp [hc])) he he
def gam:List (Nat×Con)->Ctx
 | [],_=>none
 | p::l,f=>cond (ay f p.1) (some p.2) (gam l f)
theorem DN:{l:List (Nat×Con)}->{f:FuncId}->{c:Con}->gam l f=some c->(f,c)∈l
 | [],f,c,h=>by cases h
 | p::l,f,c,h=>by
  unfold gam at h;cases hb:ay f p.1 with
  | true =>
   rw[hb] at h;injection h with h;rw[am hb,← h];simp
  | false =>
   rw[hb] at h;exact ai _ (DN h)
def Xh (P:Program) (gl:Gl) (l:List (Nat×Con)):Prop:=∀ p,p∈l->Good P gl p.1 p.2
theorem za {P:Program} {gl:Gl}:Xh P gl []:=fun p hp=>by cases hp
theorem YF {P:Program} {gl:Gl} {f:Nat} {c:Con} {l:List (Nat×Con)} (h:Good P gl f c) (hl:Xh P gl l):Xh P gl ((f,c)::l):=fun p hp=>by
 rcases aB.1 hp with rfl | hp
 ·exact h
 ·exact hl p hp
theorem ShOk.anyGl {P:Program} {gl gl':Gl} {f:FuncId} {c:ShC} (hg:c.glob=false) (h:ShOk P gl f c):ShOk P gl' f c:=by
 refine ⟨h.ok,?_⟩;have hd:=h.does;rw[hg] at hd ⊢;exact hd
def Ts:List (Nat×TD)->Tb
 | [],_=>none
 | p::l,t=>cond (ay t p.1) (some p.2) (Ts l t)
theorem A7:{l:List (Nat×TD)}->{t:Nat}->{td:TD}->Ts l t=some td->(t,td)∈l
 | [],_,_,h=>by cases h
 | p::l,t,td,h=>by
  unfold Ts at h;cases hb:ay t p.1 with
  | true =>
   rw[hb] at h;injection h with h;rw[am hb,← h];simp
  | false =>
   rw[hb] at h;exact ai _ (A7 h)
def zhJ (P:Program) (tb:Tb) (l:List (Nat×TD)):Prop:=∀ p,p∈l->zhL P tb p.1 p.2
theorem zc {P:Program} {l:List (Nat×TD)} (h:zhJ P (Ts l) l):uW P (Ts l):=fun _ _ ht=>h _ (A7 ht)
def ZH (tb:Tb) (gl:Gl) (l:List (Nat×Con)) (c:ShC) (n:Nat):Env :=
 {tb:=tb,gl:=cond c.glob gl fun _=>none,Γ:=gam l,fz:=2,n:=n }
theorem zh {P:Program} {tb:Tb} {gl:Gl} {l:List (Nat×Con)} {c:ShC} {n:Nat} (ht:uW P tb) (hg:Xh P (cond c.glob gl fun _=>none) l):VAll P (ZH tb gl l c n):=by
 have hfz:(ZH tb gl l c n).fz=0∨(ZH tb gl l c n).fz=2:=.inr rfl;exact ⟨ht,hfz,fun f c' h=>(hg _ (DN h)).1,fun f c' h X hX hB=>(hg _ (DN h)).2 X hX _ rfl hB⟩
def zhQ (fn:Func) (c:ShC) (n:Nat):Bool :=
 !(fn.name == "runtime.NumGoroutine")&&bQ c.inp.slots.length fn.ntmps&&ay n fn.ntmps&&okC c
def yL:Code->List Nat->Code
 | c,[]=>c
 | .seq a _,0::p=>yL a p
 | .seq _ b,_::p=>yL b p
 | .cond _ a _,0::p=>yL a p
 | .cond _ _ b,_::p=>yL b p
 | .block _ c,_::p=>yL c p
 | .loop c,_::p=>yL c p
 | .scope c,_::p=>yL c p
 | c,_=>c
def obl:Code->AC->List (Code×Un)
 | c,.unit u=>[(c,u)]
 | .seq a b,ac=>obl a ac.one++obl b ac.two
 | .cond _ a b,ac=>obl a ac.one++obl b ac.two
 | .block _ c,ac=>obl c ac.one
 | _,_=>[]
def Obl (P:Program) (X:Fx) (V:Env) (l:List (Code×Un)):Prop:=∀ p,p∈l->Fw P X V p.1 p.2
theorem za8 {P:Program} {X:Fx} {V:Env}:Obl P X V []:=fun p hp=>by cases hp
theorem PZ {P:Program} {X:Fx} {V:Env} {c:Code} {u:Un} {l:List (Code×Un)} (h:Fw P X V c u) (hl:Obl P X V l):Obl P X V ((c,u)::l):=fun p hp=>by
 rcases aB.1 hp with rfl | hp
 ·exact h
 ·exact hl p hp
theorem Yk {P:Program} {X:Fx} {V:Env} (c:Code):∀ ac:AC,Obl P X V (obl c ac)->Yq P X V c ac:=by
 induction c with
 | seq a b iha ihb =>
  intro ac h;by_cases hu:∃ u,ac = .unit u
  ·obtain⟨u,rfl⟩:=hu;exact h (_,u) (by simp [obl])
  ·have e:obl (.seq a b) ac=obl a ac.one++obl b ac.two:=by cases ac<;>first | rfl | exact absurd ⟨_,rfl⟩ hu
   have e':Yq P X V (.seq a b) ac=(Yq P X V a ac.one∧Yq P X V b ac.two):=by cases ac<;>first | rfl | exact absurd ⟨_,rfl⟩ hu
   rw[e'];rw[e] at h;exact ⟨iha _ fun p hp=>h p (bl _ hp),ihb _ fun p hp=>h p (bm _ hp)⟩
 | cond x a b iha ihb =>
  intro ac h;by_cases hu:∃ u,ac = .unit u
  ·obtain⟨u,rfl⟩:=hu;exact h (_,u) (by simp [obl])
  ·have e:obl (.cond x a b) ac=obl a ac.one++obl b ac.two:=by cases ac<;>first | rfl | exact absurd ⟨_,rfl⟩ hu
   have e':Yq P X V (.cond x a b) ac=(Yq P X V a ac.one∧Yq P X V b ac.two):=by cases ac<;>first | rfl | exact absurd ⟨_,rfl⟩ hu
   rw[e'];rw[e] at h;exact ⟨iha _ fun p hp=>h p (bl _ hp),ihb _ fun p hp=>h p (bm _ hp)⟩
 | block i c ih =>
  intro ac h;by_cases hu:∃ u,ac = .unit u
  ·obtain⟨u,rfl⟩:=hu;exact h (_,u) (by simp [obl])
  ·have e:obl (.block i c) ac=obl c ac.one:=by cases ac<;>first | rfl | exact absurd ⟨_,rfl⟩ hu
   have e':Yq P X V (.block i c) ac=Yq P X V c ac.one:=by cases ac<;>first | rfl | exact absurd ⟨_,rfl⟩ hu
   rw[e'];rw[e] at h;exact ih _ h
 | _ =>
  intro ac h;cases ac with
  | unit u=>exact h (_,u) (by simp [obl])
  | _=>trivial
theorem zfK {P:Program} {X:Fx} {V:Env} (c:Code):Yq P X V c .run:=by
 induction c with
 | seq a b iha ihb=>exact ⟨iha,ihb⟩
 | cond x a b iha ihb=>exact ⟨iha,ihb⟩
 | block i c ih=>exact ih
 | _=>trivial
theorem zhG {P:Program} {V:Env} (hA:VAll P V) (zl:P.follows .mixedOrders=true) {c:Code} {ac:AC} {l:List (Code×Un)} (hl:obl c ac=l) (hac:∀ X:Fx,VOk P X V->Obl P X V l) {hd:SS} {es:Exs} {step:(hd.X->Option (YT es))->hd.X->Option (YT es)}
  (hs:∀ f x,E V c ac (mkS hd 8 x) (Dp V.fz hd es f)=step f x) {W:List Nat} (hW:sr c=W) (hro:es.all (fun e=>Zp e.2.sh)=true) {X:Fx} (hX:VOk P X V):Fw P X V (.loop c) (lpU V.fz W hd es (lp step ze)) :=
 zhd hA zl (fun X hX=>Yk c ac (hl▸hac X hX)) (Fl:=lp step) (fun _=>rfl) (fun k x y h=>(hs (lp step k) x).trans h) hW (fun e s hm=>by
  rw[aF] at hro;exact hro _ hm) ze hX
theorem zgW {P:Program} {tb:Tb} {gl:Gl} {l:List (Nat×Con)} {f:FuncId} {c:ShC} {n:Nat} {fn:Func} {code:Code} {rts:List RT'} (ht:uW P tb) (zl:P.follows .mixedOrders=true) (hg:Xh P (cond c.glob gl fun _=>none) l)
  (hfn:P.funcs[f]? = some fn) (hb:fn.body=some code) (hr:fn.results=(rts.map RT'.var).toArray) (hn:c.nres=rts.length) (hrow:zhQ fn c n=true) {ac:AC} {ob:List (Code×Un)} (hl:obl code ac=ob)
  (hac:∀ X:Fx,VOk P X (ZH tb gl l c n)->Obl P X (ZH tb gl l c n) ob)
  (hk:c.ms.all (fun t => !((sr code).any (ay t)))=true)
  (hE:∀ x,E (ZH tb gl l c n) code ac (c.entry x) (PK tb (ZH tb gl l c n).fz c rts x)=c.F x):ShOk P gl f c:=by
 simp only[zhQ,aw,bZ] at hrow;obtain⟨⟨⟨h1,h2⟩,h3⟩,h4⟩:=hrow;refine EK (V:=ZH tb gl l c n) (fn:=fn) (code:=code) (rts:=rts) ⟨hfn,h1,hb,hr,hn,bA h2,am h3,rfl,zh ht hg,zl,h4,hk⟩ ac (fun X hX=>Yk code ac (hl▸hac X hX)) (fun x y h=>by
  have:=(hE x).trans h;rw[Rh] at this;exact this)
def RoundsL (P:Program) (c:Code) (Q:Exit->Act->World->Prop):Nat->Nat->Act->World->Prop
 | 0,_,_,_=>False
 | k+1,l,a,w=>∃ rest,findLabel c l=some rest∧rest.wp P (fun e a' w'=>match e with
  | .goto l'=>RoundsL P c Q k l' a' w'
  | e=>Q e a' w') a w
theorem RoundsL.mono {P:Program} {c:Code} {Q Q':Exit->Act->World->Prop} (h:∀ e a w,(∀ l,e ≠ .goto l)->Q e a w->Q' e a w):(k:Nat)->{l:Nat}->{a:Act}->{w:World}->RoundsL P c Q k l a w->RoundsL P c Q' k l a w
 | 0,_,_,_,h'=>h'.elim
 | k+1,l,a,w,h'=>by
  obtain⟨rest,h1,h2⟩:=h';refine ⟨rest,h1,wp_mono h2 fun e a' w' hq => ?_⟩;cases e with
  | goto l'=>exact RoundsL.mono h k hq
  | _=>exact h _ _ _ (by intro l; simp) hq
theorem VL {P:Program} {c:Code} {Q:Exit->Act->World->Prop} {a:Act} {w:World} (first:c.wp P (fun e a' w'=>match e with
  | .goto l=>∃ k,RoundsL P c Q k l a' w'
  | e=>Q e a' w') a w):(Code.scope c).wp P Q a w:=by
 intro b k cs;have key:∀ n l a w,RoundsL P c Q n l a w->∃ rest,gotoIn l (.inScope c::k)=some (.code rest :: .inScope c::k)∧∃ e a' w',Q e a' w'∧Arrives P (lone (b.at a (.code rest :: .inScope c::k)) cs w) b k cs e a' w':=by
  intro n
  induction n with
  | zero=>intro l a w h; exact h.elim
  | succ n ih =>
   intro l a w h;obtain⟨rest,hf,h⟩:=h;refine ⟨rest,by simp [gotoIn,hf],?_⟩
   obtain⟨e,a₁,w₁,hq,harr⟩:=h b (.inScope c::k) cs;cases e with
   | normal=>exact ⟨.normal,a₁,w₁,hq,gU harr (.one step_inScope)⟩
   | exit id=>exact ⟨.exit id,a₁,w₁,hq,fun k' hk=>harr k' (by simp [exitTo,hk])⟩
   | goto l' =>
    obtain⟨rest',hg,e₂,a₂,w₂,hq₂,harr₂⟩:=ih l' a₁ w₁ hq;exact ⟨e₂,a₂,w₂,hq₂,.of_steps (harr _ hg) harr₂⟩
   | ret=>exact ⟨_,a₁,w₁,hq,harr⟩
   | panic ch=>exact ⟨_,a₁,w₁,hq,harr⟩
   | outgrown=>exact ⟨_,a₁,w₁,hq,harr⟩
 obtain⟨e,a₁,w₁,hq,harr⟩:=first b (.inScope c::k) cs;cases e with
 | normal=>exact ⟨.normal,a₁,w₁,hq,.head step_scope (gU harr (.one step_inScope))⟩
 | exit id=>exact ⟨.exit id,a₁,w₁,hq,fun k' hk=>.head step_scope (harr k' (by simp [exitTo,hk]))⟩
 | goto l' =>
  obtain⟨n,hn⟩:=hq;obtain⟨rest',hg,e₂,a₂,w₂,hq₂,harr₂⟩:=key n l' a₁ w₁ hn;exact ⟨e₂,a₂,w₂,hq₂,.of_steps (.head step_scope (harr _ hg)) harr₂⟩
 | ret=>exact ⟨_,a₁,w₁,hq,.of_steps (.one step_scope) harr⟩
 | panic ch=>exact ⟨_,a₁,w₁,hq,.of_steps (.one step_scope) harr⟩
 | outgrown=>exact ⟨_,a₁,w₁,hq,.of_steps (.one step_scope) harr⟩
theorem Eo {l:Nat}:(c:Code)->{rest:Code}->findLabel c l=some rest->∀ t,t∈sr rest->t∈sr c:=by
 intro c
 induction c with
 | seq a b iha ihb =>
  intro rest h t ht;simp only[findLabel] at h;split at h
  ·rename_i r hr;injection h with h; subst h;simp only[sr,aQ] at ht ⊢;exact ht.imp (iha hr t) fun h=>h
  ·simp only[sr,aQ];exact .inr (ihb h t ht)
 | label l' =>
  intro rest h t ht;simp only[findLabel] at h;split at h
  ·injection h with h; subst h; cases ht
  ·cases h
 | _=>intro rest h; simp [findLabel] at h
def T4 (fz:Nat) (js es:Exs) (f:YT js->Option (YT es)):XE->St->Option (YT es)
 | .normal,st=>Fu fz es .normal st
 | .exit i,st=>Fu fz es (.exit i) st
 | .goto l,st=>(Fu fz js (.goto l) st).bind f
 | .ret,st=>Fu fz es .ret st
def EP {R:Type} (fz:Nat) (W:List Nat) (es:Exs):(js:Exs)->(YT js->Option (YT es))->XE->St->(XE->St->Option R)->Option R
 | [],_,_,_,_=>none
 | [e],F,xe,st,κ=>cond (Qv e.1 xe) ((GL fz e.2 st).bind fun d=>(F d.x).bind fun y=>Xn es y fun xe s z=>κ xe (JH W (t9 e.2.sh d.bd) d.zs st s z)) none
 | e::f::js,F,xe,st,κ=>cond (Qv e.1 xe) ((GL fz e.2 st).bind fun d=>(F (aU d.x)).bind fun y=>Xn es y fun xe s z=>κ xe (JH W (t9 e.2.sh d.bd) d.zs st s z))
   (EP fz W es (f::js) (fun y=>F (aG y)) xe st κ)
def scU (V:Env) (W:List Nat) (js es:Exs) (c:Code) (ac:AC) (F:YT js->Option (YT es)):Un :=
 ⟨fun st κ=>E V c ac st fun xe st'=>match xe with
  | .normal=>κ .normal st'
  | .exit i=>κ (.exit i) st'
  | .goto l=>EP V.fz W es js F (.goto l) st' κ
  | .ret=>κ .ret st'⟩
def Fr (V:Env) (c:Code) (acs:Nat->AC) (js es:Exs) (f:YT js->Option (YT es)) (y:YT js):Option (YT es) :=
 Xn js y fun xe s z=>match xe with
  | .goto l=>match findLabel c l with
   | some rest=>E V rest (acs l) (mkS s 8 z) (T4 V.fz js es f)
   | none=>none
  | _=>none
def KA (es:Exs):Bool:=es.all fun e=>match e.1 with
 | .goto _=>false
 | _=>true
theorem Eu {P:Program} {V:Env} (hA:VAll P V) {X:Fx} (hX:VOk P X V) {R:Type} {st:St} {κ:XE->St->Option R} {x:R} {d:List Deferred} {a:Act} {w:World} {g:Gh} {U:Nat->Prop} (hn:Now X V d wQ st a w g U)
  {hd:SS} {dd:Dec hd.sh} (hdd:GL V.fz hd st=some dd) {es:Exs} {y:YT es} {W:List Nat} (hro:∀ e s,(e,s)∈es->Zp s.sh=true) (h:Xn es y (fun xe s z=>κ xe (JH W (t9 hd.sh dd.bd) dd.zs st s z))=some x) :
  ∃ g1,∃ hb:X.D<=w.heap.size,Now (X.inner g1 (mkS hd 8 dd.x).H (mkS hd 8 dd.x).Z w hb) V d wQ (mkS hd 8 dd.x) a w g1 (upto 8 hd.sh.blks.length)∧(X.inner g1 (mkS hd 8 dd.x).H (mkS hd 8 dd.x).Z w hb).gl=V.gl ∧
   (V.fz=2->∀ r,(X.inner g1 (mkS hd 8 dd.x).H (mkS hd 8 dd.x).Z w hb).O r->(X.inner g1 (mkS hd 8 dd.x).H (mkS hd 8 dd.x).Z w hb).N r) ∧
   ∀ e a' w',XG (X.inner g1 (mkS hd 8 dd.x).H (mkS hd 8 dd.x).Z w hb) V W d es y st.nx w g1 a e a' w'->KU X V W d κ x st a w g U e a' w':=by
 have hg:X.gl=V.gl:=hX.gl.symm;obtain⟨g1,hS1,hn1,hloc,hkz⟩:=hn.weak hA.fz hX.own hdd 8;obtain⟨L1,L2,b1,hdok⟩:=Df hdd;have hin:=hn1.mem.inner;have hB':V.fz=2->∀ r,(X.inner g1 (mkS hd 8 dd.x).H (mkS hd 8 dd.x).Z w hn1.mem.bB).O r->(X.inner g1 (mkS hd 8 dd.x).H (mkS hd 8 dd.x).Z w hn1.mem.bB).N r:=fun h2 r hr=>by
  rcases (Xi hn1.mem hr).1 with h' | h'
  ·exact X.hN _ h'
  ·exact hX.own h2 r h'
 have hnin:Now (X.inner g1 (mkS hd 8 dd.x).H (mkS hd 8 dd.x).Z w hn1.mem.bB) V d wQ (mkS hd 8 dd.x) a w g1 (upto 8 hd.sh.blks.length):={ hn1 with mem:=hin };refine ⟨g1,hn1.mem.bB,hnin,hg,hB',fun e a' w' hq => ?_⟩;have hex:=Z7 es (q:=fun xe s z=>∃ g3 U3,sA e xe∧Now X V d wQ (JH W (t9 hd.sh dd.bd) dd.zs st s z) a' w' g3 U3∧Since (· ∈ W) w g st.H U a w' g3 (JH W (t9 hd.sh dd.bd) dd.zs st s z).H U3 a') (fun xe s z hm hp=>by
  obtain⟨he,g',hn',hsi⟩:=hp;obtain⟨g3,U3,h3,h4⟩:=hn.join (fz:=V.fz) hA.fz hX.own (C:=t9 hd.sh dd.bd) hS1 (fun r hr=>by
   obtain⟨b,hb1,hb2,hb3⟩:=hr;obtain⟨j,kk,rfl,hj1,hj2⟩:=sx hb1;have hjl:j<dd.bd.length:=by
    rw[hdok.len];have:=(aq.1 hj1).1;unfold Sh.bks at this;rwa [vL] at this
   have ho:=al hjl;have hl:=hloc j _ ho;rw[hb2] at hl;cases hoi:dd.bd[j] with
   | none=>rw[hoi] at hl; cases hl
   | some i =>
    rw[hoi] at hl ho;obtain⟨hk1,hk2⟩:=hkz j i ho;have hjt:j<hd.sh.blks.length:=by rw[← hdok.len]; exact hjl
    have ht:=al hjt;have hzi:xH st.Z dd.zs i=st.Z i:=by
     rw[Yl];have:(dd.zs.any fun z=>ay i z)=false:=by
      rw[ce];intro z hz he;have:=am he;subst this;exact rU (hdok.fresh _ hz) j ho
     rw[this,Bool.or_false]
    refine ⟨i,Ki ht ?_ ho,fun hdd' => ?_,hl.symm,fun hc=>hb3 ?_⟩
    ·cases hr:hd.sh.blks[j].ro with
     | false=>rfl
     | true =>
      exfalso;apply hb3;obtain⟨l,hl2⟩:=Cb hr;refine ⟨?_,?_⟩
      ·show mkZ 8 hd.sh.blks (8+j)=true;rw[QX ht,hl2]; rfl
      ·have:=QE _ _ (hdok.kinds fun j=>8+j) j _ _ ht hj1;rw[hl2] at this;show (mkH 8 _ (8+j)).isCells=true;rw[hj2];cases kk<;>first | rfl | cases this
    ·rw[hdd'] at hk1;exact hk1.elim
    ·have hz:st.Z i=true:=hzi▸hc.1;refine ⟨hk2 hz,?_⟩;have hcs:=hc.2;cases hHi:st.H i<;>rw[hHi] at hcs hk1<;>first | cases hcs | skip
     cases hHj:(mkS hd 8 dd.x).H (8+j)<;>rw[hHj] at hk1<;>first | rfl | exact hk1.elim) (hro xe s hm) hn' hsi
  exact ⟨g3,U3,he,h3,h4⟩) hq
 have fin:∀(es:Exs) (y:YT es),Xn es y (fun xe s z=>κ xe (JH W (t9 hd.sh dd.bd) dd.zs st s z))=some x->Xn es y (fun xe s z=>∃ g3 U3,sA e xe∧Now X V d wQ (JH W (t9 hd.sh dd.bd) dd.zs st s z) a' w' g3 U3∧Since (· ∈ W) w g st.H U a w' g3 (JH W (t9 hd.sh dd.bd) dd.zs st s z).H U3 a') ->
   KU X V W d κ x st a w g U e a' w':=by
  intro es
  induction es with
  | nil=>intro y; exact nomatch y
  | cons e0 es ih =>
   intro y h1 h2;cases es with
   | nil =>
    obtain⟨g3,U3,he,h3,h4⟩:=h2;exact ⟨e0.1,_,g3,U3,he,h1,h3,h4⟩
   | cons f es =>
    match y,h1,h2 with
    | .inl z,h1,h2 =>
     obtain⟨g3,U3,he,h3,h4⟩:=h2;exact ⟨e0.1,_,g3,U3,he,h1,h3,h4⟩
    | .inr z,h1,h2=>exact ih z h1 h2
 exact fin es y h hex
theorem Wj {P:Program} {V:Env} (hA:VAll P V) (zl:P.follows .mixedOrders=true) {c:Code} {acs:Nat->AC} {js es:Exs} (hac:∀ X:Fx,VOk P X V->∀ l rest,findLabel c l=some rest->Yq P X V rest (acs l)) {Fl:Nat->YT js->Option (YT es)} (h0:∀ x,Fl 0 x=none)
  (hs:∀ k x y,Fl (k+1) x=some y->Fr V c acs js es (Fl k) x=some y) (hgo:KA es=true) {X:Fx} (hg:X.gl=V.gl) (hB:V.fz=2->∀ r,X.O r->X.N r) {n1:Nat} {d:List Deferred} {W:List Nat} (hW:∀ t,t∈sr c->t∈W) {w0:World} {g0:Gh} {a0:Act} :
  (k:Nat)->{x:YT js}->{y:YT es}->Fl k x=some y->Xn js x fun xe s z=>∀(a:Act) (w:World) (g:Gh) (U:Nat->Prop),Now X V d wQ (mkS s 8 z) a w g U->SinceS W w0 g0 a0 w g a->∃ l,xe = .goto l∧RoundsL P c (XG X V W d es y n1 w0 g0 a0) k l a w
 | 0,x,y,h=>by rw[h0] at h; cases h
 | k+1,x,y,h=>by
  have hX:=hA.ok hg hB;have hp:=hs k x y h;unfold Fr at hp;have gen:∀(js':Exs) (x':YT js'),Xn js' x' (fun xe s z=>(match xe with
    | .goto l=>match findLabel c l with
     | some rest=>E V rest (acs l) (mkS s 8 z) (T4 V.fz js es (Fl k))
     | none=>none
    | _=>none)=some y)->Xn js' x' fun xe s z=>∀(a:Act) (w:World) (g:Gh) (U:Nat->Prop),Now X V d wQ (mkS s 8 z) a w g U->SinceS W w0 g0 a0 w g a->∃ l,xe = .goto l∧RoundsL P c (XG X V W d es y n1 w0 g0 a0) (k+1) l a w:=by
   intro js' x' hp;refine Z7 js' (fun xe s z _ hp a w g U hn hsi => ?_) hp;cases xe with
   | goto l =>
    simp only at hp;split at hp
    ·rename_i rest hf;refine ⟨l,rfl,rest,hf,?_⟩;refine wp_mono (X0 hX hA.nat zl rest (acs l) (hac X hX l rest hf) _ _ _ hp d a w g U hn) ?_;rintro e a1 w1 ⟨xe,st1,g1,U1,he,hk,hn1,hs1⟩;have hsi1:SinceS W w0 g0 a0 w1 g1 a1:=hsi.trans ⟨hs1.mono.hS,fun t ht=>hs1.tmps t fun h'=>ht (hW t (Eo c hf t h'))⟩;cases e<;>cases xe<;>simp only[sA] at he
     ·exact XP hA.fz hB (e:=.normal) (xe:=.normal) trivial hn1 hk hsi1
     ·exact XP hA.fz hB (xe:=.exit _) (by exact he) hn1 hk hsi1
     ·rename_i l1 l2;subst he;have hk:(Fu V.fz js (.goto l1) st1).bind (Fl k)=some y:=hk;obtain⟨y1,hy1,hk⟩:=ag.1 hk;have ih:=Wj hA zl hac h0 hs hgo hg hB (n1:=n1) (d:=d) hW (w0:=w0) (g0:=g0) (a0:=a0) k hk;have hdx:=D5 js hy1;have hboth:∀(js:Exs) (y1:YT js),Xn js y1 (fun xe' s z=>xe' = .goto l1∧∃ d,GL V.fz s st1=some d∧d.x=z)->Xn js y1 (fun xe s z=>∀(a:Act) (w:World) (g:Gh) (U:Nat->Prop),Now X V d wQ (mkS s 8 z) a w g U->SinceS W w0 g0 a0 w g a->∃ l,xe = .goto l∧RoundsL P c (XG X V W d es y n1 w0 g0 a0) k l a w) ->
        RoundsL P c (XG X V W d es y n1 w0 g0 a0) k l1 a1 w1:=by
       intro js;have one:∀(xe':XE) (s:SS) (z:s.X),(xe' = .goto l1∧∃ d,GL V.fz s st1=some d∧d.x=z)->(∀(a:Act) (w:World) (g:Gh) (U:Nat->Prop),Now X V d wQ (mkS s 8 z) a w g U->SinceS W w0 g0 a0 w g a->∃ l,xe' = .goto l∧RoundsL P c (XG X V W d es y n1 w0 g0 a0) k l a w) ->
         RoundsL P c (XG X V W d es y n1 w0 g0 a0) k l1 a1 w1:=by
        rintro xe' s z ⟨rfl,dd,hdd,rfl⟩ hr;obtain⟨g',h1,h2,-,-⟩:=hn1.weak hA.fz hB hdd 8;obtain⟨l,hl,hr⟩:=hr _ _ _ _ h2 (hsi1.sub (J8 h1));injection hl with hl; subst hl;exact hr
       induction js with
       | nil=>intro y1; exact nomatch y1
       | cons e0 js ih =>
        intro y1 h1 h2;cases js with
        | nil=>exact one _ _ _ h1 h2
        | cons f js =>
         match y1,h1,h2 with
         | .inl z,h1,h2=>exact one _ _ _ h1 h2
         | .inr z,h1,h2=>exact ih z h1 h2
      exact hboth js y1 hdx ih
     ·exact XP hA.fz hB (e:=.ret) (xe:=.ret) trivial hn1 hk hsi1
    ·cases hp
   | _=>cases hp
  refine gen js x ?_;have lift:∀(js':Exs) (x':YT js') (f:XE->(s:SS)->s.X->Option (YT es)),Xn js' x' f=some y->Xn js' x' fun xe s z=>f xe s z=some y:=by
   intro js'
   induction js' with
   | nil=>intro x'; exact nomatch x'
   | cons e0 js' ih =>
    intro x' f h;cases js' with
    | nil=>exact h
    | cons e1 js' =>
     match x',h with
     | .inl z,h=>exact h
     | .inr z,h=>exact ih z f h
  exact lift js x _ hp
theorem zhV {P:Program} {V:Env} (hA:VAll P V) (zl:P.follows .mixedOrders=true) {c:Code} {ac:AC} {acs:Nat->AC} (hac0:∀ X:Fx,VOk P X V->Yq P X V c ac) {js es:Exs} (hac:∀ X:Fx,VOk P X V->∀ l rest,findLabel c l=some rest->Yq P X V rest (acs l)) {Fl:Nat->YT js->Option (YT es)} (h0:∀ x,Fl 0 x=none)
  (hs:∀ k x y,Fl (k+1) x=some y->Fr V c acs js es (Fl k) x=some y) (hgo:KA es=true) {W:List Nat} (hW:sr c=W) (hro:∀ e s,(e,s)∈es->Zp s.sh=true) (k:Nat) {X:Fx} (hX:VOk P X V):Fw P X V (.scope c) (scU V W js es c ac (Fl k)):=by
 intro R st κ x h d a w g U hn;have h:E V c ac st (fun xe st'=>match xe with
  | .normal=>κ .normal st'
  | .exit i=>κ (.exit i) st'
  | .goto l=>EP V.fz W es js (Fl k) (.goto l) st' κ
  | .ret=>κ .ret st')=some x:=h
 refine VL (wp_mono (X0 hX hA.nat zl c ac (hac0 X hX) _ _ _ h d a w g U hn) ?_);rintro e a1 w1 ⟨xe,st1,g1,U1,he,hk,hn1,hs1⟩;have hs1:Since (· ∈ W) w g st.H U a w1 g1 st1.H U1 a1:=hW▸hs1;cases e<;>cases xe<;>simp only[sA] at he
 ·exact ⟨.normal,st1,g1,U1,trivial,hk,hn1,by show Since (· ∈ sr c) _ _ _ _ _ _ _ _ _ _; rw[hW]; exact hs1⟩
 ·exact ⟨.exit _,st1,g1,U1,he,by subst he; exact hk,hn1,by show Since (· ∈ sr c) _ _ _ _ _ _ _ _ _ _; rw[hW]; exact hs1⟩
 ·rename_i l1 l2;subst he;have hk:EP V.fz W es js (Fl k) (.goto l1) st1 κ=some x:=hk;refine ⟨k,?_⟩;have one:∀(xe':XE) (hd:SS) (z:hd.X) (dd:Dec hd.sh) (y:YT es),Qv xe' (.goto l1)=true->GL V.fz hd st1=some dd->dd.x=z->Xn es y (fun xe s z=>κ xe (JH W (t9 hd.sh dd.bd) dd.zs st1 s z))=some x ->
    (∀(X:Fx),X.gl=V.gl->(V.fz=2->∀ r,X.O r->X.N r)->∀(n1:Nat) (w0:World) (g0:Gh) (a0:Act) (a:Act) (w:World) (g:Gh) (U:Nat->Prop),Now X V d wQ (mkS hd 8 z) a w g U->SinceS W w0 g0 a0 w g a->∃ l,xe' = .goto l∧RoundsL P c (XG X V W d es y n1 w0 g0 a0) k l a w) ->
    RoundsL P c (KU X V (sr (.scope c)) d κ x st a w g U) k l1 a1 w1:=by
   intro xe' hd z dd y hx hdd hz h1 hr;subst hz;have hx:=GE hx;subst hx;obtain⟨g2,hb,hnin,hg2,hB2,hex⟩:=Eu hA hX hn1 hdd hro h1;obtain⟨l,hl,hr⟩:=hr _ hg2 hB2 st1.nx w1 g2 a1 a1 w1 g2 _ hnin (SinceS.refl (W:=W));injection hl with hl; subst hl;refine RoundsL.mono (fun e a' w' _ hq => ?_) k hr;obtain⟨xe,st2,g3,U3,he,hk3,hn3,hs3⟩:=hex e a' w' hq;refine ⟨xe,st2,g3,U3,he,hk3,hn3,?_⟩;show Since (· ∈ sr c) _ _ _ _ _ _ _ _ _ _;rw[hW];exact hs1.trans hs3
  have gen:∀(js':Exs) (F:YT js'->Option (YT es)),(∀(y':YT js') (y:YT es),F y'=some y->Xn js' y' fun xe s z=>∀(X:Fx),X.gl=V.gl->(V.fz=2->∀ r,X.O r->X.N r)->∀(n1:Nat) (w0:World) (g0:Gh) (a0:Act) (a:Act) (w:World) (g:Gh) (U:Nat->Prop),Now X V d wQ (mkS s 8 z) a w g U->SinceS W w0 g0 a0 w g a->∃ l,xe = .goto l∧RoundsL P c (XG X V W d es y n1 w0 g0 a0) k l a w) ->
    EP V.fz W es js' F (.goto l1) st1 κ=some x->RoundsL P c (KU X V (sr (.scope c)) d κ x st a w g U) k l1 a1 w1:=by
   intro js'
   induction js' with
   | nil=>intro F hF h; cases h
   | cons e0 js' ih =>
    intro F hF h;cases js' with
    | nil =>
     have h:cond (Qv e0.1 (.goto l1)) ((GL V.fz e0.2 st1).bind fun d=>(F d.x).bind fun y=>Xn es y fun xe s z=>κ xe (JH W (t9 e0.2.sh d.bd) d.zs st1 s z)) none=some x:=h;cases hx:Qv e0.1 (.goto l1) with
     | false=>rw[hx] at h; cases h
     | true =>
      rw[hx] at h;obtain⟨dd,hdd,h⟩:=ag.1 h;obtain⟨y,hy,h⟩:=ag.1 h;exact one e0.1 e0.2 dd.x dd y hx hdd rfl h (hF dd.x y hy)
    | cons f js' =>
     have h:cond (Qv e0.1 (.goto l1)) ((GL V.fz e0.2 st1).bind fun d=>(F (aU d.x)).bind fun y=>Xn es y fun xe s z=>κ xe (JH W (t9 e0.2.sh d.bd) d.zs st1 s z)) (EP V.fz W es (f::js') (fun y=>F (aG y)) (.goto l1) st1 κ)=some x:=h;cases hx:Qv e0.1 (.goto l1) with
     | false =>
      rw[hx] at h;exact ih (fun y=>F (aG y)) (fun y' y hy=>hF (aG y') y hy) h
     | true =>
      rw[hx] at h;obtain⟨dd,hdd,h⟩:=ag.1 h;obtain⟨y,hy,h⟩:=ag.1 h;exact one e0.1 e0.2 dd.x dd y hx hdd rfl h (hF (aU dd.x) y hy)
  refine gen js (Fl k) (fun y' y hy => ?_) hk;have base:=fun (X:Fx) hg hB (n1:Nat) w0 g0 a0=>Wj (X:=X) hA zl hac h0 hs hgo hg hB (n1:=n1) (d:=d) (W:=W) (fun t ht=>hW▸ht) (w0:=w0) (g0:=g0) (a0:=a0) k hy;have zhU:∀(js':Exs) (y':YT js'),(∀(X:Fx),X.gl=V.gl->(V.fz=2->∀ r,X.O r->X.N r)->∀(n1:Nat) (w0:World) (g0:Gh) (a0:Act),Xn js' y' fun xe s z=>∀(a:Act) (w:World) (g:Gh) (U:Nat->Prop),Now X V d wQ (mkS s 8 z) a w g U->SinceS W w0 g0 a0 w g a->∃ l,xe = .goto l∧RoundsL P c (XG X V W d es y n1 w0 g0 a0) k l a w) ->
    Xn js' y' fun xe s z=>∀(X:Fx),X.gl=V.gl->(V.fz=2->∀ r,X.O r->X.N r)->∀(n1:Nat) (w0:World) (g0:Gh) (a0:Act) (a:Act) (w:World) (g:Gh) (U:Nat->Prop),Now X V d wQ (mkS s 8 z) a w g U->SinceS W w0 g0 a0 w g a->∃ l,xe = .goto l∧RoundsL P c (XG X V W d es y n1 w0 g0 a0) k l a w:=by
   intro js'
   induction js' with
   | nil=>intro y'; exact nomatch y'
   | cons e0 js' ih =>
    intro y' h;cases js' with
    | nil=>exact fun X hg hB n1 w0 g0 a0=>h X hg hB n1 w0 g0 a0
    | cons f js' =>
     match y',h with
     | .inl z,h=>exact fun X hg hB n1 w0 g0 a0=>h X hg hB n1 w0 g0 a0
     | .inr z,h=>exact ih z h
  exact zhU js y' base
 ·exact ⟨.ret,st1,g1,U1,trivial,hk,hn1,by show Since (· ∈ sr c) _ _ _ _ _ _ _ _ _ _; rw[hW]; exact hs1⟩
theorem zgM {P:Program} {V:Env} (hA:VAll P V) (zl:P.follows .mixedOrders=true) {c:Code} {ac:AC} {acs:Nat->AC} {l:List (Code×Un)} (hl:obl c ac=l) (hac:∀ X:Fx,VOk P X V->Obl P X V l) {js es:Exs} (hacs:∀ X:Fx,VOk P X V->∀ l rest,findLabel c l=some rest->Yq P X V rest (acs l))
  {step:(YT js->Option (YT es))->YT js->Option (YT es)} (hs:∀ f x,Fr V c acs js es f x=step f x) (hgo:KA es=true) {W:List Nat} (hW:sr c=W) (hro:es.all (fun e=>Zp e.2.sh)=true) {X:Fx} (hX:VOk P X V) :
  Fw P X V (.scope c) (scU V W js es c ac (lp step ze)) :=
 zhV hA zl (fun X hX=>Yk c ac (hl▸hac X hX)) hacs (Fl:=lp step) (fun _=>rfl) (fun k x y h=>(hs (lp step k) x).trans h) hgo hW (fun e s hm=>by
  rw[aF] at hro;exact hro _ hm) ze hX
def zg (fn:Func):Code:=fn.body.getD .skip
abbrev Str:=List UInt8
def lpR {A:Type} (base:A) (step:A->A):Nat->A
 | 0=>base
 | k+1=>step (lpR base step k)
theorem W5 {P:Program} {gl:Gl} {f:FuncId}:∀ c,c∈([]:List ShC)->ShOk P gl f c:=fun c hc=>by cases hc
theorem QV {P:Program} {gl:Gl} {f:FuncId} {c:ShC} {cs:List ShC} (h:ShOk P gl f c) (hs:∀ c,c∈cs->ShOk P gl f c):∀ d,d∈c::cs->ShOk P gl f d:=fun d hd=>by
 rcases aB.1 hd with rfl | hd
 ·exact h
 ·exact hs d hd
theorem zge {P:Program} {V:Env} {c0 c:Code} (h0:c0 = .loop c) (hA:VAll P V) (zl:P.follows .mixedOrders=true) {ac:AC} {ob:List (Code×Un)} (hl:obl c ac=ob) (hac:∀ X:Fx,VOk P X V->Obl P X V ob) {hd:SS} {es:Exs} {step:(hd.X->Option (YT es))->hd.X->Option (YT es)}
  (hs:∀ f x,E V c ac (mkS hd 8 x) (Dp V.fz hd es f)=step f x) {W:List Nat} (hW:sr c=W) (hro:es.all (fun e=>Zp e.2.sh)=true) {X:Fx} (hX:VOk P X V):Fw P X V c0 (lpU V.fz W hd es (lp step ze)):=by
 rw[h0];exact zhG hA zl hl hac hs hW hro hX
theorem zcQ {P:Program} {V:Env} {c0 c:Code} (h0:c0 = .scope c) (hA:VAll P V) (zl:P.follows .mixedOrders=true) {ac:AC} {acs:Nat->AC} {ob:List (Code×Un)} (hl:obl c ac=ob) (hac:∀ X:Fx,VOk P X V->Obl P X V ob) {js es:Exs} (hacs:∀ X:Fx,VOk P X V->∀ l rest,findLabel c l=some rest->Yq P X V rest (acs l))
  {step:(YT js->Option (YT es))->YT js->Option (YT es)} (hs:∀ f x,Fr V c acs js es f x=step f x) (hgo:KA es=true) {W:List Nat} (hW:sr c=W) (hro:es.all (fun e=>Zp e.2.sh)=true) {X:Fx} (hX:VOk P X V) :
  Fw P X V c0 (scU V W js es c ac (lp step ze)):=by
 rw[h0];exact zgM hA zl hl hac hacs hs hgo hW hro hX
def NY (c:Code) (l:Nat):Code:=(findLabel c l).getD .skip
def Pv:List (Nat×AC)->Nat->AC
 | [],_=>.run
 | p::l,i=>cond (ay i p.1) p.2 (Pv l i)
def Rz (P:Program) (X:Fx) (V:Env) (c:Code) (l:List (Nat×AC)):Prop:=∀ p,p∈l->Yq P X V (NY c p.1) p.2
theorem zbl {P:Program} {X:Fx} {V:Env} {c:Code}:Rz P X V c []:=fun p hp=>by cases hp
theorem zd2 {P:Program} {X:Fx} {V:Env} {c:Code} {l:List (Nat×AC)} (h:Rz P X V c l):∀ i rest,findLabel c i=some rest->Yq P X V rest (Pv l i):=by
 intro i rest hr;have e:NY c i=rest:=by unfold NY; rw[hr]; rfl
 induction l with
 | nil=>exact zfK rest
 | cons p l ih =>
  unfold Pv;cases hb:ay i p.1 with
  | true =>
   have:=am hb;subst this;rw[← e];exact h p (by simp)
  | false=>exact ih fun q hq=>h q (by simp [hq])
def zfx (tb:Tb) (t:TypeId) (i:TypeInfo):Bool :=
 match zeroCells tb 5 t with
 | some cs=>match i.zero with
  | some z=>zFs cs z.cells.toList
  | none=>false
 | none=>true
def VH (P:Program) (t:TypeId):TD->Bool
 | .int k=>match P.underlying t with
  | some (.int k')=>decide (k'=k)
  | _=>false
 | .bool=>match P.underlying t with
  | some .bool=>true
  | _=>false
 | .str=>match P.underlying t with
  | some .string=>true
  | _=>false
 | .cx=>match P.underlying t with
  | some (.complex .f64)=>true
  | _=>false
 | .fl=>match P.underlying t with
  | some (.float .f64)=>true
  | _=>false
 | .fa e k n=>match P.underlying t,P.info? e with
  | some (.array n' e'),some i=>ay n' n&&ay e' e&&ay i.size k
  | _,_=>false
 | .sl e ts bytes=>match P.underlying t,P.info? e with
  | some (.slice e'),some i=>match i.zero with
   | some z=>ay e' e&&ay i.size ts.size&&ay i.bytes bytes&&Nat.blt 0 bytes&&ay z.cells.size ts.size&&Dy (zZ 2 ts (wI ts)) z.cells.toList
   | none=>false
  | _,_=>false
 | .st fs _=>match P.underlying t with
  | some (.struct fields)=>decide (fields.toList.map (fun f=>(f.type,f.offset))=fs)&&fields.toList.all (fun f => !(f.name == "_")&&match P.info? f.type with
   | some i => !(ay i.size 0)
   | none=>false) && !(P.eqGuardType P.depth t) && !(P.stoodInHeld t)
  | _=>false
 | .fn=>match P.underlying t with
  | some (.func _ _ _)=>true
  | _=>false
 | .arr e ts n=>match P.underlying t,P.info? e,P.info? t with
  | some (.array n' e'),some i,some it=>match it.zero with
   | some z=>ay n' n&&ay e' e&&ay i.size ts.size&&ay z.cells.size (n*ts.size)&&(List.range n).all (fun j=>Dy (zZ 2 ts (wI ts)) ((z.cells.toList.drop (j*ts.size)).take ts.size))
   | none=>false
  | _,_,_=>false
def tdB (P:Program) (tb:Tb) (t:TypeId) (td:TD):Bool :=
 match P.info? t with
 | some i=>ay i.size td.size&&zfx tb t i&&VH P t td
 | none=>false
theorem zew {P:Program} {tb:Tb} {t:TypeId} {td:TD} (h:tdB P tb t td=true):zhL P tb t td:=by
 unfold tdB at h;split at h
 ·rename_i i hi;simp only[aw] at h;obtain⟨⟨h1,h2⟩,h3⟩:=h;refine ⟨⟨i,hi,am h1,fun cs hcs => ?_⟩,?_⟩
  ·unfold zfx at h2;rw[hcs] at h2;dsimp only at h2;split at h2
   ·rename_i z hz;exact ⟨z,hz,h2⟩
   ·cases h2
  ·cases td with
   | int k =>
    simp only[VH] at h3;split at h3
    ·rename_i k' hu;rw[decide_eq_true_eq] at h3; subst h3; exact hu
    ·cases h3
   | bool=>simp only[VH] at h3; split at h3<;>first | assumption | cases h3
   | str=>simp only[VH] at h3; split at h3<;>first | assumption | cases h3
   | cx=>simp only[VH] at h3; split at h3<;>first | assumption | cases h3
   | fl=>simp only[VH] at h3; split at h3<;>first | assumption | cases h3
   | fa e k n =>
    simp only[VH] at h3;split at h3
    ·rename_i n' e' i' hu he;simp only[aw] at h3;obtain⟨⟨a1,a2⟩,a3⟩:=h3;have a1:=am a1;have a2:=am a2;subst a1; subst a2;exact ⟨hu,i',he,am a3⟩
    ·cases h3
   | fn =>
    simp only[VH] at h3;split at h3
    ·rename_i a b c hu; exact ⟨a,b,c,hu⟩
    ·cases h3
   | sl e ts bytes =>
    simp only[VH] at h3;split at h3
    ·rename_i e' i' hu he;split at h3
     ·rename_i z hz;simp only[aw] at h3;obtain⟨⟨⟨⟨⟨a1,a2⟩,a3⟩,a4⟩,a5⟩,a6⟩:=h3;have a1:=am a1;subst a1;exact ⟨hu,i',z,he,am a2,am a3,hz,am a5,a6,bA a4⟩
     ·cases h3
    ·cases h3
   | st fs n =>
    simp only[VH] at h3;split at h3
    ·rename_i fields hu;simp only[aw,decide_eq_true_eq,aF,bZ] at h3;obtain⟨⟨⟨a1,a2⟩,a3⟩,a4⟩:=h3;refine ⟨fields,hu,a1,fun f hf => ?_,a3,a4⟩;obtain⟨b1,b2⟩:=a2 f hf;refine ⟨by simpa using b1,?_⟩
     split at b2
     ·rename_i i' hi';exact ⟨i',hi',fun e=>by rw[e] at b2; simp at b2⟩
     ·cases b2
    ·cases h3
   | arr e ts n =>
    simp only[VH] at h3;split at h3
    ·rename_i n' e' i' it hu he ht;split at h3
     ·rename_i z hz;simp only[aw,aF] at h3;obtain⟨⟨⟨⟨a1,a2⟩,a3⟩,a4⟩,a5⟩:=h3;have a1:=am a1;have a2:=am a2;subst a1; subst a2;exact ⟨hu,⟨i',he,am a3⟩,it,z,ht,hz,am a4,fun j hj=>a5 j (b9.2 hj)⟩
     ·cases h3
    ·cases h3
 ·cases h
theorem RP {P:Program} {l:List (Nat×TD)} (h:(l.all fun p=>tdB P (Ts l) p.1 p.2)=true):uW P (Ts l) :=
 zc fun p hp=>by
  rw[aF] at h;exact zew (h p hp)
end Go.Abs
namespace Go.Abs
open Go.ChangeShapes Go.WideShapes Go.ChangeAt Go.RowKit Go.WideElems
section
def zgd {α:Type} (p:α->Prop) (xs:List α):Prop:=∀ x,x∈xs->p x
mutual
def zcA:(t:Ty)->El t->Prop
 | .int k,n=>(Lit.int k n).wf=true
 | .bool,_=>True
 | .str,s=>aa s<=maxLen
 | .cx,_=>True
 | .fl,_=>True
 | .ar _ _,_=>True
 | .sl ts,xs=>aa xs<=maxLen∧zgd (Oi ts) xs
 | .ns ts,o=>∀ xs,(o:Option (List (Tup ts)))=some xs->aa xs<=maxLen∧zgd (Oi ts) xs
def Oi:(ts:Tys)->Tup ts->Prop
 | .one t,x=>zcA t x
 | .cons t ts,x=>zcA t x.1∧Oi ts x.2
end
mutual
def wt:(t:Ty)->El t->Nat
 | .int _,_=>1
 | .bool,_=>1
 | .str,s=>aa s+1
 | .cx,_=>1
 | .fl,_=>1
 | .ar _ _,_=>1
 | .sl ts,xs=>(cD (wtT ts) (xs:List (Tup ts))).sum+1
 | .ns ts,o=>match (o:Option (List (Tup ts))) with
  | none=>1
  | some xs=>(cD (wtT ts) xs).sum+1
def wtT:(ts:Tys)->Tup ts->Nat
 | .one t,x=>wt t x
 | .cons t ts,x=>wt t x.1+wtT ts x.2
end
def IH:(hs:List Ty)->ko hs->Prop
 | [],_=>True
 | [t],x=>zcA t x
 | t::u::hs,x=>zcA t x.1∧IH (u::hs) x.2
def wtL:(hs:List Ty)->ko hs->Nat
 | [],_=>0
 | [t],x=>wt t x
 | t::u::hs,x=>wt t x.1+wtL (u::hs) x.2
def Uj:Tys->List Ty
 | .one t=>[t]
 | .cons t ts=>t::Uj ts
theorem AG:(ts:Tys)->(Uj ts).length=ts.size
 | .one _=>rfl
 | .cons _ ts=>by show (Uj ts).length+1=ts.size+1; rw[AG ts]
def Leaf (c:Mem) (A:Reg):List Ty->List AV->List Value->Nat->Prop
 | [],M,vs,_=>M=[]∧vs=[]
 | t::ts,M,vs,b=>∃(x:El t) (M':List AV) (v:Value) (vs':List Value) (b1 b2:Nat),M = .val 1 t x::M'∧vs=v::vs'∧RE c A t x v∧zcA t x∧wt t x<=b1∧Leaf c A ts M' vs' b2∧b1+b2<=b
theorem Leaf.len {c:Mem} {A:Reg}:{hs:List Ty}->{M:List AV}->{vs:List Value}->{b:Nat}->Leaf c A hs M vs b->M.length=hs.length∧vs.length=hs.length
 | [],_,_,_,h=>by obtain⟨rfl,rfl⟩:=h; exact ⟨rfl,rfl⟩
 | t::ts,_,_,_,h=>by
  obtain⟨x,M',v,vs',b1,b2,rfl,rfl,_,_,_,h,_⟩:=h;have:=h.len;simp [this.1,this.2]
theorem Leaf.mono {c:Mem} {A:Reg} {hs:List Ty} {M:List AV} {vs:List Value} {b b':Nat} (h:Leaf c A hs M vs b) (hb:b<=b'):Leaf c A hs M vs b':=by
 cases hs with
 | nil=>exact h
 | cons t ts =>
  obtain⟨x,M',v,vs',b1,b2,h1,h2,h3,h4,h5,h6,h7⟩:=h;exact ⟨x,M',v,vs',b1,b2,h1,h2,h3,h4,h5,h6,aK h7 hb⟩
theorem Leaf.append {c:Mem} {A:Reg}:{hs:List Ty}->{M:List AV}->{vs:List Value}->{b:Nat}->{gs:List Ty}->{N:List AV}->{us:List Value}->{d:Nat}->Leaf c A hs M vs b->Leaf c A gs N us d->Leaf c A (hs++gs) (M++N) (vs++us) (b+d)
 | [],_,_,b,_,_,_,d,h,h'=>by obtain⟨rfl,rfl⟩:=h; exact h'.mono (Nat.le_add_left _ _)
 | t::ts,_,_,b,_,_,_,d,h,h'=>by
  obtain⟨x,M',v,vs',b1,b2,rfl,rfl,h3,h4,h5,h6,h7⟩:=h;exact ⟨x,_,v,_,b1,b2+d,rfl,rfl,h3,h4,h5,h6.append h',by omega⟩
theorem Leaf.one {c:Mem} {A:Reg} {t:Ty} {x:El t} {v:Value} {b:Nat} (h1:RE c A t x v) (h2:zcA t x) (h3:wt t x<=b):Leaf c A [t] [.val 1 t x] [v] b :=
 ⟨x,[],v,[],b,0,rfl,rfl,h1,h2,h3,⟨rfl,rfl⟩,aE _⟩
theorem Leaf.tup {c:Mem} {A:Reg}:(ts:Tys)->{M:List AV}->{vs:List Value}->{b:Nat}->Leaf c A (Uj ts) M vs b->∃ x:Tup ts,Oi ts x∧wtT ts x<=b ∧
  ∀ blk off,(∀(j:Nat) v,vs[j]? = some v->A blk (off+j)∧c blk (off+j)=some v)->RC c A A ts x blk off
 | .one t,_,_,b,h=>by
  obtain⟨x,M',v,vs',b1,b2,rfl,rfl,h3,h4,h5,h6,h7⟩:=h;refine ⟨x,h4,by show wt t x<=b; omega,fun blk off hv => ?_⟩
  have:=hv 0 v rfl;exact ⟨this.1,v,this.2,h3⟩
 | .cons t ts,_,_,b,h=>by
  obtain⟨x,M',v,vs',b1,b2,rfl,rfl,h3,h4,h5,h6,h7⟩:=h;obtain⟨y,hy1,hy2,hy3⟩:=Leaf.tup ts h6;refine ⟨(x,y),⟨h4,hy1⟩,by show wt t x+wtT ts y<=b; omega,fun blk off hv=>⟨?_,hy3 blk (off+1) fun j u hu => ?_⟩⟩
  ·have:=hv 0 v rfl;exact ⟨this.1,v,this.2,h3⟩
  ·have:=hv (j+1) u hu;rwa [show off+(j+1)=off+1+j from by omega] at this
theorem Leaf.tupL {c:Mem} {A:Reg}:{hs:List Ty}->{M:List AV}->{vs:List Value}->{b:Nat}->Leaf c A hs M vs b->∃ x:ko hs,IH hs x∧wtL hs x<=b∧mkL (zhi hs.length) hs x=M
 | [],_,_,b,h=>by obtain⟨rfl,rfl⟩:=h; exact ⟨(),trivial,b6 _,rfl⟩
 | [t],_,_,b,h=>by
  obtain⟨x,M',v,vs',b1,b2,rfl,rfl,h3,h4,h5,⟨rfl,rfl⟩,h7⟩:=h;exact ⟨x,h4,by show wt t x<=b; omega,rfl⟩
 | t::u::hs,_,_,b,h=>by
  obtain⟨x,M',v,vs',b1,b2,rfl,rfl,h3,h4,h5,h6,h7⟩:=h;obtain⟨y,hy1,hy2,hy3⟩:=h6.tupL;exact ⟨(x,y),⟨h4,hy1⟩,by show wt t x+wtL (u::hs) y<=b; omega,by rw[← hy3]; rfl⟩
structure Bulk {H:Type} (B:DataW H->Nat) (Bs:List (DataW H)->Nat):Prop where
 str:∀ l,B (.lit (.string l))=l.length+1
 one:∀ d,1<=B d
 sl:∀ e s,Bs e+1<=B (.slice e s)
 agg:∀ l,Bs l<=B (.agg l)
 nil:Bs []=0
 cons:∀ d l,Bs (d::l)=B d+Bs l
def lvF (f:TypeId->Option (List Ty)):List (TypeId×Nat)->Nat->Option (List Ty)
 | [],_=>some []
 | (t,o)::fs,k=>cond (ay o k) ((f t).bind fun l=>(lvF f fs (k+l.length)).bind fun l'=>some (l++l')) none
def lv (tb:Tb):Nat->TypeId->Option (List Ty)
 | 0,_=>none
 | n+1,t=>match tb t with
  | some (.int k)=>some [.int k]
  | some .bool=>some [.bool]
  | some .str=>some [.str]
  | some (.sl e ts _)=>(lv tb n e).bind fun l=>cond (decide (l=Uj ts)) (some [.sl ts]) none
  | some (.st fs m)=>(lvF (lv tb n) fs 0).bind fun l=>cond (ay l.length m) (some l) none
  | _=>none
theorem Gf {tb:Tb} {n:Nat} {t:TypeId} {hs:List Ty} (h:lv tb n t=some hs):∃ td,tb t=some td∧hs.length=td.size:=by
 cases n with
 | zero=>cases h
 | succ n =>
  unfold lv at h;split at h
  ·injection h with h; subst h; exact ⟨_,by assumption,rfl⟩
  ·injection h with h; subst h; exact ⟨_,by assumption,rfl⟩
  ·injection h with h; subst h; exact ⟨_,by assumption,rfl⟩
  ·rename_i e ts _ he;cases hl:lv tb n e with
   | none=>rw[hl] at h; cases h
   | some l =>
    rw[hl] at h;simp only[af] at h;cases hd:decide (l=Uj ts) with
    | false=>rw[hd] at h; cases h
    | true=>rw[hd] at h; injection h with h; subst h; exact ⟨_,he,rfl⟩
  ·rename_i fs m he;cases hl:lvF (lv tb n) fs 0 with
   | none=>rw[hl] at h; cases h
   | some l =>
    rw[hl] at h;simp only[af] at h;cases hd:ay l.length m with
    | false=>rw[hd] at h; cases h
    | true=>rw[hd] at h; injection h with h; subst h; exact ⟨_,he,am hd⟩
  ·cases h
theorem jc {P:Program} {tb:Tb} (hT:uW P tb) {t:TypeId} {td:TD} (h:tb t=some td):P.cellsOf t=td.size:=by
 obtain⟨⟨i,hi,hs,_⟩,_⟩:=hT t td h;unfold ib;rw[hi];exact hs
def tL (w:World):Reg:=fun b o=>(mem w b o).isSome
theorem Dt {w:World} {a:Addr} {n:Nat} {vs:List Value} (h:w.cells? 0 a n=some vs):vs.length=n∧∀(j:Nat) v,vs[j]? = some v->w.cell? (a.add j)=some v:=by
 unfold World.cells? at h;rw[if_pos (b6 _)] at h;have hl:=mapM_some_length h;rw[List.length_range] at hl;refine ⟨hl,fun j v hj => ?_⟩;have hjn:j<n:=by
  have:=(aq.1 hj).1;omega
 have:=mapM_some_get h j j (by simp [hjn])
 rw[this,hj]
theorem BL {α:Type} {n:Nat} {Q:Nat->α->Prop} (h:∀ i,i<n->∃ x,Q i x):∃ xs:List α,xs.length=n∧∀(i:Nat) (x:α),xs[i]? = some x->Q i x:=by
 induction n with
 | zero=>exact ⟨[],rfl,fun i x h=>by simp at h⟩
 | succ n ih =>
  obtain⟨xs,hl,hx⟩:=ih fun i hi=>h i (by omega)
  obtain⟨y,hy⟩:=h n (by omega)
  refine ⟨xs++[y],by simp [hl],fun i x hi => ?_⟩
  rw[List.getElem?_append] at hi;split at hi
  ·exact hx i x hi
  ·rename_i hlt;have:i=n:=by
    have:=(aq.1 hi).1;simp at this;omega
   subst this;simp [hl] at hi;exact hi▸hy
theorem Bulk.elems {H:Type} {B:DataW H->Nat} {Bs:List (DataW H)->Nat} (hB:Bulk B Bs) {α:Type} (wf:α->Nat):(xs:List α)->(ys:List (DataW H×List MemPlace))->xs.length=ys.length ->
  (∀(i:Nat) x y,xs[i]? = some x->ys[i]? = some y->wf x<=B y.1)->(xs.map wf).sum<=Bs (ys.map (·.1))
 | [],[],_,_=>by simp [hB.nil]
 | [],_::_,h,_=>by simp at h
 | _::_,[],h,_=>by simp at h
 | x::xs,y::ys,hl,h=>by
  have h0:=h 0 x y rfl rfl;have hs:=hB.elems wf xs ys (by simpa using hl) fun i a b ha hb=>h (i+1) a b ha hb
  simp only[aJ,List.sum_cons,hB.cons];omega
variable {H:Type} {enc:TypeId×Value->H} {P:Program} {tb:Tb} {w:World} {sp:Nat->Bool} {held:Bool}
theorem V5 {B:DataW H->Nat} {Bs:List (DataW H)->Nat} (hB:Bulk B Bs) (hT:uW P tb) {n m:Nat}
  (ih:∀ t hs cs y,lv tb n t=some hs->dK enc P w 0 sp held m t cs=some y->∃ M,Leaf (mem w) (tL w) hs M cs (B y.1)) {cs:List Value} :
  (fs:List Field)->{k:Nat}->{l:List Ty}->{xs:List (DataW H×List MemPlace)}->lvF (lv tb n) (fs.map fun f=>(f.type,f.offset)) k=some l->xs.length=fs.length ->
   (∀(i:Nat) f,fs[i]? = some f->dK enc P w 0 sp held m f.type ((cs.drop f.offset).take (P.cellsOf f.type))=xs[i]?)->cs.length=k+l.length->∃ M,Leaf (mem w) (tL w) l M (cs.drop k) (Bs (xs.map (·.1)))
 | [],k,l,xs,hl,hx,h,hc=>by
  injection hl with hl; subst hl;refine ⟨[],rfl,?_⟩;rw[cK];simp only[bb] at hc;omega
 | f::fs,k,l,[],hl,hx,h,hc=>by simp at hx
 | f::fs,k,l,y::xs,hl,hx,h,hc=>by
  simp only[aJ,lvF] at hl;cases ho:ay f.offset k with
  | false=>rw[ho] at hl; cases hl
  | true =>
   rw[ho,cond_true] at hl;have ho:=am ho;cases h1:lv tb n f.type with
   | none=>rw[h1] at hl; cases hl
   | some l1 =>
    rw[h1] at hl;simp only[af] at hl;cases h2:lvF (lv tb n) (fs.map fun f=>(f.type,f.offset)) (k+l1.length) with
    | none=>rw[h2] at hl; cases hl
    | some l2 =>
     rw[h2] at hl;injection hl with hl; subst hl;obtain⟨td,htd,hsz⟩:=Gf h1;have hco:P.cellsOf f.type=l1.length:=by rw[jc hT htd,hsz]
     have hf:=h 0 f rfl;rw[hco,ho] at hf;obtain⟨M1,hM1⟩:=ih _ _ _ _ h1 (hf.trans rfl);rw[ax] at hc;obtain⟨M2,hM2⟩:=V5 hB hT ih fs (k:=k+l1.length) (l:=l2) (xs:=xs) h2 (by simpa using hx) (fun i g hg=>h (i+1) g hg) (by omega)
     refine ⟨M1++M2,?_⟩;have:=hM1.append hM2;rw[aJ,hB.cons];rwa [← cm,bR] at this
theorem Og {B:DataW H->Nat} {Bs:List (DataW H)->Nat} (hB:Bulk B Bs) (hT:uW P tb):∀ m n t hs cs y,lv tb n t=some hs->dK enc P w 0 sp held m t cs=some y->∃ M,Leaf (mem w) (tL w) hs M cs (B y.1):=by
 intro m
 induction m with
 | zero=>intro n t hs cs y _ h; simp [dK] at h
 | succ m ih =>
  intro n t hs cs y hl h;cases n with
  | zero=>cases hl
  | succ n =>
   unfold lv at hl;split at hl
   ·rename_i k ht;injection hl with hl; subst hl;obtain⟨z,rfl,rfl,hw⟩:=gA (hT _ _ ht).2 h;exact ⟨_,Leaf.one (t:=.int k) (x:=z) rfl hw (hB.one _)⟩
   ·rename_i ht;injection hl with hl; subst hl;obtain⟨z,rfl,rfl⟩:=gh (hT _ _ ht).2 h;exact ⟨_,Leaf.one (t:=.bool) (x:=z) rfl trivial (hB.one _)⟩
   ·rename_i ht;injection hl with hl; subst hl;obtain⟨z,rfl,rfl,hz⟩:=fR (hT _ _ ht).2 h;refine ⟨_,Leaf.one (t:=.str) (x:=z.data.toList) rfl ?_ ?_⟩
    ·show z.data.toList.length<=maxLen;rw[aL]; exact hz
    ·show z.data.toList.length+1<=B (.lit (.string z.data.toList));rw[hB.str]; exact aE _
   ·rename_i e ts bytes ht;cases he:lv tb n e with
    | none=>rw[he] at hl; cases hl
    | some l =>
     rw[he] at hl;simp only[af] at hl;cases hd:decide (l=Uj ts) with
     | false=>rw[hd] at hl; cases hl
     | true =>
      rw[hd] at hl;injection hl with hl; subst hl;rw[decide_eq_true_eq] at hd; subst hd;have htd:=(hT _ _ ht).2;obtain⟨td,hte,hsz⟩:=Gf he;rw[AG] at hsz;have hco:P.cellsOf e=ts.size:=by rw[jc hT hte,hsz]
      rcases fY htd.1 h with ⟨rfl,rfl⟩ | ⟨a,len,cap,elems,rest,m',hm',rfl,rfl,_,hlc,hcm,hel,hels,_,_⟩
      ·exact ⟨_,Leaf.one (t:=.sl ts) (x:=([]:List (Tup ts))) ⟨none,0,rfl,⟨⟨aE _,b6 _⟩,fun _=>rfl⟩,.inl rfl⟩ ⟨b6 _,fun x hx=>by cases hx⟩ (hB.one _)⟩
      ·injection hm' with hm'; subst hm';have hpos:0<ts.size:=by cases ts<;>simp [Tys.size]
       have hspot:0<len->a.spot=none:=fun h0=>by
        have h1:=hels 0 h0;rw[hco] at h1;cases hc:w.cells? 0 (a.add (0*ts.size)) ts.size with
        | none =>
         rw[hc] at h1;have:elems[0]? = none:=h1.symm;rw[dR] at this;omega
        | some vs =>
         obtain⟨hvl,hv⟩:=Dt hc;have:=hv 0 vs[0] (al (by omega))
         rw[Nat.zero_mul] at this;exact World.cell?_spot (w:=w) (a:=a) this
       obtain⟨xs,hxl,hxs⟩:=BL (α:=Tup ts) (n:=len) (Q:=fun i x=>∃ y,elems[i]? = some y∧Oi ts x∧wtT ts x<=B y.1∧a.spot=none∧RC (mem w) (tL w) (tL w) ts x a.block (a.off+i*ts.size)) (by
        intro i hi;have h1:=hels i hi;rw[hco] at h1;cases hc:w.cells? 0 (a.add (i*ts.size)) ts.size with
        | none =>
         rw[hc] at h1;have:elems[i]? = none:=h1.symm;rw[dR] at this;omega
        | some vs =>
         rw[hc] at h1;simp only[af] at h1;have hlt:i<elems.length:=by omega
         rw[al hlt] at h1;obtain⟨M,hM⟩:=ih n e _ vs _ he h1;obtain⟨x,hx1,hx2,hx3⟩:=hM.tup ts;obtain⟨hvl,hv⟩:=Dt hc;have hspot:=hspot (by omega)
         refine ⟨x,_,al hlt,hx1,hx2,hspot,hx3 _ _ fun j v hj => ?_⟩;have:=hv j v hj;have he:(a.add (i*ts.size)).add j=⟨a.block,a.off+i*ts.size+j,none⟩:=by
          obtain⟨ab,ao,as⟩:=a;simp only at hspot;subst hspot;rw[add_plain,add_plain]
         rw[he] at this;have h2:mem w a.block (a.off+i*ts.size+j)=some v:=this;exact ⟨by unfold tL; rw[h2]; rfl,h2⟩)
       refine ⟨_,Leaf.one (t:=.sl ts) (x:=xs) ⟨some a,cap,by rw[hxl],⟨by rw[hxl]; exact ⟨hlc,hcm⟩,fun e=>by cases e⟩,?_⟩ ⟨by rw[hxl]; omega,?_⟩ ?_⟩
       ·cases xs with
        | nil=>exact .inl rfl
        | cons x0 xr =>
         refine .inr ⟨a.block,a.off,?_,fun i x hx => ?_⟩
         ·obtain⟨_,_,_,_,hs,_⟩:=hxs 0 x0 rfl;cases a; simp at hs; subst hs; rfl
         ·obtain⟨_,_,_,_,_,hr⟩:=hxs i x hx;exact hr
       ·intro x hx;obtain⟨i,hi,hix⟩:=List.mem_iff_getElem.1 hx;obtain⟨_,_,hf,_⟩:=hxs i x (by rw[al hi,hix])
        exact hf
       ·have:=hB.elems (wtT ts) xs elems (by rw[hxl,hel]) fun i x y hx hy=>by
         obtain⟨y',hy',_,hw,_⟩:=hxs i x hx;rw[hy] at hy'; injection hy' with hy'; subst hy';exact hw
        have h2:=hB.sl (elems.map (·.1)) (rest.map (·.1));show (xs.map (wtT ts)).sum+1<=B (.slice _ _);omega
   ·rename_i fs k ht;cases hf:lvF (lv tb n) fs 0 with
    | none=>rw[hf] at hl; cases hl
    | some l =>
     rw[hf] at hl;simp only[af] at hl;cases hd:ay l.length k with
     | false=>rw[hd] at hl; cases hl
     | true =>
      rw[hd] at hl;injection hl with hl; subst hl;have hk:=am hd;obtain⟨fields,hu,hfs,_⟩:=(hT _ _ ht).2;obtain⟨xs,m',hm',rfl,hcl,hxl,hxs⟩:=fS hu h;injection hm' with hm'; subst hm';rw[← hfs] at hf;obtain⟨M,hM⟩:=V5 hB hT (fun t hs cs y hlv=>ih n t hs cs y hlv) fields.toList (k:=0) (xs:=xs) hf (by rw[hxl,aL]) (fun i f hi=>hxs i f (by simpa using hi)) (by rw[hcl,jc hT ht]; show k=_; omega)
      exact ⟨M,(by simpa using hM.mono (hB.agg _))⟩
   ·cases hl
end
section
variable {H:Type} {enc:TypeId×Value->H} {P:Program} {tb:Tb} {w:World} {sp:Nat->Bool} {held:Bool}
def zh6:Option TD->Bool
 | some (.st _ _)=>true
 | _=>false
def pv (tb:Tb) (n:Nat):List TypeId->Option (List TV×List Ty)
 | []=>some ([],[])
 | t::ts=>(lv tb n t).bind fun l=>(pv tb n ts).bind fun r=>some (cond (zh6 (tb t)) (.agg (az l.length .hole)) .hole::r.1,l++r.2)
theorem Ef (nm:Nat->Nat) (M N:List AV):tM nm (az M.length .hole) (M++N)=(M,N):=by
 induction M with
 | nil=>rfl
 | cons m M ih =>
  show ((mkV nm .hole (m::(M++N))).1::(tM nm (az M.length .hole) (M++N)).1,(tM nm (az M.length .hole) (M++N)).2)=_;rw[ih]; rfl
theorem Leaf.rl {c:Mem} {g:Gh} {Hb:Nat->Blk} {U:Nat->Prop}:{hs:List Ty}->{M:List AV}->{vs:List Value}->{b:Nat}->Leaf c (g.S 1) hs M vs b->RL c g Hb U M vs
 | [],_,_,_,h=>by obtain⟨rfl,rfl⟩:=h; rfl
 | t::ts,_,_,_,h=>by
  obtain⟨x,M',v,vs',b1,b2,rfl,rfl,h3,h4,h5,h6,h7⟩:=h;exact ⟨v,vs',rfl,RVal.of h3,h6.rl⟩
theorem Leaf.rf {c:Mem} {g:Gh} {Hb:Nat->Blk} {U:Nat->Prop}:{hs:List Ty}->{M:List AV}->{vs:List Value}->{b:Nat}->Leaf c (g.S 1) hs M vs b->RF c g Hb U M vs
 | [],_,_,_,h=>by obtain⟨rfl,rfl⟩:=h; rfl
 | t::ts,_,_,_,h=>by
  obtain⟨x,M',v,vs',b1,b2,rfl,rfl,h3,h4,h5,h6,h7⟩:=h;exact ⟨v,[v],vs',rfl,RVal.of h3,by rw[RE.notAr h3 1]; rfl,h6.rf⟩
theorem Iz {n:Nat} {t:TypeId} {td:TD} {l:List Ty} (htd:tb t=some td) (h:lv tb n t=some l) (h1:∀ k,td ≠ .int k) (h2:td ≠ .bool) (h3:td ≠ .str) (h4:∀ a b c,td ≠ .sl a b c) (h5:∀ a b,td ≠ .st a b):False:=by
 cases n with
 | zero=>cases h
 | succ n =>
  unfold lv at h;split at h
  ·rename_i k e; rw[htd] at e; injection e with e; exact h1 _ e
  ·rename_i e; rw[htd] at e; injection e with e; exact h2 e
  ·rename_i e; rw[htd] at e; injection e with e; exact h3 e
  ·rename_i e; rw[htd] at e; injection e with e; exact h4 _ _ _ e
  ·rename_i e; rw[htd] at e; injection e with e; exact h5 _ _ e
  ·cases h
theorem WU {c:Mem} {g:Gh} {Hb:Nat->Blk} {U:Nat->Prop} {nm:Nat->Nat} {M1 M2:List AV} {v:Value} {us:List Value} {k:Nat} (hv:us=[v]) (hrl:RL c g Hb U M1 us) (hlen:M1.length=k∧us.length=k) :
  ∃ a:AV,mkV nm .hole (M1++M2)=(a,M2)∧RAV c g Hb U a v:=by
 subst hv;have hl1:M1.length=1:=by rw[hlen.1,← hlen.2]; rfl
 match M1,hl1,hrl with
 | [a],_,hrl =>
  obtain⟨v',us,e,ha,_⟩:=hrl;injection e with e1 e2;subst e1;exact ⟨a,rfl,ha⟩
theorem Vf {B:DataW H->Nat} {Bs:List (DataW H)->Nat} (hB:Bulk B Bs) (hT:uW P tb) {n:Nat} {r:Reach} {base:Nat} {g:Gh} (hg:g.S 1=tL w) {Hb:Nat->Blk} {U:Nat->Prop} (nm:Nat->Nat) :
  (ts:List TypeId)->{vs:List Value}->{ds:List (DataW H)}->{ps:List MemPlace}->{slots:List TV}->{hs:List Ty}->pv tb n ts=some (slots,hs)->dF enc P w 0 sp held ts vs ds ps ->
   (∀(j:Nat) t v,ts[j]? = some t->vs[j]? = some v->fh P w r base t v) ->
   ∃ M us,Leaf (mem w) (tL w) hs M us (Bs ds)∧∀ N,(tM nm slots (M++N)).2=N∧RL (mem w) g Hb U (tM nm slots (M++N)).1 vs
 | [],vs,ds,ps,slots,hs,hp,h,_=>by
  injection hp with hp; injection hp with hp1 hp2; subst hp1; subst hp2;cases vs with
  | cons _ _=>exact h.elim
  | nil=>cases ds with
   | cons _ _=>exact h.elim
   | nil=>exact ⟨[],[],⟨rfl,rfl⟩,fun N=>⟨rfl,rfl⟩⟩
 | t::ts,vs,ds,ps,slots,hs,hp,h,hok=>by
  cases vs with
  | nil=>cases ds<;>exact h.elim
  | cons v vs=>cases ds with
   | nil=>exact h.elim
   | cons d ds =>
    obtain⟨p,q,⟨m,hd⟩,hds,rfl⟩:=h;unfold pv at hp;cases h1:lv tb n t with
    | none=>rw[h1] at hp; cases hp
    | some l =>
     rw[h1] at hp;simp only[af] at hp;cases h2:pv tb n ts with
     | none=>rw[h2] at hp; cases hp
     | some rr =>
      rw[h2] at hp;injection hp with hp; injection hp with hp1 hp2; subst hp1; subst hp2;obtain⟨M1,hM1⟩:=Og hB hT m n t l _ _ h1 hd;obtain⟨M2,us2,hM2,hr2⟩:=Vf hB hT hg nm ts (slots:=rr.1) (hs:=rr.2) h2 hds fun j t v ht hv=>hok (j+1) t v ht hv;have hokv:=hok 0 t v rfl rfl;refine ⟨M1++M2,_,(by rw[hB.cons]; exact hM1.append hM2),fun N => ?_⟩
      have hlen:=hM1.len;have hrl:RL (mem w) g Hb U M1 v.cells.toList:=Leaf.rl (by rw[hg]; exact hM1)
      obtain⟨td,htd,hsz⟩:=Gf h1;rw[bc];have key:∃ a:AV,mkV nm (cond (zh6 (tb t)) (.agg (az l.length .hole)) .hole) (M1++(M2++N))=(a,M2++N)∧RAV (mem w) g Hb U a v:=by
       rw[htd];cases td with
       | st fs k =>
        obtain⟨fields,hu,_⟩:=(hT _ _ htd).2;have:∃ cs,v = .agg cs:=by
         simp only[fh,hu] at hokv;obtain⟨cs,rfl,_⟩:=hokv;exact ⟨cs,rfl⟩
        obtain⟨cs,rfl⟩:=this;refine ⟨.agg M1,?_,⟨cs,rfl,Leaf.rf (by rw[hg]; exact hM1)⟩⟩
        show (AV.agg (tM nm (az l.length .hole) (M1++(M2++N))).1,(tM nm (az l.length .hole) (M1++(M2++N))).2)=_;rw[← hlen.1,Ef]
       | int _ =>
        have hv:v.cells.toList=[v]:=by
         obtain⟨z,rfl⟩:=okWide_int (hT _ _ htd).2 hokv;rfl
        exact WU hv hrl hlen
       | bool =>
        have hv:v.cells.toList=[v]:=by
         obtain⟨z,rfl⟩:=okWide_bool (hT _ _ htd).2 hokv;rfl
        exact WU hv hrl hlen
       | str =>
        have hv:v.cells.toList=[v]:=by
         obtain⟨z,rfl⟩:=okWide_string (hT _ _ htd).2 hokv;rfl
        exact WU hv hrl hlen
       | sl _ _ _ =>
        have hv:v.cells.toList=[v]:=by
         obtain⟨a,len,cap,rfl⟩:=okWide_slice (hT _ _ htd).2.1 hokv;rfl
        exact WU hv hrl hlen
       | cx =>
        exfalso;exact Iz htd h1 (by intros; intro e; cases e) (by intro e; cases e) (by intro e; cases e) (by intros; intro e; cases e) (by intros; intro e; cases e)
       | fn =>
        exfalso;exact Iz htd h1 (by intros; intro e; cases e) (by intro e; cases e) (by intro e; cases e) (by intros; intro e; cases e) (by intros; intro e; cases e)
       | fl =>
        exfalso;exact Iz htd h1 (by intros; intro e; cases e) (by intro e; cases e) (by intro e; cases e) (by intros; intro e; cases e) (by intros; intro e; cases e)
       | fa _ _ _ =>
        exfalso;exact Iz htd h1 (by intros; intro e; cases e) (by intro e; cases e) (by intro e; cases e) (by intros; intro e; cases e) (by intros; intro e; cases e)
       | arr _ _ _ =>
        exfalso;exact Iz htd h1 (by intros; intro e; cases e) (by intro e; cases e) (by intro e; cases e) (by intros; intro e; cases e) (by intros; intro e; cases e)
      obtain⟨a,ha,hra⟩:=key;have h3:=hr2 N;refine ⟨?_,?_⟩
      ·show (tM nm rr.1 (mkV nm _ (M1++(M2++N))).2).2=N;rw[ha]; exact h3.1
      ·show RL (mem w) g Hb U ((mkV nm _ (M1++(M2++N))).1::(tM nm rr.1 (mkV nm _ (M1++(M2++N))).2).1) (v::vs);rw[ha];exact ⟨v,vs,rfl,hra,h3.2⟩
theorem Q7 (hl:laidOutB P=true) {W W':World} {sp':Nat->Bool}:(ts:List TypeId)->{vs:List Value}->{ds:List (DataW H)}->{ps:List MemPlace}->(∀ t∈ts,P.readableRec t=true∧t<P.types.size) ->
  dF enc P W 0 (fun _=>true) true ts vs ds ps->(∀ p∈ps,W.sameAt W' p)->(∀ p∈ps,sp' p.block=true)->dF enc P W' 0 sp' true ts vs ds ps
 | [],vs,ds,ps,_,h,_,_=>by
  cases vs with
  | cons _ _=>exact h.elim
  | nil=>cases ds with
   | cons _ _=>exact h.elim
   | nil=>exact h
 | t::ts,vs,ds,ps,hr,h,hsame,hs=>by
  cases vs with
  | nil=>cases ds<;>exact h.elim
  | cons v vs=>cases ds with
   | nil=>exact h.elim
   | cons d ds =>
    obtain⟨p,q,hd,hds,rfl⟩:=h;exact ⟨p,q,Trod_stays hl (hr t (by simp)).1 (hr t (by simp)).2 hd (fun x hx=>hsame x (by simp [hx])) (fun x hx=>hs x (by simp [hx])),Q7 hl ts (fun t ht=>hr t (by simp [ht])) hds (fun x hx=>hsame x (by simp [hx])) (fun x hx=>hs x (by simp [hx])),rfl⟩
def Sk (gl:Gl) (w:World):Prop:=∀ q x,gl q=some x->RC (mem w) (tL w) (tL w) x.1 x.2 q 0
theorem LK {B:DataW H->Nat} {Bs:List (DataW H)->Nat} (hB:Bulk B Bs) (hT:uW P tb) {gl:Gl} {f:FuncId} {fn:Func} {code:Code} {slots:List TV} {tg:List Nat} {hs:List Ty} {leak glob:Bool} {F:ko hs->Option Bool}
  (h:ShOk P gl f ⟨⟨slots,[],tg,hs⟩,⟨[.hole],[],[2],[.bool]⟩,1,[],[],leak,glob,F⟩) (htg:Qb tg 1 hs.length=zhi hs.length) (hfn:P.funcs[f]? = some fn) (hnm:(fn.name == "runtime.NumGoroutine")=false) (hbody:fn.body=some code) {n:Nat} (hp:pv tb n fn.params.toList=some (slots,hs))
  {W:World} {base:Nat} {r:Reach} {args:Array Value} {ds:List (DataW H)} {ps:List MemPlace} (hG:Sk gl W) (hW:dF enc P W 0 sp held fn.params.toList args.toList ds ps)
  (hok:∀(j:Nat) t v,fn.params[j]? = some t->args[j]? = some v->fh P W r base t v) (hF:∀ x,IH hs x->wtL hs x<=Bs ds->F x=some true) :
  Calls P f args W fun e W'=>e = .returned (.bool true)∧Below W.heap.size W W':=by
 let g:Gh:={ S:=fun q b o=>(q=0∨q=1)∧tL W b o,loc:=fun _=>none }
 have hg:g.S 1=tL W:=by funext b o; exact propext ⟨fun h=>h.2,fun h=>⟨.inr rfl,h⟩⟩
 have hd:∀ n0,mkH n0 ([]:List Blk)=fun _=>.dead:=fun n0=>by
  funext b
  unfold mkH;cases bQ n0 b<;>rfl
 obtain⟨M,us,hM,hrl⟩:=Vf hB hT hg (Hb:=fun _=>.dead) (U:=upto 8 0) (fun j=>8+j) _ hp hW (fun j t v ht hv=>hok j t v (by simpa using ht) (by simpa using hv))
 obtain⟨x,hx1,hx2,hx3⟩:=hM.tupL;have hrl:=(hrl []).2;rw[cp,← hx3] at hrl;have hlent:∀ r,¬ lent g (mkH 8 ([]:List Blk)) (mkZ 8 []) r:=fun r hl=>by
  obtain⟨b,hb,_⟩:=hl;rw[hd] at hb;exact hb rfl
 have hdoes:=h.does W (tL W) (fun _ _=>False) (fun b=>W.heap.size<=b) (fun _ h=>h) g args x true (fun _=>⟨fun _ _ h=>h,fun _ h=>.inl h⟩) (fun r hr=>absurd hr (hlent r)) (G4 (fun _ _ h=>h)).symm ?_ ?_ (hF x hx1 hx2)
 ·unfold Does at hdoes;rw[kq hfn hnm hbody] at hdoes;refine Calls.mono hdoes ?_;rintro e W' ⟨v,rfl,hv⟩;obtain⟨g',us',hm',hr',hv',_⟩:=hv 0;obtain⟨u1,us2,e1,hu,_⟩:=hr';have hu:u1 = .bool true:=hu;subst hu;subst e1;subst hv';exact ⟨rfl,hm'.os,hm'.tape,hm'.output,hm'.size,fun k hk=>hm'.keep k ⟨hk,hlent k⟩⟩
 ·have hdead:∀ b,mkH 8 ([]:List Blk) b = .dead:=fun b=>by rw[hd]
  exact { blk:=fun b=>by show RBlk W g (mkH 8 []) _ b (mkH 8 [] b); rw[hdead]; trivial,used:=fun b hb=>absurd (hdead b) hb,inj:=fun b b' r hb=>absurd (hdead b) hb,acc:=fun q b o hs=>hs.2,sep:=fun q r o b hs hb=>absurd (hdead b) hb,up0:=fun q b o hs=>⟨.inl rfl,hs.2⟩,up2:=fun q b o hq hs=>(by rcases hs.1 with h | h<;>omega),dn:=fun b o hs=>.inl hs.2,fr:=fun b o hs=>(by rcases hs.1 with h | h<;>omega),nf:=fun b o hs hB=>(by
  rcases hB with hB | hB
  ·exact absurd (Abs.mem_lt hs.2) (gz.2 hB)
  ·exact absurd hB (hlent b)),keep:=fun k hk=>rfl,mine:=fun b r hb=>absurd (hdead b) hb,own:=fun b r hb=>absurd (hdead b) hb,os:=rfl,tape:=rfl,output:=rfl,size:=aE _,bnd:=aE _,glob:=fun q z hz=>(by
       have hz':gl q=some z:=by
        cases glob with
        | true=>exact hz
        | false=>cases hz
       have:=hG q z hz'
       rw[hg]; exact this),grow:=fun r j hj=>hj }
 ·show RL (mem W) g (mkH 8 []) (upto 8 0) ((tM (fun j=>8+j) slots (mkL (Qb tg 1 hs.length) hs x)).1) args.toList;rw[hd,htg];exact hrl
theorem zbm {B:DataW H->Nat} {Bs:List (DataW H)->Nat} (hB:Bulk B Bs) (hT:uW P tb) {gl:Gl} {f:FuncId} {fn:Func} {code:Code} {slots:List TV} {tg:List Nat} {hs:List Ty} {leak glob:Bool} {F:ko hs->Option Bool}
  (h:ShOk P gl f ⟨⟨slots,[],tg,hs⟩,⟨[.hole],[],[2],[.bool]⟩,1,[],[],leak,glob,F⟩) (htg:Qb tg 1 hs.length=zhi hs.length) (hfn:P.funcs[f]? = some fn) (hnm:(fn.name == "runtime.NumGoroutine")=false) (hbody:fn.body=some code) {n:Nat} (hp:pv tb n fn.params.toList=some (slots,hs))
  (hlaid:laidOutB P=true) (hread:(fn.params.toList.all fun t=>P.readableRec t&&decide (t<P.types.size))=true) {tr:TypeId} (hres:fn.resultTypes = #[tr]) (hbool:P.underlying tr=some .bool)
  {s:ChangeSpec} (hvars:s.vars=[]) (hspec:∀ ds:List (DataW H),ds.length=fn.params.size->(s.fn H ds).results=[.lit (.bool true)]∧(s.fn H ds).args=ds∧(s.fn H ds).vars=[])
  {W:World} {base:Nat} {r:Reach} {args:Array Value} {ds gs:List (DataW H)} {before:List MemPlace} (hG:Sk gl W) (hW:DataW.Whole enc P fn.params.toList s.vars false W args.toList ds gs before)
  (hok:∀(j:Nat) t v,fn.params[j]? = some t->args[j]? = some v->fh P W r base t v) (hF:∀ x,IH hs x->wtL hs x<=Bs ds->F x=some true) :
  Calls P f args W fun e W'=>∃ v,e = .returned v∧s.post enc P fn false true false false W args v W':=by
 have hW':=hW;obtain⟨p,q,hA,hV,rfl,hfz,hnd⟩:=hW;rw[hvars] at hV;obtain⟨rfl,rfl⟩:=trodVars_none hV;refine (LK hB hT h htg hfn hnm hbody hp hG hA hok hF).mono fun e W' ⟨he,hb⟩ => ?_;subst he;have hlen:∀{ts:List TypeId} {vs:List Value} {ds:List (DataW H)} {ps:List MemPlace},dF enc P W 0 (fun _=>true) true ts vs ds ps->ds.length=ts.length:=by
  intro ts
  induction ts with
  | nil=>intro vs ds ps h; cases vs<;>cases ds<;>first | rfl | exact h.elim
  | cons t ts ih =>
   intro vs ds ps h;cases vs<;>cases ds<;>first | exact h.elim | skip
   obtain⟨p,q,_,h,_⟩:=h;simp [ih h]
 have hsp:=hspec ds (by rw[hlen hA,aL])
 have hlt:∀ x∈p++[],x.block<W.heap.size:=fun x hx=>hW'.lt x hx;rw[aF] at hread;have hargs:∀ sp:Nat->Bool,(∀ x∈p++[],sp x.block=true)->dF enc P W' 0 sp true fn.params.toList args.toList (s.fn H (ds++[])).args p:=by
  intro sp hs;rw[cp,hsp.2.1];exact Q7 hlaid _ (fun t ht=>by have:=hread t ht; rw[aw,decide_eq_true_eq] at this; exact this) hA (fun x hx=>hb.same (hlt x (by simpa using hx))) (fun x hx=>hs x (by simpa using hx))
 have hresults:∀(b:Nat) (sp:Nat->Bool) (hd:Bool),dF enc P W' b sp hd fn.resultTypes.toList ((Value.bool true).resultList fn.resultTypes.size) (s.fn H (ds++[])).results []:=by
  intro b sp hd;rw[cp,hsp.1,hres];exact trodAll_mk1 (shut_bool hbool true)
 have hvars':∀ sp:Nat->Bool,DataW.TrodVars enc P W' sp s.vars (s.fn H (ds++[])).vars []:=by
  intro sp;rw[cp,hsp.2.2,hvars]; rfl
 have hold:∀ x∈p++[],(fun b=>decide (b<W.heap.size)) x.block=true:=fun x hx=>by simpa using hlt x hx
 refine ⟨_,rfl,ds,[],p++[],[],p,[],hW',hresults _ _ _,hargs _ hold,hvars' _,hb.frame _,fun _ => ?_⟩;refine ⟨ok_one hres rfl (okWide_bool_mk hbool true),_,_,([]++p)++[],⟨[]++p,[],trodAll_append (hargs _ (fun _ _=>rfl)) (hresults _ _ _),hvars' _,rfl,?_,?_⟩,?_⟩
 ·intro b off hp;have:=hlt (.cell b off) (by simpa using hp)
  rw[hb.frozen this];exact hfz b off (by simpa using hp)
 ·intro ha; cases ha
 ·intro x hx _;simpa using hx
end
section
variable {H:Type} {enc:TypeId×Value->H} {P:Program} {tb:Tb} {w:World} {sp:Nat->Bool} {held:Bool}
mutual
def FW:DataW H->Option (List Value)
 | .lit (.int k n)=>some [.int k n]
 | .lit (.bool b)=>some [.bool b]
 | .lit (.string l)=>some [.string ⟨l.toArray⟩]
 | .agg ds=>As ds
 | _=>none
def As:List (DataW H)->Option (List Value)
 | []=>some []
 | d::ds=>match FW d,As ds with
  | some a,some b=>some (a++b)
  | _,_=>none
end
theorem Vg (hT:uW P tb) {n m:Nat}
  (ih:∀ t hs cs y vs,lv tb n t=some hs->dK enc P w 0 sp held m t cs=some y->FW y.1=some vs->cs=vs) {cs:List Value} :
  (fs:List Field)->{k:Nat}->{l:List Ty}->{xs:List (DataW H×List MemPlace)}->{vs:List Value}->lvF (lv tb n) (fs.map fun f=>(f.type,f.offset)) k=some l->xs.length=fs.length ->
   (∀(i:Nat) f,fs[i]? = some f->dK enc P w 0 sp held m f.type ((cs.drop f.offset).take (P.cellsOf f.type))=xs[i]?)->cs.length=k+l.length->As (xs.map (·.1))=some vs->cs.drop k=vs
 | [],k,l,xs,vs,hl,hx,h,hc,hv=>by
  injection hl with hl; subst hl;have:xs=[]:=by simpa using hx
  subst this;injection hv with hv; subst hv;rw[cK];simp only[bb] at hc;omega
 | f::fs,k,l,[],vs,hl,hx,h,hc,hv=>by simp at hx
 | f::fs,k,l,y::xs,vs,hl,hx,h,hc,hv=>by
  simp only[aJ,lvF] at hl;cases ho:ay f.offset k with
  | false=>rw[ho] at hl; cases hl
  | true =>
   rw[ho,cond_true] at hl;have ho:=am ho;cases h1:lv tb n f.type with
   | none=>rw[h1] at hl; cases hl
   | some l1 =>
    rw[h1] at hl;simp only[af] at hl;cases h2:lvF (lv tb n) (fs.map fun f=>(f.type,f.offset)) (k+l1.length) with
    | none=>rw[h2] at hl; cases hl
    | some l2 =>
     rw[h2] at hl;injection hl with hl; subst hl;obtain⟨td,htd,hsz⟩:=Gf h1;have hco:P.cellsOf f.type=l1.length:=by rw[jc hT htd,hsz]
     have hf:=h 0 f rfl;rw[hco,ho] at hf;rw[aJ] at hv;unfold As at hv;split at hv
     ·rename_i a b ha hb;injection hv with hv; subst hv;rw[ax] at hc;have e1:=ih _ _ _ _ a h1 (hf.trans rfl) ha;have e2:=Vg hT ih fs (k:=k+l1.length) (l:=l2) (xs:=xs) h2 (by simpa using hx) (fun i g hg=>h (i+1) g hg) (by omega) hb
      rw[← e1,← e2,← cm,bR]
     ·cases hv
theorem Oe (hT:uW P tb):∀ m n t hs cs y vs,lv tb n t=some hs->dK enc P w 0 sp held m t cs=some y->FW y.1=some vs->cs=vs:=by
 intro m
 induction m with
 | zero=>intro n t hs cs y vs _ h; simp [dK] at h
 | succ m ih =>
  intro n t hs cs y vs hl h hv;cases n with
  | zero=>cases hl
  | succ n =>
   unfold lv at hl;split at hl
   ·rename_i k ht;obtain⟨z,rfl,rfl,hw⟩:=gA (hT _ _ ht).2 h;injection hv
   ·rename_i ht;obtain⟨z,rfl,rfl⟩:=gh (hT _ _ ht).2 h;injection hv
   ·rename_i ht;obtain⟨z,rfl,rfl,hz⟩:=fR (hT _ _ ht).2 h;injection hv
   ·rename_i e ts bytes ht;rcases fY (hT _ _ ht).2.1 h with ⟨rfl,rfl⟩ | ⟨a,len,cap,elems,rest,m',hm',rfl,rfl,_⟩
    ·cases hv
    ·cases hv
   ·rename_i fs k ht;cases hf:lvF (lv tb n) fs 0 with
    | none=>rw[hf] at hl; cases hl
    | some l =>
     rw[hf] at hl;simp only[af] at hl;cases hd:ay l.length k with
     | false=>rw[hd] at hl; cases hl
     | true =>
      have hk:=am hd;obtain⟨fields,hu,hfs,_⟩:=(hT _ _ ht).2;obtain⟨xs,m',hm',rfl,hcl,hxl,hxs⟩:=fS hu h;injection hm' with hm'; subst hm';rw[← hfs] at hf;have:=Vg hT (fun t hs cs y vs hlv=>ih n t hs cs y vs hlv) fields.toList (k:=0) (xs:=xs) (vs:=vs) hf (by rw[hxl,aL]) (fun i f hi=>hxs i f (by simpa using hi)) (by rw[hcl,jc hT ht]; show k=_; omega) hv
      simpa using this
   ·cases hl
theorem AR:(l:List (String×DataW Unit))->{ps:List MemPlace}->DataW.LaidVars P w l ps->∀(i:Nat) nm d,l[i]? = some (nm,d) ->
  ∃ g t cs ze p,P.globalNamed nm=some g∧(P.globals[g]?).map (·.type)=some t∧w.var? P nm=some cs∧dK (fun _=>()) P w 0 (fun _=>true) false ze t cs.toList=some (d,p)
 | [],_,_,i,nm,d,hi=>by simp at hi
 | (n,d')::r,ps,h,0,nm,d,hi=>by
  injection hi with hi; injection hi with h1 h2; subst h1; subst h2;obtain⟨g,t,cs,ze,p,q,a1,a2,a3,a4,_⟩:=h;exact ⟨g,t,cs,ze,p,a1,a2,a3,a4⟩
 | (n,d')::r,ps,h,i+1,nm,d,hi=>by
  obtain⟨g,t,cs,ze,p,q,a1,a2,a3,a4,a5,_⟩:=h;exact AR r a5 i nm d (by simpa using hi)
theorem zbH (hT:uW P tb) {l:List (String×DataW Unit)} (h:laidMetH P l w) (hh:(l.all fun x=>x.2.handleName?.isNone)=true) (i:Nat) {nm:String} {d:DataW Unit} (hi:l[i]? = some (nm,d)) {q t:Nat} (hq:P.globalNamed nm=some q) (ht:(P.globals[q]?).map (·.type)=some t)
  {n:Nat} {ts:Tys} {x:Tup ts} {vs:List Value} (hlv:lv tb n t=some (Uj ts)) (hv:FW d=some vs) (hx:∀ c A blk off,(∀(j:Nat) v,vs[j]? = some v->A blk (off+j)∧c blk (off+j)=some v)->RC c A A ts x blk off):RC (mem w) (tL w) (tL w) ts x q 0:=by
 rw[gC _ _ _ hh] at h;obtain⟨ps,hps,_⟩:=h;obtain⟨g,t',cs,ze,p,a1,a2,a3,a4⟩:=AR l hps i nm d hi;rw[hq] at a1; injection a1 with a1; subst a1;rw[ht] at a2; injection a2 with a2; subst a2;have e:=Oe hT ze n t _ _ _ vs hlv a4 hv;refine hx _ _ _ _ fun j v hj => ?_;have hc:=World.var?_cell hq a3 j;have:mem w q (0+j)=some v:=by
  rw[aN];show w.cell? ⟨q,j,none⟩=_;rw[hc,← hj,← e,aH]
 exact ⟨by unfold tL; rw[this]; rfl,this⟩
def zbr (P:Program) (os:Os) (l:List (Nat×Array Value)):World :=
 l.foldl (fun w p=>{ w with heap:=w.heap.modify p.1 fun
  | .cells _ t fr=>.cells p.2 t fr
  | o=>o }) (fH P os ⟨#[],#[],[]⟩)
theorem Pn (P:Program) (os:Os) (l:List (Nat×Array Value)) (h:(fH P os ⟨#[],#[],[]⟩).os=os):(zbr P os l).os=os:=by
 unfold zbr;generalize fH P os ⟨#[],#[],[]⟩=w at h
 induction l generalizing w with
 | nil=>exact h
 | cons p l ih=>exact ih _ h
end
end Go.Abs
namespace Go.Abs
theorem ob0 {P:Program} {V:Env}:∀ X:Fx,VOk P X V->Obl P X V []:=fun _ _=>za8
def UnA (P:Program) (V:Env) (c:Code) (u:Un):Prop:=∀ X:Fx,VOk P X V->Fw P X V c u
theorem ob1 {P:Program} {V:Env} {c:Code} {u:Un} {l:List (Code×Un)} (h:UnA P V c u) (hl:∀ X:Fx,VOk P X V->Obl P X V l):∀ X:Fx,VOk P X V->Obl P X V ((c,u)::l):=fun X hX=>PZ (h X hX) (hl X hX)
def Ax:Code->Code
 | .loop c=>c
 | .scope c=>c
 | c=>c
def wZ {P:Program} {gl':Gl} {l:List (Nat×Con)} (tb:Tb) (gl:Gl) (_:Xh P gl' l) (c:ShC) (fn:Func):Env:=ZH tb gl l c fn.ntmps
theorem gd1 {P:Program} {gl gl':Gl} {f:FuncId} {c:ShC} {l:List (Nat×Con)} (h:ShOk P gl f c) (hl:Xh P gl' l) (hg:c.glob=false:=by kernel_rfl):Xh P gl' ((f,.gen (yu [c]))::l):=YF (W0 (QV (h.anyGl hg) W5)) hl
theorem gdG {P:Program} {gl:Gl} {f:FuncId} {c:ShC} {l:List (Nat×Con)} (h:ShOk P gl f c) (hl:Xh P gl l):Xh P gl ((f,.gen (yu [c]))::l):=YF (W0 (QV h W5)) hl
theorem gd0 {P:Program} {gl:Gl} {l:List (Nat×Con)} (f:FuncId) (hl:Xh P gl l):Xh P gl ((f,.gen (yu []))::l):=YF (W0 W5) hl
theorem z5 {P:Program} {tb:Tb} {gl:Gl} {l:List (Nat×Con)} {f:FuncId} {c:ShC} {fn:Func} (ac:AC) (rts:List RT') {ob:List (Code×Un)} (ht:uW P tb) (zl:P.follows .mixedOrders=true) (hg:Xh P (cond c.glob gl fun _=>none) l)
  (hfn:P.funcs[f]? = some fn) (hac:∀ X:Fx,VOk P X (ZH tb gl l c fn.ntmps)->Obl P X (ZH tb gl l c fn.ntmps) ob) (hb:fn.body=some (zg fn):=by kernel_rfl) (hr:fn.results=(rts.map RT'.var).toArray:=by kernel_rfl)
  (hn:c.nres=rts.length:=by kernel_rfl) (hrow:zhQ fn c fn.ntmps=true:=by kernel_rfl) (hl:obl (zg fn) ac=ob:=by kernel_rfl) (hk:c.ms.all (fun t => !((sr (zg fn)).any (ay t)))=true:=by kernel_rfl)
  (hE:∀ x,E (ZH tb gl l c fn.ntmps) (zg fn) ac (c.entry x) (PK tb (ZH tb gl l c fn.ntmps).fz c rts x)=c.F x:=by intro x; kernel_rfl):ShOk P gl f c :=
 zgW ht zl hg hfn hb hr hn hrow hl hac hk hE
theorem qI {P:Program} {V:Env} {c0:Code} (ac:AC) (zl:P.follows .mixedOrders=true) (hA:VAll P V) {ob:List (Code×Un)} (hac:∀ X:Fx,VOk P X V->Obl P X V ob) {hd:SS} {es:Exs} {step:(hd.X->Option (YT es))->hd.X->Option (YT es)} {W:List Nat}
  (h0:c0 = .loop (Ax c0):=by kernel_rfl) (hl:obl (Ax c0) ac=ob:=by kernel_rfl) (hs:∀ f x,E V (Ax c0) ac (mkS hd 8 x) (Dp V.fz hd es f)=step f x:=by intro f x; kernel_rfl) (hW:sr (Ax c0)=W:=by kernel_rfl)
  (hro:es.all (fun e=>Zp e.2.sh)=true:=by kernel_rfl):UnA P V c0 (lpU V.fz W hd es (lp step ze)):=fun _ hX=>zge h0 hA zl hl hac hs hW hro hX
theorem zgo {P:Program} {V:Env} {c0:Code} (l:List (Nat×AC)) (zl:P.follows .mixedOrders=true) (hA:VAll P V) {ac:AC} {ob:List (Code×Un)} (hac:∀ X:Fx,VOk P X V->Obl P X V ob) (hacs:∀ X:Fx,VOk P X V->Rz P X V (Ax c0) l) {js es:Exs}
  {step:(YT js->Option (YT es))->YT js->Option (YT es)} {W:List Nat} (h0:c0 = .scope (Ax c0):=by kernel_rfl) (hl:obl (Ax c0) ac=ob:=by kernel_rfl) (hs:∀ f x,Fr V (Ax c0) (Pv l) js es f x=step f x:=by intro f x; kernel_rfl)
  (hgo:KA es=true:=by kernel_rfl) (hW:sr (Ax c0)=W:=by kernel_rfl) (hro:es.all (fun e=>Zp e.2.sh)=true:=by kernel_rfl):UnA P V c0 (scU V W js es (Ax c0) ac (lp step ze)) :=
 fun _ hX=>zcQ h0 hA zl hl hac (fun X hX=>zd2 (hacs X hX)) hs hgo hW hro hX
theorem zgu {P:Program} {V:Env} {c:Code}:∀ X:Fx,VOk P X V->Rz P X V c []:=fun _ _=>zbl
def Yz {α:Type} (xs:List α) (i:Nat) (ys:List α):List α:=xs.take i++(ys++xs.drop i)
theorem Wy {α:Type} (xs:List α) {i:Nat} (ys:List α) (h:i<=xs.length):(Yz xs i ys).length=xs.length+ys.length:=by
 simp [Yz]; omega
theorem Kx {α:Type} (xs:List α) {i:Nat} (ys:List α) (h:i<=xs.length) (j:Nat) :
  (Yz xs i ys)[j]? = if j<i then xs[j]? else if j<i+ys.length then ys[j - i]? else xs[j - ys.length]? := by
 unfold Yz;by_cases h1:j<i
 ·rw[if_pos h1,bv (by simp; omega),ba,if_pos h1]
 ·rw[if_neg h1,bf (by simp; omega)]
  simp only[List.length_take,Nat.min_eq_left h];by_cases h2:j<i+ys.length
  ·rw[if_pos h2,bv (by omega)]
  ·rw[if_neg h2,bf (by omega),bi]
   congr 1
   omega
def zfO (i:Int) (xs ys:List Int):Option (List Int):=cond (Uq i&&decide (i<=(aa xs:Int))&&Cg (aa ys:Int)&&yM (aa xs+aa ys) 8) (some (Yz xs i.toNat ys)) none
def Hj (A:Reg) (c c':Mem):Prop:=∀ b o,A b o->c' b o=c b o∨∃ k n m,c b o=some (.int k n)∧c' b o=some (.int k m)
theorem ZW {α:Type}:(xs:List α)->{Q:Nat->α->Prop}->(∀ i x,xs[i]? = some x->∃ y,Q i y)->∃ ys:List α,ys.length=xs.length∧Elems ys Q
 | [],Q,_=>⟨[],rfl,Elems.nil⟩
 | x::xs,Q,h=>by
  obtain⟨y,hy⟩:=h 0 x rfl;obtain⟨ys,h1,h2⟩:=ZW xs (Q:=fun i y=>Q (i+1) y) fun i x hx=>h (i+1) x (by simpa using hx)
  refine ⟨y::ys,by simp [h1],fun i z hz => ?_⟩
  cases i with
  | zero=>injection hz with hz; subst hz; exact hy
  | succ i=>exact h2 i z (by simpa using hz)
theorem RE.int_ty {c:Mem} {A:Reg} {t:Ty} {x:El t} {k:IntKind} {n:Int} (h:RE c A t x (.int k n)):t = .int k:=by
 cases t with
 | int k' =>
  have h:bN k n = .int k' x:=h;injection h with h1 h2;rw[h1]
 | ns ts =>
  cases x with
  | none=>exact nomatch (show bN k n = .slice none 0 0 from h)
  | some xs =>
   simp only[RE] at h;obtain⟨_,_,h,_⟩:=h;cases h
 | sl ts =>
  simp only[RE] at h;obtain⟨_,_,h,_⟩:=h;cases h
 | ar _ _=>exact h.elim
 | bool=>exact nomatch (show bN k n = .bool x from h)
 | str=>exact nomatch (show bN k n = .string _ from h)
 | cx=>exact nomatch (show bN k n = .complex _ _ _ from h)
 | fl=>exact nomatch (show bN k n = .float _ _ from h)
mutual
theorem RE.spoil {c c':Mem} {A:Reg} (h:Hj A c c'):(t:Ty)->(x:El t)->(v:Value)->RE c A t x v->∃ x',RE c' A t x' v
 | .int _,x,_,hr=>⟨x,hr⟩
 | .bool,x,_,hr=>⟨x,hr⟩
 | .str,x,_,hr=>⟨x,hr⟩
 | .cx,x,_,hr=>⟨x,hr⟩
 | .fl,x,_,hr=>⟨x,hr⟩
 | .ar _ _,_,_,hr=>hr.elim
 | .sl ts,xs,v,hr=>by
  simp only[RE] at hr;obtain⟨a,cap,rfl,hcap,hx⟩:=hr;rcases hx with rfl | ⟨b,o,rfl,hi⟩
  ·refine ⟨[],?_⟩;simp only[RE];exact ⟨a,cap,rfl,hcap,.inl (by trivial)⟩
  ·obtain⟨ys,h1,h2⟩:=ZW (α:=Tup ts) xs (Q:=fun i y=>RC c' A A ts y b (o+i*ts.size)) fun i x hx=>RC.spoil h ts x b _ (hi i x hx);refine ⟨ys,?_⟩;simp only[RE];exact ⟨_,cap,by rw[h1],by rw[h1]; exact hcap,.inr ⟨b,o,rfl,h2⟩⟩
 | .ns ts,x,v,hr=>by
  cases x with
  | none=>exact ⟨none,hr⟩
  | some xs =>
   simp only[RE] at hr;obtain⟨a,cap,rfl,hcap,hx⟩:=hr;rcases hx with rfl | ⟨hs,hi⟩
   ·refine ⟨some [],?_⟩;simp only[RE];exact ⟨a,cap,rfl,hcap,.inl (by trivial)⟩
   ·obtain⟨ys,h1,h2⟩:=ZW (α:=Tup ts) xs (Q:=fun i y=>RC c' A A ts y a.block (a.off+i*ts.size)) fun i x hx=>RC.spoil h ts x _ _ (hi i x hx);refine ⟨some ys,?_⟩;simp only[RE];exact ⟨a,cap,by rw[h1],by rw[h1]; exact hcap,.inr ⟨hs,h2⟩⟩
theorem RC.spoil {c c':Mem} {A:Reg} (h:Hj A c c'):(ts:Tys)->(x:Tup ts)->(b o:Nat)->RC c A A ts x b o->∃ x',RC c' A A ts x' b o
 | .one t,x,b,o,hr=>by
  simp only[RC] at hr;obtain⟨ht,u,hu,he⟩:=hr;rcases h b o ht with h1 | ⟨k,n,m,h1,h2⟩
  ·obtain⟨x',hx⟩:=RE.spoil h t x u he;refine ⟨x',?_⟩;simp only[RC];exact ⟨ht,u,h1.trans hu,hx⟩
  ·rw[h1] at hu;injection hu with hu;subst hu;have:=he.int_ty;subst this;refine ⟨m,?_⟩;simp only[RC];exact ⟨ht,_,h2,rfl⟩
 | .cons t ts,x,b,o,hr=>by
  simp only[RC] at hr;obtain⟨⟨ht,u,hu,he⟩,hr⟩:=hr;obtain⟨y,hy⟩:=RC.spoil h ts x.2 b (o+1) hr;rcases h b o ht with h1 | ⟨k,n,m,h1,h2⟩
  ·obtain⟨x',hx⟩:=RE.spoil h t x.1 u he;refine ⟨(x',y),?_⟩;simp only[RC];exact ⟨⟨ht,u,h1.trans hu,hx⟩,hy⟩
  ·rw[h1] at hu;injection hu with hu;subst hu;have:=he.int_ty;subst this;refine ⟨(m,y),?_⟩;simp only[RC];exact ⟨⟨ht,_,h2,rfl⟩,hy⟩
end
structure SpoilW (B:Nat) (w w':World):Prop where
 rows:∀ j,j<B->w'.heap[j]? = w.heap[j]?
 size:w.heap.size<=w'.heap.size
 frz:∀ b o,(mem w b o).isSome->w'.frozen? ⟨b,o,none⟩=w.frozen? ⟨b,o,none⟩
 cells:∀ b o,(mem w b o).isSome->mem w' b o=mem w b o∨∃ k n m,mem w b o=some (.int k n)∧mem w' b o=some (.int k m)
 os:w'.os=w.os
 tape:w'.tape=w.tape
 output:w'.output=w.output
theorem SpoilW.refl {B:Nat} {w:World}:SpoilW B w w:=⟨fun _ _=>rfl,aE _,fun _ _ _=>rfl,fun _ _ _=>.inl rfl,rfl,rfl,rfl⟩
theorem SpoilW.there {B:Nat} {w w':World} (h:SpoilW B w w') {b o:Nat} (hs:(mem w b o).isSome):(mem w' b o).isSome:=by
 rcases h.cells b o hs with h1 | ⟨k,n,m,-,h2⟩
 ·rw[h1]; exact hs
 ·rw[h2]; rfl
theorem SpoilW.trans {B:Nat} {w w1 w2:World} (h:SpoilW B w w1) (h':SpoilW B w1 w2):SpoilW B w w2 where
 rows j hj:=(h'.rows j hj).trans (h.rows j hj)
 size:=aK h.size h'.size
 frz b o hs:=(h'.frz b o (h.there hs)).trans (h.frz b o hs)
 cells b o hs:=by
  rcases h.cells b o hs with h1 | ⟨k,n,m,h1,h2⟩<;>rcases h'.cells b o (h.there hs) with h3 | ⟨k',n',m',h3,h4⟩
  ·exact .inl (h3.trans h1)
  ·exact .inr ⟨k',n',m',h1▸h3,h4⟩
  ·exact .inr ⟨k,n,m,h1,h3.trans h2⟩
  ·rw[h2] at h3;injection h3 with h3;injection h3 with e1 e2;subst e1;exact .inr ⟨k,n,m',h1,h4⟩
 os:=h'.os.trans h.os
 tape:=h'.tape.trans h.tape
 output:=h'.output.trans h.output
def free (B:Nat) (w:World):Reg:=fun b o=>B<=b∧(mem w b o).isSome∧w.frozen? ⟨b,o,none⟩=false
theorem SpoilW.free {B:Nat} {w w':World} (h:SpoilW B w w') {b o:Nat} (hf:Abs.free B w b o):Abs.free B w' b o :=
 ⟨hf.1,h.there hf.2.1,(h.frz b o hf.2.1).trans hf.2.2⟩
theorem SpoilW.spoilt {B:Nat} {w w':World} (h:SpoilW B w w'):Hj (Abs.free B w) (mem w) (mem w'):=fun b o hf=>h.cells b o hf.2.1
theorem SpoilW.RE {B:Nat} {w w':World} (h:SpoilW B w w') {t:Ty} {x:El t} {v:Value} (hr:RE (mem w) (Abs.free B w) t x v):∃ x',Abs.RE (mem w') (Abs.free B w') t x' v:=by
 obtain⟨x',hx⟩:=RE.spoil h.spoilt t x v hr;exact ⟨x',RE.weak (fun _ _ hf=>h.free hf) hx⟩
theorem SpoilW.RC {B:Nat} {w w':World} (h:SpoilW B w w') {ts:Tys} {x:Tup ts} {b o:Nat} (hr:RC (mem w) (Abs.free B w) (Abs.free B w) ts x b o):∃ x',Abs.RC (mem w') (Abs.free B w') (Abs.free B w') ts x' b o:=by
 obtain⟨x',hx⟩:=RC.spoil h.spoilt ts x b o hr;exact ⟨x',RC.mono (fun _ _ hf=>⟨h.free hf,rfl⟩) (fun _ _ hf=>⟨h.free hf,rfl⟩) ts x' b o hx⟩
def Zt (w:World):Reg:=fun b o=>(mem w b o).isSome
def Fx.sub (X:Fx) (w:World):Fx :=
 {P:=X.P,gl:=X.gl,w0:=w,Keep:=fun k=>k<w.heap.size,N:=fun b=>w.heap.size<=b,D:=w.heap.size,O:=fun _=>False,A:=Zt w,hN:=fun _ h=>h,keepLt:=fun _ h=>h }
def J4 (w:World):Gh:={ S:=fun q b o=>(q=0∨q=1)∧Zt w b o,loc:=fun _=>none }
def Xa:Nat->Blk:=fun _=>.dead
def noZ:Nat->Bool:=fun _=>false
theorem MemOk.sub {X:Fx} {g:Gh} {H:Nat->Blk} {Z:Nat->Bool} {U:Nat->Prop} {w:World} (h:MemOk X g H Z U w):MemOk (X.sub w) (J4 w) Xa noZ (fun _=>False) w where
 blk b:=trivial
 used b hb:=absurd rfl hb
 inj b b' r hb:=absurd rfl hb
 acc k b o hs:=hs.2
 sep k r o x hs hx:=absurd rfl hx
 up0 k b o hs:=⟨.inl rfl,hs.2⟩
 up2 k b o hk hs:=by rcases hs.1 with h | h<;>omega
 dn b o hs:=.inl hs.2
 fr b o hs:=by rcases hs.1 with h | h<;>omega
 nf b o hs hB:=by
  rcases hB with hB | hB
  ·exact absurd (Abs.mem_lt hs.2) (gz.2 hB)
  ·exact hB.elim
 keep k hk:=rfl
 mine x r hx:=absurd rfl hx
 own x r hx:=absurd rfl hx
 os:=rfl
 tape:=rfl
 output:=rfl
 size:=aE _
 bnd:=aE _
 glob q x hx:=by
  have hsub:∀ b o,g.S 1 b o->(J4 w).S 1 b o∧mem w b o=mem w b o:=fun b o hs=>⟨⟨.inr rfl,h.acc 1 b o hs⟩,rfl⟩;exact RC.mono hsub hsub _ _ _ _ (h.glob q x hx)
 grow r j hj:=hj
def RS:List AV->Option ((ts:Tys)×Tup ts)
 | []=>none
 | .val _ t x::r=>cond t.flat (match r with
  | []=>some ⟨.one t,x⟩
  | a::r=>(RS (a::r)).bind fun p=>some ⟨.cons t p.1,(x,p.2)⟩) none
 | _::_=>none
mutual
def Pb (H:Nat->Blk):AV->AV
 | .val _ t x=>.val 1 t x
 | .agg cs=>.agg (zaN H cs)
 | .nilv=>.nilv
 | .ptr b o=>match H b with
  | .cells cs=>match RS cs with
   | some p=>.eptr 1 p.1 p.2 o
   | none=>.unk
  | _=>.unk
 | .view b=>match H b with
  | .seq _ ts xs=>.val 1 (.sl ts) xs
  | _=>.unk
 | .part b o n=>match H b with
  | .seq _ ts xs=>.val 1 (.sl ts) ((xs.drop o).take n)
  | _=>.unk
 | _=>.unk
def zaN (H:Nat->Blk):List AV->List AV
 | []=>[]
 | a::r=>Pb H a::zaN H r
end
theorem zcc (H:Nat->Blk) (a:AV):(Pb H a).isAr=a.isAr:=by
 cases a with
 | val k t x=>cases t<;>rfl
 | ptr b o =>
  simp only[Pb];split
  ·split<;>rfl
  ·rfl
 | view b =>
  simp only[Pb];split<;>rfl
 | part b o n =>
  simp only[Pb];split<;>rfl
 | _=>rfl
theorem Cu {w:World} {g:Gh} {H:Nat->Blk} {U:Nat->Prop} (hacc:∀ k b o,g.S k b o->(mem w b o).isSome):(cs:List AV)->{p:(ts:Tys)×Tup ts}->RS cs=some p->{vs:List Value}->RF (mem w) g H U cs vs->{r o:Nat} ->
  (∀(j:Nat) (v:Value),vs[j]? = some v->mem w r (o+j)=some v)->RC (mem w) (Zt w) (Zt w) p.1 p.2 r o
 | [],_,h,_,_,_,_,_=>by cases h
 | .val k t x::r,p,h,vs,hr,b,o,hm=>by
  unfold RS at h;cases hf:t.flat with
  | false=>rw[hf] at h; cases h
  | true =>
   rw[hf,cond_true] at h;obtain⟨v,us,ws,rfl,h1,h2,h3⟩:=hr;have har:(AV.val k t x).isAr=false:=by cases t<;>first | rfl | cases hf
   rw[har,cond_false] at h2;subst h2;have h1:RE (mem w) (Zt w) t x v:=RE.mono (fun b o hb=>⟨hacc k b o hb,rfl⟩) t x v ((RVal.flat hf).1 h1);have h0:mem w b o=some v:=hm 0 v rfl;have ht:Zt w b o:=by unfold Zt; rw[h0]; rfl
   cases r with
   | nil =>
    injection h with h;subst h;simp only[RC];exact ⟨ht,v,h0,h1⟩
   | cons a r =>
    simp only at h;obtain⟨q,hq,h⟩:=ag.1 h;injection h with h;subst h;simp only[RC];refine ⟨⟨ht,v,h0,h1⟩,Cu hacc (a::r) hq h3 fun j u hu => ?_⟩;rw[bI,cN 1 j];exact hm (j+1) u (by simpa using hu)
 | .unk::_,_,h,_,_,_,_,_=>by cases h
 | .agg _::_,_,h,_,_,_,_,_=>by cases h
 | .tup _::_,_,h,_,_,_,_,_=>by cases h
 | .nilv::_,_,h,_,_,_,_,_=>by cases h
 | .view _::_,_,h,_,_,_,_,_=>by cases h
 | .part _ _ _::_,_,h,_,_,_,_,_=>by cases h
 | .ptr _ _::_,_,h,_,_,_,_,_=>by cases h
 | .cptr _ _ _ _ _::_,_,h,_,_,_,_,_=>by cases h
 | .sptr _ _ _::_,_,h,_,_,_,_,_=>by cases h
 | .eptr _ _ _ _::_,_,h,_,_,_,_,_=>by cases h
 | .clo _ _::_,_,h,_,_,_,_,_=>by cases h
theorem Vx (w:World):(J4 w).S 1=Zt w:=by
 funext b o
 simp [J4]
section
variable {X:Fx} {g:Gh} {H:Nat->Blk} {Z:Nat->Bool} {U:Nat->Prop} {w:World}
theorem De (hm:MemOk X g H Z U w) {b q:Nat} {ts:Tys} {xs:List (Tup ts)} (hx:H b = .seq q ts xs) {r:Nat} (hl:g.loc b=some r) {o:Nat} (ho:o<xs.length*ts.size):Zt w r o:=by
 have hb:=hm.blk b;rw[hx] at hb;simp only[RBlk] at hb;rcases hb with ⟨h1,-⟩ | ⟨r',c,e,h1,h2,h3,-⟩
 ·rw[hl] at h1; cases h1
 ·rw[hl] at h1; injection h1 with h1; subst h1;unfold Zt;rw[zt h2,aT (by omega)]; rfl
mutual
theorem Jf (hm:MemOk X g H Z U w):(a:AV)->(v:Value)->RAV (mem w) g H U a v->RAV (mem w) (J4 w) Xa (fun _=>False) (Pb H a) v
 | .val k t x,v,h=>RVal.mono (A':=(J4 w).S 1) (fun b o hb=>⟨⟨.inr rfl,hm.acc k b o hb⟩,rfl⟩) t x v h
 | .agg cs,v,h=>by
  obtain⟨vs,rfl,hl⟩:=h;exact ⟨vs,rfl,V8 hm cs _ hl⟩
 | .nilv,v,h=>h
 | .ptr b o,v,h=>by
  simp only[Pb];split
  ·rename_i cs hcs;split
   ·rename_i p hp;simp only[RAV,hcs,RPtr] at h;obtain⟨-,-,r,hl,rfl⟩:=h;have hb:=hm.blk b;rw[hcs] at hb;simp only[RBlk] at hb;obtain⟨r',c,e,hl',hw,hrf⟩:=hb;rw[hl] at hl'; injection hl' with hl'; subst hl';refine ⟨r,0,by rw[aN],?_⟩
    rw[Vx];exact Cu hm.acc cs hp hrf fun j v hv=>by
     rw[zt hw,aN,← aH];exact hv
   ·trivial
  ·trivial
 | .unk,_,_=>trivial
 | .tup _,_,_=>trivial
 | .view b,v,h=>by
  simp only[Pb];split
  ·rename_i q ts xs hx;simp only[RAV,hx] at h;have hb:=hm.blk b;rw[hx] at hb;have:=MT (A:=Zt w) hb h.2.2 (fun b o hs=>hm.acc q b o hs) (fun r hl o ho=>De hm hx hl ho);show RE _ _ _ _ _;rw[Vx];exact this
  ·trivial
 | .part b o n,v,h=>by
  simp only[Pb];split
  ·rename_i q ts xs hx;simp only[RAV,hx] at h;have hb:=hm.blk b;rw[hx] at hb;have:=O3 (A:=Zt w) hb h.2.2 (fun b o hs=>hm.acc q b o hs) (fun r hl o ho=>De hm hx hl ho);show RE _ _ _ _ _;rw[Vx];exact this
  ·trivial
 | .cptr _ _ _ _ _,_,_=>trivial
 | .sptr _ _ _,_,_=>trivial
 | .eptr _ _ _ _,_,_=>trivial
 | .clo _ _,_,_=>trivial
theorem V8 (hm:MemOk X g H Z U w):(cs:List AV)->(vs:List Value)->RF (mem w) g H U cs vs->RF (mem w) (J4 w) Xa (fun _=>False) (zaN H cs) vs
 | [],_,h=>h
 | a::r,vs,h=>by
  obtain⟨v,us,ws,h0,h1,h2,h3⟩:=h;refine ⟨v,us,ws,h0,Jf hm a v h1,?_,V8 hm r ws h3⟩;rw[h2,zcc]
end
end
section
variable {c:Mem} {g g':Gh} {H H':Nat->Blk} {U U':Nat->Prop}
def zgP:AV->AV
 | .val _ (.int k) x=>.val 2 (.int k) x
 | .val _ .bool x=>.val 2 .bool x
 | .val _ .str x=>.val 2 .str x
 | .val _ .cx x=>.val 2 .cx x
 | .val _ .fl x=>.val 2 .fl x
 | _=>.unk
theorem EN {c':Mem} (a:AV) (v:Value) (h:RAV c g H U a v):RAV c' g' H' U' (zgP a) v:=by
 cases a with
 | val k t x=>cases t<;>first | trivial | exact h
 | _=>trivial
end
theorem MemOk.later {X:Fx} {g:Gh} {H:Nat->Blk} {Z:Nat->Bool} {U:Nat->Prop} {w w':World} (h:MemOk X g H Z U w) (hrow:∀ j,j<w.heap.size->w'.heap[j]? = w.heap[j]?) (hsize:w.heap.size<=w'.heap.size)
  (hos:w'.os=w.os) (htape:w'.tape=w.tape) (hout:w'.output=w.output):MemOk X g H Z U w'∧Mono (mem w) g H U (mem w') g H U:=by
 have hS:∀ q b o,g.S q b o->mem w' b o=mem w b o:=fun q b o hs=>zv (hrow b (h.mem_lt hs)) o;have hgr:∀ r j,(mem w r j).isSome->(mem w' r j).isSome:=fun r j hj=>by
  rw[zv (hrow r (Abs.mem_lt hj))]; exact hj
 have hmono:Mono (mem w) g H U (mem w') g H U :=
  ⟨fun q b o hs=>⟨hs,hS q b o hs⟩,fun _ hb=>hb,fun b _=>(SameKind.refl_or (H b)).imp id fun hk=>⟨hk,rfl,fun r _ j hj=>hgr r j hj⟩⟩
 refine ⟨{ blk:=fun b => ?_,used:=h.used,inj:=h.inj,acc:=fun q b o hs=>by rw[hS q b o hs]; exact h.acc q b o hs,sep:=h.sep,up0:=h.up0,up2:=h.up2,dn:=h.dn,fr:=h.fr,nf:=fun b o hs hB=>(q9 (hrow b (h.mem_lt hs)) o).trans (h.nf b o hs hB),keep:=fun k hk=>(hrow k (cG (X.keepLt k hk) h.size)).trans (h.keep k hk),mine:=h.mine,own:=h.own,os:=hos.trans h.os,tape:=htape.trans h.tape,output:=hout.trans h.output,size:=aK h.size hsize,bnd:=aK h.bnd hsize,glob:=fun q x hx=>RC.mono (hmono.hS 1) (hmono.hS 1) x.1 x.2 q 0 (h.glob q x hx),grow:=fun r j hj=>hgr r j (h.grow r j hj) },hmono⟩
 by_cases hlive:H b = .dead
 ·rw[hlive]; trivial
 ·exact RBlk.mono hmono rfl (fun r hl=>hrow r (h.locLt hlive hl)) (h.blk b)
def zbh (st:St):St:={ φ:=fun t=>Pb st.H (st.φ t),H:=Xa,Z:=noZ,nx:=st.nx }
def W9 (W1 W2:List Nat) (st st1:St):St:={ st with φ:=fun t=>cond (W2.any (ay t)) .unk (cond (W1.any (ay t)) (zgP (st1.φ t)) (st.φ t)) }
theorem Now.sub {X:Fx} {V:Env} {d:List Deferred} {st:St} {a:Act} {w:World} {g:Gh} {U:Nat->Prop} (h:Now X V d wQ st a w g U):Now (X.sub w) V d wQ (zbh st) a w (J4 w) (fun _=>False) where
 fr t:=Jf h.mem _ _ (h.fr t)
 mem:=h.mem.sub
 n:=h.n
 d:=h.d
 used _b hb:=hb.elim
theorem OB {W:List Nat} {t:Nat}:W.any (ay t)=false->t∉W:=fun hw ht=>by
 rw[ce] at hw;exact hw t ht (ef t)
theorem Now.back {X:Fx} {V:Env} {d:List Deferred} {st:St} {a:Act} {w:World} {g:Gh} {U:Nat->Prop} (h:Now X V d wQ st a w g U) {X':Fx} {D:Nat->Prop} {st1:St} {a1:Act} {w1:World} {g1:Gh} {U1:Nat->Prop} (h1:Now X' V d D st1 a1 w1 g1 U1)
  {W1 W2:List Nat} {a2:Act} {w2:World} (hn:a2.tmps.size=a1.tmps.size) (hd:a2.defers=a1.defers) (ht1:∀ t,t∉W1->a1.tmps.getD t undef=a.tmps.getD t undef) (ht2:∀ t,t∉W2->a2.tmps.getD t undef=a1.tmps.getD t undef)
  (hrow:∀ j,j<w.heap.size->w2.heap[j]? = w.heap[j]?) (hsize:w.heap.size<=w2.heap.size) (hos:w2.os=w.os) (htape:w2.tape=w.tape) (hout:w2.output=w.output) :
  Now X V d wQ (W9 W1 W2 st st1) a2 w2 g U∧Since (· ∈ W1++W2) w g st.H U a w2 g (W9 W1 W2 st st1).H U a2:=by
 obtain⟨hm,hmo⟩:=h.mem.later hrow hsize hos htape hout;refine ⟨⟨fun t => ?_,hm,hn.trans h1.n,hd.trans h1.d,h.used⟩,hmo,fun t ht => ?_⟩
 ·show RAV _ _ _ _ (cond (W2.any (ay t)) .unk (cond (W1.any (ay t)) (zgP (st1.φ t)) (st.φ t))) _;cases hw:W2.any (ay t) with
  | true=>trivial
  | false =>
   rw[cond_false,ht2 t (OB hw)];cases hw1:W1.any (ay t) with
   | true=>exact EN _ _ (h1.fr t)
   | false =>
    rw[cond_false,ht1 t (OB hw1)];exact RAV.mono hmo _ _ (h.fr t)
 ·have ht:t∉W1++W2:=ht;rw[aQ,not_or] at ht;exact (ht2 t ht.2).trans (ht1 t ht.1)
inductive KT where
 | any
 | lit (k:IntKind) (n:Int)
 | one (t:Ty)
 | agg (ts:List Ty)
 | rp (ts:Tys) (f:Nat)
 | sl0 (ts:Tys)
 | ix0
 | len0
 | flag0
 | nx0
def RawL (c:Mem) (A:Reg):List Ty->List Value->Prop
 | [],vs=>vs=[]
 | t::ts,vs=>∃ v us,vs=v::us∧(∃ x,RE c A t x v)∧RawL c A ts us
def Fz:Value->Nat
 | .slice _ n _=>n
 | _=>0
def KV (c:Mem) (A:Reg) (v0:Value) (i0:Int):KT->Value->Prop
 | .any,_=>True
 | .lit k n,v=>v = .int k n
 | .one t,v=>∃ x,RE c A t x v
 | .agg ts,v=>∃ vs,v = .agg vs∧RawL c A ts vs.toList
 | .rp ts f,v=>∃ b o,v = .pointer (some ⟨b,o+f,none⟩)∧∃ x,RC c A A ts x b o
 | .sl0 ts,v=>v=v0∧∃ xs,RE c A (.sl ts) xs v
 | .ix0,v=>v = .int .i64 i0
 | .len0,v=>v = .int .i64 (Fz v0:Int)
 | .flag0,v=>v = .bool (decide (i0<(Fz v0:Int)))
 | .nx0,v=>v = .int .i64 (IntKind.i64.wrap (i0+1))
def KVs (c:Mem) (A:Reg) (v0:Value) (i0:Int):List KT->List Value->Prop
 | [],vs=>vs=[]
 | t::ts,vs=>∃ v us,vs=v::us∧KV c A v0 i0 t v∧KVs c A v0 i0 ts us
theorem RawL.spoil {B:Nat} {w w':World} (h:SpoilW B w w'):(ts:List Ty)->{vs:List Value}->RawL (mem w) (free B w) ts vs->RawL (mem w') (free B w') ts vs
 | [],_,hr=>hr
 | t::ts,vs,hr=>by
  obtain⟨v,us,rfl,⟨x,hx⟩,hr⟩:=hr;exact ⟨v,us,rfl,h.RE hx,RawL.spoil h ts hr⟩
theorem KV.spoil {B:Nat} {w w':World} (h:SpoilW B w w') {v0:Value} {i0:Int} {τ:KT} {v:Value} (hr:KV (mem w) (free B w) v0 i0 τ v):KV (mem w') (free B w') v0 i0 τ v:=by
 cases τ with
 | any=>trivial
 | lit k n=>exact hr
 | one t=>obtain⟨x,hx⟩:=hr; exact h.RE hx
 | agg ts=>obtain⟨vs,rfl,hx⟩:=hr; exact ⟨vs,rfl,RawL.spoil h ts hx⟩
 | rp ts f=>obtain⟨b,o,rfl,x,hx⟩:=hr; exact ⟨b,o,rfl,h.RC hx⟩
 | sl0 ts=>obtain⟨rfl,x,hx⟩:=hr; exact ⟨rfl,h.RE hx⟩
 | ix0=>exact hr
 | len0=>exact hr
 | flag0=>exact hr
 | nx0=>exact hr
def zgZ:KT->KT->Bool
 | .one t,.one u=>decide (t=u)
 | .one t,.sl0 ts=>decide (t = .sl ts)
 | .agg ts,.agg us=>decide (ts=us)
 | _,_=>false
def N9:List KT->List KT->Bool
 | [],[]=>true
 | a::as',b::bs=>zgZ a b&&N9 as' bs
 | _,_=>false
theorem zal {c:Mem} {A:Reg} {v0 u0:Value} {i0 j0:Int} {a b:KT} {v:Value} (h:zgZ a b=true) (hv:KV c A v0 i0 b v):KV c A u0 j0 a v:=by
 cases a<;>cases b<;>simp only[zgZ,decide_eq_true_eq] at h<;>first | cases h | skip
 ·exact hv
 ·exact hv.2
 ·exact hv
theorem Ci {c:Mem} {A:Reg} {v0 u0:Value} {i0 j0:Int}:(ps bs:List KT)->{vs:List Value}->N9 ps bs=true->KVs c A v0 i0 bs vs->KVs c A u0 j0 ps vs
 | [],[],vs,_,hv=>hv
 | [],_::_,_,h,_=>by cases h
 | _::_,[],_,h,_=>by cases h
 | p::ps,b::bs,vs,h,hv=>by
  simp only[N9,aw] at h;obtain⟨v,us,rfl,h1,h2⟩:=hv;exact ⟨v,us,rfl,zal h.1 h1,Ci ps bs h.2 h2⟩
def vw (P:Program) (f:FuncId) (ps:List KT):Prop :=
 ∀(B:Nat) (w:World) (vs:Array Value) (v0:Value) (i0:Int),B<=w.heap.size->KVs (mem w) (free B w) v0 i0 ps vs.toList->Does P (callFunc f vs) w fun _ w'=>SpoilW B w w'
structure SNow (n:Nat) (d:List Deferred) (B:Nat) (v0:Value) (i0:Int) (W:Nat->Prop) (a0:Act) (τ:Nat->KT) (a:Act) (w:World):Prop where
 fr:∀ t,KV (mem w) (free B w) v0 i0 (τ t) (a.tmps.getD t undef)
 n:a.tmps.size=n
 d:a.defers=d
 keep:∀ t,¬ W t->a.tmps.getD t undef=a0.tmps.getD t undef
theorem SNow.spoil {n:Nat} {d:List Deferred} {B:Nat} {v0:Value} {i0:Int} {W:Nat->Prop} {a0:Act} {τ:Nat->KT} {a:Act} {w w':World} (h:SNow n d B v0 i0 W a0 τ a w) (hw:SpoilW B w w'):SNow n d B v0 i0 W a0 τ a w' :=
 ⟨fun t=>(h.fr t).spoil hw,h.n,h.d,h.keep⟩
def zgp (τ:Nat->KT):Option Tmp->KT->Nat->KT
 | some x,t=>upd τ x t
 | none,_=>τ
theorem SNow.put {n:Nat} {d:List Deferred} {B:Nat} {v0:Value} {i0:Int} {W:Nat->Prop} {a0:Act} {τ:Nat->KT} {a:Act} {w:World} (h:SNow n d B v0 i0 W a0 τ a w) {o:Oper} (hd:Qh n o=true) (hW:∀ x,o.dst=some x->W x) {t:KT} {v:Value} (hv:KV (mem w) (free B w) v0 i0 t v) :
  SNow n d B v0 i0 W a0 (zgp τ o.dst t) (a.put o.dst v) w:=by
 refine ⟨fun y => ?_,(GB ..).trans h.n,(X4 ..).trans h.d,fun y hy=>(WO _ _ _ _ fun e=>hy (hW y e)).trans (h.keep y hy)⟩;unfold Qh at hd;cases hdst:o.dst with
 | none=>exact h.fr y
 | some x =>
  simp only[hdst] at hd;have hx:x<a.tmps.size:=by rw[h.n]; exact bA hd
  by_cases hy:y=x
  ·subst hy;rw[show zgp τ (some y) t y=t from zw _ _ _]
   have:(a.put (some y) v).tmps.getD y undef=v:=by simp [Act.put,aV,hx]
   rw[this]; exact hv
  ·rw[show zgp τ (some x) t y=τ y from xc _ _ hy,WO _ _ _ _ (fun e=>hy (by injection e with e; exact e.symm))]
   exact h.fr y
def tyK (τ:Nat->KT):Operand->KT
 | .tmp t=>τ t
 | .const (.int k n)=>.lit k n
 | _=>.any
theorem UQ {n:Nat} {d:List Deferred} {B:Nat} {v0:Value} {i0:Int} {W:Nat->Prop} {a0:Act} {τ:Nat->KT} {a:Act} {w:World} (h:SNow n d B v0 i0 W a0 τ a w) (o:Operand):KV (mem w) (free B w) v0 i0 (tyK τ o) (a.eval o):=by
 cases o with
 | tmp t=>exact h.fr t
 | const v=>cases v<;>first | trivial | rfl
 | _=>trivial
section
def ghF (B:Nat) (w:World):Gh:={ S:=fun q b o=>(q=0∨q=1)∧free B w b o,loc:=fun _=>none }
theorem ZK (B:Nat) (w:World):(ghF B w).S 1=free B w:=by
 funext b o
 simp [ghF]
def fxF (P:Program) (B:Nat) (w:World):Fx :=
 {P:=P,gl:=fun _=>none,w0:=w,Keep:=fun k=>k<w.heap.size,N:=fun b=>w.heap.size<=b,D:=w.heap.size,O:=fun _=>False,A:=free B w,hN:=fun _ h=>h,keepLt:=fun _ h=>h }
theorem zia (P:Program) (B:Nat) (w:World):MemOk (fxF P B w) (ghF B w) Xa noZ (fun _=>False) w where
 blk b:=trivial
 used b hb:=absurd rfl hb
 inj b b' r hb:=absurd rfl hb
 acc k b o hs:=hs.2.2.1
 sep k r o x hs hx:=absurd rfl hx
 up0 k b o hs:=⟨.inl rfl,hs.2⟩
 up2 k b o hk hs:=by rcases hs.1 with h | h<;>omega
 dn b o hs:=.inl hs.2
 fr b o hs:=by rcases hs.1 with h | h<;>omega
 nf b o hs hB:=hs.2.2.2
 keep k hk:=rfl
 mine x r hx:=absurd rfl hx
 own x r hx:=absurd rfl hx
 os:=rfl
 tape:=rfl
 output:=rfl
 size:=aE _
 bnd:=aE _
 glob q x hx:=by cases hx
 grow r j hj:=hj
def Jl:Tys->List Ty
 | .one t=>[t]
 | .cons t ts=>t::Jl ts
theorem GK:(ts:Tys)->(Jl ts).length=ts.size
 | .one _=>rfl
 | .cons _ ts=>by simp [Jl,Tys.size,GK ts]
theorem ZR {g:Nat}:(ts:Tys)->(x:Tup ts)->(zZ g ts x).length=ts.size
 | .one _,_=>rfl
 | .cons _ ts,x=>by simp [zZ,Tys.size,ZR ts]
theorem jF {g:Nat}:(ts:Tys)->(x:Tup ts)->(j:Nat)->(t:Ty)->(Jl ts)[j]? = some t->∃ y,(zZ g ts x)[j]? = some (.val g t y)
 | .one t,x,0,u,h=>by injection h with h; subst h; exact ⟨x,rfl⟩
 | .one t,x,j+1,u,h=>by simp [Jl] at h
 | .cons t ts,x,0,u,h=>by injection h with h; subst h; exact ⟨x.1,rfl⟩
 | .cons t ts,x,j+1,u,h=>jF ts x.2 j u (by simpa[Jl] using h)
theorem jO:(cs:List AV)->(o:Nat)->(∀ a,a∈cs->a.width=1)->o<=cs.length->tN cs o=some (cs.take o,cs.drop o)
 | [],o,_,h=>by
  have:o=0:=by simpa using h
  subst this; rfl
 | a::r,0,_,_=>rfl
 | a::r,o+1,hw,h=>by
  show cond (ay (o+1) 0) _ (cond (bQ a.width (o+1)) ((tN r (o+1 - a.width)).bind fun p=>some (a::p.1,p.2)) none)=_;rw[hw a (by simp),show bQ 1 (o+1)=true from ck (by omega),cond_true,Nat.add_sub_cancel,jO r o (fun b hb=>hw b (by simp [hb])) (by simpa using h)]
  rfl
theorem X6 {g:Nat} {t:Ty} {y:El t} (h:t.flat=true):(AV.val g t y).width=1∧(AV.val g t y).isAr=false:=by
 cases t<;>first | exact ⟨rfl,rfl⟩ | cases h
theorem KP {g:Nat} (ts:Tys) (x:Tup ts) (hf:(Jl ts).all Ty.flat=true):∀ a,a∈zZ g ts x->a.width=1:=by
 intro a ha;obtain⟨j,hj⟩:=List.mem_iff_getElem?.1 ha;have hl:j<(Jl ts).length:=by rw[GK,← ZR (g:=g) ts x]; exact (aq.1 hj).1
 obtain⟨y,hy⟩:=jF (g:=g) ts x j _ (al hl);rw[hj] at hy;injection hy with hy;rw[hy];exact (X6 (aF.1 hf _ (cJ hl))).1
theorem RF.rawL {c:Mem} {g:Gh} {H:Nat->Blk} {U:Nat->Prop}:(l:List Ty)->(cs:List AV)->{vs:List Value}->cs.length=l.length->(∀(j:Nat) (t:Ty),l[j]? = some t->t.flat=true∧∃ y,cs[j]? = some (AV.val 1 t y))->RF c g H U cs vs->RawL c (g.S 1) l vs
 | [],[],vs,_,_,h=>h
 | [],_::_,_,h,_,_=>by simp at h
 | _::_,[],_,h,_,_=>by simp at h
 | t::l,a::cs,vs,hl,ht,h=>by
  obtain⟨hf,y,hy⟩:=ht 0 t rfl;have hy:a = .val 1 t y:=by injection hy
  subst hy;obtain⟨v,us,ws,rfl,h1,h2,h3⟩:=h;rw[(X6 hf).2,cond_false] at h2;subst h2;exact ⟨v,ws,rfl,⟨y,(RVal.flat hf).1 h1⟩,RF.rawL l cs (by simpa using hl) (fun j t hj=>ht (j+1) t (by simpa using hj)) h3⟩
def LE (tb:Tb) (t:TypeId) (ts:Tys) (f:Nat):Option KT :=
 (tb t).bind fun td=>cond ((Jl ts).all Ty.flat) (match td with
  | .st _ n=>cond (bQ (f+n) ts.size) (some (.agg (((Jl ts).drop f).take n))) none
  | .int _ | .bool | .str | .cx | .fl | .sl .. => ((Jl ts)[f]?).map .one
  | _=>none) none
variable {P:Program} {tb:Tb} {B:Nat} {w:World} {v0:Value} {i0:Int}
theorem zaf (hT:uW P tb) {t:TypeId} {ts:Tys} {f:Nat} {k:KT} (h:LE tb t ts f=some k) {x:Tup ts} {b o:Nat} (hr:RC (mem w) (free B w) (free B w) ts x b o) :
  ∃ z,(c8 t (.pointer (some ⟨b,o+f,none⟩))).run P w = .ok z w∧KV (mem w) (free B w) v0 i0 k z:=by
 unfold LE at h;obtain⟨td,ht,h⟩:=ag.1 h;cases hf:(Jl ts).all Ty.flat with
 | false=>rw[hf] at h; cases h
 | true =>
  rw[hf,cond_true] at h;have hw:=KP (g:=1) ts x hf;have hlen:=ZR (g:=1) ts x;have hp:RAV (mem w) (ghF B w) Xa (fun _=>False) (.eptr 1 ts x f) (.pointer (some ⟨b,o+f,none⟩)):=⟨b,o,rfl,by rw[ZK]; exact hr⟩
  have key:∀ av,sN td (zZ 1 ts x) f some=some av->∃ z,(c8 t (.pointer (some ⟨b,o+f,none⟩))).run P w = .ok z w∧RAV (mem w) (ghF B w) Xa (fun _=>False) av z:=fun av hav=>by
   obtain⟨z,av',h1,h2,h3⟩:=Y9 hT (zia P B w) (fun b=>.inr rfl) (t:=t) (p:=.eptr 1 ts x f) (κ:=some) (x:=av) (by
    unfold YZ;rw[ht];exact hav) hp
   injection h2 with h2;subst h2;exact ⟨z,h1,h3⟩
  have one:∀(h:((Jl ts)[f]?).map KT.one=some k) (hc:sN td (zZ 1 ts x) f some=(Vv (zZ 1 ts x) f).bind fun v=>cond v.isAr none (some v)),
    ∃ z,(c8 t (.pointer (some ⟨b,o+f,none⟩))).run P w = .ok z w∧KV (mem w) (free B w) v0 i0 k z:=fun h hc=>by
   obtain⟨u,hu,rfl⟩:=bg.1 h;obtain⟨y,hy⟩:=jF (g:=1) ts x f u hu;have hfl:=(aq.1 hu);have huf:u.flat=true:=by
    obtain⟨hl,he⟩:=hfl;rw[← he];exact aF.1 hf _ (cJ hl)
   have hlt:f<(zZ 1 ts x).length:=(aq.1 hy).1;have hd:(zZ 1 ts x).drop f = .val 1 u y::(zZ 1 ts x).drop (f+1):=by
    rw[List.drop_eq_getElem_cons hlt]
    congr 1
    rw[al hlt] at hy;injection hy
   obtain⟨z,h1,h2⟩:=key (.val 1 u y) (by
    rw[hc];unfold Vv;rw[jO _ f hw (by omega),af,hd]
    simp [(X6 (y:=y) (g:=1) huf).2])
   exact ⟨z,h1,y,by have:=(RVal.flat huf).1 h2; rwa [ZK] at this⟩
  cases td with
  | st fs n =>
   simp only at h;cases hb:bQ (f+n) ts.size with
   | false=>rw[hb] at h; cases h
   | true =>
    rw[hb,cond_true] at h;injection h with h;subst h;have hle:=bA hb;obtain⟨z,h1,h2⟩:=key (.agg (((zZ 1 ts x).drop f).take n)) (by
     show ((tN (zZ 1 ts x) f).bind fun p=>(tN p.2 n).bind fun q=>some (AV.agg q.1))=_;rw[jO _ f hw (by omega),af,jO _ n (fun a ha=>hw a (List.mem_of_mem_drop ha)) (by simp; omega)]
     rfl)
    obtain⟨vs,rfl,hl⟩:=h2;refine ⟨_,h1,vs,rfl,?_⟩;have:=RF.rawL (((Jl ts).drop f).take n) _ (by simp [hlen,GK]) (fun j u hu=>by
     rw[ba] at hu ⊢;split at hu
     ·rename_i hj;rw[if_pos hj];rw[bi] at hu ⊢;obtain⟨hl',he⟩:=aq.1 hu;refine ⟨?_,jF ts x _ u hu⟩;rw[← he];exact aF.1 hf _ (cJ hl')
     ·cases hu) hl
    rwa [ZK] at this
  | int k'=>exact one h rfl
  | bool=>exact one h rfl
  | str=>exact one h rfl
  | cx=>exact one h rfl
  | fl=>exact one h rfl
  | sl e us n=>exact one h rfl
  | fn=>cases h
  | arr e us n=>cases h
  | fa e q n=>cases h
theorem P2 (hT:uW P tb) (_hBw:B<=w.heap.size) {t:TypeId} {k:IntKind} (ht:tb t=some (.int k)) {b o:Nat} {n m:Int} (hf:free B w b o) (hc:mem w b o=some (.int k n)) :
  (el t (.pointer (some ⟨b,o,none⟩)) (.int k m)).run P w = .ok () (w.setCell ⟨b,o,none⟩ (.int k m))∧SpoilW B w (w.setCell ⟨b,o,none⟩ (.int k m)):=by
 obtain⟨⟨ti,hti,htsz,-⟩,hu⟩:=hT t _ ht;have hcell:w.cell? ⟨b,o,none⟩=some (.int k n):=hc;have hfr:w.frozen? ⟨b,o,none⟩=false:=hf.2.2;have hsz:ti.size=1:=htsz;refine ⟨?_,?_⟩
 ·simp [el,Instr.sureAddr,storeVar,sizeOf,typeInfo,hti,hsz,storeCells,gf,store,Addr.add_lit,Sem.run,hcell,hfr]
 ·have hlt:b<w.heap.size:=Abs.mem_lt hf.2.1;obtain⟨c,e,fz,hw⟩:∃ c e fz,w.heap[b]? = some (.cells c e fz):=by
   unfold mem d0 at hc;rw[aT hlt] at hc ⊢;cases hb:w.heap[b] with
   | cells c e fz=>exact ⟨c,e,fz,rfl⟩
   | pending c e=>rw[hb] at hc; simp at hc
   | view a t=>rw[hb] at hc; simp at hc
   | _=>rw[hb] at hc; simp at hc
  have hrow:∀ j,j≠b->(w.setCell ⟨b,o,none⟩ (.int k m)).heap[j]? = w.heap[j]? := fun j hj=>by
   simp [fI,fq,dj hj]
  have hthis:(w.setCell ⟨b,o,none⟩ (.int k m)).heap[b]? = some (.cells (c.setIfInBounds o (.int k m)) e fz):=by
   simp [fI,fq,hw]
  have hmem:mem w b o=c[o]? := by simp [mem,d0,hw]
  refine ⟨fun j hj=>hrow j fun e=>by have:=hf.1; omega,by simp [fI],fun b' o' _ => ?_,fun b' o' _ => ?_,rfl,rfl,rfl⟩
  ·by_cases hb:b'=b
   ·subst hb;simp only[World.frozen?,hthis,hw]
   ·exact q9 (hrow b' hb) o'
  ·by_cases hb:b'=b
   ·subst hb;have h1:mem (w.setCell ⟨b',o,none⟩ (.int k m)) b' o'=(c.setIfInBounds o (.int k m))[o']? := by simp [mem,d0,hthis]
    have h2:mem w b' o'=c[o']? := by simp [mem,d0,hw]
    by_cases ho:o'=o
    ·subst ho;refine .inr ⟨k,n,m,hc,?_⟩;rw[h1,Array.getElem?_setIfInBounds_self];rw[hmem] at hc;rw[if_pos (Array.getElem?_eq_some_iff.1 hc).1]
    ·left;rw[h1,h2,Array.getElem?_setIfInBounds_ne (dj ho)]
   ·exact .inl (zv (hrow b' hb) o')
end
section
def asI:KT->Option IntKind
 | .lit k _=>some k
 | .one (.int k)=>some k
 | .ix0=>some .i64
 | .nx0=>some .i64
 | .len0=>some .i64
 | _=>none
theorem No {c:Mem} {A:Reg} {v0:Value} {i0:Int} {τ:KT} {k:IntKind} {v:Value} (h:asI τ=some k) (hv:KV c A v0 i0 τ v):∃ n,v = .int k n:=by
 cases τ with
 | one t =>
  cases t with
  | int k'=>injection h with h; subst h; obtain⟨x,hx⟩:=hv; exact ⟨x,hx⟩
  | _=>cases h
 | lit k' n=>injection h with h; subst h; exact ⟨n,hv⟩
 | ix0=>injection h with h; subst h; exact ⟨_,hv⟩
 | nx0=>injection h with h; subst h; exact ⟨_,hv⟩
 | len0=>injection h with h; subst h; exact ⟨_,hv⟩
 | _=>cases h
def zf6 (op:BinOp) (k:IntKind) (y:KT):Option KT :=
 match op with
 | .add | .sub | .mul | .and | .or | .xor=>some (.one (.int k))
 | .rem=>match y with
  | .lit _ n=>cond (eqI n 0) none (some (.one (.int k)))
  | _=>none
 | _=>none
def Pm (op:BinOp) (x y:KT):Option KT:=(asI x).bind fun k=>(asI y).bind fun k'=>cond (decide (k=k')) (zf6 op k y) none
def zbA (op:BinOp) (x y:KT):Option KT :=
 match op with
 | .lss=>match x,y with
  | .ix0,.len0=>some .flag0
  | _,_=>none
 | .add=>match x,y with
  | .ix0,.lit .i64 n=>cond (eqI n 1) (some .nx0) none
  | x,y=>Pm .add x y
 | op=>Pm op x y
variable {P:Program} {tb:Tb} {B:Nat} {w:World} {v0:Value} {i0:Int}
theorem DI (hT:uW P tb) {op:BinOp} {t:TypeId} {k:IntKind} {a b:Int} {av:AV} (h:WA op k a b some=some av) (ox oy:Operand) :
  ∃ z,((do eqGuard op t ox oy (.int k a) (.int k b); binOp op t (.int k a) (.int k b)):Sem Value).run P w = .ok z w∧RAV (mem w) (ghF B w) Xa (fun _=>False) av z:=by
 obtain⟨z,av',h1,h2,h3⟩:=Jy hT (w:=w) (g:=ghF B w) (H:=Xa) (hv:=Xa) (U:=fun _=>False) (fun b=>.inr rfl) (op:=op) (t:=t) (a:=.val 2 (.int k) a) (b:=.val 2 (.int k) b) (κ:=some) (x:=av) (by
  show cond (decide (k=k)) (WA op k a b some) none=some av;rw[decide_eq_true rfl,cond_true,h]) (v:=.int k a) (u:=.int k b) (rfl:bN k a=bN k a) (rfl:bN k b=bN k b) ox oy
 injection h2 with h2;subst h2;exact ⟨z,h1,h3⟩
theorem A6 (hT:uW P tb) {op:BinOp} {t:TypeId} {x y r:KT} (h:Pm op x y=some r) {v u:Value} (hv:KV (mem w) (free B w) v0 i0 x v) (hu:KV (mem w) (free B w) v0 i0 y u) (ox oy:Operand) :
  ∃ z,((do eqGuard op t ox oy v u; binOp op t v u):Sem Value).run P w = .ok z w∧KV (mem w) (free B w) v0 i0 r z:=by
 unfold Pm at h;obtain⟨k,hk,hh⟩:=ag.1 h;clear h;obtain⟨k',hk',h⟩:=ag.1 hh;clear hh;by_cases he:k=k'
 ·subst he;rw[decide_eq_true rfl,cond_true] at h;obtain⟨a,rfl⟩:=No hk hv;obtain⟨b,rfl⟩:=No hk' hu;have key:∀ q:Int,r = .one (.int k)->WA op k a b some=some (.val 2 (.int k) q)->∃ z,((do eqGuard op t ox oy (.int k a) (.int k b); binOp op t (.int k a) (.int k b)):Sem Value).run P w = .ok z w∧KV (mem w) (free B w) v0 i0 r z:=fun q hr hq=>by
   obtain⟨z,h1,h2⟩:=DI (B:=B) (w:=w) (t:=t) hT hq ox oy;have h2:z = .int k q:=h2;exact ⟨z,h1,by rw[hr,h2]; exact ⟨q,rfl⟩⟩
  unfold zf6 at h;cases op with
  | add=>exact key _ (by injection h with h; exact h.symm) rfl
  | sub=>exact key _ (by injection h with h; exact h.symm) rfl
  | mul=>exact key _ (by injection h with h; exact h.symm) rfl
  | and=>exact key _ (by injection h with h; exact h.symm) rfl
  | or=>exact key _ (by injection h with h; exact h.symm) rfl
  | xor=>exact key _ (by injection h with h; exact h.symm) rfl
  | rem =>
   simp only at h;cases y with
   | lit k2 n =>
    simp only at h;cases hn:eqI n 0 with
    | true=>rw[hn] at h; cases h
    | false =>
     rw[hn,cond_false] at h;have hu:bN k b = .int k2 n:=hu;injection hu with e1 e2;subst e2;have hb:¬ b=0:=fun e=>by
      subst e;simp [eqI] at hn
     refine key (a.tmod b) (by injection h with h; exact h.symm) ?_
     show cond (decide (b=0)) none _=_;rw[decide_eq_false hb]; rfl
   | _=>cases h
  | _=>cases h
 ·rw[decide_eq_false he] at h; cases h
theorem R9 (hT:uW P tb) {op:BinOp} {t:TypeId} {x y r:KT} (h:zbA op x y=some r) {v u:Value} (hv:KV (mem w) (free B w) v0 i0 x v) (hu:KV (mem w) (free B w) v0 i0 y u) (ox oy:Operand) :
  ∃ z,((do eqGuard op t ox oy v u; binOp op t v u):Sem Value).run P w = .ok z w∧KV (mem w) (free B w) v0 i0 r z:=by
 unfold zbA at h;split at h
 ·split at h
  ·injection h with h;subst h;have hv:v = .int .i64 i0:=hv;have hu:u = .int .i64 (Fz v0:Int):=hu;subst hv; subst hu;obtain⟨z,h1,h2⟩:=DI (B:=B) (w:=w) (t:=t) (op:=.lss) (k:=.i64) (a:=i0) (b:=(Fz v0:Int)) (av:=.val 2 .bool (decide (i0<(Fz v0:Int)))) hT rfl ox oy;exact ⟨z,h1,h2⟩
  ·cases h
 ·split at h
  ·rename_i n;cases hn:eqI n 1 with
   | false=>rw[hn] at h; cases h
   | true =>
    rw[hn,cond_true] at h;injection h with h;subst h;have hn:n=1:=by simpa[eqI] using hn
    subst hn;have hv:v = .int .i64 i0:=hv;have hu:u = .int .i64 1:=hu;subst hv; subst hu;obtain⟨z,h1,h2⟩:=DI (B:=B) (w:=w) (t:=t) (op:=.add) (k:=.i64) (a:=i0) (b:=1) (av:=.val 2 (.int .i64) (IntKind.i64.wrap (i0+1))) hT rfl ox oy;exact ⟨z,h1,h2⟩
  ·exact A6 hT h hv hu ox oy
 ·exact A6 hT h hv hu ox oy
def zbt:List Ty->Option Tys
 | []=>none
 | [t]=>some (.one t)
 | t::u::r=>(zbt (u::r)).map (.cons t)
theorem TA {c c':Mem} {A A':Reg} (hA:∀ b o,A b o->A' b o∧c' b o=c b o):(l:List Ty)->{ts:Tys}->{vs:List Value}->{b o:Nat}->zbt l=some ts->RawL c A l vs->(∀(j:Nat) (v:Value),vs[j]? = some v->A' b (o+j)∧c' b (o+j)=some v) ->
  ∃ x,RC c' A' A' ts x b o
 | [],_,_,_,_,h,_,_=>by cases h
 | [t],ts,vs,b,o,h,hr,hc=>by
  injection h with h; subst h;obtain⟨v,us,rfl,⟨x,hx⟩,-⟩:=hr;obtain⟨h1,h2⟩:=hc 0 v rfl;refine ⟨x,?_⟩;simp only[RC];exact ⟨h1,v,h2,RE.mono hA t x v hx⟩
 | t::u::r,ts,vs,b,o,h,hr,hc=>by
  obtain⟨us',h1,rfl⟩:=bg.1 h;obtain⟨v,us,rfl,⟨x,hx⟩,hr⟩:=hr;obtain⟨y,hy⟩:=TA hA (u::r) (b:=b) (o:=o+1) h1 hr (fun j v hv=>by rw[bI,cN 1 j]; exact hc (j+1) v (by simpa using hv))
  obtain⟨h2,h3⟩:=hc 0 v rfl;refine ⟨(x,y),?_⟩;simp only[RC];exact ⟨⟨h2,v,h3,RE.mono hA t x v hx⟩,hy⟩
theorem RC.atTy {c:Mem} {A T:Reg}:(ts:Tys)->(x:Tup ts)->(b o:Nat)->RC c A T ts x b o->∀(f:Nat) (t:Ty),(Jl ts)[f]? = some t->T b (o+f)∧∃ u y,c b (o+f)=some u∧RE c A t y u
 | .one t,x,b,o,hr,0,u,h=>by
  injection h with h; subst h;simp only[RC] at hr;exact ⟨hr.1,_,x,hr.2.choose_spec.1,hr.2.choose_spec.2⟩
 | .one t,x,b,o,hr,f+1,u,h=>by simp [Jl] at h
 | .cons t ts,x,b,o,hr,0,u,h=>by
  injection h with h; subst h;simp only[RC] at hr;exact ⟨hr.1.1,_,x.1,hr.1.2.choose_spec.1,hr.1.2.choose_spec.2⟩
 | .cons t ts,x,b,o,hr,f+1,u,h=>by
  simp only[RC] at hr;have:=RC.atTy ts x.2 b (o+1) hr.2 f u (by simpa[Jl] using h)
  rwa [show o+1+f=o+(f+1) from by omega] at this
def Fv (tb:Tb) (sp:FuncId->Option (List KT)) (inb:Bool) (τ:Nat->KT):Op->Option KT
 | .move x=>some (tyK τ x)
 | .assign x=>some (tyK τ x)
 | .load t p=>match tyK τ p with
  | .rp ts f=>LE tb t ts f
  | _=>none
 | .store t p v=>match tyK τ p,tb t with
  | .rp ts f,some (.int k)=>match (Jl ts)[f]?,asI (tyK τ v) with
   | some (.int k'),some k''=>cond (decide (k=k')&&decide (k=k'')) (some .any) none
   | _,_=>none
  | _,_=>none
 | .binOp op _ x y _=>zbA op (tyK τ x) (tyK τ y)
 | .fieldAddr s x f=>match tyK τ x with
  | .rp ts g=>(tb s).bind fun td=>(YO td f).bind fun q=>some (.rp ts (g+q.2))
  | _=>none
 | .indexAddr t x i=>match tyK τ x,tyK τ i,tb t with
  | .sl0 ts,.ix0,some (.sl _ us _)=>cond (ay ts.size us.size&&inb) (some (.rp ts 0)) none
  | _,_,_=>none
 | .box t x=>match tyK τ x,tb t with
  | .agg l,some (.st _ _)=>(zbt l).map fun ts=>.rp ts 0
  | _,_=>none
 | .call c=>match c.callee with
  | .value (.func g)=>(sp g).bind fun ps=>cond (N9 ps (c.args.toList.map (tyK τ))) (some .any) none
  | .builtin .len=>match c.args[0]?,c.argTypes[0]? with
   | some x,some t=>match tyK τ x,tb t with
    | .sl0 _,some (.sl _ _ _)=>some .len0
    | _,_=>none
   | _,_=>none
  | _=>none
 | _=>none
theorem FZ {n:Nat} {d:List Deferred} {W:Nat->Prop} {a0:Act} {τ:Nat->KT} {a:Act} (h:SNow n d B v0 i0 W a0 τ a w):(os:List Operand)->KVs (mem w) (free B w) v0 i0 (os.map (tyK τ)) (os.map a.eval)
 | []=>rfl
 | o::os=>⟨_,_,rfl,UQ h o,FZ h os⟩
theorem zb9 {B:Nat} {w:World} {b o:Nat} (h:free B w b o):b<w.heap.size:=Abs.mem_lt h.2.1
theorem D2 (hBw:B<=w.heap.size) (ob:Obj):SpoilW B w (w.alloc ob) where
 rows j hj:=xz w ob (cG hj hBw)
 size:=by simp
 frz b o hs:=q9 (xz w ob (Abs.mem_lt hs)) o
 cells b o hs:=.inl (zv (xz w ob (Abs.mem_lt hs)) o)
 os:=rfl
 tape:=rfl
 output:=rfl
def InB (v0:Value) (i0:Int):Prop:=0<=i0∧i0<(Fz v0:Int)
theorem zbW (hT:uW P tb) {sp:FuncId->Option (List KT)} (hsp:∀ f ps,sp f=some ps->vw P f ps) (hBw:B<=w.heap.size) {inb:Bool} (hin:inb=true->InB v0 i0) {n:Nat} {d:List Deferred} {W:Nat->Prop} {a0:Act} {τ:Nat->KT} {a:Act} (h:SNow n d B v0 i0 W a0 τ a w)
  {o:Oper} {k:KT} (ht:Fv tb sp inb τ o.op=some k):Does P (execOp a.eval o) w fun v w'=>SpoilW B w w'∧KV (mem w') (free B w') v0 i0 k v:=by
 have hev:=fun q=>UQ h q;unfold execOp;cases hop:o.op with
 | move x =>
  simp only[hop,Fv] at ht ⊢;injection ht with ht;subst ht;exact ⟨SpoilW.refl,hev x⟩
 | assign x =>
  simp only[hop,Fv] at ht ⊢;injection ht with ht;subst ht;exact ⟨SpoilW.refl,hev x⟩
 | load t p =>
  simp only[hop,Fv] at ht ⊢;split at ht
  ·rename_i ts f hp;have hr:=hev p;rw[hp] at hr;obtain⟨b,o',hv,x,hx⟩:=hr;obtain⟨z,h1,h2⟩:=zaf (v0:=v0) (i0:=i0) hT ht hx;rw[hv];exact Does.value h1 ⟨SpoilW.refl,h2⟩
  ·cases ht
 | store t p v =>
  simp only[hop,Fv] at ht ⊢;split at ht
  ·rename_i ts f k1 hp htb;split at ht
   ·rename_i k2 k3 hk2 hk3;cases hc:decide (k1=k2)&&decide (k1=k3) with
    | false=>rw[hc] at ht; cases ht
    | true =>
     rw[hc,cond_true] at ht;injection ht with ht;subst ht;simp only[aw,decide_eq_true_eq] at hc;obtain⟨rfl,rfl⟩:=hc;have hr:=hev p;rw[hp] at hr;obtain⟨b,o',hv,x,hx⟩:=hr;obtain⟨h1,u,y,h2,h3⟩:=RC.atTy ts x b o' hx f _ hk2;obtain⟨m,hm⟩:=No hk3 (hev v);have h3:u = .int k1 y:=h3;subst h3;obtain⟨h4,h5⟩:=P2 (P:=P) hT hBw (m:=m) htb h1 h2;rw[hv,hm];exact Does.skip h4 ⟨h5,trivial⟩
   ·cases ht
  ·cases ht
 | binOp op t x y e =>
  simp only[hop,Fv] at ht ⊢;obtain⟨z,h1,h2⟩:=R9 (t:=t) hT ht (hev x) (hev y) x y;exact Does.value h1 ⟨SpoilW.refl,h2⟩
 | fieldAddr s x f =>
  simp only[hop,Fv] at ht ⊢;split at ht
  ·rename_i ts g hx;obtain⟨td,htd,ht⟩:=ag.1 ht;obtain⟨q,hq,ht⟩:=ag.1 ht;injection ht with ht;subst ht;have hr:=hev x;rw[hx] at hr;obtain⟨b,o',hv,y,hy⟩:=hr;obtain⟨z,av,h1,h2,h3⟩:=Zz hT (w:=w) (g:=ghF B w) (H:=Xa) (hv:=Xa) (U:=fun _=>False) (fun b=>.inr rfl) (s:=s) (p:=.eptr 1 ts y g) (f:=f) (κ:=some) (x:=.eptr 1 ts y (g+q.2)) (by
    unfold uJ;rw[htd,af,hq,af]) (show RAV _ _ _ _ _ (a.eval x) from ⟨b,o',hv,by rw[ZK]; exact hy⟩)
   injection h2 with h2;subst h2;obtain⟨b2,o2,h4,h5⟩:=h3;rw[ZK] at h5;exact Does.value h1 ⟨SpoilW.refl,b2,o2,h4,y,h5⟩
  ·cases ht
 | indexAddr t x i =>
  simp only[hop,Fv] at ht ⊢;split at ht
  ·rename_i ts e us n' hx hi htb;cases hb:ay ts.size us.size&&inb with
   | false=>rw[hb] at ht; cases ht
   | true =>
    rw[hb,cond_true] at ht;injection ht with ht;subst ht;simp only[aw] at hb;obtain⟨hi0,hi1⟩:=hin hb.2;have hr:=hev x;rw[hx] at hr;obtain⟨hv,xs,hxs⟩:=hr;have hri:=hev i;rw[hi] at hri;have hri:a.eval i = .int .i64 i0:=hri;have hlen:Fz v0=aa xs:=by
     rw[← hv];simp only[RE] at hxs;obtain⟨_,_,h1,_⟩:=hxs;rw[h1]; rfl
    have hlt:i0.toNat<aa xs:=by omega
    have hg:gx (xs:List (Tup ts)) i0=some ((show List (Tup ts) from xs)[i0.toNat]'hlt):=by
     unfold gx;simp only[hi0,decide_true,cond_true];exact al (l:=(show List (Tup ts) from xs)) hlt
    obtain⟨z,av,h1,h2,h3⟩:=Zq hT (zia P B w) (fun b=>.inr rfl) (t:=t) (a:=.val 1 (.sl ts) xs) (i:=.val 2 (.int .i64) i0) (κ:=some) (x:=.eptr 1 ts ((show List (Tup ts) from xs)[i0.toNat]'hlt) 0) (by
     unfold uO;rw[htb];simp only;rw[hb.1,cond_true,hg];rfl) (show RVal (mem w) ((ghF B w).S 1) (.sl ts) xs (a.eval x) from (by rw[ZK]; exact hxs)) (show RVal (mem w) ((ghF B w).S 2) (.int .i64) i0 (a.eval i) from hri)
    injection h2 with h2;subst h2;obtain⟨b2,o2,h4,h5⟩:=h3;rw[ZK] at h5;exact Does.value h1 ⟨SpoilW.refl,b2,o2,h4,_,h5⟩
  ·cases ht
 | box t x =>
  simp only[hop,Fv] at ht ⊢;split at ht
  ·rename_i l fs m hx htb;obtain⟨ts,h1,rfl⟩:=bg.1 ht;have hr:=hev x;rw[hx] at hr;obtain⟨vs,hv,hl⟩:=hr;rw[hv];refine Does.value (v:=.pointer (some ⟨w.heap.size,0,none⟩)) (w':=w.alloc (.cells vs t)) ?_ ?_
   ·simp [Instr.box,newVar,newRow,gf]
   ·have hsp':=D2 hBw (.cells vs t);have hnew:(w.alloc (.cells vs t)).heap[w.heap.size]? = some (.cells vs t (0,0)):=sK w (.cells vs t);refine ⟨hsp',w.heap.size,0,rfl,TA (c:=mem w) (A:=free B w) (fun b o' hf=>⟨hsp'.free hf,zv (xz w _ (zb9 hf)) o'⟩) l h1 hl fun j v hj => ?_⟩;have hm:mem (w.alloc (.cells vs t)) w.heap.size (0+j)=some v:=by
     rw[zt hnew,aN,← aH];exact hj
    exact ⟨⟨hBw,by rw[hm]; rfl,QS hnew _⟩,hm⟩
  ·cases ht
 | call c =>
  simp only[hop,Fv] at ht ⊢;split at ht
  ·rename_i q hc;obtain⟨ps,hps,ht⟩:=ag.1 ht;cases hf:N9 ps (c.args.toList.map (tyK τ)) with
   | false=>rw[hf] at ht; cases ht
   | true =>
    rw[hf,cond_true] at ht;injection ht with ht;subst ht;have hrun:(do let d ← resolve a.eval c o.type; invoke d.target d.args:Sem Next)=callFunc q (c.args.map a.eval):=by
     simp [resolve,hc,Act.eval,fX,invoke]
    rw[hrun];refine (hsp q ps hps B w (c.args.map a.eval) v0 i0 hBw ?_).mono fun v w' hw=>⟨hw,trivial⟩;rw[Array.toList_map];exact Ci ps _ hf (FZ h c.args.toList)
  ·rename_i hc;have hrun:∃ cs,(do let d ← resolve a.eval c o.type; invoke d.target d.args:Sem Next)=builtin .len c.argTypes o.type cs (c.args.map a.eval) :=
    ⟨_,by simp only[resolve,hc,pure_bind,invoke]; rfl⟩
   obtain⟨cs,hrun⟩:=hrun;rw[hrun];split at ht
   ·rename_i y t hy hty;split at ht
    ·rename_i ts e us n' hyk htb;injection ht with ht;subst ht;have hr:=hev y;rw[hyk] at hr;obtain⟨hv,xs,hxs⟩:=hr;have hlen:Fz v0=aa xs:=by
      rw[← hv];simp only[RE] at hxs;obtain⟨_,_,h1,_⟩:=hxs;rw[h1]; rfl
     obtain⟨ar,har⟩:∃ ar,c.args.toList=y::ar:=by
      cases hl:c.args.toList with
      | nil=>rw[← aH,hl] at hy; cases hy
      | cons q ar=>rw[← aH,hl] at hy; injection hy with hy; subst hy; exact ⟨ar,rfl⟩
     obtain⟨tr,htr⟩:∃ tr,c.argTypes.toList=t::tr:=by
      cases hl:c.argTypes.toList with
      | nil=>rw[← aH,hl] at hty; cases hty
      | cons q ar=>rw[← aH,hl] at hty; injection hty with hty; subst hty; exact ⟨ar,rfl⟩
     obtain⟨z,av,h1,h2,h3⟩:=Jx hT (w:=w) (g:=ghF B w) (H:=Xa) (hv:=Xa) (U:=fun _=>False) (fun b=>.inr rfl) (t:=t) (ty:=o.type) (ts:=tr) (us:=ar.map a.eval) (a:=.val 1 (.sl ts) xs) (κ:=some) (x:=.val 2 (.int .i64) (aa xs:Int)) (by
      unfold Tz;rw[htb]) (v:=a.eval y) (show RVal (mem w) ((ghF B w).S 1) (.sl ts) xs (a.eval y) from (by rw[ZK]; exact hxs))
     injection h2 with h2;subst h2;have e1:c.argTypes=(t::tr).toArray:=by rw[← htr]
     have e2:c.args.map a.eval=(a.eval y::ar.map a.eval).toArray:=by
      apply Array.ext';simp [har]
     rw[e1,e2];refine Does.value h1 ⟨SpoilW.refl,?_⟩;have h3:z = .int .i64 (aa xs:Int):=h3;show z = .int .i64 (Fz v0:Int);rw[h3,hlen]
    ·cases ht
   ·cases ht
  ·cases ht
 | _=>simp only[hop,Fv] at ht; cases ht
end
section
def I0 (tb:Tb) (sp:FuncId->Option (List KT)) (inb:Bool) (n:Nat):List Oper->(Nat->KT)->Option (Nat->KT)
 | [],τ=>some τ
 | o::r,τ=>cond (Qh n o&&o.guard.isNone) ((Fv tb sp inb τ o.op).bind fun t=>I0 tb sp inb n r (zgp τ o.dst t)) none
def tyB (tb:Tb) (sp:FuncId->Option (List KT)) (inb:Bool) (n:Nat):Code->(Nat->KT)->Option (Nat->KT)
 | .skip,τ=>some τ
 | .region _ ops false,τ=>I0 tb sp inb n ops.toList τ
 | .seq a b,τ=>(tyB tb sp inb n a τ).bind fun τ=>tyB tb sp inb n b τ
 | .block _ c,τ=>tyB tb sp inb n c τ
 | _,_=>none
def zh9:KT->Option Tys
 | .one (.sl ts)=>some ts
 | _=>none
def isZ:KT->Bool
 | .lit .i64 n=>eqI n 0
 | _=>false
def UN:KT->Bool
 | .flag0=>true
 | _=>false
def zh2:KT->Bool
 | .nx0=>true
 | _=>false
def zbs (ts:Tys):KT->Bool
 | .sl0 us=>decide (ts=us)
 | _=>false
def zdz:List Oper->Option (Nat×Nat)
 | o0::o1::_=>match o0.op,o1.op with
  | .move (.tmp i),.move (.tmp s)=>some (i,s)
  | _,_=>none
 | _=>none
def NV (s i:Nat) (ts:Tys):Nat->KT:=fun t=>cond (ay t s) (.sl0 ts) (cond (ay t i) .ix0 .any)
def MS (tb:Tb) (sp:FuncId->Option (List KT)) (n:Nat) (hdr:Array Oper) (c:Tmp) (body:Code) (post:Array Oper) (τ:Nat->KT):Option (Nat->KT) :=
 (zdz hdr.toList).bind fun p=>(zh9 (τ p.2)).bind fun ts=>cond (isZ (τ p.1) && !(ay p.1 p.2)) ((I0 tb sp false n hdr.toList (NV p.2 p.1 ts)).bind fun τ1=>cond (UN (τ1 c))
  ((tyB tb sp true n body τ1).bind fun τ2=>(I0 tb sp false n post.toList τ2).bind fun τ3=>cond (zbs ts (τ3 p.2)&&zh2 (τ3 p.1)) (some fun _=>.any) none) none) none
def tyC (tb:Tb) (sp:FuncId->Option (List KT)) (n:Nat):Code->(Nat->KT)->Option (Nat->KT)
 | .skip,τ=>some τ
 | .region _ ops false,τ=>I0 tb sp false n ops.toList τ
 | .seq a b,τ=>(tyC tb sp n a τ).bind fun τ=>tyC tb sp n b τ
 | .block b (.loop (.seq (.seq (.region _ hdr false) (.cond (.tmp c) .skip (.exit b'))) (.seq body (.region _ post false)))),τ=>cond (ay b b') (MS tb sp n hdr c body post τ) none
 | _,_=>none
variable {P:Program} {tb:Tb} {sp:FuncId->Option (List KT)}
def Nn (n:Nat) (d:List Deferred) (B:Nat) (v0:Value) (i0:Int) (W:Nat->Prop) (a0:Act) (τ:Nat->KT) (w:World):Exit->Act->World->Prop:=fun e a' w'=>e = .normal∧SpoilW B w w'∧SNow n d B v0 i0 W a0 τ a' w'
theorem AF (hT:uW P tb) (hsp:∀ f ps,sp f=some ps->vw P f ps) {B:Nat} {v0:Value} {i0:Int} {inb:Bool} (hin:inb=true->InB v0 i0) {n:Nat} {d:List Deferred} {W:Nat->Prop} {a0:Act} {ops:Array Oper} {Q:Exit->Act->World->Prop}:(r:List Oper)->(i:Nat)->ops.toList.drop i=r->(∀ o,o∈r->∀ x,o.dst=some x->W x) ->
  ∀{τ τ':Nat->KT} {a:Act} {w:World},B<=w.heap.size->SNow n d B v0 i0 W a0 τ a w->I0 tb sp inb n r τ=some τ'->(∀ a' w',SpoilW B w w'->SNow n d B v0 i0 W a0 τ' a' w'->Q .normal a' w')->wpOps P ops Q (List.range' i r.length) a w
 | [],i,_,_,τ,τ',a,w,_,hn,ht,hQ=>by
  injection ht with ht;subst ht;exact hQ a w SpoilW.refl hn
 | o::r,i,hi,hW,τ,τ',a,w,hBw,hn,ht,hQ=>by
  have ho:ops[i]? = some o:=by
   have:ops.toList[i]? = some o:=by rw[← List.head?_drop,hi]; rfl
   simpa using this
  have hr:ops.toList.drop (i+1)=r:=by rw[← List.tail_drop,hi]; rfl
  unfold I0 at ht;cases hc:Qh n o&&o.guard.isNone with
  | false=>rw[hc] at ht; cases ht
  | true =>
   rw[hc,cond_true] at ht;simp only[aw,Option.isNone_iff_eq_none] at hc;obtain⟨t,ht1,ht2⟩:=ag.1 ht;rw[aj,List.range'_succ,wpOps_cons];unfold wpOp;rw[ho];have hwant:eM o (yielded ops a.tmps)=true:=by
    unfold eM;rw[hc.2]
   simp only[hwant,if_true];refine .inl ((zbW hT hsp hBw hin hn ht1).wp fun v w' hv => ?_);obtain⟨hs,hk⟩:=hv;exact AF hT hsp hin r (i+1) hr (fun o ho=>hW o (by simp [ho])) (aK hBw hs.size) ((hn.spoil hs).put hc.1 (hW o (by simp)) hk) ht2 fun a' w' hs' hn'=>hQ a' w' (hs.trans hs') hn'
theorem W3 (hT:uW P tb) (hsp:∀ f ps,sp f=some ps->vw P f ps) {B:Nat} {v0:Value} {i0:Int} {inb:Bool} (hin:inb=true->InB v0 i0) {n:Nat} {d:List Deferred} {W:Nat->Prop} {a0:Act} {id:Nat} {ops:Array Oper} (hW:∀ x,x∈sr (.region id ops false)->W x) {τ τ':Nat->KT} {a:Act} {w:World} (hBw:B<=w.heap.size)
  (hn:SNow n d B v0 i0 W a0 τ a w) (ht:I0 tb sp inb n ops.toList τ=some τ'):(gd id ops false).wp P (Nn n d B v0 i0 W a0 τ' w) a w:=by
 refine wp_region ?_;rw[List.range_eq_range'];have:=AF (Q:=Nn n d B v0 i0 W a0 τ' w) (ops:=ops) hT hsp hin ops.toList 0 rfl (fun o ho x hx=>hW x (List.mem_filterMap.2 ⟨o,ho,hx⟩)) hBw hn ht fun a' w' hs hn'=>⟨rfl,hs,hn'⟩;rwa [aL] at this
theorem ze6 (hT:uW P tb) (hsp:∀ f ps,sp f=some ps->vw P f ps) {B:Nat} {v0:Value} {i0:Int} {inb:Bool} (hin:inb=true->InB v0 i0) {n:Nat} {d:List Deferred} {W:Nat->Prop} {a0:Act}:(c:Code)->(∀ x,x∈sr c->W x)->∀{τ τ':Nat->KT} {a:Act} {w:World},B<=w.heap.size ->
  SNow n d B v0 i0 W a0 τ a w->tyB tb sp inb n c τ=some τ'->c.wp P (Nn n d B v0 i0 W a0 τ' w) a w:=by
 intro c
 induction c with
 | skip =>
  intro hW τ τ' a w hBw hn ht;injection ht with ht;subst ht;exact wp_skip ⟨rfl,SpoilW.refl,hn⟩
 | region id ops draw =>
  intro hW τ τ' a w hBw hn ht;cases draw with
  | true=>cases ht
  | false=>exact W3 hT hsp hin hW hBw hn ht
 | seq c1 c2 ih1 ih2 =>
  intro hW τ τ' a w hBw hn ht;obtain⟨τ1,h1,h2⟩:=ag.1 ht;refine wp_seq (wp_mono (ih1 (fun x hx=>hW x (bl _ hx)) hBw hn h1) ?_);rintro e a1 w1 ⟨rfl,hs1,hn1⟩;refine wp_mono (ih2 (fun x hx=>hW x (bm _ hx)) (aK hBw hs1.size) hn1 h2) ?_;rintro e a2 w2 ⟨rfl,hs2,hn2⟩;exact ⟨rfl,hs1.trans hs2,hn2⟩
 | block b c ih =>
  intro hW τ τ' a w hBw hn ht;refine wp_block (wp_mono (ih hW hBw hn ht) ?_);rintro e a1 w1 ⟨rfl,hs1,hn1⟩;exact ⟨rfl,hs1,hn1⟩
 | _=>intro hW τ τ' a w hBw hn ht; cases ht
theorem zcl {n:Nat} {d:List Deferred} {B:Nat} {v0 u0:Value} {i0 j0:Int} {W:Nat->Prop} {a0:Act} {τ:Nat->KT} {a:Act} {w:World} (h:SNow n d B v0 i0 W a0 τ a w):SNow n d B u0 j0 W a0 (fun _=>.any) a w:=⟨fun _=>trivial,h.n,h.d,h.keep⟩
theorem Oz (hT:uW P tb) (hsp:∀ f ps,sp f=some ps->vw P f ps) {B:Nat} {n:Nat} {d:List Deferred} {W:Nat->Prop} {a0:Act} {b id1 id2:Nat} {hdr post:Array Oper} {c:Tmp} {body:Code} (hW:∀ x,x∈sr (.block b (.loop (.seq (.seq (.region id1 hdr false) (.cond (.tmp c) .skip (.exit b))) (.seq body (.region id2 post false)))))->W x) {τ τ':Nat->KT} {a:Act} {w:World} {v0:Value} {i0:Int} (hBw:B<=w.heap.size)
  (hn:SNow n d B v0 i0 W a0 τ a w) (ht:MS tb sp n hdr c body post τ=some τ') :
  (Code.block b (.loop (.seq (.seq (.region id1 hdr false) (.cond (.tmp c) .skip (.exit b))) (.seq body (.region id2 post false))))).wp P (Nn n d B v0 i0 W a0 τ' w) a w:=by
 unfold MS at ht;obtain⟨⟨i,s⟩,-,ht⟩:=ag.1 ht;obtain⟨ts,hts,ht⟩:=ag.1 ht;simp only at hts ht;cases hc:isZ (τ i) && !(ay i s) with
 | false=>rw[hc] at ht; cases ht
 | true =>
  rw[hc,cond_true] at ht;simp only[aw,bZ] at hc;obtain⟨hz,his⟩:=hc;obtain⟨τ1,h1,ht⟩:=ag.1 ht;cases hfl:UN (τ1 c) with
  | false=>rw[hfl] at ht; cases ht
  | true =>
   rw[hfl,cond_true] at ht;obtain⟨τ2,h2,ht⟩:=ag.1 ht;obtain⟨τ3,h3,ht⟩:=ag.1 ht;cases hend:zbs ts (τ3 s)&&zh2 (τ3 i) with
   | false=>rw[hend] at ht; cases ht
   | true =>
    rw[hend,cond_true] at ht;injection ht with ht;subst ht;simp only[aw] at hend;have hflag:τ1 c = .flag0:=by
     cases hx:τ1 c<;>rw[hx] at hfl<;>first | rfl | cases hfl
    have hsl3:τ3 s = .sl0 ts:=by
     cases hx:τ3 s with
     | sl0 us =>
      have h:=hend.1;rw[hx] at h;simp only[zbs,decide_eq_true_eq] at h;rw[h]
     | _=>have h:=hend.1; rw[hx] at h; cases h
    have hnx3:τ3 i = .nx0:=by
     cases hx:τ3 i<;>first | rfl | (have h:=hend.2; rw[hx] at h; cases h)
    -- the slice
    have hs0:=hn.fr s;have hτs:τ s = .one (.sl ts):=by
     unfold zh9 at hts;split at hts
     ·rename_i us hx;injection hts with hts;rw[hx,hts]
     ·cases hts
    rw[hτs] at hs0;obtain⟨xs,hxs⟩:=hs0;have hi0:=hn.fr i;have hτi:∃ m,τ i = .lit .i64 m∧m=0:=by
     unfold isZ at hz;split at hz
     ·rename_i m hx;exact ⟨m,hx,by simpa[eqI] using hz⟩
     ·cases hz
    obtain⟨m,hm,rfl⟩:=hτi;rw[hm] at hi0;have hi0:a.tmps.getD i undef = .int .i64 0:=hi0;generalize hu0:a.tmps.getD s undef=u0 at hxs;have hlen:∃ ad cap,u0 = .slice ad (aa xs) cap∧aa xs<=9223372036854775807:=by
     have h:=hxs;simp only[RE] at h;obtain⟨ad,cap,h1,⟨⟨h2,h3⟩,-⟩,-⟩:=h;exact ⟨ad,cap,h1,aK h2 h3⟩
    obtain⟨ad,cap,hu,hmax⟩:=hlen;have hlv:Fz u0=aa xs:=by rw[hu]; rfl
    have hstart:SNow n d B u0 ((0:Nat):Int) W a0 (NV s i ts) a w:=by
     refine ⟨fun t => ?_,hn.n,hn.d,hn.keep⟩;unfold NV;cases hb1:ay t s with
     | true =>
      have:=am hb1;subst this;exact ⟨hu0,xs,by rw[hu0]; exact hxs⟩
     | false =>
      cases hb2:ay t i with
      | true =>
       have:=am hb2;subst this;exact hi0
      | false=>trivial
    have hW1:∀ x,x∈sr (.region id1 hdr false)->W x:=fun x hx=>hW x (bl _ (bl _ hx));have hW2:∀ x,x∈sr body->W x:=fun x hx=>hW x (bm _ (bl _ hx));have hW3:∀ x,x∈sr (.region id2 post false)->W x:=fun x hx=>hW x (bm _ (bm _ hx));have rounds:∀(k j:Nat) (a1:Act) (w1:World),j+k=aa xs+1->0<k->SpoilW B w w1->SNow n d B u0 (j:Int) W a0 (NV s i ts) a1 w1 ->
      ge P (.seq (.seq (.region id1 hdr false) (.cond (.tmp c) .skip (.exit b))) (.seq body (.region id2 post false))) (fun e a' w'=>e = .exit b∧SpoilW B w w'∧SNow n d B v0 i0 W a0 (fun _=>.any) a' w') k a1 w1:=by
     intro k
     induction k with
     | zero=>intro j a1 w1 _ h0; omega
     | succ k ih =>
      intro j a1 w1 hjk _ hsw hnw;rw[rounds_succ];have hB1:B<=w1.heap.size:=aK hBw hsw.size;refine wp_seq (wp_seq (wp_mono (W3 hT hsp (inb:=false) (fun h=>by cases h) hW1 hB1 hnw h1) ?_))
      rintro e a2 w2 ⟨rfl,hs2,hn2⟩;have hB2:B<=w2.heap.size:=aK hB1 hs2.size;have hcnd:=hn2.fr c;rw[hflag] at hcnd;have hcnd:a2.eval (.tmp c) = .bool (decide ((j:Int)<(Fz u0:Int))):=hcnd;show (Code.cond (.tmp c) .skip (.exit b)).wp P _ a2 w2;refine wp_cond hcnd ?_;by_cases hlt:(j:Int)<(Fz u0:Int)
      ·rw[decide_eq_true hlt,if_pos rfl];refine wp_skip ?_;show (gV body (.region id2 post false)).wp P _ a2 w2;have hin:InB u0 (j:Int):=⟨by omega,hlt⟩
       refine wp_seq (wp_mono (ze6 hT hsp (inb:=true) (fun _=>hin) body hW2 hB2 hn2 h2) ?_);rintro e a3 w3 ⟨rfl,hs3,hn3⟩;have hB3:B<=w3.heap.size:=aK hB2 hs3.size;show (gd id2 post false).wp P _ a3 w3;refine wp_mono (W3 hT hsp (inb:=false) (fun h=>by cases h) hW3 hB3 hn3 h3) ?_
       rintro e a4 w4 ⟨rfl,hs4,hn4⟩;show ge P _ _ k a4 w4;have hjl:j<aa xs:=by rw[hlv] at hlt; omega
       refine ih (j+1) a4 w4 (by omega) (by omega) (((hsw.trans hs2).trans hs3).trans hs4) ?_
       refine ⟨fun t => ?_,hn4.n,hn4.d,hn4.keep⟩;unfold NV;cases hb1:ay t s with
       | true =>
        have:=am hb1;subst this;have h:=hn4.fr t;rw[hsl3] at h;exact h
       | false =>
        cases hb2:ay t i with
        | true =>
         have:=am hb2;subst this;have h:=hn4.fr t;rw[hnx3] at h;have h:a4.tmps.getD t undef = .int .i64 (IntKind.i64.wrap ((j:Int)+1)):=h;show a4.tmps.getD t undef = .int .i64 ((j+1:Nat):Int);rw[h]
         congr 1
         simp [ah,dh,eB];omega
        | false=>trivial
      ·rw[decide_eq_false hlt,if_neg (by decide)]
       refine wp_exit ?_;exact ⟨rfl,hsw.trans hs2,zcl hn2⟩
    refine wp_block (wp_mono (wp_loop_rounds (aa xs+1) (rounds (aa xs+1) 0 a w (by omega) (by omega) SpoilW.refl hstart)) ?_)
    rintro e a' w' ⟨rfl,h4,h5⟩;simp only[Exit.inBlock,if_true];exact ⟨rfl,h4,h5⟩
theorem Tn (hT:uW P tb) (hsp:∀ f ps,sp f=some ps->vw P f ps) {B:Nat} {v0:Value} {i0:Int} {n:Nat} {d:List Deferred} {W:Nat->Prop} {a0:Act}:(c:Code)->(∀ x,x∈sr c->W x)->∀{τ τ':Nat->KT} {a:Act} {w:World},B<=w.heap.size ->
  SNow n d B v0 i0 W a0 τ a w->tyC tb sp n c τ=some τ'->c.wp P (Nn n d B v0 i0 W a0 τ' w) a w:=by
 intro c
 induction c with
 | skip =>
  intro hW τ τ' a w hBw hn ht;injection ht with ht;subst ht;exact wp_skip ⟨rfl,SpoilW.refl,hn⟩
 | region id ops draw =>
  intro hW τ τ' a w hBw hn ht;cases draw with
  | true=>cases ht
  | false=>exact W3 hT hsp (inb:=false) (fun h=>by cases h) hW hBw hn ht
 | seq c1 c2 ih1 ih2 =>
  intro hW τ τ' a w hBw hn ht;obtain⟨τ1,h1,h2⟩:=ag.1 ht;refine wp_seq (wp_mono (ih1 (fun x hx=>hW x (bl _ hx)) hBw hn h1) ?_);rintro e a1 w1 ⟨rfl,hs1,hn1⟩;refine wp_mono (ih2 (fun x hx=>hW x (bm _ hx)) (aK hBw hs1.size) hn1 h2) ?_;rintro e a2 w2 ⟨rfl,hs2,hn2⟩;exact ⟨rfl,hs1.trans hs2,hn2⟩
 | block b c ih =>
  intro hW τ τ' a w hBw hn ht;unfold tyC at ht;split at ht
  all_goals first | (rename_i heq; cases heq; done) | skip
  ·rename_i b1 id1 hdr c1 b2 body id2 post heq;injection heq with e1 e2;subst e1; subst e2;cases hb:ay b b2 with
   | false=>rw[hb] at ht; cases ht
   | true =>
    rw[hb,cond_true] at ht;have:=am hb;subst this;exact Oz hT hsp hW hBw hn ht
  ·cases ht
 | _=>intro hW τ τ' a w hBw hn ht; cases ht
def zgt (ps:List KT):Nat->KT:=fun t=>(ps[t]?).getD .any
theorem KVs.get {c:Mem} {A:Reg} {v0:Value} {i0:Int}:(ps:List KT)->{vs:List Value}->KVs c A v0 i0 ps vs->vs.length=ps.length∧∀(t:Nat) (k:KT),ps[t]? = some k->∃ v,vs[t]? = some v∧KV c A v0 i0 k v
 | [],vs,h=>by
  have h:vs=[]:=h;subst h;exact ⟨rfl,fun t k ht=>by simp at ht⟩
 | p::ps,vs,h=>by
  obtain⟨v,us,rfl,h1,h2⟩:=h;obtain⟨h3,h4⟩:=KVs.get ps h2;refine ⟨by simp [h3],fun t k ht => ?_⟩
  cases t with
  | zero=>injection ht with ht; subst ht; exact ⟨v,rfl,h1⟩
  | succ t=>exact h4 t k (by simpa using ht)
theorem Pf {f:FuncId} {fn:Func} {code:Code} {ps:List KT} (hT:uW P tb) (hsp:∀ f ps,sp f=some ps->vw P f ps) (hfn:P.funcs[f]? = some fn) (hnm:(fn.name == "runtime.NumGoroutine")=false) (hb:fn.body=some code) (hr:fn.results = #[])
  (hlen:bQ ps.length fn.ntmps=true) (hc:(tyC tb sp fn.ntmps code (zgt ps)).isSome=true):vw P f ps:=by
 intro B w vs v0 i0 hBw hvs;obtain⟨τ',hτ⟩:=cj.1 hc;obtain⟨hl,hget⟩:=KVs.get ps hvs;have hl:vs.size=ps.length:=by rw[← hl,aL]
 have hle:vs.size<=fn.ntmps:=by rw[hl]; exact bA hlen
 have hnow:SNow fn.ntmps [] B v0 i0 (fun _=>True) { tmps:=vs++cZ (fn.ntmps - vs.size) undef,defers:=[] } (zgt ps) { tmps:=vs++cZ (fn.ntmps - vs.size) undef,defers:=[] } w:=by
  refine ⟨fun t => ?_,by simp; omega,rfl,fun _ h=>absurd trivial h⟩
  unfold zgt;cases hp:ps[t]? with
  | none=>trivial
  | some k =>
   obtain⟨v,hv,hk⟩:=hget t k hp;have ht:t<vs.size:=by rw[hl]; exact (aq.1 hp).1
   have:(vs++cZ (fn.ntmps - vs.size) undef).getD t undef=v:=by
    rw[aV,Array.getElem?_append_left ht,← aH,hv];rfl
   show KV _ _ _ _ k ((vs++cZ (fn.ntmps - vs.size) undef).getD t undef);rw[this];exact hk
 have hwp:=Tn hT hsp code (fun _ _=>trivial) hBw hnow hτ;have hcalls:=calls_of_wp (R:=fun e w'=>∃ v,e = .returned v∧SpoilW B w w') hfn hb (args:=vs) (w:=w) (wp_mono hwp ?_)
 ·unfold Does;rw[kq hfn hnm hb];exact hcalls
 ·rintro e a' w' ⟨rfl,h1,h2⟩;refine ⟨h2.d,?_⟩;have hres:∃ v,(results fn a'.tmps).run P w' = .ok v w':=by
   unfold results;rw[hr];exact ⟨.tuple #[],by simp⟩
  obtain⟨v,hv⟩:=hres;exact ⟨v,hv,v,rfl,h1⟩
end
section
variable {R:Type}
def Y0:List Code->Code->Code
 | [],r=>r
 | c::l,r=>.seq c (Y0 l r)
def VD (l:List Code):List Nat:=l.flatMap sr
def EL (V:Env):List (Code×AC)->St->(XE->St->Option R)->Option R
 | [],st,κ=>κ .normal st
 | p::l,st,κ=>E V p.1 p.2 st fun e st'=>match e with
  | .normal=>EL V l st' κ
  | e=>κ e st'
theorem AN {P:Program} {X:Fx} {V:Env} (hV:VOk P X V) (hn:∀ f c,V.Γ f=some c->c.nat) (hd:P.follows .mixedOrders=true) {rest:Code} {Q:Exit->Act->World->Prop} {κ:XE->St->Option R} {x:R} {d:List Deferred}:(l:List (Code×AC))->(∀ p,p∈l->Yq P X V p.1 p.2) ->
  ∀(st:St) (a:Act) (w:World) (g:Gh) (U:Nat->Prop),EL V l st κ=some x->Now X V d wQ st a w g U ->
  (∀ st' a' w' g' U',κ .normal st'=some x->Now X V d wQ st' a' w' g' U'->Since (· ∈ VD (l.map (·.1))) w g st.H U a w' g' st'.H U' a'->rest.wp P Q a' w') ->
  (∀ e xe st' a' w' g' U',e ≠ .normal->sA e xe->κ xe st'=some x->Now X V d wQ st' a' w' g' U'->Since (· ∈ VD (l.map (·.1))) w g st.H U a w' g' st'.H U' a'->Q e a' w') ->
  (Y0 (l.map (·.1)) rest).wp P Q a w
 | [],_,st,a,w,g,U,h,hw,h1,_=>h1 st a w g U h hw Since.refl
 | (c,ac)::l,hac,st,a,w,g,U,h,hw,h1,h2=>by
  have h:E V c ac st (fun e st'=>match e with
   | .normal=>EL V l st' κ
   | e=>κ e st')=some x:=h
  show (gV c (Y0 (l.map (·.1)) rest)).wp P Q a w;refine wp_seq (wp_mono (X0 hV hn hd c ac (hac (c,ac) (by simp)) st _ x h d a w g U hw) ?_)
  rintro e a1 w1 ⟨xe,st1,g1,U1,he,hk,hn1,hs1⟩;have hs1':Since (· ∈ VD (c::l.map (·.1))) w g st.H U a w1 g1 st1.H U1 a1:=hs1.wide fun t ht=>bl _ ht;by_cases hnorm:e = .normal
  ·subst hnorm;cases xe with
   | normal =>
    show (Y0 (l.map (·.1)) rest).wp P Q a1 w1;refine AN hV hn hd l (fun p hp=>hac p (by simp [hp])) st1 a1 w1 g1 U1 hk hn1 (fun st' a' w' g' U' hk' hn' hs' => ?_) fun e xe st' a' w' g' U' hne he' hk' hn' hs' => ?_
    ·exact h1 st' a' w' g' U' hk' hn' (hs1'.trans (hs'.wide fun t ht=>bm _ ht))
    ·exact h2 e xe st' a' w' g' U' hne he' hk' hn' (hs1'.trans (hs'.wide fun t ht=>bm _ ht))
   | exit i=>exact he.elim
   | goto i=>exact he.elim
   | ret=>exact he.elim
  ·have hk':κ xe st1=some x:=by
    cases e<;>cases xe<;>simp only[sA] at he<;>first | exact hk | exact absurd rfl hnorm
   have:=h2 e xe st1 a1 w1 g1 U1 hnorm he hk' hn1 hs1';cases e<;>first | exact this | exact absurd rfl hnorm
def zgv (tb:Tb) (sp:FuncId->Option (List KT)) (n:Nat):List Code->(Nat->KT)->Option (Nat->KT)
 | [],τ=>some τ
 | c::l,τ=>(tyC tb sp n c τ).bind fun τ=>zgv tb sp n l τ
theorem LL {P:Program} {tb:Tb} {sp:FuncId->Option (List KT)} (hT:uW P tb) (hsp:∀ f ps,sp f=some ps->vw P f ps) {B:Nat} {v0:Value} {i0:Int} {n:Nat} {d:List Deferred} {W:Nat->Prop} {a0:Act} {rest:Code} {Q:Exit->Act->World->Prop}:(l:List Code) ->
  (∀ x,x∈VD l->W x)->∀{τ τ':Nat->KT} {a:Act} {w:World},B<=w.heap.size->SNow n d B v0 i0 W a0 τ a w->zgv tb sp n l τ=some τ'->(∀ a' w',SpoilW B w w'->SNow n d B v0 i0 W a0 τ' a' w'->rest.wp P Q a' w')->(Y0 l rest).wp P Q a w
 | [],_,τ,τ',a,w,_,hn,ht,hQ=>by
  injection ht with ht;subst ht;exact hQ a w SpoilW.refl hn
 | c::l,hW,τ,τ',a,w,hBw,hn,ht,hQ=>by
  obtain⟨τ1,h1,h2⟩:=ag.1 ht;show (gV c (Y0 l rest)).wp P Q a w;refine wp_seq (wp_mono (Tn hT hsp c (fun x hx=>hW x (bl _ hx)) hBw hn h1) ?_);rintro e a1 w1 ⟨rfl,hs1,hn1⟩;show (Y0 l rest).wp P Q a1 w1;exact LL hT hsp l (fun x hx=>hW x (bm _ hx)) (aK hBw hs1.size) hn1 h2 fun a' w' hs' hn'=>hQ a' w' (hs1.trans hs') hn'
def zfd (H:Nat->Blk) (fz:Nat) (t:Ty) (a:AV):Bool:=t.flat && !a.isAr&&(match wv H fz t a with
 | some p=>bQ 2 p.1
 | none=>false)
def rawL (H:Nat->Blk) (fz:Nat):List Ty->List AV->Bool
 | [],[]=>true
 | t::l,a::r=>zfd H fz t a&&rawL H fz l r
 | _,_=>false
def zcF (H:Nat->Blk) (Z:Nat->Bool) (fz:Nat):KT->AV->Bool
 | .one t,a=>zfd H fz t a
 | .agg l,.agg cs=>rawL H fz l cs
 | .rp ts f,.ptr b o=>cond (ay o f && !(Z b)) (match H b with
  | .cells cs=>rawL H fz (Jl ts) cs
  | _=>false) false
 | _,_=>false
section
variable {X:Fx} {g:Gh} {H:Nat->Blk} {Z:Nat->Bool} {U:Nat->Prop} {w:World} {fz:Nat} {B:Nat}
theorem T5 (hm:MemOk X g H Z U w) (hB:X.D=B∧∀ b,X.N b->B<=b) (hO:∀ r,¬ X.O r) {b r:Nat} (hb:H b ≠ .dead) (hl:g.loc b=some r) (hz:¬(Z b=true∧(H b).isCells=true)):B<=r:=by
 rcases hm.own b r hb hl with h | h | h
 ·rw[← hB.1]; exact h
 ·exact absurd h (hO r)
 ·exact absurd h hz
theorem HM (hm:MemOk X g H Z U w) (hB:X.D=B∧∀ b,X.N b->B<=b) (hO:∀ r,¬ X.O r) {t:Ty} {a:AV} {v:Value} (h:zfd H fz t a=true) (hr:RAV (mem w) g H U a v):∃ x,RE (mem w) (free B w) t x v:=by
 unfold zfd at h;simp only[aw] at h;obtain⟨⟨hf,-⟩,h⟩:=h;split at h
 ·rename_i p hp;obtain⟨k,x⟩:=p;have hk:=bA h;have hfree:∀ q,Le q k->∀ b o,g.S q b o->free B w b o:=fun q hq b o hs=>by
   have h2:2<=q:=by
    unfold Le at hq;have hk:2<=k:=hk;omega
   have hs2:=hm.up2 q b o h2 hs;have hb:=hm.fr b o hs2;exact ⟨hB.2 b hb,hm.acc q b o hs,hm.nf b o (hm.up0 q b o hs) (.inl hb)⟩
  have:=YL (free B w) hp (fun b=>.inr rfl) hm.blk hr hfree ⟨fun b _ q ts xs r hH hl o ho=>by
   have hlive:H b ≠ .dead:=by rw[hH]; simp
   have hge:=T5 hm hB hO hlive hl (fun hc=>by rw[hH] at hc; cases hc.2)
   refine ⟨hge,?_,hm.blkFrz hlive hl o⟩;have hb:=hm.blk b;rw[hH] at hb;simp only[RBlk] at hb;rcases hb with ⟨h1,-⟩ | ⟨r',c,e,h1,h2,h3,-⟩
   ·rw[hl] at h1; cases h1
   ·rw[hl] at h1; injection h1 with h1; subst h1;rw[zt h2,aT (by omega)]; rfl⟩
  exact ⟨x,(RVal.flat hf).1 this⟩
 ·cases h
theorem B7 (hm:MemOk X g H Z U w) (hB:X.D=B∧∀ b,X.N b->B<=b) (hO:∀ r,¬ X.O r):(l:List Ty)->(cs:List AV)->{vs:List Value}->rawL H fz l cs=true->RF (mem w) g H U cs vs->RawL (mem w) (free B w) l vs
 | [],[],vs,_,h=>h
 | [],_::_,_,h,_=>by cases h
 | _::_,[],_,h,_=>by cases h
 | t::l,a::r,vs,h,hr=>by
  simp only[rawL,aw] at h;obtain⟨v,us,ws,rfl,h1,h2,h3⟩:=hr;have har:a.isAr=false:=by
   have:=h.1;unfold zfd at this;simp only[aw,bZ] at this;exact this.1.2
  rw[har,cond_false] at h2;subst h2;exact ⟨v,ws,rfl,HM hm hB hO h.1 h1,B7 hm hB hO l r h.2 h3⟩
theorem LP {c:Mem} {A:Reg}:(ts:Tys)->{vs:List Value}->{b o:Nat}->RawL c A (Jl ts) vs->(∀(j:Nat) (v:Value),vs[j]? = some v->A b (o+j)∧c b (o+j)=some v)->∃ x,RC c A A ts x b o
 | .one t,vs,b,o,hr,hc=>by
  obtain⟨v,us,rfl,⟨x,hx⟩,-⟩:=hr;obtain⟨h1,h2⟩:=hc 0 v rfl;refine ⟨x,?_⟩;simp only[RC];exact ⟨h1,v,h2,hx⟩
 | .cons t ts,vs,b,o,hr,hc=>by
  obtain⟨v,us,rfl,⟨x,hx⟩,hr⟩:=hr;obtain⟨y,hy⟩:=LP ts (b:=b) (o:=o+1) hr (fun j v hv=>by rw[bI,cN 1 j]; exact hc (j+1) v (by simpa using hv))
  obtain⟨h2,h3⟩:=hc 0 v rfl;refine ⟨(x,y),?_⟩;simp only[RC];exact ⟨⟨h2,v,h3,hx⟩,hy⟩
theorem zbM (hm:MemOk X g H Z U w) (hB:X.D=B∧∀ b,X.N b->B<=b) (hO:∀ r,¬ X.O r) {k:KT} {a:AV} {v:Value} (h:zcF H Z fz k a=true) (hr:RAV (mem w) g H U a v) {v0:Value} {i0:Int} :
  KV (mem w) (free B w) v0 i0 k v:=by
 unfold zcF at h;split at h
 ·exact HM hm hB hO h hr
 ·obtain⟨vs,rfl,hl⟩:=hr;exact ⟨vs,rfl,B7 hm hB hO _ _ h hl⟩
 ·rename_i ts f b o;cases ho:ay o f && !(Z b) with
  | false=>rw[ho] at h; cases h
  | true =>
   rw[ho,cond_true] at h;simp only[aw,bZ] at ho;have:=am ho.1;subst this;split at h
   ·rename_i cs hcs;simp only[RAV,hcs,RPtr] at hr;obtain⟨-,-,r,hl,rfl⟩:=hr;have hb:=hm.blk b;rw[hcs] at hb;simp only[RBlk] at hb;obtain⟨r',c,e,hl',hw,hrf⟩:=hb;rw[hl] at hl'; injection hl' with hl'; subst hl';have hlive:H b ≠ .dead:=by rw[hcs]; simp
    have hge:=T5 hm hB hO hlive hl (fun hc=>by rw[ho.2] at hc; cases hc.1)
    obtain⟨x,hx⟩:=LP ts (b:=r) (o:=0) (B7 hm hB hO _ _ h hrf) fun j v hv=>by
     have h1:mem w r (0+j)=some v:=by
      rw[zt hw,aN,← aH];exact hv
     exact ⟨⟨hge,by rw[h1]; rfl,hm.blkFrz hlive hl _⟩,h1⟩
    exact ⟨r,0,by rw[aN],x,hx⟩
   ·cases h
 ·cases h
end
def exT (ex:List (Nat×KT)):Nat->KT:=fun t=>match ex.find? fun p=>ay p.1 t with
 | some p=>p.2
 | none=>.any
def spU (V:Env) (cs:List (Code×AC)) (W1 W2:List Nat) (ex:List (Nat×KT)) (rest:Code) (ac:AC):Un :=
 ⟨fun st κ=>EL V cs (zbh st) fun e st1=>match e with
  | .normal=>cond (ex.all fun p=>zcF st1.H st1.Z V.fz p.2 (st1.φ p.1)) (E V rest ac (W9 W1 W2 st st1) κ) none
  | e=>κ e (W9 W1 W2 st st1)⟩
theorem jd:(l:List Code)->(rest:Code)->sr (Y0 l rest)=VD l++sr rest
 | [],rest=>by simp [Y0,VD]
 | c::l,rest=>by
  show sr c++sr (Y0 l rest)=_;rw[jd l rest];simp [VD]
theorem zfy {c:Mem} {A:Reg} {v0:Value} {i0:Int} {ex:List (Nat×KT)} {tm:Nat->Value} (h:∀ p,p∈ex->KV c A v0 i0 p.2 (tm p.1)) (t:Nat):KV c A v0 i0 (exT ex t) (tm t):=by
 unfold exT;split
 ·rename_i p hp;have h1:=List.mem_of_find?_eq_some hp;have h2:=List.find?_some hp;have:=am h2;rw[← this];exact h p h1
 ·trivial
theorem zgN {P:Program} {V:Env} (hA:VAll P V) (zl:P.follows .mixedOrders=true) {sp:FuncId->Option (List KT)} (hsp:∀ f ps,sp f=some ps->vw P f ps) {cs:List (Code×AC)} {W1 W2:List Nat} {ex:List (Nat×KT)} {sps:List Code} {rest:Code} {ac:AC}
  (hac:∀ X:Fx,VOk P X V->∀ p,p∈cs->Yq P X V p.1 p.2) (hac2:∀ X:Fx,VOk P X V->Yq P X V rest ac) (h1:VD (cs.map (·.1))=W1) (h2:VD sps=W2) (hty:(zgv V.tb sp V.n sps (exT ex)).isSome=true)
  {X:Fx} (hX:VOk P X V):Fw P X V (Y0 (cs.map (·.1)) (Y0 sps rest)) (spU V cs W1 W2 ex rest ac):=by
 intro R st κ x h d a w g U hn;have hsub:=hn.sub;have hV':VOk P (X.sub w) V:=hA.ok (X:=X.sub w) (show X.gl=V.gl from hX.gl.symm) (fun _ r hr=>hr.elim)
 have hwide:∀ t,t∈W1++W2->t∈sr (Y0 (cs.map (·.1)) (Y0 sps rest)):=fun t ht=>by
  rw[jd,jd,h1,h2,← bc];exact bl _ ht
 have rows:∀{st1:St} {a1:Act} {w1:World} {g1:Gh} {U1:Nat->Prop},Now (X.sub w) V d wQ st1 a1 w1 g1 U1->(∀ j,j<w.heap.size->w1.heap[j]? = w.heap[j]?)∧w.heap.size<=w1.heap.size∧w1.os=w.os∧w1.tape=w.tape∧w1.output=w.output:=fun h =>
  ⟨fun j hj=>h.mem.keep j hj,h.mem.size,h.mem.os,h.mem.tape,h.mem.output⟩
 refine AN hV' hA.nat zl cs (hac _ hV') (zbh st) a w (J4 w) (fun _=>False) (κ:=fun e st1=>match e with
  | .normal=>cond (ex.all fun p=>zcF st1.H st1.Z V.fz p.2 (st1.φ p.1)) (E V rest ac (W9 W1 W2 st st1) κ) none
  | e=>κ e (W9 W1 W2 st st1)) h hsub (fun st1 a1 w1 g1 U1 hk hn1 hs1 => ?_) fun e xe st1 a1 w1 g1 U1 hne he hk hn1 hs1 => ?_
 ·cases hall:ex.all fun p=>zcF st1.H st1.Z V.fz p.2 (st1.φ p.1) with
  | false=>simp only[hall] at hk; cases hk
  | true =>
   simp only[hall,cond_true] at hk;obtain⟨hr1,hr2,hr3,hr4,hr5⟩:=rows hn1;obtain⟨τ',hτ⟩:=cj.1 hty;rw[aF] at hall;have hsn:SNow V.n d w.heap.size undef 0 (· ∈ W2) a1 (exT ex) a1 w1:=by
    refine ⟨fun t=>zfy (tm:=fun t=>a1.tmps.getD t undef) (fun p hp => ?_) t,hn1.n,hn1.d,fun _ _=>rfl⟩;exact zbM (X:=X.sub w) (B:=w.heap.size) hn1.mem ⟨rfl,fun _ h=>h⟩ (fun r hr=>hr) (hall p hp) (hn1.fr p.1)
   refine LL hA.tb hsp sps (fun t ht=>h2▸ht) hr2 hsn hτ fun a2 w2 hs2 hn2 => ?_;obtain⟨hb,hsi⟩:=hn.back (W1:=W1) (W2:=W2) hn1 (hn2.n.trans hn1.n.symm) (hn2.d.trans hn1.d.symm) (fun t ht=>hs1.tmps t (by rw[h1]; exact ht)) hn2.keep (fun j hj=>(hs2.rows j hj).trans (hr1 j hj)) (aK hr2 hs2.size) (hs2.os.trans hr3) (hs2.tape.trans hr4) (hs2.output.trans hr5)
   refine wp_mono (X0 hX hA.nat zl rest ac (hac2 X hX) _ κ x hk d a2 w2 g U hb) ?_;rintro e a3 w3 ⟨xe,st3,g3,U3,he,hk3,hn3,hs3⟩;refine ⟨xe,st3,g3,U3,he,hk3,hn3,(hsi.wide hwide).trans (hs3.wide fun t ht => ?_)⟩;rw[jd,jd];exact bm _ (bm _ ht)
 ·obtain⟨hr1,hr2,hr3,hr4,hr5⟩:=rows hn1;have hk:κ xe (W9 W1 W2 st st1)=some x:=by
   cases xe with
   | normal=>cases e<;>first | exact absurd rfl hne | exact he.elim
   | exit i=>exact hk
   | goto i=>exact hk
   | ret=>exact hk
  obtain⟨hb,hsi⟩:=hn.back (W1:=W1) (W2:=W2) (a2:=a1) hn1 rfl rfl (fun t ht=>hs1.tmps t (by rw[h1]; exact ht)) (fun _ _=>rfl) hr1 hr2 hr3 hr4 hr5
  exact ⟨xe,_,g,U,he,hk,hb,hsi.wide hwide⟩
end
section
def zdK:List (Nat×List KT)->FuncId->Option (List KT)
 | [],_=>none
 | p::l,f=>cond (ay f p.1) (some p.2) (zdK l f)
theorem Gt:{l:List (Nat×List KT)}->{f:FuncId}->{ps:List KT}->zdK l f=some ps->(f,ps)∈l
 | [],f,c,h=>by cases h
 | p::l,f,c,h=>by
  unfold zdK at h;cases hb:ay f p.1 with
  | true =>
   rw[hb] at h;injection h with h;rw[am hb,← h];simp
  | false =>
   rw[hb] at h;exact ai _ (Gt h)
def NM (P:Program) (l:List (Nat×List KT)):Prop:=∀ p,p∈l->vw P p.1 p.2
theorem XA {P:Program}:NM P []:=fun p hp=>by cases hp
theorem YU {P:Program} {f:Nat} {ps:List KT} {l:List (Nat×List KT)} (h:vw P f ps) (hl:NM P l):NM P ((f,ps)::l):=fun p hp=>by
 rcases aB.1 hp with rfl | hp
 ·exact h
 ·exact hl p hp
variable {P:Program}
theorem ZY {tb:Tb} {l:List (Nat×List KT)} {f:FuncId} {fn:Func} {code:Code} {ps:List KT} (hT:uW P tb) (hl:NM P l) (hfn:P.funcs[f]? = some fn) (hnm:(fn.name == "runtime.NumGoroutine")=false) (hb:fn.body=some code) (hr:fn.results = #[])
  (hlen:bQ ps.length fn.ntmps=true) (hc:(tyC tb (zdK l) fn.ntmps code (zgt ps)).isSome=true):vw P f ps :=
 Pf hT (fun _ _ h=>hl _ (Gt h)) hfn hnm hb hr hlen hc
def R3 (P:Program) (X:Fx) (V:Env) (cs:List (Code×AC)):Prop:=∀ p,p∈cs->Yq P X V p.1 p.2
theorem zbv {X:Fx} {V:Env}:R3 P X V []:=fun p hp=>by cases hp
theorem J1 {X:Fx} {V:Env} {c:Code} {ac:AC} {ob:List (Code×Un)} {cs:List (Code×AC)} (ho:obl c ac=ob) (h:Obl P X V ob) (hl:R3 P X V cs):R3 P X V ((c,ac)::cs):=fun p hp=>by
 rcases aB.1 hp with rfl | hp
 ·exact Yk c ac (ho▸h)
 ·exact hl p hp
theorem zhD {V:Env} (hA:VAll P V) (zl:P.follows .mixedOrders=true) {l:List (Nat×List KT)} (hl:NM P l) {c:Code} {cs:List (Code×AC)} {W1 W2:List Nat} {ex:List (Nat×KT)} {sps:List Code} {rest:Code} {ac:AC} {ob:List (Code×Un)}
  (hc:Y0 (cs.map (·.1)) (Y0 sps rest)=c) (hac:∀ X:Fx,VOk P X V->R3 P X V cs) (ho:obl rest ac=ob) (hac2:∀ X:Fx,VOk P X V->Obl P X V ob) (h1:VD (cs.map (·.1))=W1) (h2:VD sps=W2) (hty:(zgv V.tb (zdK l) V.n sps (exT ex)).isSome=true)
  {X:Fx} (hX:VOk P X V):Fw P X V c (spU V cs W1 W2 ex rest ac) :=
 hc▸zgN hA zl (fun _ _ h=>hl _ (Gt h)) hac (fun X hX=>Yk rest ac (ho▸hac2 X hX)) h1 h2 hty hX
end
end Go.Abs
