import Derived.ScopeJumps
import Derived.Lib.Join
import Derived.Lib.ItoaNum
import Derived.Lib.Bytealg
import Derived.ProofKit
import Derived.OpenShut
import Derived.Deep.DeepHandedRow
import Derived.Lib.LaidTab
import Derived.MakeChecks
import Derived.Test.YtjapmbbledbnfaaGreatDoorFb
/-
  A reading of Go code as pure functions: what the operations, rounds and calls of a text make, with proofs.
-/
open Array renaming getD_eq_getD_getElem? -> aQ, getElem?_eq_getElem -> aP, getElem?_modify -> eZ, getElem?_toList -> aB, length_toList -> aG, replicate -> cP
open Bool renaming and_eq_true -> ap, not_eq_true' -> bW
open Classical renaming byContradiction -> et
open Go.Code renaming region -> fT, rounds -> fU, seq -> gG
open Go.DataW renaming TrodAll -> dv, trod -> dC, trod_bool -> fX, trod_int -> gh, trod_slice -> fM, trod_string -> fE, trod_struct -> fF
open Go.Deferred renaming ofValue -> fL
open Go.Instr renaming loadAt -> cS, storeAt -> d6
open Go.IntKind renaming bits -> dW, signed -> fh, wrap -> ah
open Go.MakeChecks renaming laidMetH_plain -> gj
open Go.Program renaming cellsOf -> gR
open Go.Region renaming wanted -> eA
open Go.Steps renaming trans -> gF
open Go.Value renaming cells -> fV, int -> bK, okWide -> eS
open Go.World renaming cell? -> dO, holding -> fu, setCell -> fv
open Iff renaming rfl -> eJ
open List renaming all_eq_true -> aK, any_eq_false -> bZ, append_assoc -> bn, append_nil -> b7, drop_drop -> cg, drop_eq_nil_iff -> cy, getD_eq_getElem?_getD -> aA, getElem?_append_left -> bp, getElem?_append_right -> bi, getElem?_drop -> bh, getElem?_eq_getElem -> al, getElem?_eq_none -> aJ, getElem?_eq_none_iff -> dH, getElem?_eq_some_iff -> aq, getElem?_map -> bt, getElem?_take -> aZ, getElem_mem -> cY, length -> aa, length_append -> az, length_cons -> au, length_nil -> bH, map -> dx, map_cons -> aM, mem_append -> aW, mem_append_left -> bk, mem_append_right -> bf, mem_cons -> aI, mem_cons_of_mem -> ai, mem_range -> cE, mem_singleton -> bF, replicate -> ax, take_append_drop -> bR
open List.Pairwise renaming nil -> gM
open Nat renaming add_assoc -> bz, add_comm -> cH, beq -> aw, beq_refl -> dX, ble -> bN, ble_eq_true_of_le -> ce, eq_of_beq_eq_true -> aj, le_of_ble_eq_true -> br, le_refl -> aE, le_trans -> aF, lt_of_lt_of_le -> cq, not_lt -> gg, zero_add -> aL, zero_le -> cf
open Ne renaming symm -> db
open Option renaming bind_assoc -> bE, bind_eq_some_iff -> ag, bind_some -> af, isSome_iff_exists -> cd, map_eq_some_iff -> aY
open Sum renaming inl -> aS, inr -> aD
namespace Go.Abs
theorem Oe {w:World} {g g':Gh} {H H':Nat->Blk} {U U':Nat->Prop} {nm nm':Nat->Nat} (rn:Rn (mem w) g H U (mem w) g' H' U' nm nm') {b b':Nat} (hl:g'.loc b'=g.loc b) (t:TB) {M M':List AV} (hf:F2 (LR g.S g'.S (mem w) (mem w)) M M')
  (h:RBlk w g H U b (xX nm t M).1):RBlk w g' H' U' b' (xX nm' t M').1:=by
 cases t with
 | cells z l =>
  obtain⟨r,cc,e,h1,h2,h3⟩:=(show ∃ r cc e,g.loc b=some r∧w.heap[r]? = some (.cells cc e (0,0))∧RF (mem w) g H U (ul nm l M).1 cc.toList from h)
  exact ⟨r,cc,e,hl.trans h1,h2,(Ky rn l (hf.imp' fun a b hab=>hab.lc) h3).1⟩
 | seq z =>
  cases hf with
  | nil=>trivial
  | cons h1 h2 =>
   obtain⟨k,k',t,y,rfl,rfl,hs⟩:=h1;cases t with
   | sl ts =>
    refine (show _∨_ from h).imp (fun h=>⟨hl.trans h.1,h.2⟩) ?_
    rintro⟨r,cc,e,h3,h4,h5,h6⟩;exact ⟨r,cc,e,hl.trans h3,h4,h5,h6.imp fun i x _ hx=>RC.mono hs (fun _ _ h=>⟨h,rfl⟩) _ x _ _ hx⟩
   | _=>trivial
theorem Gt {w:World} {g g':Gh} {H H':Nat->Blk} {U U':Nat->Prop} {nm nm':Nat->Nat} (rn:Rn (mem w) g H U (mem w) g' H' U' nm nm'):(ts:List TB)->{M M':List AV}->F2 (LR g.S g'.S (mem w) (mem w)) M M'->∀(j b b':Nat) k k',g'.loc b'=g.loc b ->
  (yN nm ts M)[j]? = some k->(yN nm' ts M')[j]? = some k'->RBlk w g H U b k->RBlk w g' H' U' b' k'
 | [],M,M',_,j,b,b',k,k',_,h,_,_=>by simp [yN] at h
 | t::ts,M,M',hf,0,b,b',k,k',hl,h,h',hr=>by
  injection h with h; injection h' with h'; subst h; subst h';exact Oe rn hl t hf hr
 | t::ts,M,M',hf,j+1,b,b',k,k',hl,h,h',hr=>Gt rn ts (W0 nm nm' t hf).2 j b b' k k' hl (show (yN nm ts (xX nm t M).2)[j]? = some k from h) (show (yN nm' ts (xX nm' t M').2)[j]? = some k' from h') hr
structure Retag (w:World) (g g':Gh) (sh:Sh) (tg':List Nat) (n0:Nat) (x:sA sh.hs):Prop where
 loc:∀ b,g'.loc b=g.loc b
 S:∀ i,i<sh.hs.length->∀ b o,g.S (sh.tg.getD i 0) b o->g'.S (tg'.getD i 0) b o
section
variable {w:World} {g g':Gh} {sh:Sh} {tg':List Nat} {n0:Nat} {x:sA sh.hs}
theorem Retag.f2 (h:Retag w g g' sh tg' n0 x):F2 (LR g.S g'.S (mem w) (mem w)) (mkL sh.tg sh.hs x) (mkL tg' sh.hs x):=HC _ _ _ _ fun i hi b o hb=>⟨h.S i hi b o hb,rfl⟩
theorem Retag.two (h:Retag w g g' sh tg' n0 x) (j:Nat) (k:Blk) (hk:(sh.bks (fun j=>n0+j) x)[j]? = some k):∃ k',(Sh.bks { sh with tg:=tg' } (fun j=>n0+j) x)[j]? = some k'∧TwoB g.S g'.S (mem w) (mem w) k k' :=
 VF _ _ sh.blks (QF _ _ sh.slots h.f2) j k hk
theorem Retag.H (h:Retag w g g' sh tg' n0 x) (b:Nat):TwoB g.S g'.S (mem w) (mem w) (mkH n0 (sh.bks (fun j=>n0+j) x) b) (mkH n0 (Sh.bks { sh with tg:=tg' } (fun j=>n0+j) x) b):=by
 have hl:(sh.bks (fun j=>n0+j) x).length=(Sh.bks { sh with tg:=tg' } (fun j=>n0+j) x).length:=by
  unfold Sh.bks; rw[wZ,wZ]
 unfold mkH;cases hb:bN n0 b with
 | false=>trivial
 | true =>
  simp only[cond_true,aA];cases hk:(sh.bks (fun j=>n0+j) x)[b - n0]? with
  | none =>
   rw[dH] at hk;rw[aJ (by omega)]
   trivial
  | some k =>
   obtain⟨k',h1,h2⟩:=h.two (b - n0) k hk;rw[h1];exact h2
theorem Retag.rn (h:Retag w g g' sh tg' n0 x):Rn (mem w) g (mkH n0 (sh.bks (fun j=>n0+j) x)) (upto n0 sh.blks.length) (mem w) g' (mkH n0 (Sh.bks { sh with tg:=tg' } (fun j=>n0+j) x)) (upto n0 sh.blks.length) (fun j=>n0+j) (fun j=>n0+j) :=
 ⟨fun _ h=>h,fun _j _ _=>h.loc _,fun j _=>(h.H (n0+j)).live.2.2.2,fun _ _ _ _ h=>h⟩
theorem Retag.RL (h:Retag w g g' sh tg' n0 x) {vs:List Value} (hr:Abs.RL (mem w) g (mkH n0 (sh.bks (fun j=>n0+j) x)) (upto n0 sh.blks.length) (sh.avs (fun j=>n0+j) x) vs) :
  Abs.RL (mem w) g' (mkH n0 (Sh.bks { sh with tg:=tg' } (fun j=>n0+j) x)) (upto n0 sh.blks.length) (Sh.avs { sh with tg:=tg' } (fun j=>n0+j) x) vs :=
 (Ia h.rn sh.slots (h.f2.imp' fun _a _b hab=>hab.lc) hr).1
theorem Retag.blk (h:Retag w g g' sh tg' n0 x) (hb:∀ b,RBlk w g (mkH n0 (sh.bks (fun j=>n0+j) x)) (upto n0 sh.blks.length) b (mkH n0 (sh.bks (fun j=>n0+j) x) b)) (b:Nat) :
  RBlk w g' (mkH n0 (Sh.bks { sh with tg:=tg' } (fun j=>n0+j) x)) (upto n0 sh.blks.length) b (mkH n0 (Sh.bks { sh with tg:=tg' } (fun j=>n0+j) x) b):=by
 by_cases hd:mkH n0 (Sh.bks { sh with tg:=tg' } (fun j=>n0+j) x) b = .dead
 ·rw[hd]; trivial
 ·have h1:=(h.H b).live.1 hd;obtain⟨j,k,rfl,h2,h3⟩:=uR h1;obtain⟨k',h4,-⟩:=h.two j k h2;rw[Wh h4];have hbb:=hb (n0+j);rw[Wh h2] at hbb;exact Gt h.rn sh.blks (QF _ _ sh.slots h.f2) j _ _ k k' (h.loc _) h2 h4 hbb
theorem Retag.lent (h:Retag w g g' sh tg' n0 x) {Z:Nat->Bool}:Abs.lent g' (mkH n0 (Sh.bks { sh with tg:=tg' } (fun j=>n0+j) x)) Z=Abs.lent g (mkH n0 (sh.bks (fun j=>n0+j) x)) Z:=by
 funext r
 refine propext ⟨?_,?_⟩
 ·rintro⟨b,h1,h2,h3⟩;have hl:=(h.H b).live;exact ⟨b,hl.1 h1,by rw[← h.loc b]; exact h2,by rw[hl.2.2.1]; exact h3⟩
 ·rintro⟨b,h1,h2,h3⟩;have hl:=(h.H b).live;exact ⟨b,hl.2.1 h1,by rw[h.loc b]; exact h2,by rw[← hl.2.2.1]; exact h3⟩
end
section
variable {R:Type}
def U7 (H:Nat->Blk) (fz:Nat):List AV->Nat
 | []=>2
 | a::as=>jn (sX H fz a) (U7 H fz as)
def Kh (id ga fz t:Nat):Nat:=cond (bN 2 t) id (cond (aw fz 2) (jn ga 2) 0)
def tj (bd:Bnd) (id k:Nat):List (Nat×Nat)->Nat
 | []=>id+k
 | p::mu=>cond (aw p.2 k) (match bd[p.1]? with
  | some (some i)=>i
  | _=>id+k) (tj bd id k mu)
def AW (mu:List (Nat×Nat)) (bd:Bnd) (id:Nat):Nat->List Blk->List (Nat×Blk)
 | _,[]=>[]
 | k,b::bs=>(tj bd id k mu,b)::AW mu bd id (k+1) bs
def zdA:List AV->AV
 | [v]=>v
 | vs=>.tup vs
def ShC.inpT (c:ShC) (ga:Nat):Sh:={ c.inp with tg:=ZY c.inp.tg ga c.inp.hs.length }
def ShC.outT (c:ShC) (id ga fz:Nat):Sh:={ c.out with tg:=c.out.tg.map (Kh id ga fz) }
def ze9 (c:ShC) (id fz:Nat) (as:List AV) (H:Nat->Blk) (Z:Nat->Bool) (ga:Nat) (κ:K R):Option R :=
 ((c.inpT ga).dec H Z fz as).bind fun d=>(c.F d.x).bind fun y =>
  κ (zdA (((c.outT id ga fz).avs (fun k=>id+k) y).take c.nres)) ⟨(un c.inp d.bd).map (fun b=>(b,.dead))++AW c.mu d.bd id 0 ((c.outT id ga fz).bks (fun k=>id+k) y),cond c.leak d.zs []⟩
def shE (c:ShC) (id fz:Nat) (as:List AV) (H:Nat->Blk) (Z:Nat->Bool) (κ:K R):Option R :=
 (w5 c.inp.slots as []).bind fun p=>(Vo H Z c.inp.blks 0 p.2).bind fun q=>ze9 c id fz as H Z (cond c.glob (jn (U7 H fz (p.1++q.1)) 1) (U7 H fz (p.1++q.1))) κ
theorem TC (c:ShC) (id fz:Nat) (as:List AV) (H:Nat->Blk) (Z:Nat->Bool) (κ:K R):shE c id fz as H Z κ=(shE c id fz as H Z pk).bind (kb κ):=by
 unfold shE ze9;exact zj _ _ _ _ fun _=>zj _ _ _ _ fun _=>zj _ _ _ _ fun _=>zj _ _ _ _ fun _=>rfl
theorem BC {H:Nat->Blk} {fz:Nat} {t:Ty} {a:AV} {y:Nat×El t} (h:xI H fz t a=some y):∀ b,b∈a.shows->H b ≠ .dead:=by
 intro b hb;cases a with
 | view b' =>
  rw[bF.1 hb];simp only[xI] at h;intro hd;rw[hd] at h;cases h
 | part b' o n =>
  rw[bF.1 hb];simp only[xI] at h;intro hd;rw[hd] at h;cases h
 | _=>cases hb
theorem F2.left {α β:Type} {r:α->β->Prop}:{as:List α}->{bs:List β}->F2 r as bs->∀ a,a∈as->∃ b,r a b
 | [],_,_,a,h=>by cases h
 | a::as,_,hf,x,h=>by
  cases hf with
  | cons h1 h2 =>
   rcases aI.1 h with rfl | h
   ·exact ⟨_,h1⟩
   ·exact h2.left x h
theorem Hz {g:Gh} {H hv:Nat->Blk} (hh:∀ b,hv b = .dead∨hv b=H b) {fz:Nat} {bs:List Nat} (hb:∀ b,b∈bs->hv b ≠ .dead):(g.show hv fz bs).S=(g.show H fz bs).S:=by
 funext q b o
 refine propext (or_congr eJ (and_congr eJ ⟨?_,?_⟩))
 ·rintro⟨x,hx,q',ts,xs,h1,h2⟩;exact ⟨x,hx,q',ts,xs,((hh x).resolve_left (hb x hx))▸h1,h2⟩
 ·rintro⟨x,hx,q',ts,xs,h1,h2⟩;exact ⟨x,hx,q',ts,xs,((hh x).resolve_left (hb x hx)).trans h1,h2⟩
theorem WJ (bd:Bnd) (id k:Nat):(mu:List (Nat×Nat))->((∀ p,p∈mu->p.2≠k)∧tj bd id k mu=id+k)∨∃ p,p∈mu∧p.2=k∧tj bd id k mu=(match bd[p.1]? with | some (some i)=>i | _=>id+k)
 | []=>.inl ⟨(fun p hp=>by cases hp),rfl⟩
 | p::mu=>by
  unfold tj;cases h:aw p.2 k with
  | true=>exact .inr ⟨p,by simp,aj h,rfl⟩
  | false =>
   have hne:p.2≠k:=fun e=>by rw[e,dX] at h; cases h
   rcases WJ bd id k mu with ⟨h1,h2⟩ | ⟨q,h1,h2,h3⟩
   ·exact .inl ⟨fun q hq=>by rcases aI.1 hq with rfl | hq; exact hne; exact h1 q hq,h2⟩
   ·exact .inr ⟨q,by simp [h1],h2,h3⟩
theorem Xq {mu:List (Nat×Nat)} {bd:Bnd} {id:Nat}:(k0:Nat)->(bs:List Blk)->∀ p,p∈AW mu bd id k0 bs↔∃ n b,bs[n]? = some b∧p=(tj bd id (k0+n) mu,b)
 | k0,[],p=>by simp [AW]
 | k0,b::bs,p=>by
  simp only[AW,aI,Xq (k0+1) bs p];constructor
  ·rintro (rfl | ⟨n,b',h1,h2⟩)
   ·exact ⟨0,b,rfl,rfl⟩
   ·exact ⟨n+1,b',by simpa using h1,by rw[h2]; congr 2; omega⟩
  ·rintro⟨n,b',h1,h2⟩;cases n with
   | zero=>injection h1 with h1; subst h1; exact .inl h2
   | succ n=>exact .inr ⟨n,b',by simpa using h1,by rw[h2]; congr 2; omega⟩
end
theorem J2 {tg:List Nat} {t n i:Nat} (h:i<n):(ZY tg t n).getD i 0=cond (bN 2 (tg.getD i 1)) 2 t:=by
 unfold ZY;rw[aA,bt,List.getElem?_range h]; rfl
theorem SA {c:ShC} {i:Nat} (hi:i<c.inp.hs.length) (h:bN 2 (c.inp.tg.getD i 1)=true):c.has2=true:=by
 unfold ShC.has2;rw[List.any_eq_true];refine ⟨2,?_,rfl⟩;unfold ZY;exact List.mem_map.2 ⟨i,cE.2 hi,by rw[h]; rfl⟩
def My (c:ShC) (g8:Gh) (ga:Nat):Reg:=fun b o=>g8.S ga b o∨(c.has2=true∧g8.S 2 b o)
def Og (c:ShC) (g8:Gh):Reg:=fun b o=>c.has2=true∧g8.S 2 b o
def UZ (c:ShC) (X:Fx) (w:World) (l:Nat->Prop):Nat->Prop:=fun b=>w.heap.size<=b∨l b∨(c.has2=true∧X.N b)
theorem WA {c:ShC} {X:Fx} {w:World} {l:Nat->Prop}:∀ b,w.heap.size<=b->UZ c X w l b:=fun _ h=>.inl h
theorem MemOk.enter {X:Fx} {g8:Gh} {w:World} {c:ShC} {ga:Nat} {x:sA c.inp.hs} (P:Program) (gl:Gl)
  (hm:MemOk X g8 (mkH 8 ((c.inpT ga).bks (fun j=>8+j) x)) (mkZ 8 c.inp.blks) (upto 8 c.inp.blks.length) w) (hgl:∀ q z,gl q=some z->X.gl q=some z∧Le 1 ga)
  {gc:Gh} (hgc:gc = { S:=zdG (My c g8 ga) (Og c g8),loc:=g8.loc }) :
  Retag w g8 gc (c.inpT ga) (ZY c.inp.tg 1 c.inp.hs.length) 8 x∧MemOk (Za P gl w (My c g8 ga) (UZ c X w (lent gc (c.entry x).H (c.entry x).Z)) WA gc (c.entry x).H (c.entry x).Z) gc (c.entry x).H (c.entry x).Z (upto 8 c.inp.blks.length) w:=by
 have hrt:Retag w g8 gc (c.inpT ga) (ZY c.inp.tg 1 c.inp.hs.length) 8 x:=by
  refine ⟨fun b=>by rw[hgc],fun i hi b o hb => ?_⟩
  rw[hgc];have hi':i<c.inp.hs.length:=hi;have e1:(c.inpT ga).tg.getD i 0=cond (bN 2 (c.inp.tg.getD i 1)) 2 ga:=J2 hi';have e2:(ZY c.inp.tg 1 c.inp.hs.length).getD i 0=cond (bN 2 (c.inp.tg.getD i 1)) 2 1:=J2 hi';rw[e1] at hb;rw[e2];cases hk:bN 2 (c.inp.tg.getD i 1) with
  | true =>
   rw[hk] at hb;exact .inr ⟨rfl,SA hi' hk,hb⟩
  | false =>
   rw[hk] at hb;exact .inl ⟨.inr rfl,.inl hb⟩
 refine ⟨hrt,?_⟩;have hH:(c.entry x).H=mkH 8 (Sh.bks { c.inpT ga with tg:=ZY c.inp.tg 1 c.inp.hs.length } (fun j=>8+j) x):=rfl;have live:∀ b,(c.entry x).H b ≠ .dead->mkH 8 ((c.inpT ga).bks (fun j=>8+j) x) b ≠ .dead:=fun b h=>(hrt.H b).live.1 (hH▸h);have hloc:∀ b,gc.loc b=g8.loc b:=hrt.loc;have hA:∀ b o,My c g8 ga b o->∃ q,g8.S q b o:=fun b o h=>h.elim (fun h=>⟨ga,h⟩) fun h=>⟨2,h.2⟩;have hS:∀ q b o,gc.S q b o->(q=0∨q=1∨q=2)∧My c g8 ga b o∧(q=2->Og c g8 b o):=fun q b o h=>by
  rw[hgc] at h;rcases h with ⟨h1,h2⟩ | ⟨h1,h2⟩
  ·exact ⟨h1.imp (fun h=>h) .inl,h2,fun h=>by rcases h1 with h' | h'<;>omega⟩
  ·exact ⟨.inr (.inr h1),.inr h2,fun _=>h2⟩
 have hS':∀ b o,My c g8 ga b o->gc.S 1 b o∧gc.S 0 b o:=fun b o h=>by rw[hgc]; exact ⟨.inl ⟨.inr rfl,h⟩,.inl ⟨.inl rfl,h⟩⟩
 refine { blk:=fun b=>by rw[hH]; exact hrt.blk hm.blk b,used:=fun b hb=>hm.used b (live b hb),inj:=fun b b' r hb hb' hl hl'=>hm.inj b b' r (live b hb) (live b' hb') (hloc b▸hl) (hloc b'▸hl'),acc:=fun q b o hs=>(by obtain⟨k,hk⟩:=hA b o (hS q b o hs).2.1; exact hm.acc k b o hk),sep:=fun q r o b hs hb hl => ?_,up0:=fun q b o hs=>(hS' b o (hS q b o hs).2.1).2,up2:=fun q b o hq hs=>(by
  obtain⟨h1,h2,h3⟩:=hS q b o hs;have:q=2:=by omega
  subst this;rw[hgc];exact .inr ⟨rfl,h3 rfl⟩),dn:=fun b o hs=>.inl (hS 0 b o hs).2.1,fr:=fun b o hs=>.inr (.inr ⟨((hS 2 b o hs).2.2 rfl).1,hm.fr b o ((hS 2 b o hs).2.2 rfl).2⟩),nf:=fun b o hs hB=>(by
  obtain⟨k,hk⟩:=hA b o (hS 0 b o hs).2.1;rcases hB with (hB | ⟨x,hx,hl,-⟩ | ⟨-,hB⟩) | ⟨x,hx,hl,-⟩
  ·have:=hm.mem_lt hk;exact absurd this (gg.2 hB)
  ·exact hm.blkFrz (live x hx) (hloc x▸hl) o
  ·exact hm.nf b o (hm.up0 k b o hk) (.inl hB)
  ·exact hm.blkFrz (live x hx) (hloc x▸hl) o),keep:=fun _ _=>rfl,mine:=fun b r hb hl hk => ?_,own:=fun b r hb hl => ?_,os:=rfl,tape:=rfl,output:=rfl,size:=aE _,bnd:=aE _,glob:=fun q z hz => ?_,grow:=fun _ _ h=>h }
 ·obtain⟨k,hk⟩:=hA r o (hS q r o hs).2.1;obtain⟨h1,q',ts,xs,h2,h3⟩:=hm.sep k r o b hk (live b hb) (hloc b▸hl);refine ⟨h1,?_⟩;have ht:=hrt.H b;rw[h2] at ht;rw[hH] at hb ⊢;cases hk:mkH 8 (Sh.bks { c.inpT ga with tg:=ZY c.inp.tg 1 c.inp.hs.length } (fun j=>8+j) x) b with
  | dead=>exact absurd hk hb
  | cells cs=>rw[hk] at ht; exact ht.elim
  | seq q2 us ys =>
   rw[hk] at ht;obtain⟨⟨rfl,rfl⟩,-⟩:=ht;exact ⟨q2,_,_,rfl,h3⟩
 ·exact et fun hc=>hk.2 ⟨b,hb,hl,hc⟩
 ·by_cases hc:(c.entry x).Z b=true∧((c.entry x).H b).isCells=true
  ·exact .inr (.inr hc)
  ·exact .inr (.inl ⟨b,hb,hl,hc⟩)
 ·obtain⟨h1,h2⟩:=hgl q z hz;have hsub:∀ b o,g8.S 1 b o->gc.S 1 b o∧mem w b o=mem w b o:=fun b o h=>⟨(hS' b o (.inl (hm.le h2 h))).1,rfl⟩;exact RC.mono hsub hsub _ _ _ _ (hm.glob q z h1)
theorem Q5 {nm:Nat->Nat}:(ts:List TB)->{ms:List AV}->{j:Nat}->{q:Nat}->{us:Tys}->{xs:List (Tup us)}->(yN nm ts ms)[j]? = some (.seq q us xs)->∃ z,ts[j]? = some (.seq z)
 | [],_,_,_,_,_,h=>by simp [yN] at h
 | t::ts,ms,0,q,us,xs,h=>by
  have h:some (xX nm t ms).1=some (.seq q us xs):=h;injection h with h;cases t with
  | seq z=>exact ⟨z,rfl⟩
  | cells z l=>cases h
 | t::ts,ms,j+1,q,us,xs,h=>Q5 ts (show (yN nm ts (xX nm t ms).2)[j]? = _ from h)
theorem NU {X:Fx} {g8:Gh} {w:World} {c:ShC} (hok:okC c=true) {ga:Nat} {x:sA c.inp.hs} (hm:MemOk X g8 (mkH 8 ((c.inpT ga).bks (fun j=>8+j) x)) (mkZ 8 c.inp.blks) (upto 8 c.inp.blks.length) w) {q r o:Nat} (hs:g8.S q r o) :
  ¬ lent g8 (mkH 8 ((c.inpT ga).bks (fun j=>8+j) x)) (mkZ 8 c.inp.blks) r:=by
 rintro⟨b,hb,hl,-⟩;obtain⟨hz,q',ts,xs,hH,-⟩:=hm.sep q r o b hs hb hl;obtain⟨j,k,rfl,h1,h2⟩:=uR hb;rw[h2] at hH;subst hH;obtain⟨z,ht⟩:=Q5 _ h1;have ht:c.inp.blks[j]? = some (.seq z):=ht;rw[YU ht] at hz;have:=SP hok _ (List.mem_of_getElem? ht);have hz:z=true:=hz;subst hz;cases this
def Jf (go g':Gh) (leak:Bool) (N:Nat->Prop) (id:Nat):Gh :=
 {S:=fun q b o=>go.S q b o∨((cond leak (g'.S 0 b o) (g'.S 2 b o))∧(q=0∨(N b∧(q=2∨(id<=q∧q<id+8))))),loc:=g'.loc }
theorem MemOk.leave {X:Fx} {g8 go:Gh} {Ho:Nat->Blk} {Zo:Nat->Bool} {Uo:Nat->Prop} {w w':World} {c:ShC} (hok:okC c=true) {ga:Nat} {x:sA c.inp.hs} {P:Program} {gl:Gl}
  (ho:MemOk X go Ho Zo Uo w) (hm:MemOk X g8 (mkH 8 ((c.inpT ga).bks (fun j=>8+j) x)) (mkZ 8 c.inp.blks) (upto 8 c.inp.blks.length) w) (hsub:∀ q b o,go.S q b o->g8.S q b o) (hlk:c.leak=true->go.S=g8.S)
  {gc:Gh} (_hgc:gc = { S:=zdG (My c g8 ga) (Og c g8),loc:=g8.loc }) (hrt:Retag w g8 gc (c.inpT ga) (ZY c.inp.tg 1 c.inp.hs.length) 8 x)
  {g':Gh} {n id fz:Nat} {y:sA c.out.hs} (hfz:∀ r,X.O r->X.N r) (hf:MemOk (Za P gl w (My c g8 ga) (UZ c X w (lent gc (c.entry x).H (c.entry x).Z)) WA gc (c.entry x).H (c.entry x).Z) g' (mkH n (c.out.bks (fun j=>n+j) y)) (mkZ n c.out.blks) (upto n c.out.blks.length) w') {hb:X.D<=w.heap.size} :
  Retag w' g' (Jf go g' c.leak X.N id) c.out (c.out.tg.map (Kh id ga fz)) n y ∧
  MemOk (X.inner { S:=go.S,loc:=g8.loc } (mkH 8 ((c.inpT ga).bks (fun j=>8+j) x)) (mkZ 8 c.inp.blks) w hb) (Jf go g' c.leak X.N id) (mkH n ((c.outT id ga fz).bks (fun j=>n+j) y)) (mkZ n c.out.blks) (upto n c.out.blks.length) w' ∧
  ∀ q b o,go.S q b o->mem w' b o=mem w b o:=by
 have hlent:∀ r,lent gc (c.entry x).H (c.entry x).Z r↔lent g8 (mkH 8 ((c.inpT ga).bks (fun j=>8+j) x)) (mkZ 8 c.inp.blks) r:=fun r=>by
  have:=hrt.lent (Z:=mkZ 8 c.inp.blks);exact (congrFun this r)▸eJ
 have hkeep:∀ q b o,go.S q b o->(Za P gl w (My c g8 ga) (UZ c X w (lent gc (c.entry x).H (c.entry x).Z)) WA gc (c.entry x).H (c.entry x).Z).Keep b:=fun q b o hs =>
  ⟨ho.mem_lt hs,fun hl=>NU hok hm (hsub q b o hs) ((hlent b).1 hl)⟩
 have hmem:∀ q b o,go.S q b o->mem w' b o=mem w b o:=fun q b o hs=>zp (hf.keep b (hkeep q b o hs)) o;have hlO:∀ r,lent gc (c.entry x).H (c.entry x).Z r->X.D<=r∨X.O r:=fun r hr=>(Y0 hm ((hlent r).1 hr)).1;have hlB:∀ r,lent gc (c.entry x).H (c.entry x).Z r->X.N r:=fun r hr=>by
  rcases hlO r hr with h | h
  ·exact X.hN _ h
  ·exact hfz r h
 have hN0:∀ b o,cond c.leak (g'.S 0 b o) (g'.S 2 b o)->g'.S 0 b o:=fun b o h=>by
  cases hl:c.leak with
  | true=>rw[hl] at h; exact h
  | false=>rw[hl] at h; exact hf.up0 2 b o h
 have hfresh:∀ b o,g'.S 2 b o->UZ c X w (lent gc (c.entry x).H (c.entry x).Z) b:=fun b o h=>hf.fr b o h;have hNX:∀ b,UZ c X w (lent gc (c.entry x).H (c.entry x).Z) b->X.N b:=fun b h=>h.elim (fun h=>X.hN _ (aF hb h)) fun h=>h.elim (hlB b) fun h=>h.2;have h2N:∀ b o,g'.S 2 b o->cond c.leak (g'.S 0 b o) (g'.S 2 b o):=fun b o h=>by
  cases hl:c.leak with
  | true=>exact hf.up0 2 b o h
  | false=>exact h
 have hrt2:Retag w' g' (Jf go g' c.leak X.N id) c.out (c.out.tg.map (Kh id ga fz)) n y:=by
  refine ⟨fun b=>rfl,fun i hi b o hs => ?_⟩;by_cases hlt:i<c.out.tg.length
  ·have e1:c.out.tg.getD i 0=c.out.tg[i]:=by rw[aA,al hlt]; rfl
   have e2:(c.out.tg.map (Kh id ga fz)).getD i 0=Kh id ga fz c.out.tg[i]:=by rw[aA,bt,al hlt]; rfl
   rw[e1] at hs;rw[e2];unfold Kh;cases ht:bN 2 c.out.tg[i] with
   | true =>
    have ht:=br ht;have hs2:=hf.up2 _ b o ht hs;exact .inr ⟨h2N b o hs2,.inr ⟨hNX b (hfresh b o hs2),.inr ⟨aE _,by simp⟩⟩⟩
   | false =>
    have hleak:c.leak=true:=by
     rcases KL hok with h | ⟨⟨-,h⟩,-⟩
     ·exact h
     ·have:=h _ (cY hlt);rw[ce this] at ht; cases ht
    have hs0:=hf.up0 _ b o hs;have hNN:cond c.leak (g'.S 0 b o) (g'.S 2 b o):=by rw[hleak]; exact hs0
    simp only[cond_false];cases hz:aw fz 2 with
    | false=>exact .inr ⟨hNN,.inl rfl⟩
    | true =>
     have hz:=aj hz;simp only[cond_true];rcases hf.dn b o hs0 with h | h | h
     ·left;rw[hlk hleak];rcases h with h | h
      ·exact hm.le (sN ga 2) h
      ·exact hm.le (sH ga 2) h.2
     ·have h:w.heap.size<=b:=h;right;refine ⟨hNN,?_⟩;rcases O9 ga with h' | h'<;>rw[h']
      ·exact .inl rfl
      ·exact .inr ⟨hNX b (.inl h),.inl rfl⟩
     ·right;refine ⟨hNN,?_⟩;rcases O9 ga with h' | h'<;>rw[h']
      ·exact .inl rfl
      ·exact .inr ⟨hlB b h,.inl rfl⟩
  ·have e1:c.out.tg.getD i 0=0:=by rw[aA,aJ (by omega)]; rfl
   have e2:(c.out.tg.map (Kh id ga fz)).getD i 0=0:=by rw[aA,aJ (by simp; omega)]; rfl
   rw[e1] at hs;rw[e2];have hleak:c.leak=true:=by
    rcases KL hok with h | ⟨⟨h,-⟩,-⟩
    ·exact h
    ·omega
   exact .inr ⟨by rw[hleak]; exact hs,.inl rfl⟩
 refine ⟨hrt2,?_,hmem⟩;have hH:∀ b,TwoB _ _ _ _ _ _:=fun b=>hrt2.H b;have live:∀ b,mkH n ((c.outT id ga fz).bks (fun j=>n+j) y) b ≠ .dead->mkH n (c.out.bks (fun j=>n+j) y) b ≠ .dead:=fun b h=>(hrt2.H b).live.1 h;have cellsEq:∀ b,(mkH n ((c.outT id ga fz).bks (fun j=>n+j) y) b).isCells=(mkH n (c.out.bks (fun j=>n+j) y) b).isCells:=fun b=>(hrt2.H b).live.2.2.1.symm;have keepI:∀ k,(X.inner { S:=go.S,loc:=g8.loc } (mkH 8 ((c.inpT ga).bks (fun j=>8+j) x)) (mkZ 8 c.inp.blks) w hb).Keep k↔(Za P gl w (My c g8 ga) (UZ c X w (lent gc (c.entry x).H (c.entry x).Z)) WA gc (c.entry x).H (c.entry x).Z).Keep k:=fun k =>
  and_congr eJ (not_congr (hlent k).symm)
 have lentI:∀ r,lent gc (c.entry x).H (c.entry x).Z r->lent { S:=go.S,loc:=g8.loc } (mkH 8 ((c.inpT ga).bks (fun j=>8+j) x)) (mkZ 8 c.inp.blks) r:=fun r hr=>(hlent r).1 hr
 refine { blk:=fun b=>hrt2.blk hf.blk b,used:=fun b hb=>hf.used b (live b hb),inj:=fun b b' r hb hb' hl hl'=>hf.inj b b' r (live b hb) (live b' hb') hl hl',acc:=fun q b o hs => ?_,sep:=fun q r o b hs hbd hl => ?_,up0:=fun q b o hs => ?_,up2:=fun q b o hq hs => ?_,dn:=fun b o hs => ?_,fr:=fun b o hs => ?_,nf:=fun b o hs hB=>(by
  have lentJ:∀ r,lent { S:=go.S,loc:=g8.loc } (mkH 8 ((c.inpT ga).bks (fun j=>8+j) x)) (mkZ 8 c.inp.blks) r->lent gc (c.entry x).H (c.entry x).Z r:=fun r hr=>(hlent r).2 hr;rcases hs with hs | ⟨hs,-⟩
  ·have hk:=hkeep 0 b o hs;rcases hB with hB | hB
   ·rw[qG (hf.keep b hk)];exact ho.nf b o hs (.inl hB)
   ·exact absurd (lentJ b hB) hk.2
  ·have hs0:=hN0 b o hs;by_cases hlb:lent gc (c.entry x).H (c.entry x).Z b
   ·exact hf.nf b o hs0 (.inr hlb)
   ·rcases hf.dn b o hs0 with h5 | h5 | h5
    ·obtain⟨k5,h5⟩:∃ k,g8.S k b o:=h5.elim (fun h=>⟨ga,h⟩) fun h=>⟨2,h.2⟩;rw[qG (hf.keep b ⟨hm.mem_lt h5,hlb⟩)];rcases hB with hB | hB
     ·exact hm.nf b o (hm.up0 k5 b o h5) (.inl hB)
     ·exact absurd (lentJ b hB) hlb
    ·exact hf.nf b o hs0 (.inl (.inl h5))
    ·exact absurd h5 hlb),keep:=fun k hk=>hf.keep k ((keepI k).1 hk),mine:=fun b r hbd hl hk => ?_,own:=fun b r hbd hl => ?_,os:=hf.os,tape:=hf.tape,output:=hf.output,size:=hf.size,bnd:=hf.bnd,glob:=fun q z hz => ?_,grow:=hf.grow }
 ·rcases hs with hs | ⟨hs,-⟩
  ·rw[hmem q b o hs]; exact ho.acc q b o hs
  ·exact hf.acc 0 b o (hN0 b o hs)
 ·have hlv:=live b hbd;have hs':g'.S 0 r o:=by
   rcases hs with hs | ⟨hs,-⟩
   ·exfalso;have hk:=hkeep q r o hs;rcases hf.own b r hlv hl with h | h | ⟨h1,h2⟩
    ·have h:w.heap.size<=r:=h;have:=hk.1; omega
    ·exact hk.2 h
    ·obtain⟨j,k,rfl,h3,h4⟩:=uR hlv;have hjl:j<c.out.blks.length:=by
      have:=(aq.1 h3).1;unfold Sh.bks at this;rwa [wZ] at this
     have ht:=al hjl;rw[YU ht,Dx hok _ (cY hjl)] at h1;cases h1
   ·exact hN0 r o hs
  obtain⟨h1,q',ts,xs,h2,h3⟩:=hf.sep 0 r o b hs' hlv hl;refine ⟨h1,?_⟩;have ht:=hrt2.H b;rw[h2] at ht;cases hk:mkH n ((c.outT id ga fz).bks (fun j=>n+j) y) b with
  | dead=>exact absurd hk hbd
  | cells cs=>rw[show mkH n (Sh.bks { c.out with tg:=c.out.tg.map (Kh id ga fz) } (fun j=>n+j) y) b = .cells cs from hk] at ht; exact ht.elim
  | seq q2 us ys =>
   rw[show mkH n (Sh.bks { c.out with tg:=c.out.tg.map (Kh id ga fz) } (fun j=>n+j) y) b = .seq q2 us ys from hk] at ht
   obtain⟨⟨rfl,rfl⟩,-⟩:=ht;exact ⟨q2,_,_,rfl,h3⟩
 ·rcases hs with hs | ⟨hs,-⟩
  ·exact .inl (ho.up0 q b o hs)
  ·exact .inr ⟨hs,.inl rfl⟩
 ·rcases hs with hs | ⟨hs,h | h⟩
  ·exact .inl (ho.up2 q b o hq hs)
  ·omega
  ·exact .inr ⟨hs,.inr ⟨h.1,.inl rfl⟩⟩
 ·rcases hs with hs | ⟨hs,-⟩
  ·exact .inl hs
  ·cases hl:c.leak with
   | true =>
    rcases hf.dn b o (hN0 b o hs) with h | h | h
    ·left;show go.S 0 b o;rw[hlk hl];exact h.elim (hm.up0 ga b o) fun h=>hm.up0 2 b o h.2
    ·exact .inr (.inl h)
    ·exact .inr (.inr (lentI b h))
   | false =>
    rw[hl] at hs;have hno:c.has2=false:=by
     rcases KL hok with h | ⟨-,h⟩
     ·rw[hl] at h; cases h
     ·exact h
    rcases hfresh b o hs with h | h | h
    ·exact .inr (.inl h)
    ·exact .inr (.inr (lentI b h))
    ·rw[hno] at h; cases h.1
 ·rcases hs with hs | ⟨hs,h | h⟩
  ·exact ho.fr b o hs
  ·omega
  ·exact h.1
 ·have:=hf.mine b r (live b hbd) hl ((keepI r).1 hk);exact ⟨this.1,by rw[cellsEq]; exact this.2⟩
 ·rcases hf.own b r (live b hbd) hl with h | h | ⟨h1,h2⟩
  ·exact .inl h
  ·exact .inr (.inl (lentI r h))
  ·exact .inr (.inr ⟨h1,by rw[cellsEq]; exact h2⟩)
 ·have hsb:∀ b o,go.S 1 b o->(Jf go g' c.leak X.N id).S 1 b o∧mem w' b o=mem w b o:=fun b o h=>⟨.inl h,hmem 1 b o h⟩;exact RC.mono hsb hsb _ _ _ _ (ho.glob q z hz)
theorem Aj {c:Mem} {g:Gh} {H:Nat->Blk} {U:Nat->Prop} {as:List AV} {vs:List Value} (h:RL c g H U as vs):RAV c g H U (zdA as) (Kr vs):=by
 unfold zdA Kr
 match as,vs,h with
 | [],vs,h =>
  simp only[RL] at h; subst h;exact ⟨_,rfl,rfl⟩
 | [a],vs,h =>
  obtain⟨v,us,rfl,h1,h2⟩:=h;have h2:us=[]:=h2;subst h2;exact h1
 | a::b::as,vs,h =>
  obtain⟨v,us,rfl,h1,h2⟩:=h;obtain⟨u,ws,rfl,h3,h4⟩:=h2;exact ⟨_,rfl,⟨v,u::ws,by simp,h1,u,ws,rfl,h3,h4⟩⟩
theorem Yj:(ts:List TB)->(bs:List Blk)->wd ts bs=true->∀(n:Nat) (t:TB) (b:Blk),ts[n]? = some t->bs[n]? = some b->ZJ t b=true
 | [],_,_,_,_,_,ht,_=>by simp at ht
 | t0::ts,[],_,_,_,_,_,hb=>by simp at hb
 | t0::ts,b0::bs,hk,n,t,b,ht,hb=>by
  obtain⟨hk1,hk2⟩:=sE hk;cases n with
  | zero=>injection ht with ht; injection hb with hb; subst ht; subst hb; exact hk1
  | succ n=>exact Yj ts bs hk2 n t b (by simpa using ht) (by simpa using hb)
theorem Bf {t:TB} (h:t.ro=true):∃ l,t = .cells true l:=by
 cases t with
 | seq z=>cases h
 | cells z l=>cases z with
  | true=>exact ⟨l,rfl⟩
  | false=>cases h
theorem Y6 (H:Nat->Blk) (ws us:List (Nat×Blk)):y8 H (ws++us)=y8 (y8 H ws) us:=by
 unfold y8; rw[List.foldl_append]
theorem IG {H:Nat->Blk}:(C:List Nat)->(b:Nat)->y8 H (C.map fun b=>(b,Blk.dead)) b = .dead∨(b∉C∧y8 H (C.map fun b=>(b,Blk.dead)) b=H b):=by
 intro C
 induction C generalizing H with
 | nil=>intro b; exact .inr ⟨by simp,rfl⟩
 | cons c C ih =>
  intro b;show y8 (upd H c .dead) (C.map fun b=>(b,Blk.dead)) b = .dead∨_;rcases ih (H:=upd H c .dead) b with h | ⟨h1,h2⟩
  ·exact .inl h
  ·by_cases hb:b=c
   ·subst hb;rw[zq] at h2;exact .inl h2
   ·rw[qK _ _ hb] at h2;refine .inr ⟨by simp [hb,h1],?_⟩
    show y8 (upd H c .dead) (C.map fun b=>(b,Blk.dead)) b=H b;exact h2
theorem zam {P:Program} {X:Fx} {fz:Nat} (hfz2:fz=2) (hB:fz=2->∀ r,X.O r->X.N r) {f:FuncId} {c:ShC} (hc:ShOk P X.gl f c):MM P X fz f (.gen (shE c)):=by
 have hfz:fz=0∨fz=2:=.inr hfz2;intro R κ x g H hv Z U w id as vs hm hh hid hrl h;have h:shE c id fz as hv Z κ=some x:=h;unfold shE at h;obtain⟨p,hp,h⟩:=ag.1 h;obtain⟨q,hq,h⟩:=ag.1 h;generalize U7 hv fz (p.1++q.1)=g0 at h;generalize hga:cond c.glob (jn g0 1) g0=ga at h;unfold ze9 at h;obtain⟨d,hd,h⟩:=ag.1 h;obtain⟨y,hy,h⟩:=ag.1 h;clear hp hq;obtain⟨L1,L2,b1,hdok⟩:=J9 hd;have hok:=hc.ok
 -- what may be seen
 obtain⟨hmv,hmov⟩:=hm.fewer hh;obtain⟨g8,hS8,hl8,hm8,hrl8,hk8⟩:=hmv.weak hfz hB hdok (RL.mono hmov _ _ hrl) 8;have hm8:MemOk X g8 (mkH 8 ((c.inpT ga).bks (fun j=>8+j) d.x)) (mkZ 8 c.inp.blks) (upto 8 c.inp.blks.length) w:=hm8;have halive:∀ b,b∈d.zs->hv b ≠ .dead:=by
  intro b hb;rw[hdok.zs] at hb;obtain⟨a,ha,hb⟩:=List.mem_flatMap.1 hb;obtain⟨m,k,t,z,qq,-,h1,-⟩:=hdok.lf.left a ha;exact BC h1 b hb
 have hS8':g8.S=(g.show H fz d.zs).S:=hS8.trans (Hz hh halive)
 -- the outer state
 obtain⟨hmo,hmoo,-⟩:=hm.shown hfz hB (cond c.leak d.zs []);have hsub:∀ q b o,(g.show H fz (cond c.leak d.zs [])).S q b o->g8.S q b o:=by
  intro q b o hs;rw[hS8'];cases hlk:c.leak with
  | true=>rw[hlk] at hs; exact hs
  | false =>
   rw[hlk] at hs;rcases hs with hs | ⟨-,xx,hx,-⟩
   ·exact .inl hs
   ·cases hx
 have hlkS:c.leak=true->(g.show H fz (cond c.leak d.zs [])).S=g8.S:=by
  intro hlk;rw[hlk,hS8']; rfl
 -- the call
 obtain⟨hrt,hmc⟩:=MemOk.enter P (cond c.glob X.gl fun _=>none) hm8 (fun q z hz=>by
  cases hg:c.glob with
  | false=>rw[hg] at hz; cases hz
  | true =>
   rw[hg] at hz hga;exact ⟨hz,by rw[← hga]; exact sH g0 1⟩) rfl
 have hrlc:=hrt.RL hrl8;refine (hc.does w (My c g8 ga) (Og c g8) _ WA _ vs d.x y (fun h2=>⟨fun b o h=>(nomatch (h2.symm.trans h.1:false=true)),fun b h=>h.elim .inl fun h=>h.elim .inr fun h=>(nomatch (h2.symm.trans h.1:false=true))⟩) (fun r hr=>.inr (.inl hr)) rfl hmc hrlc hy).mono ?_;intro v w' hpost;obtain⟨g',us,hf,hrl',hv',hmu,-⟩:=hpost id;obtain⟨hrt2,hmL,hmem⟩:=MemOk.leave hok hmo hm8 hsub hlkS rfl hrt (id:=id) (hB hfz2) hf (hb:=hmo.bB);have hmuok:=zcb hok;have hlen:=hdok.len;have hlen:d.bd.length=c.inp.blks.length:=hlen;have hfew:=SM hok
 -- blocks that are changed
 have hmub:∀ p,p∈c.mu->∃ i,d.bd[p.1]? = some (some i)∧U i∧hv i=H i∧g8.loc (8+p.1)=g.loc i∧SameKind (H i) ((c.entry d.x).H (8+p.1)):=by
  intro p hp;obtain⟨h1,h2,h3⟩:=hmuok p hp;obtain⟨⟨r,hr1,hr2⟩,hsk⟩:=hmu p hp;have hr1:g8.loc (8+p.1)=some r:=hr1;have hlt:p.1<d.bd.length:=by rw[hlen]; exact h1
  have ho:=al hlt;cases hoi:d.bd[p.1] with
  | none =>
   exfalso;rw[hoi] at ho;have hl:=hl8 p.1 none ho;rw[hr1] at hl;cases hl
  | some i =>
   rw[hoi] at ho;obtain⟨h4,-⟩:=hk8 p.1 i ho;have h4:SameKind (hv i) (mkH 8 ((c.inpT ga).bks (fun j=>8+j) d.x) (8+p.1)):=h4;have hne:hv i ≠ .dead:=fun e=>by rw[e] at h4; exact h4
   have hve:=(hh i).resolve_left hne;refine ⟨i,ho,hm.used i (hve▸hne),hve,hl8 p.1 _ ho,?_⟩;rw[hve] at h4;refine h4.trans ?_;have:=(hrt.H (8+p.1)).live.2.2.2;rcases this with hd' | hd'
   ·exfalso;have hsk':=hsk;rw[show (c.entry d.x).H (8+p.1) = .dead from hd'] at hsk'
    exact SameKind.dead hsk'
   ·exact hd'
 have hin:=S6 hok
 -- the names of the blocks behind
 have hname:∀ k,(tj d.bd id k c.mu=id+k∧∀ p,p∈c.mu->p.2≠k)∨∃ p i,p∈c.mu∧p.2=k∧d.bd[p.1]? = some (some i)∧tj d.bd id k c.mu=i:=by
  intro k;rcases WJ d.bd id k c.mu with ⟨h1,h2⟩ | ⟨p,h1,h2,h3⟩
  ·exact .inl ⟨h2,h1⟩
  ·obtain⟨i,h4,-⟩:=hmub p h1;rw[h4] at h3;exact .inr ⟨p,i,h1,h2,h4,h3⟩
 have hnew:∀ k,k<8->¬ U (id+k):=fun k hk=>hid _ (by omega) (by omega)
 have hUi:∀ p i,p∈c.mu->d.bd[p.1]? = some (some i)->U i:=by
  intro p i hp hi;obtain⟨i',h1,h2,-⟩:=hmub p hp;rw[h1] at hi;injection hi with hi; injection hi with hi;rw[← hi]; exact h2
 have hninj:∀ k k',k<8->k'<8->tj d.bd id k c.mu=tj d.bd id k' c.mu->k=k':=by
  intro k k' hk hk' he;rcases hname k with ⟨h1,h2⟩ | ⟨p,i,h1,h2,h3,h4⟩<;>rcases hname k' with ⟨h1',h2'⟩ | ⟨p',i',h1',h2',h3',h4'⟩
  ·omega
  ·exact absurd (hUi p' i' h1' h3') (by rw[← h4',← he,h1]; exact hnew k hk)
  ·exact absurd (hUi p i h1 h3) (by rw[← h4,he,h1']; exact hnew k' hk')
  ·have:i=i':=by rw[← h4,← h4',he]
   subst this;have:=hdok.inj _ _ _ h3 h3';have:=hin.1 p p' h1 h1' this;rw[← h2,← h2',this]
 -- from where a block comes
 let bks:=(c.outT id ga fz).bks (fun k=>id+k) y
 have hbl:bks.length=c.out.blks.length:=by show ((c.outT id ga fz).bks _ y).length=_; unfold Sh.bks; rw[wZ]; rfl
 have hbl8:bks.length<=8:=by rw[hbl]; exact hfew
 let tk:List (Nat×Blk):=(un c.inp d.bd).map fun b=>(b,Blk.dead)
 have hkeys:(AW c.mu d.bd id 0 bks).Pairwise (fun p q=>p.1≠q.1):=by
  have gen:∀(bs:List Blk) (k0:Nat),k0+bs.length<=8->(AW c.mu d.bd id k0 bs).Pairwise (fun p q=>p.1≠q.1):=by
   intro bs
   induction bs with
   | nil=>intro k0 _; exact gM
   | cons b bs ih =>
    intro k0 hk;simp only[au] at hk;refine List.pairwise_cons.2 ⟨fun q hq => ?_,ih (k0+1) (by omega)⟩
    obtain⟨n,b',h1,rfl⟩:=(Xq (k0+1) bs q).1 hq;have hn:=(aq.1 h1).1;intro e;have:=hninj k0 (k0+1+n) (by omega) (by omega) e
    omega
  exact gen bks 0 (by omega)
 have hkey:∀ k,k<bks.length->∀ b,bks[k]? = some b->y8 H (tk++AW c.mu d.bd id 0 bks) (tj d.bd id k c.mu)=b:=by
  intro k hk b hb;rw[Y6];have hp:(tj d.bd id k c.mu,b)∈AW c.mu d.bd id 0 bks:=(Xq 0 bks _).2 ⟨k,b,hb,by rw[aL]⟩
  exact Kg hkeys _ hp
 have hnokey:∀ b,(∀ k,k<bks.length->tj d.bd id k c.mu≠b)->y8 H (tk++AW c.mu d.bd id 0 bks) b = .dead∨(b∉un c.inp d.bd∧y8 H (tk++AW c.mu d.bd id 0 bks) b=H b):=by
  intro b hb;rw[Y6,xM fun r hr => ?_]
  ·exact IG _ b
  ·obtain⟨n,b',h1,rfl⟩:=(Xq 0 bks r).1 hr;rw[aL];exact hb n (aq.1 h1).1
 obtain⟨src,hsrc1,hsrc2⟩:∃ src:Nat->Option Nat,(∀ k,k<bks.length->src (tj d.bd id k c.mu)=some (id+k))∧∀ b,(src b=none∧∀ k,k<bks.length->tj d.bd id k c.mu≠b)∨∃ k,k<bks.length∧tj d.bd id k c.mu=b∧src b=some (id+k):=by
  classical
  refine ⟨fun b=>if h:∃ k,k<bks.length∧tj d.bd id k c.mu=b then some (id+h.choose) else none,fun k hk => ?_,fun b => ?_⟩
  ·have hex:∃ k',k'<bks.length∧tj d.bd id k' c.mu=tj d.bd id k c.mu:=⟨k,hk,rfl⟩;have h1:=hex.choose_spec;show (if h:∃ k',k'<bks.length∧tj d.bd id k' c.mu=tj d.bd id k c.mu then some (id+h.choose) else none)=_
   rw[dif_pos hex,hninj _ _ (by omega) (by omega) h1.2]
  ·by_cases hex:∃ k,k<bks.length∧tj d.bd id k c.mu=b
   ·have h1:=hex.choose_spec;exact .inr ⟨hex.choose,h1.1,h1.2,by show (if h:∃ k,k<bks.length∧tj d.bd id k c.mu=b then some (id+h.choose) else none)=_; rw[dif_pos hex]⟩
   ·refine .inl ⟨by show (if h:∃ k,k<bks.length∧tj d.bd id k c.mu=b then some (id+h.choose) else none)=_; rw[dif_neg hex],fun k hk e=>hex ⟨k,hk,e⟩⟩
 have houtz:∀ b,mkZ id c.out.blks b=true->mkH id bks b = .dead:=by
  intro b hz;by_cases hd:mkH id bks b = .dead
  ·exact hd
  ·exfalso;obtain⟨j,k,rfl,h1,h2⟩:=uR hd;have hj:j<c.out.blks.length:=by rw[← hbl]; exact (aq.1 h1).1
   have ht:=al hj;rw[YU ht,Dx hok _ (cY hj)] at hz;cases hz
 have hHi:∀ k,k<bks.length->bks[k]? = some (mkH id bks (id+k)):=by
  intro k hk;have ht:=al hk;rw[Wh ht]; exact ht
 have hnotlent:∀ b,b∉un c.inp d.bd->H b ≠ .dead->∀ r,g.loc b=some r->¬ lent g8 (mkH 8 ((c.inpT ga).bks (fun j=>8+j) d.x)) (mkZ 8 c.inp.blks) r:=by
  rintro b hnt hbd r hl ⟨b8,hb1,hb2,hb3⟩;obtain⟨j,kk,rfl,hj1,hj2⟩:=uR hb1;have hjl:j<d.bd.length:=by
   rw[hlen];have:=(aq.1 hj1).1;unfold Sh.bks at this;rw[wZ] at this;exact this
  have ho:=al hjl;have hlj:=hl8 j _ ho;rw[hb2] at hlj;cases hoi:d.bd[j] with
  | none=>rw[hoi] at hlj; cases hlj
  | some i =>
   rw[hoi] at hlj ho;have hlj:some r=g.loc i:=hlj;obtain⟨hk1,-⟩:=hk8 j i ho;have hvi:hv i ≠ .dead:=fun e=>by rw[e] at hk1; exact hk1
   have hve:=(hh i).resolve_left hvi;have:b=i:=hm.inj b i r hbd (hve▸hvi) hl hlj.symm;subst this;have hjt:j<c.inp.blks.length:=by rw[← hlen]; exact hjl
   have ht:=al hjt;apply hnt;refine Wo ht ?_ ho;cases hr:c.inp.blks[j].ro with
   | false=>rfl
   | true =>
    exfalso;apply hb3;obtain⟨l,hl2⟩:=Bf hr;refine ⟨?_,?_⟩
    ·rw[YU ht,hl2]; rfl
    ·have:=Yj _ _ (hdok.kinds fun j=>8+j) j _ _ (show (c.inpT ga).blks[j]? = _ from ht) hj1
     rw[hl2] at this;rw[hj2];cases kk<;>first | rfl | cases this
 have em:Emb { S:=(g.show H fz (cond c.leak d.zs [])).S,loc:=g8.loc } (mkH 8 ((c.inpT ga).bks (fun j=>8+j) d.x)) (mkZ 8 c.inp.blks) (g.show H fz (cond c.leak d.zs [])) H (xa Z (cond c.leak d.zs [])) U
   (Jf (g.show H fz (cond c.leak d.zs [])) g' c.leak X.N id) (mkH id bks) (mkZ id c.out.blks) (upto id c.out.blks.length) (mem w) (mem w') (fun b=>match src b with | none=>g.loc b | some b'=>g'.loc b') (y8 H (tk++AW c.mu d.bd id 0 bks)) (xa Z (cond c.leak d.zs [])) (UI U id) src:=by
  refine { old:=fun b hd hs => ?_,new:=fun b b' hd hs => ?_,inj:=fun b b2 b' hs hs' => ?_,used:=fun b hd => ?_,uo:=fun b hb=>.inl hb,ui:=fun b hb=>.inr ⟨hb.1,cq hb.2 (by omega)⟩,outer:=fun b hb => ?_,inner:=fun b hb => ?_ }
  ·rcases hsrc2 b with ⟨-,h1⟩ | ⟨k,-,-,h3⟩
   ·rcases hnokey b h1 with h2 | ⟨h2,h3⟩
    ·exact absurd h2 hd
    ·refine ⟨h3,by show (match src b with | none=>g.loc b | some b'=>g'.loc b')=_; rw[hs]; rfl,fun r hr => ?_,fun h=>h⟩
     exact hnotlent b h2 (h3▸hd) r hr
   ·rw[hs] at h3; cases h3
  ·rcases hsrc2 b with ⟨h1,-⟩ | ⟨k,h1,h2,h3⟩
   ·rw[hs] at h1; cases h1
   ·rw[hs] at h3;injection h3 with h3;subst h3;subst h2;have h4:=hkey k h1 _ (hHi k h1);refine ⟨h4,by show (match src _ with | none=>g.loc _ | some b'=>g'.loc b')=_; rw[hs]; rfl,fun hz => ?_⟩
    rw[h4,houtz _ hz] at hd;exact absurd rfl hd
  ·rcases hsrc2 b with ⟨h1,-⟩ | ⟨k,h1,h2,h3⟩
   ·rw[hs] at h1; cases h1
   ·rcases hsrc2 b2 with ⟨h1',-⟩ | ⟨k',h1',h2',h3'⟩
    ·rw[hs'] at h1'; cases h1'
    ·rw[hs] at h3; rw[hs'] at h3';injection h3 with h3; injection h3' with h3';have:k=k':=by omega
     rw[← h2,← h2',this]
  ·rcases hsrc2 b with ⟨-,h1⟩ | ⟨k,h1,h2,-⟩
   ·rcases hnokey b h1 with h2 | ⟨-,h3⟩
    ·exact absurd h2 hd
    ·exact .inl (hm.used b (h3▸hd))
   ·rw[← h2];rcases hname k with ⟨h4,-⟩ | ⟨p,i,h4,-,h5,h6⟩
    ·rw[h4]; exact .inr ⟨by omega,by omega⟩
    ·rw[h6]; exact .inl (hUi p i h4 h5)
  ·rcases hsrc2 b with ⟨h1,-⟩ | ⟨k,h1,h2,h3⟩
   ·exact .inl h1
   ·rcases hname k with ⟨h4,-⟩ | ⟨p,i,h4,h5,h6,h7⟩
    ·rw[h2] at h4;exact absurd hb (h4▸hnew k (by omega))
    ·rw[h2] at h7;subst h7;obtain⟨i',h8,-,-,h10,h11⟩:=hmub p h4;rw[h6] at h8;injection h8 with h8; injection h8 with h8;subst h8;obtain⟨⟨r,hr1,hr2⟩,hsk⟩:=hmu p h4;have hr1:g8.loc (8+p.1)=some r:=hr1;rw[h10] at hr1;rw[h5] at hr2 hsk;have hkk:=hkey k h1 _ (hHi k h1);rw[h2] at hkk;have hsk2:SameKind (H b) (mkH id bks (id+k)):=by
      refine (h11.trans hsk).trans ?_;rcases (hrt2.H (id+k)).live.2.2.2 with hd' | hd'
      ·exfalso;have hl1:=(hrt2.H (id+k)).live.2.1 (fun e=>by rw[e] at hsk; cases hd0:(c.entry d.x).H (8+p.1)<;>rw[hd0] at hsk<;>exact hsk)
       exact hl1 hd'
      ·exact hd'
     refine .inr ⟨id+k,h3,hsk2,hr2.trans hr1.symm,hkk,?_,fun r0 _ j hj=>hmL.grow r0 j hj⟩;show (match src b with | none=>g.loc b | some b'=>g'.loc b')=g.loc b
     rw[h3];exact hr2.trans hr1.symm
  ·obtain⟨hb1,hb2⟩:=hb;obtain⟨k,rfl⟩:∃ k,b=id+k:=⟨b - id,by omega⟩
   have hk:k<bks.length:=by rw[hbl]; omega
   rcases hname k with ⟨h4,-⟩ | ⟨p,i,h4,h5,h6,h7⟩
   ·right;have h1:=hkey k hk _ (hHi k hk);have h2:=hsrc1 k hk;rw[h4] at h1 h2;exact ⟨h1,by show (match src _ with | none=>g.loc _ | some b'=>g'.loc b')=_; rw[h2]; rfl⟩
   ·left;have hnk:∀ k',k'<bks.length->tj d.bd id k' c.mu≠id+k:=by
     intro k' hk' e;rcases hname k' with ⟨h8,-⟩ | ⟨p',i',h8,-,h9,h10⟩
     ·have:k'=k:=by omega
      subst this;rw[e] at h7;exact absurd (hUi p i h4 h6) (h7▸hnew k' (by omega))
     ·rw[e] at h10;exact absurd (hUi p' i' h8 h9) (h10▸hnew k (by omega))
    rcases hnokey (id+k) hnk with h | ⟨-,h⟩
    ·exact h
    ·rw[h];cases hd:H (id+k) with
     | dead=>rfl
     | _=>exact absurd (hm.used _ (by rw[hd]; simp)) (hnew k (by omega))
 obtain⟨hM,hM1,hM2⟩:=hmo.embed2 (hb:=hmo.bB) hmL em rfl (fun q b o hs=>⟨.inl hs,hmem q b o hs⟩) (fun r hr=>by
  have:=Y0 hm8 (r:=r) hr;exact ⟨this.1,this.2.1⟩) (fun b hb h=>hb (houtz b h.1))
 refine ⟨_,_,_,h,?_,hM,hmoo.trans hM1⟩;rw[hv'];exact Aj (RL.take (RL.mono hM2 _ _ (hrt2.RL hrl')) c.nres)
section
variable {R:Type}
def NJ (H:Nat->Blk) (fz:Nat):List Nat->(hs:List Ty)->List AV->(sA hs->Option R)->Option R
 | _,[],[],κ=>κ ()
 | tg,[h],[a],κ=>cond (leB (sX H fz a) (tg.headD 0)) (Vr H fz h a fun y=>κ y) none
 | tg,h::i::hs,a::as,κ=>cond (leB (sX H fz a) (tg.headD 0)) (Vr H fz h a fun y=>NJ H fz tg.tail (i::hs) as fun z=>κ (y,z)) none
 | _,_,_,_=>none
theorem Dw (H:Nat->Blk) (fz:Nat):(tg:List Nat)->(hs:List Ty)->(as:List AV)->(κ:sA hs->Option R)->NJ H fz tg hs as κ=(zab H fz tg hs as).bind κ
 | _,[],[],κ=>rfl
 | _,[],_::_,κ=>rfl
 | tg,[h],[],κ=>rfl
 | tg,[h],_::_::_,κ=>rfl
 | tg,[h],[a],κ=>by
  show cond (leB (sX H fz a) (tg.headD 0)) (Vr H fz h a fun y=>κ y) none=(cond (leB (sX H fz a) (tg.headD 0)) ((xI H fz h a).bind fun y=>some y.2) none:Option (sA [h])).bind κ;cases leB (sX H fz a) (tg.headD 0) with
  | false=>rfl
  | true =>
   simp only[cond_true,Xw];rw[bE];rfl
 | tg,h::i::hs,[],κ=>rfl
 | tg,h::i::hs,a::as,κ=>by
  show cond (leB (sX H fz a) (tg.headD 0)) (Vr H fz h a fun y=>NJ H fz tg.tail (i::hs) as fun z=>κ (y,z)) none =
   (cond (leB (sX H fz a) (tg.headD 0)) ((xI H fz h a).bind fun y=>(zab H fz tg.tail (i::hs) as).bind fun z=>some (y.2,z)) none:Option (sA (h::i::hs))).bind κ
  cases leB (sX H fz a) (tg.headD 0) with
  | false=>rfl
  | true =>
   simp only[cond_true,Xw];rw[bE]
   congr 1
   funext y
   rw[Dw H fz tg.tail (i::hs) as,bE];rfl
def Sh.decK (sh:Sh) (H:Nat->Blk) (Z:Nat->Bool) (fz:Nat) (as:List AV) (κ:Dec sh->Option R):Option R :=
 (w5 sh.slots as []).bind fun p=>(Vo H Z sh.blks 0 p.2).bind fun q=>NJ H fz sh.tg sh.hs (p.1++q.1) fun x =>
  cond (wd sh.blks (sh.bks (fun j=>j) x)&&(ye (p.1++q.1)).all fun b=>ZM (some b) q.2) (κ ⟨x,q.2,ye (p.1++q.1)⟩) none
theorem Sh.decK_eq (sh:Sh) (H:Nat->Blk) (Z:Nat->Bool) (fz:Nat) (as:List AV) (κ:Dec sh->Option R):sh.decK H Z fz as κ=(sh.dec H Z fz as).bind κ:=by
 unfold Sh.decK Sh.dec;rw[bE]
 congr 1
 funext p
 rw[bE]
 congr 1
 funext q
 rw[Dw,bE]
 congr 1
 funext x
 cases (wd sh.blks (sh.bks (fun j=>j) x)&&(ye (p.1++q.1)).all fun b=>ZM (some b) q.2)<;>rfl
def Yb (tb:Tb) (st:St):List RT'->(List AV->Option R)->Option R
 | [],κ=>κ []
 | .tmp t::rs,κ=>Yb tb st rs fun as=>κ (st.φ t::as)
 | .cell a ty::rs,κ=>ZH tb st.H ty (st.φ a) fun v=>Yb tb st rs fun as=>κ (v::as)
theorem QL (tb:Tb) (st:St):(rts:List RT')->(κ:List AV->Option R)->Yb tb st rts κ=(t7 tb st rts).bind κ
 | [],κ=>rfl
 | .tmp t::rs,κ=>by
  show Yb tb st rs (fun as=>κ (st.φ t::as))=((t7 tb st rs).bind fun as=>some (st.φ t::as)).bind κ;rw[QL tb st rs,bE];rfl
 | .cell a ty::rs,κ=>by
  show ZH tb st.H ty (st.φ a) (fun v=>Yb tb st rs fun as=>κ (v::as))=((ZH tb st.H ty (st.φ a) some).bind fun v=>(t7 tb st rs).bind fun as=>some (v::as)).bind κ;rw[Gk,bE]
  congr 1
  funext v
  rw[QL tb st rs,bE];rfl
def Ni (tb:Tb) (fz:Nat) (c:ShC) (rts:List RT') (x:sA c.inp.hs):XE->St->Option (sA c.out.hs)
 | .normal,st=>Yb tb st rts fun as=>c.out.decK st.H st.Z fz (as++c.ms.map st.φ) fun d=>cond (neB c x) (cond (IR c x d.x) (some d.x) none) none
 | .ret,st=>Yb tb st rts fun as=>c.out.decK st.H st.Z fz (as++c.ms.map st.φ) fun d=>cond (neB c x) (cond (IR c x d.x) (some d.x) none) none
 | _,_=>none
theorem Nf (tb:Tb) (fz:Nat) (c:ShC) (rts:List RT') (x:sA c.inp.hs):Ni tb fz c rts x=zeg tb fz c rts x:=by
 funext e st
 cases e<;>first | rfl | (simp only[Ni,zeg,QL]; congr 1; funext as; exact Sh.decK_eq ..)
def U6 (c:ShC) (id fz:Nat) (as:List AV) (H:Nat->Blk) (Z:Nat->Bool) (κ:K R):Option R :=
 (w5 c.inp.slots as []).bind fun p=>(Vo H Z c.inp.blks 0 p.2).bind fun q =>
  let ga:=cond c.glob (jn (U7 H fz (p.1++q.1)) 1) (U7 H fz (p.1++q.1))
  (c.inpT ga).decK H Z fz as fun d=>(c.F d.x).bind fun y =>
   κ (zdA (((c.outT id ga fz).avs (fun k=>id+k) y).take c.nres)) ⟨(un c.inp d.bd).map (fun b=>(b,.dead))++AW c.mu d.bd id 0 ((c.outT id ga fz).bks (fun k=>id+k) y),cond c.leak d.zs []⟩
theorem EF (c:ShC) (id fz:Nat) (as:List AV) (H:Nat->Blk) (Z:Nat->Bool) (κ:K R):U6 c id fz as H Z κ=shE c id fz as H Z κ:=by
 unfold U6 shE
 congr 1
 funext p
 congr 1
 funext q
 exact Sh.decK_eq ..
theorem za1 {P:Program} {gl:Gl} {f:FuncId} {ts:Tys} {out:Sh} {nres:Nat} {leak glob:Bool} {F:List (Tup ts)->Option (sA out.hs)} {F1:Unit->Option (sA out.hs)} {F2:Option (List (Tup ts))->Option (sA out.hs)}
  (h1:ShOk P gl f ⟨⟨[.nilv],[],[],[]⟩,out,nres,[],[],leak,glob,F1⟩) (h2:ShOk P gl f ⟨⟨[.hole],[],[1],[.ns ts]⟩,out,nres,[],[],leak,glob,F2⟩)
  (hF:∀ xs y,F xs=some y->F2 (some xs)=some y∧(xs=[]->F1 ()=some y)):ShOk P gl f ⟨⟨[.hole],[],[1],[.sl ts]⟩,out,nres,[],[],leak,glob,F⟩ where
 ok:=h1.ok
 does:=by
  intro w A A2 N hN g vs x y hh2 hNO hS hm hrl hy;obtain⟨e2,e1⟩:=hF x y hy;obtain⟨v,us,hvs,hv,hus⟩:=hrl;have hus:us=[]:=hus;subst hus;have hv:RE (mem w) (g.S 1) (.sl ts) x v:=hv;simp only[RE] at hv;obtain⟨a,cap,rfl,⟨hc1,hc2⟩,hx⟩:=hv;cases a with
  | none =>
   have hc:=hc2 rfl;subst hc;have hx0:x=[]:=List.eq_nil_of_length_eq_zero (by omega)
   subst hx0;exact h1.does w A A2 N hN g vs () y (fun _=>hh2 rfl) hNO hS hm ⟨_,[],hvs,rfl,rfl⟩ (e1 rfl)
  | some a =>
   refine h2.does w A A2 N hN g vs (some x) y (fun _=>hh2 rfl) hNO hS hm ⟨_,[],hvs,?_,rfl⟩ e2;show RE (mem w) (g.S 1) (.ns ts) (some x) _;simp only[RE];refine ⟨a,cap,rfl,hc1,hx.imp (fun h=>h) ?_⟩;rintro⟨b,o,h,hel⟩;injection h with h;subst h;exact ⟨rfl,hel⟩
end
def lp {X Y:Type} (step:(X->Option Y)->X->Option Y):Nat->X->Option Y
 | 0=>fun _=>none
 | k+1=>step (lp step k)
def zd:Nat:=13407807929942597099574024998205846127479365820592393377723561443721764030073546976801874298166903427690031858186486050853753882811946569946433649006084096
def yt {α β γ:Type} (y:α⊕β) (f:α->γ) (g:β->γ):γ :=
 match y with
 | .inl a=>f a
 | .inr b=>g b
theorem te {α β γ:Type} (a:α) (f:α->γ) (g:β->γ):yt (.inl a) f g=f a:=rfl
def Oc (c:ShC) (as:List AV):Bool:=(w5 c.inp.slots as []).isSome
def yd {R:Type}:List ShC->(id fz:Nat)->List AV->(Nat->Blk)->(Nat->Bool)->K R->Option R
 | [],_,_,_,_,_,_=>none
 | c::cs,id,fz,as,H,Z,κ=>cond (Oc c as) (U6 c id fz as H Z κ) (yd cs id fz as H Z κ)
theorem BT {R:Type} (c:ShC) (id fz:Nat) (H:Nat->Blk) (Z Z':Nat->Bool) (κ:K R):U6 c id fz [] H Z κ=U6 c id fz [] H Z' κ:=by
 have hB:∀ p,w5 c.inp.slots [] []=some p->∀ Z,Vo H Z c.inp.blks 0 p.2=Vo H Z' c.inp.blks 0 p.2:=by
  intro p hp Z;have h2:p.2=[]:=by
   cases hs:c.inp.slots with
   | nil=>rw[hs] at hp; injection hp with hp; rw[← hp]
   | cons t ts=>rw[hs] at hp; cases hp
  rw[h2];cases c.inp.blks<;>rfl
 unfold U6 Sh.decK;cases hp:w5 c.inp.slots [] [] with
 | none=>rfl
 | some p =>
  simp only[af];rw[hB p hp Z];cases hq:Vo H Z' c.inp.blks 0 p.2 with
  | none=>rfl
  | some q =>
   simp only[af];show ((w5 c.inp.slots [] []).bind fun p=>(Vo H Z c.inp.blks 0 p.2).bind _)=((w5 c.inp.slots [] []).bind fun p=>(Vo H Z' c.inp.blks 0 p.2).bind _);rw[hp];simp only[af];rw[hB p hp Z]
theorem V0 {R:Type}:(cs:List ShC)->(id fz:Nat)->(H:Nat->Blk)->(Z Z':Nat->Bool)->(κ:K R)->yd cs id fz [] H Z κ=yd cs id fz [] H Z' κ
 | [],_,_,_,_,_,_=>rfl
 | c::cs,id,fz,H,Z,Z',κ=>by
  unfold yd;cases Oc c [] with
  | true=>exact BT ..
  | false=>exact V0 cs ..
theorem Bm {R:Type}:(cs:List ShC)->(id fz:Nat)->(as:List AV)->(H:Nat->Blk)->(Z:Nat->Bool)->(κ:K R)->yd cs id fz as H Z κ=(yd cs id fz as H Z pk).bind (kb κ)
 | [],_,_,_,_,_,_=>rfl
 | c::cs,id,fz,as,H,Z,κ=>by
  unfold yd;cases Oc c as with
  | true =>
   simp only[cond_true,EF];exact TC ..
  | false=>exact Bm cs ..
def Good (P:Program) (gl:Gl) (f:FuncId) (c:Con):Prop :=
 c.nat∧∀ X:Fx,X.gl=gl->∀ fz,fz=2->(fz=2->∀ r,X.O r->X.N r)->MM P X fz f c
theorem Xr {P:Program} {gl:Gl} {f:FuncId} {cs:List ShC} (h:∀ c,c∈cs->ShOk P gl f c):Good P gl f (.gen (yd cs)):=by
 refine ⟨⟨fun {R}=>Bm cs,fun {R}=>V0 cs⟩,fun X hg fz hfz hB => ?_⟩;subst hg;intro R κ x g H hv Z U w id as vs hm hh hid hrl he;have he:yd cs id fz as hv Z κ=some x:=he
 induction cs with
 | nil=>cases he
 | cons c cs ih =>
  unfold yd at he;cases hf:Oc c as with
  | true =>
   rw[hf,cond_true,EF] at he;exact zam hfz hB (h c (by simp)) κ x g H hv Z U w id as vs hm hh hid hrl he
  | false =>
   rw[hf] at he;exact ih (fun c hc=>h c (by simp [hc])) he he
def gam:List (Nat×Con)->Ctx
 | [],_=>none
 | p::l,f=>cond (aw f p.1) (some p.2) (gam l f)
theorem I2:{l:List (Nat×Con)}->{f:FuncId}->{c:Con}->gam l f=some c->(f,c)∈l
 | [],f,c,h=>by cases h
 | p::l,f,c,h=>by
  unfold gam at h;cases hb:aw f p.1 with
  | true =>
   rw[hb] at h;injection h with h;rw[aj hb,← h];simp
  | false =>
   rw[hb] at h;exact ai _ (I2 h)
def Y4 (P:Program) (gl:Gl) (l:List (Nat×Con)):Prop:=∀ p,p∈l->Good P gl p.1 p.2
theorem za {P:Program} {gl:Gl}:Y4 P gl []:=fun p hp=>by cases hp
theorem Zg {P:Program} {gl:Gl} {f:Nat} {c:Con} {l:List (Nat×Con)} (h:Good P gl f c) (hl:Y4 P gl l):Y4 P gl ((f,c)::l):=fun p hp=>by
 rcases aI.1 hp with rfl | hp
 ·exact h
 ·exact hl p hp
theorem ShOk.anyGl {P:Program} {gl gl':Gl} {f:FuncId} {c:ShC} (hg:c.glob=false) (h:ShOk P gl f c):ShOk P gl' f c:=by
 refine ⟨h.ok,?_⟩;have hd:=h.does;rw[hg] at hd ⊢;exact hd
def RJ:List (Nat×TD)->Tb
 | [],_=>none
 | p::l,t=>cond (aw t p.1) (some p.2) (RJ l t)
theorem DS:{l:List (Nat×TD)}->{t:Nat}->{td:TD}->RJ l t=some td->(t,td)∈l
 | [],_,_,h=>by cases h
 | p::l,t,td,h=>by
  unfold RJ at h;cases hb:aw t p.1 with
  | true =>
   rw[hb] at h;injection h with h;rw[aj hb,← h];simp
  | false =>
   rw[hb] at h;exact ai _ (DS h)
def zeT (P:Program) (tb:Tb) (l:List (Nat×TD)):Prop:=∀ p,p∈l->zee P tb p.1 p.2
theorem zb {P:Program} {l:List (Nat×TD)} (h:zeT P (RJ l) l):vL P (RJ l):=fun _ _ ht=>h _ (DS ht)
def je (tb:Tb) (gl:Gl) (l:List (Nat×Con)) (c:ShC) (n:Nat):Env :=
 {tb:=tb,gl:=cond c.glob gl fun _=>none,Γ:=gam l,fz:=2,n:=n }
theorem zh {P:Program} {tb:Tb} {gl:Gl} {l:List (Nat×Con)} {c:ShC} {n:Nat} (ht:vL P tb) (hg:Y4 P (cond c.glob gl fun _=>none) l):VAll P (je tb gl l c n):=by
 have hfz:(je tb gl l c n).fz=0∨(je tb gl l c n).fz=2:=.inr rfl;exact ⟨ht,hfz,fun f c' h=>(hg _ (I2 h)).1,fun f c' h X hX hB=>(hg _ (I2 h)).2 X hX _ rfl hB⟩
def zeJ (fn:Func) (c:ShC) (n:Nat):Bool :=
 !(fn.name == "runtime.NumGoroutine")&&bN c.inp.slots.length fn.ntmps&&aw n fn.ntmps&&okC c
def yx:Code->List Nat->Code
 | c,[]=>c
 | .seq a _,0::p=>yx a p
 | .seq _ b,_::p=>yx b p
 | .cond _ a _,0::p=>yx a p
 | .cond _ _ b,_::p=>yx b p
 | .block _ c,_::p=>yx c p
 | .loop c,_::p=>yx c p
 | .scope c,_::p=>yx c p
 | c,_=>c
def obl:Code->AC->List (Code×Un)
 | c,.unit u=>[(c,u)]
 | .seq a b,ac=>obl a ac.one++obl b ac.two
 | .cond _ a b,ac=>obl a ac.one++obl b ac.two
 | .block _ c,ac=>obl c ac.one
 | _,_=>[]
def Obl (P:Program) (X:Fx) (V:Env) (l:List (Code×Un)):Prop:=∀ p,p∈l->A0 P X V p.1 p.2
theorem TE {P:Program} {X:Fx} {V:Env}:Obl P X V []:=fun p hp=>by cases hp
theorem NV {P:Program} {X:Fx} {V:Env} {c:Code} {u:Un} {l:List (Code×Un)} (h:A0 P X V c u) (hl:Obl P X V l):Obl P X V ((c,u)::l):=fun p hp=>by
 rcases aI.1 hp with rfl | hp
 ·exact h
 ·exact hl p hp
theorem j7 {P:Program} {X:Fx} {V:Env} (c:Code):∀ ac:AC,Obl P X V (obl c ac)->j6 P X V c ac:=by
 induction c with
 | seq a b iha ihb =>
  intro ac h;by_cases hu:∃ u,ac = .unit u
  ·obtain⟨u,rfl⟩:=hu;exact h (_,u) (by simp [obl])
  ·have e:obl (.seq a b) ac=obl a ac.one++obl b ac.two:=by cases ac<;>first | rfl | exact absurd ⟨_,rfl⟩ hu
   have e':j6 P X V (.seq a b) ac=(j6 P X V a ac.one∧j6 P X V b ac.two):=by cases ac<;>first | rfl | exact absurd ⟨_,rfl⟩ hu
   rw[e'];rw[e] at h;exact ⟨iha _ fun p hp=>h p (bk _ hp),ihb _ fun p hp=>h p (bf _ hp)⟩
 | cond x a b iha ihb =>
  intro ac h;by_cases hu:∃ u,ac = .unit u
  ·obtain⟨u,rfl⟩:=hu;exact h (_,u) (by simp [obl])
  ·have e:obl (.cond x a b) ac=obl a ac.one++obl b ac.two:=by cases ac<;>first | rfl | exact absurd ⟨_,rfl⟩ hu
   have e':j6 P X V (.cond x a b) ac=(j6 P X V a ac.one∧j6 P X V b ac.two):=by cases ac<;>first | rfl | exact absurd ⟨_,rfl⟩ hu
   rw[e'];rw[e] at h;exact ⟨iha _ fun p hp=>h p (bk _ hp),ihb _ fun p hp=>h p (bf _ hp)⟩
 | block i c ih =>
  intro ac h;by_cases hu:∃ u,ac = .unit u
  ·obtain⟨u,rfl⟩:=hu;exact h (_,u) (by simp [obl])
  ·have e:obl (.block i c) ac=obl c ac.one:=by cases ac<;>first | rfl | exact absurd ⟨_,rfl⟩ hu
   have e':j6 P X V (.block i c) ac=j6 P X V c ac.one:=by cases ac<;>first | rfl | exact absurd ⟨_,rfl⟩ hu
   rw[e'];rw[e] at h;exact ih _ h
 | _ =>
  intro ac h;cases ac with
  | unit u=>exact h (_,u) (by simp [obl])
  | _=>trivial
theorem zdd {P:Program} {X:Fx} {V:Env} (c:Code):j6 P X V c .run:=by
 induction c with
 | seq a b iha ihb=>exact ⟨iha,ihb⟩
 | cond x a b iha ihb=>exact ⟨iha,ihb⟩
 | block i c ih=>exact ih
 | _=>trivial
theorem ze5 {P:Program} {V:Env} (hA:VAll P V) (zk:P.follows .mixedOrders=true) {c:Code} {ac:AC} {l:List (Code×Un)} (hl:obl c ac=l) (hac:∀ X:Fx,VOk P X V->Obl P X V l) {hd:SS} {es:Exs} {step:(hd.X->Option (YT es))->hd.X->Option (YT es)}
  (hs:∀ f x,E V c ac (mkS hd 8 x) (Gq V.fz hd es f)=step f x) {W:List Nat} (hW:uO c=W) (hro:es.all (fun e=>kU e.2.sh)=true) {X:Fx} (hX:VOk P X V):A0 P X V (.loop c) (lpU V.fz W hd es (lp step zd)) :=
 zdP hA zk (fun X hX=>j7 c ac (hl▸hac X hX)) (Fl:=lp step) (fun _=>rfl) (fun k x y h=>(hs (lp step k) x).trans h) hW (fun e s hm=>by
  rw[aK] at hro;exact hro _ hm) zd hX
theorem zd7 {P:Program} {tb:Tb} {gl:Gl} {l:List (Nat×Con)} {f:FuncId} {c:ShC} {n:Nat} {fn:Func} {code:Code} {rts:List RT'} (ht:vL P tb) (zk:P.follows .mixedOrders=true) (hg:Y4 P (cond c.glob gl fun _=>none) l)
  (hfn:P.funcs[f]? = some fn) (hb:fn.body=some code) (hr:fn.results=(rts.map RT'.var).toArray) (hn:c.nres=rts.length) (hrow:zeJ fn c n=true) {ac:AC} {ob:List (Code×Un)} (hl:obl code ac=ob)
  (hac:∀ X:Fx,VOk P X (je tb gl l c n)->Obl P X (je tb gl l c n) ob)
  (hk:c.ms.all (fun t => !((uO code).any (aw t)))=true)
  (hE:∀ x,E (je tb gl l c n) code ac (c.entry x) (Ni tb (je tb gl l c n).fz c rts x)=c.F x):ShOk P gl f c:=by
 simp only[zeJ,ap,bW] at hrow;obtain⟨⟨⟨h1,h2⟩,h3⟩,h4⟩:=hrow;refine BQ (V:=je tb gl l c n) (fn:=fn) (code:=code) (rts:=rts) ⟨hfn,h1,hb,hr,hn,br h2,aj h3,rfl,zh ht hg,zk,h4,hk⟩ ac (fun X hX=>j7 code ac (hl▸hac X hX)) (fun x y h=>by
  have:=(hE x).trans h;rw[Nf] at this;exact this)
def RoundsL (P:Program) (c:Code) (Q:Exit->Act->World->Prop):Nat->Nat->Act->World->Prop
 | 0,_,_,_=>False
 | k+1,l,a,w=>∃ rest,findLabel c l=some rest∧rest.wp P (fun e a' w'=>match e with
  | .goto l'=>RoundsL P c Q k l' a' w'
  | e=>Q e a' w') a w
theorem RoundsL.mono {P:Program} {c:Code} {Q Q':Exit->Act->World->Prop} (h:∀ e a w,(∀ l,e ≠ .goto l)->Q e a w->Q' e a w):(k:Nat)->{l:Nat}->{a:Act}->{w:World}->RoundsL P c Q k l a w->RoundsL P c Q' k l a w
 | 0,_,_,_,h'=>h'.elim
 | k+1,l,a,w,h'=>by
  obtain⟨rest,h1,h2⟩:=h';refine ⟨rest,h1,wp_mono h2 fun e a' w' hq => ?_⟩;cases e with
  | goto l'=>exact RoundsL.mono h k hq
  | _=>exact h _ _ _ (by intro l; simp) hq
theorem WD {P:Program} {c:Code} {Q:Exit->Act->World->Prop} {a:Act} {w:World} (first:c.wp P (fun e a' w'=>match e with
  | .goto l=>∃ k,RoundsL P c Q k l a' w'
  | e=>Q e a' w') a w):(Code.scope c).wp P Q a w:=by
 intro b k cs;have key:∀ n l a w,RoundsL P c Q n l a w->∃ rest,gotoIn l (.inScope c::k)=some (.code rest :: .inScope c::k)∧∃ e a' w',Q e a' w'∧Arrives P (lone (b.at a (.code rest :: .inScope c::k)) cs w) b k cs e a' w':=by
  intro n
  induction n with
  | zero=>intro l a w h; exact h.elim
  | succ n ih =>
   intro l a w h;obtain⟨rest,hf,h⟩:=h;refine ⟨rest,by simp [gotoIn,hf],?_⟩
   obtain⟨e,a₁,w₁,hq,harr⟩:=h b (.inScope c::k) cs;cases e with
   | normal=>exact ⟨.normal,a₁,w₁,hq,gF harr (.one step_inScope)⟩
   | exit id=>exact ⟨.exit id,a₁,w₁,hq,fun k' hk=>harr k' (by simp [exitTo,hk])⟩
   | goto l' =>
    obtain⟨rest',hg,e₂,a₂,w₂,hq₂,harr₂⟩:=ih l' a₁ w₁ hq;exact ⟨e₂,a₂,w₂,hq₂,.of_steps (harr _ hg) harr₂⟩
   | ret=>exact ⟨_,a₁,w₁,hq,harr⟩
   | panic ch=>exact ⟨_,a₁,w₁,hq,harr⟩
   | outgrown=>exact ⟨_,a₁,w₁,hq,harr⟩
 obtain⟨e,a₁,w₁,hq,harr⟩:=first b (.inScope c::k) cs;cases e with
 | normal=>exact ⟨.normal,a₁,w₁,hq,.head step_scope (gF harr (.one step_inScope))⟩
 | exit id=>exact ⟨.exit id,a₁,w₁,hq,fun k' hk=>.head step_scope (harr k' (by simp [exitTo,hk]))⟩
 | goto l' =>
  obtain⟨n,hn⟩:=hq;obtain⟨rest',hg,e₂,a₂,w₂,hq₂,harr₂⟩:=key n l' a₁ w₁ hn;exact ⟨e₂,a₂,w₂,hq₂,.of_steps (.head step_scope (harr _ hg)) harr₂⟩
 | ret=>exact ⟨_,a₁,w₁,hq,.of_steps (.one step_scope) harr⟩
 | panic ch=>exact ⟨_,a₁,w₁,hq,.of_steps (.one step_scope) harr⟩
 | outgrown=>exact ⟨_,a₁,w₁,hq,.of_steps (.one step_scope) harr⟩
theorem B6 {l:Nat}:(c:Code)->{rest:Code}->findLabel c l=some rest->∀ t,t∈uO rest->t∈uO c:=by
 intro c
 induction c with
 | seq a b iha ihb =>
  intro rest h t ht;simp only[findLabel] at h;split at h
  ·rename_i r hr;injection h with h; subst h;simp only[uO,aW] at ht ⊢;exact ht.imp (iha hr t) fun h=>h
  ·simp only[uO,aW];exact .inr (ihb h t ht)
 | label l' =>
  intro rest h t ht;simp only[findLabel] at h;split at h
  ·injection h with h; subst h; cases ht
  ·cases h
 | _=>intro rest h; simp [findLabel] at h
def Pe (fz:Nat) (js es:Exs) (f:YT js->Option (YT es)):XE->St->Option (YT es)
 | .normal,st=>AX fz es .normal st
 | .exit i,st=>AX fz es (.exit i) st
 | .goto l,st=>(AX fz js (.goto l) st).bind f
 | .ret,st=>AX fz es .ret st
def AA {R:Type} (fz:Nat) (W:List Nat) (es:Exs):(js:Exs)->(YT js->Option (YT es))->XE->St->(XE->St->Option R)->Option R
 | [],_,_,_,_=>none
 | [e],F,xe,st,κ=>cond (Yg e.1 xe) ((KX fz e.2 st).bind fun d=>(F d.x).bind fun y=>Y9 es y fun xe s z=>κ xe (VP W (un e.2.sh d.bd) d.zs st s z)) none
 | e::f::js,F,xe,st,κ=>cond (Yg e.1 xe) ((KX fz e.2 st).bind fun d=>(F (aS d.x)).bind fun y=>Y9 es y fun xe s z=>κ xe (VP W (un e.2.sh d.bd) d.zs st s z))
   (AA fz W es (f::js) (fun y=>F (aD y)) xe st κ)
def scU (V:Env) (W:List Nat) (js es:Exs) (c:Code) (ac:AC) (F:YT js->Option (YT es)):Un :=
 ⟨fun st κ=>E V c ac st fun xe st'=>match xe with
  | .normal=>κ .normal st'
  | .exit i=>κ (.exit i) st'
  | .goto l=>AA V.fz W es js F (.goto l) st' κ
  | .ret=>κ .ret st'⟩
def B5 (V:Env) (c:Code) (acs:Nat->AC) (js es:Exs) (f:YT js->Option (YT es)) (y:YT js):Option (YT es) :=
 Y9 js y fun xe s z=>match xe with
  | .goto l=>match findLabel c l with
   | some rest=>E V rest (acs l) (mkS s 8 z) (Pe V.fz js es f)
   | none=>none
  | _=>none
def XH (es:Exs):Bool:=es.all fun e=>match e.1 with
 | .goto _=>false
 | _=>true
theorem BX {P:Program} {V:Env} (hA:VAll P V) {X:Fx} (hX:VOk P X V) {R:Type} {st:St} {κ:XE->St->Option R} {x:R} {d:List Deferred} {a:Act} {w:World} {g:Gh} {U:Nat->Prop} (hn:Now X V d x5 st a w g U)
  {hd:SS} {dd:Dec hd.sh} (hdd:KX V.fz hd st=some dd) {es:Exs} {y:YT es} {W:List Nat} (hro:∀ e s,(e,s)∈es->kU s.sh=true) (h:Y9 es y (fun xe s z=>κ xe (VP W (un hd.sh dd.bd) dd.zs st s z))=some x) :
  ∃ g1,∃ hb:X.D<=w.heap.size,Now (X.inner g1 (mkS hd 8 dd.x).H (mkS hd 8 dd.x).Z w hb) V d x5 (mkS hd 8 dd.x) a w g1 (upto 8 hd.sh.blks.length)∧(X.inner g1 (mkS hd 8 dd.x).H (mkS hd 8 dd.x).Z w hb).gl=V.gl ∧
   (V.fz=2->∀ r,(X.inner g1 (mkS hd 8 dd.x).H (mkS hd 8 dd.x).Z w hb).O r->(X.inner g1 (mkS hd 8 dd.x).H (mkS hd 8 dd.x).Z w hb).N r) ∧
   ∀ e a' w',QA (X.inner g1 (mkS hd 8 dd.x).H (mkS hd 8 dd.x).Z w hb) V W d es y st.nx w g1 a e a' w'->Vv X V W d κ x st a w g U e a' w':=by
 have hg:X.gl=V.gl:=hX.gl.symm;obtain⟨g1,hS1,hn1,hloc,hkz⟩:=hn.weak hA.fz hX.own hdd 8;obtain⟨L1,L2,b1,hdok⟩:=J9 hdd;have hin:=hn1.mem.inner;have hB':V.fz=2->∀ r,(X.inner g1 (mkS hd 8 dd.x).H (mkS hd 8 dd.x).Z w hn1.mem.bB).O r->(X.inner g1 (mkS hd 8 dd.x).H (mkS hd 8 dd.x).Z w hn1.mem.bB).N r:=fun h2 r hr=>by
  rcases (Y0 hn1.mem hr).1 with h' | h'
  ·exact X.hN _ h'
  ·exact hX.own h2 r h'
 have hnin:Now (X.inner g1 (mkS hd 8 dd.x).H (mkS hd 8 dd.x).Z w hn1.mem.bB) V d x5 (mkS hd 8 dd.x) a w g1 (upto 8 hd.sh.blks.length):={ hn1 with mem:=hin };refine ⟨g1,hn1.mem.bB,hnin,hg,hB',fun e a' w' hq => ?_⟩;have hex:=jv es (q:=fun xe s z=>∃ g3 U3,tc e xe∧Now X V d x5 (VP W (un hd.sh dd.bd) dd.zs st s z) a' w' g3 U3∧Since (· ∈ W) w g st.H U a w' g3 (VP W (un hd.sh dd.bd) dd.zs st s z).H U3 a') (fun xe s z hm hp=>by
  obtain⟨he,g',hn',hsi⟩:=hp;obtain⟨g3,U3,h3,h4⟩:=hn.join (fz:=V.fz) hA.fz hX.own (C:=un hd.sh dd.bd) hS1 (fun r hr=>by
   obtain⟨b,hb1,hb2,hb3⟩:=hr;obtain⟨j,kk,rfl,hj1,hj2⟩:=uR hb1;have hjl:j<dd.bd.length:=by
    rw[hdok.len];have:=(aq.1 hj1).1;unfold Sh.bks at this;rwa [wZ] at this
   have ho:=al hjl;have hl:=hloc j _ ho;rw[hb2] at hl;cases hoi:dd.bd[j] with
   | none=>rw[hoi] at hl; cases hl
   | some i =>
    rw[hoi] at hl ho;obtain⟨hk1,hk2⟩:=hkz j i ho;have hjt:j<hd.sh.blks.length:=by rw[← hdok.len]; exact hjl
    have ht:=al hjt;have hzi:xa st.Z dd.zs i=st.Z i:=by
     rw[jk];have:(dd.zs.any fun z=>aw i z)=false:=by
      rw[bZ];intro z hz he;have:=aj he;subst this;exact sc (hdok.fresh _ hz) j ho
     rw[this,Bool.or_false]
    refine ⟨i,Wo ht ?_ ho,fun hdd' => ?_,hl.symm,fun hc=>hb3 ?_⟩
    ·cases hr:hd.sh.blks[j].ro with
     | false=>rfl
     | true =>
      exfalso;apply hb3;obtain⟨l,hl2⟩:=Bf hr;refine ⟨?_,?_⟩
      ·show mkZ 8 hd.sh.blks (8+j)=true;rw[YU ht,hl2]; rfl
      ·have:=Yj _ _ (hdok.kinds fun j=>8+j) j _ _ ht hj1;rw[hl2] at this;show (mkH 8 _ (8+j)).isCells=true;rw[hj2];cases kk<;>first | rfl | cases this
    ·rw[hdd'] at hk1;exact hk1.elim
    ·have hz:st.Z i=true:=hzi▸hc.1;refine ⟨hk2 hz,?_⟩;have hcs:=hc.2;cases hHi:st.H i<;>rw[hHi] at hcs hk1<;>first | cases hcs | skip
     cases hHj:(mkS hd 8 dd.x).H (8+j)<;>rw[hHj] at hk1<;>first | rfl | exact hk1.elim) (hro xe s hm) hn' hsi
  exact ⟨g3,U3,he,h3,h4⟩) hq
 have fin:∀(es:Exs) (y:YT es),Y9 es y (fun xe s z=>κ xe (VP W (un hd.sh dd.bd) dd.zs st s z))=some x->Y9 es y (fun xe s z=>∃ g3 U3,tc e xe∧Now X V d x5 (VP W (un hd.sh dd.bd) dd.zs st s z) a' w' g3 U3∧Since (· ∈ W) w g st.H U a w' g3 (VP W (un hd.sh dd.bd) dd.zs st s z).H U3 a') ->
   Vv X V W d κ x st a w g U e a' w':=by
  intro es
  induction es with
  | nil=>intro y; exact nomatch y
  | cons e0 es ih =>
   intro y h1 h2;cases es with
   | nil =>
    obtain⟨g3,U3,he,h3,h4⟩:=h2;exact ⟨e0.1,_,g3,U3,he,h1,h3,h4⟩
   | cons f es =>
    match y,h1,h2 with
    | .inl z,h1,h2 =>
     obtain⟨g3,U3,he,h3,h4⟩:=h2;exact ⟨e0.1,_,g3,U3,he,h1,h3,h4⟩
    | .inr z,h1,h2=>exact ih z h1 h2
 exact fin es y h hex
theorem QU {P:Program} {V:Env} (hA:VAll P V) (zk:P.follows .mixedOrders=true) {c:Code} {acs:Nat->AC} {js es:Exs} (hac:∀ X:Fx,VOk P X V->∀ l rest,findLabel c l=some rest->j6 P X V rest (acs l)) {Fl:Nat->YT js->Option (YT es)} (h0:∀ x,Fl 0 x=none)
  (hs:∀ k x y,Fl (k+1) x=some y->B5 V c acs js es (Fl k) x=some y) (hgo:XH es=true) {X:Fx} (hg:X.gl=V.gl) (hB:V.fz=2->∀ r,X.O r->X.N r) {n1:Nat} {d:List Deferred} {W:List Nat} (hW:∀ t,t∈uO c->t∈W) {w0:World} {g0:Gh} {a0:Act} :
  (k:Nat)->{x:YT js}->{y:YT es}->Fl k x=some y->Y9 js x fun xe s z=>∀(a:Act) (w:World) (g:Gh) (U:Nat->Prop),Now X V d x5 (mkS s 8 z) a w g U->SinceS W w0 g0 a0 w g a->∃ l,xe = .goto l∧RoundsL P c (QA X V W d es y n1 w0 g0 a0) k l a w
 | 0,x,y,h=>by rw[h0] at h; cases h
 | k+1,x,y,h=>by
  have hX:=hA.ok hg hB;have hp:=hs k x y h;unfold B5 at hp;have gen:∀(js':Exs) (x':YT js'),Y9 js' x' (fun xe s z=>(match xe with
    | .goto l=>match findLabel c l with
     | some rest=>E V rest (acs l) (mkS s 8 z) (Pe V.fz js es (Fl k))
     | none=>none
    | _=>none)=some y)->Y9 js' x' fun xe s z=>∀(a:Act) (w:World) (g:Gh) (U:Nat->Prop),Now X V d x5 (mkS s 8 z) a w g U->SinceS W w0 g0 a0 w g a->∃ l,xe = .goto l∧RoundsL P c (QA X V W d es y n1 w0 g0 a0) (k+1) l a w:=by
   intro js' x' hp;refine jv js' (fun xe s z _ hp a w g U hn hsi => ?_) hp;cases xe with
   | goto l =>
    simp only at hp;split at hp
    ·rename_i rest hf;refine ⟨l,rfl,rest,hf,?_⟩;refine wp_mono (QJ hX hA.nat zk rest (acs l) (hac X hX l rest hf) _ _ _ hp d a w g U hn) ?_;rintro e a1 w1 ⟨xe,st1,g1,U1,he,hk,hn1,hs1⟩;have hsi1:SinceS W w0 g0 a0 w1 g1 a1:=hsi.trans ⟨hs1.mono.hS,fun t ht=>hs1.tmps t fun h'=>ht (hW t (B6 c hf t h'))⟩;cases e<;>cases xe<;>simp only[tc] at he
     ·exact QC hA.fz hB (e:=.normal) (xe:=.normal) trivial hn1 hk hsi1
     ·exact QC hA.fz hB (xe:=.exit _) (by exact he) hn1 hk hsi1
     ·rename_i l1 l2;subst he;have hk:(AX V.fz js (.goto l1) st1).bind (Fl k)=some y:=hk;obtain⟨y1,hy1,hk⟩:=ag.1 hk;have ih:=QU hA zk hac h0 hs hgo hg hB (n1:=n1) (d:=d) hW (w0:=w0) (g0:=g0) (a0:=a0) k hk;have hdx:=IA js hy1;have hboth:∀(js:Exs) (y1:YT js),Y9 js y1 (fun xe' s z=>xe' = .goto l1∧∃ d,KX V.fz s st1=some d∧d.x=z)->Y9 js y1 (fun xe s z=>∀(a:Act) (w:World) (g:Gh) (U:Nat->Prop),Now X V d x5 (mkS s 8 z) a w g U->SinceS W w0 g0 a0 w g a->∃ l,xe = .goto l∧RoundsL P c (QA X V W d es y n1 w0 g0 a0) k l a w) ->
        RoundsL P c (QA X V W d es y n1 w0 g0 a0) k l1 a1 w1:=by
       intro js;have one:∀(xe':XE) (s:SS) (z:s.X),(xe' = .goto l1∧∃ d,KX V.fz s st1=some d∧d.x=z)->(∀(a:Act) (w:World) (g:Gh) (U:Nat->Prop),Now X V d x5 (mkS s 8 z) a w g U->SinceS W w0 g0 a0 w g a->∃ l,xe' = .goto l∧RoundsL P c (QA X V W d es y n1 w0 g0 a0) k l a w) ->
         RoundsL P c (QA X V W d es y n1 w0 g0 a0) k l1 a1 w1:=by
        rintro xe' s z ⟨rfl,dd,hdd,rfl⟩ hr;obtain⟨g',h1,h2,-,-⟩:=hn1.weak hA.fz hB hdd 8;obtain⟨l,hl,hr⟩:=hr _ _ _ _ h2 (hsi1.sub (Ku h1));injection hl with hl; subst hl;exact hr
       induction js with
       | nil=>intro y1; exact nomatch y1
       | cons e0 js ih =>
        intro y1 h1 h2;cases js with
        | nil=>exact one _ _ _ h1 h2
        | cons f js =>
         match y1,h1,h2 with
         | .inl z,h1,h2=>exact one _ _ _ h1 h2
         | .inr z,h1,h2=>exact ih z h1 h2
      exact hboth js y1 hdx ih
     ·exact QC hA.fz hB (e:=.ret) (xe:=.ret) trivial hn1 hk hsi1
    ·cases hp
   | _=>cases hp
  refine gen js x ?_;have lift:∀(js':Exs) (x':YT js') (f:XE->(s:SS)->s.X->Option (YT es)),Y9 js' x' f=some y->Y9 js' x' fun xe s z=>f xe s z=some y:=by
   intro js'
   induction js' with
   | nil=>intro x'; exact nomatch x'
   | cons e0 js' ih =>
    intro x' f h;cases js' with
    | nil=>exact h
    | cons e1 js' =>
     match x',h with
     | .inl z,h=>exact h
     | .inr z,h=>exact ih z f h
  exact lift js x _ hp
theorem zdZ {P:Program} {V:Env} (hA:VAll P V) (zk:P.follows .mixedOrders=true) {c:Code} {ac:AC} {acs:Nat->AC} (hac0:∀ X:Fx,VOk P X V->j6 P X V c ac) {js es:Exs} (hac:∀ X:Fx,VOk P X V->∀ l rest,findLabel c l=some rest->j6 P X V rest (acs l)) {Fl:Nat->YT js->Option (YT es)} (h0:∀ x,Fl 0 x=none)
  (hs:∀ k x y,Fl (k+1) x=some y->B5 V c acs js es (Fl k) x=some y) (hgo:XH es=true) {W:List Nat} (hW:uO c=W) (hro:∀ e s,(e,s)∈es->kU s.sh=true) (k:Nat) {X:Fx} (hX:VOk P X V):A0 P X V (.scope c) (scU V W js es c ac (Fl k)):=by
 intro R st κ x h d a w g U hn;have h:E V c ac st (fun xe st'=>match xe with
  | .normal=>κ .normal st'
  | .exit i=>κ (.exit i) st'
  | .goto l=>AA V.fz W es js (Fl k) (.goto l) st' κ
  | .ret=>κ .ret st')=some x:=h
 refine WD (wp_mono (QJ hX hA.nat zk c ac (hac0 X hX) _ _ _ h d a w g U hn) ?_);rintro e a1 w1 ⟨xe,st1,g1,U1,he,hk,hn1,hs1⟩;have hs1:Since (· ∈ W) w g st.H U a w1 g1 st1.H U1 a1:=hW▸hs1;cases e<;>cases xe<;>simp only[tc] at he
 ·exact ⟨.normal,st1,g1,U1,trivial,hk,hn1,by show Since (· ∈ uO c) _ _ _ _ _ _ _ _ _ _; rw[hW]; exact hs1⟩
 ·exact ⟨.exit _,st1,g1,U1,he,by subst he; exact hk,hn1,by show Since (· ∈ uO c) _ _ _ _ _ _ _ _ _ _; rw[hW]; exact hs1⟩
 ·rename_i l1 l2;subst he;have hk:AA V.fz W es js (Fl k) (.goto l1) st1 κ=some x:=hk;refine ⟨k,?_⟩;have one:∀(xe':XE) (hd:SS) (z:hd.X) (dd:Dec hd.sh) (y:YT es),Yg xe' (.goto l1)=true->KX V.fz hd st1=some dd->dd.x=z->Y9 es y (fun xe s z=>κ xe (VP W (un hd.sh dd.bd) dd.zs st1 s z))=some x ->
    (∀(X:Fx),X.gl=V.gl->(V.fz=2->∀ r,X.O r->X.N r)->∀(n1:Nat) (w0:World) (g0:Gh) (a0:Act) (a:Act) (w:World) (g:Gh) (U:Nat->Prop),Now X V d x5 (mkS hd 8 z) a w g U->SinceS W w0 g0 a0 w g a->∃ l,xe' = .goto l∧RoundsL P c (QA X V W d es y n1 w0 g0 a0) k l a w) ->
    RoundsL P c (Vv X V (uO (.scope c)) d κ x st a w g U) k l1 a1 w1:=by
   intro xe' hd z dd y hx hdd hz h1 hr;subst hz;have hx:=Kx hx;subst hx;obtain⟨g2,hb,hnin,hg2,hB2,hex⟩:=BX hA hX hn1 hdd hro h1;obtain⟨l,hl,hr⟩:=hr _ hg2 hB2 st1.nx w1 g2 a1 a1 w1 g2 _ hnin (SinceS.refl (W:=W));injection hl with hl; subst hl;refine RoundsL.mono (fun e a' w' _ hq => ?_) k hr;obtain⟨xe,st2,g3,U3,he,hk3,hn3,hs3⟩:=hex e a' w' hq;refine ⟨xe,st2,g3,U3,he,hk3,hn3,?_⟩;show Since (· ∈ uO c) _ _ _ _ _ _ _ _ _ _;rw[hW];exact hs1.trans hs3
  have gen:∀(js':Exs) (F:YT js'->Option (YT es)),(∀(y':YT js') (y:YT es),F y'=some y->Y9 js' y' fun xe s z=>∀(X:Fx),X.gl=V.gl->(V.fz=2->∀ r,X.O r->X.N r)->∀(n1:Nat) (w0:World) (g0:Gh) (a0:Act) (a:Act) (w:World) (g:Gh) (U:Nat->Prop),Now X V d x5 (mkS s 8 z) a w g U->SinceS W w0 g0 a0 w g a->∃ l,xe = .goto l∧RoundsL P c (QA X V W d es y n1 w0 g0 a0) k l a w) ->
    AA V.fz W es js' F (.goto l1) st1 κ=some x->RoundsL P c (Vv X V (uO (.scope c)) d κ x st a w g U) k l1 a1 w1:=by
   intro js'
   induction js' with
   | nil=>intro F hF h; cases h
   | cons e0 js' ih =>
    intro F hF h;cases js' with
    | nil =>
     have h:cond (Yg e0.1 (.goto l1)) ((KX V.fz e0.2 st1).bind fun d=>(F d.x).bind fun y=>Y9 es y fun xe s z=>κ xe (VP W (un e0.2.sh d.bd) d.zs st1 s z)) none=some x:=h;cases hx:Yg e0.1 (.goto l1) with
     | false=>rw[hx] at h; cases h
     | true =>
      rw[hx] at h;obtain⟨dd,hdd,h⟩:=ag.1 h;obtain⟨y,hy,h⟩:=ag.1 h;exact one e0.1 e0.2 dd.x dd y hx hdd rfl h (hF dd.x y hy)
    | cons f js' =>
     have h:cond (Yg e0.1 (.goto l1)) ((KX V.fz e0.2 st1).bind fun d=>(F (aS d.x)).bind fun y=>Y9 es y fun xe s z=>κ xe (VP W (un e0.2.sh d.bd) d.zs st1 s z)) (AA V.fz W es (f::js') (fun y=>F (aD y)) (.goto l1) st1 κ)=some x:=h;cases hx:Yg e0.1 (.goto l1) with
     | false =>
      rw[hx] at h;exact ih (fun y=>F (aD y)) (fun y' y hy=>hF (aD y') y hy) h
     | true =>
      rw[hx] at h;obtain⟨dd,hdd,h⟩:=ag.1 h;obtain⟨y,hy,h⟩:=ag.1 h;exact one e0.1 e0.2 dd.x dd y hx hdd rfl h (hF (aS dd.x) y hy)
  refine gen js (Fl k) (fun y' y hy => ?_) hk;have base:=fun (X:Fx) hg hB (n1:Nat) w0 g0 a0=>QU (X:=X) hA zk hac h0 hs hgo hg hB (n1:=n1) (d:=d) (W:=W) (fun t ht=>hW▸ht) (w0:=w0) (g0:=g0) (a0:=a0) k hy;have zeD:∀(js':Exs) (y':YT js'),(∀(X:Fx),X.gl=V.gl->(V.fz=2->∀ r,X.O r->X.N r)->∀(n1:Nat) (w0:World) (g0:Gh) (a0:Act),Y9 js' y' fun xe s z=>∀(a:Act) (w:World) (g:Gh) (U:Nat->Prop),Now X V d x5 (mkS s 8 z) a w g U->SinceS W w0 g0 a0 w g a->∃ l,xe = .goto l∧RoundsL P c (QA X V W d es y n1 w0 g0 a0) k l a w) ->
    Y9 js' y' fun xe s z=>∀(X:Fx),X.gl=V.gl->(V.fz=2->∀ r,X.O r->X.N r)->∀(n1:Nat) (w0:World) (g0:Gh) (a0:Act) (a:Act) (w:World) (g:Gh) (U:Nat->Prop),Now X V d x5 (mkS s 8 z) a w g U->SinceS W w0 g0 a0 w g a->∃ l,xe = .goto l∧RoundsL P c (QA X V W d es y n1 w0 g0 a0) k l a w:=by
   intro js'
   induction js' with
   | nil=>intro y'; exact nomatch y'
   | cons e0 js' ih =>
    intro y' h;cases js' with
    | nil=>exact fun X hg hB n1 w0 g0 a0=>h X hg hB n1 w0 g0 a0
    | cons f js' =>
     match y',h with
     | .inl z,h=>exact fun X hg hB n1 w0 g0 a0=>h X hg hB n1 w0 g0 a0
     | .inr z,h=>exact ih z h
  exact zeD js y' base
 ·exact ⟨.ret,st1,g1,U1,trivial,hk,hn1,by show Since (· ∈ uO c) _ _ _ _ _ _ _ _ _ _; rw[hW]; exact hs1⟩
theorem zdJ {P:Program} {V:Env} (hA:VAll P V) (zk:P.follows .mixedOrders=true) {c:Code} {ac:AC} {acs:Nat->AC} {l:List (Code×Un)} (hl:obl c ac=l) (hac:∀ X:Fx,VOk P X V->Obl P X V l) {js es:Exs} (hacs:∀ X:Fx,VOk P X V->∀ l rest,findLabel c l=some rest->j6 P X V rest (acs l))
  {step:(YT js->Option (YT es))->YT js->Option (YT es)} (hs:∀ f x,B5 V c acs js es f x=step f x) (hgo:XH es=true) {W:List Nat} (hW:uO c=W) (hro:es.all (fun e=>kU e.2.sh)=true) {X:Fx} (hX:VOk P X V) :
  A0 P X V (.scope c) (scU V W js es c ac (lp step zd)) :=
 zdZ hA zk (fun X hX=>j7 c ac (hl▸hac X hX)) hacs (Fl:=lp step) (fun _=>rfl) (fun k x y h=>(hs (lp step k) x).trans h) hgo hW (fun e s hm=>by
  rw[aK] at hro;exact hro _ hm) zd hX
def ze (fn:Func):Code:=fn.body.getD .skip
abbrev Str:=List UInt8
def lpR {A:Type} (base:A) (step:A->A):Nat->A
 | 0=>base
 | k+1=>step (lpR base step k)
theorem Xo {P:Program} {gl:Gl} {f:FuncId}:∀ c,c∈([]:List ShC)->ShOk P gl f c:=fun c hc=>by cases hc
theorem YD {P:Program} {gl:Gl} {f:FuncId} {c:ShC} {cs:List ShC} (h:ShOk P gl f c) (hs:∀ c,c∈cs->ShOk P gl f c):∀ d,d∈c::cs->ShOk P gl f d:=fun d hd=>by
 rcases aI.1 hd with rfl | hd
 ·exact h
 ·exact hs d hd
theorem zby {P:Program} {V:Env} {c0 c:Code} (h0:c0 = .loop c) (hA:VAll P V) (zk:P.follows .mixedOrders=true) {ac:AC} {ob:List (Code×Un)} (hl:obl c ac=ob) (hac:∀ X:Fx,VOk P X V->Obl P X V ob) {hd:SS} {es:Exs} {step:(hd.X->Option (YT es))->hd.X->Option (YT es)}
  (hs:∀ f x,E V c ac (mkS hd 8 x) (Gq V.fz hd es f)=step f x) {W:List Nat} (hW:uO c=W) (hro:es.all (fun e=>kU e.2.sh)=true) {X:Fx} (hX:VOk P X V):A0 P X V c0 (lpU V.fz W hd es (lp step zd)):=by
 rw[h0];exact ze5 hA zk hl hac hs hW hro hX
theorem zap {P:Program} {V:Env} {c0 c:Code} (h0:c0 = .scope c) (hA:VAll P V) (zk:P.follows .mixedOrders=true) {ac:AC} {acs:Nat->AC} {ob:List (Code×Un)} (hl:obl c ac=ob) (hac:∀ X:Fx,VOk P X V->Obl P X V ob) {js es:Exs} (hacs:∀ X:Fx,VOk P X V->∀ l rest,findLabel c l=some rest->j6 P X V rest (acs l))
  {step:(YT js->Option (YT es))->YT js->Option (YT es)} (hs:∀ f x,B5 V c acs js es f x=step f x) (hgo:XH es=true) {W:List Nat} (hW:uO c=W) (hro:es.all (fun e=>kU e.2.sh)=true) {X:Fx} (hX:VOk P X V) :
  A0 P X V c0 (scU V W js es c ac (lp step zd)):=by
 rw[h0];exact zdJ hA zk hl hac hacs hs hgo hW hro hX
def Mv (c:Code) (l:Nat):Code:=(findLabel c l).getD .skip
def N9:List (Nat×AC)->Nat->AC
 | [],_=>.run
 | p::l,i=>cond (aw i p.1) p.2 (N9 l i)
def Nz (P:Program) (X:Fx) (V:Env) (c:Code) (l:List (Nat×AC)):Prop:=∀ p,p∈l->j6 P X V (Mv c p.1) p.2
theorem S7 {P:Program} {X:Fx} {V:Env} {c:Code}:Nz P X V c []:=fun p hp=>by cases hp
theorem zax {P:Program} {X:Fx} {V:Env} {c:Code} {l:List (Nat×AC)} (h:Nz P X V c l):∀ i rest,findLabel c i=some rest->j6 P X V rest (N9 l i):=by
 intro i rest hr;have e:Mv c i=rest:=by unfold Mv; rw[hr]; rfl
 induction l with
 | nil=>exact zdd rest
 | cons p l ih =>
  unfold N9;cases hb:aw i p.1 with
  | true =>
   have:=aj hb;subst this;rw[← e];exact h p (by simp)
  | false=>exact ih fun q hq=>h q (by simp [hq])
def zaR (tb:Tb) (t:TypeId) (i:TypeInfo):Bool :=
 match zeroCells tb 5 t with
 | some cs=>match i.zero with
  | some z=>zFs cs z.cells.toList
  | none=>false
 | none=>true
def WX (P:Program) (t:TypeId):TD->Bool
 | .int k=>match P.underlying t with
  | some (.int k')=>decide (k'=k)
  | _=>false
 | .bool=>match P.underlying t with
  | some .bool=>true
  | _=>false
 | .str=>match P.underlying t with
  | some .string=>true
  | _=>false
 | .cx=>match P.underlying t with
  | some (.complex .f64)=>true
  | _=>false
 | .fl=>match P.underlying t with
  | some (.float .f64)=>true
  | _=>false
 | .fa e k n=>match P.underlying t,P.info? e with
  | some (.array n' e'),some i=>aw n' n&&aw e' e&&aw i.size k
  | _,_=>false
 | .sl e ts bytes=>match P.underlying t,P.info? e with
  | some (.slice e'),some i=>match i.zero with
   | some z=>aw e' e&&aw i.size ts.size&&aw i.bytes bytes&&Nat.blt 0 bytes&&aw z.cells.size ts.size&&GQ (zP 2 ts (xU ts)) z.cells.toList
   | none=>false
  | _,_=>false
 | .st fs _=>match P.underlying t with
  | some (.struct fields)=>decide (fields.toList.map (fun f=>(f.type,f.offset))=fs)&&fields.toList.all (fun f => !(f.name == "_")&&match P.info? f.type with
   | some i => !(aw i.size 0)
   | none=>false) && !(P.eqGuardType P.depth t) && !(P.stoodInHeld t)
  | _=>false
 | .fn=>match P.underlying t with
  | some (.func _ _ _)=>true
  | _=>false
 | .arr e ts n=>match P.underlying t,P.info? e,P.info? t with
  | some (.array n' e'),some i,some it=>match it.zero with
   | some z=>aw n' n&&aw e' e&&aw i.size ts.size&&aw z.cells.size (n*ts.size)&&(List.range n).all (fun j=>GQ (zP 2 ts (xU ts)) ((z.cells.toList.drop (j*ts.size)).take ts.size))
   | none=>false
  | _,_,_=>false
def tdB (P:Program) (tb:Tb) (t:TypeId) (td:TD):Bool :=
 match P.info? t with
 | some i=>aw i.size td.size&&zaR tb t i&&WX P t td
 | none=>false
theorem zaU {P:Program} {tb:Tb} {t:TypeId} {td:TD} (h:tdB P tb t td=true):zee P tb t td:=by
 unfold tdB at h;split at h
 ·rename_i i hi;simp only[ap] at h;obtain⟨⟨h1,h2⟩,h3⟩:=h;refine ⟨⟨i,hi,aj h1,fun cs hcs => ?_⟩,?_⟩
  ·unfold zaR at h2;rw[hcs] at h2;dsimp only at h2;split at h2
   ·rename_i z hz;exact ⟨z,hz,h2⟩
   ·cases h2
  ·cases td with
   | int k =>
    simp only[WX] at h3;split at h3
    ·rename_i k' hu;rw[decide_eq_true_eq] at h3; subst h3; exact hu
    ·cases h3
   | bool=>simp only[WX] at h3; split at h3<;>first | assumption | cases h3
   | str=>simp only[WX] at h3; split at h3<;>first | assumption | cases h3
   | cx=>simp only[WX] at h3; split at h3<;>first | assumption | cases h3
   | fl=>simp only[WX] at h3; split at h3<;>first | assumption | cases h3
   | fa e k n =>
    simp only[WX] at h3;split at h3
    ·rename_i n' e' i' hu he;simp only[ap] at h3;obtain⟨⟨a1,a2⟩,a3⟩:=h3;have a1:=aj a1;have a2:=aj a2;subst a1; subst a2;exact ⟨hu,i',he,aj a3⟩
    ·cases h3
   | fn =>
    simp only[WX] at h3;split at h3
    ·rename_i a b c hu; exact ⟨a,b,c,hu⟩
    ·cases h3
   | sl e ts bytes =>
    simp only[WX] at h3;split at h3
    ·rename_i e' i' hu he;split at h3
     ·rename_i z hz;simp only[ap] at h3;obtain⟨⟨⟨⟨⟨a1,a2⟩,a3⟩,a4⟩,a5⟩,a6⟩:=h3;have a1:=aj a1;subst a1;exact ⟨hu,i',z,he,aj a2,aj a3,hz,aj a5,a6,br a4⟩
     ·cases h3
    ·cases h3
   | st fs n =>
    simp only[WX] at h3;split at h3
    ·rename_i fields hu;simp only[ap,decide_eq_true_eq,aK,bW] at h3;obtain⟨⟨⟨a1,a2⟩,a3⟩,a4⟩:=h3;refine ⟨fields,hu,a1,fun f hf => ?_,a3,a4⟩;obtain⟨b1,b2⟩:=a2 f hf;refine ⟨by simpa using b1,?_⟩
     split at b2
     ·rename_i i' hi';exact ⟨i',hi',fun e=>by rw[e] at b2; simp at b2⟩
     ·cases b2
    ·cases h3
   | arr e ts n =>
    simp only[WX] at h3;split at h3
    ·rename_i n' e' i' it hu he ht;split at h3
     ·rename_i z hz;simp only[ap,aK] at h3;obtain⟨⟨⟨⟨a1,a2⟩,a3⟩,a4⟩,a5⟩:=h3;have a1:=aj a1;have a2:=aj a2;subst a1; subst a2;exact ⟨hu,⟨i',he,aj a3⟩,it,z,ht,hz,aj a4,fun j hj=>a5 j (cE.2 hj)⟩
     ·cases h3
    ·cases h3
 ·cases h
theorem MX {P:Program} {l:List (Nat×TD)} (h:(l.all fun p=>tdB P (RJ l) p.1 p.2)=true):vL P (RJ l) :=
 zb fun p hp=>by
  rw[aK] at h;exact zaU (h p hp)
end Go.Abs
namespace Go.Abs
open Go.ChangeShapes Go.WideShapes Go.ChangeAt Go.RowKit Go.WideElems
section
def zb7 {α:Type} (p:α->Prop) (xs:List α):Prop:=∀ x,x∈xs->p x
mutual
def zac:(t:Ty)->El t->Prop
 | .int k,n=>(Lit.int k n).wf=true
 | .bool,_=>True
 | .str,s=>aa s<=maxLen
 | .cx,_=>True
 | .fl,_=>True
 | .ar _ _,_=>True
 | .sl ts,xs=>aa xs<=maxLen∧zb7 (HY ts) xs
 | .ns ts,o=>∀ xs,(o:Option (List (Tup ts)))=some xs->aa xs<=maxLen∧zb7 (HY ts) xs
def HY:(ts:Tys)->Tup ts->Prop
 | .one t,x=>zac t x
 | .cons t ts,x=>zac t x.1∧HY ts x.2
end
mutual
def wt:(t:Ty)->El t->Nat
 | .int _,_=>1
 | .bool,_=>1
 | .str,s=>aa s+1
 | .cx,_=>1
 | .fl,_=>1
 | .ar _ _,_=>1
 | .sl ts,xs=>(dx (wtT ts) (xs:List (Tup ts))).sum+1
 | .ns ts,o=>match (o:Option (List (Tup ts))) with
  | none=>1
  | some xs=>(dx (wtT ts) xs).sum+1
def wtT:(ts:Tys)->Tup ts->Nat
 | .one t,x=>wt t x
 | .cons t ts,x=>wt t x.1+wtT ts x.2
end
def Ju:(hs:List Ty)->sA hs->Prop
 | [],_=>True
 | [t],x=>zac t x
 | t::u::hs,x=>zac t x.1∧Ju (u::hs) x.2
def wtL:(hs:List Ty)->sA hs->Nat
 | [],_=>0
 | [t],x=>wt t x
 | t::u::hs,x=>wt t x.1+wtL (u::hs) x.2
def Pm:Tys->List Ty
 | .one t=>[t]
 | .cons t ts=>t::Pm ts
theorem Bq:(ts:Tys)->(Pm ts).length=ts.size
 | .one _=>rfl
 | .cons _ ts=>by show (Pm ts).length+1=ts.size+1; rw[Bq ts]
def Leaf (c:Mem) (A:Reg):List Ty->List AV->List Value->Nat->Prop
 | [],M,vs,_=>M=[]∧vs=[]
 | t::ts,M,vs,b=>∃(x:El t) (M':List AV) (v:Value) (vs':List Value) (b1 b2:Nat),M = .val 1 t x::M'∧vs=v::vs'∧RE c A t x v∧zac t x∧wt t x<=b1∧Leaf c A ts M' vs' b2∧b1+b2<=b
theorem Leaf.len {c:Mem} {A:Reg}:{hs:List Ty}->{M:List AV}->{vs:List Value}->{b:Nat}->Leaf c A hs M vs b->M.length=hs.length∧vs.length=hs.length
 | [],_,_,_,h=>by obtain⟨rfl,rfl⟩:=h; exact ⟨rfl,rfl⟩
 | t::ts,_,_,_,h=>by
  obtain⟨x,M',v,vs',b1,b2,rfl,rfl,_,_,_,h,_⟩:=h;have:=h.len;simp [this.1,this.2]
theorem Leaf.mono {c:Mem} {A:Reg} {hs:List Ty} {M:List AV} {vs:List Value} {b b':Nat} (h:Leaf c A hs M vs b) (hb:b<=b'):Leaf c A hs M vs b':=by
 cases hs with
 | nil=>exact h
 | cons t ts =>
  obtain⟨x,M',v,vs',b1,b2,h1,h2,h3,h4,h5,h6,h7⟩:=h;exact ⟨x,M',v,vs',b1,b2,h1,h2,h3,h4,h5,h6,aF h7 hb⟩
theorem Leaf.append {c:Mem} {A:Reg}:{hs:List Ty}->{M:List AV}->{vs:List Value}->{b:Nat}->{gs:List Ty}->{N:List AV}->{us:List Value}->{d:Nat}->Leaf c A hs M vs b->Leaf c A gs N us d->Leaf c A (hs++gs) (M++N) (vs++us) (b+d)
 | [],_,_,b,_,_,_,d,h,h'=>by obtain⟨rfl,rfl⟩:=h; exact h'.mono (Nat.le_add_left _ _)
 | t::ts,_,_,b,_,_,_,d,h,h'=>by
  obtain⟨x,M',v,vs',b1,b2,rfl,rfl,h3,h4,h5,h6,h7⟩:=h;exact ⟨x,_,v,_,b1,b2+d,rfl,rfl,h3,h4,h5,h6.append h',by omega⟩
theorem Leaf.one {c:Mem} {A:Reg} {t:Ty} {x:El t} {v:Value} {b:Nat} (h1:RE c A t x v) (h2:zac t x) (h3:wt t x<=b):Leaf c A [t] [.val 1 t x] [v] b :=
 ⟨x,[],v,[],b,0,rfl,rfl,h1,h2,h3,⟨rfl,rfl⟩,aE _⟩
theorem Leaf.tup {c:Mem} {A:Reg}:(ts:Tys)->{M:List AV}->{vs:List Value}->{b:Nat}->Leaf c A (Pm ts) M vs b->∃ x:Tup ts,HY ts x∧wtT ts x<=b ∧
  ∀ blk off,(∀(j:Nat) v,vs[j]? = some v->A blk (off+j)∧c blk (off+j)=some v)->RC c A A ts x blk off
 | .one t,_,_,b,h=>by
  obtain⟨x,M',v,vs',b1,b2,rfl,rfl,h3,h4,h5,h6,h7⟩:=h;refine ⟨x,h4,by show wt t x<=b; omega,fun blk off hv => ?_⟩
  have:=hv 0 v rfl;exact ⟨this.1,v,this.2,h3⟩
 | .cons t ts,_,_,b,h=>by
  obtain⟨x,M',v,vs',b1,b2,rfl,rfl,h3,h4,h5,h6,h7⟩:=h;obtain⟨y,hy1,hy2,hy3⟩:=Leaf.tup ts h6;refine ⟨(x,y),⟨h4,hy1⟩,by show wt t x+wtT ts y<=b; omega,fun blk off hv=>⟨?_,hy3 blk (off+1) fun j u hu => ?_⟩⟩
  ·have:=hv 0 v rfl;exact ⟨this.1,v,this.2,h3⟩
  ·have:=hv (j+1) u hu;rwa [show off+(j+1)=off+1+j from by omega] at this
theorem Leaf.tupL {c:Mem} {A:Reg}:{hs:List Ty}->{M:List AV}->{vs:List Value}->{b:Nat}->Leaf c A hs M vs b->∃ x:sA hs,Ju hs x∧wtL hs x<=b∧mkL (zey hs.length) hs x=M
 | [],_,_,b,h=>by obtain⟨rfl,rfl⟩:=h; exact ⟨(),trivial,cf _,rfl⟩
 | [t],_,_,b,h=>by
  obtain⟨x,M',v,vs',b1,b2,rfl,rfl,h3,h4,h5,⟨rfl,rfl⟩,h7⟩:=h;exact ⟨x,h4,by show wt t x<=b; omega,rfl⟩
 | t::u::hs,_,_,b,h=>by
  obtain⟨x,M',v,vs',b1,b2,rfl,rfl,h3,h4,h5,h6,h7⟩:=h;obtain⟨y,hy1,hy2,hy3⟩:=h6.tupL;exact ⟨(x,y),⟨h4,hy1⟩,by show wt t x+wtL (u::hs) y<=b; omega,by rw[← hy3]; rfl⟩
structure Bulk {H:Type} (B:DataW H->Nat) (Bs:List (DataW H)->Nat):Prop where
 str:∀ l,B (.lit (.string l))=l.length+1
 one:∀ d,1<=B d
 sl:∀ e s,Bs e+1<=B (.slice e s)
 agg:∀ l,Bs l<=B (.agg l)
 nil:Bs []=0
 cons:∀ d l,Bs (d::l)=B d+Bs l
def lvF (f:TypeId->Option (List Ty)):List (TypeId×Nat)->Nat->Option (List Ty)
 | [],_=>some []
 | (t,o)::fs,k=>cond (aw o k) ((f t).bind fun l=>(lvF f fs (k+l.length)).bind fun l'=>some (l++l')) none
def lv (tb:Tb):Nat->TypeId->Option (List Ty)
 | 0,_=>none
 | n+1,t=>match tb t with
  | some (.int k)=>some [.int k]
  | some .bool=>some [.bool]
  | some .str=>some [.str]
  | some (.sl e ts _)=>(lv tb n e).bind fun l=>cond (decide (l=Pm ts)) (some [.sl ts]) none
  | some (.st fs m)=>(lvF (lv tb n) fs 0).bind fun l=>cond (aw l.length m) (some l) none
  | _=>none
theorem Kk {tb:Tb} {n:Nat} {t:TypeId} {hs:List Ty} (h:lv tb n t=some hs):∃ td,tb t=some td∧hs.length=td.size:=by
 cases n with
 | zero=>cases h
 | succ n =>
  unfold lv at h;split at h
  ·injection h with h; subst h; exact ⟨_,by assumption,rfl⟩
  ·injection h with h; subst h; exact ⟨_,by assumption,rfl⟩
  ·injection h with h; subst h; exact ⟨_,by assumption,rfl⟩
  ·rename_i e ts _ he;cases hl:lv tb n e with
   | none=>rw[hl] at h; cases h
   | some l =>
    rw[hl] at h;simp only[af] at h;cases hd:decide (l=Pm ts) with
    | false=>rw[hd] at h; cases h
    | true=>rw[hd] at h; injection h with h; subst h; exact ⟨_,he,rfl⟩
  ·rename_i fs m he;cases hl:lvF (lv tb n) fs 0 with
   | none=>rw[hl] at h; cases h
   | some l =>
    rw[hl] at h;simp only[af] at h;cases hd:aw l.length m with
    | false=>rw[hd] at h; cases h
    | true=>rw[hd] at h; injection h with h; subst h; exact ⟨_,he,aj hd⟩
  ·cases h
theorem sU {P:Program} {tb:Tb} (hT:vL P tb) {t:TypeId} {td:TD} (h:tb t=some td):P.cellsOf t=td.size:=by
 obtain⟨⟨i,hi,hs,_⟩,_⟩:=hT t td h;unfold gR;rw[hi];exact hs
def uk (w:World):Reg:=fun b o=>(mem w b o).isSome
theorem Gm {w:World} {a:Addr} {n:Nat} {vs:List Value} (h:w.cells? 0 a n=some vs):vs.length=n∧∀(j:Nat) v,vs[j]? = some v->w.cell? (a.add j)=some v:=by
 unfold World.cells? at h;rw[if_pos (cf _)] at h;have hl:=mapM_some_length h;rw[List.length_range] at hl;refine ⟨hl,fun j v hj => ?_⟩;have hjn:j<n:=by
  have:=(aq.1 hj).1;omega
 have:=mapM_some_get h j j (by simp [hjn])
 rw[this,hj]
theorem Is {α:Type} {n:Nat} {Q:Nat->α->Prop} (h:∀ i,i<n->∃ x,Q i x):∃ xs:List α,xs.length=n∧∀(i:Nat) (x:α),xs[i]? = some x->Q i x:=by
 induction n with
 | zero=>exact ⟨[],rfl,fun i x h=>by simp at h⟩
 | succ n ih =>
  obtain⟨xs,hl,hx⟩:=ih fun i hi=>h i (by omega)
  obtain⟨y,hy⟩:=h n (by omega)
  refine ⟨xs++[y],by simp [hl],fun i x hi => ?_⟩
  rw[List.getElem?_append] at hi;split at hi
  ·exact hx i x hi
  ·rename_i hlt;have:i=n:=by
    have:=(aq.1 hi).1;simp at this;omega
   subst this;simp [hl] at hi;exact hi▸hy
theorem Bulk.elems {H:Type} {B:DataW H->Nat} {Bs:List (DataW H)->Nat} (hB:Bulk B Bs) {α:Type} (wf:α->Nat):(xs:List α)->(ys:List (DataW H×List MemPlace))->xs.length=ys.length ->
  (∀(i:Nat) x y,xs[i]? = some x->ys[i]? = some y->wf x<=B y.1)->(xs.map wf).sum<=Bs (ys.map (·.1))
 | [],[],_,_=>by simp [hB.nil]
 | [],_::_,h,_=>by simp at h
 | _::_,[],h,_=>by simp at h
 | x::xs,y::ys,hl,h=>by
  have h0:=h 0 x y rfl rfl;have hs:=hB.elems wf xs ys (by simpa using hl) fun i a b ha hb=>h (i+1) a b ha hb
  simp only[aM,List.sum_cons,hB.cons];omega
variable {H:Type} {enc:TypeId×Value->H} {P:Program} {tb:Tb} {w:World} {sp:Nat->Bool} {held:Bool}
theorem XU {B:DataW H->Nat} {Bs:List (DataW H)->Nat} (hB:Bulk B Bs) (hT:vL P tb) {n m:Nat}
  (ih:∀ t hs cs y,lv tb n t=some hs->dC enc P w 0 sp held m t cs=some y->∃ M,Leaf (mem w) (uk w) hs M cs (B y.1)) {cs:List Value} :
  (fs:List Field)->{k:Nat}->{l:List Ty}->{xs:List (DataW H×List MemPlace)}->lvF (lv tb n) (fs.map fun f=>(f.type,f.offset)) k=some l->xs.length=fs.length ->
   (∀(i:Nat) f,fs[i]? = some f->dC enc P w 0 sp held m f.type ((cs.drop f.offset).take (P.cellsOf f.type))=xs[i]?)->cs.length=k+l.length->∃ M,Leaf (mem w) (uk w) l M (cs.drop k) (Bs (xs.map (·.1)))
 | [],k,l,xs,hl,hx,h,hc=>by
  injection hl with hl; subst hl;refine ⟨[],rfl,?_⟩;rw[cy];simp only[bH] at hc;omega
 | f::fs,k,l,[],hl,hx,h,hc=>by simp at hx
 | f::fs,k,l,y::xs,hl,hx,h,hc=>by
  simp only[aM,lvF] at hl;cases ho:aw f.offset k with
  | false=>rw[ho] at hl; cases hl
  | true =>
   rw[ho,cond_true] at hl;have ho:=aj ho;cases h1:lv tb n f.type with
   | none=>rw[h1] at hl; cases hl
   | some l1 =>
    rw[h1] at hl;simp only[af] at hl;cases h2:lvF (lv tb n) (fs.map fun f=>(f.type,f.offset)) (k+l1.length) with
    | none=>rw[h2] at hl; cases hl
    | some l2 =>
     rw[h2] at hl;injection hl with hl; subst hl;obtain⟨td,htd,hsz⟩:=Kk h1;have hco:P.cellsOf f.type=l1.length:=by rw[sU hT htd,hsz]
     have hf:=h 0 f rfl;rw[hco,ho] at hf;obtain⟨M1,hM1⟩:=ih _ _ _ _ h1 (hf.trans rfl);rw[az] at hc;obtain⟨M2,hM2⟩:=XU hB hT ih fs (k:=k+l1.length) (l:=l2) (xs:=xs) h2 (by simpa using hx) (fun i g hg=>h (i+1) g hg) (by omega)
     refine ⟨M1++M2,?_⟩;have:=hM1.append hM2;rw[aM,hB.cons];rwa [← cg,bR] at this
theorem Hq {B:DataW H->Nat} {Bs:List (DataW H)->Nat} (hB:Bulk B Bs) (hT:vL P tb):∀ m n t hs cs y,lv tb n t=some hs->dC enc P w 0 sp held m t cs=some y->∃ M,Leaf (mem w) (uk w) hs M cs (B y.1):=by
 intro m
 induction m with
 | zero=>intro n t hs cs y _ h; simp [dC] at h
 | succ m ih =>
  intro n t hs cs y hl h;cases n with
  | zero=>cases hl
  | succ n =>
   unfold lv at hl;split at hl
   ·rename_i k ht;injection hl with hl; subst hl;obtain⟨z,rfl,rfl,hw⟩:=gh (hT _ _ ht).2 h;exact ⟨_,Leaf.one (t:=.int k) (x:=z) rfl hw (hB.one _)⟩
   ·rename_i ht;injection hl with hl; subst hl;obtain⟨z,rfl,rfl⟩:=fX (hT _ _ ht).2 h;exact ⟨_,Leaf.one (t:=.bool) (x:=z) rfl trivial (hB.one _)⟩
   ·rename_i ht;injection hl with hl; subst hl;obtain⟨z,rfl,rfl,hz⟩:=fE (hT _ _ ht).2 h;refine ⟨_,Leaf.one (t:=.str) (x:=z.data.toList) rfl ?_ ?_⟩
    ·show z.data.toList.length<=maxLen;rw[aG]; exact hz
    ·show z.data.toList.length+1<=B (.lit (.string z.data.toList));rw[hB.str]; exact aE _
   ·rename_i e ts bytes ht;cases he:lv tb n e with
    | none=>rw[he] at hl; cases hl
    | some l =>
     rw[he] at hl;simp only[af] at hl;cases hd:decide (l=Pm ts) with
     | false=>rw[hd] at hl; cases hl
     | true =>
      rw[hd] at hl;injection hl with hl; subst hl;rw[decide_eq_true_eq] at hd; subst hd;have htd:=(hT _ _ ht).2;obtain⟨td,hte,hsz⟩:=Kk he;rw[Bq] at hsz;have hco:P.cellsOf e=ts.size:=by rw[sU hT hte,hsz]
      rcases fM htd.1 h with ⟨rfl,rfl⟩ | ⟨a,len,cap,elems,rest,m',hm',rfl,rfl,_,hlc,hcm,hel,hels,_,_⟩
      ·exact ⟨_,Leaf.one (t:=.sl ts) (x:=([]:List (Tup ts))) ⟨none,0,rfl,⟨⟨aE _,cf _⟩,fun _=>rfl⟩,.inl rfl⟩ ⟨cf _,fun x hx=>by cases hx⟩ (hB.one _)⟩
      ·injection hm' with hm'; subst hm';have hpos:0<ts.size:=by cases ts<;>simp [Tys.size]
       have hspot:0<len->a.spot=none:=fun h0=>by
        have h1:=hels 0 h0;rw[hco] at h1;cases hc:w.cells? 0 (a.add (0*ts.size)) ts.size with
        | none =>
         rw[hc] at h1;have:elems[0]? = none:=h1.symm;rw[dH] at this;omega
        | some vs =>
         obtain⟨hvl,hv⟩:=Gm hc;have:=hv 0 vs[0] (al (by omega))
         rw[Nat.zero_mul] at this;exact World.cell?_spot (w:=w) (a:=a) this
       obtain⟨xs,hxl,hxs⟩:=Is (α:=Tup ts) (n:=len) (Q:=fun i x=>∃ y,elems[i]? = some y∧HY ts x∧wtT ts x<=B y.1∧a.spot=none∧RC (mem w) (uk w) (uk w) ts x a.block (a.off+i*ts.size)) (by
        intro i hi;have h1:=hels i hi;rw[hco] at h1;cases hc:w.cells? 0 (a.add (i*ts.size)) ts.size with
        | none =>
         rw[hc] at h1;have:elems[i]? = none:=h1.symm;rw[dH] at this;omega
        | some vs =>
         rw[hc] at h1;simp only[af] at h1;have hlt:i<elems.length:=by omega
         rw[al hlt] at h1;obtain⟨M,hM⟩:=ih n e _ vs _ he h1;obtain⟨x,hx1,hx2,hx3⟩:=hM.tup ts;obtain⟨hvl,hv⟩:=Gm hc;have hspot:=hspot (by omega)
         refine ⟨x,_,al hlt,hx1,hx2,hspot,hx3 _ _ fun j v hj => ?_⟩;have:=hv j v hj;have he:(a.add (i*ts.size)).add j=⟨a.block,a.off+i*ts.size+j,none⟩:=by
          obtain⟨ab,ao,as⟩:=a;simp only at hspot;subst hspot;rw[add_plain,add_plain]
         rw[he] at this;have h2:mem w a.block (a.off+i*ts.size+j)=some v:=this;exact ⟨by unfold uk; rw[h2]; rfl,h2⟩)
       refine ⟨_,Leaf.one (t:=.sl ts) (x:=xs) ⟨some a,cap,by rw[hxl],⟨by rw[hxl]; exact ⟨hlc,hcm⟩,fun e=>by cases e⟩,?_⟩ ⟨by rw[hxl]; omega,?_⟩ ?_⟩
       ·cases xs with
        | nil=>exact .inl rfl
        | cons x0 xr =>
         refine .inr ⟨a.block,a.off,?_,fun i x hx => ?_⟩
         ·obtain⟨_,_,_,_,hs,_⟩:=hxs 0 x0 rfl;cases a; simp at hs; subst hs; rfl
         ·obtain⟨_,_,_,_,_,hr⟩:=hxs i x hx;exact hr
       ·intro x hx;obtain⟨i,hi,hix⟩:=List.mem_iff_getElem.1 hx;obtain⟨_,_,hf,_⟩:=hxs i x (by rw[al hi,hix])
        exact hf
       ·have:=hB.elems (wtT ts) xs elems (by rw[hxl,hel]) fun i x y hx hy=>by
         obtain⟨y',hy',_,hw,_⟩:=hxs i x hx;rw[hy] at hy'; injection hy' with hy'; subst hy';exact hw
        have h2:=hB.sl (elems.map (·.1)) (rest.map (·.1));show (xs.map (wtT ts)).sum+1<=B (.slice _ _);omega
   ·rename_i fs k ht;cases hf:lvF (lv tb n) fs 0 with
    | none=>rw[hf] at hl; cases hl
    | some l =>
     rw[hf] at hl;simp only[af] at hl;cases hd:aw l.length k with
     | false=>rw[hd] at hl; cases hl
     | true =>
      rw[hd] at hl;injection hl with hl; subst hl;have hk:=aj hd;obtain⟨fields,hu,hfs,_⟩:=(hT _ _ ht).2;obtain⟨xs,m',hm',rfl,hcl,hxl,hxs⟩:=fF hu h;injection hm' with hm'; subst hm';rw[← hfs] at hf;obtain⟨M,hM⟩:=XU hB hT (fun t hs cs y hlv=>ih n t hs cs y hlv) fields.toList (k:=0) (xs:=xs) hf (by rw[hxl,aG]) (fun i f hi=>hxs i f (by simpa using hi)) (by rw[hcl,sU hT ht]; show k=_; omega)
      exact ⟨M,(by simpa using hM.mono (hB.agg _))⟩
   ·cases hl
end
section
variable {H:Type} {enc:TypeId×Value->H} {P:Program} {tb:Tb} {w:World} {sp:Nat->Bool} {held:Bool}
def zfe:Option TD->Bool
 | some (.st _ _)=>true
 | _=>false
def pv (tb:Tb) (n:Nat):List TypeId->Option (List TV×List Ty)
 | []=>some ([],[])
 | t::ts=>(lv tb n t).bind fun l=>(pv tb n ts).bind fun r=>some (cond (zfe (tb t)) (.agg (ax l.length .hole)) .hole::r.1,l++r.2)
theorem Al (nm:Nat->Nat) (M N:List AV):ul nm (ax M.length .hole) (M++N)=(M,N):=by
 induction M with
 | nil=>rfl
 | cons m M ih =>
  show ((mkV nm .hole (m::(M++N))).1::(ul nm (ax M.length .hole) (M++N)).1,(ul nm (ax M.length .hole) (M++N)).2)=_;rw[ih]; rfl
theorem Leaf.rl {c:Mem} {g:Gh} {Hb:Nat->Blk} {U:Nat->Prop}:{hs:List Ty}->{M:List AV}->{vs:List Value}->{b:Nat}->Leaf c (g.S 1) hs M vs b->RL c g Hb U M vs
 | [],_,_,_,h=>by obtain⟨rfl,rfl⟩:=h; rfl
 | t::ts,_,_,_,h=>by
  obtain⟨x,M',v,vs',b1,b2,rfl,rfl,h3,h4,h5,h6,h7⟩:=h;exact ⟨v,vs',rfl,RVal.of h3,h6.rl⟩
theorem Leaf.rf {c:Mem} {g:Gh} {Hb:Nat->Blk} {U:Nat->Prop}:{hs:List Ty}->{M:List AV}->{vs:List Value}->{b:Nat}->Leaf c (g.S 1) hs M vs b->RF c g Hb U M vs
 | [],_,_,_,h=>by obtain⟨rfl,rfl⟩:=h; rfl
 | t::ts,_,_,_,h=>by
  obtain⟨x,M',v,vs',b1,b2,rfl,rfl,h3,h4,h5,h6,h7⟩:=h;exact ⟨v,[v],vs',rfl,RVal.of h3,by rw[RE.notAr h3 1]; rfl,h6.rf⟩
theorem JK {n:Nat} {t:TypeId} {td:TD} {l:List Ty} (htd:tb t=some td) (h:lv tb n t=some l) (h1:∀ k,td ≠ .int k) (h2:td ≠ .bool) (h3:td ≠ .str) (h4:∀ a b c,td ≠ .sl a b c) (h5:∀ a b,td ≠ .st a b):False:=by
 cases n with
 | zero=>cases h
 | succ n =>
  unfold lv at h;split at h
  ·rename_i k e; rw[htd] at e; injection e with e; exact h1 _ e
  ·rename_i e; rw[htd] at e; injection e with e; exact h2 e
  ·rename_i e; rw[htd] at e; injection e with e; exact h3 e
  ·rename_i e; rw[htd] at e; injection e with e; exact h4 _ _ _ e
  ·rename_i e; rw[htd] at e; injection e with e; exact h5 _ _ e
  ·cases h
theorem Xt {c:Mem} {g:Gh} {Hb:Nat->Blk} {U:Nat->Prop} {nm:Nat->Nat} {M1 M2:List AV} {v:Value} {us:List Value} {k:Nat} (hv:us=[v]) (hrl:RL c g Hb U M1 us) (hlen:M1.length=k∧us.length=k) :
  ∃ a:AV,mkV nm .hole (M1++M2)=(a,M2)∧RAV c g Hb U a v:=by
 subst hv;have hl1:M1.length=1:=by rw[hlen.1,← hlen.2]; rfl
 match M1,hl1,hrl with
 | [a],_,hrl =>
  obtain⟨v',us,e,ha,_⟩:=hrl;injection e with e1 e2;subst e1;exact ⟨a,rfl,ha⟩
theorem We {B:DataW H->Nat} {Bs:List (DataW H)->Nat} (hB:Bulk B Bs) (hT:vL P tb) {n:Nat} {r:Reach} {base:Nat} {g:Gh} (hg:g.S 1=uk w) {Hb:Nat->Blk} {U:Nat->Prop} (nm:Nat->Nat) :
  (ts:List TypeId)->{vs:List Value}->{ds:List (DataW H)}->{ps:List MemPlace}->{slots:List TV}->{hs:List Ty}->pv tb n ts=some (slots,hs)->dv enc P w 0 sp held ts vs ds ps ->
   (∀(j:Nat) t v,ts[j]? = some t->vs[j]? = some v->eS P w r base t v) ->
   ∃ M us,Leaf (mem w) (uk w) hs M us (Bs ds)∧∀ N,(ul nm slots (M++N)).2=N∧RL (mem w) g Hb U (ul nm slots (M++N)).1 vs
 | [],vs,ds,ps,slots,hs,hp,h,_=>by
  injection hp with hp; injection hp with hp1 hp2; subst hp1; subst hp2;cases vs with
  | cons _ _=>exact h.elim
  | nil=>cases ds with
   | cons _ _=>exact h.elim
   | nil=>exact ⟨[],[],⟨rfl,rfl⟩,fun N=>⟨rfl,rfl⟩⟩
 | t::ts,vs,ds,ps,slots,hs,hp,h,hok=>by
  cases vs with
  | nil=>cases ds<;>exact h.elim
  | cons v vs=>cases ds with
   | nil=>exact h.elim
   | cons d ds =>
    obtain⟨p,q,⟨m,hd⟩,hds,rfl⟩:=h;unfold pv at hp;cases h1:lv tb n t with
    | none=>rw[h1] at hp; cases hp
    | some l =>
     rw[h1] at hp;simp only[af] at hp;cases h2:pv tb n ts with
     | none=>rw[h2] at hp; cases hp
     | some rr =>
      rw[h2] at hp;injection hp with hp; injection hp with hp1 hp2; subst hp1; subst hp2;obtain⟨M1,hM1⟩:=Hq hB hT m n t l _ _ h1 hd;obtain⟨M2,us2,hM2,hr2⟩:=We hB hT hg nm ts (slots:=rr.1) (hs:=rr.2) h2 hds fun j t v ht hv=>hok (j+1) t v ht hv;have hokv:=hok 0 t v rfl rfl;refine ⟨M1++M2,_,(by rw[hB.cons]; exact hM1.append hM2),fun N => ?_⟩
      have hlen:=hM1.len;have hrl:RL (mem w) g Hb U M1 v.cells.toList:=Leaf.rl (by rw[hg]; exact hM1)
      obtain⟨td,htd,hsz⟩:=Kk h1;rw[bn];have key:∃ a:AV,mkV nm (cond (zfe (tb t)) (.agg (ax l.length .hole)) .hole) (M1++(M2++N))=(a,M2++N)∧RAV (mem w) g Hb U a v:=by
       rw[htd];cases td with
       | st fs k =>
        obtain⟨fields,hu,_⟩:=(hT _ _ htd).2;have:∃ cs,v = .agg cs:=by
         simp only[eS,hu] at hokv;obtain⟨cs,rfl,_⟩:=hokv;exact ⟨cs,rfl⟩
        obtain⟨cs,rfl⟩:=this;refine ⟨.agg M1,?_,⟨cs,rfl,Leaf.rf (by rw[hg]; exact hM1)⟩⟩
        show (AV.agg (ul nm (ax l.length .hole) (M1++(M2++N))).1,(ul nm (ax l.length .hole) (M1++(M2++N))).2)=_;rw[← hlen.1,Al]
       | int _ =>
        have hv:v.cells.toList=[v]:=by
         obtain⟨z,rfl⟩:=okWide_int (hT _ _ htd).2 hokv;rfl
        exact Xt hv hrl hlen
       | bool =>
        have hv:v.cells.toList=[v]:=by
         obtain⟨z,rfl⟩:=okWide_bool (hT _ _ htd).2 hokv;rfl
        exact Xt hv hrl hlen
       | str =>
        have hv:v.cells.toList=[v]:=by
         obtain⟨z,rfl⟩:=okWide_string (hT _ _ htd).2 hokv;rfl
        exact Xt hv hrl hlen
       | sl _ _ _ =>
        have hv:v.cells.toList=[v]:=by
         obtain⟨a,len,cap,rfl⟩:=okWide_slice (hT _ _ htd).2.1 hokv;rfl
        exact Xt hv hrl hlen
       | cx =>
        exfalso;exact JK htd h1 (by intros; intro e; cases e) (by intro e; cases e) (by intro e; cases e) (by intros; intro e; cases e) (by intros; intro e; cases e)
       | fn =>
        exfalso;exact JK htd h1 (by intros; intro e; cases e) (by intro e; cases e) (by intro e; cases e) (by intros; intro e; cases e) (by intros; intro e; cases e)
       | fl =>
        exfalso;exact JK htd h1 (by intros; intro e; cases e) (by intro e; cases e) (by intro e; cases e) (by intros; intro e; cases e) (by intros; intro e; cases e)
       | fa _ _ _ =>
        exfalso;exact JK htd h1 (by intros; intro e; cases e) (by intro e; cases e) (by intro e; cases e) (by intros; intro e; cases e) (by intros; intro e; cases e)
       | arr _ _ _ =>
        exfalso;exact JK htd h1 (by intros; intro e; cases e) (by intro e; cases e) (by intro e; cases e) (by intros; intro e; cases e) (by intros; intro e; cases e)
      obtain⟨a,ha,hra⟩:=key;have h3:=hr2 N;refine ⟨?_,?_⟩
      ·show (ul nm rr.1 (mkV nm _ (M1++(M2++N))).2).2=N;rw[ha]; exact h3.1
      ·show RL (mem w) g Hb U ((mkV nm _ (M1++(M2++N))).1::(ul nm rr.1 (mkV nm _ (M1++(M2++N))).2).1) (v::vs);rw[ha];exact ⟨v,vs,rfl,hra,h3.2⟩
theorem Yz (hl:laidOutB P=true) {W W':World} {sp':Nat->Bool}:(ts:List TypeId)->{vs:List Value}->{ds:List (DataW H)}->{ps:List MemPlace}->(∀ t∈ts,P.readableRec t=true∧t<P.types.size) ->
  dv enc P W 0 (fun _=>true) true ts vs ds ps->(∀ p∈ps,W.sameAt W' p)->(∀ p∈ps,sp' p.block=true)->dv enc P W' 0 sp' true ts vs ds ps
 | [],vs,ds,ps,_,h,_,_=>by
  cases vs with
  | cons _ _=>exact h.elim
  | nil=>cases ds with
   | cons _ _=>exact h.elim
   | nil=>exact h
 | t::ts,vs,ds,ps,hr,h,hsame,hs=>by
  cases vs with
  | nil=>cases ds<;>exact h.elim
  | cons v vs=>cases ds with
   | nil=>exact h.elim
   | cons d ds =>
    obtain⟨p,q,hd,hds,rfl⟩:=h;exact ⟨p,q,Trod_stays hl (hr t (by simp)).1 (hr t (by simp)).2 hd (fun x hx=>hsame x (by simp [hx])) (fun x hx=>hs x (by simp [hx])),Yz hl ts (fun t ht=>hr t (by simp [ht])) hds (fun x hx=>hsame x (by simp [hx])) (fun x hx=>hs x (by simp [hx])),rfl⟩
def NH (gl:Gl) (w:World):Prop:=∀ q x,gl q=some x->RC (mem w) (uk w) (uk w) x.1 x.2 q 0
theorem Mk {B:DataW H->Nat} {Bs:List (DataW H)->Nat} (hB:Bulk B Bs) (hT:vL P tb) {gl:Gl} {f:FuncId} {fn:Func} {code:Code} {slots:List TV} {tg:List Nat} {hs:List Ty} {leak glob:Bool} {F:sA hs->Option Bool}
  (h:ShOk P gl f ⟨⟨slots,[],tg,hs⟩,⟨[.hole],[],[2],[.bool]⟩,1,[],[],leak,glob,F⟩) (htg:ZY tg 1 hs.length=zey hs.length) (hfn:P.funcs[f]? = some fn) (hnm:(fn.name == "runtime.NumGoroutine")=false) (hbody:fn.body=some code) {n:Nat} (hp:pv tb n fn.params.toList=some (slots,hs))
  {W:World} {base:Nat} {r:Reach} {args:Array Value} {ds:List (DataW H)} {ps:List MemPlace} (hG:NH gl W) (hW:dv enc P W 0 sp held fn.params.toList args.toList ds ps)
  (hok:∀(j:Nat) t v,fn.params[j]? = some t->args[j]? = some v->eS P W r base t v) (hF:∀ x,Ju hs x->wtL hs x<=Bs ds->F x=some true) :
  Calls P f args W fun e W'=>e = .returned (.bool true)∧Below W.heap.size W W':=by
 let g:Gh:={ S:=fun q b o=>(q=0∨q=1)∧uk W b o,loc:=fun _=>none }
 have hg:g.S 1=uk W:=by funext b o; exact propext ⟨fun h=>h.2,fun h=>⟨.inr rfl,h⟩⟩
 have hd:∀ n0,mkH n0 ([]:List Blk)=fun _=>.dead:=fun n0=>by
  funext b
  unfold mkH;cases bN n0 b<;>rfl
 obtain⟨M,us,hM,hrl⟩:=We hB hT hg (Hb:=fun _=>.dead) (U:=upto 8 0) (fun j=>8+j) _ hp hW (fun j t v ht hv=>hok j t v (by simpa using ht) (by simpa using hv))
 obtain⟨x,hx1,hx2,hx3⟩:=hM.tupL;have hrl:=(hrl []).2;rw[b7,← hx3] at hrl;have hlent:∀ r,¬ lent g (mkH 8 ([]:List Blk)) (mkZ 8 []) r:=fun r hl=>by
  obtain⟨b,hb,_⟩:=hl;rw[hd] at hb;exact hb rfl
 have hdoes:=h.does W (uk W) (fun _ _=>False) (fun b=>W.heap.size<=b) (fun _ h=>h) g args x true (fun _=>⟨fun _ _ h=>h,fun _ h=>.inl h⟩) (fun r hr=>absurd hr (hlent r)) (Jy (fun _ _ h=>h)).symm ?_ ?_ (hF x hx1 hx2)
 ·unfold Does at hdoes;rw[sB hfn hnm hbody] at hdoes;refine Calls.mono hdoes ?_;rintro e W' ⟨v,rfl,hv⟩;obtain⟨g',us',hm',hr',hv',_⟩:=hv 0;obtain⟨u1,us2,e1,hu,_⟩:=hr';have hu:u1 = .bool true:=hu;subst hu;subst e1;subst hv';exact ⟨rfl,hm'.os,hm'.tape,hm'.output,hm'.size,fun k hk=>hm'.keep k ⟨hk,hlent k⟩⟩
 ·have hdead:∀ b,mkH 8 ([]:List Blk) b = .dead:=fun b=>by rw[hd]
  exact { blk:=fun b=>by show RBlk W g (mkH 8 []) _ b (mkH 8 [] b); rw[hdead]; trivial,used:=fun b hb=>absurd (hdead b) hb,inj:=fun b b' r hb=>absurd (hdead b) hb,acc:=fun q b o hs=>hs.2,sep:=fun q r o b hs hb=>absurd (hdead b) hb,up0:=fun q b o hs=>⟨.inl rfl,hs.2⟩,up2:=fun q b o hq hs=>(by rcases hs.1 with h | h<;>omega),dn:=fun b o hs=>.inl hs.2,fr:=fun b o hs=>(by rcases hs.1 with h | h<;>omega),nf:=fun b o hs hB=>(by
  rcases hB with hB | hB
  ·exact absurd (Abs.mem_lt hs.2) (gg.2 hB)
  ·exact absurd hB (hlent b)),keep:=fun k hk=>rfl,mine:=fun b r hb=>absurd (hdead b) hb,own:=fun b r hb=>absurd (hdead b) hb,os:=rfl,tape:=rfl,output:=rfl,size:=aE _,bnd:=aE _,glob:=fun q z hz=>(by
       have hz':gl q=some z:=by
        cases glob with
        | true=>exact hz
        | false=>cases hz
       have:=hG q z hz'
       rw[hg]; exact this),grow:=fun r j hj=>hj }
 ·show RL (mem W) g (mkH 8 []) (upto 8 0) ((ul (fun j=>8+j) slots (mkL (ZY tg 1 hs.length) hs x)).1) args.toList;rw[hd,htg];exact hrl
theorem Tg {B:DataW H->Nat} {Bs:List (DataW H)->Nat} (hB:Bulk B Bs) (hT:vL P tb) {gl:Gl} {f:FuncId} {fn:Func} {code:Code} {slots:List TV} {tg:List Nat} {hs:List Ty} {leak glob:Bool} {F:sA hs->Option Bool}
  (h:ShOk P gl f ⟨⟨slots,[],tg,hs⟩,⟨[.hole],[],[2],[.bool]⟩,1,[],[],leak,glob,F⟩) (htg:ZY tg 1 hs.length=zey hs.length) (hfn:P.funcs[f]? = some fn) (hnm:(fn.name == "runtime.NumGoroutine")=false) (hbody:fn.body=some code) {n:Nat} (hp:pv tb n fn.params.toList=some (slots,hs))
  (hlaid:laidOutB P=true) (hread:(fn.params.toList.all fun t=>P.readableRec t&&decide (t<P.types.size))=true) {tr:TypeId} (hres:fn.resultTypes = #[tr]) (hbool:P.underlying tr=some .bool)
  {s:ChangeSpec} (hvars:s.vars=[]) (hspec:∀ ds:List (DataW H),ds.length=fn.params.size->(s.fn H ds).results=[.lit (.bool true)]∧(s.fn H ds).args=ds∧(s.fn H ds).vars=[])
  {W:World} {base:Nat} {r:Reach} {args:Array Value} {ds gs:List (DataW H)} {before:List MemPlace} (hG:NH gl W) (hW:DataW.Whole enc P fn.params.toList s.vars false W args.toList ds gs before)
  (hok:∀(j:Nat) t v,fn.params[j]? = some t->args[j]? = some v->eS P W r base t v) (hF:∀ x,Ju hs x->wtL hs x<=Bs ds->F x=some true) :
  Calls P f args W fun e W'=>∃ v,e = .returned v∧s.post enc P fn false true false false W args v W':=by
 have hW':=hW;obtain⟨p,q,hA,hV,rfl,hfz,hnd⟩:=hW;rw[hvars] at hV;obtain⟨rfl,rfl⟩:=trodVars_none hV;refine (Mk hB hT h htg hfn hnm hbody hp hG hA hok hF).mono fun e W' ⟨he,hb⟩ => ?_;subst he;have hlen:∀{ts:List TypeId} {vs:List Value} {ds:List (DataW H)} {ps:List MemPlace},dv enc P W 0 (fun _=>true) true ts vs ds ps->ds.length=ts.length:=by
  intro ts
  induction ts with
  | nil=>intro vs ds ps h; cases vs<;>cases ds<;>first | rfl | exact h.elim
  | cons t ts ih =>
   intro vs ds ps h;cases vs<;>cases ds<;>first | exact h.elim | skip
   obtain⟨p,q,_,h,_⟩:=h;simp [ih h]
 have hsp:=hspec ds (by rw[hlen hA,aG])
 have hlt:∀ x∈p++[],x.block<W.heap.size:=fun x hx=>hW'.lt x hx;rw[aK] at hread;have hargs:∀ sp:Nat->Bool,(∀ x∈p++[],sp x.block=true)->dv enc P W' 0 sp true fn.params.toList args.toList (s.fn H (ds++[])).args p:=by
  intro sp hs;rw[b7,hsp.2.1];exact Yz hlaid _ (fun t ht=>by have:=hread t ht; rw[ap,decide_eq_true_eq] at this; exact this) hA (fun x hx=>hb.same (hlt x (by simpa using hx))) (fun x hx=>hs x (by simpa using hx))
 have hresults:∀(b:Nat) (sp:Nat->Bool) (hd:Bool),dv enc P W' b sp hd fn.resultTypes.toList ((Value.bool true).resultList fn.resultTypes.size) (s.fn H (ds++[])).results []:=by
  intro b sp hd;rw[b7,hsp.1,hres];exact trodAll_mk1 (shut_bool hbool true)
 have hvars':∀ sp:Nat->Bool,DataW.TrodVars enc P W' sp s.vars (s.fn H (ds++[])).vars []:=by
  intro sp;rw[b7,hsp.2.2,hvars]; rfl
 have hold:∀ x∈p++[],(fun b=>decide (b<W.heap.size)) x.block=true:=fun x hx=>by simpa using hlt x hx
 refine ⟨_,rfl,ds,[],p++[],[],p,[],hW',hresults _ _ _,hargs _ hold,hvars' _,hb.frame _,fun _ => ?_⟩;refine ⟨ok_one hres rfl (okWide_bool_mk hbool true),_,_,([]++p)++[],⟨[]++p,[],trodAll_append (hargs _ (fun _ _=>rfl)) (hresults _ _ _),hvars' _,rfl,?_,?_⟩,?_⟩
 ·intro b off hp;have:=hlt (.cell b off) (by simpa using hp)
  rw[hb.frozen this];exact hfz b off (by simpa using hp)
 ·intro ha; cases ha
 ·intro x hx _;simpa using hx
end
section
variable {H:Type} {enc:TypeId×Value->H} {P:Program} {tb:Tb} {w:World} {sp:Nat->Bool} {held:Bool}
mutual
def CE:DataW H->Option (List Value)
 | .lit (.int k n)=>some [.int k n]
 | .lit (.bool b)=>some [.bool b]
 | .lit (.string l)=>some [.string ⟨l.toArray⟩]
 | .agg ds=>Dh ds
 | _=>none
def Dh:List (DataW H)->Option (List Value)
 | []=>some []
 | d::ds=>match CE d,Dh ds with
  | some a,some b=>some (a++b)
  | _,_=>none
end
theorem X2 (hT:vL P tb) {n m:Nat}
  (ih:∀ t hs cs y vs,lv tb n t=some hs->dC enc P w 0 sp held m t cs=some y->CE y.1=some vs->cs=vs) {cs:List Value} :
  (fs:List Field)->{k:Nat}->{l:List Ty}->{xs:List (DataW H×List MemPlace)}->{vs:List Value}->lvF (lv tb n) (fs.map fun f=>(f.type,f.offset)) k=some l->xs.length=fs.length ->
   (∀(i:Nat) f,fs[i]? = some f->dC enc P w 0 sp held m f.type ((cs.drop f.offset).take (P.cellsOf f.type))=xs[i]?)->cs.length=k+l.length->Dh (xs.map (·.1))=some vs->cs.drop k=vs
 | [],k,l,xs,vs,hl,hx,h,hc,hv=>by
  injection hl with hl; subst hl;have:xs=[]:=by simpa using hx
  subst this;injection hv with hv; subst hv;rw[cy];simp only[bH] at hc;omega
 | f::fs,k,l,[],vs,hl,hx,h,hc,hv=>by simp at hx
 | f::fs,k,l,y::xs,vs,hl,hx,h,hc,hv=>by
  simp only[aM,lvF] at hl;cases ho:aw f.offset k with
  | false=>rw[ho] at hl; cases hl
  | true =>
   rw[ho,cond_true] at hl;have ho:=aj ho;cases h1:lv tb n f.type with
   | none=>rw[h1] at hl; cases hl
   | some l1 =>
    rw[h1] at hl;simp only[af] at hl;cases h2:lvF (lv tb n) (fs.map fun f=>(f.type,f.offset)) (k+l1.length) with
    | none=>rw[h2] at hl; cases hl
    | some l2 =>
     rw[h2] at hl;injection hl with hl; subst hl;obtain⟨td,htd,hsz⟩:=Kk h1;have hco:P.cellsOf f.type=l1.length:=by rw[sU hT htd,hsz]
     have hf:=h 0 f rfl;rw[hco,ho] at hf;rw[aM] at hv;unfold Dh at hv;split at hv
     ·rename_i a b ha hb;injection hv with hv; subst hv;rw[az] at hc;have e1:=ih _ _ _ _ a h1 (hf.trans rfl) ha;have e2:=X2 hT ih fs (k:=k+l1.length) (l:=l2) (xs:=xs) h2 (by simpa using hx) (fun i g hg=>h (i+1) g hg) (by omega) hb
      rw[← e1,← e2,← cg,bR]
     ·cases hv
theorem LY (hT:vL P tb):∀ m n t hs cs y vs,lv tb n t=some hs->dC enc P w 0 sp held m t cs=some y->CE y.1=some vs->cs=vs:=by
 intro m
 induction m with
 | zero=>intro n t hs cs y vs _ h; simp [dC] at h
 | succ m ih =>
  intro n t hs cs y vs hl h hv;cases n with
  | zero=>cases hl
  | succ n =>
   unfold lv at hl;split at hl
   ·rename_i k ht;obtain⟨z,rfl,rfl,hw⟩:=gh (hT _ _ ht).2 h;injection hv
   ·rename_i ht;obtain⟨z,rfl,rfl⟩:=fX (hT _ _ ht).2 h;injection hv
   ·rename_i ht;obtain⟨z,rfl,rfl,hz⟩:=fE (hT _ _ ht).2 h;injection hv
   ·rename_i e ts bytes ht;rcases fM (hT _ _ ht).2.1 h with ⟨rfl,rfl⟩ | ⟨a,len,cap,elems,rest,m',hm',rfl,rfl,_⟩
    ·cases hv
    ·cases hv
   ·rename_i fs k ht;cases hf:lvF (lv tb n) fs 0 with
    | none=>rw[hf] at hl; cases hl
    | some l =>
     rw[hf] at hl;simp only[af] at hl;cases hd:aw l.length k with
     | false=>rw[hd] at hl; cases hl
     | true =>
      have hk:=aj hd;obtain⟨fields,hu,hfs,_⟩:=(hT _ _ ht).2;obtain⟨xs,m',hm',rfl,hcl,hxl,hxs⟩:=fF hu h;injection hm' with hm'; subst hm';rw[← hfs] at hf;have:=X2 hT (fun t hs cs y vs hlv=>ih n t hs cs y vs hlv) fields.toList (k:=0) (xs:=xs) (vs:=vs) hf (by rw[hxl,aG]) (fun i f hi=>hxs i f (by simpa using hi)) (by rw[hcl,sU hT ht]; show k=_; omega) hv
      simpa using this
   ·cases hl
theorem Bp:(l:List (String×DataW Unit))->{ps:List MemPlace}->DataW.LaidVars P w l ps->∀(i:Nat) nm d,l[i]? = some (nm,d) ->
  ∃ g t cs zd p,P.globalNamed nm=some g∧(P.globals[g]?).map (·.type)=some t∧w.var? P nm=some cs∧dC (fun _=>()) P w 0 (fun _=>true) false zd t cs.toList=some (d,p)
 | [],_,_,i,nm,d,hi=>by simp at hi
 | (n,d')::r,ps,h,0,nm,d,hi=>by
  injection hi with hi; injection hi with h1 h2; subst h1; subst h2;obtain⟨g,t,cs,zd,p,q,a1,a2,a3,a4,_⟩:=h;exact ⟨g,t,cs,zd,p,a1,a2,a3,a4⟩
 | (n,d')::r,ps,h,i+1,nm,d,hi=>by
  obtain⟨g,t,cs,zd,p,q,a1,a2,a3,a4,a5,_⟩:=h;exact Bp r a5 i nm d (by simpa using hi)
theorem Tk (hT:vL P tb) {l:List (String×DataW Unit)} (h:laidMetH P l w) (hh:(l.all fun x=>x.2.handleName?.isNone)=true) (i:Nat) {nm:String} {d:DataW Unit} (hi:l[i]? = some (nm,d)) {q t:Nat} (hq:P.globalNamed nm=some q) (ht:(P.globals[q]?).map (·.type)=some t)
  {n:Nat} {ts:Tys} {x:Tup ts} {vs:List Value} (hlv:lv tb n t=some (Pm ts)) (hv:CE d=some vs) (hx:∀ c A blk off,(∀(j:Nat) v,vs[j]? = some v->A blk (off+j)∧c blk (off+j)=some v)->RC c A A ts x blk off):RC (mem w) (uk w) (uk w) ts x q 0:=by
 rw[gj _ _ _ hh] at h;obtain⟨ps,hps,_⟩:=h;obtain⟨g,t',cs,zd,p,a1,a2,a3,a4⟩:=Bp l hps i nm d hi;rw[hq] at a1; injection a1 with a1; subst a1;rw[ht] at a2; injection a2 with a2; subst a2;have e:=LY hT zd n t _ _ _ vs hlv a4 hv;refine hx _ _ _ _ fun j v hj => ?_;have hc:=World.var?_cell hq a3 j;have:mem w q (0+j)=some v:=by
  rw[aL];show w.cell? ⟨q,j,none⟩=_;rw[hc,← hj,← e,aB]
 exact ⟨by unfold uk; rw[this]; rfl,this⟩
def SJ (P:Program) (os:Os) (l:List (Nat×Array Value)):World :=
 l.foldl (fun w p=>{ w with heap:=w.heap.modify p.1 fun
  | .cells _ t fr=>.cells p.2 t fr
  | o=>o }) (fu P os ⟨#[],#[],[]⟩)
theorem N5 (P:Program) (os:Os) (l:List (Nat×Array Value)) (h:(fu P os ⟨#[],#[],[]⟩).os=os):(SJ P os l).os=os:=by
 unfold SJ;generalize fu P os ⟨#[],#[],[]⟩=w at h
 induction l generalizing w with
 | nil=>exact h
 | cons p l ih=>exact ih _ h
end
end Go.Abs
namespace Go.Abs
theorem ob0 {P:Program} {V:Env}:∀ X:Fx,VOk P X V->Obl P X V []:=fun _ _=>TE
def UnA (P:Program) (V:Env) (c:Code) (u:Un):Prop:=∀ X:Fx,VOk P X V->A0 P X V c u
theorem ob1 {P:Program} {V:Env} {c:Code} {u:Un} {l:List (Code×Un)} (h:UnA P V c u) (hl:∀ X:Fx,VOk P X V->Obl P X V l):∀ X:Fx,VOk P X V->Obl P X V ((c,u)::l):=fun X hX=>NV (h X hX) (hl X hX)
def DT:Code->Code
 | .loop c=>c
 | .scope c=>c
 | c=>c
def wD {P:Program} {gl':Gl} {l:List (Nat×Con)} (tb:Tb) (gl:Gl) (_:Y4 P gl' l) (c:ShC) (fn:Func):Env:=je tb gl l c fn.ntmps
theorem gd1 {P:Program} {gl gl':Gl} {f:FuncId} {c:ShC} {l:List (Nat×Con)} (h:ShOk P gl f c) (hl:Y4 P gl' l) (hg:c.glob=false:=by kernel_rfl):Y4 P gl' ((f,.gen (yd [c]))::l):=Zg (Xr (YD (h.anyGl hg) Xo)) hl
theorem gdG {P:Program} {gl:Gl} {f:FuncId} {c:ShC} {l:List (Nat×Con)} (h:ShOk P gl f c) (hl:Y4 P gl l):Y4 P gl ((f,.gen (yd [c]))::l):=Zg (Xr (YD h Xo)) hl
theorem gd0 {P:Program} {gl:Gl} {l:List (Nat×Con)} (f:FuncId) (hl:Y4 P gl l):Y4 P gl ((f,.gen (yd []))::l):=Zg (Xr Xo) hl
theorem zU {P:Program} {tb:Tb} {gl:Gl} {l:List (Nat×Con)} {f:FuncId} {c:ShC} {fn:Func} (ac:AC) (rts:List RT') {ob:List (Code×Un)} (ht:vL P tb) (zk:P.follows .mixedOrders=true) (hg:Y4 P (cond c.glob gl fun _=>none) l)
  (hfn:P.funcs[f]? = some fn) (hac:∀ X:Fx,VOk P X (je tb gl l c fn.ntmps)->Obl P X (je tb gl l c fn.ntmps) ob) (hb:fn.body=some (ze fn):=by kernel_rfl) (hr:fn.results=(rts.map RT'.var).toArray:=by kernel_rfl)
  (hn:c.nres=rts.length:=by kernel_rfl) (hrow:zeJ fn c fn.ntmps=true:=by kernel_rfl) (hl:obl (ze fn) ac=ob:=by kernel_rfl) (hk:c.ms.all (fun t => !((uO (ze fn)).any (aw t)))=true:=by kernel_rfl)
  (hE:∀ x,E (je tb gl l c fn.ntmps) (ze fn) ac (c.entry x) (Ni tb (je tb gl l c fn.ntmps).fz c rts x)=c.F x:=by intro x; kernel_rfl):ShOk P gl f c :=
 zd7 ht zk hg hfn hb hr hn hrow hl hac hk hE
theorem qB {P:Program} {V:Env} {c0:Code} (ac:AC) (zk:P.follows .mixedOrders=true) (hA:VAll P V) {ob:List (Code×Un)} (hac:∀ X:Fx,VOk P X V->Obl P X V ob) {hd:SS} {es:Exs} {step:(hd.X->Option (YT es))->hd.X->Option (YT es)} {W:List Nat}
  (h0:c0 = .loop (DT c0):=by kernel_rfl) (hl:obl (DT c0) ac=ob:=by kernel_rfl) (hs:∀ f x,E V (DT c0) ac (mkS hd 8 x) (Gq V.fz hd es f)=step f x:=by intro f x; kernel_rfl) (hW:uO (DT c0)=W:=by kernel_rfl)
  (hro:es.all (fun e=>kU e.2.sh)=true:=by kernel_rfl):UnA P V c0 (lpU V.fz W hd es (lp step zd)):=fun _ hX=>zby h0 hA zk hl hac hs hW hro hX
theorem zdD {P:Program} {V:Env} {c0:Code} (l:List (Nat×AC)) (zk:P.follows .mixedOrders=true) (hA:VAll P V) {ac:AC} {ob:List (Code×Un)} (hac:∀ X:Fx,VOk P X V->Obl P X V ob) (hacs:∀ X:Fx,VOk P X V->Nz P X V (DT c0) l) {js es:Exs}
  {step:(YT js->Option (YT es))->YT js->Option (YT es)} {W:List Nat} (h0:c0 = .scope (DT c0):=by kernel_rfl) (hl:obl (DT c0) ac=ob:=by kernel_rfl) (hs:∀ f x,B5 V (DT c0) (N9 l) js es f x=step f x:=by intro f x; kernel_rfl)
  (hgo:XH es=true:=by kernel_rfl) (hW:uO (DT c0)=W:=by kernel_rfl) (hro:es.all (fun e=>kU e.2.sh)=true:=by kernel_rfl):UnA P V c0 (scU V W js es (DT c0) ac (lp step zd)) :=
 fun _ hX=>zap h0 hA zk hl hac (fun X hX=>zax (hacs X hX)) hs hgo hW hro hX
theorem zdH {P:Program} {V:Env} {c:Code}:∀ X:Fx,VOk P X V->Nz P X V c []:=fun _ _=>S7
def Vq {α:Type} (xs:List α) (i:Nat) (ys:List α):List α:=xs.take i++(ys++xs.drop i)
theorem GE {α:Type} (xs:List α) {i:Nat} (ys:List α) (h:i<=xs.length):(Vq xs i ys).length=xs.length+ys.length:=by
 simp [Vq]; omega
theorem Wv {α:Type} (xs:List α) {i:Nat} (ys:List α) (h:i<=xs.length) (j:Nat) :
  (Vq xs i ys)[j]? = if j<i then xs[j]? else if j<i+ys.length then ys[j - i]? else xs[j - ys.length]? := by
 unfold Vq;by_cases h1:j<i
 ·rw[if_pos h1,bp (by simp; omega),aZ,if_pos h1]
 ·rw[if_neg h1,bi (by simp; omega)]
  simp only[List.length_take,Nat.min_eq_left h];by_cases h2:j<i+ys.length
  ·rw[if_pos h2,bp (by omega)]
  ·rw[if_neg h2,bi (by omega),bh]
   congr 1
   omega
def zdI (i:Int) (xs ys:List Int):Option (List Int):=cond (U9 i&&decide (i<=(aa xs:Int))&&Fa (aa ys:Int)&&y9 (aa xs+aa ys) 8) (some (Vq xs i.toNat ys)) none
def Fk (A:Reg) (c c':Mem):Prop:=∀ b o,A b o->c' b o=c b o∨∃ k n m,c b o=some (.int k n)∧c' b o=some (.int k m)
theorem jK {α:Type}:(xs:List α)->{Q:Nat->α->Prop}->(∀ i x,xs[i]? = some x->∃ y,Q i y)->∃ ys:List α,ys.length=xs.length∧Elems ys Q
 | [],Q,_=>⟨[],rfl,Elems.nil⟩
 | x::xs,Q,h=>by
  obtain⟨y,hy⟩:=h 0 x rfl;obtain⟨ys,h1,h2⟩:=jK xs (Q:=fun i y=>Q (i+1) y) fun i x hx=>h (i+1) x (by simpa using hx)
  refine ⟨y::ys,by simp [h1],fun i z hz => ?_⟩
  cases i with
  | zero=>injection hz with hz; subst hz; exact hy
  | succ i=>exact h2 i z (by simpa using hz)
theorem RE.int_ty {c:Mem} {A:Reg} {t:Ty} {x:El t} {k:IntKind} {n:Int} (h:RE c A t x (.int k n)):t = .int k:=by
 cases t with
 | int k' =>
  have h:bK k n = .int k' x:=h;injection h with h1 h2;rw[h1]
 | ns ts =>
  cases x with
  | none=>exact nomatch (show bK k n = .slice none 0 0 from h)
  | some xs =>
   simp only[RE] at h;obtain⟨_,_,h,_⟩:=h;cases h
 | sl ts =>
  simp only[RE] at h;obtain⟨_,_,h,_⟩:=h;cases h
 | ar _ _=>exact h.elim
 | bool=>exact nomatch (show bK k n = .bool x from h)
 | str=>exact nomatch (show bK k n = .string _ from h)
 | cx=>exact nomatch (show bK k n = .complex _ _ _ from h)
 | fl=>exact nomatch (show bK k n = .float _ _ from h)
mutual
theorem RE.spoil {c c':Mem} {A:Reg} (h:Fk A c c'):(t:Ty)->(x:El t)->(v:Value)->RE c A t x v->∃ x',RE c' A t x' v
 | .int _,x,_,hr=>⟨x,hr⟩
 | .bool,x,_,hr=>⟨x,hr⟩
 | .str,x,_,hr=>⟨x,hr⟩
 | .cx,x,_,hr=>⟨x,hr⟩
 | .fl,x,_,hr=>⟨x,hr⟩
 | .ar _ _,_,_,hr=>hr.elim
 | .sl ts,xs,v,hr=>by
  simp only[RE] at hr;obtain⟨a,cap,rfl,hcap,hx⟩:=hr;rcases hx with rfl | ⟨b,o,rfl,hi⟩
  ·refine ⟨[],?_⟩;simp only[RE];exact ⟨a,cap,rfl,hcap,.inl (by trivial)⟩
  ·obtain⟨ys,h1,h2⟩:=jK (α:=Tup ts) xs (Q:=fun i y=>RC c' A A ts y b (o+i*ts.size)) fun i x hx=>RC.spoil h ts x b _ (hi i x hx);refine ⟨ys,?_⟩;simp only[RE];exact ⟨_,cap,by rw[h1],by rw[h1]; exact hcap,.inr ⟨b,o,rfl,h2⟩⟩
 | .ns ts,x,v,hr=>by
  cases x with
  | none=>exact ⟨none,hr⟩
  | some xs =>
   simp only[RE] at hr;obtain⟨a,cap,rfl,hcap,hx⟩:=hr;rcases hx with rfl | ⟨hs,hi⟩
   ·refine ⟨some [],?_⟩;simp only[RE];exact ⟨a,cap,rfl,hcap,.inl (by trivial)⟩
   ·obtain⟨ys,h1,h2⟩:=jK (α:=Tup ts) xs (Q:=fun i y=>RC c' A A ts y a.block (a.off+i*ts.size)) fun i x hx=>RC.spoil h ts x _ _ (hi i x hx);refine ⟨some ys,?_⟩;simp only[RE];exact ⟨a,cap,by rw[h1],by rw[h1]; exact hcap,.inr ⟨hs,h2⟩⟩
theorem RC.spoil {c c':Mem} {A:Reg} (h:Fk A c c'):(ts:Tys)->(x:Tup ts)->(b o:Nat)->RC c A A ts x b o->∃ x',RC c' A A ts x' b o
 | .one t,x,b,o,hr=>by
  simp only[RC] at hr;obtain⟨ht,u,hu,he⟩:=hr;rcases h b o ht with h1 | ⟨k,n,m,h1,h2⟩
  ·obtain⟨x',hx⟩:=RE.spoil h t x u he;refine ⟨x',?_⟩;simp only[RC];exact ⟨ht,u,h1.trans hu,hx⟩
  ·rw[h1] at hu;injection hu with hu;subst hu;have:=he.int_ty;subst this;refine ⟨m,?_⟩;simp only[RC];exact ⟨ht,_,h2,rfl⟩
 | .cons t ts,x,b,o,hr=>by
  simp only[RC] at hr;obtain⟨⟨ht,u,hu,he⟩,hr⟩:=hr;obtain⟨y,hy⟩:=RC.spoil h ts x.2 b (o+1) hr;rcases h b o ht with h1 | ⟨k,n,m,h1,h2⟩
  ·obtain⟨x',hx⟩:=RE.spoil h t x.1 u he;refine ⟨(x',y),?_⟩;simp only[RC];exact ⟨⟨ht,u,h1.trans hu,hx⟩,hy⟩
  ·rw[h1] at hu;injection hu with hu;subst hu;have:=he.int_ty;subst this;refine ⟨(m,y),?_⟩;simp only[RC];exact ⟨⟨ht,_,h2,rfl⟩,hy⟩
end
structure SpoilW (B:Nat) (w w':World):Prop where
 rows:∀ j,j<B->w'.heap[j]? = w.heap[j]?
 size:w.heap.size<=w'.heap.size
 frz:∀ b o,(mem w b o).isSome->w'.frozen? ⟨b,o,none⟩=w.frozen? ⟨b,o,none⟩
 cells:∀ b o,(mem w b o).isSome->mem w' b o=mem w b o∨∃ k n m,mem w b o=some (.int k n)∧mem w' b o=some (.int k m)
 os:w'.os=w.os
 tape:w'.tape=w.tape
 output:w'.output=w.output
theorem SpoilW.refl {B:Nat} {w:World}:SpoilW B w w:=⟨fun _ _=>rfl,aE _,fun _ _ _=>rfl,fun _ _ _=>.inl rfl,rfl,rfl,rfl⟩
theorem SpoilW.there {B:Nat} {w w':World} (h:SpoilW B w w') {b o:Nat} (hs:(mem w b o).isSome):(mem w' b o).isSome:=by
 rcases h.cells b o hs with h1 | ⟨k,n,m,-,h2⟩
 ·rw[h1]; exact hs
 ·rw[h2]; rfl
theorem SpoilW.trans {B:Nat} {w w1 w2:World} (h:SpoilW B w w1) (h':SpoilW B w1 w2):SpoilW B w w2 where
 rows j hj:=(h'.rows j hj).trans (h.rows j hj)
 size:=aF h.size h'.size
 frz b o hs:=(h'.frz b o (h.there hs)).trans (h.frz b o hs)
 cells b o hs:=by
  rcases h.cells b o hs with h1 | ⟨k,n,m,h1,h2⟩<;>rcases h'.cells b o (h.there hs) with h3 | ⟨k',n',m',h3,h4⟩
  ·exact .inl (h3.trans h1)
  ·exact .inr ⟨k',n',m',h1▸h3,h4⟩
  ·exact .inr ⟨k,n,m,h1,h3.trans h2⟩
  ·rw[h2] at h3;injection h3 with h3;injection h3 with e1 e2;subst e1;exact .inr ⟨k,n,m',h1,h4⟩
 os:=h'.os.trans h.os
 tape:=h'.tape.trans h.tape
 output:=h'.output.trans h.output
def free (B:Nat) (w:World):Reg:=fun b o=>B<=b∧(mem w b o).isSome∧w.frozen? ⟨b,o,none⟩=false
theorem SpoilW.free {B:Nat} {w w':World} (h:SpoilW B w w') {b o:Nat} (hf:Abs.free B w b o):Abs.free B w' b o :=
 ⟨hf.1,h.there hf.2.1,(h.frz b o hf.2.1).trans hf.2.2⟩
theorem SpoilW.spoilt {B:Nat} {w w':World} (h:SpoilW B w w'):Fk (Abs.free B w) (mem w) (mem w'):=fun b o hf=>h.cells b o hf.2.1
theorem SpoilW.RE {B:Nat} {w w':World} (h:SpoilW B w w') {t:Ty} {x:El t} {v:Value} (hr:RE (mem w) (Abs.free B w) t x v):∃ x',Abs.RE (mem w') (Abs.free B w') t x' v:=by
 obtain⟨x',hx⟩:=RE.spoil h.spoilt t x v hr;exact ⟨x',RE.weak (fun _ _ hf=>h.free hf) hx⟩
theorem SpoilW.RC {B:Nat} {w w':World} (h:SpoilW B w w') {ts:Tys} {x:Tup ts} {b o:Nat} (hr:RC (mem w) (Abs.free B w) (Abs.free B w) ts x b o):∃ x',Abs.RC (mem w') (Abs.free B w') (Abs.free B w') ts x' b o:=by
 obtain⟨x',hx⟩:=RC.spoil h.spoilt ts x b o hr;exact ⟨x',RC.mono (fun _ _ hf=>⟨h.free hf,rfl⟩) (fun _ _ hf=>⟨h.free hf,rfl⟩) ts x' b o hx⟩
def kS (w:World):Reg:=fun b o=>(mem w b o).isSome
def Fx.sub (X:Fx) (w:World):Fx :=
 {P:=X.P,gl:=X.gl,w0:=w,Keep:=fun k=>k<w.heap.size,N:=fun b=>w.heap.size<=b,D:=w.heap.size,O:=fun _=>False,A:=kS w,hN:=fun _ h=>h,keepLt:=fun _ h=>h }
def KP (w:World):Gh:={ S:=fun q b o=>(q=0∨q=1)∧kS w b o,loc:=fun _=>none }
def Yy:Nat->Blk:=fun _=>.dead
def noZ:Nat->Bool:=fun _=>false
theorem MemOk.sub {X:Fx} {g:Gh} {H:Nat->Blk} {Z:Nat->Bool} {U:Nat->Prop} {w:World} (h:MemOk X g H Z U w):MemOk (X.sub w) (KP w) Yy noZ (fun _=>False) w where
 blk b:=trivial
 used b hb:=absurd rfl hb
 inj b b' r hb:=absurd rfl hb
 acc k b o hs:=hs.2
 sep k r o x hs hx:=absurd rfl hx
 up0 k b o hs:=⟨.inl rfl,hs.2⟩
 up2 k b o hk hs:=by rcases hs.1 with h | h<;>omega
 dn b o hs:=.inl hs.2
 fr b o hs:=by rcases hs.1 with h | h<;>omega
 nf b o hs hB:=by
  rcases hB with hB | hB
  ·exact absurd (Abs.mem_lt hs.2) (gg.2 hB)
  ·exact hB.elim
 keep k hk:=rfl
 mine x r hx:=absurd rfl hx
 own x r hx:=absurd rfl hx
 os:=rfl
 tape:=rfl
 output:=rfl
 size:=aE _
 bnd:=aE _
 glob q x hx:=by
  have hsub:∀ b o,g.S 1 b o->(KP w).S 1 b o∧mem w b o=mem w b o:=fun b o hs=>⟨⟨.inr rfl,h.acc 1 b o hs⟩,rfl⟩;exact RC.mono hsub hsub _ _ _ _ (h.glob q x hx)
 grow r j hj:=hj
def MI:List AV->Option ((ts:Tys)×Tup ts)
 | []=>none
 | .val _ t x::r=>cond t.flat (match r with
  | []=>some ⟨.one t,x⟩
  | a::r=>(MI (a::r)).bind fun p=>some ⟨.cons t p.1,(x,p.2)⟩) none
 | _::_=>none
mutual
def MA (H:Nat->Blk):AV->AV
 | .val _ t x=>.val 1 t x
 | .agg cs=>.agg (TF H cs)
 | .nilv=>.nilv
 | .ptr b o=>match H b with
  | .cells cs=>match MI cs with
   | some p=>.eptr 1 p.1 p.2 o
   | none=>.unk
  | _=>.unk
 | .view b=>match H b with
  | .seq _ ts xs=>.val 1 (.sl ts) xs
  | _=>.unk
 | .part b o n=>match H b with
  | .seq _ ts xs=>.val 1 (.sl ts) ((xs.drop o).take n)
  | _=>.unk
 | _=>.unk
def TF (H:Nat->Blk):List AV->List AV
 | []=>[]
 | a::r=>MA H a::TF H r
end
theorem Tu (H:Nat->Blk) (a:AV):(MA H a).isAr=a.isAr:=by
 cases a with
 | val k t x=>cases t<;>rfl
 | ptr b o =>
  simp only[MA];split
  ·split<;>rfl
  ·rfl
 | view b =>
  simp only[MA];split<;>rfl
 | part b o n =>
  simp only[MA];split<;>rfl
 | _=>rfl
theorem Dp {w:World} {g:Gh} {H:Nat->Blk} {U:Nat->Prop} (hacc:∀ k b o,g.S k b o->(mem w b o).isSome):(cs:List AV)->{p:(ts:Tys)×Tup ts}->MI cs=some p->{vs:List Value}->RF (mem w) g H U cs vs->{r o:Nat} ->
  (∀(j:Nat) (v:Value),vs[j]? = some v->mem w r (o+j)=some v)->RC (mem w) (kS w) (kS w) p.1 p.2 r o
 | [],_,h,_,_,_,_,_=>by cases h
 | .val k t x::r,p,h,vs,hr,b,o,hm=>by
  unfold MI at h;cases hf:t.flat with
  | false=>rw[hf] at h; cases h
  | true =>
   rw[hf,cond_true] at h;obtain⟨v,us,ws,rfl,h1,h2,h3⟩:=hr;have har:(AV.val k t x).isAr=false:=by cases t<;>first | rfl | cases hf
   rw[har,cond_false] at h2;subst h2;have h1:RE (mem w) (kS w) t x v:=RE.mono (fun b o hb=>⟨hacc k b o hb,rfl⟩) t x v ((RVal.flat hf).1 h1);have h0:mem w b o=some v:=hm 0 v rfl;have ht:kS w b o:=by unfold kS; rw[h0]; rfl
   cases r with
   | nil =>
    injection h with h;subst h;simp only[RC];exact ⟨ht,v,h0,h1⟩
   | cons a r =>
    simp only at h;obtain⟨q,hq,h⟩:=ag.1 h;injection h with h;subst h;simp only[RC];refine ⟨⟨ht,v,h0,h1⟩,Dp hacc (a::r) hq h3 fun j u hu => ?_⟩;rw[bz,cH 1 j];exact hm (j+1) u (by simpa using hu)
 | .unk::_,_,h,_,_,_,_,_=>by cases h
 | .agg _::_,_,h,_,_,_,_,_=>by cases h
 | .tup _::_,_,h,_,_,_,_,_=>by cases h
 | .nilv::_,_,h,_,_,_,_,_=>by cases h
 | .view _::_,_,h,_,_,_,_,_=>by cases h
 | .part _ _ _::_,_,h,_,_,_,_,_=>by cases h
 | .ptr _ _::_,_,h,_,_,_,_,_=>by cases h
 | .cptr _ _ _ _ _::_,_,h,_,_,_,_,_=>by cases h
 | .sptr _ _ _::_,_,h,_,_,_,_,_=>by cases h
 | .eptr _ _ _ _::_,_,h,_,_,_,_,_=>by cases h
 | .clo _ _::_,_,h,_,_,_,_,_=>by cases h
theorem X8 (w:World):(KP w).S 1=kS w:=by
 funext b o
 simp [KP]
section
variable {X:Fx} {g:Gh} {H:Nat->Blk} {Z:Nat->Bool} {U:Nat->Prop} {w:World}
theorem Gf (hm:MemOk X g H Z U w) {b q:Nat} {ts:Tys} {xs:List (Tup ts)} (hx:H b = .seq q ts xs) {r:Nat} (hl:g.loc b=some r) {o:Nat} (ho:o<xs.length*ts.size):kS w r o:=by
 have hb:=hm.blk b;rw[hx] at hb;simp only[RBlk] at hb;rcases hb with ⟨h1,-⟩ | ⟨r',c,e,h1,h2,h3,-⟩
 ·rw[hl] at h1; cases h1
 ·rw[hl] at h1; injection h1 with h1; subst h1;unfold kS;rw[zo h2,aP (by omega)]; rfl
mutual
theorem Kf (hm:MemOk X g H Z U w):(a:AV)->(v:Value)->RAV (mem w) g H U a v->RAV (mem w) (KP w) Yy (fun _=>False) (MA H a) v
 | .val k t x,v,h=>RVal.mono (A':=(KP w).S 1) (fun b o hb=>⟨⟨.inr rfl,hm.acc k b o hb⟩,rfl⟩) t x v h
 | .agg cs,v,h=>by
  obtain⟨vs,rfl,hl⟩:=h;exact ⟨vs,rfl,W3 hm cs _ hl⟩
 | .nilv,v,h=>h
 | .ptr b o,v,h=>by
  simp only[MA];split
  ·rename_i cs hcs;split
   ·rename_i p hp;simp only[RAV,hcs,RPtr] at h;obtain⟨-,-,r,hl,rfl⟩:=h;have hb:=hm.blk b;rw[hcs] at hb;simp only[RBlk] at hb;obtain⟨r',c,e,hl',hw,hrf⟩:=hb;rw[hl] at hl'; injection hl' with hl'; subst hl';refine ⟨r,0,by rw[aL],?_⟩
    rw[X8];exact Dp hm.acc cs hp hrf fun j v hv=>by
     rw[zo hw,aL,← aB];exact hv
   ·trivial
  ·trivial
 | .unk,_,_=>trivial
 | .tup _,_,_=>trivial
 | .view b,v,h=>by
  simp only[MA];split
  ·rename_i q ts xs hx;simp only[RAV,hx] at h;have hb:=hm.blk b;rw[hx] at hb;have:=LZ (A:=kS w) hb h.2.2 (fun b o hs=>hm.acc q b o hs) (fun r hl o ho=>Gf hm hx hl ho);show RE _ _ _ _ _;rw[X8];exact this
  ·trivial
 | .part b o n,v,h=>by
  simp only[MA];split
  ·rename_i q ts xs hx;simp only[RAV,hx] at h;have hb:=hm.blk b;rw[hx] at hb;have:=FN (A:=kS w) hb h.2.2 (fun b o hs=>hm.acc q b o hs) (fun r hl o ho=>Gf hm hx hl ho);show RE _ _ _ _ _;rw[X8];exact this
  ·trivial
 | .cptr _ _ _ _ _,_,_=>trivial
 | .sptr _ _ _,_,_=>trivial
 | .eptr _ _ _ _,_,_=>trivial
 | .clo _ _,_,_=>trivial
theorem W3 (hm:MemOk X g H Z U w):(cs:List AV)->(vs:List Value)->RF (mem w) g H U cs vs->RF (mem w) (KP w) Yy (fun _=>False) (TF H cs) vs
 | [],_,h=>h
 | a::r,vs,h=>by
  obtain⟨v,us,ws,h0,h1,h2,h3⟩:=h;refine ⟨v,us,ws,h0,Kf hm a v h1,?_,W3 hm r ws h3⟩;rw[h2,Tu]
end
end
section
variable {c:Mem} {g g':Gh} {H H':Nat->Blk} {U U':Nat->Prop}
def zdX:AV->AV
 | .val _ (.int k) x=>.val 2 (.int k) x
 | .val _ .bool x=>.val 2 .bool x
 | .val _ .str x=>.val 2 .str x
 | .val _ .cx x=>.val 2 .cx x
 | .val _ .fl x=>.val 2 .fl x
 | _=>.unk
theorem Bw {c':Mem} (a:AV) (v:Value) (h:RAV c g H U a v):RAV c' g' H' U' (zdX a) v:=by
 cases a with
 | val k t x=>cases t<;>first | trivial | exact h
 | _=>trivial
end
theorem MemOk.later {X:Fx} {g:Gh} {H:Nat->Blk} {Z:Nat->Bool} {U:Nat->Prop} {w w':World} (h:MemOk X g H Z U w) (hrow:∀ j,j<w.heap.size->w'.heap[j]? = w.heap[j]?) (hsize:w.heap.size<=w'.heap.size)
  (hos:w'.os=w.os) (htape:w'.tape=w.tape) (hout:w'.output=w.output):MemOk X g H Z U w'∧Mono (mem w) g H U (mem w') g H U:=by
 have hS:∀ q b o,g.S q b o->mem w' b o=mem w b o:=fun q b o hs=>zp (hrow b (h.mem_lt hs)) o;have hgr:∀ r j,(mem w r j).isSome->(mem w' r j).isSome:=fun r j hj=>by
  rw[zp (hrow r (Abs.mem_lt hj))]; exact hj
 have hmono:Mono (mem w) g H U (mem w') g H U :=
  ⟨fun q b o hs=>⟨hs,hS q b o hs⟩,fun _ hb=>hb,fun b _=>(SameKind.refl_or (H b)).imp id fun hk=>⟨hk,rfl,fun r _ j hj=>hgr r j hj⟩⟩
 refine ⟨{ blk:=fun b => ?_,used:=h.used,inj:=h.inj,acc:=fun q b o hs=>by rw[hS q b o hs]; exact h.acc q b o hs,sep:=h.sep,up0:=h.up0,up2:=h.up2,dn:=h.dn,fr:=h.fr,nf:=fun b o hs hB=>(qG (hrow b (h.mem_lt hs)) o).trans (h.nf b o hs hB),keep:=fun k hk=>(hrow k (cq (X.keepLt k hk) h.size)).trans (h.keep k hk),mine:=h.mine,own:=h.own,os:=hos.trans h.os,tape:=htape.trans h.tape,output:=hout.trans h.output,size:=aF h.size hsize,bnd:=aF h.bnd hsize,glob:=fun q x hx=>RC.mono (hmono.hS 1) (hmono.hS 1) x.1 x.2 q 0 (h.glob q x hx),grow:=fun r j hj=>hgr r j (h.grow r j hj) },hmono⟩
 by_cases hlive:H b = .dead
 ·rw[hlive]; trivial
 ·exact RBlk.mono hmono rfl (fun r hl=>hrow r (h.locLt hlive hl)) (h.blk b)
def Ub (st:St):St:={ φ:=fun t=>MA st.H (st.φ t),H:=Yy,Z:=noZ,nx:=st.nx }
def WC (W1 W2:List Nat) (st st1:St):St:={ st with φ:=fun t=>cond (W2.any (aw t)) .unk (cond (W1.any (aw t)) (zdX (st1.φ t)) (st.φ t)) }
theorem Now.sub {X:Fx} {V:Env} {d:List Deferred} {st:St} {a:Act} {w:World} {g:Gh} {U:Nat->Prop} (h:Now X V d x5 st a w g U):Now (X.sub w) V d x5 (Ub st) a w (KP w) (fun _=>False) where
 fr t:=Kf h.mem _ _ (h.fr t)
 mem:=h.mem.sub
 n:=h.n
 d:=h.d
 used _b hb:=hb.elim
theorem A4 {W:List Nat} {t:Nat}:W.any (aw t)=false->t∉W:=fun hw ht=>by
 rw[bZ] at hw;exact hw t ht (dX t)
theorem Now.back {X:Fx} {V:Env} {d:List Deferred} {st:St} {a:Act} {w:World} {g:Gh} {U:Nat->Prop} (h:Now X V d x5 st a w g U) {X':Fx} {D:Nat->Prop} {st1:St} {a1:Act} {w1:World} {g1:Gh} {U1:Nat->Prop} (h1:Now X' V d D st1 a1 w1 g1 U1)
  {W1 W2:List Nat} {a2:Act} {w2:World} (hn:a2.tmps.size=a1.tmps.size) (hd:a2.defers=a1.defers) (ht1:∀ t,t∉W1->a1.tmps.getD t undef=a.tmps.getD t undef) (ht2:∀ t,t∉W2->a2.tmps.getD t undef=a1.tmps.getD t undef)
  (hrow:∀ j,j<w.heap.size->w2.heap[j]? = w.heap[j]?) (hsize:w.heap.size<=w2.heap.size) (hos:w2.os=w.os) (htape:w2.tape=w.tape) (hout:w2.output=w.output) :
  Now X V d x5 (WC W1 W2 st st1) a2 w2 g U∧Since (· ∈ W1++W2) w g st.H U a w2 g (WC W1 W2 st st1).H U a2:=by
 obtain⟨hm,hmo⟩:=h.mem.later hrow hsize hos htape hout;refine ⟨⟨fun t => ?_,hm,hn.trans h1.n,hd.trans h1.d,h.used⟩,hmo,fun t ht => ?_⟩
 ·show RAV _ _ _ _ (cond (W2.any (aw t)) .unk (cond (W1.any (aw t)) (zdX (st1.φ t)) (st.φ t))) _;cases hw:W2.any (aw t) with
  | true=>trivial
  | false =>
   rw[cond_false,ht2 t (A4 hw)];cases hw1:W1.any (aw t) with
   | true=>exact Bw _ _ (h1.fr t)
   | false =>
    rw[cond_false,ht1 t (A4 hw1)];exact RAV.mono hmo _ _ (h.fr t)
 ·have ht:t∉W1++W2:=ht;rw[aW,not_or] at ht;exact (ht2 t ht.2).trans (ht1 t ht.1)
inductive KT where
 | any
 | lit (k:IntKind) (n:Int)
 | one (t:Ty)
 | agg (ts:List Ty)
 | rp (ts:Tys) (f:Nat)
 | sl0 (ts:Tys)
 | ix0
 | len0
 | flag0
 | nx0
def RawL (c:Mem) (A:Reg):List Ty->List Value->Prop
 | [],vs=>vs=[]
 | t::ts,vs=>∃ v us,vs=v::us∧(∃ x,RE c A t x v)∧RawL c A ts us
def AY:Value->Nat
 | .slice _ n _=>n
 | _=>0
def KV (c:Mem) (A:Reg) (v0:Value) (i0:Int):KT->Value->Prop
 | .any,_=>True
 | .lit k n,v=>v = .int k n
 | .one t,v=>∃ x,RE c A t x v
 | .agg ts,v=>∃ vs,v = .agg vs∧RawL c A ts vs.toList
 | .rp ts f,v=>∃ b o,v = .pointer (some ⟨b,o+f,none⟩)∧∃ x,RC c A A ts x b o
 | .sl0 ts,v=>v=v0∧∃ xs,RE c A (.sl ts) xs v
 | .ix0,v=>v = .int .i64 i0
 | .len0,v=>v = .int .i64 (AY v0:Int)
 | .flag0,v=>v = .bool (decide (i0<(AY v0:Int)))
 | .nx0,v=>v = .int .i64 (IntKind.i64.wrap (i0+1))
def KVs (c:Mem) (A:Reg) (v0:Value) (i0:Int):List KT->List Value->Prop
 | [],vs=>vs=[]
 | t::ts,vs=>∃ v us,vs=v::us∧KV c A v0 i0 t v∧KVs c A v0 i0 ts us
theorem RawL.spoil {B:Nat} {w w':World} (h:SpoilW B w w'):(ts:List Ty)->{vs:List Value}->RawL (mem w) (free B w) ts vs->RawL (mem w') (free B w') ts vs
 | [],_,hr=>hr
 | t::ts,vs,hr=>by
  obtain⟨v,us,rfl,⟨x,hx⟩,hr⟩:=hr;exact ⟨v,us,rfl,h.RE hx,RawL.spoil h ts hr⟩
theorem KV.spoil {B:Nat} {w w':World} (h:SpoilW B w w') {v0:Value} {i0:Int} {τ:KT} {v:Value} (hr:KV (mem w) (free B w) v0 i0 τ v):KV (mem w') (free B w') v0 i0 τ v:=by
 cases τ with
 | any=>trivial
 | lit k n=>exact hr
 | one t=>obtain⟨x,hx⟩:=hr; exact h.RE hx
 | agg ts=>obtain⟨vs,rfl,hx⟩:=hr; exact ⟨vs,rfl,RawL.spoil h ts hx⟩
 | rp ts f=>obtain⟨b,o,rfl,x,hx⟩:=hr; exact ⟨b,o,rfl,h.RC hx⟩
 | sl0 ts=>obtain⟨rfl,x,hx⟩:=hr; exact ⟨rfl,h.RE hx⟩
 | ix0=>exact hr
 | len0=>exact hr
 | flag0=>exact hr
 | nx0=>exact hr
def zeM:KT->KT->Bool
 | .one t,.one u=>decide (t=u)
 | .one t,.sl0 ts=>decide (t = .sl ts)
 | .agg ts,.agg us=>decide (ts=us)
 | _,_=>false
def FY:List KT->List KT->Bool
 | [],[]=>true
 | a::as',b::bs=>zeM a b&&FY as' bs
 | _,_=>false
theorem Ur {c:Mem} {A:Reg} {v0 u0:Value} {i0 j0:Int} {a b:KT} {v:Value} (h:zeM a b=true) (hv:KV c A v0 i0 b v):KV c A u0 j0 a v:=by
 cases a<;>cases b<;>simp only[zeM,decide_eq_true_eq] at h<;>first | cases h | skip
 ·exact hv
 ·exact hv.2
 ·exact hv
theorem DF {c:Mem} {A:Reg} {v0 u0:Value} {i0 j0:Int}:(ps bs:List KT)->{vs:List Value}->FY ps bs=true->KVs c A v0 i0 bs vs->KVs c A u0 j0 ps vs
 | [],[],vs,_,hv=>hv
 | [],_::_,_,h,_=>by cases h
 | _::_,[],_,h,_=>by cases h
 | p::ps,b::bs,vs,h,hv=>by
  simp only[FY,ap] at h;obtain⟨v,us,rfl,h1,h2⟩:=hv;exact ⟨v,us,rfl,Ur h.1 h1,DF ps bs h.2 h2⟩
def wE (P:Program) (f:FuncId) (ps:List KT):Prop :=
 ∀(B:Nat) (w:World) (vs:Array Value) (v0:Value) (i0:Int),B<=w.heap.size->KVs (mem w) (free B w) v0 i0 ps vs.toList->Does P (callFunc f vs) w fun _ w'=>SpoilW B w w'
structure SNow (n:Nat) (d:List Deferred) (B:Nat) (v0:Value) (i0:Int) (W:Nat->Prop) (a0:Act) (τ:Nat->KT) (a:Act) (w:World):Prop where
 fr:∀ t,KV (mem w) (free B w) v0 i0 (τ t) (a.tmps.getD t undef)
 n:a.tmps.size=n
 d:a.defers=d
 keep:∀ t,¬ W t->a.tmps.getD t undef=a0.tmps.getD t undef
theorem SNow.spoil {n:Nat} {d:List Deferred} {B:Nat} {v0:Value} {i0:Int} {W:Nat->Prop} {a0:Act} {τ:Nat->KT} {a:Act} {w w':World} (h:SNow n d B v0 i0 W a0 τ a w) (hw:SpoilW B w w'):SNow n d B v0 i0 W a0 τ a w' :=
 ⟨fun t=>(h.fr t).spoil hw,h.n,h.d,h.keep⟩
def zdF (τ:Nat->KT):Option Tmp->KT->Nat->KT
 | some x,t=>upd τ x t
 | none,_=>τ
theorem SNow.put {n:Nat} {d:List Deferred} {B:Nat} {v0:Value} {i0:Int} {W:Nat->Prop} {a0:Act} {τ:Nat->KT} {a:Act} {w:World} (h:SNow n d B v0 i0 W a0 τ a w) {o:Oper} (hd:ZQ n o=true) (hW:∀ x,o.dst=some x->W x) {t:KT} {v:Value} (hv:KV (mem w) (free B w) v0 i0 t v) :
  SNow n d B v0 i0 W a0 (zdF τ o.dst t) (a.put o.dst v) w:=by
 refine ⟨fun y => ?_,(Kp ..).trans h.n,(Qk ..).trans h.d,fun y hy=>(XD _ _ _ _ fun e=>hy (hW y e)).trans (h.keep y hy)⟩;unfold ZQ at hd;cases hdst:o.dst with
 | none=>exact h.fr y
 | some x =>
  simp only[hdst] at hd;have hx:x<a.tmps.size:=by rw[h.n]; exact br hd
  by_cases hy:y=x
  ·subst hy;rw[show zdF τ (some y) t y=t from zq _ _ _]
   have:(a.put (some y) v).tmps.getD y undef=v:=by simp [Act.put,aQ,hx]
   rw[this]; exact hv
  ·rw[show zdF τ (some x) t y=τ y from qK _ _ hy,XD _ _ _ _ (fun e=>hy (by injection e with e; exact e.symm))]
   exact h.fr y
def tyK (τ:Nat->KT):Operand->KT
 | .tmp t=>τ t
 | .const (.int k n)=>.lit k n
 | _=>.any
theorem R4 {n:Nat} {d:List Deferred} {B:Nat} {v0:Value} {i0:Int} {W:Nat->Prop} {a0:Act} {τ:Nat->KT} {a:Act} {w:World} (h:SNow n d B v0 i0 W a0 τ a w) (o:Operand):KV (mem w) (free B w) v0 i0 (tyK τ o) (a.eval o):=by
 cases o with
 | tmp t=>exact h.fr t
 | const v=>cases v<;>first | trivial | rfl
 | _=>trivial
section
def ghF (B:Nat) (w:World):Gh:={ S:=fun q b o=>(q=0∨q=1)∧free B w b o,loc:=fun _=>none }
theorem jr (B:Nat) (w:World):(ghF B w).S 1=free B w:=by
 funext b o
 simp [ghF]
def fxF (P:Program) (B:Nat) (w:World):Fx :=
 {P:=P,gl:=fun _=>none,w0:=w,Keep:=fun k=>k<w.heap.size,N:=fun b=>w.heap.size<=b,D:=w.heap.size,O:=fun _=>False,A:=free B w,hN:=fun _ h=>h,keepLt:=fun _ h=>h }
theorem zfq (P:Program) (B:Nat) (w:World):MemOk (fxF P B w) (ghF B w) Yy noZ (fun _=>False) w where
 blk b:=trivial
 used b hb:=absurd rfl hb
 inj b b' r hb:=absurd rfl hb
 acc k b o hs:=hs.2.2.1
 sep k r o x hs hx:=absurd rfl hx
 up0 k b o hs:=⟨.inl rfl,hs.2⟩
 up2 k b o hk hs:=by rcases hs.1 with h | h<;>omega
 dn b o hs:=.inl hs.2
 fr b o hs:=by rcases hs.1 with h | h<;>omega
 nf b o hs hB:=hs.2.2.2
 keep k hk:=rfl
 mine x r hx:=absurd rfl hx
 own x r hx:=absurd rfl hx
 os:=rfl
 tape:=rfl
 output:=rfl
 size:=aE _
 bnd:=aE _
 glob q x hx:=by cases hx
 grow r j hj:=hj
def V2:Tys->List Ty
 | .one t=>[t]
 | .cons t ts=>t::V2 ts
theorem KF:(ts:Tys)->(V2 ts).length=ts.size
 | .one _=>rfl
 | .cons _ ts=>by simp [V2,Tys.size,KF ts]
theorem Zb {g:Nat}:(ts:Tys)->(x:Tup ts)->(zP g ts x).length=ts.size
 | .one _,_=>rfl
 | .cons _ ts,x=>by simp [zP,Tys.size,Zb ts]
theorem rX {g:Nat}:(ts:Tys)->(x:Tup ts)->(j:Nat)->(t:Ty)->(V2 ts)[j]? = some t->∃ y,(zP g ts x)[j]? = some (.val g t y)
 | .one t,x,0,u,h=>by injection h with h; subst h; exact ⟨x,rfl⟩
 | .one t,x,j+1,u,h=>by simp [V2] at h
 | .cons t ts,x,0,u,h=>by injection h with h; subst h; exact ⟨x.1,rfl⟩
 | .cons t ts,x,j+1,u,h=>rX ts x.2 j u (by simpa[V2] using h)
theorem rM:(cs:List AV)->(o:Nat)->(∀ a,a∈cs->a.width=1)->o<=cs.length->uj cs o=some (cs.take o,cs.drop o)
 | [],o,_,h=>by
  have:o=0:=by simpa using h
  subst this; rfl
 | a::r,0,_,_=>rfl
 | a::r,o+1,hw,h=>by
  show cond (aw (o+1) 0) _ (cond (bN a.width (o+1)) ((uj r (o+1 - a.width)).bind fun p=>some (a::p.1,p.2)) none)=_;rw[hw a (by simp),show bN 1 (o+1)=true from ce (by omega),cond_true,Nat.add_sub_cancel,rM r o (fun b hb=>hw b (by simp [hb])) (by simpa using h)]
  rfl
theorem Qg {g:Nat} {t:Ty} {y:El t} (h:t.flat=true):(AV.val g t y).width=1∧(AV.val g t y).isAr=false:=by
 cases t<;>first | exact ⟨rfl,rfl⟩ | cases h
theorem Vi {g:Nat} (ts:Tys) (x:Tup ts) (hf:(V2 ts).all Ty.flat=true):∀ a,a∈zP g ts x->a.width=1:=by
 intro a ha;obtain⟨j,hj⟩:=List.mem_iff_getElem?.1 ha;have hl:j<(V2 ts).length:=by rw[KF,← Zb (g:=g) ts x]; exact (aq.1 hj).1
 obtain⟨y,hy⟩:=rX (g:=g) ts x j _ (al hl);rw[hj] at hy;injection hy with hy;rw[hy];exact (Qg (aK.1 hf _ (cY hl))).1
theorem RF.rawL {c:Mem} {g:Gh} {H:Nat->Blk} {U:Nat->Prop}:(l:List Ty)->(cs:List AV)->{vs:List Value}->cs.length=l.length->(∀(j:Nat) (t:Ty),l[j]? = some t->t.flat=true∧∃ y,cs[j]? = some (AV.val 1 t y))->RF c g H U cs vs->RawL c (g.S 1) l vs
 | [],[],vs,_,_,h=>h
 | [],_::_,_,h,_,_=>by simp at h
 | _::_,[],_,h,_,_=>by simp at h
 | t::l,a::cs,vs,hl,ht,h=>by
  obtain⟨hf,y,hy⟩:=ht 0 t rfl;have hy:a = .val 1 t y:=by injection hy
  subst hy;obtain⟨v,us,ws,rfl,h1,h2,h3⟩:=h;rw[(Qg hf).2,cond_false] at h2;subst h2;exact ⟨v,ws,rfl,⟨y,(RVal.flat hf).1 h1⟩,RF.rawL l cs (by simpa using hl) (fun j t hj=>ht (j+1) t (by simpa using hj)) h3⟩
def He (tb:Tb) (t:TypeId) (ts:Tys) (f:Nat):Option KT :=
 (tb t).bind fun td=>cond ((V2 ts).all Ty.flat) (match td with
  | .st _ n=>cond (bN (f+n) ts.size) (some (.agg (((V2 ts).drop f).take n))) none
  | .int _ | .bool | .str | .cx | .fl | .sl .. => ((V2 ts)[f]?).map .one
  | _=>none) none
variable {P:Program} {tb:Tb} {B:Nat} {w:World} {v0:Value} {i0:Int}
theorem SE (hT:vL P tb) {t:TypeId} {ts:Tys} {f:Nat} {k:KT} (h:He tb t ts f=some k) {x:Tup ts} {b o:Nat} (hr:RC (mem w) (free B w) (free B w) ts x b o) :
  ∃ z,(cS t (.pointer (some ⟨b,o+f,none⟩))).run P w = .ok z w∧KV (mem w) (free B w) v0 i0 k z:=by
 unfold He at h;obtain⟨td,ht,h⟩:=ag.1 h;cases hf:(V2 ts).all Ty.flat with
 | false=>rw[hf] at h; cases h
 | true =>
  rw[hf,cond_true] at h;have hw:=Vi (g:=1) ts x hf;have hlen:=Zb (g:=1) ts x;have hp:RAV (mem w) (ghF B w) Yy (fun _=>False) (.eptr 1 ts x f) (.pointer (some ⟨b,o+f,none⟩)):=⟨b,o,rfl,by rw[jr]; exact hr⟩
  have key:∀ av,uV td (zP 1 ts x) f some=some av->∃ z,(cS t (.pointer (some ⟨b,o+f,none⟩))).run P w = .ok z w∧RAV (mem w) (ghF B w) Yy (fun _=>False) av z:=fun av hav=>by
   obtain⟨z,av',h1,h2,h3⟩:=ZT hT (zfq P B w) (fun b=>.inr rfl) (t:=t) (p:=.eptr 1 ts x f) (κ:=some) (x:=av) (by
    unfold ZH;rw[ht];exact hav) hp
   injection h2 with h2;subst h2;exact ⟨z,h1,h3⟩
  have one:∀(h:((V2 ts)[f]?).map KT.one=some k) (hc:uV td (zP 1 ts x) f some=(XN (zP 1 ts x) f).bind fun v=>cond v.isAr none (some v)),
    ∃ z,(cS t (.pointer (some ⟨b,o+f,none⟩))).run P w = .ok z w∧KV (mem w) (free B w) v0 i0 k z:=fun h hc=>by
   obtain⟨u,hu,rfl⟩:=aY.1 h;obtain⟨y,hy⟩:=rX (g:=1) ts x f u hu;have hfl:=(aq.1 hu);have huf:u.flat=true:=by
    obtain⟨hl,he⟩:=hfl;rw[← he];exact aK.1 hf _ (cY hl)
   have hlt:f<(zP 1 ts x).length:=(aq.1 hy).1;have hd:(zP 1 ts x).drop f = .val 1 u y::(zP 1 ts x).drop (f+1):=by
    rw[List.drop_eq_getElem_cons hlt]
    congr 1
    rw[al hlt] at hy;injection hy
   obtain⟨z,h1,h2⟩:=key (.val 1 u y) (by
    rw[hc];unfold XN;rw[rM _ f hw (by omega),af,hd]
    simp [(Qg (y:=y) (g:=1) huf).2])
   exact ⟨z,h1,y,by have:=(RVal.flat huf).1 h2; rwa [jr] at this⟩
  cases td with
  | st fs n =>
   simp only at h;cases hb:bN (f+n) ts.size with
   | false=>rw[hb] at h; cases h
   | true =>
    rw[hb,cond_true] at h;injection h with h;subst h;have hle:=br hb;obtain⟨z,h1,h2⟩:=key (.agg (((zP 1 ts x).drop f).take n)) (by
     show ((uj (zP 1 ts x) f).bind fun p=>(uj p.2 n).bind fun q=>some (AV.agg q.1))=_;rw[rM _ f hw (by omega),af,rM _ n (fun a ha=>hw a (List.mem_of_mem_drop ha)) (by simp; omega)]
     rfl)
    obtain⟨vs,rfl,hl⟩:=h2;refine ⟨_,h1,vs,rfl,?_⟩;have:=RF.rawL (((V2 ts).drop f).take n) _ (by simp [hlen,KF]) (fun j u hu=>by
     rw[aZ] at hu ⊢;split at hu
     ·rename_i hj;rw[if_pos hj];rw[bh] at hu ⊢;obtain⟨hl',he⟩:=aq.1 hu;refine ⟨?_,rX ts x _ u hu⟩;rw[← he];exact aK.1 hf _ (cY hl')
     ·cases hu) hl
    rwa [jr] at this
  | int k'=>exact one h rfl
  | bool=>exact one h rfl
  | str=>exact one h rfl
  | cx=>exact one h rfl
  | fl=>exact one h rfl
  | sl e us n=>exact one h rfl
  | fn=>cases h
  | arr e us n=>cases h
  | fa e q n=>cases h
theorem Oo (hT:vL P tb) (_hBw:B<=w.heap.size) {t:TypeId} {k:IntKind} (ht:tb t=some (.int k)) {b o:Nat} {n m:Int} (hf:free B w b o) (hc:mem w b o=some (.int k n)) :
  (d6 t (.pointer (some ⟨b,o,none⟩)) (.int k m)).run P w = .ok () (w.setCell ⟨b,o,none⟩ (.int k m))∧SpoilW B w (w.setCell ⟨b,o,none⟩ (.int k m)):=by
 obtain⟨⟨ti,hti,htsz,-⟩,hu⟩:=hT t _ ht;have hcell:w.cell? ⟨b,o,none⟩=some (.int k n):=hc;have hfr:w.frozen? ⟨b,o,none⟩=false:=hf.2.2;have hsz:ti.size=1:=htsz;refine ⟨?_,?_⟩
 ·simp [d6,Instr.sureAddr,storeVar,sizeOf,typeInfo,hti,hsz,storeCells,fV,store,Addr.add_lit,Sem.run,hcell,hfr]
 ·have hlt:b<w.heap.size:=Abs.mem_lt hf.2.1;obtain⟨c,e,fz,hw⟩:∃ c e fz,w.heap[b]? = some (.cells c e fz):=by
   unfold mem dO at hc;rw[aP hlt] at hc ⊢;cases hb:w.heap[b] with
   | cells c e fz=>exact ⟨c,e,fz,rfl⟩
   | pending c e=>rw[hb] at hc; simp at hc
   | view a t=>rw[hb] at hc; simp at hc
   | _=>rw[hb] at hc; simp at hc
  have hrow:∀ j,j≠b->(w.setCell ⟨b,o,none⟩ (.int k m)).heap[j]? = w.heap[j]? := fun j hj=>by
   simp [fv,eZ,db hj]
  have hthis:(w.setCell ⟨b,o,none⟩ (.int k m)).heap[b]? = some (.cells (c.setIfInBounds o (.int k m)) e fz):=by
   simp [fv,eZ,hw]
  have hmem:mem w b o=c[o]? := by simp [mem,dO,hw]
  refine ⟨fun j hj=>hrow j fun e=>by have:=hf.1; omega,by simp [fv],fun b' o' _ => ?_,fun b' o' _ => ?_,rfl,rfl,rfl⟩
  ·by_cases hb:b'=b
   ·subst hb;simp only[World.frozen?,hthis,hw]
   ·exact qG (hrow b' hb) o'
  ·by_cases hb:b'=b
   ·subst hb;have h1:mem (w.setCell ⟨b',o,none⟩ (.int k m)) b' o'=(c.setIfInBounds o (.int k m))[o']? := by simp [mem,dO,hthis]
    have h2:mem w b' o'=c[o']? := by simp [mem,dO,hw]
    by_cases ho:o'=o
    ·subst ho;refine .inr ⟨k,n,m,hc,?_⟩;rw[h1,Array.getElem?_setIfInBounds_self];rw[hmem] at hc;rw[if_pos (Array.getElem?_eq_some_iff.1 hc).1]
    ·left;rw[h1,h2,Array.getElem?_setIfInBounds_ne (db ho)]
   ·exact .inl (zp (hrow b' hb) o')
end
section
def asI:KT->Option IntKind
 | .lit k _=>some k
 | .one (.int k)=>some k
 | .ix0=>some .i64
 | .nx0=>some .i64
 | .len0=>some .i64
 | _=>none
theorem Ch {c:Mem} {A:Reg} {v0:Value} {i0:Int} {τ:KT} {k:IntKind} {v:Value} (h:asI τ=some k) (hv:KV c A v0 i0 τ v):∃ n,v = .int k n:=by
 cases τ with
 | one t =>
  cases t with
  | int k'=>injection h with h; subst h; obtain⟨x,hx⟩:=hv; exact ⟨x,hx⟩
  | _=>cases h
 | lit k' n=>injection h with h; subst h; exact ⟨n,hv⟩
 | ix0=>injection h with h; subst h; exact ⟨_,hv⟩
 | nx0=>injection h with h; subst h; exact ⟨_,hv⟩
 | len0=>injection h with h; subst h; exact ⟨_,hv⟩
 | _=>cases h
def zan (op:BinOp) (k:IntKind) (y:KT):Option KT :=
 match op with
 | .add | .sub | .mul | .and | .or | .xor=>some (.one (.int k))
 | .rem=>match y with
  | .lit _ n=>cond (eqI n 0) none (some (.one (.int k)))
  | _=>none
 | _=>none
def M0 (op:BinOp) (x y:KT):Option KT:=(asI x).bind fun k=>(asI y).bind fun k'=>cond (decide (k=k')) (zan op k y) none
def Sl (op:BinOp) (x y:KT):Option KT :=
 match op with
 | .lss=>match x,y with
  | .ix0,.len0=>some .flag0
  | _,_=>none
 | .add=>match x,y with
  | .ix0,.lit .i64 n=>cond (eqI n 1) (some .nx0) none
  | x,y=>M0 .add x y
 | op=>M0 op x y
variable {P:Program} {tb:Tb} {B:Nat} {w:World} {v0:Value} {i0:Int}
theorem GT (hT:vL P tb) {op:BinOp} {t:TypeId} {k:IntKind} {a b:Int} {av:AV} (h:Q8 op k a b some=some av) (ox oy:Operand) :
  ∃ z,((do eqGuard op t ox oy (.int k a) (.int k b); binOp op t (.int k a) (.int k b)):Sem Value).run P w = .ok z w∧RAV (mem w) (ghF B w) Yy (fun _=>False) av z:=by
 obtain⟨z,av',h1,h2,h3⟩:=VH hT (w:=w) (g:=ghF B w) (H:=Yy) (hv:=Yy) (U:=fun _=>False) (fun b=>.inr rfl) (op:=op) (t:=t) (a:=.val 2 (.int k) a) (b:=.val 2 (.int k) b) (κ:=some) (x:=av) (by
  show cond (decide (k=k)) (Q8 op k a b some) none=some av;rw[decide_eq_true rfl,cond_true,h]) (v:=.int k a) (u:=.int k b) (rfl:bK k a=bK k a) (rfl:bK k b=bK k b) ox oy
 injection h2 with h2;subst h2;exact ⟨z,h1,h3⟩
theorem DV (hT:vL P tb) {op:BinOp} {t:TypeId} {x y r:KT} (h:M0 op x y=some r) {v u:Value} (hv:KV (mem w) (free B w) v0 i0 x v) (hu:KV (mem w) (free B w) v0 i0 y u) (ox oy:Operand) :
  ∃ z,((do eqGuard op t ox oy v u; binOp op t v u):Sem Value).run P w = .ok z w∧KV (mem w) (free B w) v0 i0 r z:=by
 unfold M0 at h;obtain⟨k,hk,hh⟩:=ag.1 h;clear h;obtain⟨k',hk',h⟩:=ag.1 hh;clear hh;by_cases he:k=k'
 ·subst he;rw[decide_eq_true rfl,cond_true] at h;obtain⟨a,rfl⟩:=Ch hk hv;obtain⟨b,rfl⟩:=Ch hk' hu;have key:∀ q:Int,r = .one (.int k)->Q8 op k a b some=some (.val 2 (.int k) q)->∃ z,((do eqGuard op t ox oy (.int k a) (.int k b); binOp op t (.int k a) (.int k b)):Sem Value).run P w = .ok z w∧KV (mem w) (free B w) v0 i0 r z:=fun q hr hq=>by
   obtain⟨z,h1,h2⟩:=GT (B:=B) (w:=w) (t:=t) hT hq ox oy;have h2:z = .int k q:=h2;exact ⟨z,h1,by rw[hr,h2]; exact ⟨q,rfl⟩⟩
  unfold zan at h;cases op with
  | add=>exact key _ (by injection h with h; exact h.symm) rfl
  | sub=>exact key _ (by injection h with h; exact h.symm) rfl
  | mul=>exact key _ (by injection h with h; exact h.symm) rfl
  | and=>exact key _ (by injection h with h; exact h.symm) rfl
  | or=>exact key _ (by injection h with h; exact h.symm) rfl
  | xor=>exact key _ (by injection h with h; exact h.symm) rfl
  | rem =>
   simp only at h;cases y with
   | lit k2 n =>
    simp only at h;cases hn:eqI n 0 with
    | true=>rw[hn] at h; cases h
    | false =>
     rw[hn,cond_false] at h;have hu:bK k b = .int k2 n:=hu;injection hu with e1 e2;subst e2;have hb:¬ b=0:=fun e=>by
      subst e;simp [eqI] at hn
     refine key (a.tmod b) (by injection h with h; exact h.symm) ?_
     show cond (decide (b=0)) none _=_;rw[decide_eq_false hb]; rfl
   | _=>cases h
  | _=>cases h
 ·rw[decide_eq_false he] at h; cases h
theorem NF (hT:vL P tb) {op:BinOp} {t:TypeId} {x y r:KT} (h:Sl op x y=some r) {v u:Value} (hv:KV (mem w) (free B w) v0 i0 x v) (hu:KV (mem w) (free B w) v0 i0 y u) (ox oy:Operand) :
  ∃ z,((do eqGuard op t ox oy v u; binOp op t v u):Sem Value).run P w = .ok z w∧KV (mem w) (free B w) v0 i0 r z:=by
 unfold Sl at h;split at h
 ·split at h
  ·injection h with h;subst h;have hv:v = .int .i64 i0:=hv;have hu:u = .int .i64 (AY v0:Int):=hu;subst hv; subst hu;obtain⟨z,h1,h2⟩:=GT (B:=B) (w:=w) (t:=t) (op:=.lss) (k:=.i64) (a:=i0) (b:=(AY v0:Int)) (av:=.val 2 .bool (decide (i0<(AY v0:Int)))) hT rfl ox oy;exact ⟨z,h1,h2⟩
  ·cases h
 ·split at h
  ·rename_i n;cases hn:eqI n 1 with
   | false=>rw[hn] at h; cases h
   | true =>
    rw[hn,cond_true] at h;injection h with h;subst h;have hn:n=1:=by simpa[eqI] using hn
    subst hn;have hv:v = .int .i64 i0:=hv;have hu:u = .int .i64 1:=hu;subst hv; subst hu;obtain⟨z,h1,h2⟩:=GT (B:=B) (w:=w) (t:=t) (op:=.add) (k:=.i64) (a:=i0) (b:=1) (av:=.val 2 (.int .i64) (IntKind.i64.wrap (i0+1))) hT rfl ox oy;exact ⟨z,h1,h2⟩
  ·exact DV hT h hv hu ox oy
 ·exact DV hT h hv hu ox oy
def S4:List Ty->Option Tys
 | []=>none
 | [t]=>some (.one t)
 | t::u::r=>(S4 (u::r)).map (.cons t)
theorem RB {c c':Mem} {A A':Reg} (hA:∀ b o,A b o->A' b o∧c' b o=c b o):(l:List Ty)->{ts:Tys}->{vs:List Value}->{b o:Nat}->S4 l=some ts->RawL c A l vs->(∀(j:Nat) (v:Value),vs[j]? = some v->A' b (o+j)∧c' b (o+j)=some v) ->
  ∃ x,RC c' A' A' ts x b o
 | [],_,_,_,_,h,_,_=>by cases h
 | [t],ts,vs,b,o,h,hr,hc=>by
  injection h with h; subst h;obtain⟨v,us,rfl,⟨x,hx⟩,-⟩:=hr;obtain⟨h1,h2⟩:=hc 0 v rfl;refine ⟨x,?_⟩;simp only[RC];exact ⟨h1,v,h2,RE.mono hA t x v hx⟩
 | t::u::r,ts,vs,b,o,h,hr,hc=>by
  obtain⟨us',h1,rfl⟩:=aY.1 h;obtain⟨v,us,rfl,⟨x,hx⟩,hr⟩:=hr;obtain⟨y,hy⟩:=RB hA (u::r) (b:=b) (o:=o+1) h1 hr (fun j v hv=>by rw[bz,cH 1 j]; exact hc (j+1) v (by simpa using hv))
  obtain⟨h2,h3⟩:=hc 0 v rfl;refine ⟨(x,y),?_⟩;simp only[RC];exact ⟨⟨h2,v,h3,RE.mono hA t x v hx⟩,hy⟩
theorem RC.atTy {c:Mem} {A T:Reg}:(ts:Tys)->(x:Tup ts)->(b o:Nat)->RC c A T ts x b o->∀(f:Nat) (t:Ty),(V2 ts)[f]? = some t->T b (o+f)∧∃ u y,c b (o+f)=some u∧RE c A t y u
 | .one t,x,b,o,hr,0,u,h=>by
  injection h with h; subst h;simp only[RC] at hr;exact ⟨hr.1,_,x,hr.2.choose_spec.1,hr.2.choose_spec.2⟩
 | .one t,x,b,o,hr,f+1,u,h=>by simp [V2] at h
 | .cons t ts,x,b,o,hr,0,u,h=>by
  injection h with h; subst h;simp only[RC] at hr;exact ⟨hr.1.1,_,x.1,hr.1.2.choose_spec.1,hr.1.2.choose_spec.2⟩
 | .cons t ts,x,b,o,hr,f+1,u,h=>by
  simp only[RC] at hr;have:=RC.atTy ts x.2 b (o+1) hr.2 f u (by simpa[V2] using h)
  rwa [show o+1+f=o+(f+1) from by omega] at this
def AZ (tb:Tb) (sp:FuncId->Option (List KT)) (inb:Bool) (τ:Nat->KT):Op->Option KT
 | .move x=>some (tyK τ x)
 | .assign x=>some (tyK τ x)
 | .load t p=>match tyK τ p with
  | .rp ts f=>He tb t ts f
  | _=>none
 | .store t p v=>match tyK τ p,tb t with
  | .rp ts f,some (.int k)=>match (V2 ts)[f]?,asI (tyK τ v) with
   | some (.int k'),some k''=>cond (decide (k=k')&&decide (k=k'')) (some .any) none
   | _,_=>none
  | _,_=>none
 | .binOp op _ x y _=>Sl op (tyK τ x) (tyK τ y)
 | .fieldAddr s x f=>match tyK τ x with
  | .rp ts g=>(tb s).bind fun td=>(Zf td f).bind fun q=>some (.rp ts (g+q.2))
  | _=>none
 | .indexAddr t x i=>match tyK τ x,tyK τ i,tb t with
  | .sl0 ts,.ix0,some (.sl _ us _)=>cond (aw ts.size us.size&&inb) (some (.rp ts 0)) none
  | _,_,_=>none
 | .box t x=>match tyK τ x,tb t with
  | .agg l,some (.st _ _)=>(S4 l).map fun ts=>.rp ts 0
  | _,_=>none
 | .call c=>match c.callee with
  | .value (.func g)=>(sp g).bind fun ps=>cond (FY ps (c.args.toList.map (tyK τ))) (some .any) none
  | .builtin .len=>match c.args[0]?,c.argTypes[0]? with
   | some x,some t=>match tyK τ x,tb t with
    | .sl0 _,some (.sl _ _ _)=>some .len0
    | _,_=>none
   | _,_=>none
  | _=>none
 | _=>none
theorem LV {n:Nat} {d:List Deferred} {W:Nat->Prop} {a0:Act} {τ:Nat->KT} {a:Act} (h:SNow n d B v0 i0 W a0 τ a w):(os:List Operand)->KVs (mem w) (free B w) v0 i0 (os.map (tyK τ)) (os.map a.eval)
 | []=>rfl
 | o::os=>⟨_,_,rfl,R4 h o,LV h os⟩
theorem UM {B:Nat} {w:World} {b o:Nat} (h:free B w b o):b<w.heap.size:=Abs.mem_lt h.2.1
theorem Ih (hBw:B<=w.heap.size) (ob:Obj):SpoilW B w (w.alloc ob) where
 rows j hj:=qY w ob (cq hj hBw)
 size:=by simp
 frz b o hs:=qG (qY w ob (Abs.mem_lt hs)) o
 cells b o hs:=.inl (zp (qY w ob (Abs.mem_lt hs)) o)
 os:=rfl
 tape:=rfl
 output:=rfl
def InB (v0:Value) (i0:Int):Prop:=0<=i0∧i0<(AY v0:Int)
theorem T9 (hT:vL P tb) {sp:FuncId->Option (List KT)} (hsp:∀ f ps,sp f=some ps->wE P f ps) (hBw:B<=w.heap.size) {inb:Bool} (hin:inb=true->InB v0 i0) {n:Nat} {d:List Deferred} {W:Nat->Prop} {a0:Act} {τ:Nat->KT} {a:Act} (h:SNow n d B v0 i0 W a0 τ a w)
  {o:Oper} {k:KT} (ht:AZ tb sp inb τ o.op=some k):Does P (execOp a.eval o) w fun v w'=>SpoilW B w w'∧KV (mem w') (free B w') v0 i0 k v:=by
 have hev:=fun q=>R4 h q;unfold execOp;cases hop:o.op with
 | move x =>
  simp only[hop,AZ] at ht ⊢;injection ht with ht;subst ht;exact ⟨SpoilW.refl,hev x⟩
 | assign x =>
  simp only[hop,AZ] at ht ⊢;injection ht with ht;subst ht;exact ⟨SpoilW.refl,hev x⟩
 | load t p =>
  simp only[hop,AZ] at ht ⊢;split at ht
  ·rename_i ts f hp;have hr:=hev p;rw[hp] at hr;obtain⟨b,o',hv,x,hx⟩:=hr;obtain⟨z,h1,h2⟩:=SE (v0:=v0) (i0:=i0) hT ht hx;rw[hv];exact Does.value h1 ⟨SpoilW.refl,h2⟩
  ·cases ht
 | store t p v =>
  simp only[hop,AZ] at ht ⊢;split at ht
  ·rename_i ts f k1 hp htb;split at ht
   ·rename_i k2 k3 hk2 hk3;cases hc:decide (k1=k2)&&decide (k1=k3) with
    | false=>rw[hc] at ht; cases ht
    | true =>
     rw[hc,cond_true] at ht;injection ht with ht;subst ht;simp only[ap,decide_eq_true_eq] at hc;obtain⟨rfl,rfl⟩:=hc;have hr:=hev p;rw[hp] at hr;obtain⟨b,o',hv,x,hx⟩:=hr;obtain⟨h1,u,y,h2,h3⟩:=RC.atTy ts x b o' hx f _ hk2;obtain⟨m,hm⟩:=Ch hk3 (hev v);have h3:u = .int k1 y:=h3;subst h3;obtain⟨h4,h5⟩:=Oo (P:=P) hT hBw (m:=m) htb h1 h2;rw[hv,hm];exact Does.skip h4 ⟨h5,trivial⟩
   ·cases ht
  ·cases ht
 | binOp op t x y e =>
  simp only[hop,AZ] at ht ⊢;obtain⟨z,h1,h2⟩:=NF (t:=t) hT ht (hev x) (hev y) x y;exact Does.value h1 ⟨SpoilW.refl,h2⟩
 | fieldAddr s x f =>
  simp only[hop,AZ] at ht ⊢;split at ht
  ·rename_i ts g hx;obtain⟨td,htd,ht⟩:=ag.1 ht;obtain⟨q,hq,ht⟩:=ag.1 ht;injection ht with ht;subst ht;have hr:=hev x;rw[hx] at hr;obtain⟨b,o',hv,y,hy⟩:=hr;obtain⟨z,av,h1,h2,h3⟩:=kQ hT (w:=w) (g:=ghF B w) (H:=Yy) (hv:=Yy) (U:=fun _=>False) (fun b=>.inr rfl) (s:=s) (p:=.eptr 1 ts y g) (f:=f) (κ:=some) (x:=.eptr 1 ts y (g+q.2)) (by
    unfold vE;rw[htd,af,hq,af]) (show RAV _ _ _ _ _ (a.eval x) from ⟨b,o',hv,by rw[jr]; exact hy⟩)
   injection h2 with h2;subst h2;obtain⟨b2,o2,h4,h5⟩:=h3;rw[jr] at h5;exact Does.value h1 ⟨SpoilW.refl,b2,o2,h4,y,h5⟩
  ·cases ht
 | indexAddr t x i =>
  simp only[hop,AZ] at ht ⊢;split at ht
  ·rename_i ts e us n' hx hi htb;cases hb:aw ts.size us.size&&inb with
   | false=>rw[hb] at ht; cases ht
   | true =>
    rw[hb,cond_true] at ht;injection ht with ht;subst ht;simp only[ap] at hb;obtain⟨hi0,hi1⟩:=hin hb.2;have hr:=hev x;rw[hx] at hr;obtain⟨hv,xs,hxs⟩:=hr;have hri:=hev i;rw[hi] at hri;have hri:a.eval i = .int .i64 i0:=hri;have hlen:AY v0=aa xs:=by
     rw[← hv];simp only[RE] at hxs;obtain⟨_,_,h1,_⟩:=hxs;rw[h1]; rfl
    have hlt:i0.toNat<aa xs:=by omega
    have hg:gx (xs:List (Tup ts)) i0=some ((show List (Tup ts) from xs)[i0.toNat]'hlt):=by
     unfold gx;simp only[hi0,decide_true,cond_true];exact al (l:=(show List (Tup ts) from xs)) hlt
    obtain⟨z,av,h1,h2,h3⟩:=kC hT (zfq P B w) (fun b=>.inr rfl) (t:=t) (a:=.val 1 (.sl ts) xs) (i:=.val 2 (.int .i64) i0) (κ:=some) (x:=.eptr 1 ts ((show List (Tup ts) from xs)[i0.toNat]'hlt) 0) (by
     unfold vt;rw[htb];simp only;rw[hb.1,cond_true,hg];rfl) (show RVal (mem w) ((ghF B w).S 1) (.sl ts) xs (a.eval x) from (by rw[jr]; exact hxs)) (show RVal (mem w) ((ghF B w).S 2) (.int .i64) i0 (a.eval i) from hri)
    injection h2 with h2;subst h2;obtain⟨b2,o2,h4,h5⟩:=h3;rw[jr] at h5;exact Does.value h1 ⟨SpoilW.refl,b2,o2,h4,_,h5⟩
  ·cases ht
 | box t x =>
  simp only[hop,AZ] at ht ⊢;split at ht
  ·rename_i l fs m hx htb;obtain⟨ts,h1,rfl⟩:=aY.1 ht;have hr:=hev x;rw[hx] at hr;obtain⟨vs,hv,hl⟩:=hr;rw[hv];refine Does.value (v:=.pointer (some ⟨w.heap.size,0,none⟩)) (w':=w.alloc (.cells vs t)) ?_ ?_
   ·simp [Instr.box,newVar,newRow,fV]
   ·have hsp':=Ih hBw (.cells vs t);have hnew:(w.alloc (.cells vs t)).heap[w.heap.size]? = some (.cells vs t (0,0)):=uZ w (.cells vs t);refine ⟨hsp',w.heap.size,0,rfl,RB (c:=mem w) (A:=free B w) (fun b o' hf=>⟨hsp'.free hf,zp (qY w _ (UM hf)) o'⟩) l h1 hl fun j v hj => ?_⟩;have hm:mem (w.alloc (.cells vs t)) w.heap.size (0+j)=some v:=by
     rw[zo hnew,aL,← aB];exact hj
    exact ⟨⟨hBw,by rw[hm]; rfl,Qd hnew _⟩,hm⟩
  ·cases ht
 | call c =>
  simp only[hop,AZ] at ht ⊢;split at ht
  ·rename_i q hc;obtain⟨ps,hps,ht⟩:=ag.1 ht;cases hf:FY ps (c.args.toList.map (tyK τ)) with
   | false=>rw[hf] at ht; cases ht
   | true =>
    rw[hf,cond_true] at ht;injection ht with ht;subst ht;have hrun:(do let d ← resolve a.eval c o.type; invoke d.target d.args:Sem Next)=callFunc q (c.args.map a.eval):=by
     simp [resolve,hc,Act.eval,fL,invoke]
    rw[hrun];refine (hsp q ps hps B w (c.args.map a.eval) v0 i0 hBw ?_).mono fun v w' hw=>⟨hw,trivial⟩;rw[Array.toList_map];exact DF ps _ hf (LV h c.args.toList)
  ·rename_i hc;have hrun:∃ cs,(do let d ← resolve a.eval c o.type; invoke d.target d.args:Sem Next)=builtin .len c.argTypes o.type cs (c.args.map a.eval) :=
    ⟨_,by simp only[resolve,hc,pure_bind,invoke]; rfl⟩
   obtain⟨cs,hrun⟩:=hrun;rw[hrun];split at ht
   ·rename_i y t hy hty;split at ht
    ·rename_i ts e us n' hyk htb;injection ht with ht;subst ht;have hr:=hev y;rw[hyk] at hr;obtain⟨hv,xs,hxs⟩:=hr;have hlen:AY v0=aa xs:=by
      rw[← hv];simp only[RE] at hxs;obtain⟨_,_,h1,_⟩:=hxs;rw[h1]; rfl
     obtain⟨ar,har⟩:∃ ar,c.args.toList=y::ar:=by
      cases hl:c.args.toList with
      | nil=>rw[← aB,hl] at hy; cases hy
      | cons q ar=>rw[← aB,hl] at hy; injection hy with hy; subst hy; exact ⟨ar,rfl⟩
     obtain⟨tr,htr⟩:∃ tr,c.argTypes.toList=t::tr:=by
      cases hl:c.argTypes.toList with
      | nil=>rw[← aB,hl] at hty; cases hty
      | cons q ar=>rw[← aB,hl] at hty; injection hty with hty; subst hty; exact ⟨ar,rfl⟩
     obtain⟨z,av,h1,h2,h3⟩:=VY hT (w:=w) (g:=ghF B w) (H:=Yy) (hv:=Yy) (U:=fun _=>False) (fun b=>.inr rfl) (t:=t) (ty:=o.type) (ts:=tr) (us:=ar.map a.eval) (a:=.val 1 (.sl ts) xs) (κ:=some) (x:=.val 2 (.int .i64) (aa xs:Int)) (by
      unfold RG;rw[htb]) (v:=a.eval y) (show RVal (mem w) ((ghF B w).S 1) (.sl ts) xs (a.eval y) from (by rw[jr]; exact hxs))
     injection h2 with h2;subst h2;have e1:c.argTypes=(t::tr).toArray:=by rw[← htr]
     have e2:c.args.map a.eval=(a.eval y::ar.map a.eval).toArray:=by
      apply Array.ext';simp [har]
     rw[e1,e2];refine Does.value h1 ⟨SpoilW.refl,?_⟩;have h3:z = .int .i64 (aa xs:Int):=h3;show z = .int .i64 (AY v0:Int);rw[h3,hlen]
    ·cases ht
   ·cases ht
  ·cases ht
 | _=>simp only[hop,AZ] at ht; cases ht
end
section
def Gr (tb:Tb) (sp:FuncId->Option (List KT)) (inb:Bool) (n:Nat):List Oper->(Nat->KT)->Option (Nat->KT)
 | [],τ=>some τ
 | o::r,τ=>cond (ZQ n o&&o.guard.isNone) ((AZ tb sp inb τ o.op).bind fun t=>Gr tb sp inb n r (zdF τ o.dst t)) none
def tyB (tb:Tb) (sp:FuncId->Option (List KT)) (inb:Bool) (n:Nat):Code->(Nat->KT)->Option (Nat->KT)
 | .skip,τ=>some τ
 | .region _ ops false,τ=>Gr tb sp inb n ops.toList τ
 | .seq a b,τ=>(tyB tb sp inb n a τ).bind fun τ=>tyB tb sp inb n b τ
 | .block _ c,τ=>tyB tb sp inb n c τ
 | _,_=>none
def zfp:KT->Option Tys
 | .one (.sl ts)=>some ts
 | _=>none
def isZ:KT->Bool
 | .lit .i64 n=>eqI n 0
 | _=>false
def PJ:KT->Bool
 | .flag0=>true
 | _=>false
def zfj:KT->Bool
 | .nx0=>true
 | _=>false
def UE (ts:Tys):KT->Bool
 | .sl0 us=>decide (ts=us)
 | _=>false
def zaO:List Oper->Option (Nat×Nat)
 | o0::o1::_=>match o0.op,o1.op with
  | .move (.tmp i),.move (.tmp s)=>some (i,s)
  | _,_=>none
 | _=>none
def FX (s i:Nat) (ts:Tys):Nat->KT:=fun t=>cond (aw t s) (.sl0 ts) (cond (aw t i) .ix0 .any)
def Cx (tb:Tb) (sp:FuncId->Option (List KT)) (n:Nat) (hdr:Array Oper) (c:Tmp) (body:Code) (post:Array Oper) (τ:Nat->KT):Option (Nat->KT) :=
 (zaO hdr.toList).bind fun p=>(zfp (τ p.2)).bind fun ts=>cond (isZ (τ p.1) && !(aw p.1 p.2)) ((Gr tb sp false n hdr.toList (FX p.2 p.1 ts)).bind fun τ1=>cond (PJ (τ1 c))
  ((tyB tb sp true n body τ1).bind fun τ2=>(Gr tb sp false n post.toList τ2).bind fun τ3=>cond (UE ts (τ3 p.2)&&zfj (τ3 p.1)) (some fun _=>.any) none) none) none
def tyC (tb:Tb) (sp:FuncId->Option (List KT)) (n:Nat):Code->(Nat->KT)->Option (Nat->KT)
 | .skip,τ=>some τ
 | .region _ ops false,τ=>Gr tb sp false n ops.toList τ
 | .seq a b,τ=>(tyC tb sp n a τ).bind fun τ=>tyC tb sp n b τ
 | .block b (.loop (.seq (.seq (.region _ hdr false) (.cond (.tmp c) .skip (.exit b'))) (.seq body (.region _ post false)))),τ=>cond (aw b b') (Cx tb sp n hdr c body post τ) none
 | _,_=>none
variable {P:Program} {tb:Tb} {sp:FuncId->Option (List KT)}
def Mu (n:Nat) (d:List Deferred) (B:Nat) (v0:Value) (i0:Int) (W:Nat->Prop) (a0:Act) (τ:Nat->KT) (w:World):Exit->Act->World->Prop:=fun e a' w'=>e = .normal∧SpoilW B w w'∧SNow n d B v0 i0 W a0 τ a' w'
theorem DD (hT:vL P tb) (hsp:∀ f ps,sp f=some ps->wE P f ps) {B:Nat} {v0:Value} {i0:Int} {inb:Bool} (hin:inb=true->InB v0 i0) {n:Nat} {d:List Deferred} {W:Nat->Prop} {a0:Act} {ops:Array Oper} {Q:Exit->Act->World->Prop}:(r:List Oper)->(i:Nat)->ops.toList.drop i=r->(∀ o,o∈r->∀ x,o.dst=some x->W x) ->
  ∀{τ τ':Nat->KT} {a:Act} {w:World},B<=w.heap.size->SNow n d B v0 i0 W a0 τ a w->Gr tb sp inb n r τ=some τ'->(∀ a' w',SpoilW B w w'->SNow n d B v0 i0 W a0 τ' a' w'->Q .normal a' w')->wpOps P ops Q (List.range' i r.length) a w
 | [],i,_,_,τ,τ',a,w,_,hn,ht,hQ=>by
  injection ht with ht;subst ht;exact hQ a w SpoilW.refl hn
 | o::r,i,hi,hW,τ,τ',a,w,hBw,hn,ht,hQ=>by
  have ho:ops[i]? = some o:=by
   have:ops.toList[i]? = some o:=by rw[← List.head?_drop,hi]; rfl
   simpa using this
  have hr:ops.toList.drop (i+1)=r:=by rw[← List.tail_drop,hi]; rfl
  unfold Gr at ht;cases hc:ZQ n o&&o.guard.isNone with
  | false=>rw[hc] at ht; cases ht
  | true =>
   rw[hc,cond_true] at ht;simp only[ap,Option.isNone_iff_eq_none] at hc;obtain⟨t,ht1,ht2⟩:=ag.1 ht;rw[au,List.range'_succ,wpOps_cons];unfold wpOp;rw[ho];have hwant:eA o (yielded ops a.tmps)=true:=by
    unfold eA;rw[hc.2]
   simp only[hwant,if_true];refine .inl ((T9 hT hsp hBw hin hn ht1).wp fun v w' hv => ?_);obtain⟨hs,hk⟩:=hv;exact DD hT hsp hin r (i+1) hr (fun o ho=>hW o (by simp [ho])) (aF hBw hs.size) ((hn.spoil hs).put hc.1 (hW o (by simp)) hk) ht2 fun a' w' hs' hn'=>hQ a' w' (hs.trans hs') hn'
theorem XF (hT:vL P tb) (hsp:∀ f ps,sp f=some ps->wE P f ps) {B:Nat} {v0:Value} {i0:Int} {inb:Bool} (hin:inb=true->InB v0 i0) {n:Nat} {d:List Deferred} {W:Nat->Prop} {a0:Act} {id:Nat} {ops:Array Oper} (hW:∀ x,x∈uO (.region id ops false)->W x) {τ τ':Nat->KT} {a:Act} {w:World} (hBw:B<=w.heap.size)
  (hn:SNow n d B v0 i0 W a0 τ a w) (ht:Gr tb sp inb n ops.toList τ=some τ'):(fT id ops false).wp P (Mu n d B v0 i0 W a0 τ' w) a w:=by
 refine wp_region ?_;rw[List.range_eq_range'];have:=DD (Q:=Mu n d B v0 i0 W a0 τ' w) (ops:=ops) hT hsp hin ops.toList 0 rfl (fun o ho x hx=>hW x (List.mem_filterMap.2 ⟨o,ho,hx⟩)) hBw hn ht fun a' w' hs hn'=>⟨rfl,hs,hn'⟩;rwa [aG] at this
theorem zaQ (hT:vL P tb) (hsp:∀ f ps,sp f=some ps->wE P f ps) {B:Nat} {v0:Value} {i0:Int} {inb:Bool} (hin:inb=true->InB v0 i0) {n:Nat} {d:List Deferred} {W:Nat->Prop} {a0:Act}:(c:Code)->(∀ x,x∈uO c->W x)->∀{τ τ':Nat->KT} {a:Act} {w:World},B<=w.heap.size ->
  SNow n d B v0 i0 W a0 τ a w->tyB tb sp inb n c τ=some τ'->c.wp P (Mu n d B v0 i0 W a0 τ' w) a w:=by
 intro c
 induction c with
 | skip =>
  intro hW τ τ' a w hBw hn ht;injection ht with ht;subst ht;exact wp_skip ⟨rfl,SpoilW.refl,hn⟩
 | region id ops draw =>
  intro hW τ τ' a w hBw hn ht;cases draw with
  | true=>cases ht
  | false=>exact XF hT hsp hin hW hBw hn ht
 | seq c1 c2 ih1 ih2 =>
  intro hW τ τ' a w hBw hn ht;obtain⟨τ1,h1,h2⟩:=ag.1 ht;refine wp_seq (wp_mono (ih1 (fun x hx=>hW x (bk _ hx)) hBw hn h1) ?_);rintro e a1 w1 ⟨rfl,hs1,hn1⟩;refine wp_mono (ih2 (fun x hx=>hW x (bf _ hx)) (aF hBw hs1.size) hn1 h2) ?_;rintro e a2 w2 ⟨rfl,hs2,hn2⟩;exact ⟨rfl,hs1.trans hs2,hn2⟩
 | block b c ih =>
  intro hW τ τ' a w hBw hn ht;refine wp_block (wp_mono (ih hW hBw hn ht) ?_);rintro e a1 w1 ⟨rfl,hs1,hn1⟩;exact ⟨rfl,hs1,hn1⟩
 | _=>intro hW τ τ' a w hBw hn ht; cases ht
theorem TR {n:Nat} {d:List Deferred} {B:Nat} {v0 u0:Value} {i0 j0:Int} {W:Nat->Prop} {a0:Act} {τ:Nat->KT} {a:Act} {w:World} (h:SNow n d B v0 i0 W a0 τ a w):SNow n d B u0 j0 W a0 (fun _=>.any) a w:=⟨fun _=>trivial,h.n,h.d,h.keep⟩
theorem Ew (hT:vL P tb) (hsp:∀ f ps,sp f=some ps->wE P f ps) {B:Nat} {n:Nat} {d:List Deferred} {W:Nat->Prop} {a0:Act} {b id1 id2:Nat} {hdr post:Array Oper} {c:Tmp} {body:Code} (hW:∀ x,x∈uO (.block b (.loop (.seq (.seq (.region id1 hdr false) (.cond (.tmp c) .skip (.exit b))) (.seq body (.region id2 post false)))))->W x) {τ τ':Nat->KT} {a:Act} {w:World} {v0:Value} {i0:Int} (hBw:B<=w.heap.size)
  (hn:SNow n d B v0 i0 W a0 τ a w) (ht:Cx tb sp n hdr c body post τ=some τ') :
  (Code.block b (.loop (.seq (.seq (.region id1 hdr false) (.cond (.tmp c) .skip (.exit b))) (.seq body (.region id2 post false))))).wp P (Mu n d B v0 i0 W a0 τ' w) a w:=by
 unfold Cx at ht;obtain⟨⟨i,s⟩,-,ht⟩:=ag.1 ht;obtain⟨ts,hts,ht⟩:=ag.1 ht;simp only at hts ht;cases hc:isZ (τ i) && !(aw i s) with
 | false=>rw[hc] at ht; cases ht
 | true =>
  rw[hc,cond_true] at ht;simp only[ap,bW] at hc;obtain⟨hz,his⟩:=hc;obtain⟨τ1,h1,ht⟩:=ag.1 ht;cases hfl:PJ (τ1 c) with
  | false=>rw[hfl] at ht; cases ht
  | true =>
   rw[hfl,cond_true] at ht;obtain⟨τ2,h2,ht⟩:=ag.1 ht;obtain⟨τ3,h3,ht⟩:=ag.1 ht;cases hend:UE ts (τ3 s)&&zfj (τ3 i) with
   | false=>rw[hend] at ht; cases ht
   | true =>
    rw[hend,cond_true] at ht;injection ht with ht;subst ht;simp only[ap] at hend;have hflag:τ1 c = .flag0:=by
     cases hx:τ1 c<;>rw[hx] at hfl<;>first | rfl | cases hfl
    have hsl3:τ3 s = .sl0 ts:=by
     cases hx:τ3 s with
     | sl0 us =>
      have h:=hend.1;rw[hx] at h;simp only[UE,decide_eq_true_eq] at h;rw[h]
     | _=>have h:=hend.1; rw[hx] at h; cases h
    have hnx3:τ3 i = .nx0:=by
     cases hx:τ3 i<;>first | rfl | (have h:=hend.2; rw[hx] at h; cases h)
    -- the slice
    have hs0:=hn.fr s;have hτs:τ s = .one (.sl ts):=by
     unfold zfp at hts;split at hts
     ·rename_i us hx;injection hts with hts;rw[hx,hts]
     ·cases hts
    rw[hτs] at hs0;obtain⟨xs,hxs⟩:=hs0;have hi0:=hn.fr i;have hτi:∃ m,τ i = .lit .i64 m∧m=0:=by
     unfold isZ at hz;split at hz
     ·rename_i m hx;exact ⟨m,hx,by simpa[eqI] using hz⟩
     ·cases hz
    obtain⟨m,hm,rfl⟩:=hτi;rw[hm] at hi0;have hi0:a.tmps.getD i undef = .int .i64 0:=hi0;generalize hu0:a.tmps.getD s undef=u0 at hxs;have hlen:∃ ad cap,u0 = .slice ad (aa xs) cap∧aa xs<=9223372036854775807:=by
     have h:=hxs;simp only[RE] at h;obtain⟨ad,cap,h1,⟨⟨h2,h3⟩,-⟩,-⟩:=h;exact ⟨ad,cap,h1,aF h2 h3⟩
    obtain⟨ad,cap,hu,hmax⟩:=hlen;have hlv:AY u0=aa xs:=by rw[hu]; rfl
    have hstart:SNow n d B u0 ((0:Nat):Int) W a0 (FX s i ts) a w:=by
     refine ⟨fun t => ?_,hn.n,hn.d,hn.keep⟩;unfold FX;cases hb1:aw t s with
     | true =>
      have:=aj hb1;subst this;exact ⟨hu0,xs,by rw[hu0]; exact hxs⟩
     | false =>
      cases hb2:aw t i with
      | true =>
       have:=aj hb2;subst this;exact hi0
      | false=>trivial
    have hW1:∀ x,x∈uO (.region id1 hdr false)->W x:=fun x hx=>hW x (bk _ (bk _ hx));have hW2:∀ x,x∈uO body->W x:=fun x hx=>hW x (bf _ (bk _ hx));have hW3:∀ x,x∈uO (.region id2 post false)->W x:=fun x hx=>hW x (bf _ (bf _ hx));have rounds:∀(k j:Nat) (a1:Act) (w1:World),j+k=aa xs+1->0<k->SpoilW B w w1->SNow n d B u0 (j:Int) W a0 (FX s i ts) a1 w1 ->
      fU P (.seq (.seq (.region id1 hdr false) (.cond (.tmp c) .skip (.exit b))) (.seq body (.region id2 post false))) (fun e a' w'=>e = .exit b∧SpoilW B w w'∧SNow n d B v0 i0 W a0 (fun _=>.any) a' w') k a1 w1:=by
     intro k
     induction k with
     | zero=>intro j a1 w1 _ h0; omega
     | succ k ih =>
      intro j a1 w1 hjk _ hsw hnw;rw[rounds_succ];have hB1:B<=w1.heap.size:=aF hBw hsw.size;refine wp_seq (wp_seq (wp_mono (XF hT hsp (inb:=false) (fun h=>by cases h) hW1 hB1 hnw h1) ?_))
      rintro e a2 w2 ⟨rfl,hs2,hn2⟩;have hB2:B<=w2.heap.size:=aF hB1 hs2.size;have hcnd:=hn2.fr c;rw[hflag] at hcnd;have hcnd:a2.eval (.tmp c) = .bool (decide ((j:Int)<(AY u0:Int))):=hcnd;show (Code.cond (.tmp c) .skip (.exit b)).wp P _ a2 w2;refine wp_cond hcnd ?_;by_cases hlt:(j:Int)<(AY u0:Int)
      ·rw[decide_eq_true hlt,if_pos rfl];refine wp_skip ?_;show (gG body (.region id2 post false)).wp P _ a2 w2;have hin:InB u0 (j:Int):=⟨by omega,hlt⟩
       refine wp_seq (wp_mono (zaQ hT hsp (inb:=true) (fun _=>hin) body hW2 hB2 hn2 h2) ?_);rintro e a3 w3 ⟨rfl,hs3,hn3⟩;have hB3:B<=w3.heap.size:=aF hB2 hs3.size;show (fT id2 post false).wp P _ a3 w3;refine wp_mono (XF hT hsp (inb:=false) (fun h=>by cases h) hW3 hB3 hn3 h3) ?_
       rintro e a4 w4 ⟨rfl,hs4,hn4⟩;show fU P _ _ k a4 w4;have hjl:j<aa xs:=by rw[hlv] at hlt; omega
       refine ih (j+1) a4 w4 (by omega) (by omega) (((hsw.trans hs2).trans hs3).trans hs4) ?_
       refine ⟨fun t => ?_,hn4.n,hn4.d,hn4.keep⟩;unfold FX;cases hb1:aw t s with
       | true =>
        have:=aj hb1;subst this;have h:=hn4.fr t;rw[hsl3] at h;exact h
       | false =>
        cases hb2:aw t i with
        | true =>
         have:=aj hb2;subst this;have h:=hn4.fr t;rw[hnx3] at h;have h:a4.tmps.getD t undef = .int .i64 (IntKind.i64.wrap ((j:Int)+1)):=h;show a4.tmps.getD t undef = .int .i64 ((j+1:Nat):Int);rw[h]
         congr 1
         simp [ah,dW,fh];omega
        | false=>trivial
      ·rw[decide_eq_false hlt,if_neg (by decide)]
       refine wp_exit ?_;exact ⟨rfl,hsw.trans hs2,TR hn2⟩
    refine wp_block (wp_mono (wp_loop_rounds (aa xs+1) (rounds (aa xs+1) 0 a w (by omega) (by omega) SpoilW.refl hstart)) ?_)
    rintro e a' w' ⟨rfl,h4,h5⟩;simp only[Exit.inBlock,if_true];exact ⟨rfl,h4,h5⟩
theorem RR (hT:vL P tb) (hsp:∀ f ps,sp f=some ps->wE P f ps) {B:Nat} {v0:Value} {i0:Int} {n:Nat} {d:List Deferred} {W:Nat->Prop} {a0:Act}:(c:Code)->(∀ x,x∈uO c->W x)->∀{τ τ':Nat->KT} {a:Act} {w:World},B<=w.heap.size ->
  SNow n d B v0 i0 W a0 τ a w->tyC tb sp n c τ=some τ'->c.wp P (Mu n d B v0 i0 W a0 τ' w) a w:=by
 intro c
 induction c with
 | skip =>
  intro hW τ τ' a w hBw hn ht;injection ht with ht;subst ht;exact wp_skip ⟨rfl,SpoilW.refl,hn⟩
 | region id ops draw =>
  intro hW τ τ' a w hBw hn ht;cases draw with
  | true=>cases ht
  | false=>exact XF hT hsp (inb:=false) (fun h=>by cases h) hW hBw hn ht
 | seq c1 c2 ih1 ih2 =>
  intro hW τ τ' a w hBw hn ht;obtain⟨τ1,h1,h2⟩:=ag.1 ht;refine wp_seq (wp_mono (ih1 (fun x hx=>hW x (bk _ hx)) hBw hn h1) ?_);rintro e a1 w1 ⟨rfl,hs1,hn1⟩;refine wp_mono (ih2 (fun x hx=>hW x (bf _ hx)) (aF hBw hs1.size) hn1 h2) ?_;rintro e a2 w2 ⟨rfl,hs2,hn2⟩;exact ⟨rfl,hs1.trans hs2,hn2⟩
 | block b c ih =>
  intro hW τ τ' a w hBw hn ht;unfold tyC at ht;split at ht
  all_goals first | (rename_i heq; cases heq; done) | skip
  ·rename_i b1 id1 hdr c1 b2 body id2 post heq;injection heq with e1 e2;subst e1; subst e2;cases hb:aw b b2 with
   | false=>rw[hb] at ht; cases ht
   | true =>
    rw[hb,cond_true] at ht;have:=aj hb;subst this;exact Ew hT hsp hW hBw hn ht
  ·cases ht
 | _=>intro hW τ τ' a w hBw hn ht; cases ht
def zdC (ps:List KT):Nat->KT:=fun t=>(ps[t]?).getD .any
theorem KVs.get {c:Mem} {A:Reg} {v0:Value} {i0:Int}:(ps:List KT)->{vs:List Value}->KVs c A v0 i0 ps vs->vs.length=ps.length∧∀(t:Nat) (k:KT),ps[t]? = some k->∃ v,vs[t]? = some v∧KV c A v0 i0 k v
 | [],vs,h=>by
  have h:vs=[]:=h;subst h;exact ⟨rfl,fun t k ht=>by simp at ht⟩
 | p::ps,vs,h=>by
  obtain⟨v,us,rfl,h1,h2⟩:=h;obtain⟨h3,h4⟩:=KVs.get ps h2;refine ⟨by simp [h3],fun t k ht => ?_⟩
  cases t with
  | zero=>injection ht with ht; subst ht; exact ⟨v,rfl,h1⟩
  | succ t=>exact h4 t k (by simpa using ht)
theorem Od {f:FuncId} {fn:Func} {code:Code} {ps:List KT} (hT:vL P tb) (hsp:∀ f ps,sp f=some ps->wE P f ps) (hfn:P.funcs[f]? = some fn) (hnm:(fn.name == "runtime.NumGoroutine")=false) (hb:fn.body=some code) (hr:fn.results = #[])
  (hlen:bN ps.length fn.ntmps=true) (hc:(tyC tb sp fn.ntmps code (zdC ps)).isSome=true):wE P f ps:=by
 intro B w vs v0 i0 hBw hvs;obtain⟨τ',hτ⟩:=cd.1 hc;obtain⟨hl,hget⟩:=KVs.get ps hvs;have hl:vs.size=ps.length:=by rw[← hl,aG]
 have hle:vs.size<=fn.ntmps:=by rw[hl]; exact br hlen
 have hnow:SNow fn.ntmps [] B v0 i0 (fun _=>True) { tmps:=vs++cP (fn.ntmps - vs.size) undef,defers:=[] } (zdC ps) { tmps:=vs++cP (fn.ntmps - vs.size) undef,defers:=[] } w:=by
  refine ⟨fun t => ?_,by simp; omega,rfl,fun _ h=>absurd trivial h⟩
  unfold zdC;cases hp:ps[t]? with
  | none=>trivial
  | some k =>
   obtain⟨v,hv,hk⟩:=hget t k hp;have ht:t<vs.size:=by rw[hl]; exact (aq.1 hp).1
   have:(vs++cP (fn.ntmps - vs.size) undef).getD t undef=v:=by
    rw[aQ,Array.getElem?_append_left ht,← aB,hv];rfl
   show KV _ _ _ _ k ((vs++cP (fn.ntmps - vs.size) undef).getD t undef);rw[this];exact hk
 have hwp:=RR hT hsp code (fun _ _=>trivial) hBw hnow hτ;have hcalls:=calls_of_wp (R:=fun e w'=>∃ v,e = .returned v∧SpoilW B w w') hfn hb (args:=vs) (w:=w) (wp_mono hwp ?_)
 ·unfold Does;rw[sB hfn hnm hb];exact hcalls
 ·rintro e a' w' ⟨rfl,h1,h2⟩;refine ⟨h2.d,?_⟩;have hres:∃ v,(results fn a'.tmps).run P w' = .ok v w':=by
   unfold results;rw[hr];exact ⟨.tuple #[],by simp⟩
  obtain⟨v,hv⟩:=hres;exact ⟨v,hv,v,rfl,h1⟩
end
section
variable {R:Type}
def ZE:List Code->Code->Code
 | [],r=>r
 | c::l,r=>.seq c (ZE l r)
def Wz (l:List Code):List Nat:=l.flatMap uO
def EL (V:Env):List (Code×AC)->St->(XE->St->Option R)->Option R
 | [],st,κ=>κ .normal st
 | p::l,st,κ=>E V p.1 p.2 st fun e st'=>match e with
  | .normal=>EL V l st' κ
  | e=>κ e st'
theorem DA {P:Program} {X:Fx} {V:Env} (hV:VOk P X V) (hn:∀ f c,V.Γ f=some c->c.nat) (hd:P.follows .mixedOrders=true) {rest:Code} {Q:Exit->Act->World->Prop} {κ:XE->St->Option R} {x:R} {d:List Deferred}:(l:List (Code×AC))->(∀ p,p∈l->j6 P X V p.1 p.2) ->
  ∀(st:St) (a:Act) (w:World) (g:Gh) (U:Nat->Prop),EL V l st κ=some x->Now X V d x5 st a w g U ->
  (∀ st' a' w' g' U',κ .normal st'=some x->Now X V d x5 st' a' w' g' U'->Since (· ∈ Wz (l.map (·.1))) w g st.H U a w' g' st'.H U' a'->rest.wp P Q a' w') ->
  (∀ e xe st' a' w' g' U',e ≠ .normal->tc e xe->κ xe st'=some x->Now X V d x5 st' a' w' g' U'->Since (· ∈ Wz (l.map (·.1))) w g st.H U a w' g' st'.H U' a'->Q e a' w') ->
  (ZE (l.map (·.1)) rest).wp P Q a w
 | [],_,st,a,w,g,U,h,hw,h1,_=>h1 st a w g U h hw Since.refl
 | (c,ac)::l,hac,st,a,w,g,U,h,hw,h1,h2=>by
  have h:E V c ac st (fun e st'=>match e with
   | .normal=>EL V l st' κ
   | e=>κ e st')=some x:=h
  show (gG c (ZE (l.map (·.1)) rest)).wp P Q a w;refine wp_seq (wp_mono (QJ hV hn hd c ac (hac (c,ac) (by simp)) st _ x h d a w g U hw) ?_)
  rintro e a1 w1 ⟨xe,st1,g1,U1,he,hk,hn1,hs1⟩;have hs1':Since (· ∈ Wz (c::l.map (·.1))) w g st.H U a w1 g1 st1.H U1 a1:=hs1.wide fun t ht=>bk _ ht;by_cases hnorm:e = .normal
  ·subst hnorm;cases xe with
   | normal =>
    show (ZE (l.map (·.1)) rest).wp P Q a1 w1;refine DA hV hn hd l (fun p hp=>hac p (by simp [hp])) st1 a1 w1 g1 U1 hk hn1 (fun st' a' w' g' U' hk' hn' hs' => ?_) fun e xe st' a' w' g' U' hne he' hk' hn' hs' => ?_
    ·exact h1 st' a' w' g' U' hk' hn' (hs1'.trans (hs'.wide fun t ht=>bf _ ht))
    ·exact h2 e xe st' a' w' g' U' hne he' hk' hn' (hs1'.trans (hs'.wide fun t ht=>bf _ ht))
   | exit i=>exact he.elim
   | goto i=>exact he.elim
   | ret=>exact he.elim
  ·have hk':κ xe st1=some x:=by
    cases e<;>cases xe<;>simp only[tc] at he<;>first | exact hk | exact absurd rfl hnorm
   have:=h2 e xe st1 a1 w1 g1 U1 hnorm he hk' hn1 hs1';cases e<;>first | exact this | exact absurd rfl hnorm
def zdy (tb:Tb) (sp:FuncId->Option (List KT)) (n:Nat):List Code->(Nat->KT)->Option (Nat->KT)
 | [],τ=>some τ
 | c::l,τ=>(tyC tb sp n c τ).bind fun τ=>zdy tb sp n l τ
theorem FM {P:Program} {tb:Tb} {sp:FuncId->Option (List KT)} (hT:vL P tb) (hsp:∀ f ps,sp f=some ps->wE P f ps) {B:Nat} {v0:Value} {i0:Int} {n:Nat} {d:List Deferred} {W:Nat->Prop} {a0:Act} {rest:Code} {Q:Exit->Act->World->Prop}:(l:List Code) ->
  (∀ x,x∈Wz l->W x)->∀{τ τ':Nat->KT} {a:Act} {w:World},B<=w.heap.size->SNow n d B v0 i0 W a0 τ a w->zdy tb sp n l τ=some τ'->(∀ a' w',SpoilW B w w'->SNow n d B v0 i0 W a0 τ' a' w'->rest.wp P Q a' w')->(ZE l rest).wp P Q a w
 | [],_,τ,τ',a,w,_,hn,ht,hQ=>by
  injection ht with ht;subst ht;exact hQ a w SpoilW.refl hn
 | c::l,hW,τ,τ',a,w,hBw,hn,ht,hQ=>by
  obtain⟨τ1,h1,h2⟩:=ag.1 ht;show (gG c (ZE l rest)).wp P Q a w;refine wp_seq (wp_mono (RR hT hsp c (fun x hx=>hW x (bk _ hx)) hBw hn h1) ?_);rintro e a1 w1 ⟨rfl,hs1,hn1⟩;show (ZE l rest).wp P Q a1 w1;exact FM hT hsp l (fun x hx=>hW x (bf _ hx)) (aF hBw hs1.size) hn1 h2 fun a' w' hs' hn'=>hQ a' w' (hs1.trans hs') hn'
def zct (H:Nat->Blk) (fz:Nat) (t:Ty) (a:AV):Bool:=t.flat && !a.isAr&&(match xI H fz t a with
 | some p=>bN 2 p.1
 | none=>false)
def rawL (H:Nat->Blk) (fz:Nat):List Ty->List AV->Bool
 | [],[]=>true
 | t::l,a::r=>zct H fz t a&&rawL H fz l r
 | _,_=>false
def zaF (H:Nat->Blk) (Z:Nat->Bool) (fz:Nat):KT->AV->Bool
 | .one t,a=>zct H fz t a
 | .agg l,.agg cs=>rawL H fz l cs
 | .rp ts f,.ptr b o=>cond (aw o f && !(Z b)) (match H b with
  | .cells cs=>rawL H fz (V2 ts) cs
  | _=>false) false
 | _,_=>false
section
variable {X:Fx} {g:Gh} {H:Nat->Blk} {Z:Nat->Bool} {U:Nat->Prop} {w:World} {fz:Nat} {B:Nat}
theorem Rp (hm:MemOk X g H Z U w) (hB:X.D=B∧∀ b,X.N b->B<=b) (hO:∀ r,¬ X.O r) {b r:Nat} (hb:H b ≠ .dead) (hl:g.loc b=some r) (hz:¬(Z b=true∧(H b).isCells=true)):B<=r:=by
 rcases hm.own b r hb hl with h | h | h
 ·rw[← hB.1]; exact h
 ·exact absurd h (hO r)
 ·exact absurd h hz
theorem FK (hm:MemOk X g H Z U w) (hB:X.D=B∧∀ b,X.N b->B<=b) (hO:∀ r,¬ X.O r) {t:Ty} {a:AV} {v:Value} (h:zct H fz t a=true) (hr:RAV (mem w) g H U a v):∃ x,RE (mem w) (free B w) t x v:=by
 unfold zct at h;simp only[ap] at h;obtain⟨⟨hf,-⟩,h⟩:=h;split at h
 ·rename_i p hp;obtain⟨k,x⟩:=p;have hk:=br h;have hfree:∀ q,Le q k->∀ b o,g.S q b o->free B w b o:=fun q hq b o hs=>by
   have h2:2<=q:=by
    unfold Le at hq;have hk:2<=k:=hk;omega
   have hs2:=hm.up2 q b o h2 hs;have hb:=hm.fr b o hs2;exact ⟨hB.2 b hb,hm.acc q b o hs,hm.nf b o (hm.up0 q b o hs) (.inl hb)⟩
  have:=Zu (free B w) hp (fun b=>.inr rfl) hm.blk hr hfree ⟨fun b _ q ts xs r hH hl o ho=>by
   have hlive:H b ≠ .dead:=by rw[hH]; simp
   have hge:=Rp hm hB hO hlive hl (fun hc=>by rw[hH] at hc; cases hc.2)
   refine ⟨hge,?_,hm.blkFrz hlive hl o⟩;have hb:=hm.blk b;rw[hH] at hb;simp only[RBlk] at hb;rcases hb with ⟨h1,-⟩ | ⟨r',c,e,h1,h2,h3,-⟩
   ·rw[hl] at h1; cases h1
   ·rw[hl] at h1; injection h1 with h1; subst h1;rw[zo h2,aP (by omega)]; rfl⟩
  exact ⟨x,(RVal.flat hf).1 this⟩
 ·cases h
theorem IE (hm:MemOk X g H Z U w) (hB:X.D=B∧∀ b,X.N b->B<=b) (hO:∀ r,¬ X.O r):(l:List Ty)->(cs:List AV)->{vs:List Value}->rawL H fz l cs=true->RF (mem w) g H U cs vs->RawL (mem w) (free B w) l vs
 | [],[],vs,_,h=>h
 | [],_::_,_,h,_=>by cases h
 | _::_,[],_,h,_=>by cases h
 | t::l,a::r,vs,h,hr=>by
  simp only[rawL,ap] at h;obtain⟨v,us,ws,rfl,h1,h2,h3⟩:=hr;have har:a.isAr=false:=by
   have:=h.1;unfold zct at this;simp only[ap,bW] at this;exact this.1.2
  rw[har,cond_false] at h2;subst h2;exact ⟨v,ws,rfl,FK hm hB hO h.1 h1,IE hm hB hO l r h.2 h3⟩
theorem Ep {c:Mem} {A:Reg}:(ts:Tys)->{vs:List Value}->{b o:Nat}->RawL c A (V2 ts) vs->(∀(j:Nat) (v:Value),vs[j]? = some v->A b (o+j)∧c b (o+j)=some v)->∃ x,RC c A A ts x b o
 | .one t,vs,b,o,hr,hc=>by
  obtain⟨v,us,rfl,⟨x,hx⟩,-⟩:=hr;obtain⟨h1,h2⟩:=hc 0 v rfl;refine ⟨x,?_⟩;simp only[RC];exact ⟨h1,v,h2,hx⟩
 | .cons t ts,vs,b,o,hr,hc=>by
  obtain⟨v,us,rfl,⟨x,hx⟩,hr⟩:=hr;obtain⟨y,hy⟩:=Ep ts (b:=b) (o:=o+1) hr (fun j v hv=>by rw[bz,cH 1 j]; exact hc (j+1) v (by simpa using hv))
  obtain⟨h2,h3⟩:=hc 0 v rfl;refine ⟨(x,y),?_⟩;simp only[RC];exact ⟨⟨h2,v,h3,hx⟩,hy⟩
theorem Td (hm:MemOk X g H Z U w) (hB:X.D=B∧∀ b,X.N b->B<=b) (hO:∀ r,¬ X.O r) {k:KT} {a:AV} {v:Value} (h:zaF H Z fz k a=true) (hr:RAV (mem w) g H U a v) {v0:Value} {i0:Int} :
  KV (mem w) (free B w) v0 i0 k v:=by
 unfold zaF at h;split at h
 ·exact FK hm hB hO h hr
 ·obtain⟨vs,rfl,hl⟩:=hr;exact ⟨vs,rfl,IE hm hB hO _ _ h hl⟩
 ·rename_i ts f b o;cases ho:aw o f && !(Z b) with
  | false=>rw[ho] at h; cases h
  | true =>
   rw[ho,cond_true] at h;simp only[ap,bW] at ho;have:=aj ho.1;subst this;split at h
   ·rename_i cs hcs;simp only[RAV,hcs,RPtr] at hr;obtain⟨-,-,r,hl,rfl⟩:=hr;have hb:=hm.blk b;rw[hcs] at hb;simp only[RBlk] at hb;obtain⟨r',c,e,hl',hw,hrf⟩:=hb;rw[hl] at hl'; injection hl' with hl'; subst hl';have hlive:H b ≠ .dead:=by rw[hcs]; simp
    have hge:=Rp hm hB hO hlive hl (fun hc=>by rw[ho.2] at hc; cases hc.1)
    obtain⟨x,hx⟩:=Ep ts (b:=r) (o:=0) (IE hm hB hO _ _ h hrf) fun j v hv=>by
     have h1:mem w r (0+j)=some v:=by
      rw[zo hw,aL,← aB];exact hv
     exact ⟨⟨hge,by rw[h1]; rfl,hm.blkFrz hlive hl _⟩,h1⟩
    exact ⟨r,0,by rw[aL],x,hx⟩
   ·cases h
 ·cases h
end
def exT (ex:List (Nat×KT)):Nat->KT:=fun t=>match ex.find? fun p=>aw p.1 t with
 | some p=>p.2
 | none=>.any
def spU (V:Env) (cs:List (Code×AC)) (W1 W2:List Nat) (ex:List (Nat×KT)) (rest:Code) (ac:AC):Un :=
 ⟨fun st κ=>EL V cs (Ub st) fun e st1=>match e with
  | .normal=>cond (ex.all fun p=>zaF st1.H st1.Z V.fz p.2 (st1.φ p.1)) (E V rest ac (WC W1 W2 st st1) κ) none
  | e=>κ e (WC W1 W2 st st1)⟩
theorem rC:(l:List Code)->(rest:Code)->uO (ZE l rest)=Wz l++uO rest
 | [],rest=>by simp [ZE,Wz]
 | c::l,rest=>by
  show uO c++uO (ZE l rest)=_;rw[rC l rest];simp [Wz]
theorem zdf {c:Mem} {A:Reg} {v0:Value} {i0:Int} {ex:List (Nat×KT)} {tm:Nat->Value} (h:∀ p,p∈ex->KV c A v0 i0 p.2 (tm p.1)) (t:Nat):KV c A v0 i0 (exT ex t) (tm t):=by
 unfold exT;split
 ·rename_i p hp;have h1:=List.mem_of_find?_eq_some hp;have h2:=List.find?_some hp;have:=aj h2;rw[← this];exact h p h1
 ·trivial
theorem zed {P:Program} {V:Env} (hA:VAll P V) (zk:P.follows .mixedOrders=true) {sp:FuncId->Option (List KT)} (hsp:∀ f ps,sp f=some ps->wE P f ps) {cs:List (Code×AC)} {W1 W2:List Nat} {ex:List (Nat×KT)} {sps:List Code} {rest:Code} {ac:AC}
  (hac:∀ X:Fx,VOk P X V->∀ p,p∈cs->j6 P X V p.1 p.2) (hac2:∀ X:Fx,VOk P X V->j6 P X V rest ac) (h1:Wz (cs.map (·.1))=W1) (h2:Wz sps=W2) (hty:(zdy V.tb sp V.n sps (exT ex)).isSome=true)
  {X:Fx} (hX:VOk P X V):A0 P X V (ZE (cs.map (·.1)) (ZE sps rest)) (spU V cs W1 W2 ex rest ac):=by
 intro R st κ x h d a w g U hn;have hsub:=hn.sub;have hV':VOk P (X.sub w) V:=hA.ok (X:=X.sub w) (show X.gl=V.gl from hX.gl.symm) (fun _ r hr=>hr.elim)
 have hwide:∀ t,t∈W1++W2->t∈uO (ZE (cs.map (·.1)) (ZE sps rest)):=fun t ht=>by
  rw[rC,rC,h1,h2,← bn];exact bk _ ht
 have rows:∀{st1:St} {a1:Act} {w1:World} {g1:Gh} {U1:Nat->Prop},Now (X.sub w) V d x5 st1 a1 w1 g1 U1->(∀ j,j<w.heap.size->w1.heap[j]? = w.heap[j]?)∧w.heap.size<=w1.heap.size∧w1.os=w.os∧w1.tape=w.tape∧w1.output=w.output:=fun h =>
  ⟨fun j hj=>h.mem.keep j hj,h.mem.size,h.mem.os,h.mem.tape,h.mem.output⟩
 refine DA hV' hA.nat zk cs (hac _ hV') (Ub st) a w (KP w) (fun _=>False) (κ:=fun e st1=>match e with
  | .normal=>cond (ex.all fun p=>zaF st1.H st1.Z V.fz p.2 (st1.φ p.1)) (E V rest ac (WC W1 W2 st st1) κ) none
  | e=>κ e (WC W1 W2 st st1)) h hsub (fun st1 a1 w1 g1 U1 hk hn1 hs1 => ?_) fun e xe st1 a1 w1 g1 U1 hne he hk hn1 hs1 => ?_
 ·cases hall:ex.all fun p=>zaF st1.H st1.Z V.fz p.2 (st1.φ p.1) with
  | false=>simp only[hall] at hk; cases hk
  | true =>
   simp only[hall,cond_true] at hk;obtain⟨hr1,hr2,hr3,hr4,hr5⟩:=rows hn1;obtain⟨τ',hτ⟩:=cd.1 hty;rw[aK] at hall;have hsn:SNow V.n d w.heap.size undef 0 (· ∈ W2) a1 (exT ex) a1 w1:=by
    refine ⟨fun t=>zdf (tm:=fun t=>a1.tmps.getD t undef) (fun p hp => ?_) t,hn1.n,hn1.d,fun _ _=>rfl⟩;exact Td (X:=X.sub w) (B:=w.heap.size) hn1.mem ⟨rfl,fun _ h=>h⟩ (fun r hr=>hr) (hall p hp) (hn1.fr p.1)
   refine FM hA.tb hsp sps (fun t ht=>h2▸ht) hr2 hsn hτ fun a2 w2 hs2 hn2 => ?_;obtain⟨hb,hsi⟩:=hn.back (W1:=W1) (W2:=W2) hn1 (hn2.n.trans hn1.n.symm) (hn2.d.trans hn1.d.symm) (fun t ht=>hs1.tmps t (by rw[h1]; exact ht)) hn2.keep (fun j hj=>(hs2.rows j hj).trans (hr1 j hj)) (aF hr2 hs2.size) (hs2.os.trans hr3) (hs2.tape.trans hr4) (hs2.output.trans hr5)
   refine wp_mono (QJ hX hA.nat zk rest ac (hac2 X hX) _ κ x hk d a2 w2 g U hb) ?_;rintro e a3 w3 ⟨xe,st3,g3,U3,he,hk3,hn3,hs3⟩;refine ⟨xe,st3,g3,U3,he,hk3,hn3,(hsi.wide hwide).trans (hs3.wide fun t ht => ?_)⟩;rw[rC,rC];exact bf _ (bf _ ht)
 ·obtain⟨hr1,hr2,hr3,hr4,hr5⟩:=rows hn1;have hk:κ xe (WC W1 W2 st st1)=some x:=by
   cases xe with
   | normal=>cases e<;>first | exact absurd rfl hne | exact he.elim
   | exit i=>exact hk
   | goto i=>exact hk
   | ret=>exact hk
  obtain⟨hb,hsi⟩:=hn.back (W1:=W1) (W2:=W2) (a2:=a1) hn1 rfl rfl (fun t ht=>hs1.tmps t (by rw[h1]; exact ht)) (fun _ _=>rfl) hr1 hr2 hr3 hr4 hr5
  exact ⟨xe,_,g,U,he,hk,hb,hsi.wide hwide⟩
end
section
def zdo:List (Nat×List KT)->FuncId->Option (List KT)
 | [],_=>none
 | p::l,f=>cond (aw f p.1) (some p.2) (zdo l f)
theorem Kl:{l:List (Nat×List KT)}->{f:FuncId}->{ps:List KT}->zdo l f=some ps->(f,ps)∈l
 | [],f,c,h=>by cases h
 | p::l,f,c,h=>by
  unfold zdo at h;cases hb:aw f p.1 with
  | true =>
   rw[hb] at h;injection h with h;rw[aj hb,← h];simp
  | false =>
   rw[hb] at h;exact ai _ (Kl h)
def Cq (P:Program) (l:List (Nat×List KT)):Prop:=∀ p,p∈l->wE P p.1 p.2
theorem Qx {P:Program}:Cq P []:=fun p hp=>by cases hp
theorem rL {P:Program} {f:Nat} {ps:List KT} {l:List (Nat×List KT)} (h:wE P f ps) (hl:Cq P l):Cq P ((f,ps)::l):=fun p hp=>by
 rcases aI.1 hp with rfl | hp
 ·exact h
 ·exact hl p hp
variable {P:Program}
theorem jP {tb:Tb} {l:List (Nat×List KT)} {f:FuncId} {fn:Func} {code:Code} {ps:List KT} (hT:vL P tb) (hl:Cq P l) (hfn:P.funcs[f]? = some fn) (hnm:(fn.name == "runtime.NumGoroutine")=false) (hb:fn.body=some code) (hr:fn.results = #[])
  (hlen:bN ps.length fn.ntmps=true) (hc:(tyC tb (zdo l) fn.ntmps code (zdC ps)).isSome=true):wE P f ps :=
 Od hT (fun _ _ h=>hl _ (Kl h)) hfn hnm hb hr hlen hc
def Ng (P:Program) (X:Fx) (V:Env) (cs:List (Code×AC)):Prop:=∀ p,p∈cs->j6 P X V p.1 p.2
theorem T0 {X:Fx} {V:Env}:Ng P X V []:=fun p hp=>by cases hp
theorem YV {X:Fx} {V:Env} {c:Code} {ac:AC} {ob:List (Code×Un)} {cs:List (Code×AC)} (ho:obl c ac=ob) (h:Obl P X V ob) (hl:Ng P X V cs):Ng P X V ((c,ac)::cs):=fun p hp=>by
 rcases aI.1 hp with rfl | hp
 ·exact j7 c ac (ho▸h)
 ·exact hl p hp
theorem zes {V:Env} (hA:VAll P V) (zk:P.follows .mixedOrders=true) {l:List (Nat×List KT)} (hl:Cq P l) {c:Code} {cs:List (Code×AC)} {W1 W2:List Nat} {ex:List (Nat×KT)} {sps:List Code} {rest:Code} {ac:AC} {ob:List (Code×Un)}
  (hc:ZE (cs.map (·.1)) (ZE sps rest)=c) (hac:∀ X:Fx,VOk P X V->Ng P X V cs) (ho:obl rest ac=ob) (hac2:∀ X:Fx,VOk P X V->Obl P X V ob) (h1:Wz (cs.map (·.1))=W1) (h2:Wz sps=W2) (hty:(zdy V.tb (zdo l) V.n sps (exT ex)).isSome=true)
  {X:Fx} (hX:VOk P X V):A0 P X V c (spU V cs W1 W2 ex rest ac) :=
 hc▸zed hA zk (fun _ _ h=>hl _ (Kl h)) hac (fun X hX=>j7 rest ac (ho▸hac2 X hX)) h1 h2 hty hX
end
end Go.Abs
