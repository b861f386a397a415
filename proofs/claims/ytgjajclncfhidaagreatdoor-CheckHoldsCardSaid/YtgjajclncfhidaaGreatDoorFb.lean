import Derived.Deep.Upon
import Derived.Test.YtgjajclncfhidaaGreatDoorFa
/-
  A reading of Go code as pure functions: what the operations, rounds and calls of a text make, with proofs.
-/
open Array renaming ext' -> ek, getD_eq_getD_getElem? -> bg, getElem?_append_left -> cR, getElem?_eq_getElem -> bi, getElem?_eq_some_iff -> bJ, getElem?_toList -> aV, length_toList -> aO, mem_of_getElem? -> fJ, replicate -> eO, size_append -> dQ, size_map -> fO, size_range -> ft
open Bool renaming and_eq_true -> ay, false_eq_true -> eh, not_eq_true -> fj, not_eq_true' -> cp, or_assoc -> gS, or_comm -> fB, or_eq_false_iff -> da, or_eq_true -> b9, or_false -> eF
open Classical renaming byContradiction -> eY
open Decidable renaming by_contra -> ip
open Go.Act renaming put -> iI
open Go.Addr renaming add_lit -> dF, add_zero' -> fN
open Go.Builtin renaming append_ -> ce, cap_ -> iH, clear_ -> dR, firstCells -> dG, max2 -> iG, max_ -> gZ, min_ -> iF, nextslicecap -> fP, zeroCells -> br
open Go.Deferred renaming ofValue -> iy
open Go.Instr renaming box -> ix
open Go.IntKind renaming bits -> cS, signed -> eV, wrap -> ag
open Go.Op renaming operands -> eH
open Go.Oper renaming looksAt -> g9
open Go.Operand renaming tmp -> iJ
open Go.Question renaming forced -> iz
open Go.Region renaming before -> fh, binds -> dq, ready -> fC, wanted -> gR
open Go.Result renaming andThen_ok -> b7
open Go.Sem renaming run_bind -> cF, run_pure -> cG
open Go.Value renaming int -> dl
open Iff renaming rfl -> fv
open Int renaming toNat -> bc, toNat_zero -> eu
open List renaming all_eq_true -> aD, any_eq_false -> cz, append_assoc -> aW, append_inj -> eN, append_nil -> bO, cons_append -> dZ, eq_nil_of_length_eq_zero -> ba, ext_getElem? -> db, getD -> gn, getD_eq_getElem?_getD -> aE, getElem?_append_left -> bP, getElem?_append_right -> bI, getElem?_drop -> bu, getElem?_eq_getElem -> al, getElem?_eq_none -> aQ, getElem?_eq_some_iff -> aw, getElem?_map -> bh, getElem?_toArray -> bR, getElem_cons_drop -> fA, head?_drop -> gD, isEmpty -> dU, length -> af, length_append -> am, length_cons -> ak, length_drop -> bq, length_replicate -> ck, mapM_cons -> gN, map_cons -> aK, mem_append -> aI, mem_append_left -> bk, mem_append_right -> bp, mem_cons -> aG, mem_filterMap -> f6, mem_flatMap -> cY, mem_map -> aR, mem_of_getElem? -> aJ, mem_range -> bZ, mem_singleton -> bb, mem_zipIdx_iff_getElem? -> eM, nodup_cons -> dL, pairwise_append -> dr, pairwise_cons -> cA, prefix_rfl -> de, range -> aL, range' -> ik, range'_succ -> gp, range_eq_range' -> eI, rel_of_pairwise_cons -> eX, replicate -> ax, size_toArray -> bn, tail_drop -> gM, toList_toArray -> fT
open Nat renaming add_mul -> bf, add_zero -> dk, beq -> aA, beq_refl -> cM, ble -> ci, ble_eq_true_of_le -> cI, blt -> dC, eq_of_beq_eq_true -> au, le_mul_of_pos_right -> dv, le_of_ble_eq_true -> bV, le_refl -> aC, le_trans -> aT, lt_irrefl -> gT, lt_of_lt_of_le -> dm, lt_or_ge -> bG, lt_trans -> hJ, mul_le_mul_right -> aS, one_mul -> cj, sub_zero -> eQ, zero_add -> aP, zero_mul -> dV
open Ne renaming symm -> dD
open Option renaming bind_eq_some_iff -> ah, bind_some -> aa, getD_none -> cZ, getD_some -> bj, isSome_iff_exists -> cK, map_some -> bD
open Option.some renaming injEq -> aq
open Prod.mk renaming injEq -> aM
open Sum renaming inl -> aU, inr -> aH
namespace Go.Abs
section
variable {R:Type}
theorem ke {α:Type} {o:Option α} {q k:Nat} {z:α} (h:(o.bind fun y=>some (q,y))=some (k,z)):o=some z∧k=q:=by
 cases o with
 | none=>cases h
 | some a=>injection h with h; injection h with h1 h2; subst h1; subst h2; exact ⟨rfl,rfl⟩
theorem zb1 {X:Fx} {w:World} {g:Gh} {H hv:Nat->Blk} {Z:Nat->Bool} {U:Nat->Prop} (hm:MemOk X g H Z U w) (hh:∀ b,hv b = .dead∨hv b=H b) {fz k k':Nat} {ts:Tys} {a:AV} {ys:List (Tup ts)} {v:Value}
  (h:V7 hv fz ts a=some (k,ys)) (hr:RAV (mem w) g H U a v) (hk:Le k k') :
  ∃ ad c cells,v = .slice ad ys.length c∧SV (mem w) (g.S k') ts ys cells∧(cells≠[]->∃ b o,ad=some ⟨b,o,none⟩∧∀ j u,cells[j]? = some u->mem w b (o+j)=some u):=by
 have sub:∀{q:Nat},Le q k->∀ b o,g.S q b o->g.S k' b o∧mem w b o=mem w b o:=fun hq b o hs=>⟨hm.le (hq.trans hk) hs,rfl⟩;have ofRE:∀{q:Nat} {zs:List (Tup ts)},Le q k->RE (mem w) (g.S q) (.sl ts) zs v->∃ ad c cells,v = .slice ad zs.length c∧SV (mem w) (g.S k') ts zs cells∧(cells≠[]->∃ b o,ad=some ⟨b,o,none⟩∧∀ j u,cells[j]? = some u->mem w b (o+j)=some u):=by
  intro q zs hq hre;simp only[RE] at hre;obtain⟨ad,c,rfl,-,hx⟩:=hre;rcases hx with hx | ⟨b,o,rfl,hel⟩
  ·have hx':zs=[]:=hx;subst hx';exact ⟨ad,c,[],rfl,SV.nil,fun h=>absurd rfl h⟩
  ·obtain⟨cs,h1,h2⟩:=Z1 hel;exact ⟨_,c,cs,rfl,h1.mono (sub hq),fun _=>⟨b,o,rfl,h2⟩⟩
 unfold V7 at h;cases a with
 | val q u y =>
  cases u with
  | sl us =>
   simp only[vz] at h;simp only[RAV,RVal] at hr;obtain⟨hkq,hre⟩:=Q6 h hr;exact ofRE (hkq▸Le.refl _) (hkq▸hre)
  | ns us =>
   have hq:k=q:=(ke (o:=W4 us ts (Option.getD y [])) h).2;subst hq;exact ofRE (Le.refl _) (WV (g.S k) h hh hm.blk hr (fun q' hq' b o hs=>hm.le hq' hs) ⟨fun b hb=>by cases hb⟩)
  | int _ =>
   have h':((Zz (.int _) (.sl ts) y).bind fun z=>some (2,z))=some (k,ys):=h;obtain⟨hy,-⟩:=ke h';obtain⟨e,_⟩:=yM hy;cases e
  | bool =>
   have h':((Zz .bool (.sl ts) y).bind fun z=>some (2,z))=some (k,ys):=h;obtain⟨hy,-⟩:=ke h';obtain⟨e,_⟩:=yM hy;cases e
  | str =>
   have h':((Zz .str (.sl ts) y).bind fun z=>some (2,z))=some (k,ys):=h;obtain⟨hy,-⟩:=ke h';obtain⟨e,_⟩:=yM hy;cases e
  | cx =>
   have h':((Zz .cx (.sl ts) y).bind fun z=>some (2,z))=some (k,ys):=h;obtain⟨hy,-⟩:=ke h';obtain⟨e,_⟩:=yM hy;cases e
  | fl =>
   have h':((Zz .fl (.sl ts) y).bind fun z=>some (2,z))=some (k,ys):=h;obtain⟨hy,-⟩:=ke h';obtain⟨e,_⟩:=yM hy;cases e
  | ar us n =>
   have h':((Zz (.ar us n) (.sl ts) y).bind fun z=>some (q,z))=some (k,ys):=h;obtain⟨hy,-⟩:=ke h';obtain⟨e,_⟩:=yM hy;cases e
 | nilv =>
  simp only[RAV] at hr;subst hr;have h:some (2,([]:List (Tup ts)))=some (k,ys):=h;injection h with h; injection h with _ h;subst h;exact ⟨none,0,[],rfl,SV.nil,fun h=>absurd rfl h⟩
 | view b =>
  simp only[vz] at h;split at h
  ·rename_i q us xs hx;have hx':H b = .seq q us xs:=by rcases hh b with h' | h'<;>rw[hx] at h'; cases h'; exact h'.symm
   have hkq:=Yf h;obtain⟨hy,-⟩:=ke (q:=jn q fz) h;obtain⟨e,rfl⟩:=vp hy;subst e;simp only[RAV,hx',RView] at hr;obtain⟨-,-,ad,c,rfl,hc,hcc⟩:=hr;have hb:=hm.blk b;rw[hx'] at hb;simp only[RBlk] at hb;rcases hb with ⟨-,rfl⟩ | ⟨r,cc,e,hr,hw,hle,hel⟩
   ·exact ⟨ad,c,[],rfl,SV.nil,fun h=>absurd rfl h⟩
   ·obtain⟨cs,h1,h2⟩:=Z1 (r:=r) (o:=0) (by simpa using hel)
    refine ⟨ad,c,cs,rfl,h1.mono (sub (hkq▸Ze q fz)),fun hne => ?_⟩;rcases hcc with rfl | ⟨r',hr',rfl,-⟩
    ·have:cs.length=0:=by
      rw[h1.1];have:xs.length=0:=by omega
      rw[this,dV]
     exact absurd (ba this) hne
    ·rw[hr] at hr'; injection hr' with hr'; subst hr';exact ⟨r,0,rfl,h2⟩
  ·cases h
 | part b o n =>
  simp only[vz] at h;split at h
  ·rename_i q us xs hx;have hx':H b = .seq q us xs:=by rcases hh b with h' | h'<;>rw[hx] at h'; cases h'; exact h'.symm
   have hkq:=Yf h;obtain⟨hy,-⟩:=ke (q:=jn q fz) h;obtain⟨e,rfl⟩:=vp hy;subst e;simp only[RAV,hx',RPart] at hr;obtain⟨-,-,hon,ad,c,rfl,hc,hcc⟩:=hr;have hl:((xs.drop o).take n).length=n:=by simp; omega
   have hb:=hm.blk b;rw[hx'] at hb;simp only[RBlk] at hb;rcases hb with ⟨-,rfl⟩ | ⟨r,cc,e,hr,hw,hle,hel⟩
   ·have:n=0:=by simp at hon; omega
    subst this;exact ⟨ad,c,[],by simp,by simpa using SV.nil,fun h=>absurd rfl h⟩
   ·have hel':Elems ((xs.drop o).take n) fun i x=>RC (mem w) (g.S q) (fun _ _=>True) us x r (o*us.size+i*us.size):=((hel.drop o).take n).imp fun i x _ hx=>by rw[← bf]; exact hx
    obtain⟨cs,h1,h2⟩:=Z1 hel';refine ⟨ad,c,cs,by rw[hl],h1.mono (sub (hkq▸Ze q fz)),fun hne => ?_⟩
    rcases hcc with rfl | ⟨r',hr',rfl,-,-⟩
    ·have:cs.length=0:=by
      rw[h1.1,hl];have:n=0:=by omega
      rw[this,dV]
     exact absurd (ba this) hne
    ·rw[hr] at hr'; injection hr' with hr'; subst hr';exact ⟨r,_,rfl,h2⟩
  ·cases h
 | unk=>simp [vz] at h
 | agg _=>simp [vz] at h
 | tup _=>simp [vz] at h
 | ptr _ _=>simp [vz] at h
 | cptr _ _ _ _ _=>simp [vz] at h
 | sptr _ _ _=>simp [vz] at h
 | eptr _ _ _ _=>simp [vz] at h
 | clo _ _=>simp [vz] at h
theorem Dv {P:Program} {w:World} {size n:Nat} {ad:Option Addr} {c:Nat} {cells:List Value} (hl:cells.length=n*size) (h:cells≠[]->∃ b o,ad=some ⟨b,o,none⟩∧∀(j:Nat) (u:Value),cells[j]? = some u->mem w b (o+j)=some u) :
  (dG size n (.slice ad n c)).run P w = .ok cells.toArray w:=by
 by_cases hne:cells=[]
 ·subst hne;cases ad with
  | none=>simp [dG]
  | some a=>exact run_firstCells_some w size n a n c [] hl (fun j v h=>by simp at h)
 ·obtain⟨b,o,rfl,hc⟩:=h hne;exact run_firstCells_some w size n ⟨b,o,none⟩ n c cells hl (fun j v hj=>by rw[dF]; exact hc j v hj)
theorem CJ {c c':Mem} {A A':Reg}:(ts:Tys)->{vs:List Value}->RV c A ts (qb ts) vs->RV c' A' ts (qb ts) vs
 | .one t,vs,h=>by
  obtain⟨v,rfl,h⟩:=h;refine ⟨v,rfl,?_⟩;cases t with
  | sl ts=>obtain⟨a,cap,h1,h2,-⟩:=h; exact ⟨a,cap,h1,h2,.inl rfl⟩
  | _=>exact h
 | .cons t ts,vs,h=>by
  obtain⟨v,us,rfl,h,h'⟩:=h;refine ⟨v,us,rfl,?_,CJ ts h'⟩;cases t with
  | sl ts=>obtain⟨a,cap,h1,h2,-⟩:=h; exact ⟨a,cap,h1,h2,.inl rfl⟩
  | _=>exact h
theorem Nh {c:Mem} {A:Reg} {ts:Tys} {z:Array Value} (h:RV c A ts (qb ts) z.toList) (hzs:z.size=ts.size) (n:Nat):SV c A ts (ax n (qb ts)) (br z n).toList:=by
 have hp:=ts.size_pos;have hzp:0<z.size:=by omega
 have hzc:(br z n).size=n*ts.size:=by rw[br,fO,ft,hzs]
 refine ⟨by rw[aO,hzc,ck],fun i y hy => ?_⟩
 have hi:i<n:=by
  rcases bG i n with h' | h'
  ·exact h'
  ·rw[aQ (by simpa using h')] at hy; cases hy
 rw[List.getElem?_replicate,if_pos hi] at hy;injection hy with hy;subst hy;have:(((br z n).toList.drop (i*ts.size)).take ts.size)=z.toList:=by
  apply db;intro j;rw[List.getElem?_take];split
  ·rename_i hj;have hlt:i*ts.size+j<n*ts.size:=by
    have:(i+1)*ts.size<=n*ts.size:=aS _ (by omega)
    rw[bf,cj] at this;omega
   rw[bu,aV,← hzs,br];rw[← hzs] at hlt;rw[DC hzp hlt,aV,bi (by omega)]
   congr 2
   rw[Nat.add_comm,Nat.add_mul_mod_self_right,Nat.mod_eq_of_lt (by omega)]
  ·rw[aQ (by rw[aO]; omega)]
 show RV _ _ _ _ (((br z n).toList.drop (i*ts.size)).take ts.size);rw[this];exact h
structure Came0 (w:World) (g:Gh) (H:Nat->Blk) (k:Nat) (ts:Tys) (xs:List (Tup ts)) (n cap:Nat) (ad:Option Addr) (r0:Option Nat):Prop where
 len:xs.length=n
 le:n<=cap∧cap<=9223372036854775807
 cap:cap=0∨∃ r,r0=some r∧ad=some ⟨r,0,none⟩∧∀ j,j<cap*ts.size->(mem w r j).isSome
 row:(r0=none∧xs=[])∨∃ r c e,r0=some r∧w.heap[r]? = some (.cells c e (0,0))∧n*ts.size<=c.size∧Elems xs fun i x=>RC (mem w) (g.S k) (fun _ _=>True) ts x r (i*ts.size)
 there:∀ r,r0=some r->∃ b,H b ≠ .dead∧g.loc b=some r∧(H b).isCells=false
theorem AX {P:Program} {X:Fx} {w:World} {g:Gh} {H H':Nat->Blk} {Z Z':Nat->Bool} {U:Nat->Prop} (hm:MemOk X g H Z U w) {t u ty e:TypeId} {ie:TypeInfo} {z:Value} {ts:Tys}
  (ht:P.underlying t=some (.slice e)) (hi:P.info? e=some ie) (hz:ie.zero=some z) (hzs:z.cells.size=ts.size) (hs:ie.size=ts.size) (hb0:0<ie.bytes) {id:Nat} (hid:∀ i,id<=i->i<id+8->¬ U i)
  {k0 k:Nat} {xs ys:List (Tup ts)} {n cap m:Nat} {ad:Option Addr} {r0:Option Nat} (hc:Came0 w g H k0 ts xs n cap ad r0) (hk:Le k0 k) {sv:Value} {news:List Value} (hsrc:∀ w':World,w'.heap=w.heap->Src P ts.size u sv m news w') (hn:SV (mem w) (g.S k) ts ys news) (hm':m=ys.length)
  (hroom:(n+m)*ie.bytes<=140737488351232)
  (hHi:H' id = .seq k ts (xs++ys)) (hH:∀ b,b≠id->H' b = .dead∨(H' b=H b∧∀ r,r0=some r->H b ≠ .dead->g.loc b≠some r)) (hZ:∀ b,b≠id->Z b=true->Z' b=true)
  (hsep:∀ q r o,r0=some r->g.S q r o->Z' id=true∧o<n*ts.size) :
  ∃ v' w' g',(ce #[t,u] ty #[.slice ad n cap,sv]).run P w = .ok v' w'∧RAV (mem w') g' H' (UI U id) (.view id) v'∧MemOk X g' H' Z' (UI U id) w'∧Mono (mem w) g H U (mem w') g' H' (UI U id):=by
 obtain⟨hlen,⟨hle,hbd⟩,hcap,hrow,hthere⟩:=hc;subst hm';have hts:=ts.size_pos;have hnl:news.length=ys.length*ts.size:=hn.1;have key:=fun (w':World) (l:Option Nat)=>hm.step (w':=w') (id:=id) (i:=id) ⟨aC _,by omega⟩ (hid id (aC _) (by omega)) (H':=H') (Z':=Z') (l:=l) r0
 by_cases h0:ys=[]
 ·subst h0;have:news=[]:=ba (by simpa using hnl)
  subst this;have hrun:=run_append_nothing (P:=P) w t u ty e ie ht hi ad n cap hle sv (by rw[hs]; exact hsrc w rfl)
  obtain⟨h1,h2⟩:=key w r0 rfl rfl rfl (aC _) (fun _ _ _=>rfl) (fun _ _ _ _=>rfl) hH hZ (fun r hr=>.inr hr) hthere (by
   rw[hHi,bO];refine hrow.imp (fun h=>⟨zx _ _ _ |>.trans h.1,h.2⟩) ?_
   rintro⟨r,c,e',h1,h2,h3,h4⟩;refine ⟨r,c,e',(zx _ _ _).trans h1,h2,by rw[hlen]; exact h3,h4.imp fun i x _ hx=>RC.mono (fun b o hb=>⟨hm.le hk hb,rfl⟩) (fun _ _ _=>⟨trivial,rfl⟩) ts x _ _ hx⟩)
   (fun _ _ _ h=>h) (fun q r o hq hl _=>⟨(hsep q r o hl hq).1,_,_,_,hHi,by rw[bO,hlen]; exact (hsep q r o hl hq).2⟩)
   (fun j hj o=>by
    obtain⟨b,h3,h4,-⟩:=hthere j hj;exact hm.blkFrz h3 h4 o)
  refine ⟨_,w,_,hrun,⟨.inr (by omega),rfl,?_⟩,h1,h2⟩
  rw[hHi];refine ⟨ad,cap,by simp [hlen],⟨by simp [hlen]; exact hle,hbd⟩,hcap.imp (fun h=>h) ?_⟩
  rintro⟨r,h3,h4,h5⟩;exact ⟨r,(zx _ _ _).trans h3,h4,h5⟩
 ·have hpos:0<ys.length:=List.length_pos_iff.2 h0;by_cases hin:n+ys.length<=cap
  ·have hcap':∃ r,r0=some r∧ad=some ⟨r,0,none⟩∧∀ j,j<cap*ts.size->(mem w r j).isSome:=by
    rcases hcap with hc | hc
    ·omega
    ·exact hc
   obtain⟨r,hr0,rfl,hthr⟩:=hcap';rcases hrow with ⟨h',-⟩ | ⟨r',cur,e',hr',hw,hfit,hel⟩
   ·rw[h'] at hr0; cases hr0
   rw[hr0] at hr'; injection hr' with hr'; subst hr';have hall:(n+ys.length)*ts.size<=cur.size:=by
    have hle':(n+ys.length)*ts.size<=cap*ts.size:=aS _ hin;have hp:0<(n+ys.length)*ts.size:=Nat.mul_pos (by omega) hts
    have:=hthr ((n+ys.length)*ts.size - 1) (by omega)
    rw[zB hw] at this;have:=(bJ.1 (cK.1 this).choose_spec).1;omega
   rw[bf] at hall;have hrun:(ce #[t,u] ty #[.slice (some ⟨r,0,none⟩) n cap,sv]).run P w = .ok (.slice (some ⟨r,0,none⟩) (n+ys.length) cap) (w.setRow r (zS cur.toList (n*ts.size) news).toArray):=by
    have hS:=hsrc w rfl;have hst:=run_storeCells_at P r (n*ts.size) e' news 0 cur w hw (by rw[dk,bn,hnl]; exact hall) hS.one
    simp only[dk] at hst;have hcells:=hS.cells;rcases hS.kind with ⟨e'',hk⟩ | hk<;>simp [ce,run_underlying ht,run_underlying hk,sizeOf,typeInfo,hi,hS.len,hin,hs,hcells,dF,hst,zS]
   have hspl:n*ts.size+news.length<=cur.toList.length:=by rw[hnl,aO (xs:=cur)]; exact hall
   have hthis:=setRow_heap w r cur (zS cur.toList (n*ts.size) news).toArray e' (0,0) hw;have hsl:(zS cur.toList (n*ts.size) news).length=cur.size:=by rw[z5 hspl,aO]
   have hSm:∀ q b o,g.S q b o->mem (w.setRow r (zS cur.toList (n*ts.size) news).toArray) b o=mem w b o:=fun q b o hq=>by
    by_cases hbr:b=r
    ·subst hbr;have:=(hsep q b o hr0 hq).2;rw[zB hthis,zB hw,bR,yV hspl,if_pos this,aV]
    ·exact zE (setRow_other w r b _ hbr) o
   have hsub:∀ q,Le q k->∀ b o,g.S q b o->g.S k b o∧mem (w.setRow r (zS cur.toList (n*ts.size) news).toArray) b o=mem w b o:=fun q hq b o hb=>⟨hm.le hq hb,hSm q b o hb⟩;obtain⟨h1,h2⟩:=key (w.setRow r (zS cur.toList (n*ts.size) news).toArray) (some r) rfl rfl rfl (by simp) (fun j _ hj=>setRow_other w r j _ (fun e=>hj (by rw[hr0,e]))) hSm hH hZ (fun r' hr'=>.inr (hr0.trans hr')) hthere (by
    rw[hHi];refine .inr ⟨r,_,e',zx _ _ _,hthis,?_,?_⟩
    ·rw[bn,hsl,am,bf,hlen]; exact hall
    ·refine Elems.append (hel.imp fun i x hx' hx=>RC.monoAt (hsub k0 hk) ts x r _ (fun j hj _=>⟨trivial,?_⟩) hx) ?_
     ·have:(i+1)*ts.size<=n*ts.size:=aS _ (by omega)
      rw[bf,cj] at this;rw[zB hthis,zB hw,bR,yV hspl,if_pos (by omega),aV]
     ·have:=SV.elems (c':=mem (w.setRow r (zS cur.toList (n*ts.size) news).toArray)) (T:=fun _ _=>True) (hsub k (Le.refl _)) hn (r:=r) (o:=n*ts.size) (fun _ _=>trivial) (fun j v hv=>by
       have hj:j<news.length:=(aw.1 hv).1;rw[zB hthis,bR,yV hspl,if_neg (by omega),if_pos (by omega),show n*ts.size+j - n*ts.size=j from by omega,hv])
      refine this.imp fun i x _ hx => ?_;rw[hlen,bf]; exact hx)
    (fun r' hr' o ho=>by
     rw[hr0] at hr'; injection hr' with hr'; subst hr';rw[zB hw] at ho;have:=(bJ.1 (cK.1 ho).choose_spec).1;rw[zB hthis,bi (by rw[bn,hsl]; exact this)]; rfl)
    (fun q r' o hq hl _=>by
     injection hl with hl; subst hl;have:=hsep q r o hr0 hq;refine ⟨this.1,_,_,_,hHi,?_⟩;rw[am,bf,hlen]; omega)
    (fun j hj o=>by
     rw[hr0] at hj; injection hj with hj; subst hj;exact Jv hthis o)
   refine ⟨_,_,_,hrun,⟨.inr (by omega),rfl,?_⟩,h1,h2⟩
   rw[hHi];refine ⟨_,cap,by simp [hlen],⟨by simp [hlen]; exact hin,hbd⟩,.inr ⟨r,zx _ _ _,rfl,fun j hj => ?_⟩⟩
   have:=hthr j hj;rw[zB hw] at this;have:=(bJ.1 (cK.1 this).choose_spec).1;rw[zB hthis,bi (by rw[bn,hsl]; exact this)]; rfl
  ·have hold:∃ olds,SV (mem w) (g.S k) ts xs olds∧(olds≠[]->∃ b o,ad=some ⟨b,o,none⟩∧∀ j v,olds[j]? = some v->mem w b (o+j)=some v):=by
    rcases hrow with ⟨-,rfl⟩ | ⟨r,cur,e',hr',hw,hfit,hel⟩
    ·exact ⟨[],SV.nil,fun h=>absurd rfl h⟩
    ·obtain⟨cs,h1,h2⟩:=Z1 (r:=r) (o:=0) (by simpa using hel)
     refine ⟨cs,h1.mono fun b o hb=>⟨hm.le hk hb,rfl⟩,fun hne => ?_⟩;rcases hcap with hc | ⟨r',hr1,rfl,-⟩
     ·have:cs.length=0:=by
       rw[h1.1,hlen,show n=0 from by omega,dV]
      exact absurd (ba this) hne
     ·rw[hr1] at hr'; injection hr' with hr'; subst hr';exact ⟨r',0,rfl,h2⟩
   obtain⟨olds,ho1,ho2⟩:=hold;have hdrew:(dG ie.size n (.slice ad n cap)).run P w.drew = .ok olds.toArray w.drew:=Dv (P:=P) (w:=w.drew) (c:=cap) (by rw[ho1.1,hlen,hs]) (fun hne=>by
    obtain⟨b,o,h1,h2⟩:=ho2 hne;exact ⟨b,o,h1,fun j v hv=>(zE rfl _).trans (h2 j v hv)⟩)
   have hnm:n+ys.length<=140737488351232:=aT (dv _ hb0) hroom;have hrun:=run_append_grow_src (P:=P) w t u ty e ie z ht hi hz ad n cap olds hdrew sv ys.length news (by rw[hs]; exact hsrc w rfl) (by omega) (by omega) (growslice_fits (by omega) (by omega))
   have hge:=grownCap_ge w (n+ys.length) cap e;have hgb:grownCap w (n+ys.length) cap e<=9223372036854775807:=grownCap_le_maxLen w (n+ys.length) cap e (by simp only[maxLen]; omega)
   have hsv:=SV.append ho1 hn;generalize hcc:(olds++news).toArray++br z.cells (grownCap w (n+ys.length) cap e - (n+ys.length))=cc at hrun;have hcs:cc.size=grownCap w (n+ys.length) cap e*ts.size:=by
    rw[← hcc];have h1:=ho1.1;simp only[dQ,bn,am,h1,hnl,br,fO,ft,hlen,hzs];rw[← bf,← bf]
    congr 1
    omega
   have hget:∀(j:Nat) (v:Value),(olds++news)[j]? = some v->cc[j]? = some v:=fun j v hv=>by
    rw[← hcc,cR (by rw[bn]; exact (aw.1 hv).1),bR,hv]
   have hmd:∀ q b o,g.S q b o->mem (w.drew.alloc (.cells cc e)) b o=mem w b o:=fun q b o hq=>(zE (uz w.drew (.cells cc e) (j:=b) (hm.mem_lt hq)) o).trans (zE rfl o);have hthis:(w.drew.alloc (.cells cc e)).heap[w.heap.size]? = some (.cells cc e (0,0)):=jg w.drew (.cells cc e);obtain⟨h1,h2⟩:=key (w.drew.alloc (.cells cc e)) (some w.heap.size) rfl rfl rfl (by show w.heap.size<=(w.drew.alloc (.cells cc e)).heap.size; have:=(bJ.1 hthis).1; omega) (fun j hj _=>uz w.drew (.cells cc e) (j:=j) hj) hmd hH hZ (fun r' hr'=>.inl (by injection hr' with hr'; omega)) hthere (by
    rw[hHi];refine .inr ⟨_,cc,e,zx _ _ _,hthis,?_,?_⟩
    ·rw[hcs,am,hlen]; exact aS _ hge
    ·have:=SV.elems (c':=mem (w.drew.alloc (.cells cc e))) (A':=g.S k) (T:=fun _ _=>True) (fun b o hb=>⟨hb,hmd k b o hb⟩) hsv (r:=w.heap.size) (o:=0) (fun _ _=>trivial) (fun j v hv=>by rw[zB hthis,aP]; exact hget j v hv)
     simp only[aP] at this;exact this)
    (fun r' _ o ho=>(zE (uz w.drew (.cells cc e) (j:=r') (Abs.mem_lt ho)) o).symm▸ho) (fun q r' o hq hl _=>by
     injection hl with hl;have:=hm.mem_lt hq;omega)
    (fun j hj o=>by
     obtain⟨b,h3,h4,-⟩:=hthere j hj;rw[vM (uz w.drew (.cells cc e) (j:=j) (hm.locLt h3 h4))];exact hm.blkFrz h3 h4 o)
   refine ⟨_,_,_,hrun,⟨.inr (by omega),rfl,?_⟩,h1,h2⟩
   rw[hHi];refine ⟨_,_,by rw[am,hlen],⟨by rw[am,hlen]; exact hge,hgb⟩,.inr ⟨_,zx _ _ _,rfl,fun j hj => ?_⟩⟩
   rw[zB hthis,bi (by rw[hcs]; exact hj)]; rfl
theorem zbW (k:Nat):jn k k=k:=by simp [jn]
theorem KI {P:Program} (w:World) (t u ty e:TypeId) (i:TypeInfo) (z:Value) (ht:P.underlying t=some (.slice e)) {k:IntKind} (hu:P.underlying u=some (.int k)) (hi:P.info? e=some i) (hz:i.zero=some z) (hb0:0<i.bytes) (hs0:0<i.size)
  (k1:IntKind) (m:Nat) (h0:0<m) (hroom:m*i.bytes<=140737488351232) :
  (ce #[t,u] ty #[.slice none 0 0,.int k1 (m:Int)]).run P w =
   .ok (.slice (some ⟨w.heap.size,0,none⟩) m (grownCap w m 0 e))
    (w.drew.alloc (.cells (br z.cells m++br z.cells (grownCap w m 0 e - m)) e)):=by
 have hm:m<=140737488351232:=aT (dv _ hb0) hroom;have hw:IntKind.i64.wrap (m:Int)=(m:Int):=by simp [ag,cS,eV]; omega
 have hfit:fP m 0*i.bytes<=281474976710656:=growslice_fits h0 (by omega)
 have h48:¬(281474976710656<fP m 0*i.bytes):=by omega
 have h1:¬((m:Int)<0):=by omega
 have h2:¬(281474976710656<(m:Int)*(i.bytes:Int)):=by
  have:((m*i.bytes:Nat):Int)=(m:Int)*(i.bytes:Int):=by push_cast; rfl
  omega
 have h3:¬(9223372036854775807<(m:Int)):=by omega
 have h4:¬(m<=0):=by omega
 have h5:m≠0:=by omega
 have h6:¬(m*i.size=0):=Nat.mul_ne_zero (by omega) (by omega)
 simp [ce,run_underlying ht,run_underlying hu,sizeOf,typeInfo,zeroValue,hi,hz,asInt,asIntOf,hw,h1,h2,h3,h5,h48,iz,dG,newRow,grownCap];exact fun h=>absurd h h6
theorem J5 {P:Program} {tb:Tb} (hT:jk P tb) {X:Fx} {κ:K R} {x:R} {g:Gh} {H:Nat->Blk} {Z:Nat->Bool} {U:Nat->Prop} {w:World} {id:Nat} (hm:MemOk X g H Z U w) (hid:¬ U id)
  {t u ty e:TypeId} {ts:Tys} {bytes:Nat} {k:IntKind} (ht:tb t=some (.sl e ts bytes)) (hu:tb u=some (.int k)) {a b:AV} {v1 v2:Value}
  (h:QU id ts bytes a b κ=some x) (ha:RAV (mem w) g H U a v1) (hb:RAV (mem w) g H U b v2) :
  ∃ v w',(ce #[t,u] ty #[v1,v2]).run P w = .ok v w'∧Post X κ x g H Z U w id v w':=by
 unfold QU at h;split at h
 ·rename_i q k1 n;have hv1:v1 = .slice none 0 0:=ha;have hv2:v2 = .int k1 n:=hb;subst hv1 hv2;cases h0:Ei n with
  | false=>rw[h0] at h; cases h
  | true =>
   rw[h0,cond_true] at h;cases hr:yK n.toNat bytes with
   | false=>rw[hr] at h; cases h
   | true =>
    rw[hr,cond_true] at h;obtain⟨-,htu,i,z,hi,hs,hbytes,hz,hzs,hzo,hb0⟩:=hT t _ ht;have huu:P.underlying u=some (.int k):=(hT u _ hu).2;subst hbytes;have hp0:(0:Int)<(show Int from n):=of_decide_eq_true h0
    have hn:((n.toNat:Nat):Int)=n:=Int.toNat_of_nonneg (Int.le_of_lt hp0);have hpos:0<n.toNat:=by have:((n.toNat:Nat):Int)=n:=hn; have h2:(0:Int)<((n.toNat:Nat):Int):=(by rw[this]; exact hp0); omega
    have hrun:=KI (P:=P) w t u ty e i z htu huu hi hz hb0 (by have:=ts.size_pos; omega) k1 n.toNat hpos (of_decide_eq_true hr)
    rw[hn] at hrun;refine ⟨_,_,hrun,?_⟩;have hm':MemOk X g H Z U w.drew:=hm.world rfl rfl rfl rfl;have hge:=grownCap_ge w n.toNat 0 e;have hzrv:RV (mem w.drew) (g.S 2) ts (qb ts) z.cells.toList:=Xx (H:=H) (U:=U) ts _ hzo;have hp:=ts.size_pos;have hzp:0<z.cells.size:=by omega
    have hzc:∀ m,(br z.cells m).size=m*ts.size:=fun m=>by rw[br,fO,ft,hzs]
    have hsv:=Nh hzrv hzs n.toNat;obtain⟨h6,h7⟩:=Ql hm' (id:=id) (i:=id) (by omega) hid (e:=e) (cc:=br z.cells n.toNat++br z.cells (grownCap w n.toNat 0 e - n.toNat)) hsv (fun j v hv=>by
     have hj:=(aw.1 hv).1;rw[aO] at hj;rw[cR hj,← aV,hv])
    have hmem:mem w.drew=mem w:=by funext b o; exact zE rfl o
    rw[hmem] at h7;refine ⟨_,_,_,h,?_,h6,h7⟩;have:=j4 (g:=g) (H:=H) (U:=U) (w:=w.drew) (id:=id) (k:=2) (ts:=ts) (xs:=ax n.toNat (qb ts)) (cc:=br z.cells n.toNat++br z.cells (grownCap w n.toNat 0 e - n.toNat)) (e:=e) (cap:=grownCap w n.toNat 0 e) ⟨by simpa using hge,grownCap_le_maxLen w n.toNat 0 e (by simp only[maxLen]; have h1:=of_decide_eq_true hr; have h2:n.toNat<=n.toNat*i.bytes:=dv _ hb0; omega)⟩ (by
     rw[dQ,hzc,hzc,← bf]; exact aS _ (by omega))
    rw[ck] at this;exact this
 ·cases h
theorem SV.drop {c:Mem} {A:Reg} {ts:Tys} {xs:List (Tup ts)} {cs:List Value} (h:SV c A ts xs cs) (n:Nat):SV c A ts (xs.drop n) (cs.drop (n*ts.size)):=by
 refine ⟨by rw[bq,bq,h.1,Nat.sub_mul],fun i x hx => ?_⟩
 rw[bu] at hx;have:=h.2 _ x hx;rw[List.drop_drop,← bf];exact this
theorem za2 {c:Mem} {A:Reg} {ts:Tys} {xs:List (Tup ts)} {cs vs:List Value} {z:Tup ts} {o n:Nat} (h:SV c A ts xs cs) (hz:SV c A ts (ax n z) vs) (hle:o+n<=xs.length) :
  SV c A ts (BF z xs o n) (zS cs (o*ts.size) vs):=by
 have hl:vs.length=n*ts.size:=by rw[hz.1,ck]
 unfold BF zS;rw[hl,← bf];exact SV.append (SV.append (h.take (by omega)) hz) (h.drop _)
theorem Nl {α:Type} {z:α} {xs:List α} {o n:Nat} (hle:o+n<=xs.length):(BF z xs o n).length=xs.length:=by
 unfold BF;simp;omega
theorem DT {P:Program} {tb:Tb} (hT:jk P tb) {X:Fx} {κ:K R} {x:R} {g:Gh} {H hv:Nat->Blk} {Z:Nat->Bool} {U:Nat->Prop} {w:World} {id:Nat} (hm:MemOk X g H Z U w) (hh:∀ b,hv b = .dead∨hv b=H b)
  {t ty:TypeId} {a:AV} {v:Value} (h:Gx tb hv Z t a κ=some x) (ha:RAV (mem w) g H U a v) :
  ∃ w',(dR #[t] ty #[v]).run P w = .ok (.tuple #[]) w'∧Post X κ x g H Z U w id (.tuple #[]) w':=by
 unfold Gx at h;split at h
 ·rename_i e us bytes b o n ht;split at h
  ·rename_i q ts xs hx;have hx':H b = .seq q ts xs:=by rcases hh b with h' | h'<;>rw[hx] at h'; cases h'; exact h'.symm
   obtain⟨ys,hys,h'⟩:=ah.1 h;clear h;have h:=h';clear h';obtain⟨he,-⟩:=vp hys;subst he;have hclr:∀ ys:List (Tup us),BF (qb us) ys o 0=ys:=fun ys=>by unfold BF; simp
   cases hzb:Z b with
   | true=>rw[hzb] at h; cases h
   | false =>
    rw[hzb,cond_false] at h;obtain⟨-,htu,i,z,hi,hs,hbytes,hz,hzs,hzo,hb0⟩:=hT t _ ht;simp only[RAV,hx',RPart] at ha;obtain⟨hU,-,hle,ad,cap,rfl,hcap,hcc⟩:=ha;have hpos:=us.size_pos;by_cases hn:n=0
    ·subst hn;have hsame:qQ H [(b,Blk.seq q us (BF (qb us) xs o 0))]=H:=by
      funext y
      have e9:Blk.seq q us (BF (qb us) xs o 0)=Blk.seq q us xs:=congrArg (fun l:List (Tup us)=>Blk.seq q us l) (hclr xs);show upd H b (Blk.seq q us (BF (qb us) xs o 0)) y=H y;rw[e9];by_cases hy:y=b
      ·subst hy; rw[zx,hx']
      ·rw[xV _ _ hy]
     refine ⟨w,?_,.unk,_,g,h,trivial,?_,?_⟩
     ·cases ad<;>simp [dR,run_underlying htu]
     ·rw[hsame]; exact hm.used_mono fun _ h=>.inl h
     ·rw[hsame]; exact Mono.used fun _ h=>.inl h
    ·obtain⟨r,hr,rfl,-,hthr⟩:∃ r,g.loc b=some r∧ad=some ⟨r,o*us.size,none⟩∧xs.length<=o+cap∧∀ j,j<(o+cap)*us.size->(mem w r j).isSome:=by
      rcases hcc with h' | h'
      ·omega
      ·exact h'
     have hb:=hm.blk b;rw[hx'] at hb;rcases hb with ⟨hn0,-⟩ | ⟨r',c,e',hr',hw,hlc,hel⟩
     ·rw[hr] at hn0; cases hn0
     rw[hr] at hr'; injection hr' with hr'; subst hr';obtain⟨cs,hsv,hcs⟩:=Z1 (r:=r) (o:=0) (by simpa using hel)
     have hcl:cs.length<=c.toList.length:=by rw[hsv.1,aO (xs:=c)]; exact hlc
     have hzv:SV (mem w) (g.S q) us (ax n (qb us)) (br z.cells n).toList:=Nh (CJ us (Xx (g:=g) (k:=2) (c:=mem w) (H:=H) (U:=U) us _ hzo)) hzs n;generalize hZ:(br z.cells n).toList=vs at hzv;have hvl:vs.length=n*us.size:=by rw[hzv.1,ck]
     have hin:o*us.size+vs.length<=cs.length:=by rw[hvl,← bf,hsv.1]; exact aS _ hle
     have hsl:o*us.size+vs.length<=c.toList.length:=by omega
     have hst:=run_storeCells_at P r (o*us.size) e' vs 0 c w hw (by rw[dk,← aO (xs:=c)]; exact hsl) (fun y hy=>hzv.one hy)
     have hnS:∀ q' o',¬ g.S q' r o':=fun q' o' hs'=>by
      have:=(hm.sep q' r o' b hs' (by rw[hx']; simp) hr).1
      rw[hzb] at this; cases this
     have hnew:∀(j:Nat) (y:Value),(zS cs (o*us.size) vs)[j]? = some y->(zS c.toList (o*us.size) vs)[j]? = some y:=fun j y hj=>by
      have hc:∀(j:Nat) (y:Value),cs[j]? = some y->c.toList[j]? = some y:=fun j y hj=>by
       have:=hcs j y hj;rw[aP,zB hw] at this;rw[aV];exact this
      rw[yV hin] at hj;rw[yV hsl];split at hj
      ·rename_i h0; rw[if_pos h0]; exact hc j y hj
      ·rename_i h0;rw[if_neg h0];split at hj
       ·rename_i h1; rw[if_pos h1]; exact hj
       ·rename_i h1; rw[if_neg h1]; exact hc j y hj
     obtain⟨h4,h5⟩:=hm.put (id:=id) (x:=b) (by rw[hx']; simp) hr c (zS c.toList (o*us.size) vs).toArray e' hw (by rw[bn,z5 hsl,aO]) hnS (.seq q us (BF (qb us) xs o n)) (by rw[hx']; exact ⟨rfl,(Nl hle).symm⟩) (fun hz'=>by rw[hzb] at hz'; cases hz')
      (fun m=>.inr ⟨r,_,e',hr,setRow_heap w r c _ e' (0,0) hw,by
       have h7:(BF (qb us) xs o n).length*us.size<=(zS c.toList (o*us.size) vs).toArray.size:=by
        rw[Nl hle,bn,z5 hsl,aO];exact hlc
       exact h7,by
       have:=SV.elems (T:=fun _ _=>True) (r:=r) (o:=0) (m.hS q) (za2 hsv hzv hle) (fun _ _=>trivial) (fun j y hj=>by
        rw[aP,zB (setRow_heap w r c _ e' (0,0) hw),bR];exact hnew j y hj)
       simp only[aP] at this;exact this⟩)
     refine ⟨_,?_,.unk,_,g,h,trivial,h4,h5⟩;have hst':(storeCells ⟨r,o*us.size,none⟩ vs).run P w = .ok () (w.setRow r (zS c.toList (o*us.size) vs).toArray):=by simpa[zS] using hst
     have hn1:∃ n',n=n'+1:=⟨n - 1,by omega⟩
     obtain⟨n',rfl⟩:=hn1;simp [dR,run_underlying htu,zeroValue,typeInfo,hi,hz,hZ,hst']
  ·cases h
 ·cases h
theorem RE.plain {c c':Mem} {A A':Reg} {t:Ty} {x:El t} {v:Value} (h:I0 t=true) (hr:RE c A t x v):RE c' A' t x v:=by
 cases t<;>first | exact hr | cases h
theorem RV.plain {c c':Mem} {A A':Reg}:(ts:Tys)->{x:Tup ts}->{vs:List Value}->Ju ts=true->RV c A ts x vs->RV c' A' ts x vs
 | .one t,x,vs,h,hr=>by
  simp only[RV] at hr ⊢;obtain⟨u,rfl,hr⟩:=hr;exact ⟨u,rfl,RE.plain h hr⟩
 | .cons t ts,x,vs,h,hr=>by
  simp only[RV] at hr ⊢;obtain⟨u,us,rfl,hr,h2⟩:=hr;have h1:I0 t=true:=by
   cases hp:I0 t with
   | true=>rfl
   | false=>unfold Ju at h; rw[hp] at h; cases h
  have h3:Ju ts=true:=by
   unfold Ju at h;rw[h1] at h;exact h
  exact ⟨u,us,rfl,RE.plain h1 hr,RV.plain ts h3 h2⟩
theorem SV.tg {c:Mem} {g:Gh} {ts:Tys} {xs:List (Tup ts)} {cs:List Value} {k:Nat} (h:SV c (g.S k) ts xs cs):SV c (g.S (tgT ts k)) ts xs cs:=by
 unfold tgT;cases hp:Ju ts with
 | false=>exact h
 | true=>exact ⟨h.1,fun i x hx=>RV.plain ts hp (h.2 i x hx)⟩
theorem Ix {P:Program} {tb:Tb} (hT:jk P tb) {X:Fx} {κ:K R} {x:R} {g:Gh} {H hv:Nat->Blk} {Z:Nat->Bool} {U:Nat->Prop} {w:World} {id:Nat} (hm:MemOk X g H Z U w) (hh:∀ b,hv b = .dead∨hv b=H b)
  (hid:∀ i,id<=i->i<id+8->¬ U i) {fz:Nat} {t u ty e:TypeId} {ts us:Tys} {bytes bytes':Nat} {e':TypeId} (ht:tb t=some (.sl e ts bytes)) (hu:tb u=some (.sl e' us bytes')) {a b:AV} {v1 v2:Value}
  (h:WS hv Z fz id ts bytes a b κ=some x) (ha:RAV (mem w) g H U a v1) (hb:RAV (mem w) g H U b v2) :
  ∃ v w',(ce #[t,u] ty #[v1,v2]).run P w = .ok v w'∧Post X κ x g H Z U w id v w':=by
 obtain⟨-,htu,i,z,hi,hs,hbytes,hz,hzs,-,hb0⟩:=hT t _ ht;obtain⟨-,huu,-⟩:=hT u _ hu;subst hbytes;unfold WS at h;obtain⟨⟨k1,ys⟩,hy,h⟩:=ah.1 h;have hne:∀ b',H b' ≠ .dead->b'≠id:=fun b' h' e=>hid id (aC _) (by omega) (e▸hm.used b' h')
 have fin:∀{k0:Nat} {xs:List (Tup ts)} {n cap:Nat} {ad:Option Addr} {r0:Option Nat} {ws:List (Nat×Blk)} {zs:List Nat},Came0 w g H k0 ts xs n cap ad r0->v1 = .slice ad n cap->yK (n+ys.length) i.bytes=true->κ (.view id) ⟨ws,zs⟩=some x ->
   qQ H ws id = .seq (jn k0 (tgT ts k1)) ts (xs++ys)->(∀ b,b≠id->qQ H ws b = .dead∨(qQ H ws b=H b∧∀ r,r0=some r->H b ≠ .dead->g.loc b≠some r)) ->
   (∀ b,b≠id->Z b=true->wu Z zs b=true)->(∀ q r o,r0=some r->g.S q r o->wu Z zs id=true∧o<n*ts.size) ->
   ∃ v w',(ce #[t,u] ty #[v1,v2]).run P w = .ok v w'∧Post X κ x g H Z U w id v w':=by
  intro k0 xs n cap ad r0 ws zs hc hv1 hroom hk h1 h2 h3 h4;obtain⟨ad2,c2,news,rfl,hsv,hcells⟩:=zb1 hm hh hy hb (Le.refl k1);have hsv:=SV.mono (fun b o hb=>⟨hm.le (jM k0 (tgT ts k1)) hb,rfl⟩) (SV.tg hsv);have hsrc:∀ w':World,w'.heap=w.heap->Src P ts.size u (.slice ad2 ys.length c2) ys.length news w':=by
   intro w' hw';have hmem:∀ w'':World,w''.heap=w.heap->mem w''=mem w:=fun w'' h'=>by funext b o; exact zE (by rw[h']) o
   have hf:∀ w'':World,w''.heap=w.heap->(dG ts.size ys.length (.slice ad2 ys.length c2)).run P w'' = .ok news.toArray w'':=fun w'' h'=>Dv hsv.1 (by rw[hmem w'' h']; exact hcells)
   exact ⟨.inl ⟨_,huu⟩,fun _=>rfl,hf w' hw',hf w'.drew hw',hsv.1,fun u hu=>hsv.one hu⟩
  obtain⟨v',w',g',hrun,hr,hm',hmo⟩:=AX (P:=P) (ty:=ty) hm htu hi hz hzs hs hb0 hid hc (Ze k0 (tgT ts k1)) hsrc hsv rfl (by unfold yK at hroom; exact of_decide_eq_true hroom) h1 h2 h3 h4
  rw[hv1];exact ⟨v',w',hrun,_,_,g',hk,hr,hm',hmo⟩
 cases a with
 | nilv =>
  simp only at h;cases hrm:yK ys.length i.bytes with
  | false=>simp [hrm] at h
  | true =>
   simp only[hrm,cond_true] at h;refine fin (k0:=tgT ts k1) (xs:=[]) (n:=0) (cap:=0) (ad:=none) (r0:=none) ⟨rfl,⟨aC _,by omega⟩,.inl rfl,.inl ⟨rfl,rfl⟩,fun r hr=>by cases hr⟩ ha (by simpa using hrm) h ?_ (fun b hb=>.inr ⟨xV _ _ hb,fun r hr=>by cases hr⟩) (fun _ _ h=>h) (fun q r o hr=>by cases hr)
   show upd H id _ id=_;rw[zx,zbW,List.nil_append]
 | view b' =>
  simp only at h;split at h
  ·rename_i q us' xs' hx;have hx':H b' = .seq q us' xs':=by rcases hh b' with h' | h'<;>rw[hx] at h'; cases h'; exact h'.symm
   obtain⟨xs,hxs,h⟩:=ah.1 h;obtain⟨e1,rfl⟩:=vp hxs;subst e1;cases hrm:yK (xs'.length+ys.length) i.bytes with
   | false=>simp [hrm] at h
   | true =>
    simp only[hrm,cond_true] at h;simp only[RAV,hx',RView] at ha;obtain⟨-,-,ad,cap,rfl,hcap,hcc⟩:=ha;have hbk:=hm.blk b';rw[hx'] at hbk;simp only[RBlk] at hbk;have hb':b'≠id:=hne b' (by rw[hx']; simp)
    refine fin (k0:=q) (xs:=xs') (n:=xs'.length) (cap:=cap) (ad:=ad) (r0:=g.loc b') ⟨rfl,hcap,hcc,?_,fun r hr=>⟨b',by rw[hx']; simp,hr,by rw[hx']; rfl⟩⟩ rfl hrm h ?_ (fun b hb => ?_) (fun b hb hz => ?_) (fun q' r o hr hq => ?_)
    ·exact hbk
    ·show upd (upd H b' .dead) id _ id=_;rw[zx]
    ·show upd (upd H b' .dead) id _ b = .dead∨(upd (upd H b' .dead) id _ b=_∧_);rw[xV _ _ hb];by_cases hbb:b=b'
     ·subst hbb; exact .inl (zx _ _ _)
     ·rw[xV _ _ hbb];exact .inr ⟨rfl,fun r hr hd hl=>hbb (hm.inj b b' r hd (by rw[hx']; simp) hl hr)⟩
    ·cases hz2:Z b' with
     | false=>rw[hz2] at h; exact hz
     | true =>
      show upd Z id true b=true;rw[xV _ _ hb]; exact hz
    ·obtain⟨hz,q2,ts2,xs2,he,ho⟩:=hm.sep q' r o b' hq (by rw[hx']; simp) hr
     rw[hx'] at he;injection he with he1 he2 he3;subst he2;have he3:=eq_of_heq he3;subst he3;rw[hz];exact ⟨zx _ _ _,ho⟩
  ·cases h
 | part b' o n =>
  cases o with
  | succ o=>simp at h
  | zero =>
   simp only at h;split at h
   ·rename_i q us' xs' hx;have hx':H b' = .seq q us' xs':=by rcases hh b' with h' | h'<;>rw[hx] at h'; cases h'; exact h'.symm
    cases hz:Z b' with
    | true=>simp [hz] at h
    | false =>
     simp only[hz,cond_false] at h;obtain⟨xs,hxs,h⟩:=ah.1 h;obtain⟨e1,rfl⟩:=vp hxs;subst e1;cases hrm:yK (n+ys.length) i.bytes with
     | false=>simp [hrm] at h
     | true =>
      simp only[hrm,cond_true] at h;simp only[RAV,hx',RPart] at ha;obtain⟨-,-,hon,ad,cap,rfl,hcap,hcc⟩:=ha;have hbk:=hm.blk b';rw[hx'] at hbk;simp only[RBlk] at hbk;have hb':b'≠id:=hne b' (by rw[hx']; simp)
      have hlt:(xs'.take n).length=n:=by simp; omega
      refine fin (k0:=q) (xs:=xs'.take n) (n:=n) (cap:=cap) (ad:=ad) (r0:=g.loc b') ⟨hlt,⟨hcap.1,hcap.2.1⟩,hcc.imp (fun h=>h) ?_,?_,fun r hr=>⟨b',by rw[hx']; simp,hr,by rw[hx']; rfl⟩⟩ rfl hrm h ?_ (fun b hb => ?_) (fun b hb hz => ?_) (fun q' r o hr hq => ?_)
      ·rintro⟨r,h1,h2,-,h3⟩;exact ⟨r,h1,by simpa using h2,by simpa using h3⟩
      ·refine hbk.imp (fun h=>⟨h.1,by rw[h.2]; simp⟩) ?_
       rintro⟨r,c,e,h1,h2,h3,h4⟩;refine ⟨r,c,e,h1,h2,aT (aS _ (by omega)) h3,h4.take n⟩
      ·show upd (upd H b' .dead) id _ id=_;rw[zx]
      ·show upd (upd H b' .dead) id _ b = .dead∨(upd (upd H b' .dead) id _ b=_∧_);rw[xV _ _ hb];by_cases hbb:b=b'
       ·subst hbb; exact .inl (zx _ _ _)
       ·rw[xV _ _ hbb];exact .inr ⟨rfl,fun r hr hd hl=>hbb (hm.inj b b' r hd (by rw[hx']; simp) hl hr)⟩
      ·exact hz
      ·obtain⟨hz',-⟩:=hm.sep q' r o b' hq (by rw[hx']; simp) hr
       rw[hz] at hz'; cases hz'
   ·cases h
 | _=>simp at h
end
section
variable {R:Type}
theorem Wo {c:Mem} {g:Gh} {H:Nat->Blk} {U:Nat->Prop} (v:Value):RAV c g H U (XR v) v:=by
 unfold XR;split<;>simp [RAV,RVal,RE]
theorem Fk (v:Value):(XR v).isAr=false:=by
 unfold XR;split<;>rfl
theorem VM {c:Mem} {g:Gh} {H:Nat->Blk} {U:Nat->Prop}:(vs:List Value)->RF c g H U (vs.map XR) vs
 | []=>rfl
 | v::vs=>⟨v,[v],vs,rfl,Wo v,by rw[Fk]; rfl,VM vs⟩
theorem B8 {X:Fx} {κ:K R} {x:R} {g:Gh} {H:Nat->Blk} {Z:Nat->Bool} {U:Nat->Prop} {w:World} {id:Nat} (hm:MemOk X g H Z U w) (hid:¬ U id) {q:Nat} {us:Tys} {xs:List (Tup us)} {vs:Array Value} {e:TypeId}
  (hk:κ (.sptr id 0 0) ⟨[(id,.seq q us xs)],[]⟩=some x) (hr:SV (mem w) (g.S q) us xs vs.toList) :
  Post X κ x g H Z U w id (.pointer (some ⟨w.heap.size,0,none⟩)) (w.alloc (.cells vs e)):=by
 obtain⟨h6,h7⟩:=Ql hm (id:=id) (i:=id) (by omega) hid (e:=e) (cc:=vs) hr (fun j v hv=>by simpa using hv)
 refine ⟨_,_,_,hk,⟨.inr (by omega),rfl,?_⟩,h6,h7⟩
 show RSptr _ _ _ _ _ (upd H id _ id);rw[zx];exact ⟨w.heap.size,zx _ _ _,by simp⟩
theorem Iv {P:Program} {tb:Tb} (hT:jk P tb) {X:Fx} {κ:K R} {x:R} {w:World} {g:Gh} {H hv:Nat->Blk} {Z:Nat->Bool} {U:Nat->Prop} {id:Nat} (hm:MemOk X g H Z U w) (hh:∀ b,hv b = .dead∨hv b=H b) (hid:¬ U id) {t:TypeId} {a:AV} {lo hi mx:Option AV} {v:Value} {lo' hi' mx':Option Value}
  (h:Ve tb hv Z id t a lo hi mx κ=some x) (ha:RAV (mem w) g H U a v) (hlo0:lo=none->lo'=none)
  (hhi:∀ x,hi=some x->∃ u,hi'=some u∧RAV (mem w) g H U x u) (hhi0:hi=none->hi'=none) (hmx:mx=none->mx'=none) :
  ∃ z,(Instr.sliceAt t v lo' hi' mx').run P w = .ok z w∧Post X κ x g H Z U w id z w:=by
 unfold Ve at h;split at h
 ·rename_i hi1 hl2;obtain⟨k2,rfl⟩:=Vy hl2 hhi hhi0;rw[hmx rfl,hlo0 rfl];split at h
  ·rename_i e us bytes b ht;obtain⟨-,hu,ie,z0,hie,hsz,-,-,-⟩:=hT t _ ht;split at h
   ·rename_i q ts xs hx;have hx':H b = .seq q ts xs:=by rcases hh b with h' | h'<;>rw[hx] at h'; cases h'; exact h'.symm
    cases hb:aA ts.size us.size && !(Z b) with
    | false=>rw[hb] at h; cases h
    | true =>
     rw[hb,cond_true] at h;simp only[ay] at hb;have hts:=au hb.1;have hzb:Z b=false:=by simpa using hb.2
     obtain⟨ys,hys,h⟩:=ah.1 h;obtain⟨h0,h1,h2,rfl⟩:=KO hys;simp only[RAV,hx',RView] at ha;obtain⟨hU,-,ad,cap,rfl,hcap,hc⟩:=ha;have hlive:H b ≠ .dead:=by rw[hx']; simp
     have hbid:b≠id:=fun e=>hid (e▸hU);simp only[cZ,bj] at h0 h1 h2;have hrun:=tB (P:=P) (w:=w) (a:=ad) (len:=xs.length) (cap:=cap) (k1:=.i64) (k2:=k2) hu hie (lo:=none) (hi:=some hi1) (by simp) (by simpa using h1) (by
      simp only[bj];exact Int.le_trans h2 (Int.ofNat_le.2 hcap.1))
     refine ⟨_,hrun,?_⟩;have hcap0:(if cap=0 then ad else ad.map (·.add (0*ie.size)))=ad:=by
      split
      ·rfl
      ·cases ad<;>simp [fN]
     simp only[cZ,bj,eu,eQ,hcap0];have hys':List.drop (bc 0) (List.take (bc hi1) xs)=xs.take (bc hi1):=by simp
     simp only[cZ,bj] at h;rw[hys'] at h;have hyl:(xs.take (bc hi1)).length=bc hi1:=by simp; omega
     have hblk:=hm.blk b;rw[hx'] at hblk;have hH':qQ H [(b,.dead),(id,.seq q ts (xs.take (bc hi1)))]=upd (upd H b .dead) id (.seq q ts (xs.take (bc hi1))):=rfl;obtain⟨h6,h7⟩:=hm.step (w':=w) (id:=id) (i:=id) (by omega) hid (H':=upd (upd H b .dead) id (.seq q ts (xs.take (bc hi1)))) (Z':=Z) (l:=g.loc b) (g.loc b) rfl rfl rfl (aC _) (fun _ _ _=>rfl) (fun _ _ _ _=>rfl)
      (fun b' hb'=>by
       rw[xV _ _ hb'];by_cases hbb:b'=b
       ·subst hbb; exact .inl (zx _ _ _)
       ·rw[xV _ _ hbb];exact .inr ⟨rfl,fun r hr hd hl=>hbb (hm.inj b' b r hd hlive hl hr)⟩)
      (fun _ _ h=>h) (fun r hr=>.inr hr) (fun r hr=>⟨b,hlive,hr,by rw[hx']; rfl⟩)
      (by
       rw[zx];rcases hblk with ⟨h8,h9⟩ | ⟨r,c,e',h8,h9,h10,h11⟩
       ·exact .inl ⟨(zx _ _ _).trans h8,by rw[h9]; simp⟩
       ·exact .inr ⟨r,c,e',(zx _ _ _).trans h8,h9,aT (aS _ (by rw[hyl]; omega)) h10,h11.take _⟩)
      (fun _ _ _ h=>h)
      (fun q' r o hs hr _=>(hm.sNot hs hlive hr hzb).elim) (fun j hj o=>hm.blkFrz hlive hj o)
     refine ⟨_,_,_,h,⟨.inr (by omega),rfl,?_⟩,h6,h7⟩
     rw[hH',zx];refine ⟨ad,cap,by rw[hyl],by rw[hyl]; omega,hc.imp (fun h=>h) ?_⟩
     rintro⟨r,h8,h9,h10⟩;exact ⟨r,(zx _ _ _).trans h8,h9,h10⟩
   ·cases h
  ·rename_i e us bytes b o n ht;obtain⟨-,hu,ie,z0,hie,hsz,-,-,-⟩:=hT t _ ht;split at h
   ·rename_i q ts xs hx;have hx':H b = .seq q ts xs:=by rcases hh b with h' | h'<;>rw[hx] at h'; cases h'; exact h'.symm
    cases hb:aA ts.size us.size with
    | false=>rw[hb] at h; cases h
    | true =>
     rw[hb,cond_true] at h;by_cases h0:0<=hi1
     ·by_cases h1:hi1<=((xs.length - o:Nat):Int)
      ·rw[decide_eq_true h0,decide_eq_true h1,cond_true,cond_true] at h;simp only[RAV,hx',RPart] at ha;obtain⟨hU,-,hle,ad,cap,rfl,hcap,hc⟩:=ha;have hrun:=tB (P:=P) (w:=w) (a:=ad) (len:=n) (cap:=cap) (k1:=.i64) (k2:=k2) hu hie (lo:=none) (hi:=some hi1) (by simp) (by simpa using h0) (by
        simp only[bj];omega)
       refine ⟨_,hrun,_,⟨[],[]⟩,g,h,?_,hm.used_mono fun _ h=>.inl h,Mono.used fun _ h=>.inl h⟩;have hcap0:(if cap=0 then ad else ad.map (·.add (0*ie.size)))=ad:=by
        split
        ·rfl
        ·cases ad<;>simp [fN]
       simp only[cZ,bj,eu,eQ,hcap0];refine ⟨.inl hU,rfl,?_⟩;show RPart _ _ _ _ _ _ (H b);rw[hx'];exact ⟨by omega,ad,cap,rfl,by omega,hc⟩
      ·rw[decide_eq_true h0,decide_eq_false h1] at h; cases h
     ·rw[decide_eq_false h0] at h; cases h
   ·cases h
  ·cases h
 ·cases h
theorem If {c:Mem} {g:Gh} {H:Nat->Blk} {U:Nat->Prop} (v:Value):RAV c g H U (B5 v) v:=by
 unfold B5;split
 ·exact ⟨_,rfl,VM _⟩
 ·exact Wo _
theorem Kn {X:Fx} {g:Gh} {H:Nat->Blk} {Z:Nat->Bool} {U:Nat->Prop} {w:World} (hm:MemOk X g H Z U w) {φ:Nat->AV} {a:Act} (hf:RFr w g H U φ a.tmps) (o:Operand):RAV (mem w) g H U (ev X.gl φ o) (a.eval o):=by
 cases o with
 | tmp t=>exact hf t
 | const v=>exact If v
 | global q =>
  simp only[ev,Act.eval];cases hq:X.gl q with
  | none=>trivial
  | some x=>exact ⟨q,0,rfl,hm.glob q x hq⟩
 | func f=>exact ⟨#[],rfl,rfl⟩
theorem KY {X:Fx} {g:Gh} {H:Nat->Blk} {Z:Nat->Bool} {U:Nat->Prop} {w:World} (hm:MemOk X g H Z U w) {φ:Nat->AV} {a:Act} (hf:RFr w g H U φ a.tmps) :
  (os:List Operand)->RL (mem w) g H U (os.map (ev X.gl φ)) (os.map a.eval)
 | []=>rfl
 | o::os=>⟨_,_,rfl,Kn hm hf o,KY hm hf os⟩
theorem XY {X:Fx} {g:Gh} {H:Nat->Blk} {Z:Nat->Bool} {U:Nat->Prop} {w:World} (hm:MemOk X g H Z U w) {φ:Nat->AV} {a:Act} (hf:RFr w g H U φ a.tmps) :
  (ps:List (Nat×Operand))->F2 (fun p q=>p.1=q.1∧RAV (mem w) g H U p.2 q.2) (ps.map fun p=>(p.1,ev X.gl φ p.2)) (ps.map fun p=>(p.1,a.eval p.2))
 | []=>.nil
 | p::ps=>.cons ⟨rfl,Kn hm hf p.2⟩ (XY hm hf ps)
def Rk (P:Program) (X:Fx) (fz:Nat) (f:FuncId) (c:Con):Prop :=
 ∀{R:Type} (κ:K R) (x:R) (g:Gh) (H hv:Nat->Blk) (Z:Nat->Bool) (U:Nat->Prop) (w:World) (id:Nat) (as:List AV) (vs:Array Value),MemOk X g H Z U w->(∀ b,hv b = .dead∨hv b=H b) ->
  (∀ i,id<=i->i<id+8->¬ U i)->RL (mem w) g H U as vs.toList ->
  (match c with
   | .gen q=>q id fz as hv Z κ)=some x ->
  Does P (callFunc f vs) w fun v w'=>Post X κ x g H Z U w id v w'
theorem yp {P:Program} {X:Fx} {κ:K R} {x:R} {g:Gh} {H:Nat->Blk} {Z:Nat->Bool} {U:Nat->Prop} {w:World} {id:Nat} (hm:MemOk X g H Z U w) {s:Sem Value}
  (h:∃ z av,s.run P w = .ok z w∧quiet κ av=some x∧RAV (mem w) g H U av z):Does P (do pure (.value (← s))) w fun v w'=>Post X κ x g H Z U w id v w':=by
 obtain⟨z,av,h1,h2,h3⟩:=h;exact Does.value h1 (Post.quiet hm h2 h3)
structure VOk (P:Program) (X:Fx) (V:Env):Prop where
 tb:jk P V.tb
 gl:V.gl=X.gl
 fz:V.fz=0∨V.fz=2
 own:V.fz=2->∀ r,X.O r->X.N r
 con:∀ f c,V.Γ f=some c->Rk P X V.fz f c
theorem Aq {P:Program} {w:World} (ts:Array TypeId) (t:TypeId) (k k2:IntKind) (a b:Int):(gZ ts t #[.int k a,.int k2 b]).run P w = .ok (.int k (DF a b)) w:=by
 have e:(if b>a then b else a)=DF a b:=by
  unfold DF;by_cases hlt:b>a
  ·rw[if_pos hlt,decide_eq_true hlt]; rfl
  ·rw[if_neg hlt,decide_eq_false hlt]; rfl
 rw[← e];rfl
theorem Ck {P:Program} {w:World} (ts:Array TypeId) (t:TypeId) (k k2:IntKind) (a b:Int):(iF ts t #[.int k a,.int k2 b]).run P w = .ok (.int k (D3 a b)) w:=by
 have e:(if b<a then b else a)=D3 a b:=by
  unfold D3;by_cases hlt:b<a
  ·rw[if_pos hlt,decide_eq_true hlt]; rfl
  ·rw[if_neg hlt,decide_eq_false hlt]; rfl
 rw[← e];rfl
theorem O7 {P:Program} {X:Fx} {V:Env} (hV:VOk P X V) {κ:K R} {x:R} {g:Gh} {H hv:Nat->Blk} {Z:Nat->Bool} {U:Nat->Prop} {w:World} {id:Nat} (hm:MemOk X g H Z U w) (hh:∀ b,hv b = .dead∨hv b=H b)
  (hid:∀ i,id<=i->i<id+8->¬ U i) {φ:Nat->AV} {a:Act} (hf:RFr w g H U φ a.tmps) {o:Oper} (h:opE V.tb V.gl V.Γ V.fz id hv Z φ o κ=some x) :
  Does P (execOp a.eval o) w fun v w'=>Post X κ x g H Z U w id v w':=by
 have hid0:¬ U id:=hid id (aC _) (by omega)
 rw[hV.gl] at h;have hev:=fun q=>Kn hm hf q;unfold opE at h;unfold execOp;cases hop:o.op with
 | move y=>simp only[hop] at h ⊢; exact Post.quiet hm h (hev y)
 | assign y=>simp only[hop] at h ⊢; exact Post.quiet hm h (hev y)
 | pick c y z =>
  simp only[hop] at h ⊢;split at h
  ·rename_i q t hc;have t':Bool:=t;have hr:=hev c;rw[hc] at hr;have hr:a.eval c = .bool t:=hr;rw[hr];have hp:Post X κ x g H Z U w id (if (show Bool from t)=true then a.eval y else a.eval z) w:=by
    refine Post.quiet hm h ?_;generalize (show Bool from t)=t at *
    cases t
    ·exact hev z
    ·exact hev y
   exact Does.value (s:=(do pure (if ← asBool (.bool t) then a.eval y else a.eval z))) (by simp [asBool]; rfl) hp
  ·cases h
 | alloc t =>
  simp only[hop] at h ⊢;split at h
  ·rename_i ae ats an hat;exact OK hV.tb hm hid0 hat h
  obtain⟨cs,hcs,h⟩:=ah.1 h;have htd:∃ td,V.tb t=some td:=by
   simp only[zeroCells] at hcs;cases htt:V.tb t with
   | none=>simp [htt] at hcs
   | some td=>exact ⟨td,rfl⟩
  obtain⟨td,htd⟩:=htd;obtain⟨⟨i,hi,-,hz⟩,-⟩:=hV.tb t td htd;obtain⟨z,hz1,hz2⟩:=hz cs hcs;refine Does.value (v:=.pointer (some ⟨w.heap.size,0,none⟩)) (w':=w.alloc (.cells z.cells t)) ?_ (Ew hm hid0 h (Qn hz2));simp [Instr.alloc,zeroValue,typeInfo,hi,hz1,newVar,newRow]
 | box t y =>
  simp only[hop] at h ⊢;split at h
  ·rename_i e ts n ht;obtain⟨q,us,m,xs,hy,h'⟩:=Gn (F:=fun q us _ xs=>κ (.sptr id 0 0) ⟨[(id,.seq q us xs)],[]⟩) h;have hr:=hev y;rw[hy] at hr;obtain⟨-,vs,hv,hs⟩:=hr;refine Does.value (v:=.pointer (some ⟨w.heap.size,0,none⟩)) (w':=w.alloc (.cells (a.eval y).cells t)) ?_ ?_
   ·simp [ix,newVar,newRow]
   ·rw[hv];exact B8 hm hid0 h' hs
  cases hc:kT (ev X.gl φ y) with
  | false=>simp [hc] at h
  | true =>
   simp only[hc,cond_true] at h;refine Does.value (v:=.pointer (some ⟨w.heap.size,0,none⟩)) (w':=w.alloc (.cells (a.eval y).cells t)) ?_ (Ew hm hid0 h (jj hc (hev y)));simp [ix,newVar,newRow]
 | build t ps =>
  simp only[hop] at h ⊢;refine yp hm (D7 hV.tb h ?_);have:=XY hm hf ps.toList;simpa using this
 | buildSlice t n ps =>
  simp only[hop] at h ⊢;obtain⟨z,w',h1,h2⟩:=Vw hV.tb (qs:=ps.map fun p=>(p.1,a.eval p.2)) hm hh hid0 hV.fz hV.own h (by
   have:=XY hm hf ps.toList;simpa using this)
  exact Does.value h1 h2
 | load t y =>
  simp only[hop] at h ⊢;exact yp hm (Ja hV.tb hm hh h (hev y))
 | store t y z =>
  simp only[hop] at h ⊢;obtain⟨w',h1,h2⟩:=I1 hV.tb hm hh hV.fz hV.own h (hev y) (hev z);exact Does.skip h1 (h2 undef)
 | nilCheck y =>
  simp only[hop] at h ⊢;obtain⟨ad,h1,av,h2,h3⟩:=KN (_P:=P) hh h (hev y);rw[h1] at h3 ⊢;exact Post.quiet hm h2 h3
 | binOp op t y z b =>
  simp only[hop] at h ⊢;exact yp hm (FW hV.tb hh h (hev y) (hev z) y z)
 | unOp op t y =>
  simp only[hop] at h ⊢;exact yp hm (Lr h (hev y))
 | convert s d y =>
  simp only[hop] at h ⊢;exact yp hm (AD hV.tb hm hh h (hev y))
 | makeFunc fn first cs =>
  simp only[hop] at h ⊢;cases fn with
  | func f =>
   simp only at h;cases he:first.isEmpty with
   | false=>simp [he] at h
   | true =>
    simp only[he,cond_true] at h;have h0:first = #[]:=by simpa using he
    subst h0;refine yp hm ⟨_,_,rfl,h,?_⟩;refine ⟨cs.map a.eval,by simp,?_⟩
    have:=KY hm hf cs.toList;simpa using this
  | _=>simp at h
 | makeSlice t l c =>
  simp only[hop] at h ⊢;split at h
  ·rename_i e ts bytes g1 k1 n g2 k2 m ht hl hc;have hl':a.eval l = .int k1 n:=by have:=hev l; rw[hl] at this; exact this
   have hc':a.eval c = .int k2 m:=by have:=hev c; rw[hc] at this; exact this
   cases hnm:eqI n m with
   | false=>simp [hnm] at h
   | true =>
    have:=Ak.1 hnm;cases h0:Pv n with
    | false=>simp [hnm,h0] at h
    | true =>
     cases hr:yK (bc n) bytes with
     | false=>simp [hnm,h0,hr] at h
     | true =>
      simp only[hnm,h0,hr,cond_true] at h;obtain⟨z,w',h1,h2⟩:=Kv hV.tb hm hid0 ht (k1:=k1) (k2:=k2) (by simpa[Pv] using h0) hr h
      rw[hl',hc',← this];exact Does.value h1 h2
  ·cases h
 | slice t y lo hi mx =>
  simp only[hop] at h ⊢;cases hmv:Sj V.Γ o.dst with
  | true =>
   rw[hmv,cond_true] at h;obtain⟨z,h1,h2⟩:=Iv hV.tb hm hh hid0 h (hev y) (lo':=lo.map a.eval) (hi':=hi.map a.eval) (mx':=mx.map a.eval) (fun hu=>by cases lo with
    | none=>rfl
    | some lo=>cases hu) (fun u hu=>by
    cases hi with
    | none=>cases hu
    | some lo=>injection hu with hu; subst hu; exact ⟨_,rfl,hev lo⟩) (fun hu=>by cases hi with
    | none=>rfl
    | some lo=>cases hu) (fun hu=>by cases mx with
    | none=>rfl
    | some lo=>cases hu)
   exact Does.value h1 h2
  | false =>
  rw[hmv,cond_false] at h;refine yp hm (Dl hV.tb hh h (hev y) ?_ ?_ ?_ ?_ ?_)
  ·intro u hu;cases lo with
   | none=>cases hu
   | some lo=>injection hu with hu; subst hu; exact ⟨_,rfl,hev lo⟩
  ·intro hu; cases lo with
   | none=>rfl
   | some lo=>cases hu
  ·intro u hu;cases hi with
   | none=>cases hu
   | some lo=>injection hu with hu; subst hu; exact ⟨_,rfl,hev lo⟩
  ·intro hu; cases hi with
   | none=>rfl
   | some lo=>cases hu
  ·intro hu; cases mx with
   | none=>rfl
   | some lo=>cases hu
 | fieldAddr s y f =>
  simp only[hop] at h ⊢;exact yp hm (V6 hV.tb hh h (hev y))
 | field s y f =>
  simp only[hop] at h ⊢;exact yp hm (BA hV.tb h (hev y))
 | indexAddr t y i =>
  simp only[hop] at h ⊢;exact yp hm (VZ hV.tb hm hh h (hev y) (hev i))
 | index t y i =>
  simp only[hop] at h ⊢;exact yp hm (Dm hV.tb h (hev y) (hev i))
 | extract y i =>
  simp only[hop] at h ⊢;split at h
  ·rename_i vs hvs;split at h
   ·rename_i v hv;have:=hev y;rw[hvs] at this;simp only[RAV] at this;obtain⟨us,hy,hl⟩:=this;obtain⟨u,hu,hr⟩:=hl.get hv;refine yp hm ⟨u,v,?_,h,hr⟩;rw[hy];have:us[i]? = some u:=by simpa using hu
    simp [Instr.extract,this]
   ·cases h
  ·cases h
 | call c =>
  simp only[hop] at h ⊢;cases hc:c.callee with
  | value f =>
   simp only[hc] at h;split at h
   ·rename_i q caps hq;have:=hev f;rw[hq] at this;simp only[RAV] at this;obtain⟨us,hfv,hl⟩:=this;have hrl:RL (mem w) g H U (evs X.gl φ c.args++caps) (c.args.map a.eval++us).toList:=by
     rw[Array.toList_append,Array.toList_map];exact RL.append (KY hm hf _) hl
    have hrun:(do let d ← resolve a.eval c o.type; invoke d.target d.args:Sem Next)=callFunc q (c.args.map a.eval++us):=by
     simp [resolve,hc,hfv,iy,invoke]
    rw[hrun];unfold EV at h;cases hq2:V.Γ q with
    | none=>simp [hq2] at h
    | some con =>
     refine hV.con q con hq2 κ x g H hv Z U w id _ _ hm hh hid hrl ?_;cases con<;>simpa[hq2] using h
   ·cases h
  | builtin b =>
   simp only[hc] at h;have hrun:∃ cs,(do let d ← resolve a.eval c o.type; invoke d.target d.args:Sem Next)=builtin b c.argTypes o.type cs (c.args.map a.eval) :=
    ⟨_,by simp only[resolve,hc,pure_bind,invoke]; rfl⟩
   obtain⟨cs,hrun⟩:=hrun;rw[hrun];have one:∀{y:Operand},c.args.toList=[y]->c.args.map a.eval = #[a.eval y]:=fun h=>by apply ek; simp [h]
   have two:∀{y z:Operand},c.args.toList=[y,z]->c.args.map a.eval = #[a.eval y,a.eval z]:=fun h=>by apply ek; simp [h]
   cases b with
   | real =>
    simp only at h;split at h
    ·rename_i y hy;split at h
     ·rename_i q z hz;have hr:=hev y;rw[hz] at hr;rw[one hy,show a.eval y = .complex .f64 z.1 z.2 from hr]
      exact yp hm ⟨_,_,rfl,h,rfl⟩
     ·cases h
    ·cases h
   | imag =>
    simp only at h;split at h
    ·rename_i y hy;split at h
     ·rename_i q z hz;have hr:=hev y;rw[hz] at hr;rw[one hy,show a.eval y = .complex .f64 z.1 z.2 from hr]
      exact yp hm ⟨_,_,rfl,h,rfl⟩
     ·cases h
    ·cases h
   | complex =>
    simp only at h;split at h
    ·rename_i y z hy;split at h
     ·rename_i q1 b1 q2 b2 h1 h2;have hr1:=hev y;have hr2:=hev z;rw[h1] at hr1;rw[h2] at hr2;rw[two hy,show a.eval y = .float .f64 b1 from hr1,show a.eval z = .float .f64 b2 from hr2]
      exact yp hm ⟨_,_,rfl,h,rfl⟩
     ·cases h
    ·cases h
   | max =>
    simp only at h;split at h
    ·rename_i y z hy;split at h
     ·rename_i q1 b1 q2 b2 h1 h2;have hr1:=hev y;have hr2:=hev z;rw[h1] at hr1;rw[h2] at hr2;obtain⟨r,hr,h⟩:=ah.1 h;rw[two hy,show a.eval y = .float .f64 b1 from hr1,show a.eval z = .float .f64 b2 from hr2]
      refine yp hm ⟨.float .f64 r,_,?_,h,rfl⟩;unfold zcv at hr;simp only[gZ,List.foldlM_cons,List.foldlM_nil,iG];split at hr<;>first | (cases hr; done) | skip
      all_goals
       rename_i ho;injection hr with hr;subst hr;rw[ho];first | rfl | (cases (FloatKind.f64.decode b1).neg<;>rfl)
     ·rename_i q1 k b1 q2 k2 b2 h1 h2;have hr1:=hev y;have hr2:=hev z;rw[h1] at hr1;rw[h2] at hr2;rw[two hy,show a.eval y = .int k b1 from hr1,show a.eval z = .int k2 b2 from hr2]
      exact yp hm ⟨.int k (DF b1 b2),_,Aq _ _ k k2 b1 b2,h,rfl⟩
     ·cases h
    ·cases h
   | min =>
    simp only at h;split at h
    ·rename_i y z hy;split at h
     ·rename_i q1 k b1 q2 k2 b2 h1 h2;have hr1:=hev y;have hr2:=hev z;rw[h1] at hr1;rw[h2] at hr2;rw[two hy,show a.eval y = .int k b1 from hr1,show a.eval z = .int k2 b2 from hr2]
      exact yp hm ⟨.int k (D3 b1 b2),_,Ck _ _ k k2 b1 b2,h,rfl⟩
     ·cases h
    ·cases h
   | len =>
    simp only at h;split at h
    ·rename_i y t hy ht;have e1:c.argTypes=(t::(c.argTypes.toList.drop 1)).toArray:=by
      apply ek;have:=aw.1 (aV (xs:=c.argTypes)▸ht);obtain⟨h1,h2⟩:=this;rw[fT,← h2,fA h1]; rfl
     have e2:c.args.map a.eval=(a.eval y::((c.args.map a.eval).toList.drop 1)).toArray:=by
      apply ek;have hy':(c.args.map a.eval).toList[0]? = some (a.eval y):=by simp [hy]
      obtain⟨h1,h2⟩:=aw.1 hy';rw[fT,← h2,fA h1]; rfl
     have:=Fu hV.tb (ty:=o.type) (ts:=c.argTypes.toList.drop 1) (us:=(c.args.map a.eval).toList.drop 1) hh h (hev y);rw[← e1,← e2] at this;exact yp hm this
    ·cases h
   | append =>
    simp only at h;split at h
    ·rename_i s y t u hs hy ht hu;split at h
     ·rename_i e ts bytes e' ts' bytes' htt htu;obtain⟨v,w',h1,h2⟩:=Ix hV.tb (ty:=o.type) hm hh hid htt htu h (hev s) (hev y);have e1:ce c.argTypes o.type (c.args.map a.eval)=ce #[t,u] o.type #[a.eval s,a.eval y]:=by
       unfold ce;simp [ht,hu,hs,hy]
      rw[← e1] at h1;exact Does.value h1 h2
     ·rename_i e ts bytes k htt htu;obtain⟨v,w',h1,h2⟩:=J5 hV.tb (ty:=o.type) hm hid0 htt htu h (hev s) (hev y);have e1:ce c.argTypes o.type (c.args.map a.eval)=ce #[t,u] o.type #[a.eval s,a.eval y]:=by
       unfold ce;simp [ht,hu,hs,hy]
      rw[← e1] at h1;exact Does.value h1 h2
     ·cases h
    ·cases h
   | clear =>
    simp only at h;split at h
    ·rename_i y t hy ht;obtain⟨w',h1,h2⟩:=DT hV.tb (ty:=o.type) hm hh h (hev y);have e1:dR c.argTypes o.type (c.args.map a.eval)=dR #[t] o.type #[a.eval y]:=by
      unfold dR;simp [ht,hy]
     rw[← e1] at h1;exact Does.value h1 h2
    ·cases h
   | cap =>
    simp only at h;split at h
    ·rename_i y t hy ht;split at h
     ·rename_i e ts bytes hn htt;have hr:=hev y;rw[hn] at hr;have hr:a.eval y = .slice none 0 0:=hr;obtain⟨-,htu,-⟩:=hV.tb t _ htt;refine yp hm ⟨.int .i64 0,_,?_,h,rfl⟩;unfold iH;simp [ht,hy,hr,run_underlying htu,goInt]
     ·cases h
    ·cases h
   | _=>simp at h
  | invoke r m=>simp [hc] at h
 | _=>simp [hop] at h
end
section
variable {R:Type}
theorem zm {α β γ:Type} (o:Option α) (f:α->Option β) (g:α->Option γ) (k:γ->Option β) (h:∀ a,f a=(g a).bind k):o.bind f=(o.bind g).bind k:=by
 cases o with
 | none=>rfl
 | some a=>exact h a
theorem zt {β γ:Type} (b:Bool) {f g:Option β} {f' g':Option γ} (k:γ->Option β) (h:f=f'.bind k) (h':g=g'.bind k):cond b f g=(cond b f' g').bind k:=by
 cases b
 ·exact h'
 ·exact h
theorem Mh (op:BinOp) (a b:Nat) (κ:AV->Option R):FU op a b κ=(FU op a b some).bind κ:=by
 unfold FU;split<;>exact zm _ _ _ _ fun _=>rfl
theorem Mp (op:BinOp) (a b:Nat×Nat) (κ:AV->Option R):FY op a b κ=(FY op a b some).bind κ:=by
 unfold FY;split<;>first | rfl | exact zm _ _ _ _ fun _=>rfl
theorem Fo (op:BinOp) (k:IntKind) (a b:Int) (κ:AV->Option R):IU op k a b κ=(IU op k a b some).bind κ:=by
 cases op<;>first | rfl | exact zt _ _ rfl rfl
theorem Hj (op:BinOp) (a b:List UInt8) (κ:AV->Option R):DG op a b κ=(DG op a b some).bind κ:=by
 cases op<;>first | rfl | exact zt _ _ rfl rfl
theorem BH (op:BinOp) (a b:Bool) (κ:AV->Option R):KM op a b κ=(KM op a b some).bind κ:=by
 cases op<;>rfl
theorem Ga (op:BinOp) (a:Bool) (κ:AV->Option R):Gf op a κ=(Gf op a some).bind κ:=by
 cases op<;>rfl
theorem Se (tb:Tb) (H:Nat->Blk) (op:BinOp) (t:TypeId) (x y:AV) (κ:AV->Option R):zbe tb H op t x y κ=(zbe tb H op t x y some).bind κ:=by
 unfold zbe;split
 ·exact zt _ _ (Fo ..) rfl
 ·exact Hj ..
 ·exact Mh ..
 ·exact Mp ..
 ·split
  ·exact BH ..
  ·rfl
 ·split
  ·exact zm _ _ _ _ fun _=>Ga ..
  ·rfl
 ·split
  ·exact zm _ _ _ _ fun _=>Ga ..
  ·rfl
 ·rfl
theorem zbV (op:UnOp) (x:AV) (κ:AV->Option R):unE op x κ=(unE op x some).bind κ:=by
 unfold unE;split<;>rfl
theorem sA (td:TD) (cs:List AV) (o:Nat) (κ:AV->Option R):kF td cs o κ=(kF td cs o some).bind κ:=by
 unfold kF;split
 ·exact zm _ _ _ _ fun _=>zm _ _ _ _ fun _=>rfl
 ·exact zm _ _ _ _ fun _=>zm _ _ _ _ fun _=>rfl
 ·exact zm _ _ _ _ fun _=>zt _ _ (zt _ _ rfl rfl) rfl
 ·exact zm _ _ _ _ fun _=>zt _ _ rfl rfl
theorem R9 (td:TD) (g:Nat) (ts:Tys) (xs:List (Tup ts)) (κ:AV->Option R):zcl td g ts xs κ=(zcl td g ts xs some).bind κ:=by
 unfold zcl;split
 ·exact zt _ _ rfl rfl
 ·rfl
theorem EC {α β:Type} (cs:List AV) (o sz:Nat) (F:List AV->Nat->(ts:Tys)->Nat->List (Tup ts)->List AV->Option α) (G:List AV->Nat->(ts:Tys)->Nat->List (Tup ts)->List AV->Option β) (k:β->Option α) (h:∀ l g ts n xs r,F l g ts n xs r=(G l g ts n xs r).bind k) :
  zaO cs o sz F=(zaO cs o sz G).bind k:=by
 unfold zaO;refine zm _ _ _ _ fun _ => ?_;split
 ·exact zt _ _ (h ..) rfl
 ·rfl
theorem Dk (tb:Tb) (H:Nat->Blk) (t:TypeId) (p:AV) (κ:AV->Option R):XL tb H t p κ=(XL tb H t p some).bind κ:=by
 unfold XL;refine zm _ _ _ _ fun td => ?_;split
 ·split
  ·exact sA ..
  ·rfl
 ·split
  ·exact EC _ _ _ _ _ _ fun _ _ _ _ _ _=>zm _ _ _ _ fun _=>sA ..
  ·rfl
 ·split
  ·exact zt _ _ (zt _ _ (R9 ..) rfl) (zm _ _ _ _ fun _=>sA ..)
  ·rfl
 ·exact sA ..
 ·rfl
def pk:K (AV×Eff):=fun v e=>some (v,e)
def kb (κ:K R):AV×Eff->Option R:=fun p=>κ p.1 p.2
theorem v5 {f:{S:Type}->(AV->Option S)->Option S} (h:∀{S:Type} (κ:AV->Option S),f κ=(f some).bind κ) (κ:K R):f (quiet κ)=(f (quiet pk)).bind (kb κ):=by
 rw[h (quiet κ),h (quiet pk)];cases f some<;>rfl
theorem EO (tb:Tb) (H:Nat->Blk) (Z:Nat->Bool) (fz:Nat) (t:TypeId) (p v:AV) (κ:K R):GM tb H Z fz t p v κ=(GM tb H Z fz t p v pk).bind (kb κ):=by
 unfold GM;refine zm _ _ _ _ fun td=>zt _ _ ?_ rfl;split
 ·split
  ·exact zt _ _ rfl (zm _ _ _ _ fun _=>rfl)
  ·rfl
 ·split
  ·exact zt _ _ rfl (EC _ _ _ _ _ _ fun _ _ _ _ _ _=>zm _ _ _ _ fun _=>VG _ _ _ _ _ _ fun _=>rfl)
  ·rfl
 ·split
  ·refine zt _ _ rfl (zt _ _ (zt _ _ ?_ rfl) (zm _ _ _ _ fun _=>VG _ _ _ _ _ _ fun _=>rfl));split
   ·exact zm _ _ _ _ fun _=>zt _ _ rfl rfl
   ·rfl
  ·rfl
 ·rfl
theorem JS (tb:Tb) (H:Nat->Blk) (s:TypeId) (p:AV) (f:Nat) (κ:AV->Option R):sJ tb H s p f κ=(sJ tb H s p f some).bind κ:=by
 unfold sJ;refine zm _ _ _ _ fun td=>zm _ _ _ _ fun q => ?_;split
 ·split<;>rfl
 ·split<;>rfl
 ·split<;>rfl
 ·rfl
 ·rfl
theorem GW (H:Nat->Blk) (x:AV) (κ:AV->Option R):xl H x κ=(xl H x some).bind κ:=by
 unfold xl;split
 ·split<;>rfl
 ·split<;>rfl
 ·split<;>rfl
 ·rfl
 ·rfl
theorem FX (tb:Tb) (s:TypeId) (x:AV) (f:Nat) (κ:AV->Option R):KD tb s x f κ=(KD tb s x f some).bind κ:=by
 unfold KD;refine zm _ _ _ _ fun td=>zm _ _ _ _ fun q=>zm _ _ _ _ fun ud => ?_;split
 ·exact sA ..
 ·rfl
theorem JU (tb:Tb) (H:Nat->Blk) (t:TypeId) (x i:AV) (κ:AV->Option R):sF tb H t x i κ=(sF tb H t x i some).bind κ:=by
 unfold sF;split
 ·split
  ·exact zt _ _ (zm _ _ _ _ fun _=>rfl) rfl
  ·exact zt _ _ (zm _ _ _ _ fun _=>rfl) rfl
  ·split
   ·exact zt _ _ (zm _ _ _ _ fun _=>rfl) rfl
   ·rfl
  ·split
   ·exact zt _ _ (zm _ _ _ _ fun _=>rfl) rfl
   ·rfl
  ·rfl
 ·split
  ·split
   ·exact zt _ _ (zm _ _ _ _ fun _=>rfl) rfl
   ·rfl
  ·split
   ·exact zm _ _ _ _ fun _=>rfl
   ·rfl
  ·rfl
 ·refine zm _ _ _ _ fun _ => ?_;split
  ·split<;>rfl
  ·split<;>rfl
  ·rfl
  ·rfl
 ·rfl
theorem Fz (tb:Tb) (t:TypeId) (x i:AV) (κ:AV->Option R):KW tb t x i κ=(KW tb t x i some).bind κ:=by
 unfold KW;split
 ·exact zm _ _ _ _ fun _=>rfl
 ·exact zt _ _ (zm _ _ _ _ fun _=>zm _ _ _ _ fun _=>sA ..) rfl
 ·exact zm _ _ _ _ fun _=>zm _ _ _ _ fun _=>sA ..
 ·rfl
theorem DW (b o len:Nat) (lo hi:Option Int) (κ:AV->Option R):FI b o len lo hi κ=(FI b o len lo hi some).bind κ:=by
 exact zt _ _ (zt _ _ (zt _ _ rfl rfl) rfl) rfl
theorem FC (tb:Tb) (H:Nat->Blk) (t:TypeId) (x:AV) (lo hi mx:Option AV) (κ:AV->Option R):K5 tb H t x lo hi mx κ=(K5 tb H t x lo hi mx some).bind κ:=by
 unfold K5;split
 ·split
  ·exact zt _ _ (zm _ _ _ _ fun _=>rfl) rfl
  ·exact zm _ _ _ _ fun _=>rfl
  ·exact zt _ _ rfl rfl
  ·split
   ·exact zt _ _ (DW ..) rfl
   ·rfl
  ·split
   ·refine zt _ _ ?_ rfl;split
    ·rfl
    ·exact DW ..
   ·rfl
  ·rfl
 ·rfl
theorem Al (tb:Tb) (H:Nat->Blk) (Z:Nat->Bool) (id:Nat) (t:TypeId) (x:AV) (lo hi mx:Option AV) (κ:K R):Ve tb H Z id t x lo hi mx κ=(Ve tb H Z id t x lo hi mx pk).bind (kb κ):=by
 unfold Ve;split
 ·split
  ·split
   ·exact zt _ _ (zm _ _ _ _ fun _=>rfl) rfl
   ·rfl
  ·split
   ·exact zt _ _ (zt _ _ (zt _ _ rfl rfl) rfl) rfl
   ·rfl
  ·rfl
 ·rfl
theorem R6 (tb:Tb) (H:Nat->Blk) (t:TypeId) (x:AV) (κ:AV->Option R):zb2 tb H t x κ=(zb2 tb H t x some).bind κ:=by
 unfold zb2;split
 ·rfl
 ·rfl
 ·rfl
 ·rfl
 ·split<;>rfl
 ·split<;>rfl
 ·rfl
theorem LN (tb:Tb) (H:Nat->Blk) (fz:Nat) (s d:TypeId) (x:AV) (κ:AV->Option R):B6 tb H fz s d x κ=(B6 tb H fz s d x some).bind κ:=by
 unfold B6;split
 ·rfl
 ·rfl
 ·exact zm _ _ _ _ fun _=>rfl
 ·rfl
 ·split
  ·exact zm _ _ _ _ fun _=>rfl
  ·rfl
 ·rfl
theorem Du (id:Nat) (ts:Tys) (bytes:Nat) (s x:AV) (κ:K R):QU id ts bytes s x κ=(QU id ts bytes s x pk).bind (kb κ):=by
 unfold QU;split
 ·rename_i n;generalize Ei n=p;generalize yK (bc n) bytes=q;cases p<;>cases q<;>rfl
 ·rfl
theorem ER (tb:Tb) (H:Nat->Blk) (Z:Nat->Bool) (t:TypeId) (a:AV) (κ:K R):Gx tb H Z t a κ=(Gx tb H Z t a pk).bind (kb κ):=by
 unfold Gx;split
 ·split
  ·rename_i us _ b _ _ _ _ g ts xs _;cases W4 us ts [] with
   | none=>rfl
   | some _ =>
    simp only[aa];cases Z b<;>rfl
  ·rfl
 ·rfl
theorem Co (H:Nat->Blk) (Z:Nat->Bool) (fz id:Nat) (ts:Tys) (bytes:Nat) (s x:AV) (κ:K R):WS H Z fz id ts bytes s x κ=(WS H Z fz id ts bytes s x pk).bind (kb κ):=by
 unfold WS;refine zm _ _ _ _ fun y => ?_;split
 ·exact zt _ _ rfl rfl
 ·split
  ·exact zm _ _ _ _ fun _=>zt _ _ rfl rfl
  ·rfl
 ·split
  ·exact zt _ _ rfl (zm _ _ _ _ fun _=>zt _ _ rfl rfl)
  ·rfl
 ·rfl
theorem EN (tb:Tb) (t:TypeId) (ps:List (Nat×AV)) (κ:AV->Option R):JG tb t ps κ=(JG tb t ps some).bind κ:=by
 unfold JG;split
 ·exact zm _ _ _ _ fun _=>zt _ _ (zm _ _ _ _ fun _=>rfl) rfl
 ·exact zm _ _ _ _ fun _=>zt _ _ (zm _ _ _ _ fun _=>rfl) rfl
 ·exact zt _ _ rfl rfl
 ·rfl
theorem KQ (tb:Tb) (H:Nat->Blk) (fz id:Nat) (t:TypeId) (n:Nat) (ps:List (Nat×AV)) (κ:K R):sM tb H fz id t n ps κ=(sM tb H fz id t n ps pk).bind (kb κ):=by
 unfold sM;split
 ·exact zm _ _ _ _ fun _=>zt _ _ (zm _ _ _ _ fun _=>rfl) rfl
 ·rfl
def Con.nat:Con->Prop
 | .gen f=>(∀{R:Type} (id fz:Nat) (as:List AV) (H:Nat->Blk) (Z:Nat->Bool) (κ:K R),f id fz as H Z κ=(f id fz as H Z pk).bind (kb κ)) ∧
  ∀{R:Type} (id fz:Nat) (H:Nat->Blk) (Z Z':Nat->Bool) (κ:K R),f id fz [] H Z κ=f id fz [] H Z' κ
theorem Nn {Γ:Ctx} (hn:∀ f c,Γ f=some c->c.nat) (H:Nat->Blk) (Z:Nat->Bool) (fz id:Nat) (f:FuncId) (as:List AV) (κ:K R):EV Γ H Z fz id f as κ=(EV Γ H Z fz id f as pk).bind (kb κ):=by
 unfold EV;split
 ·rename_i q hq;exact (hn f _ hq).1 ..
 ·rfl
theorem zbU {Γ:Ctx} (hn:∀ f c,Γ f=some c->c.nat) (tb:Tb) (gl:Gl) (fz id:Nat) (H:Nat->Blk) (Z:Nat->Bool) (φ:Nat->AV) (o:Oper) (κ:K R):opE tb gl Γ fz id H Z φ o κ=(opE tb gl Γ fz id H Z φ o pk).bind (kb κ):=by
 unfold opE;dsimp only;split
 ·rfl
 ·rfl
 ·split<;>rfl
 ·split
  ·rfl
  ·exact zm _ _ _ _ fun _=>rfl
 ·split
  ·split<;>rfl
  ·exact zt _ _ rfl rfl
 ·exact v5 (f:=fun {S} κ=>JG tb _ _ κ) (fun κ=>EN ..) κ
 ·exact KQ ..
 ·exact v5 (f:=fun {S} κ=>XL tb H _ _ κ) (fun κ=>Dk ..) κ
 ·exact EO ..
 ·exact v5 (f:=fun {S} κ=>xl H _ κ) (fun κ=>GW ..) κ
 ·exact v5 (f:=fun {S} κ=>zbe tb H _ _ _ _ κ) (fun κ=>Se ..) κ
 ·exact v5 (f:=fun {S} κ=>unE _ _ κ) (fun κ=>zbV ..) κ
 ·exact v5 (f:=fun {S} κ=>B6 tb H fz _ _ _ κ) (fun κ=>LN ..) κ
 ·exact zt _ _ rfl rfl
 ·split
  ·exact zt _ _ (zt _ _ (zt _ _ rfl rfl) rfl) rfl
  ·rfl
 ·refine zt _ _ (Al ..) ?_;exact v5 (f:=fun {S} κ=>K5 tb H _ _ _ _ _ κ) (fun κ=>FC ..) κ
 ·exact v5 (f:=fun {S} κ=>sJ tb H _ _ _ κ) (fun κ=>JS ..) κ
 ·exact v5 (f:=fun {S} κ=>KD tb _ _ _ κ) (fun κ=>FX ..) κ
 ·exact v5 (f:=fun {S} κ=>sF tb H _ _ _ κ) (fun κ=>JU ..) κ
 ·exact v5 (f:=fun {S} κ=>KW tb _ _ _ κ) (fun κ=>Fz ..) κ
 ·split
  ·split<;>rfl
  ·rfl
 ·split
  ·split
   ·exact Nn hn ..
   ·rfl
  ·split
   ·exact v5 (f:=fun {S} κ=>zb2 tb H _ _ κ) (fun κ=>R6 ..) κ
   ·rfl
  ·split
   ·split<;>rfl
   ·rfl
  ·split
   ·split<;>rfl
   ·rfl
  ·split
   ·split<;>rfl
   ·rfl
  ·split
   ·split
    ·exact zm _ _ _ _ fun _=>rfl
    ·rfl
    ·rfl
   ·rfl
  ·split
   ·split<;>rfl
   ·rfl
  ·split
   ·split
    ·exact Co ..
    ·exact Du ..
    ·rfl
   ·rfl
  ·split
   ·exact ER ..
   ·rfl
  ·split
   ·split<;>rfl
   ·rfl
  ·rfl
 ·rfl
def zaj (V:Env) (id:Nat) (hv:Nat->Blk) (Z:Nat->Bool) (φ:Nat->AV) (o:Oper):Option (AV×Eff):=opE V.tb V.gl V.Γ V.fz id hv Z φ o pk
theorem Jx {gl:Gl} {φ φ':Nat->AV}:{ps:List (Nat×Operand)}->(∀ q,q∈ps.map (·.2)->ev gl φ q=ev gl φ' q)->ps.map (fun p=>(p.1,ev gl φ p.2))=ps.map (fun p=>(p.1,ev gl φ' p.2))
 | [],_=>rfl
 | p::ps,h=>by
  rw[aK,aK,h p.2 (by simp),Jx fun q hq=>h q (by simp at hq ⊢; exact .inr hq)]
theorem Bh {gl:Gl} {φ φ':Nat->AV} {os:List Operand} (h:∀ q,q∈os->ev gl φ q=ev gl φ' q):os.map (ev gl φ)=os.map (ev gl φ'):=List.map_congr_left h
theorem Vk {gl:Gl} {φ φ':Nat->AV} {o:Option Operand} (h:∀ q,q∈o.toArray.toList->ev gl φ q=ev gl φ' q):o.map (ev gl φ)=o.map (ev gl φ'):=by
 cases o with
 | none=>rfl
 | some q=>simp [h q (by simp)]
theorem Od {tb:Tb} {gl:Gl} {Γ:Ctx} {fz id:Nat} {H:Nat->Blk} {Z:Nat->Bool} {φ φ':Nat->AV} {o:Oper} (h:∀ q,q∈o.op.operands.toList->ev gl φ q=ev gl φ' q) (κ:K R) :
  opE tb gl Γ fz id H Z φ o κ=opE tb gl Γ fz id H Z φ' o κ:=by
 unfold opE;dsimp only;cases hop:o.op with
 | build t ps =>
  simp only[hop,eH] at h ⊢;rw[Jx (by simpa using h)]
 | buildSlice t n ps =>
  simp only[hop,eH] at h ⊢;rw[Jx (by simpa using h)]
 | makeFunc fn first cs =>
  simp only[hop,eH] at h ⊢;cases fn with
  | func f =>
   simp only;rw[Bh fun q hq=>h q (by simp at hq ⊢; exact .inr hq)]
  | _=>rfl
 | slice t x lo hi mx =>
  simp only[hop,eH] at h ⊢;rw[h x (by simp),Vk (o:=lo) fun q hq=>h q (by simp at hq ⊢; simp [hq]),Vk (o:=hi) fun q hq=>h q (by simp at hq ⊢; simp [hq]),Vk (o:=mx) fun q hq=>h q (by simp at hq ⊢; simp [hq])]
 | call c =>
  simp only[hop,eH,Call.operands] at h ⊢;cases hc:c.callee with
  | value f =>
   simp only[hc] at h ⊢;have:evs gl φ c.args=evs gl φ' c.args:=Bh fun q hq=>h q (by simp at hq ⊢; exact .inr hq)
   rw[h f (by simp),this]
  | invoke r m=>rfl
  | builtin b =>
   simp only[hc] at h;have h:∀ i q,c.args[i]? = some q->ev gl φ q=ev gl φ' q:=fun i q hq=>h q (by simp; exact fJ hq)
   cases b with
   | len =>
    simp only;split
    ·rename_i x t hx _; rw[h _ _ hx]
    ·rfl
   | append =>
    simp only;split
    ·rename_i x y t u hx hy _ _; rw[h _ _ hx,h _ _ hy]
    ·rfl
   | clear =>
    simp only;split
    ·rename_i x t hx _; rw[h _ _ hx]
    ·rfl
   | cap =>
    simp only;split
    ·rename_i x t hx _; rw[h _ _ hx]
    ·rfl
   | real =>
    simp only;split
    ·rename_i x hx; rw[h 0 x (by rw[← aV,hx]; rfl)]
    ·rfl
   | imag =>
    simp only;split
    ·rename_i x hx; rw[h 0 x (by rw[← aV,hx]; rfl)]
    ·rfl
   | complex =>
    simp only;split
    ·rename_i x y hx; rw[h 0 x (by rw[← aV,hx]; rfl),h 1 y (by rw[← aV,hx]; rfl)]
    ·rfl
   | max =>
    simp only;split
    ·rename_i x y hx; rw[h 0 x (by rw[← aV,hx]; rfl),h 1 y (by rw[← aV,hx]; rfl)]
    ·rfl
   | min =>
    simp only;split
    ·rename_i x y hx; rw[h 0 x (by rw[← aV,hx]; rfl),h 1 y (by rw[← aV,hx]; rfl)]
    ·rfl
   | _=>rfl
 | _=>first | rfl | (simp [hop,eH] at h ⊢; simp [h])
theorem FD {tb:Tb} {gl:Gl} {Γ:Ctx} (hn:∀ f c,Γ f=some c->c.nat) {fz id:Nat} {H:Nat->Blk} {Z Z':Nat->Bool} {φ:Nat->AV} {o:Oper} (h:Je Γ gl o=false) (κ:K R) :
  opE tb gl Γ fz id H Z φ o κ=opE tb gl Γ fz id H Z' φ o κ:=by
 unfold Je at h;unfold opE;dsimp only;cases hop:o.op with
 | call c =>
  simp only[hop] at h ⊢;cases hc:c.callee with
  | value f =>
   cases f with
   | func g =>
    have h0:c.args.toList=[]:=by simpa[hc] using h
    have h1:evs gl φ c.args=[]:=by unfold evs; rw[h0]; rfl
    simp only[ev,h1,bO];unfold EV;split
    ·rename_i q hq;exact (hn g _ hq).2 ..
    ·rfl
   | _=>simp [hc] at h
  | builtin b=>cases b<;>first | rfl | (simp [hc] at h)
  | invoke r m=>rfl
 | store t p v=>simp [hop] at h
 | slice t x lo hi mx =>
  have h:Sj Γ o.dst=false:=by simpa[hop] using h
  simp only[h,cond_false]
 | makeFunc fn _ _=>cases fn<;>rfl
 | _=>rfl
end
section
variable {R:Type}
def J7 (ops:List Oper) (φ:Nat->AV) (o:Oper):Option Bool :=
 match o.guard with
 | none=>some true
 | some g=>match (ops[g.1]?).bind (·.dst) with
  | some d=>match φ d with
   | .val _ .bool b=>some (zbf b g.2)
   | .tup []=>some false
   | _=>none
  | none=>none
theorem PY (ops:List Oper) (φ:Nat->AV) (o:Oper) (yes no:Option R):zbS ops φ o yes no=(J7 ops φ o).bind fun b=>cond b yes no:=by
 unfold zbS J7;cases o.guard with
 | none=>rfl
 | some q =>
  dsimp only;cases (ops[q.1]?).bind (·.dst) with
  | none=>rfl
  | some d =>
   dsimp only;cases φ d with
   | val k t x=>cases t<;>rfl
   | tup cs=>cases cs<;>rfl
   | _=>rfl
theorem OY (g:Bool) (v:AV) (κ:AV->Option R):LZ g v κ=κ v:=by
 unfold LZ;split
 ·rename_i t b;have:∀ c:Bool,cond c (κ (.val t .bool true)) (κ (.val t .bool false))=κ (.val t .bool c):=by intro c; cases c<;>rfl
  exact this b
 ·rfl
def stp (V:Env) (ops:List Oper) (hv:Nat->Blk) (i:Nat) (st:St) (o:Oper) (chk:Eff->Bool):Option St :=
 (J7 ops st.φ o).bind fun b=>cond b
  ((zaj V (st.nx+8*i) hv st.Z st.φ o).bind fun p=>cond (chk p.2) (some (st.put o.dst p.1 p.2)) none)
  (some (st.put o.dst (.tup []) ⟨[],[]⟩))
theorem EJ {V:Env} (hn:∀ f c,V.Γ f=some c->c.nat) (ops:List Oper) (hv:Nat->Blk) (i:Nat) (st:St) (o:Oper) (chk:Eff->Bool) (κ:St->Option R) :
  Rr V ops hv i st o chk κ=(stp V ops hv i st o chk).bind κ:=by
 unfold Rr stp;rw[PY];refine zm _ _ _ _ fun b=>zt _ _ ?_ rfl;rw[zbU hn];refine (zm _ _ _ _ fun p => ?_);simp only[kb,OY];exact zt _ _ rfl rfl
def DI (V:Env) (ops:List Oper) (view:Nat->(Nat->Blk)->Nat->Blk) (chk:Nat->Eff->Bool):List Nat->St->Option St
 | [],st=>some st
 | i::l,st=>(ops[i]?).bind fun o=>cond (Ji V.n o) ((stp V ops (view i st.H) i st o (chk i)).bind fun st'=>DI V ops view chk l st') none
theorem Ll {V:Env} (hn:∀ f c,V.Γ f=some c->c.nat) (ops:List Oper):(r:List Oper)->(i:Nat)->(st:St)->(κ:St->Option R)->ops.drop i=r ->
  zcX V ops r i st κ=(DI V ops (fun _ H=>H) (fun _ _=>true) (ik i r.length) st).bind κ
 | [],i,st,κ,_=>rfl
 | o::r,i,st,κ,h=>by
  have ho:ops[i]? = some o:=by rw[← gD,h]; rfl
  have hr:ops.drop (i+1)=r:=by rw[← gM,h]; rfl
  simp only[ak,gp,DI,ho,aa,zcX];refine zt _ _ ?_ rfl;rw[EJ hn];exact zm _ _ _ _ fun st'=>Ll hn ops r (i+1) st' κ hr
theorem D1 {V:Env} {ops:List Oper} {hv:Nat->Blk} {i:Nat} {st st':St} {o:Oper} {chk:Eff->Bool} (h:stp V ops hv i st o chk=some st'):st'.nx=st.nx:=by
 unfold stp at h;obtain⟨b,-,h⟩:=ah.1 h;cases b with
 | false=>injection h with h; subst h; rfl
 | true =>
  obtain⟨p,-,h⟩:=ah.1 h;cases hc:chk p.2 with
  | false=>simp [hc] at h
  | true=>simp only[hc,cond_true] at h; injection h with h; subst h; rfl
theorem Pf {V:Env} (hn:∀ f c,V.Γ f=some c->c.nat) (hl:List (List Nat)) (ops:List Oper) (bs:List Nat) (nx:Nat):(r:List Oper)->(i:Nat)->(st:St)->(κ:St->Option R)->ops.drop i=r->st.nx=nx ->
  zdA V hl ops bs r i st κ=(DI V ops (fun i=>hvE hl bs nx i) (fun i=>N4 hl bs ops V.Γ V.gl nx i) (ik i r.length) st).bind κ
 | [],i,st,κ,_,_=>rfl
 | o::r,i,st,κ,h,hx=>by
  have ho:ops[i]? = some o:=by rw[← gD,h]; rfl
  have hr:ops.drop (i+1)=r:=by rw[← gM,h]; rfl
  simp only[ak,gp,DI,ho,aa,zdA];refine zt _ _ ?_ rfl;rw[EJ hn,hx];cases hs:stp V ops (hvE hl bs nx i st.H) i st o (N4 hl bs ops V.Γ V.gl nx i) with
  | none=>rfl
  | some st' =>
   simp only[aa];exact Pf hn hl ops bs nx r (i+1) st' κ hr ((D1 hs).trans hx)
structure Now (X:Fx) (V:Env) (d:List Deferred) (D:Nat->Prop) (st:St) (a:Act) (w:World) (g:Gh) (U:Nat->Prop):Prop where
 fr:RFr w g st.H U st.φ a.tmps
 mem:MemOk X g st.H st.Z U w
 n:a.tmps.size=V.n
 d:a.defers=d
 used:∀ b,U b->b<st.nx∨∃ i,D i∧st.nx+8*i<=b∧b<st.nx+8*i+8
structure Since (W:Nat->Prop) (w0:World) (g0:Gh) (H0:Nat->Blk) (U0:Nat->Prop) (a0:Act) (w:World) (g:Gh) (H:Nat->Blk) (U:Nat->Prop) (a:Act):Prop where
 mono:Mono (mem w0) g0 H0 U0 (mem w) g H U
 tmps:∀ t,¬ W t->a.tmps.getD t undef=a0.tmps.getD t undef
theorem Since.refl {W:Nat->Prop} {w:World} {g:Gh} {H:Nat->Blk} {U:Nat->Prop} {a:Act}:Since W w g H U a w g H U a:=⟨Mono.refl _ _ _ _,fun _ _=>rfl⟩
theorem Since.trans {W:Nat->Prop} {w0 w1 w2:World} {g0 g1 g2:Gh} {H0 H1 H2:Nat->Blk} {U0 U1 U2:Nat->Prop} {a0 a1 a2:Act} (h:Since W w0 g0 H0 U0 a0 w1 g1 H1 U1 a1) (h':Since W w1 g1 H1 U1 a1 w2 g2 H2 U2 a2):Since W w0 g0 H0 U0 a0 w2 g2 H2 U2 a2 :=
 ⟨h.mono.trans h'.mono,fun t ht=>(h'.tmps t ht).trans (h.tmps t ht)⟩
theorem Since.wider {W W':Nat->Prop} {w0 w1:World} {g0 g1:Gh} {H0 H1:Nat->Blk} {U0 U1:Nat->Prop} {a0 a1:Act} (h:Since W w0 g0 H0 U0 a0 w1 g1 H1 U1 a1) (hw:∀ t,W t->W' t):Since W' w0 g0 H0 U0 a0 w1 g1 H1 U1 a1 :=
 ⟨h.mono,fun t ht=>h.tmps t fun h'=>ht (hw t h')⟩
theorem C4 (a:Act) (dst:Option Tmp) (v:Value) (t:Nat) (h:dst≠some t):(a.put dst v).tmps.getD t undef=a.tmps.getD t undef:=by
 cases dst with
 | none=>rfl
 | some d =>
  have:d≠t:=fun e=>h (by rw[e])
  simp [iI,bg,Array.getElem?_setIfInBounds_ne this]
theorem OE {w:World} {g:Gh} {H:Nat->Blk} {U:Nat->Prop} {φ:Nat->AV} {tmps:Array Value} (hf:RFr w g H U φ tmps) {ops:Array Oper} {o:Oper} {b:Bool} (h:J7 ops.toList φ o=some b):gR o (yielded ops tmps)=b:=by
 unfold J7 at h;unfold gR;split at h
 ·rename_i hg; rw[hg]; injection h
 ·rename_i q hg;rw[hg];split at h
  ·rename_i d hd;split at h
   ·rename_i k c hφ;have hr:=hf d;rw[hφ] at hr;have hr:tmps.getD d undef = .bool c:=hr;have hy:yielded ops tmps q.1=some c:=by
     unfold yielded;rw[show ((ops[q.1]?).bind fun x=>x.dst)=some d from by rw[← hd]; simp]
     simp only[aa];cases ht:tmps[d]? with
     | none=>simp [bg,ht,undef] at hr
     | some v =>
      simp only[bg,ht,bj] at hr;rw[hr]; rfl
    simp only[hy];injection h with h;subst h;obtain⟨q1,q2⟩:=q;cases q2<;>simp only[zbf]
    ·have:∀ c:Bool,((some c==some false) = !c):=by intro c; cases c<;>rfl
     exact this c
    ·have:∀ c:Bool,((some c==some true)=c):=by intro c; cases c<;>rfl
     exact this c
   ·rename_i hφ;have hr:=hf d;rw[hφ] at hr;obtain⟨vs,hr,hvs⟩:=hr;have hvs:vs.toList=[]:=hvs;have hy:yielded ops tmps q.1=none:=by
     unfold yielded;rw[show ((ops[q.1]?).bind fun x=>x.dst)=some d from by rw[← hd]; simp]
     simp only[aa];cases ht:tmps[d]? with
     | none=>rfl
     | some v =>
      simp only[bg,ht,bj] at hr;rw[hr]
    injection h with h;subst h;simp [hy]
   ·cases h
  ·cases h
theorem RFr.place {w:World} {g:Gh} {H:Nat->Blk} {U:Nat->Prop} {φ:Nat->AV} {a:Act} (h:RFr w g H U φ a.tmps) {n:Nat} (hn:a.tmps.size=n) {o:Oper} (hd:Ji n o=true) {av:AV} {v:Value} (hv:RAV (mem w) g H U av v) :
  RFr w g H U (match o.dst with | some d=>upd φ d av | none=>φ) (a.put o.dst v).tmps:=by
 unfold Ji at hd;cases hdst:o.dst with
 | none=>exact h
 | some d =>
  simp only[hdst] at hd;exact h.put (by rw[hn]; exact bV hd) hv
theorem Et (a:Act) (dst:Option Tmp) (v:Value):(a.put dst v).tmps.size=a.tmps.size:=by
 cases dst<;>simp [iI]
theorem Gz (a:Act) (dst:Option Tmp) (v:Value):(a.put dst v).defers=a.defers:=by
 cases dst<;>rfl
theorem GS {P:Program} {X:Fx} {V:Env} (hV:VOk P X V) {Q:Exit->Act->World->Prop} {ops:Array Oper} {i:Nat} {o:Oper} (ho:ops[i]? = some o) {d:List Deferred} {D:Nat->Prop} {st st':St} {a:Act} {w:World} {g:Gh} {U:Nat->Prop}
  (hn:Now X V d D st a w g U) (hi:¬ D i) {hv:Nat->Blk} (hh:∀ b,hv b = .dead∨hv b=st.H b) {chk:Eff->Bool} (hd:Ji V.n o=true) (h:stp V ops.toList hv i st o chk=some st') {K:Act->World->Prop} {W:Nat->Prop} (hW:∀ t,o.dst=some t->W t)
  (hK:∀ a' w' g' U',Now X V d (fun j=>D j∨j=i) st' a' w' g' U'->Since W w g st.H U a w' g' st'.H U' a'->K a' w'):wpOp P ops Q i K a w:=by
 have hid:∀ b,st.nx+8*i<=b->b<st.nx+8*i+8->¬ U b:=by
  intro b h1 h2 hu;rcases hn.used b hu with h3 | ⟨j,hj,h3,h4⟩
  ·omega
  ·have:j=i:=by omega
   exact hi (this▸hj)
 unfold stp at h;obtain⟨b,hb,h⟩:=ah.1 h;have hw:=OE hn.fr hb;unfold wpOp;rw[ho];simp only[hw];cases b with
 | false =>
  injection h with h;subst h;simp only[eh,if_false];refine hK _ _ g U ⟨hn.fr.place hn.n hd (show RAV _ _ _ _ (.tup []) undef from ⟨#[],rfl,rfl⟩),hn.mem,(Et ..).trans hn.n,(Gz ..).trans hn.d,fun b hb=>(hn.used b hb).imp (fun h=>h) fun ⟨j,h1,h2⟩=>⟨j,.inl h1,h2⟩⟩ ⟨Mono.refl _ _ _ _,fun t ht=>C4 _ _ _ _ fun e=>ht (hW t e)⟩
 | true =>
  simp only[if_true];obtain⟨p,hp,h⟩:=ah.1 h;cases hc:chk p.2 with
  | false=>simp [hc] at h
  | true =>
   simp only[hc,cond_true] at h;injection h with h;subst h;refine .inl ((O7 hV hn.mem hh hid hn.fr hp).wp fun v w' hpost => ?_);obtain⟨av,e,g',hk,hr,hm,hmo⟩:=hpost;injection hk with hk;subst hk;refine hK _ _ g' (UI U (st.nx+8*i)) ⟨(hn.fr.mono hmo).place hn.n hd hr,hm,(Et ..).trans hn.n,(Gz ..).trans hn.d,fun b hb => ?_⟩ ⟨hmo,fun t ht=>C4 _ _ _ _ fun e=>ht (hW t e)⟩;rcases hb with hb | hb
   ·exact (hn.used b hb).imp (fun h=>h) fun ⟨j,h1,h2⟩=>⟨j,.inl h1,h2⟩
   ·exact .inr ⟨i,.inr rfl,hb.1,hb.2⟩
theorem Gv {P:Program} {X:Fx} {V:Env} (hV:VOk P X V) {Q:Exit->Act->World->Prop} {ops:Array Oper} {view:Nat->(Nat->Blk)->Nat->Blk} (hview:∀ i H b,view i H b = .dead∨view i H b=H b) {chk:Nat->Eff->Bool} {d:List Deferred} {W:Nat->Prop}
  (hW:∀(i:Nat) o t,ops[i]? = some o->o.dst=some t->W t):(l:List Nat)->{D:Nat->Prop}->{st st':St}->{a:Act}->{w:World}->{g:Gh}->{U:Nat->Prop}->Now X V d D st a w g U->(∀ i,i∈l->¬ D i)->l.Nodup ->
  DI V ops.toList view chk l st=some st' ->
  (∀ a' w' g' U',Now X V d (fun j=>D j∨j∈l) st' a' w' g' U'->Since W w g st.H U a w' g' st'.H U' a'->Q .normal a' w')->wpOps P ops Q l a w
 | [],D,st,st',a,w,g,U,hn,_,_,h,hQ=>by
  injection h with h; subst h;exact hQ _ _ g U { hn with used:=fun b hb=>(hn.used b hb).imp (fun h=>h) fun ⟨j,h1,h2⟩=>⟨j,.inl h1,h2⟩ } Since.refl
 | i::l,D,st,st',a,w,g,U,hn,hD,hl,h,hQ=>by
  simp only[DI] at h;obtain⟨o,ho,h⟩:=ah.1 h;have ho:ops[i]? = some o:=by simpa using ho
  cases hd:Ji V.n o with
  | false=>simp [hd] at h
  | true =>
   simp only[hd,cond_true] at h;obtain⟨s1,hs1,h⟩:=ah.1 h;rw[wpOps_cons];refine GS hV ho hn (hD i (by simp)) (hview i st.H) hd hs1 (W:=W) (fun t ht=>hW i o t ho ht) fun a1 w1 g1 U1 hn1 hsi => ?_
   refine Gv hV hview hW l hn1 (fun j hj => ?_) (dL.1 hl).2 h fun a2 w2 g2 U2 hn2 hsi2 => ?_
   ·rintro (h' | rfl)
    ·exact hD j (by simp [hj]) h'
    ·exact (dL.1 hl).1 hj
   ·refine hQ a2 w2 g2 U2 { hn2 with used:=fun b hb=>(hn2.used b hb).imp (fun h=>h) fun ⟨j,h1,h2⟩=>⟨j,?_,h2⟩ } (hsi.trans hsi2);rcases h1 with (h1 | rfl) | h1
    ·exact .inl h1
    ·exact .inr (by simp)
    ·exact .inr (by simp [h1])
theorem Ca {V:Env} {ops:List Oper} {view:Nat->(Nat->Blk)->Nat->Blk} {chk:Nat->Eff->Bool}:(l:List Nat)->{st st':St}->DI V ops view chk l st=some st'->st'.nx=st.nx
 | [],st,st',h=>by injection h with h; subst h; rfl
 | i::l,st,st',h=>by
  simp only[DI] at h;obtain⟨o,ho,h⟩:=ah.1 h;cases hd:Ji V.n o with
  | false=>simp [hd] at h
  | true =>
   simp only[hd,cond_true] at h;obtain⟨s1,hs1,h⟩:=ah.1 h;exact (Ca l h).trans (D1 hs1)
end
section
variable {R:Type}
theorem vr {H:Nat->Blk} {b:Nat}:{ws:List (Nat×Blk)}->(∀ p,p∈ws->p.1≠b)->qQ H ws b=H b
 | [],_=>rfl
 | p::ws,h=>by
  show qQ (upd H p.1 p.2) ws b=H b;rw[vr fun q hq=>h q (by simp [hq]),xV _ _ (dD (h p (by simp)))]
theorem KT {H H':Nat->Blk} {b:Nat}:{ws:List (Nat×Blk)}->(∃ p,p∈ws∧p.1=b)->qQ H ws b=qQ H' ws b
 | [],h=>by obtain⟨p,h,-⟩:=h; cases h
 | p::ws,h=>by
  show qQ (upd H p.1 p.2) ws b=qQ (upd H' p.1 p.2) ws b;by_cases hq:∃ q,q∈ws∧q.1=b
  ·exact KT hq
  ·have h1:∀ q,q∈ws->q.1≠b:=fun q h1 h2=>hq ⟨q,h1,h2⟩;rw[vr h1,vr h1];obtain⟨q,hq1,hq2⟩:=h;rcases aG.1 hq1 with rfl | hq1
   ·rw[hq2,zx,zx]
   ·exact absurd hq2 (h1 q hq1)
theorem BY {H:Nat->Blk} {ws us:List (Nat×Blk)} (h:∀ p,p∈ws->∀ q,q∈us->p.1≠q.1):qQ (qQ H ws) us=qQ (qQ H us) ws:=by
 funext b
 by_cases hw:∃ p,p∈ws∧p.1=b
 ·obtain⟨p,hp,rfl⟩:=hw;rw[vr fun q hq=>dD (h p hp q hq)];exact KT ⟨p,hp,rfl⟩
 ·rw[vr (H:=qQ H us) fun p hp e=>hw ⟨p,hp,e⟩];by_cases hu:∃ p,p∈us∧p.1=b
  ·exact KT hu
  ·rw[vr fun p hp e=>hu ⟨p,hp,e⟩,vr fun p hp e=>hw ⟨p,hp,e⟩,vr fun p hp e=>hu ⟨p,hp,e⟩]
theorem QE {Z:Nat->Bool} {b:Nat}:(zs:List Nat)->wu Z zs b=(Z b||zs.any fun z=>aA b z)
 | []=>by simp [wu]
 | z::zs=>by
  show wu (upd Z z true) zs b=_;rw[QE zs];by_cases h:b=z
  ·subst h; simp [zx]
  ·rw[xV _ _ h];have:aA b z=false:=by rw[← fj]; simpa using h
   simp [this]
theorem A5 {Z:Nat->Bool} (xs ys:List Nat):wu (wu Z xs) ys=wu (wu Z ys) xs:=by
 funext b
 simp only[QE];rw[gS,gS]
 congr 1
 rw[fB]
def zcU (V:Env) (ops:List Oper) (id:Nat) (hv:Nat->Blk) (Z:Nat->Bool) (φ:Nat->AV) (o:Oper):Option (AV×Eff) :=
 (J7 ops φ o).bind fun b=>cond b (zaj V id hv Z φ o) (some (.tup [],⟨[],[]⟩))
theorem Oy {V:Env} {ops:List Oper} {hv:Nat->Blk} {i:Nat} {st:St} {o:Oper} {chk:Eff->Bool} (h0:chk ⟨[],[]⟩=true) :
  stp V ops hv i st o chk=(zcU V ops (st.nx+8*i) hv st.Z st.φ o).bind fun p=>cond (chk p.2) (some (st.put o.dst p.1 p.2)) none:=by
 unfold stp zcU;cases J7 ops st.φ o with
 | none=>rfl
 | some b =>
  cases b with
  | true=>rfl
  | false=>simp [h0]
theorem Io (hl0:List (List Nat)) (bs:List Nat) (ops:List Oper) (Γ:Ctx) (gl:Gl) (nx i:Nat):N4 hl0 bs ops Γ gl nx i ⟨[],[]⟩=true:=by simp [N4]
structure Indep (V:Env) (ops:Array Oper) (bs:List Nat) (i j:Nat) (oi oj:Oper):Prop where
 ne:i≠j
 uno:ur bs i j=false
 lt:i<ops.size∧j<ops.size
 hi:ops[i]? = some oi
 hj:ops[j]? = some oj
 dst:∀ d,oj.dst=some d->oi.dst≠some d
 looks:∀ d,oj.dst=some d->d∉oi.looksAt ops
 turn:Je V.Γ V.gl oi=true->Je V.Γ V.gl oj=false
theorem OZ {ops:Array Oper} {o:Oper} {t:Nat} (h:iJ t∈o.op.operands.toList):t∈o.looksAt ops:=by
 unfold g9;exact bk _ (f6.2 ⟨_,h,rfl⟩)
theorem A3 {ops:Array Oper} {φ φ':Nat->AV} {o:Oper} (h:∀ t,t∈o.looksAt ops->φ t=φ' t):J7 ops.toList φ o=J7 ops.toList φ' o:=by
 unfold J7;cases hg:o.guard with
 | none=>rfl
 | some q =>
  dsimp only;cases hd:(ops.toList[q.1]?).bind (·.dst) with
  | none=>rfl
  | some d =>
   dsimp only;rw[h d];unfold g9;refine bp _ ?_;rw[hg];have:(ops[q.1]?).bind (·.dst)=some d:=by rw[← hd]; simp
   simp [this]
theorem Dq {V:Env} (hn:∀ f c,V.Γ f=some c->c.nat) {ops:Array Oper} {hl0:List (List Nat)} {bs:List Nat} {nx i j:Nat} {oi oj:Oper} (hI:Indep V ops bs i j oi oj) {st:St} {v:AV} {e:Eff} (hc:N4 hl0 bs ops.toList V.Γ V.gl nx j e=true) :
  zcU V ops.toList (nx+8*i) (hvE hl0 bs nx i (st.put oj.dst v e).H) (st.put oj.dst v e).Z (st.put oj.dst v e).φ oi=zcU V ops.toList (nx+8*i) (hvE hl0 bs nx i st.H) st.Z st.φ oi:=by
 simp only[N4,ay,aD,b9] at hc;obtain⟨hws,hzs⟩:=hc;have huno:=hI.uno;simp only[ur,da] at huno;have hφ:∀ t,t∈oi.looksAt ops->(st.put oj.dst v e).φ t=st.φ t:=by
  intro t ht;show (match oj.dst with | some d=>upd st.φ d v | none=>st.φ) t=st.φ t
  cases hd:oj.dst with
  | none=>rfl
  | some d=>exact xV _ _ fun e=>hI.looks d hd (e▸ht)
 have hev:∀ q,q∈oi.op.operands.toList->ev V.gl (st.put oj.dst v e).φ q=ev V.gl st.φ q:=by
  intro q hq;cases q with
  | tmp t=>exact hφ t (OZ hq)
  | _=>rfl
 have hH:hvE hl0 bs nx i (st.put oj.dst v e).H=hvE hl0 bs nx i st.H:=by
  funext b
  unfold hvE;cases hok:okV hl0 bs nx i b with
  | false=>rfl
  | true =>
   refine vr fun p hp hpb => ?_;subst hpb;rcases hws p hp with hm | ⟨-,hm⟩
   ·simp only[mine,ay,cp] at hm;simp only[okV,zgI,hm.1,cond_false,ay] at hok;have hok:=hok.1;rw[au hm.2] at hok;rw[hok] at huno;exact absurd huno.2 (by simp)
   ·have:=hm i (bZ.2 (by simpa using hI.lt.1))
    rcases this with (h1 | h1) | h1
    ·exact hI.ne (au h1)
    ·simp only[ur,b9] at h1;rcases h1 with h1 | h1
     ·rw[huno.2] at h1; cases h1
     ·rw[huno.1] at h1; cases h1
    ·rw[hok] at h1; exact absurd h1.1 (by simp)
 unfold zcU zaj;rw[A3 hφ,hH,Od hev];cases ht:Je V.Γ V.gl oi with
 | false=>rw[FD hn ht]
 | true =>
  have hz:e.zs=[]:=by
   rcases hzs with hz | hz
   ·simpa using hz
   ·have:=hz (oi,i) (by rw[eM]; simpa using hI.hi)
    rcases this with (h1 | h1) | h1
    ·exact absurd (au h1) hI.ne
    ·simp only[ur,b9] at h1;rcases h1 with h1 | h1
     ·rw[huno.2] at h1; cases h1
     ·rw[huno.1] at h1; cases h1
    ·simp [ht] at h1
  have:(st.put oj.dst v e).Z=st.Z:=by show wu st.Z e.zs=st.Z; rw[hz]; rfl
  rw[this]
theorem Re {st:St} {x y:Option Tmp} {v u:AV} {e f:Eff} (hd:∀ d,x=some d->y≠some d) (hw:∀ p,p∈e.ws->∀ q,q∈f.ws->p.1≠q.1):(st.put x v e).put y u f=(st.put y u f).put x v e:=by
 obtain⟨φ,H,Z,nx⟩:=st;simp only[St.put,St.mk.injEq,and_true];refine ⟨?_,BY hw,A5 _ _⟩;cases x with
 | none=>rfl
 | some d =>
  cases y with
  | none=>rfl
  | some c=>exact Ra _ _ _ fun e=>hd d rfl (by rw[e])
theorem Nd {V:Env} {ops:Array Oper} {hl0:List (List Nat)} {bs:List Nat} {nx i j:Nat} {oi oj:Oper} (hI:Indep V ops bs i j oi oj) {e f:Eff} (he:N4 hl0 bs ops.toList V.Γ V.gl nx i e=true) (hf:N4 hl0 bs ops.toList V.Γ V.gl nx j f=true) :
  ∀ p,p∈f.ws->∀ q,q∈e.ws->p.1≠q.1:=by
 simp only[N4,ay,aD,b9] at he hf;have huno:=hI.uno;simp only[ur,da] at huno;intro p hp q hq hpq;have hmm:∀{k b},mine nx k b=true->¬ b<nx∧(b - nx) / 8=k:=by
  intro k b hm;simp only[mine,ay,cp] at hm;refine ⟨fun h => ?_,au hm.2⟩;have:dC b nx=true:=cI h;rw[this] at hm; cases hm.1
 have hothers:∀{k l:Nat} {b:Nat},k<ops.size->(∀ x,x∈aL ops.toList.length->((x.beq l=true∨ur bs l x=true)∨((!okV hl0 bs nx x b)=true∧(!mine nx x b)=true)))->k≠l->ur bs l k=false->okV hl0 bs nx k b=false∧mine nx k b=false:=by
  intro k l b hk h hkl ho;rcases h k (bZ.2 (by simpa using hk)) with (h1 | h1) | h1
  ·exact absurd (au h1) hkl
  ·rw[ho] at h1; cases h1
  ·simpa using h1
 have hoij:ur bs i j=false:=hI.uno;have hoji:ur bs j i=false:=by rw[ur,fB]; exact hI.uno
 rcases hf.1 p hp with h1 | ⟨h1,h2⟩
 ·rcases he.1 q hq with h3 | ⟨h3,h4⟩
  ·have a1:=hmm h1;have a2:=hmm h3;rw[hpq] at a1;exact hI.ne (a2.2.symm.trans a1.2)
  ·have:=(hothers hI.lt.2 h4 (dD hI.ne) hoij).2;rw[← hpq,h1] at this; cases this
 ·rcases he.1 q hq with h3 | ⟨h3,h4⟩
  ·have:=(hothers hI.lt.1 h2 hI.ne hoji).2;rw[hpq,h3] at this; cases this
  ·have:=(hothers hI.lt.1 h2 hI.ne hoji).1;rw[hpq,h3] at this; cases this
abbrev JP (hl0:List (List Nat)) (bs:List Nat) (nx:Nat):Nat->(Nat->Blk)->Nat->Blk:=fun i=>hvE hl0 bs nx i
abbrev Pw (V:Env) (ops:Array Oper) (hl0:List (List Nat)) (bs:List Nat) (nx:Nat):Nat->Eff->Bool:=fun i=>N4 hl0 bs ops.toList V.Γ V.gl nx i
theorem Indep.symm {V:Env} {ops:Array Oper} {bs:List Nat} {i j:Nat} {oi oj:Oper} (h:Indep V ops bs i j oi oj) (hl:∀ d,oi.dst=some d->d∉oj.looksAt ops):Indep V ops bs j i oj oi :=
 ⟨dD h.ne,by rw[ur,fB]; exact h.uno,⟨h.lt.2,h.lt.1⟩,h.hj,h.hi,fun d h1 h2=>h.dst d h2 h1,hl,fun h1=>by
  cases h2:Je V.Γ V.gl oi with
  | false=>rfl
  | true=>rw[h.turn h2] at h1; cases h1⟩
theorem zeu {V:Env} (hn:∀ f c,V.Γ f=some c->c.nat) {ops:Array Oper} {hl0:List (List Nat)} {bs:List Nat} {i j:Nat} {oi oj:Oper} (hI:Indep V ops bs i j oi oj) (hl:∀ d,oi.dst=some d->d∉oj.looksAt ops) {st s1 s2:St}
  (h1:stp V ops.toList (JP hl0 bs st.nx j st.H) j st oj (Pw V ops hl0 bs st.nx j)=some s1) (h2:stp V ops.toList (JP hl0 bs st.nx i s1.H) i s1 oi (Pw V ops hl0 bs st.nx i)=some s2) :
  ∃ s,stp V ops.toList (JP hl0 bs st.nx i st.H) i st oi (Pw V ops hl0 bs st.nx i)=some s∧stp V ops.toList (JP hl0 bs st.nx j s.H) j s oj (Pw V ops hl0 bs st.nx j)=some s2:=by
 have hx:=D1 h1;rw[Oy (Io ..)] at h1 h2;obtain⟨⟨v,e⟩,hr1,h1⟩:=ah.1 h1;obtain⟨⟨u,f⟩,hr2,h2⟩:=ah.1 h2;cases hc1:Pw V ops hl0 bs st.nx j e with
 | false=>simp [hc1] at h1
 | true =>
  simp only[hc1,cond_true] at h1;injection h1 with h1; subst h1;cases hc2:Pw V ops hl0 bs st.nx i f with
  | false=>simp [hc2] at h2
  | true =>
   simp only[hc2,cond_true] at h2;injection h2 with h2; subst h2;rw[hx,JP,Dq hn hI hc1] at hr2;refine ⟨st.put oi.dst u f,?_,?_⟩
   ·rw[Oy (Io ..),hr2];simp only[aa,hc2,cond_true]
   ·rw[Oy (Io ..),JP,show (st.put oi.dst u f).nx=st.nx from rfl,Dq hn (hI.symm hl) hc2,hr1]
    simp only[aa,hc1,cond_true];rw[Re (fun d hd=>fun h'=>hI.dst d h' hd) fun p hp q hq=>dD (Nd hI hc2 hc1 q hq p hp)]
theorem Gu {V:Env} (hn:∀ f c,V.Γ f=some c->c.nat) {ops:Array Oper} {hl0:List (List Nat)} {bs:List Nat} {nx i:Nat} {oi:Oper} {q:List Nat}:(p:List Nat)->{st st':St}->st.nx=nx ->
  (∀ j,j∈p->∃ oj,Indep V ops bs i j oi oj∧(∀ d,oi.dst=some d->d∉oj.looksAt ops))->DI V ops.toList (JP hl0 bs nx) (Pw V ops hl0 bs nx) (p++i::q) st=some st' ->
  DI V ops.toList (JP hl0 bs nx) (Pw V ops hl0 bs nx) (i::(p++q)) st=some st'
 | [],st,st',_,_,h=>h
 | j::p,st,st',hx,hp,h=>by
  obtain⟨oj,hI,hl⟩:=hp j (by simp)
  have hj:ops.toList[j]? = some oj:=by simpa using hI.hj
  have hi:ops.toList[i]? = some oi:=by simpa using hI.hi
  simp only[dZ,DI,hj,aa] at h;cases hdj:Ji V.n oj with
  | false=>simp [hdj] at h
  | true =>
   simp only[hdj,cond_true] at h;obtain⟨s1,hs1,h⟩:=ah.1 h;have h:=Gu hn p ((D1 hs1).trans hx) (fun k hk=>hp k (by simp [hk])) h
   simp only[DI,hi,aa] at h;cases hdi:Ji V.n oi with
   | false=>simp [hdi] at h
   | true =>
    simp only[hdi,cond_true] at h;obtain⟨s2,hs2,h⟩:=ah.1 h;subst hx;obtain⟨s,h1,h2⟩:=zeu hn hI hl hs1 hs2;simp only[dZ,DI,hi,hj,aa,hdi,hdj,cond_true];rw[h1];simp only[aa];rw[h2];exact h
theorem I7 (bs:List Nat):(es:List Edge)->(s k:Nat)->(es.foldl (fun s e=>cond (dq .any e) (s ||| 2 ^ e.on ||| bs.getD e.on 0) s) s).testBit k=true ->
  s.testBit k=true∨∃ e,e∈es∧dq .any e=true∧(e.on=k∨(bs.getD e.on 0).testBit k=true)
 | [],s,k,h=>.inl h
 | e::es,s,k,h=>by
  rw[List.foldl_cons] at h;rcases I7 bs es _ k h with h | ⟨f,hf,h1,h2⟩
  ·cases hb:dq .any e with
   | false=>rw[hb] at h; exact .inl h
   | true =>
    rw[hb] at h;simp only[cond_true,Nat.testBit_or,b9,Nat.testBit_two_pow,decide_eq_true_eq] at h;rcases h with (h | h) | h
    ·exact .inl h
    ·exact .inr ⟨e,by simp,hb,.inl h⟩
    ·exact .inr ⟨e,by simp,hb,.inr h⟩
  ·exact .inr ⟨f,by simp [hf],h1,h2⟩
structure Draws (V:Env) (ops:Array Oper) (bs:List Nat):Prop where
 edge:∀(i:Nat) o e,ops[i]? = some o->e∈o.after.toList->dq .any e=true->e.on<i
 bits:∀(i k:Nat) o,ops[i]? = some o->(bs.getD i 0).testBit k=true->∃ e,e∈o.after.toList∧dq .any e=true∧(e.on=k∨(bs.getD e.on 0).testBit k=true)
 pair:∀(j i:Nat) oj oi,ops[j]? = some oj->ops[i]? = some oi->j<i->ur bs j i=true∨(Oper.apart ops oj oi=true∧(Je V.Γ V.gl oj&&Je V.Γ V.gl oi)=false)
theorem Rh {V:Env} {ops:Array Oper} {bs:List Nat} (h:Bf V ops.toList bs=true):Draws V ops bs:=by
 simp only[Bf,ay,aD] at h;obtain⟨⟨h1,h2⟩,h3⟩:=h;have hz:∀{i:Nat} {o:Oper},ops[i]? = some o->(o,i)∈ops.toList.zipIdx:=fun h=>by rw[eM]; simpa using h
 refine ⟨fun i o e ho he hb => ?_,fun i k o ho hk => ?_,fun j i oj oi hj hi hlt => ?_⟩
 ·have:=h1 _ (hz ho) e he;rw[hb] at this;exact bV (this:(!true||ci (e.on+1) i)=true)
 ·have:=au (h2 _ (hz ho));rw[this] at hk;rcases I7 bs _ _ _ hk with h | h
  ·simp at h
  ·exact h
 ·have:=h3 _ (hz hi) _ (hz hj);have hb:dC j i=true:=cI hlt;rw[hb] at this;simp only[cond_true,b9,ay] at this;rcases this with h | ⟨h,h'⟩
  ·exact .inl h
  ·exact .inr ⟨h,by rw[← fj]; intro hc; rw[hc] at h'; cases h'⟩
theorem Draws.lt {V:Env} {ops:Array Oper} {bs:List Nat} (h:Draws V ops bs):∀(i k:Nat) o,ops[i]? = some o->(bs.getD i 0).testBit k=true->k<i:=by
 intro i
 induction i using Nat.strongRecOn with
 | _ i ih =>
  intro k o ho hk;obtain⟨e,he,hb,h1⟩:=h.bits i k o ho hk;have hlt:=h.edge i o e ho he hb;rcases h1 with rfl | h1
  ·exact hlt
  ·have:e.on<ops.size:=hJ hlt (bJ.1 ho).1;have:=ih e.on hlt k _ (bi this) h1;omega
theorem Jc {ops:Array Oper} {listed:Array Bool} {i:Nat}:i∈fC .any ops listed↔i<ops.size∧listed.getD i true=false∧∃ o,ops[i]? = some o∧∀ e,e∈o.after.toList->dq .any e=true->listed.getD e.on false=true:=by
 unfold fC;simp only[List.mem_filter,bZ,ay,cp];refine and_congr fv (and_congr fv ?_);cases ho:ops[i]? with
 | none=>simp
 | some o =>
  simp only[bD,bj,aq,exists_eq_left'];rw[Array.all_eq_true'];constructor
  ·intro h e he hb;have:=h e (by simpa using he)
   simpa[hb] using this
  ·intro h e he;cases hb:dq .any e with
   | false=>simp
   | true=>simpa using h e (by simpa using he) hb
theorem NM {P:Program} {X:Fx} {V:Env} (hV:VOk P X V) (hnat:∀ f c,V.Γ f=some c->c.nat) {Q:Exit->Act->World->Prop} {ops:Array Oper} {hl0:List (List Nat)} {bs:List Nat} (hdr:Draws V ops bs) {nx:Nat} {d:List Deferred} {W:Nat->Prop}
  (hW:∀(i:Nat) o t,ops[i]? = some o->o.dst=some t->W t) {st':St}:(ze:Nat)->{rem:List Nat}->{listed:Array Bool}->{D:Nat->Prop}->{st:St}->{a:Act}->{w:World}->{g:Gh}->{U:Nat->Prop} ->
  st.nx=nx->Now X V d D st a w g U->(∀ i,i∈rem->¬ D i)->rem.Pairwise (· < ·)->listed.size=ops.size->(∀ i,i<ops.size->(listed[i]? = some true↔i∉rem))->(∀ i,i∈rem->i<ops.size) ->
  (∀ i k,i<ops.size->i∉rem->(bs.getD i 0).testBit k=true->k∉rem)->rem.length<=ze ->
  DI V ops.toList (JP hl0 bs nx) (Pw V ops hl0 bs nx) rem st=some st' ->
  (∀ a' w' g' U',Now X V d (fun j=>D j∨j∈rem) st' a' w' g' U'->Since W w g st.H U a w' g' st'.H U' a'->Q .normal a' w')->wpAny P .any ops Q ze listed a w:=by
 have base:∀{D:Nat->Prop} {st:St} {a:Act} {w:World} {g:Gh} {U:Nat->Prop},Now X V d D st a w g U->DI V ops.toList (JP hl0 bs nx) (Pw V ops hl0 bs nx) [] st=some st' ->
   (∀ a' w' g' U',Now X V d (fun j=>D j∨j∈[]) st' a' w' g' U'->Since W w g st.H U a w' g' st'.H U' a'->Q .normal a' w')->Q .normal a w:=by
  intro D st a w g U hn h hQ;injection h with h; subst h;exact hQ _ _ g U { hn with used:=fun b hb=>(hn.used b hb).imp (fun h=>h) fun ⟨j,h1,h2⟩=>⟨j,.inl h1,h2⟩ } Since.refl
 have least:∀{rem:List Nat} {listed:Array Bool},rem.Pairwise (· < ·)->listed.size=ops.size->(∀ i,i<ops.size->(listed[i]? = some true↔i∉rem))->(∀ i,i∈rem->i<ops.size)->fC .any ops listed=[]->rem=[]:=by
  intro rem listed hs hsz hl hb hr;cases rem with
  | nil=>rfl
  | cons i rest =>
   have hi:i<ops.size:=hb i (by simp)
   have:i∈fC .any ops listed:=by
    rw[Jc];refine ⟨hi,?_,_,bi hi,fun e he hbd => ?_⟩
    ·have:=fun hc=>(hl i hi).1 hc (by simp)
     rw[bg];cases hli:listed[i]? with
     | none=>rw[Array.getElem?_eq_none_iff] at hli; omega
     | some b=>cases b with
      | false=>rfl
      | true=>exact absurd hli this
    ·have hlt:=hdr.edge i _ e (bi hi) he hbd;have:e.on∉i::rest:=by
      intro hm;rcases aG.1 hm with h | h
      ·omega
      ·have:=eX hs h;omega
     have:=(hl e.on (by omega)).2 this
     rw[bg,this]; rfl
   rw[hr] at this; cases this
 intro ze
 induction ze with
 | zero =>
  intro rem listed D st a w g U hx hn hD hs hsz hl hb hdown hf h hQ;have:rem=[]:=ba (by omega)
  subst this;refine ⟨?_,base hn h hQ⟩;rw[List.eq_nil_iff_forall_not_mem];intro i hi;rw[Jc] at hi;have:=(hl i hi.1).2 (by simp)
  rw[bg,this] at hi;cases hi.2.1
 | succ ze ih =>
  intro rem listed D st a w g U hx hn hD hs hsz hl hb hdown hf h hQ;refine ⟨fun hr => ?_,fun i hi => ?_⟩
  ·have:=least hs hsz hl hb hr;subst this;exact base hn h hQ
  ·rw[Jc] at hi;obtain⟨hlt,hnl,oi,hoi,hed⟩:=hi;have him:i∈rem:=by
    refine ip fun hc => ?_;rw[bg,(hl i hlt).2 hc] at hnl;cases hnl
   obtain⟨p,q,rfl⟩:=List.append_of_mem him;have hpi:∀ j,j∈p->j<i:=fun j hj=>by
    have:=dr.1 hs;exact this.2.2 j hj i (by simp)
   have hiq:∀ j,j∈q->i<j:=fun j hj=>by
    have:=(dr.1 hs).2.1;exact eX this hj
   have hnotin:i∉p++q:=by
    intro hm;rcases aI.1 hm with hm | hm
    ·exact gT _ (hpi i hm)
    ·exact gT _ (hiq i hm)
   have hlisted:∀ e,e∈oi.after.toList->dq .any e=true->e.on∉p++i::q:=by
    intro e he hbd;have h1:=hed e he hbd;have hlt':=hdr.edge i oi e hoi he hbd;refine (hl e.on (by omega)).1 ?_
    rw[bg] at h1;cases hle:listed[e.on]? with
    | none=>rw[hle] at h1; cases h1
    | some b=>rw[hle] at h1; simp at h1; rw[h1]
   have hbitsi:∀ k,(bs.getD i 0).testBit k=true->k∉p++i::q:=by
    intro k hk;obtain⟨e,he,hbd,h1⟩:=hdr.bits i k oi hoi hk;rcases h1 with rfl | h1
    ·exact hlisted e he hbd
    ·exact hdown e.on k (hJ (hdr.edge i oi e hoi he hbd) hlt) (hlisted e he hbd) h1
   have hfront:=Gu hnat p (oi:=oi) hx (fun j hj=>by
    have hjlt:j<ops.size:=hb j (by simp [hj])
    refine ⟨ops[j],?_⟩;have hoj:ops[j]? = some ops[j]:=bi hjlt;have hu:ur bs j i=false:=by
     simp only[ur,da];constructor
     ·cases hk:(bs.getD i 0).testBit j with
      | false=>rfl
      | true=>exact absurd (hbitsi j hk) (by simp [hj])
     ·cases hk:(bs.getD j 0).testBit i with
      | false=>rfl
      | true =>
       have:=hdr.lt j i _ hoj hk;have:=hpi j hj;omega
    rcases hdr.pair j i _ _ hoj hoi (hpi j hj) with h' | ⟨hap,htn⟩
    ·rw[hu] at h'; cases h'
    ·obtain⟨a1,a2,a3⟩:=Oper.apart_spec hap;refine ⟨⟨Nat.ne_of_gt (hpi j hj),by rw[ur,fB]; exact hu,⟨hlt,hjlt⟩,hoi,hoj,fun d hd=>a2 d hd,fun d hd=>a1 d hd,fun ht => ?_⟩,fun d hd=>a3 d hd⟩
     rw[ht,Bool.and_true] at htn;exact htn) h
   simp only[DI] at hfront;rw[show ops.toList[i]? = some oi from by simpa using hoi] at hfront
   simp only[aa] at hfront;cases hd:Ji V.n oi with
   | false=>simp [hd] at hfront
   | true =>
    simp only[hd,cond_true] at hfront;obtain⟨s1,hs1,hrest⟩:=ah.1 hfront;refine GS hV hoi hn (hD i him) (fun b => ?_) hd hs1 (W:=W) (fun t ht=>hW i oi t hoi ht) fun a1 w1 g1 U1 hn1 hsi => ?_
    ·show hvE _ _ _ _ _ _=_∨hvE _ _ _ _ _ _=_;unfold hvE;cases okV hl0 bs nx i b with
     | false=>exact .inl rfl
     | true=>exact .inr rfl
    ·have hmem:∀ j,j∈p++q↔j∈p++i::q∧j≠i:=fun j=>by
      constructor
      ·intro hj;refine ⟨by simp at hj ⊢; rcases hj with h | h<;>simp [h],fun e=>hnotin (e▸hj)⟩
      ·rintro⟨hj,hne⟩;simp at hj ⊢;rcases hj with h | h | h
       ·exact .inl h
       ·exact absurd h hne
       ·exact .inr h
     refine ih ((D1 hs1).trans hx) hn1 (fun j hj => ?_) ?_ (by simpa using hsz) (fun j hj => ?_) (fun j hj=>hb j ((hmem j).1 hj).1) (fun j k hj hjn hk => ?_) (by simp at hf ⊢; omega) hrest (fun a2 w2 g2 U2 hn2 hsi2 => ?_)
     ·rintro (h' | h')
      ·exact hD j ((hmem j).1 hj).1 h'
      ·exact ((hmem j).1 hj).2 h'
     ·have h1:=dr.1 hs;refine dr.2 ⟨h1.1,(cA.1 h1.2.1).2,fun x hx y hy=>h1.2.2 x hx y (by simp [hy])⟩
     ·rw[Array.getElem?_setIfInBounds];by_cases hji:i=j
      ·subst hji;simp [hsz,hlt,hnotin]
      ·rw[if_neg hji,hl j hj,hmem j];constructor
       ·intro h1 h2; exact h1 h2.1
       ·intro h1 h2; exact h1 ⟨h2,fun e=>hji e.symm⟩
     ·intro hkm;by_cases hji:j=i
      ·subst hji;exact hbitsi k hk ((hmem k).1 hkm).1
      ·exact hdown j k hj (fun hc=>hjn ((hmem j).2 ⟨hc,hji⟩)) hk ((hmem k).1 hkm).1
     ·refine hQ a2 w2 g2 U2 { hn2 with used:=fun b hb=>(hn2.used b hb).imp (fun h=>h) fun ⟨j,h1,h2⟩=>⟨j,?_,h2⟩ } (hsi.trans hsi2);rcases h1 with (h1 | rfl) | h1
      ·exact .inl h1
      ·exact .inr him
      ·exact .inr ((hmem j).1 h1).1
end
section
variable {R:Type}
def ZJ:Code->List Nat
 | .region _ ops _=>ops.toList.filterMap (·.dst)
 | .seq a b=>ZJ a++ZJ b
 | .cond _ a b=>ZJ a++ZJ b
 | .block _ c=>ZJ c
 | .loop c=>ZJ c
 | .scope c=>ZJ c
 | .rangeFunc _ ps a b=>ps.toList++ZJ a++ZJ b
 | _=>[]
def kV:Exit->XE->Prop
 | .normal,.normal=>True
 | .exit i,.exit j=>i=j
 | .goto i,.goto j=>i=j
 | .ret,.ret=>True
 | _,_=>False
def tC:Nat->Prop:=fun _=>False
def JQ (X:Fx) (V:Env) (W:List Nat) (d:List Deferred) (κ:XE->St->Option R) (x:R) (st:St) (a:Act) (w:World) (g:Gh) (U:Nat->Prop):Exit->Act->World->Prop :=
 fun e a' w'=>∃ xe st' g' U',kV e xe∧κ xe st'=some x∧Now X V d tC st' a' w' g' U'∧Since (· ∈ W) w g st.H U a w' g' st'.H U' a'
def Pt (P:Program) (X:Fx) (V:Env) (c:Code) (u:Un):Prop :=
 ∀{R:Type} (st:St) (κ:XE->St->Option R) (x:R),u.f st κ=some x->∀(d:List Deferred) (a:Act) (w:World) (g:Gh) (U:Nat->Prop),Now X V d tC st a w g U ->
  c.wp P (JQ X V (ZJ c) d κ x st a w g U) a w
def XX (P:Program) (X:Fx) (V:Env):Code->AC->Prop
 | c,.unit u=>Pt P X V c u
 | .seq a b,ac=>XX P X V a ac.one∧XX P X V b ac.two
 | .cond _ a b,ac=>XX P X V a ac.one∧XX P X V b ac.two
 | .block _ c,ac=>XX P X V c ac.one
 | _,_=>True
theorem Now.region {X:Fx} {V:Env} {d:List Deferred} {n:Nat} {st:St} {a:Act} {w:World} {g:Gh} {U:Nat->Prop} (h:Now X V d (fun j=>tC j∨j∈aL n) st a w g U):Now X V d tC { st with nx:=st.nx+8*n } a w g U :=
 {h with used:=fun b hb=>.inl (by
   show b<st.nx+8*n;rcases h.used b hb with h | ⟨j,h | h,h1,h2⟩
   ·omega
   ·exact h.elim
   ·have:=bZ.1 h; omega) }
theorem Now.world {X:Fx} {V:Env} {d:List Deferred} {D:Nat->Prop} {st:St} {a:Act} {w w':World} {g:Gh} {U:Nat->Prop} (h:Now X V d D st a w g U) (hh:w'.heap=w.heap) (ho:w'.os=w.os) (ht:w'.tape=w.tape) (hp:w'.output=w.output):Now X V d D st a w' g U:=by
 have hm:Abs.mem w'=Abs.mem w:=by funext b o; exact zE (by rw[hh]) o
 exact { h with fr:=fun t=>by rw[hm]; exact h.fr t,mem:=h.mem.world hh ho ht hp }
theorem VQ {P:Program} {X:Fx} {V:Env} (hV:VOk P X V) (hn:∀ f c,V.Γ f=some c->c.nat) (hd:P.follows .mixedOrders=true) {id:Nat} {ops:Array Oper} {draw:Bool} {st:St} {κ:XE->St->Option R} {x:R}
  {hl:List (List Nat)} (hf:draw=false->zcX V ops.toList ops.toList 0 st (fun st'=>κ .normal { st' with nx:=st.nx+8*ops.size })=some x)
  (ht:draw=true->cond (Bf V ops.toList (fh ops).toList) (zdA V hl ops.toList (fh ops).toList ops.toList 0 st fun st'=>κ .normal { st' with nx:=st.nx+8*ops.size }) none=some x) {d:List Deferred} {a:Act} {w:World} {g:Gh} {U:Nat->Prop} (hw:Now X V d tC st a w g U) :
  (Code.region id ops draw).wp P (JQ X V (ZJ (.region id ops draw)) d κ x st a w g U) a w:=by
 have hW:∀(i:Nat) o t,ops[i]? = some o->o.dst=some t->t∈ZJ (.region id ops draw):=fun i o t ho ht=>by
  simp only[ZJ];exact f6.2 ⟨o,by simpa using fJ ho,ht⟩
 cases draw with
 | false =>
  have h:=hf rfl;rw[Ll hn ops.toList ops.toList 0 st _ rfl] at h;obtain⟨st',h1,h2⟩:=ah.1 h;rw[← eI,aO] at h1;have hx:=Ca _ h1;refine wp_region (Gv hV (fun _ _ b=>.inr rfl) hW (aL ops.size) hw (fun _ _ h=>h) List.nodup_range h1 fun a' w' g' U' hn' hs => ?_);refine ⟨.normal,_,g',U',trivial,h2,?_,hs⟩;have:=hn'.region;rw[hx] at this;exact this
 | true =>
  have h:=ht rfl;cases hdr:Bf V ops.toList (fh ops).toList with
  | false=>rw[hdr] at h; cases h
  | true =>
   rw[hdr] at h;simp only[cond_true] at h;rw[Pf hn hl ops.toList _ st.nx ops.toList 0 st _ rfl rfl] at h;obtain⟨st',h1,h2⟩:=ah.1 h;rw[← eI,aO] at h1;have hx:=Ca _ h1;refine wp_region_any hd (NM hV hn (Rh hdr) hW ops.size (rem:=aL ops.size) rfl (hw.world rfl rfl rfl rfl) (fun _ _ h=>h) ?_ (by simp) (fun i hi => ?_) (fun i hi=>bZ.1 hi) (fun i k hi hni=>absurd (bZ.2 hi) hni) (by simp) h1 fun a' w' g' U' hn' hs => ?_)
   ·rw[eI]; exact List.pairwise_lt_range'
   ·simp [hi]
   ·refine ⟨.normal,_,g',U',trivial,h2,?_,⟨?_,hs.tmps⟩⟩
    ·have:=hn'.region;rw[hx] at this;exact this
    ·have:mem ({ w with drawn:=w.drawn+1 }:World)=mem w:=by funext b o; exact zE rfl o
     have h':=hs.mono;rw[this] at h';exact h'
theorem zgd {V:Env} {a b:Code} {ac:AC} (h:∀ u,ac ≠ .unit u) (st:St) (κ:XE->St->Option R):E V (.seq a b) ac st κ=E V a ac.one st fun e st'=>match e with
  | .normal=>E V b ac.two st' κ
  | e=>κ e st':=by
 cases ac<;>first | rfl | exact absurd rfl (h _)
theorem zdy {V:Env} {c:Operand} {a b:Code} {ac:AC} (h:∀ u,ac ≠ .unit u) (st:St) (κ:XE->St->Option R):E V (.cond c a b) ac st κ=match ev V.gl st.φ c with
  | .val _ .bool t=>cond t (E V a ac.one st κ) (E V b ac.two st κ)
  | _=>none:=by
 cases ac<;>first | rfl | exact absurd rfl (h _)
theorem zay {V:Env} {id:Nat} {a:Code} {ac:AC} (h:∀ u,ac ≠ .unit u) (st:St) (κ:XE->St->Option R):E V (.block id a) ac st κ=E V a ac.one st fun e st'=>match e with
  | .exit i=>cond (aA i id) (κ .normal st') (κ (.exit i) st')
  | e=>κ e st':=by
 cases ac<;>first | rfl | exact absurd rfl (h _)
theorem Since.wide {W W':List Nat} (hw:∀ t,t∈W->t∈W') {w0 w1:World} {g0 g1:Gh} {H0 H1:Nat->Blk} {U0 U1:Nat->Prop} {a0 a1:Act} (h:Since (· ∈ W) w0 g0 H0 U0 a0 w1 g1 H1 U1 a1):Since (· ∈ W') w0 g0 H0 U0 a0 w1 g1 H1 U1 a1:=h.wider hw
theorem IB {P:Program} {X:Fx} {V:Env} (hV:VOk P X V) (hn:∀ f c,V.Γ f=some c->c.nat) (hd:P.follows .mixedOrders=true):(c:Code)->(ac:AC)->XX P X V c ac ->
  ∀{R:Type} (st:St) (κ:XE->St->Option R) (x:R),E V c ac st κ=some x->∀(d:List Deferred) (a:Act) (w:World) (g:Gh) (U:Nat->Prop),Now X V d tC st a w g U ->
  c.wp P (JQ X V (ZJ c) d κ x st a w g U) a w:=by
 intro c
 induction c with
 | region id ops draw =>
  intro ac hac R st κ x h d a w g U hw;cases ac with
  | unit u=>exact hac st κ x (by simpa[E] using h) d a w g U hw
  | hide hl=>exact VQ hV hn hd (κ:=κ) (hl:=hl) (fun e=>by subst e; exact h) (fun e=>by subst e; exact h) hw
  | _=>exact VQ hV hn hd (κ:=κ) (hl:=[]) (fun e=>by subst e; exact h) (fun e=>by subst e; exact h) hw
 | seq c1 c2 ih1 ih2 =>
  intro ac hac R st κ x h d a w g U hw;by_cases hu:∃ u,ac = .unit u
  ·obtain⟨u,rfl⟩:=hu;exact hac st κ x (by simpa[E] using h) d a w g U hw
  ·have hu:∀ u,ac ≠ .unit u:=fun u e=>hu ⟨u,e⟩;have hac:XX P X V c1 ac.one∧XX P X V c2 ac.two:=by cases ac<;>first | exact hac | exact absurd rfl (hu _)
   rw[zgd hu] at h;refine wp_seq (wp_mono (ih1 ac.one hac.1 st _ x h d a w g U hw) ?_);rintro e a1 w1 ⟨xe,st1,g1,U1,he,hk,hn1,hs1⟩;have hs1':=hs1.wide (W':=ZJ (.seq c1 c2)) fun t ht=>bk _ ht;cases e<;>cases xe<;>simp only[kV] at he<;>simp only[Exit.then]<;>try exact ⟨_,st1,g1,U1,by simp [kV,he],hk,hn1,hs1'⟩
   refine wp_mono (ih2 ac.two hac.2 st1 κ x hk d a1 w1 g1 U1 hn1) ?_;rintro e a2 w2 ⟨xe,st2,g2,U2,he,hk2,hn2,hs2⟩;exact ⟨xe,st2,g2,U2,he,hk2,hn2,hs1'.trans (hs2.wide fun t ht=>bp _ ht)⟩
 | cond c c1 c2 ih1 ih2 =>
  intro ac hac R st κ x h d a w g U hw;by_cases hu:∃ u,ac = .unit u
  ·obtain⟨u,rfl⟩:=hu;exact hac st κ x (by simpa[E] using h) d a w g U hw
  ·have hu:∀ u,ac ≠ .unit u:=fun u e=>hu ⟨u,e⟩;have hac:XX P X V c1 ac.one∧XX P X V c2 ac.two:=by cases ac<;>first | exact hac | exact absurd rfl (hu _)
   rw[zdy hu] at h;split at h
   ·rename_i k t hc;have hr:=Kn hw.mem hw.fr c;rw[← hV.gl,hc] at hr;have hr:a.eval c = .bool t:=hr;refine wp_cond hr ?_;have key:∀ t:Bool,cond t (E V c1 ac.one st κ) (E V c2 ac.two st κ)=some x->(if t then c1 else c2).wp P (JQ X V (ZJ (.cond c c1 c2)) d κ x st a w g U) a w:=by
     intro t ht;cases t with
     | true =>
      refine wp_mono (ih1 ac.one hac.1 st κ x ht d a w g U hw) ?_;rintro e a1 w1 ⟨xe,st1,g1,U1,he,hk,hn1,hs1⟩;exact ⟨xe,st1,g1,U1,he,hk,hn1,hs1.wide fun t ht=>bk _ ht⟩
     | false =>
      refine wp_mono (ih2 ac.two hac.2 st κ x ht d a w g U hw) ?_;rintro e a1 w1 ⟨xe,st1,g1,U1,he,hk,hn1,hs1⟩;exact ⟨xe,st1,g1,U1,he,hk,hn1,hs1.wide fun t ht=>bp _ ht⟩
    exact key t h
   ·cases h
 | block id c ih =>
  intro ac hac R st κ x h d a w g U hw;by_cases hu:∃ u,ac = .unit u
  ·obtain⟨u,rfl⟩:=hu;exact hac st κ x (by simpa[E] using h) d a w g U hw
  ·have hu:∀ u,ac ≠ .unit u:=fun u e=>hu ⟨u,e⟩;have hac:XX P X V c ac.one:=by cases ac<;>first | exact hac | exact absurd rfl (hu _)
   rw[zay hu] at h;refine wp_block (wp_mono (ih ac.one hac st _ x h d a w g U hw) ?_);rintro e a1 w1 ⟨xe,st1,g1,U1,he,hk,hn1,hs1⟩;cases e<;>cases xe<;>simp only[kV] at he<;>simp only[Exit.inBlock]<;>try exact ⟨_,st1,g1,U1,by simp [kV,he],hk,hn1,hs1⟩
   rename_i i j;subst he;cases hb:aA i id with
   | true =>
    rw[if_pos (au hb)];simp only[hb,cond_true] at hk;exact ⟨.normal,st1,g1,U1,trivial,hk,hn1,hs1⟩
   | false =>
    rw[if_neg fun e=>by subst e; rw[cM] at hb; cases hb]
    simp only[hb,cond_false] at hk;exact ⟨.exit i,st1,g1,U1,rfl,hk,hn1,hs1⟩
 | skip =>
  intro ac hac R st κ x h d a w g U hw;cases ac with
  | unit u=>exact hac st κ x (by simpa[E] using h) d a w g U hw
  | _=>exact wp_skip ⟨.normal,st,g,U,trivial,h,hw,Since.refl⟩
 | label l =>
  intro ac hac R st κ x h d a w g U hw;cases ac with
  | unit u=>exact hac st κ x (by simpa[E] using h) d a w g U hw
  | _=>exact wp_label ⟨.normal,st,g,U,trivial,h,hw,Since.refl⟩
 | exit l =>
  intro ac hac R st κ x h d a w g U hw;cases ac with
  | unit u=>exact hac st κ x (by simpa[E] using h) d a w g U hw
  | _=>exact wp_exit ⟨.exit l,st,g,U,rfl,h,hw,Since.refl⟩
 | goto l =>
  intro ac hac R st κ x h d a w g U hw;cases ac with
  | unit u=>exact hac st κ x (by simpa[E] using h) d a w g U hw
  | _=>exact wp_goto ⟨.goto l,st,g,U,rfl,h,hw,Since.refl⟩
 | ret =>
  intro ac hac R st κ x h d a w g U hw;cases ac with
  | unit u=>exact hac st κ x (by simpa[E] using h) d a w g U hw
  | _=>exact wp_ret ⟨.ret,st,g,U,trivial,h,hw,Since.refl⟩
 | _ =>
  intro ac hac R st κ x h d a w g U hw;cases ac with
  | unit u=>exact hac st κ x (by simpa[E] using h) d a w g U hw
  | _=>simp [E] at h
end
section
variable {R:Type}
theorem Gm {H:Nat->Blk}:{ws:List (Nat×Blk)}->ws.Pairwise (fun p q=>p.1≠q.1)->∀ p,p∈ws->qQ H ws p.1=p.2
 | [],_,p,hp=>by cases hp
 | q::ws,h,p,hp=>by
  show qQ (upd H q.1 q.2) ws p.1=p.2;have h1:=cA.1 h;rcases aG.1 hp with rfl | hp
  ·rw[vr fun r hr=>dD (h1.1 r hr),zx]
  ·exact Gm h1.2 p hp
theorem S5 (k:Nat):jn k 2=0∨jn k 2=2:=by
 unfold jn;cases h:aA k 2 with
 | true=>right; exact au h
 | false =>
  cases h2:ci 2 k with
  | true=>right; rfl
  | false=>left; rfl
def M6:List Nat->Bool
 | []=>true
 | b::bs => !(bs.any (aA b))&&M6 bs
theorem WW:{bs:List Nat}->M6 bs=true->bs.Nodup
 | [],_=>.nil
 | b::bs,h=>by
  simp only[M6,ay,cp,cz] at h;refine dL.2 ⟨fun hb => ?_,WW h.2⟩;have:=h.1 b hb;simp at this
def G2:List Value->Value
 | [v]=>v
 | vs=>.tuple vs.toArray
theorem Does.mono {P:Program} {s:Sem Next} {w:World} {Ψ Ψ':Value->World->Prop} (h:Does P s w Ψ) (hi:∀ v w',Ψ v w'->Ψ' v w'):Does P s w Ψ':=by
 unfold Does at *;split at h
 ·exact hi _ _ h
 ·exact hi _ _ h
 ·rename_i hr
  skip
  exact Calls.mono h fun e w'' ⟨v,h1,h2⟩=>⟨v,h1,hi _ _ h2⟩
 ·exact h.elim
end
section
variable {R:Type}
inductive TV where
 | hole
 | unk
 | nilv
 | view (j:Nat)
 | ptr (j o:Nat)
 | aptr (j:Nat)
 | part (j:Nat)
 | agg (l:List TV)
 | clo (f:FuncId) (l:List TV)
inductive TB where
 | seq (z:Bool)
 | cells (z:Bool) (l:List TV)
structure Sh where
 slots:List TV
 blks:List TB
 tg:List Nat
 hs:List Ty
abbrev Bnd:=List (Option Nat)
def HT:Option Nat->Option Nat->Bool
 | none,none=>true
 | some a,some b=>aA a b
 | _,_=>false
def Xn (o:Option Nat) (bd:Bnd):Bool :=
 match o with
 | none=>true
 | some b => !(bd.any fun q=>HT q (some b))
def V5 (j:Nat) (o:Option Nat) (bd:Bnd):Option Bnd :=
 match bd[j]? with
 | some q=>cond (HT q o) (some bd) none
 | none=>cond (aA j bd.length&&Xn o bd) (some (bd++[o])) none
mutual
def rP:TV->AV->Bnd->Option (List AV×Bnd)
 | .hole,a,bd=>some ([a],bd)
 | .unk,a,bd=>cond a.isAr none (some ([],bd))
 | .nilv,a,bd=>match a with
  | .nilv=>some ([],bd)
  | _=>none
 | .view j,a,bd=>match a with
  | .view b=>(V5 j (some b) bd).bind fun bd=>some ([],bd)
  | .nilv=>(V5 j none bd).bind fun bd=>some ([],bd)
  | _=>none
 | .ptr j o,a,bd=>match a with
  | .ptr b o'=>cond (aA o o') ((V5 j (some b) bd).bind fun bd=>some ([],bd)) none
  | _=>none
 | .aptr j,a,bd=>match a with
  | .sptr b 0 0=>(V5 j (some b) bd).bind fun bd=>some ([],bd)
  | _=>none
 | .part j,a,bd=>match a with
  | .part b 0 n=>(V5 j (some b) bd).bind fun bd=>some ([.val 2 (.int .i64) ((n:Nat):Int)],bd)
  | _=>none
 | .agg l,a,bd=>match a with
  | .agg cs=>uS l cs bd
  | _=>none
 | .clo f l,a,bd=>match a with
  | .clo f' cs=>cond (aA f f') (uS l cs bd) none
  | _=>none
def uS:List TV->List AV->Bnd->Option (List AV×Bnd)
 | [],as,bd=>match as with
  | []=>some ([],bd)
  | _=>none
 | t::ts,as,bd=>match as with
  | a::as=>(rP t a bd).bind fun p=>(uS ts as p.2).bind fun q=>some (p.1++q.1,q.2)
  | []=>none
end
def vm (H:Nat->Blk) (Z:Nat->Bool):TB->Option Nat->Bnd->Option (List AV×Bnd)
 | .seq _,none,bd=>some ([.nilv],bd)
 | .seq z,some b,bd=>match H b with
  | .seq q us xs=>cond (!(Z b)||z) (some ([.val q (.sl us) xs],bd)) none
  | _=>none
 | .cells z l,some b,bd=>match H b with
  | .cells cs=>cond (!(Z b)||z) (uS l cs bd) none
  | _=>none
 | .cells _ _,none,_=>none
def JX (H:Nat->Blk) (Z:Nat->Bool):List TB->Nat->Bnd->Option (List AV×Bnd)
 | [],j,bd=>cond (aA bd.length j) (some ([],bd)) none
 | t::ts,j,bd=>(bd[j]?).bind fun o=>(vm H Z t o bd).bind fun p=>(JX H Z ts (j+1) p.2).bind fun q=>some (p.1++q.1,q.2)
def VN (b:Nat):AV->AV
 | .val _ (.int _) x=>.part b 0 (bc x)
 | _=>.unk
mutual
def mkV (nm:Nat->Nat):TV->List AV->AV×List AV
 | .hole,ms=>match ms with
  | m::ms=>(m,ms)
  | []=>(.unk,[])
 | .unk,ms=>(.unk,ms)
 | .nilv,ms=>(.nilv,ms)
 | .view j,ms=>(.view (nm j),ms)
 | .ptr j o,ms=>(.ptr (nm j) o,ms)
 | .aptr j,ms=>(.sptr (nm j) 0 0,ms)
 | .part j,ms=>match ms with
  | m::ms=>(VN (nm j) m,ms)
  | []=>(.unk,[])
 | .agg l,ms=>let r:=sy nm l ms; (.agg r.1,r.2)
 | .clo f l,ms=>let r:=sy nm l ms; (.clo f r.1,r.2)
def sy (nm:Nat->Nat):List TV->List AV->List AV×List AV
 | [],ms=>([],ms)
 | t::ts,ms=>let r:=mkV nm t ms; let q:=sy nm ts r.2; (r.1::q.1,q.2)
end
def vF (nm:Nat->Nat):TB->List AV->Blk×List AV
 | .seq _,ms=>match ms with
  | .val k (.sl ts) xs::ms=>(.seq k ts xs,ms)
  | _::ms=>(.dead,ms)
  | []=>(.dead,[])
 | .cells _ l,ms=>let r:=sy nm l ms; (.cells r.1,r.2)
def qv (nm:Nat->Nat):List TB->List AV->List Blk
 | [],_=>[]
 | t::ts,ms=>let r:=vF nm t ms; r.1::qv nm ts r.2
def leB (q k:Nat):Bool:=aA q k||aA k 0||(aA k 2&&ci 2 q)
def zb8 (H:Nat->Blk) (fz:Nat):List Nat->(hs:List Ty)->List AV->Option (jv hs)
 | _,[],[]=>some ()
 | tg,[h],[a]=>cond (leB (ZC H fz a) (tg.headD 0)) ((vz H fz h a).bind fun y=>some y.2) none
 | tg,h::i::hs,a::as=>cond (leB (ZC H fz a) (tg.headD 0)) ((vz H fz h a).bind fun y=>(zb8 H fz tg.tail (i::hs) as).bind fun z=>some (y.2,z)) none
 | _,_,_=>none
def mkL:List Nat->(hs:List Ty)->jv hs->List AV
 | _,[],_=>[]
 | tg,[h],x=>[.val (tg.headD 0) h x]
 | tg,h::i::hs,x=>.val (tg.headD 0) h x.1::mkL tg.tail (i::hs) x.2
def Xi:TB->Blk->Bool
 | .seq _,.seq _ _ _=>true
 | .cells _ _,.cells _=>true
 | _,_=>false
def vH:List TB->List Blk->Bool
 | [],[]=>true
 | t::ts,b::bs=>Xi t b&&vH ts bs
 | _,_=>false
def Sh.avs (sh:Sh) (nm:Nat->Nat) (x:jv sh.hs):List AV:=(sy nm sh.slots (mkL sh.tg sh.hs x)).1
def Sh.bks (sh:Sh) (nm:Nat->Nat) (x:jv sh.hs):List Blk:=qv nm sh.blks (sy nm sh.slots (mkL sh.tg sh.hs x)).2
structure Dec (sh:Sh) where
 x:jv sh.hs
 bd:Bnd
 zs:List Nat
def Sh.dec (sh:Sh) (H:Nat->Blk) (Z:Nat->Bool) (fz:Nat) (as:List AV):Option (Dec sh) :=
 (uS sh.slots as []).bind fun p=>(JX H Z sh.blks 0 p.2).bind fun q=>(zb8 H fz sh.tg sh.hs (p.1++q.1)).bind fun x =>
  cond (vH sh.blks (sh.bks (fun j=>j) x)&&(yJ (p.1++q.1)).all fun b=>Xn (some b) q.2) (some ⟨x,q.2,yJ (p.1++q.1)⟩) none
theorem Bg {a b:Option Nat}:HT a b=true↔a=b:=by
 cases a<;>cases b<;>simp [HT]
theorem ul {j:Nat} {o:Option Nat} {bd bd':Bnd} (h:V5 j o bd=some bd'):bd'[j]? = some o∧bd <+: bd'∧((bd=bd')∨(bd'=bd++[o]∧Xn o bd=true)):=by
 unfold V5 at h;split at h
 ·rename_i q hq;cases hs:HT q o with
  | false=>rw[hs] at h; cases h
  | true =>
   rw[hs] at h;injection h with h; subst h;rw[Bg] at hs;subst hs;exact ⟨hq,de,.inl rfl⟩
 ·cases hs:(aA j bd.length&&Xn o bd) with
  | false=>rw[hs] at h; cases h
  | true =>
   rw[hs] at h;injection h with h; subst h;simp only[ay] at hs;have:=au hs.1;subst this;exact ⟨by simp,List.prefix_append _ _,.inr ⟨rfl,hs.2⟩⟩
mutual
theorem P7:(t:TV)->{a:AV}->{bd bd':Bnd}->{L:List AV}->rP t a bd=some (L,bd')->bd <+: bd'
 | .hole,a,bd,bd',L,h=>by simp only[rP,aq,aM] at h; rw[h.2]; exact de
 | .unk,a,bd,bd',L,h=>by
  simp only[rP] at h;cases ha:a.isAr with
  | true=>rw[ha] at h; cases h
  | false=>rw[ha] at h; simp only[cond_false,aq,aM] at h; rw[h.2]; exact de
 | .nilv,a,bd,bd',L,h=>by
  cases a<;>simp only[rP] at h<;>first | cases h | skip
  exact de
 | .view j,a,bd,bd',L,h=>by
  cases a<;>simp only[rP] at h<;>first | cases h | skip
  all_goals
   obtain⟨q,hq,h⟩:=ah.1 h;simp only[aq,aM] at h;rw[← h.2]; exact (ul hq).2.1
 | .ptr j o,a,bd,bd',L,h=>by
  cases a<;>simp only[rP] at h<;>first | cases h | skip
  rename_i b o';cases ho:aA o o' with
  | false=>rw[ho] at h; cases h
  | true =>
   rw[ho] at h;obtain⟨q,hq,h⟩:=ah.1 h;simp only[aq,aM] at h;rw[← h.2]; exact (ul hq).2.1
 | .aptr j,a,bd,bd',L,h=>by
  simp only[rP] at h;split at h
  ·obtain⟨q,hq,h⟩:=ah.1 h;simp only[aq,aM] at h;rw[← h.2]; exact (ul hq).2.1
  ·cases h
 | .part j,a,bd,bd',L,h=>by
  simp only[rP] at h;split at h
  ·obtain⟨q,hq,h⟩:=ah.1 h;simp only[aq,aM] at h;rw[← h.2]; exact (ul hq).2.1
  ·cases h
 | .agg l,a,bd,bd',L,h=>by
  cases a<;>simp only[rP] at h<;>first | cases h | skip
  exact Zx l h
 | .clo f l,a,bd,bd',L,h=>by
  cases a<;>simp only[rP] at h<;>first | cases h | skip
  rename_i f' cs;cases ho:aA f f' with
  | false=>rw[ho] at h; cases h
  | true=>rw[ho] at h; exact Zx l h
theorem Zx:(ts:List TV)->{as:List AV}->{bd bd':Bnd}->{L:List AV}->uS ts as bd=some (L,bd')->bd <+: bd'
 | [],as,bd,bd',L,h=>by
  cases as<;>simp only[uS] at h<;>first | cases h | skip
  exact de
 | t::ts,as,bd,bd',L,h=>by
  cases as with
  | nil=>simp [uS] at h
  | cons a as =>
   simp only[uS] at h;obtain⟨⟨L1,b1⟩,h1,h⟩:=ah.1 h;obtain⟨⟨L2,b2⟩,h2,h⟩:=ah.1 h;simp only[aq,aM] at h;rw[← h.2];exact (P7 t h1).trans (Zx ts h2)
end
end
theorem F2.split {α β:Type} {r:α->β->Prop}:{as bs:List α}->{cs:List β}->F2 r (as++bs) cs->∃ c1 c2,cs=c1++c2∧F2 r as c1∧F2 r bs c2
 | [],bs,cs,h=>⟨[],cs,rfl,.nil,h⟩
 | a::as,bs,cs,h=>by
  cases h with
  | cons h1 h2 =>
   obtain⟨c1,c2,rfl,h3,h4⟩:=F2.split h2;exact ⟨_::c1,c2,rfl,.cons h1 h3,h4⟩
structure Tr (c:Mem) (g:Gh) (H:Nat->Blk) (c':Mem) (g':Gh) (H':Nat->Blk) (U':Nat->Prop) (nm:Nat->Nat) (bd:Bnd):Prop where
 kept:∀(j i:Nat),bd[j]? = some (some i)->U' (nm j)∧g'.loc (nm j)=g.loc i∧SameKind (H i) (H' (nm j))∧∀ r,g.loc i=some r->∀ o,(c r o).isSome->(c' r o).isSome
 void:∀(j:Nat),bd[j]? = some none->U' (nm j)∧g'.loc (nm j)=none∧∃ k ts,H' (nm j) = .seq k ts []
theorem QF {α:Type} {l l':List α} (h:l <+: l') {j:Nat} {x:α} (hj:l[j]? = some x):l'[j]? = some x:=by
 obtain⟨t,rfl⟩:=h;rw[bP (aw.1 hj).1,hj]
section
variable {c:Mem} {g:Gh} {H:Nat->Blk} {U:Nat->Prop} {c':Mem} {g':Gh} {H':Nat->Blk} {U':Nat->Prop} {nm:Nat->Nat} {bd0:Bnd}
theorem F2.ar {R':AV->AV->Prop} (h:∀ l m,R' l m->m.isAr=l.isAr) {L M:List AV} (hf:F2 R' L M):F2 (fun l m=>m.isAr=l.isAr) L M:=by
 induction hf with
 | nil=>exact .nil
 | cons h1 _ ih=>exact .cons (h _ _ h1) ih
theorem zbl (nm:Nat->Nat):(t:TV)->{a:AV}->{bd bd':Bnd}->{L M rest:List AV}->rP t a bd=some (L,bd')->F2 (fun l m:AV=>m.isAr=l.isAr) L M->(mkV nm t (M++rest)).1.isAr=a.isAr
 | .hole,a,bd,bd',L,M,rest,h,hf=>by
  simp only[rP,aq,aM] at h;rw[← h.1] at hf;cases hf with
  | cons h1 h2=>cases h2; exact h1
 | .unk,a,bd,bd',L,M,rest,h,hf=>by
  simp only[rP] at h;cases ha:a.isAr with
  | true=>rw[ha] at h; cases h
  | false=>rfl
 | .nilv,a,bd,bd',L,M,rest,h,hf=>by
  cases a<;>simp only[rP] at h<;>first | cases h | skip
  rfl
 | .view j,a,bd,bd',L,M,rest,h,hf=>by
  cases a<;>simp only[rP] at h<;>first | cases h | skip
  all_goals rfl
 | .ptr j o,a,bd,bd',L,M,rest,h,hf=>by
  cases a<;>simp only[rP] at h<;>first | cases h | skip
  rfl
 | .aptr j,a,bd,bd',L,M,rest,h,hf=>by
  simp only[rP] at h;split at h
  ·rfl
  ·cases h
 | .part j,a,bd,bd',L,M,rest,h,hf=>by
  simp only[rP] at h;split at h
  ·obtain⟨q,hq,h⟩:=ah.1 h;simp only[aq,aM] at h;rw[← h.1] at hf;cases hf with
   | cons hc hf =>
    cases hf
    rename_i m;show (VN (nm j) m).isAr=false;unfold VN;split<;>rfl
  ·cases h
 | .agg l,a,bd,bd',L,M,rest,h,hf=>by
  cases a<;>simp only[rP] at h<;>first | cases h | skip
  rfl
 | .clo f l,a,bd,bd',L,M,rest,h,hf=>by
  cases a<;>simp only[rP] at h<;>first | cases h | skip
  rfl
def LM (c:Mem) (g:Gh) (H:Nat->Blk) (U:Nat->Prop) (c':Mem) (g':Gh) (H':Nat->Blk) (U':Nat->Prop) (l m:AV):Prop:=m.isAr=l.isAr∧∀ v,RAV c g H U l v->RAV c' g' H' U' m v
mutual
theorem NU (tr:Tr c g H c' g' H' U' nm bd0):(t:TV)->{a:AV}->{bd bd':Bnd}->{L M rest:List AV}->{v:Value}->rP t a bd=some (L,bd')->bd' <+: bd0->F2 (LM c g H U c' g' H' U') L M ->
  RAV c g H U a v->RAV c' g' H' U' (mkV nm t (M++rest)).1 v∧(mkV nm t (M++rest)).2=rest
 | .hole,a,bd,bd',L,M,rest,v,h,hp,hf,hr=>by
  simp only[rP,aq,aM] at h;rw[← h.1] at hf;cases hf with
  | cons h1 h2 =>
   cases h2
   exact ⟨h1.2 v hr,rfl⟩
 | .unk,a,bd,bd',L,M,rest,v,h,hp,hf,hr=>by
  simp only[rP] at h;cases ha:a.isAr with
  | true=>rw[ha] at h; cases h
  | false =>
   rw[ha] at h;simp only[cond_false,aq,aM] at h;rw[← h.1] at hf;cases hf
   exact ⟨trivial,rfl⟩
 | .nilv,a,bd,bd',L,M,rest,v,h,hp,hf,hr=>by
  cases a<;>simp only[rP] at h<;>first | cases h | skip
  cases hf
  exact ⟨hr,rfl⟩
 | .view j,a,bd,bd',L,M,rest,v,h,hp,hf,hr=>by
  cases a<;>simp only[rP] at h<;>first | cases h | skip
  ·obtain⟨q,hq,h⟩:=ah.1 h;simp only[aq,aM] at h;obtain⟨h1,rfl⟩:=h;rw[← h1] at hf;cases hf
   simp only[RAV] at hr;subst hr;obtain⟨h2,h3,k,ts,h4⟩:=tr.void j (QF hp (ul hq).1);refine ⟨⟨h2,rfl,?_⟩,rfl⟩;rw[h4];exact ⟨none,0,rfl,⟨aC _,by omega⟩,.inl rfl⟩
  ·rename_i b;obtain⟨q,hq,h⟩:=ah.1 h;simp only[aq,aM] at h;obtain⟨h1,rfl⟩:=h;rw[← h1] at hf;cases hf
   obtain⟨h2,h3,h4,h5⟩:=tr.kept j b (QF hp (ul hq).1);simp only[RAV] at hr;refine ⟨⟨h2,hr.2.1,?_⟩,rfl⟩;have hv:=hr.2.2;cases hH:H b<;>cases hH':H' (nm j)<;>rw[hH,hH'] at h4<;>simp only[SameKind] at h4<;>first | trivial | skip
   obtain⟨rfl,hn⟩:=h4;rw[hH] at hv;obtain⟨a,cap,rfl,h6,h7⟩:=hv;refine ⟨a,cap,by rw[hn],hn▸h6,h7.imp (fun h=>h) ?_⟩
   rintro⟨r,h8,h9,h10⟩;exact ⟨r,h3.trans h8,h9,fun o ho=>h5 r h8 o (h10 o ho)⟩
 | .ptr j o,a,bd,bd',L,M,rest,v,h,hp,hf,hr=>by
  cases a<;>simp only[rP] at h<;>first | cases h | skip
  rename_i b o';cases ho:aA o o' with
  | false=>rw[ho] at h; cases h
  | true =>
   rw[ho] at h;have ho:=au ho;subst ho;obtain⟨q,hq,h⟩:=ah.1 h;simp only[aq,aM] at h;obtain⟨h1,rfl⟩:=h;rw[← h1] at hf;cases hf
   obtain⟨h2,h3,h4,h5⟩:=tr.kept j b (QF hp (ul hq).1);simp only[RAV] at hr;refine ⟨⟨h2,hr.2.1,?_⟩,rfl⟩;have hv:=hr.2.2;cases hH:H b<;>cases hH':H' (nm j)<;>rw[hH,hH'] at h4<;>simp only[SameKind] at h4<;>first | trivial | skip
   rw[hH] at hv;obtain⟨r,h8,h9⟩:=hv;exact ⟨r,h3.trans h8,h9⟩
 | .aptr j,a,bd,bd',L,M,rest,v,h,hp,hf,hr=>by
  simp only[rP] at h;split at h
  ·rename_i b;obtain⟨q,hq,h⟩:=ah.1 h;simp only[aq,aM] at h;obtain⟨h1,rfl⟩:=h;rw[← h1] at hf;cases hf
   obtain⟨h2,h3,h4,h5⟩:=tr.kept j b (QF hp (ul hq).1);simp only[RAV] at hr;refine ⟨⟨h2,hr.2.1,?_⟩,rfl⟩;have hv:=hr.2.2;cases hH:H b<;>cases hH':H' (nm j)<;>rw[hH,hH'] at h4<;>simp only[SameKind] at h4<;>first | trivial | skip
   obtain⟨rfl,hn⟩:=h4;rw[hH] at hv;obtain⟨r,h8,h9⟩:=hv;exact ⟨r,h3.trans h8,h9⟩
  ·cases h
 | .part j,a,bd,bd',L,M,rest,v,h,hp,hf,hr=>by
  simp only[rP] at h;split at h
  ·rename_i b n;obtain⟨q,hq,h⟩:=ah.1 h;simp only[aq,aM] at h;obtain⟨h1,rfl⟩:=h;rw[← h1] at hf;cases hf with
   | cons hc hf =>
    cases hf
    rename_i m;have hm:=hc.2 (.int .i64 (n:Int)) rfl;refine ⟨?_,rfl⟩;show RAV c' g' H' U' (VN (nm j) m) v;cases m with
    | val k t x =>
     cases t with
     | int kk =>
      have hx:dl .i64 (n:Int)=dl kk x:=hm;injection hx with _ hx;have hx:x=(n:Int):=hx.symm;subst hx;obtain⟨h2,h3,h4,h5⟩:=tr.kept j b (QF hp (ul hq).1);simp only[RAV] at hr;refine ⟨h2,hr.2.1,?_⟩;have hv:=hr.2.2;show RPart c' g' (nm j) 0 (bc (n:Int)) v (H' (nm j));rw[Int.toNat_natCast];cases hH:H b<;>cases hH':H' (nm j)<;>rw[hH,hH'] at h4<;>simp only[SameKind] at h4<;>first | trivial | skip
      obtain⟨rfl,hn⟩:=h4;rw[hH] at hv;obtain⟨h6,a,cap,rfl,h7,h8⟩:=hv;refine ⟨hn▸h6,a,cap,rfl,hn▸h7,h8.imp (fun h=>h) ?_⟩;rintro⟨r,h9,h10,h11,h12⟩;exact ⟨r,h3.trans h9,h10,hn▸h11,fun o ho=>h5 r h9 o (h12 o ho)⟩
     | _=>trivial
    | _=>trivial
  ·cases h
 | .agg l,a,bd,bd',L,M,rest,v,h,hp,hf,hr=>by
  cases a<;>simp only[rP] at h<;>first | cases h | skip
  simp only[RAV] at hr;obtain⟨vs,rfl,hl⟩:=hr;obtain⟨h1,h2⟩:=KE tr l h hp hf hl;exact ⟨⟨vs,rfl,h1⟩,h2⟩
 | .clo f l,a,bd,bd',L,M,rest,v,h,hp,hf,hr=>by
  cases a<;>simp only[rP] at h<;>first | cases h | skip
  rename_i f' cs;cases ho:aA f f' with
  | false=>rw[ho] at h; cases h
  | true =>
   rw[ho] at h;have ho:=au ho;subst ho;simp only[RAV] at hr;obtain⟨vs,rfl,hl⟩:=hr;obtain⟨h1,h2⟩:=GY tr l h hp hf hl;exact ⟨⟨vs,rfl,h1⟩,h2⟩
theorem GY (tr:Tr c g H c' g' H' U' nm bd0):(ts:List TV)->{as:List AV}->{bd bd':Bnd}->{L M rest:List AV}->{vs:List Value}->uS ts as bd=some (L,bd')->bd' <+: bd0->F2 (LM c g H U c' g' H' U') L M ->
  RL c g H U as vs->RL c' g' H' U' (sy nm ts (M++rest)).1 vs∧(sy nm ts (M++rest)).2=rest
 | [],as,bd,bd',L,M,rest,vs,h,hp,hf,hr=>by
  cases as<;>simp only[uS] at h<;>first | cases h | skip
  cases hf
  exact ⟨hr,rfl⟩
 | t::ts,as,bd,bd',L,M,rest,vs,h,hp,hf,hr=>by
  cases as with
  | nil=>simp [uS] at h
  | cons a as =>
   simp only[uS] at h;obtain⟨⟨L1,b1⟩,h1,h⟩:=ah.1 h;obtain⟨⟨L2,b2⟩,h2,h⟩:=ah.1 h;simp only[aq,aM] at h;obtain⟨hL,rfl⟩:=h;rw[← hL] at hf;obtain⟨M1,M2,rfl,hf1,hf2⟩:=hf.split;simp only[RL] at hr;obtain⟨v,us,rfl,hv,hl⟩:=hr;have p2:=Zx ts h2;obtain⟨h3,h4⟩:=NU tr t (rest:=M2++rest) h1 (p2.trans hp) hf1 hv;obtain⟨h5,h6⟩:=GY tr ts (rest:=rest) h2 hp hf2 hl;rw[aW];have e:sy nm (t::ts) (M1++(M2++rest))=((mkV nm t (M1++(M2++rest))).1::(sy nm ts (mkV nm t (M1++(M2++rest))).2).1,(sy nm ts (mkV nm t (M1++(M2++rest))).2).2):=rfl;rw[e,h4];exact ⟨⟨v,us,rfl,h3,h5⟩,h6⟩
theorem KE (tr:Tr c g H c' g' H' U' nm bd0):(ts:List TV)->{as:List AV}->{bd bd':Bnd}->{L M rest:List AV}->{vs:List Value}->uS ts as bd=some (L,bd')->bd' <+: bd0->F2 (LM c g H U c' g' H' U') L M ->
  RF c g H U as vs->RF c' g' H' U' (sy nm ts (M++rest)).1 vs∧(sy nm ts (M++rest)).2=rest
 | [],as,bd,bd',L,M,rest,vs,h,hp,hf,hr=>by
  cases as<;>simp only[uS] at h<;>first | cases h | skip
  cases hf
  exact ⟨hr,rfl⟩
 | t::ts,as,bd,bd',L,M,rest,vs,h,hp,hf,hr=>by
  cases as with
  | nil=>simp [uS] at h
  | cons a as =>
   simp only[uS] at h;obtain⟨⟨L1,b1⟩,h1,h⟩:=ah.1 h;obtain⟨⟨L2,b2⟩,h2,h⟩:=ah.1 h;simp only[aq,aM] at h;obtain⟨hL,rfl⟩:=h;rw[← hL] at hf;obtain⟨M1,M2,rfl,hf1,hf2⟩:=hf.split;simp only[RF] at hr;obtain⟨v,us,ws,rfl,hv,hus,hl⟩:=hr;have har:=zbl nm t (rest:=M2++rest) h1 (hf1.ar fun _ _ h=>h.1);have p2:=Zx ts h2;obtain⟨h3,h4⟩:=NU tr t (rest:=M2++rest) h1 (p2.trans hp) hf1 hv;obtain⟨h5,h6⟩:=KE tr ts (rest:=rest) h2 hp hf2 hl;rw[aW];have e:sy nm (t::ts) (M1++(M2++rest))=((mkV nm t (M1++(M2++rest))).1::(sy nm ts (mkV nm t (M1++(M2++rest))).2).1,(sy nm ts (mkV nm t (M1++(M2++rest))).2).2):=rfl;rw[e,h4];exact ⟨⟨v,us,ws,rfl,h3,by rw[har]; exact hus,h5⟩,h6⟩
end
end
theorem TH {q k:Nat} (h:leB q k=true):Le q k:=by
 simp only[leB,b9,ay] at h;rcases h with (h | h) | ⟨h,h'⟩
 ·rw[au h]; exact Le.refl k
 ·rw[au h]; exact .inr (.inl rfl)
 ·rw[au h]; exact .inr (.inr ⟨rfl,bV h'⟩)
def LfOk (H:Nat->Blk) (fz:Nat) (l m:AV):Prop:=∃ k t y q,m = .val k t y∧vz H fz t l=some (q,y)∧Le q k
theorem LfOk.ar {H:Nat->Blk} {fz:Nat} {l m:AV} (h:LfOk H fz l m):m.isAr=l.isAr:=by
 obtain⟨k,t,y,q,rfl,hy,-⟩:=h;cases ht:t.flat with
 | true =>
  rw[Pm hy ht];cases t<;>first | rfl | cases ht
 | false =>
  cases t with
  | ar ts n =>
   cases l with
   | val g u x =>
    cases u with
    | ar us m=>rfl
    | sl us=>simp [vz,VV] at hy
    | ns us=>simp [vz] at hy
    | _ =>
     simp only[vz] at hy;obtain⟨z,hz,-⟩:=ah.1 hy;obtain⟨e,-⟩:=yM hz;cases e
   | view b =>
    simp only[vz] at hy;split at hy
    ·simp [VV] at hy
    ·cases hy
   | part b o n =>
    simp only[vz] at hy;split at hy
    ·simp [VV] at hy
    ·cases hy
   | _=>simp [vz] at hy
  | _=>cases ht
theorem HQ {H:Nat->Blk} {fz:Nat}:(tg:List Nat)->(hs:List Ty)->{L:List AV}->{x:jv hs}->zb8 H fz tg hs L=some x->F2 (LfOk H fz) L (mkL tg hs x)
 | _,[],[],x,_=>.nil
 | _,[],_::_,_,h=>nomatch (show (none:Option (jv []))=_ from h)
 | _,[h],[],_,e=>nomatch (show (none:Option (jv [h]))=_ from e)
 | _,[h],_::_::_,_,e=>nomatch (show (none:Option (jv [h]))=_ from e)
 | tg,[h],[a],x,e=>by
  have e:cond (leB (ZC H fz a) (tg.headD 0)) ((vz H fz h a).bind fun y=>some y.2) none=some x:=e;cases hl:leB (ZC H fz a) (tg.headD 0) with
  | false=>rw[hl] at e; cases e
  | true =>
   rw[hl] at e;obtain⟨⟨q,y⟩,hy,e⟩:=ah.1 e;injection e with e; subst e;exact .cons ⟨tg.headD 0,h,y,q,rfl,hy,TH (Kj hy▸hl)⟩ .nil
 | _,h::i::hs,[],_,e=>nomatch (show (none:Option (jv (h::i::hs)))=_ from e)
 | tg,h::i::hs,a::as,x,e=>by
  have e:cond (leB (ZC H fz a) (tg.headD 0)) ((vz H fz h a).bind fun y=>(zb8 H fz tg.tail (i::hs) as).bind fun z=>some (y.2,z)) none=some x:=e;cases hl:leB (ZC H fz a) (tg.headD 0) with
  | false=>rw[hl] at e; cases e
  | true =>
   rw[hl] at e;obtain⟨⟨q,y⟩,hy,e⟩:=ah.1 e;obtain⟨z,hz,e⟩:=ah.1 e;injection e with e; subst e;exact .cons ⟨tg.headD 0,h,y,q,rfl,hy,TH (Kj hy▸hl)⟩ (HQ tg.tail (i::hs) hz)
theorem F2.len {α β:Type} {r:α->β->Prop} {as:List α} {bs:List β} (h:F2 r as bs):as.length=bs.length:=h.length
mutual
theorem Pn (nm:Nat->Nat):(t:TV)->{a:AV}->{bd bd':Bnd}->{L M rest:List AV}->rP t a bd=some (L,bd')->L.length=M.length->(mkV nm t (M++rest)).2=rest
 | .hole,a,bd,bd',L,M,rest,h,hl=>by
  simp only[rP,aq,aM] at h;rw[← h.1] at hl
  match M,hl with
  | [m],_=>rfl
 | .unk,a,bd,bd',L,M,rest,h,hl=>by
  simp only[rP] at h;cases ha:a.isAr with
  | true=>rw[ha] at h; cases h
  | false =>
   rw[ha] at h;simp only[cond_false,aq,aM] at h;rw[← h.1] at hl
   match M,hl with
   | [],_=>rfl
 | .nilv,a,bd,bd',L,M,rest,h,hl=>by
  cases a<;>simp only[rP] at h<;>first | cases h | skip
  match M,hl with
  | [],_=>rfl
 | .view j,a,bd,bd',L,M,rest,h,hl=>by
  cases a<;>simp only[rP] at h<;>first | cases h | skip
  all_goals
   obtain⟨q,hq,h⟩:=ah.1 h;simp only[aq,aM] at h;rw[← h.1] at hl
   match M,hl with
   | [],_=>rfl
 | .ptr j o,a,bd,bd',L,M,rest,h,hl=>by
  cases a<;>simp only[rP] at h<;>first | cases h | skip
  rename_i b o';cases ho:aA o o' with
  | false=>rw[ho] at h; cases h
  | true =>
   rw[ho] at h;obtain⟨q,hq,h⟩:=ah.1 h;simp only[aq,aM] at h;rw[← h.1] at hl
   match M,hl with
   | [],_=>rfl
 | .aptr j,a,bd,bd',L,M,rest,h,hl=>by
  simp only[rP] at h;split at h
  ·obtain⟨q,hq,h⟩:=ah.1 h;simp only[aq,aM] at h;rw[← h.1] at hl
   match M,hl with
   | [],_=>rfl
  ·cases h
 | .part j,a,bd,bd',L,M,rest,h,hl=>by
  simp only[rP] at h;split at h
  ·obtain⟨q,hq,h⟩:=ah.1 h;simp only[aq,aM] at h;rw[← h.1] at hl
   match M,hl with
   | [m],_=>rfl
  ·cases h
 | .agg l,a,bd,bd',L,M,rest,h,hl=>by
  cases a<;>simp only[rP] at h<;>first | cases h | skip
  exact Zs nm l h hl
 | .clo f l,a,bd,bd',L,M,rest,h,hl=>by
  cases a<;>simp only[rP] at h<;>first | cases h | skip
  rename_i f' cs;cases ho:aA f f' with
  | false=>rw[ho] at h; cases h
  | true=>rw[ho] at h; exact Zs nm l h hl
theorem Zs (nm:Nat->Nat):(ts:List TV)->{as:List AV}->{bd bd':Bnd}->{L M rest:List AV}->uS ts as bd=some (L,bd')->L.length=M.length->(sy nm ts (M++rest)).2=rest
 | [],as,bd,bd',L,M,rest,h,hl=>by
  cases as<;>simp only[uS] at h<;>first | cases h | skip
  match M,hl with
  | [],_=>rfl
 | t::ts,as,bd,bd',L,M,rest,h,hl=>by
  cases as with
  | nil=>simp [uS] at h
  | cons a as =>
   simp only[uS] at h;obtain⟨⟨L1,b1⟩,h1,h⟩:=ah.1 h;obtain⟨⟨L2,b2⟩,h2,h⟩:=ah.1 h;simp only[aq,aM] at h;rw[← h.1] at hl;simp only[am] at hl;have e:M=M.take L1.length++M.drop L1.length:=(List.take_append_drop _ _).symm;rw[e,aW];have h3:=Pn nm t (M:=M.take L1.length) (rest:=M.drop L1.length++rest) h1 (by simp; omega)
   have h4:=Zs nm ts (M:=M.drop L1.length) (rest:=rest) h2 (by simp; omega)
   show (sy nm ts (mkV nm t _).2).2=rest;rw[h3,h4]
end
theorem Xa {H:Nat->Blk} {Z:Nat->Bool} {t:TB} {o:Option Nat} {bd bd':Bnd} {L:List AV} (h:vm H Z t o bd=some (L,bd')):bd <+: bd':=by
 cases t with
 | seq z =>
  cases o with
  | none=>simp only[vm,aq,aM] at h; rw[h.2]; exact de
  | some b =>
   simp only[vm] at h;split at h
   ·cases hz:(!(Z b)||z) with
    | false=>rw[hz] at h; cases h
    | true=>rw[hz] at h; simp only[cond_true,aq,aM] at h; rw[h.2]; exact de
   ·cases h
 | cells z l =>
  cases o with
  | none=>simp [vm] at h
  | some b =>
   simp only[vm] at h;split at h
   ·cases hz:(!(Z b)||z) with
    | false=>rw[hz] at h; cases h
    | true=>rw[hz] at h; exact Zx l h
   ·cases h
theorem QT {H:Nat->Blk} {Z:Nat->Bool}:(ts:List TB)->{j:Nat}->{bd bd':Bnd}->{L:List AV}->JX H Z ts j bd=some (L,bd')->bd <+: bd'∧bd'.length=j+ts.length
 | [],j,bd,bd',L,h=>by
  have h:cond (aA bd.length j) (some ([],bd)) none=some (L,bd'):=h;cases hb:aA bd.length j with
  | false=>rw[hb] at h; cases h
  | true =>
   rw[hb] at h;simp only[cond_true,aq,aM] at h;rw[← h.2];exact ⟨de,au hb⟩
 | t::ts,j,bd,bd',L,h=>by
  have h:((bd[j]?).bind fun o=>(vm H Z t o bd).bind fun p=>(JX H Z ts (j+1) p.2).bind fun q=>some (p.1++q.1,q.2))=some (L,bd'):=h;obtain⟨o,ho,h⟩:=ah.1 h;obtain⟨⟨L1,b1⟩,h1,h⟩:=ah.1 h;obtain⟨⟨L2,b2⟩,h2,h⟩:=ah.1 h;simp only[aq,aM] at h;rw[← h.2];obtain⟨h3,h4⟩:=QT ts h2;exact ⟨(Xa h1).trans h3,by rw[h4]; simp only[ak]; omega⟩
theorem KX (nm:Nat->Nat) {H:Nat->Blk} {Z:Nat->Bool} {fz:Nat} {t:TB} {o:Option Nat} {bd bd':Bnd} {L M rest:List AV} (h:vm H Z t o bd=some (L,bd')) (hf:F2 (LfOk H fz) L M) (hk:Xi t (vF nm t (M++rest)).1=true) :
  (vF nm t (M++rest)).2=rest∧(∀ i,o=some i->SameKind (H i) (vF nm t (M++rest)).1)∧(o=none->∃ k ts,(vF nm t (M++rest)).1 = .seq k ts []):=by
 cases t with
 | seq z =>
  cases o with
  | none =>
   simp only[vm,aq,aM] at h;rw[← h.1] at hf;cases hf with
   | cons h1 h2 =>
    cases h2
    obtain⟨k,t,y,q,rfl,hy,-⟩:=h1;cases t with
    | sl ts =>
     have hy:some (2,([]:List (Tup ts)))=some (q,y):=hy;injection hy with hy; injection hy with _ hy; subst hy;exact ⟨rfl,(fun i hi=>by cases hi),fun _=>⟨k,ts,rfl⟩⟩
    | _=>cases hk
  | some b =>
   simp only[vm] at h;split at h
   ·rename_i q us xs hH;cases hz:(!(Z b)||z) with
    | false=>rw[hz] at h; cases h
    | true =>
     rw[hz] at h;simp only[cond_true,aq,aM] at h;rw[← h.1] at hf;cases hf with
     | cons h1 h2 =>
      cases h2
      obtain⟨k,t,y,q',rfl,hy,-⟩:=h1;cases t with
      | sl ts =>
       have hy:((W4 us ts xs).bind fun z=>some (q,z))=some (q',y):=hy;obtain⟨z,hz,hy⟩:=ah.1 hy;obtain⟨e,rfl⟩:=vp hz;subst e;injection hy with hy; injection hy with _ hy; subst hy;refine ⟨rfl,fun i hi => ?_,fun h=>by cases h⟩
       injection hi with hi; subst hi;rw[hH];exact ⟨rfl,rfl⟩
      | _=>cases hk
   ·cases h
 | cells z l =>
  cases o with
  | none=>simp [vm] at h
  | some b =>
   simp only[vm] at h;split at h
   ·rename_i cs hH;cases hz:(!(Z b)||z) with
    | false=>rw[hz] at h; cases h
    | true =>
     rw[hz] at h;have:=Zs nm l (M:=M) (rest:=rest) h hf.len;refine ⟨this,fun i hi => ?_,fun h=>by cases h⟩
     injection hi with hi; subst hi;rw[hH]; trivial
   ·cases h
theorem jB {t:TB} {ts:List TB} {b:Blk} {bs:List Blk} (h:vH (t::ts) (b::bs)=true):Xi t b=true∧vH ts bs=true:=by
 simpa[vH] using h
theorem I6 (nm:Nat->Nat) {H:Nat->Blk} {Z:Nat->Bool} {fz:Nat}:(ts:List TB)->{j:Nat}->{bd bd':Bnd}->{L M:List AV}->JX H Z ts j bd=some (L,bd')->F2 (LfOk H fz) L M->vH ts (qv nm ts M)=true ->
  ∀ n,n<ts.length->∃ k o,(qv nm ts M)[n]? = some k∧bd'[j+n]? = some o∧(∀ i,o=some i->SameKind (H i) k)∧(o=none->∃ q us,k = .seq q us [])
 | [],j,bd,bd',L,M,_,_,_,n,hn=>by simp at hn
 | t::ts,j,bd,bd',L,M,h,hf,hk,n,hn=>by
  have h:((bd[j]?).bind fun o=>(vm H Z t o bd).bind fun p=>(JX H Z ts (j+1) p.2).bind fun q=>some (p.1++q.1,q.2))=some (L,bd'):=h;obtain⟨o,ho,h⟩:=ah.1 h;obtain⟨⟨L1,b1⟩,h1,h⟩:=ah.1 h;obtain⟨⟨L2,b2⟩,h2,h⟩:=ah.1 h;simp only[aq,aM] at h;obtain⟨hL,rfl⟩:=h;rw[← hL] at hf;obtain⟨M1,M2,rfl,hf1,hf2⟩:=hf.split;obtain⟨hk1,hk2⟩:=jB (show vH (t::ts) ((vF nm t (M1++M2)).1::qv nm ts (vF nm t (M1++M2)).2)=true from hk)
  obtain⟨h3,h4,h5⟩:=KX nm h1 hf1 hk1;rw[h3] at hk2;obtain⟨hp,hl⟩:=QT ts h2;show ∃ k o,((vF nm t (M1++M2)).1::qv nm ts (vF nm t (M1++M2)).2)[n]? = some k∧_;rw[h3];cases n with
  | zero=>exact ⟨_,o,rfl,QF ((Xa h1).trans hp) ho,h4,h5⟩
  | succ n =>
   obtain⟨k,o',h6,h7,h8⟩:=I6 nm ts h2 hf2 hk2 n (by simpa using hn)
   exact ⟨k,o',h6,by rw[show j+(n+1)=j+1+n from by omega]; exact h7,h8⟩
section
variable {w:World} {g:Gh} {H:Nat->Blk} {U:Nat->Prop} {g':Gh} {H':Nat->Blk} {U':Nat->Prop} {nm:Nat->Nat} {bd0:Bnd}
theorem Pd (tr:Tr (mem w) g H (mem w) g' H' U' nm bd0) (hS:∀ q b o,g.S q b o->g'.S q b o) (hle:∀{q k b o},Le q k->g'.S q b o->g'.S k b o) {Z:Nat->Bool} {fz j:Nat} {t:TB} {o:Option Nat} {bd bd':Bnd} {L M rest:List AV}
  (h:vm H Z t o bd=some (L,bd')) (hp:bd' <+: bd0) (ho:bd0[j]? = some o) (hf:F2 (LfOk H fz) L M) (hc:F2 (LM (mem w) g H U (mem w) g' H' U') L M) (hk:Xi t (vF nm t (M++rest)).1=true)
  (hb:∀ b,RBlk w g H U b (H b)):RBlk w g' H' U' (nm j) (vF nm t (M++rest)).1:=by
 cases t with
 | seq z =>
  cases o with
  | none =>
   simp only[vm,aq,aM] at h;rw[← h.1] at hf;cases hf with
   | cons h1 h2 =>
    cases h2
    obtain⟨k,t,y,q,rfl,hy,-⟩:=h1;cases t with
    | sl ts =>
     have hy:some (2,([]:List (Tup ts)))=some (q,y):=hy;injection hy with hy; injection hy with _ hy; subst hy;exact .inl ⟨(tr.void j ho).2.1,rfl⟩
    | _=>cases hk
  | some b =>
   simp only[vm] at h;split at h
   ·rename_i q us xs hH;cases hz:(!(Z b)||z) with
    | false=>rw[hz] at h; cases h
    | true =>
     rw[hz] at h;simp only[cond_true,aq,aM] at h;rw[← h.1] at hf;cases hf with
     | cons h1 h2 =>
      cases h2
      obtain⟨k,t,y,q',rfl,hy,hqk⟩:=h1;cases t with
      | sl ts =>
       have hy:((W4 us ts xs).bind fun z=>some (q,z))=some (q',y):=hy;obtain⟨z,hz,hy⟩:=ah.1 hy;obtain⟨e,rfl⟩:=vp hz;subst e;injection hy with hy; injection hy with hq hy; subst hy; subst hq;have hbb:=hb b;rw[hH] at hbb;simp only[RBlk] at hbb;have hl:=(tr.kept j b ho).2.1;refine hbb.imp (fun h=>⟨hl.trans h.1,h.2⟩) ?_;rintro⟨r,cc,e,h3,h4,h5,h6⟩;exact ⟨r,cc,e,hl.trans h3,h4,h5,h6.imp fun i x _ hx=>RC.mono (fun b o hs=>⟨hle hqk (hS q b o hs),rfl⟩) (fun _ _ h=>⟨h,rfl⟩) _ x _ _ hx⟩
      | _=>cases hk
   ·cases h
 | cells z l =>
  cases o with
  | none=>simp [vm] at h
  | some b =>
   simp only[vm] at h;split at h
   ·rename_i cs hH;cases hz:(!(Z b)||z) with
    | false=>rw[hz] at h; cases h
    | true =>
     rw[hz] at h;have hbb:=hb b;rw[hH] at hbb;simp only[RBlk] at hbb;obtain⟨r,cc,e,h3,h4,h5⟩:=hbb;exact ⟨r,cc,e,(tr.kept j b ho).2.1.trans h3,h4,(KE tr l h hp hc h5).1⟩
   ·cases h
theorem OJ (tr:Tr (mem w) g H (mem w) g' H' U' nm bd0) (hS:∀ q b o,g.S q b o->g'.S q b o) (hle:∀{q k b o},Le q k->g'.S q b o->g'.S k b o) {Z:Nat->Bool} {fz:Nat} (hb:∀ b,RBlk w g H U b (H b)):(ts:List TB)->{j:Nat}->{bd:Bnd}->{L M:List AV} ->
  JX H Z ts j bd=some (L,bd0)->F2 (LfOk H fz) L M->F2 (LM (mem w) g H U (mem w) g' H' U') L M->vH ts (qv nm ts M)=true->∀ n k,(qv nm ts M)[n]? = some k->RBlk w g' H' U' (nm (j+n)) k
 | [],j,bd,L,M,_,_,_,_,n,k,hn=>by simp [qv] at hn
 | t::ts,j,bd,L,M,h,hf,hc,hk,n,k,hn=>by
  have h:((bd[j]?).bind fun o=>(vm H Z t o bd).bind fun p=>(JX H Z ts (j+1) p.2).bind fun q=>some (p.1++q.1,q.2))=some (L,bd0):=h;obtain⟨o,ho,h⟩:=ah.1 h;obtain⟨⟨L1,b1⟩,h1,h⟩:=ah.1 h;obtain⟨⟨L2,b2⟩,h2,h⟩:=ah.1 h;simp only[aq,aM] at h;obtain⟨hL,hbb⟩:=h;have hbb:b2=bd0:=hbb;rw[hbb] at h2;rw[← hL] at hf hc;obtain⟨M1,M2,rfl,hf1,hf2⟩:=hf.split;obtain⟨N1,N2,hN,hc1,hc2⟩:=hc.split;have hlen:M1.length=N1.length:=by rw[← hf1.len,← hc1.len]
  obtain⟨rfl,rfl⟩:=eN hN hlen;obtain⟨hk1,hk2⟩:=jB (show vH (t::ts) ((vF nm t (M1++M2)).1::qv nm ts (vF nm t (M1++M2)).2)=true from hk)
  obtain⟨h3,-⟩:=KX nm h1 hf1 hk1;rw[h3] at hk2;obtain⟨hp,hl⟩:=QT ts h2;have hn:((vF nm t (M1++M2)).1::qv nm ts (vF nm t (M1++M2)).2)[n]? = some k:=hn;rw[h3] at hn;cases n with
  | zero =>
   injection hn with hn; subst hn;exact Pd tr hS hle h1 hp (QF ((Xa h1).trans hp) ho) hf1 hc1 hk1 hb
  | succ n =>
   rw[show j+(n+1)=j+1+n from by omega]
   exact OJ tr hS hle hb ts h2 hf2 hc2 hk2 n k hn
end
mutual
theorem Rg (Q:Bnd->Prop) (hQ:∀ j o bd bd',V5 j o bd=some bd'->Q bd->Q bd'):(t:TV)->{a:AV}->{bd bd':Bnd}->{L:List AV}->rP t a bd=some (L,bd')->Q bd->Q bd'
 | .hole,a,bd,bd',L,h,hq=>by simp only[rP,aq,aM] at h; rw[← h.2]; exact hq
 | .unk,a,bd,bd',L,h,hq=>by
  simp only[rP] at h;cases ha:a.isAr with
  | true=>rw[ha] at h; cases h
  | false=>rw[ha] at h; simp only[cond_false,aq,aM] at h; rw[← h.2]; exact hq
 | .nilv,a,bd,bd',L,h,hq=>by
  cases a<;>simp only[rP] at h<;>first | cases h | skip
  exact hq
 | .view j,a,bd,bd',L,h,hq=>by
  cases a<;>simp only[rP] at h<;>first | cases h | skip
  all_goals
   obtain⟨q,hq',h⟩:=ah.1 h;simp only[aq,aM] at h;rw[← h.2]; exact hQ _ _ _ _ hq' hq
 | .ptr j o,a,bd,bd',L,h,hq=>by
  cases a<;>simp only[rP] at h<;>first | cases h | skip
  rename_i b o';cases ho:aA o o' with
  | false=>rw[ho] at h; cases h
  | true =>
   rw[ho] at h;obtain⟨q,hq',h⟩:=ah.1 h;simp only[aq,aM] at h;rw[← h.2]; exact hQ _ _ _ _ hq' hq
 | .aptr j,a,bd,bd',L,h,hq=>by
  simp only[rP] at h;split at h
  ·obtain⟨q,hq',h⟩:=ah.1 h;simp only[aq,aM] at h;rw[← h.2]; exact hQ _ _ _ _ hq' hq
  ·cases h
 | .part j,a,bd,bd',L,h,hq=>by
  simp only[rP] at h;split at h
  ·obtain⟨q,hq',h⟩:=ah.1 h;simp only[aq,aM] at h;rw[← h.2]; exact hQ _ _ _ _ hq' hq
  ·cases h
 | .agg l,a,bd,bd',L,h,hq=>by
  cases a<;>simp only[rP] at h<;>first | cases h | skip
  exact QO Q hQ l h hq
 | .clo f l,a,bd,bd',L,h,hq=>by
  cases a<;>simp only[rP] at h<;>first | cases h | skip
  rename_i f' cs;cases ho:aA f f' with
  | false=>rw[ho] at h; cases h
  | true=>rw[ho] at h; exact QO Q hQ l h hq
theorem QO (Q:Bnd->Prop) (hQ:∀ j o bd bd',V5 j o bd=some bd'->Q bd->Q bd'):(ts:List TV)->{as:List AV}->{bd bd':Bnd}->{L:List AV}->uS ts as bd=some (L,bd')->Q bd->Q bd'
 | [],as,bd,bd',L,h,hq=>by
  cases as<;>simp only[uS] at h<;>first | cases h | skip
  exact hq
 | t::ts,as,bd,bd',L,h,hq=>by
  cases as with
  | nil=>simp [uS] at h
  | cons a as =>
   simp only[uS] at h;obtain⟨⟨L1,b1⟩,h1,h⟩:=ah.1 h;obtain⟨⟨L2,b2⟩,h2,h⟩:=ah.1 h;simp only[aq,aM] at h;rw[← h.2];exact QO Q hQ ts h2 (Rg Q hQ t h1 hq)
end
theorem Fr {H:Nat->Blk} {Z:Nat->Bool} (Q:Bnd->Prop) (hQ:∀ j o bd bd',V5 j o bd=some bd'->Q bd->Q bd') {t:TB} {o:Option Nat} {bd bd':Bnd} {L:List AV} (h:vm H Z t o bd=some (L,bd')) (hq:Q bd):Q bd':=by
 cases t with
 | seq z =>
  cases o with
  | none=>simp only[vm,aq,aM] at h; rw[← h.2]; exact hq
  | some b =>
   simp only[vm] at h;split at h
   ·cases hz:(!(Z b)||z) with
    | false=>rw[hz] at h; cases h
    | true=>rw[hz] at h; simp only[cond_true,aq,aM] at h; rw[← h.2]; exact hq
   ·cases h
 | cells z l =>
  cases o with
  | none=>simp [vm] at h
  | some b =>
   simp only[vm] at h;split at h
   ·cases hz:(!(Z b)||z) with
    | false=>rw[hz] at h; cases h
    | true=>rw[hz] at h; exact QO Q hQ l h hq
   ·cases h
theorem Eo {H:Nat->Blk} {Z:Nat->Bool} (Q:Bnd->Prop) (hQ:∀ j o bd bd',V5 j o bd=some bd'->Q bd->Q bd'):(ts:List TB)->{j:Nat}->{bd bd':Bnd}->{L:List AV}->JX H Z ts j bd=some (L,bd')->Q bd->Q bd'
 | [],j,bd,bd',L,h,hq=>by
  have h:cond (aA bd.length j) (some ([],bd)) none=some (L,bd'):=h;cases hb:aA bd.length j with
  | false=>rw[hb] at h; cases h
  | true=>rw[hb] at h; simp only[cond_true,aq,aM] at h; rw[← h.2]; exact hq
 | t::ts,j,bd,bd',L,h,hq=>by
  have h:((bd[j]?).bind fun o=>(vm H Z t o bd).bind fun p=>(JX H Z ts (j+1) p.2).bind fun q=>some (p.1++q.1,q.2))=some (L,bd'):=h;obtain⟨o,ho,h⟩:=ah.1 h;obtain⟨⟨L1,b1⟩,h1,h⟩:=ah.1 h;obtain⟨⟨L2,b2⟩,h2,h⟩:=ah.1 h;simp only[aq,aM] at h;rw[← h.2];exact Eo Q hQ ts h2 (Fr Q hQ h1 hq)
def zca (bd:Bnd):Prop:=∀(j j' i:Nat),bd[j]? = some (some i)->bd[j']? = some (some i)->j=j'
theorem kG {b:Nat} {bd:Bnd} (h:Xn (some b) bd=true) (j:Nat):bd[j]? ≠ some (some b):=by
 intro hj;simp only[Xn,cp,cz] at h;have:=h _ (aJ hj);exact this (Bg.2 rfl)
theorem BB (j:Nat) (o:Option Nat) (bd bd':Bnd) (h:V5 j o bd=some bd') (hi:zca bd):zca bd':=by
 obtain⟨-,-,h3⟩:=ul h;rcases h3 with rfl | ⟨rfl,hf⟩
 ·exact hi
 ·intro k k' i hk hk';have key:∀ k,(bd++[o])[k]? = some (some i)->bd[k]? = some (some i)∨(k=bd.length∧o=some i):=by
   intro k hk;rcases bG k bd.length with hl | hl
   ·rw[bP hl] at hk; exact .inl hk
   ·rw[bI hl] at hk;have hz:k - bd.length=0:=by
     rcases Nat.eq_zero_or_pos (k - bd.length) with h0 | h0
     ·exact h0
     ·rw[aQ (by simp; omega)] at hk; cases hk
    rw[hz] at hk;exact .inr ⟨by omega,by simpa using hk⟩
  rcases key k hk with h1 | ⟨rfl,h1⟩<;>rcases key k' hk' with h2 | ⟨h2,h2'⟩
  ·exact hi k k' i h1 h2
  ·subst h2'; exact absurd h1 (kG hf k)
  ·subst h1; exact absurd h2 (kG hf k')
  ·exact h2.symm
mutual
theorem PD (nm nm':Nat->Nat):(t:TV)->(ms:List AV)->(mkV nm t ms).2=(mkV nm' t ms).2
 | .hole,ms=>by cases ms<;>rfl
 | .unk,ms=>rfl
 | .nilv,ms=>rfl
 | .view j,ms=>rfl
 | .ptr j o,ms=>rfl
 | .aptr j,ms=>rfl
 | .part j,ms=>by cases ms<;>rfl
 | .agg l,ms=>rm nm nm' l ms
 | .clo f l,ms=>rm nm nm' l ms
theorem rm (nm nm':Nat->Nat):(ts:List TV)->(ms:List AV)->(sy nm ts ms).2=(sy nm' ts ms).2
 | [],ms=>rfl
 | t::ts,ms=>by
  show (sy nm ts (mkV nm t ms).2).2=(sy nm' ts (mkV nm' t ms).2).2;rw[PD nm nm' t ms];exact rm nm nm' ts _
end
theorem C5 (nm nm':Nat->Nat):(ts:List TB)->(ms:List AV)->vH ts (qv nm ts ms)=vH ts (qv nm' ts ms)
 | [],ms=>rfl
 | t::ts,ms=>by
  show (Xi t (vF nm t ms).1&&vH ts (qv nm ts (vF nm t ms).2))=(Xi t (vF nm' t ms).1&&vH ts (qv nm' ts (vF nm' t ms).2));have h1:Xi t (vF nm t ms).1=Xi t (vF nm' t ms).1∧(vF nm t ms).2=(vF nm' t ms).2:=by
   cases t with
   | cells z l=>exact ⟨rfl,rm nm nm' l ms⟩
   | seq z=>exact ⟨rfl,rfl⟩
  rw[h1.1,h1.2,C5 nm nm' ts]
theorem uP (nm:Nat->Nat):(ts:List TB)->(ms:List AV)->(qv nm ts ms).length=ts.length
 | [],_=>rfl
 | t::ts,ms=>by show (_::qv nm ts _).length=_; simp [uP nm ts]
def TB.z:TB->Bool
 | .seq z=>z
 | .cells z _=>z
def TB.ro:TB->Bool
 | .cells true _=>true
 | _=>false
def mkH (n0:Nat) (bs:List Blk):Nat->Blk:=fun b=>cond (ci n0 b) (gn bs (b - n0) .dead) .dead
def mkZ (n0:Nat) (ts:List TB):Nat->Bool:=fun b=>cond (ci n0 b) (gn (ts.map TB.z) (b - n0) false) false
theorem Jy {n0:Nat} {bs:List Blk} {j:Nat} {k:Blk} (h:bs[j]? = some k):mkH n0 bs (n0+j)=k:=by
 unfold mkH;rw[show ci n0 (n0+j)=true from cI (by omega),cond_true,aE,show n0+j - n0=j from by omega,h]; rfl
theorem sY {n0:Nat} {bs:List Blk} {b:Nat} (h:mkH n0 bs b ≠ .dead):∃ j k,b=n0+j∧bs[j]? = some k∧mkH n0 bs b=k:=by
 unfold mkH at h ⊢;cases hb:ci n0 b with
 | false=>rw[hb] at h; exact absurd rfl h
 | true =>
  rw[hb,cond_true,aE] at h;rw[cond_true,aE];have:=bV hb;cases hk:bs[b - n0]? with
  | none=>rw[hk] at h; exact absurd rfl h
  | some k=>exact ⟨b - n0,k,by omega,hk,rfl⟩
theorem WG {n0:Nat} {ts:List TB} {j:Nat} {t:TB} (h:ts[j]? = some t):mkZ n0 ts (n0+j)=t.z:=by
 unfold mkZ;rw[show ci n0 (n0+j)=true from cI (by omega),cond_true,aE,show n0+j - n0=j from by omega]
 simp [h]
structure DecOk (sh:Sh) (H:Nat->Blk) (Z:Nat->Bool) (fz:Nat) (as:List AV) (d:Dec sh) (L1 L2:List AV) (b1:Bnd):Prop where
 vs:uS sh.slots as []=some (L1,b1)
 bs:JX H Z sh.blks 0 b1=some (L2,d.bd)
 lf:F2 (LfOk H fz) (L1++L2) (mkL sh.tg sh.hs d.x)
 kinds:∀ nm,vH sh.blks (sh.bks nm d.x)=true
 zs:d.zs=yJ (L1++L2)
 fresh:∀ b,b∈d.zs->Xn (some b) d.bd=true
 inj:zca d.bd
 len:d.bd.length=sh.blks.length
theorem Bx {sh:Sh} {H:Nat->Blk} {Z:Nat->Bool} {fz:Nat} {as:List AV} {d:Dec sh} (h:sh.dec H Z fz as=some d):∃ L1 L2 b1,DecOk sh H Z fz as d L1 L2 b1:=by
 unfold Sh.dec at h;obtain⟨⟨L1,b1⟩,h1,h⟩:=ah.1 h;obtain⟨⟨L2,b2⟩,h2,h⟩:=ah.1 h;obtain⟨x,h3,h⟩:=ah.1 h;simp only at h h2 h3;cases hc:(vH sh.blks (sh.bks (fun j=>j) x)&&(yJ (L1++L2)).all fun b=>Xn (some b) b2) with
 | false=>rw[hc] at h; cases h
 | true =>
  rw[hc] at h;simp only[cond_true] at h;injection h with h;subst h;simp only[ay,aD] at hc;have hi0:zca []:=fun j j' i h=>by simp at h
  refine ⟨L1,L2,b1,h1,h2,HQ _ _ h3,fun nm => ?_,rfl,hc.2,Eo zca BB _ h2 (QO zca BB _ h1 hi0),by have:=(QT _ h2).2; simpa using this⟩
  have:=C5 nm (fun j=>j) sh.blks (sy (fun j=>j) sh.slots (mkL sh.tg sh.hs x)).2;unfold Sh.bks at hc ⊢;rw[rm nm (fun j=>j),this];exact hc.1
theorem F2.mono' {α β:Type} {r q:α->β->Prop}:{as:List α}->{bs:List β}->F2 r as bs->(∀ a b,a∈as->r a b->q a b)->F2 q as bs
 | [],_,h,_=>by cases h; exact .nil
 | a::as,_,h,hi=>by
  cases h with
  | cons h1 h2=>exact .cons (hi _ _ (by simp) h1) (h2.mono' fun x y hx=>hi x y (by simp [hx]))
def jF (n0 n:Nat):Nat->Prop:=fun b=>n0<=b∧b<n0+n
theorem MemOk.weak {X:Fx} {g:Gh} {H:Nat->Blk} {Z:Nat->Bool} {U:Nat->Prop} {w:World} (hm:MemOk X g H Z U w) {fz:Nat} (hfz:fz=0∨fz=2) (hB:fz=2->∀ r,X.O r->X.N r) {sh:Sh} {as:List AV} {d:Dec sh} {L1 L2:List AV} {b1:Bnd}
  (hd:DecOk sh H Z fz as d L1 L2 b1) {vs:List Value} (hr:RL (mem w) g H U as vs) (n0:Nat) :
  ∃ g':Gh,g'.S=(g.show H fz d.zs).S∧(∀(j:Nat) o,d.bd[j]? = some o->g'.loc (n0+j)=o.bind g.loc) ∧
   MemOk X g' (mkH n0 (sh.bks (fun j=>n0+j) d.x)) (mkZ n0 sh.blks) (jF n0 sh.blks.length) w∧RL (mem w) g' (mkH n0 (sh.bks (fun j=>n0+j) d.x)) (jF n0 sh.blks.length) (sh.avs (fun j=>n0+j) d.x) vs ∧
   (∀(j i:Nat),d.bd[j]? = some (some i)->SameKind (H i) (mkH n0 (sh.bks (fun j=>n0+j) d.x) (n0+j))∧(Z i=true->mkZ n0 sh.blks (n0+j)=true)):=by
 obtain⟨hm1,hmo1,hsh⟩:=hm.shown hfz hB d.zs;have hkinds:=hd.kinds fun j=>n0+j;have hlen:=hd.len;obtain⟨M1,M2,hM,hf1,hf2⟩:=hd.lf.split;have hav:sh.avs (fun j=>n0+j) d.x=(sy (fun j=>n0+j) sh.slots (M1++M2)).1:=by unfold Sh.avs; rw[hM]
 have hrest:(sy (fun j=>n0+j) sh.slots (M1++M2)).2=M2:=Zs _ _ hd.vs hf1.len;have hbk:sh.bks (fun j=>n0+j) d.x=qv (fun j=>n0+j) sh.blks M2:=by unfold Sh.bks; rw[hM,hrest]
 rw[hbk] at hkinds;have hkind:=I6 (fun j=>n0+j) sh.blks hd.bs hf2 hkinds;generalize hbks:sh.bks (fun j=>n0+j) d.x=bks at *;have hbk':qv (fun j=>n0+j) sh.blks M2=bks:=hbk.symm;rw[hbk'] at hkind hkinds;have hbl:bks.length=sh.blks.length:=by rw[← hbk']; exact uP _ _ _
 let g':Gh:={ S:=(g.show H fz d.zs).S,loc:=fun b=>cond (ci n0 b) ((gn d.bd (b - n0) none).bind g.loc) none }
 have hloc:∀(j:Nat) o,d.bd[j]? = some o->g'.loc (n0+j)=o.bind g.loc:=by
  intro j o ho;show cond (ci n0 (n0+j)) _ none=_;rw[show ci n0 (n0+j)=true from cI (by omega),cond_true,aE,show n0+j - n0=j from by omega,ho]; rfl
 have hat:∀(j:Nat) o,d.bd[j]? = some o->jF n0 sh.blks.length (n0+j)∧∃ k,bks[j]? = some k∧mkH n0 bks (n0+j)=k∧(∀ i,o=some i->SameKind (H i) k)∧(o=none->∃ q us,k = .seq q us []):=by
  intro j o ho;have hj:j<sh.blks.length:=by rw[← hlen]; exact (aw.1 ho).1
  obtain⟨k,o',h1,h2,h3,h4⟩:=hkind j hj;rw[aP,ho] at h2;injection h2 with h2; subst h2;exact ⟨⟨by omega,by omega⟩,k,h1,Jy h1,h3,h4⟩
 have tr:Tr (mem w) (g.show H fz d.zs) H (mem w) g' (mkH n0 bks) (jF n0 sh.blks.length) (fun j=>n0+j) d.bd:=by
  refine ⟨fun j i hj => ?_,fun j hj => ?_⟩
  ·obtain⟨h1,k,h2,h3,h4,-⟩:=hat j _ hj;exact ⟨h1,hloc j _ hj,by rw[h3]; exact h4 i rfl,fun r hr o ho=>ho⟩
  ·obtain⟨h1,k,h2,h3,-,h4⟩:=hat j _ hj;obtain⟨q,us,rfl⟩:=h4 rfl;exact ⟨h1,hloc j _ hj,q,us,h3⟩
 have conv:F2 (LM (mem w) (g.show H fz d.zs) H U (mem w) g' (mkH n0 bks) (jF n0 sh.blks.length)) (L1++L2) (M1++M2):=by
  rw[← hM];refine hd.lf.mono' fun l m hl hf=>⟨hf.ar,fun v hv => ?_⟩;obtain⟨k,t,y,q,rfl,hy,hle⟩:=hf;have hsub:Shown (g.show H fz d.zs) H fz l.shows:=hsh.sub fun b hb=>by
   rw[hd.zs];exact cY.2 ⟨l,hl,hb⟩
  exact Cz hm1 (fun b=>.inr rfl) hsub hy hv hle
 obtain⟨N1,N2,hN,hc1,hc2⟩:=conv.split;have hl1:M1.length=N1.length:=by rw[← hf1.len,← hc1.len]
 obtain⟨rfl,rfl⟩:=eN hN hl1;have hp:b1 <+: d.bd:=(QT sh.blks hd.bs).1;obtain⟨hrl,-⟩:=GY tr sh.slots (rest:=M2) hd.vs hp hc1 (RL.mono hmo1 _ _ hr);have hblk:=OJ tr (fun _ _ _ h=>h) (fun {q k b o} hle hs=>hm1.le hle hs) hm1.blk sh.blks hd.bs hf2 hc2 (by rw[hbk']; exact hkinds)
 rw[hbk'] at hblk;have hzz:∀(j i:Nat),d.bd[j]? = some (some i)->(wu Z d.zs i=Z i):=by
  intro j i hj;rw[QE];have:(d.zs.any fun z=>aA i z)=false:=by
   rw[cz];intro z hz he;have:=au he;subst this;exact kG (hd.fresh _ hz) j hj
  rw[this,eF]
 -- the flags
 have hflag:∀(ts:List TB) (j0:Nat) (bd:Bnd) (L:List AV),JX H Z ts j0 bd=some (L,d.bd)->∀(n i:Nat),d.bd[j0+n]? = some (some i)->∀ t,ts[n]? = some t->Z i=true->t.z=true:=by
  intro ts
  induction ts with
  | nil=>intro j0 bd L _ n i _ t ht; simp at ht
  | cons t ts ih =>
   intro j0 bd L h n i hi t' ht hz;have h:((bd[j0]?).bind fun o=>(vm H Z t o bd).bind fun p=>(JX H Z ts (j0+1) p.2).bind fun q=>some (p.1++q.1,q.2))=some (L,d.bd):=h;obtain⟨o,ho,h⟩:=ah.1 h;obtain⟨⟨L1,b1⟩,h1,h⟩:=ah.1 h;obtain⟨⟨L2,b2⟩,h2,h⟩:=ah.1 h;simp only[aq,aM] at h;obtain⟨hL,hbb⟩:=h;have hbb:b2=d.bd:=hbb;rw[hbb] at h2;cases n with
   | zero =>
    have:=QF ((Xa h1).trans (QT ts h2).1) ho;simp only[dk] at hi;rw[hi] at this;injection this with this;subst this;injection ht with ht; subst ht;cases t with
    | seq z =>
     simp only[vm] at h1;split at h1
     ·rw[hz] at h1;cases z with
      | true=>rfl
      | false=>cases h1
     ·cases h1
    | cells z l =>
     simp only[vm] at h1;split at h1
     ·rw[hz] at h1;cases z with
      | true=>rfl
      | false=>cases h1
     ·cases h1
   | succ n=>exact ih (j0+1) _ _ h2 n i (by rw[← hi]; congr 1; omega) t' (by simpa using ht) hz
 have hZ:∀(j i:Nat),d.bd[j]? = some (some i)->wu Z d.zs i=true->mkZ n0 sh.blks (n0+j)=true:=by
  intro j i hj hz;rw[hzz j i hj] at hz;have hjl:j<sh.blks.length:=by rw[← hlen]; exact (aw.1 hj).1
  have ht:=al hjl;rw[WG ht];exact hflag sh.blks 0 _ _ hd.bs j i (by rw[aP]; exact hj) _ ht hz
 -- a block that is there
 have live:∀ x,mkH n0 bks x ≠ .dead->∃ j o k,x=n0+j∧d.bd[j]? = some o∧bks[j]? = some k∧mkH n0 bks x=k∧g'.loc x=o.bind g.loc∧∀ i,o=some i->SameKind (H i) k∧H i ≠ .dead:=by
  intro x hx;obtain⟨j,k,rfl,h1,h2⟩:=sY hx;have hj:j<sh.blks.length:=by rw[← hbl]; exact (aw.1 h1).1
  obtain⟨k',o,h3,h4,h5,-⟩:=hkind j hj;rw[h1] at h3; injection h3 with h3; subst h3;rw[aP] at h4;refine ⟨j,o,k,rfl,h4,h1,h2,hloc j o h4,fun i hi=>⟨h5 i hi,fun hdd => ?_⟩⟩;have:=h5 i hi;rw[hdd] at this;cases k<;>exact this
 have some_of:∀{o:Option Nat} {r:Nat},o.bind g.loc=some r->∃ i,o=some i∧g.loc i=some r:=by
  intro o r h;cases o with
  | none=>cases h
  | some i=>exact ⟨i,rfl,h⟩
 refine ⟨g',rfl,hloc,?_,by rw[hav]; exact hrl,fun j i hj => ?_⟩
 ·refine { blk:=fun b => ?_,used:=fun b hb => ?_,inj:=fun b b' r hb hb' hl hl' => ?_,acc:=fun q b o hs=>hm1.acc q b o hs,sep:=fun q r o x hs hx hl => ?_,up0:=fun q b o hs=>hm1.up0 q b o hs,up2:=fun q b o hq hs=>hm1.up2 q b o hq hs,dn:=fun b o hs=>hm1.dn b o hs,fr:=fun b o hs=>hm1.fr b o hs,nf:=hm1.nf,keep:=hm1.keep,mine:=fun x r hx hl hk => ?_,own:=fun x r hx hl => ?_,os:=hm1.os,tape:=hm1.tape,output:=hm1.output,size:=hm1.size,bnd:=hm1.bnd,glob:=hm1.glob,grow:=hm1.grow }
  ·by_cases hb:mkH n0 bks b = .dead
   ·rw[hb]; trivial
   ·obtain⟨j,o,k,rfl,h1,h2,h3,-⟩:=live b hb;rw[h3];have:=hblk j k h2;rw[aP] at this;exact this
  ·obtain⟨j,o,k,rfl,h1,-⟩:=live b hb;exact (hat j o h1).1
  ·obtain⟨j,o,k,rfl,h1,h2,h3,h4,h5⟩:=live b hb;obtain⟨j',o',k',rfl,h1',h2',h3',h4',h5'⟩:=live b' hb';rw[h4] at hl; rw[h4'] at hl';obtain⟨i,rfl,hi⟩:=some_of hl;obtain⟨i',rfl,hi'⟩:=some_of hl';have:=hm.inj i i' r (h5 i rfl).2 (h5' i' rfl).2 hi hi';subst this;rw[hd.inj j j' i h1 h1']
  ·obtain⟨j,o',k,rfl,h1,h2,h3,h4,h5⟩:=live x hx;rw[h4] at hl;obtain⟨i,rfl,hi⟩:=some_of hl;obtain⟨h6,q',ts,xs,h7,h8⟩:=hm1.sep q r o i hs (h5 i rfl).2 hi;refine ⟨hZ j i h1 h6,?_⟩;have hk:=(h5 i rfl).1;rw[h7] at hk;rw[h3];cases k with
   | seq q2 ts2 ys =>
    simp only[SameKind] at hk;obtain⟨rfl,hn⟩:=hk;exact ⟨q2,_,ys,rfl,by rw[← hn]; exact h8⟩
   | _=>exact hk.elim
  ·obtain⟨j,o,k,rfl,h1,h2,h3,h4,h5⟩:=live x hx;rw[h4] at hl;obtain⟨i,rfl,hi⟩:=some_of hl;obtain⟨h6,h7⟩:=hm1.mine i r (h5 i rfl).2 hi hk;refine ⟨hZ j i h1 h6,?_⟩;rw[h3];have hk:=(h5 i rfl).1;cases hH:H i<;>rw[hH] at hk h7<;>first | cases h7 | skip
   cases k<;>first | rfl | exact hk.elim
  ·obtain⟨j,o,k,rfl,h1,h2,h3,h4,h5⟩:=live x hx;rw[h4] at hl;obtain⟨i,rfl,hi⟩:=some_of hl;refine (hm1.own i r (h5 i rfl).2 hi).imp (fun h=>h) fun h=>h.imp (fun h=>h) fun ⟨h6,h7⟩=>⟨hZ j i h1 h6,?_⟩;rw[h3];have hk:=(h5 i rfl).1;cases hH:H i<;>rw[hH] at hk h7<;>first | cases h7 | skip
   cases k<;>first | rfl | exact hk.elim
 ·obtain⟨-,k,h2,h3,h4,-⟩:=hat j _ hj;exact ⟨by rw[h3]; exact h4 i rfl,fun hz=>hZ j i hj (by rw[hzz j i hj]; exact hz)⟩
def lent (g:Gh) (H:Nat->Blk) (Z:Nat->Bool):Nat->Prop:=fun r=>∃ x,H x ≠ .dead∧g.loc x=some r∧¬(Z x=true∧(H x).isCells=true)
def Fx.inner (X:Fx) (g:Gh) (H:Nat->Blk) (Z:Nat->Bool) (w:World) (hb:X.D<=w.heap.size):Fx :=
 {P:=X.P,gl:=X.gl,w0:=w,Keep:=fun k=>k<w.heap.size∧¬ lent g H Z k,N:=X.N,D:=w.heap.size,O:=lent g H Z,A:=g.S 0,hN:=fun b h=>X.hN b (aT hb h),keepLt:=fun _ h=>h.1 }
theorem MemOk.bB {X:Fx} {g:Gh} {H:Nat->Blk} {Z:Nat->Bool} {U:Nat->Prop} {w:World} (h:MemOk X g H Z U w):X.D<=w.heap.size:=h.bnd
theorem MemOk.inner {X:Fx} {g:Gh} {H:Nat->Blk} {Z:Nat->Bool} {U:Nat->Prop} {w:World} (h:MemOk X g H Z U w):MemOk (X.inner g H Z w h.bB) g H Z U w:=by
 refine { blk:=h.blk,used:=h.used,inj:=h.inj,acc:=h.acc,sep:=h.sep,up0:=h.up0,up2:=h.up2,dn:=fun b o hs=>.inl hs,fr:=h.fr,nf:=fun b o hs hB=>(by
  rcases hB with hB | ⟨x,hx,hl,-⟩
  ·exact h.nf b o hs (.inl hB)
  ·exact h.blkFrz hx hl o),keep:=fun _ _=>rfl,mine:=fun x r hx hl hk => ?_,own:=fun x r hx hl => ?_,os:=rfl,tape:=rfl,output:=rfl,size:=aC _,bnd:=aC _,glob:=h.glob,grow:=fun _ _ h=>h }
 ·exact eY fun hc=>hk.2 ⟨x,hx,hl,hc⟩
 ·by_cases hc:Z x=true∧(H x).isCells=true
  ·exact .inr (.inr hc)
  ·exact .inr (.inl ⟨x,hx,hl,hc⟩)
theorem WO {X:Fx} {g:Gh} {H:Nat->Blk} {Z:Nat->Bool} {U:Nat->Prop} {w:World} (h:MemOk X g H Z U w) {r:Nat} (hr:lent g H Z r):(X.D<=r∨X.O r)∧¬ X.Keep r∧r<w.heap.size:=by
 obtain⟨x,hx,hl,hn⟩:=hr;refine ⟨?_,fun hk=>hn (h.mine x r hx hl hk),h.locLt hx hl⟩;rcases h.own x r hx hl with h' | h' | h'
 ·exact .inl h'
 ·exact .inr h'
 ·exact absurd h' hn
def sw {α:Type} (nx:Nat) (f h:Nat->α):Nat->α:=fun b=>cond (dC b nx) (f b) (h b)
def Y3 (C:List Nat) (H:Nat->Blk):Nat->Blk:=fun b=>cond (C.any (aA b)) .dead (H b)
theorem uX {α:Type} {nx b:Nat} (f h:Nat->α) (hb:b<nx):sw nx f h b=f b:=by
 unfold sw; rw[show dC b nx=true from cI hb]; rfl
theorem tV {α:Type} {nx b:Nat} (f h:Nat->α) (hb:nx<=b):sw nx f h b=h b:=by
 unfold sw;cases hc:dC b nx with
 | false=>rfl
 | true=>have:b<nx:=bV hc; omega
theorem R3 {C:List Nat} {H:Nat->Blk} {b:Nat} (h:b∈C):Y3 C H b = .dead:=by
 unfold Y3;rw[show C.any (aA b)=true from List.any_eq_true.2 ⟨b,h,cM b⟩]; rfl
theorem Dw {C:List Nat} {H:Nat->Blk} {b:Nat} (h:b∉C):Y3 C H b=H b:=by
 unfold Y3;have:C.any (aA b)=false:=by
  rw[cz];intro x hx he;have:=au he;subst this;exact h hx
 rw[this]; rfl
theorem MemOk.embed {X:Fx} {go:Gh} {Ho:Nat->Blk} {Zo:Nat->Bool} {Uo:Nat->Prop} {w:World} (ho:MemOk X go Ho Zo Uo w) {gin:Gh} {Hin:Nat->Blk} {Zin:Nat->Bool} {hb:X.D<=w.heap.size} {gi:Gh} {Hi:Nat->Blk} {Zi:Nat->Bool} {Ui:Nat->Prop} {w':World}
  (hi:MemOk (X.inner gin Hin Zin w hb) gi Hi Zi Ui w') {nx:Nat} (hU:∀ b,Uo b->b<nx) (hUi:∀ b,Ui b->nx<=b) {C:List Nat}
  (hS0:gin.S=go.S) (hS:∀ q b o,go.S q b o->gi.S q b o∧mem w' b o=mem w b o)
  (hC:∀ r,lent gin Hin Zin r->∃ b,b∈C∧Ho b ≠ .dead∧go.loc b=some r∧¬(Zo b=true∧(Ho b).isCells=true))
  (hC':∀ b,b∈C->∀ r,go.loc b=some r->Ho b ≠ .dead->∀ b',b'∉C->Ho b' ≠ .dead->go.loc b'≠some r)
  (hro:∀ x,Hi x ≠ .dead->¬(Zi x=true∧(Hi x).isCells=true)) :
  MemOk X { S:=gi.S,loc:=sw nx go.loc gi.loc } (sw nx (Y3 C Ho) Hi) (sw nx Zo Zi) (fun b=>Uo b∨Ui b) w' ∧
  Mono (mem w) go Ho Uo (mem w') { S:=gi.S,loc:=sw nx go.loc gi.loc } (sw nx (Y3 C Ho) Hi) (fun b=>Uo b∨Ui b) ∧
  Mono (mem w') gi Hi Ui (mem w') { S:=gi.S,loc:=sw nx go.loc gi.loc } (sw nx (Y3 C Ho) Hi) (fun b=>Uo b∨Ui b):=by
 have hlt:∀ b,Ho b ≠ .dead->b<nx:=fun b h=>hU b (ho.used b h);have hge:∀ b,Hi b ≠ .dead->nx<=b:=fun b h=>hUi b (hi.used b h)
 -- an outer block that is still there
 have outer:∀ b,b<nx->Y3 C Ho b ≠ .dead->b∉C∧Ho b ≠ .dead∧Y3 C Ho b=Ho b:=fun b _ h=>by
  have hn:b∉C:=fun hc=>h (R3 hc);rw[Dw hn] at h;exact ⟨hn,h,Dw hn⟩
 have keep:∀ b r,b∉C->Ho b ≠ .dead->go.loc b=some r->(X.inner gin Hin Zin w hb).Keep r:=fun b r hn hd hl=>by
  refine ⟨ho.locLt hd hl,fun hlent => ?_⟩;obtain⟨b',h1,h2,h3,-⟩:=hC r hlent;exact hC' b' h1 r h3 h2 b hn hd hl
 have row:∀ b r,b∉C->Ho b ≠ .dead->go.loc b=some r->w'.heap[r]? = w.heap[r]? := fun b r hn hd hl=>hi.keep r (keep b r hn hd hl);have hmono:Mono (mem w) go Ho Uo (mem w') { S:=gi.S,loc:=sw nx go.loc gi.loc } (sw nx (Y3 C Ho) Hi) (fun b=>Uo b∨Ui b):=by
  refine ⟨hS,fun b hb=>.inl hb,fun b hb => ?_⟩;have hbn:=hU b hb;rw[uX _ _ hbn];by_cases hd:Y3 C Ho b = .dead
  ·exact .inl hd
  ·obtain⟨h1,h2,h3⟩:=outer b hbn hd;rw[h3];refine .inr ⟨(SameKind.refl_or (Ho b)).resolve_left h2,uX _ _ hbn,fun r hr j hj => ?_⟩;rw[zE (row b r h1 h2 hr)]; exact hj
 have hmono':Mono (mem w') gi Hi Ui (mem w') { S:=gi.S,loc:=sw nx go.loc gi.loc } (sw nx (Y3 C Ho) Hi) (fun b=>Uo b∨Ui b):=by
  refine ⟨fun q b o hs=>⟨hs,rfl⟩,fun b hb=>.inr hb,fun b hb => ?_⟩;have hbn:=hUi b hb;rw[tV _ _ hbn];exact (SameKind.refl_or (Hi b)).imp (fun h=>h) fun h=>⟨h,tV _ _ hbn,fun _ _ _ h=>h⟩
 refine ⟨?_,hmono,hmono'⟩
 -- a block that is there
 have live:∀ x,sw nx (Y3 C Ho) Hi x ≠ .dead->(x<nx∧x∉C∧Ho x ≠ .dead∧sw nx (Y3 C Ho) Hi x=Ho x)∨(nx<=x∧Hi x ≠ .dead∧sw nx (Y3 C Ho) Hi x=Hi x):=by
  intro x hx;rcases bG x nx with h | h
  ·rw[uX _ _ h] at hx ⊢;obtain⟨h1,h2,h3⟩:=outer x h hx;exact .inl ⟨h,h1,h2,h3⟩
  ·rw[tV _ _ h] at hx ⊢;exact .inr ⟨h,hx,rfl⟩
 have lentO:∀ r,lent gin Hin Zin r->(X.D<=r∨X.O r)∧¬ X.Keep r:=fun r hr=>by
  obtain⟨b,h1,h2,h3,h4⟩:=hC r hr;have:=WO ho (r:=r) ⟨b,h2,h3,h4⟩;exact ⟨this.1,this.2.1⟩
 have keepK:∀ k,X.Keep k->(X.inner gin Hin Zin w hb).Keep k:=fun k hk=>⟨dm (X.keepLt k hk) ho.size,fun hl=>(lentO k hl).2 hk⟩
 refine { blk:=fun b => ?_,used:=fun b hb => ?_,inj:=fun b b' r hb hb' hl hl' => ?_,acc:=hi.acc,sep:=fun q r o x hs hx hl => ?_,up0:=hi.up0,up2:=hi.up2,dn:=fun b o hs => ?_,fr:=hi.fr,nf:=fun b o hs hB=>(by
  rcases hB with hB | hB
  ·exact hi.nf b o hs (.inl hB)
  ·by_cases hlb:lent gin Hin Zin b
   ·exact hi.nf b o hs (.inr hlb)
   ·rcases hi.dn b o hs with h5 | h5 | h5
    ·have h5:go.S 0 b o:=hS0▸h5;rw[vM (hi.keep b ⟨ho.mem_lt h5,hlb⟩)];exact ho.nf b o h5 (.inr hB)
    ·exact hi.nf b o hs (.inl (X.hN _ (aT ho.bB h5)))
    ·exact absurd h5 hlb),keep:=fun k hk=>(hi.keep k (keepK k hk)).trans (ho.keep k hk),mine:=fun x r hx hl hk => ?_,own:=fun x r hx hl => ?_,os:=hi.os.trans ho.os,tape:=hi.tape.trans ho.tape,output:=hi.output.trans ho.output,size:=aT ho.size hi.size,bnd:=aT ho.bnd hi.size,glob:=hi.glob,grow:=fun r j hj=>hi.grow r j (ho.grow r j hj) }
 ·by_cases hd:sw nx (Y3 C Ho) Hi b = .dead
  ·rw[hd]; trivial
  ·rcases live b hd with ⟨h1,h2,h3,h4⟩ | ⟨h1,h2,h4⟩
   ·rw[h4];exact RBlk.mono hmono (uX _ _ h1) (fun r hr=>row b r h2 h3 hr) (ho.blk b)
   ·rw[h4];exact RBlk.mono hmono' (tV _ _ h1) (fun r hr=>rfl) (hi.blk b)
 ·rcases live b hb with ⟨h1,h2,h3,h4⟩ | ⟨h1,h2,h4⟩
  ·exact .inl (ho.used b h3)
  ·exact .inr (hi.used b h2)
 ·have hl:sw nx go.loc gi.loc b=some r:=hl;have hl':sw nx go.loc gi.loc b'=some r:=hl';have mixed:∀ b b',b<nx->b∉C->Ho b ≠ .dead->sw nx go.loc gi.loc b=some r->nx<=b'->Hi b' ≠ .dead->sw nx go.loc gi.loc b'=some r->False:=by
   intro b b' h1 h2 h3 hl h4 h5 hl';rw[uX _ _ h1] at hl;rw[tV _ _ h4] at hl';exact hro b' h5 (hi.mine b' r h5 hl' (keep b r h2 h3 hl))
  rcases live b hb with ⟨h1,h2,h3,h4⟩ | ⟨h1,h2,h4⟩<;>rcases live b' hb' with ⟨h1',h2',h3',h4'⟩ | ⟨h1',h2',h4'⟩
  ·rw[uX _ _ h1] at hl; rw[uX _ _ h1'] at hl';exact ho.inj b b' r h3 h3' hl hl'
  ·exact (mixed b b' h1 h2 h3 hl h1' h2' hl').elim
  ·exact (mixed b' b h1' h2' h3' hl' h1 h2 hl).elim
  ·rw[tV _ _ h1] at hl; rw[tV _ _ h1'] at hl';exact hi.inj b b' r h2 h2' hl hl'
 ·have hl:sw nx go.loc gi.loc x=some r:=hl;rcases live x hx with ⟨h1,h2,h3,h4⟩ | ⟨h1,h2,h4⟩
  ·rw[uX _ _ h1] at hl;rw[h4,uX _ _ h1];have hk:=keep x r h2 h3 hl;rcases hi.dn r o (hi.up0 q r o hs) with h5 | h5 | h5
   ·have h5:go.S 0 r o:=hS0▸h5;exact ho.sep 0 r o x h5 h3 hl
   ·have:w.heap.size<=r:=h5;have:=hk.1; omega
   ·exact absurd h5 hk.2
  ·rw[tV _ _ h1] at hl;rw[h4,tV _ _ h1];exact hi.sep q r o x hs h2 hl
 ·rcases hi.dn b o hs with h5 | h5 | h5
  ·have h5:go.S 0 b o:=hS0▸h5;exact ho.dn b o h5
  ·exact .inr (.inl (aT ho.bnd h5))
  ·exact .inr (lentO b h5).1
 ·have hl:sw nx go.loc gi.loc x=some r:=hl;rcases live x hx with ⟨h1,h2,h3,h4⟩ | ⟨h1,h2,h4⟩
  ·rw[uX _ _ h1] at hl;rw[h4,uX _ _ h1];exact ho.mine x r h3 hl hk
  ·rw[tV _ _ h1] at hl;exact absurd (hi.mine x r h2 hl (keepK r hk)) (hro x h2)
 ·have hl:sw nx go.loc gi.loc x=some r:=hl;rcases live x hx with ⟨h1,h2,h3,h4⟩ | ⟨h1,h2,h4⟩
  ·rw[uX _ _ h1] at hl;rw[h4,uX _ _ h1];exact ho.own x r h3 hl
  ·rw[tV _ _ h1] at hl;rcases hi.own x r h2 hl with h5 | h5 | h5
   ·exact .inl (aT ho.bnd h5)
   ·exact (lentO r h5).1.imp (fun h=>h) .inl
   ·exact absurd h5 (hro x h2)
section
variable {R:Type}
structure SS where
 ts:List Nat
 sh:Sh
abbrev SS.X (s:SS):Type:=jv s.sh.hs
def J0:List Nat->List AV->Nat->AV->AV
 | t::ts,a::as,i,d=>cond (aA i t) a (J0 ts as i d)
 | _,_,_,d=>d
def IL (fz:Nat) (s:SS) (st:St):Option (Dec s.sh):=s.sh.dec st.H st.Z fz (s.ts.map st.φ)
def mkS (s:SS) (n0:Nat) (x:s.X):St :=
 {φ:=fun i=>J0 s.ts (s.sh.avs (fun j=>n0+j) x) i .unk
  H:=mkH n0 (s.sh.bks (fun j=>n0+j) x)
  Z:=mkZ n0 s.sh.blks
  nx:=n0+s.sh.blks.length }
abbrev Exs:=List (XE×SS)
def YT:Exs->Type
 | []=>Empty
 | [e]=>e.2.X
 | e::f::es=>e.2.X⊕YT (f::es)
def Wn {α:Sort _}:(es:Exs)->YT es->(XE->(s:SS)->s.X->α)->α
 | [],y,_=>y.elim
 | [e],y,k=>k e.1 e.2 y
 | e::f::es,y,k=>match (y:e.2.X⊕YT (f::es)) with
  | .inl z=>k e.1 e.2 z
  | .inr z=>Wn (f::es) z k
def XP:XE->XE->Bool
 | .normal,.normal=>true
 | .exit i,.exit j=>aA i j
 | .goto i,.goto j=>aA i j
 | .ret,.ret=>true
 | _,_=>false
def HG (fz:Nat):(es:Exs)->XE->St->Option (YT es)
 | [],_,_=>none
 | [e],xe,st=>cond (XP e.1 xe) ((IL fz e.2 st).bind fun d=>some d.x) none
 | e::f::es,xe,st=>cond (XP e.1 xe) ((IL fz e.2 st).bind fun d=>some (aU d.x)) ((HG fz (f::es) xe st).bind fun y=>some (aH y))
theorem IG {a b:XE} (h:XP a b=true):a=b:=by
 cases a<;>cases b<;>simp [XP] at h ⊢ <;> exact h
theorem Cm {fz:Nat}:(es:Exs)->{xe:XE}->{st:St}->{y:YT es}->HG fz es xe st=some y->Wn es y fun xe' s z=>xe'=xe∧∃ d,IL fz s st=some d∧d.x=z
 | [],_,_,y,_=>nomatch y
 | [e],xe,st,y,h=>by
  have h:cond (XP e.1 xe) ((IL fz e.2 st).bind fun d=>some d.x) none=some y:=h;cases hs:XP e.1 xe with
  | false=>rw[hs] at h; cases h
  | true =>
   rw[hs] at h;obtain⟨d,hd,h⟩:=ah.1 h;injection h with h;exact ⟨IG hs,d,hd,h⟩
 | e::f::es,xe,st,y,h=>by
  have h:cond (XP e.1 xe) ((IL fz e.2 st).bind fun d=>some (aU d.x)) ((HG fz (f::es) xe st).bind fun y=>some (aH y))=some y:=h;cases hs:XP e.1 xe with
  | false =>
   rw[hs] at h;obtain⟨z,hz,h⟩:=ah.1 h;injection h with h; subst h;exact Cm (f::es) hz
  | true =>
   rw[hs] at h;obtain⟨d,hd,h⟩:=ah.1 h;injection h with h; subst h;exact ⟨IG hs,d,hd,rfl⟩
theorem Qe:(es:Exs)->{y:YT es}->{p q:XE->(s:SS)->s.X->Prop}->(∀ e s z,(e,s)∈es->p e s z->q e s z)->Wn es y p->Wn es y q
 | [],y,_,_,_,_=>nomatch y
 | [e],y,p,q,h,hp=>h e.1 e.2 y (by simp) hp
 | e::f::es,y,p,q,h,hp=>by
  match y,hp with
  | .inl z,hp=>exact h e.1 e.2 z (by simp) hp
  | .inr z,hp=>exact Qe (f::es) (fun e' s z hm=>h e' s z (by simp at hm ⊢; exact .inr hm)) (show Wn (f::es) z p from hp)
def sI (sh:Sh) (bd:Bnd):List Nat :=
 match sh.blks,bd with
 | ts,bd=>(ts.zip bd).flatMap fun q=>match q.1.ro,q.2 with
  | false,some i=>[i]
  | _,_=>[]
def J2 (W C zs:List Nat) (st:St) (s:SS) (z:s.X):St :=
 {φ:=fun i=>J0 s.ts (s.sh.avs (fun j=>st.nx+j) z) i (cond (W.any (aA i)) .unk (st.φ i))
  H:=sw st.nx (Y3 C st.H) (mkH st.nx (s.sh.bks (fun j=>st.nx+j) z))
  Z:=sw st.nx (wu st.Z zs) (mkZ st.nx s.sh.blks)
  nx:=st.nx+s.sh.blks.length }
def lpU (fz:Nat) (W:List Nat) (hd:SS) (es:Exs) (F:hd.X->Option (YT es)):Un :=
 ⟨fun st κ=>(IL fz hd st).bind fun d=>(F d.x).bind fun y=>Wn es y fun xe s z=>κ xe (J2 W (sI hd.sh d.bd) d.zs st s z)⟩
def Bp (fz:Nat) (hd:SS) (es:Exs) (f:hd.X->Option (YT es)):XE->St->Option (YT es)
 | .normal,st=>(IL fz hd st).bind fun d=>f d.x
 | .exit i,st=>HG fz es (.exit i) st
 | .goto i,st=>HG fz es (.goto i) st
 | .ret,st=>HG fz es .ret st
theorem K7 {c:Mem} {g:Gh} {H:Nat->Blk} {U:Nat->Prop} {tmps:Array Value}:(ts:List Nat)->{as:List AV}->RL c g H U as (ts.map fun t=>tmps.getD t undef)->∀ i d,RAV c g H U d (tmps.getD i undef)->RAV c g H U (J0 ts as i d) (tmps.getD i undef)
 | [],as,h,i,d,hd=>by cases as<;>exact hd
 | t::ts,[],h,i,d,hd=>hd
 | t::ts,a::as,h,i,d,hd=>by
  simp only[aK,RL] at h;obtain⟨v,us,e,h1,h2⟩:=h;injection e with e1 e2;subst e1; subst e2;unfold J0;cases hb:aA i t with
  | true=>rw[au hb]; exact h1
  | false=>exact K7 ts h2 i d hd
theorem Now.weak {X:Fx} {V:Env} {d:List Deferred} {st:St} {a:Act} {w:World} {g:Gh} {U:Nat->Prop} (hn:Now X V d tC st a w g U) {fz:Nat} (hfz:fz=0∨fz=2) (hB:fz=2->∀ r,X.O r->X.N r) {s:SS} {dd:Dec s.sh} (h:IL fz s st=some dd) (n0:Nat) :
  ∃ g',g'.S=(g.show st.H fz dd.zs).S∧Now X V d tC (mkS s n0 dd.x) a w g' (jF n0 s.sh.blks.length)∧(∀(j:Nat) o,dd.bd[j]? = some o->g'.loc (n0+j)=o.bind g.loc) ∧
   (∀(j i:Nat),dd.bd[j]? = some (some i)->SameKind (st.H i) ((mkS s n0 dd.x).H (n0+j))∧(st.Z i=true->(mkS s n0 dd.x).Z (n0+j)=true)):=by
 obtain⟨L1,L2,b1,hd⟩:=Bx h;have hrl:RL (Abs.mem w) g st.H U (s.ts.map st.φ) (s.ts.map fun t=>a.tmps.getD t undef):=by
  generalize s.ts=l
  induction l with
  | nil=>rfl
  | cons t l ih=>exact ⟨_,_,rfl,hn.fr t,ih⟩
 obtain⟨g',h1,h2,h3,h4,h5⟩:=hn.mem.weak hfz hB hd hrl n0;refine ⟨g',h1,⟨fun t=>K7 s.ts h4 t .unk trivial,h3,hn.n,hn.d,fun b hb=>.inl hb.2⟩,h2,h5⟩
end
structure VAll (P:Program) (V:Env):Prop where
 tb:jk P V.tb
 fz:V.fz=0∨V.fz=2
 nat:∀ f c,V.Γ f=some c->c.nat
 con:∀ f c,V.Γ f=some c->∀ X:Fx,X.gl=V.gl->(V.fz=2->∀ r,X.O r->X.N r)->Rk P X V.fz f c
theorem VAll.ok {P:Program} {V:Env} (h:VAll P V) {X:Fx} (hg:X.gl=V.gl) (hB:V.fz=2->∀ r,X.O r->X.N r):VOk P X V :=
 ⟨h.tb,hg.symm,h.fz,hB,fun f c hf=>h.con f c hf X hg hB⟩
structure SinceS (W:List Nat) (w0:World) (g0:Gh) (a0:Act) (w:World) (g:Gh) (a:Act):Prop where
 hS:∀ q b o,g0.S q b o->g.S q b o∧mem w b o=mem w0 b o
 tmps:∀ t,¬ t∈W->a.tmps.getD t undef=a0.tmps.getD t undef
theorem SinceS.refl {W:List Nat} {w:World} {g:Gh} {a:Act}:SinceS W w g a w g a:=⟨fun _ _ _ h=>⟨h,rfl⟩,fun _ _=>rfl⟩
theorem SinceS.trans {W:List Nat} {w0 w1 w2:World} {g0 g1 g2:Gh} {a0 a1 a2:Act} (h:SinceS W w0 g0 a0 w1 g1 a1) (h':SinceS W w1 g1 a1 w2 g2 a2):SinceS W w0 g0 a0 w2 g2 a2 :=
 ⟨fun q b o hs=>⟨(h'.hS q b o (h.hS q b o hs).1).1,(h'.hS q b o (h.hS q b o hs).1).2.trans (h.hS q b o hs).2⟩,fun t ht=>(h'.tmps t ht).trans (h.tmps t ht)⟩
theorem G8 {g g':Gh} {H:Nat->Blk} {fz:Nat} {bs:List Nat} (h:g'.S=(g.show H fz bs).S):∀ q b o,g.S q b o->g'.S q b o:=fun q b o hs=>by rw[h]; exact .inl hs
theorem SinceS.sub {W:List Nat} {w0 w:World} {g0 g g':Gh} {a0 a:Act} (h:SinceS W w0 g0 a0 w g a) (hs:∀ q b o,g.S q b o->g'.S q b o):SinceS W w0 g0 a0 w g' a :=
 ⟨fun q b o h1=>⟨hs q b o (h.hS q b o h1).1,(h.hS q b o h1).2⟩,h.tmps⟩
def Vq (X:Fx) (V:Env) (W:List Nat) (d:List Deferred) (es:Exs) (y:YT es) (n1:Nat) (w0:World) (g0:Gh) (a0:Act):Exit->Act->World->Prop :=
 fun e a' w'=>Wn es y fun xe s z=>kV e xe∧∃ g',Now X V d tC (mkS s n1 z) a' w' g' (jF n1 s.sh.blks.length)∧SinceS W w0 g0 a0 w' g' a'
theorem WZ {X:Fx} {V:Env} {W:List Nat} {d:List Deferred} {es:Exs} {y:YT es} {n1:Nat} {w0:World} {g0:Gh} {a0:Act} (hfz:V.fz=0∨V.fz=2) (hB:V.fz=2->∀ r,X.O r->X.N r) {e:Exit} {xe:XE} (he:kV e xe) {st:St} {a:Act} {w:World} {g:Gh} {U:Nat->Prop}
  (hn:Now X V d tC st a w g U) (h:HG V.fz es xe st=some y) (hs:SinceS W w0 g0 a0 w g a):Vq X V W d es y n1 w0 g0 a0 e a w:=by
 refine Qe es (fun xe' s z _ hh => ?_) (Cm es h);obtain⟨rfl,dd,hdd,rfl⟩:=hh;obtain⟨g',h1,h2,-,-⟩:=hn.weak hfz hB hdd n1;exact ⟨he,g',h2,hs.sub (G8 h1)⟩
theorem JJ {P:Program} {V:Env} (hA:VAll P V) (zu:P.follows .mixedOrders=true) {c:Code} {ac:AC} (hac:∀ X:Fx,VOk P X V->XX P X V c ac) {hd:SS} {es:Exs} {Fl:Nat->hd.X->Option (YT es)} (h0:∀ x,Fl 0 x=none)
  (hs:∀ k x y,Fl (k+1) x=some y->E V c ac (mkS hd 8 x) (Bp V.fz hd es (Fl k))=some y) {X:Fx} (hg:X.gl=V.gl) (hB:V.fz=2->∀ r,X.O r->X.N r) {n1:Nat} {d:List Deferred} {W:List Nat} (hW:∀ t,t∈ZJ c->t∈W) {w0:World} {g0:Gh} {a0:Act} :
  (k:Nat)->{x:hd.X}->{y:YT es}->Fl k x=some y->{a:Act}->{w:World}->{g:Gh}->{U:Nat->Prop}->Now X V d tC (mkS hd 8 x) a w g U->SinceS W w0 g0 a0 w g a->Code.rounds P c (Vq X V W d es y n1 w0 g0 a0) k a w
 | 0,x,y,h,_,_,_,_,_,_=>by rw[h0] at h; cases h
 | k+1,x,y,h,a,w,g,U,hn,hsi=>by
  have hX:=hA.ok hg hB;rw[rounds_succ];refine wp_mono (IB hX hA.nat zu c ac (hac X hX) _ _ _ (hs k x y h) d a w g U hn) ?_;rintro e a1 w1 ⟨xe,st1,g1,U1,he,hk,hn1,hs1⟩;have hsi1:SinceS W w0 g0 a0 w1 g1 a1:=hsi.trans ⟨hs1.mono.hS,fun t ht=>hs1.tmps t fun h'=>ht (hW t h')⟩;cases e<;>cases xe<;>simp only[kV] at he
  ·have hk:((IL V.fz hd st1).bind fun d=>Fl k d.x)=some y:=hk;obtain⟨dd,hdd,hk⟩:=ah.1 hk;obtain⟨g',h1,h2,-,-⟩:=hn1.weak hA.fz hB hdd 8;exact JJ hA zu hac h0 hs hg hB hW k hk h2 (hsi1.sub (G8 h1))
  ·exact WZ hA.fz hB (xe:=.exit _) (by exact he) hn1 hk hsi1
  ·exact WZ hA.fz hB (xe:=.goto _) (by exact he) hn1 hk hsi1
  ·exact WZ hA.fz hB (e:=.ret) (xe:=.ret) trivial hn1 hk hsi1
theorem Rq (ts:List Nat):(as:List AV)->(i:Nat)->(d:AV)->J0 ts as i d=J0 ts as i .unk∨J0 ts as i d=d:=by
 induction ts with
 | nil=>intro as i d; cases as<;>exact .inr rfl
 | cons t ts ih =>
  intro as i d;cases as with
  | nil=>exact .inr rfl
  | cons a as =>
   unfold J0;cases aA i t with
   | true=>exact .inl rfl
   | false=>exact ih as i d
theorem QG {nm:Nat->Nat}:(ts:List TB)->{ms:List AV}->{j:Nat}->{cs:List AV}->(qv nm ts ms)[j]? = some (.cells cs)->∃ z l,ts[j]? = some (.cells z l)
 | [],_,_,_,h=>by simp [qv] at h
 | t::ts,ms,0,cs,h=>by
  have h:some (vF nm t ms).1=some (.cells cs):=h;injection h with h;cases t with
  | cells z l=>exact ⟨z,l,rfl⟩
  | seq z =>
   exfalso;cases ms with
   | nil=>cases h
   | cons m ms =>
    cases m with
    | val k t x=>cases t<;>cases h
    | _=>cases h
 | t::ts,ms,j+1,cs,h=>QG ts (show (qv nm ts (vF nm t ms).2)[j]? = _ from h)
def YF (sh:Sh):Bool:=sh.blks.all fun t => !t.ro
theorem zgR {s:SS} {n0:Nat} {z:s.X} (h:YF s.sh=true):∀ x,(mkS s n0 z).H x ≠ .dead->¬((mkS s n0 z).Z x=true∧((mkS s n0 z).H x).isCells=true):=by
 rintro x hx ⟨h1,h2⟩;obtain⟨j,k,rfl,h3,h4⟩:=sY hx;have h2:(mkH n0 (s.sh.bks (fun j=>n0+j) z) (n0+j)).isCells=true:=h2;rw[h4] at h2;cases k with
 | cells cs =>
  obtain⟨zf,l,ht⟩:=QG _ h3;have h1:mkZ n0 s.sh.blks (n0+j)=true:=h1;rw[WG ht] at h1;have h1:zf=true:=h1;subst h1;simp only[YF,aD] at h;have:=h _ (aJ ht);cases this
 | _=>cases h2
theorem KU {sh:Sh} {bd:Bnd} {b j:Nat} {t:TB} (h1:sh.blks[j]? = some t) (h2:t.ro=false) (h3:bd[j]? = some (some b)):b∈sI sh bd:=by
 unfold sI;refine cY.2 ⟨(t,some b),aJ (List.getElem?_zip_eq_some.2 ⟨h1,h3⟩),?_⟩;simp only[h2];exact bb.2 rfl
theorem Now.join {X:Fx} {V:Env} {d:List Deferred} {st:St} {a:Act} {w:World} {g:Gh} {U:Nat->Prop} (hn:Now X V d tC st a w g U) {fz:Nat} (hfz:fz=0∨fz=2) (hB:fz=2->∀ r,X.O r->X.N r) {W C zs:List Nat}
  {gin:Gh} {Hin:Nat->Blk} {Zin:Nat->Bool} {hb:X.D<=w.heap.size} (hS0:gin.S=(g.show st.H fz zs).S)
  (hC:∀ r,lent gin Hin Zin r->∃ b,b∈C∧st.H b ≠ .dead∧g.loc b=some r∧¬(wu st.Z zs b=true∧(st.H b).isCells=true))
  {s:SS} {z:s.X} (hro:YF s.sh=true) {a':Act} {w':World} {g':Gh} (hi:Now (X.inner gin Hin Zin w hb) V d tC (mkS s st.nx z) a' w' g' (jF st.nx s.sh.blks.length))
  (hs:SinceS W w gin a w' g' a'):∃ g3 U3,Now X V d tC (J2 W C zs st s z) a' w' g3 U3∧Since (· ∈ W) w g st.H U a w' g3 (J2 W C zs st s z).H U3 a':=by
 obtain⟨hm1,hmo1,-⟩:=hn.mem.shown hfz hB zs;have hU:∀ b,U b->b<st.nx:=fun b hb=>(hn.used b hb).resolve_right fun ⟨_,h,_⟩=>h;obtain⟨h1,h2,h3⟩:=hm1.embed (C:=C) hi.mem hU (fun b hb=>hb.1) hS0 (fun q b o h'=>hs.hS q b o (hS0▸h')) hC (fun b hb r hl hd b' hb' hd' hl'=>hb' (hm1.inj b b' r hd hd' hl hl'▸hb)) (zgR hro);have hmo:=hmo1.trans h2;refine ⟨_,_,⟨fun t => ?_,h1,hi.n,hi.d,fun b hb => ?_⟩,⟨hmo,hs.tmps⟩⟩
 ·show RAV _ _ _ _ (J0 s.ts _ t (cond (W.any (aA t)) .unk (st.φ t))) _;rcases Rq s.ts (s.sh.avs (fun j=>st.nx+j) z) t (cond (W.any (aA t)) .unk (st.φ t)) with h | h
  ·rw[h]; exact RAV.mono h3 _ _ (hi.fr t)
  ·rw[h];cases hw:W.any (aA t) with
   | true=>trivial
   | false =>
    have ht:t∉W:=fun ht=>by
     rw[cz] at hw;exact hw t ht (cM t)
    rw[hs.tmps t ht];exact RAV.mono hmo _ _ (hn.fr t)
 ·rcases hb with hb | hb
  ·exact .inl (dm (hU b hb) (Nat.le_add_right _ _))
  ·exact .inl hb.2
theorem zfW {P:Program} {V:Env} (hA:VAll P V) (zu:P.follows .mixedOrders=true) {c:Code} {ac:AC} (hac:∀ X:Fx,VOk P X V->XX P X V c ac) {hd:SS} {es:Exs} {Fl:Nat->hd.X->Option (YT es)} (h0:∀ x,Fl 0 x=none)
  (hs:∀ k x y,Fl (k+1) x=some y->E V c ac (mkS hd 8 x) (Bp V.fz hd es (Fl k))=some y) {W:List Nat} (hW:ZJ c=W) (hro:∀ e s,(e,s)∈es->YF s.sh=true) (k:Nat) {X:Fx} (hX:VOk P X V):Pt P X V (.loop c) (lpU V.fz W hd es (Fl k)):=by
 intro R st κ x h d a w g U hn;have hg:X.gl=V.gl:=hX.gl.symm;have h:((IL V.fz hd st).bind fun d=>(Fl k d.x).bind fun y=>Wn es y fun xe s z=>κ xe (J2 W (sI hd.sh d.bd) d.zs st s z))=some x:=h;obtain⟨dd,hdd,h⟩:=ah.1 h;obtain⟨y,hy,h⟩:=ah.1 h;obtain⟨g1,hS1,hn1,hloc,hkz⟩:=hn.weak hA.fz hX.own hdd 8;obtain⟨L1,L2,b1,hdok⟩:=Bx hdd;have hin:=hn1.mem.inner;have hB':V.fz=2->∀ r,(X.inner g1 (mkS hd 8 dd.x).H (mkS hd 8 dd.x).Z w hn1.mem.bB).O r->(X.inner g1 (mkS hd 8 dd.x).H (mkS hd 8 dd.x).Z w hn1.mem.bB).N r:=fun h2 r hr=>by
  rcases (WO hn1.mem hr).1 with h' | h'
  ·exact X.hN _ h'
  ·exact hX.own h2 r h'
 have hnin:Now (X.inner g1 (mkS hd 8 dd.x).H (mkS hd 8 dd.x).Z w hn1.mem.bB) V d tC (mkS hd 8 dd.x) a w g1 (jF 8 hd.sh.blks.length):={ hn1 with mem:=hin };have hwp:=wp_loop_rounds k (JJ (n1:=st.nx) hA zu hac h0 hs (X:=X.inner g1 (mkS hd 8 dd.x).H (mkS hd 8 dd.x).Z w hn1.mem.bB) hg hB' (W:=W) (fun t ht=>hW▸ht) k hy hnin (SinceS.refl (W:=W)));refine wp_mono hwp fun e a' w' hq => ?_;have hex:=Qe es (q:=fun xe s z=>∃ g3 U3,kV e xe∧Now X V d tC (J2 W (sI hd.sh dd.bd) dd.zs st s z) a' w' g3 U3∧Since (· ∈ W) w g st.H U a w' g3 (J2 W (sI hd.sh dd.bd) dd.zs st s z).H U3 a') (fun xe s z hm hp=>by
  obtain⟨he,g',hn',hsi⟩:=hp;obtain⟨g3,U3,h3,h4⟩:=hn.join (fz:=V.fz) hA.fz hX.own (C:=sI hd.sh dd.bd) hS1 (fun r hr=>by
   obtain⟨b,hb1,hb2,hb3⟩:=hr;obtain⟨j,kk,rfl,hj1,hj2⟩:=sY hb1;have hjl:j<dd.bd.length:=by
    rw[hdok.len];have:=(aw.1 hj1).1;unfold Sh.bks at this;rwa [uP] at this
   have ho:=al hjl;have hl:=hloc j _ ho;rw[hb2] at hl;cases hoi:dd.bd[j] with
   | none=>rw[hoi] at hl; cases hl
   | some i =>
    rw[hoi] at hl ho;obtain⟨hk1,hk2⟩:=hkz j i ho;have hjt:j<hd.sh.blks.length:=by rw[← hdok.len]; exact hjl
    have ht:=al hjt;have hzi:wu st.Z dd.zs i=st.Z i:=by
     rw[QE];have:(dd.zs.any fun z=>aA i z)=false:=by
      rw[cz];intro z hz he;have:=au he;subst this;exact kG (hdok.fresh _ hz) j ho
     rw[this,eF]
    refine ⟨i,KU ht ?_ ho,fun hdd' => ?_,hl.symm,fun hc=>hb3 ?_⟩
    ·cases hr:hd.sh.blks[j].ro with
     | false=>rfl
     | true =>
      exfalso;apply hb3;have hcell:∃ l,hd.sh.blks[j] = .cells true l:=by
       cases hbk:hd.sh.blks[j] with
       | seq z=>rw[hbk] at hr; cases hr
       | cells z l=>rw[hbk] at hr; cases z with
        | true=>exact ⟨l,rfl⟩
        | false=>cases hr
      obtain⟨l,hl2⟩:=hcell;refine ⟨?_,?_⟩
      ·show mkZ 8 hd.sh.blks (8+j)=true;rw[WG ht,hl2]; rfl
      ·have hkk:=hdok.kinds fun j=>8+j;have hone:∀(ts:List TB) (bs:List Blk),vH ts bs=true->∀(n:Nat) (t:TB) (b:Blk),ts[n]? = some t->bs[n]? = some b->Xi t b=true:=by
        intro ts
        induction ts with
        | nil=>intro bs _ n t b ht; simp at ht
        | cons t0 ts ih =>
         intro bs hk n t b ht hb;cases bs with
         | nil=>simp at hb
         | cons b0 bs =>
          obtain⟨hk1,hk2⟩:=jB hk;cases n with
          | zero=>injection ht with ht; injection hb with hb; subst ht; subst hb; exact hk1
          | succ n=>exact ih bs hk2 n t b (by simpa using ht) (by simpa using hb)
       have:=hone _ _ hkk j _ _ ht hj1;rw[hl2] at this;show (mkH 8 _ (8+j)).isCells=true;rw[hj2];cases kk<;>first | rfl | cases this
    ·rw[hdd'] at hk1;exact hk1.elim
    ·have hz:st.Z i=true:=hzi▸hc.1;refine ⟨hk2 hz,?_⟩;have hcs:=hc.2;cases hHi:st.H i<;>rw[hHi] at hcs hk1<;>first | cases hcs | skip
     cases hHj:(mkS hd 8 dd.x).H (8+j)<;>rw[hHj] at hk1<;>first | rfl | exact hk1.elim) (hro xe s hm) hn' hsi
  exact ⟨g3,U3,he,h3,h4⟩) hq
 clear hq;have fin:∀(es:Exs) (y:YT es),Wn es y (fun xe s z=>κ xe (J2 W (sI hd.sh dd.bd) dd.zs st s z))=some x->Wn es y (fun xe s z=>∃ g3 U3,kV e xe∧Now X V d tC (J2 W (sI hd.sh dd.bd) dd.zs st s z) a' w' g3 U3∧Since (· ∈ W) w g st.H U a w' g3 (J2 W (sI hd.sh dd.bd) dd.zs st s z).H U3 a') ->
   JQ X V W d κ x st a w g U e a' w':=by
  intro es
  induction es with
  | nil=>intro y; exact nomatch y
  | cons e0 es ih =>
   intro y h1 h2;cases es with
   | nil =>
    obtain⟨g3,U3,he,h3,h4⟩:=h2;exact ⟨e0.1,_,g3,U3,he,h1,h3,h4⟩
   | cons f es =>
    match y,h1,h2 with
    | .inl z,h1,h2 =>
     obtain⟨g3,U3,he,h3,h4⟩:=h2;exact ⟨e0.1,_,g3,U3,he,h1,h3,h4⟩
    | .inr z,h1,h2=>exact ih z h1 h2
 have:=fin es y h hex;show JQ X V (ZJ c) d κ x st a w g U e a' w';rw[hW];exact this
theorem MemOk.fewer {X:Fx} {g:Gh} {H H':Nat->Blk} {Z:Nat->Bool} {U:Nat->Prop} {w:World} (h:MemOk X g H Z U w) (hH:∀ b,H' b = .dead∨H' b=H b):MemOk X g H' Z U w∧Mono (mem w) g H U (mem w) g H' U:=by
 have hm:Mono (mem w) g H U (mem w) g H' U:=⟨fun _ _ _ h=>⟨h,rfl⟩,fun _ h=>h,fun b _=>by
  rcases hH b with h1 | h1
  ·exact .inl h1
  ·rw[h1]; exact (SameKind.refl_or (H b)).imp (fun h=>h) fun h=>⟨h,rfl,fun _ _ _ h=>h⟩⟩
 have live:∀ b,H' b ≠ .dead->H' b=H b∧H b ≠ .dead:=fun b hb=>by
  have:=(hH b).resolve_left hb;exact ⟨this,this▸hb⟩
 refine ⟨{ h with blk:=fun b => ?_,used:=fun b hb=>h.used b (live b hb).2,inj:=fun b b' r hb hb'=>h.inj b b' r (live b hb).2 (live b' hb').2,sep:=fun q r o x hs hx hl => ?_,mine:=fun x r hx hl hk => ?_,own:=fun x r hx hl => ?_ },hm⟩
 ·by_cases hb:H' b = .dead
  ·rw[hb]; trivial
  ·rw[(live b hb).1]; exact RBlk.mono hm rfl (fun _ _=>rfl) (h.blk b)
 ·rw[(live x hx).1]; exact h.sep q r o x hs (live x hx).2 hl
 ·rw[(live x hx).1]; exact h.mine x r (live x hx).2 hl hk
 ·rw[(live x hx).1]; exact h.own x r (live x hx).2 hl
structure Rn (c:Mem) (g:Gh) (H:Nat->Blk) (U:Nat->Prop) (c':Mem) (g':Gh) (H':Nat->Blk) (U':Nat->Prop) (nm nm':Nat->Nat):Prop where
 used:∀ j,U (nm j)->U' (nm' j)
 loc:∀ j,U (nm j)->H' (nm' j) ≠ .dead->g'.loc (nm' j)=g.loc (nm j)
 kind:∀ j,U (nm j)->H' (nm' j) = .dead∨SameKind (H (nm j)) (H' (nm' j))
 there:∀ j r,g.loc (nm j)=some r->∀ o,(c r o).isSome->(c' r o).isSome
theorem SameKind.dead {k:Blk} (h:SameKind .dead k):False:=by cases k<;>exact h
section
variable {c:Mem} {g:Gh} {H:Nat->Blk} {U:Nat->Prop} {c':Mem} {g':Gh} {H':Nat->Blk} {U':Nat->Prop} {nm nm':Nat->Nat}
def LC (c:Mem) (g:Gh) (H:Nat->Blk) (U:Nat->Prop) (c':Mem) (g':Gh) (H':Nat->Blk) (U':Nat->Prop) (l m:AV):Prop :=
 (∃ k k' t y,l = .val k t y∧m = .val k' t y)∧∀ v,RAV c g H U l v->RAV c' g' H' U' m v
theorem Dr (b:Nat) (m:AV):(VN b m).isAr=false:=by
 unfold VN;split<;>rfl
theorem zc2:(t:TV)->{M M':List AV}->F2 (LC c g H U c' g' H' U') M M'->(mkV nm' t M').1.isAr=(mkV nm t M).1.isAr
 | .hole,M,M',hf=>by
  cases hf with
  | nil=>rfl
  | cons h1 h2=>obtain⟨⟨k,k',t,y,rfl,rfl⟩,-⟩:=h1; cases t<;>rfl
 | .unk,M,M',hf=>rfl
 | .nilv,M,M',hf=>rfl
 | .view j,M,M',hf=>rfl
 | .ptr j o,M,M',hf=>rfl
 | .aptr j,M,M',hf=>rfl
 | .part j,M,M',hf=>by
  cases hf with
  | nil=>rfl
  | cons h1 h2=>exact (Dr _ _).trans (Dr _ _).symm
 | .agg l,M,M',hf=>rfl
 | .clo f l,M,M',hf=>rfl
mutual
theorem SL (rn:Rn c g H U c' g' H' U' nm nm'):(t:TV)->{M M':List AV}->{v:Value}->F2 (LC c g H U c' g' H' U') M M' ->
  RAV c g H U (mkV nm t M).1 v->RAV c' g' H' U' (mkV nm' t M').1 v∧F2 (LC c g H U c' g' H' U') (mkV nm t M).2 (mkV nm' t M').2
 | .hole,M,M',v,hf,hr=>by
  cases hf with
  | nil=>exact ⟨trivial,.nil⟩
  | cons h1 h2=>exact ⟨h1.2 v hr,h2⟩
 | .unk,M,M',v,hf,hr=>⟨trivial,hf⟩
 | .nilv,M,M',v,hf,hr=>⟨hr,hf⟩
 | .view j,M,M',v,hf,hr=>by
  refine ⟨?_,hf⟩;have hr:U (nm j)∧v.oneCell'=true∧RView c g (nm j) v (H (nm j)):=hr;refine ⟨rn.used j hr.1,hr.2.1,?_⟩;rcases rn.kind j hr.1 with hd | hk
  ·rw[hd]; trivial
  ·have hl:=rn.loc j hr.1 fun hd=>by rw[hd] at hk; cases hH:H (nm j)<;>rw[hH] at hk<;>exact hk
   have hv:=hr.2.2;cases hH:H (nm j)<;>cases hH':H' (nm' j)<;>rw[hH,hH'] at hk<;>simp only[SameKind] at hk<;>first | trivial | skip
   obtain⟨rfl,hn⟩:=hk;rw[hH] at hv;obtain⟨a,cap,rfl,h6,h7⟩:=hv;refine ⟨a,cap,by rw[hn],hn▸h6,h7.imp (fun h=>h) ?_⟩
   rintro⟨r,h8,h9,h10⟩;exact ⟨r,hl.trans h8,h9,fun o ho=>rn.there j r h8 o (h10 o ho)⟩
 | .ptr j o,M,M',v,hf,hr=>by
  refine ⟨?_,hf⟩;have hr:U (nm j)∧v.oneCell'=true∧RPtr g (nm j) o v (H (nm j)):=hr;refine ⟨rn.used j hr.1,hr.2.1,?_⟩;rcases rn.kind j hr.1 with hd | hk
  ·rw[hd]; trivial
  ·have hl:=rn.loc j hr.1 fun hd=>by rw[hd] at hk; cases hH:H (nm j)<;>rw[hH] at hk<;>exact hk
   have hv:=hr.2.2;cases hH:H (nm j)<;>cases hH':H' (nm' j)<;>rw[hH,hH'] at hk<;>simp only[SameKind] at hk<;>first | trivial | skip
   rw[hH] at hv;obtain⟨r,h8,h9⟩:=hv;exact ⟨r,hl.trans h8,h9⟩
 | .aptr j,M,M',v,hf,hr=>by
  refine ⟨?_,hf⟩;have hr:U (nm j)∧v.oneCell'=true∧RSptr g (nm j) 0 0 v (H (nm j)):=hr;refine ⟨rn.used j hr.1,hr.2.1,?_⟩;rcases rn.kind j hr.1 with hd | hk
  ·rw[hd]; trivial
  ·have hl:=rn.loc j hr.1 fun hd=>by rw[hd] at hk; cases hH:H (nm j)<;>rw[hH] at hk<;>exact hk
   have hv:=hr.2.2;cases hH:H (nm j)<;>cases hH':H' (nm' j)<;>rw[hH,hH'] at hk<;>simp only[SameKind] at hk<;>first | trivial | skip
   obtain⟨rfl,hn⟩:=hk;rw[hH] at hv;obtain⟨r,h8,h9⟩:=hv;exact ⟨r,hl.trans h8,h9⟩
 | .part j,M,M',v,hf,hr=>by
  cases hf with
  | nil=>exact ⟨trivial,.nil⟩
  | cons h1 h2 =>
   refine ⟨?_,h2⟩;obtain⟨⟨k,k',t,y,rfl,rfl⟩,-⟩:=h1;have hr:RAV c g H U (VN (nm j) (.val k t y)) v:=hr;show RAV c' g' H' U' (VN (nm' j) (.val k' t y)) v;cases t with
   | int kk =>
    have hr:U (nm j)∧v.oneCell'=true∧RPart c g (nm j) 0 (bc y) v (H (nm j)):=hr;refine ⟨rn.used j hr.1,hr.2.1,?_⟩;rcases rn.kind j hr.1 with hd | hk
    ·rw[hd]; trivial
    ·have hl:=rn.loc j hr.1 fun hd=>by rw[hd] at hk; cases hH:H (nm j)<;>rw[hH] at hk<;>exact hk
     have hv:=hr.2.2;cases hH:H (nm j)<;>cases hH':H' (nm' j)<;>rw[hH,hH'] at hk<;>simp only[SameKind] at hk<;>first | trivial | skip
     obtain⟨rfl,hn⟩:=hk;rw[hH] at hv;obtain⟨h6,a,cap,rfl,h7,h8⟩:=hv;refine ⟨hn▸h6,a,cap,rfl,hn▸h7,h8.imp (fun h=>h) ?_⟩;rintro⟨r,h9,h10,h11,h12⟩;exact ⟨r,hl.trans h9,h10,hn▸h11,fun o ho=>rn.there j r h9 o (h12 o ho)⟩
   | _=>trivial
 | .agg l,M,M',v,hf,hr=>by
  obtain⟨vs,rfl,hl⟩:=hr;obtain⟨h1,h2⟩:=II rn l hf hl;exact ⟨⟨vs,rfl,h1⟩,h2⟩
 | .clo f l,M,M',v,hf,hr=>by
  obtain⟨vs,rfl,hl⟩:=hr;obtain⟨h1,h2⟩:=Ai rn l hf hl;exact ⟨⟨vs,rfl,h1⟩,h2⟩
theorem Ai (rn:Rn c g H U c' g' H' U' nm nm'):(ts:List TV)->{M M':List AV}->{vs:List Value}->F2 (LC c g H U c' g' H' U') M M' ->
  RL c g H U (sy nm ts M).1 vs->RL c' g' H' U' (sy nm' ts M').1 vs∧F2 (LC c g H U c' g' H' U') (sy nm ts M).2 (sy nm' ts M').2
 | [],M,M',vs,hf,hr=>⟨hr,hf⟩
 | t::ts,M,M',vs,hf,hr=>by
  have hr:RL c g H U ((mkV nm t M).1::(sy nm ts (mkV nm t M).2).1) vs:=hr;simp only[RL] at hr;obtain⟨v,us,rfl,h1,h2⟩:=hr;obtain⟨h3,h4⟩:=SL rn t hf h1;obtain⟨h5,h6⟩:=Ai rn ts h4 h2;exact ⟨⟨v,us,rfl,h3,h5⟩,h6⟩
theorem II (rn:Rn c g H U c' g' H' U' nm nm'):(ts:List TV)->{M M':List AV}->{vs:List Value}->F2 (LC c g H U c' g' H' U') M M' ->
  RF c g H U (sy nm ts M).1 vs->RF c' g' H' U' (sy nm' ts M').1 vs∧F2 (LC c g H U c' g' H' U') (sy nm ts M).2 (sy nm' ts M').2
 | [],M,M',vs,hf,hr=>⟨hr,hf⟩
 | t::ts,M,M',vs,hf,hr=>by
  have hr:RF c g H U ((mkV nm t M).1::(sy nm ts (mkV nm t M).2).1) vs:=hr;simp only[RF] at hr;obtain⟨v,us,ws,rfl,h1,hus,h2⟩:=hr;have har:=zc2 (nm:=nm) (nm':=nm') t hf;obtain⟨h3,h4⟩:=SL rn t hf h1;obtain⟨h5,h6⟩:=II rn ts h4 h2;exact ⟨⟨v,us,ws,rfl,h3,by rw[har]; exact hus,h5⟩,h6⟩
end
end
inductive RT' where
 | tmp (t:Nat)
 | cell (a:Nat) (ty:TypeId)
def RT'.var:RT'->ResultVar
 | .tmp t=>.tmp t
 | .cell a ty=>.cell a ty
def jd (tb:Tb) (st:St):List RT'->Option (List AV)
 | []=>some []
 | .tmp t::rs=>(jd tb st rs).bind fun as=>some (st.φ t::as)
 | .cell a ty::rs=>(XL tb st.H ty (st.φ a) some).bind fun v=>(jd tb st rs).bind fun as=>some (v::as)
theorem Pi {tb:Tb} {R:Type} {w:World} {g:Gh} {H:Nat->Blk} {U:Nat->Prop} {t:TypeId} {p:AV} {v:Value} {κ:AV->Option R} {x:R} (h:XL tb H t p κ=some x) (hp:RAV (mem w) g H U p v):∃ a,v = .pointer (some a):=by
 simp only[XL,ah] at h;obtain⟨td,ht,h⟩:=h;cases p with
 | ptr b o =>
  simp only at h;split at h
  ·rename_i cs hx;simp only[RAV,hx,RPtr] at hp;obtain⟨-,-,r,-,rfl⟩:=hp;exact ⟨_,rfl⟩
  ·cases h
 | cptr b o k sz f =>
  simp only at h;split at h
  ·rename_i cs hx;simp only[RAV,hx,RPtr] at hp;obtain⟨-,-,r,-,rfl⟩:=hp;exact ⟨_,rfl⟩
  ·cases h
 | sptr b i f =>
  simp only at h;split at h
  ·rename_i q ts xs hx;simp only[RAV,hx,RSptr] at hp;obtain⟨-,-,r,-,rfl⟩:=hp;exact ⟨_,rfl⟩
  ·cases h
 | eptr k ts x f =>
  simp only[RAV] at hp;obtain⟨b,o,rfl,-⟩:=hp;exact ⟨_,rfl⟩
 | _=>simp at h
theorem KV {P:Program} {tb:Tb} (hT:jk P tb) {X:Fx} {w:World} {g:Gh} {st:St} {U:Nat->Prop} (hm:MemOk X g st.H st.Z U w) {tmps:Array Value} (hf:RFr w g st.H U st.φ tmps) (F:ResultVar->Sem Value) (hF:∀ t,F (.tmp t)=pure (tmps.getD t undef))
  (hF':∀ a t,F (.cell a t)=(do loadVar t (← asAddr (tmps.getD a undef)))):(rs:List RT')->{as:List AV}->jd tb st rs=some as->∃ vs,(List.mapM F (rs.map RT'.var)).run P w = .ok vs w∧RL (mem w) g st.H U as vs
 | [],as,h=>by
  injection h with h; subst h;exact ⟨[],rfl,rfl⟩
 | .tmp t::rs,as,h=>by
  have h:((jd tb st rs).bind fun as=>some (st.φ t::as))=some as:=h;obtain⟨bs,h1,h⟩:=ah.1 h;injection h with h; subst h;obtain⟨vs,h2,h3⟩:=KV hT hm hf F hF hF' rs h1;refine ⟨_::vs,?_,⟨_,vs,rfl,hf t,h3⟩⟩;rw[aK,RT'.var,gN,hF];simp only[cF,cG,b7,h2]
 | .cell a ty::rs,as,h=>by
  have h:((XL tb st.H ty (st.φ a) some).bind fun v=>(jd tb st rs).bind fun as=>some (v::as))=some as:=h;obtain⟨v,h0,h⟩:=ah.1 h;obtain⟨bs,h1,h⟩:=ah.1 h;injection h with h; subst h;obtain⟨vs,h2,h3⟩:=KV hT hm hf F hF hF' rs h1;obtain⟨z,av,h4,h5,h6⟩:=Ja hT hm (fun b=>.inr rfl) h0 (hf a);injection h5 with h5; subst h5;obtain⟨ad,had⟩:=Pi h0 (hf a);refine ⟨z::vs,?_,⟨z,vs,rfl,h6,h3⟩⟩;rw[aK,RT'.var,gN,hF',had];rw[had] at h4;have h4':(loadVar ty ad).run P w = .ok z w:=by
   simpa[Instr.loadAt,Instr.sureAddr] using h4
  simp only[cF,asAddr,cG,b7,h4',h2]
theorem Bt {P:Program} {tb:Tb} (hT:jk P tb) {X:Fx} {w:World} {g:Gh} {st:St} {U:Nat->Prop} (hm:MemOk X g st.H st.Z U w) {a:Act} (hf:RFr w g st.H U st.φ a.tmps) {fn:Func} {rs:List RT'} (h:fn.results=(rs.map RT'.var).toArray) {as:List AV} (ha:jd tb st rs=some as) :
  ∃ vs,(results fn a.tmps).run P w = .ok (G2 vs) w∧RL (mem w) g st.H U as vs:=by
 have key:=fun F hF hF'=>KV (P:=P) hT hm hf F hF hF' rs ha;unfold results;rw[h,List.mapM_toArray];have:∀(l:List Value),(if h:l.toArray.size=1 then l.toArray[0] else .tuple l.toArray)=G2 l:=by
  intro l
  match l with
  | []=>rfl
  | [v]=>rfl
  | v::u::l=>simp [G2]
 obtain⟨vs,h1,h2⟩:=key (fun x=>match x with
  | .tmp t=>pure (a.tmps.getD t undef)
  | .cell b t=>do loadVar t (← asAddr (a.tmps.getD b undef))) (fun t=>rfl) (fun a t=>rfl)
 refine ⟨vs,?_,h2⟩;rw[← this];simp only[cF,map_eq_pure_bind,cG]
 erw [h1]
 rfl
structure ShC where
 inp:Sh
 out:Sh
 nres:Nat
 ms:List Nat
 mu:List (Nat×Nat)
 leak:Bool
 glob:Bool
 F:jv inp.hs->Option (jv out.hs)
def zfq (n:Nat):List Nat:=ax n 1
def X5 (tg:List Nat) (t n:Nat):List Nat:=(aL n).map fun i=>cond (ci 2 (tg.getD i 1)) 2 t
def ShC.has2 (c:ShC):Bool:=(X5 c.inp.tg 1 c.inp.hs.length).any (ci 2)
def ShC.inp1 (c:ShC):Sh:={ c.inp with tg:=X5 c.inp.tg 1 c.inp.hs.length }
def ShC.entry (c:ShC) (x:jv c.inp.hs):St:=mkS ⟨aL c.inp.slots.length,c.inp1⟩ 8 x
mutual
def Vg:TV->TV->Option (List (Bool×Nat×Nat))
 | .ptr j o,t=>match t with
  | .ptr k o'=>cond (aA o o') (some [(false,j,k)]) none
  | .unk=>some []
  | _=>none
 | .aptr j,t=>match t with
  | .aptr k=>some [(true,j,k)]
  | .unk=>some []
  | _=>none
 | .clo f l,t=>match t with
  | .clo f' l'=>cond (aA f f') (KZ l l') none
  | .unk=>some []
  | _=>none
 | .agg _,t=>match t with
  | .agg _=>some []
  | .unk=>some []
  | _=>none
 | _,t=>match t with
  | .hole=>some []
  | .unk=>some []
  | _=>none
def KZ:List TV->List TV->Option (List (Bool×Nat×Nat))
 | [],ts=>match ts with
  | []=>some []
  | _=>none
 | a::as,ts=>match ts with
  | b::bs=>(Vg a b).bind fun p=>(KZ as bs).bind fun q=>some (p++q)
  | []=>none
end
def zbY (a b:TV):Option (List (Bool×Nat×Nat)):=match a,b with
 | .view j,.view k=>some [(true,j,k)]
 | a,b=>Vg a b
def muL (c:ShC):List Nat->Nat->Option (List (Bool×Nat×Nat))
 | [],_=>some []
 | t::ms,i=>(c.inp.slots[t]?).bind fun a=>(c.out.slots[c.nres+i]?).bind fun b=>(zbY a b).bind fun p=>(muL c ms (i+1)).bind fun q=>some (p++q)
def zfi:Option Blk->Option Blk->Bool
 | some (.cells _),some (.cells _)=>true
 | some (.seq _ ts xs),some (.seq _ us ys)=>decide (ts=us)&&aA (af xs) (af ys)
 | _,_=>false
def BN (c:ShC) (x:jv c.inp.hs) (y:jv c.out.hs):Bool:=c.mu.all fun p=>zfi (c.inp1.bks (fun j=>j) x)[p.1]? (c.out.bks (fun j=>j) y)[p.2]?
def neB (c:ShC) (x:jv c.inp.hs):Bool:=c.ms.all fun t=>match c.inp.slots[t]? with
 | some (.view j)=>match (c.inp1.bks (fun j=>j) x)[j]? with
  | some (.seq _ _ xs) => !(dU xs)
  | _=>false
 | _=>true
def zgc (tb:Tb) (fz:Nat) (c:ShC) (rts:List RT') (x:jv c.inp.hs):XE->St->Option (jv c.out.hs)
 | .normal,st=>(jd tb st rts).bind fun as=>(c.out.dec st.H st.Z fz (as++c.ms.map st.φ)).bind fun d=>cond (neB c x) (cond (BN c x d.x) (some d.x) none) none
 | .ret,st=>(jd tb st rts).bind fun as=>(c.out.dec st.H st.Z fz (as++c.ms.map st.φ)).bind fun d=>cond (neB c x) (cond (BN c x d.x) (some d.x) none) none
 | _,_=>none
def Y0 (P:Program) (gl:Gl) (w:World) (A:Reg) (N:Nat->Prop) (hN:∀ b,w.heap.size<=b->N b) (g:Gh) (H:Nat->Blk) (Z:Nat->Bool):Fx :=
 {P:=P,gl:=gl,w0:=w,Keep:=fun k=>k<w.heap.size∧¬ lent g H Z k,N:=N,D:=w.heap.size,O:=lent g H Z,A:=A,hN:=hN,keepLt:=fun _ h=>h.1 }
def Ez (c:ShC) (q:Bool×Nat×Nat):Bool:=match q.1,c.inp.blks[q.2.1]?,c.out.blks[q.2.2]? with
 | false,some (.cells false l),some (.cells false l')=>aA l.length l'.length
 | true,some (.seq false),some (.seq false)=>true
 | _,_,_=>false
def zfT (c:ShC):Bool:=(match muL c c.ms 0 with
  | some ps=>decide (ps.map (·.2)=c.mu)&&ps.all (Ez c)
  | none=>false)&&M6 (c.mu.map (·.1))&&M6 (c.mu.map (·.2))
def zgK:TB->Bool
 | .seq z=>z
 | _=>false
def okC (c:ShC):Bool :=
 ci c.out.blks.length 8&&c.inp.blks.all (fun t => !zgK t)&&c.out.blks.all (fun t => !t.z) &&
 (c.leak||(aA c.out.tg.length c.out.hs.length&&c.out.tg.all (ci 2) && !c.has2))&&zfT c
theorem zat {c:ShC} (h:okC c=true):c.out.blks.length<=8:=by
 simp only[okC,ay] at h;exact bV h.1.1.1.1
theorem zaJ {c:ShC} (h:okC c=true):∀ t,t∈c.inp.blks->zgK t=false:=by
 simp only[okC,ay,aD] at h;intro t ht;simpa using h.1.1.1.2 t ht
theorem C3 {c:ShC} (h:okC c=true):∀ t,t∈c.out.blks->t.z=false:=by
 simp only[okC,ay,aD] at h;intro t ht;simpa using h.1.1.2 t ht
theorem Iu {c:ShC} (h:okC c=true):c.leak=true∨((c.out.tg.length=c.out.hs.length∧∀ k,k∈c.out.tg->2<=k)∧c.has2=false):=by
 simp only[okC,ay,b9,aD,cp] at h;exact h.1.2.imp (fun h=>h) fun h=>⟨⟨au h.1.1,fun k hk=>bV (h.1.2 k hk)⟩,h.2⟩
theorem Uk {c:ShC} (h:okC c=true):∃ ps,muL c c.ms 0=some ps∧ps.map (·.2)=c.mu∧∀ q,q∈ps->Ez c q=true:=by
 simp only[okC,zfT,ay,aD] at h;have h:=h.2.1.1;split at h
 ·rename_i ps hps;simp only[ay,aD,decide_eq_true_eq] at h;exact ⟨ps,hps,h.1,h.2⟩
 ·cases h
theorem zcK {c:ShC} (h:okC c=true):∀ p,p∈c.mu->p.1<c.inp.blks.length∧p.2<c.out.blks.length∧(∀ t,c.inp.blks[p.1]? = some t->t.ro=false):=by
 intro p hp;obtain⟨ps,-,h2,h3⟩:=Uk h;rw[← h2] at hp;obtain⟨q,hq,rfl⟩:=aR.1 hp;have:=h3 q hq;unfold Ez at this;split at this
 ·rename_i l l' _ h4 h5;exact ⟨(aw.1 h4).1,(aw.1 h5).1,fun t ht=>by rw[h4] at ht; injection ht with ht; rw[← ht]; rfl⟩
 ·rename_i _ h4 h5;exact ⟨(aw.1 h4).1,(aw.1 h5).1,fun t ht=>by rw[h4] at ht; injection ht with ht; rw[← ht]; rfl⟩
 ·cases this
theorem ZX {α:Type} {f:α->Nat}:{l:List α}->(l.map f).Nodup->∀ p q,p∈l->q∈l->f p=f q->p=q
 | [],_,p,q,h,_,_=>by cases h
 | a::l,hn,p,q,hp,hq,he=>by
  rw[aK] at hn;obtain⟨h1,h2⟩:=dL.1 hn;rcases aG.1 hp with e1 | hp<;>rcases aG.1 hq with e2 | hq
  ·rw[e1,e2]
  ·rw[e1] at he; exact absurd (aR.2 ⟨q,hq,he.symm⟩) h1
  ·rw[e2] at he; exact absurd (aR.2 ⟨p,hp,he⟩) h1
  ·exact ZX h2 p q hp hq he
theorem zbT {c:ShC} (h:okC c=true):(∀ p q,p∈c.mu->q∈c.mu->p.1=q.1->p=q)∧∀ p q,p∈c.mu->q∈c.mu->p.2=q.2->p=q:=by
 simp only[okC,zfT,ay] at h;exact ⟨ZX (WW h.2.1.2),ZX (WW h.2.2)⟩
def zfj (A A2:Reg):Nat->Reg:=fun q b o=>((q=0∨q=1)∧A b o)∨(q=2∧A2 b o)
theorem IS {A A2:Reg} (h:∀ b o,¬ A2 b o):zfj A A2=fun q b o=>(q=0∨q=1)∧A b o:=by
 funext q b o
 refine propext ⟨fun hr=>hr.elim (fun h=>h) fun hr=>absurd hr.2 (h b o),.inl⟩
structure ShOk (P:Program) (gl:Gl) (f:FuncId) (c:ShC):Prop where
 ok:okC c=true
 does:∀(w:World) (A A2:Reg) (N:Nat->Prop) (hN:∀ b,w.heap.size<=b->N b) (g:Gh) (vs:Array Value) (x:jv c.inp.hs) (y:jv c.out.hs),(c.has2=false->(∀ b o,¬ A2 b o)∧∀ b,N b->w.heap.size<=b∨lent g (c.entry x).H (c.entry x).Z b) ->
  (∀ r,lent g (c.entry x).H (c.entry x).Z r->N r)->g.S=zfj A A2 ->
  MemOk (Y0 P (cond c.glob gl fun _=>none) w A N hN g (c.entry x).H (c.entry x).Z) g (c.entry x).H (c.entry x).Z (jF 8 c.inp.blks.length) w->RL (mem w) g (c.entry x).H (jF 8 c.inp.blks.length) (c.inp1.avs (fun j=>8+j) x) vs.toList->c.F x=some y ->
  Does P (callFunc f vs) w fun v w'=>∀ n1,∃ g' us,MemOk (Y0 P (cond c.glob gl fun _=>none) w A N hN g (c.entry x).H (c.entry x).Z) g' (mkH n1 (c.out.bks (fun j=>n1+j) y)) (mkZ n1 c.out.blks) (jF n1 c.out.blks.length) w' ∧
   RL (mem w') g' (mkH n1 (c.out.bks (fun j=>n1+j) y)) (jF n1 c.out.blks.length) (c.out.avs (fun j=>n1+j) y) us∧v=G2 (us.take c.nres) ∧
   (∀ p,p∈c.mu->(∃ r,g.loc (8+p.1)=some r∧g'.loc (n1+p.2)=some r)∧SameKind ((c.entry x).H (8+p.1)) (mkH n1 (c.out.bks (fun j=>n1+j) y) (n1+p.2)))∧(∀ b o,A b o->mem w' b o=mem w b o)
theorem Np {P:Program} {gl:Gl} {f:FuncId} {c:ShC} (h:okC c=true) (hF:∀ x,c.F x=none):ShOk P gl f c :=
 ⟨h,fun w A A2 N hN g vs x y _ _ _ _ _ hy=>by rw[hF] at hy; cases hy⟩
mutual
theorem EF (nm:Nat->Nat):(ts:List TV)->(ms:List AV)->(sy nm ts ms).1.length=ts.length
 | [],ms=>rfl
 | t::ts,ms=>by
  show ((mkV nm t ms).1::(sy nm ts (mkV nm t ms).2).1).length=_;simp [EF nm ts]
end
theorem j7 {nm:Nat->Nat}:(ts:List TB)->{ms:List AV}->{j:Nat}->{z:Bool}->{l:List TV}->ts[j]? = some (.cells z l)->∃ cs,(qv nm ts ms)[j]? = some (.cells cs)
 | [],_,_,_,_,h=>by simp at h
 | t::ts,ms,0,z,l,h=>by
  injection h with h; subst h;exact ⟨_,rfl⟩
 | t::ts,ms,j+1,z,l,h=>j7 ts (ms:=(vF nm t ms).2) (by simpa using h)
theorem Iq (nm:Nat->Nat):(ts:List TV)->(M:List AV)->{t:Nat}->{a:TV}->ts[t]? = some a->∃ M',(sy nm ts M).1[t]? = some (mkV nm a M').1
 | [],_,_,_,h=>by simp at h
 | b::ts,M,0,a,h=>by
  injection h with h; subst h;exact ⟨M,rfl⟩
 | b::ts,M,t+1,a,h=>by
  obtain⟨M',h'⟩:=Iq nm ts (mkV nm b M).2 (t:=t) (a:=a) (by simpa using h)
  exact ⟨M',h'⟩
theorem K3 (nm nm':Nat->Nat):(ts:List TB)->(ms:List AV)->∀(j:Nat) k,(qv nm ts ms)[j]? = some k->∃ k',(qv nm' ts ms)[j]? = some k'∧((k.isCells=true∧k'.isCells=true)∨k=k')
 | [],_,j,k,h=>by simp [qv] at h
 | t::ts,ms,j,k,h=>by
  have h1:(vF nm t ms).2=(vF nm' t ms).2:=by
   cases t with
   | cells z l=>exact rm nm nm' l ms
   | seq z=>rfl
  cases j with
  | zero =>
   injection h with h; subst h;refine ⟨_,rfl,?_⟩;cases t with
   | cells z l=>exact .inl ⟨rfl,rfl⟩
   | seq z=>exact .inr rfl
  | succ j =>
   have h:(qv nm ts (vF nm t ms).2)[j]? = some k:=h;rw[h1] at h;exact K3 nm nm' ts _ j k h
theorem LY {c:ShC}:(ms:List Nat)->{i0:Nat}->{ps:List (Bool×Nat×Nat)}->muL c ms i0=some ps->∀ q,q∈ps->∃ n t a b ps',ms[n]? = some t∧c.inp.slots[t]? = some a∧c.out.slots[c.nres+(i0+n)]? = some b∧zbY a b=some ps'∧q∈ps'
 | [],_,_,h,q,hq=>by injection h with h; subst h; cases hq
 | t::ms,i0,ps,h,q,hq=>by
  obtain⟨a,ha,h⟩:=ah.1 h;obtain⟨b,hb,h⟩:=ah.1 h;obtain⟨p1,hp1,h⟩:=ah.1 h;obtain⟨p2,hp2,h⟩:=ah.1 h;injection h with h; subst h;rcases aI.1 hq with hq | hq
  ·exact ⟨0,t,a,b,p1,rfl,ha,by simpa using hb,hp1,hq⟩
  ·obtain⟨n,t',a',b',ps',h1,h2,h3,h4,h5⟩:=LY ms hp2 q hq;exact ⟨n+1,t',a',b',ps',by simpa using h1,h2,by rw[show i0+(n+1)=i0+1+n from by omega]; exact h3,h4,h5⟩
def Kd:Bool->Blk->Prop
 | false,k=>∃ cs,k = .cells cs
 | true,k=>∃ q ts xs,k = .seq q ts xs
section
variable {c:Mem} {g:Gh} {H:Nat->Blk} {U:Nat->Prop} {c':Mem} {g':Gh} {H':Nat->Blk} {U':Nat->Prop} {nm nm':Nat->Nat}
mutual
theorem BC:(t:TV)->{t':TV}->{M M':List AV}->{v:Value}->{ps:List (Bool×Nat×Nat)}->Vg t t'=some ps->RAV c g H U (mkV nm t M).1 v->RAV c' g' H' U' (mkV nm' t' M').1 v ->
  ∀ q,q∈ps->Kd q.1 (H (nm q.2.1))->Kd q.1 (H' (nm' q.2.2))->∃ r,g.loc (nm q.2.1)=some r∧g'.loc (nm' q.2.2)=some r
 | .ptr j o,t',M,M',v,ps,h,hr,hr',q,hq,hk,hk'=>by
  cases t'<;>simp only[Vg] at h<;>first | cases h | skip
  ·cases hq
  ·rename_i k o';cases ho:aA o o' with
   | false=>rw[ho] at h; cases h
   | true =>
    rw[ho] at h;injection h with h; subst h;rw[bb.1 hq] at hk hk' ⊢;obtain⟨cs,hc⟩:=hk;obtain⟨cs',hc'⟩:=hk';have hr:U (nm j)∧v.oneCell'=true∧RPtr g (nm j) o v (H (nm j)):=hr;have hr':U' (nm' k)∧v.oneCell'=true∧RPtr g' (nm' k) o' v (H' (nm' k)):=hr';have hc:H (nm j) = .cells cs:=hc;have hc':H' (nm' k) = .cells cs':=hc';rw[hc] at hr; rw[hc'] at hr';obtain⟨-,-,r,h1,rfl⟩:=hr;obtain⟨-,-,r',h2,h3⟩:=hr';injection h3 with h3; injection h3 with h3; injection h3 with h3;subst h3;exact ⟨r,h1,h2⟩
 | .aptr j,t',M,M',v,ps,h,hr,hr',q,hq,hk,hk'=>by
  cases t'<;>simp only[Vg] at h<;>first | cases h | skip
  ·cases hq
  ·rename_i k;rw[bb.1 hq] at hk hk' ⊢;obtain⟨q1,ts,xs,hc⟩:=hk;obtain⟨q2,us,ys,hc'⟩:=hk';have hr:U (nm j)∧v.oneCell'=true∧RSptr g (nm j) 0 0 v (H (nm j)):=hr;have hr':U' (nm' k)∧v.oneCell'=true∧RSptr g' (nm' k) 0 0 v (H' (nm' k)):=hr';have hc:H (nm j) = .seq q1 ts xs:=hc;have hc':H' (nm' k) = .seq q2 us ys:=hc';rw[hc] at hr; rw[hc'] at hr';obtain⟨-,-,r,h1,rfl⟩:=hr;obtain⟨-,-,r',h2,h3⟩:=hr';injection h3 with h3; injection h3 with h3; injection h3 with h3;subst h3;exact ⟨r,h1,h2⟩
 | .clo f l,t',M,M',v,ps,h,hr,hr',q,hq,hk,hk'=>by
  cases t'<;>simp only[Vg] at h<;>first | cases h | skip
  ·cases hq
  ·rename_i f' l';cases ho:aA f f' with
   | false=>rw[ho] at h; cases h
   | true =>
    rw[ho] at h;obtain⟨vs,rfl,hl⟩:=hr;obtain⟨vs',h1,hl'⟩:=hr';injection h1 with _ _ h1;subst h1;exact Gr l h hl hl' q hq hk hk'
 | .agg l,t',_,_,_,ps,h,_,_,q,hq,_,_=>by
  cases t'<;>simp only[Vg] at h<;>first | cases h | skip
  all_goals cases hq
 | .hole,t',_,_,_,ps,h,_,_,q,hq,_,_=>by
  cases t'<;>simp only[Vg] at h<;>first | cases h | skip
  all_goals cases hq
 | .unk,t',_,_,_,ps,h,_,_,q,hq,_,_=>by
  cases t'<;>simp only[Vg] at h<;>first | cases h | skip
  all_goals cases hq
 | .nilv,t',_,_,_,ps,h,_,_,q,hq,_,_=>by
  cases t'<;>simp only[Vg] at h<;>first | cases h | skip
  all_goals cases hq
 | .view _,t',_,_,_,ps,h,_,_,q,hq,_,_=>by
  cases t'<;>simp only[Vg] at h<;>first | cases h | skip
  all_goals cases hq
 | .part _,t',_,_,_,ps,h,_,_,q,hq,_,_=>by
  cases t'<;>simp only[Vg] at h<;>first | cases h | skip
  all_goals cases hq
theorem Gr:(ts:List TV)->{ts':List TV}->{M M':List AV}->{vs:List Value}->{ps:List (Bool×Nat×Nat)}->KZ ts ts'=some ps->RL c g H U (sy nm ts M).1 vs->RL c' g' H' U' (sy nm' ts' M').1 vs ->
  ∀ q,q∈ps->Kd q.1 (H (nm q.2.1))->Kd q.1 (H' (nm' q.2.2))->∃ r,g.loc (nm q.2.1)=some r∧g'.loc (nm' q.2.2)=some r
 | [],ts',M,M',vs,ps,h,hr,hr',q,hq,hk,hk'=>by
  cases ts' with
  | nil=>simp only[KZ] at h; injection h with h; subst h; cases hq
  | cons b bs=>simp only[KZ] at h; cases h
 | a::as,ts',M,M',vs,ps,h,hr,hr',q,hq,hk,hk'=>by
  cases ts' with
  | nil=>simp only[KZ] at h; cases h
  | cons b bs =>
   simp only[KZ] at h;obtain⟨p1,h1,h⟩:=ah.1 h;obtain⟨p2,h2,h⟩:=ah.1 h;injection h with h; subst h;obtain⟨v,us,rfl,hv,hl⟩:=hr;obtain⟨v',us',he,hv',hl'⟩:=hr';injection he with he1 he2;subst he1; subst he2;rcases aI.1 hq with hq | hq
   ·exact BC a h1 hv hv' q hq hk hk'
   ·exact Gr as h2 hl hl' q hq hk hk'
end
end
theorem UU {a b:Option Blk} (h:zfi a b=true):∃ k k',a=some k∧b=some k'∧SameKind k k'∧((k.isCells=true∧k'.isCells=true)∨(Kd true k∧Kd true k')):=by
 unfold zfi at h;split at h
 ·exact ⟨_,_,rfl,rfl,trivial,.inl ⟨rfl,rfl⟩⟩
 ·simp only[ay,decide_eq_true_eq] at h;exact ⟨_,_,rfl,rfl,⟨h.1,au h.2⟩,.inr ⟨⟨_,_,_,rfl⟩,⟨_,_,_,rfl⟩⟩⟩
 ·cases h
def likeB (k k':Blk):Prop:=(k.isCells=true∧k'.isCells=true)∨k=k'
theorem likeB.same {a b a' b':Blk} (h:SameKind a b) (h1:likeB a a') (h2:likeB b b'):SameKind a' b':=by
 rcases h1 with ⟨h1,h1'⟩ | rfl<;>rcases h2 with ⟨h2,h2'⟩ | rfl
 ·cases a'<;>cases b'<;>first | trivial | cases h1' | cases h2'
 ·cases a<;>cases b<;>cases a'<;>first | trivial | cases h1' | cases h1 | cases h
 ·cases a<;>cases b<;>cases b'<;>first | trivial | cases h2' | cases h2 | cases h
 ·exact h
theorem likeB.kd {k k':Blk} (h:likeB k k') {b:Bool} (hk:Kd b k):Kd b k':=by
 rcases h with ⟨h1,h2⟩ | rfl
 ·cases b with
  | false=>cases k'<;>first | exact ⟨_,rfl⟩ | cases h2
  | true=>obtain⟨q,ts,xs,rfl⟩:=hk; cases h1
 ·exact hk
structure SBodyOk (P:Program) (gl:Gl) (f:FuncId) (c:ShC) (V:Env) (fn:Func) (code:Code) (rts:List RT'):Prop where
 hfn:P.funcs[f]? = some fn
 name:(fn.name == "runtime.NumGoroutine")=false
 body:fn.body=some code
 res:fn.results=(rts.map RT'.var).toArray
 nres:c.nres=rts.length
 args:c.inp.slots.length<=fn.ntmps
 n:V.n=fn.ntmps
 gl:V.gl=cond c.glob gl fun _=>none
 all:VAll P V
 order:P.follows .mixedOrders=true
 ok:okC c=true
 keep:c.ms.all (fun t => !((ZJ code).any (aA t)))=true
theorem Qv {P:Program} {f:FuncId} {fn:Func} {code:Code} (h1:P.funcs[f]? = some fn) (h2:(fn.name == "runtime.NumGoroutine")=false) (h3:fn.body=some code) (vs:Array Value) (w:World):(callFunc f vs).run P w = .ok (.enter f vs) w:=by
 unfold callFunc;have hb:fn.body.isNone=false:=by rw[h3]; rfl
 simp only[cF,run_program,b7,h1];rw[h2];simp only[eh,if_false,hb,cG]
theorem FA {P:Program} {gl:Gl} {f:FuncId} {c:ShC} {V:Env} {fn:Func} {code:Code} {rts:List RT'} (h:SBodyOk P gl f c V fn code rts) (ac:AC) (hac:∀ X:Fx,VOk P X V->XX P X V code ac)
  (hE:∀ x y,c.F x=some y->E V code ac (c.entry x) (zgc V.tb V.fz c rts x)=some y):ShOk P gl f c where
 ok:=h.ok
 does:=by
  intro w A A2 N hN g vs x y h2 hNO hS hmem hrl hy;have hE:=hE x y hy;generalize hXd:Y0 P (cond c.glob gl fun _=>none) w A N hN g (c.entry x).H (c.entry x).Z=X at *;have hgl:X.gl=V.gl:=by rw[← hXd,h.gl]; rfl
  have hB:V.fz=2->∀ r,X.O r->X.N r:=fun _ r hr=>by
   rw[← hXd] at hr ⊢;exact hNO r hr
  have hX:VOk P X V:=h.all.ok hgl hB;have hvl:vs.size=c.inp.slots.length:=by
   have:=hrl.length;unfold Sh.avs at this;rw[EF,aO (xs:=vs)] at this;exact this.symm
  have hlen:vs.size<=fn.ntmps:=by rw[hvl]; exact h.args
  have htm:∀ t,t<vs.size->(vs++eO (fn.ntmps - vs.size) undef).getD t undef=vs.getD t undef:=fun t ht=>by
   rw[bg,bg,cR ht]
  have hnow:Now X V [] tC (c.entry x) { tmps:=vs++eO (fn.ntmps - vs.size) undef,defers:=[] } w g (jF 8 c.inp.blks.length):=by
   refine ⟨fun t=>K7 _ ?_ t .unk trivial,hmem,?_,rfl,fun b hb=>.inl hb.2⟩
   ·have e:(aL c.inp.slots.length).map (fun t=>(vs++eO (fn.ntmps - vs.size) undef).getD t undef)=vs.toList:=by
     apply db;intro i;rw[bh];by_cases hi:i<c.inp.slots.length
     ·rw[List.getElem?_range hi];simp only[bD];rw[htm i (by omega),bg,aV,bi (by omega)]
      rfl
     ·rw[aQ (by simp; omega),aQ (by simp; omega)]
      rfl
    show RL _ _ _ _ _ (List.map _ (aL c.inp.slots.length));rw[e];exact hrl
   ·rw[h.n]; simp; omega
  have hwp:=IB hX h.all.nat h.order code ac (hac X hX) _ _ _ hE [] _ w g _ hnow;have hcalls:=calls_of_wp (R:=fun e w'=>∃ v,e = .returned v∧∀ n1,∃ g' us,MemOk X g' (mkH n1 (c.out.bks (fun j=>n1+j) y)) (mkZ n1 c.out.blks) (jF n1 c.out.blks.length) w' ∧
   RL (mem w') g' (mkH n1 (c.out.bks (fun j=>n1+j) y)) (jF n1 c.out.blks.length) (c.out.avs (fun j=>n1+j) y) us∧v=G2 (us.take c.nres) ∧
   (∀ p,p∈c.mu->(∃ r,g.loc (8+p.1)=some r∧g'.loc (n1+p.2)=some r)∧SameKind ((c.entry x).H (8+p.1)) (mkH n1 (c.out.bks (fun j=>n1+j) y) (n1+p.2)))∧(∀ b o,A b o->mem w' b o=mem w b o)) h.hfn h.body (args:=vs) (w:=w) (wp_mono hwp ?_)
  ·unfold Does;rw[Qv h.hfn h.name h.body];exact hcalls
  ·rintro e a' w' ⟨xe,st',g1,U1,he,hk,hn,hs⟩;have fin:((jd V.tb st' rts).bind fun as=>(c.out.dec st'.H st'.Z V.fz (as++c.ms.map st'.φ)).bind fun d=>cond (neB c x) (cond (BN c x d.x) (some d.x) none) none)=some y->a'.defers=[]∧∃ v,(results fn a'.tmps).run P w' = .ok v w'∧∃ v',Ending.returned v = .returned v'∧∀ n1,∃ g' us,MemOk X g' (mkH n1 (c.out.bks (fun j=>n1+j) y)) (mkZ n1 c.out.blks) (jF n1 c.out.blks.length) w' ∧
     RL (mem w') g' (mkH n1 (c.out.bks (fun j=>n1+j) y)) (jF n1 c.out.blks.length) (c.out.avs (fun j=>n1+j) y) us∧v'=G2 (us.take c.nres) ∧
     (∀ p,p∈c.mu->(∃ r,g.loc (8+p.1)=some r∧g'.loc (n1+p.2)=some r)∧SameKind ((c.entry x).H (8+p.1)) (mkH n1 (c.out.bks (fun j=>n1+j) y) (n1+p.2)))∧(∀ b o,A b o->mem w' b o=mem w b o):=by
    intro hret;obtain⟨as,has,hret⟩:=ah.1 hret;obtain⟨d,hd,hret⟩:=ah.1 hret;cases hneB:neB c x with
    | false=>rw[hneB] at hret; cases hret
    | true =>
    rw[hneB,cond_true] at hret;cases hmu:BN c x d.x with
    | false=>rw[hmu] at hret; cases hret
    | true =>
     rw[hmu] at hret;injection hret with hret;subst hret;obtain⟨vs2,hr1,hr2⟩:=Bt (P:=P) h.all.tb hn.mem hn.fr h.res has;have hms:∀ ms:List Nat,RL (mem w') g1 st'.H U1 (ms.map st'.φ) (ms.map fun t=>a'.tmps.getD t undef):=by
      intro ms
      induction ms with
      | nil=>rfl
      | cons t ms ih=>exact ⟨_,_,rfl,hn.fr t,ih⟩
     obtain⟨L1,L2,b1,hdok⟩:=Bx hd;have hl:vs2.length=c.nres:=by
      have h1:=hr2.length;have h2:∀(rs:List RT') (as:List AV),jd V.tb st' rs=some as->as.length=rs.length:=by
       intro rs
       induction rs with
       | nil=>intro as h; injection h with h; subst h; rfl
       | cons r rs ih =>
        intro as h;cases r with
        | tmp t =>
         obtain⟨bs,h1,h⟩:=ah.1 (show ((jd V.tb st' rs).bind fun as=>some (st'.φ t::as))=some as from h)
         injection h with h; subst h;simp [ih bs h1]
        | cell a ty =>
         obtain⟨v,h0,h⟩:=ah.1 (show ((XL V.tb st'.H ty (st'.φ a) some).bind fun v=>(jd V.tb st' rs).bind fun as=>some (v::as))=some as from h)
         obtain⟨bs,h1,h⟩:=ah.1 h;injection h with h; subst h;simp [ih bs h1]
      rw[← h1,h2 rts as has,h.nres]
     refine ⟨hn.d,_,hr1,_,rfl,fun n1 => ?_⟩;obtain⟨g2,hS2,hl2,hm2,hrl2,hk2⟩:=hn.mem.weak h.all.fz hB hdok (hr2.append (hms c.ms)) n1;refine ⟨g2,_,hm2,hrl2,?_,fun p hp => ?_,fun b o hb=>(hs.mono.hS 1 b o (by rw[hS]; exact .inl ⟨.inr rfl,hb⟩)).2⟩
     ·rw[← hl,List.take_left]
     ·obtain⟨ps,hps1,hps2,hps3⟩:=Uk h.ok;have hchk:zfi (c.inp1.bks (fun j=>j) x)[p.1]? (c.out.bks (fun j=>j) d.x)[p.2]? = true:=by
       unfold BN at hmu;rw[aD] at hmu;exact hmu p hp
      obtain⟨k0,k1,hk0,hk1,hsk,hkd⟩:=UU hchk;obtain⟨k0',hk0',hlk0⟩:=K3 (fun j=>j) (fun j=>8+j) c.inp1.blks _ p.1 k0 hk0;have hH0:(c.entry x).H (8+p.1)=k0':=by
       refine Jy (show (c.inp1.bks (fun j=>8+j) x)[p.1]? = some k0' from ?_)
       unfold Sh.bks;rw[rm (fun j=>8+j) (fun j=>j)];exact hk0'
      obtain⟨k1',hk1',hlk1⟩:=K3 (fun j=>j) (fun j=>n1+j) c.out.blks _ p.2 k1 hk1;have hH1:mkH n1 (c.out.bks (fun j=>n1+j) d.x) (n1+p.2)=k1':=by
       refine Jy (show (c.out.bks (fun j=>n1+j) d.x)[p.2]? = some k1' from ?_)
       unfold Sh.bks;rw[rm (fun j=>n1+j) (fun j=>j)];exact hk1'
      refine ⟨?_,by rw[hH0,hH1]; exact likeB.same hsk hlk0 hlk1⟩
      rw[← hps2] at hp;obtain⟨q,hq,rfl⟩:=aR.1 hp;obtain⟨n,t,a,b,ps',h1,h2,h3,h4,h5⟩:=LY c.ms hps1 q hq;rw[aP] at h3
      -- the kinds
      have hkk:Kd q.1 k0∧Kd q.1 k1:=by
       have hmk:=hps3 q hq;unfold Ez at hmk;split at hmk
       ·rename_i l l' he h6 h7;obtain⟨cs,hcs⟩:=j7 (nm:=fun j=>j) c.inp.blks (ms:=(sy (fun j=>j) c.inp1.slots (mkL c.inp1.tg c.inp1.hs x)).2) h6;have e1:k0 = .cells cs:=by
         have:(c.inp1.bks (fun j=>j) x)[q.2.1]? = some (.cells cs):=hcs;rw[this] at hk0; injection hk0 with hk0; exact hk0.symm
        obtain⟨cs',hcs'⟩:=j7 (nm:=fun j=>j) c.out.blks (ms:=(sy (fun j=>j) c.out.slots (mkL c.out.tg c.out.hs d.x)).2) h7;have e2:k1 = .cells cs':=by
         have:(c.out.bks (fun j=>j) d.x)[q.2.2]? = some (.cells cs'):=hcs';rw[this] at hk1; injection hk1 with hk1; exact hk1.symm
        rw[he];exact ⟨⟨cs,e1⟩,⟨cs',e2⟩⟩
       ·rename_i he h6 h7;rw[he];rcases hkd with ⟨hc1,hc2⟩ | hkd
        ·exfalso;have hz:(qv (fun j=>j) c.inp1.blks (sy (fun j=>j) c.inp1.slots (mkL c.inp1.tg c.inp1.hs x)).2)[q.2.1]? = some k0:=hk0;cases hk0c:k0 with
         | cells cs =>
          rw[hk0c] at hz;obtain⟨z,l,hzl⟩:=QG _ hz;have hzl:c.inp.blks[q.2.1]? = some (.cells z l):=hzl;rw[h6] at hzl;cases hzl
         | _=>rw[hk0c] at hc1; cases hc1
        ·exact hkd
       ·cases hmk
      -- the value that points there
      obtain⟨M,hM⟩:=Iq (fun j=>8+j) c.inp.slots (mkL c.inp1.tg c.inp1.hs x) h2;obtain⟨v,hv1,hv2⟩:=hrl.get (show (c.inp1.avs (fun j=>8+j) x)[t]? = _ from hM)
      obtain⟨M',hM'⟩:=Iq (fun j=>n1+j) c.out.slots (mkL c.out.tg c.out.hs d.x) h3;obtain⟨v',hv1',hv2'⟩:=hrl2.get (show (c.out.avs (fun j=>n1+j) d.x)[c.nres+n]? = _ from hM')
      have hvv:v'=v:=by
       rw[bI (by omega),hl,Nat.add_sub_cancel_left,bh,h1] at hv1'
       have hv1':some (a'.tmps.getD t undef)=some v':=hv1';injection hv1' with hv1';have htd:t∉ZJ code:=by
        have hk:=h.keep;rw[aD] at hk;have:=hk t (aJ h1);simp only[cp,cz] at this;exact fun ht=>this t ht (cM t)
       rw[← hv1',hs.tmps t htd];have hv1:vs[t]? = some v:=by simpa using hv1
       have hlt:=(bJ.1 hv1).1;show (vs++eO (fn.ntmps - vs.size) undef).getD t undef=v;rw[htm t hlt,bg,hv1]; rfl
      subst hvv;have hold:∀ ps',Vg a b=some ps'->q∈ps'->∃ r,g.loc (8+q.2.1)=some r∧g2.loc (n1+q.2.2)=some r:=fun ps' h4 h5 =>
       BC a h4 hv2 hv2' q h5 (by rw[hH0]; exact likeB.kd hlk0 hkk.1) (by rw[hH1]; exact likeB.kd hlk1 hkk.2)
      unfold zbY at h4;split at h4
      ·rename_i j k;injection h4 with h4; subst h4;have h5:=bb.1 h5;subst h5
       -- it is not empty
       have hne:=hneB;unfold neB at hne;rw[aD] at hne;have hne:=hne t (aJ h1);rw[h2] at hne;have hne:(match (c.inp1.bks (fun j=>j) x)[j]? with | some (.seq _ _ xs) => !(dU xs) | _=>false)=true:=hne
       have hk0:(c.inp1.bks (fun j=>j) x)[j]? = some k0:=hk0;rw[hk0] at hne;obtain⟨⟨q1,ts,xs,hc⟩,⟨q2,us,ys,hc'⟩⟩:=hkk;subst hc;have hH0':(c.entry x).H (8+j) = .seq q1 ts xs:=by
        rw[hH0];rcases hlk0 with ⟨h6,-⟩ | h6
        ·cases h6
        ·exact h6.symm
       have hH1':mkH n1 (c.out.bks (fun j=>n1+j) d.x) (n1+k) = .seq q2 us ys:=by
        rw[hH1];rcases hlk1 with ⟨h6,-⟩ | h6
        ·rw[hc'] at h6; cases h6
        ·rw[← h6]; exact hc'
       have hv2:jF 8 c.inp.blks.length (8+j)∧v'.oneCell'=true∧RView (mem w) g (8+j) v' ((c.entry x).H (8+j)):=hv2;have hv2':jF n1 c.out.blks.length (n1+k)∧v'.oneCell'=true∧RView (mem w') g2 (n1+k) v' (mkH n1 (c.out.bks (fun j=>n1+j) d.x) (n1+k)):=hv2';rw[hH0'] at hv2;rw[hH1'] at hv2';obtain⟨-,-,a1,c1,rfl,hc1,hx1⟩:=hv2;obtain⟨-,-,a2,c2,he,hc2,hx2⟩:=hv2';injection he with he1 he2 he3;subst he1; subst he3;have hxs:0<xs.length:=by
        cases xs with
        | nil=>cases hne
        | cons _ _=>simp
       rcases hx1 with h6 | ⟨r,h6,h7,-⟩
       ·omega
       ·rcases hx2 with h8 | ⟨r',h8,h9,-⟩
        ·omega
        ·rw[h7] at h9; injection h9 with h9; injection h9 with h9;subst h9;exact ⟨r,h6,h8⟩
      ·exact hold _ h4 h5
   cases e<;>cases xe<;>simp only[kV] at he
   ·exact fin hk
   ·cases hk
   ·cases hk
   ·exact fin hk
structure Emb (gin:Gh) (Hin:Nat->Blk) (Zin:Nat->Bool) (go:Gh) (Ho:Nat->Blk) (Zo:Nat->Bool) (Uo:Nat->Prop) (gi:Gh) (Hi:Nat->Blk) (Zi:Nat->Bool) (Ui:Nat->Prop) (c c':Mem) (loc2:Nat->Option Nat) (H2:Nat->Blk) (Z2:Nat->Bool) (U2:Nat->Prop) (src:Nat->Option Nat):Prop where
 old:∀ b,H2 b ≠ .dead->src b=none->H2 b=Ho b∧loc2 b=go.loc b∧(∀ r,go.loc b=some r->¬ lent gin Hin Zin r)∧(Zo b=true->Z2 b=true)
 new:∀ b b',H2 b ≠ .dead->src b=some b'->H2 b=Hi b'∧loc2 b=gi.loc b'∧(Zi b'=true->Z2 b=true)
 inj:∀ b c b',src b=some b'->src c=some b'->b=c
 used:∀ b,H2 b ≠ .dead->U2 b
 uo:∀ b,Uo b->U2 b
 ui:∀ b,Ui b->U2 b
 outer:∀ b,Uo b->src b=none∨(∃ b',src b=some b'∧SameKind (Ho b) (Hi b')∧gi.loc b'=go.loc b∧H2 b=Hi b'∧loc2 b=go.loc b∧∀ r,go.loc b=some r->∀ j,(c r j).isSome->(c' r j).isSome)
 inner:∀ b,Ui b->H2 b = .dead∨(H2 b=Hi b∧loc2 b=gi.loc b)
theorem MemOk.embed2 {X:Fx} {go:Gh} {Ho:Nat->Blk} {Zo:Nat->Bool} {Uo:Nat->Prop} {w:World} (ho:MemOk X go Ho Zo Uo w) {gin:Gh} {Hin:Nat->Blk} {Zin:Nat->Bool} {hb:X.D<=w.heap.size} {gi:Gh} {Hi:Nat->Blk} {Zi:Nat->Bool} {Ui:Nat->Prop} {w':World}
  (hi:MemOk (X.inner gin Hin Zin w hb) gi Hi Zi Ui w') {loc2:Nat->Option Nat} {H2:Nat->Blk} {Z2:Nat->Bool} {U2:Nat->Prop} {src:Nat->Option Nat} (em:Emb gin Hin Zin go Ho Zo Uo gi Hi Zi Ui (mem w) (mem w') loc2 H2 Z2 U2 src)
  (hS0:gin.S=go.S) (hS:∀ q b o,go.S q b o->gi.S q b o∧mem w' b o=mem w b o) (hL:∀ r,lent gin Hin Zin r->(X.D<=r∨X.O r)∧¬ X.Keep r)
  (hro:∀ x,Hi x ≠ .dead->¬(Zi x=true∧(Hi x).isCells=true)) :
  MemOk X { S:=gi.S,loc:=loc2 } H2 Z2 U2 w'∧Mono (mem w) go Ho Uo (mem w') { S:=gi.S,loc:=loc2 } H2 U2∧Mono (mem w') gi Hi Ui (mem w') { S:=gi.S,loc:=loc2 } H2 U2:=by
 have live:∀ b,H2 b ≠ .dead->(src b=none∧H2 b=Ho b∧Ho b ≠ .dead∧loc2 b=go.loc b∧(∀ r,go.loc b=some r->(X.inner gin Hin Zin w hb).Keep r)∧(Zo b=true->Z2 b=true)) ∨
   ∃ b',src b=some b'∧H2 b=Hi b'∧Hi b' ≠ .dead∧loc2 b=gi.loc b'∧(Zi b'=true->Z2 b=true):=by
  intro b hd;cases hs:src b with
  | none =>
   obtain⟨h1,h2,h3,h4⟩:=em.old b hd hs;exact .inl ⟨rfl,h1,h1▸hd,h2,fun r hr=>⟨ho.locLt (h1▸hd) hr,h3 r hr⟩,h4⟩
  | some b' =>
   obtain⟨h1,h2,h3⟩:=em.new b b' hd hs;exact .inr ⟨b',rfl,h1,h1▸hd,h2,h3⟩
 have hmono:Mono (mem w) go Ho Uo (mem w') { S:=gi.S,loc:=loc2 } H2 U2:=by
  refine ⟨hS,em.uo,fun b hb => ?_⟩;by_cases hd:H2 b = .dead
  ·exact .inl hd
  ·rcases em.outer b hb with hs | ⟨b',h1,h2,h3,h4,h5,h6⟩
   ·obtain⟨h1,h2,h3,h4⟩:=em.old b hd hs;rw[h1];refine .inr ⟨(SameKind.refl_or (Ho b)).resolve_left (h1▸hd),h2,fun r hr j hj => ?_⟩;rw[zE (hi.keep r ⟨ho.locLt (h1▸hd) hr,h3 r hr⟩)];exact hj
   ·exact .inr ⟨by rw[h4]; exact h2,h5,h6⟩
 have hmono':Mono (mem w') gi Hi Ui (mem w') { S:=gi.S,loc:=loc2 } H2 U2:=by
  refine ⟨fun q b o hs=>⟨hs,rfl⟩,em.ui,fun b hb => ?_⟩;rcases em.inner b hb with hd | ⟨h1,h2⟩
  ·exact .inl hd
  ·rw[h1];exact (SameKind.refl_or (Hi b)).imp (fun h=>h) fun h=>⟨h,h2,fun _ _ _ h=>h⟩
 refine ⟨?_,hmono,hmono'⟩;have keepK:∀ k,X.Keep k->(X.inner gin Hin Zin w hb).Keep k:=fun k hk=>⟨dm (X.keepLt k hk) ho.size,fun hl=>(hL k hl).2 hk⟩;have mixed:∀(b b' r:Nat),(X.inner gin Hin Zin w hb).Keep r->Hi b' ≠ .dead->gi.loc b'=some r->False:=fun b b' r hk hd hl=>hro b' hd (hi.mine b' r hd hl hk)
 refine { blk:=fun b => ?_,used:=em.used,inj:=fun b b' r hb hb' hl hl' => ?_,acc:=hi.acc,sep:=fun q r o x hs hx hl => ?_,up0:=hi.up0,up2:=hi.up2,dn:=fun b o hs => ?_,fr:=hi.fr,nf:=fun b o hs hB=>(by
  rcases hB with hB | hB
  ·exact hi.nf b o hs (.inl hB)
  ·by_cases hlb:lent gin Hin Zin b
   ·exact hi.nf b o hs (.inr hlb)
   ·rcases hi.dn b o hs with h5 | h5 | h5
    ·have h5:go.S 0 b o:=hS0▸h5;rw[vM (hi.keep b ⟨ho.mem_lt h5,hlb⟩)];exact ho.nf b o h5 (.inr hB)
    ·exact hi.nf b o hs (.inl (X.hN _ (aT ho.bB h5)))
    ·exact absurd h5 hlb),keep:=fun k hk=>(hi.keep k (keepK k hk)).trans (ho.keep k hk),mine:=fun x r hx hl hk => ?_,own:=fun x r hx hl => ?_,os:=hi.os.trans ho.os,tape:=hi.tape.trans ho.tape,output:=hi.output.trans ho.output,size:=aT ho.size hi.size,bnd:=aT ho.bnd hi.size,glob:=hi.glob,grow:=fun r j hj=>hi.grow r j (ho.grow r j hj) }
 ·by_cases hd:H2 b = .dead
  ·rw[hd]; trivial
  ·rcases live b hd with ⟨hs,h1,h2,h3,h4,h5⟩ | ⟨b',hs,h1,h2,h3,h5⟩
   ·rw[h1];exact RBlk.mono hmono h3 (fun r hr=>hi.keep r (h4 r hr)) (ho.blk b)
   ·rw[h1];have hbb:=hi.blk b';cases hk:Hi b' with
    | dead=>trivial
    | cells cs =>
     rw[hk] at hbb;obtain⟨r,cc,e,h6,h7,h8⟩:=hbb;exact ⟨r,cc,e,h3.trans h6,h7,RF.mono hmono' _ _ h8⟩
    | seq q ts xs =>
     rw[hk] at hbb;refine (show _∨_ from hbb).imp (fun h=>⟨h3.trans h.1,h.2⟩) ?_
     rintro⟨r,cc,e,h6,h7,h8,h9⟩;exact ⟨r,cc,e,h3.trans h6,h7,h8,h9⟩
 ·have hl:loc2 b=some r:=hl;have hl':loc2 b'=some r:=hl';rcases live b hb with ⟨hs,h1,h2,h3,h4,-⟩ | ⟨c,hs,h1,h2,h3,-⟩<;>rcases live b' hb' with ⟨hs',h1',h2',h3',h4',-⟩ | ⟨c',hs',h1',h2',h3',-⟩
  ·rw[h3] at hl; rw[h3'] at hl'; exact ho.inj b b' r h2 h2' hl hl'
  ·rw[h3] at hl; rw[h3'] at hl'; exact (mixed b c' r (h4 r hl) h2' hl').elim
  ·rw[h3] at hl; rw[h3'] at hl'; exact (mixed b' c r (h4' r hl') h2 hl).elim
  ·rw[h3] at hl; rw[h3'] at hl';have:=hi.inj c c' r h2 h2' hl hl';subst this;exact em.inj b b' c hs hs'
 ·have hl:loc2 x=some r:=hl;rcases live x hx with ⟨hs',h1,h2,h3,h4,h5⟩ | ⟨c,hs',h1,h2,h3,h5⟩
  ·rw[h3] at hl;rw[h1];have hk:=h4 r hl;rcases hi.dn r o (hi.up0 q r o hs) with h6 | h6 | h6
   ·have h6:go.S 0 r o:=hS0▸h6;have:=ho.sep 0 r o x h6 h2 hl;exact ⟨h5 this.1,this.2⟩
   ·have:w.heap.size<=r:=h6;have:=hk.1; omega
   ·exact absurd h6 hk.2
  ·rw[h3] at hl;rw[h1];have:=hi.sep q r o c hs h2 hl;exact ⟨h5 this.1,this.2⟩
 ·rcases hi.dn b o hs with h6 | h6 | h6
  ·have h6:go.S 0 b o:=hS0▸h6;exact ho.dn b o h6
  ·exact .inr (.inl (aT ho.bnd h6))
  ·exact .inr (hL b h6).1
 ·have hl:loc2 x=some r:=hl;rcases live x hx with ⟨hs',h1,h2,h3,h4,h5⟩ | ⟨c,hs',h1,h2,h3,h5⟩
  ·rw[h3] at hl;have:=ho.mine x r h2 hl hk;exact ⟨h5 this.1,by rw[h1]; exact this.2⟩
  ·rw[h3] at hl;exact (mixed x c r (keepK r hk) h2 hl).elim
 ·have hl:loc2 x=some r:=hl;rcases live x hx with ⟨hs',h1,h2,h3,h4,h5⟩ | ⟨c,hs',h1,h2,h3,h5⟩
  ·rw[h3] at hl;exact (ho.own x r h2 hl).imp (fun h=>h) fun h=>h.imp (fun h=>h) fun h=>⟨h5 h.1,by rw[h1]; exact h.2⟩
  ·rw[h3] at hl;rcases hi.own c r h2 hl with h6 | h6 | h6
   ·exact .inl (aT ho.bnd h6)
   ·exact (hL r h6).1.imp (fun h=>h) .inl
   ·exact absurd h6 (hro c h2)
def LR (S S':Nat->Reg) (c c':Mem) (l m:AV):Prop:=∃ k k' t y,l = .val k t y∧m = .val k' t y∧∀ b o,S k b o->S' k' b o∧c' b o=c b o
theorem LR.conv {g g':Gh} {c c':Mem} {H H':Nat->Blk} {U U':Nat->Prop} {l m:AV} (h:LR g.S g'.S c c' l m):∀ v,RAV c g H U l v->RAV c' g' H' U' m v:=by
 obtain⟨k,k',t,y,rfl,rfl,hs⟩:=h;exact fun v hv=>RVal.mono hs t y v hv
theorem LR.lc {g g':Gh} {c c':Mem} {H H':Nat->Blk} {U U':Nat->Prop} {l m:AV} (h:LR g.S g'.S c c' l m):LC c g H U c' g' H' U' l m :=
 ⟨by obtain⟨k,k',t,y,h1,h2,-⟩:=h; exact ⟨k,k',t,y,h1,h2⟩,h.conv⟩
theorem F2.imp' {α β:Type} {r q:α->β->Prop} (h:∀ a b,r a b->q a b) {as:List α} {bs:List β} (hf:F2 r as bs):F2 q as bs:=hf.mono' fun a b _=>h a b
mutual
theorem zc5 {S S':Nat->Reg} {c c':Mem} (nm nm':Nat->Nat):(t:TV)->{M M':List AV}->F2 (LR S S' c c') M M'->F2 (LR S S' c c') (mkV nm t M).2 (mkV nm' t M').2
 | .hole,M,M',hf=>by
  cases hf with
  | nil=>exact .nil
  | cons h1 h2=>exact h2
 | .unk,M,M',hf=>hf
 | .nilv,M,M',hf=>hf
 | .view j,M,M',hf=>hf
 | .ptr j o,M,M',hf=>hf
 | .aptr j,M,M',hf=>hf
 | .part j,M,M',hf=>by
  cases hf with
  | nil=>exact .nil
  | cons h1 h2=>exact h2
 | .agg l,M,M',hf=>Vx nm nm' l hf
 | .clo f l,M,M',hf=>Vx nm nm' l hf
theorem Vx {S S':Nat->Reg} {c c':Mem} (nm nm':Nat->Nat):(ts:List TV)->{M M':List AV}->F2 (LR S S' c c') M M'->F2 (LR S S' c c') (sy nm ts M).2 (sy nm' ts M').2
 | [],_M,_M',hf=>hf
 | t::ts,_M,_M',hf=>Vx nm nm' ts (zc5 nm nm' t hf)
end
def TwoB (S S':Nat->Reg) (c c':Mem) (k k':Blk):Prop :=
 match k,k' with
 | .dead,.dead=>True
 | .cells _,.cells _=>True
 | .seq q ts xs,.seq q' us ys=>(∃ h:ts=us,h▸xs=ys)∧∀ b o,S q b o->S' q' b o∧c' b o=c b o
 | _,_=>False
theorem Jb {S S':Nat->Reg} {c c':Mem} (nm nm':Nat->Nat) (t:TB) {M M':List AV} (hf:F2 (LR S S' c c') M M'):TwoB S S' c c' (vF nm t M).1 (vF nm' t M').1∧F2 (LR S S' c c') (vF nm t M).2 (vF nm' t M').2:=by
 cases t with
 | cells z l=>exact ⟨trivial,Vx nm nm' l hf⟩
 | seq z =>
  cases hf with
  | nil=>exact ⟨trivial,.nil⟩
  | cons h1 h2 =>
   obtain⟨k,k',t,y,rfl,rfl,hs⟩:=h1;cases t with
   | sl ts=>exact ⟨⟨⟨rfl,rfl⟩,hs⟩,h2⟩
   | _=>exact ⟨trivial,h2⟩
theorem GB {S S':Nat->Reg} {c c':Mem} (nm nm':Nat->Nat):(ts:List TB)->{M M':List AV}->F2 (LR S S' c c') M M'->∀(j:Nat) k,(qv nm ts M)[j]? = some k->∃ k',(qv nm' ts M')[j]? = some k'∧TwoB S S' c c' k k'
 | [],M,M',_,j,k,h=>by simp [qv] at h
 | t::ts,M,M',hf,0,k,h=>by
  injection h with h; subst h;exact ⟨_,rfl,(Jb nm nm' t hf).1⟩
 | t::ts,M,M',hf,j+1,k,h=>GB nm nm' ts (Jb nm nm' t hf).2 j k (show (qv nm ts (vF nm t M).2)[j]? = some k from h)
theorem TwoB.live {S S':Nat->Reg} {c c':Mem} {k k':Blk} (h:TwoB S S' c c' k k'):(k' ≠ .dead->k ≠ .dead)∧(k ≠ .dead->k' ≠ .dead)∧k.isCells=k'.isCells∧(k' = .dead∨SameKind k k'):=by
 cases k<;>cases k'<;>first | exact h.elim | skip
 ·exact ⟨fun h=>h,fun h=>h,rfl,.inl rfl⟩
 ·exact ⟨fun _=>by simp,fun _=>by simp,rfl,.inr trivial⟩
 ·obtain⟨⟨rfl,rfl⟩,-⟩:=h;exact ⟨fun _=>by simp,fun _=>by simp,rfl,.inr ⟨rfl,rfl⟩⟩
theorem Mx {S S':Nat->Reg} {c c':Mem}:(tg tg':List Nat)->(hs:List Ty)->(x:jv hs)->(∀ i,i<hs.length->∀ b o,S (tg.getD i 0) b o->S' (tg'.getD i 0) b o∧c' b o=c b o)->F2 (LR S S' c c') (mkL tg hs x) (mkL tg' hs x)
 | _,_,[],_,_=>.nil
 | tg,tg',[h],x,hs=>.cons ⟨tg.headD 0,tg'.headD 0,h,x,rfl,rfl,fun b o hb=>by
   have:=hs 0 (by simp) b o (by cases tg<;>exact hb)
   cases tg'<;>exact this⟩ .nil
 | tg,tg',h::i::hs,x,hh=>.cons ⟨tg.headD 0,tg'.headD 0,h,x.1,rfl,rfl,fun b o hb=>by
   have:=hh 0 (by simp) b o (by cases tg<;>exact hb)
   cases tg'<;>exact this⟩ (Mx tg.tail tg'.tail (i::hs) x.2 fun n hn b o hb=>by
   have:=hh (n+1) (by simp at hn ⊢; omega) b o (by cases tg<;>simpa using hb)
   cases tg'<;>simpa using this)
end Go.Abs
