import Derived.Orders
import Derived.LoopN
import Derived.Scope
import Derived.Below
import Derived.KernelRfl
import Derived.Laws.FloatArith
import Derived.Laws.ComplexArith
import Derived.Laws.Sem
import Derived.Laws.AppendOwn
import Derived.Laws.CopyRow
import Derived.Laws.Rows
import Derived.Great.BuildSlice
import Derived.WalkLawsBesides
import Derived.WalkSpells
/-
  A reading of Go code as pure functions: what the operations, rounds and calls of a text make, with proofs.
-/
open Array renaming ext' -> ek, getD_eq_getD_getElem? -> bg, getElem?_eq_getElem -> bi, getElem?_eq_none -> er, getElem?_eq_some_iff -> bJ, getElem?_toList -> aV, length_toList -> aO, range -> ij, toList_extract -> fM
open BitVec renaming ofInt -> dh
open Bool renaming and_eq_true -> ay, false_eq_true -> eh, or_eq_false_iff -> da
open ByteArray renaming data_extract -> gY, ext -> iE, mk -> dE, size -> gK
open Go.Addr renaming add_lit -> dF
open Go.Builtin renaming len_ -> fy
open Go.ByteArray renaming mk_append_mk -> gX, toList_mk -> fR
open Go.Conv renaming bytesToString -> f5
open Go.Instr renaming alloc -> gB, buildSlice -> fq, field -> ig, fieldAt -> fV, fill -> eU, index -> fb, indexAt -> d9, loadAt -> dX, slice -> ii, sliceAt -> dN, sliceBound -> fp, sliceBounds -> et, storeAt -> fX, sureAddr -> c8
open Go.Op renaming eqFields -> gA, equal -> eR, equalIn -> f0, intArith -> gw, intBits -> gJ, intCmp -> fm, intDiv -> iu, shift -> iB, stringOp -> gz, unary -> iC
open Go.Program renaming built -> fW, fieldsOf -> iw
open Go.Result renaming andThen_ok -> b7
open Go.Sem renaming run_bind -> cF, run_pure -> cG
open Go.Value renaming int -> dl
open Go.World renaming cell? -> gv, frozen? -> d8, setRow -> fw
open Int renaming le_trans -> fx, ofNat_le -> f9, toNat -> bc
open List renaming all_cons -> bX, any_eq_false -> cz, append_assoc -> aW, append_nil -> bO, drop_append -> dT, drop_append_of_le_length -> dB, drop_drop -> cf, drop_eq_nil_of_le -> cE, drop_set_of_lt -> fS, drop_take -> eS, drop_zero -> bQ, eq_nil_of_length_eq_zero -> ba, ext_getElem? -> db, extract_eq_take_drop -> d0, flatMap_cons -> bv, foldl_cons -> dJ, getD_eq_getElem?_getD -> aE, getElem?_append_left -> bP, getElem?_append_right -> bI, getElem?_cons_zero -> aB, getElem?_drop -> bu, getElem?_eq_getElem -> al, getElem?_eq_none -> aQ, getElem?_map -> bh, getElem?_range -> dg, getElem?_replicate -> bF, getElem?_set_ne -> cq, getElem?_take -> bz, getElem?_toArray -> bR, getElem_set_self -> ey, isEmpty_iff -> fk, length -> af, length_append -> am, length_cons -> ak, length_drop -> bq, length_replicate -> ck, length_set -> bY, length_take -> cH, map_cons -> aK, mem_cons -> aG, mem_cons_of_mem -> ai, mem_cons_self -> aj, mem_flatMap -> cY, nil_append -> bl, range -> aL, replicate -> ax, size_toArray -> bn, take_append -> eA, take_append_drop -> bW, take_append_of_le_length -> c6, take_length -> dW, take_of_length_le -> di, take_succ_eq_append_getElem -> ew, take_take -> gL, take_zero -> gI, toArray -> gW, zipIdx_cons -> dY
open Nat renaming add_assoc -> bK, add_comm -> dj, add_mul -> bf, add_sub_cancel_left -> du, add_zero -> dk, beq -> aA, ble -> ci, blt -> dC, div_add_mod' -> gk, div_lt_iff_lt_mul -> fI, eq_of_beq_eq_true -> au, le_refl -> aC, le_trans -> aT, lt_or_ge -> bG, min_eq_left -> dK, mod_lt -> fZ, mul_le_mul_right -> aS, ne_of_gt -> gd, one_mul -> cj, sub_self -> ep, sub_zero -> eQ, zero_add -> aP, zero_le -> bN, zero_mul -> dV
open Option renaming bind_assoc -> bS, bind_eq_some_iff -> ah, getD -> bM, getD_none -> cZ, getD_some -> bj, isNone -> co, map_some -> bD
open Option.some renaming inj -> fG, injEq -> aq
open Prod.mk renaming injEq -> aM
namespace Go.Abs
mutual
inductive Ty where
 | int (k:IntKind)
 | bool
 | str
 | cx
 | fl
 | sl (ts:Tys)
 | ns (ts:Tys)
 | ar (ts:Tys) (n:Nat)
inductive Tys where
 | one (t:Ty)
 | cons (t:Ty) (ts:Tys)
end
mutual
def El:Ty->Type
 | .int _=>Int
 | .bool=>Bool
 | .str=>List UInt8
 | .cx=>Nat×Nat
 | .fl=>Nat
 | .sl ts=>List (Tup ts)
 | .ns ts=>Option (List (Tup ts))
 | .ar ts _=>List (Tup ts)
def Tup:Tys->Type
 | .one t=>El t
 | .cons t ts=>El t×Tup ts
end
def Tys.size:Tys->Nat
 | .one _=>1
 | .cons _ ts=>ts.size+1
def jv:List Ty->Type
 | []=>Unit
 | [t]=>El t
 | t::u::ts=>El t×jv (u::ts)
mutual
def Ty.dec:(a b:Ty)->Decidable (a=b)
 | .int k,b=>match b with
  | .int k'=>if h:k=k' then isTrue (h▸rfl) else isFalse fun e=>h (by injection e)
  | .bool | .str | .cx | .fl | .sl _ | .ns _ | .ar _ _=>isFalse (fun e=>by injection e)
 | .bool,b=>match b with
  | .bool=>isTrue rfl
  | .int _ | .str | .cx | .fl | .sl _ | .ns _ | .ar _ _=>isFalse (fun e=>by injection e)
 | .str,b=>match b with
  | .str=>isTrue rfl
  | .int _ | .bool | .cx | .fl | .sl _ | .ns _ | .ar _ _=>isFalse (fun e=>by injection e)
 | .cx,b=>match b with
  | .cx=>isTrue rfl
  | .int _ | .bool | .str | .fl | .sl _ | .ns _ | .ar _ _=>isFalse (fun e=>by injection e)
 | .fl,b=>match b with
  | .fl=>isTrue rfl
  | .int _ | .bool | .str | .cx | .sl _ | .ns _ | .ar _ _=>isFalse (fun e=>by injection e)
 | .sl ts,b=>match b with
  | .sl us=>match Tys.dec ts us with
   | isTrue h=>isTrue (h▸rfl)
   | isFalse h=>isFalse fun e=>h (by injection e)
  | .int _ | .bool | .str | .cx | .fl | .ns _ | .ar _ _=>isFalse (fun e=>by injection e)
 | .ns ts,b=>match b with
  | .ns us=>match Tys.dec ts us with
   | isTrue h=>isTrue (h▸rfl)
   | isFalse h=>isFalse fun e=>h (by injection e)
  | .int _ | .bool | .str | .cx | .fl | .sl _ | .ar _ _=>isFalse (fun e=>by injection e)
 | .ar ts n,b=>match b with
  | .ar us m=>match Tys.dec ts us with
   | isTrue h=>if h':n=m then isTrue (h▸h'▸rfl) else isFalse fun e=>h' (by injection e)
   | isFalse h=>isFalse fun e=>h (by injection e)
  | .int _ | .bool | .str | .cx | .fl | .sl _ | .ns _=>isFalse (fun e=>by injection e)
def Tys.dec:(a b:Tys)->Decidable (a=b)
 | .one t,b=>match b with
  | .one u=>match Ty.dec t u with
   | isTrue h=>isTrue (h▸rfl)
   | isFalse h=>isFalse fun e=>h (by injection e)
  | .cons _ _=>isFalse (fun e=>by injection e)
 | .cons t ts,b=>match b with
  | .cons u us=>match Ty.dec t u with
   | isTrue h=>match Tys.dec ts us with
    | isTrue h'=>isTrue (h▸h'▸rfl)
    | isFalse h'=>isFalse fun e=>h' (by injection e)
   | isFalse h=>isFalse fun e=>h (by injection e)
  | .one _=>isFalse (fun e=>by injection e)
end
def Ty.flat:Ty->Bool
 | .ar _ _=>false
 | _=>true
instance:DecidableEq Ty:=Ty.dec
instance:DecidableEq Tys:=Tys.dec
def Zz (t u:Ty) (x:El t):Option (El u) :=
 match Ty.dec t u with
 | isTrue h=>some (h▸x)
 | isFalse _=>none
inductive AV where
 | unk
 | val (g:Nat) (t:Ty) (x:El t)
 | agg (cs:List AV)
 | tup (cs:List AV)
 | nilv
 | view (b:Nat)
 | part (b:Nat) (o n:Nat)
 | ptr (b o:Nat)
 | cptr (b o k sz f:Nat)
 | sptr (b i f:Nat)
 | eptr (g:Nat) (ts:Tys) (x:Tup ts) (f:Nat)
 | clo (f:FuncId) (cs:List AV)
inductive Blk where
 | dead
 | cells (cs:List AV)
 | seq (g:Nat) (ts:Tys) (xs:List (Tup ts))
def Blk.isCells:Blk->Bool
 | .cells _=>true
 | _=>false
structure St where
 φ:Nat->AV
 H:Nat->Blk
 Z:Nat->Bool
 nx:Nat
def upd {α:Type} (f:Nat->α) (i:Nat) (v:α):Nat->α:=fun j=>cond (aA j i) v (f j)
theorem zx {α:Type} (f:Nat->α) (i:Nat) (v:α):upd f i v i=v:=by simp [upd]
theorem xV {α:Type} (f:Nat->α) {i j:Nat} (v:α) (h:j≠i):upd f i v j=f j:=by
 simp [upd,show (aA j i)=false from by rw[← Bool.not_eq_true]; simpa using h]
theorem Ra {α:Type} (f:Nat->α) {i j:Nat} (v u:α) (h:i≠j):upd (upd f i v) j u=upd (upd f j u) i v:=by
 funext k
 by_cases h1:k=i
 ·subst h1; rw[xV _ _ h,zx,zx]
 ·by_cases h2:k=j
  ·subst h2; rw[zx,xV _ _ h1,zx]
  ·rw[xV _ _ h2,xV _ _ h1,xV _ _ h1,xV _ _ h2]
def gx {α:Type} (xs:List α) (i:Int):Option α:=cond (decide (0<=i)) (xs[i.toNat]?) none
def slc {α:Type} (xs:List α) (lo hi:Int):Option (List α) :=
 cond (decide (0<=lo)) (cond (decide (lo<=hi)) (cond (decide (hi<=(xs.length:Int))) (some ((xs.take hi.toNat).drop lo.toNat)) none) none) none
inductive TD where
 | int (k:IntKind)
 | bool
 | str
 | cx
 | fl
 | sl (e:TypeId) (ts:Tys) (bytes:Nat)
 | st (fs:List (TypeId×Nat)) (n:Nat)
 | fn
 | arr (e:TypeId) (ts:Tys) (n:Nat)
 | fa (e:TypeId) (k n:Nat)
abbrev Tb:=Nat->Option TD
def jn (g h:Nat):Nat:=cond (aA g h) g (cond (ci 2 g) (cond (ci 2 h) 2 0) 0)
def nn {α:Type} (xs:List α):Option (List α):=cond xs.isEmpty none (some xs)
def W4 (ts us:Tys) (xs:List (Tup ts)):Option (List (Tup us)):=Zz (.sl ts) (.sl us) xs
def VV (g:Nat) (ts:Tys) (xs:List (Tup ts)):(t:Ty)->Option (Nat×El t)
 | .sl us=>(W4 ts us xs).bind fun y=>some (g,y)
 | .ns us=>(W4 ts us xs).bind fun y=>(nn y).bind fun z=>some (g,some z)
 | _=>none
def vz (H:Nat->Blk) (fz:Nat) (t:Ty):AV->Option (Nat×El t)
 | .val g (.sl ts) x=>VV g ts x t
 | .val g (.ns ts) x=>match t with
  | .ns us=>(Zz (.ns ts) (.ns us) x).bind fun y=>some (g,y)
  | .sl us=>(W4 ts us (bM x [])).bind fun y=>some (g,y)
  | _=>none
 | .val g (.ar ts n) x=>(Zz (.ar ts n) t x).bind fun y=>some (g,y)
 | .val _ u x=>(Zz u t x).bind fun y=>some (2,y)
 | .nilv=>match t with
  | .sl _=>some (2,[])
  | .ns _=>some (2,none)
  | _=>none
 | .view b=>match H b with
  | .seq g ts xs=>VV (jn g fz) ts xs t
  | _=>none
 | .part b o n=>match H b with
  | .seq g ts xs=>VV (jn g fz) ts ((xs.drop o).take n) t
  | _=>none
 | _=>none
def QH (H:Nat->Blk) (fz:Nat) (t:Ty) (a:AV):Option (Nat×El t):=cond t.flat (vz H fz t a) none
def Iy (H:Nat->Blk) (fz:Nat):(ts:Tys)->List AV->Option (Nat×Tup ts)
 | .one t,[a]=>QH H fz t a
 | .cons t ts,a::as=>(QH H fz t a).bind fun x=>(Iy H fz ts as).bind fun y=>some (jn x.1 y.1,(x.2,y.2))
 | _,_=>none
def AV.cells:AV->List AV
 | .agg cs=>cs
 | v=>[v]
def AV.isAr:AV->Bool
 | .val _ (.ar _ _) _=>true
 | _=>false
def AV.width:AV->Nat
 | .val _ (.ar ts n) _=>n*ts.size
 | _=>1
def tY:List AV->Nat
 | []=>0
 | a::as=>a.width+tY as
def jC:List AV->Nat->Option (List AV×List AV)
 | [],o=>cond (aA o 0) (some ([],[])) none
 | a::as,o=>cond (aA o 0) (some ([],a::as)) (cond (ci a.width o) ((jC as (o - a.width)).bind fun p=>some (a::p.1,p.2)) none)
def kT:AV->Bool
 | .unk | .tup _=>false
 | _=>true
def zfh:AV->Bool
 | .unk | .agg _ | .tup _=>false
 | _=>true
def xS (g:Nat):(ts:Tys)->Tup ts->List AV
 | .one t,x=>[.val g t x]
 | .cons t ts,x=>.val g t x.1::xS g ts x.2
def jO (H:Nat->Blk) (fz:Nat):(ts:Tys)->Tup ts->Nat->AV->Option (Nat×Tup ts)
 | .one t,_,0,a=>QH H fz t a
 | .one _,_,_+1,_=>none
 | .cons t _,x,0,a=>(QH H fz t a).bind fun y=>some (y.1,(y.2,x.2))
 | .cons _ ts,x,f+1,a=>(jO H fz ts x.2 f a).bind fun y=>some (y.1,(x.1,y.2))
mutual
def Ul:(t:Ty)->El t
 | .int _=>(0:Int)
 | .bool=>false
 | .str=>[]
 | .cx=>(0,0)
 | .fl=>(0:Nat)
 | .sl _=>[]
 | .ns _=>none
 | .ar ts n=>ax n (qb ts)
def qb:(ts:Tys)->Tup ts
 | .one t=>Ul t
 | .cons t ts=>(Ul t,qb ts)
end
def Ro:TD->Option AV
 | .int k=>some (.val 2 (.int k) (0:Int))
 | .bool=>some (.val 2 .bool false)
 | .str=>some (.val 2 .str [])
 | .cx=>some (.val 2 .cx (0,0))
 | .fl=>some (.val 2 .fl (0:Nat))
 | .sl .. => some .nilv
 | .st .. => none
 | .fn=>some .unk
 | .arr _ ts n=>some (.val 2 (.ar ts n) (ax n (qb ts)))
 | .fa .. => none
def zeroCells (tb:Tb):Nat->TypeId->Option (List AV)
 | 0,_=>none
 | d+1,t=>match tb t with
  | some (.st fs _)=>fs.foldl (fun acc f=>acc.bind fun cs=>(zeroCells tb d f.1).bind fun ds=>some (cs++ds)) (some [])
  | some (.fa e _ n)=>(zeroCells tb d e).bind fun z=>some (ax n z).flatten
  | some td=>(Ro td).bind fun a=>some [a]
  | none=>none
def TD.size:TD->Nat
 | .st _ n=>n
 | .arr _ ts n=>n*ts.size
 | .fa _ k n=>n*k
 | _=>1
abbrev Gl:=Nat->Option ((ts:Tys)×Tup ts)
def XR:Value->AV
 | .int k n=>.val 2 (.int k) n
 | .bool b=>.val 2 .bool b
 | .string s=>.val 2 .str s.data.toList
 | .slice none 0 0=>.nilv
 | _=>.unk
def B5:Value->AV
 | .agg cs=>.agg (cs.toList.map XR)
 | v=>XR v
def ev (gl:Gl) (φ:Nat->AV):Operand->AV
 | .tmp t=>φ t
 | .const v=>B5 v
 | .global g=>match gl g with
  | some x=>.eptr 1 x.1 x.2 0
  | none=>.unk
 | .func f=>.clo f []
structure Eff where
 ws:List (Nat×Blk)
 zs:List Nat
abbrev K (R:Type):=AV->Eff->Option R
def quiet {R:Type} (κ:K R) (v:AV):Option R:=κ v ⟨[],[]⟩
section
variable {R:Type}
def O1 (op:BinOp) (k:IntKind) (a b:Int):Option Int :=
 match op with
 | .and=>some (k.wrap (((dh k.bits a &&& dh k.bits b).toNat:Nat):Int))
 | .or=>some (k.wrap (((dh k.bits a ||| dh k.bits b).toNat:Nat):Int))
 | .xor=>some (k.wrap (((dh k.bits a ^^^ dh k.bits b).toNat:Nat):Int))
 | _=>none
def zck (op:BinOp) (a b:Nat):Option Bool :=
 let c:=FloatKind.f64.format.order a b
 match op with
 | .eql=>some (c==some .eq)
 | .neq=>some (c != some .eq)
 | .lss=>some (c==some .lt)
 | .leq=>some (c==some .lt||c==some .eq)
 | .gtr=>some (c==some .gt)
 | .geq=>some (c==some .gt||c==some .eq)
 | _=>none
def FU (op:BinOp) (a b:Nat) (κ:AV->Option R):Option R :=
 match op with
 | .add | .sub | .mul=>(floatBits op .f64 a b).bind fun r=>κ (.val 2 .fl r)
 | op=>(zck op a b).bind fun r=>κ (.val 2 .bool r)
def FY (op:BinOp) (a b:Nat×Nat) (κ:AV->Option R):Option R :=
 match op with
 | .add | .sub=>(cSumBits op .f64 a.1 a.2 b.1 b.2).bind fun r=>κ (.val 2 .cx r)
 | .mul=>(cMulBits a.1 a.2 b.1 b.2).bind fun r=>κ (.val 2 .cx r)
 | _=>none
def zcv (a b:Nat):Option Nat :=
 match FloatKind.f64.format.order a b with
 | none=>none
 | some .lt=>some b
 | some .gt=>some a
 | some .eq=>some (cond (FloatKind.f64.decode a).neg b a)
def DF (a b:Int):Int:=cond (decide (b>a)) b a
def D3 (a b:Int):Int:=cond (decide (b<a)) b a
def IU (op:BinOp) (k:IntKind) (a b:Int) (κ:AV->Option R):Option R :=
 match op with
 | .add=>κ (.val 2 (.int k) (k.wrap (a+b)))
 | .sub=>κ (.val 2 (.int k) (k.wrap (a - b)))
 | .mul=>κ (.val 2 (.int k) (k.wrap (a*b)))
 | .quo=>cond (decide (b=0)) none (κ (.val 2 (.int k) (k.wrap (a.tdiv b))))
 | .rem=>cond (decide (b=0)) none (κ (.val 2 (.int k) (a.tmod b)))
 | .eql=>κ (.val 2 .bool (a==b))
 | .neq=>κ (.val 2 .bool (a != b))
 | .lss=>κ (.val 2 .bool (decide (a<b)))
 | .leq=>κ (.val 2 .bool (decide (a<=b)))
 | .gtr=>κ (.val 2 .bool (decide (a>b)))
 | .geq=>κ (.val 2 .bool (decide (a≥b)))
 | .shl=>cond (decide (b<0)) none (κ (.val 2 (.int k) (k.wrap (a*2 ^ min b.toNat k.bits))))
 | .shr=>cond (decide (b<0)) none (κ (.val 2 (.int k) (a.fdiv (2 ^ min b.toNat k.bits))))
 | op=>(O1 op k a b).bind fun r=>κ (.val 2 (.int k) r)
def DG (op:BinOp) (a b:List UInt8) (κ:AV->Option R):Option R :=
 match op with
 | .add=>cond (decide ((a.length+b.length:Nat)<4611686018427387904)) (κ (.val 2 .str (a++b))) none
 | .eql=>κ (.val 2 .bool (a==b))
 | .neq=>κ (.val 2 .bool (!(a==b)))
 | _=>none
def KM (op:BinOp) (a b:Bool) (κ:AV->Option R):Option R :=
 match op with
 | .eql=>κ (.val 2 .bool (a==b))
 | .neq=>κ (.val 2 .bool (!(a==b)))
 | _=>none
def Gf (op:BinOp) (r:Bool) (κ:AV->Option R):Option R :=
 match op with
 | .eql=>κ (.val 2 .bool r)
 | .neq=>κ (.val 2 .bool (!r))
 | _=>none
def eqI (a b:Int):Bool:=a==b
def Pv (a:Int):Bool:=decide (0<=a)
def eqS (a b:List UInt8):Bool:=a==b
def eqB (a b:Bool):Bool:=a==b
def DQ (td:Option TD) (a b:AV):Option Bool :=
 match td,a,b with
 | some (.int _),.val _ (.int k) x,.val _ (.int k') y=>cond (decide (k=k')) (some (eqI x y)) none
 | some .str,.val _ .str x,.val _ .str y=>some (eqS x y)
 | some .bool,.val _ .bool x,.val _ .bool y=>some (eqB x y)
 | _,_,_=>none
def QJ (tb:Tb):List (TypeId×Nat)->Nat->List AV->List AV->Option Bool
 | [],_,[],[]=>some true
 | f::fs,k,a::as,b::bs=>cond (aA f.2 k) ((DQ (tb f.1) a b).bind fun q=>(QJ tb fs (k+1) as bs).bind fun r=>some (cond q r false)) none
 | _,_,_,_=>none
def Zc (H:Nat->Blk):AV->Option Bool
 | .nilv=>some true
 | .val _ (.ns _) x=>some (co x)
 | .val _ (.sl _) xs=>(nn xs).bind fun _=>some false
 | .view b=>match H b with
  | .seq _ _ xs=>(nn xs).bind fun _=>some false
  | _=>none
 | _=>none
def zbe (tb:Tb) (H:Nat->Blk) (op:BinOp) (t:TypeId) (x y:AV) (κ:AV->Option R):Option R :=
 match x,y with
 | .val _ (.int k) a,.val _ (.int k') b=>cond (decide (k=k')) (IU op k a b κ) none
 | .val _ .str a,.val _ .str b=>DG op a b κ
 | .val _ .fl a,.val _ .fl b=>FU op a b κ
 | .val _ .cx a,.val _ .cx b=>FY op a b κ
 | .val _ .bool a,.val _ .bool b=>match tb t with
  | some .bool=>KM op a b κ
  | _=>none
 | .agg as,.agg bs=>match tb t with
  | some (.st fs _)=>(QJ tb fs 0 as bs).bind fun r=>Gf op r κ
  | _=>none
 | x,.nilv=>match tb t with
  | some (.sl ..)=>(Zc H x).bind fun r=>Gf op r κ
  | _=>none
 | _,_=>none
def UV (k:IntKind) (n:Int):Int:=k.wrap (0 - n)
def unE (op:UnOp) (x:AV) (κ:AV->Option R):Option R :=
 match op,x with
 | .not,.val _ .bool b=>κ (.val 2 .bool (!b))
 | .neg,.val _ (.int k) n=>κ (.val 2 (.int k) (UV k n))
 | _,_=>none
def IT (cs:List AV) (o:Nat):Option AV :=
 (jC cs o).bind fun p=>match p.2 with
 | v::_=>some v
 | []=>none
def kF (td:TD) (cs:List AV) (o:Nat) (κ:AV->Option R):Option R :=
 match td with
 | .st _ n=>(jC cs o).bind fun p=>(jC p.2 n).bind fun q=>κ (.agg q.1)
 | .fa _ k n=>(jC cs o).bind fun p=>(jC p.2 (n*k)).bind fun q=>κ (.agg q.1)
 | .arr _ ts n=>(IT cs o).bind fun v=>cond v.isAr (cond (aA v.width (n*ts.size)) (κ v) none) none
 | _=>(IT cs o).bind fun v=>cond v.isAr none (κ v)
def zcl (td:TD) (g:Nat) (ts:Tys) (xs:List (Tup ts)) (κ:AV->Option R):Option R :=
 match td with
 | .arr _ us n=>cond (aA ts.size us.size&&aA xs.length n) (κ (.val g (.ar ts n) xs)) none
 | _=>none
def TD.isArr:TD->Bool
 | .arr .. => true
 | _=>false
def zaO {α:Type} (cs:List AV) (o sz:Nat) (κ:List AV->Nat->(ts:Tys)->Nat->List (Tup ts)->List AV->Option α):Option α :=
 (jC cs o).bind fun p=>match p.2 with
 | .val g (.ar ts n) xs::r=>cond (aA ts.size sz) (κ p.1 g ts n xs r) none
 | _=>none
def XL (tb:Tb) (H:Nat->Blk) (t:TypeId) (p:AV) (κ:AV->Option R):Option R :=
 (tb t).bind fun td=>match p with
 | .ptr b o=>match H b with
  | .cells cs=>kF td cs o κ
  | _=>none
 | .cptr b o k sz f=>match H b with
  | .cells cs=>zaO cs o sz fun _ g ts _ xs _=>(xs[k]?).bind fun x=>kF td (xS g ts x) f κ
  | _=>none
 | .sptr b i f=>match H b with
  | .seq g ts xs=>cond td.isArr (cond (aA i 0&&aA f 0) (zcl td g ts xs κ) none) ((xs[i]?).bind fun x=>kF td (xS g ts x) f κ)
  | _=>none
 | .eptr g ts x f=>kF td (xS g ts x) f κ
 | _=>none
def setCells (cs:List AV) (o:Nat) (vs:List AV):Option (List AV) :=
 (jC cs o).bind fun p=>(jC p.2 (tY vs)).bind fun q=>some (p.1++(vs++q.2))
def ZM (H:Nat->Blk) (fz:Nat) (ts:Tys):Nat->Tup ts->Nat->List AV->Option (Nat×Tup ts)
 | g,x,_,[]=>some (g,x)
 | g,x,f,a::as=>(jO H fz ts x f a).bind fun y=>ZM H fz ts (jn g y.1) y.2 (f+1) as
def ZC (H:Nat->Blk) (fz:Nat):AV->Nat
 | .val g (.sl _) _=>g
 | .val g (.ns _) _=>g
 | .val g (.ar _ _) _=>g
 | .view b=>match H b with
  | .seq g _ _=>jn g fz
  | _=>2
 | .part b _ _=>match H b with
  | .seq g _ _=>jn g fz
  | _=>2
 | _=>2
def JT (H:Nat->Blk) (fz:Nat) (t:Ty) (a:AV) (κ:El t->Option R):Option R :=
 match t,a with
 | .ns us,.val _ (.sl ts) x=>(W4 ts us x).bind fun y=>(nn y).bind fun z=>κ (some z)
 | t,a=>(vz H fz t a).bind fun p=>κ p.2
theorem Kh (H:Nat->Blk) (fz:Nat) (t:Ty) (a:AV) (κ:El t->Option R):JT H fz t a κ=(vz H fz t a).bind fun p=>κ p.2:=by
 unfold JT;split
 ·simp only[vz,VV];rw[bS]
  congr 1
  funext y
  rw[bS];rfl
 ·rfl
def Nw (H:Nat->Blk) (fz:Nat) (g:Nat) (as:List AV):Nat:=as.foldl (fun g a=>jn g (ZC H fz a)) g
def Ks (H:Nat->Blk) (fz:Nat):(ts:Tys)->Tup ts->Nat->AV->(Tup ts->Option R)->Option R
 | .one t,_,0,a,κ=>cond t.flat (JT H fz t a κ) none
 | .one _,_,_+1,_,_=>none
 | .cons t _,x,0,a,κ=>cond t.flat (JT H fz t a fun y=>κ (y,x.2)) none
 | .cons _ ts,x,f+1,a,κ=>Ks H fz ts x.2 f a fun y=>κ (x.1,y)
def ZT (H:Nat->Blk) (fz:Nat) (ts:Tys):Tup ts->Nat->List AV->(Tup ts->Option R)->Option R
 | x,_,[],κ=>κ x
 | x,f,a::as,κ=>Ks H fz ts x f a fun y=>ZT H fz ts y (f+1) as κ
def AV.shows:AV->List Nat
 | .view b=>[b]
 | .part b _ _=>[b]
 | _=>[]
def yJ (vs:List AV):List Nat:=vs.flatMap AV.shows
def GM (tb:Tb) (H:Nat->Blk) (Z:Nat->Bool) (fz:Nat) (t:TypeId) (p v:AV) (κ:K R):Option R :=
 (tb t).bind fun td=>cond (kT v&&v.cells.all zfh&&aA td.size (tY v.cells)&&dC 0 td.size) (match p with
 | .ptr b o=>match H b with
  | .cells cs=>cond (Z b) none ((setCells cs o v.cells).bind fun ds=>κ .unk ⟨[(b,.cells ds)],[]⟩)
  | _=>none
 | .cptr b o k sz f=>match H b with
  | .cells cs=>cond (Z b||(yJ v.cells).any (aA b)) none (zaO cs o sz fun l g ts n xs r=>(xs[k]?).bind fun x=>ZT H fz ts x f v.cells fun y=>κ .unk ⟨[(b,.cells (l++(.val (Nw H fz g v.cells) (.ar ts n) (xs.set k y)::r)))],yJ v.cells⟩)
  | _=>none
 | .sptr b i f=>match H b with
  | .seq g ts xs=>cond (Z b||(yJ v.cells).any (aA b)) none (cond td.isArr (cond (aA i 0&&aA f 0) (match v with
    | .val q (.ar us n) ys=>(W4 us ts ys).bind fun ys=>cond (aA xs.length n) (κ .unk ⟨[(b,.seq q ts ys)],[]⟩) none
    | _=>none) none) ((xs[i]?).bind fun x=>ZT H fz ts x f v.cells fun y=>κ .unk ⟨[(b,.seq (Nw H fz g v.cells) ts (xs.set i y))],yJ v.cells⟩))
  | _=>none
 | _=>none) none
def Wt (td:TD) (f:Nat):Option (TypeId×Nat) :=
 match td with
 | .st fs _=>fs[f]?
 | _=>none
def sJ (tb:Tb) (H:Nat->Blk) (s:TypeId) (p:AV) (f:Nat) (κ:AV->Option R):Option R :=
 (tb s).bind fun td=>(Wt td f).bind fun q=>match p with
 | .ptr b o=>match H b with
  | .cells _=>κ (.ptr b (o+q.2))
  | _=>none
 | .cptr b o k sz h=>match H b with
  | .cells _=>κ (.cptr b o k sz (h+q.2))
  | _=>none
 | .sptr b i g=>match H b with
  | .seq _ _ _=>κ (.sptr b i (g+q.2))
  | _=>none
 | .eptr g ts x h=>κ (.eptr g ts x (h+q.2))
 | _=>none
def xl (H:Nat->Blk) (x:AV) (κ:AV->Option R):Option R :=
 match x with
 | .ptr b o=>match H b with
  | .cells _=>κ (.ptr b o)
  | _=>none
 | .cptr b o k sz f=>match H b with
  | .cells _=>κ (.cptr b o k sz f)
  | _=>none
 | .sptr b i f=>match H b with
  | .seq _ _ _=>κ (.sptr b i f)
  | _=>none
 | .eptr g ts y f=>κ (.eptr g ts y f)
 | _=>none
def KD (tb:Tb) (s:TypeId) (x:AV) (f:Nat) (κ:AV->Option R):Option R :=
 (tb s).bind fun td=>(Wt td f).bind fun q=>(tb q.1).bind fun ud=>match x with
 | .agg cs=>kF ud cs q.2 κ
 | _=>none
def inR (n:Int) (l:Nat):Option Nat:=cond (decide (0<=n)) (cond (decide (n<l)) (some n.toNat) none) none
def sF (tb:Tb) (H:Nat->Blk) (t:TypeId) (x i:AV) (κ:AV->Option R):Option R :=
 match tb t,i with
 | some (.sl _ us _),.val _ (.int _) n=>match x with
  | .val g (.sl ts) xs=>cond (aA ts.size us.size) ((gx xs n).bind fun y=>κ (.eptr g ts y 0)) none
  | .val g (.ns ts) o=>cond (aA ts.size us.size) ((gx (bM o []) n).bind fun y=>κ (.eptr g ts y 0)) none
  | .view b=>match H b with
   | .seq _ ts xs=>cond (aA ts.size us.size) ((inR n xs.length).bind fun k=>κ (.sptr b k 0)) none
   | _=>none
  | .part b o l=>match H b with
   | .seq _ ts _=>cond (aA ts.size us.size) ((inR n l).bind fun k=>κ (.sptr b (o+k) 0)) none
   | _=>none
  | _=>none
 | some (.arr _ us l),.val _ (.int _) n=>match x with
  | .sptr b 0 0=>match H b with
   | .seq _ ts _=>cond (aA ts.size us.size) ((inR n l).bind fun k=>κ (.sptr b k 0)) none
   | _=>none
  | .ptr b o=>match H b with
   | .cells _=>(inR n l).bind fun k=>κ (.cptr b o k us.size 0)
   | _=>none
  | _=>none
 | some (.fa _ q l),.val _ (.int _) n=>(inR n l).bind fun j=>match x with
  | .sptr b i f=>match H b with
   | .seq _ _ _=>κ (.sptr b i (f+j*q))
   | _=>none
  | .ptr b o=>match H b with
   | .cells _=>κ (.ptr b (o+j*q))
   | _=>none
  | .eptr g ts y f=>κ (.eptr g ts y (f+j*q))
  | _=>none
 | _,_=>none
def KW (tb:Tb) (t:TypeId) (x i:AV) (κ:AV->Option R):Option R :=
 match tb t,x,i with
 | some .str,.val _ .str s,.val _ (.int _) n=>(gx s n).bind fun c=>κ (.val 2 (.int .u8) (c.toNat:Int))
 | some (.arr e us l),.val g (.ar ts m) xs,.val _ (.int _) n=>cond (aA ts.size us.size&&aA m l) ((gx xs n).bind fun y=>(tb e).bind fun ud=>kF ud (xS g ts y) 0 κ) none
 | some (.fa e q l),.agg cs,.val _ (.int _) n=>(inR n l).bind fun j=>(tb e).bind fun ud=>kF ud cs (j*q) κ
 | _,_,_=>none
def J9:Option AV->Option (Option Int)
 | none=>some none
 | some (.val _ (.int _) n)=>some (some n)
 | _=>none
def uh {α:Type} (xs:List α):Option Int->Option Int->Option (List α)
 | none,none=>some xs
 | some l,none=>slc xs l xs.length
 | none,some h=>slc xs 0 h
 | some l,some h=>slc xs l h
def FI (b o len:Nat) (lo hi:Option Int) (κ:AV->Option R):Option R :=
 let l:=lo.getD 0
 let h:=hi.getD (len:Int)
 cond (decide (0<=l)) (cond (decide (l<=h)) (cond (decide (h<=(len:Int))) (κ (.part b (o+l.toNat) (h.toNat - l.toNat))) none) none) none
def K5 (tb:Tb) (H:Nat->Blk) (t:TypeId) (x:AV) (lo hi mx:Option AV) (κ:AV->Option R):Option R :=
 match mx,J9 lo,J9 hi with
 | none,some lo,some hi=>match tb t,x with
  | some (.sl _ us _),.val g (.sl ts) xs=>cond (aA ts.size us.size) ((uh xs lo hi).bind fun ys=>κ (.val g (.sl ts) ys)) none
  | some .str,.val _ .str s=>(uh s lo hi).bind fun ys=>κ (.val 2 .str ys)
  | some (.sl ..),.nilv=>cond (eqI (lo.getD 0) 0&&eqI (hi.getD 0) 0) (κ .nilv) none
  | some (.sl _ us _),.part b o n=>match H b with
   | .seq _ ts _=>cond (aA ts.size us.size) (FI b o n lo hi κ) none
   | _=>none
  | some (.sl _ us _),.view b=>match H b with
   | .seq _ ts xs=>cond (aA ts.size us.size) (match lo,hi with
    | none,none=>κ (.view b)
    | lo,hi=>FI b 0 xs.length lo hi κ) none
   | _=>none
  | _,_=>none
 | _,_,_=>none
def Ve (tb:Tb) (H:Nat->Blk) (Z:Nat->Bool) (id:Nat) (t:TypeId) (x:AV) (lo hi mx:Option AV) (κ:K R):Option R :=
 match mx,lo,J9 hi with
 | none,none,some (some h)=>match tb t,x with
  | some (.sl _ us _),.view b=>match H b with
   | .seq g ts xs=>cond (aA ts.size us.size && !(Z b)) ((uh xs none (some h)).bind fun ys=>κ (.view id) ⟨[(b,.dead),(id,.seq g ts ys)],[]⟩) none
   | _=>none
  | some (.sl _ us _),.part b o _=>match H b with
   | .seq _ ts xs=>cond (aA ts.size us.size) (cond (decide (0<=h)) (cond (decide (h<=((xs.length - o:Nat):Int))) (κ (.part b o h.toNat) ⟨[],[]⟩) none) none) none
   | _=>none
  | _,_=>none
 | _,_,_=>none
def BF {α:Type} (z:α) (xs:List α) (o n:Nat):List α:=xs.take o++ax n z++xs.drop (o+n)
def Gx (tb:Tb) (H:Nat->Blk) (Z:Nat->Bool) (t:TypeId) (a:AV) (κ:K R):Option R :=
 match tb t,a with
 | some (.sl _ us _),.part b o n=>match H b with
  | .seq g ts xs=>(W4 us ts []).bind fun _=>cond (Z b) none (κ .unk ⟨[(b,.seq g ts (BF (qb ts) xs o n))],[]⟩)
  | _=>none
 | _,_=>none
def zb2 (tb:Tb) (H:Nat->Blk) (t:TypeId) (x:AV) (κ:AV->Option R):Option R :=
 match tb t,x with
 | some (.sl ..),.val _ (.sl _) xs=>κ (.val 2 (.int .i64) (af xs:Int))
 | some (.sl ..),.val _ (.ns _) o=>κ (.val 2 (.int .i64) (af (bM o []):Int))
 | some .str,.val _ .str s=>κ (.val 2 (.int .i64) (af s:Int))
 | some (.sl ..),.nilv=>κ (.val 2 (.int .i64) (0:Int))
 | some (.sl ..),.view b=>match H b with
  | .seq _ _ xs=>κ (.val 2 (.int .i64) (xs.length:Int))
  | _=>none
 | some (.sl ..),.part b _ n=>match H b with
  | .seq _ _ _=>κ (.val 2 (.int .i64) (n:Int))
  | _=>none
 | _,_=>none
def V7 (H:Nat->Blk) (fz:Nat) (ts:Tys) (x:AV):Option (Nat×List (Tup ts)):=vz H fz (.sl ts) x
def yK (n bytes:Nat):Bool:=decide (n*bytes<=140737488351232)
def I0:Ty->Bool
 | .sl _ | .ns _ | .ar _ _=>false
 | _=>true
def Ju:Tys->Bool
 | .one t=>I0 t
 | .cons t ts=>cond (I0 t) (Ju ts) false
def tgT (ts:Tys) (k:Nat):Nat:=cond (Ju ts) 2 k
def WS (H:Nat->Blk) (Z:Nat->Bool) (fz:Nat) (id:Nat) (ts:Tys) (bytes:Nat) (s x:AV) (κ:K R):Option R :=
 (V7 H fz ts x).bind fun y=>match s with
 | .nilv=>cond (yK y.2.length bytes) (κ (.view id) ⟨[(id,.seq (tgT ts y.1) ts y.2)],[]⟩) none
 | .view b=>match H b with
  | .seq g us xs=>(W4 us ts xs).bind fun xs=>cond (yK (xs.length+y.2.length) bytes) (κ (.view id) ⟨[(b,.dead),(id,.seq (jn g (tgT ts y.1)) ts (xs++y.2))],cond (Z b) [id] []⟩) none
  | _=>none
 | .part b 0 n=>match H b with
  | .seq g us xs=>cond (Z b) none ((W4 us ts xs).bind fun xs=>cond (yK (n+y.2.length) bytes) (κ (.view id) ⟨[(b,.dead),(id,.seq (jn g (tgT ts y.1)) ts (xs.take n++y.2))],[]⟩) none)
  | _=>none
 | _=>none
def Ei (n:Int):Bool:=decide (0<n)
def QU (id:Nat) (ts:Tys) (bytes:Nat) (s x:AV) (κ:K R):Option R:=match s,x with
 | .nilv,.val _ (.int _) n=>cond (Ei n) (cond (yK (bc n) bytes) (κ (.view id) ⟨[(id,.seq 2 ts (ax (bc n) (qb ts)))],[]⟩) none) none
 | _,_=>none
inductive Con where
 | gen (f:{R:Type}->(base:Nat)->(fz:Nat)->List AV->(Nat->Blk)->(Nat->Bool)->K R->Option R)
abbrev Ctx:=FuncId->Option Con
def EV (Γ:Ctx) (H:Nat->Blk) (Z:Nat->Bool) (fz id:Nat) (f:FuncId) (as:List AV) (κ:K R):Option R :=
 match Γ f with
 | some (.gen g)=>g id fz as H Z κ
 | none=>none
def evs (gl:Gl) (φ:Nat->AV) (xs:Array Operand):List AV:=xs.toList.map (ev gl φ)
def Fj (off:Nat->Option (Nat×Nat)):List AV->List (Nat×AV)->Option (List AV)
 | cs,[]=>some cs
 | cs,(i,v)::r=>match off i with
  | none=>none
  | some p=>cond (kT v&&aA p.2 (tY v.cells)) ((setCells cs p.1 v.cells).bind fun ds=>Fj off ds r) none
def JG (tb:Tb) (t:TypeId) (ps:List (Nat×AV)) (κ:AV->Option R):Option R :=
 match tb t with
 | some (.st fs n)=>(zeroCells tb 5 t).bind fun z=>cond (aA (tY z) n) ((Fj (fun i=>(fs[i]?).bind fun f=>(tb f.1).bind fun ud=>some (f.2,ud.size)) z ps).bind fun cs=>κ (.agg cs)) none
 | some (.fa _ k n)=>(zeroCells tb 5 t).bind fun z=>cond (aA (tY z) (n*k)) ((Fj (fun i=>cond (dC i n) (some (i*k,k)) none) z ps).bind fun cs=>κ (.agg cs)) none
 | some (.arr _ ts n)=>cond ps.isEmpty (κ (.val 2 (.ar ts n) (ax n (qb ts)))) none
 | _=>none
def VH (H:Nat->Blk) (fz:Nat) (ts:Tys):List (List AV)->Option (Nat×List (Tup ts))
 | []=>some (2,[])
 | cs::r=>(Iy H fz ts cs).bind fun x=>(VH H fz ts r).bind fun y=>some (jn x.1 y.1,x.2::y.2)
def Ph:Nat->List (Nat×AV)->Option (List AV)
 | _,[]=>some []
 | k,(i,v)::r=>cond (aA i k) ((Ph (k+1) r).bind fun vs=>some (v::vs)) none
def sM (tb:Tb) (H:Nat->Blk) (fz id:Nat) (t:TypeId) (len:Nat) (ps:List (Nat×AV)) (κ:K R):Option R :=
 match tb t with
 | some (.sl _ ts _)=>(Ph 0 ps).bind fun vs=>cond (aA vs.length len&&ci (len*ts.size) 16777216&&vs.all kT) ((VH H fz ts (vs.map AV.cells)).bind fun y =>
   κ (.view id) ⟨[(id,.seq y.1 ts y.2)],yJ (vs.flatMap AV.cells)⟩) none
 | _=>none
def B6 (tb:Tb) (H:Nat->Blk) (fz:Nat) (src dst:TypeId) (x:AV) (κ:AV->Option R):Option R :=
 match tb src,tb dst,x with
 | some (.int _),some (.int k),.val _ (.int _) n=>κ (.val 2 (.int k) (k.wrap n))
 | some (.int _),some .fl,.val _ (.int _) n=>κ (.val 2 .fl (FloatKind.f64.nearest n))
 | some .fl,some (.int k),.val _ .fl b=>(floatToIntVal .f64 b k).bind fun n=>κ (.val 2 (.int k) n)
 | some .str,some .str,.val _ .str s=>κ (.val 2 .str s)
 | some (.sl e _ _),some .str,x=>match tb e with
  | some (.int .u8)=>(V7 H fz (.one (.int .u8)) x).bind fun y=>κ (.val 2 .str (List.map (fun n:Int=>UInt8.ofNat n.toNat) y.2))
  | _=>none
 | _,_,_=>none
def Sj (Γ:Ctx) (d:Option Tmp):Bool:=match d with
 | some d=>(Γ (1000000+d)).isSome
 | none=>false
def opE (tb:Tb) (gl:Gl) (Γ:Ctx) (fz id:Nat) (H:Nat->Blk) (Z:Nat->Bool) (φ:Nat->AV) (o:Oper) (κ:K R):Option R :=
 let e:=ev gl φ
 match o.op with
 | .move x | .assign x=>quiet κ (e x)
 | .pick c a b=>match e c with
  | .val _ .bool t=>quiet κ (cond t (e a) (e b))
  | _=>none
 | .alloc t=>match tb t with
  | some (.arr _ ts n)=>κ (.sptr id 0 0) ⟨[(id,.seq 2 ts (ax n (qb ts)))],[]⟩
  | _=>(zeroCells tb 5 t).bind fun cs=>κ (.ptr id 0) ⟨[(id,.cells cs)],[]⟩
 | .box t x=>match tb t with
  | some (.arr _ _ _)=>match e x with
   | .val g (.ar us _) xs=>κ (.sptr id 0 0) ⟨[(id,.seq g us xs)],[]⟩
   | _=>none
  | _=>cond (kT (e x)) (κ (.ptr id 0) ⟨[(id,.cells (e x).cells)],[]⟩) none
 | .build t ps=>JG tb t (ps.toList.map fun p=>(p.1,e p.2)) (quiet κ)
 | .buildSlice t n ps=>sM tb H fz id t n (ps.toList.map fun p=>(p.1,e p.2)) κ
 | .load t a=>XL tb H t (e a) (quiet κ)
 | .store t a v=>GM tb H Z fz t (e a) (e v) κ
 | .nilCheck x=>xl H (e x) (quiet κ)
 | .binOp op t x y _=>zbe tb H op t (e x) (e y) (quiet κ)
 | .unOp op _ x=>unE op (e x) (quiet κ)
 | .convert src dst x=>B6 tb H fz src dst (e x) (quiet κ)
 | .makeFunc (.func f) first cs=>cond first.isEmpty (quiet κ (.clo f (cs.toList.map e))) none
 | .makeSlice t l c=>match tb t,e l,e c with
  | some (.sl _ ts bytes),.val _ (.int _) n,.val _ (.int _) m=>cond (eqI n m) (cond (Pv n) (cond (yK (bc n) bytes) (κ (.view id) ⟨[(id,.seq 2 ts (ax (bc n) (qb ts)))],[]⟩) none) none) none
  | _,_,_=>none
 | .slice t x lo hi mx=>cond (Sj Γ o.dst) (Ve tb H Z id t (e x) (lo.map e) (hi.map e) (mx.map e) κ) (K5 tb H t (e x) (lo.map e) (hi.map e) (mx.map e) (quiet κ))
 | .fieldAddr s x f=>sJ tb H s (e x) f (quiet κ)
 | .field s x f=>KD tb s (e x) f (quiet κ)
 | .indexAddr t x i=>sF tb H t (e x) (e i) (quiet κ)
 | .index t x i=>KW tb t (e x) (e i) (quiet κ)
 | .extract x i=>match e x with
  | .tup vs=>match vs[i]? with
   | some v=>quiet κ v
   | none=>none
  | _=>none
 | .call c=>match c.callee with
  | .value f=>match e f with
   | .clo g caps=>EV Γ H Z fz id g (evs gl φ c.args++caps) κ
   | _=>none
  | .builtin .len=>match c.args[0]?,c.argTypes[0]? with
   | some x,some t=>zb2 tb H t (e x) (quiet κ)
   | _,_=>none
  | .builtin .real=>match c.args.toList with
   | [x]=>match e x with
    | .val _ .cx z=>quiet κ (.val 2 .fl z.1)
    | _=>none
   | _=>none
  | .builtin .imag=>match c.args.toList with
   | [x]=>match e x with
    | .val _ .cx z=>quiet κ (.val 2 .fl z.2)
    | _=>none
   | _=>none
  | .builtin .complex=>match c.args.toList with
   | [x,y]=>match e x,e y with
    | .val _ .fl a,.val _ .fl b=>quiet κ (.val 2 .cx (a,b))
    | _,_=>none
   | _=>none
  | .builtin .max=>match c.args.toList with
   | [x,y]=>match e x,e y with
    | .val _ .fl a,.val _ .fl b=>(zcv a b).bind fun r=>quiet κ (.val 2 .fl r)
    | .val _ (.int k) a,.val _ (.int _) b=>quiet κ (.val 2 (.int k) (DF a b))
    | _,_=>none
   | _=>none
  | .builtin .min=>match c.args.toList with
   | [x,y]=>match e x,e y with
    | .val _ (.int k) a,.val _ (.int _) b=>quiet κ (.val 2 (.int k) (D3 a b))
    | _,_=>none
   | _=>none
  | .builtin .append=>match c.args[0]?,c.args[1]?,c.argTypes[0]?,c.argTypes[1]? with
   | some s,some x,some t,some u=>match tb t,tb u with
    | some (.sl _ ts bytes),some (.sl ..)=>WS H Z fz id ts bytes (e s) (e x) κ
    | some (.sl _ ts bytes),some (.int _)=>QU id ts bytes (e s) (e x) κ
    | _,_=>none
   | _,_,_,_=>none
  | .builtin .clear=>match c.args[0]?,c.argTypes[0]? with
   | some x,some t=>Gx tb H Z t (e x) κ
   | _,_=>none
  | .builtin .cap=>match c.args[0]?,c.argTypes[0]? with
   | some x,some t=>match e x,tb t with
    | .nilv,some (.sl ..)=>quiet κ (.val 2 (.int .i64) (0:Int))
    | _,_=>none
   | _,_=>none
  | _=>none
 | _=>none
def ze3 (ops:List Oper) (i:Nat):Bool:=ops.any fun o=>match o.guard with
 | some g=>aA g.1 i
 | none=>false
def qQ (H:Nat->Blk) (ws:List (Nat×Blk)):Nat->Blk:=ws.foldl (fun h p=>upd h p.1 p.2) H
def wu (Z:Nat->Bool) (zs:List Nat):Nat->Bool:=zs.foldl (fun z b=>upd z b true) Z
def St.put (st:St) (dst:Option Tmp) (v:AV) (e:Eff):St :=
 {st with φ:=(match dst with | some d=>upd st.φ d v | none=>st.φ),H:=qQ st.H e.ws,Z:=wu st.Z e.zs }
def LZ (g:Bool) (v:AV) (κ:AV->Option R):Option R :=
 match g,v with
 | true,.val t .bool b=>cond b (κ (.val t .bool true)) (κ (.val t .bool false))
 | _,v=>κ v
def zbf (b:Bool):Bool->Bool
 | true=>b
 | false => !b
def zbS (ops:List Oper) (φ:Nat->AV) (o:Oper) (yes no:Option R):Option R :=
 match o.guard with
 | none=>yes
 | some g=>match (ops[g.1]?).bind (·.dst) with
  | some d=>match φ d with
   | .val _ .bool b=>cond (zbf b g.2) yes no
   | .tup []=>no
   | _=>none
  | none=>none
structure Env where
 tb:Tb
 gl:Gl
 Γ:Ctx
 fz:Nat
 n:Nat
def Ji (n:Nat) (o:Oper):Bool:=match o.dst with
 | some d=>dC d n
 | none=>true
def Rr (V:Env) (ops:List Oper) (hv:Nat->Blk) (i:Nat) (st:St) (o:Oper) (chk:Eff->Bool) (κ:St->Option R):Option R :=
 zbS ops st.φ o
  (opE V.tb V.gl V.Γ V.fz (st.nx+8*i) hv st.Z st.φ o fun v e=>cond (chk e) (LZ (ze3 ops i) v fun v=>κ (st.put o.dst v e)) none)
  (κ (st.put o.dst (.tup []) ⟨[],[]⟩))
def zcX (V:Env) (ops:List Oper):List Oper->Nat->St->(St->Option R)->Option R
 | [],_,st,κ=>κ st
 | o::r,i,st,κ=>cond (Ji V.n o) (Rr V ops st.H i st o (fun _=>true) fun st'=>zcX V ops r (i+1) st' κ) none
def Je (Γ:Ctx) (_gl:Gl) (o:Oper):Bool:=match o.op with
 | .store .. => true
 | .slice .. => Sj Γ o.dst
 | .call c=>match c.callee with
  | .builtin .append=>true
  | .builtin .clear=>true
  | .builtin _=>false
  | .value (.func _) => !c.args.toList.isEmpty
  | _=>true
 | _=>false
def mine (nx i b:Nat):Bool := !(dC b nx)&&aA ((b - nx) / 8) i
def zgI (nx d b:Nat):Bool:=cond (dC b nx) true (Nat.testBit d ((b - nx) / 8))
def okV (hl:List (List Nat)) (bs:List Nat) (nx i b:Nat):Bool:=zgI nx (bs.getD i 0) b && !((hl.getD i []).any (aA b))
def hvE (hl:List (List Nat)) (bs:List Nat) (nx i:Nat) (H:Nat->Blk):Nat->Blk:=fun b=>cond (okV hl bs nx i b) (H b) .dead
def ur (bs:List Nat) (i j:Nat):Bool:=(bs.getD j 0).testBit i||(bs.getD i 0).testBit j
def N4 (hl:List (List Nat)) (bs:List Nat) (ops:List Oper) (Γ:Ctx) (gl:Gl) (nx i:Nat) (e:Eff):Bool :=
 (e.ws.all fun p=>mine nx i p.1||(okV hl bs nx i p.1 &&
  ((aL ops.length).all fun j=>aA j i||ur bs i j||(!(okV hl bs nx j p.1) && !(mine nx j p.1))))) &&
 (e.zs.isEmpty||ops.zipIdx.all fun q=>aA q.2 i||ur bs i q.2 || !(Je Γ gl q.1))
def Bf (V:Env) (ops:List Oper) (bs:List Nat):Bool :=
 (ops.zipIdx.all fun q=>q.1.after.toList.all fun e => !Region.binds .any e||dC e.on q.2) &&
 (ops.zipIdx.all fun q=>aA (bs.getD q.2 0) (q.1.after.toList.foldl (fun s e=>cond (Region.binds .any e) (s ||| 2 ^ e.on ||| bs.getD e.on 0) s) 0)) &&
 (ops.zipIdx.all fun q=>ops.zipIdx.all fun p=>cond (dC p.2 q.2) (ur bs p.2 q.2||(Oper.apart ops.toArray p.1 q.1 && !(Je V.Γ V.gl p.1&&Je V.Γ V.gl q.1))) true)
def zdA (V:Env) (hl:List (List Nat)) (ops:List Oper) (bs:List Nat):List Oper->Nat->St->(St->Option R)->Option R
 | [],_,st,κ=>κ st
 | o::r,i,st,κ=>cond (Ji V.n o) (Rr V ops (hvE hl bs st.nx i st.H) i st o (N4 hl bs ops V.Γ V.gl st.nx i) fun st'=>zdA V hl ops bs r (i+1) st' κ) none
inductive XE where
 | normal
 | exit (id:Nat)
 | goto (l:Nat)
 | ret
structure Un where
 f:{R:Type}->St->(XE->St->Option R)->Option R
inductive AC where
 | run
 | seq (a b:AC)
 | cond (a b:AC)
 | block (a:AC)
 | unit (u:Un)
 | hide (hl:List (List Nat))
def AC.one:AC->AC
 | .seq a _ | .cond a _ | .block a=>a
 | c=>c
def AC.two:AC->AC
 | .seq _ b | .cond _ b=>b
 | c=>c
def AC.hides:AC->List (List Nat)
 | .hide hl=>hl
 | _=>[]
def E (V:Env):Code->AC->St->(XE->St->Option R)->Option R
 | _c,.unit u,st,κ=>u.f st κ
 | .skip,_,st,κ=>κ .normal st
 | .label _,_,st,κ=>κ .normal st
 | .region _ ops false,_,st,κ=>zcX V ops.toList ops.toList 0 st fun st'=>κ .normal { st' with nx:=st.nx+8*ops.size }
 | .region _ ops true,ac,st,κ =>
  let bs:=(Region.before ops).toList
  cond (Bf V ops.toList bs) (zdA V ac.hides ops.toList bs ops.toList 0 st fun st'=>κ .normal { st' with nx:=st.nx+8*ops.size }) none
 | .seq a b,ac,st,κ=>E V a ac.one st fun e st'=>match e with
  | .normal=>E V b ac.two st' κ
  | e=>κ e st'
 | .cond c a b,ac,st,κ=>match ev V.gl st.φ c with
  | .val _ .bool t=>cond t (E V a ac.one st κ) (E V b ac.two st κ)
  | _=>none
 | .block id c,ac,st,κ=>E V c ac.one st fun e st'=>match e with
  | .exit i=>cond (aA i id) (κ .normal st') (κ (.exit i) st')
  | e=>κ e st'
 | .exit id,_,st,κ=>κ (.exit id) st
 | .goto l,_,st,κ=>κ (.goto l) st
 | .ret,_,st,κ=>κ .ret st
 | _,_,_,_=>none
end
abbrev Mem:=Nat->Nat->Option Value
def mem (w:World):Mem:=fun b o=>w.cell? ⟨b,o,none⟩
abbrev Reg:=Nat->Nat->Prop
def Elems {α:Type} (xs:List α) (P:Nat->α->Prop):Prop:=∀(i:Nat) (x:α),xs[i]? = some x->P i x
mutual
def RE (c:Mem) (A:Reg):(t:Ty)->El t->Value->Prop
 | .int k,x,v=>v = .int k x
 | .bool,x,v=>v = .bool x
 | .str,x,v=>v = .string ⟨gW x⟩
 | .cx,x,v=>v = .complex .f64 x.1 x.2
 | .fl,x,v=>v = .float .f64 x
 | .ar _ _,_,_=>False
 | .sl ts,xs,v=>∃ a cap,v = .slice a (af xs) cap∧((af xs<=cap∧cap<=9223372036854775807)∧(a=none->cap=0))∧(xs=([]:List (Tup ts))∨∃ b o,a=some ⟨b,o,none⟩ ∧
   Elems (α:=Tup ts) xs fun i x=>RC c A A ts x b (o+i*ts.size))
 | .ns ts,x,v=>match (x:Option (List (Tup ts))) with
  | none=>v = .slice none 0 0
  | some xs=>∃ a cap,v = .slice (some a) (af xs) cap∧(af xs<=cap∧cap<=9223372036854775807)∧(xs=[]∨(a.spot=none ∧
   Elems xs fun i x=>RC c A A ts x a.block (a.off+i*ts.size)))
def RC (c:Mem) (A T:Reg):(ts:Tys)->Tup ts->Nat->Nat->Prop
 | .one t,x,b,o=>T b o∧∃ u,c b o=some u∧RE c A t x u
 | .cons t ts,x,b,o=>(T b o∧∃ u,c b o=some u∧RE c A t x.1 u)∧RC c A T ts x.2 b (o+1)
end
def RV (c:Mem) (A:Reg):(ts:Tys)->Tup ts->List Value->Prop
 | .one t,x,vs=>∃ v,vs=[v]∧RE c A t x v
 | .cons t ts,x,vs=>∃ v us,vs=v::us∧RE c A t x.1 v∧RV c A ts x.2 us
def SV (c:Mem) (A:Reg) (ts:Tys) (xs:List (Tup ts)) (cells:List Value):Prop :=
 cells.length=xs.length*ts.size∧Elems xs fun i x=>RV c A ts x ((cells.drop (i*ts.size)).take ts.size)
def RVal (c:Mem) (A:Reg):(t:Ty)->El t->Value->Prop
 | .ar ts n,xs,v=>af xs=n∧∃ vs,v = .agg vs∧SV c A ts xs vs.toList
 | .int k,x,v=>RE c A (.int k) x v
 | .bool,x,v=>RE c A .bool x v
 | .str,x,v=>RE c A .str x v
 | .cx,x,v=>RE c A .cx x v
 | .fl,x,v=>RE c A .fl x v
 | .sl ts,x,v=>RE c A (.sl ts) x v
 | .ns ts,x,v=>RE c A (.ns ts) x v
theorem RVal.flat {c:Mem} {A:Reg} {t:Ty} {x:El t} {v:Value} (h:t.flat=true):RVal c A t x v↔RE c A t x v:=by
 cases t<;>first | exact Iff.rfl | cases h
theorem RVal.of {c:Mem} {A:Reg} {t:Ty} {x:El t} {v:Value} (h:RE c A t x v):RVal c A t x v:=by
 cases t<;>first | exact h | exact h.elim
structure Gh where
 S:Nat->Reg
 loc:Nat->Option Nat
def RView (c:Mem) (g:Gh) (b:Nat) (v:Value):Blk->Prop
 | .seq _ ts xs=>∃ a cap,v = .slice a xs.length cap∧(xs.length<=cap∧cap<=9223372036854775807)∧(cap=0∨∃ r,g.loc b=some r∧a=some ⟨r,0,none⟩ ∧
   ∀ j,j<cap*ts.size->(c r j).isSome)
 | _=>True
def RPart (c:Mem) (g:Gh) (b o n:Nat) (v:Value):Blk->Prop
 | .seq _ ts xs=>o+n<=xs.length∧∃ a cap,v = .slice a n cap∧(n<=cap∧cap<=9223372036854775807∧xs.length<=o+cap)∧(cap=0∨∃ r,g.loc b=some r∧a=some ⟨r,o*ts.size,none⟩ ∧
   xs.length<=o+cap∧∀ j,j<(o+cap)*ts.size->(c r j).isSome)
 | _=>True
def RSptr (g:Gh) (b i f:Nat) (v:Value):Blk->Prop
 | .seq _ ts _=>∃ r,g.loc b=some r∧v = .pointer (some ⟨r,i*ts.size+f,none⟩)
 | _=>True
def RPtr (g:Gh) (b o:Nat) (v:Value):Blk->Prop
 | .cells _=>∃ r,g.loc b=some r∧v = .pointer (some ⟨r,o,none⟩)
 | _=>True
mutual
def RAV (c:Mem) (g:Gh) (H:Nat->Blk) (U:Nat->Prop):AV->Value->Prop
 | .unk,_=>True
 | .val k t x,v=>RVal c (g.S k) t x v
 | .agg cs,v=>∃ vs,v = .agg vs∧RF c g H U cs vs.toList
 | .tup cs,v=>∃ vs,v = .tuple vs∧RL c g H U cs vs.toList
 | .nilv,v=>v = .slice none 0 0
 | .view b,v=>U b∧v.oneCell'=true∧RView c g b v (H b)
 | .part b o n,v=>U b∧v.oneCell'=true∧RPart c g b o n v (H b)
 | .ptr b o,v=>U b∧v.oneCell'=true∧RPtr g b o v (H b)
 | .cptr b o k sz f,v=>U b∧v.oneCell'=true∧RPtr g b (o+k*sz+f) v (H b)
 | .sptr b i f,v=>U b∧v.oneCell'=true∧RSptr g b i f v (H b)
 | .eptr k ts x f,v=>∃ b o,v = .pointer (some ⟨b,o+f,none⟩)∧RC c (g.S k) (g.S k) ts x b o
 | .clo f cs,v=>∃ vs,v = .func (.func f) #[] vs∧RL c g H U cs vs.toList
def RL (c:Mem) (g:Gh) (H:Nat->Blk) (U:Nat->Prop):List AV->List Value->Prop
 | [],vs=>vs=[]
 | a::as,vs=>∃ v us,vs=v::us∧RAV c g H U a v∧RL c g H U as us
def RF (c:Mem) (g:Gh) (H:Nat->Blk) (U:Nat->Prop):List AV->List Value->Prop
 | [],vs=>vs=[]
 | a::as,vs=>∃ v us ws,vs=us++ws∧RAV c g H U a v∧us=cond a.isAr v.cells.toList [v]∧RF c g H U as ws
end
def SameKind:Blk->Blk->Prop
 | .cells _,.cells _=>True
 | .seq _ ts xs,.seq _ us ys=>ts=us∧xs.length=ys.length
 | _,_=>False
structure Mono (c:Mem) (g:Gh) (H:Nat->Blk) (U:Nat->Prop) (c':Mem) (g':Gh) (H':Nat->Blk) (U':Nat->Prop):Prop where
 hS:∀ k b o,g.S k b o->g'.S k b o∧c' b o=c b o
 hU:∀ b,U b->U' b
 hH:∀ b,U b->H' b = .dead∨(SameKind (H b) (H' b)∧g'.loc b=g.loc b∧∀ r,g.loc b=some r->∀ j,(c r j).isSome->(c' r j).isSome)
mutual
theorem RE.mono {c c':Mem} {A A':Reg} (h:∀ b o,A b o->A' b o∧c' b o=c b o):(t:Ty)->(x:El t)->(v:Value)->RE c A t x v->RE c' A' t x v
 | .int _,_,_,hr=>hr
 | .bool,_,_,hr=>hr
 | .str,_,_,hr=>hr
 | .cx,_,_,hr=>hr
 | .fl,_,_,hr=>hr
 | .ar _ _,_,_,hr=>hr
 | .sl ts,xs,v,hr=>by
  simp only[RE] at hr ⊢;obtain⟨a,cap,rfl,hcap,hx⟩:=hr;refine ⟨a,cap,rfl,hcap,hx.imp id ?_⟩;rintro⟨b,o,rfl,hi⟩;exact ⟨b,o,rfl,fun i x hx=>RC.mono h (fun b o hb=>(h b o hb)) ts x b _ (hi i x hx)⟩
 | .ns ts,x,v,hr=>by
  cases x with
  | none=>exact hr
  | some xs =>
   simp only[RE] at hr ⊢;obtain⟨a,cap,rfl,hcap,hx⟩:=hr;refine ⟨a,cap,rfl,hcap,hx.imp id ?_⟩;rintro⟨hs,hi⟩;exact ⟨hs,fun i x hx=>RC.mono h (fun b o hb=>(h b o hb)) ts x _ _ (hi i x hx)⟩
theorem RC.mono {c c':Mem} {A A' T T':Reg} (h:∀ b o,A b o->A' b o∧c' b o=c b o) (hT:∀ b o,T b o->T' b o∧c' b o=c b o) :
  (ts:Tys)->(x:Tup ts)->(b o:Nat)->RC c A T ts x b o->RC c' A' T' ts x b o
 | .one t,x,b,o,hr=>by
  simp only[RC] at hr ⊢;obtain⟨ht,u,hu,he⟩:=hr;exact ⟨(hT b o ht).1,u,by rw[(hT b o ht).2,hu],RE.mono h t x u he⟩
 | .cons t ts,x,b,o,hr=>by
  simp only[RC] at hr ⊢;obtain⟨⟨ht,u,hu,he⟩,hr⟩:=hr;exact ⟨⟨(hT b o ht).1,u,by rw[(hT b o ht).2,hu],RE.mono h t x.1 u he⟩,RC.mono h hT ts x.2 b (o+1) hr⟩
end
theorem RC.monoAt {c c':Mem} {A A' T T':Reg} (h:∀ b o,A b o->A' b o∧c' b o=c b o) :
  (ts:Tys)->(x:Tup ts)->(b o:Nat)->(∀ j,j<ts.size->T b (o+j)->T' b (o+j)∧c' b (o+j)=c b (o+j))->RC c A T ts x b o->RC c' A' T' ts x b o
 | .one t,x,b,o,hT,hr=>by
  simp only[RC] at hr ⊢;obtain⟨ht,u,hu,he⟩:=hr;have:=hT 0 (by simp [Tys.size]) ht
  exact ⟨this.1,u,this.2.trans hu,RE.mono h t x u he⟩
 | .cons t ts,x,b,o,hT,hr=>by
  simp only[RC] at hr ⊢;obtain⟨⟨ht,u,hu,he⟩,hr⟩:=hr;have:=hT 0 (by simp [Tys.size]) ht
  refine ⟨⟨this.1,u,this.2.trans hu,RE.mono h t x.1 u he⟩,RC.monoAt h ts x.2 b (o+1) (fun j hj ht => ?_) hr⟩;have:=hT (j+1) (by simp only[Tys.size]; omega) (by rw[show o+(j+1)=o+1+j from by omega]; exact ht)
  rwa [show o+(j+1)=o+1+j from by omega] at this
theorem RView.mono {c c':Mem} {g g':Gh} {b:Nat} {v:Value} {k k':Blk}
  (h:k' = .dead∨(SameKind k k'∧g'.loc b=g.loc b∧∀ r,g.loc b=some r->∀ j,(c r j).isSome->(c' r j).isSome)) (hr:RView c g b v k):RView c' g' b v k':=by
 rcases h with rfl | ⟨hk,hl,hc⟩
 ·trivial
 ·cases k<;>cases k'<;>simp only[SameKind,RView] at hk hr ⊢
  obtain⟨rfl,hn⟩:=hk;obtain⟨a,cap,rfl,hcap,hx⟩:=hr;refine ⟨a,cap,by rw[hn],hn▸hcap,hx.imp id ?_⟩
  rintro⟨r,h1,h2,h3⟩;exact ⟨r,hl.trans h1,h2,fun j hj=>hc r h1 j (h3 j hj)⟩
theorem RPart.mono {c c':Mem} {g g':Gh} {b o n:Nat} {v:Value} {k k':Blk}
  (h:k' = .dead∨(SameKind k k'∧g'.loc b=g.loc b∧∀ r,g.loc b=some r->∀ j,(c r j).isSome->(c' r j).isSome)) (hr:RPart c g b o n v k):RPart c' g' b o n v k':=by
 rcases h with rfl | ⟨hk,hl,hc⟩
 ·trivial
 ·cases k<;>cases k'<;>simp only[SameKind,RPart] at hk hr ⊢
  obtain⟨rfl,hn⟩:=hk;obtain⟨hlen,a,cap,rfl,hcap,hx⟩:=hr;refine ⟨hn▸hlen,a,cap,rfl,hn▸hcap,hx.imp id ?_⟩;rintro⟨r,h1,h2,h4,h3⟩;exact ⟨r,hl.trans h1,h2,hn▸h4,fun j hj=>hc r h1 j (h3 j hj)⟩
theorem RSptr.mono {c c':Mem} {g g':Gh} {b i f:Nat} {v:Value} {k k':Blk}
  (h:k' = .dead∨(SameKind k k'∧g'.loc b=g.loc b∧∀ r,g.loc b=some r->∀ j,(c r j).isSome->(c' r j).isSome)) (hr:RSptr g b i f v k):RSptr g' b i f v k':=by
 rcases h with rfl | ⟨hk,hl,-⟩
 ·trivial
 ·cases k<;>cases k'<;>simp only[SameKind,RSptr] at hk hr ⊢
  obtain⟨rfl,-⟩:=hk;obtain⟨r,h1,h2⟩:=hr;exact ⟨r,hl.trans h1,h2⟩
theorem RPtr.mono {c c':Mem} {g g':Gh} {b o:Nat} {v:Value} {k k':Blk}
  (h:k' = .dead∨(SameKind k k'∧g'.loc b=g.loc b∧∀ r,g.loc b=some r->∀ j,(c r j).isSome->(c' r j).isSome)) (hr:RPtr g b o v k):RPtr g' b o v k':=by
 rcases h with rfl | ⟨hk,hl,-⟩
 ·trivial
 ·cases k<;>cases k'<;>simp only[SameKind,RPtr] at hk hr ⊢
  obtain⟨r,h1,h2⟩:=hr;exact ⟨r,hl.trans h1,h2⟩
theorem RV.mono {c c':Mem} {A A':Reg} (h:∀ b o,A b o->A' b o∧c' b o=c b o):(ts:Tys)->{x:Tup ts}->{vs:List Value}->RV c A ts x vs->RV c' A' ts x vs
 | .one t,x,vs,hr=>by simp only[RV] at hr ⊢; obtain⟨u,rfl,hr⟩:=hr; exact ⟨u,rfl,RE.mono h t x u hr⟩
 | .cons t ts,x,vs,hr=>by simp only[RV] at hr ⊢; obtain⟨u,us,rfl,hr,h2⟩:=hr; exact ⟨u,us,rfl,RE.mono h t x.1 u hr,RV.mono h ts h2⟩
theorem SV.mono {c c':Mem} {A A':Reg} (h:∀ b o,A b o->A' b o∧c' b o=c b o) {ts:Tys} {xs:List (Tup ts)} {cs:List Value} (hs:SV c A ts xs cs):SV c' A' ts xs cs :=
 ⟨hs.1,fun i x hx=>RV.mono h ts (hs.2 i x hx)⟩
theorem RVal.mono {c c':Mem} {A A':Reg} (h:∀ b o,A b o->A' b o∧c' b o=c b o) (t:Ty) (x:El t) (v:Value) (hr:RVal c A t x v):RVal c' A' t x v:=by
 cases t with
 | ar ts n=>obtain⟨h1,vs,h2,h3⟩:=hr; exact ⟨h1,vs,h2,h3.mono h⟩
 | _=>exact RE.mono h _ x v hr
mutual
theorem RAV.mono {c c':Mem} {g g':Gh} {H H':Nat->Blk} {U U':Nat->Prop} (m:Mono c g H U c' g' H' U'):(a:AV)->(v:Value)->RAV c g H U a v->RAV c' g' H' U' a v
 | .unk,_,_=>trivial
 | .val k t x,v,h=>RVal.mono (m.hS k) t x v h
 | .agg cs,v,h=>by
  simp only[RAV] at h ⊢;obtain⟨vs,rfl,hl⟩:=h;exact ⟨vs,rfl,RF.mono m cs _ hl⟩
 | .tup cs,v,h=>by
  simp only[RAV] at h ⊢;obtain⟨vs,rfl,hl⟩:=h;exact ⟨vs,rfl,RL.mono m cs _ hl⟩
 | .nilv,_,h=>h
 | .view b,v,h=>by
  simp only[RAV] at h ⊢;exact ⟨m.hU b h.1,h.2.1,RView.mono (m.hH b h.1) h.2.2⟩
 | .part b o n,v,h=>by
  simp only[RAV] at h ⊢;exact ⟨m.hU b h.1,h.2.1,RPart.mono (m.hH b h.1) h.2.2⟩
 | .ptr b o,v,h=>by
  simp only[RAV] at h ⊢;exact ⟨m.hU b h.1,h.2.1,RPtr.mono (m.hH b h.1) h.2.2⟩
 | .cptr b o k sz f,v,h=>by
  simp only[RAV] at h ⊢;exact ⟨m.hU b h.1,h.2.1,RPtr.mono (m.hH b h.1) h.2.2⟩
 | .sptr b i f,v,h=>by
  simp only[RAV] at h ⊢;exact ⟨m.hU b h.1,h.2.1,RSptr.mono (m.hH b h.1) h.2.2⟩
 | .eptr k ts x f,v,h=>by
  simp only[RAV] at h ⊢;obtain⟨b,o,rfl,hr⟩:=h;exact ⟨b,o,rfl,RC.mono (m.hS k) (m.hS k) ts x b o hr⟩
 | .clo f cs,v,h=>by
  simp only[RAV] at h ⊢;obtain⟨vs,rfl,hl⟩:=h;exact ⟨vs,rfl,RL.mono m cs _ hl⟩
theorem RL.mono {c c':Mem} {g g':Gh} {H H':Nat->Blk} {U U':Nat->Prop} (m:Mono c g H U c' g' H' U'):(as:List AV)->(vs:List Value)->RL c g H U as vs->RL c' g' H' U' as vs
 | [],_,h=>h
 | a::as,vs,h=>by
  simp only[RL] at h ⊢;obtain⟨v,us,rfl,h1,h2⟩:=h;exact ⟨v,us,rfl,RAV.mono m a v h1,RL.mono m as us h2⟩
theorem RF.mono {c c':Mem} {g g':Gh} {H H':Nat->Blk} {U U':Nat->Prop} (m:Mono c g H U c' g' H' U'):(as:List AV)->(vs:List Value)->RF c g H U as vs->RF c' g' H' U' as vs
 | [],_,h=>h
 | a::as,vs,h=>by
  simp only[RF] at h ⊢;obtain⟨v,us,ws,h0,h1,h2,h3⟩:=h;exact ⟨v,us,ws,h0,RAV.mono m a v h1,h2,RF.mono m as ws h3⟩
end
theorem SameKind.refl_or (k:Blk):k = .dead∨SameKind k k:=by
 cases k<;>simp [SameKind]
theorem Mono.refl (c:Mem) (g:Gh) (H:Nat->Blk) (U:Nat->Prop):Mono c g H U c g H U :=
 ⟨fun _ _ _ h=>⟨h,rfl⟩,fun _ h=>h,fun b _=>(SameKind.refl_or (H b)).imp id fun h=>⟨h,rfl,fun _ _ _ h=>h⟩⟩
theorem SameKind.trans {a b c:Blk} (h:SameKind a b) (h':SameKind b c):SameKind a c:=by
 cases a<;>cases b<;>cases c<;>simp_all [SameKind]
theorem Mono.trans {c c' c'':Mem} {g g' g'':Gh} {H H' H'':Nat->Blk} {U U' U'':Nat->Prop} (m:Mono c g H U c' g' H' U') (m':Mono c' g' H' U' c'' g'' H'' U''):Mono c g H U c'' g'' H'' U'':=by
 refine ⟨fun k b o h => ?_,fun b h=>m'.hU b (m.hU b h),fun b h => ?_⟩
 ·have h1:=m.hS k b o h;have h2:=m'.hS k b o h1.1;exact ⟨h2.1,h2.2.trans h1.2⟩
 ·rcases m'.hH b (m.hU b h) with h2 | ⟨k2,l2,c2⟩
  ·exact .inl h2
  ·rcases m.hH b h with h1 | ⟨k1,l1,c1⟩
   ·rw[h1] at k2;cases hd:H'' b<;>simp [SameKind] at k2 ⊢
   ·exact .inr ⟨k1.trans k2,l2.trans l1,fun r hr j hj=>c2 r (l1.trans hr) j (c1 r hr j hj)⟩
structure Fx where
 P:Program
 gl:Gl
 w0:World
 Keep:Nat->Prop
 N:Nat->Prop
 D:Nat
 O:Nat->Prop
 A:Reg
 hN:∀ b,D<=b->N b
 keepLt:∀ k,Keep k->k<w0.heap.size
def RBlk (w:World) (g:Gh) (H:Nat->Blk) (U:Nat->Prop) (b:Nat):Blk->Prop
 | .dead=>True
 | .cells cs=>∃ r c e,g.loc b=some r∧w.heap[r]? = some (.cells c e (0,0))∧RF (mem w) g H U cs c.toList
 | .seq k ts xs=>(g.loc b=none∧xs=[])∨∃ r c e,g.loc b=some r∧w.heap[r]? = some (.cells c e (0,0))∧xs.length*ts.size<=c.size ∧
   Elems xs fun i x=>RC (mem w) (g.S k) (fun _ _=>True) ts x r (i*ts.size)
structure MemOk (X:Fx) (g:Gh) (H:Nat->Blk) (Z:Nat->Bool) (U:Nat->Prop) (w:World):Prop where
 blk:∀ b,RBlk w g H U b (H b)
 used:∀ b,H b ≠ .dead->U b
 inj:∀ b b' r,H b ≠ .dead->H b' ≠ .dead->g.loc b=some r->g.loc b'=some r->b=b'
 acc:∀ k b o,g.S k b o->(mem w b o).isSome
 sep:∀ k r o x,g.S k r o->H x ≠ .dead->g.loc x=some r->Z x=true∧∃ q ts xs,H x = .seq q ts xs∧o<xs.length*ts.size
 up0:∀ k b o,g.S k b o->g.S 0 b o
 up2:∀ k b o,2<=k->g.S k b o->g.S 2 b o
 dn:∀ b o,g.S 0 b o->X.A b o∨X.D<=b∨X.O b
 fr:∀ b o,g.S 2 b o->X.N b
 nf:∀ b o,g.S 0 b o->(X.N b∨X.O b)->w.frozen? ⟨b,o,none⟩=false
 keep:∀ k,X.Keep k->w.heap[k]? = X.w0.heap[k]?
 mine:∀ x r,H x ≠ .dead->g.loc x=some r->X.Keep r->Z x=true∧(H x).isCells=true
 own:∀ x r,H x ≠ .dead->g.loc x=some r->X.D<=r∨X.O r∨(Z x=true∧(H x).isCells=true)
 os:w.os=X.w0.os
 tape:w.tape=X.w0.tape
 output:w.output=X.w0.output
 size:X.w0.heap.size<=w.heap.size
 bnd:X.D<=w.heap.size
 glob:∀ q x,X.gl q=some x->RC (mem w) (g.S 1) (g.S 1) x.1 x.2 q 0
 grow:∀ r j,(mem X.w0 r j).isSome->(mem w r j).isSome
def RFr (w:World) (g:Gh) (H:Nat->Blk) (U:Nat->Prop) (φ:Nat->AV) (tmps:Array Value):Prop :=
 ∀ t,RAV (mem w) g H U (φ t) (tmps.getD t undef)
theorem RFr.mono {w w':World} {g g':Gh} {H H':Nat->Blk} {U U':Nat->Prop} {φ:Nat->AV} {tmps:Array Value} (m:Mono (mem w) g H U (mem w') g' H' U')
  (h:RFr w g H U φ tmps):RFr w' g' H' U' φ tmps:=fun t=>RAV.mono m _ _ (h t)
theorem RFr.put {w:World} {g:Gh} {H:Nat->Blk} {U:Nat->Prop} {φ:Nat->AV} {tmps:Array Value} (h:RFr w g H U φ tmps) {d:Nat} (hd:d<tmps.size) {a:AV} {v:Value}
  (hv:RAV (mem w) g H U a v):RFr w g H U (upd φ d a) (tmps.setIfInBounds d v):=by
 intro t;by_cases ht:t=d
 ·subst ht;rw[zx];simpa[bg,hd] using hv
 ·rw[xV _ _ ht];have:=h t;simpa[bg,Array.getElem?_setIfInBounds_ne (Ne.symm ht)] using this
theorem RL.length {c:Mem} {g:Gh} {H:Nat->Blk} {U:Nat->Prop}:{as:List AV}->{vs:List Value}->RL c g H U as vs->as.length=vs.length
 | [],_,h=>by simp only[RL] at h; subst h; rfl
 | a::as,vs,h=>by
  simp only[RL] at h;obtain⟨v,us,rfl,-,h2⟩:=h;simp [RL.length h2]
theorem RL.get {c:Mem} {g:Gh} {H:Nat->Blk} {U:Nat->Prop}:{as:List AV}->{vs:List Value}->RL c g H U as vs->∀{i:Nat} {a:AV},as[i]? = some a->∃ v,vs[i]? = some v∧RAV c g H U a v
 | [],_,_,i,a,ha=>by simp at ha
 | b::as,vs,h,i,a,ha=>by
  simp only[RL] at h;obtain⟨v,us,rfl,h1,h2⟩:=h;cases i with
  | zero=>simp at ha; subst ha; exact ⟨v,rfl,h1⟩
  | succ i=>simp at ha; simpa using RL.get h2 ha
theorem AV.isAr_iff {a:AV}:a.isAr=true↔∃ k ts n xs,a = .val k (.ar ts n) xs:=by
 unfold AV.isAr;split
 ·exact ⟨fun _=>⟨_,_,_,_,rfl⟩,fun _=>rfl⟩
 ·rename_i h; simp only[eh,false_iff]; rintro⟨k,ts,n,xs,rfl⟩; exact h _ _ _ _ rfl
theorem AV.width_one {a:AV} (h:a.isAr=false):a.width=1:=by
 unfold AV.width;split
 ·cases h
 ·rfl
theorem Ip {c:Mem} {g:Gh} {H:Nat->Blk} {U:Nat->Prop} {a:AV} {v:Value} {us:List Value} (h:RAV c g H U a v) (hu:us=cond a.isAr v.cells.toList [v]):us.length=a.width:=by
 cases ha:a.isAr with
 | false=>rw[ha] at hu; subst hu; rw[AV.width_one ha]; rfl
 | true =>
  obtain⟨k,ts,n,xs,rfl⟩:=AV.isAr_iff.1 ha;rw[ha] at hu; subst hu;obtain⟨h1,vs,rfl,h2⟩:=h;show vs.toList.length=n*ts.size;rw[h2.1,h1]
theorem RF.length {c:Mem} {g:Gh} {H:Nat->Blk} {U:Nat->Prop}:{as:List AV}->{vs:List Value}->RF c g H U as vs->tY as=vs.length
 | [],_,h=>by simp only[RF] at h; subst h; rfl
 | a::as,vs,h=>by
  simp only[RF] at h;obtain⟨v,us,ws,rfl,h1,h2,h3⟩:=h;rw[am,← RF.length h3,Ip h1 h2];rfl
theorem RF.append {c:Mem} {g:Gh} {H:Nat->Blk} {U:Nat->Prop}:{as:List AV}->{vs:List Value}->{bs:List AV}->{us:List Value}->RF c g H U as vs->RF c g H U bs us->RF c g H U (as++bs) (vs++us)
 | [],_,_,_,h,h'=>by simp only[RF] at h; subst h; exact h'
 | a::as,vs,bs,us,h,h'=>by
  simp only[RF] at h;obtain⟨v,ps,ws,rfl,h1,h2,h3⟩:=h;exact ⟨v,ps,ws++us,by rw[aW],h1,h2,RF.append h3 h'⟩
theorem RF.split {c:Mem} {g:Gh} {H:Nat->Blk} {U:Nat->Prop}:{as:List AV}->{vs:List Value}->{o:Nat}->{p:List AV×List AV}->RF c g H U as vs->jC as o=some p ->
  as=p.1++p.2∧tY p.1=o∧o<=vs.length∧RF c g H U p.1 (vs.take o)∧RF c g H U p.2 (vs.drop o)
 | [],vs,o,p,h,hs=>by
  simp only[jC] at hs;cases ho:aA o 0 with
  | false=>rw[ho] at hs; cases hs
  | true =>
   rw[ho] at hs;injection hs with hs;subst hs;have:=au ho;subst this;exact ⟨rfl,rfl,bN _,by simp [RF],by simpa using h⟩
 | a::as,vs,o,p,h,hs=>by
  simp only[jC] at hs;cases ho:aA o 0 with
  | true =>
   rw[ho] at hs;injection hs with hs;subst hs;have:=au ho;subst this;exact ⟨rfl,rfl,bN _,by simp [RF],by simpa using h⟩
  | false =>
   rw[ho,cond_false] at hs;cases hw:ci a.width o with
   | false=>rw[hw] at hs; cases hs
   | true =>
    rw[hw,cond_true] at hs;obtain⟨q,hq,hs⟩:=ah.1 hs;injection hs with hs;subst hs;simp only[RF] at h;obtain⟨v,us,ws,rfl,h1,h2,h3⟩:=h;have hle:=Nat.le_of_ble_eq_true hw;have hl:=Ip h1 h2;obtain⟨e1,e2,e3,e4,e5⟩:=RF.split h3 hq;refine ⟨by rw[e1]; rfl,by show a.width+tY q.1=o; omega,by rw[am]; omega,?_,?_⟩
    ·rw[eA,di (by omega),hl]
     exact ⟨v,us,_,rfl,h1,h2,e4⟩
    ·rw[dT,cE (by omega),bl,hl]
     exact e5
theorem RF.at {c:Mem} {g:Gh} {H:Nat->Blk} {U:Nat->Prop} {as:List AV} {vs:List Value} {o:Nat} {a:AV} (h:RF c g H U as vs) (ha:IT as o=some a) :
  ∃ v,RAV c g H U a v∧o+a.width<=vs.length∧(vs.drop o).take a.width=cond a.isAr v.cells.toList [v]:=by
 unfold IT at ha;obtain⟨p,hp,ha⟩:=ah.1 ha;obtain⟨-,-,h3,-,h5⟩:=h.split hp;cases hq:p.2 with
 | nil=>rw[hq] at ha; cases ha
 | cons b bs =>
  rw[hq] at ha h5;injection ha with ha;subst ha;simp only[RF] at h5;obtain⟨v,us,ws,h0,h1,h2,-⟩:=h5;have hl:=Ip h1 h2;have:=congrArg af h0;rw[am,bq] at this;refine ⟨v,h1,by omega,?_⟩
  rw[h0,eA,di (by omega),hl,ep,gI,bO,h2]
theorem RF.single {c:Mem} {g:Gh} {H:Nat->Blk} {U:Nat->Prop} {a:AV} {v:Value} (h:RAV c g H U a v) (ha:a.isAr=false):RF c g H U [a] [v] :=
 ⟨v,[v],[],rfl,h,by rw[ha]; rfl,rfl⟩
theorem RL.append {c:Mem} {g:Gh} {H:Nat->Blk} {U:Nat->Prop}:{as:List AV}->{vs:List Value}->{bs:List AV}->{us:List Value}->RL c g H U as vs->RL c g H U bs us->RL c g H U (as++bs) (vs++us)
 | [],_,_,_,h,h'=>by simp only[RL] at h; subst h; exact h'
 | a::as,vs,bs,us,h,h'=>by
  simp only[RL] at h;obtain⟨v,ws,rfl,h1,h2⟩:=h;exact ⟨v,ws++us,rfl,h1,RL.append h2 h'⟩
theorem RL.take {c:Mem} {g:Gh} {H:Nat->Blk} {U:Nat->Prop}:{as:List AV}->{vs:List Value}->RL c g H U as vs->∀ n,RL c g H U (as.take n) (vs.take n)
 | [],_,h,n=>by simp only[RL] at h; subst h; simp [RL]
 | a::as,vs,h,0=>by simp [RL]
 | a::as,vs,h,n+1=>by
  simp only[RL] at h;obtain⟨v,ws,rfl,h1,h2⟩:=h;exact ⟨v,_,rfl,h1,RL.take h2 n⟩
theorem RL.drop {c:Mem} {g:Gh} {H:Nat->Blk} {U:Nat->Prop}:{as:List AV}->{vs:List Value}->RL c g H U as vs->∀ n,RL c g H U (as.drop n) (vs.drop n)
 | [],_,h,n=>by simp only[RL] at h; subst h; simp [RL]
 | a::as,vs,h,0=>by simpa using h
 | a::as,vs,h,n+1=>by
  simp only[RL] at h;obtain⟨v,ws,rfl,h1,h2⟩:=h;simpa using RL.drop h2 n
theorem yM {t u:Ty} {x:El t} {y:El u} (h:Zz t u x=some y):∃ e:t=u,e▸x=y:=by
 unfold Zz at h;split at h
 ·rename_i e _; exact ⟨e,fG h⟩
 ·cases h
theorem vp {ts us:Tys} {xs:List (Tup ts)} {ys:List (Tup us)} (h:W4 ts us xs=some ys):∃ e:ts=us,e▸xs=ys:=by
 obtain⟨e,he⟩:=yM h;injection e with e;subst e;exact ⟨rfl,he⟩
theorem Va {α:Type} {xs ys:List α} (h:nn xs=some ys):xs=ys∧xs≠[]:=by
 cases xs with
 | nil=>simp [nn] at h
 | cons x xs=>simp [nn] at h; exact ⟨h,by simp⟩
def Le (q k:Nat):Prop:=q=k∨k=0∨(k=2∧2<=q)
theorem Le.refl (k:Nat):Le k k:=.inl rfl
theorem Ze (g h:Nat):Le g (jn g h):=by
 unfold jn Le;cases h1:aA g h
 ·cases h2:ci 2 g
  ·simp
  ·cases h3:ci 2 h
   ·simp
   ·simp at h2; simp; omega
 ·simp
theorem jM (g h:Nat):Le h (jn g h):=by
 unfold jn Le;cases h1:aA g h
 ·cases h2:ci 2 g
  ·simp
  ·cases h3:ci 2 h
   ·simp
   ·simp at h3; simp; omega
 ·simp at h1; simp [h1]
theorem Le.trans {a b c:Nat} (h:Le a b) (h':Le b c):Le a c:=by
 unfold Le at *; omega
theorem MemOk.le {X:Fx} {g:Gh} {H:Nat->Blk} {Z:Nat->Bool} {U:Nat->Prop} {w:World} (m:MemOk X g H Z U w) {q k:Nat} (h:Le q k) {b o:Nat} (hs:g.S q b o):g.S k b o:=by
 rcases h with rfl | rfl | ⟨rfl,h2⟩
 ·exact hs
 ·exact m.up0 _ _ _ hs
 ·exact m.up2 _ _ _ h2 hs
mutual
theorem RE.oneCell {c:Mem} {A:Reg}:(t:Ty)->(x:El t)->(v:Value)->RE c A t x v->v.oneCell'=true
 | .int _,_,_,h=>by simp only[RE] at h; subst h; rfl
 | .bool,_,_,h=>by simp only[RE] at h; subst h; rfl
 | .str,_,_,h=>by simp only[RE] at h; subst h; rfl
 | .cx,_,_,h=>by simp only[RE] at h; subst h; rfl
 | .fl,_,_,h=>by simp only[RE] at h; subst h; rfl
 | .ar _ _,_,_,h=>by simp only[RE] at h
 | .sl _,_,_,h=>by simp only[RE] at h; obtain⟨_,_,rfl,_⟩:=h; rfl
 | .ns _,x,_,h=>by
  cases x with
  | none=>simp only[RE] at h; subst h; rfl
  | some _=>simp only[RE] at h; obtain⟨_,_,rfl,_⟩:=h; rfl
end
theorem RC.move {c c':Mem} {A A' T T':Reg} (h:∀ b o,A b o->A' b o∧c' b o=c b o) :
  (ts:Tys)->(x:Tup ts)->(b o b' o':Nat)->(∀ j,j<ts.size->T b (o+j)->T' b' (o'+j)∧c' b' (o'+j)=c b (o+j))->RC c A T ts x b o->RC c' A' T' ts x b' o'
 | .one t,x,b,o,b',o',hT,hr=>by
  simp only[RC] at hr ⊢;obtain⟨ht,u,hu,he⟩:=hr;have:=hT 0 (by simp [Tys.size]) ht
  exact ⟨this.1,u,this.2.trans hu,RE.mono h t x u he⟩
 | .cons t ts,x,b,o,b',o',hT,hr=>by
  simp only[RC] at hr ⊢;obtain⟨⟨ht,u,hu,he⟩,hr⟩:=hr;have:=hT 0 (by simp [Tys.size]) ht
  refine ⟨⟨this.1,u,this.2.trans hu,RE.mono h t x.1 u he⟩,RC.move h ts x.2 b (o+1) b' (o'+1) (fun j hj ht => ?_) hr⟩;have:=hT (j+1) (by simp only[Tys.size]; omega) (by rw[show o+(j+1)=o+1+j from by omega]; exact ht)
  rwa [show o+(j+1)=o+1+j from by omega,show o'+(j+1)=o'+1+j from by omega] at this
theorem RC.cell {c:Mem} {A T:Reg}:(ts:Tys)->(x:Tup ts)->(b o:Nat)->RC c A T ts x b o->∀ j,j<ts.size->T b (o+j)∧∃ u,c b (o+j)=some u∧u.oneCell'=true
 | .one t,x,b,o,hr,j,hj=>by
  simp only[RC] at hr;obtain⟨ht,u,hu,he⟩:=hr;have:j=0:=by simp [Tys.size] at hj; exact hj
  subst this;exact ⟨ht,u,hu,RE.oneCell t x u he⟩
 | .cons t ts,x,b,o,hr,j,hj=>by
  simp only[RC] at hr;obtain⟨⟨ht,u,hu,he⟩,hr⟩:=hr;cases j with
  | zero=>exact ⟨ht,u,hu,RE.oneCell t x.1 u he⟩
  | succ j =>
   have:=RC.cell ts x.2 b (o+1) hr j (by simp only[Tys.size] at hj; omega)
   rwa [show o+1+j=o+(j+1) from by omega] at this
theorem Tys.size_pos:(ts:Tys)->0<ts.size
 | .one _=>by simp [Tys.size]
 | .cons _ ts=>by simp [Tys.size]
theorem mem_lt {w:World} {b o:Nat} (h:(mem w b o).isSome):b<w.heap.size:=by
 rcases bG b w.heap.size with h' | h'
 ·exact h'
 ·simp [mem,gv,er h'] at h
theorem zE {w w':World} {b:Nat} (h:w'.heap[b]? = w.heap[b]?) (o:Nat):mem w' b o=mem w b o:=by
 simp [mem,gv,h]
theorem zB {w:World} {r:Nat} {c:Array Value} {e:TypeId} {fz:Nat×Nat} (h:w.heap[r]? = some (.cells c e fz)) (o:Nat):mem w r o=c[o]? := by
 simp [mem,gv,h]
theorem Fs {c:Mem} {A T:Reg} {ts:Tys} {xs:List (Tup ts)} {b o:Nat} (h:Elems xs fun i x=>RC c A T ts x b (o+i*ts.size)) {j:Nat} (hj:j<xs.length*ts.size) :
  T b (o+j)∧∃ u,c b (o+j)=some u∧u.oneCell'=true:=by
 have hp:=ts.size_pos;have hi:j / ts.size<xs.length:=(fI hp).2 hj;have:=RC.cell ts _ b _ (h (j / ts.size) xs[j / ts.size] (al hi)) (j % ts.size) (fZ _ hp);rwa [show o+j / ts.size*ts.size+j % ts.size=o+j from by rw[bK,gk]] at this
theorem Elems.imp {α:Type} {xs:List α} {P Q:Nat->α->Prop} (h:Elems xs P) (hi:∀ i x,i<xs.length->P i x->Q i x):Elems xs Q:=fun i x hx =>
 hi i x (by rcases bG i xs.length with h' | h'; exact h'; simp [aQ h'] at hx) (h i x hx)
theorem Elems.nil {α:Type} {P:Nat->α->Prop}:Elems ([]:List α) P:=fun i x h=>by simp at h
theorem Elems.take {α:Type} {xs:List α} {P:Nat->α->Prop} (h:Elems xs P) (n:Nat):Elems (xs.take n) P:=fun i x hx=>by
 rw[bz] at hx;split at hx
 ·exact h i x hx
 ·cases hx
theorem Elems.drop {α:Type} {xs:List α} {P:Nat->α->Prop} (h:Elems xs P) (n:Nat):Elems (xs.drop n) fun i x=>P (n+i) x:=fun i x hx=>by
 rw[bu] at hx;exact h _ x hx
theorem Elems.append {α:Type} {xs ys:List α} {P:Nat->α->Prop} (h:Elems xs P) (h':Elems ys fun i x=>P (xs.length+i) x):Elems (xs++ys) P:=fun i x hx=>by
 rcases bG i xs.length with hi | hi
 ·rw[bP hi] at hx; exact h i x hx
 ·rw[bI hi] at hx;have:=h' _ x hx;dsimp only at this;rwa [show xs.length+(i - xs.length)=i from by omega] at this
theorem Elems.set {α:Type} {xs:List α} {P:Nat->α->Prop} (h:Elems xs P) {k:Nat} {y:α} (hy:k<xs.length->P k y):Elems (xs.set k y) P:=fun i x hx=>by
 by_cases hk:k=i
 ·subst hk;rcases bG k xs.length with h' | h'
  ·simp [h'] at hx; subst hx; exact hy h'
  ·simp [h'] at hx
 ·rw[cq hk] at hx; exact h i x hx
structure ShowIn (g:Gh) (H:Nat->Blk) (A:Reg) (bs:List Nat):Prop where
 h:∀ b,b∈bs->∀ q ts xs r,H b = .seq q ts xs->g.loc b=some r->∀ o,o<xs.length*ts.size->A r o
theorem ShowIn.sub {g:Gh} {H:Nat->Blk} {A:Reg} {bs cs:List Nat} (h:ShowIn g H A bs) (hs:∀ b,b∈cs->b∈bs):ShowIn g H A cs:=⟨fun b hb=>h.h b (hs b hb)⟩
theorem Q6 {c:Mem} {A:Reg} {g k:Nat} {ts:Tys} {xs:List (Tup ts)} {t:Ty} {x:El t} (h:VV g ts xs t=some (k,x)) {v:Value}
  (hr:RE c A (.sl ts) xs v):k=g∧RE c A t x v:=by
 cases t with
 | sl us =>
  simp only[VV,ah,aq] at h;obtain⟨y,hy,rfl,rfl⟩:=h;obtain⟨e,rfl⟩:=vp hy;subst e;exact ⟨rfl,hr⟩
 | ns us =>
  simp only[VV,ah,aq] at h;obtain⟨y,hy,z,hz,rfl,rfl⟩:=h;obtain⟨e,rfl⟩:=vp hy;subst e;obtain⟨rfl,hne⟩:=Va hz;refine ⟨rfl,?_⟩;simp only[RE] at hr ⊢;obtain⟨a,cap,rfl,hcap,hx⟩:=hr;rcases hx with hx | ⟨b,o,rfl,hi⟩
  ·exact absurd hx hne
  ·exact ⟨⟨b,o,none⟩,cap,rfl,hcap.1,.inr ⟨rfl,hi⟩⟩
 | int _=>simp [VV] at h
 | bool=>simp [VV] at h
 | str=>simp [VV] at h
 | cx=>simp [VV] at h
 | fl=>simp [VV] at h
 | ar _ _=>simp [VV] at h
theorem RVal.weak {c:Mem} {A A':Reg} (h:∀ b o,A b o->A' b o) {t:Ty} {x:El t} {v:Value} (hr:RVal c A t x v):RVal c A' t x v :=
 RVal.mono (fun b o hb=>⟨h b o hb,rfl⟩) t x v hr
theorem RE.weak {c:Mem} {A A':Reg} (h:∀ b o,A b o->A' b o) {t:Ty} {x:El t} {v:Value} (hr:RE c A t x v):RE c A' t x v :=
 RE.mono (fun b o hb=>⟨h b o hb,rfl⟩) t x v hr
theorem zaD {w:World} {g:Gh} {H:Nat->Blk} {U:Nat->Prop} {b q:Nat} {ts:Tys} {xs:List (Tup ts)} {v:Value} {A:Reg} (hb:RBlk w g H U b (.seq q ts xs))
  (hv:RView (mem w) g b v (.seq q ts xs)) (hS:∀ b o,g.S q b o->A b o) (hA:∀ r,g.loc b=some r->∀ o,o<xs.length*ts.size->A r o):RE (mem w) A (.sl ts) xs v:=by
 simp only[RView] at hv;obtain⟨a,cap,rfl,hcap,hx⟩:=hv;simp only[RE];refine ⟨a,cap,rfl,⟨hcap,fun ha=>by
  rcases hx with h | ⟨r,-,h,-⟩
  ·exact h
  ·rw[ha] at h; cases h⟩,?_⟩
 rcases hx with rfl | ⟨r,hr,rfl,-⟩
 ·exact .inl (ba (by omega))
 ·simp only[RBlk] at hb;rcases hb with ⟨hn,-⟩ | ⟨r',c,e,hr',hw,hle,hi⟩
  ·rw[hr] at hn; cases hn
  ·rw[hr] at hr'; injection hr' with hr'; subst hr';refine .inr ⟨r,0,rfl,hi.imp fun i x hlt hx => ?_⟩;refine RC.move (fun b o hb=>⟨hS b o hb,rfl⟩) ts x r _ r _ (fun j hj _=>⟨hA r hr _ ?_,by simp⟩) hx
   have:i*ts.size+j<xs.length*ts.size:=by
    have:(i+1)*ts.size<=xs.length*ts.size:=aS _ hlt;rw[bf] at this; omega
   omega
theorem zaN {w:World} {g:Gh} {H:Nat->Blk} {U:Nat->Prop} {b q o n:Nat} {ts:Tys} {xs:List (Tup ts)} {v:Value} {A:Reg} (hb:RBlk w g H U b (.seq q ts xs))
  (hv:RPart (mem w) g b o n v (.seq q ts xs)) (hS:∀ b o,g.S q b o->A b o) (hA:∀ r,g.loc b=some r->∀ o,o<xs.length*ts.size->A r o):RE (mem w) A (.sl ts) ((xs.drop o).take n) v:=by
 simp only[RPart] at hv;obtain⟨hon,a,cap,rfl,hcap,hx⟩:=hv;simp only[RE];have hl:((xs.drop o).take n).length=n:=by simp; omega
 refine ⟨a,cap,by rw[hl],⟨by rw[hl]; exact ⟨hcap.1,hcap.2.1⟩,fun ha=>by
  rcases hx with h | ⟨r,-,h,-⟩
  ·exact h
  ·rw[ha] at h; cases h⟩,?_⟩
 rcases hx with rfl | ⟨r,hr,rfl,-,-⟩
 ·exact .inl (ba (by omega))
 ·simp only[RBlk] at hb;rcases hb with ⟨hn,-⟩ | ⟨r',c,e,hr',hw,hle,hi⟩
  ·rw[hr] at hn; cases hn
  ·rw[hr] at hr'; injection hr' with hr'; subst hr';refine .inr ⟨r,o*ts.size,rfl,((hi.drop o).take n).imp fun i x hlt hx => ?_⟩;rw[hl] at hlt;refine RC.move (fun b o hb=>⟨hS b o hb,rfl⟩) ts x r _ r _ (fun j hj _=>⟨hA r hr _ ?_,by rw[bf]⟩) hx
   have:(o+i+1)*ts.size<=xs.length*ts.size:=aS _ (by omega)
   rw[bf,bf] at this; omega
theorem WV {w:World} {g:Gh} {H hv:Nat->Blk} {U:Nat->Prop} {fz k:Nat} {t:Ty} {av:AV} {x:El t} {v:Value} (A:Reg) (h:vz hv fz t av=some (k,x))
  (hh:∀ b,hv b = .dead∨hv b=H b) (hb:∀ b,RBlk w g H U b (H b)) (hr:RAV (mem w) g H U av v) (hS:∀ q,Le q k->∀ b o,g.S q b o->A b o) (hA:ShowIn g H A av.shows):RVal (mem w) A t x v:=by
 cases av with
 | val q u y =>
  cases u with
  | sl ts =>
   simp only[vz] at h;simp only[RAV,RVal] at hr;have:=Q6 h hr;exact RVal.of (RE.weak (hS q (this.1▸Le.refl _)) this.2)
  | ns ts =>
   simp only[RAV,RVal] at hr;cases t with
   | sl us =>
    simp only[vz,ah,aq] at h;obtain⟨y',hy,rfl,rfl⟩:=h;obtain⟨e,rfl⟩:=vp hy;subst e;refine RE.weak (hS k (Le.refl _)) ?_;cases y with
    | none=>simp only[RE] at hr ⊢; subst hr; exact ⟨none,0,rfl,⟨⟨aC _,bN _⟩,fun _=>rfl⟩,.inl rfl⟩
    | some ys =>
     simp only[RE] at hr ⊢;obtain⟨a,cap,rfl,hcap,hx⟩:=hr;obtain⟨b,o,s⟩:=a;refine ⟨some ⟨b,o,s⟩,cap,rfl,⟨hcap,fun h=>by cases h⟩,hx.imp id ?_⟩
     rintro⟨hs,hi⟩;dsimp only at hs;subst hs;exact ⟨b,o,rfl,hi⟩
   | ns us =>
    simp only[vz,ah,aq,aM] at h;obtain⟨y',hy,rfl,rfl⟩:=h;obtain⟨e,rfl⟩:=yM hy;injection e with e;subst e;exact RE.weak (hS q (Le.refl _)) hr
   | int _=>simp [vz] at h
   | bool=>simp [vz] at h
   | str=>simp [vz] at h
   | cx=>simp [vz] at h
   | fl=>simp [vz] at h
   | ar _ _=>simp [vz] at h
  | int i =>
   simp only[vz,ah,aq,aM] at h;obtain⟨y',hy,-,rfl⟩:=h;obtain⟨e,rfl⟩:=yM hy;subst e;exact hr
  | bool =>
   simp only[vz,ah,aq,aM] at h;obtain⟨y',hy,-,rfl⟩:=h;obtain⟨e,rfl⟩:=yM hy;subst e;exact hr
  | str =>
   simp only[vz,ah,aq,aM] at h;obtain⟨y',hy,-,rfl⟩:=h;obtain⟨e,rfl⟩:=yM hy;subst e;exact hr
  | cx =>
   simp only[vz,ah,aq,aM] at h;obtain⟨y',hy,-,rfl⟩:=h;obtain⟨e,rfl⟩:=yM hy;subst e;exact hr
  | fl =>
   simp only[vz,ah,aq,aM] at h;obtain⟨y',hy,-,rfl⟩:=h;obtain⟨e,rfl⟩:=yM hy;subst e;exact hr
  | ar ts n =>
   simp only[vz,ah,aq,aM] at h;obtain⟨y',hy,rfl,rfl⟩:=h;obtain⟨e,rfl⟩:=yM hy;subst e;exact RVal.weak (hS q (Le.refl _)) hr
 | nilv =>
  simp only[RAV] at hr;subst hr;cases t with
  | sl us=>simp only[vz,aq] at h; obtain⟨-,rfl⟩:=h; exact ⟨none,0,rfl,⟨⟨aC _,bN _⟩,fun _=>rfl⟩,.inl rfl⟩
  | ns us=>simp only[vz,aq] at h; obtain⟨-,rfl⟩:=h; rfl
  | int _=>simp [vz] at h
  | bool=>simp [vz] at h
  | str=>simp [vz] at h
  | cx=>simp [vz] at h
  | fl=>simp [vz] at h
  | ar _ _=>simp [vz] at h
 | view b =>
  simp only[vz] at h;split at h
  ·rename_i q ts xs hx;have hx':H b = .seq q ts xs:=by rcases hh b with h' | h'<;>rw[hx] at h'; cases h'; exact h'.symm
   simp only[RAV,hx'] at hr;have hb':=hb b;rw[hx'] at hb';have hk:=zaD (A:=fun b o=>g.S q b o∨A b o) hb' hr.2.2 (fun b o h=>.inl h) (fun r hr o ho=>.inr (hA.h b (by simp [AV.shows]) q ts xs r hx' hr o ho))
   have:=Q6 h hk;exact RVal.of (RE.weak (fun b o hb=>hb.elim (hS q (this.1▸Ze q fz) b o) id) this.2)
  ·cases h
 | part b o n =>
  simp only[vz] at h;split at h
  ·rename_i q ts xs hx;have hx':H b = .seq q ts xs:=by rcases hh b with h' | h'<;>rw[hx] at h'; cases h'; exact h'.symm
   simp only[RAV,hx'] at hr;have hb':=hb b;rw[hx'] at hb';have hk:=zaN (A:=fun b o=>g.S q b o∨A b o) hb' hr.2.2 (fun b o h=>.inl h) (fun r hr o ho=>.inr (hA.h b (by simp [AV.shows]) q ts xs r hx' hr o ho))
   have:=Q6 h hk;exact RVal.of (RE.weak (fun b o hb=>hb.elim (hS q (this.1▸Ze q fz) b o) id) this.2)
  ·cases h
 | unk=>simp [vz] at h
 | agg _=>simp [vz] at h
 | tup _=>simp [vz] at h
 | ptr _ _=>simp [vz] at h
 | cptr _ _ _ _ _=>simp [vz] at h
 | sptr _ _ _=>simp [vz] at h
 | eptr _ _ _ _=>simp [vz] at h
 | clo _ _=>simp [vz] at h
theorem W6 {hv:Nat->Blk} {fz:Nat} {t:Ty} {av:AV} {p:Nat×El t} (h:QH hv fz t av=some p):t.flat=true∧vz hv fz t av=some p:=by
 unfold QH at h;cases ht:t.flat with
 | false=>rw[ht] at h; cases h
 | true=>rw[ht] at h; exact ⟨rfl,h⟩
theorem uN {b:Nat} {a:AV} {as:List AV} (ha:a∈as) (hb:b∈a.shows):b∈yJ as:=cY.2 ⟨a,ha,hb⟩
theorem uz (w:World) (o:Obj) {j:Nat} (h:j<w.heap.size):(w.alloc o).heap[j]? = w.heap[j]? := by
 show (w.heap.push o)[j]? = w.heap[j]?;rw[Array.getElem?_push,if_neg (Nat.ne_of_lt h)]
theorem jg (w:World) (o:Obj):(w.alloc o).heap[w.heap.size]? = some o:=by
 show (w.heap.push o)[w.heap.size]? = some o;simp
theorem vM {w w':World} {b:Nat} (h:w'.heap[b]? = w.heap[b]?) (o:Nat):w'.frozen? ⟨b,o,none⟩=w.frozen? ⟨b,o,none⟩:=by
 simp only[d8,h]
theorem Jv {w:World} {b:Nat} {c:Array Value} {e:TypeId} (h:w.heap[b]? = some (.cells c e (0,0))) (o:Nat):w.frozen? ⟨b,o,none⟩=false:=by
 simp [d8,h]
def UI (U:Nat->Prop) (id:Nat):Nat->Prop:=fun b=>U b∨(id<=b∧b<id+8)
theorem RBlk.mono {w w':World} {g g':Gh} {H H':Nat->Blk} {U U':Nat->Prop} {b:Nat} {k:Blk} (m:Mono (mem w) g H U (mem w') g' H' U')
  (hl:g'.loc b=g.loc b) (hh:∀ r,g.loc b=some r->w'.heap[r]? = w.heap[r]?) (h:RBlk w g H U b k):RBlk w' g' H' U' b k:=by
 cases k with
 | dead=>trivial
 | cells cs =>
  simp only[RBlk] at h ⊢;obtain⟨r,c,e,h1,h2,h3⟩:=h;exact ⟨r,c,e,hl.trans h1,(hh r h1).trans h2,RF.mono m _ _ h3⟩
 | seq q ts xs =>
  simp only[RBlk] at h ⊢;rcases h with ⟨h1,h2⟩ | ⟨r,c,e,h1,h2,h3,h4⟩
  ·exact .inl ⟨hl.trans h1,h2⟩
  ·refine .inr ⟨r,c,e,hl.trans h1,(hh r h1).trans h2,h3,h4.imp fun i x _ hx => ?_⟩;exact RC.monoAt (m.hS q) ts x r _ (fun j _ _=>⟨trivial,zE (hh r h1) _⟩) hx
theorem MemOk.sNot {X:Fx} {g:Gh} {H:Nat->Blk} {Z:Nat->Bool} {U:Nat->Prop} {w:World} (m:MemOk X g H Z U w) {k r o x:Nat} (hs:g.S k r o) (hx:H x ≠ .dead) (hl:g.loc x=some r) (hz:Z x=false):False:=by
 have:=(m.sep k r o x hs hx hl).1;rw[hz] at this; cases this
theorem MemOk.locLt {X:Fx} {g:Gh} {H:Nat->Blk} {Z:Nat->Bool} {U:Nat->Prop} {w:World} (m:MemOk X g H Z U w) {x r:Nat} (hx:H x ≠ .dead) (hl:g.loc x=some r):r<w.heap.size:=by
 have:=m.blk x;cases h:H x with
 | dead=>exact absurd h hx
 | cells cs =>
  rw[h] at this;simp only[RBlk] at this;obtain⟨r',c,e,h1,h2,-⟩:=this;rw[hl] at h1; injection h1 with h1; subst h1;exact (bJ.1 h2).1
 | seq q ts xs =>
  rw[h] at this;simp only[RBlk] at this;rcases this with ⟨h1,-⟩ | ⟨r',c,e,h1,h2,-⟩
  ·rw[hl] at h1; cases h1
  ·rw[hl] at h1; injection h1 with h1; subst h1;exact (bJ.1 h2).1
theorem MemOk.blkFrz {X:Fx} {g:Gh} {H:Nat->Blk} {Z:Nat->Bool} {U:Nat->Prop} {w:World} (m:MemOk X g H Z U w) {x r:Nat} (hx:H x ≠ .dead) (hl:g.loc x=some r) (o:Nat):w.frozen? ⟨r,o,none⟩=false:=by
 have:=m.blk x;cases h:H x with
 | dead=>exact absurd h hx
 | cells cs =>
  rw[h] at this;simp only[RBlk] at this;obtain⟨r',c,e,h1,h2,-⟩:=this;rw[hl] at h1; injection h1 with h1; subst h1;exact Jv h2 o
 | seq q ts xs =>
  rw[h] at this;simp only[RBlk] at this;rcases this with ⟨h1,-⟩ | ⟨r',c,e,h1,h2,-⟩
  ·rw[hl] at h1; cases h1
  ·rw[hl] at h1; injection h1 with h1; subst h1;exact Jv h2 o
theorem MemOk.mem_lt {X:Fx} {g:Gh} {H:Nat->Blk} {Z:Nat->Bool} {U:Nat->Prop} {w:World} (m:MemOk X g H Z U w) {k b o:Nat} (h:g.S k b o):b<w.heap.size:=Abs.mem_lt (m.acc k b o h)
theorem MemOk.used_mono {X:Fx} {g:Gh} {H:Nat->Blk} {Z:Nat->Bool} {U U':Nat->Prop} {w:World} (h:MemOk X g H Z U w) (hu:∀ b,U b->U' b):MemOk X g H Z U' w :=
 {h with
  blk:=fun b=>RBlk.mono ⟨fun _ _ _ h=>⟨h,rfl⟩,hu,fun b _=>(SameKind.refl_or (H b)).imp id fun h=>⟨h,rfl,fun _ _ _ h=>h⟩⟩ rfl (fun _ _=>rfl) (h.blk b)
  used:=fun b hb=>hu b (h.used b hb) }
theorem Mono.used {c:Mem} {g:Gh} {H:Nat->Blk} {U U':Nat->Prop} (hu:∀ b,U b->U' b):Mono c g H U c g H U' :=
 ⟨fun _ _ _ h=>⟨h,rfl⟩,hu,fun b _=>(SameKind.refl_or (H b)).imp id fun h=>⟨h,rfl,fun _ _ _ h=>h⟩⟩
theorem MemOk.world {X:Fx} {g:Gh} {H:Nat->Blk} {Z:Nat->Bool} {U:Nat->Prop} {w w':World} (h:MemOk X g H Z U w) (hh:w'.heap=w.heap) (ho:w'.os=w.os) (ht:w'.tape=w.tape) (hp:w'.output=w.output):MemOk X g H Z U w':=by
 have hm:mem w'=mem w:=by funext b o; exact zE (by rw[hh]) o
 refine { h with blk:=fun b => ?_,acc := ?_,keep:=fun k hk=>(by rw[hh]; exact h.keep k hk),os:=ho.trans h.os,tape:=ht.trans h.tape,output:=hp.trans h.output,size:=(by rw[hh]; exact h.size),bnd:=(by rw[hh]; exact h.bnd),glob:=(by rw[hm]; exact h.glob),grow:=(by rw[hm]; exact h.grow),nf:=fun b o hs hB=>(vM (w:=w) (w':=w') (by rw[hh]) o).trans (h.nf b o hs hB) }
 ·have:=h.blk b;cases hb:H b<;>rw[hb] at this<;>simp only[RBlk,hm,hh] at this ⊢ <;> exact this
 ·rw[hm]; exact h.acc
def Gh.at (g:Gh) (id:Nat) (r:Option Nat):Gh:={ g with loc:=upd g.loc id r }
theorem Mono.alloc {X:Fx} {g:Gh} {H:Nat->Blk} {Z:Nat->Bool} {U:Nat->Prop} {w:World} (h:MemOk X g H Z U w) {id i:Nat} (_hi:id<=i∧i<id+8) (hid:¬ U i) (o:Obj) (k:Blk) (l:Option Nat) :
  Mono (mem w) g H U (mem (w.alloc o)) (g.at i l) (upd H i k) (UI U id):=by
 refine ⟨fun k b o hs=>⟨hs,zE (uz _ _ (h.mem_lt hs)) o⟩,fun b hb=>.inl hb,fun b hb => ?_⟩;have hne:b≠i:=fun e=>hid (e▸hb);rw[xV _ _ hne];rcases SameKind.refl_or (H b) with hd | hd
 ·exact .inl hd
 ·refine .inr ⟨hd,xV _ _ hne,fun r hr j hj => ?_⟩;rw[zE (uz _ _ (Abs.mem_lt hj))];exact hj
theorem MemOk.step {X:Fx} {g:Gh} {H:Nat->Blk} {Z:Nat->Bool} {U:Nat->Prop} {w:World} (h:MemOk X g H Z U w) {w':World} {id i:Nat} (hi:id<=i∧i<id+8) (hid:¬ U i)
  {H':Nat->Blk} {Z':Nat->Bool} {l:Option Nat} (r0:Option Nat)
  (hos:w'.os=w.os) (htape:w'.tape=w.tape) (hout:w'.output=w.output) (hsize:w.heap.size<=w'.heap.size)
  (hrow:∀ j,j<w.heap.size->r0≠some j->w'.heap[j]? = w.heap[j]?)
  (hS:∀ q b o,g.S q b o->mem w' b o=mem w b o)
  (hH:∀ b,b≠i->H' b = .dead∨(H' b=H b∧∀ r,r0=some r->H b ≠ .dead->g.loc b≠some r))
  (hZ:∀ b,b≠i->Z b=true->Z' b=true)
  (hl:∀ r,l=some r->w.heap.size<=r∨r0=some r)
  (hr0:∀ r,r0=some r->∃ b,H b ≠ .dead∧g.loc b=some r∧(H b).isCells=false)
  (hR:RBlk w' (g.at i l) H' (UI U id) i (H' i))
  (hgrow:∀ j,r0=some j->∀ o,(mem w j o).isSome->(mem w' j o).isSome)
  (hsep:∀ q r o,g.S q r o->l=some r->H' i ≠ .dead->Z' i=true∧∃ q ts xs,H' i = .seq q ts xs∧o<xs.length*ts.size)
  (hfz:∀ j,r0=some j->∀ o,w'.frozen? ⟨j,o,none⟩=false) :
  MemOk X (g.at i l) H' Z' (UI U id) w'∧Mono (mem w) g H U (mem w') (g.at i l) H' (UI U id):=by
 have hmono:Mono (mem w) g H U (mem w') (g.at i l) H' (UI U id):=by
  refine ⟨fun q b o hs=>⟨hs,hS q b o hs⟩,fun b hb=>.inl hb,fun b hb => ?_⟩;have hne:b≠i:=fun e=>hid (e▸hb);rcases hH b hne with hd | ⟨he,hr⟩
  ·exact .inl hd
  ·rw[he];rcases SameKind.refl_or (H b) with hd | hd
   ·exact .inl hd
   ·have hlive:H b ≠ .dead:=fun e=>by rw[e] at hd; exact hd
    refine .inr ⟨hd,xV _ _ hne,fun r hl' j hj => ?_⟩;rw[zE (hrow r (h.locLt hlive hl') fun e=>hr r e hlive hl')];exact hj
 refine ⟨?_,hmono⟩;have hat:∀ b,b≠i->(g.at i l).loc b=g.loc b:=fun b hb=>xV _ _ hb;have hati:(g.at i l).loc i=l:=zx _ _ _
 refine { blk:=fun b => ?_,used:=fun b hb => ?_,inj:=fun b b' r hb hb' hl1 hl2 => ?_,acc:=fun q b o hs => ?_,sep:=fun q r o x hs hx hlx => ?_,up0:=h.up0,up2:=h.up2,dn:=h.dn,fr:=h.fr,nf:=fun b o hs hB=>(by
   by_cases he:r0=some b
   ·exact hfz b he o
   ·rw[vM (hrow b (h.mem_lt hs) he)]; exact h.nf b o hs hB),keep:=fun k hk => ?_,mine:=fun x r hx hlx => ?_,own:=fun x r hx hlx => ?_,os:=hos.trans h.os,tape:=htape.trans h.tape,output:=hout.trans h.output,size:=aT h.size hsize,bnd:=aT h.bnd hsize,glob:=fun q x hx => ?_,grow:=fun r j hj=>(by
  have h1:=h.grow r j hj;by_cases he:r0=some r
  ·exact hgrow r he j h1
  ·rw[zE (hrow r (Abs.mem_lt h1) he)]; exact h1) }
 ·by_cases hb:b=i
  ·subst hb; exact hR
  ·rcases hH b hb with hd | ⟨he,hr⟩
   ·rw[hd]; trivial
   ·rw[he];by_cases hlive:H b = .dead
    ·rw[hlive]; trivial
    ·exact RBlk.mono hmono (hat b hb) (fun r hl'=>hrow r (h.locLt hlive hl') fun e=>hr r e hlive hl') (h.blk b)
 ·by_cases hbi:b=i
  ·subst hbi; exact .inr hi
  ·rcases hH b hbi with hd | ⟨he,-⟩
   ·exact absurd hd hb
   ·exact .inl (h.used b (he▸hb))
 ·by_cases h1:b=i
  ·subst h1;by_cases h2:b'=b
   ·exact h2.symm
   ·rw[hati] at hl1;rw[hat b' h2] at hl2;rcases hH b' h2 with hd | ⟨he,hr⟩
    ·exact absurd hd hb'
    ·have hlive:H b' ≠ .dead:=he▸hb';rcases hl r hl1 with hge | he0
     ·have:=h.locLt hlive hl2; omega
     ·exact absurd hl2 (hr r he0 hlive)
  ·rw[hat b h1] at hl1;rcases hH b h1 with hd | ⟨he,hr⟩
   ·exact absurd hd hb
   ·have hlive:H b ≠ .dead:=he▸hb;by_cases h2:b'=i
    ·subst h2;rw[hati] at hl2;rcases hl r hl2 with hge | he0
     ·have:=h.locLt hlive hl1; omega
     ·exact absurd hl1 (hr r he0 hlive)
    ·rw[hat b' h2] at hl2;rcases hH b' h2 with hd | ⟨he',-⟩
     ·exact absurd hd hb'
     ·exact h.inj b b' r hlive (he'▸hb') hl1 hl2
 ·rw[hS q b o hs]; exact h.acc q b o hs
 ·by_cases hxi:x=i
  ·subst hxi; rw[hati] at hlx; exact hsep q r o hs hlx hx
  ·rw[hat x hxi] at hlx;rcases hH x hxi with hd | ⟨he,-⟩
   ·exact absurd hd hx
   ·have:=h.sep q r o x hs (he▸hx) hlx;exact ⟨hZ x hxi this.1,he▸this.2⟩
 ·rw[hrow k (Nat.lt_of_lt_of_le (X.keepLt k hk) h.size) fun e => ?_]
  ·exact h.keep k hk
  ·obtain⟨b,hb1,hb2,hb3⟩:=hr0 k e;have:=(h.mine b k hb1 hb2 hk).2;rw[hb3] at this; cases this
 ·by_cases hxi:x=i
  ·subst hxi;rw[hati] at hlx;rcases hl r hlx with hge | he0
   ·intro hk; have:=X.keepLt r hk; have:=h.size; omega
   ·obtain⟨b,hb1,hb2,hb3⟩:=hr0 r he0;intro hk;have:=(h.mine b r hb1 hb2 hk).2;rw[hb3] at this; cases this
  ·rw[hat x hxi] at hlx;rcases hH x hxi with hd | ⟨he,-⟩
   ·exact absurd hd hx
   ·intro hk;have:=h.mine x r (he▸hx) hlx hk;exact ⟨hZ x hxi this.1,he▸this.2⟩
 ·by_cases hxi:x=i
  ·subst hxi;rw[hati] at hlx;rcases hl r hlx with hge | he0
   ·exact .inl (aT h.bnd hge)
   ·obtain⟨b,hb1,hb2,hb3⟩:=hr0 r he0;refine (h.own b r hb1 hb2).imp (fun h=>h) fun h=>.inl (h.resolve_right fun h => ?_);rw[hb3] at h; cases h.2
  ·rw[hat x hxi] at hlx;rcases hH x hxi with hd | ⟨he,-⟩
   ·exact absurd hd hx
   ·exact (h.own x r (he▸hx) hlx).imp (fun h=>h) fun h'=>h'.imp (fun h=>h) fun h'=>⟨hZ x hxi h'.1,he▸h'.2⟩
 ·exact RC.mono (hmono.hS 1) (hmono.hS 1) x.1 x.2 q 0 (h.glob q x hx)
theorem MemOk.alloc {X:Fx} {g:Gh} {H:Nat->Blk} {Z:Nat->Bool} {U:Nat->Prop} {w:World} (h:MemOk X g H Z U w) {id i:Nat} (hi:id<=i∧i<id+8) (hid:¬ U i) (o:Obj) (k:Blk)
  (hR:RBlk (w.alloc o) (g.at i (some w.heap.size)) (upd H i k) (UI U id) i k) :
  MemOk X (g.at i (some w.heap.size)) (upd H i k) Z (UI U id) (w.alloc o)∧Mono (mem w) g H U (mem (w.alloc o)) (g.at i (some w.heap.size)) (upd H i k) (UI U id):=by
 refine h.step hi hid none rfl rfl rfl (by simp) (fun j hj _=>uz _ _ hj) (fun q b o' hs=>zE (uz _ _ (h.mem_lt hs)) o') (fun b hb=>.inr ⟨xV _ _ hb,fun r hr=>by cases hr⟩)
  (fun _ _ hz=>hz) (fun r hr=>.inl (by injection hr with hr; omega)) (fun r hr=>by cases hr) (by rw[zx]; exact hR) (fun j hj=>by cases hj) (fun q r o' hs hr _ => ?_) (fun j hj=>by cases hj)
 injection hr with hr;have:=h.mem_lt hs;omega
theorem MemOk.put {X:Fx} {g:Gh} {H:Nat->Blk} {Z:Nat->Bool} {U:Nat->Prop} {w:World} (h:MemOk X g H Z U w) {id x r:Nat} (hx:H x ≠ .dead) (hl:g.loc x=some r)
  (cur cur':Array Value) (e:TypeId) (hw:w.heap[r]? = some (.cells cur e (0,0))) (hsz:cur'.size=cur.size) (hS:∀ q o,¬ g.S q r o) (k:Blk) (hk:SameKind (H x) k) (hro:Z x=true->(H x).isCells=false)
  (hR:(Mono (mem w) g H U (mem (w.setRow r cur')) g (upd H x k) (UI U id))->RBlk (w.setRow r cur') g (upd H x k) (UI U id) x k) :
  MemOk X g (upd H x k) Z (UI U id) (w.setRow r cur')∧Mono (mem w) g H U (mem (w.setRow r cur')) g (upd H x k) (UI U id):=by
 have hother:∀ j,j≠r->(w.setRow r cur').heap[j]? = w.heap[j]? := fun j hj=>setRow_other w r j _ hj;have hthis:(w.setRow r cur').heap[r]? = some (.cells cur' e (0,0)):=setRow_heap w r cur cur' e (0,0) hw;have hSm:∀ q b o,g.S q b o->mem (w.setRow r cur') b o=mem w b o:=fun q b o hs=>zE (hother b fun e=>hS q o (e▸hs)) o;have hgrow:∀ r' j,(mem w r' j).isSome->(mem (w.setRow r cur') r' j).isSome:=fun r' j hj=>by
  by_cases he:r'=r
  ·subst he;rw[zB hthis];rw[zB hw] at hj;have hlt:j<cur'.size:=by
    rcases bG j cur.size with h' | h'
    ·omega
    ·rw[er h'] at hj; cases hj
   rw[bi hlt]; rfl
  ·rw[zE (hother r' he)]; exact hj
 have hmono:Mono (mem w) g H U (mem (w.setRow r cur')) g (upd H x k) (UI U id):=by
  refine ⟨fun q b o hs=>⟨hs,hSm q b o hs⟩,fun b hb=>.inl hb,fun b _ => ?_⟩;have hc:∀ r',g.loc b=some r'->∀ j,(mem w r' j).isSome->(mem (w.setRow r cur') r' j).isSome:=fun r' _ j hj=>hgrow r' j hj;by_cases hb:b=x
  ·subst hb; rw[zx]; exact .inr ⟨hk,rfl,hc⟩
  ·rw[xV _ _ hb];exact (SameKind.refl_or (H b)).imp (fun h=>h) fun h=>⟨h,rfl,hc⟩
 refine ⟨?_,hmono⟩;have hcells:∀ b,(upd H x k b).isCells=(H b).isCells:=fun b=>by
  by_cases hbx:b=x
  ·subst hbx; rw[zx]; cases hh:H b<;>cases k<;>simp [hh,SameKind,Blk.isCells] at hk ⊢
  ·rw[xV _ _ hbx]
 have hlive:∀ b,upd H x k b ≠ .dead->H b ≠ .dead:=fun b hb=>by
  by_cases hbx:b=x
  ·subst hbx; exact hx
  ·rwa [xV _ _ hbx] at hb
 refine { h with blk:=fun b => ?_,used:=fun b hb=>.inl (h.used b (hlive b hb)),inj:=fun b b' r' hb hb'=>h.inj b b' r' (hlive b hb) (hlive b' hb'),acc:=fun q b o hs=>(by rw[hSm q b o hs]; exact h.acc q b o hs),sep:=fun q r' o y hs hy hly => ?_,nf:=fun b o hs hB=>(by rw[vM (hother b fun e=>hS 0 o (e▸hs))]; exact h.nf b o hs hB),keep:=fun j hj => ?_,mine:=fun y r' hy hly hk' => ?_,own:=fun y r' hy hly => ?_,os:=(show (w.setRow r cur').os=_ from h.os),tape:=(show (w.setRow r cur').tape=_ from h.tape),output:=(show (w.setRow r cur').output=_ from h.output),size:=(by simpa[fw] using h.size),bnd:=(by simpa[fw] using h.bnd),glob:=fun q y hy=>RC.mono (hmono.hS 1) (hmono.hS 1) y.1 y.2 q 0 (h.glob q y hy),grow:=fun r' j hj=>hgrow r' j (h.grow r' j hj) }
 ·by_cases hb:b=x
  ·subst hb; rw[zx]; exact hR hmono
  ·rw[xV _ _ hb];by_cases hd:H b = .dead
   ·rw[hd]; trivial
   ·exact RBlk.mono hmono rfl (fun r' hr'=>hother r' fun e=>hb (h.inj b x r hd hx (e▸hr') hl)) (h.blk b)
 ·by_cases hyx:y=x
  ·subst hyx;rw[hl] at hly; injection hly with hly; subst hly;exact absurd hs (hS q o)
  ·rw[xV _ _ hyx] at hy ⊢;exact h.sep q r' o y hs hy hly
 ·rw[hother j fun e => ?_]
  ·exact h.keep j hj
  ·have h1:=h.mine x r hx hl (e▸hj);have h2:=hro h1.1;rw[h1.2] at h2; cases h2
 ·have h1:=h.mine y r' (hlive y hy) hly hk';refine ⟨h1.1,?_⟩;rw[hcells]; exact h1.2
 ·have h1:=h.own y r' (hlive y hy) hly;rw[hcells]; exact h1
def Gh.show (g:Gh) (H:Nat->Blk) (fz:Nat) (bs:List Nat):Gh :=
 {g with S:=fun k b o=>g.S k b o∨((k=0∨(k=2∧fz=2))∧∃ x,x∈bs∧∃ q ts xs,H x = .seq q ts xs∧g.loc x=some b∧o<xs.length*ts.size) }
theorem kB {Z:Nat->Bool}:{bs:List Nat}->{b:Nat}->Z b=true->wu Z bs b=true
 | [],_,h=>h
 | c::bs,b,h=>by
  simp only[wu,dJ];refine kB (bs:=bs) ?_;by_cases hb:b=c
  ·subst hb; rw[zx]
  ·rw[xV _ _ hb]; exact h
theorem GO {Z:Nat->Bool}:{bs:List Nat}->{b:Nat}->b∈bs->wu Z bs b=true
 | c::bs,b,h=>by
  simp only[wu,dJ];rcases aG.1 h with rfl | h
  ·exact kB (bs:=bs) (by rw[zx])
  ·exact GO (bs:=bs) h
theorem MemOk.show {X:Fx} {g:Gh} {H:Nat->Blk} {Z:Nat->Bool} {U:Nat->Prop} {w:World} (h:MemOk X g H Z U w) (fz:Nat) (hB:fz=2->∀ r,X.O r->X.N r) (bs:List Nat) :
  MemOk X (g.show H fz bs) H (wu Z bs) U w∧Mono (mem w) g H U (mem w) (g.show H fz bs) H U∧ShowIn (g.show H fz bs) H ((g.show H fz bs).S 0) bs∧(fz=2->ShowIn (g.show H fz bs) H ((g.show H fz bs).S 2) bs):=by
 have hmono:Mono (mem w) g H U (mem w) (g.show H fz bs) H U:=⟨fun _ _ _ hs=>⟨.inl hs,rfl⟩,fun _ hb=>hb,fun b _=>(SameKind.refl_or (H b)).imp id fun h=>⟨h,rfl,fun _ _ _ h=>h⟩⟩;refine ⟨?_,hmono,⟨fun b hb q ts xs r hx hl o ho=>.inr ⟨.inl rfl,b,hb,q,ts,xs,hx,hl,ho⟩⟩,fun h2=>⟨fun b hb q ts xs r hx hl o ho=>.inr ⟨.inr ⟨rfl,h2⟩,b,hb,q,ts,xs,hx,hl,ho⟩⟩⟩
 refine { h with blk:=fun b=>RBlk.mono hmono rfl (fun _ _=>rfl) (h.blk b),acc:=fun q b o hs => ?_,sep:=fun q r o x hs hx hlx => ?_,up0:=fun q b o hs => ?_,up2:=fun q b o hq hs => ?_,dn:=fun b o hs => ?_,fr:=fun b o hs => ?_,nf:=fun b o hs hB=>(by
  rcases hs with hs | ⟨-,x,hx,q',ts,xs,hH,hl,ho⟩
  ·exact h.nf b o hs hB
  ·exact h.blkFrz (by rw[hH]; simp) hl o),mine:=fun x r hx hl hk=>(h.mine x r hx hl hk).imp kB (fun h=>h),own:=fun x r hx hl=>(h.own x r hx hl).imp (fun h=>h) fun h'=>h'.imp (fun h=>h) fun h'=>⟨kB h'.1,h'.2⟩,glob:=fun q y hy=>RC.mono (hmono.hS 1) (hmono.hS 1) y.1 y.2 q 0 (h.glob q y hy) }
 ·rcases hs with hs | ⟨-,x,hx,q',ts,xs,hH,hl,ho⟩
  ·exact h.acc q b o hs
  ·have:=h.blk x;rw[hH] at this;simp only[RBlk] at this;rcases this with ⟨h1,-⟩ | ⟨r,c,e,h1,h2,h3,-⟩
   ·rw[hl] at h1; cases h1
   ·rw[hl] at h1; injection h1 with h1; subst h1;rw[zB h2];rw[bi (by omega)]; rfl
 ·rcases hs with hs | ⟨-,y,hy,q',ts,xs,hH,hl,ho⟩
  ·have:=h.sep q r o x hs hx hlx;exact ⟨kB this.1,this.2⟩
  ·have:x=y:=h.inj x y r hx (by rw[hH]; simp) hlx hl
   subst this;exact ⟨GO hy,q',ts,xs,hH,ho⟩
 ·rcases hs with hs | ⟨-,hs⟩
  ·exact .inl (h.up0 q b o hs)
  ·exact .inr ⟨.inl rfl,hs⟩
 ·rcases hs with hs | ⟨hk,hs⟩
  ·exact .inl (h.up2 q b o hq hs)
  ·exact .inr ⟨.inr ⟨rfl,by omega⟩,hs⟩
 ·rcases hs with hs | ⟨-,x,hx,q',ts,xs,hH,hl,ho⟩
  ·exact h.dn b o hs
  ·rcases h.own x b (by rw[hH]; simp) hl with h1 | h1 | ⟨-,h1⟩
   ·exact .inr (.inl h1)
   ·exact .inr (.inr h1)
   ·rw[hH] at h1; cases h1
 ·rcases hs with hs | ⟨hk,x,hx,q',ts,xs,hH,hl,ho⟩
  ·exact h.fr b o hs
  ·have h2:fz=2:=by omega
   rcases h.own x b (by rw[hH]; simp) hl with h1 | h1 | ⟨-,h1⟩
   ·exact X.hN _ h1
   ·exact hB h2 b h1
   ·rw[hH] at h1; cases h1
def zOk:AV->Value->Bool
 | .val _ (.int k) x,.int k' y=>decide (k=k')&&eqI x y
 | .val _ .bool x,.bool y=>eqB x y
 | .val _ .str x,.string s=>decide (s=⟨gW x⟩)
 | .val _ .cx x,.complex .f64 a b=>aA x.1 a&&aA x.2 b
 | .val _ .fl x,.float .f64 a=>aA x a
 | .val _ (.sl _) x,.slice none 0 0=>List.isEmpty x
 | .val _ (.ns _) x,.slice none 0 0=>co x
 | .nilv,.slice none 0 0=>true
 | .unk,_=>true
 | _,_=>false
def BG:List AV->List Value->Bool
 | [],[]=>true
 | a::as,v::vs=>zOk a v&&BG as vs
 | _,_=>false
def zc3 (k:Nat) (ts:Tys):List (Tup ts)->List Value->Bool
 | [],vs=>vs.isEmpty
 | x::xs,vs=>BG (xS k ts x) (vs.take ts.size)&&zc3 k ts xs (vs.drop ts.size)
def zFs:List AV->List Value->Bool
 | [],vs=>vs.isEmpty
 | a::as,vs=>match a with
  | .val k (.ar ts n) xs=>aA xs.length n&&zc3 k ts xs (vs.take (n*ts.size))&&zFs as (vs.drop (n*ts.size))
  | a=>match vs with
   | v::vs=>zOk a v&&zFs as vs
   | []=>false
theorem Ak {a b:Int}:eqI a b=true↔a=b:=by simp [eqI]
theorem zaS {a b:Bool}:eqB a b=true↔a=b:=by simp [eqB]
theorem Jz {c:Mem} {g:Gh} {H:Nat->Blk} {U:Nat->Prop} {a:AV} {v:Value} (h:zOk a v=true):RAV c g H U a v:=by
 unfold zOk at h;split at h<;>first | trivial | cases h | skip
 ·simp only[ay,decide_eq_true_eq] at h; obtain⟨rfl,h⟩:=h; have:=Ak.1 h; subst this; rfl
 ·have:=zaS.1 h; subst this; rfl
 ·simp only[decide_eq_true_eq] at h; subst h; rfl
 ·rename_i x a b;obtain⟨x1,x2⟩:=x;simp only[ay] at h;obtain⟨h1,h2⟩:=h;have e1:x1=a:=by simpa using h1
  have e2:x2=b:=by simpa using h2
  subst e1; subst e2; rfl
 ·rename_i x a;have e1:x=a:=au h;subst e1; rfl
 ·rename_i ts x;have:x=([]:List (Tup ts)):=fk.1 h;subst this; exact ⟨none,0,rfl,⟨⟨aC _,bN _⟩,fun _=>rfl⟩,.inl rfl⟩
 ·rename_i ts x;have:x=(none:Option (List (Tup ts))):=Option.isNone_iff_eq_none.1 h;subst this; rfl
theorem Kw:{as:List AV}->{vs:List Value}->BG as vs=true->as.length=vs.length
 | [],[],_=>rfl
 | [],_::_,h=>by simp [BG] at h
 | _::_,[],h=>by simp [BG] at h
 | a::as,v::vs,h=>by
  simp only[BG,ay] at h;simp [Kw h.2]
theorem Qy (q:Nat):(ts:Tys)->(x:Tup ts)->(xS q ts x).length=ts.size
 | .one _,_=>rfl
 | .cons _ ts,x=>by simp [xS,Tys.size,Qy q ts x.2]
theorem Xx {c:Mem} {g:Gh} {H:Nat->Blk} {U:Nat->Prop} {k:Nat}:(ts:Tys)->(x:Tup ts)->{vs:List Value}->BG (xS k ts x) vs=true->RV c (g.S k) ts x vs
 | .one t,x,vs,h=>by
  cases vs with
  | nil=>simp [xS,BG] at h
  | cons v vs =>
   simp only[xS,BG,ay] at h;cases vs with
   | cons _ _=>simp [BG] at h
   | nil =>
    refine ⟨v,rfl,?_⟩;have:=Jz (c:=c) (g:=g) (H:=H) (U:=U) h.1;cases t with
    | ar ts n=>simp [zOk] at h
    | _=>exact this
 | .cons t ts,x,vs,h=>by
  cases vs with
  | nil=>simp [xS,BG] at h
  | cons v vs =>
   simp only[xS,BG,ay] at h;refine ⟨v,vs,rfl,?_,Xx (H:=H) (U:=U) ts x.2 h.2⟩;have:=Jz (c:=c) (g:=g) (H:=H) (U:=U) h.1;cases t with
   | ar ts n=>simp [zOk] at h
   | _=>exact this
theorem SV.nil {c:Mem} {A:Reg} {ts:Tys}:SV c A ts [] []:=⟨by simp,Elems.nil⟩
theorem SV.cons {c:Mem} {A:Reg} {ts:Tys} {x:Tup ts} {xs:List (Tup ts)} {us vs:List Value} (hl:us.length=ts.size) (h:RV c A ts x us) (h':SV c A ts xs vs):SV c A ts (x::xs) (us++vs):=by
 refine ⟨by simp [h'.1,hl,bf,dj],fun i y hy => ?_⟩
 cases i with
 | zero =>
  simp only[aB,aq] at hy;subst hy;rw[dV,bQ,eA,di (by omega),hl,ep,gI,bO]
  exact h
 | succ i =>
  have:=h'.2 i y (by simpa using hy)
  dsimp only at this ⊢;rwa [bf,cj,dT,cE (by omega),bl,hl,show i*ts.size+ts.size - ts.size=i*ts.size from by omega]
theorem Gp {c:Mem} {g:Gh} {H:Nat->Blk} {U:Nat->Prop} {k:Nat} {ts:Tys}:{xs:List (Tup ts)}->{vs:List Value}->zc3 k ts xs vs=true->SV c (g.S k) ts xs vs
 | [],vs,h=>by
  simp only[zc3,fk] at h;subst h;exact SV.nil
 | x::xs,vs,h=>by
  simp only[zc3,ay] at h;have hl:=Kw h.1;rw[Qy] at hl;have:=SV.cons hl.symm (Xx (c:=c) (g:=g) (H:=H) (U:=U) ts x h.1) (Gp (H:=H) (U:=U) h.2);rwa [bW] at this
theorem Qn {c:Mem} {g:Gh} {H:Nat->Blk} {U:Nat->Prop}:{as:List AV}->{vs:List Value}->zFs as vs=true->RF c g H U as vs
 | [],vs,h=>by simp only[zFs,fk] at h; subst h; rfl
 | a::as,vs,h=>by
  simp only[zFs] at h;split at h
  ·rename_i k ts n xs;simp only[ay] at h;have hs:=Gp (c:=c) (g:=g) (H:=H) (U:=U) h.1.2;refine ⟨.agg (vs.take (n*ts.size)).toArray,vs.take (n*ts.size),vs.drop (n*ts.size),by rw[bW],⟨au h.1.1,_,rfl,hs⟩,rfl,Qn h.2⟩
  ·rename_i hne;have ha:a.isAr=false:=by
    cases hb:a.isAr with
    | false=>rfl
    | true=>obtain⟨k,ts,n,xs,rfl⟩:=AV.isAr_iff.1 hb; exact (hne k ts n xs rfl).elim
   cases vs with
   | nil=>cases h
   | cons v vs =>
    simp only[ay] at h;exact ⟨v,[v],vs,rfl,Jz h.1,by rw[ha]; rfl,Qn h.2⟩
def zgE (P:Program) (tb:Tb) (t:TypeId) (td:TD):Prop :=
 (∃ i,P.info? t=some i∧i.size=td.size∧∀ cs,zeroCells tb 5 t=some cs->∃ z,i.zero=some z∧zFs cs z.cells.toList=true) ∧
 match td with
 | .int k=>P.underlying t=some (.int k)
 | .bool=>P.underlying t=some .bool
 | .str=>P.underlying t=some .string
 | .cx=>P.underlying t=some (.complex .f64)
 | .fl=>P.underlying t=some (.float .f64)
 | .fa e k n=>P.underlying t=some (.array n e)∧∃ i,P.info? e=some i∧i.size=k
 | .sl e ts bytes=>P.underlying t=some (.slice e)∧∃ i z,P.info? e=some i∧i.size=ts.size∧i.bytes=bytes∧i.zero=some z∧z.cells.size=ts.size∧BG (xS 2 ts (qb ts)) z.cells.toList=true∧0<bytes
 | .st fs _=>∃ fields,P.underlying t=some (.struct fields)∧fields.toList.map (fun f=>(f.type,f.offset))=fs∧(∀ f,f∈fields.toList->f.name ≠ "_" ∧ ∃ i,P.info? f.type=some i∧i.size≠0) ∧
   P.eqGuardType P.depth t=false∧P.stoodInHeld t=false
 | .fn=>∃ a b c,P.underlying t=some (.func a b c)
 | .arr e ts n=>P.underlying t=some (.array n e)∧(∃ i,P.info? e=some i∧i.size=ts.size) ∧
   ∃ i z,P.info? t=some i∧i.zero=some z∧z.cells.size=n*ts.size∧∀ j,j<n->BG (xS 2 ts (qb ts)) ((z.cells.toList.drop (j*ts.size)).take ts.size)=true
def jk (P:Program) (tb:Tb):Prop:=∀ t td,tb t=some td->zgE P tb t td
section
variable {R:Type}
def Post (X:Fx) (κ:K R) (x:R) (g:Gh) (H:Nat->Blk) (Z:Nat->Bool) (U:Nat->Prop) (w:World) (id:Nat) (v:Value) (w':World):Prop :=
 ∃ av e g',κ av e=some x∧RAV (mem w') g' (qQ H e.ws) (UI U id) av v∧MemOk X g' (qQ H e.ws) (wu Z e.zs) (UI U id) w' ∧
  Mono (mem w) g H U (mem w') g' (qQ H e.ws) (UI U id)
theorem Post.quiet {X:Fx} {κ:K R} {x:R} {g:Gh} {H:Nat->Blk} {Z:Nat->Bool} {U:Nat->Prop} {w:World} {id:Nat} {av:AV} {v:Value} (hm:MemOk X g H Z U w)
  (hk:quiet κ av=some x) (hr:RAV (mem w) g H U av v):Post X κ x g H Z U w id v w :=
 ⟨av,⟨[],[]⟩,g,hk,RAV.mono (Mono.used fun _ h=>.inl h) _ _ hr,hm.used_mono fun _ h=>.inl h,Mono.used fun _ h=>.inl h⟩
def Does (P:Program) (s:Sem Next) (w:World) (Ψ:Value->World->Prop):Prop :=
 match s.run P w with
 | .ok (.value v) w'=>Ψ v w'
 | .ok .skip w'=>Ψ undef w'
 | .ok (.enter f args) w'=>Calls P f args w' fun e w''=>∃ v,e = .returned v∧Ψ v w''
 | _=>False
theorem Does.value {P:Program} {s:Sem Value} {w w':World} {v:Value} {Ψ:Value->World->Prop} (h:s.run P w = .ok v w') (hp:Ψ v w'):Does P (do pure (.value (← s))) w Ψ:=by
 unfold Does;simp only[cF,h,b7,cG];exact hp
theorem Does.skip {P:Program} {s:Sem Unit} {w w':World} {Ψ:Value->World->Prop} (h:s.run P w = .ok () w') (hp:Ψ undef w'):Does P (do s; pure .skip) w Ψ:=by
 unfold Does;simp only[cF,h,b7,cG];exact hp
theorem Does.wp {P:Program} {o:Oper} {a:Act} {w:World} {Ψ:Value->World->Prop} (h:Does P (execOp a.eval o) w Ψ) {K:Act->World->Prop} {Q:Exit->Act->World->Prop}
  (hk:∀ v w',Ψ v w'->K (a.put o.dst v) w'):o.wp P a w K Q:=by
 unfold Oper.wp;unfold Does at h;split at h
 ·rename_i hr; rw[hr]; exact hk _ _ h
 ·rename_i hr; rw[hr]; exact hk _ _ h
 ·rename_i hr;rw[hr];refine Calls.mono h ?_;rintro e w'' ⟨v,rfl,hv⟩;exact hk _ _ hv
 ·exact h.elim
theorem IN {P:Program} {w:World} {op:BinOp} {k:IntKind} {a b:Int} {κ:AV->Option R} {x:R} (h:IU op k a b κ=some x) (t:TypeId) (ox oy:Operand)
  (c:Mem) (g:Gh) (H:Nat->Blk) (U:Nat->Prop) :
  ∃ z av,((do eqGuard op t ox oy (.int k a) (.int k b); binOp op t (.int k a) (.int k b)):Sem Value).run P w = .ok z w∧κ av=some x∧RAV c g H U av z:=by
 have hg:eqGuard op t ox oy (.int k a) (.int k b)=pure ():=by cases op<;>rfl
 rw[hg];cases op<;>simp only[IU] at h<;>first | cases h | skip
 case add=>exact ⟨_,_,by simp [binOp,gw],h,rfl⟩
 case sub=>exact ⟨_,_,by simp [binOp,gw],h,rfl⟩
 case mul=>exact ⟨_,_,by simp [binOp,gw],h,rfl⟩
 case quo =>
  by_cases hb:b=0
  ·simp [hb] at h
  ·simp only[hb,decide_false,cond_false] at h;exact ⟨_,_,by simp [binOp,iu,hb],h,rfl⟩
 case rem =>
  by_cases hb:b=0
  ·simp [hb] at h
  ·simp only[hb,decide_false,cond_false] at h;exact ⟨_,_,by simp [binOp,iu,hb],h,rfl⟩
 case shl =>
  by_cases hb:b<0
  ·simp [hb] at h
  ·simp only[hb,decide_false,cond_false] at h;exact ⟨_,_,by simp [binOp,iB,hb],h,rfl⟩
 case shr =>
  by_cases hb:b<0
  ·simp [hb] at h
  ·simp only[hb,decide_false,cond_false] at h;refine ⟨.int k (a.fdiv (2 ^ min b.toNat k.bits)),_,?_,h,rfl⟩;simp only[binOp,iB,if_neg hb];rfl
 case eql=>exact ⟨_,_,by simp [binOp,fm],h,rfl⟩
 case neq=>exact ⟨_,_,by simp [binOp,fm],h,rfl⟩
 case lss=>exact ⟨_,_,by simp [binOp,fm],h,rfl⟩
 case leq=>exact ⟨_,_,by simp [binOp,fm],h,rfl⟩
 case gtr=>exact ⟨_,_,by simp [binOp,fm],h,rfl⟩
 case geq=>exact ⟨_,_,by simp [binOp,fm],h,rfl⟩
 case and=>obtain⟨r,hr,h⟩:=ah.1 h; injection hr with hr; subst hr; exact ⟨_,_,by simp [binOp,gJ],h,rfl⟩
 case or=>obtain⟨r,hr,h⟩:=ah.1 h; injection hr with hr; subst hr; exact ⟨_,_,by simp [binOp,gJ],h,rfl⟩
 case xor=>obtain⟨r,hr,h⟩:=ah.1 h; injection hr with hr; subst hr; exact ⟨_,_,by simp [binOp,gJ],h,rfl⟩
theorem DP {P:Program} {w:World} {op:BinOp} {a b:List UInt8} {κ:AV->Option R} {x:R} (h:DG op a b κ=some x) (t:TypeId) (ox oy:Operand)
  (c:Mem) (g:Gh) (H:Nat->Blk) (U:Nat->Prop) :
  ∃ z av,((do eqGuard op t ox oy (.string ⟨a.toArray⟩) (.string ⟨b.toArray⟩); binOp op t (.string ⟨a.toArray⟩) (.string ⟨b.toArray⟩)):Sem Value).run P w = .ok z w∧κ av=some x∧RAV c g H U av z:=by
 have hg:eqGuard op t ox oy (.string ⟨a.toArray⟩) (.string ⟨b.toArray⟩)=pure ():=by cases op<;>rfl
 rw[hg];cases op<;>simp only[DG] at h<;>first | cases h | skip
 case add =>
  by_cases hb:a.length+b.length<4611686018427387904
  ·simp only[hb,decide_true,cond_true] at h;refine ⟨_,_,?_,h,rfl⟩;have:¬(((dE a.toArray).size+(dE b.toArray).size:Nat):Int)>IntKind.i64.max:=by
    show ¬(((a.toArray.size+b.toArray.size:Nat):Int)>9223372036854775807);simp only[bn];omega
   simp only[binOp,gz,cF,cG,b7];rw[if_neg this];simp only[cG];rw[gX]
  ·simp [hb] at h
 case eql=>exact ⟨_,_,by simp [binOp,gz,fR],h,rfl⟩
 case neq=>exact ⟨_,_,by simp [binOp,gz,fR],h,rfl⟩
theorem Ag {P:Program} {w:World} {op:BinOp} {a b:Nat} {κ:AV->Option R} {x:R} (h:FU op a b κ=some x) (t:TypeId) (ox oy:Operand)
  (c:Mem) (g:Gh) (H:Nat->Blk) (U:Nat->Prop) :
  ∃ z av,((do eqGuard op t ox oy (.float .f64 a) (.float .f64 b); binOp op t (.float .f64 a) (.float .f64 b)):Sem Value).run P w = .ok z w∧κ av=some x∧RAV c g H U av z:=by
 have hg:eqGuard op t ox oy (.float .f64 a) (.float .f64 b)=pure ():=by cases op<;>rfl
 rw[hg];cases op<;>simp only[FU] at h<;>obtain⟨r,hr,h⟩:=ah.1 h<;>first | (cases hr; done) | skip
 case add=>exact ⟨_,_,by simp [run_float_arith w .add t .f64 a b r hr],h,rfl⟩
 case sub=>exact ⟨_,_,by simp [run_float_arith w .sub t .f64 a b r hr],h,rfl⟩
 case mul=>exact ⟨_,_,by simp [run_float_arith w .mul t .f64 a b r hr],h,rfl⟩
 all_goals
  simp only[zck,aq] at hr;subst hr
 case eql=>exact ⟨_,_,by simp [binOp_float_cmp_eql],h,rfl⟩
 case neq=>exact ⟨_,_,by simp [binOp_float_cmp_neq],h,rfl⟩
 case lss=>exact ⟨_,_,by simp [binOp_float_cmp_lss],h,rfl⟩
 case leq=>exact ⟨_,_,by simp [binOp_float_cmp_leq],h,rfl⟩
 case gtr=>exact ⟨_,_,by simp [binOp_float_cmp_gtr],h,rfl⟩
 case geq=>exact ⟨_,_,by simp [binOp_float_cmp_geq],h,rfl⟩
theorem Ap {P:Program} {w:World} {op:BinOp} {a b:Nat×Nat} {κ:AV->Option R} {x:R} (h:FY op a b κ=some x) (t:TypeId) (ox oy:Operand)
  (c:Mem) (g:Gh) (H:Nat->Blk) (U:Nat->Prop) :
  ∃ z av,((do eqGuard op t ox oy (.complex .f64 a.1 a.2) (.complex .f64 b.1 b.2); binOp op t (.complex .f64 a.1 a.2) (.complex .f64 b.1 b.2)):Sem Value).run P w = .ok z w∧κ av=some x∧RAV c g H U av z:=by
 have hg:eqGuard op t ox oy (.complex .f64 a.1 a.2) (.complex .f64 b.1 b.2)=pure ():=by cases op<;>rfl
 rw[hg];cases op<;>simp only[FY] at h<;>first | (cases h; done) | skip
 all_goals obtain⟨r,hr,h⟩:=ah.1 h
 case add=>exact ⟨_,_,by simp [run_complex_sum w .add (.inl rfl) t .f64 a.1 a.2 b.1 b.2 r.1 r.2 hr],h,rfl⟩
 case sub=>exact ⟨_,_,by simp [run_complex_sum w .sub (.inr rfl) t .f64 a.1 a.2 b.1 b.2 r.1 r.2 hr],h,rfl⟩
 case mul=>exact ⟨_,_,by simp [run_complex_mul w t a.1 a.2 b.1 b.2 r.1 r.2 hr],h,rfl⟩
theorem Qo {P:Program} {w:World} {t:TypeId} {x y:Value} {r:Bool} (h:∀ d,(f0 (d+2) t x y).run P w = .ok r w):(eR t x y).run P w = .ok r w:=h 9998
theorem VE {P:Program} {w:World} {op:BinOp} {r:Bool} {κ:AV->Option R} {x:R} (h:Gf op r κ=some x) {t:TypeId} {a b:Value}
  (hb:∀ op,(op = .eql∨op = .neq)->binOp op t a b=(match op with | .eql=>(do pure (.bool (← eR t a b))) | _=>(do pure (.bool (!(← eR t a b)))))) (he:(eR t a b).run P w = .ok r w)
  {ox oy:Operand} (hg:∀ op,(eqGuard op t ox oy a b).run P w = .ok () w) (c:Mem) (g:Gh) (H:Nat->Blk) (U:Nat->Prop) :
  ∃ z av,((do eqGuard op t ox oy a b; binOp op t a b):Sem Value).run P w = .ok z w∧κ av=some x∧RAV c g H U av z:=by
 cases op<;>simp only[Gf] at h<;>first | cases h | skip
 case eql=>exact ⟨_,_,by simp [hg,hb .eql (.inl rfl),he],h,rfl⟩
 case neq=>exact ⟨_,_,by simp [hg,hb .neq (.inr rfl),he],h,rfl⟩
theorem G7 {P:Program} {w:World} {op:BinOp} {a b:Bool} {κ:AV->Option R} {x:R} (h:KM op a b κ=some x) {t:TypeId} (ht:P.underlying t=some .bool) (ox oy:Operand)
  (c:Mem) (g:Gh) (H:Nat->Blk) (U:Nat->Prop) :
  ∃ z av,((do eqGuard op t ox oy (.bool a) (.bool b); binOp op t (.bool a) (.bool b)):Sem Value).run P w = .ok z w∧κ av=some x∧RAV c g H U av z:=by
 have he:(eR t (.bool a) (.bool b)).run P w = .ok (a==b) w:=Qo fun d=>by simp [f0,run_underlying ht]
 cases op<;>simp only[KM] at h<;>first | cases h | skip
 case eql=>exact ⟨_,_,by simp [eqGuard_at_bool,binOp,he],h,rfl⟩
 case neq=>exact ⟨_,_,by simp [eqGuard_at_bool,binOp,he],h,rfl⟩
theorem zdz (x y:List UInt8):((dE x.toArray).toList==(dE y.toArray).toList)=eqS x y:=by simp [eqS]
theorem Bo {P:Program} {tb:Tb} (hT:jk P tb) {w:World} {c:Mem} {g:Gh} {H:Nat->Blk} {U:Nat->Prop} {t:TypeId} {a b:AV} {r:Bool} {v u:Value}
  (h:DQ (tb t) a b=some r) (ha:RAV c g H U a v) (hb:RAV c g H U b u) :
  (∀ d,(f0 (d+1) t v u).run P w = .ok r w)∧(isAgg t).run P w = .ok false w:=by
 unfold DQ at h;split at h
 ·rename_i k0 g1 k x g2 k' y hk;have ht:=(hT t _ hk).2;simp only[RAV,RVal,RE] at ha hb;subst ha; subst hb;by_cases he:k=k'
  ·subst he;simp only[decide_true,cond_true,aq] at h;subst h;exact ⟨fun d=>run_equalIn_int w d t k k0 x y ht,by simp [isAgg,run_underlying ht]⟩
  ·simp [he] at h
 ·rename_i g1 x g2 y hk;have ht:=(hT t _ hk).2;simp only[RAV,RVal,RE] at ha hb;subst ha; subst hb;simp only[aq] at h;subst h;exact ⟨fun d=>(run_equalIn_string w d t _ _ ht).trans (congrArg (fun b=>Result.ok b w) (zdz x y)),by simp [isAgg,run_underlying ht]⟩
 ·rename_i g1 x g2 y hk;have ht:=(hT t _ hk).2;simp only[RAV,RVal,RE] at ha hb;subst ha; subst hb;simp only[aq] at h;subst h;exact ⟨fun d=>run_equalIn_bool' w d t x y ht,by simp [isAgg,run_underlying ht]⟩
 ·cases h
theorem VR {td:Option TD} {a b:AV} {r:Bool} (h:DQ td a b=some r):a.isAr=false∧b.isAr=false:=by
 unfold DQ at h;split at h<;>first | exact ⟨rfl,rfl⟩ | cases h
theorem RF.dropGet {c:Mem} {g:Gh} {H:Nat->Blk} {U:Nat->Prop} {a:AV} {as:List AV} {xs:Array Value} {k:Nat} (h:RF c g H U (a::as) (xs.toList.drop k)) (ha:a.isAr=false) :
  ∃ v,xs[k]? = some v∧RAV c g H U a v∧RF c g H U as (xs.toList.drop (k+1)):=by
 simp only[RF] at h;obtain⟨v,us,vs,hvx,hav,hus,hxs⟩:=h;rw[ha] at hus;subst hus;refine ⟨v,?_,hav,?_⟩
 ·have:=congrArg (fun l=>l[0]?) hvx;simpa using this
 ·have:xs.toList.drop (k+1)=vs:=by rw[← cf,hvx]; rfl
  rw[this]; exact hxs
theorem Wj {P:Program} {tb:Tb} (hT:jk P tb) {w:World} {c:Mem} {g:Gh} {H:Nat->Blk} {U:Nat->Prop}:∀(fs:List Field) (k:Nat) (as bs:List AV) (r:Bool) (xs ys:Array Value),
  (∀ f,f∈fs->f.name ≠ "_")->QJ tb (fs.map fun f=>(f.type,f.offset)) k as bs=some r->RF c g H U as (xs.toList.drop k)->RF c g H U bs (ys.toList.drop k) ->
  ∀ d,(gA (d+1) xs ys fs).run P w = .ok r w
 | [],k,as,bs,r,xs,ys,_,he,_,_,d=>by
  cases as<;>cases bs<;>simp [QJ] at he
  subst he; simp [gA]
 | f::fs,k,as,bs,r,xs,ys,hn,he,hx,hy,d=>by
  cases as with
  | nil=>simp [QJ] at he
  | cons a as =>
   cases bs with
   | nil=>simp [QJ] at he
   | cons b bs =>
    simp only[aK,QJ] at he;cases hk:aA f.offset k with
    | false=>simp [hk] at he
    | true =>
     have hoff:f.offset=k:=by simpa using hk
     simp only[hk,cond_true,ah,aq] at he;obtain⟨q,hq,s,hs,rfl⟩:=he;obtain⟨v,hv,hav,hx'⟩:=RF.dropGet hx (VR hq).1;obtain⟨u,hu,hbu,hy'⟩:=RF.dropGet hy (VR hq).2;obtain⟨heq,hag⟩:=Bo (w:=w) hT hq hav hbu;have ih:=Wj hT (w:=w) fs (k+1) as bs s xs ys (fun f hf=>hn f (by simp [hf])) hs hx' hy' d
     have hpx:∀ zs:Array Value,∀ z,zs[k]? = some z->(part f.type zs f.offset).run P w = .ok z w:=by
      intro zs z hz;rw[hoff];simp [part,hag,hz]
     rw[gA];simp only[hn f (by simp),ne_eq,not_false_eq_true,if_true,cF,hpx xs v hv,hpx ys u hu,b7,heq d]
     cases q
     ·simp
     ·simpa using ih
theorem Aj {P:Program} {tb:Tb} (hT:jk P tb) {w:World} {c:Mem} {g:Gh} {H:Nat->Blk} {U:Nat->Prop} {t:TypeId} {fs:List (TypeId×Nat)} {n:Nat} (ht:tb t=some (.st fs n))
  {as bs:List AV} {r:Bool} {xs ys:Array Value} (he:QJ tb fs 0 as bs=some r) (hx:RF c g H U as xs.toList) (hy:RF c g H U bs ys.toList):(eR t (.agg xs) (.agg ys)).run P w = .ok r w:=by
 obtain⟨-,fields,hu,hfs,hnm,-,hst⟩:=hT t _ ht;refine Qo fun d => ?_;have hf:P.fieldsOf t=fields:=by simp [iw,hu]
 rw[run_equalIn_struct (P:=P) w (d+1) t xs ys (by rw[hf]; exact hu) hst,hf]
 subst hfs;exact Wj hT fields.toList 0 as bs r xs ys (fun f h=>(hnm f h).1) he (by simpa using hx) (by simpa using hy) d
theorem BW {P:Program} {w:World} {g:Gh} {H hv:Nat->Blk} {U:Nat->Prop} {t e:TypeId} {a:AV} {v:Value} {r:Bool} (h:Zc hv a=some r) (hh:∀ b,hv b = .dead∨hv b=H b)
  (hr:RAV (mem w) g H U a v) (ht:P.underlying t=some (.slice e)):(eR t v (.slice none 0 0)).run P w = .ok r w∧∃ b n c,v = .slice b n c:=by
 have key:∀ b n c,(eR t (.slice b n c) (.slice none 0 0)).run P w = .ok b.isNone w:=fun b n c=>by
  refine Qo fun d => ?_;cases b<;>simp [f0,run_underlying ht]
 cases a with
 | nilv=>simp only[Zc,aq] at h; subst h; simp only[RAV] at hr; subst hr; exact ⟨key _ _ _,_,_,_,rfl⟩
 | val q u x =>
  cases u with
  | ns ts =>
   simp only[Zc,aq] at h;subst h;simp only[RAV,RVal] at hr;cases x with
   | none=>simp only[RE] at hr; subst hr; exact ⟨key _ _ _,_,_,_,rfl⟩
   | some xs=>simp only[RE] at hr; obtain⟨a,cap,rfl,-⟩:=hr; exact ⟨key _ _ _,_,_,_,rfl⟩
  | sl ts =>
   simp only[Zc,ah,aq] at h;obtain⟨y,hy,rfl⟩:=h;obtain⟨-,hne⟩:=Va hy;simp only[RAV,RVal,RE] at hr;obtain⟨a,cap,rfl,-,hx⟩:=hr;rcases hx with hx | ⟨b,o,rfl,-⟩
   ·exact absurd hx hne
   ·exact ⟨key _ _ _,_,_,_,rfl⟩
  | int _=>simp [Zc] at h
  | bool=>simp [Zc] at h
  | str=>simp [Zc] at h
  | cx=>simp [Zc] at h
  | fl=>simp [Zc] at h
  | ar _ _=>simp [Zc] at h
 | view b =>
  simp only[Zc] at h;split at h
  ·rename_i q ts xs hx;have hx':H b = .seq q ts xs:=by rcases hh b with h' | h'<;>rw[hx] at h'; cases h'; exact h'.symm
   simp only[ah,aq] at h;obtain⟨y,hy,rfl⟩:=h;obtain⟨-,hne⟩:=Va hy;simp only[RAV,hx',RView] at hr;obtain⟨-,-,a,cap,rfl,hcap,hc⟩:=hr;rcases hc with rfl | ⟨r,-,rfl,-⟩
   ·exact absurd (ba (by omega)) hne
   ·exact ⟨key _ _ _,_,_,_,rfl⟩
  ·cases h
 | unk=>simp [Zc] at h
 | agg _=>simp [Zc] at h
 | tup _=>simp [Zc] at h
 | part _ _ _=>simp [Zc] at h
 | ptr _ _=>simp [Zc] at h
 | cptr _ _ _ _ _=>simp [Zc] at h
 | sptr _ _ _=>simp [Zc] at h
 | eptr _ _ _ _=>simp [Zc] at h
 | clo _ _=>simp [Zc] at h
theorem FW {P:Program} {tb:Tb} (hT:jk P tb) {w:World} {g:Gh} {H hv:Nat->Blk} {U:Nat->Prop} (hh:∀ b,hv b = .dead∨hv b=H b) {op:BinOp} {t:TypeId} {a b:AV} {v u:Value} {κ:AV->Option R} {x:R}
  (h:zbe tb hv op t a b κ=some x) (ha:RAV (mem w) g H U a v) (hb:RAV (mem w) g H U b u) (ox oy:Operand) :
  ∃ z av,((do eqGuard op t ox oy v u; binOp op t v u):Sem Value).run P w = .ok z w∧κ av=some x∧RAV (mem w) g H U av z:=by
 unfold zbe at h;split at h
 ·rename_i g1 k a' g2 k' b';simp only[RAV,RVal,RE] at ha hb;subst ha; subst hb;by_cases he:k=k'
  ·subst he;simp only[decide_true,cond_true] at h;exact IN h t ox oy _ _ _ _
  ·simp [he] at h
 ·simp only[RAV,RVal,RE] at ha hb;subst ha; subst hb;exact DP h t ox oy _ _ _ _
 ·simp only[RAV,RVal,RE] at ha hb;subst ha; subst hb;exact Ag h t ox oy _ _ _ _
 ·simp only[RAV,RVal,RE] at ha hb;subst ha; subst hb;exact Ap h t ox oy _ _ _ _
 ·simp only[RAV,RVal,RE] at ha hb;subst ha; subst hb;split at h
  ·rename_i ht;exact G7 h (hT t _ ht).2 ox oy _ _ _ _
  ·cases h
 ·simp only[RAV] at ha hb;obtain⟨xs,rfl,hx⟩:=ha;obtain⟨ys,rfl,hy⟩:=hb;split at h
  ·rename_i fs n ht;simp only[ah] at h;obtain⟨r,hr,h⟩:=h;obtain⟨-,fields,hu,hfs,hnm,hgt,hst⟩:=hT t _ ht;exact VE h (fun op ho=>by rcases ho with rfl | rfl<;>rfl) (Aj hT ht hr hx hy) (fun op=>run_eqGuard_agg w op t ox oy xs ys hgt) _ _ _ _
  ·cases h
 ·simp only[RAV] at hb;subst hb;split at h
  ·rename_i e ts bytes ht;simp only[ah] at h;obtain⟨r,hr,h⟩:=h;obtain⟨he,b,n,c,rfl⟩:=BW hr hh ha (hT t _ ht).2.1;exact VE h (fun op ho=>by rcases ho with rfl | rfl<;>rfl) he (fun op=>by rw[eqGuard_at_slice]; rfl) _ _ _ _
  ·cases h
 ·cases h
end
section
variable {R:Type}
theorem Lr {P:Program} {w:World} {c:Mem} {g:Gh} {H:Nat->Blk} {U:Nat->Prop} {op:UnOp} {a:AV} {v:Value} {κ:AV->Option R} {x:R}
  (h:unE op a κ=some x) (ha:RAV c g H U a v):∃ z av,(iC op v).run P w = .ok z w∧κ av=some x∧RAV c g H U av z:=by
 unfold unE at h;split at h
 ·simp only[RAV,RVal,RE] at ha; subst ha; exact ⟨_,_,by simp [iC],h,rfl⟩
 ·simp only[RAV,RVal,RE] at ha; subst ha; exact ⟨_,_,rfl,h,rfl⟩
 ·cases h
theorem RV.length {c:Mem} {A:Reg}:(ts:Tys)->{x:Tup ts}->{vs:List Value}->RV c A ts x vs->vs.length=ts.size
 | .one t,_,_,h=>by simp only[RV] at h; obtain⟨v,rfl,-⟩:=h; rfl
 | .cons t ts,_,_,h=>by simp only[RV] at h; obtain⟨v,us,rfl,-,h⟩:=h; simp [Tys.size,RV.length ts h]
theorem RC.rv {c:Mem} {A T:Reg}:(ts:Tys)->{x:Tup ts}->{b o:Nat}->RC c A T ts x b o->∃ vs,RV c A ts x vs∧∀ j v,vs[j]? = some v->c b (o+j)=some v
 | .one t,x,b,o,h=>by
  simp only[RC] at h;obtain⟨-,u,hu,he⟩:=h;refine ⟨[u],⟨u,rfl,he⟩,fun j v hv => ?_⟩;cases j with
  | zero=>simp at hv; subst hv; exact hu
  | succ j=>simp at hv
 | .cons t ts,x,b,o,h=>by
  simp only[RC] at h;obtain⟨⟨-,u,hu,he⟩,h⟩:=h;obtain⟨vs,h1,h2⟩:=RC.rv ts h;refine ⟨u::vs,⟨u,vs,rfl,he,h1⟩,fun j v hv => ?_⟩;cases j with
  | zero=>simp at hv; subst hv; exact hu
  | succ j =>
   have:=h2 j v (by simpa using hv)
   rwa [show o+1+j=o+(j+1) from by omega] at this
theorem RE.notAr {c:Mem} {A:Reg} {t:Ty} {x:El t} {v:Value} (h:RE c A t x v) (k:Nat):(AV.val k t x).isAr=false:=by
 cases t<;>first | rfl | exact h.elim
theorem RV.rf {c:Mem} {g:Gh} {H:Nat->Blk} {U:Nat->Prop} {k:Nat}:(ts:Tys)->{x:Tup ts}->{vs:List Value}->RV c (g.S k) ts x vs->RF c g H U (xS k ts x) vs
 | .one t,x,vs,h=>by
  simp only[RV] at h;obtain⟨v,rfl,h⟩:=h;exact RF.single (a:=.val k t x) (RVal.of h) (h.notAr k)
 | .cons t ts,x,vs,h=>by
  simp only[RV] at h;obtain⟨v,us,rfl,h,h2⟩:=h;exact ⟨v,[v],us,rfl,RVal.of h,by rw[h.notAr k]; rfl,RV.rf ts h2⟩
theorem Vr {P:Program} {tb:Tb} (hT:jk P tb) {w:World} {c:Mem} {g:Gh} {H:Nat->Blk} {U:Nat->Prop} {t:TypeId} {td:TD} (ht:tb t=some td) {cs:List AV} {f:Nat} {κ:AV->Option R} {x:R} {vs:List Value}
  (h:kF td cs f κ=some x) (hr:RF c g H U cs vs) :
  ((isAgg t).run P w = .ok false w∧∃ v a,vs[f]? = some v∧κ a=some x∧RAV c g H U a v) ∨
  ((isAgg t).run P w = .ok true w∧f+td.size<=vs.length∧∃ a,κ a=some x∧RAV c g H U a (.agg ((vs.drop f).take td.size).toArray)):=by
 obtain⟨⟨i,hi,hsz,-⟩,hk⟩:=hT t td ht;have single:(isAgg t).run P w = .ok false w->((IT cs f).bind fun v=>cond v.isAr none (κ v))=some x ->
   ((isAgg t).run P w = .ok false w∧∃ v a,vs[f]? = some v∧κ a=some x∧RAV c g H U a v):=by
  intro hag h;obtain⟨a,ha,h⟩:=ah.1 h;obtain⟨v,h1,h2,h3⟩:=hr.at ha;cases hb:a.isAr with
  | true=>rw[hb] at h; cases h
  | false =>
   rw[hb,cond_false] at h;rw[hb,cond_false,AV.width_one hb] at h3;refine ⟨hag,v,a,?_,h,h1⟩;have:=congrArg (fun l=>l[0]?) h3;simpa using this
 have several:(isAgg t).run P w = .ok true w->((jC cs f).bind fun p=>(jC p.2 td.size).bind fun q=>κ (.agg q.1))=some x ->
   ((isAgg t).run P w = .ok true w∧f+td.size<=vs.length∧∃ a,κ a=some x∧RAV c g H U a (.agg ((vs.drop f).take td.size).toArray)):=by
  intro hag h;obtain⟨p,hp,h⟩:=ah.1 h;obtain⟨q,hq,h⟩:=ah.1 h;obtain⟨-,-,h1,-,h2⟩:=hr.split hp;obtain⟨-,-,h3,h4,-⟩:=h2.split hq;rw[bq] at h3;exact ⟨hag,by omega,_,h,_,rfl,h4⟩
 cases td with
 | st fs n=>obtain⟨fields,hu,-⟩:=hk; exact .inr (several (by simp [isAgg,run_underlying hu]) h)
 | fa e k n=>exact .inr (several (by simp [isAgg,run_underlying hk.1]) h)
 | arr e ts n =>
  simp only[kF] at h;obtain⟨a,ha,h⟩:=ah.1 h;obtain⟨v,h1,h2,h3⟩:=hr.at ha;cases hb:a.isAr with
  | false=>rw[hb] at h; cases h
  | true =>
   rw[hb,cond_true] at h;cases hw:aA a.width (n*ts.size) with
   | false=>rw[hw] at h; cases h
   | true =>
    rw[hw,cond_true] at h;have hw:=au hw;rw[hb,cond_true,hw] at h3;refine .inr ⟨by simp [isAgg,run_underlying hk.1],by show f+n*ts.size<=_; omega,a,h,?_⟩
    obtain⟨k,us,m,xs,rfl⟩:=AV.isAr_iff.1 hb;have h1':=h1;obtain⟨-,us,rfl,-⟩:=h1;show RAV _ _ _ _ _ (.agg ((vs.drop f).take (n*ts.size)).toArray);rw[h3];exact h1'
 | int k=>exact .inl (single (by simp [isAgg,run_underlying hk]) h)
 | bool=>exact .inl (single (by simp [isAgg,run_underlying hk]) h)
 | str=>exact .inl (single (by simp [isAgg,run_underlying hk]) h)
 | cx=>exact .inl (single (by simp [isAgg,run_underlying hk]) h)
 | fl=>exact .inl (single (by simp [isAgg,run_underlying hk]) h)
 | sl e ts bytes=>exact .inl (single (by simp [isAgg,run_underlying hk.1]) h)
 | fn=>obtain⟨a,b,c,hk⟩:=hk; exact .inl (single (by simp [isAgg,run_underlying hk]) h)
theorem K2 {P:Program} {w:World} {t:TypeId} {i:TypeInfo} (hi:P.info? t=some i) (hag:(isAgg t).run P w = .ok true w) {r o:Nat} {us:List Value} (hl:us.length=i.size) (hm:∀ j v,us[j]? = some v->mem w r (o+j)=some v) :
  (loadVar t ⟨r,o,none⟩).run P w = .ok (.agg us.toArray) w:=by
 have hl':=run_loadCells (P:=P) w ⟨r,o,none⟩ us.length (fun j=>us.getD j undef) (fun j hj=>by
  rw[dF];have h1:us[j]? = some (us.getD j undef):=by rw[aE,al hj]; rfl
  exact hm j _ h1)
 have he:(aL us.length).map (fun j=>us.getD j undef)=us:=by
  apply db;intro j;rw[bh];by_cases hj:j<us.length
  ·rw[dg hj,bD,aE,al hj]; rfl
  ·rw[aQ (by simpa using hj),aQ (by omega)]; rfl
 rw[he] at hl';simp only[loadVar,cF,hag,b7,if_true,sizeOf,typeInfo,run_program,hi,cG,← hl,hl']
theorem Y6 {P:Program} {tb:Tb} (hT:jk P tb) {w:World} {g:Gh} {H:Nat->Blk} {U:Nat->Prop} {t:TypeId} {td:TD} (ht:tb t=some td) {cs:List AV} {r o f:Nat} {κ:AV->Option R} {x:R} {vs:List Value}
  (h:kF td cs f κ=some x) (hr:RF (mem w) g H U cs vs) (hm:∀ j v,vs[j]? = some v->mem w r (o+j)=some v) :
  ∃ z av,(loadVar t ⟨r,o+f,none⟩).run P w = .ok z w∧κ av=some x∧RAV (mem w) g H U av z:=by
 obtain⟨⟨i,hi,hsz,-⟩,-⟩:=hT t td ht;rcases Vr (w:=w) hT ht h hr with ⟨hag,v,a,hv,hk,ha⟩ | ⟨hag,hle,a,hk,ha⟩
 ·have hv':w.cell? ⟨r,o+f,none⟩=some v:=hm f v hv;exact ⟨v,a,by simp [loadVar,hag,hv'],hk,ha⟩
 ·refine ⟨_,a,K2 hi hag (by rw[cH,bq,hsz]; omega) (fun j v hv => ?_),hk,ha⟩
  rw[bz] at hv;split at hv
  ·rw[bu] at hv;rw[bK];exact hm _ v hv
  ·cases hv
theorem GL {P:Program} {tb:Tb} (hT:jk P tb) {w:World} {g:Gh} {H:Nat->Blk} {U:Nat->Prop} {t:TypeId} {td:TD} (ht:tb t=some td) {q r o f:Nat} {ts:Tys} {y:Tup ts} {κ:AV->Option R} {x:R} {T:Reg}
  (h:kF td (xS q ts y) f κ=some x) (hr:RC (mem w) (g.S q) T ts y r o) :
  ∃ z av,(loadVar t ⟨r,o+f,none⟩).run P w = .ok z w∧κ av=some x∧RAV (mem w) g H U av z:=by
 obtain⟨vs,h1,h2⟩:=RC.rv ts hr;exact Y6 hT ht h (RV.rf ts h1) h2
theorem Z1 {c:Mem} {A T:Reg} {ts:Tys} {xs:List (Tup ts)} {r o:Nat} (h:Elems xs fun i x=>RC c A T ts x r (o+i*ts.size)):∃ cs,SV c A ts xs cs∧∀ j v,cs[j]? = some v->c r (o+j)=some v:=by
 refine ⟨(aL (xs.length*ts.size)).map fun j=>(c r (o+j)).getD undef,⟨by simp,h.imp fun i x hi hx => ?_⟩,fun j v hv => ?_⟩
 ·obtain⟨vs,h1,h2⟩:=RC.rv ts hx;have hl:=RV.length ts h1;have hlt:(i+1)*ts.size<=xs.length*ts.size:=aS _ hi;rw[bf,cj] at hlt;have:(((aL (xs.length*ts.size)).map fun j=>(c r (o+j)).getD undef).drop (i*ts.size)).take ts.size=vs:=by
   apply db;intro j;rw[bz];split
   ·rename_i hj;rw[bu,bh,dg (by omega)]
    have hv:=h2 j vs[j] (al (by omega))
    rw[bD,← bK,hv,al (by omega)]
    rfl
   ·rw[aQ (by omega)]
  rw[this];exact h1
 ·rw[bh] at hv;have hj:j<xs.length*ts.size:=by
   rcases bG j (xs.length*ts.size) with h' | h'
   ·exact h'
   ·rw[aQ (by simpa using h')] at hv; cases hv
  rw[dg hj,bD] at hv;injection hv with hv;obtain⟨-,u,hu,-⟩:=Fs h hj;rw[hu] at hv ⊢;rw[← hv]; rfl
theorem Cu {c:Mem} {g:Gh} {H:Nat->Blk} {U:Nat->Prop} {cs:List AV} {o sz:Nat} {α:Type} {κ:List AV->Nat->(ts:Tys)->Nat->List (Tup ts)->List AV->Option α} {x:α} {vs:List Value}
  (h:zaO cs o sz κ=some x) (hr:RF c g H U cs vs):∃ l q ts n xs rest us,κ l q ts n xs rest=some x∧ts.size=sz∧xs.length=n∧RF c g H U l (vs.take o)∧tY l=o∧SV c (g.S q) ts xs us∧o+us.length<=vs.length ∧
   (vs.drop o).take us.length=us∧RF c g H U rest (vs.drop (o+us.length)):=by
 unfold zaO at h;obtain⟨p,hp,h⟩:=ah.1 h;obtain⟨-,h1,h2,h3,h4⟩:=hr.split hp;split at h
 ·rename_i q ts n xs rest hq;cases hb:aA ts.size sz with
  | false=>rw[hb] at h; cases h
  | true =>
   rw[hb,cond_true] at h;rw[hq] at h4;simp only[RF] at h4;obtain⟨v,us,ws,he,hv,hus,hws⟩:=h4;obtain⟨hn,us',rfl,hs⟩:=hv;have hus:us=us'.toList:=hus;subst hus;have hlen:=congrArg af he;rw[am,bq] at hlen;refine ⟨p.1,q,ts,n,xs,rest,us'.toList,h,au hb,hn,h3,h1,hs,by omega,by rw[he,c6 (aC _),dW],?_⟩
   rw[← cf,he,dB (aC _),List.drop_length,bl];exact hws
 ·cases h
theorem Ja {P:Program} {tb:Tb} (hT:jk P tb) {X:Fx} {w:World} {g:Gh} {H hv:Nat->Blk} {Z:Nat->Bool} {U:Nat->Prop} (hm:MemOk X g H Z U w) (hh:∀ b,hv b = .dead∨hv b=H b) {t:TypeId} {p:AV} {v:Value} {κ:AV->Option R} {x:R}
  (h:XL tb hv t p κ=some x) (hp:RAV (mem w) g H U p v):∃ z av,(dX t v).run P w = .ok z w∧κ av=some x∧RAV (mem w) g H U av z:=by
 simp only[XL,ah] at h;obtain⟨td,ht,h⟩:=h;cases p with
 | ptr b o =>
  simp only at h;split at h
  ·rename_i cs hx;have hx':H b = .cells cs:=by rcases hh b with h' | h'<;>rw[hx] at h'; cases h'; exact h'.symm
   simp only[RAV,hx',RPtr] at hp;obtain⟨-,-,r,hr,rfl⟩:=hp;have hb:=hm.blk b;rw[hx'] at hb;simp only[RBlk] at hb;obtain⟨r',c,e,hr',hw,hl⟩:=hb;rw[hr] at hr'; injection hr' with hr'; subst hr';obtain⟨z,av,h1,h2,h3⟩:=Y6 hT ht (r:=r) (o:=0) (f:=o) (w:=w) (H:=H) (U:=U) h hl (fun j v hv=>by rw[zB hw]; simpa using hv)
   rw[aP] at h1;exact ⟨z,av,by simp [dX,c8,h1],h2,h3⟩
  ·cases h
 | cptr b o k sz f =>
  simp only at h;split at h
  ·rename_i cs hx;have hx':H b = .cells cs:=by rcases hh b with h' | h'<;>rw[hx] at h'; cases h'; exact h'.symm
   simp only[RAV,hx',RPtr] at hp;obtain⟨-,-,r,hr,rfl⟩:=hp;have hb:=hm.blk b;rw[hx'] at hb;simp only[RBlk] at hb;obtain⟨r',c,e,hr',hw,hl⟩:=hb;rw[hr] at hr'; injection hr' with hr'; subst hr';obtain⟨l,q,ts,n,xs,rest,us,h',rfl,hn,-,-,hs,hle,hus,-⟩:=Cu h hl;clear h;obtain⟨y,hy,h⟩:=ah.1 h';clear h';have hk:k<xs.length:=by
    rcases bG k xs.length with h' | h'
    ·exact h'
    ·rw[aQ h'] at hy; cases hy
   have hkl:(k+1)*ts.size<=xs.length*ts.size:=aS _ hk;rw[bf,cj] at hkl;obtain⟨z,av,h1,h2,h3⟩:=Y6 hT ht (r:=r) (o:=o+k*ts.size) (f:=f) (w:=w) (H:=H) (U:=U) h (RV.rf ts (hs.2 k y hy)) (fun j v hv=>by
    rw[zB hw,← aV];rw[bz] at hv;split at hv
    ·rename_i hj;rw[bu,← hus,bz,if_pos (by rw[hs.1]; omega),bu] at hv
     rw[bK]; exact hv
    ·cases hv)
   exact ⟨z,av,by simp [dX,c8,h1],h2,h3⟩
  ·cases h
 | sptr b i f =>
  simp only at h;split at h
  ·rename_i q ts xs hx;have hx':H b = .seq q ts xs:=by rcases hh b with h' | h'<;>rw[hx] at h'; cases h'; exact h'.symm
   simp only[RAV,hx',RSptr] at hp;obtain⟨r,hr,rfl⟩:=hp.2.2;have hb:=hm.blk b;rw[hx'] at hb;simp only[RBlk] at hb;rcases hb with ⟨hn,-⟩ | ⟨r',c,e,hr',hw,hle,hel⟩
   ·rw[hr] at hn; cases hn
   ·rw[hr] at hr'; injection hr' with hr'; subst hr';cases ha:td.isArr with
    | false =>
     rw[ha,cond_false] at h;obtain⟨y,hy,h⟩:=ah.1 h;obtain⟨z,av,h1,h2,h3⟩:=GL hT ht (r:=r) (o:=i*ts.size) (f:=f) (w:=w) (g:=g) (H:=H) (U:=U) h (hel i y hy);exact ⟨z,av,by simp [dX,c8,h1],h2,h3⟩
    | true =>
     rw[ha,cond_true] at h;cases hif:aA i 0&&aA f 0 with
     | false=>rw[hif] at h; cases h
     | true =>
      rw[hif,cond_true] at h;simp only[ay] at hif;have hi:=au hif.1;have hf:=au hif.2;subst hi; subst hf;cases td with
      | arr e' us n =>
       simp only[zcl] at h;cases hc:aA ts.size us.size&&aA xs.length n with
       | false=>rw[hc] at h; cases h
       | true =>
        rw[hc,cond_true] at h;simp only[ay] at hc;have h1:=au hc.1;have h2:=au hc.2;obtain⟨⟨ti,hti,hsz,-⟩,hu,-⟩:=hT t _ ht;obtain⟨cells,hsv,hcells⟩:=Z1 (r:=r) (o:=0) (by simpa using hel)
        have hl:cells.length=ti.size:=by rw[hsv.1,hsz,h2,h1]; rfl
        have hrun:=K2 (P:=P) (w:=w) (r:=r) (o:=0) hti (by simp [isAgg,run_underlying hu]) hl hcells
        refine ⟨.agg cells.toArray,_,?_,h,h2,_,rfl,hsv⟩;simp [dX,c8,hrun]
      | _=>cases ha
  ·cases h
 | eptr q ts y f =>
  simp only at h;simp only[RAV] at hp;obtain⟨b,o,rfl,hr⟩:=hp;obtain⟨z,av,h1,h2,h3⟩:=GL hT ht (r:=b) (o:=o) (f:=f) (w:=w) (g:=g) (H:=H) (U:=U) h hr;exact ⟨z,av,by simp [dX,c8,h1],h2,h3⟩
 | unk=>simp at h
 | val _ _ _=>simp at h
 | agg _=>simp at h
 | tup _=>simp at h
 | nilv=>simp at h
 | view _=>simp at h
 | part _ _ _=>simp at h
 | clo _ _=>simp at h
theorem Ky {P:Program} {tb:Tb} (hT:jk P tb) {s:TypeId} {td:TD} (hs:tb s=some td) {f:Nat} {q:TypeId×Nat} (h:Wt td f=some q) :
  ∃ fields fd i,P.underlying s=some (.struct fields)∧fields[f]? = some fd∧fd.type=q.1∧fd.offset=q.2∧P.info? fd.type=some i∧i.size≠0:=by
 cases td with
 | st fs n =>
  simp only[Wt] at h;obtain⟨-,fields,hu,rfl,hok,-⟩:=hT s _ hs;rw[bh] at h;cases hf:fields.toList[f]? with
  | none=>simp [hf] at h
  | some fd =>
   simp only[hf,bD,aq] at h;subst h;obtain⟨-,i,hi,h0⟩:=hok fd (List.mem_of_getElem? hf);exact ⟨fields,fd,i,hu,by simpa using hf,rfl,rfl,hi,h0⟩
 | _=>simp [Wt] at h
theorem V6 {P:Program} {tb:Tb} (hT:jk P tb) {w:World} {g:Gh} {H hv:Nat->Blk} {U:Nat->Prop} (hh:∀ b,hv b = .dead∨hv b=H b) {s:TypeId} {p:AV} {f:Nat} {v:Value} {κ:AV->Option R} {x:R}
  (h:sJ tb hv s p f κ=some x) (hp:RAV (mem w) g H U p v):(∃ z av,(fV s v f).run P w = .ok z w∧κ av=some x∧RAV (mem w) g H U av z):=by
 simp only[sJ,ah] at h;obtain⟨td,ht,q,hq,h⟩:=h;obtain⟨fields,fd,i,hu,hf,-,hoff,hi,h0⟩:=Ky hT ht hq;have run:∀ b o,(fV s (.pointer (some ⟨b,o,none⟩)) f).run P w = .ok (.pointer (some ⟨b,o+q.2,none⟩)) w:=fun b o=>by
  have:((⟨b,o,none⟩:Addr).add fd.offset)=⟨b,o+q.2,none⟩:=by rw[dF,hoff]
  simp [fV,run_underlying hu,hf,c8,fieldPlace,sizeOf,typeInfo,hi,h0,this]
 cases p with
 | ptr b o =>
  simp only at h;split at h
  ·rename_i cs hx;have hx':H b = .cells cs:=by rcases hh b with h' | h'<;>rw[hx] at h'; cases h'; exact h'.symm
   simp only[RAV,hx',RPtr] at hp;obtain⟨hu,-,r,hr,rfl⟩:=hp;exact ⟨_,_,run r o,h,hu,rfl,by rw[hx']; exact ⟨r,hr,rfl⟩⟩
  ·cases h
 | cptr b o k sz h0 =>
  simp only at h;split at h
  ·rename_i cs hx;have hx':H b = .cells cs:=by rcases hh b with h' | h'<;>rw[hx] at h'; cases h'; exact h'.symm
   simp only[RAV,hx',RPtr] at hp;obtain⟨hu,-,r,hr,rfl⟩:=hp;exact ⟨_,_,run r (o+k*sz+h0),h,hu,rfl,by rw[hx']; exact ⟨r,hr,by rw[bK]⟩⟩
  ·cases h
 | sptr b i' g' =>
  simp only at h;split at h
  ·rename_i q' ts xs hx;have hx':H b = .seq q' ts xs:=by rcases hh b with h' | h'<;>rw[hx] at h'; cases h'; exact h'.symm
   simp only[RAV,hx',RSptr] at hp;obtain⟨hu,-,r,hr,rfl⟩:=hp;exact ⟨_,_,run r _,h,hu,rfl,by rw[hx']; exact ⟨r,hr,by rw[bK]⟩⟩
  ·cases h
 | eptr q' ts y h' =>
  simp only[RAV] at hp;obtain⟨b,o,rfl,hr⟩:=hp;exact ⟨_,_,run b (o+h'),h,b,o,by rw[bK],hr⟩
 | unk=>simp at h
 | val _ _ _=>simp at h
 | agg _=>simp at h
 | tup _=>simp at h
 | nilv=>simp at h
 | view _=>simp at h
 | part _ _ _=>simp at h
 | clo _ _=>simp at h
theorem KN {_P:Program} {w:World} {g:Gh} {H hv:Nat->Blk} {U:Nat->Prop} (hh:∀ b,hv b = .dead∨hv b=H b) {p:AV} {v:Value} {κ:AV->Option R} {x:R}
  (h:xl hv p κ=some x) (hp:RAV (mem w) g H U p v):∃ a,v = .pointer (some a)∧∃ av,κ av=some x∧RAV (mem w) g H U av v:=by
 cases p with
 | ptr b o =>
  simp only[xl] at h;split at h
  ·rename_i cs hx;have hx':H b = .cells cs:=by rcases hh b with h' | h'<;>rw[hx] at h'; cases h'; exact h'.symm
   have hp':=hp;simp only[RAV,hx',RPtr] at hp;obtain⟨hu,-,r,hr,rfl⟩:=hp;exact ⟨_,rfl,_,h,hp'⟩
  ·cases h
 | cptr b o k sz f =>
  simp only[xl] at h;split at h
  ·rename_i cs hx;have hx':H b = .cells cs:=by rcases hh b with h' | h'<;>rw[hx] at h'; cases h'; exact h'.symm
   have hp':=hp;simp only[RAV,hx',RPtr] at hp;obtain⟨hu,-,r,hr,rfl⟩:=hp;exact ⟨_,rfl,_,h,hp'⟩
  ·cases h
 | sptr b i' g' =>
  simp only[xl] at h;split at h
  ·rename_i q' ts xs hx;have hx':H b = .seq q' ts xs:=by rcases hh b with h' | h'<;>rw[hx] at h'; cases h'; exact h'.symm
   have hp':=hp;simp only[RAV,hx',RSptr] at hp;obtain⟨hu,-,r,hr,rfl⟩:=hp;exact ⟨_,rfl,_,h,hp'⟩
  ·cases h
 | eptr q' ts y h' =>
  have hp':=hp;simp only[RAV] at hp;obtain⟨b,o,rfl,hr⟩:=hp;exact ⟨_,rfl,_,h,hp'⟩
 | unk=>simp [xl] at h
 | val _ _ _=>simp [xl] at h
 | agg _=>simp [xl] at h
 | tup _=>simp [xl] at h
 | nilv=>simp [xl] at h
 | view _=>simp [xl] at h
 | part _ _ _=>simp [xl] at h
 | clo _ _=>simp [xl] at h
theorem Gj {P:Program} {tb:Tb} (hT:jk P tb) {w:World} {c:Mem} {g:Gh} {H:Nat->Blk} {U:Nat->Prop} {t:TypeId} {td:TD} (ht:tb t=some td) {cs:List AV} {o:Nat} {vs:Array Value} {κ:AV->Option R} {x:R}
  (h:kF td cs o κ=some x) (hl:RF c g H U cs vs.toList):∃ z av,(part t vs o).run P w = .ok z w∧κ av=some x∧RAV c g H U av z:=by
 obtain⟨⟨i,hi,hsz,-⟩,-⟩:=hT t td ht;rcases Vr (w:=w) hT ht h hl with ⟨hag,v,a,hv,hk,ha⟩ | ⟨hag,hle,a,hk,ha⟩
 ·have hv':vs[o]? = some v:=by simpa using hv
  exact ⟨v,a,by simp [part,hag,hv'],hk,ha⟩
 ·refine ⟨.agg (vs.extract o (o+td.size)),a,?_,hk,?_⟩
  ·simp only[part,cF,hag,b7,if_true,sizeOf,typeInfo,run_program,hi,cG,hsz]
  ·have:vs.extract o (o+td.size)=((vs.toList.drop o).take td.size).toArray:=by
    apply ek;simp [fM,d0]
   rw[this]; exact ha
theorem BA {P:Program} {tb:Tb} (hT:jk P tb) {w:World} {c:Mem} {g:Gh} {H:Nat->Blk} {U:Nat->Prop} {s:TypeId} {p:AV} {f:Nat} {v:Value} {κ:AV->Option R} {x:R}
  (h:KD tb s p f κ=some x) (hp:RAV c g H U p v):(∃ z av,(ig s v f).run P w = .ok z w∧κ av=some x∧RAV c g H U av z):=by
 simp only[KD,ah] at h;obtain⟨td,ht,q,hq,ud,hud,h⟩:=h;obtain⟨fields,fd,i,hu,hf,hty,hoff,hi,h0⟩:=Ky hT ht hq;cases p with
 | agg cs =>
  simp only at h;simp only[RAV] at hp;obtain⟨vs,rfl,hl⟩:=hp;rw[← hty] at hud;obtain⟨z,av,h1,h2,h3⟩:=Gj (w:=w) hT hud h hl;exact ⟨z,av,by simp [ig,run_underlying hu,hf,asAgg,hoff,h1],h2,h3⟩
 | unk=>simp at h
 | val _ _ _=>simp at h
 | ptr _ _=>simp at h
 | cptr _ _ _ _ _=>simp at h
 | sptr _ _ _=>simp at h
 | eptr _ _ _ _=>simp at h
 | tup _=>simp at h
 | nilv=>simp at h
 | view _=>simp at h
 | part _ _ _=>simp at h
 | clo _ _=>simp at h
theorem Vv {α:Type} {xs:List α} {i:Int} {y:α} (h:gx xs i=some y):0<=i∧i<xs.length∧xs[i.toNat]? = some y:=by
 unfold gx at h;by_cases h0:0<=i
 ·simp only[h0,decide_true,cond_true] at h;have:i.toNat<xs.length:=by
   rcases bG i.toNat xs.length with h' | h'
   ·exact h'
   ·simp [aQ h'] at h
  exact ⟨h0,by omega,h⟩
 ·simp [h0] at h
theorem QZ {n:Int} {l k:Nat} (h:inR n l=some k):0<=n∧n<l∧k=n.toNat:=by
 unfold inR at h;by_cases h0:0<=n
 ·by_cases h1:n<l
  ·simp [h0,h1] at h; exact ⟨h0,h1,h.symm⟩
  ·simp [h0,h1] at h
 ·simp [h0] at h
theorem Xo {P:Program} {w:World} {t e:TypeId} {i:TypeInfo} (ht:P.underlying t=some (.slice e)) (hi:P.info? e=some i) {b o len cap:Nat} {k:IntKind} {n:Int} (h0:0<=n) (h1:n<len) :
  (d9 t (.slice (some ⟨b,o,none⟩) len cap) (.int k n)).run P w = .ok (.pointer (some ⟨b,o+n.toNat*i.size,none⟩)) w:=by
 simp [d9,asIntOf,run_underlying ht,h0,h1,sizeOf,typeInfo,hi,dF]
theorem rh {P:Program} {w:World} {t e:TypeId} {ie:TypeInfo} {l:Nat} (hu:P.underlying t=some (.array l e)) (hie:P.info? e=some ie) {b o:Nat} {k:IntKind} {n:Int} (h0:0<=n) (h1:n<l) :
  (d9 t (.pointer (some ⟨b,o,none⟩)) (.int k n)).run P w = .ok (.pointer (some ⟨b,o+n.toNat*ie.size,none⟩)) w:=by
 simp [d9,asIntOf,run_underlying hu,c8,h0,h1,sizeOf,typeInfo,hie,dF]
theorem VZ {P:Program} {tb:Tb} (hT:jk P tb) {X:Fx} {w:World} {g:Gh} {H hv:Nat->Blk} {Z:Nat->Bool} {U:Nat->Prop} (_hm:MemOk X g H Z U w) (hh:∀ b,hv b = .dead∨hv b=H b) {t:TypeId} {a i:AV} {v u:Value} {κ:AV->Option R} {x:R}
  (h:sF tb hv t a i κ=some x) (ha:RAV (mem w) g H U a v) (hi:RAV (mem w) g H U i u):(∃ z av,(d9 t v u).run P w = .ok z w∧κ av=some x∧RAV (mem w) g H U av z):=by
 unfold sF at h;split at h
 ·rename_i e us bytes q0 k n ht;obtain⟨-,hu,ie,z0,hie,hsz,-,-,-⟩:=hT t _ ht;simp only[RAV,RVal,RE] at hi;subst hi;have szOf:∀{ts:Tys} {y:Option R},cond (aA ts.size us.size) y none=some x->ie.size=ts.size∧y=some x:=by
   intro ts y h;cases hb:aA ts.size us.size with
   | false=>simp [hb] at h
   | true=>simp only[hb,cond_true] at h; exact ⟨by rw[hsz]; simpa using (Eq.symm (by simpa using hb:ts.size=us.size)),h⟩
  have elem:∀{q:Nat} {ts:Tys} {xs:List (Tup ts)} {y:Tup ts} {b o cap:Nat},ie.size=ts.size->gx xs n=some y->(Elems xs fun i x=>RC (mem w) (g.S q) (g.S q) ts x b (o+i*ts.size))->κ (.eptr q ts y 0)=some x ->
    (∃ z av,(d9 t (.slice (some ⟨b,o,none⟩) xs.length cap) (.int k n)).run P w = .ok z w∧κ av=some x∧RAV (mem w) g H U av z):=by
   intro q ts xs y b o cap hts hy hel h;obtain⟨h0,h1,hy⟩:=Vv hy;exact ⟨_,_,Xo hu hie h0 h1,h,b,o+n.toNat*ie.size,rfl,by rw[hts]; exact hel _ y hy⟩
  split at h
  ·rename_i q ts xs;obtain⟨hts,h⟩:=szOf h;simp only[ah] at h;obtain⟨y,hy,h⟩:=h;simp only[RAV,RVal,RE] at ha;obtain⟨ad,cap,rfl,hcap,hx⟩:=ha;rcases hx with hx | ⟨b,o,rfl,hel⟩
   ·have:=(Vv hy).2.2; rw[hx] at this; simp at this
   ·exact elem hts hy hel h
  ·rename_i q ts o;obtain⟨hts,h'⟩:=szOf h;clear h;simp only[ah] at h';obtain⟨y,hy,h⟩:=h';simp only[RAV,RVal] at ha;cases o with
   | none=>have:=(Vv hy).2.2; simp at this
   | some xs =>
    simp only[RE] at ha;obtain⟨ad,cap,rfl,hcap,hx⟩:=ha;rcases hx with hx | ⟨hs,hel⟩
    ·have:=(Vv hy).2.2; rw[hx] at this; simp at this
    ·obtain⟨b,o,s⟩:=ad;dsimp only at hs hel;subst hs;exact elem hts hy hel h
  ·rename_i b;split at h
   ·rename_i q ts xs hx;have hx':H b = .seq q ts xs:=by rcases hh b with h' | h'<;>rw[hx] at h'; cases h'; exact h'.symm
    obtain⟨hts,h⟩:=szOf h;simp only[ah] at h;obtain⟨j,hj,h⟩:=h;obtain⟨h0,h1,rfl⟩:=QZ hj;simp only[RAV,hx',RView] at ha;obtain⟨hU,-,ad,cap,rfl,hcap,hc⟩:=ha;rcases hc with rfl | ⟨r,hr,rfl,hc⟩
    ·omega
    ·refine ⟨_,_,Xo hu hie h0 h1,h,hU,rfl,?_⟩;rw[hx'];exact ⟨r,hr,by rw[hts]; simp⟩
   ·cases h
  ·rename_i b o l;split at h
   ·rename_i q ts xs hx;have hx':H b = .seq q ts xs:=by rcases hh b with h' | h'<;>rw[hx] at h'; cases h'; exact h'.symm
    obtain⟨hts,h⟩:=szOf h;simp only[ah] at h;obtain⟨j,hj,h⟩:=h;obtain⟨h0,h1,rfl⟩:=QZ hj;simp only[RAV,hx',RPart] at ha;obtain⟨hU,-,hle,ad,cap,rfl,hcap,hc⟩:=ha;rcases hc with rfl | ⟨r,hr,rfl,-,hc⟩
    ·omega
    ·refine ⟨_,_,Xo hu hie h0 h1,h,hU,rfl,?_⟩;rw[hx'];exact ⟨r,hr,by rw[hts,bf]; simp⟩
   ·cases h
  ·cases h
 ·rename_i e us l q0 k n ht;obtain⟨-,hu,⟨ie,hie,hsz⟩,-⟩:=hT t _ ht;simp only[RAV,RVal,RE] at hi;subst hi;split at h
  ·rename_i b;split at h
   ·rename_i q ts xs hx;have hx':H b = .seq q ts xs:=by rcases hh b with h' | h'<;>rw[hx] at h'; cases h'; exact h'.symm
    cases hb:aA ts.size us.size with
    | false=>rw[hb] at h; cases h
    | true =>
     rw[hb,cond_true] at h;have hts:ie.size=ts.size:=by rw[hsz]; exact (au hb).symm
     obtain⟨j,hj,h⟩:=ah.1 h;obtain⟨h0,h1,rfl⟩:=QZ hj;simp only[RAV,hx',RSptr] at ha;obtain⟨hU,-,r,hr,rfl⟩:=ha;refine ⟨_,_,rh hu hie h0 h1,h,hU,rfl,?_⟩;rw[hx'];exact ⟨r,hr,by rw[hts]; simp⟩
   ·cases h
  ·rename_i b o;split at h
   ·rename_i cs hx;have hx':H b = .cells cs:=by rcases hh b with h' | h'<;>rw[hx] at h'; cases h'; exact h'.symm
    obtain⟨j,hj,h⟩:=ah.1 h;obtain⟨h0,h1,rfl⟩:=QZ hj;simp only[RAV,hx',RPtr] at ha;obtain⟨hU,-,r,hr,rfl⟩:=ha;refine ⟨_,_,rh hu hie h0 h1,h,hU,rfl,?_⟩;rw[hx'];exact ⟨r,hr,by rw[hsz,dk]⟩
   ·cases h
  ·cases h
 ·rename_i e q l q0 k n ht;obtain⟨-,hu,ie,hie,hsz⟩:=hT t _ ht;simp only[RAV,RVal,RE] at hi;subst hi;obtain⟨j,hj,h'⟩:=ah.1 h;clear h;have h:=h';clear h';obtain⟨h0,h1,rfl⟩:=QZ hj;clear hj;split at h
  ·rename_i b i f;split at h
   ·rename_i q' ts xs hx;have hx':H b = .seq q' ts xs:=by rcases hh b with h' | h'<;>rw[hx] at h'; cases h'; exact h'.symm
    simp only[RAV,hx',RSptr] at ha;obtain⟨hU,-,r,hr,rfl⟩:=ha;refine ⟨_,_,rh hu hie h0 h1,h,hU,rfl,?_⟩;rw[hx'];exact ⟨r,hr,by rw[hsz,bK]⟩
   ·cases h
  ·rename_i b o;split at h
   ·rename_i cs hx;have hx':H b = .cells cs:=by rcases hh b with h' | h'<;>rw[hx] at h'; cases h'; exact h'.symm
    simp only[RAV,hx',RPtr] at ha;obtain⟨hU,-,r,hr,rfl⟩:=ha;refine ⟨_,_,rh hu hie h0 h1,h,hU,rfl,?_⟩;rw[hx'];exact ⟨r,hr,by rw[hsz]⟩
   ·cases h
  ·simp only[RAV] at ha;obtain⟨b,o,rfl,hr⟩:=ha;exact ⟨_,_,rh hu hie h0 h1,h,b,o,by rw[hsz,bK],hr⟩
  ·cases h
 ·cases h
theorem Bc {P:Program} {w:World} {t:TypeId} (hu:P.underlying t=some .string) {s:List UInt8} {k:IntKind} {n:Int} {y:UInt8} (h0:0<=n) (hy:s[n.toNat]? = some y) :
  (fb t (.string ⟨s.toArray⟩) (.int k n)).run P w = .ok (.int .u8 y.toNat) w:=by
 have hg:(dE s.toArray)[n.toNat]? = some y:=by
  have hlt:n.toNat<s.length:=by
   rcases bG n.toNat s.length with h' | h'
   ·exact h'
   ·simp [aQ h'] at hy
  have hlt':n.toNat<(dE s.toArray).size:=by simpa[gK] using hlt
  rw[getElem?_pos (c:=dE s.toArray) (i:=n.toNat) (h:=hlt')];rw[al hlt] at hy;exact hy
 simp [fb,asIntOf,run_underlying hu,h0,hg]
theorem VT {P:Program} {w:World} {t e:TypeId} {ie:TypeInfo} {l:Nat} (hu:P.underlying t=some (.array l e)) (hie:P.info? e=some ie) {vs:Array Value} {k:IntKind} {n:Int} (h0:0<=n) (h1:n<l) {z:Value}
  (h:(part e vs (n.toNat*ie.size)).run P w = .ok z w):(fb t (.agg vs) (.int k n)).run P w = .ok z w:=by
 simp [fb,asIntOf,run_underlying hu,h0,h1,sizeOf,typeInfo,hie,h]
theorem Dm {P:Program} {tb:Tb} (hT:jk P tb) {w:World} {c:Mem} {g:Gh} {H:Nat->Blk} {U:Nat->Prop} {t:TypeId} {a i:AV} {v u:Value} {κ:AV->Option R} {x:R}
  (h:KW tb t a i κ=some x) (ha:RAV c g H U a v) (hi:RAV c g H U i u):(∃ z av,(fb t v u).run P w = .ok z w∧κ av=some x∧RAV c g H U av z):=by
 unfold KW at h;split at h
 ·rename_i g1 s g2 k n ht;have hu:=(hT t _ ht).2;simp only[RAV,RVal,RE] at ha hi;subst ha; subst hi;simp only[ah] at h;obtain⟨y,hy,h⟩:=h;obtain⟨h0,h1,hy⟩:=Vv hy;exact ⟨_,_,Bc hu h0 hy,h,rfl⟩
 ·rename_i e us l q ts m xs g2 k n ht;obtain⟨-,hu,⟨ie,hie,hsz⟩,-⟩:=hT t _ ht;cases hc:aA ts.size us.size&&aA m l with
  | false=>rw[hc] at h; cases h
  | true =>
   rw[hc,cond_true] at h;simp only[ay] at hc;have hts:=au hc.1;have hml:=au hc.2;obtain⟨y,hy,h⟩:=ah.1 h;obtain⟨ud,hud,h⟩:=ah.1 h;obtain⟨h0,h1,hy⟩:=Vv hy;simp only[RAV,RVal,RE] at hi;subst hi;obtain⟨hn,vs,rfl,hs⟩:=ha;have hk:n.toNat<xs.length:=by omega
   have hkl:(n.toNat+1)*ts.size<=xs.length*ts.size:=aS _ hk;rw[bf,cj] at hkl;have hud0:ud.size=ts.size:=by
    obtain⟨⟨i',hi',hs',-⟩,-⟩:=hT e ud hud;rw[hie] at hi'; injection hi' with hi'; subst hi';omega
   have hrf:=RV.rf (c:=c) (g:=g) (H:=H) (U:=U) ts (hs.2 _ y hy);have hlen:=RV.length ts (hs.2 _ y hy);obtain⟨⟨i',hi',hs',-⟩,-⟩:=hT e ud hud;rw[hie] at hi'; injection hi' with hi'; subst hi';have hpart:∃ z av,(part e vs (n.toNat*ie.size)).run P w = .ok z w∧κ av=some x∧RAV c g H U av z:=by
    rw[hsz,← hts];rcases Vr (w:=w) hT hud h hrf with ⟨hag,v,a,hv,hk',ha⟩ | ⟨hag,hle,a,hk',ha⟩
    ·have hv':vs[n.toNat*ts.size]? = some v:=by
      rw[bz] at hv;split at hv
      ·rw[bu] at hv; simpa using hv
      ·cases hv
     exact ⟨v,a,by simp [part,hag,hv'],hk',ha⟩
    ·refine ⟨.agg (vs.extract (n.toNat*ts.size) (n.toNat*ts.size+ud.size)),a,?_,hk',?_⟩
     ·simp only[part,cF,hag,b7,if_true,sizeOf,typeInfo,run_program,hie,cG,hsz,← hts,hud0]
     ·have:vs.extract (n.toNat*ts.size) (n.toNat*ts.size+ud.size)=((((vs.toList.drop (n.toNat*ts.size)).take ts.size).drop 0).take ud.size).toArray:=by
       apply ek;simp [fM,d0,hud0,gL]
      rw[this]; exact ha
   obtain⟨z,av,h3,h4,h5⟩:=hpart;exact ⟨z,av,VT hu hie h0 (by rw[← hml,← hn]; exact h1) h3,h4,h5⟩
 ·rename_i e q l cs g2 k n ht;obtain⟨-,hu,ie,hie,hsz⟩:=hT t _ ht;obtain⟨j,hj,h⟩:=ah.1 h;obtain⟨ud,hud,h⟩:=ah.1 h;obtain⟨h0,h1,rfl⟩:=QZ hj;simp only[RAV,RVal,RE] at hi;subst hi;simp only[RAV] at ha;obtain⟨vs,rfl,hl⟩:=ha;rw[← hsz] at h;obtain⟨z,av,h3,h4,h5⟩:=Gj (w:=w) hT hud h hl;exact ⟨z,av,VT hu hie h0 h1 h3,h4,h5⟩
 ·cases h
theorem BT {a:Option AV} {r:Option Int} (h:J9 a=some r):(a=none∧r=none)∨∃ q k n,a=some (.val q (.int k) n)∧r=some n:=by
 unfold J9 at h;split at h
 ·injection h with h; exact .inl ⟨rfl,h.symm⟩
 ·rename_i q k n; injection h with h; exact .inr ⟨q,k,n,rfl,h.symm⟩
 ·cases h
theorem Ii {α:Type} {xs ys:List α} {l h:Int} (e:slc xs l h=some ys):0<=l∧l<=h∧h<=xs.length∧ys=(xs.take h.toNat).drop l.toNat:=by
 unfold slc at e;by_cases h0:0<=l
 ·by_cases h1:l<=h
  ·by_cases h2:h<=(xs.length:Int)
   ·simp [h0,h1,h2] at e; exact ⟨h0,h1,h2,e.symm⟩
   ·simp [h0,h1,h2] at e
  ·simp [h0,h1] at e
 ·simp [h0] at e
theorem GR {P:Program} {w:World} {b:Bool} {len cap:Nat} {lo hi:Option Int} {k1 k2:IntKind} (h0:0<=lo.getD 0) (h1:lo.getD 0<=hi.getD len) (h2:hi.getD len<=cap) :
  (et b len cap (lo.map (dl k1)) (hi.map (dl k2)) none).run P w = .ok ((lo.getD 0).toNat,(hi.getD len).toNat,cap) w:=by
 cases lo with
 | none=>cases hi<;>simp only[cZ,bj] at h0 h1 h2<;>simp [et,fp,asIntOf,h1,h2]
 | some l =>
  cases hi with
  | none=>simp only[cZ,bj] at h0 h1 h2; simp [et,fp,asIntOf,h0,h1]
  | some h =>
   simp only[bj] at h0 h1 h2;have h3:0<=h:=by omega
   have h4:l<=max h 0:=by omega
   simp [et,fp,asIntOf,h0,h2,h3,h4]
theorem Vy {c:Mem} {g:Gh} {H:Nat->Blk} {U:Nat->Prop} {a:Option AV} {v:Option Value} {r:Option Int} (h:J9 a=some r) (hv:∀ x,a=some x->∃ u,v=some u∧RAV c g H U x u) (hn:a=none->v=none) :
  ∃ k,v=r.map (dl k):=by
 rcases BT h with ⟨rfl,rfl⟩ | ⟨q,k,n,rfl,rfl⟩
 ·exact ⟨.i64,hn rfl⟩
 ·obtain⟨u,rfl,hu⟩:=hv _ rfl;simp only[RAV,RVal,RE] at hu;subst hu;exact ⟨k,rfl⟩
theorem KO {α:Type} {xs ys:List α} {lo hi:Option Int} (e:uh xs lo hi=some ys) :
  0<=lo.getD 0∧lo.getD 0<=hi.getD xs.length∧hi.getD xs.length<=xs.length∧ys=(xs.take (hi.getD xs.length).toNat).drop (lo.getD 0).toNat:=by
 cases lo with
 | none =>
  cases hi with
  | none=>simp only[uh,aq] at e; subst e; simp
  | some h=>exact Ii e
 | some l =>
  cases hi with
  | none=>exact Ii e
  | some h=>exact Ii e
theorem Addr.map_add {b o n:Nat}:(some (⟨b,o,none⟩:Addr)).map (·.add n)=some ⟨b,o+n,none⟩:=by simp [dF]
theorem tB {P:Program} {w:World} {t e:TypeId} {ie:TypeInfo} (hu:P.underlying t=some (.slice e)) (hie:P.info? e=some ie) {a:Option Addr} {len cap:Nat} {lo hi:Option Int} {k1 k2:IntKind}
  (h0:0<=lo.getD 0) (h1:lo.getD 0<=hi.getD len) (h2:hi.getD len<=cap) :
  (dN t (.slice a len cap) (lo.map (dl k1)) (hi.map (dl k2)) none).run P w =
   .ok (.slice (if cap=(lo.getD 0).toNat then a else a.map (·.add ((lo.getD 0).toNat*ie.size))) ((hi.getD len).toNat - (lo.getD 0).toNat) (cap - (lo.getD 0).toNat)) w:=by
 simp only[dN,ii,cF,run_underlying hu,b7,GR h0 h1 h2,sizeOf,typeInfo,run_program,hie,cG]
theorem RW {c:Mem} {A:Reg} {ts:Tys} {xs:List (Tup ts)} {a:Option Addr} {cap l n:Nat} (hr:RE c A (.sl ts) xs (.slice a xs.length cap)) (hln:l<=n) (hn:n<=xs.length) :
  RE c A (.sl ts) ((xs.take n).drop l) (.slice (if cap=l then a else a.map (·.add (l*ts.size))) (n - l) (cap - l)):=by
 simp only[RE] at hr ⊢;obtain⟨a',cap',he,hcap,hx⟩:=hr;injection he with h1 h2 h3;subst h1; subst h3;have hlen:((xs.take n).drop l).length=n - l:=by simp; omega
 obtain⟨hcap,hnil⟩:=hcap;refine ⟨_,_,by rw[hlen],⟨by rw[hlen]; omega,fun ha => ?_⟩,?_⟩
 ·by_cases hcl:cap=l
  ·omega
  ·rw[if_neg hcl] at ha;cases a with
   | none=>have:=hnil rfl; omega
   | some a=>cases ha
 rcases hx with rfl | ⟨b,o,rfl,hel⟩
 ·exact .inl (by simp; rfl)
 ·by_cases hcl:cap=l
  ·exact .inl (ba (by rw[hlen]; omega))
  ·rw[if_neg hcl,Addr.map_add];refine .inr ⟨b,_,rfl,((hel.take n).drop l).imp fun i x _ hx => ?_⟩;rw[bf,← bK] at hx;exact hx
theorem AY {c:Mem} {g:Gh} {q b:Nat} {ts:Tys} {xs:List (Tup ts)} {v:Value} {l n:Nat} (hr:RView c g b v (.seq q ts xs)) (hln:l<=n) (hn:n<=xs.length) {k:Nat} (hk:k=ts.size) :
  ∃ a cap,v = .slice a xs.length cap∧n<=cap∧RPart c g b l (n - l) (.slice (if cap=l then a else a.map (·.add (l*k))) (n - l) (cap - l)) (.seq q ts xs):=by
 subst hk;simp only[RView] at hr;obtain⟨a,cap,rfl,hcap,hx⟩:=hr;refine ⟨a,cap,rfl,by omega,?_⟩
 simp only[RPart];refine ⟨by omega,_,_,rfl,by omega,?_⟩
 by_cases hcl:cap=l
 ·exact .inl (by omega)
 ·rcases hx with rfl | ⟨r,hr,rfl,hc⟩
  ·exact .inl (by omega)
  ·rw[if_neg hcl,Addr.map_add];refine .inr ⟨r,hr,by rw[aP],by omega,?_⟩
   rw[show l+(cap - l)=cap from by omega]
   exact hc
theorem D5 {P:Program} {w:World} {t:TypeId} (hu:P.underlying t=some .string) {s:List UInt8} {lo hi:Option Int} {k1 k2:IntKind}
  (h0:0<=lo.getD 0) (h1:lo.getD 0<=hi.getD s.length) (h2:hi.getD s.length<=s.length) :
  (dN t (.string ⟨s.toArray⟩) (lo.map (dl k1)) (hi.map (dl k2)) none).run P w =
   .ok (.string ⟨((s.take (hi.getD s.length).toNat).drop (lo.getD 0).toNat).toArray⟩) w:=by
 have hsz:(dE s.toArray).size=s.length:=by simp [gK]
 have hb:=GR (P:=P) (w:=w) (b:=false) (len:=s.length) (cap:=s.length) (k1:=k1) (k2:=k2) h0 h1 h2;simp only[dN,ii,cF,run_underlying hu,b7,Option.isSome_none,eh,if_false,hsz,hb,cG]
 congr 2
 apply iE;rw[gY];apply ek;simp [d0,eS]
theorem Dl {P:Program} {tb:Tb} (hT:jk P tb) {w:World} {g:Gh} {H hv:Nat->Blk} {U:Nat->Prop} (hh:∀ b,hv b = .dead∨hv b=H b) {t:TypeId} {a:AV} {lo hi mx:Option AV} {v:Value} {lo' hi' mx':Option Value}
  {κ:AV->Option R} {x:R} (h:K5 tb hv t a lo hi mx κ=some x) (ha:RAV (mem w) g H U a v) (hlo:∀ x,lo=some x->∃ u,lo'=some u∧RAV (mem w) g H U x u) (hlo0:lo=none->lo'=none)
  (hhi:∀ x,hi=some x->∃ u,hi'=some u∧RAV (mem w) g H U x u) (hhi0:hi=none->hi'=none) (hmx:mx=none->mx'=none) :
  (∃ z av,(dN t v lo' hi' mx').run P w = .ok z w∧κ av=some x∧RAV (mem w) g H U av z):=by
 unfold K5 at h;split at h
 ·rename_i l l2 hl hl2;obtain⟨k1,rfl⟩:=Vy hl hlo hlo0;obtain⟨k2,rfl⟩:=Vy hl2 hhi hhi0;rw[hmx rfl];split at h
  ·rename_i e us bytes q ts xs ht;obtain⟨-,hu,ie,z0,hie,hsz,-,-,-⟩:=hT t _ ht;cases hb:aA ts.size us.size with
   | false=>simp [hb] at h
   | true =>
    have hts:ts.size=us.size:=by simpa using hb
    simp only[hb,cond_true,ah] at h;obtain⟨ys,hys,h⟩:=h;obtain⟨h0,h1,h2,rfl⟩:=KO hys;simp only[RAV,RVal] at ha;have ha':=ha;simp only[RE] at ha;obtain⟨ad,cap,rfl,hcap,-⟩:=ha;refine ⟨_,_,tB hu hie h0 h1 (fx h2 (f9.2 hcap.1.1)),h,?_⟩;have:=RW (l:=(l.getD 0).toNat) (n:=(l2.getD (af xs)).toNat) ha' (by omega) (by omega)
    rw[hsz,← hts];exact this
  ·rename_i g1 s ht;have hu:=(hT t _ ht).2;simp only[ah] at h;obtain⟨ys,hys,h⟩:=h;obtain⟨h0,h1,h2,rfl⟩:=KO hys;simp only[RAV,RVal,RE] at ha;subst ha;exact ⟨_,_,D5 hu h0 h1 h2,h,rfl⟩
  ·rename_i e us bytes ht;obtain⟨-,hu,ie,z0,hie,hsz,-,-,-⟩:=hT t _ ht;cases hb:eqI (l.getD 0) 0&&eqI (l2.getD 0) 0 with
   | false=>rw[hb] at h; cases h
   | true =>
    rw[hb,cond_true] at h;simp only[ay,Ak] at hb;simp only[RAV] at ha;subst ha;have e2:l2.getD ((0:Nat):Int)=0:=hb.2;have:=tB (w:=w) (a:=none) (len:=0) (cap:=0) (k1:=k1) (k2:=k2) hu hie (lo:=l) (hi:=l2) (by rw[hb.1]; omega) (by rw[hb.1,e2]; omega) (by rw[e2]; omega)
    rw[hb.1,e2] at this;exact ⟨_,_,this,h,rfl⟩
  ·rename_i e us bytes b o n ht;obtain⟨-,hu,ie,z0,hie,hsz,-,-,-⟩:=hT t _ ht;split at h
   ·rename_i q ts xs hx;have hx':H b = .seq q ts xs:=by rcases hh b with h' | h'<;>rw[hx] at h'; cases h'; exact h'.symm
    cases hb:aA ts.size us.size with
    | false=>rw[hb] at h; cases h
    | true =>
     rw[hb,cond_true] at h;have hts:=au hb;unfold FI at h;dsimp only at h;by_cases h0:0<=l.getD 0
     ·by_cases h1:l.getD 0<=l2.getD (n:Int)
      ·by_cases h2:l2.getD (n:Int)<=(n:Int)
       ·rw[decide_eq_true h0,decide_eq_true h1,decide_eq_true h2,cond_true,cond_true,cond_true] at h;simp only[RAV,hx',RPart] at ha;obtain⟨hU,-,hle,ad,cap,rfl,hcap,hc⟩:=ha;refine ⟨_,_,tB hu hie h0 h1 (fx h2 (f9.2 hcap.1)),h,hU,rfl,?_⟩;rw[hx'];refine ⟨by omega,_,_,rfl,by omega,?_⟩
        by_cases hcl:cap=(l.getD 0).toNat
        ·exact .inl (by omega)
        ·rcases hc with rfl | ⟨r,hr,rfl,hl2,hc⟩
         ·exact .inl (by omega)
         ·rw[if_neg hcl,Addr.map_add,hsz,← hts];refine .inr ⟨r,hr,by rw[bf],by omega,?_⟩
          rw[show o+(l.getD 0).toNat+(cap - (l.getD 0).toNat)=o+cap from by omega]
          exact hc
       ·rw[decide_eq_true h0,decide_eq_true h1,decide_eq_false h2] at h; cases h
      ·rw[decide_eq_true h0,decide_eq_false h1] at h; cases h
     ·rw[decide_eq_false h0] at h; cases h
   ·cases h
  ·rename_i e us bytes b ht;obtain⟨-,hu,ie,z0,hie,hsz,-,-,-⟩:=hT t _ ht;split at h
   ·rename_i q ts xs hx;have hx':H b = .seq q ts xs:=by rcases hh b with h' | h'<;>rw[hx] at h'; cases h'; exact h'.symm
    cases hb:aA ts.size us.size with
    | false=>simp [hb] at h
    | true =>
     have hts:ts.size=us.size:=by simpa using hb
     simp only[hb,cond_true] at h;simp only[RAV,hx'] at ha;have main:0<=l.getD 0->l.getD 0<=l2.getD xs.length->l2.getD xs.length<=xs.length->∀ m n,m=(l.getD 0).toNat->n=(l2.getD xs.length).toNat - (l.getD 0).toNat->κ (.part b m n)=some x ->
       (∃ z av,(dN t v (l.map (dl k1)) (l2.map (dl k2)) none).run P w = .ok z w∧κ av=some x∧RAV (mem w) g H U av z):=by
      intro h0 h1 h2 m n hm hn hk;obtain⟨ad,cap,rfl,hcap,hp⟩:=AY (l:=(l.getD 0).toNat) (n:=(l2.getD xs.length).toNat) (k:=ie.size) ha.2.2 (by omega) (by omega) (hsz.trans hts.symm)
      subst hm; subst hn;refine ⟨_,_,tB hu hie h0 h1 (by omega),hk,ha.1,rfl,?_⟩
      rw[hx'];exact hp
     split at h
     ·have hr:=ha.2.2;simp only[RView] at hr;obtain⟨ad,cap,rfl,hcap,hc⟩:=hr;have hz:((none:Option Int).getD 0).toNat=0:=rfl;refine ⟨_,_,tB hu hie (lo:=none) (hi:=none) (by simp) (by simp) (by simpa using hcap.1),h,ha.1,rfl,?_⟩
      have hcap0:(if cap=0 then ad else ad.map (·.add (0*ie.size)))=ad:=by
       split
       ·rfl
       ·cases ad<;>simp [Addr.add_zero']
      rw[hx'];simp only[cZ,Int.toNat_zero,Int.toNat_natCast,eQ,hcap0];exact ⟨ad,cap,rfl,hcap,hc⟩
     ·unfold FI at h;by_cases h0:0<=l.getD 0
      ·by_cases h1:l.getD 0<=l2.getD xs.length
       ·by_cases h2:l2.getD xs.length<=(xs.length:Int)
        ·simp only[h0,h1,h2,decide_true,cond_true,aP] at h;exact main h0 h1 h2 _ _ rfl rfl h
        ·simp [h0,h1,h2] at h
       ·simp [h0,h1] at h
      ·simp [h0] at h
   ·cases h
  ·cases h
 ·cases h
theorem Fu {P:Program} {tb:Tb} (hT:jk P tb) {w:World} {g:Gh} {H hv:Nat->Blk} {U:Nat->Prop} (hh:∀ b,hv b = .dead∨hv b=H b) {t ty:TypeId} {ts:List TypeId} {us:List Value} {a:AV} {v:Value}
  {κ:AV->Option R} {x:R} (h:zb2 tb hv t a κ=some x) (ha:RAV (mem w) g H U a v) :
  (∃ z av,(fy (t::ts).toArray ty (v::us).toArray).run P w = .ok z w∧κ av=some x∧RAV (mem w) g H U av z):=by
 have sl:∀{e:TypeId} {b:Option Addr} {n c:Nat},P.underlying t=some (.slice e)->(fy (t::ts).toArray ty ((.slice b n c)::us).toArray).run P w = .ok (goInt n) w:=fun hu=>by
  simp [fy,run_underlying hu]
 unfold zb2 at h;split at h
 ·rename_i e us' bytes q ts' xs ht;have hu:=(hT t _ ht).2.1;simp only[RAV,RVal,RE] at ha;obtain⟨ad,cap,rfl,-⟩:=ha;exact ⟨_,_,sl hu,h,rfl⟩
 ·rename_i e us' bytes q ts' o ht;have hu:=(hT t _ ht).2.1;simp only[RAV,RVal] at ha;cases o with
  | none=>simp only[RE] at ha; subst ha; exact ⟨_,_,sl hu,h,rfl⟩
  | some xs=>simp only[RE] at ha; obtain⟨ad,cap,rfl,-⟩:=ha; exact ⟨_,_,sl hu,h,rfl⟩
 ·rename_i q s ht;have hu:=(hT t _ ht).2;simp only[RAV,RVal,RE] at ha;subst ha;exact ⟨_,_,by simp [fy,run_underlying hu]; rfl,h,rfl⟩
 ·rename_i e us' bytes ht;have hu:=(hT t _ ht).2.1;simp only[RAV] at ha;subst ha;exact ⟨_,_,sl hu,h,rfl⟩
 ·rename_i e us' bytes b ht;have hu:=(hT t _ ht).2.1;split at h
  ·rename_i q ts' xs hx;have hx':H b = .seq q ts' xs:=by rcases hh b with h' | h'<;>rw[hx] at h'; cases h'; exact h'.symm
   simp only[RAV,hx',RView] at ha;obtain⟨-,-,ad,cap,rfl,-⟩:=ha;exact ⟨_,_,sl hu,h,rfl⟩
  ·cases h
 ·rename_i e us' bytes b o n ht;have hu:=(hT t _ ht).2.1;split at h
  ·rename_i q ts' xs hx;have hx':H b = .seq q ts' xs:=by rcases hh b with h' | h'<;>rw[hx] at h'; cases h'; exact h'.symm
   simp only[RAV,hx',RPart] at ha;obtain⟨-,-,-,ad,cap,rfl,-⟩:=ha;exact ⟨_,_,sl hu,h,rfl⟩
  ·cases h
 ·cases h
theorem ShowIn.top {g:Gh} {H:Nat->Blk} {bs:List Nat}:ShowIn g H (fun _ _=>True) bs:=⟨fun _ _ _ _ _ _ _ _ _ _=>trivial⟩
theorem getD_some (ns:List Int) {i:Nat} (h:i<ns.length):ns[i]? = some (ns.getD i 0):=by
 rw[aE,al h]; rfl
theorem AD {P:Program} {tb:Tb} (hT:jk P tb) {X:Fx} {w:World} {g:Gh} {H hv:Nat->Blk} {Z:Nat->Bool} {U:Nat->Prop} (hm:MemOk X g H Z U w) (hh:∀ b,hv b = .dead∨hv b=H b) {fz:Nat} {src dst:TypeId} {a:AV} {v:Value}
  {κ:AV->Option R} {x:R} (h:B6 tb hv fz src dst a κ=some x) (ha:RAV (mem w) g H U a v) :
  (∃ z av,(convert src dst v).run P w = .ok z w∧κ av=some x∧RAV (mem w) g H U av z):=by
 unfold B6 at h;split at h
 ·rename_i k0 k q k' n hs hd;have hsu:=(hT src _ hs).2;have hdu:=(hT dst _ hd).2;simp only[RAV,RVal,RE] at ha;subst ha;exact ⟨_,_,by simp [convert,run_underlying hsu,run_underlying hdu,Conv.intToInt],h,rfl⟩
 ·rename_i k0 q k' n hs hd;have hsu:=(hT src _ hs).2;have hdu:=(hT dst _ hd).2;simp only[RAV,RVal,RE] at ha;subst ha;exact ⟨_,_,by simp [convert,run_underlying hsu,run_underlying hdu,Conv.intToFloat],h,rfl⟩
 ·rename_i k q b hs hd;have hsu:=(hT src _ hs).2;have hdu:=(hT dst _ hd).2;simp only[RAV,RVal,RE] at ha;subst ha;obtain⟨n,hn,h⟩:=ah.1 h;exact ⟨_,_,run_convert_float_int w src dst .f64 k b n (by rw[hsu]; rfl) hdu hn,h,rfl⟩
 ·rename_i q s hs hd;have hsu:=(hT src _ hs).2;have hdu:=(hT dst _ hd).2;simp only[RAV,RVal,RE] at ha;subst ha;exact ⟨_,_,by simp [convert,run_underlying hsu,run_underlying hdu],h,rfl⟩
 ·rename_i e ts bytes hs hd;have hsu:=(hT src _ hs).2.1;have hdu:=(hT dst _ hd).2;split at h
  ·rename_i he;have heu:=(hT e _ he).2;obtain⟨⟨k,ns⟩,hy,h⟩:=ah.1 h;have hr:=WV (fun _ _=>True) hy hh hm.blk ha (fun _ _ _ _ _=>trivial) ShowIn.top;simp only[RVal,RE] at hr;obtain⟨ad,cap,rfl,hcap,hx⟩:=hr;refine ⟨.string (strOfNums ns),_,?_,h,?_⟩
   ·rcases hx with hx | ⟨b,o,rfl,hel⟩
    ·have hx':ns=([]:List Int):=hx;subst hx';cases ad with
     | none=>simp [convert,run_underlying hsu,run_underlying hdu,run_underlying heu,f5]; rfl
     | some ad =>
      simp [convert,run_underlying hsu,run_underlying hdu,run_underlying heu,f5,loadCells];rfl
    ·refine run_convert_bytes_arg w src e hsu heu b o _ cap ns rfl (fun i hi => ?_) dst hdu;have:=hel i (List.getD (α:=Int) ns i 0) (by
      exact getD_some ns hi)
     simp only[RC,RE,Tys.size,Nat.mul_one] at this;obtain⟨-,u,hu,rfl⟩:=this;exact hu
   ·rfl
  ·cases h
 ·cases h
end
section
variable {R:Type}
theorem RE.cells {t:Ty} {x:El t} {c:Mem} {A:Reg} {v:Value} (h:RE c A t x v):v.cells = #[v]:=by
 have:=RE.oneCell t x v h;cases v<;>first | rfl | cases this
theorem Oh {v:Value} (h:v.oneCell'=true):v.cells = #[v]:=by cases v<;>first | rfl | cases h
theorem RVal.one {c:Mem} {A:Reg} {t:Ty} {x:El t} {v:Value} {k:Nat} (h:RVal c A t x v) (ha:(AV.val k t x).isAr=false):v.oneCell'=true:=by
 cases t with
 | ar _ _=>cases ha
 | _=>exact RE.oneCell (c:=c) (A:=A) _ x v h
theorem jj {c:Mem} {g:Gh} {H:Nat->Blk} {U:Nat->Prop} {a:AV} {v:Value} (h:kT a=true) (hr:RAV c g H U a v):RF c g H U a.cells v.cells.toList:=by
 have one:a.isAr=false->v.oneCell'=true->RF c g H U [a] v.cells.toList:=fun ha hv=>by
  rw[Oh hv]; exact RF.single hr ha
 cases a with
 | agg cs=>simp only[RAV] at hr; obtain⟨vs,rfl,hl⟩:=hr; exact hl
 | unk=>cases h
 | tup _=>cases h
 | val q t x =>
  cases ha:(AV.val q t x).isAr with
  | false=>exact one ha (RVal.one hr ha)
  | true=>exact ⟨v,v.cells.toList,[],by simp,hr,by rw[ha]; rfl,rfl⟩
 | nilv=>have hr':=hr; simp only[RAV] at hr'; subst hr'; exact one rfl rfl
 | view b=>exact one rfl hr.2.1
 | part b o n=>exact one rfl hr.2.1
 | ptr b o=>exact one rfl hr.2.1
 | cptr b o k sz f=>exact one rfl hr.2.1
 | sptr b i f=>exact one rfl hr.2.1
 | eptr q ts x f=>have hr':=hr; simp only[RAV] at hr'; obtain⟨b,o,rfl,-⟩:=hr'; exact one rfl rfl
 | clo f cs=>have hr':=hr; simp only[RAV] at hr'; obtain⟨vs,rfl,-⟩:=hr'; exact one rfl rfl
theorem RV.one {c:Mem} {A:Reg}:(ts:Tys)->{x:Tup ts}->{vs:List Value}->RV c A ts x vs->∀ v,v∈vs->v.oneCell'=true
 | .one t,x,vs,h,v,hv=>by simp only[RV] at h; obtain⟨u,rfl,h⟩:=h; simp at hv; subst hv; exact RE.oneCell t x v h
 | .cons t ts,x,vs,h,v,hv=>by
  simp only[RV] at h;obtain⟨u,us,rfl,h,h2⟩:=h;rcases aG.1 hv with rfl | hv
  ·exact RE.oneCell t x.1 v h
  ·exact RV.one ts h2 v hv
theorem SV.one {c:Mem} {A:Reg} {ts:Tys} {xs:List (Tup ts)} {cs:List Value} (h:SV c A ts xs cs) {v:Value} (hv:v∈cs):v.oneCell'=true:=by
 obtain⟨j,hj,rfl⟩:=List.mem_iff_getElem.1 hv;have hp:=ts.size_pos;have hi:j / ts.size<xs.length:=(fI hp).2 (by rw[← h.1]; exact hj)
 have hr:=h.2 _ _ (al hi);refine RV.one ts hr _ (List.mem_iff_getElem?.2 ⟨j % ts.size,?_⟩);rw[bz,if_pos (fZ _ hp),bu,gk,al hj]
theorem PV {c:Mem} {g:Gh} {H:Nat->Blk} {U:Nat->Prop} {a:AV} {v:Value} (h:zfh a=true) (hr:RAV c g H U a v):∀ u,u∈(cond a.isAr v.cells.toList [v])->u.oneCell'=true:=by
 intro u hu;have one:a.isAr=false->v.oneCell'=true->u.oneCell'=true:=fun ha hv=>by rw[ha] at hu; simp at hu; subst hu; exact hv
 cases a with
 | agg cs=>cases h
 | unk=>cases h
 | tup _=>cases h
 | val q t x =>
  cases ha:(AV.val q t x).isAr with
  | false=>exact one ha (RVal.one hr ha)
  | true =>
   obtain⟨k,ts,n,xs,he⟩:=AV.isAr_iff.1 ha;cases he
   obtain⟨-,vs,rfl,hs⟩:=hr;exact hs.one hu
 | nilv=>simp only[RAV] at hr; subst hr; exact one rfl rfl
 | view b=>exact one rfl hr.2.1
 | part b o n=>exact one rfl hr.2.1
 | ptr b o=>exact one rfl hr.2.1
 | cptr b o k sz f=>exact one rfl hr.2.1
 | sptr b i f=>exact one rfl hr.2.1
 | eptr q ts x f=>simp only[RAV] at hr; obtain⟨b,o,rfl,-⟩:=hr; exact one rfl rfl
 | clo f cs=>simp only[RAV] at hr; obtain⟨vs,rfl,-⟩:=hr; exact one rfl rfl
theorem IY {c:Mem} {g:Gh} {H:Nat->Blk} {U:Nat->Prop}:{as:List AV}->{vs:List Value}->as.all zfh=true->RF c g H U as vs->∀ v,v∈vs->v.oneCell'=true
 | [],_,_,hr,v,hv=>by simp only[RF] at hr; subst hr; cases hv
 | a::as,_,h,hr,v,hv=>by
  simp only[RF] at hr;obtain⟨u,us,ws,rfl,h1,h2,h3⟩:=hr;simp only[bX,ay] at h;rcases List.mem_append.1 hv with hv | hv
  ·rw[h2] at hv; exact PV h.1 h1 v hv
  ·exact IY h.2 h3 v hv
theorem RV.rc {c c':Mem} {A A' T:Reg} (h:∀ b o,A b o->A' b o∧c' b o=c b o):(ts:Tys)->{x:Tup ts}->{vs:List Value}->(b o:Nat)->RV c A ts x vs->(∀ j v,vs[j]? = some v->T b (o+j)∧c' b (o+j)=some v)->RC c' A' T ts x b o
 | .one t,x,_,b,o,hr,hc=>by
  simp only[RV] at hr;obtain⟨v,rfl,hr⟩:=hr;have:=hc 0 v rfl;exact ⟨this.1,v,this.2,RE.mono h t x v hr⟩
 | .cons t ts,x,_,b,o,hr,hc=>by
  simp only[RV] at hr;obtain⟨v,us,rfl,h1,h2⟩:=hr;have:=hc 0 v rfl;refine ⟨⟨this.1,v,this.2,RE.mono h t x.1 v h1⟩,RV.rc h ts b (o+1) h2 fun j u hu => ?_⟩;have:=hc (j+1) u (by simpa using hu)
  rwa [show o+(j+1)=o+1+j from by omega] at this
def Shown (g:Gh) (H:Nat->Blk) (fz:Nat) (bs:List Nat):Prop:=∀ k,Le fz k->ShowIn g H (g.S k) bs
theorem MemOk.shown {X:Fx} {g:Gh} {H:Nat->Blk} {Z:Nat->Bool} {U:Nat->Prop} {w:World} (h:MemOk X g H Z U w) {fz:Nat} (hfz:fz=0∨fz=2) (hB:fz=2->∀ r,X.O r->X.N r) (bs:List Nat) :
  MemOk X (g.show H fz bs) H (wu Z bs) U w∧Mono (mem w) g H U (mem w) (g.show H fz bs) H U∧Shown (g.show H fz bs) H fz bs:=by
 obtain⟨h1,h2,h3,h4⟩:=h.show fz hB bs;refine ⟨h1,h2,fun k hk => ?_⟩;rcases hfz with rfl | rfl
 ·rcases hk with rfl | rfl | ⟨rfl,h⟩
  ·exact h3
  ·exact h3
  ·omega
 ·rcases hk with rfl | rfl | ⟨rfl,h⟩
  ·exact h4 rfl
  ·exact h3
  ·exact h4 rfl
theorem Shown.sub {g:Gh} {H:Nat->Blk} {fz:Nat} {bs cs:List Nat} (h:Shown g H fz bs) (hs:∀ b,b∈cs->b∈bs):Shown g H fz cs:=fun k hk=>(h k hk).sub hs
theorem Yf {g k:Nat} {ts:Tys} {xs:List (Tup ts)} {t:Ty} {x:El t} (h:VV g ts xs t=some (k,x)):k=g:=by
 cases t with
 | sl us=>simp only[VV,ah,aq] at h; obtain⟨y,hy,rfl,rfl⟩:=h; rfl
 | ns us=>simp only[VV,ah,aq] at h; obtain⟨y,hy,z,hz,rfl,rfl⟩:=h; rfl
 | int _=>simp [VV] at h
 | bool=>simp [VV] at h
 | str=>simp [VV] at h
 | cx=>simp [VV] at h
 | fl=>simp [VV] at h
 | ar _ _=>simp [VV] at h
theorem RM {hv:Nat->Blk} {fz k:Nat} {t:Ty} {a:AV} {x:El t} (h:vz hv fz t a=some (k,x)) (hs:a.shows≠[]):Le fz k:=by
 cases a with
 | view b =>
  simp only[vz] at h;split at h
  ·rw[Yf h]; exact jM _ _
  ·cases h
 | part b o n =>
  simp only[vz] at h;split at h
  ·rw[Yf h]; exact jM _ _
  ·cases h
 | _=>exact absurd rfl hs
theorem Cz {X:Fx} {w:World} {g:Gh} {H hv:Nat->Blk} {Z:Nat->Bool} {U:Nat->Prop} (hm:MemOk X g H Z U w) (hh:∀ b,hv b = .dead∨hv b=H b) {fz k k':Nat} {t:Ty} {a:AV} {x:El t} {v:Value}
  (hsh:Shown g H fz a.shows) (h:vz hv fz t a=some (k,x)) (hr:RAV (mem w) g H U a v) (hk:Le k k'):RVal (mem w) (g.S k') t x v:=by
 refine WV (g.S k') h hh hm.blk hr (fun q hq b o hs=>hm.le (hq.trans hk) hs) ?_;by_cases hs:a.shows=[]
 ·rw[hs]; exact ⟨fun b hb=>by cases hb⟩
 ·exact hsh k' ((RM h hs).trans hk)
theorem Pm {hv:Nat->Blk} {fz:Nat} {t:Ty} {a:AV} {p:Nat×El t} (h:vz hv fz t a=some p) (ht:t.flat=true):a.isAr=false:=by
 cases ha:a.isAr with
 | false=>rfl
 | true =>
  obtain⟨k,ts,n,xs,rfl⟩:=AV.isAr_iff.1 ha;simp only[vz] at h;obtain⟨y,hy,-⟩:=ah.1 h;obtain⟨e,-⟩:=yM hy;rw[← e] at ht; cases ht
theorem K1 {X:Fx} {w:World} {g:Gh} {H hv:Nat->Blk} {Z:Nat->Bool} {U:Nat->Prop} (hm:MemOk X g H Z U w) (hh:∀ b,hv b = .dead∨hv b=H b) {fz k k':Nat} {t:Ty} {a:AV} {x:El t} {v:Value}
  (hsh:Shown g H fz a.shows) (h:QH hv fz t a=some (k,x)) (hr:RAV (mem w) g H U a v) (hk:Le k k'):RE (mem w) (g.S k') t x v:=by
 obtain⟨ht,h⟩:=W6 h;exact (RVal.flat ht).1 (Cz hm hh hsh h hr hk)
theorem Q4 {hv:Nat->Blk} {fz:Nat} {t:Ty} {a:AV} {p:Nat×El t} (h:QH hv fz t a=some p):a.isAr=false:=Pm (W6 h).2 (W6 h).1
theorem IV {X:Fx} {w:World} {g:Gh} {H hv:Nat->Blk} {Z:Nat->Bool} {U:Nat->Prop} (hm:MemOk X g H Z U w) (hh:∀ b,hv b = .dead∨hv b=H b) {fz:Nat}:(ts:Tys)->{as:List AV}->{vs:List Value}->{k k':Nat}->{x:Tup ts} ->
  Shown g H fz (yJ as)->Iy hv fz ts as=some (k,x)->RF (mem w) g H U as vs->Le k k'->RV (mem w) (g.S k') ts x vs
 | .one t,[],_,_,_,_,_,h,_,_=>nomatch (show (none:Option (Nat×Tup (.one t)))=_ from h)
 | .one t,_::_::_,_,_,_,_,_,h,_,_=>nomatch (show (none:Option (Nat×Tup (.one t)))=_ from h)
 | .one t,[a],_,k,k',x,hsh,h,hr,hk=>by
  have h:QH hv fz t a=some (k,x):=h;simp only[RF] at hr;obtain⟨v,us,ws,rfl,h1,h2,rfl⟩:=hr;rw[Q4 h,cond_false] at h2;subst h2;exact ⟨v,rfl,K1 hm hh (hsh.sub fun b hb=>uN (List.mem_singleton.2 rfl) hb) h h1 hk⟩
 | .cons t ts,[],_,_,_,_,_,h,_,_=>nomatch (show (none:Option (Nat×Tup (.cons t ts)))=_ from h)
 | .cons t ts,a::as,_,k,k',x,hsh,h,hr,hk=>by
  have h:((QH hv fz t a).bind fun x=>(Iy hv fz ts as).bind fun y=>some (jn x.1 y.1,(x.2,y.2)))=some (k,x):=h;obtain⟨⟨k1,y⟩,hy,h⟩:=ah.1 h;obtain⟨⟨k2,z⟩,hz,h⟩:=ah.1 h;injection h with h;injection h with h1 h2;subst h1; subst h2;simp only[RF] at hr;obtain⟨v,us,ws,rfl,h1,hus,h2⟩:=hr;rw[Q4 hy,cond_false] at hus;subst hus;exact ⟨v,ws,rfl,K1 hm hh (hsh.sub fun b hb=>uN (aj ..) hb) hy h1 ((Ze _ _).trans hk),
   IV hm hh ts (hsh.sub fun b hb=>by
    obtain⟨c,hc,hb⟩:=cY.1 hb;exact uN (ai _ hc) hb) hz h2 ((jM _ _).trans hk)⟩
theorem Ew {X:Fx} {κ:K R} {x:R} {g:Gh} {H:Nat->Blk} {Z:Nat->Bool} {U:Nat->Prop} {w:World} {id:Nat} (hm:MemOk X g H Z U w) (hid:¬ U id) {cs:List AV} {vs:Array Value} {e:TypeId}
  (hk:κ (.ptr id 0) ⟨[(id,.cells cs)],[]⟩=some x) (hr:RF (mem w) g H U cs vs.toList) :
  Post X κ x g H Z U w id (.pointer (some ⟨w.heap.size,0,none⟩)) (w.alloc (.cells vs e)):=by
 have hi:id<=id∧id<id+8:=by omega
 have hmono:=Mono.alloc hm hi hid (.cells vs e) (.cells cs) (some w.heap.size);obtain⟨h1,h2⟩:=hm.alloc hi hid (.cells vs e) (.cells cs) ⟨w.heap.size,vs,e,zx _ _ _,jg _ _,RF.mono hmono _ _ hr⟩;refine ⟨_,_,_,hk,?_,h1,h2⟩;refine ⟨.inr hi,rfl,?_⟩;show RPtr _ _ _ _ (upd H id _ id);rw[zx];exact ⟨w.heap.size,zx _ _ _,rfl⟩
end
section
variable {R:Type}
inductive F2 {α β:Type} (r:α->β->Prop):List α->List β->Prop where
 | nil:F2 r [] []
 | cons {a:α} {b:β} {as:List α} {bs:List β}:r a b->F2 r as bs->F2 r (a::as) (b::bs)
theorem F2.map {α β γ:Type} {r:β->γ->Prop} (f:α->β) (g:α->γ):(l:List α)->(∀ x,x∈l->r (f x) (g x))->F2 r (l.map f) (l.map g)
 | [],_=>.nil
 | x::l,h=>.cons (h x (by simp)) (F2.map f g l fun y hy=>h y (by simp [hy]))
theorem Dn:∀(l:List Value) (off k:Nat) (cs:Array Value),off+k+l.length<=cs.size ->
  ((l.zipIdx k).foldl (fun cs p=>cs.setIfInBounds (off+p.2) p.1) cs).toList=cs.toList.take (off+k)++l++cs.toList.drop (off+k+l.length)
 | [],off,k,cs,_=>by simp
 | v::l,off,k,cs,h=>by
  simp only[ak] at h;rw[dY,dJ,Dn l off (k+1) _ (by simp; omega)]
  have hlt:off+k<cs.toList.length:=by simp; omega
  simp only[Array.toList_setIfInBounds,ak];rw[show off+(k+1)=off+k+1 from by omega,ew (by simpa using hlt)]
  simp only[List.take_set,ey];rw[List.set_eq_of_length_le (by simp; omega),fS (by omega)]
  simp [bK,dj 1]
theorem D2 {place:Nat->Option (Nat×Nat)} {cells:Array Value} {i off size:Nat} {v:Value} {rest:List (Nat×Value)} (hp:place i=some (off,size)) (hs:v.cells.size=size) (ho:off+size<=cells.size) :
  ∃ c',eU place cells ((i,v)::rest)=eU place c' rest∧c'.toList=cells.toList.take off++v.cells.toList++cells.toList.drop (off+size):=by
 subst hs;refine ⟨v.cells.zipIdx.foldl (fun cs (c,j)=>cs.setIfInBounds (off+j) c) cells,?_,?_⟩
 ·have h1:¬(v.cells.size≠v.cells.size∨off+v.cells.size>cells.size):=by omega
  simp only[eU,hp];rw[if_neg (by simpa using ho)]
 ·have:=Dn v.cells.toList off 0 cells (by simpa using ho)
  rw[← Array.foldl_toList];simpa[Array.toList_zipIdx] using this
theorem VJ {c:Mem} {g:Gh} {H:Nat->Blk} {U:Nat->Prop} {cs vs ds:List AV} {o:Nat} (h:setCells cs o vs=some ds) {xs us:List Value} (hx:RF c g H U cs xs) (hu:RF c g H U vs us) :
  o+us.length<=xs.length∧RF c g H U ds (xs.take o++us++xs.drop (o+us.length)):=by
 unfold setCells at h;obtain⟨p,hp,h⟩:=ah.1 h;obtain⟨q,hq,h⟩:=ah.1 h;injection h with h;subst h;obtain⟨-,-,h1,h2,h3⟩:=hx.split hp;rw[hu.length] at hq;obtain⟨-,-,h4,-,h5⟩:=h3.split hq;rw[bq] at h4;rw[cf] at h5;refine ⟨by omega,?_⟩
 rw[aW];exact h2.append (hu.append h5)
theorem Xp {P:Program} {tb:Tb} (hT:jk P tb) {c:Mem} {g:Gh} {H:Nat->Blk} {U:Nat->Prop} {off place:Nat->Option (Nat×Nat)} (hp:∀ i p,off i=some p->place i=some p):∀(ps:List (Nat×AV)) (qs:List (Nat×Value)) (cs ds:List AV) (cells:Array Value),
  Fj off cs ps=some ds->RF c g H U cs cells.toList->F2 (fun p q=>p.1=q.1∧RAV c g H U p.2 q.2) ps qs->∃ cells',eU place cells qs=some cells'∧RF c g H U ds cells'.toList
 | [],[],cs,ds,cells,h,hr,_=>by simp only[Fj,aq] at h; subst h; exact ⟨cells,rfl,hr⟩
 | (i,a)::ps,(j,v)::qs,cs,ds,cells,h,hr,hf=>by
  cases hf with
  | cons h1 h2 =>
   obtain⟨rfl,hav⟩:=h1;simp only[Fj] at h;cases ho:off i with
   | none=>simp [ho] at h
   | some p =>
    obtain⟨o,n⟩:=p;simp only[ho] at h;cases hc:kT a&&aA n (tY a.cells) with
    | false=>simp [hc] at h
    | true =>
     simp only[ay] at hc;obtain⟨hca,hn⟩:=hc;have hn':n=tY a.cells:=by simpa using hn
     simp only[hca,hn,Bool.and_self,cond_true,ah] at h;obtain⟨es,hes,h⟩:=h;have hrl:=jj hca hav;have hlen:tY a.cells=v.cells.size:=by simpa using RF.length hrl
     obtain⟨hle,hse⟩:=VJ hes hr hrl;simp only[aO] at hle;obtain⟨c',hc',hcl⟩:=D2 (rest:=qs) (hp i _ ho) (by omega:v.cells.size=n) (cells:=cells) (by omega)
     obtain⟨cells',h3,h4⟩:=Xp hT hp ps qs es ds c' h (by
      rw[hcl];simpa[← hlen,← hn'] using hse) h2
     exact ⟨cells',by rw[hc',h3],h4⟩
 | [],_::_,_,_,_,_,_,hf=>by cases hf
 | _::_,[],_,_,_,_,_,hf=>by cases hf
theorem D7 {P:Program} {tb:Tb} (hT:jk P tb) {w:World} {c:Mem} {g:Gh} {H:Nat->Blk} {U:Nat->Prop} {t:TypeId} {ps:List (Nat×AV)} {qs:Array (Nat×Value)} {κ:AV->Option R} {x:R}
  (h:JG tb t ps κ=some x) (hf:F2 (fun p q=>p.1=q.1∧RAV c g H U p.2 q.2) ps qs.toList) :
  ∃ z av,(Instr.build t qs).run P w = .ok z w∧κ av=some x∧RAV c g H U av z:=by
 unfold JG at h;split at h
 ·rename_i fs n ht;obtain⟨⟨i,hi,hsz,hz⟩,fields,hu,hfs,hok,-⟩:=hT t _ ht;obtain⟨zs,hzs,h⟩:=ah.1 h;obtain⟨z,hzz,hzo⟩:=hz zs hzs;cases hn:aA (tY zs) n with
  | false=>simp [hn] at h
  | true =>
   simp only[hn,cond_true] at h;obtain⟨ds,hds,h⟩:=ah.1 h;have hpl:∃ places,fields.toList.mapM (fun f=>(P.info? f.type).map fun i=>(f.offset,i.size))=some places∧∀(i:Nat) p,((fs[i]?).bind fun f=>(tb f.1).bind fun ud=>some (f.2,ud.size))=some p->places.toArray[i]? = some p:=by
    subst hfs;have:∀(l:List Field),(∀ f,f∈l->∃ i,P.info? f.type=some i)->∃ places,l.mapM (fun f=>(P.info? f.type).map fun i=>(f.offset,i.size))=some places ∧
      ∀(i:Nat) p,(((l.map fun f=>(f.type,f.offset))[i]?).bind fun f=>(tb f.1).bind fun ud=>some (f.2,ud.size))=some p->places[i]? = some p:=by
     intro l
     induction l with
     | nil=>intro _; exact ⟨[],rfl,fun i p h=>by simp at h⟩
     | cons f l ih =>
      intro hl;obtain⟨places,hp,hq⟩:=ih fun f hf=>hl f (by simp [hf])
      obtain⟨fi,hfi⟩:=hl f (by simp)
      refine ⟨(f.offset,fi.size)::places,by simp [hp,hfi],fun i p h => ?_⟩
      cases i with
      | zero =>
       simp only[aK,aB,Option.bind_some] at h;obtain⟨ud,hud,h⟩:=ah.1 h;injection h with h;subst h;obtain⟨⟨fi',hfi',hs,-⟩,-⟩:=hT f.type ud hud;rw[hfi] at hfi'; injection hfi' with e; subst e;rw[hs]; rfl
      | succ i=>simpa using hq i p (by simpa using h)
    obtain⟨places,h1,h2⟩:=this fields.toList fun f hf=>let ⟨i,hi,_⟩:=(hok f hf).2; ⟨i,hi⟩
    exact ⟨places,h1,fun i p h=>by simpa using h2 i p h⟩
   obtain⟨places,hp,hq⟩:=hpl;obtain⟨cells,hfill,hrl⟩:=Xp (P:=P) hT (c:=c) (g:=g) (H:=H) (U:=U) (place:=fun i=>places.toArray[i]?) hq ps qs.toList zs ds z.cells hds (Qn hzo) hf;refine ⟨.agg cells,_,run_build w t qs cells ?_,h,cells,rfl,hrl⟩;unfold fW;simp only[hi,hu,hzz,hp];exact hfill
 ·rename_i e k n ht;obtain⟨⟨i,hi,hsz,hz⟩,hu,ie,hie,hes⟩:=hT t _ ht;obtain⟨zs,hzs,h⟩:=ah.1 h;obtain⟨z,hzz,hzo⟩:=hz zs hzs;cases hn:aA (tY zs) (n*k) with
  | false=>simp [hn] at h
  | true =>
   simp only[hn,cond_true] at h;obtain⟨ds,hds,h⟩:=ah.1 h;obtain⟨cells,hfill,hrl⟩:=Xp (P:=P) hT (c:=c) (g:=g) (H:=H) (U:=U) (place:=fun i=>some (i*ie.size,ie.size)) (fun i p hp=>by
    cases hb:dC i n with
    | false=>rw[hb] at hp; cases hp
    | true=>rw[hb,cond_true] at hp; rw[hes]; exact hp) ps qs.toList zs ds z.cells hds (Qn hzo) hf
   refine ⟨.agg cells,_,run_build w t qs cells ?_,h,cells,rfl,hrl⟩;unfold fW;simp only[hi,hu,hzz,hie];exact hfill
 ·rename_i e ts n ht;obtain⟨-,hu,⟨ie,hie,-⟩,i,z,hi,hz,hsz,hzo⟩:=hT t _ ht;cases ps with
  | cons _ _=>cases h
  | nil =>
   have hq:qs.toList=[]:=by
    cases hl:qs.toList with
    | nil=>rfl
    | cons _ _=>rw[hl] at hf; cases hf
   refine ⟨.agg z.cells,_,run_build w t qs z.cells ?_,h,⟨ck,z.cells,rfl,?_⟩⟩
   ·unfold fW;simp only[hi,hu,hz,hie,hq];rfl
   ·refine ⟨by rw[aO,hsz,ck],fun j y hy => ?_⟩
    have hj:j<n:=by
     rcases bG j n with h' | h'
     ·exact h'
     ·rw[aQ (by simpa using h')] at hy; cases hy
    rw[bF,if_pos hj] at hy;injection hy with hy;subst hy;exact Xx (H:=H) (U:=U) ts _ (hzo j hj)
 ·cases h
end
section
variable {R:Type}
theorem SV.append {c:Mem} {A:Reg} {ts:Tys} {xs ys:List (Tup ts)} {cs ds:List Value} (h:SV c A ts xs cs) (h':SV c A ts ys ds):SV c A ts (xs++ys) (cs++ds):=by
 refine ⟨by simp [h.1,h'.1,bf],Elems.append ?_ ?_⟩
 ·refine h.2.imp fun i x hi hx => ?_;have hlt:(i+1)*ts.size<=xs.length*ts.size:=aS _ hi;rw[bf,cj] at hlt;rw[dB (by rw[h.1]; omega),c6 (by simp [h.1]; omega)]
  exact hx
 ·refine h'.2.imp fun i x hi hx => ?_;rw[bf,← h.1,dT];rw[cE (by omega),bl,du]
  exact hx
theorem SV.take {c:Mem} {A:Reg} {ts:Tys} {xs:List (Tup ts)} {cs:List Value} (h:SV c A ts xs cs) {n:Nat} (hn:n<=xs.length):SV c A ts (xs.take n) (cs.take (n*ts.size)):=by
 have hle:n*ts.size<=xs.length*ts.size:=aS _ hn;refine ⟨by simp [h.1,dK hn,dK hle],(h.2.take n).imp fun i x hi hx => ?_⟩
 simp only[cH] at hi;have hlt:(i+1)*ts.size<=n*ts.size:=aS _ (by omega)
 rw[bf,cj] at hlt;rw[eS,gL,dK (by omega)]
 exact hx
theorem SV.elems {c c':Mem} {A A':Reg} (h:∀ b o,A b o->A' b o∧c' b o=c b o) {ts:Tys} {xs:List (Tup ts)} {cs:List Value} (hs:SV c A ts xs cs) {r o:Nat} {T:Reg}
  (hT:∀ j,j<cs.length->T r (o+j)) (hc:∀ j v,cs[j]? = some v->c' r (o+j)=some v):Elems xs fun i x=>RC c' A' T ts x r (o+i*ts.size):=by
 refine hs.2.imp fun i x hi hx => ?_;refine RV.rc h ts r _ hx fun j v hv => ?_;rw[bz] at hv;split at hv
 ·rw[bu] at hv;have hlt:i*ts.size+j<cs.length:=by
   rcases bG (i*ts.size+j) cs.length with h' | h'
   ·exact h'
   ·simp [aQ h'] at hv
  rw[bK];exact ⟨hT _ hlt,hc _ v hv⟩
 ·cases hv
theorem Ql {X:Fx} {g:Gh} {H:Nat->Blk} {Z:Nat->Bool} {U:Nat->Prop} {w:World} (hm:MemOk X g H Z U w) {id i:Nat} (hi:id<=i∧i<id+8) (hid:¬ U i) {k:Nat} {ts:Tys} {xs:List (Tup ts)} {cells:List Value} {cc:Array Value} {e:TypeId}
  (hs:SV (mem w) (g.S k) ts xs cells) (hc:∀(j:Nat) (v:Value),cells[j]? = some v->cc[j]? = some v) :
  MemOk X (g.at i (some w.heap.size)) (upd H i (.seq k ts xs)) Z (UI U id) (w.alloc (.cells cc e))∧Mono (mem w) g H U (mem (w.alloc (.cells cc e))) (g.at i (some w.heap.size)) (upd H i (.seq k ts xs)) (UI U id):=by
 refine hm.alloc hi hid _ _ (.inr ⟨w.heap.size,cc,e,zx _ _ _,jg _ _,?_,?_⟩)
 ·rw[← hs.1];rcases Nat.eq_zero_or_pos cells.length with h0 | h0
  ·omega
  ·have:=hc (cells.length - 1) _ (al (by omega))
   rcases bG (cells.length - 1) cc.size with h' | h'
   ·omega
   ·rw[er h'] at this; cases this
 ·have:=SV.elems (c':=mem (w.alloc (.cells cc e))) (A':=g.S k) (T:=fun _ _=>True) (fun b o hb=>⟨hb,zE (uz _ _ (hm.mem_lt hb)) o⟩) hs (r:=w.heap.size) (o:=0) (fun _ _=>trivial)
   (fun j v hv=>by rw[zB (jg w (.cells cc e)),aP]; exact hc j v hv)
  simp only[aP] at this;exact this
theorem j4 {g:Gh} {H:Nat->Blk} {U:Nat->Prop} {w:World} {id:Nat} {k:Nat} {ts:Tys} {xs:List (Tup ts)} {cc:Array Value} {e:TypeId} {cap:Nat} (hcap:xs.length<=cap∧cap<=9223372036854775807) (hsz:cap*ts.size<=cc.size) :
  RAV (mem (w.alloc (.cells cc e))) (g.at id (some w.heap.size)) (upd H id (.seq k ts xs)) (UI U id) (.view id) (.slice (some ⟨w.heap.size,0,none⟩) xs.length cap):=by
 refine ⟨.inr (by omega),rfl,?_⟩
 rw[zx];refine ⟨_,cap,rfl,hcap,.inr ⟨_,zx _ _ _,rfl,fun j hj => ?_⟩⟩;rw[zB (jg w (.cells cc e)),bi (by omega)]; rfl
theorem DH {X:Fx} {w:World} {g:Gh} {H hv:Nat->Blk} {Z:Nat->Bool} {U:Nat->Prop} (hm:MemOk X g H Z U w) (hh:∀ b,hv b = .dead∨hv b=H b) {fz:Nat} {ts:Tys}:(as:List AV)->{vs:List Value}->{k k':Nat}->{xs:List (Tup ts)} ->
  Shown g H fz (yJ (as.flatMap AV.cells))->as.all kT=true->VH hv fz ts (as.map AV.cells)=some (k,xs)->F2 (fun a v=>RAV (mem w) g H U a v) as vs->Le k k'->SV (mem w) (g.S k') ts xs (vs.flatMap fun v=>v.cells.toList)
 | [],_,k,k',xs,_,_,h,hf,_=>by
  cases hf
  have h:some (2,[])=some (k,xs):=h;injection h with h; injection h with h1 h2;subst h2;exact SV.nil
 | a::as,_,k,k',xs,hsh,hok,h,hf,hk=>by
  cases hf with
  | @cons _ v _ vs h1 h2 =>
   have h:((Iy hv fz ts a.cells).bind fun x=>(VH hv fz ts (as.map AV.cells)).bind fun y=>some (jn x.1 y.1,x.2::y.2))=some (k,xs):=h;obtain⟨⟨k1,y⟩,hy,h⟩:=ah.1 h;obtain⟨⟨k2,zs⟩,hz,h⟩:=ah.1 h;injection h with h; injection h with h3 h4;subst h3; subst h4;simp only[bX,ay] at hok;have hrv:=IV hm hh ts (k':=k') (hsh.sub fun b hb=>by
    rw[bv];obtain⟨c,hc,hb⟩:=cY.1 hb;exact uN (List.mem_append_left _ hc) hb) hy (jj hok.1 h1) ((Ze _ _).trans hk)
   have ih:=DH hm hh as (k':=k') (hsh.sub fun b hb=>by
    rw[bv];obtain⟨c,hc,hb⟩:=cY.1 hb;exact uN (List.mem_append_right _ hc) hb) hok.2 hz h2 ((jM _ _).trans hk)
   have h1':SV (mem w) (g.S k') ts [y] v.cells.toList:=by
    have hl:=RV.length ts hrv;refine ⟨by simpa using hl,fun i x hx => ?_⟩
    cases i with
    | zero =>
     simp only[aB,aq] at hx;subst hx;rw[dV,bQ,← hl,dW];exact hrv
    | succ i=>simp at hx
   rw[bv];exact h1'.append ih
theorem Eh {size:Nat}:∀(vs:List Value) (k:Nat) (cells:Array Value),(∀ v,v∈vs->v.cells.size=size)->(k+vs.length)*size<=cells.size ->
  ∃ c',eU (fun i=>some (i*size,size)) cells ((vs.zipIdx k).map fun p=>(p.2,p.1))=some c' ∧
   c'.toList=cells.toList.take (k*size)++(vs.flatMap fun v=>v.cells.toList)++cells.toList.drop ((k+vs.length)*size)
 | [],k,cells,_,_=>⟨cells,rfl,by simp⟩
 | v::vs,k,cells,hv,hle=>by
  have hsz:=hv v (by simp)
  have hle1:(k+1)*size<=(k+(v::vs).length)*size:=aS _ (by simp)
  obtain⟨c1,h1,h2⟩:=D2 (place:=fun i=>some (i*size,size)) (rest:=((vs.zipIdx (k+1)).map fun p=>(p.2,p.1))) (i:=k) rfl hsz (cells:=cells) (by rw[bf,cj] at hle1; omega)
  have hc1:c1.size=cells.size:=by
   have:=congrArg af h2;simp only[am,cH,bq,aO] at this;rw[bf,cj] at hle1;omega
  obtain⟨c',h3,h4⟩:=Eh vs (k+1) c1 (fun u hu=>hv u (by simp [hu])) (by rw[hc1]; simpa[dj,Nat.add_left_comm] using hle)
  refine ⟨c',by rw[dY,aK,h1,h3],?_⟩
  rw[h4,h2];have e1:(k+1)*size=k*size+size:=by rw[bf,cj]
  have hkl:(cells.toList.take (k*size)++v.cells.toList).length=(k+1)*size:=by
   rw[e1] at hle1 ⊢;simp [hsz]; omega
  rw[c6 (by omega),di (by omega)]
  rw[dT,cE (by
   rw[hkl];exact aS _ (by omega)),bl,hkl,cf]
  have:k*size+size+((k+1+vs.length)*size - (k+1)*size)=(k+(v::vs).length)*size:=by
   have:(k+1)*size<=(k+1+vs.length)*size:=aS _ (by omega)
   rw[← e1,Nat.add_sub_cancel' this]
   congr 1
   simp only[ak]; omega
  rw[this,bv];simp only[aW]
theorem Gq:∀(ps:List (Nat×AV)) (k:Nat) {vs:List AV},Ph k ps=some vs->ps=(vs.zipIdx k).map fun p=>(p.2,p.1)
 | [],k,vs,h=>by simp only[Ph,aq] at h; subst h; rfl
 | (i,v)::r,k,vs,h=>by
  simp only[Ph] at h;cases hb:aA i k with
  | false=>simp [hb] at h
  | true =>
   have hik:i=k:=by simpa using hb
   simp only[hb,cond_true] at h;obtain⟨us,hus,h⟩:=ah.1 h;injection h with h;subst h;rw[Gq r (k+1) hus,dY,aK,hik]
end
section
variable {R:Type}
theorem F2.length {α β:Type} {r:α->β->Prop} {as:List α} {bs:List β} (h:F2 r as bs):as.length=bs.length:=by
 induction h with
 | nil=>rfl
 | cons _ _ ih=>simp [ih]
theorem F2.zipIdx_snd {c:Mem} {g:Gh} {H:Nat->Blk} {U:Nat->Prop}:(vs:List AV)->(k:Nat)->{qs:List (Nat×Value)}->F2 (fun p q=>p.1=q.1∧RAV c g H U p.2 q.2) ((vs.zipIdx k).map fun p=>(p.2,p.1)) qs ->
  ∃ us,qs=(us.zipIdx k).map (fun p=>(p.2,p.1))∧F2 (fun a v=>RAV c g H U a v) vs us
 | [],k,qs,h=>by cases h; exact ⟨[],rfl,.nil⟩
 | v::vs,k,qs,h=>by
  rw[dY,aK] at h;cases h with
  | @cons _ q _ qs h1 h2 =>
   obtain⟨i,u⟩:=q;obtain⟨rfl,hu⟩:=h1;obtain⟨us,rfl,hf⟩:=F2.zipIdx_snd vs (k+1) h2;exact ⟨u::us,by rw[dY,aK],.cons hu hf⟩
theorem Post.of_show {X:Fx} {κ:K R} {x:R} {g g1:Gh} {H:Nat->Blk} {Z:Nat->Bool} {U:Nat->Prop} {w w':World} {id:Nat} {v:Value} {av:AV} {ws:List (Nat×Blk)} {zs:List Nat} {g':Gh}
  (hk:κ av ⟨ws,zs⟩=some x) (hmono:Mono (mem w) g H U (mem w) g1 H U) (hr:RAV (mem w') g' (qQ H ws) (UI U id) av v) (hm:MemOk X g' (qQ H ws) (wu Z zs) (UI U id) w') (hm2:Mono (mem w) g1 H U (mem w') g' (qQ H ws) (UI U id)) :
  Post X κ x g H Z U w id v w':=⟨av,⟨ws,zs⟩,g',hk,hr,hm,hmono.trans hm2⟩
theorem Wl {hv:Nat->Blk} {fz:Nat} {ts:Tys}:(as:List (List AV))->{k:Nat}->{xs:List (Tup ts)}->VH hv fz ts as=some (k,xs)->xs.length=as.length
 | [],k,xs,h=>by
  have h:some (2,[])=some (k,xs):=h;injection h with h; injection h with _ h; subst h; rfl
 | a::as,k,xs,h=>by
  have h:((Iy hv fz ts a).bind fun x=>(VH hv fz ts as).bind fun y=>some (jn x.1 y.1,x.2::y.2))=some (k,xs):=h;obtain⟨⟨k1,y⟩,hy,h⟩:=ah.1 h;obtain⟨⟨k2,zs⟩,hz,h⟩:=ah.1 h;injection h with h; injection h with h3 h4;subst h4;simp [Wl as hz]
theorem F2.imp {α β:Type} {r q:α->β->Prop} (h:∀ a b,r a b->q a b) {as:List α} {bs:List β} (hf:F2 r as bs):F2 q as bs:=by
 induction hf with
 | nil=>exact .nil
 | cons hr _ ih=>exact .cons (h _ _ hr) ih
theorem KL {hv:Nat->Blk} {fz:Nat}:(ts:Tys)->{as:List AV}->{k:Nat}->{x:Tup ts}->Iy hv fz ts as=some (k,x)->tY as=ts.size
 | .one t,[],_,_,h=>nomatch (show (none:Option (Nat×Tup (.one t)))=_ from h)
 | .one t,_::_::_,_,_,h=>nomatch (show (none:Option (Nat×Tup (.one t)))=_ from h)
 | .one t,[a],k,x,h=>by
  have h:QH hv fz t a=some (k,x):=h;show a.width+0=1;rw[AV.width_one (Q4 h)]
 | .cons t ts,[],_,_,h=>nomatch (show (none:Option (Nat×Tup (.cons t ts)))=_ from h)
 | .cons t ts,a::as,k,x,h=>by
  have h:((QH hv fz t a).bind fun x=>(Iy hv fz ts as).bind fun y=>some (jn x.1 y.1,(x.2,y.2)))=some (k,x):=h;obtain⟨⟨k1,y⟩,hy,h⟩:=ah.1 h;obtain⟨⟨k2,z⟩,hz,h⟩:=ah.1 h;show a.width+tY as=ts.size+1;rw[AV.width_one (Q4 hy),KL ts hz,dj]
theorem KG {c:Mem} {g:Gh} {H hv:Nat->Blk} {U:Nat->Prop} {fz:Nat} {ts:Tys}:(as:List AV)->{us:List Value}->{xs:List (Tup ts)}->{k:Nat}->as.all kT=true->VH hv fz ts (as.map AV.cells)=some (k,xs) ->
  F2 (fun a v=>RAV c g H U a v) as us->∀ v,v∈us->v.cells.size=ts.size
 | [],us,xs,k,_,_,hf,v,hv=>by cases hf; cases hv
 | a::as,us,xs,k,hok,h,hf,v,hmem=>by
  cases hf with
  | @cons _ u _ us h1' h2' =>
   have h:((Iy hv fz ts a.cells).bind fun x=>(VH hv fz ts (as.map AV.cells)).bind fun y=>some (jn x.1 y.1,x.2::y.2))=some (k,xs):=h;obtain⟨⟨k1,y⟩,hy,h⟩:=ah.1 h;obtain⟨⟨k2,zs⟩,hz,h⟩:=ah.1 h;simp only[bX,ay] at hok;rcases aG.1 hmem with rfl | hmem
   ·have h5:=KL ts hy;have h6:=RF.length (jj hok.1 h1');simp at h6; omega
   ·exact KG as hok.2 hz h2' v hmem
theorem Vw {P:Program} {tb:Tb} (hT:jk P tb) {X:Fx} {κ:K R} {x:R} {g:Gh} {H hv:Nat->Blk} {Z:Nat->Bool} {U:Nat->Prop} {w:World} {id:Nat} (hm:MemOk X g H Z U w) (hh:∀ b,hv b = .dead∨hv b=H b) (hid:¬ U id)
  {fz:Nat} (hfz:fz=0∨fz=2) (hB:fz=2->∀ r,X.O r->X.N r) {t:TypeId} {len:Nat} {ps:List (Nat×AV)} {qs:Array (Nat×Value)}
  (h:sM tb hv fz id t len ps κ=some x) (hf:F2 (fun p q=>p.1=q.1∧RAV (mem w) g H U p.2 q.2) ps qs.toList) :
  ∃ z w',(fq t len qs).run P w = .ok z w'∧Post X κ x g H Z U w id z w':=by
 unfold sM at h;split at h
 ·rename_i e ts bytes ht;obtain⟨-,hu,ie,z0,hie,hsz,-,hz0,hz0s,-⟩:=hT t _ ht;obtain⟨vs,hvs,h⟩:=ah.1 h;cases hc:aA vs.length len&&ci (len*ts.size) 16777216&&vs.all kT with
  | false=>simp [hc] at h
  | true =>
   simp only[hc,cond_true] at h;simp only[ay] at hc;obtain⟨⟨hlen,hsm⟩,hok⟩:=hc;have hlen:vs.length=len:=by simpa using hlen
   have hsm:len*ts.size<=16777216:=by simpa using hsm
   have hlb:len<=9223372036854775807:=by have:=Nat.le_mul_of_pos_right len ts.size_pos; omega
   obtain⟨⟨k,xs⟩,hy,h⟩:=ah.1 h;rw[Gq ps 0 hvs] at hf;obtain⟨us,hus,hf⟩:=F2.zipIdx_snd vs 0 hf;obtain⟨h1,h2,h3⟩:=hm.shown hfz hB (yJ (vs.flatMap AV.cells));generalize hg1:g.show H fz (yJ (vs.flatMap AV.cells))=g1 at h1 h2 h3;have hf1:F2 (fun a v=>RAV (mem w) g1 H U a v) vs us:=hf.imp fun a v hr=>RAV.mono h2 _ _ hr;have hsv:=DH h1 hh vs (k':=k) h3 hok hy hf1 (Le.refl _);have hul:us.length=len:=by rw[← hf.length,hlen]
   have hxl:xs.length=len:=by rw[Wl _ hy]; simpa using hlen
   have hcz:=KG vs hok hy hf1;have hfill:∃ cc:Array Value,(fq t len qs).run P w = .ok (.slice (some ⟨w.heap.size,0,none⟩) len len) (w.alloc (.cells cc e))∧cc.toList=us.flatMap fun v=>v.cells.toList:=by
    by_cases h0:len=0
    ·subst h0;have hu0:us=[]:=ba hul;subst hu0;have hq0:qs = #[]:=by apply ek; rw[hus]; rfl
     subst hq0;exact ⟨#[],by simp [fq,run_underlying hu,sizeOf,typeInfo,hie,newRow,Array.range_zero',eU],rfl⟩
    ·have hp:=ts.size_pos;obtain⟨cc,h4,h5⟩:=Eh us 0 ((ij (len*ts.size)).map (z0.cells[· % z0.cells.size]!)) hcz (by simp [hul])
     refine ⟨cc,run_buildSlice w t e len qs cc ie z0 hu hie hz0 (by rw[hsz]; omega) (by rw[hsz]; exact gd (Nat.mul_pos (by omega) hp)) (by rw[hus,hsz]; exact h4),?_⟩
     rw[h5];simp [hul]
   obtain⟨cc,hrun,hcc⟩:=hfill;refine ⟨_,_,hrun,?_⟩;have hccs:∀(j:Nat) (v:Value),(us.flatMap fun v=>v.cells.toList)[j]? = some v->cc[j]? = some v:=fun j v hv=>by
    rw[← hcc] at hv; simpa using hv
   obtain⟨h6,h7⟩:=Ql h1 (id:=id) (i:=id) (by omega) hid (e:=e) hsv hccs
   refine Post.of_show h h2 ?_ h6 h7;have hv:=j4 (g:=g1) (H:=H) (U:=U) (w:=w) (id:=id) (k:=k) (ts:=ts) (xs:=xs) (cc:=cc) (e:=e) (cap:=len) ⟨by omega,hlb⟩ (by
    have:=hsv.1;rw[← hcc] at this;simp at this; rw[this,hxl]; exact aC _)
   rw[hxl] at hv;exact hv
 ·cases h
end
section
variable {R:Type}
theorem DC {z:Array Value} {n j:Nat} (hz:0<z.size) (h:j<n*z.size):((ij (n*z.size)).map (z[· % z.size]!))[j]? = some (z[j % z.size]'(fZ _ hz)):=by
 rw[Array.getElem?_map,Array.getElem?_range,if_pos h];simp [fZ _ hz]
theorem Kv {P:Program} {tb:Tb} (hT:jk P tb) {X:Fx} {κ:K R} {x:R} {g:Gh} {H:Nat->Blk} {Z:Nat->Bool} {U:Nat->Prop} {w:World} {id:Nat} (hm:MemOk X g H Z U w) (hid:¬ U id)
  {t e:TypeId} {ts:Tys} {bytes:Nat} (ht:tb t=some (.sl e ts bytes)) {k1 k2:IntKind} {n:Int} (h0:0<=n) (hroom:yK n.toNat bytes=true)
  (h:κ (.view id) ⟨[(id,.seq 2 ts (ax n.toNat (qb ts)))],[]⟩=some x) :
  ∃ z w',(Instr.makeSlice t (.int k1 n) (.int k2 n)).run P w = .ok z w'∧Post X κ x g H Z U w id z w':=by
 obtain⟨-,hu,ie,z0,hie,hsz,hby,hz0,hz0s,hzo,hb0⟩:=hT t _ ht;have hr:n.toNat*bytes<=140737488351232:=of_decide_eq_true hroom;have hbig:n<=9223372036854775807:=by
  have h1:n.toNat*1<=n.toNat*bytes:=Nat.mul_le_mul_left _ hb0;omega
 ·have hrun:=run_make (P:=P) w t e ie z0 hu hie hz0 k1 k2 n n h0 (Int.le_refl _) (by
   rw[hby];have h1:(bytes:Int)*n=((n.toNat*bytes:Nat):Int):=by rw[Int.natCast_mul,Int.toNat_of_nonneg h0,Int.mul_comm]
   rw[h1];omega) hbig
  refine ⟨_,_,hrun,?_⟩;have hzrv:RV (mem w) (g.S 2) ts (qb ts) z0.cells.toList:=Xx (H:=H) (U:=U) ts _ hzo;have hp:=ts.size_pos;have hz0p:0<z0.cells.size:=by omega
  have hsv:SV (mem w) (g.S 2) ts (ax n.toNat (qb ts)) (madeCells z0.cells (n.toNat*ie.size)).toList:=by
   refine ⟨by simp [madeCells,hsz],fun i y hy => ?_⟩
   have hi:i<n.toNat:=by
    rcases bG i n.toNat with h' | h'
    ·exact h'
    ·rw[aQ (by simpa using h')] at hy; cases hy
   rw[bF,if_pos hi] at hy;injection hy with hy;subst hy;have:(((madeCells z0.cells (n.toNat*ie.size)).toList.drop (i*ts.size)).take ts.size)=z0.cells.toList:=by
    apply db;intro j;rw[bz];split
    ·rename_i hj;have hlt:i*ts.size+j<n.toNat*z0.cells.size:=by
      have:(i+1)*ts.size<=n.toNat*ts.size:=aS _ hi;rw[bf,cj] at this;rw[hz0s]; omega
     rw[bu,aV,madeCells,hsz,← hz0s,DC hz0p (by rw[← hz0s] at hlt; exact hlt),aV]
     have:(i*z0.cells.size+j) % z0.cells.size=j:=by rw[Nat.mul_add_mod_self_right]; exact Nat.mod_eq_of_lt (by omega)
     rw[bi (by omega)]
     simp [this]
    ·rw[aQ (by simp; omega)]
   show RV _ _ _ _ (((madeCells z0.cells (n.toNat*ie.size)).toList.drop (i*ts.size)).take ts.size);rw[this];exact hzrv
  obtain⟨h6,h7⟩:=Ql hm (id:=id) (i:=id) (by omega) hid (e:=e) (cc:=madeCells z0.cells (n.toNat*ie.size)) hsv (fun j v hv=>by simpa using hv)
  refine ⟨_,_,_,h,?_,h6,h7⟩;have:=j4 (g:=g) (H:=H) (U:=U) (w:=w) (id:=id) (k:=2) (ts:=ts) (xs:=ax n.toNat (qb ts)) (cc:=madeCells z0.cells (n.toNat*ie.size)) (e:=e) (cap:=n.toNat) ⟨by simp,by omega⟩ (by simp [madeCells,hsz])
  rw[ck] at this;exact this
theorem OK {P:Program} {tb:Tb} (hT:jk P tb) {X:Fx} {κ:K R} {x:R} {g:Gh} {H:Nat->Blk} {Z:Nat->Bool} {U:Nat->Prop} {w:World} {id:Nat} (hm:MemOk X g H Z U w) (hid:¬ U id)
  {t e:TypeId} {ts:Tys} {n:Nat} (ht:tb t=some (.arr e ts n)) (h:κ (.sptr id 0 0) ⟨[(id,.seq 2 ts (ax n (qb ts)))],[]⟩=some x) :
  Does P (do pure (.value (← gB t true undef))) w fun v w'=>Post X κ x g H Z U w id v w':=by
 obtain⟨-,hu,-,i,z,hi,hz,hsz,hzo⟩:=hT t _ ht;refine Does.value (v:=.pointer (some ⟨w.heap.size,0,none⟩)) (w':=w.alloc (.cells z.cells t)) ?_ ?_
 ·simp [gB,zeroValue,typeInfo,hi,hz,newVar,newRow]
 ·have hsv:SV (mem w) (g.S 2) ts (ax n (qb ts)) z.cells.toList:=by
   refine ⟨by rw[aO,hsz,ck],fun i y hy => ?_⟩
   have hi:i<n:=by
    rcases bG i n with h' | h'
    ·exact h'
    ·rw[aQ (by simpa using h')] at hy; cases hy
   rw[bF,if_pos hi] at hy;injection hy with hy;subst hy;exact Xx (H:=H) (U:=U) ts _ (hzo i hi)
  obtain⟨h6,h7⟩:=Ql hm (id:=id) (i:=id) (by omega) hid (e:=t) (cc:=z.cells) hsv (fun j v hv=>by simpa using hv)
  refine ⟨_,_,_,h,⟨.inr (by omega),rfl,?_⟩,h6,h7⟩
  show RSptr _ _ _ _ _ (upd H id _ id);rw[zx];exact ⟨w.heap.size,zx _ _ _,by simp⟩
def zS (l:List Value) (o:Nat) (vs:List Value):List Value:=l.take o++vs++l.drop (o+vs.length)
theorem z5 {l vs:List Value} {o:Nat} (h:o+vs.length<=l.length):(zS l o vs).length=l.length:=by
 simp [zS]; omega
theorem yV {l vs:List Value} {o:Nat} (h:o+vs.length<=l.length) (j:Nat):(zS l o vs)[j]? = if j<o then l[j]? else if j<o+vs.length then vs[j - o]? else l[j]? := by
 unfold zS;have h1:(l.take o).length=o:=by simp; omega
 by_cases hj:j<o
 ·rw[if_pos hj,aW,bP (by omega),bz,if_pos hj]
 ·rw[if_neg hj,aW,bI (by omega),h1]
  by_cases hj2:j<o+vs.length
  ·rw[if_pos hj2,bP (by omega)]
  ·rw[if_neg hj2,bI (by omega),bu]
   congr 1; omega
theorem RV.set {c:Mem} {A:Reg}:(ts:Tys)->{x:Tup ts}->{vs:List Value}->{x':Tup ts}->{f:Nat}->{v:Value}->{hv:Nat->Blk}->{fz k:Nat}->{a:AV}->RV c A ts x vs->jO hv fz ts x f a=some (k,x') ->
  (∀(t:Ty) (y:El t),QH hv fz t a=some (k,y)->RE c A t y v)->RV c A ts x' (vs.set f v)∧f<vs.length
 | .one t,x,_,x',0,v,hv,fz,k,a,hr,h,he=>by
  have h:QH hv fz t a=some (k,x'):=h;simp only[RV] at hr;obtain⟨u,rfl,-⟩:=hr;exact ⟨⟨v,rfl,he t x' h⟩,by simp⟩
 | .one t,x,_,x',f+1,v,hv,fz,k,a,hr,h,he=>nomatch (show (none:Option (Nat×Tup (.one t)))=_ from h)
 | .cons t ts,x,_,x',0,v,hv,fz,k,a,hr,h,he=>by
  have h:((QH hv fz t a).bind fun y=>some (y.1,(y.2,x.2)))=some (k,x'):=h;obtain⟨⟨k1,y⟩,hy,h⟩:=ah.1 h;injection h with h; injection h with h1 h2;subst h1; subst h2;simp only[RV] at hr;obtain⟨u,us,rfl,-,h2⟩:=hr;exact ⟨⟨v,us,rfl,he t y hy,h2⟩,by simp⟩
 | .cons t ts,x,_,x',f+1,v,hv,fz,k,a,hr,h,he=>by
  have h:((jO hv fz ts x.2 f a).bind fun y=>some (y.1,(x.1,y.2)))=some (k,x'):=h;obtain⟨⟨k1,y⟩,hy,h⟩:=ah.1 h;injection h with h; injection h with h1 h2;subst h1; subst h2;simp only[RV] at hr;obtain⟨u,us,rfl,h1,h2⟩:=hr;obtain⟨h3,h4⟩:=RV.set ts h2 hy he;exact ⟨⟨u,us.set f v,by simp,h1,h3⟩,by simp; omega⟩
theorem Bl {hv:Nat->Blk} {fz:Nat}:(ts:Tys)->{x:Tup ts}->{f:Nat}->{a:AV}->{p:Nat×Tup ts}->jO hv fz ts x f a=some p->a.isAr=false
 | .one t,x,0,a,p,h=>by
  have h:QH hv fz t a=some p:=h;exact Q4 h
 | .one t,x,f+1,a,p,h=>nomatch (show (none:Option (Nat×Tup (.one t)))=_ from h)
 | .cons t ts,x,0,a,p,h=>by
  have h:((QH hv fz t a).bind fun y=>some (y.1,(y.2,x.2)))=some p:=h;obtain⟨y,hy,-⟩:=ah.1 h;exact Q4 hy
 | .cons t ts,x,f+1,a,p,h=>by
  have h:((jO hv fz ts x.2 f a).bind fun y=>some (y.1,(x.1,y.2)))=some p:=h;obtain⟨y,hy,-⟩:=ah.1 h;exact Bl ts hy
theorem A0 {vs us:List Value} {f:Nat} {u:Value} (h:f<vs.length):zS vs f (u::us)=zS (vs.set f u) (f+1) us:=by
 unfold zS;rw[ew (by simpa using h),List.take_set_of_le (aC _),ey,fS (by omega)]
 simp [bK,dj 1]
theorem EW {vs:List Value} {f:Nat}:zS vs f []=vs:=by simp [zS]
theorem Kj {H:Nat->Blk} {fz:Nat} {t:Ty} {a:AV} {q:Nat} {y:El t} (h:vz H fz t a=some (q,y)):q=ZC H fz a:=by
 cases a with
 | val g u x =>
  have plain:∀{u:Ty} {x:El u},((Zz u t x).bind fun y=>some (2,y))=some (q,y)->q=2:=fun h=>by
   obtain⟨z,-,h⟩:=ah.1 h;injection h with h; injection h with h _; exact h.symm
  cases u with
  | sl ts=>exact Yf h
  | ns ts =>
   simp only[vz] at h;split at h
   ·obtain⟨z,-,h⟩:=ah.1 h;injection h with h; injection h with h _; exact h.symm
   ·obtain⟨z,-,h⟩:=ah.1 h;injection h with h; injection h with h _; exact h.symm
   ·cases h
  | ar ts n =>
   simp only[vz] at h;obtain⟨z,-,h⟩:=ah.1 h;injection h with h; injection h with h _; exact h.symm
  | _=>exact plain h
 | view b =>
  simp only[vz] at h;simp only[ZC];split at h
  ·exact Yf h
  ·cases h
 | part b o n =>
  simp only[vz] at h;simp only[ZC];split at h
  ·exact Yf h
  ·cases h
 | nilv =>
  cases t<;>simp only[vz] at h<;>first | cases h | skip
  all_goals rfl
 | _=>cases t<;>cases h
theorem GI (H:Nat->Blk) (fz:Nat):(ts:Tys)->(x:Tup ts)->(f:Nat)->(a:AV)->(κ:Tup ts->Option R)->Ks H fz ts x f a κ=(jO H fz ts x f a).bind fun y=>κ y.2
 | .one t,x,0,a,κ=>by
  show cond t.flat (JT H fz t a κ) none=(cond t.flat (vz H fz t a) none).bind fun y=>κ y.2;cases t.flat with
  | false=>rfl
  | true=>exact Kh ..
 | .one _,_,_+1,_,_=>rfl
 | .cons t ts,x,0,a,κ=>by
  show cond t.flat (JT H fz t a fun y=>κ (y,x.2)) none=(((cond t.flat (vz H fz t a) none).bind fun y=>some (y.1,(y.2,x.2)):Option (Nat×Tup (.cons t ts)))).bind fun y=>κ y.2;cases t.flat with
  | false=>rfl
  | true=>rw[cond_true,cond_true,Kh,bS]; rfl
 | .cons t ts,x,f+1,a,κ=>by
  show (Ks H fz ts x.2 f a fun y=>κ (x.1,y))=(((jO H fz ts x.2 f a).bind fun y=>some (y.1,(x.1,y.2)):Option (Nat×Tup (.cons t ts)))).bind fun y=>κ y.2;rw[GI H fz ts,bS];rfl
theorem kH (H:Nat->Blk) (fz:Nat) (ts:Tys):(as:List AV)->(g:Nat)->(x:Tup ts)->(f:Nat)->(κ:Tup ts->Option R)->ZT H fz ts x f as κ=(ZM H fz ts g x f as).bind fun y=>κ y.2
 | [],g,x,f,κ=>rfl
 | a::as,g,x,f,κ=>by
  show (Ks H fz ts x f a fun y=>ZT H fz ts y (f+1) as κ)=((jO H fz ts x f a).bind fun y=>ZM H fz ts (jn g y.1) y.2 (f+1) as).bind fun y=>κ y.2;rw[GI,bS]
  congr 1
  funext y
  exact kH H fz ts as _ _ _ κ
theorem VI {H:Nat->Blk} {fz:Nat}:(ts:Tys)->{x y:Tup ts}->{f:Nat}->{a:AV}->{k:Nat}->jO H fz ts x f a=some (k,y)->k=ZC H fz a
 | .one t,x,y,0,a,k,h=>by
  have h:cond t.flat (vz H fz t a) none=some (k,y):=h;cases hf:t.flat with
  | false=>rw[hf] at h; cases h
  | true=>rw[hf,cond_true] at h; exact Kj h
 | .one _,_,_,_+1,_,_,h=>by cases h
 | .cons t ts,x,y,0,a,k,h=>by
  have h:((cond t.flat (vz H fz t a) none).bind fun y=>some (y.1,(y.2,x.2)):Option (Nat×Tup (.cons t ts)))=some (k,y):=h;cases hf:t.flat with
  | false=>rw[hf] at h; cases h
  | true =>
   rw[hf,cond_true] at h;obtain⟨⟨k',z⟩,h1,h⟩:=ah.1 h;injection h with h; injection h with h _;rw[← h]; exact Kj h1
 | .cons t ts,x,y,f+1,a,k,h=>by
  obtain⟨⟨k',z⟩,h1,h⟩:=ah.1 (show ((jO H fz ts x.2 f a).bind fun y=>some (y.1,(x.1,y.2)):Option (Nat×Tup (.cons t ts)))=some (k,y) from h)
  injection h with h; injection h with h _;rw[← h]; exact VI ts h1
theorem YB {H:Nat->Blk} {fz:Nat} {ts:Tys}:(as:List AV)->{g k:Nat}->{x y:Tup ts}->{f:Nat}->ZM H fz ts g x f as=some (k,y)->k=Nw H fz g as
 | [],g,k,x,y,f,h=>by
  have h:some (g,x)=some (k,y):=h;injection h with h; injection h with h _; exact h.symm
 | a::as,g,k,x,y,f,h=>by
  obtain⟨⟨k',z⟩,h1,h⟩:=ah.1 (show ((jO H fz ts x f a).bind fun y=>ZM H fz ts (jn g y.1) y.2 (f+1) as)=some (k,y) from h)
  have e:=VI ts h1;subst e;exact YB as h
theorem VG {R':Type} (H:Nat->Blk) (fz:Nat) (ts:Tys) (x:Tup ts) (f:Nat) (as:List AV) {F:Tup ts->Option R'} {G:R'->Option R} {F':Tup ts->Option R} (h:∀ y,F' y=(F y).bind G):ZT H fz ts x f as F'=(ZT H fz ts x f as F).bind G:=by
 rw[kH H fz ts as 0,kH H fz ts as 0,bS]
 congr 1
 funext y
 exact h _
theorem Yq {hv:Nat->Blk} {fz:Nat} {ts:Tys}:(as:List AV)->{k0 k:Nat}->{x x':Tup ts}->{f:Nat}->ZM hv fz ts k0 x f as=some (k,x')->Le k0 k
 | [],k0,k,x,x',f,h=>by
  have h:some (k0,x)=some (k,x'):=h;injection h with h; injection h with h1 h2;subst h1; exact Le.refl _
 | a::as,k0,k,x,x',f,h=>by
  have h:((jO hv fz ts x f a).bind fun y=>ZM hv fz ts (jn k0 y.1) y.2 (f+1) as)=some (k,x'):=h;obtain⟨⟨k1,y⟩,hy,h⟩:=ah.1 h;exact (Ze _ _).trans (Yq as h)
theorem RV.sets {X:Fx} {w:World} {g:Gh} {H hv:Nat->Blk} {Z:Nat->Bool} {U:Nat->Prop} (hm:MemOk X g H Z U w) (hh:∀ b,hv b = .dead∨hv b=H b) {fz:Nat} (ts:Tys):(as:List AV)->{us:List Value}->{k0 k k':Nat}->{x x':Tup ts}->{f:Nat}->{vs:List Value} ->
  Shown g H fz (yJ as)->ZM hv fz ts k0 x f as=some (k,x')->RF (mem w) g H U as us->Le k k'->RV (mem w) (g.S k') ts x vs->Le k0 k∧(us≠[]->f+us.length<=vs.length)∧RV (mem w) (g.S k') ts x' (zS vs f us)
 | [],us,k0,k,k',x,x',f,vs,_,h,hr,_,hv0=>by
  have h:some (k0,x)=some (k,x'):=h;injection h with h; injection h with h1 h2;subst h1; subst h2;simp only[RF] at hr;subst hr;exact ⟨Le.refl _,by simp,by rw[EW]; exact hv0⟩
 | a::as,us,k0,k,k',x,x',f,vs,hsh,h,hr,hk,hv0=>by
  have h:((jO hv fz ts x f a).bind fun y=>ZM hv fz ts (jn k0 y.1) y.2 (f+1) as)=some (k,x'):=h;obtain⟨⟨k1,y⟩,hy,h⟩:=ah.1 h;simp only[RF] at hr;obtain⟨u,us',us,rfl,h1,hus,h2⟩:=hr;rw[Bl ts hy,cond_false] at hus;subst hus;rw[List.singleton_append];have key:Le (jn k0 k1) k:=Yq as h;have hs1:=RV.set (v:=u) ts hv0 hy fun t y hy=>K1 hm hh (hsh.sub fun b hb=>uN (aj ..) hb) hy h1 ((jM _ _).trans (key.trans hk));obtain⟨h3,h4,h5⟩:=RV.sets hm hh ts as (hsh.sub fun b hb=>by
    obtain⟨c,hc,hb⟩:=cY.1 hb;exact uN (ai _ hc) hb) h h2 hk hs1.1
  refine ⟨(Ze _ _).trans h3,fun _ => ?_,by rw[A0 hs1.2]; exact h5⟩
  by_cases hus:us=[]
  ·subst hus; have:=hs1.2; simp only[ak,List.length_nil]; omega
  ·have:=h4 hus;simp at this ⊢; omega
theorem SV.put {c:Mem} {A A':Reg} (hup:∀ b o,A b o->A' b o∧c b o=c b o) {ts:Tys} {xs:List (Tup ts)} {cells us:List Value} {i f:Nat} {x':Tup ts} (hsv:SV c A ts xs cells) (hi:i<xs.length) (hfl:f+us.length<=ts.size)
  (hrv:RV c A' ts x' (zS ((cells.drop (i*ts.size)).take ts.size) f us)):SV c A' ts (xs.set i x') (zS cells (i*ts.size+f) us):=by
 have hil:(i+1)*ts.size<=xs.length*ts.size:=aS _ hi;rw[bf,cj] at hil;have hcl:=hsv.1;have htk:((cells.drop (i*ts.size)).take ts.size).length=ts.size:=by simp [hsv.1]; omega
 have hle2:i*ts.size+f+us.length<=cells.length:=by omega
 refine ⟨by rw[z5 hle2,hcl,bY],fun j z hz => ?_⟩
 by_cases hij:i=j
 ·subst hij;rw[List.getElem?_set_self hi] at hz;injection hz with hz;subst hz;have:((zS cells (i*ts.size+f) us).drop (i*ts.size)).take ts.size=zS ((cells.drop (i*ts.size)).take ts.size) f us:=by
   apply db;intro m;rw[bz,bu,yV hle2,yV (by rw[htk]; exact hfl)]
   by_cases hm:m<ts.size
   ·rw[if_pos hm,bz,if_pos hm,bu];by_cases h1:m<f
    ·rw[if_pos (by omega),if_pos h1]
    ·rw[if_neg (by omega),if_neg h1]
     by_cases h2:m<f+us.length
     ·rw[if_pos (by omega),if_pos h2]; congr 1; omega
     ·rw[if_neg (by omega),if_neg h2]
   ·rw[if_neg hm,if_neg (by omega),if_neg (by omega),bz,if_neg hm]
  rw[this];exact hrv
 ·rw[cq hij] at hz;have hj:j<xs.length:=by
   rcases bG j xs.length with h' | h'
   ·exact h'
   ·rw[aQ h'] at hz; cases hz
  have:((zS cells (i*ts.size+f) us).drop (j*ts.size)).take ts.size=(cells.drop (j*ts.size)).take ts.size:=by
   apply db;intro m;rw[bz,bz];by_cases hm:m<ts.size
   ·rw[if_pos hm,if_pos hm,bu,bu,yV hle2];rcases Nat.lt_or_gt_of_ne hij with hlt | hlt
    ·have:(i+1)*ts.size<=j*ts.size:=aS _ hlt;rw[bf,cj] at this;rw[if_neg (by omega),if_neg (by omega)]
    ·have:(j+1)*ts.size<=i*ts.size:=aS _ hlt;rw[bf,cj] at this;rw[if_pos (by omega)]
   ·rw[if_neg hm,if_neg hm]
  rw[this];exact RV.mono hup ts (hsv.2 j z hz)
theorem Hr {A B us v:List Value} {m:Nat} (h:m+v.length<=us.length):zS (A++us++B) (A.length+m) v=A++(zS us m v++B):=by
 unfold zS;rw[aW A us B,eA,di (by omega),du,bK,dT,cE (by omega),bl,du,c6 (by omega),dB (by omega)]
 simp only[aW]
theorem VL {Z:Nat->Bool}:{bs:List Nat}->{b:Nat}->Z b=false->¬ b∈bs->wu Z bs b=false
 | [],_,h,_=>h
 | c::bs,b,h,hb=>by
  simp only[wu,dJ];refine VL (bs:=bs) ?_ fun hm=>hb (ai _ hm);rw[xV _ _ fun e=>hb (by rw[e]; exact aj ..)]
  exact h
theorem Gn {α:Type} {a:AV} {F:Nat->(us:Tys)->Nat->List (Tup us)->Option α} {x:α} (h:(match a with
  | .val q (.ar us n) ys=>F q us n ys
  | _=>none)=some x):∃ q us n ys,a = .val q (.ar us n) ys∧F q us n ys=some x:=by
 split at h
 ·exact ⟨_,_,_,_,rfl,h⟩
 ·cases h
theorem I1 {P:Program} {tb:Tb} (hT:jk P tb) {X:Fx} {κ:K R} {x:R} {g:Gh} {H hv:Nat->Blk} {Z:Nat->Bool} {U:Nat->Prop} {w:World} {id:Nat} (hm:MemOk X g H Z U w) (hh:∀ b,hv b = .dead∨hv b=H b)
  {fz:Nat} (hfz:fz=0∨fz=2) (hB:fz=2->∀ r,X.O r->X.N r) {t:TypeId} {p a:AV} {u v:Value} (h:GM tb hv Z fz t p a κ=some x) (hp:RAV (mem w) g H U p u) (ha:RAV (mem w) g H U a v) :
  ∃ w',(fX t u v).run P w = .ok () w'∧∀ z,Post X κ x g H Z U w id z w':=by
 unfold GM at h;obtain⟨td,ht,h⟩:=ah.1 h;obtain⟨⟨ti,hti,htsz,-⟩,-⟩:=hT t td ht;cases hc:kT a&&a.cells.all zfh&&aA td.size (tY a.cells)&&dC 0 td.size with
 | false=>simp [hc] at h
 | true =>
  simp only[hc,cond_true] at h;simp only[ay] at hc;obtain⟨⟨⟨hok,hsu⟩,hn⟩,h0⟩:=hc;have h0:0<td.size:=by simp [dC] at h0; omega
  have hn:td.size=tY a.cells:=by simpa using hn
  have hrl:=jj hok ha;have htd0:td.size≠0:=gd h0;have hvl:v.cells.size=td.size:=by have:=RF.length hrl; simp at this; omega
  have hone:=IY hsu hrl;have run:∀(r o:Nat) (cur:Array Value) (e:TypeId),w.heap[r]? = some (.cells cur e (0,0))->o+v.cells.size<=cur.size ->
    (fX t (.pointer (some ⟨r,o,none⟩)) v).run P w = .ok () (w.setRow r (zS cur.toList o v.cells.toList).toArray):=by
   intro r o cur e hw hle;have:=run_storeCells_at P r o e v.cells.toList 0 cur w hw (by simpa using hle) hone
   simp only[fX,c8,cF,cG,b7,storeVar,sizeOf,typeInfo,run_program,hti,htsz,hvl,ne_eq,not_true_eq_false,if_false,this,zS,dk]
  cases p with
  | ptr b o =>
   simp only at h;split at h
   ·rename_i cs hx;have hx':H b = .cells cs:=by rcases hh b with h' | h'<;>rw[hx] at h'; cases h'; exact h'.symm
    simp only[RAV,hx',RPtr] at hp;obtain⟨hU,-,r,hr,rfl⟩:=hp;have hb:=hm.blk b;rw[hx'] at hb;simp only[RBlk] at hb;obtain⟨r',c,e,hr',hw,hl⟩:=hb;rw[hr] at hr'; injection hr' with hr'; subst hr';have hzb:Z b=false:=by
     cases hz:Z b with
     | false=>rfl
     | true=>rw[hz] at h; cases h
    rw[hzb] at h;obtain⟨ds,hds,h⟩:=ah.1 h;obtain⟨hle,hse⟩:=VJ hds hl hrl;have hle':o+v.cells.size<=c.size:=by simpa using hle
    refine ⟨_,run r o c e hw hle',fun z => ?_⟩;have hnS:∀ q o,¬ g.S q r o:=fun q o hs=>by
     obtain⟨-,q',ts,xs,hq,-⟩:=hm.sep q r o b hs (by rw[hx']; simp) hr
     rw[hx'] at hq; cases hq
    obtain⟨h1,h2⟩:=hm.put (id:=id) (x:=b) (by rw[hx']; simp) hr c (zS c.toList o v.cells.toList).toArray e hw (by rw[bn,z5 (by simpa using hle'),aO]) hnS (.cells ds) (by rw[hx']; trivial) (fun h=>by rw[hzb] at h; cases h)
     (fun m=>⟨r,_,e,hr,setRow_heap w r c _ e (0,0) hw,by
      have:=RF.mono m _ _ hse;simpa[zS] using this⟩)
    exact ⟨_,_,g,h,trivial,h1,h2⟩
   ·cases h
  | cptr b o k sz f =>
   simp only at h;split at h
   ·rename_i cs hx;have hx':H b = .cells cs:=by rcases hh b with h' | h'<;>rw[hx] at h'; cases h'; exact h'.symm
    simp only[RAV,hx',RPtr] at hp;obtain⟨hU,-,r,hr,rfl⟩:=hp;cases hz:Z b||(yJ a.cells).any (aA b) with
    | true=>rw[hz] at h; cases h
    | false =>
    rw[hz,cond_false] at h;simp only[da] at hz;have hzb:wu Z (yJ a.cells) b=false:=VL hz.1 fun hmem=>by
     have:=cz.1 hz.2 b hmem;simp at this
    obtain⟨h1,h2,h3⟩:=hm.shown hfz hB (yJ a.cells);have hnS:∀ q o,¬(g.show H fz (yJ a.cells)).S q r o:=by
     rintro q' o' (hs | ⟨-,y',hy',q'',ts'',xs'',hH'',hl'',-⟩)
     ·obtain⟨-,q',ts,xs,hq,-⟩:=hm.sep q' r o' b hs (by rw[hx']; simp) hr
      rw[hx'] at hq; cases hq
     ·have:b=y':=hm.inj b y' r (by rw[hx']; simp) (by rw[hH'']; simp) hr hl''
      subst this;rw[hx'] at hH''; cases hH''
    generalize hg1:g.show H fz (yJ a.cells)=g1 at h1 h2 h3 hnS;have hloc1:g1.loc b=some r:=by rw[← hg1]; exact hr
    have hb:=h1.blk b;rw[hx'] at hb;simp only[RBlk] at hb;obtain⟨r',c,e,hr',hw,hl⟩:=hb;rw[hloc1] at hr'; injection hr' with hr'; subst hr';obtain⟨l,q,ts,n,xs,rest,us,h',rfl,hn',hll,hwl,hs,hle,hus,hrest⟩:=Cu h hl;clear h;obtain⟨y,hy,h'⟩:=ah.1 h';rw[kH hv fz ts a.cells q] at h';obtain⟨⟨k',x'⟩,hset,h⟩:=ah.1 h';rw[← YB a.cells hset] at h;clear h';have hk:k<xs.length:=by
     rcases bG k xs.length with h' | h'
     ·exact h'
     ·rw[aQ h'] at hy; cases hy
    have hq:Le q k':=Yq a.cells hset;have hrl1:RF (mem w) g1 H U a.cells v.cells.toList:=RF.mono h2 _ _ hrl;have hup:∀ b o,g1.S q b o->g1.S k' b o∧mem w b o=mem w b o:=fun b o hs=>⟨h1.le hq hs,rfl⟩;obtain⟨-,hfl,hrv⟩:=RV.sets h1 hh ts a.cells h3 hset hrl1 (Le.refl _) (RV.mono hup ts (hs.2 k y hy));have hvne:v.cells.toList≠[]:=fun e=>by
     have:v.cells.size=0:=by simpa using congrArg af e
     have h0:td.size≠0:=htd0;omega
    have hil:(k+1)*ts.size<=xs.length*ts.size:=aS _ hk;rw[bf,cj] at hil;have hfl:=hfl hvne;have htk:((us.drop (k*ts.size)).take ts.size).length=ts.size:=by simp [hs.1]; omega
    rw[htk] at hfl;have hsv':=SV.put hup hs hk hfl hrv;have hlu:=hs.1;have hle2:k*ts.size+f+v.cells.toList.length<=us.length:=by omega
    have hle3:o+k*ts.size+f+v.cells.toList.length<=c.toList.length:=by omega
    have hdec:c.toList=c.toList.take o++us++c.toList.drop (o+us.length):=by
     have h5:=bW o c.toList;have h6:=bW us.length (c.toList.drop o);rw[hus,cf] at h6;rw[aW,h6,h5]
    have hspl:zS c.toList (o+k*ts.size+f) v.cells.toList=c.toList.take o++(zS us (k*ts.size+f) v.cells.toList++c.toList.drop (o+us.length)):=by
     have h7:(c.toList.take o).length=o:=by simp only[cH]; omega
     have h8:=Hr (A:=c.toList.take o) (B:=c.toList.drop (o+us.length)) (us:=us) (m:=k*ts.size+f) (v:=v.cells.toList) hle2;rw[← hdec,h7,← bK] at h8;exact h8
    refine ⟨_,run r (o+k*ts.size+f) c e hw (by simpa using hle3),fun z => ?_⟩
    obtain⟨h4,h5⟩:=h1.put (id:=id) (x:=b) (by rw[hx']; simp) hloc1 c (zS c.toList (o+k*ts.size+f) v.cells.toList).toArray e hw (by rw[bn,z5 hle3,aO]) hnS (.cells (l++(.val k' (.ar ts n) (xs.set k x')::rest))) (by rw[hx']; trivial) (fun h=>by rw[hzb] at h; cases h)
     (fun m=>⟨r,_,e,hloc1,setRow_heap w r c _ e (0,0) hw,by
      refine RF.mono m _ _ ?_;show RF _ _ _ _ _ (zS c.toList (o+k*ts.size+f) v.cells.toList);rw[hspl];refine hll.append ⟨.agg (zS us (k*ts.size+f) v.cells.toList).toArray,_,_,rfl,⟨by rw[bY]; exact hn',_,rfl,hsv'⟩,rfl,hrest⟩⟩)
    exact Post.of_show h h2 trivial h4 h5
   ·cases h
  | sptr b i f =>
   simp only at h;split at h
   ·rename_i q ts xs hx;have hx':H b = .seq q ts xs:=by rcases hh b with h' | h'<;>rw[hx] at h'; cases h'; exact h'.symm
    cases hz:Z b||(yJ a.cells).any (aA b) with
    | true=>simp [hz] at h
    | false =>
     simp only[hz,cond_false] at h;simp only[da] at hz;obtain⟨hzb,hzs⟩:=hz;simp only[RAV,hx',RSptr] at hp;obtain⟨hU,-,r,hr,rfl⟩:=hp;cases htd:td.isArr with
     | true =>
      rw[htd,cond_true] at h;cases hif:aA i 0&&aA f 0 with
      | false=>rw[hif] at h; cases h
      | true =>
       rw[hif,cond_true] at h;simp only[ay] at hif;have hi:=au hif.1;have hf:=au hif.2;obtain⟨q',us,n,ys,ha0,h'⟩:=Gn h;clear h;subst ha0; subst hi; subst hf
       ·obtain⟨ys',hys,h⟩:=ah.1 h';clear h';obtain⟨e,he⟩:=vp hys;subst e;subst he;cases hc:aA xs.length n with
        | false=>rw[hc] at h; cases h
        | true =>
         rw[hc,cond_true] at h;have hxn:=au hc;obtain⟨hyn,vs,rfl,hsv⟩:=ha;have hb:=hm.blk b;rw[hx'] at hb;simp only[RBlk] at hb;rcases hb with ⟨hn0,-⟩ | ⟨r',c,e,hr',hw,hle,hel⟩
         ·rw[hr] at hn0; cases hn0
         ·rw[hr] at hr'; injection hr' with hr'; subst hr';have hcs:(Value.agg vs).cells=vs:=rfl;have hvl':vs.toList.length=xs.length*us.size:=by rw[hsv.1,hyn,hxn]
          have hle2:0+vs.toList.length<=c.toList.length:=by rw[hvl',aO (xs:=c)]; omega
          refine ⟨_,run r (0*us.size+0) c e hw (by
           have h9:=hle2;rw[aO (xs:=vs),aO (xs:=c)] at h9;show 0*us.size+0+vs.size<=c.size;omega),fun z => ?_⟩
          rw[hcs,dV,dk];have hnS:∀ q o,¬ g.S q r o:=fun q o hs=>hm.sNot hs (by rw[hx']; simp) hr hzb
          obtain⟨h4,h5⟩:=hm.put (id:=id) (x:=b) (by rw[hx']; simp) hr c (zS c.toList 0 vs.toList).toArray e hw (by rw[bn,z5 hle2,aO]) hnS (.seq q' us ys) (by rw[hx']; exact ⟨rfl,by rw[hyn,hxn]⟩) (fun _=>by rw[hx']; rfl)
           (fun m=>.inr ⟨r,_,e,hr,setRow_heap w r c _ e (0,0) hw,by
            simp only[bn,z5 hle2];rw[hyn,← hxn,aO]; exact hle,by
            have:=SV.elems (c':=mem (w.setRow r (zS c.toList 0 vs.toList).toArray)) (A':=g.S q') (T:=fun _ _=>True) (fun b o hs=>m.hS q' b o hs) hsv (r:=r) (o:=0) (fun _ _=>trivial) (fun j u hu=>by
             rw[zB (setRow_heap w r c _ e (0,0) hw),aP];simp only[bR];rw[yV hle2,if_neg (Nat.not_lt_zero _),if_pos (by rw[aP]; exact (List.getElem?_eq_some_iff.1 hu).1),eQ]
             exact hu)
            simp only[aP] at this;exact this⟩)
          exact ⟨_,_,g,h,trivial,h4,h5⟩
     | false =>
     rw[htd,cond_false] at h;obtain⟨y,hy,h⟩:=ah.1 h;rw[kH hv fz ts a.cells q] at h;obtain⟨⟨k',x'⟩,hset,h⟩:=ah.1 h;rw[← YB a.cells hset] at h;obtain⟨h1,h2,h3⟩:=hm.shown hfz hB (yJ a.cells);have hnS:∀ q o,¬(g.show H fz (yJ a.cells)).S q r o:=by
      rintro q' o' (hs | ⟨-,y',hy',q'',ts'',xs'',hH'',hl'',-⟩)
      ·exact hm.sNot hs (by rw[hx']; simp) hr hzb
      ·have:b=y':=hm.inj b y' r (by rw[hx']; simp) (by rw[hH'']; simp) hr hl''
       subst this;have:=cz.1 hzs b hy';simp at this
     generalize hg1:g.show H fz (yJ a.cells)=g1 at h1 h2 h3 hnS;have hloc1:g1.loc b=some r:=by rw[← hg1]; exact hr
     have hb:=h1.blk b;rw[hx'] at hb;simp only[RBlk] at hb;rcases hb with ⟨hn0,-⟩ | ⟨r',c,e,hr',hw,hle,hel⟩
     ·rw[hloc1] at hn0; cases hn0
     ·rw[hloc1] at hr'; injection hr' with hr'; subst hr';have hi:i<xs.length:=by
       rcases bG i xs.length with h' | h'
       ·exact h'
       ·rw[aQ h'] at hy; cases hy
      obtain⟨cells,hsv,hcells⟩:=Z1 (r:=r) (o:=0) (by simpa using hel)
      have hq:Le q k':=Yq a.cells hset;have hrv0:=hsv.2 i y hy;have hrl1:RF (mem w) g1 H U a.cells v.cells.toList:=RF.mono h2 _ _ hrl;have hup:∀ b o,g1.S q b o->g1.S k' b o∧mem w b o=mem w b o:=fun b o hs=>⟨h1.le hq hs,rfl⟩;obtain⟨-,hfl,hrv⟩:=RV.sets h1 hh ts a.cells h3 hset hrl1 (Le.refl _) (RV.mono hup ts hrv0);have hvne:v.cells.toList≠[]:=fun e=>by
       have:v.cells.size=0:=by simpa using congrArg af e
       have h0:td.size≠0:=htd0;omega
      have hil:(i+1)*ts.size<=xs.length*ts.size:=aS _ hi;rw[bf,cj] at hil;have hfl:=hfl hvne;have htk:((cells.drop (i*ts.size)).take ts.size).length=ts.size:=by simp [hsv.1]; omega
      rw[htk] at hfl;have hcl:=hsv.1;have hle2:i*ts.size+f+v.cells.toList.length<=cells.length:=by omega
      have hle3:i*ts.size+f+v.cells.toList.length<=c.toList.length:=by simp only[aO] at *; omega
      have hsv':=SV.put hup hsv hi hfl hrv;refine ⟨_,run r (i*ts.size+f) c e hw (by simpa using hle3),fun z => ?_⟩
      obtain⟨h4,h5⟩:=h1.put (id:=id) (x:=b) (by rw[hx']; simp) hloc1 c (zS c.toList (i*ts.size+f) v.cells.toList).toArray e hw (by rw[bn,z5 hle3,aO]) hnS (.seq k' ts (xs.set i x')) (by rw[hx']; exact ⟨rfl,by simp⟩) (fun _=>by rw[hx']; rfl)
       (fun m=>.inr ⟨r,_,e,hloc1,setRow_heap w r c _ e (0,0) hw,by
        rw[bY];have:=z5 hle3;simp only[bn,this,aO];exact hle,by
        have:=SV.elems (c':=mem (w.setRow r (zS c.toList (i*ts.size+f) v.cells.toList).toArray)) (A':=g1.S k') (T:=fun _ _=>True) (fun b o hs=>m.hS k' b o hs) hsv' (r:=r) (o:=0) (fun _ _=>trivial) (fun j u hu=>by
         rw[zB (setRow_heap w r c _ e (0,0) hw),aP];rw[yV hle2] at hu;have hcc:∀ j u,cells[j]? = some u->c.toList[j]? = some u:=fun j u hu=>by
          have:=hcells j u hu;rw[zB hw,aP] at this;rw[aV]; exact this
         simp only[bR];rw[yV hle3];split at hu
         ·rename_i h1; rw[if_pos h1]; exact hcc j u hu
         ·rename_i h1;rw[if_neg h1];split at hu
          ·rename_i h2; rw[if_pos h2]; exact hu
          ·rename_i h2; rw[if_neg h2]; exact hcc j u hu)
        simp only[aP] at this;exact this⟩)
      exact Post.of_show h h2 trivial h4 h5
   ·cases h
  | _=>simp at h
end
end Go.Abs
