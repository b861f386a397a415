import Derived.Test.YtleengbobccdkaaGreatDoorFc
import Derived.Test.YtleengbobccdkaaGreatDoorQc
import Derived.Test.YtleengbobccdkaaGreatDoorProg
/-
 The functions make just that.
-/
namespace Go.Abs.Sz5
open Go Go.Abs Go.Abs.Q Go.Proofs
set_option maxRecDepth 100000
noncomputable section
def tbl:List (Nat×TD):=[(3,.int .i64),
 (4,.bool),
 (9,.str),
 (22,.sl 136 qr 40),
 (23,.sl 3 (.one (.int .i64)) 8),
 (24,.sl 69 zx 32),
 (27,.sl 23 (.one (.sl (.one (.int .i64)))) 24),
 (29,.st [(24,0),(27,1),(24,2)] 3),
 (50,.sl 73 (.cons (.int .i64) (.cons (.int .i64) (.cons (.int .i64) (.cons (.int .i64) (.cons (.int .i64) (.cons (.int .i64) (.cons (.int .i64) (.cons (.sl zx) (.cons (.sl (.one (.sl (.one (.int .i64))))) (.one (.sl zx))))))))))) 128),
 (69,.st [(4,0),(23,1)] 2),
 (73,.st [(3,0),(3,1),(3,2),(3,3),(3,4),(3,5),(3,6),(29,7)] 10),
 (99,.sl 144 (.cons (.int .i64) (.one (.sl (.one (.int .i64))))) 32),
 (109,.st [(22,0),(50,1),(3,2)] 3),
 (136,.st [(9,0),(3,1),(3,2),(3,3)] 4),
 (144,.st [(3,0),(23,1)] 2),
 (156,.arr 23 (.one (.sl (.one (.int .i64)))) 48),
 (158,.st [(156,0)] 48),
 (178,.arr 3 (.one (.int .i64)) 24),
 (198,.st [(23,0),(3,1)] 2),
 (199,.arr 198 (.cons (.ns (.one (.int .i64))) (.one (.int .i64))) 48),
 (201,.st [(22,0),(199,1)] 97),
 (204,.sl 27 (.one (.sl (.one (.sl (.one (.int .i64)))))) 24),
 (206,.sl 24 (.one (.sl zx)) 24),
 (217,.sl 220 (.cons (.sl (.one (.int .i64))) (.cons (.int .i64) (.cons (.sl (.one (.int .i64))) (.one (.int .i64))))) 64),
 (220,.fa 198 2 2),
 (239,.arr 4 (.one .bool) 48),
 (240,.sl 198 (.cons (.sl (.one (.int .i64))) (.one (.int .i64))) 32)]
def tb:Tb:=zBA tbl
theorem zp:zb0 Tryz.prog tb:=zyY (by kernel_rfl)
theorem zL:Tryz.prog.follows .mixedOrders=true:=by kernel_rfl
def gl:Gl:=fun q=>cond (Nat.beq q 0) (some ⟨qr,(([61],0,2,1):zm)⟩) (none)
def w0_c:ShC:={ inp:=⟨[.hole],[],[1],[.sl (.one (.int .i64))]⟩,out:=⟨[(.view 0)],[.seq false],[2],[.sl (.one (.int .i64))]⟩,nres:=1,ms:=[],mu:=[],leak:=false,glob:=false,F:=fun (x:(List Int))=>zaY x }
-- quaerelaw0.CopyInts
def zKQ:List (Nat×Con):=[]
def w0_v:Env:=zz tb gl zKQ w0_c Tryz.f51.ntmps
theorem zJP:zB Tryz.prog (cond w0_c.glob gl fun _=>none) zKQ:=zi
def zLV:AC:=.run
theorem zL0 (x:z6 w0_c.inp.hs):E w0_v (za Tryz.f51) (zLV) (w0_c.entry x) (zD tb w0_v.fz w0_c [.tmp 2] x)=w0_c.F x:=by kernel_rfl
theorem w0_ok:ShOk Tryz.prog gl 51 w0_c :=
 zE (l:=zKQ) (n:=Tryz.f51.ntmps) (code:=za Tryz.f51) (rts:=[.tmp 2]) zp zL (zJP) Tryz.func51 (by kernel_rfl) (by kernel_rfl) rfl (by kernel_rfl) (ac:=zLV) (ob:=[]) (by kernel_rfl) (fun X hX=>zh) (by kernel_rfl) (zL0)
def w1_c:ShC:={ inp:=⟨[.hole],[],[1],[.sl zx]⟩,out:=⟨[(.view 0)],[.seq false],[2],[.sl zx]⟩,nres:=1,ms:=[],mu:=[],leak:=false,glob:=false,F:=fun (x:(List zd))=>zbW x }
-- quaerelaw0.CopyLits
def zJ5:List (Nat×Con):=[(51,.gen (zU [w0_c]))]
def w1_v:Env:=zz tb gl zJ5 w1_c Tryz.f13.ntmps
theorem zGY:zB Tryz.prog (cond w1_c.glob gl fun _=>none) zJ5:=(zb (ze (zc (w0_ok.anyGl rfl) zg)) zi)
def w1_u0_h:SS:=⟨[0,3,4],⟨[.hole,(.view 0),.hole],[.seq false],[1,2,2],[.sl zx,.int .i64,.sl zx]⟩⟩
def zpy:Exs:=[((.exit 0),⟨[3],⟨[(.view 0)],[.seq false],[2],[.sl zx]⟩⟩)]
def zCZ:AC:=.run
def zEf:Un:=lpU w1_v.fz [5,6,7,8,11,12,13,14,15,16,17,18,19,20,21,22,23,24,25,3,9,10,4] w1_u0_h zpy (lp yQ zr)
theorem zEj (f:w1_u0_h.X→Option (YT zpy)) (x:w1_u0_h.X):E w1_v (zt (za Tryz.f13) [1,1,0,1,0,0]) (zCZ) (mkS w1_u0_h 8 x) (zA w1_v.fz w1_u0_h zpy f)=yQ f x:=by kernel_rfl
theorem zAd {X:Fx} (hX:VOk Tryz.prog X w1_v):q8 Tryz.prog X w1_v (zt (za Tryz.f13) [1,1,0,1,0]) zEf :=
 zF (c:=(zt (za Tryz.f13) [1,1,0,1,0,0])) (by kernel_rfl) (zu zp (zGY)) zL (ob:=[]) (by kernel_rfl) (fun X hX=>zh) (zEj) (by kernel_rfl) (by kernel_rfl) hX
def zLA:AC:=(.seq .run (.seq .run (.seq (.seq .run (.block (.unit zEf))) .run)))
theorem zLX (x:z6 w1_c.inp.hs):E w1_v (za Tryz.f13) (zLA) (w1_c.entry x) (zD tb w1_v.fz w1_c [.tmp 2] x)=w1_c.F x:=by kernel_rfl
theorem w1_ok:ShOk Tryz.prog gl 13 w1_c :=
 zE (l:=zJ5) (n:=Tryz.f13.ntmps) (code:=za Tryz.f13) (rts:=[.tmp 2]) zp zL (zGY) Tryz.func13 (by kernel_rfl) (by kernel_rfl) rfl (by kernel_rfl) (ac:=zLA) (ob:=[((zt (za Tryz.f13) [1,1,0,1,0]),zEf)]) (by kernel_rfl) (fun X hX=>(zq (zAd hX) zh)) (by kernel_rfl) (zLX)
def w2_c:ShC:={ inp:=⟨[.hole],[],[1],[.sl (.one (.sl (.one (.int .i64))))]⟩,out:=⟨[(.view 0)],[.seq false],[2],[.sl (.one (.sl (.one (.int .i64))))]⟩,nres:=1,ms:=[],mu:=[],leak:=false,glob:=false,F:=fun (x:(List (List Int)))=>zcT x }
-- quaerelaw0.CopyRows
def zKM:List (Nat×Con):=[(51,.gen (zU [w0_c]))]
def w2_v:Env:=zz tb gl zKM w2_c Tryz.f68.ntmps
theorem zF8:zB Tryz.prog (cond w2_c.glob gl fun _=>none) zKM:=(zb (ze (zc (w0_ok.anyGl rfl) zg)) zi)
def w2_u0_h:SS:=⟨[0,3,4],⟨[.hole,(.view 0),.hole],[.seq false],[1,2,2],[.sl (.one (.sl (.one (.int .i64)))),.int .i64,.sl (.one (.sl (.one (.int .i64))))]⟩⟩
def zqy:Exs:=[((.exit 0),⟨[3],⟨[(.view 0)],[.seq false],[2],[.sl (.one (.sl (.one (.int .i64))))]⟩⟩)]
def zDT:AC:=.run
def zFG:Un:=lpU w2_v.fz [5,6,7,8,11,12,13,14,15,16,17,18,3,9,10,4] w2_u0_h zqy (lp yU zr)
theorem zDB (f:w2_u0_h.X→Option (YT zqy)) (x:w2_u0_h.X):E w2_v (zt (za Tryz.f68) [1,1,0,1,0,0]) (zDT) (mkS w2_u0_h 8 x) (zA w2_v.fz w2_u0_h zqy f)=yU f x:=by kernel_rfl
theorem zyO {X:Fx} (hX:VOk Tryz.prog X w2_v):q8 Tryz.prog X w2_v (zt (za Tryz.f68) [1,1,0,1,0]) zFG :=
 zF (c:=(zt (za Tryz.f68) [1,1,0,1,0,0])) (by kernel_rfl) (zu zp (zF8)) zL (ob:=[]) (by kernel_rfl) (fun X hX=>zh) (zDB) (by kernel_rfl) (by kernel_rfl) hX
def zLy:AC:=(.seq .run (.seq .run (.seq (.seq .run (.block (.unit zFG))) .run)))
theorem zL4 (x:z6 w2_c.inp.hs):E w2_v (za Tryz.f68) (zLy) (w2_c.entry x) (zD tb w2_v.fz w2_c [.tmp 2] x)=w2_c.F x:=by kernel_rfl
theorem w2_ok:ShOk Tryz.prog gl 68 w2_c :=
 zE (l:=zKM) (n:=Tryz.f68.ntmps) (code:=za Tryz.f68) (rts:=[.tmp 2]) zp zL (zF8) Tryz.func68 (by kernel_rfl) (by kernel_rfl) rfl (by kernel_rfl) (ac:=zLy) (ob:=[((zt (za Tryz.f68) [1,1,0,1,0]),zFG)]) (by kernel_rfl) (fun X hX=>(zq (zyO hX) zh)) (by kernel_rfl) (zL4)
def w3_c:ShC:={ inp:=⟨[(.agg [.hole,.hole,.hole])],[],[1,1,1],[.sl zx,.sl (.one (.sl (.one (.int .i64)))),.sl zx]⟩,out:=⟨[(.agg [(.view 0),(.view 1),(.view 2)])],[.seq false,.seq false,.seq false],[2,2,2],[.sl zx,.sl (.one (.sl (.one (.int .i64)))),.sl zx]⟩,nres:=1,ms:=[],mu:=[],leak:=false,glob:=false,F:=fun (x:((List zd)×(List (List Int))×(List zd)))=>zaM x.1 x.2.1 x.2.2 }
-- quaerelaw0.CopyClause
def zK8:List (Nat×Con):=[(13,.gen (zU [w1_c])),(68,.gen (zU [w2_c]))]
def w3_v:Env:=zz tb gl zK8 w3_c Tryz.f23.ntmps
theorem zKx:zB Tryz.prog (cond w3_c.glob gl fun _=>none) zK8:=(zb (ze (zc (w1_ok.anyGl rfl) zg)) (zb (ze (zc (w2_ok.anyGl rfl) zg)) zi))
def zLU:AC:=.run
theorem zL3 (x:z6 w3_c.inp.hs):E w3_v (za Tryz.f23) (zLU) (w3_c.entry x) (zD tb w3_v.fz w3_c [.cell 2 29] x)=w3_c.F x:=by kernel_rfl
theorem w3_ok:ShOk Tryz.prog gl 23 w3_c :=
 zE (l:=zK8) (n:=Tryz.f23.ntmps) (code:=za Tryz.f23) (rts:=[.cell 2 29]) zp zL (zKx) Tryz.func23 (by kernel_rfl) (by kernel_rfl) rfl (by kernel_rfl) (ac:=zLU) (ob:=[]) (by kernel_rfl) (fun X hX=>zh) (by kernel_rfl) (zL3)
def w4_c:ShC:={ inp:=⟨[.hole],[],[1],[.int .u8]⟩,out:=⟨[.hole],[],[2],[.bool]⟩,nres:=1,ms:=[],mu:=[],leak:=false,glob:=false,F:=fun (x:Int)=>zc5 x }
-- sign.small
def zKW:List (Nat×Con):=[]
def w4_v:Env:=zz tb gl zKW w4_c Tryz.f204.ntmps
theorem zJy:zB Tryz.prog (cond w4_c.glob gl fun _=>none) zKW:=zi
def zLO:AC:=.run
theorem zL9 (x:z6 w4_c.inp.hs):E w4_v (za Tryz.f204) (zLO) (w4_c.entry x) (zD tb w4_v.fz w4_c [.tmp 2] x)=w4_c.F x:=by kernel_rfl
theorem w4_ok:ShOk Tryz.prog gl 204 w4_c :=
 zE (l:=zKW) (n:=Tryz.f204.ntmps) (code:=za Tryz.f204) (rts:=[.tmp 2]) zp zL (zJy) Tryz.func204 (by kernel_rfl) (by kernel_rfl) rfl (by kernel_rfl) (ac:=zLO) (ob:=[]) (by kernel_rfl) (fun X hX=>zh) (by kernel_rfl) (zL9)
def w5_c:ShC:={ inp:=⟨[.hole],[],[1],[.str]⟩,out:=⟨[.hole],[],[2],[.bool]⟩,nres:=1,ms:=[],mu:=[],leak:=false,glob:=false,F:=fun (x:Str)=>zez x }
-- sign.called
def zK4:List (Nat×Con):=[(204,.gen (zU [w4_c]))]
def w5_v:Env:=zz tb gl zK4 w5_c Tryz.f167.ntmps
theorem zFP:zB Tryz.prog (cond w5_c.glob gl fun _=>none) zK4:=(zb (ze (zc (w4_ok.anyGl rfl) zg)) zi)
def w5_u0_h:SS:=⟨[0,18,19],⟨[.hole,.hole,.hole],[],[2,2,2],[.str,.int .i64,.int .i64]⟩⟩
def zqb:Exs:=[((.exit 0),⟨[],⟨[],[],[],[]⟩⟩),(.ret,⟨[2],⟨[.hole],[],[2],[.bool]⟩⟩)]
def zD3:AC:=.run
def zEz:Un:=lpU w5_v.fz [20,21,3,22,23,24,25,26,27,28,29,30,31,32,33,34,35,36,37,38,2,39,19] w5_u0_h zqb (lp qB zr)
theorem zFr (f:w5_u0_h.X→Option (YT zqb)) (x:w5_u0_h.X):E w5_v (zt (za Tryz.f167) [1,1,0,1,0,0]) (zD3) (mkS w5_u0_h 8 x) (zA w5_v.fz w5_u0_h zqb f)=qB f x:=by kernel_rfl
theorem zAg {X:Fx} (hX:VOk Tryz.prog X w5_v):q8 Tryz.prog X w5_v (zt (za Tryz.f167) [1,1,0,1,0]) zEz :=
 zF (c:=(zt (za Tryz.f167) [1,1,0,1,0,0])) (by kernel_rfl) (zu zp (zFP)) zL (ob:=[]) (by kernel_rfl) (fun X hX=>zh) (zFr) (by kernel_rfl) (by kernel_rfl) hX
def zLF:AC:=(.seq .run (.seq .run (.seq (.seq .run (.block (.unit zEz))) .run)))
theorem zLZ (x:z6 w5_c.inp.hs):E w5_v (za Tryz.f167) (zLF) (w5_c.entry x) (zD tb w5_v.fz w5_c [.tmp 2] x)=w5_c.F x:=by kernel_rfl
theorem w5_ok:ShOk Tryz.prog gl 167 w5_c :=
 zE (l:=zK4) (n:=Tryz.f167.ntmps) (code:=za Tryz.f167) (rts:=[.tmp 2]) zp zL (zFP) Tryz.func167 (by kernel_rfl) (by kernel_rfl) rfl (by kernel_rfl) (ac:=zLF) (ob:=[((zt (za Tryz.f167) [1,1,0,1,0]),zEz)]) (by kernel_rfl) (fun X hX=>(zq (zAg hX) zh)) (by kernel_rfl) (zLZ)
def w6_c:ShC:={ inp:=⟨[(.agg [.hole,.hole,.hole,.hole])],[],[1,1,1,1],[.str,.int .i64,.int .i64,.int .i64]⟩,out:=⟨[.hole],[],[2],[.bool]⟩,nres:=1,ms:=[],mu:=[],leak:=false,glob:=false,F:=fun (x:zm)=>zdb x.1 x.2.1 x.2.2.1 x.2.2.2 }
-- sign.SymMay
def zKc:List (Nat×Con):=[(167,.gen (zU [w5_c]))]
def w6_v:Env:=zz tb gl zKc w6_c Tryz.f113.ntmps
theorem zKn:zB Tryz.prog (cond w6_c.glob gl fun _=>none) zKc:=(zb (ze (zc (w5_ok.anyGl rfl) zg)) zi)
def zLK:AC:=.run
theorem zL5 (x:z6 w6_c.inp.hs):E w6_v (za Tryz.f113) (zLK) (w6_c.entry x) (zD tb w6_v.fz w6_c [.tmp 2] x)=w6_c.F x:=by kernel_rfl
theorem w6_ok:ShOk Tryz.prog gl 113 w6_c :=
 zE (l:=zKc) (n:=Tryz.f113.ntmps) (code:=za Tryz.f113) (rts:=[.tmp 2]) zp zL (zKn) Tryz.func113 (by kernel_rfl) (by kernel_rfl) rfl (by kernel_rfl) (ac:=zLK) (ob:=[]) (by kernel_rfl) (fun X hX=>zh) (by kernel_rfl) (zL5)
def w7_c:ShC:={ inp:=⟨[.hole,.hole],[],[1,1],[.sl qr,.str]⟩,out:=⟨[.hole],[],[2],[.int .i64]⟩,nres:=1,ms:=[],mu:=[],leak:=false,glob:=false,F:=fun (x:((List zm)×Str))=>zeh x.1 x.2 }
-- sign.find
def zJr:List (Nat×Con):=[]
def w7_v:Env:=zz tb gl zJr w7_c Tryz.f114.ntmps
theorem zHa:zB Tryz.prog (cond w7_c.glob gl fun _=>none) zJr:=zi
def w7_u0_h:SS:=⟨[0,1,7,8],⟨[.hole,.hole,.hole,.hole],[],[1,2,2,2],[.sl qr,.str,.int .i64,.int .i64]⟩⟩
def zp0:Exs:=[((.exit 0),⟨[],⟨[],[],[],[]⟩⟩),(.ret,⟨[4],⟨[.hole],[],[2],[.int .i64]⟩⟩)]
def zFF:AC:=.run
def zEb:Un:=lpU w7_v.fz [9,10,5,11,12,13,14,15,16,17,18,4,19,8] w7_u0_h zp0 (lp zaw zr)
theorem zE7 (f:w7_u0_h.X→Option (YT zp0)) (x:w7_u0_h.X):E w7_v (zt (za Tryz.f114) [1,0,1,0,0]) (zFF) (mkS w7_u0_h 8 x) (zA w7_v.fz w7_u0_h zp0 f)=zaw f x:=by kernel_rfl
theorem zyw {X:Fx} (hX:VOk Tryz.prog X w7_v):q8 Tryz.prog X w7_v (zt (za Tryz.f114) [1,0,1,0]) zEb :=
 zF (c:=(zt (za Tryz.f114) [1,0,1,0,0])) (by kernel_rfl) (zu zp (zHa)) zL (ob:=[]) (by kernel_rfl) (fun X hX=>zh) (zE7) (by kernel_rfl) (by kernel_rfl) hX
def zLC:AC:=(.seq .run (.seq (.seq .run (.block (.unit zEb))) .run))
theorem zMa (x:z6 w7_c.inp.hs):E w7_v (za Tryz.f114) (zLC) (w7_c.entry x) (zD tb w7_v.fz w7_c [.tmp 4] x)=w7_c.F x:=by kernel_rfl
theorem w7_ok:ShOk Tryz.prog gl 114 w7_c :=
 zE (l:=zJr) (n:=Tryz.f114.ntmps) (code:=za Tryz.f114) (rts:=[.tmp 4]) zp zL (zHa) Tryz.func114 (by kernel_rfl) (by kernel_rfl) rfl (by kernel_rfl) (ac:=zLC) (ob:=[((zt (za Tryz.f114) [1,0,1,0]),zEb)]) (by kernel_rfl) (fun X hX=>(zq (zyw hX) zh)) (by kernel_rfl) (zMa)
def w8_c:ShC:={ inp:=⟨[.hole],[],[1],[.sl qr]⟩,out:=⟨[.hole],[],[2],[.bool]⟩,nres:=1,ms:=[],mu:=[],leak:=false,glob:=true,F:=fun (x:(List zm))=>ze1 x }
-- sign.May
def zKI:List (Nat×Con):=[(113,.gen (zU [w6_c])),(114,.gen (zU [w7_c]))]
def w8_v:Env:=zz tb gl zKI w8_c Tryz.f52.ntmps
theorem zI1:zB Tryz.prog (cond w8_c.glob gl fun _=>none) zKI:=(zb (ze (zc (w6_ok.anyGl rfl) zg)) (zb (ze (zc (w7_ok.anyGl rfl) zg)) zi))
def w8_u0_h:SS:=⟨[0,3],⟨[.hole,.hole],[],[1,2],[.sl qr,.int .i64]⟩⟩
def zp3:Exs:=[((.exit 0),⟨[],⟨[],[],[],[]⟩⟩),(.ret,⟨[2],⟨[.hole],[],[2],[.bool]⟩⟩)]
def zFq:AC:=.run
def zFp:Un:=lpU w8_v.fz [19,20,21,22,25,26,27,28,29,30,31,32,33,34,35,36,37,38,39,40,41,2,23,24,3] w8_u0_h zp3 (lp zbj zr)
theorem zDb (f:w8_u0_h.X→Option (YT zp3)) (x:w8_u0_h.X):E w8_v (zt (za Tryz.f52) [1,1,0,1,0,0]) (zFq) (mkS w8_u0_h 8 x) (zA w8_v.fz w8_u0_h zp3 f)=zbj f x:=by kernel_rfl
theorem zzK {X:Fx} (hX:VOk Tryz.prog X w8_v):q8 Tryz.prog X w8_v (zt (za Tryz.f52) [1,1,0,1,0]) zFp :=
 zF (c:=(zt (za Tryz.f52) [1,1,0,1,0,0])) (by kernel_rfl) (zu zp (zI1)) zL (ob:=[]) (by kernel_rfl) (fun X hX=>zh) (zDb) (by kernel_rfl) (by kernel_rfl) hX
def zLI:AC:=(.seq .run (.seq .run (.seq (.seq .run (.block (.unit zFp))) .run)))
theorem zL1 (x:z6 w8_c.inp.hs):E w8_v (za Tryz.f52) (zLI) (w8_c.entry x) (zD tb w8_v.fz w8_c [.tmp 2] x)=w8_c.F x:=by kernel_rfl
theorem zCJ:ShOk Tryz.prog gl 52 w8_c :=
 zE (l:=zKI) (n:=Tryz.f52.ntmps) (code:=za Tryz.f52) (rts:=[.tmp 2]) zp zL (zI1) Tryz.func52 (by kernel_rfl) (by kernel_rfl) rfl (by kernel_rfl) (ac:=zLI) (ob:=[((zt (za Tryz.f52) [1,1,0,1,0]),zFp)]) (by kernel_rfl) (fun X hX=>(zq (zzK hX) zh)) (by kernel_rfl) (zL1)
def w9_c:ShC:={ inp:=⟨[.hole],[],[1],[.int .i64]⟩,out:=⟨[.hole],[],[2],[.int .i64]⟩,nres:=1,ms:=[],mu:=[],leak:=false,glob:=false,F:=fun (x:Int)=>qh x }
-- term.Number
def zJ7:List (Nat×Con):=[]
def w9_v:Env:=zz tb gl zJ7 w9_c Tryz.f55.ntmps
theorem zKH:zB Tryz.prog (cond w9_c.glob gl fun _=>none) zJ7:=zi
def zLS:AC:=.run
theorem zL8 (x:z6 w9_c.inp.hs):E w9_v (za Tryz.f55) (zLS) (w9_c.entry x) (zD tb w9_v.fz w9_c [.tmp 2] x)=w9_c.F x:=by kernel_rfl
theorem w9_ok:ShOk Tryz.prog gl 55 w9_c :=
 zE (l:=zJ7) (n:=Tryz.f55.ntmps) (code:=za Tryz.f55) (rts:=[.tmp 2]) zp zL (zKH) Tryz.func55 (by kernel_rfl) (by kernel_rfl) rfl (by kernel_rfl) (ac:=zLS) (ob:=[]) (by kernel_rfl) (fun X hX=>zh) (by kernel_rfl) (zL8)
def w10_c:ShC:={ inp:=⟨[.hole,.hole],[],[1,1],[.sl qr,.int .i64]⟩,out:=⟨[.hole,.hole],[],[2,2],[.int .i64,.bool]⟩,nres:=2,ms:=[],mu:=[],leak:=false,glob:=false,F:=fun (x:((List zm)×Int))=>zgh x.1 x.2 }
-- term.args
def zDy:List (Nat×Con):=[(55,.gen (zU [w9_c]))]
def w10_v:Env:=zz tb gl zDy w10_c Tryz.f193.ntmps
theorem zFT:zB Tryz.prog (cond w10_c.glob gl fun _=>none) zDy:=(zb (ze (zc (w9_ok.anyGl rfl) zg)) zi)
def zGQ:AC:=.run
theorem zLq (x:z6 w10_c.inp.hs):E w10_v (za Tryz.f193) (zGQ) (w10_c.entry x) (zD tb w10_v.fz w10_c [.tmp 4,.tmp 5] x)=w10_c.F x:=by kernel_rfl
theorem w10_ok:ShOk Tryz.prog gl 193 w10_c :=
 zE (l:=zDy) (n:=Tryz.f193.ntmps) (code:=za Tryz.f193) (rts:=[.tmp 4,.tmp 5]) zp zL (zFT) Tryz.func193 (by kernel_rfl) (by kernel_rfl) rfl (by kernel_rfl) (ac:=zGQ) (ob:=[]) (by kernel_rfl) (fun X hX=>zh) (by kernel_rfl) (zLq)
def w11_c:ShC:={ inp:=⟨[.hole,.hole,.hole],[],[1,1,1],[.sl qr,.sl (.one (.int .i64)),.int .i64]⟩,out:=⟨[.hole,.hole],[],[2,2],[.int .i64,.bool]⟩,nres:=2,ms:=[],mu:=[],leak:=false,glob:=false,F:=fun (x:((List zm)×(List Int)×Int))=>zek x.1 x.2.1 x.2.2 }
-- term.Skip
def zFn:List (Nat×Con):=[(193,.gen (zU [w10_c]))]
def w11_v:Env:=zz tb gl zFn w11_c Tryz.f151.ntmps
theorem zCp:zB Tryz.prog (cond w11_c.glob gl fun _=>none) zFn:=(zb (ze (zc (w10_ok.anyGl rfl) zg)) zi)
def zjP:Exs:=[(.goto 0,⟨[0,1,2,8],⟨[.hole,.hole,.hole,.hole],[],[1,1,2,2],[.sl qr,.sl (.one (.int .i64)),.int .i64,.int .i64]⟩⟩)]
def zmV:Exs:=[(.ret,⟨[6,7],⟨[.hole,.hole],[],[2,2],[.int .i64,.bool]⟩⟩)]
def zx8:AC:=.run
def zzJ:List (Nat×AC):=[]
def zwy:Un:=scU w11_v [8,11,12,13,14,6,7,16,17,18,19,20,21,15,22,23,9,10,24,25,6,7,26,27,2,28,29,30,31,8,32,33,34,6,7] zjP zmV (zt (za Tryz.f151) [1,0]) (zx8) (lp zaO zr)
theorem zyq (f:YT zjP→Option (YT zmV)) (x:YT zjP):zoR w11_v (zt (za Tryz.f151) [1,0]) (zrS (zzJ)) zjP zmV f x=zaO f x:=by kernel_rfl
theorem zs7 {X:Fx} (hX:VOk Tryz.prog X w11_v):q8 Tryz.prog X w11_v (zt (za Tryz.f151) [1]) zwy :=
 zvR (c:=(zt (za Tryz.f151) [1,0])) (by kernel_rfl) (zu zp (zCp)) zL (ob:=[]) (by kernel_rfl) (fun X hX=>zh) (fun X hX=>zuT zqr) (zyq) (by kernel_rfl) (by kernel_rfl) (by kernel_rfl) hX
def zHK:AC:=(.seq .run (.unit zwy))
theorem zKC (x:z6 w11_c.inp.hs):E w11_v (za Tryz.f151) (zHK) (w11_c.entry x) (zD tb w11_v.fz w11_c [.tmp 6,.tmp 7] x)=w11_c.F x:=by kernel_rfl
theorem w11_ok:ShOk Tryz.prog gl 151 w11_c :=
 zE (l:=zFn) (n:=Tryz.f151.ntmps) (code:=za Tryz.f151) (rts:=[.tmp 6,.tmp 7]) zp zL (zCp) Tryz.func151 (by kernel_rfl) (by kernel_rfl) rfl (by kernel_rfl) (ac:=zHK) (ob:=[((zt (za Tryz.f151) [1]),zwy)]) (by kernel_rfl) (fun X hX=>(zq (zs7 hX) zh)) (by kernel_rfl) (zKC)
def w12_c:ShC:={ inp:=⟨[.hole,.hole],[],[1,1],[.sl qr,.sl (.one (.int .i64))]⟩,out:=⟨[(.view 0),.hole],[.seq false],[2,2],[.bool,.sl (.one (.int .i64))]⟩,nres:=2,ms:=[],mu:=[],leak:=false,glob:=true,F:=fun (x:((List zm)×(List Int)))=>zcj x.1 x.2 }
-- term.begins
def zEq:List (Nat×Con):=[(52,.gen (zU [w8_c])),(151,.gen (zU [w11_c]))]
def w12_v:Env:=zz tb gl zEq w12_c Tryz.f158.ntmps
theorem zA8:zB Tryz.prog (cond w12_c.glob gl fun _=>none) zEq:=(zb (ze (zc zCJ zg)) (zb (ze (zc (w11_ok.anyGl rfl) zg)) zi))
def zjK:Exs:=[(.goto 0,⟨[0,1,6,7],⟨[.hole,.hole,(.view 0),.hole],[.seq false],[1,1,2,2],[.sl qr,.sl (.one (.int .i64)),.int .i64,.sl (.one (.int .i64))]⟩⟩)]
def znc:Exs:=[(.ret,⟨[4,5],⟨[(.view 0),.hole],[.seq false],[2,2],[.bool,.sl (.one (.int .i64))]⟩⟩)]
def zyB:AC:=.run
def zzh:List (Nat×AC):=[]
def ztk:Un:=scU w12_v [10,11,12,13,14,15,16,17,4,5,6,7,18,19,20,21,22,4,5,24,25,26,27,23,28,29,8,9,30,31,4,5,32,33,34,35,6,36,7] zjK znc (zt (za Tryz.f158) [1,0]) (zyB) (lp za5 zr)
theorem zzG (f:YT zjK→Option (YT znc)) (x:YT zjK):zoR w12_v (zt (za Tryz.f158) [1,0]) (zrS (zzh)) zjK znc f x=za5 f x:=by kernel_rfl
theorem zvc {X:Fx} (hX:VOk Tryz.prog X w12_v):q8 Tryz.prog X w12_v (zt (za Tryz.f158) [1]) ztk :=
 zvR (c:=(zt (za Tryz.f158) [1,0])) (by kernel_rfl) (zu zp (zA8)) zL (ob:=[]) (by kernel_rfl) (fun X hX=>zh) (fun X hX=>zuT zqr) (zzG) (by kernel_rfl) (by kernel_rfl) (by kernel_rfl) hX
def zIG:AC:=(.seq .run (.unit ztk))
theorem zJ4 (x:z6 w12_c.inp.hs):E w12_v (za Tryz.f158) (zIG) (w12_c.entry x) (zD tb w12_v.fz w12_c [.tmp 4,.tmp 5] x)=w12_c.F x:=by kernel_rfl
theorem ztE:ShOk Tryz.prog gl 158 w12_c :=
 zE (l:=zEq) (n:=Tryz.f158.ntmps) (code:=za Tryz.f158) (rts:=[.tmp 4,.tmp 5]) zp zL (zA8) Tryz.func158 (by kernel_rfl) (by kernel_rfl) rfl (by kernel_rfl) (ac:=zIG) (ob:=[((zt (za Tryz.f158) [1]),ztk)]) (by kernel_rfl) (fun X hX=>(zq (zvc hX) zh)) (by kernel_rfl) (zJ4)
def w13_c:ShC:={ inp:=⟨[.hole,.hole],[],[1,1],[.sl qr,.sl (.one (.int .i64))]⟩,out:=⟨[.hole],[],[2],[.bool]⟩,nres:=1,ms:=[],mu:=[],leak:=false,glob:=true,F:=fun (x:((List zm)×(List Int)))=>zbl x.1 x.2 }
-- term.IsAtom
def zFt:List (Nat×Con):=[(158,.gen (zU [w12_c]))]
def w13_v:Env:=zz tb gl zFt w13_c Tryz.f101.ntmps
theorem zHX:zB Tryz.prog (cond w13_c.glob gl fun _=>none) zFt:=(zb (ze (zc ztE zg)) zi)
def zGW:AC:=.run
theorem zKg (x:z6 w13_c.inp.hs):E w13_v (za Tryz.f101) (zGW) (w13_c.entry x) (zD tb w13_v.fz w13_c [.tmp 4] x)=w13_c.F x:=by kernel_rfl
theorem zBX:ShOk Tryz.prog gl 101 w13_c :=
 zE (l:=zFt) (n:=Tryz.f101.ntmps) (code:=za Tryz.f101) (rts:=[.tmp 4]) zp zL (zHX) Tryz.func101 (by kernel_rfl) (by kernel_rfl) rfl (by kernel_rfl) (ac:=zGW) (ob:=[]) (by kernel_rfl) (fun X hX=>zh) (by kernel_rfl) (zKg)
def w14_c:ShC:={ inp:=⟨[.hole,(.agg [.hole,.hole])],[],[1,1,1],[.sl qr,.bool,.sl (.one (.int .i64))]⟩,out:=⟨[.hole],[],[2],[.bool]⟩,nres:=1,ms:=[],mu:=[],leak:=false,glob:=true,F:=fun (x:((List zm)×Bool×(List Int)))=>zhe x.1 x.2.1 x.2.2 }
-- lit.May
def zE0:List (Nat×Con):=[(101,.gen (zU [w13_c]))]
def w14_v:Env:=zz tb gl zE0 w14_c Tryz.f142.ntmps
theorem zIZ:zB Tryz.prog (cond w14_c.glob gl fun _=>none) zE0:=(zb (ze (zc zBX zg)) zi)
def zIK:AC:=.run
theorem zJZ (x:z6 w14_c.inp.hs):E w14_v (za Tryz.f142) (zIK) (w14_c.entry x) (zD tb w14_v.fz w14_c [.tmp 4] x)=w14_c.F x:=by kernel_rfl
theorem zs3:ShOk Tryz.prog gl 142 w14_c :=
 zE (l:=zE0) (n:=Tryz.f142.ntmps) (code:=za Tryz.f142) (rts:=[.tmp 4]) zp zL (zIZ) Tryz.func142 (by kernel_rfl) (by kernel_rfl) rfl (by kernel_rfl) (ac:=zIK) (ob:=[]) (by kernel_rfl) (fun X hX=>zh) (by kernel_rfl) (zJZ)
def w15_c:ShC:={ inp:=⟨[.hole,.hole],[],[1,1],[.sl qr,.sl zx]⟩,out:=⟨[.hole,.hole],[],[2,2],[.int .i64,.bool]⟩,nres:=2,ms:=[],mu:=[],leak:=false,glob:=true,F:=fun (x:((List zm)×(List zd)))=>zbz x.1 x.2 }
-- clause.litsMay
def zEg:List (Nat×Con):=[(142,.gen (zU [w14_c]))]
def w15_v:Env:=zz tb gl zEg w15_c Tryz.f104.ntmps
theorem zCz:zB Tryz.prog (cond w15_c.glob gl fun _=>none) zEg:=(zb (ze (zc zs3 zg)) zi)
def w15_u0_h:SS:=⟨[0,6,9,10,11],⟨[.hole,.hole,.hole,.hole,.hole],[],[1,2,1,2,2],[.sl qr,.int .i64,.sl zx,.int .i64,.int .i64]⟩⟩
def zmp:Exs:=[((.exit 0),⟨[6],⟨[.hole],[],[2],[.int .i64]⟩⟩),(.ret,⟨[4,5],⟨[.hole,.hole],[],[2,2],[.int .i64,.bool]⟩⟩)]
def zA5:AC:=.run
def ztM:Un:=lpU w15_v.fz [12,13,14,8,15,16,17,18,4,5,19,20,21,22,23,6,24,11] w15_u0_h zmp (lp yE zr)
theorem zyk (f:w15_u0_h.X→Option (YT zmp)) (x:w15_u0_h.X):E w15_v (zt (za Tryz.f104) [1,1,0,1,0,0]) (zA5) (mkS w15_u0_h 8 x) (zA w15_v.fz w15_u0_h zmp f)=yE f x:=by kernel_rfl
theorem ztp {X:Fx} (hX:VOk Tryz.prog X w15_v):q8 Tryz.prog X w15_v (zt (za Tryz.f104) [1,1,0,1,0]) ztM :=
 zF (c:=(zt (za Tryz.f104) [1,1,0,1,0,0])) (by kernel_rfl) (zu zp (zCz)) zL (ob:=[]) (by kernel_rfl) (fun X hX=>zh) (zyk) (by kernel_rfl) (by kernel_rfl) hX
def zGo:AC:=(.seq .run (.seq .run (.seq (.seq .run (.block (.unit ztM))) .run)))
theorem zJY (x:z6 w15_c.inp.hs):E w15_v (za Tryz.f104) (zGo) (w15_c.entry x) (zD tb w15_v.fz w15_c [.tmp 4,.tmp 5] x)=w15_c.F x:=by kernel_rfl
theorem zF7:ShOk Tryz.prog gl 104 w15_c :=
 zE (l:=zEg) (n:=Tryz.f104.ntmps) (code:=za Tryz.f104) (rts:=[.tmp 4,.tmp 5]) zp zL (zCz) Tryz.func104 (by kernel_rfl) (by kernel_rfl) rfl (by kernel_rfl) (ac:=zGo) (ob:=[((zt (za Tryz.f104) [1,1,0,1,0]),ztM)]) (by kernel_rfl) (fun X hX=>(zq (ztp hX) zh)) (by kernel_rfl) (zJY)
def w16_c:ShC:={ inp:=⟨[.hole,.hole],[],[1,1],[.sl qr,.sl (.one (.int .i64))]⟩,out:=⟨[.hole,.hole],[],[2,2],[.int .i64,.int .i64]⟩,nres:=2,ms:=[],mu:=[],leak:=false,glob:=true,F:=fun (x:((List zm)×(List Int)))=>zeo x.1 x.2 }
-- term.Row
def zDc:List (Nat×Con):=[(158,.gen (zU [w12_c]))]
def w16_v:Env:=zz tb gl zDc w16_c Tryz.f162.ntmps
theorem zIw:zB Tryz.prog (cond w16_c.glob gl fun _=>none) zDc:=(zb (ze (zc ztE zg)) zi)
def zHj:AC:=.run
theorem zJM (x:z6 w16_c.inp.hs):E w16_v (za Tryz.f162) (zHj) (w16_c.entry x) (zD tb w16_v.fz w16_c [.tmp 4,.tmp 5] x)=w16_c.F x:=by kernel_rfl
theorem zBe:ShOk Tryz.prog gl 162 w16_c :=
 zE (l:=zDc) (n:=Tryz.f162.ntmps) (code:=za Tryz.f162) (rts:=[.tmp 4,.tmp 5]) zp zL (zIw) Tryz.func162 (by kernel_rfl) (by kernel_rfl) rfl (by kernel_rfl) (ac:=zHj) (ob:=[]) (by kernel_rfl) (fun X hX=>zh) (by kernel_rfl) (zJM)
def w17_c:ShC:={ inp:=⟨[.hole,.hole],[],[1,1],[.sl qr,.sl (.one (.sl (.one (.int .i64))))]⟩,out:=⟨[.hole,.hole],[],[2,2],[.int .i64,.bool]⟩,nres:=2,ms:=[],mu:=[],leak:=false,glob:=true,F:=fun (x:((List zm)×(List (List Int))))=>zco x.1 x.2 }
-- clause.rowsMay
def zDq:List (Nat×Con):=[(162,.gen (zU [w16_c]))]
def w17_v:Env:=zz tb gl zDq w17_c Tryz.f105.ntmps
theorem zBy:zB Tryz.prog (cond w17_c.glob gl fun _=>none) zDq:=(zb (ze (zc zBe zg)) zi)
def w17_u0_h:SS:=⟨[0,6,7,12,13,14],⟨[.hole,.hole,.hole,.hole,.hole,.hole],[],[1,2,2,1,2,2],[.sl qr,.int .i64,.int .i64,.sl (.one (.sl (.one (.int .i64)))),.int .i64,.int .i64]⟩⟩
def znI:Exs:=[((.exit 0),⟨[6],⟨[.hole],[],[2],[.int .i64]⟩⟩),(.ret,⟨[4,5],⟨[.hole,.hole],[],[2,2],[.int .i64,.bool]⟩⟩)]
def zzv:AC:=.run
def zuq:Un:=lpU w17_v.fz [15,16,17,18,8,9,20,21,22,19,23,24,10,11,25,26,27,7,28,29,30,31,32,33,34,4,5,35,36,37,38,6,39,14] w17_u0_h znI (lp yF zr)
theorem zzA (f:w17_u0_h.X→Option (YT znI)) (x:w17_u0_h.X):E w17_v (zt (za Tryz.f105) [1,1,0,1,0,0]) (zzv) (mkS w17_u0_h 8 x) (zA w17_v.fz w17_u0_h znI f)=yF f x:=by kernel_rfl
theorem zvC {X:Fx} (hX:VOk Tryz.prog X w17_v):q8 Tryz.prog X w17_v (zt (za Tryz.f105) [1,1,0,1,0]) zuq :=
 zF (c:=(zt (za Tryz.f105) [1,1,0,1,0,0])) (by kernel_rfl) (zu zp (zBy)) zL (ob:=[]) (by kernel_rfl) (fun X hX=>zh) (zzA) (by kernel_rfl) (by kernel_rfl) hX
def zGH:AC:=(.seq .run (.seq .run (.seq (.seq .run (.block (.unit zuq))) .run)))
theorem zLp (x:z6 w17_c.inp.hs):E w17_v (za Tryz.f105) (zGH) (w17_c.entry x) (zD tb w17_v.fz w17_c [.tmp 4,.tmp 5] x)=w17_c.F x:=by kernel_rfl
theorem zGR:ShOk Tryz.prog gl 105 w17_c :=
 zE (l:=zDq) (n:=Tryz.f105.ntmps) (code:=za Tryz.f105) (rts:=[.tmp 4,.tmp 5]) zp zL (zBy) Tryz.func105 (by kernel_rfl) (by kernel_rfl) rfl (by kernel_rfl) (ac:=zGH) (ob:=[((zt (za Tryz.f105) [1,1,0,1,0]),zuq)]) (by kernel_rfl) (fun X hX=>(zq (zvC hX) zh)) (by kernel_rfl) (zLp)
def w18_c:ShC:={ inp:=⟨[.hole,(.agg [.hole,.hole,.hole])],[],[1,1,1,1],[.sl qr,.sl zx,.sl (.one (.sl (.one (.int .i64)))),.sl zx]⟩,out:=⟨[.hole],[],[2],[.bool]⟩,nres:=1,ms:=[],mu:=[],leak:=false,glob:=true,F:=fun (x:((List zm)×(List zd)×(List (List Int))×(List zd)))=>zbN x.1 x.2.1 x.2.2.1 x.2.2.2 }
-- clause.May
def zFE:List (Nat×Con):=[(52,.gen (zU [w8_c])),(104,.gen (zU [w15_c])),(105,.gen (zU [w17_c]))]
def w18_v:Env:=zz tb gl zFE w18_c Tryz.f42.ntmps
theorem zG0:zB Tryz.prog (cond w18_c.glob gl fun _=>none) zFE:=(zb (ze (zc zCJ zg)) (zb (ze (zc zF7 zg)) (zb (ze (zc zGR zg)) zi)))
def zHU:AC:=.run
theorem zJX (x:z6 w18_c.inp.hs):E w18_v (za Tryz.f42) (zHU) (w18_c.entry x) (zD tb w18_v.fz w18_c [.tmp 4] x)=w18_c.F x:=by kernel_rfl
theorem zoD:ShOk Tryz.prog gl 42 w18_c :=
 zE (l:=zFE) (n:=Tryz.f42.ntmps) (code:=za Tryz.f42) (rts:=[.tmp 4]) zp zL (zG0) Tryz.func42 (by kernel_rfl) (by kernel_rfl) rfl (by kernel_rfl) (ac:=zHU) (ob:=[]) (by kernel_rfl) (fun X hX=>zh) (by kernel_rfl) (zJX)
def w19_c:ShC:={ inp:=⟨[(.agg [.hole,.hole,.hole]),.hole],[],[1,1,1,1],[.sl zx,.sl (.one (.sl (.one (.int .i64)))),.sl zx,.int .i64]⟩,out:=⟨[.hole],[],[2],[.bool]⟩,nres:=1,ms:=[],mu:=[],leak:=false,glob:=false,F:=fun (x:((List zd)×(List (List Int))×(List zd)×Int))=>zbQ x.1 x.2.1 x.2.2.1 x.2.2.2 }
-- factor.place
def zFz:List (Nat×Con):=[]
def w19_v:Env:=zz tb gl zFz w19_c Tryz.f69.ntmps
theorem zGj:zB Tryz.prog (cond w19_c.glob gl fun _=>none) zFz:=zi
def zHA:AC:=.run
theorem zJV (x:z6 w19_c.inp.hs):E w19_v (za Tryz.f69) (zHA) (w19_c.entry x) (zD tb w19_v.fz w19_c [.tmp 4] x)=w19_c.F x:=by kernel_rfl
theorem w19_ok:ShOk Tryz.prog gl 69 w19_c :=
 zE (l:=zFz) (n:=Tryz.f69.ntmps) (code:=za Tryz.f69) (rts:=[.tmp 4]) zp zL (zGj) Tryz.func69 (by kernel_rfl) (by kernel_rfl) rfl (by kernel_rfl) (ac:=zHA) (ob:=[]) (by kernel_rfl) (fun X hX=>zh) (by kernel_rfl) (zJV)
def w20_c:ShC:={ inp:=⟨[.hole,.hole],[],[1,1],[.sl qr,.sl (.one (.int .i64))]⟩,out:=⟨[(.view 0)],[.seq false],[0],[.sl (.one (.sl (.one (.int .i64))))]⟩,nres:=1,ms:=[],mu:=[],leak:=true,glob:=false,F:=fun (x:((List zm)×(List Int)))=>zbm x.1 x.2 }
-- term.Pieces
def zDH:List (Nat×Con):=[(151,.gen (zU [w11_c]))]
def w20_v:Env:=zz tb gl zDH w20_c Tryz.f175.ntmps
theorem zB8:zB Tryz.prog (cond w20_c.glob gl fun _=>none) zDH:=(zb (ze (zc (w11_ok.anyGl rfl) zg)) zi)
def w20_u0_h:SS:=⟨[0,1,5,6],⟨[.hole,.hole,(.view 0),.hole],[.seq false],[1,1,2,0],[.sl qr,.sl (.one (.int .i64)),.int .i64,.sl (.one (.sl (.one (.int .i64))))]⟩⟩
def zm4:Exs:=[((.exit 0),⟨[5],⟨[(.view 0)],[.seq false],[0],[.sl (.one (.sl (.one (.int .i64))))]⟩⟩),(.ret,⟨[4],⟨[(.view 0)],[.seq false],[0],[.sl (.one (.sl (.one (.int .i64))))]⟩⟩)]
def zAt:AC:=.run
def zwg:Un:=lpU w20_v.fz [9,10,11,12,14,15,16,17,13,18,19,7,8,20,21,22,4,23,24,25,26,27,28,29,5,30,6] w20_u0_h zm4 (lp za6 zr)
theorem zzm (f:w20_u0_h.X→Option (YT zm4)) (x:w20_u0_h.X):E w20_v (zt (za Tryz.f175) [1,1,0,1,0,0]) (zAt) (mkS w20_u0_h 8 x) (zA w20_v.fz w20_u0_h zm4 f)=za6 f x:=by kernel_rfl
theorem zuw {X:Fx} (hX:VOk Tryz.prog X w20_v):q8 Tryz.prog X w20_v (zt (za Tryz.f175) [1,1,0,1,0]) zwg :=
 zF (c:=(zt (za Tryz.f175) [1,1,0,1,0,0])) (by kernel_rfl) (zu zp (zB8)) zL (ob:=[]) (by kernel_rfl) (fun X hX=>zh) (zzm) (by kernel_rfl) (by kernel_rfl) hX
def zH2:AC:=(.seq .run (.seq .run (.seq (.seq .run (.block (.unit zwg))) .run)))
theorem zKE (x:z6 w20_c.inp.hs):E w20_v (za Tryz.f175) (zH2) (w20_c.entry x) (zD tb w20_v.fz w20_c [.tmp 4] x)=w20_c.F x:=by kernel_rfl
theorem w20_ok:ShOk Tryz.prog gl 175 w20_c :=
 zE (l:=zDH) (n:=Tryz.f175.ntmps) (code:=za Tryz.f175) (rts:=[.tmp 4]) zp zL (zB8) Tryz.func175 (by kernel_rfl) (by kernel_rfl) rfl (by kernel_rfl) (ac:=zH2) (ob:=[((zt (za Tryz.f175) [1,1,0,1,0]),zwg)]) (by kernel_rfl) (fun X hX=>(zq (zuw hX) zh)) (by kernel_rfl) (zKE)
def w21_c:ShC:={ inp:=⟨[(.ptr 0 0),(.view 1),(.agg [.hole,.hole]),(.agg [.hole,.hole])],[.cells true [.hole,.hole],.seq false],[1,1,1,1,1,1,1],[.sl (.one (.int .i64)),.int .i64,.sl (.one (.int .i64)),.int .i64,.sl qr,.ar (.cons (.ns (.one (.int .i64))) (.one (.int .i64))) 48,.sl (.cons (.sl (.one (.int .i64))) (.cons (.int .i64) (.cons (.sl (.one (.int .i64))) (.one (.int .i64)))))]⟩,out:=⟨[(.view 0)],[.seq false],[0],[.sl (.cons (.sl (.one (.int .i64))) (.cons (.int .i64) (.cons (.sl (.one (.int .i64))) (.one (.int .i64)))))]⟩,nres:=1,ms:=[],mu:=[],leak:=true,glob:=false,F:=fun (x:((List Int)×Int×(List Int)×Int×(List zm)×(List ((Option (List Int))×Int))×(List ((List Int)×Int×(List Int)×Int))))=>qy x.1 x.2.1 x.2.2.1 x.2.2.2.1 x.2.2.2.2.1 x.2.2.2.2.2.1 x.2.2.2.2.2.2 }
-- (*unify.run).pairs
def zDC:List (Nat×Con):=[(175,.gen (zU [w20_c]))]
def w21_v:Env:=zz tb gl zDC w21_c Tryz.f210.ntmps
theorem zCB:zB Tryz.prog (cond w21_c.glob gl fun _=>none) zDC:=(zb (ze (zc (w20_ok.anyGl rfl) zg)) zi)
def w21_u0_h:SS:=⟨[1,6,7,9,10,27,28],⟨[(.view 0),(.ptr 1 0),(.ptr 2 0),.hole,.hole,.hole,.hole],[.seq false,.cells true [.hole,.hole],.cells true [.hole,.hole]],[0,0,2,2,0,1,2,1,2],[.sl (.one (.sl (.one (.int .i64)))),.sl (.one (.sl (.one (.int .i64)))),.int .i64,.int .i64,.sl (.cons (.sl (.one (.int .i64))) (.cons (.int .i64) (.cons (.sl (.one (.int .i64))) (.one (.int .i64))))),.sl (.one (.int .i64)),.int .i64,.sl (.one (.int .i64)),.int .i64]⟩⟩
def zmP:Exs:=[((.exit 0),⟨[1],⟨[(.view 0)],[.seq false],[0],[.sl (.cons (.sl (.one (.int .i64))) (.cons (.int .i64) (.cons (.sl (.one (.int .i64))) (.one (.int .i64)))))]⟩⟩)]
def zyC:AC:=.run
def zt9:Un:=lpU w21_v.fz [29,30,11,31,32,33,34,35,36,37,38,39,40,41,42,43,44,45,46,47,48,1,49,28] w21_u0_h zmP (lp z4 zr)
theorem zx1 (f:w21_u0_h.X→Option (YT zmP)) (x:w21_u0_h.X):E w21_v (zt (za Tryz.f210) [1,1,0,1,0,0]) (zyC) (mkS w21_u0_h 8 x) (zA w21_v.fz w21_u0_h zmP f)=z4 f x:=by kernel_rfl
theorem ztx {X:Fx} (hX:VOk Tryz.prog X w21_v):q8 Tryz.prog X w21_v (zt (za Tryz.f210) [1,1,0,1,0]) zt9 :=
 zF (c:=(zt (za Tryz.f210) [1,1,0,1,0,0])) (by kernel_rfl) (zu zp (zCB)) zL (ob:=[]) (by kernel_rfl) (fun X hX=>zh) (zx1) (by kernel_rfl) (by kernel_rfl) hX
def zI9:AC:=(.seq .run (.seq .run (.seq (.seq .run (.block (.unit zt9))) .run)))
theorem zKA (x:z6 w21_c.inp.hs):E w21_v (za Tryz.f210) (zI9) (w21_c.entry x) (zD tb w21_v.fz w21_c [.tmp 8] x)=w21_c.F x:=by kernel_rfl
theorem w21_ok:ShOk Tryz.prog gl 210 w21_c :=
 zE (l:=zDC) (n:=Tryz.f210.ntmps) (code:=za Tryz.f210) (rts:=[.tmp 8]) zp zL (zCB) Tryz.func210 (by kernel_rfl) (by kernel_rfl) rfl (by kernel_rfl) (ac:=zI9) (ob:=[((zt (za Tryz.f210) [1,1,0,1,0]),zt9)]) (by kernel_rfl) (fun X hX=>(zq (ztx hX) zh)) (by kernel_rfl) (zKA)
def w22_c:ShC:={ inp:=⟨[(.agg [.hole,.hole]),.hole],[],[1,1,1],[.sl (.one (.int .i64)),.int .i64,.int .i64]⟩,out:=⟨[.hole],[],[2],[.int .i64]⟩,nres:=1,ms:=[],mu:=[],leak:=false,glob:=false,F:=fun (x:((List Int)×Int×Int))=>yK x.1 x.2.1 x.2.2 }
-- (unify.piece).number
def zEa:List (Nat×Con):=[(55,.gen (zU [w9_c]))]
def w22_v:Env:=zz tb gl zEa w22_c Tryz.f213.ntmps
theorem zIW:zB Tryz.prog (cond w22_c.glob gl fun _=>none) zEa:=(zb (ze (zc (w9_ok.anyGl rfl) zg)) zi)
def zIx:AC:=.run
theorem zKt (x:z6 w22_c.inp.hs):E w22_v (za Tryz.f213) (zIx) (w22_c.entry x) (zD tb w22_v.fz w22_c [.tmp 4] x)=w22_c.F x:=by kernel_rfl
theorem w22_ok:ShOk Tryz.prog gl 213 w22_c :=
 zE (l:=zEa) (n:=Tryz.f213.ntmps) (code:=za Tryz.f213) (rts:=[.tmp 4]) zp zL (zIW) Tryz.func213 (by kernel_rfl) (by kernel_rfl) rfl (by kernel_rfl) (ac:=zIx) (ob:=[]) (by kernel_rfl) (fun X hX=>zh) (by kernel_rfl) (zKt)
def w23_c:ShC:={ inp:=⟨[(.ptr 0 0),(.agg [.hole,.hole])],[.cells true [.hole,.hole]],[1,1,1,1],[.sl (.one (.int .i64)),.int .i64,.sl qr,.ar (.cons (.ns (.one (.int .i64))) (.one (.int .i64))) 48]⟩,out:=⟨[(.agg [.hole,.hole])],[],[1,2],[.sl (.one (.int .i64)),.int .i64]⟩,nres:=1,ms:=[],mu:=[],leak:=true,glob:=false,F:=fun (x:((List Int)×Int×(List zm)×(List ((Option (List Int))×Int))))=>zaD x.1 x.2.1 x.2.2.1 x.2.2.2 }
-- (*unify.run).what
def zEe:List (Nat×Con):=[(213,.gen (zU [w22_c]))]
def w23_v:Env:=zz tb gl zEe w23_c Tryz.f211.ntmps
theorem zBU:zB Tryz.prog (cond w23_c.glob gl fun _=>none) zEe:=(zb (ze (zc (w22_ok.anyGl rfl) zg)) zi)
def w23_u0_h:SS:=⟨[0,3,4],⟨[(.ptr 0 0),(.ptr 1 0),(.ptr 2 0)],[.cells true [.hole,.hole],.cells false [.hole,.hole],.cells true [.nilv,.hole]],[1,1,1,2,2],[.sl qr,.ar (.cons (.ns (.one (.int .i64))) (.one (.int .i64))) 48,.sl (.one (.int .i64)),.int .i64,.int .i64]⟩⟩
def zmU:Exs:=[((.exit 0),⟨[3],⟨[(.ptr 0 0)],[.cells false [.hole,.hole]],[1,2],[.sl (.one (.int .i64)),.int .i64]⟩⟩)]
def zAx:AC:=.run
def zua:Un:=lpU w23_v.fz [6,7,8,9,10,11,12,13,14,15,16,17,18,19,20,21,5,22,23,24,25] w23_u0_h zmU (lp q9 zr)
theorem zxW (f:w23_u0_h.X→Option (YT zmU)) (x:w23_u0_h.X):E w23_v (zt (za Tryz.f211) [1,0,0,0]) (zAx) (mkS w23_u0_h 8 x) (zA w23_v.fz w23_u0_h zmU f)=q9 f x:=by kernel_rfl
theorem zwZ {X:Fx} (hX:VOk Tryz.prog X w23_v):q8 Tryz.prog X w23_v (zt (za Tryz.f211) [1,0,0]) zua :=
 zF (c:=(zt (za Tryz.f211) [1,0,0,0])) (by kernel_rfl) (zu zp (zBU)) zL (ob:=[]) (by kernel_rfl) (fun X hX=>zh) (zxW) (by kernel_rfl) (by kernel_rfl) hX
def zHe:AC:=(.seq .run (.seq (.block (.unit zua)) .run))
theorem zK0 (x:z6 w23_c.inp.hs):E w23_v (za Tryz.f211) (zHe) (w23_c.entry x) (zD tb w23_v.fz w23_c [.cell 4 198] x)=w23_c.F x:=by kernel_rfl
theorem w23_ok:ShOk Tryz.prog gl 211 w23_c :=
 zE (l:=zEe) (n:=Tryz.f211.ntmps) (code:=za Tryz.f211) (rts:=[.cell 4 198]) zp zL (zBU) Tryz.func211 (by kernel_rfl) (by kernel_rfl) rfl (by kernel_rfl) (ac:=zHe) (ob:=[((zt (za Tryz.f211) [1,0,0]),zua)]) (by kernel_rfl) (fun X hX=>(zq (zwZ hX) zh)) (by kernel_rfl) (zK0)
def w24_c:ShC:={ inp:=⟨[(.ptr 0 0),.hole,(.agg [.hole,.hole])],[.cells true [.hole,.hole]],[1,1,1,1,1],[.int .i64,.sl (.one (.int .i64)),.int .i64,.sl qr,.ar (.cons (.ns (.one (.int .i64))) (.one (.int .i64))) 48]⟩,out:=⟨[.hole],[],[2],[.bool]⟩,nres:=1,ms:=[],mu:=[],leak:=false,glob:=false,F:=fun (x:(Int×(List Int)×Int×(List zm)×(List ((Option (List Int))×Int))))=>zbC x.1 x.2.1 x.2.2.1 x.2.2.2.1 x.2.2.2.2 }
-- (*unify.run).within
def zDg:List (Nat×Con):=[(213,.gen (zU [w22_c])),(1000027,.gen (zU []))]
def w24_v:Env:=zz tb gl zDg w24_c Tryz.f226.ntmps
theorem zu6:zB Tryz.prog (cond w24_c.glob gl fun _=>none) zDg:=(zb (ze (zc (w22_ok.anyGl rfl) zg)) (zb (ze zg) zi))
def w24_u0_h:SS:=⟨[0,1,5,7,8,29,30,31],⟨[(.ptr 0 0),.hole,(.ptr 1 0),(.aptr 2),(.view 3),.hole,.hole,.hole],[.cells true [.hole,.hole],.cells true [.hole,.hole],.seq false,.seq false],[2,0,2,2,1,1,0,2,2,0],[.int .i64,.sl (.one (.int .i64)),.int .i64,.int .i64,.sl qr,.ar (.cons (.ns (.one (.int .i64))) (.one (.int .i64))) 48,.sl (.one (.int .i64)),.int .i64,.sl (.one .bool),.sl (.cons (.sl (.one (.int .i64))) (.one (.int .i64)))]⟩⟩
def zmw:Exs:=[((.exit 2),⟨[7,8],⟨[(.aptr 0),(.view 1)],[.seq false,.seq false],[2,0],[.sl (.one .bool),.sl (.cons (.sl (.one (.int .i64))) (.one (.int .i64)))]⟩⟩),(.ret,⟨[6],⟨[.hole],[],[2],[.bool]⟩⟩)]
def zAY:AC:=.run
def zww:Un:=lpU w24_v.fz [32,33,34,10,35,36,37,38,39,11,40,41,42,6,43,44,45,46,47,48,49,50,51,52,53,54,55,56,57,58,59,60,61,62,63,64,65,66,67,8,68,31] w24_u0_h zmw (lp yf zr)
theorem zyA (f:w24_u0_h.X→Option (YT zmw)) (x:w24_u0_h.X):E w24_v (zt (za Tryz.f226) [1,1,1,0,0,0,1,0,1,1,1,0,0]) (zAY) (mkS w24_u0_h 8 x) (zA w24_v.fz w24_u0_h zmw f)=yf f x:=by kernel_rfl
theorem zvl {X:Fx} (hX:VOk Tryz.prog X w24_v):q8 Tryz.prog X w24_v (zt (za Tryz.f226) [1,1,1,0,0,0,1,0,1,1,1,0]) zww :=
 zF (c:=(zt (za Tryz.f226) [1,1,1,0,0,0,1,0,1,1,1,0,0])) (by kernel_rfl) (zu zp (zu6)) zL (ob:=[]) (by kernel_rfl) (fun X hX=>zh) (zyA) (by kernel_rfl) (by kernel_rfl) hX
def w24_u1_h:SS:=⟨[0,1,5,7,8],⟨[(.ptr 0 0),.hole,(.ptr 1 0),(.aptr 2),(.view 3)],[.cells true [.hole,.hole],.cells false [.hole,.hole],.seq false,.seq false],[2,1,1,0,2,2,0],[.int .i64,.sl qr,.ar (.cons (.ns (.one (.int .i64))) (.one (.int .i64))) 48,.sl (.one (.int .i64)),.int .i64,.sl (.one .bool),.sl (.cons (.sl (.one (.int .i64))) (.one (.int .i64)))]⟩⟩
def zny:Exs:=[((.exit 0),⟨[],⟨[],[],[],[]⟩⟩),(.ret,⟨[6],⟨[.hole],[],[2],[.bool]⟩⟩)]
def zyt:AC:=(.seq .run (.block (.seq .run (.seq .run (.seq .run (.block (.unit zww)))))))
def zsZ:Un:=lpU w24_v.fz [14,15,16,17,18,19,20,21,22,23,24,25,26,27,8,28,29,30,31,32,33,34,10,35,36,37,38,39,11,40,41,42,6,43,44,45,46,47,48,49,50,51,52,53,54,55,56,57,58,59,60,61,62,63,64,65,66,67,8,68,31] w24_u1_h zny (lp qw zr)
theorem zAT (f:w24_u1_h.X→Option (YT zny)) (x:w24_u1_h.X):E w24_v (zt (za Tryz.f226) [1,1,1,0,0,0]) (zyt) (mkS w24_u1_h 8 x) (zA w24_v.fz w24_u1_h zny f)=qw f x:=by kernel_rfl
theorem zvZ {X:Fx} (hX:VOk Tryz.prog X w24_v):q8 Tryz.prog X w24_v (zt (za Tryz.f226) [1,1,1,0,0]) zsZ :=
 zF (c:=(zt (za Tryz.f226) [1,1,1,0,0,0])) (by kernel_rfl) (zu zp (zu6)) zL (ob:=[((zt (za Tryz.f226) [1,1,1,0,0,0,1,0,1,1,1,0]),zww)]) (by kernel_rfl) (fun X hX=>(zq (zvl hX) zh)) (zAT) (by kernel_rfl) (by kernel_rfl) hX
def zHV:AC:=(.seq .run (.seq .run (.seq .run (.seq (.block (.unit zsZ)) .run))))
theorem zJU (x:z6 w24_c.inp.hs):E w24_v (za Tryz.f226) (zHV) (w24_c.entry x) (zD tb w24_v.fz w24_c [.tmp 6] x)=w24_c.F x:=by kernel_rfl
theorem w24_ok:ShOk Tryz.prog gl 226 w24_c :=
 zE (l:=zDg) (n:=Tryz.f226.ntmps) (code:=za Tryz.f226) (rts:=[.tmp 6]) zp zL (zu6) Tryz.func226 (by kernel_rfl) (by kernel_rfl) rfl (by kernel_rfl) (ac:=zHV) (ob:=[((zt (za Tryz.f226) [1,1,1,0,0]),zsZ)]) (by kernel_rfl) (fun X hX=>(zq (zvZ hX) zh)) (by kernel_rfl) (zJU)
def w25_c:ShC:={ inp:=⟨[(.ptr 0 0),(.agg [.hole,.hole]),(.agg [.hole,.hole])],[.cells false [.hole,.hole]],[1,1,1,1,1,1],[.sl (.one (.int .i64)),.int .i64,.sl (.one (.int .i64)),.int .i64,.sl qr,.ar (.cons (.ns (.one (.int .i64))) (.one (.int .i64))) 48]⟩,out:=⟨[.hole,(.ptr 0 0)],[.cells false [.hole,.hole]],[2,1,0],[.bool,.sl qr,.ar (.cons (.ns (.one (.int .i64))) (.one (.int .i64))) 48]⟩,nres:=1,ms:=[0],mu:=[(0,0)],leak:=true,glob:=false,F:=fun (x:((List Int)×Int×(List Int)×Int×(List zm)×(List ((Option (List Int))×Int))))=>qf x.1 x.2.1 x.2.2.1 x.2.2.2.1 x.2.2.2.2.1 x.2.2.2.2.2 }
-- (*unify.run).put
def zC3:List (Nat×Con):=[(213,.gen (zU [w22_c])),(226,.gen (zU [w24_c]))]
def w25_v:Env:=zz tb gl zC3 w25_c Tryz.f212.ntmps
theorem zIk:zB Tryz.prog (cond w25_c.glob gl fun _=>none) zC3:=(zb (ze (zc (w22_ok.anyGl rfl) zg)) (zb (ze (zc (w24_ok.anyGl rfl) zg)) zi))
def zIh:AC:=.run
theorem zJQ (x:z6 w25_c.inp.hs):E w25_v (za Tryz.f212) (zIh) (w25_c.entry x) (zD tb w25_v.fz w25_c [.tmp 6] x)=w25_c.F x:=by kernel_rfl
theorem w25_ok:ShOk Tryz.prog gl 212 w25_c :=
 zE (l:=zC3) (n:=Tryz.f212.ntmps) (code:=za Tryz.f212) (rts:=[.tmp 6]) zp zL (zIk) Tryz.func212 (by kernel_rfl) (by kernel_rfl) rfl (by kernel_rfl) (ac:=zIh) (ob:=[]) (by kernel_rfl) (fun X hX=>zh) (by kernel_rfl) (zJQ)
def w26_c:ShC:={ inp:=⟨[(.ptr 0 0),(.agg [.hole,.hole]),(.agg [.hole,.hole])],[.cells false [.hole,.hole]],[1,1,1,1,1,1],[.sl (.one (.int .i64)),.int .i64,.sl (.one (.int .i64)),.int .i64,.sl qr,.ar (.cons (.ns (.one (.int .i64))) (.one (.int .i64))) 48]⟩,out:=⟨[.hole,(.ptr 0 0)],[.cells false [.hole,.hole]],[2,0,0],[.bool,.sl qr,.ar (.cons (.ns (.one (.int .i64))) (.one (.int .i64))) 48]⟩,nres:=1,ms:=[0],mu:=[(0,0)],leak:=true,glob:=false,F:=fun (x:((List Int)×Int×(List Int)×Int×(List zm)×(List ((Option (List Int))×Int))))=>zai x.1 x.2.1 x.2.2.1 x.2.2.2.1 x.2.2.2.2.1 x.2.2.2.2.2 }
-- (*unify.run).same
def zEE:List (Nat×Con):=[(210,.gen (zU [w21_c])),(211,.gen (zU [w23_c])),(212,.gen (zU [w25_c])),(1000039,.gen (zU []))]
def w26_v:Env:=zz tb gl zEE w26_c Tryz.f184.ntmps
theorem zBH:zB Tryz.prog (cond w26_c.glob gl fun _=>none) zEE:=(zb (ze (zc (w21_ok.anyGl rfl) zg)) (zb (ze (zc (w23_ok.anyGl rfl) zg)) (zb (ze (zc (w25_ok.anyGl rfl) zg)) (zb (ze zg) zi))))
def zjN:Exs:=[(.goto 0,⟨[0,7],⟨[(.ptr 0 0),(.view 1)],[.cells false [.hole,.hole],.seq false],[0,0,0],[.sl qr,.ar (.cons (.ns (.one (.int .i64))) (.one (.int .i64))) 48,.sl (.cons (.sl (.one (.int .i64))) (.cons (.int .i64) (.cons (.sl (.one (.int .i64))) (.one (.int .i64)))))]⟩⟩)]
def znu:Exs:=[(.ret,⟨[0,6],⟨[(.ptr 0 0),.hole],[.cells false [.hole,.hole]],[2,0,0],[.bool,.sl qr,.ar (.cons (.ns (.one (.int .i64))) (.one (.int .i64))) 48]⟩⟩)]
def zAN:AC:=.run
def zAu:List (Nat×AC):=[]
def zs4:Un:=scU w26_v [10,11,12,13,7,14,15,16,6,17,18,19,20,21,22,23,24,25,26,27,28,29,30,31,32,33,34,8,9,35,36,37,38,39,7,41,42,43,44,45,40,46,47,48,49,6,51,52,53,54,55,50,56,57,58,59,6,61,62,63,64,65,66,67,68,69,60,6,70,71,72,73,74,75,76,77,78,79,80,81,82,83,84,7] zjN znu (zt (za Tryz.f184) [1,0]) (zAN) (lp zC zr)
theorem zAS (f:YT zjN→Option (YT znu)) (x:YT zjN):zoR w26_v (zt (za Tryz.f184) [1,0]) (zrS (zAu)) zjN znu f x=zC f x:=by kernel_rfl
theorem zw7 {X:Fx} (hX:VOk Tryz.prog X w26_v):q8 Tryz.prog X w26_v (zt (za Tryz.f184) [1]) zs4 :=
 zvR (c:=(zt (za Tryz.f184) [1,0])) (by kernel_rfl) (zu zp (zBH)) zL (ob:=[]) (by kernel_rfl) (fun X hX=>zh) (fun X hX=>zuT zqr) (zAS) (by kernel_rfl) (by kernel_rfl) (by kernel_rfl) hX
def zIt:AC:=(.seq .run (.unit zs4))
theorem zK2 (x:z6 w26_c.inp.hs):E w26_v (za Tryz.f184) (zIt) (w26_c.entry x) (zD tb w26_v.fz w26_c [.tmp 6] x)=w26_c.F x:=by kernel_rfl
theorem w26_ok:ShOk Tryz.prog gl 184 w26_c :=
 zE (l:=zEE) (n:=Tryz.f184.ntmps) (code:=za Tryz.f184) (rts:=[.tmp 6]) zp zL (zBH) Tryz.func184 (by kernel_rfl) (by kernel_rfl) rfl (by kernel_rfl) (ac:=zIt) (ob:=[((zt (za Tryz.f184) [1]),zs4)]) (by kernel_rfl) (fun X hX=>(zq (zw7 hX) zh)) (by kernel_rfl) (zK2)
def w27_c:ShC:={ inp:=⟨[(.agg [.hole,.hole]),.hole],[],[1,1,1],[.ns (.one (.int .i64)),.int .i64,.int .i64]⟩,out:=⟨[.hole],[],[2],[.int .i64]⟩,nres:=1,ms:=[],mu:=[],leak:=false,glob:=false,F:=fun (x:((Option (List Int))×Int×Int))=>qX x.1 x.2.1 x.2.2 }
-- (unify.piece).number
def zFi:List (Nat×Con):=[(55,.gen (zU [w9_c]))]
def w27_v:Env:=zz tb gl zFi w27_c Tryz.f213.ntmps
theorem zIJ:zB Tryz.prog (cond w27_c.glob gl fun _=>none) zFi:=(zb (ze (zc (w9_ok.anyGl rfl) zg)) zi)
def zG5:AC:=.run
theorem zLr (x:z6 w27_c.inp.hs):E w27_v (za Tryz.f213) (zG5) (w27_c.entry x) (zD tb w27_v.fz w27_c [.tmp 4] x)=w27_c.F x:=by kernel_rfl
theorem w27_ok:ShOk Tryz.prog gl 213 w27_c :=
 zE (l:=zFi) (n:=Tryz.f213.ntmps) (code:=za Tryz.f213) (rts:=[.tmp 4]) zp zL (zIJ) Tryz.func213 (by kernel_rfl) (by kernel_rfl) rfl (by kernel_rfl) (ac:=zG5) (ob:=[]) (by kernel_rfl) (fun X hX=>zh) (by kernel_rfl) (zLr)
def zhK (k:Nat):ShC:={ inp:=⟨[(.ptr 0 0),(.agg [.hole,.hole])],[.cells true [.hole,.hole]],[1,1,1,1],[.ns (.one (.int .i64)),.int .i64,.sl qr,.ar (.cons (.ns (.one (.int .i64))) (.one (.int .i64))) 48]⟩,out:=⟨[.hole],[],[2],[.ns (.one (.int .i64))]⟩,nres:=1,ms:=[],mu:=[],leak:=false,glob:=false,F:=(y5 k) }
def zHm:ShC:={ inp:=⟨[(.ptr 0 0),(.agg [.hole,.hole])],[.cells true [.hole,.hole]],[1,1,1,1],[.ns (.one (.int .i64)),.int .i64,.sl qr,.ar (.cons (.ns (.one (.int .i64))) (.one (.int .i64))) 48]⟩,out:=⟨[.hole],[],[2],[.ns (.one (.int .i64))]⟩,nres:=1,ms:=[],mu:=[],leak:=false,glob:=false,F:=fun (x:((Option (List Int))×Int×(List zm)×(List ((Option (List Int))×Int))))=>zdl x.1 x.2.1 x.2.2.1 x.2.2.2 }
def zmB (k:Nat):Prop:=ShOk Tryz.prog gl 185 (zhK k)
-- (*unify.run).whole
def zEK (k:Nat):List (Nat×Con):=[(185,.gen (zU [zhK k])),(213,.gen (zU [w27_c]))]
def zqw (k:Nat):Env:=zz tb gl (zEK k) (zhK (k+1)) Tryz.f185.ntmps
theorem zCo (k:Nat) (h:zmB k):zB Tryz.prog (cond (zhK (k+1)).glob gl fun _=>none) (zEK k):=(zb (ze (zc (h.anyGl rfl) zg)) (zb (ze (zc (w27_ok.anyGl rfl) zg)) zi))
def w28_u0_h:SS:=⟨[0,3,5,10,11,12],⟨[(.ptr 0 0),(.ptr 1 0),(.view 2),.hole,.hole,.hole],[.cells true [.hole,.hole],.cells true [.hole,.hole],.seq false],[1,2,2,1,1,1,2,2],[.ns (.one (.int .i64)),.int .i64,.int .i64,.sl qr,.ar (.cons (.ns (.one (.int .i64))) (.one (.int .i64))) 48,.ns (.one (.int .i64)),.int .i64,.sl (.one (.int .i64))]⟩⟩
def znq:Exs:=[((.exit 0),⟨[5],⟨[(.view 0)],[.seq false],[2],[.sl (.one (.int .i64))]⟩⟩),(.ret,⟨[4],⟨[.nilv],[],[],[]⟩⟩)]
def zzd (k:Nat):AC:=.run
def zwI (k:Nat):Un:=lpU (zqw k).fz [13,14,15,7,16,17,8,18,19,20,21,22,23,24,25,26,27,28,29,30,31,32,33,34,35,36,37,38,39,40,41,8,42,43,44,45,46,47,48,49,50,51,4,52,53,54,5,55,12] w28_u0_h znq (lp (yp (y5 k)) zr)
theorem zzY (k:Nat) (f:w28_u0_h.X→Option (YT znq)) (x:w28_u0_h.X):E (zqw k) (zt (za Tryz.f185) [1,1,0,1,0,0]) (zzd k) (mkS w28_u0_h 8 x) (zA (zqw k).fz w28_u0_h znq f)=(yp (y5 k)) f x:=by kernel_rfl
theorem zum (k:Nat) (h:zmB k) {X:Fx} (hX:VOk Tryz.prog X (zqw k)):q8 Tryz.prog X (zqw k) (zt (za Tryz.f185) [1,1,0,1,0]) (zwI k) :=
 zF (c:=(zt (za Tryz.f185) [1,1,0,1,0,0])) (by kernel_rfl) (zu zp (zCo k h)) zL (ob:=[]) (by kernel_rfl) (fun X hX=>zh) (zzY k) (by kernel_rfl) (by kernel_rfl) hX
def zG2 (k:Nat):AC:=(.seq .run (.seq .run (.seq (.seq .run (.block (.unit (zwI k)))) .run)))
theorem zKa (k:Nat) (x:z6 (zhK (k+1)).inp.hs):E (zqw k) (za Tryz.f185) (zG2 k) ((zhK (k+1)).entry x) (zD tb (zqw k).fz (zhK (k+1)) [.tmp 4] x)=(zhK (k+1)).F x:=by kernel_rfl
theorem zC5 (k:Nat) (h:zmB k):ShOk Tryz.prog gl 185 (zhK (k+1)) :=
 zE (l:=zEK k) (n:=Tryz.f185.ntmps) (code:=za Tryz.f185) (rts:=[.tmp 4]) zp zL (zCo k h) Tryz.func185 (by kernel_rfl) (by kernel_rfl) rfl (by kernel_rfl) (ac:=zG2 k) (ob:=[((zt (za Tryz.f185) [1,1,0,1,0]),zwI k)]) (by kernel_rfl) (fun X hX=>(zq (zum k h hX) zh)) (by kernel_rfl) (zKa k)
theorem zoZ:∀ k,zmB k
 | 0=>⟨by kernel_rfl,fun w A g vs x y _ _ _ h=>by cases h⟩
 | k+1=>have h:=zoZ k; zC5 k h
theorem w28_ok:ShOk Tryz.prog gl 185 zHm:=(zoZ zr)
def w29_c:ShC:={ inp:=⟨[.hole],[],[1],[.ns (.one (.int .i64))]⟩,out:=⟨[(.view 0)],[.seq false],[2],[.sl (.one (.int .i64))]⟩,nres:=1,ms:=[],mu:=[],leak:=false,glob:=false,F:=fun (x:(Option (List Int)))=>zgm x }
-- slices.Clone[[]int,int]
def zEA:List (Nat×Con):=[]
def w29_v:Env:=zz tb gl zEA w29_c Tryz.f115.ntmps
theorem zF6:zB Tryz.prog (cond w29_c.glob gl fun _=>none) zEA:=zi
def zIH:AC:=.run
theorem zJo (x:z6 w29_c.inp.hs):E w29_v (za Tryz.f115) (zIH) (w29_c.entry x) (zD tb w29_v.fz w29_c [.tmp 2] x)=w29_c.F x:=by kernel_rfl
theorem zGB:ShOk Tryz.prog gl 115 w29_c :=
 zE (l:=zEA) (n:=Tryz.f115.ntmps) (code:=za Tryz.f115) (rts:=[.tmp 2]) zp zL (zF6) Tryz.func115 (by kernel_rfl) (by kernel_rfl) rfl (by kernel_rfl) (ac:=zIH) (ob:=[]) (by kernel_rfl) (fun X hX=>zh) (by kernel_rfl) (zJo)
def w30_c:ShC:={ inp:=⟨[.nilv],[],[],[]⟩,out:=⟨[(.view 0)],[.seq false],[2],[.sl (.one (.int .i64))]⟩,nres:=1,ms:=[],mu:=[],leak:=false,glob:=false,F:=fun (x:Unit)=>zlw }
-- slices.Clone[[]int,int]
def zE9:List (Nat×Con):=[]
def w30_v:Env:=zz tb gl zE9 w30_c Tryz.f115.ntmps
theorem zHF:zB Tryz.prog (cond w30_c.glob gl fun _=>none) zE9:=zi
def zHR:AC:=.run
theorem zKK (x:z6 w30_c.inp.hs):E w30_v (za Tryz.f115) (zHR) (w30_c.entry x) (zD tb w30_v.fz w30_c [.tmp 2] x)=w30_c.F x:=by kernel_rfl
theorem zIX:ShOk Tryz.prog gl 115 w30_c :=
 zE (l:=zE9) (n:=Tryz.f115.ntmps) (code:=za Tryz.f115) (rts:=[.tmp 2]) zp zL (zHF) Tryz.func115 (by kernel_rfl) (by kernel_rfl) rfl (by kernel_rfl) (ac:=zHR) (ob:=[]) (by kernel_rfl) (fun X hX=>zh) (by kernel_rfl) (zKK)
def zyz:ShC:={ inp:=⟨[.hole],[],[1],[.sl (.one (.int .i64))]⟩,out:=⟨[(.view 0)],[.seq false],[2],[.sl (.one (.int .i64))]⟩,nres:=1,ms:=[],mu:=[],leak:=false,glob:=false,F:=fun (x:(List Int))=>zbo x }
-- slices.Clone[[]int,int]
theorem w31_ok:ShOk Tryz.prog gl 115 zyz :=
 zGt zIX zGB fun xs y h=>⟨h,fun e=>by subst e; exact h⟩
def w32_c:ShC:={ inp:=⟨[.hole,.hole,.hole],[],[1,1,1],[.sl qr,.sl (.one (.int .i64)),.sl (.one (.int .i64))]⟩,out:=⟨[(.view 0),.hole,.hole],[.seq false],[2,2,2],[.bool,.int .i64,.sl (.cons (.int .i64) (.one (.sl (.one (.int .i64)))))]⟩,nres:=3,ms:=[],mu:=[],leak:=false,glob:=true,F:=fun (x:((List zm)×(List Int)×(List Int)))=>zde x.1 x.2.1 x.2.2 }
-- unify.Unify
def zEu:List (Nat×Con):=[(115,.gen (zU [zyz])),(162,.gen (zU [w16_c])),(184,.gen (zU [w26_c])),(185,.gen (zU [zHm]))]
def w32_v:Env:=zz tb gl zEu w32_c Tryz.f135.ntmps
theorem zBC:zB Tryz.prog (cond w32_c.glob gl fun _=>none) zEu:=(zb (ze (zc (w31_ok.anyGl rfl) zg)) (zb (ze (zc zBe zg)) (zb (ze (zc (w26_ok.anyGl rfl) zg)) (zb (ze (zc (w28_ok.anyGl rfl) zg)) zi))))
def w32_u0_h:SS:=⟨[13,14,50],⟨[(.ptr 0 0),(.view 1),.hole],[.cells true [.hole,.hole],.seq false],[2,0,0,2],[.int .i64,.sl qr,.ar (.cons (.ns (.one (.int .i64))) (.one (.int .i64))) 48,.sl (.cons (.int .i64) (.one (.sl (.one (.int .i64)))))]⟩⟩
def zmX:Exs:=[((.exit 0),⟨[14],⟨[(.view 0)],[.seq false],[2],[.sl (.cons (.int .i64) (.one (.sl (.one (.int .i64)))))]⟩⟩),(.ret,⟨[6,7,8],⟨[.nilv,.hole,.hole],[],[2,2],[.bool,.int .i64]⟩⟩)]
def zzy:AC:=.run
def zsQ:Un:=lpU w32_v.fz [51,52,15,53,54,55,56,57,58,59,60,61,62,63,64,65,66,67,68,16,69,70,6,7,8,71,72,73,74,75,76,77,14,78,50] w32_u0_h zmX (lp qY zr)
theorem zAe (f:w32_u0_h.X→Option (YT zmX)) (x:w32_u0_h.X):E w32_v (zt (za Tryz.f135) [1,1,1,1,1,1,1,0,1,0,0]) (zzy) (mkS w32_u0_h 8 x) (zA w32_v.fz w32_u0_h zmX f)=qY f x:=by kernel_rfl
theorem zuD {X:Fx} (hX:VOk Tryz.prog X w32_v):q8 Tryz.prog X w32_v (zt (za Tryz.f135) [1,1,1,1,1,1,1,0,1,0]) zsQ :=
 zF (c:=(zt (za Tryz.f135) [1,1,1,1,1,1,1,0,1,0,0])) (by kernel_rfl) (zu zp (zBC)) zL (ob:=[]) (by kernel_rfl) (fun X hX=>zh) (zAe) (by kernel_rfl) (by kernel_rfl) hX
def zHH:AC:=(.seq .run (.seq .run (.seq .run (.seq .run (.seq .run (.seq .run (.seq .run (.seq (.seq .run (.block (.unit zsQ))) .run))))))))
theorem zKJ (x:z6 w32_c.inp.hs):E w32_v (za Tryz.f135) (zHH) (w32_c.entry x) (zD tb w32_v.fz w32_c [.tmp 6,.tmp 7,.tmp 8] x)=w32_c.F x:=by kernel_rfl
theorem zIU:ShOk Tryz.prog gl 135 w32_c :=
 zE (l:=zEu) (n:=Tryz.f135.ntmps) (code:=za Tryz.f135) (rts:=[.tmp 6,.tmp 7,.tmp 8]) zp zL (zBC) Tryz.func135 (by kernel_rfl) (by kernel_rfl) rfl (by kernel_rfl) (ac:=zHH) (ob:=[((zt (za Tryz.f135) [1,1,1,1,1,1,1,0,1,0]),zsQ)]) (by kernel_rfl) (fun X hX=>(zq (zuD hX) zh)) (by kernel_rfl) (zKJ)
def w33_c:ShC:={ inp:=⟨[.nilv,.hole],[],[1],[.int .i64]⟩,out:=⟨[(.view 0)],[.seq false],[2],[.sl (.one (.sl (.one (.int .i64))))]⟩,nres:=1,ms:=[],mu:=[],leak:=false,glob:=false,F:=fun (x:Int)=>zew x }
-- slices.Grow[[][]int,[]int]
def zEX:List (Nat×Con):=[(1000025,.gen (zU []))]
def w33_v:Env:=zz tb gl zEX w33_c Tryz.f188.ntmps
theorem zGc:zB Tryz.prog (cond w33_c.glob gl fun _=>none) zEX:=(zb (ze zg) zi)
def zHd:AC:=.run
theorem zKY (x:z6 w33_c.inp.hs):E w33_v (za Tryz.f188) (zHd) (w33_c.entry x) (zD tb w33_v.fz w33_c [.tmp 4] x)=w33_c.F x:=by kernel_rfl
theorem w33_ok:ShOk Tryz.prog gl 188 w33_c :=
 zE (l:=zEX) (n:=Tryz.f188.ntmps) (code:=za Tryz.f188) (rts:=[.tmp 4]) zp zL (zGc) Tryz.func188 (by kernel_rfl) (by kernel_rfl) rfl (by kernel_rfl) (ac:=zHd) (ob:=[]) (by kernel_rfl) (fun X hX=>zh) (by kernel_rfl) (zKY)
def w34_c:ShC:={ inp:=⟨[.hole],[],[1],[.sl (.one (.sl (.one (.sl (.one (.int .i64))))))]⟩,out:=⟨[(.view 0)],[.seq false],[0],[.sl (.one (.sl (.one (.int .i64))))]⟩,nres:=1,ms:=[],mu:=[],leak:=true,glob:=false,F:=fun (x:(List (List (List Int))))=>zc2 x }
-- slices.Concat[[][]int,[]int]
def zC1:List (Nat×Con):=[(188,.gen (zU [w33_c]))]
def w34_v:Env:=zz tb gl zC1 w34_c Tryz.f139.ntmps
theorem ztQ:zB Tryz.prog (cond w34_c.glob gl fun _=>none) zC1:=(zb (ze (zc (w33_ok.anyGl rfl) zg)) zi)
def w34_u1_h:SS:=⟨[6,25,26,27],⟨[(.view 0),.hole,.hole,.hole],[.seq false],[1,2,2,0],[.sl (.one (.sl (.one (.sl (.one (.int .i64)))))),.int .i64,.int .i64,.sl (.one (.sl (.one (.int .i64))))]⟩⟩
def znQ:Exs:=[((.exit 2),⟨[6],⟨[(.view 0)],[.seq false],[0],[.sl (.one (.sl (.one (.int .i64))))]⟩⟩)]
def zxV:AC:=.run
def zxE:Un:=lpU w34_v.fz [28,29,30,8,31,32,33,6,34,27] w34_u1_h znQ (lp yP zr)
theorem zzP (f:w34_u1_h.X→Option (YT znQ)) (x:w34_u1_h.X):E w34_v (zt (za Tryz.f139) [1,1,1,1,0,1,0,0]) (zxV) (mkS w34_u1_h 8 x) (zA w34_v.fz w34_u1_h znQ f)=yP f x:=by kernel_rfl
theorem zuo {X:Fx} (hX:VOk Tryz.prog X w34_v):q8 Tryz.prog X w34_v (zt (za Tryz.f139) [1,1,1,1,0,1,0]) zxE :=
 zF (c:=(zt (za Tryz.f139) [1,1,1,1,0,1,0,0])) (by kernel_rfl) (zu zp (ztQ)) zL (ob:=[]) (by kernel_rfl) (fun X hX=>zh) (zzP) (by kernel_rfl) (by kernel_rfl) hX
def w34_u0_h:SS:=⟨[0,3,9,10,11],⟨[.hole,.hole,.hole,.hole,.hole],[],[1,2,1,2,2],[.sl (.one (.sl (.one (.sl (.one (.int .i64)))))),.int .i64,.sl (.one (.sl (.one (.sl (.one (.int .i64)))))),.int .i64,.int .i64]⟩⟩
def znd:Exs:=[((.exit 0),⟨[3],⟨[.hole],[],[2],[.int .i64]⟩⟩)]
def zz3:AC:=.run
def zwS:Un:=lpU w34_v.fz [12,13,14,5,15,16,17,18,3,19,20,21,22,11] w34_u0_h znd (lp yN zr)
theorem zz8 (f:w34_u0_h.X→Option (YT znd)) (x:w34_u0_h.X):E w34_v (zt (za Tryz.f139) [1,1,0,1,0,0]) (zz3) (mkS w34_u0_h 8 x) (zA w34_v.fz w34_u0_h znd f)=yN f x:=by kernel_rfl
theorem zvp {X:Fx} (hX:VOk Tryz.prog X w34_v):q8 Tryz.prog X w34_v (zt (za Tryz.f139) [1,1,0,1,0]) zwS :=
 zF (c:=(zt (za Tryz.f139) [1,1,0,1,0,0])) (by kernel_rfl) (zu zp (ztQ)) zL (ob:=[]) (by kernel_rfl) (fun X hX=>zh) (zz8) (by kernel_rfl) (by kernel_rfl) hX
def zHZ:AC:=(.seq .run (.seq .run (.seq (.seq .run (.block (.unit zwS))) (.seq .run (.seq (.seq .run (.block (.unit zxE))) .run)))))
theorem zKv (x:z6 w34_c.inp.hs):E w34_v (za Tryz.f139) (zHZ) (w34_c.entry x) (zD tb w34_v.fz w34_c [.tmp 2] x)=w34_c.F x:=by kernel_rfl
theorem w34_ok:ShOk Tryz.prog gl 139 w34_c :=
 zE (l:=zC1) (n:=Tryz.f139.ntmps) (code:=za Tryz.f139) (rts:=[.tmp 2]) zp zL (ztQ) Tryz.func139 (by kernel_rfl) (by kernel_rfl) rfl (by kernel_rfl) (ac:=zHZ) (ob:=[((zt (za Tryz.f139) [1,1,0,1,0]),zwS),((zt (za Tryz.f139) [1,1,1,1,0,1,0]),zxE)]) (by kernel_rfl) (fun X hX=>(zq (zvp hX) (zq (zuo hX) zh))) (by kernel_rfl) (zKv)
def w35_c:ShC:={ inp:=⟨[.nilv,.hole],[],[1],[.int .i64]⟩,out:=⟨[(.view 0)],[.seq false],[2],[.sl zx]⟩,nres:=1,ms:=[],mu:=[],leak:=false,glob:=false,F:=fun (x:Int)=>zcS x }
-- slices.Grow[[]api.Lit,api.Lit]
def zFk:List (Nat×Con):=[(1000025,.gen (zU []))]
def w35_v:Env:=zz tb gl zFk w35_c Tryz.f189.ntmps
theorem zIz:zB Tryz.prog (cond w35_c.glob gl fun _=>none) zFk:=(zb (ze zg) zi)
def zF2:AC:=.run
theorem zLj (x:z6 w35_c.inp.hs):E w35_v (za Tryz.f189) (zF2) (w35_c.entry x) (zD tb w35_v.fz w35_c [.tmp 4] x)=w35_c.F x:=by kernel_rfl
theorem w35_ok:ShOk Tryz.prog gl 189 w35_c :=
 zE (l:=zFk) (n:=Tryz.f189.ntmps) (code:=za Tryz.f189) (rts:=[.tmp 4]) zp zL (zIz) Tryz.func189 (by kernel_rfl) (by kernel_rfl) rfl (by kernel_rfl) (ac:=zF2) (ob:=[]) (by kernel_rfl) (fun X hX=>zh) (by kernel_rfl) (zLj)
def w36_c:ShC:={ inp:=⟨[.hole],[],[1],[.sl (.one (.sl zx))]⟩,out:=⟨[(.view 0)],[.seq false],[0],[.sl zx]⟩,nres:=1,ms:=[],mu:=[],leak:=true,glob:=false,F:=fun (x:(List (List zd)))=>zb4 x }
-- slices.Concat[[]api.Lit,api.Lit]
def zDY:List (Nat×Con):=[(189,.gen (zU [w35_c]))]
def w36_v:Env:=zz tb gl zDY w36_c Tryz.f140.ntmps
theorem zxG:zB Tryz.prog (cond w36_c.glob gl fun _=>none) zDY:=(zb (ze (zc (w35_ok.anyGl rfl) zg)) zi)
def w36_u1_h:SS:=⟨[6,25,26,27],⟨[(.view 0),.hole,.hole,.hole],[.seq false],[1,2,2,0],[.sl (.one (.sl zx)),.int .i64,.int .i64,.sl zx]⟩⟩
def znn:Exs:=[((.exit 2),⟨[6],⟨[(.view 0)],[.seq false],[0],[.sl zx]⟩⟩)]
def zy5:AC:=.run
def zs1:Un:=lpU w36_v.fz [28,29,30,8,31,32,33,6,34,27] w36_u1_h znn (lp yq zr)
theorem zy2 (f:w36_u1_h.X→Option (YT znn)) (x:w36_u1_h.X):E w36_v (zt (za Tryz.f140) [1,1,1,1,0,1,0,0]) (zy5) (mkS w36_u1_h 8 x) (zA w36_v.fz w36_u1_h znn f)=yq f x:=by kernel_rfl
theorem zvL {X:Fx} (hX:VOk Tryz.prog X w36_v):q8 Tryz.prog X w36_v (zt (za Tryz.f140) [1,1,1,1,0,1,0]) zs1 :=
 zF (c:=(zt (za Tryz.f140) [1,1,1,1,0,1,0,0])) (by kernel_rfl) (zu zp (zxG)) zL (ob:=[]) (by kernel_rfl) (fun X hX=>zh) (zy2) (by kernel_rfl) (by kernel_rfl) hX
def w36_u0_h:SS:=⟨[0,3,9,10,11],⟨[.hole,.hole,.hole,.hole,.hole],[],[1,2,1,2,2],[.sl (.one (.sl zx)),.int .i64,.sl (.one (.sl zx)),.int .i64,.int .i64]⟩⟩
def znR:Exs:=[((.exit 0),⟨[3],⟨[.hole],[],[2],[.int .i64]⟩⟩)]
def zyW:AC:=.run
def zvd:Un:=lpU w36_v.fz [12,13,14,5,15,16,17,18,3,19,20,21,22,11] w36_u0_h znR (lp yo zr)
theorem zyu (f:w36_u0_h.X→Option (YT znR)) (x:w36_u0_h.X):E w36_v (zt (za Tryz.f140) [1,1,0,1,0,0]) (zyW) (mkS w36_u0_h 8 x) (zA w36_v.fz w36_u0_h znR f)=yo f x:=by kernel_rfl
theorem zs6 {X:Fx} (hX:VOk Tryz.prog X w36_v):q8 Tryz.prog X w36_v (zt (za Tryz.f140) [1,1,0,1,0]) zvd :=
 zF (c:=(zt (za Tryz.f140) [1,1,0,1,0,0])) (by kernel_rfl) (zu zp (zxG)) zL (ob:=[]) (by kernel_rfl) (fun X hX=>zh) (zyu) (by kernel_rfl) (by kernel_rfl) hX
def zH7:AC:=(.seq .run (.seq .run (.seq (.seq .run (.block (.unit zvd))) (.seq .run (.seq (.seq .run (.block (.unit zs1))) .run)))))
theorem zKo (x:z6 w36_c.inp.hs):E w36_v (za Tryz.f140) (zH7) (w36_c.entry x) (zD tb w36_v.fz w36_c [.tmp 2] x)=w36_c.F x:=by kernel_rfl
theorem w36_ok:ShOk Tryz.prog gl 140 w36_c :=
 zE (l:=zDY) (n:=Tryz.f140.ntmps) (code:=za Tryz.f140) (rts:=[.tmp 2]) zp zL (zxG) Tryz.func140 (by kernel_rfl) (by kernel_rfl) rfl (by kernel_rfl) (ac:=zH7) (ob:=[((zt (za Tryz.f140) [1,1,0,1,0]),zvd),((zt (za Tryz.f140) [1,1,1,1,0,1,0]),zs1)]) (by kernel_rfl) (fun X hX=>(zq (zs6 hX) (zq (zvL hX) zh))) (by kernel_rfl) (zKo)
def w37_c:ShC:={ inp:=⟨[(.agg [.hole,.hole,.hole]),.hole,(.agg [.hole,.hole,.hole]),.hole],[],[1,1,1,1,1,1,1,1],[.sl zx,.sl (.one (.sl (.one (.int .i64)))),.sl zx,.int .i64,.sl zx,.sl (.one (.sl (.one (.int .i64)))),.sl zx,.int .i64]⟩,out:=⟨[(.agg [(.view 0),.hole,(.view 1)])],[.seq false,.seq false],[0,0,0],[.sl (.one (.sl (.one (.int .i64)))),.sl zx,.sl zx]⟩,nres:=1,ms:=[],mu:=[],leak:=true,glob:=false,F:=fun (x:((List zd)×(List (List Int))×(List zd)×Int×(List zd)×(List (List Int))×(List zd)×Int))=>zcu x.1 x.2.1 x.2.2.1 x.2.2.2.1 x.2.2.2.2.1 x.2.2.2.2.2.1 x.2.2.2.2.2.2.1 x.2.2.2.2.2.2.2 }
-- resolve.Both
def zE8:List (Nat×Con):=[(139,.gen (zU [w34_c])),(140,.gen (zU [w36_c]))]
def w37_v:Env:=zz tb gl zE8 w37_c Tryz.f75.ntmps
theorem zt2:zB Tryz.prog (cond w37_c.glob gl fun _=>none) zE8:=(zb (ze (zc (w34_ok.anyGl rfl) zg)) (zb (ze (zc (w36_ok.anyGl rfl) zg)) zi))
def w37_u1_h:SS:=⟨[3,8,9,46,47,48],⟨[.hole,(.ptr 0 0),(.ptr 1 0),.hole,.hole,.hole],[.cells true [.nilv,.nilv,.nilv],.cells false [(.view 2),.hole,(.view 3)],.seq false,.seq false],[2,1,2,2,0,0,0],[.int .i64,.sl zx,.int .i64,.int .i64,.sl (.one (.sl (.one (.int .i64)))),.sl zx,.sl zx]⟩⟩
def zn1:Exs:=[((.exit 2),⟨[9],⟨[(.ptr 0 0)],[.cells false [(.view 1),.hole,(.view 2)],.seq false,.seq false],[0,0,0],[.sl (.one (.sl (.one (.int .i64)))),.sl zx,.sl zx]⟩⟩)]
def zzr:AC:=.run
def zvy:Un:=lpU w37_v.fz [49,50,51,52,13,12,53,54,55,56,57,58,59,60,61,62,48] w37_u1_h zn1 (lp qg zr)
theorem zAk (f:w37_u1_h.X→Option (YT zn1)) (x:w37_u1_h.X):E w37_v (zt (za Tryz.f75) [1,1,1,0,1,0,0]) (zzr) (mkS w37_u1_h 8 x) (zA w37_v.fz w37_u1_h zn1 f)=qg f x:=by kernel_rfl
theorem zvG {X:Fx} (hX:VOk Tryz.prog X w37_v):q8 Tryz.prog X w37_v (zt (za Tryz.f75) [1,1,1,0,1,0]) zvy :=
 zF (c:=(zt (za Tryz.f75) [1,1,1,0,1,0,0])) (by kernel_rfl) (zu zp (zt2)) zL (ob:=[]) (by kernel_rfl) (fun X hX=>zh) (zAk) (by kernel_rfl) (by kernel_rfl) hX
def w37_u0_h:SS:=⟨[1,3,6,8,9,28,29,30],⟨[.hole,.hole,(.ptr 0 0),(.ptr 1 0),(.ptr 2 0),.hole,.hole,.hole],[.cells true [.hole,.hole,.hole],.cells true [.nilv,.nilv,.nilv],.cells false [(.view 3),.hole,(.view 4)],.seq false,.seq false],[2,2,1,2,2,1,1,1,0,0,0],[.int .i64,.int .i64,.sl zx,.int .i64,.int .i64,.sl zx,.sl (.one (.sl (.one (.int .i64)))),.sl zx,.sl (.one (.sl (.one (.int .i64)))),.sl zx,.sl zx]⟩⟩
def znC:Exs:=[((.exit 0),⟨[9],⟨[(.ptr 0 0)],[.cells false [(.view 1),.hole,(.view 2)],.seq false,.seq false],[0,0,0],[.sl (.one (.sl (.one (.int .i64)))),.sl zx,.sl zx]⟩⟩)]
def zAD:AC:=.run
def zxJ:Un:=lpU w37_v.fz [31,32,33,34,11,10,35,36,37,38,39,40,41,42,43,44,30] w37_u0_h znC (lp qj zr)
theorem zx7 (f:w37_u0_h.X→Option (YT znC)) (x:w37_u0_h.X):E w37_v (zt (za Tryz.f75) [1,1,0,1,0,0]) (zAD) (mkS w37_u0_h 8 x) (zA w37_v.fz w37_u0_h znC f)=qj f x:=by kernel_rfl
theorem zub {X:Fx} (hX:VOk Tryz.prog X w37_v):q8 Tryz.prog X w37_v (zt (za Tryz.f75) [1,1,0,1,0]) zxJ :=
 zF (c:=(zt (za Tryz.f75) [1,1,0,1,0,0])) (by kernel_rfl) (zu zp (zt2)) zL (ob:=[]) (by kernel_rfl) (fun X hX=>zh) (zx7) (by kernel_rfl) (by kernel_rfl) hX
def zHE:AC:=(.seq .run (.seq .run (.seq (.seq .run (.block (.unit zxJ))) (.seq (.seq .run (.block (.unit zvy))) .run))))
theorem zKD (x:z6 w37_c.inp.hs):E w37_v (za Tryz.f75) (zHE) (w37_c.entry x) (zD tb w37_v.fz w37_c [.cell 8 29] x)=w37_c.F x:=by kernel_rfl
theorem w37_ok:ShOk Tryz.prog gl 75 w37_c :=
 zE (l:=zE8) (n:=Tryz.f75.ntmps) (code:=za Tryz.f75) (rts:=[.cell 8 29]) zp zL (zt2) Tryz.func75 (by kernel_rfl) (by kernel_rfl) rfl (by kernel_rfl) (ac:=zHE) (ob:=[((zt (za Tryz.f75) [1,1,0,1,0]),zxJ),((zt (za Tryz.f75) [1,1,1,0,1,0]),zvy)]) (by kernel_rfl) (fun X hX=>(zq (zub hX) (zq (zvG hX) zh))) (by kernel_rfl) (zKD)
def w38_c:ShC:={ inp:=⟨[.hole,.hole],[],[1,1],[.sl (.cons (.int .i64) (.one (.sl (.one (.int .i64))))),.int .i64]⟩,out:=⟨[.hole],[],[0],[.ns (.one (.int .i64))]⟩,nres:=1,ms:=[],mu:=[],leak:=true,glob:=false,F:=fun (x:((List (Int×(List Int)))×Int))=>zfA x.1 x.2 }
-- bind.find
def zDW:List (Nat×Con):=[]
def w38_v:Env:=zz tb gl zDW w38_c Tryz.f194.ntmps
theorem zB6:zB Tryz.prog (cond w38_c.glob gl fun _=>none) zDW:=zi
def w38_u0_h:SS:=⟨[1,7,8,9],⟨[.hole,.hole,.hole,.hole],[],[2,1,2,2],[.int .i64,.sl (.cons (.int .i64) (.one (.sl (.one (.int .i64))))),.int .i64,.int .i64]⟩⟩
def znN:Exs:=[((.exit 0),⟨[],⟨[],[],[],[]⟩⟩),(.ret,⟨[4],⟨[.hole],[],[1],[.sl (.one (.int .i64))]⟩⟩)]
def zyr:AC:=.run
def zwm:Un:=lpU w38_v.fz [10,11,12,6,13,14,15,16,17,18,4,19,9] w38_u0_h znN (lp zap zr)
theorem zx5 (f:w38_u0_h.X→Option (YT znN)) (x:w38_u0_h.X):E w38_v (zt (za Tryz.f194) [1,0,1,0,0]) (zyr) (mkS w38_u0_h 8 x) (zA w38_v.fz w38_u0_h znN f)=zap f x:=by kernel_rfl
theorem zuY {X:Fx} (hX:VOk Tryz.prog X w38_v):q8 Tryz.prog X w38_v (zt (za Tryz.f194) [1,0,1,0]) zwm :=
 zF (c:=(zt (za Tryz.f194) [1,0,1,0,0])) (by kernel_rfl) (zu zp (zB6)) zL (ob:=[]) (by kernel_rfl) (fun X hX=>zh) (zx5) (by kernel_rfl) (by kernel_rfl) hX
def zGi:AC:=(.seq .run (.seq (.seq .run (.block (.unit zwm))) .run))
theorem zKh (x:z6 w38_c.inp.hs):E w38_v (za Tryz.f194) (zGi) (w38_c.entry x) (zD tb w38_v.fz w38_c [.tmp 4] x)=w38_c.F x:=by kernel_rfl
theorem w38_ok:ShOk Tryz.prog gl 194 w38_c :=
 zE (l:=zDW) (n:=Tryz.f194.ntmps) (code:=za Tryz.f194) (rts:=[.tmp 4]) zp zL (zB6) Tryz.func194 (by kernel_rfl) (by kernel_rfl) rfl (by kernel_rfl) (ac:=zGi) (ob:=[((zt (za Tryz.f194) [1,0,1,0]),zwm)]) (by kernel_rfl) (fun X hX=>(zq (zuY hX) zh)) (by kernel_rfl) (zKh)
def w39_c:ShC:={ inp:=⟨[.hole,.hole],[],[1,1],[.sl (.cons (.int .i64) (.one (.sl (.one (.int .i64))))),.sl (.one (.int .i64))]⟩,out:=⟨[(.view 0)],[.seq false],[2],[.sl (.one (.int .i64))]⟩,nres:=1,ms:=[],mu:=[],leak:=false,glob:=false,F:=fun (x:((List (Int×(List Int)))×(List Int)))=>zni x.1 x.2 }
-- bind.On
def zCK:List (Nat×Con):=[(55,.gen (zU [w9_c])),(194,.gen (zU [w38_c]))]
def w39_v:Env:=zz tb gl zCK w39_c Tryz.f152.ntmps
theorem zBV:zB Tryz.prog (cond w39_c.glob gl fun _=>none) zCK:=(zb (ze (zc (w9_ok.anyGl rfl) zg)) (zb (ze (zc (w38_ok.anyGl rfl) zg)) zi))
def w39_u0_h:SS:=⟨[0,5,9,10,11],⟨[.hole,(.view 0),.hole,.hole,.hole],[.seq false],[1,1,2,2,2],[.sl (.cons (.int .i64) (.one (.sl (.one (.int .i64))))),.sl (.one (.int .i64)),.int .i64,.int .i64,.sl (.one (.int .i64))]⟩⟩
def znj:Exs:=[((.exit 0),⟨[5],⟨[(.view 0)],[.seq false],[2],[.sl (.one (.int .i64))]⟩⟩)]
def zAG:AC:=.run
def zw8:Un:=lpU w39_v.fz [12,13,14,7,15,16,17,18,8,19,20,21,22,23,24,25,26,27,28,5,29,30,31,5,32,11] w39_u0_h znj (lp zbt zr)
theorem zAI (f:w39_u0_h.X→Option (YT znj)) (x:w39_u0_h.X):E w39_v (zt (za Tryz.f152) [1,1,0,1,0,0]) (zAG) (mkS w39_u0_h 8 x) (zA w39_v.fz w39_u0_h znj f)=zbt f x:=by kernel_rfl
theorem zv7 {X:Fx} (hX:VOk Tryz.prog X w39_v):q8 Tryz.prog X w39_v (zt (za Tryz.f152) [1,1,0,1,0]) zw8 :=
 zF (c:=(zt (za Tryz.f152) [1,1,0,1,0,0])) (by kernel_rfl) (zu zp (zBV)) zL (ob:=[]) (by kernel_rfl) (fun X hX=>zh) (zAI) (by kernel_rfl) (by kernel_rfl) hX
def zHx:AC:=(.seq .run (.seq .run (.seq (.seq .run (.block (.unit zw8))) .run)))
theorem zJ8 (x:z6 w39_c.inp.hs):E w39_v (za Tryz.f152) (zHx) (w39_c.entry x) (zD tb w39_v.fz w39_c [.tmp 4] x)=w39_c.F x:=by kernel_rfl
theorem w39_ok:ShOk Tryz.prog gl 152 w39_c :=
 zE (l:=zCK) (n:=Tryz.f152.ntmps) (code:=za Tryz.f152) (rts:=[.tmp 4]) zp zL (zBV) Tryz.func152 (by kernel_rfl) (by kernel_rfl) rfl (by kernel_rfl) (ac:=zHx) (ob:=[((zt (za Tryz.f152) [1,1,0,1,0]),zw8)]) (by kernel_rfl) (fun X hX=>(zq (zv7 hX) zh)) (by kernel_rfl) (zJ8)
def w40_c:ShC:={ inp:=⟨[.hole,(.ptr 0 0)],[.cells true [.hole]],[1,1],[.sl (.one (.int .i64)),.sl (.cons (.int .i64) (.one (.sl (.one (.int .i64)))))]⟩,out:=⟨[(.view 0)],[.seq false],[2],[.sl (.one (.int .i64))]⟩,nres:=1,ms:=[],mu:=[],leak:=false,glob:=false,F:=fun (x:((List Int)×(List (Int×(List Int)))))=>qZ x.1 x.2 }
-- clause.On$1
def zFb:List (Nat×Con):=[(152,.gen (zU [w39_c]))]
def w40_v:Env:=zz tb gl zFb w40_c Tryz.f186.ntmps
theorem zH4:zB Tryz.prog (cond w40_c.glob gl fun _=>none) zFb:=(zb (ze (zc (w39_ok.anyGl rfl) zg)) zi)
def zF0:AC:=.run
theorem zJv (x:z6 w40_c.inp.hs):E w40_v (za Tryz.f186) (zF0) (w40_c.entry x) (zD tb w40_v.fz w40_c [.tmp 3] x)=w40_c.F x:=by kernel_rfl
theorem w40_ok:ShOk Tryz.prog gl 186 w40_c :=
 zE (l:=zFb) (n:=Tryz.f186.ntmps) (code:=za Tryz.f186) (rts:=[.tmp 3]) zp zL (zH4) Tryz.func186 (by kernel_rfl) (by kernel_rfl) rfl (by kernel_rfl) (ac:=zF0) (ob:=[]) (by kernel_rfl) (fun X hX=>zh) (by kernel_rfl) (zJv)
def w41_c:ShC:={ inp:=⟨[(.agg [.hole,.hole,.hole]),(.clo 186 [(.ptr 0 0)])],[.cells true [.hole]],[1,1,1,1],[.sl zx,.sl (.one (.sl (.one (.int .i64)))),.sl zx,.sl (.cons (.int .i64) (.one (.sl (.one (.int .i64)))))]⟩,out:=⟨[(.agg [.hole,.hole,(.view 0)])],[.seq false],[2,2,2],[.sl zx,.sl (.one (.sl (.one (.int .i64)))),.sl zx]⟩,nres:=1,ms:=[],mu:=[],leak:=false,glob:=false,F:=fun (x:((List zd)×(List (List Int))×(List zd)×(List (Int×(List Int)))))=>zhw x.1 x.2.1 x.2.2.1 x.2.2.2 }
-- clause.each
def zDa:List (Nat×Con):=[(186,.gen (zU [w40_c]))]
def w41_v:Env:=zz tb gl zDa w41_c Tryz.f170.ntmps
theorem zrw:zB Tryz.prog (cond w41_c.glob gl fun _=>none) zDa:=(zb (ze (zc (w40_ok.anyGl rfl) zg)) zi)
def w41_u2_h:SS:=⟨[1,4,5,49,50,51],⟨[(.clo 186 [(.ptr 0 0)]),(.ptr 1 0),(.ptr 2 0),.hole,.hole,.hole],[.cells true [.hole],.cells true [.nilv,.nilv,.nilv],.cells false [.hole,.hole,(.view 3)],.seq false],[1,2,2,1,2,2,2],[.sl zx,.int .i64,.int .i64,.sl (.cons (.int .i64) (.one (.sl (.one (.int .i64))))),.sl zx,.sl (.one (.sl (.one (.int .i64)))),.sl zx]⟩⟩
def zmI:Exs:=[((.exit 4),⟨[5],⟨[(.ptr 0 0)],[.cells false [.hole,.hole,(.view 1)],.seq false],[2,2,2],[.sl zx,.sl (.one (.sl (.one (.int .i64)))),.sl zx]⟩⟩)]
def zyF:AC:=.run
def zw2:Un:=lpU w41_v.fz [52,53,54,11,55,56,57,58,59,60,61,62,63,64,65,66,67,51] w41_u2_h zmI (lp qC zr)
theorem zzk (f:w41_u2_h.X→Option (YT zmI)) (x:w41_u2_h.X):E w41_v (zt (za Tryz.f170) [1,1,1,1,0,1,0,0]) (zyF) (mkS w41_u2_h 8 x) (zA w41_v.fz w41_u2_h zmI f)=qC f x:=by kernel_rfl
theorem zsS {X:Fx} (hX:VOk Tryz.prog X w41_v):q8 Tryz.prog X w41_v (zt (za Tryz.f170) [1,1,1,1,0,1,0]) zw2 :=
 zF (c:=(zt (za Tryz.f170) [1,1,1,1,0,1,0,0])) (by kernel_rfl) (zu zp (zrw)) zL (ob:=[]) (by kernel_rfl) (fun X hX=>zh) (zzk) (by kernel_rfl) (by kernel_rfl) hX
def w41_u1_h:SS:=⟨[1,2,4,5,33,34,35],⟨[(.clo 186 [(.ptr 0 0)]),(.ptr 1 0),(.ptr 2 0),(.ptr 3 0),.hole,.hole,.hole],[.cells true [.hole],.cells true [.hole,.hole,.hole],.cells true [.nilv,.nilv,.nilv],.cells false [.hole,(.view 4),.nilv],.seq false],[1,2,2,1,1,1,1,2,2],[.sl (.one (.sl (.one (.int .i64)))),.int .i64,.int .i64,.sl (.cons (.int .i64) (.one (.sl (.one (.int .i64))))),.sl zx,.sl (.one (.sl (.one (.int .i64)))),.sl zx,.sl zx,.sl (.one (.sl (.one (.int .i64))))]⟩⟩
def zml:Exs:=[((.exit 2),⟨[5],⟨[(.ptr 0 0)],[.cells false [.hole,(.view 1),.nilv],.seq false],[2,2],[.sl zx,.sl (.one (.sl (.one (.int .i64))))]⟩⟩)]
def zAH:AC:=.run
def ztF:Un:=lpU w41_v.fz [36,37,38,9,39,40,41,42,43,44,45,46,47,35] w41_u1_h zml (lp qI zr)
theorem zzz (f:w41_u1_h.X→Option (YT zml)) (x:w41_u1_h.X):E w41_v (zt (za Tryz.f170) [1,1,1,0,1,0,0]) (zAH) (mkS w41_u1_h 8 x) (zA w41_v.fz w41_u1_h zml f)=qI f x:=by kernel_rfl
theorem zuz {X:Fx} (hX:VOk Tryz.prog X w41_v):q8 Tryz.prog X w41_v (zt (za Tryz.f170) [1,1,1,0,1,0]) ztF :=
 zF (c:=(zt (za Tryz.f170) [1,1,1,0,1,0,0])) (by kernel_rfl) (zu zp (zrw)) zL (ob:=[]) (by kernel_rfl) (fun X hX=>zh) (zzz) (by kernel_rfl) (by kernel_rfl) hX
def w41_u0_h:SS:=⟨[1,2,4,5,13,14,15],⟨[(.clo 186 [(.ptr 0 0)]),(.ptr 1 0),(.ptr 2 0),(.ptr 3 0),.hole,.hole,.hole],[.cells true [.hole],.cells true [.hole,.hole,.hole],.cells true [.nilv,.nilv,.nilv],.cells false [(.view 4),.nilv,.nilv],.seq false],[1,2,2,1,1,1,1,2],[.sl zx,.int .i64,.int .i64,.sl (.cons (.int .i64) (.one (.sl (.one (.int .i64))))),.sl zx,.sl (.one (.sl (.one (.int .i64)))),.sl zx,.sl zx]⟩⟩
def zmt:Exs:=[((.exit 0),⟨[5],⟨[(.ptr 0 0)],[.cells false [(.view 1),.nilv,.nilv],.seq false],[2],[.sl zx]⟩⟩)]
def zye:AC:=.run
def zud:Un:=lpU w41_v.fz [16,17,18,7,19,20,21,22,23,24,25,26,27,28,29,30,31,15] w41_u0_h zmt (lp qE zr)
theorem zy0 (f:w41_u0_h.X→Option (YT zmt)) (x:w41_u0_h.X):E w41_v (zt (za Tryz.f170) [1,1,0,1,0,0]) (zye) (mkS w41_u0_h 8 x) (zA w41_v.fz w41_u0_h zmt f)=qE f x:=by kernel_rfl
theorem zuU {X:Fx} (hX:VOk Tryz.prog X w41_v):q8 Tryz.prog X w41_v (zt (za Tryz.f170) [1,1,0,1,0]) zud :=
 zF (c:=(zt (za Tryz.f170) [1,1,0,1,0,0])) (by kernel_rfl) (zu zp (zrw)) zL (ob:=[]) (by kernel_rfl) (fun X hX=>zh) (zy0) (by kernel_rfl) (by kernel_rfl) hX
def zFS:AC:=(.seq .run (.seq .run (.seq (.seq .run (.block (.unit zud))) (.seq (.seq .run (.block (.unit ztF))) (.seq (.seq .run (.block (.unit zw2))) .run)))))
theorem zJW (x:z6 w41_c.inp.hs):E w41_v (za Tryz.f170) (zFS) (w41_c.entry x) (zD tb w41_v.fz w41_c [.cell 4 29] x)=w41_c.F x:=by kernel_rfl
theorem w41_ok:ShOk Tryz.prog gl 170 w41_c :=
 zE (l:=zDa) (n:=Tryz.f170.ntmps) (code:=za Tryz.f170) (rts:=[.cell 4 29]) zp zL (zrw) Tryz.func170 (by kernel_rfl) (by kernel_rfl) rfl (by kernel_rfl) (ac:=zFS) (ob:=[((zt (za Tryz.f170) [1,1,0,1,0]),zud),((zt (za Tryz.f170) [1,1,1,0,1,0]),ztF),((zt (za Tryz.f170) [1,1,1,1,0,1,0]),zw2)]) (by kernel_rfl) (fun X hX=>(zq (zuU hX) (zq (zuz hX) (zq (zsS hX) zh)))) (by kernel_rfl) (zJW)
def w42_c:ShC:={ inp:=⟨[.hole,(.agg [.hole,.hole,.hole])],[],[1,1,1,1],[.sl (.cons (.int .i64) (.one (.sl (.one (.int .i64))))),.sl zx,.sl (.one (.sl (.one (.int .i64)))),.sl zx]⟩,out:=⟨[(.agg [.hole,.hole,(.view 0)])],[.seq false],[2,2,2],[.sl zx,.sl (.one (.sl (.one (.int .i64)))),.sl zx]⟩,nres:=1,ms:=[],mu:=[],leak:=false,glob:=false,F:=fun (x:((List (Int×(List Int)))×(List zd)×(List (List Int))×(List zd)))=>zfF x.1 x.2.1 x.2.2.1 x.2.2.2 }
-- clause.On
def zFD:List (Nat×Con):=[(170,.gen (zU [w41_c]))]
def w42_v:Env:=zz tb gl zFD w42_c Tryz.f136.ntmps
theorem zI4:zB Tryz.prog (cond w42_c.glob gl fun _=>none) zFD:=(zb (ze (zc (w41_ok.anyGl rfl) zg)) zi)
def zH5:AC:=.run
theorem zJ2 (x:z6 w42_c.inp.hs):E w42_v (za Tryz.f136) (zH5) (w42_c.entry x) (zD tb w42_v.fz w42_c [.cell 4 29] x)=w42_c.F x:=by kernel_rfl
theorem w42_ok:ShOk Tryz.prog gl 136 w42_c :=
 zE (l:=zFD) (n:=Tryz.f136.ntmps) (code:=za Tryz.f136) (rts:=[.cell 4 29]) zp zL (zI4) Tryz.func136 (by kernel_rfl) (by kernel_rfl) rfl (by kernel_rfl) (ac:=zH5) (ob:=[]) (by kernel_rfl) (fun X hX=>zh) (by kernel_rfl) (zJ2)
def w43_c:ShC:={ inp:=⟨[.hole,.hole],[],[1,1],[.sl (.one (.int .i64)),.sl (.one (.int .i64))]⟩,out:=⟨[.hole],[],[2],[.bool]⟩,nres:=1,ms:=[],mu:=[],leak:=false,glob:=false,F:=fun (x:((List Int)×(List Int)))=>qo x.1 x.2 }
-- slices.Equal[[]int,int]
def zE4:List (Nat×Con):=[]
def w43_v:Env:=zz tb gl zE4 w43_c Tryz.f102.ntmps
theorem zBn:zB Tryz.prog (cond w43_c.glob gl fun _=>none) zE4:=zi
def w43_u0_h:SS:=⟨[0,1,12,13],⟨[.hole,.hole,.hole,.hole],[],[1,1,2,2],[.sl (.one (.int .i64)),.sl (.one (.int .i64)),.int .i64,.int .i64]⟩⟩
def zmr:Exs:=[((.exit 0),⟨[],⟨[],[],[],[]⟩⟩),(.ret,⟨[4],⟨[.hole],[],[2],[.bool]⟩⟩)]
def zyM:AC:=.run
def zxe:Un:=lpU w43_v.fz [14,15,5,16,17,18,19,20,21,22,23,24,4,25,13] w43_u0_h zmr (lp qn zr)
theorem zAK (f:w43_u0_h.X→Option (YT zmr)) (x:w43_u0_h.X):E w43_v (zt (za Tryz.f102) [1,1,0,1,0,0]) (zyM) (mkS w43_u0_h 8 x) (zA w43_v.fz w43_u0_h zmr f)=qn f x:=by kernel_rfl
theorem zvz {X:Fx} (hX:VOk Tryz.prog X w43_v):q8 Tryz.prog X w43_v (zt (za Tryz.f102) [1,1,0,1,0]) zxe :=
 zF (c:=(zt (za Tryz.f102) [1,1,0,1,0,0])) (by kernel_rfl) (zu zp (zBn)) zL (ob:=[]) (by kernel_rfl) (fun X hX=>zh) (zAK) (by kernel_rfl) (by kernel_rfl) hX
def zGr:AC:=(.seq .run (.seq .run (.seq (.seq .run (.block (.unit zxe))) .run)))
theorem zJC (x:z6 w43_c.inp.hs):E w43_v (za Tryz.f102) (zGr) (w43_c.entry x) (zD tb w43_v.fz w43_c [.tmp 4] x)=w43_c.F x:=by kernel_rfl
theorem w43_ok:ShOk Tryz.prog gl 102 w43_c :=
 zE (l:=zE4) (n:=Tryz.f102.ntmps) (code:=za Tryz.f102) (rts:=[.tmp 4]) zp zL (zBn) Tryz.func102 (by kernel_rfl) (by kernel_rfl) rfl (by kernel_rfl) (ac:=zGr) (ob:=[((zt (za Tryz.f102) [1,1,0,1,0]),zxe)]) (by kernel_rfl) (fun X hX=>(zq (zvz hX) zh)) (by kernel_rfl) (zJC)
def w44_c:ShC:={ inp:=⟨[(.agg [.hole,.hole]),(.agg [.hole,.hole])],[],[1,1,1,1],[.bool,.sl (.one (.int .i64)),.bool,.sl (.one (.int .i64))]⟩,out:=⟨[.hole],[],[2],[.bool]⟩,nres:=1,ms:=[],mu:=[],leak:=false,glob:=false,F:=fun (x:(Bool×(List Int)×Bool×(List Int)))=>zjW x.1 x.2.1 x.2.2.1 x.2.2.2 }
-- lit.Same
def zDE:List (Nat×Con):=[(102,.gen (zU [w43_c]))]
def w44_v:Env:=zz tb gl zDE w44_c Tryz.f206.ntmps
theorem zHc:zB Tryz.prog (cond w44_c.glob gl fun _=>none) zDE:=(zb (ze (zc (w43_ok.anyGl rfl) zg)) zi)
def zGV:AC:=.run
theorem zKd (x:z6 w44_c.inp.hs):E w44_v (za Tryz.f206) (zGV) (w44_c.entry x) (zD tb w44_v.fz w44_c [.tmp 4] x)=w44_c.F x:=by kernel_rfl
theorem w44_ok:ShOk Tryz.prog gl 206 w44_c :=
 zE (l:=zDE) (n:=Tryz.f206.ntmps) (code:=za Tryz.f206) (rts:=[.tmp 4]) zp zL (zHc) Tryz.func206 (by kernel_rfl) (by kernel_rfl) rfl (by kernel_rfl) (ac:=zGV) (ob:=[]) (by kernel_rfl) (fun X hX=>zh) (by kernel_rfl) (zKd)
def w45_c:ShC:={ inp:=⟨[(.agg [.hole,.hole]),(.ptr 0 0)],[.cells true [.hole,.hole]],[1,1,1,1],[.bool,.sl (.one (.int .i64)),.bool,.sl (.one (.int .i64))]⟩,out:=⟨[.hole],[],[2],[.bool]⟩,nres:=1,ms:=[],mu:=[],leak:=false,glob:=false,F:=fun (x:(Bool×(List Int)×Bool×(List Int)))=>zcp x.1 x.2.1 x.2.2.1 x.2.2.2 }
-- clause.once$1
def zDR:List (Nat×Con):=[(206,.gen (zU [w44_c]))]
def w45_v:Env:=zz tb gl zDR w45_c Tryz.f205.ntmps
theorem zGJ:zB Tryz.prog (cond w45_c.glob gl fun _=>none) zDR:=(zb (ze (zc (w44_ok.anyGl rfl) zg)) zi)
def zFQ:AC:=.run
theorem zKZ (x:z6 w45_c.inp.hs):E w45_v (za Tryz.f205) (zFQ) (w45_c.entry x) (zD tb w45_v.fz w45_c [.tmp 3] x)=w45_c.F x:=by kernel_rfl
theorem w45_ok:ShOk Tryz.prog gl 205 w45_c :=
 zE (l:=zDR) (n:=Tryz.f205.ntmps) (code:=za Tryz.f205) (rts:=[.tmp 3]) zp zL (zGJ) Tryz.func205 (by kernel_rfl) (by kernel_rfl) rfl (by kernel_rfl) (ac:=zFQ) (ob:=[]) (by kernel_rfl) (fun X hX=>zh) (by kernel_rfl) (zKZ)
def w46_c:ShC:={ inp:=⟨[.hole,(.clo 205 [(.ptr 0 0)])],[.cells true [.hole,.hole]],[1,1,1],[.sl zx,.bool,.sl (.one (.int .i64))]⟩,out:=⟨[.hole],[],[2],[.int .i64]⟩,nres:=1,ms:=[],mu:=[],leak:=false,glob:=false,F:=fun (x:((List zd)×Bool×(List Int)))=>zcN x.1 x.2.1 x.2.2 }
-- slices.IndexFunc[[]api.Lit,api.Lit]
def zCN:List (Nat×Con):=[(205,.gen (zU [w45_c]))]
def w46_v:Env:=zz tb gl zCN w46_c Tryz.f183.ntmps
theorem zCm:zB Tryz.prog (cond w46_c.glob gl fun _=>none) zCN:=(zb (ze (zc (w45_ok.anyGl rfl) zg)) zi)
def w46_u0_h:SS:=⟨[0,1,7,8],⟨[.hole,(.clo 205 [(.ptr 0 0)]),.hole,.hole],[.cells true [.hole,.hole]],[1,2,2,2,1],[.sl zx,.int .i64,.int .i64,.bool,.sl (.one (.int .i64))]⟩⟩
def znM:Exs:=[((.exit 0),⟨[],⟨[],[],[],[]⟩⟩),(.ret,⟨[4],⟨[.hole],[],[2],[.int .i64]⟩⟩)]
def zzl:AC:=.run
def zwo:Un:=lpU w46_v.fz [9,10,5,11,12,13,14,15,16,17,4,18,8] w46_u0_h znM (lp yd zr)
theorem zyh (f:w46_u0_h.X→Option (YT znM)) (x:w46_u0_h.X):E w46_v (zt (za Tryz.f183) [1,0,1,0,0]) (zzl) (mkS w46_u0_h 8 x) (zA w46_v.fz w46_u0_h znM f)=yd f x:=by kernel_rfl
theorem zw4 {X:Fx} (hX:VOk Tryz.prog X w46_v):q8 Tryz.prog X w46_v (zt (za Tryz.f183) [1,0,1,0]) zwo :=
 zF (c:=(zt (za Tryz.f183) [1,0,1,0,0])) (by kernel_rfl) (zu zp (zCm)) zL (ob:=[]) (by kernel_rfl) (fun X hX=>zh) (zyh) (by kernel_rfl) (by kernel_rfl) hX
def zH1:AC:=(.seq .run (.seq (.seq .run (.block (.unit zwo))) .run))
theorem zJF (x:z6 w46_c.inp.hs):E w46_v (za Tryz.f183) (zH1) (w46_c.entry x) (zD tb w46_v.fz w46_c [.tmp 4] x)=w46_c.F x:=by kernel_rfl
theorem w46_ok:ShOk Tryz.prog gl 183 w46_c :=
 zE (l:=zCN) (n:=Tryz.f183.ntmps) (code:=za Tryz.f183) (rts:=[.tmp 4]) zp zL (zCm) Tryz.func183 (by kernel_rfl) (by kernel_rfl) rfl (by kernel_rfl) (ac:=zH1) (ob:=[((zt (za Tryz.f183) [1,0,1,0]),zwo)]) (by kernel_rfl) (fun X hX=>(zq (zw4 hX) zh)) (by kernel_rfl) (zJF)
def w47_c:ShC:={ inp:=⟨[.hole,(.clo 205 [(.ptr 0 0)])],[.cells true [.hole,.hole]],[1,1,1],[.sl zx,.bool,.sl (.one (.int .i64))]⟩,out:=⟨[.hole],[],[2],[.bool]⟩,nres:=1,ms:=[],mu:=[],leak:=false,glob:=false,F:=fun (x:((List zd)×Bool×(List Int)))=>zaf x.1 x.2.1 x.2.2 }
-- slices.ContainsFunc[[]api.Lit,api.Lit]
def zEd:List (Nat×Con):=[(183,.gen (zU [w46_c]))]
def w47_v:Env:=zz tb gl zEd w47_c Tryz.f133.ntmps
theorem zIF:zB Tryz.prog (cond w47_c.glob gl fun _=>none) zEd:=(zb (ze (zc (w46_ok.anyGl rfl) zg)) zi)
def zHC:AC:=.run
theorem zLs (x:z6 w47_c.inp.hs):E w47_v (za Tryz.f133) (zHC) (w47_c.entry x) (zD tb w47_v.fz w47_c [.tmp 4] x)=w47_c.F x:=by kernel_rfl
theorem w47_ok:ShOk Tryz.prog gl 133 w47_c :=
 zE (l:=zEd) (n:=Tryz.f133.ntmps) (code:=za Tryz.f133) (rts:=[.tmp 4]) zp zL (zIF) Tryz.func133 (by kernel_rfl) (by kernel_rfl) rfl (by kernel_rfl) (ac:=zHC) (ob:=[]) (by kernel_rfl) (fun X hX=>zh) (by kernel_rfl) (zLs)
def w48_c:ShC:={ inp:=⟨[.hole],[],[1],[.sl zx]⟩,out:=⟨[(.view 0)],[.seq false],[0],[.sl zx]⟩,nres:=1,ms:=[],mu:=[],leak:=true,glob:=false,F:=fun (x:(List zd))=>zdn x }
-- clause.once
def zEc:List (Nat×Con):=[(133,.gen (zU [w47_c]))]
def w48_v:Env:=zz tb gl zEc w48_c Tryz.f168.ntmps
theorem zCg:zB Tryz.prog (cond w48_c.glob gl fun _=>none) zEc:=(zb (ze (zc (w47_ok.anyGl rfl) zg)) zi)
def w48_u0_h:SS:=⟨[3,6,7,8],⟨[(.view 0),.hole,.hole,.hole],[.seq false],[1,2,2,0],[.sl zx,.int .i64,.int .i64,.sl zx]⟩⟩
def znt:Exs:=[((.exit 0),⟨[3],⟨[(.view 0)],[.seq false],[0],[.sl zx]⟩⟩)]
def zze:AC:=.run
def zwV:Un:=lpU w48_v.fz [9,10,11,5,12,13,14,15,16,17,18,19,3,20,8] w48_u0_h znt (lp qA zr)
theorem zy3 (f:w48_u0_h.X→Option (YT znt)) (x:w48_u0_h.X):E w48_v (zt (za Tryz.f168) [1,1,0,1,0,0]) (zze) (mkS w48_u0_h 8 x) (zA w48_v.fz w48_u0_h znt f)=qA f x:=by kernel_rfl
theorem zu9 {X:Fx} (hX:VOk Tryz.prog X w48_v):q8 Tryz.prog X w48_v (zt (za Tryz.f168) [1,1,0,1,0]) zwV :=
 zF (c:=(zt (za Tryz.f168) [1,1,0,1,0,0])) (by kernel_rfl) (zu zp (zCg)) zL (ob:=[]) (by kernel_rfl) (fun X hX=>zh) (zy3) (by kernel_rfl) (by kernel_rfl) hX
def zGF:AC:=(.seq .run (.seq .run (.seq (.seq .run (.block (.unit zwV))) .run)))
theorem zLi (x:z6 w48_c.inp.hs):E w48_v (za Tryz.f168) (zGF) (w48_c.entry x) (zD tb w48_v.fz w48_c [.tmp 2] x)=w48_c.F x:=by kernel_rfl
theorem w48_ok:ShOk Tryz.prog gl 168 w48_c :=
 zE (l:=zEc) (n:=Tryz.f168.ntmps) (code:=za Tryz.f168) (rts:=[.tmp 2]) zp zL (zCg) Tryz.func168 (by kernel_rfl) (by kernel_rfl) rfl (by kernel_rfl) (ac:=zGF) (ob:=[((zt (za Tryz.f168) [1,1,0,1,0]),zwV)]) (by kernel_rfl) (fun X hX=>(zq (zu9 hX) zh)) (by kernel_rfl) (zLi)
def w49_c:ShC:={ inp:=⟨[.hole,(.ptr 0 0)],[.cells true [.hole]],[1,1],[.sl (.one (.int .i64)),.sl (.one (.int .i64))]⟩,out:=⟨[.hole],[],[2],[.bool]⟩,nres:=1,ms:=[],mu:=[],leak:=false,glob:=false,F:=fun (x:((List Int)×(List Int)))=>zcq x.1 x.2 }
-- clause.anew$1
def zD6:List (Nat×Con):=[(102,.gen (zU [w43_c]))]
def w49_v:Env:=zz tb gl zD6 w49_c Tryz.f169.ntmps
theorem zG1:zB Tryz.prog (cond w49_c.glob gl fun _=>none) zD6:=(zb (ze (zc (w43_ok.anyGl rfl) zg)) zi)
def zIP:AC:=.run
theorem zLx (x:z6 w49_c.inp.hs):E w49_v (za Tryz.f169) (zIP) (w49_c.entry x) (zD tb w49_v.fz w49_c [.tmp 3] x)=w49_c.F x:=by kernel_rfl
theorem w49_ok:ShOk Tryz.prog gl 169 w49_c :=
 zE (l:=zD6) (n:=Tryz.f169.ntmps) (code:=za Tryz.f169) (rts:=[.tmp 3]) zp zL (zG1) Tryz.func169 (by kernel_rfl) (by kernel_rfl) rfl (by kernel_rfl) (ac:=zIP) (ob:=[]) (by kernel_rfl) (fun X hX=>zh) (by kernel_rfl) (zLx)
def w50_c:ShC:={ inp:=⟨[.hole,(.clo 169 [(.ptr 0 0)])],[.cells true [.hole]],[1,1],[.sl (.one (.sl (.one (.int .i64)))),.sl (.one (.int .i64))]⟩,out:=⟨[.hole],[],[2],[.int .i64]⟩,nres:=1,ms:=[],mu:=[],leak:=false,glob:=false,F:=fun (x:((List (List Int))×(List Int)))=>zbU x.1 x.2 }
-- slices.IndexFunc[[][]int,[]int]
def zDs:List (Nat×Con):=[(169,.gen (zU [w49_c]))]
def w50_v:Env:=zz tb gl zDs w50_c Tryz.f182.ntmps
theorem zCc:zB Tryz.prog (cond w50_c.glob gl fun _=>none) zDs:=(zb (ze (zc (w49_ok.anyGl rfl) zg)) zi)
def w50_u0_h:SS:=⟨[0,1,7,8],⟨[.hole,(.clo 169 [(.ptr 0 0)]),.hole,.hole],[.cells true [.hole]],[1,2,2,1],[.sl (.one (.sl (.one (.int .i64)))),.int .i64,.int .i64,.sl (.one (.int .i64))]⟩⟩
def zmo:Exs:=[((.exit 0),⟨[],⟨[],[],[],[]⟩⟩),(.ret,⟨[4],⟨[.hole],[],[2],[.int .i64]⟩⟩)]
def zyv:AC:=.run
def zvb:Un:=lpU w50_v.fz [9,10,5,11,12,13,14,15,16,17,4,18,8] w50_u0_h zmo (lp zW zr)
theorem zzV (f:w50_u0_h.X→Option (YT zmo)) (x:w50_u0_h.X):E w50_v (zt (za Tryz.f182) [1,0,1,0,0]) (zyv) (mkS w50_u0_h 8 x) (zA w50_v.fz w50_u0_h zmo f)=zW f x:=by kernel_rfl
theorem zvO {X:Fx} (hX:VOk Tryz.prog X w50_v):q8 Tryz.prog X w50_v (zt (za Tryz.f182) [1,0,1,0]) zvb :=
 zF (c:=(zt (za Tryz.f182) [1,0,1,0,0])) (by kernel_rfl) (zu zp (zCc)) zL (ob:=[]) (by kernel_rfl) (fun X hX=>zh) (zzV) (by kernel_rfl) (by kernel_rfl) hX
def zJb:AC:=(.seq .run (.seq (.seq .run (.block (.unit zvb))) .run))
theorem zJK (x:z6 w50_c.inp.hs):E w50_v (za Tryz.f182) (zJb) (w50_c.entry x) (zD tb w50_v.fz w50_c [.tmp 4] x)=w50_c.F x:=by kernel_rfl
theorem w50_ok:ShOk Tryz.prog gl 182 w50_c :=
 zE (l:=zDs) (n:=Tryz.f182.ntmps) (code:=za Tryz.f182) (rts:=[.tmp 4]) zp zL (zCc) Tryz.func182 (by kernel_rfl) (by kernel_rfl) rfl (by kernel_rfl) (ac:=zJb) (ob:=[((zt (za Tryz.f182) [1,0,1,0]),zvb)]) (by kernel_rfl) (fun X hX=>(zq (zvO hX) zh)) (by kernel_rfl) (zJK)
def w51_c:ShC:={ inp:=⟨[.hole,(.clo 169 [(.ptr 0 0)])],[.cells true [.hole]],[1,1],[.sl (.one (.sl (.one (.int .i64)))),.sl (.one (.int .i64))]⟩,out:=⟨[.hole],[],[2],[.bool]⟩,nres:=1,ms:=[],mu:=[],leak:=false,glob:=false,F:=fun (x:((List (List Int))×(List Int)))=>qN x.1 x.2 }
-- slices.ContainsFunc[[][]int,[]int]
def zDo:List (Nat×Con):=[(182,.gen (zU [w50_c]))]
def w51_v:Env:=zz tb gl zDo w51_c Tryz.f132.ntmps
theorem zHB:zB Tryz.prog (cond w51_c.glob gl fun _=>none) zDo:=(zb (ze (zc (w50_ok.anyGl rfl) zg)) zi)
def zH3:AC:=.run
theorem zKz (x:z6 w51_c.inp.hs):E w51_v (za Tryz.f132) (zH3) (w51_c.entry x) (zD tb w51_v.fz w51_c [.tmp 4] x)=w51_c.F x:=by kernel_rfl
theorem w51_ok:ShOk Tryz.prog gl 132 w51_c :=
 zE (l:=zDo) (n:=Tryz.f132.ntmps) (code:=za Tryz.f132) (rts:=[.tmp 4]) zp zL (zHB) Tryz.func132 (by kernel_rfl) (by kernel_rfl) rfl (by kernel_rfl) (ac:=zH3) (ob:=[]) (by kernel_rfl) (fun X hX=>zh) (by kernel_rfl) (zKz)
def w52_c:ShC:={ inp:=⟨[.hole,(.aptr 0),(.ptr 1 0)],[.seq false,.cells false [.hole]],[1,1,1],[.sl (.one (.int .i64)),.sl (.one (.int .i64)),.int .i64]⟩,out:=⟨[(.view 0),(.aptr 1),(.ptr 2 0)],[.seq false,.seq false,.cells false [.hole]],[2,0,2],[.sl (.one (.int .i64)),.sl (.one (.int .i64)),.int .i64]⟩,nres:=1,ms:=[1,2],mu:=[(0,1),(1,2)],leak:=true,glob:=false,F:=fun (x:((List Int)×(List Int)×Int))=>yW x.1 x.2.1 x.2.2 }
-- clause.anew$2
def zDk:List (Nat×Con):=[(55,.gen (zU [w9_c])),(115,.gen (zU [zyz]))]
def w52_v:Env:=zz tb gl zDk w52_c Tryz.f171.ntmps
theorem zBR:zB Tryz.prog (cond w52_c.glob gl fun _=>none) zDk:=(zb (ze (zc (w9_ok.anyGl rfl) zg)) (zb (ze (zc (w31_ok.anyGl rfl) zg)) zi))
def w52_u0_h:SS:=⟨[1,2,5,10,11,12],⟨[(.aptr 0),(.ptr 1 0),(.view 2),(.view 2),.hole,.hole],[.seq false,.cells false [.hole],.seq false],[2,2,0,2,2],[.int .i64,.int .i64,.sl (.one (.int .i64)),.int .i64,.sl (.one (.int .i64))]⟩⟩
def znx:Exs:=[((.exit 0),⟨[1,2,5],⟨[(.aptr 0),(.ptr 1 0),(.view 2)],[.seq false,.cells false [.hole],.seq false],[0,2,2],[.sl (.one (.int .i64)),.int .i64,.sl (.one (.int .i64))]⟩⟩)]
def zAO:AC:=.run
def ztf:Un:=lpU w52_v.fz [13,14,15,16,6,7,17,18,19,20,21,22,23,24,25,26,27,28,29,30,31,32,33,34,35,36,37,38,12] w52_u0_h znx (lp yy zr)
theorem zzn (f:w52_u0_h.X→Option (YT znx)) (x:w52_u0_h.X):E w52_v (zt (za Tryz.f171) [1,1,0,1,0,0]) (zAO) (mkS w52_u0_h 8 x) (zA w52_v.fz w52_u0_h znx f)=yy f x:=by kernel_rfl
theorem ztv {X:Fx} (hX:VOk Tryz.prog X w52_v):q8 Tryz.prog X w52_v (zt (za Tryz.f171) [1,1,0,1,0]) ztf :=
 zF (c:=(zt (za Tryz.f171) [1,1,0,1,0,0])) (by kernel_rfl) (zu zp (zBR)) zL (ob:=[]) (by kernel_rfl) (fun X hX=>zh) (zzn) (by kernel_rfl) (by kernel_rfl) hX
def zHG:AC:=(.seq .run (.seq .run (.seq (.seq .run (.block (.unit ztf))) .run)))
theorem zKF (x:z6 w52_c.inp.hs):E w52_v (za Tryz.f171) (zHG) (w52_c.entry x) (zD tb w52_v.fz w52_c [.tmp 4] x)=w52_c.F x:=by kernel_rfl
theorem w52_ok:ShOk Tryz.prog gl 171 w52_c :=
 zE (l:=zDk) (n:=Tryz.f171.ntmps) (code:=za Tryz.f171) (rts:=[.tmp 4]) zp zL (zBR) Tryz.func171 (by kernel_rfl) (by kernel_rfl) rfl (by kernel_rfl) (ac:=zHG) (ob:=[((zt (za Tryz.f171) [1,1,0,1,0]),ztf)]) (by kernel_rfl) (fun X hX=>(zq (ztv hX) zh)) (by kernel_rfl) (zKF)
def w53_c:ShC:={ inp:=⟨[(.agg [.hole,.hole,.hole]),(.clo 171 [(.aptr 0),(.ptr 1 0)])],[.seq false,.cells false [.hole]],[1,1,1,1,1],[.sl zx,.sl (.one (.sl (.one (.int .i64)))),.sl zx,.sl (.one (.int .i64)),.int .i64]⟩,out:=⟨[(.agg [.hole,.hole,(.view 0)]),(.clo 171 [(.aptr 1),(.ptr 2 0)])],[.seq false,.seq false,.cells false [.hole]],[2,2,2,0,2],[.sl zx,.sl (.one (.sl (.one (.int .i64)))),.sl zx,.sl (.one (.int .i64)),.int .i64]⟩,nres:=1,ms:=[1],mu:=[(0,1),(1,2)],leak:=true,glob:=false,F:=fun (x:((List zd)×(List (List Int))×(List zd)×(List Int)×Int))=>zeJ x.1 x.2.1 x.2.2.1 x.2.2.2.1 x.2.2.2.2 }
-- clause.each
def zEC:List (Nat×Con):=[(171,.gen (zU [w52_c]))]
def w53_v:Env:=zz tb gl zEC w53_c Tryz.f170.ntmps
theorem zqZ:zB Tryz.prog (cond w53_c.glob gl fun _=>none) zEC:=(zb (ze (zc (w52_ok.anyGl rfl) zg)) zi)
def w53_u2_h:SS:=⟨[1,4,5,49,50,51],⟨[(.clo 171 [(.aptr 0),(.ptr 1 0)]),(.ptr 2 0),(.ptr 3 0),.hole,.hole,.hole],[.seq false,.cells false [.hole],.cells true [.nilv,.nilv,.nilv],.cells false [.hole,.hole,(.view 4)],.seq false],[1,2,2,0,2,2,2,2],[.sl zx,.int .i64,.int .i64,.sl (.one (.int .i64)),.int .i64,.sl zx,.sl (.one (.sl (.one (.int .i64)))),.sl zx]⟩⟩
def zmZ:Exs:=[((.exit 4),⟨[1,5],⟨[(.clo 171 [(.aptr 0),(.ptr 1 0)]),(.ptr 2 0)],[.seq false,.cells false [.hole],.cells false [.hole,.hole,(.view 3)],.seq false],[0,2,2,2,2],[.sl (.one (.int .i64)),.int .i64,.sl zx,.sl (.one (.sl (.one (.int .i64)))),.sl zx]⟩⟩)]
def zyf:AC:=(.seq .run (.seq .run (.seq (.block (.seq .run (.hide [[8,9],[8,9],[8,9],[8,9],[],[],[],[],[],[],[],[],[]]))) .run)))
def ztS:Un:=lpU w53_v.fz [52,53,54,11,55,56,57,58,59,60,61,62,63,64,65,66,67,51] w53_u2_h zmZ (lp yM zr)
theorem zxU (f:w53_u2_h.X→Option (YT zmZ)) (x:w53_u2_h.X):E w53_v (zt (za Tryz.f170) [1,1,1,1,0,1,0,0]) (zyf) (mkS w53_u2_h 8 x) (zA w53_v.fz w53_u2_h zmZ f)=yM f x:=by kernel_rfl
theorem zs2 {X:Fx} (hX:VOk Tryz.prog X w53_v):q8 Tryz.prog X w53_v (zt (za Tryz.f170) [1,1,1,1,0,1,0]) ztS :=
 zF (c:=(zt (za Tryz.f170) [1,1,1,1,0,1,0,0])) (by kernel_rfl) (zu zp (zqZ)) zL (ob:=[]) (by kernel_rfl) (fun X hX=>zh) (zxU) (by kernel_rfl) (by kernel_rfl) hX
def w53_u1_h:SS:=⟨[1,2,4,5,33,34,35],⟨[(.clo 171 [(.aptr 0),(.ptr 1 0)]),(.ptr 2 0),(.ptr 3 0),(.ptr 4 0),.hole,.hole,.hole],[.seq false,.cells false [.hole],.cells true [.hole,.hole,.hole],.cells true [.nilv,.nilv,.nilv],.cells false [.hole,(.view 5),.nilv],.seq false],[1,2,2,0,2,1,1,1,2,2],[.sl (.one (.sl (.one (.int .i64)))),.int .i64,.int .i64,.sl (.one (.int .i64)),.int .i64,.sl zx,.sl (.one (.sl (.one (.int .i64)))),.sl zx,.sl zx,.sl (.one (.sl (.one (.int .i64))))]⟩⟩
def zms:Exs:=[((.exit 2),⟨[1,5],⟨[(.clo 171 [(.aptr 0),(.ptr 1 0)]),(.ptr 2 0)],[.seq false,.cells false [.hole],.cells false [.hole,(.view 3),.nilv],.seq false],[0,2,2,2],[.sl (.one (.int .i64)),.int .i64,.sl zx,.sl (.one (.sl (.one (.int .i64))))]⟩⟩)]
def zzB:AC:=(.seq .run (.seq .run (.seq (.block (.seq .run (.hide [[8,9],[8,9],[],[],[],[],[],[],[]]))) .run)))
def zvf:Un:=lpU w53_v.fz [36,37,38,9,39,40,41,42,43,44,45,46,47,35] w53_u1_h zms (lp yV zr)
theorem zzM (f:w53_u1_h.X→Option (YT zms)) (x:w53_u1_h.X):E w53_v (zt (za Tryz.f170) [1,1,1,0,1,0,0]) (zzB) (mkS w53_u1_h 8 x) (zA w53_v.fz w53_u1_h zms f)=yV f x:=by kernel_rfl
theorem zv6 {X:Fx} (hX:VOk Tryz.prog X w53_v):q8 Tryz.prog X w53_v (zt (za Tryz.f170) [1,1,1,0,1,0]) zvf :=
 zF (c:=(zt (za Tryz.f170) [1,1,1,0,1,0,0])) (by kernel_rfl) (zu zp (zqZ)) zL (ob:=[]) (by kernel_rfl) (fun X hX=>zh) (zzM) (by kernel_rfl) (by kernel_rfl) hX
def w53_u0_h:SS:=⟨[1,2,4,5,13,14,15],⟨[(.clo 171 [(.aptr 0),(.ptr 1 0)]),(.ptr 2 0),(.ptr 3 0),(.ptr 4 0),.hole,.hole,.hole],[.seq false,.cells false [.hole],.cells true [.hole,.hole,.hole],.cells true [.nilv,.nilv,.nilv],.cells false [(.view 5),.nilv,.nilv],.seq false],[1,2,2,0,2,1,1,1,2],[.sl zx,.int .i64,.int .i64,.sl (.one (.int .i64)),.int .i64,.sl zx,.sl (.one (.sl (.one (.int .i64)))),.sl zx,.sl zx]⟩⟩
def znf:Exs:=[((.exit 0),⟨[1,5],⟨[(.clo 171 [(.aptr 0),(.ptr 1 0)]),(.ptr 2 0)],[.seq false,.cells false [.hole],.cells false [(.view 3),.nilv,.nilv],.seq false],[0,2,2],[.sl (.one (.int .i64)),.int .i64,.sl zx]⟩⟩)]
def zxY:AC:=(.seq .run (.seq .run (.seq (.block (.seq .run (.hide [[8,9],[8,9],[8,9],[8,9],[],[],[],[],[],[],[],[],[]]))) .run)))
def ztd:Un:=lpU w53_v.fz [16,17,18,7,19,20,21,22,23,24,25,26,27,28,29,30,31,15] w53_u0_h znf (lp yR zr)
theorem zzF (f:w53_u0_h.X→Option (YT znf)) (x:w53_u0_h.X):E w53_v (zt (za Tryz.f170) [1,1,0,1,0,0]) (zxY) (mkS w53_u0_h 8 x) (zA w53_v.fz w53_u0_h znf f)=yR f x:=by kernel_rfl
theorem ztK {X:Fx} (hX:VOk Tryz.prog X w53_v):q8 Tryz.prog X w53_v (zt (za Tryz.f170) [1,1,0,1,0]) ztd :=
 zF (c:=(zt (za Tryz.f170) [1,1,0,1,0,0])) (by kernel_rfl) (zu zp (zqZ)) zL (ob:=[]) (by kernel_rfl) (fun X hX=>zh) (zzF) (by kernel_rfl) (by kernel_rfl) hX
def zI8:AC:=(.seq .run (.seq .run (.seq (.seq .run (.block (.unit ztd))) (.seq (.seq .run (.block (.unit zvf))) (.seq (.seq .run (.block (.unit ztS))) .run)))))
theorem zLt (x:z6 w53_c.inp.hs):E w53_v (za Tryz.f170) (zI8) (w53_c.entry x) (zD tb w53_v.fz w53_c [.cell 4 29] x)=w53_c.F x:=by kernel_rfl
theorem w53_ok:ShOk Tryz.prog gl 170 w53_c :=
 zE (l:=zEC) (n:=Tryz.f170.ntmps) (code:=za Tryz.f170) (rts:=[.cell 4 29]) zp zL (zqZ) Tryz.func170 (by kernel_rfl) (by kernel_rfl) rfl (by kernel_rfl) (ac:=zI8) (ob:=[((zt (za Tryz.f170) [1,1,0,1,0]),ztd),((zt (za Tryz.f170) [1,1,1,0,1,0]),zvf),((zt (za Tryz.f170) [1,1,1,1,0,1,0]),ztS)]) (by kernel_rfl) (fun X hX=>(zq (ztK hX) (zq (zv6 hX) (zq (zs2 hX) zh)))) (by kernel_rfl) (zLt)
def w54_c:ShC:={ inp:=⟨[(.agg [.hole,.hole,.hole])],[],[1,1,1],[.sl zx,.sl (.one (.sl (.one (.int .i64)))),.sl zx]⟩,out:=⟨[(.agg [.hole,.hole,(.view 0)])],[.seq false],[2,2,2],[.sl zx,.sl (.one (.sl (.one (.int .i64)))),.sl zx]⟩,nres:=1,ms:=[],mu:=[],leak:=false,glob:=false,F:=fun (x:((List zd)×(List (List Int))×(List zd)))=>zen x.1 x.2.1 x.2.2 }
-- clause.anew
def zEy:List (Nat×Con):=[(132,.gen (zU [w51_c])),(168,.gen (zU [w48_c])),(170,.gen (zU [w53_c]))]
def w54_v:Env:=zz tb gl zEy w54_c Tryz.f116.ntmps
theorem zCa:zB Tryz.prog (cond w54_c.glob gl fun _=>none) zEy:=(zb (ze (zc (w51_ok.anyGl rfl) zg)) (zb (ze (zc (w48_ok.anyGl rfl) zg)) (zb (ze (zc (w53_ok.anyGl rfl) zg)) zi)))
def w54_u0_h:SS:=⟨[2,3,16,17,18],⟨[(.ptr 0 0),(.ptr 1 0),.hole,.hole,.hole],[.cells true [.nilv,.nilv,.nilv],.cells false [.hole,(.view 2),.hole],.seq false],[1,2,2,0,0,0],[.sl (.one (.sl (.one (.int .i64)))),.int .i64,.int .i64,.sl zx,.sl zx,.sl (.one (.sl (.one (.int .i64))))]⟩⟩
def zm8:Exs:=[((.exit 0),⟨[3],⟨[(.ptr 0 0)],[.cells false [.hole,(.view 1),.hole],.seq false],[0,0,0],[.sl zx,.sl zx,.sl (.one (.sl (.one (.int .i64))))]⟩⟩)]
def zAA:AC:=.run
def zw0:Un:=lpU w54_v.fz [19,20,21,5,22,23,24,25,26,27,28,29,30,31,32,33,18] w54_u0_h zm8 (lp qD zr)
theorem zyZ (f:w54_u0_h.X→Option (YT zm8)) (x:w54_u0_h.X):E w54_v (zt (za Tryz.f116) [1,1,0,1,0,0]) (zAA) (mkS w54_u0_h 8 x) (zA w54_v.fz w54_u0_h zm8 f)=qD f x:=by kernel_rfl
theorem zuc {X:Fx} (hX:VOk Tryz.prog X w54_v):q8 Tryz.prog X w54_v (zt (za Tryz.f116) [1,1,0,1,0]) zw0 :=
 zF (c:=(zt (za Tryz.f116) [1,1,0,1,0,0])) (by kernel_rfl) (zu zp (zCa)) zL (ob:=[]) (by kernel_rfl) (fun X hX=>zh) (zyZ) (by kernel_rfl) (by kernel_rfl) hX
def zHS:AC:=(.seq .run (.seq .run (.seq (.seq .run (.block (.unit zw0))) .run)))
theorem zKl (x:z6 w54_c.inp.hs):E w54_v (za Tryz.f116) (zHS) (w54_c.entry x) (zD tb w54_v.fz w54_c [.cell 2 29] x)=w54_c.F x:=by kernel_rfl
theorem w54_ok:ShOk Tryz.prog gl 116 w54_c :=
 zE (l:=zEy) (n:=Tryz.f116.ntmps) (code:=za Tryz.f116) (rts:=[.cell 2 29]) zp zL (zCa) Tryz.func116 (by kernel_rfl) (by kernel_rfl) rfl (by kernel_rfl) (ac:=zHS) (ob:=[((zt (za Tryz.f116) [1,1,0,1,0]),zw0)]) (by kernel_rfl) (fun X hX=>(zq (zuc hX) zh)) (by kernel_rfl) (zKl)
def w55_c:ShC:={ inp:=⟨[.hole,(.agg [.hole,.hole,.hole])],[],[1,1,1,1],[.sl qr,.sl zx,.sl (.one (.sl (.one (.int .i64)))),.sl zx]⟩,out:=⟨[(.agg [.hole,.hole,(.view 0)]),.hole],[.seq false],[2,2,2,2],[.sl zx,.sl (.one (.sl (.one (.int .i64)))),.int .i64,.sl zx]⟩,nres:=2,ms:=[],mu:=[],leak:=false,glob:=true,F:=fun (x:((List zm)×(List zd)×(List (List Int))×(List zd)))=>zb5 x.1 x.2.1 x.2.2.1 x.2.2.2 }
-- clause.Normal
def zEP:List (Nat×Con):=[(42,.gen (zU [w18_c])),(116,.gen (zU [w54_c]))]
def w55_v:Env:=zz tb gl zEP w55_c Tryz.f56.ntmps
theorem zFX:zB Tryz.prog (cond w55_c.glob gl fun _=>none) zEP:=(zb (ze (zc zoD zg)) (zb (ze (zc (w54_ok.anyGl rfl) zg)) zi))
def zHs:AC:=.run
theorem zKu (x:z6 w55_c.inp.hs):E w55_v (za Tryz.f56) (zHs) (w55_c.entry x) (zD tb w55_v.fz w55_c [.cell 4 29,.tmp 5] x)=w55_c.F x:=by kernel_rfl
theorem zCx:ShOk Tryz.prog gl 56 w55_c :=
 zE (l:=zEP) (n:=Tryz.f56.ntmps) (code:=za Tryz.f56) (rts:=[.cell 4 29,.tmp 5]) zp zL (zFX) Tryz.func56 (by kernel_rfl) (by kernel_rfl) rfl (by kernel_rfl) (ac:=zHs) (ob:=[]) (by kernel_rfl) (fun X hX=>zh) (by kernel_rfl) (zKu)
def w56_c:ShC:={ inp:=⟨[.hole,(.agg [.hole,.hole,.hole]),.hole,.hole],[],[1,1,1,1,1,1],[.sl qr,.sl zx,.sl (.one (.sl (.one (.int .i64)))),.sl zx,.int .i64,.int .i64]⟩,out:=⟨[(.agg [.hole,.hole,(.view 0)]),.hole,.hole],[.seq false],[2,2,2,2,2],[.sl zx,.sl (.one (.sl (.one (.int .i64)))),.bool,.int .i64,.sl zx]⟩,nres:=3,ms:=[],mu:=[],leak:=false,glob:=true,F:=fun (x:((List zm)×(List zd)×(List (List Int))×(List zd)×Int×Int))=>zbL x.1 x.2.1 x.2.2.1 x.2.2.2.1 x.2.2.2.2.1 x.2.2.2.2.2 }
-- factor.one
def zCP:List (Nat×Con):=[(56,.gen (zU [w55_c])),(75,.gen (zU [w37_c])),(135,.gen (zU [w32_c])),(136,.gen (zU [w42_c]))]
def w56_v:Env:=zz tb gl zCP w56_c Tryz.f70.ntmps
theorem zGP:zB Tryz.prog (cond w56_c.glob gl fun _=>none) zCP:=(zb (ze (zc zCx zg)) (zb (ze (zc (w37_ok.anyGl rfl) zg)) (zb (ze (zc zIU zg)) (zb (ze (zc (w42_ok.anyGl rfl) zg)) zi))))
def zGE:AC:=.run
theorem zKP (x:z6 w56_c.inp.hs):E w56_v (za Tryz.f70) (zGE) (w56_c.entry x) (zD tb w56_v.fz w56_c [.cell 8 29,.tmp 9,.tmp 10] x)=w56_c.F x:=by kernel_rfl
theorem zCE:ShOk Tryz.prog gl 70 w56_c :=
 zE (l:=zCP) (n:=Tryz.f70.ntmps) (code:=za Tryz.f70) (rts:=[.cell 8 29,.tmp 9,.tmp 10]) zp zL (zGP) Tryz.func70 (by kernel_rfl) (by kernel_rfl) rfl (by kernel_rfl) (ac:=zGE) (ob:=[]) (by kernel_rfl) (fun X hX=>zh) (by kernel_rfl) (zKP)
def w57_c:ShC:={ inp:=⟨[.hole,(.agg [.hole,.hole,.hole]),.hole,.hole],[],[1,1,1,1,1,1],[.sl qr,.sl zx,.sl (.one (.sl (.one (.int .i64)))),.sl zx,.int .i64,.int .i64]⟩,out:=⟨[(.agg [.hole,.hole,(.view 0)]),.hole,.hole],[.seq false],[2,2,2,2,2],[.sl zx,.sl (.one (.sl (.one (.int .i64)))),.bool,.int .i64,.sl zx]⟩,nres:=3,ms:=[],mu:=[],leak:=false,glob:=true,F:=fun (x:((List zm)×(List zd)×(List (List Int))×(List zd)×Int×Int))=>zbP x.1 x.2.1 x.2.2.1 x.2.2.2.1 x.2.2.2.2.1 x.2.2.2.2.2 }
-- factor.One
def zD9:List (Nat×Con):=[(42,.gen (zU [w18_c])),(69,.gen (zU [w19_c])),(70,.gen (zU [w56_c]))]
def w57_v:Env:=zz tb gl zD9 w57_c Tryz.f24.ntmps
theorem zGK:zB Tryz.prog (cond w57_c.glob gl fun _=>none) zD9:=(zb (ze (zc zoD zg)) (zb (ze (zc (w19_ok.anyGl rfl) zg)) (zb (ze (zc zCE zg)) zi)))
def zG8:AC:=.run
theorem zJI (x:z6 w57_c.inp.hs):E w57_v (za Tryz.f24) (zG8) (w57_c.entry x) (zD tb w57_v.fz w57_c [.cell 8 29,.tmp 9,.tmp 10] x)=w57_c.F x:=by kernel_rfl
theorem zBi:ShOk Tryz.prog gl 24 w57_c :=
 zE (l:=zD9) (n:=Tryz.f24.ntmps) (code:=za Tryz.f24) (rts:=[.cell 8 29,.tmp 9,.tmp 10]) zp zL (zGK) Tryz.func24 (by kernel_rfl) (by kernel_rfl) rfl (by kernel_rfl) (ac:=zG8) (ob:=[]) (by kernel_rfl) (fun X hX=>zh) (by kernel_rfl) (zJI)
def w58_c:ShC:={ inp:=⟨[.hole],[],[1],[.int .u8]⟩,out:=⟨[.hole],[],[2],[.bool]⟩,nres:=1,ms:=[],mu:=[],leak:=false,glob:=false,F:=fun (x:Int)=>zeg x }
-- quaereref1.small
def zDZ:List (Nat×Con):=[]
def w58_v:Env:=zz tb gl zDZ w58_c Tryz.f172.ntmps
theorem zIM:zB Tryz.prog (cond w58_c.glob gl fun _=>none) zDZ:=zi
def zIT:AC:=.run
theorem zKT (x:z6 w58_c.inp.hs):E w58_v (za Tryz.f172) (zIT) (w58_c.entry x) (zD tb w58_v.fz w58_c [.tmp 2] x)=w58_c.F x:=by kernel_rfl
theorem w58_ok:ShOk Tryz.prog gl 172 w58_c :=
 zE (l:=zDZ) (n:=Tryz.f172.ntmps) (code:=za Tryz.f172) (rts:=[.tmp 2]) zp zL (zIM) Tryz.func172 (by kernel_rfl) (by kernel_rfl) rfl (by kernel_rfl) (ac:=zIT) (ob:=[]) (by kernel_rfl) (fun X hX=>zh) (by kernel_rfl) (zKT)
def w59_c:ShC:={ inp:=⟨[(.agg [.hole,.hole,.hole,.hole])],[],[1,1,1,1],[.str,.int .i64,.int .i64,.int .i64]⟩,out:=⟨[.hole],[],[2],[.bool]⟩,nres:=1,ms:=[],mu:=[],leak:=false,glob:=false,F:=fun (x:zm)=>zdq x.1 x.2.1 x.2.2.1 x.2.2.2 }
-- quaereref1.SymMay
def zDm:List (Nat×Con):=[(172,.gen (zU [w58_c]))]
def w59_v:Env:=zz tb gl zDm w59_c Tryz.f117.ntmps
theorem zCh:zB Tryz.prog (cond w59_c.glob gl fun _=>none) zDm:=(zb (ze (zc (w58_ok.anyGl rfl) zg)) zi)
def w59_u0_h:SS:=⟨[1,3],⟨[(.ptr 0 0),.hole],[.cells true [.hole,.hole,.hole,.hole]],[2,2,2,2,2],[.int .i64,.str,.int .i64,.int .i64,.int .i64]⟩⟩
def zn3:Exs:=[((.exit 0),⟨[],⟨[],[],[],[]⟩⟩),(.ret,⟨[2],⟨[.hole],[],[2],[.bool]⟩⟩)]
def zAV:AC:=.run
def zv4:Un:=lpU w59_v.fz [21,22,23,24,25,28,29,30,31,32,33,34,35,36,37,38,39,40,41,42,43,44,45,46,47,2,26,27,3] w59_u0_h zn3 (lp qz zr)
theorem zAR (f:w59_u0_h.X→Option (YT zn3)) (x:w59_u0_h.X):E w59_v (zt (za Tryz.f117) [1,1,0,1,0,0]) (zAV) (mkS w59_u0_h 8 x) (zA w59_v.fz w59_u0_h zn3 f)=qz f x:=by kernel_rfl
theorem zup {X:Fx} (hX:VOk Tryz.prog X w59_v):q8 Tryz.prog X w59_v (zt (za Tryz.f117) [1,1,0,1,0]) zv4 :=
 zF (c:=(zt (za Tryz.f117) [1,1,0,1,0,0])) (by kernel_rfl) (zu zp (zCh)) zL (ob:=[]) (by kernel_rfl) (fun X hX=>zh) (zAR) (by kernel_rfl) (by kernel_rfl) hX
def zGk:AC:=(.seq .run (.seq .run (.seq (.seq .run (.block (.unit zv4))) .run)))
theorem zJN (x:z6 w59_c.inp.hs):E w59_v (za Tryz.f117) (zGk) (w59_c.entry x) (zD tb w59_v.fz w59_c [.tmp 2] x)=w59_c.F x:=by kernel_rfl
theorem w59_ok:ShOk Tryz.prog gl 117 w59_c :=
 zE (l:=zDm) (n:=Tryz.f117.ntmps) (code:=za Tryz.f117) (rts:=[.tmp 2]) zp zL (zCh) Tryz.func117 (by kernel_rfl) (by kernel_rfl) rfl (by kernel_rfl) (ac:=zGk) (ob:=[((zt (za Tryz.f117) [1,1,0,1,0]),zv4)]) (by kernel_rfl) (fun X hX=>(zq (zup hX) zh)) (by kernel_rfl) (zJN)
def w60_c:ShC:={ inp:=⟨[.hole,.hole],[],[1,1],[.sl qr,.str]⟩,out:=⟨[.hole],[],[2],[.int .i64]⟩,nres:=1,ms:=[],mu:=[],leak:=false,glob:=false,F:=fun (x:((List zm)×Str))=>zgk x.1 x.2 }
-- quaereref1.Code
def zCG:List (Nat×Con):=[]
def w60_v:Env:=zz tb gl zCG w60_c Tryz.f118.ntmps
theorem zCA:zB Tryz.prog (cond w60_c.glob gl fun _=>none) zCG:=zi
def w60_u0_h:SS:=⟨[0,1,5],⟨[.hole,.hole,.hole],[],[1,2,2],[.sl qr,.str,.int .i64]⟩⟩
def znw:Exs:=[((.exit 0),⟨[],⟨[],[],[],[]⟩⟩),(.ret,⟨[4],⟨[.hole],[],[2],[.int .i64]⟩⟩)]
def zzL:AC:=.run
def zte:Un:=lpU w60_v.fz [6,7,8,9,12,13,14,15,16,17,18,19,4,10,11,5] w60_u0_h znw (lp zay zr)
theorem zyP (f:w60_u0_h.X→Option (YT znw)) (x:w60_u0_h.X):E w60_v (zt (za Tryz.f118) [1,0,1,0,0]) (zzL) (mkS w60_u0_h 8 x) (zA w60_v.fz w60_u0_h znw f)=zay f x:=by kernel_rfl
theorem zv3 {X:Fx} (hX:VOk Tryz.prog X w60_v):q8 Tryz.prog X w60_v (zt (za Tryz.f118) [1,0,1,0]) zte :=
 zF (c:=(zt (za Tryz.f118) [1,0,1,0,0])) (by kernel_rfl) (zu zp (zCA)) zL (ob:=[]) (by kernel_rfl) (fun X hX=>zh) (zyP) (by kernel_rfl) (by kernel_rfl) hX
def zHQ:AC:=(.seq .run (.seq (.seq .run (.block (.unit zte))) .run))
theorem zLv (x:z6 w60_c.inp.hs):E w60_v (za Tryz.f118) (zHQ) (w60_c.entry x) (zD tb w60_v.fz w60_c [.tmp 4] x)=w60_c.F x:=by kernel_rfl
theorem w60_ok:ShOk Tryz.prog gl 118 w60_c :=
 zE (l:=zCG) (n:=Tryz.f118.ntmps) (code:=za Tryz.f118) (rts:=[.tmp 4]) zp zL (zCA) Tryz.func118 (by kernel_rfl) (by kernel_rfl) rfl (by kernel_rfl) (ac:=zHQ) (ob:=[((zt (za Tryz.f118) [1,0,1,0]),zte)]) (by kernel_rfl) (fun X hX=>(zq (zv3 hX) zh)) (by kernel_rfl) (zLv)
def w61_c:ShC:={ inp:=⟨[.hole],[],[1],[.sl qr]⟩,out:=⟨[.hole],[],[2],[.bool]⟩,nres:=1,ms:=[],mu:=[],leak:=false,glob:=false,F:=fun (x:(List zm))=>zcr x }
-- quaereref1.SignMay
def zEU:List (Nat×Con):=[(117,.gen (zU [w59_c])),(118,.gen (zU [w60_c]))]
def w61_v:Env:=zz tb gl zEU w61_c Tryz.f57.ntmps
theorem zBY:zB Tryz.prog (cond w61_c.glob gl fun _=>none) zEU:=(zb (ze (zc (w59_ok.anyGl rfl) zg)) (zb (ze (zc (w60_ok.anyGl rfl) zg)) zi))
def w61_u0_h:SS:=⟨[0,3],⟨[.hole,.hole],[],[1,2],[.sl qr,.int .i64]⟩⟩
def znz:Exs:=[((.exit 0),⟨[],⟨[],[],[],[]⟩⟩),(.ret,⟨[2],⟨[.hole],[],[2],[.bool]⟩⟩)]
def zA0:AC:=.run
def ztt:Un:=lpU w61_v.fz [19,20,21,22,25,26,27,28,29,30,31,32,33,34,35,36,37,38,39,40,41,2,23,24,3] w61_u0_h znz (lp qP zr)
theorem zA2 (f:w61_u0_h.X→Option (YT znz)) (x:w61_u0_h.X):E w61_v (zt (za Tryz.f57) [1,1,0,1,0,0]) (zA0) (mkS w61_u0_h 8 x) (zA w61_v.fz w61_u0_h znz f)=qP f x:=by kernel_rfl
theorem zvk {X:Fx} (hX:VOk Tryz.prog X w61_v):q8 Tryz.prog X w61_v (zt (za Tryz.f57) [1,1,0,1,0]) ztt :=
 zF (c:=(zt (za Tryz.f57) [1,1,0,1,0,0])) (by kernel_rfl) (zu zp (zBY)) zL (ob:=[]) (by kernel_rfl) (fun X hX=>zh) (zA2) (by kernel_rfl) (by kernel_rfl) hX
def zIn:AC:=(.seq .run (.seq .run (.seq (.seq .run (.block (.unit ztt))) .run)))
theorem zKO (x:z6 w61_c.inp.hs):E w61_v (za Tryz.f57) (zIn) (w61_c.entry x) (zD tb w61_v.fz w61_c [.tmp 2] x)=w61_c.F x:=by kernel_rfl
theorem w61_ok:ShOk Tryz.prog gl 57 w61_c :=
 zE (l:=zEU) (n:=Tryz.f57.ntmps) (code:=za Tryz.f57) (rts:=[.tmp 2]) zp zL (zBY) Tryz.func57 (by kernel_rfl) (by kernel_rfl) rfl (by kernel_rfl) (ac:=zIn) (ob:=[((zt (za Tryz.f57) [1,1,0,1,0]),ztt)]) (by kernel_rfl) (fun X hX=>(zq (zvk hX) zh)) (by kernel_rfl) (zKO)
def w62_c:ShC:={ inp:=⟨[.hole,.hole,.hole],[],[1,1,1],[.sl qr,.sl (.one (.int .i64)),.int .i64]⟩,out:=⟨[.hole],[],[2],[.int .i64]⟩,nres:=1,ms:=[],mu:=[],leak:=false,glob:=false,F:=fun (x:((List zm)×(List Int)×Int))=>zjV x.1 x.2.1 x.2.2 }
-- quaereref1.End
def zC4:List (Nat×Con):=[]
def w62_v:Env:=zz tb gl zC4 w62_c Tryz.f93.ntmps
theorem zCl:zB Tryz.prog (cond w62_c.glob gl fun _=>none) zC4:=zi
def w62_u0_h:SS:=⟨[0,1,7,8],⟨[.hole,.hole,.hole,.hole],[],[1,1,2,2],[.sl qr,.sl (.one (.int .i64)),.int .i64,.int .i64]⟩⟩
def znX:Exs:=[((.exit 0),⟨[8],⟨[.hole],[],[2],[.int .i64]⟩⟩),(.ret,⟨[6],⟨[.hole],[],[2],[.int .i64]⟩⟩)]
def zy7:AC:=.run
def zxa:Un:=lpU w62_v.fz [10,11,12,13,14,15,16,17,18,19,20,21,22,23,24,25,26,27,28,29,30,31,6,32,33,7,34,35,36,37,38,39,40,41,42,43,44,45,46,47,6,48,49,50,51,52,53,54,55,56,57,7,58,59,8] w62_u0_h znX (lp zbi zr)
theorem zz2 (f:w62_u0_h.X→Option (YT znX)) (x:w62_u0_h.X):E w62_v (zt (za Tryz.f93) [1,1,0,0,0]) (zy7) (mkS w62_u0_h 8 x) (zA w62_v.fz w62_u0_h znX f)=zbi f x:=by kernel_rfl
theorem zxk {X:Fx} (hX:VOk Tryz.prog X w62_v):q8 Tryz.prog X w62_v (zt (za Tryz.f93) [1,1,0,0]) zxa :=
 zF (c:=(zt (za Tryz.f93) [1,1,0,0,0])) (by kernel_rfl) (zu zp (zCl)) zL (ob:=[]) (by kernel_rfl) (fun X hX=>zh) (zz2) (by kernel_rfl) (by kernel_rfl) hX
def zIs:AC:=(.seq .run (.seq .run (.seq (.block (.unit zxa)) .run)))
theorem zJt (x:z6 w62_c.inp.hs):E w62_v (za Tryz.f93) (zIs) (w62_c.entry x) (zD tb w62_v.fz w62_c [.tmp 6] x)=w62_c.F x:=by kernel_rfl
theorem w62_ok:ShOk Tryz.prog gl 93 w62_c :=
 zE (l:=zC4) (n:=Tryz.f93.ntmps) (code:=za Tryz.f93) (rts:=[.tmp 6]) zp zL (zCl) Tryz.func93 (by kernel_rfl) (by kernel_rfl) rfl (by kernel_rfl) (ac:=zIs) (ob:=[((zt (za Tryz.f93) [1,1,0,0]),zxa)]) (by kernel_rfl) (fun X hX=>(zq (zxk hX) zh)) (by kernel_rfl) (zJt)
def w63_c:ShC:={ inp:=⟨[.hole,.hole],[],[1,1],[.sl qr,.sl (.one (.int .i64))]⟩,out:=⟨[.hole],[],[2],[.int .i64]⟩,nres:=1,ms:=[],mu:=[],leak:=false,glob:=false,F:=fun (x:((List zm)×(List Int)))=>zbR x.1 x.2 }
-- quaereref1.Terms
def zDO:List (Nat×Con):=[(93,.gen (zU [w62_c]))]
def w63_v:Env:=zz tb gl zDO w63_c Tryz.f120.ntmps
theorem zBM:zB Tryz.prog (cond w63_c.glob gl fun _=>none) zDO:=(zb (ze (zc (w62_ok.anyGl rfl) zg)) zi)
def w63_u0_h:SS:=⟨[0,1,5,6],⟨[.hole,.hole,.hole,.hole],[],[1,1,2,2],[.sl qr,.sl (.one (.int .i64)),.int .i64,.int .i64]⟩⟩
def znm:Exs:=[((.exit 0),⟨[5],⟨[.hole],[],[2],[.int .i64]⟩⟩),(.ret,⟨[4],⟨[.hole],[],[2],[.int .i64]⟩⟩)]
def zyS:AC:=.run
def ztG:Un:=lpU w63_v.fz [10,11,12,13,14,15,16,17,6,18,19,4,20,21,5] w63_u0_h znm (lp zbn zr)
theorem zyn (f:w63_u0_h.X→Option (YT znm)) (x:w63_u0_h.X):E w63_v (zt (za Tryz.f120) [1,1,1,0,0,0]) (zyS) (mkS w63_u0_h 8 x) (zA w63_v.fz w63_u0_h znm f)=zbn f x:=by kernel_rfl
theorem zu4 {X:Fx} (hX:VOk Tryz.prog X w63_v):q8 Tryz.prog X w63_v (zt (za Tryz.f120) [1,1,1,0,0]) ztG :=
 zF (c:=(zt (za Tryz.f120) [1,1,1,0,0,0])) (by kernel_rfl) (zu zp (zBM)) zL (ob:=[]) (by kernel_rfl) (fun X hX=>zh) (zyn) (by kernel_rfl) (by kernel_rfl) hX
def zJc:AC:=(.seq .run (.seq .run (.seq .run (.seq (.block (.unit ztG)) .run))))
theorem zKw (x:z6 w63_c.inp.hs):E w63_v (za Tryz.f120) (zJc) (w63_c.entry x) (zD tb w63_v.fz w63_c [.tmp 4] x)=w63_c.F x:=by kernel_rfl
theorem w63_ok:ShOk Tryz.prog gl 120 w63_c :=
 zE (l:=zDO) (n:=Tryz.f120.ntmps) (code:=za Tryz.f120) (rts:=[.tmp 4]) zp zL (zBM) Tryz.func120 (by kernel_rfl) (by kernel_rfl) rfl (by kernel_rfl) (ac:=zJc) (ob:=[((zt (za Tryz.f120) [1,1,1,0,0]),ztG)]) (by kernel_rfl) (fun X hX=>(zq (zu4 hX) zh)) (by kernel_rfl) (zKw)
def w64_c:ShC:={ inp:=⟨[.hole,.hole],[],[1,1],[.sl qr,.sl (.one (.int .i64))]⟩,out:=⟨[.hole],[],[2],[.bool]⟩,nres:=1,ms:=[],mu:=[],leak:=false,glob:=false,F:=fun (x:((List zm)×(List Int)))=>zeP x.1 x.2 }
-- quaereref1.IsAtom
def zDu:List (Nat×Con):=[(120,.gen (zU [w63_c]))]
def w64_v:Env:=zz tb gl zDu w64_c Tryz.f173.ntmps
theorem zGh:zB Tryz.prog (cond w64_c.glob gl fun _=>none) zDu:=(zb (ze (zc (w63_ok.anyGl rfl) zg)) zi)
def zGX:AC:=.run
theorem zJ6 (x:z6 w64_c.inp.hs):E w64_v (za Tryz.f173) (zGX) (w64_c.entry x) (zD tb w64_v.fz w64_c [.tmp 4] x)=w64_c.F x:=by kernel_rfl
theorem w64_ok:ShOk Tryz.prog gl 173 w64_c :=
 zE (l:=zDu) (n:=Tryz.f173.ntmps) (code:=za Tryz.f173) (rts:=[.tmp 4]) zp zL (zGh) Tryz.func173 (by kernel_rfl) (by kernel_rfl) rfl (by kernel_rfl) (ac:=zGX) (ob:=[]) (by kernel_rfl) (fun X hX=>zh) (by kernel_rfl) (zJ6)
def w65_c:ShC:={ inp:=⟨[.hole,(.agg [.hole,.hole])],[],[1,1,1],[.sl qr,.bool,.sl (.one (.int .i64))]⟩,out:=⟨[.hole],[],[2],[.bool]⟩,nres:=1,ms:=[],mu:=[],leak:=false,glob:=false,F:=fun (x:((List zm)×Bool×(List Int)))=>zbG x.1 x.2.1 x.2.2 }
-- quaereref8.LitMay
def zDU:List (Nat×Con):=[(57,.gen (zU [w61_c])),(173,.gen (zU [w64_c]))]
def w65_v:Env:=zz tb gl zDU w65_c Tryz.f119.ntmps
theorem zFU:zB Tryz.prog (cond w65_c.glob gl fun _=>none) zDU:=(zb (ze (zc (w61_ok.anyGl rfl) zg)) (zb (ze (zc (w64_ok.anyGl rfl) zg)) zi))
def zF3:AC:=.run
theorem zKN (x:z6 w65_c.inp.hs):E w65_v (za Tryz.f119) (zF3) (w65_c.entry x) (zD tb w65_v.fz w65_c [.tmp 4] x)=w65_c.F x:=by kernel_rfl
theorem w65_ok:ShOk Tryz.prog gl 119 w65_c :=
 zE (l:=zDU) (n:=Tryz.f119.ntmps) (code:=za Tryz.f119) (rts:=[.tmp 4]) zp zL (zFU) Tryz.func119 (by kernel_rfl) (by kernel_rfl) rfl (by kernel_rfl) (ac:=zF3) (ob:=[]) (by kernel_rfl) (fun X hX=>zh) (by kernel_rfl) (zKN)
def w66_c:ShC:={ inp:=⟨[(.agg [.hole,.hole,.hole])],[],[1,1,1],[.sl zx,.sl (.one (.sl (.one (.int .i64)))),.sl zx]⟩,out:=⟨[(.view 0)],[.seq false],[0],[.sl (.one (.sl (.one (.int .i64))))]⟩,nres:=1,ms:=[],mu:=[],leak:=true,glob:=false,F:=fun (x:((List zd)×(List (List Int))×(List zd)))=>zf8 x.1 x.2.1 x.2.2 }
-- quaereref8.rows
def zEv:List (Nat×Con):=[]
def w66_v:Env:=zz tb gl zEv w66_c Tryz.f121.ntmps
theorem zrp:zB Tryz.prog (cond w66_c.glob gl fun _=>none) zEv:=zi
def w66_u2_h:SS:=⟨[1,3,6],⟨[(.ptr 0 0),(.view 1),.hole],[.cells true [.hole,.hole,.hole],.seq false],[2,1,1,1,0],[.int .i64,.sl zx,.sl (.one (.sl (.one (.int .i64)))),.sl zx,.sl (.one (.sl (.one (.int .i64))))]⟩⟩
def zmT:Exs:=[((.exit 4),⟨[3],⟨[(.view 0)],[.seq false],[0],[.sl (.one (.sl (.one (.int .i64))))]⟩⟩)]
def zAz:AC:=.run
def zuP:Un:=lpU w66_v.fz [38,39,40,41,42,45,46,47,48,49,50,51,52,53,3,43,44,6] w66_u2_h zmT (lp zan zr)
theorem zyy (f:w66_u2_h.X→Option (YT zmT)) (x:w66_u2_h.X):E w66_v (zt (za Tryz.f121) [1,1,1,1,0,1,0,0]) (zAz) (mkS w66_u2_h 8 x) (zA w66_v.fz w66_u2_h zmT f)=zan f x:=by kernel_rfl
theorem ztm {X:Fx} (hX:VOk Tryz.prog X w66_v):q8 Tryz.prog X w66_v (zt (za Tryz.f121) [1,1,1,1,0,1,0]) zuP :=
 zF (c:=(zt (za Tryz.f121) [1,1,1,1,0,1,0,0])) (by kernel_rfl) (zu zp (zrp)) zL (ob:=[]) (by kernel_rfl) (fun X hX=>zh) (zyy) (by kernel_rfl) (by kernel_rfl) hX
def w66_u1_h:SS:=⟨[1,3,5],⟨[(.ptr 0 0),(.view 1),.hole],[.cells true [.hole,.hole,.hole],.seq false],[2,1,1,1,0],[.int .i64,.sl zx,.sl (.one (.sl (.one (.int .i64)))),.sl zx,.sl (.one (.sl (.one (.int .i64))))]⟩⟩
def znZ:Exs:=[((.exit 2),⟨[3],⟨[(.view 0)],[.seq false],[0],[.sl (.one (.sl (.one (.int .i64))))]⟩⟩)]
def zzR:AC:=.run
def zwq:Un:=lpU w66_v.fz [23,24,25,26,27,30,31,32,33,34,35,36,37,3,28,29,5] w66_u1_h znZ (lp zar zr)
theorem zzj (f:w66_u1_h.X→Option (YT znZ)) (x:w66_u1_h.X):E w66_v (zt (za Tryz.f121) [1,1,1,0,1,0,0]) (zzR) (mkS w66_u1_h 8 x) (zA w66_v.fz w66_u1_h znZ f)=zar f x:=by kernel_rfl
theorem zuK {X:Fx} (hX:VOk Tryz.prog X w66_v):q8 Tryz.prog X w66_v (zt (za Tryz.f121) [1,1,1,0,1,0]) zwq :=
 zF (c:=(zt (za Tryz.f121) [1,1,1,0,1,0,0])) (by kernel_rfl) (zu zp (zrp)) zL (ob:=[]) (by kernel_rfl) (fun X hX=>zh) (zzj) (by kernel_rfl) (by kernel_rfl) hX
def w66_u0_h:SS:=⟨[1,3,4],⟨[(.ptr 0 0),(.view 1),.hole],[.cells true [.hole,.hole,.hole],.seq false],[2,1,1,1,0],[.int .i64,.sl zx,.sl (.one (.sl (.one (.int .i64)))),.sl zx,.sl (.one (.sl (.one (.int .i64))))]⟩⟩
def zns:Exs:=[((.exit 0),⟨[3],⟨[(.view 0)],[.seq false],[0],[.sl (.one (.sl (.one (.int .i64))))]⟩⟩)]
def zy9:AC:=.run
def zvq:Un:=lpU w66_v.fz [7,8,9,10,11,14,15,16,17,18,19,20,21,22,3,12,13,4] w66_u0_h zns (lp zax zr)
theorem zx4 (f:w66_u0_h.X→Option (YT zns)) (x:w66_u0_h.X):E w66_v (zt (za Tryz.f121) [1,1,0,1,0,0]) (zy9) (mkS w66_u0_h 8 x) (zA w66_v.fz w66_u0_h zns f)=zax f x:=by kernel_rfl
theorem zvm {X:Fx} (hX:VOk Tryz.prog X w66_v):q8 Tryz.prog X w66_v (zt (za Tryz.f121) [1,1,0,1,0]) zvq :=
 zF (c:=(zt (za Tryz.f121) [1,1,0,1,0,0])) (by kernel_rfl) (zu zp (zrp)) zL (ob:=[]) (by kernel_rfl) (fun X hX=>zh) (zx4) (by kernel_rfl) (by kernel_rfl) hX
def zGu:AC:=(.seq .run (.seq .run (.seq (.seq .run (.block (.unit zvq))) (.seq (.seq .run (.block (.unit zwq))) (.seq (.seq .run (.block (.unit zuP))) .run)))))
theorem zLb (x:z6 w66_c.inp.hs):E w66_v (za Tryz.f121) (zGu) (w66_c.entry x) (zD tb w66_v.fz w66_c [.tmp 2] x)=w66_c.F x:=by kernel_rfl
theorem w66_ok:ShOk Tryz.prog gl 121 w66_c :=
 zE (l:=zEv) (n:=Tryz.f121.ntmps) (code:=za Tryz.f121) (rts:=[.tmp 2]) zp zL (zrp) Tryz.func121 (by kernel_rfl) (by kernel_rfl) rfl (by kernel_rfl) (ac:=zGu) (ob:=[((zt (za Tryz.f121) [1,1,0,1,0]),zvq),((zt (za Tryz.f121) [1,1,1,0,1,0]),zwq),((zt (za Tryz.f121) [1,1,1,1,0,1,0]),zuP)]) (by kernel_rfl) (fun X hX=>(zq (zvm hX) (zq (zuK hX) (zq (ztm hX) zh)))) (by kernel_rfl) (zLb)
def w67_c:ShC:={ inp:=⟨[.hole,(.agg [.hole,.hole,.hole])],[],[1,1,1,1],[.sl qr,.sl zx,.sl (.one (.sl (.one (.int .i64)))),.sl zx]⟩,out:=⟨[.hole],[],[2],[.bool]⟩,nres:=1,ms:=[],mu:=[],leak:=false,glob:=false,F:=fun (x:((List zm)×(List zd)×(List (List Int))×(List zd)))=>zgA x.1 x.2.1 x.2.2.1 x.2.2.2 }
-- quaereref8.May
def zFw:List (Nat×Con):=[(57,.gen (zU [w61_c])),(119,.gen (zU [w65_c])),(120,.gen (zU [w63_c])),(121,.gen (zU [w66_c]))]
def w67_v:Env:=zz tb gl zFw w67_c Tryz.f60.ntmps
theorem zoz:zB Tryz.prog (cond w67_c.glob gl fun _=>none) zFw:=(zb (ze (zc (w61_ok.anyGl rfl) zg)) (zb (ze (zc (w65_ok.anyGl rfl) zg)) (zb (ze (zc (w63_ok.anyGl rfl) zg)) (zb (ze (zc (w66_ok.anyGl rfl) zg)) zi))))
def w67_u3_h:SS:=⟨[9,10,11],⟨[.hole,.hole,.hole],[],[0,2,2],[.sl (.one (.sl (.one (.int .i64)))),.int .i64,.int .i64]⟩⟩
def znP:Exs:=[((.exit 6),⟨[10],⟨[.hole],[],[2],[.int .i64]⟩⟩)]
def zAB:AC:=.run
def ztz:Un:=lpU w67_v.fz [91,92,93,94,97,98,99,100,101,102,103,10,95,96,11] w67_u3_h znP (lp zaU zr)
theorem zzp (f:w67_u3_h.X→Option (YT znP)) (x:w67_u3_h.X):E w67_v (zt (za Tryz.f60) [1,1,1,1,1,1,1,0,1,0,0]) (zAB) (mkS w67_u3_h 8 x) (zA w67_v.fz w67_u3_h znP f)=zaU f x:=by kernel_rfl
theorem zvs {X:Fx} (hX:VOk Tryz.prog X w67_v):q8 Tryz.prog X w67_v (zt (za Tryz.f60) [1,1,1,1,1,1,1,0,1,0]) ztz :=
 zF (c:=(zt (za Tryz.f60) [1,1,1,1,1,1,1,0,1,0,0])) (by kernel_rfl) (zu zp (zoz)) zL (ob:=[]) (by kernel_rfl) (fun X hX=>zh) (zzp) (by kernel_rfl) (by kernel_rfl) hX
def w67_u2_h:SS:=⟨[0,3,7],⟨[.hole,(.ptr 0 0),.hole],[.cells true [.hole,.hole,.hole]],[1,2,1,1,1],[.sl qr,.int .i64,.sl zx,.sl (.one (.sl (.one (.int .i64)))),.sl zx]⟩⟩
def zm7:Exs:=[((.exit 4),⟨[],⟨[],[],[],[]⟩⟩),(.ret,⟨[4],⟨[.hole],[],[2],[.bool]⟩⟩)]
def zyQ:AC:=.run
def zwF:Un:=lpU w67_v.fz [63,64,65,66,67,70,71,72,73,74,75,76,8,77,78,79,80,81,82,83,84,85,86,87,88,4,68,69,7] w67_u2_h zm7 (lp zaX zr)
theorem zx6 (f:w67_u2_h.X→Option (YT zm7)) (x:w67_u2_h.X):E w67_v (zt (za Tryz.f60) [1,1,1,1,0,1,0,0]) (zyQ) (mkS w67_u2_h 8 x) (zA w67_v.fz w67_u2_h zm7 f)=zaX f x:=by kernel_rfl
theorem zt5 {X:Fx} (hX:VOk Tryz.prog X w67_v):q8 Tryz.prog X w67_v (zt (za Tryz.f60) [1,1,1,1,0,1,0]) zwF :=
 zF (c:=(zt (za Tryz.f60) [1,1,1,1,0,1,0,0])) (by kernel_rfl) (zu zp (zoz)) zL (ob:=[]) (by kernel_rfl) (fun X hX=>zh) (zx6) (by kernel_rfl) (by kernel_rfl) hX
def w67_u1_h:SS:=⟨[0,3,6],⟨[.hole,(.ptr 0 0),.hole],[.cells true [.hole,.hole,.hole]],[1,2,1,1,1],[.sl qr,.int .i64,.sl zx,.sl (.one (.sl (.one (.int .i64)))),.sl zx]⟩⟩
def zmR:Exs:=[((.exit 2),⟨[],⟨[],[],[],[]⟩⟩),(.ret,⟨[4],⟨[.hole],[],[2],[.bool]⟩⟩)]
def zAa:AC:=.run
def zw5:Un:=lpU w67_v.fz [48,49,50,51,52,55,56,57,58,59,60,61,62,4,53,54,6] w67_u1_h zmR (lp zaS zr)
theorem zyj (f:w67_u1_h.X→Option (YT zmR)) (x:w67_u1_h.X):E w67_v (zt (za Tryz.f60) [1,1,1,0,1,0,0]) (zAa) (mkS w67_u1_h 8 x) (zA w67_v.fz w67_u1_h zmR f)=zaS f x:=by kernel_rfl
theorem zwn {X:Fx} (hX:VOk Tryz.prog X w67_v):q8 Tryz.prog X w67_v (zt (za Tryz.f60) [1,1,1,0,1,0]) zw5 :=
 zF (c:=(zt (za Tryz.f60) [1,1,1,0,1,0,0])) (by kernel_rfl) (zu zp (zoz)) zL (ob:=[]) (by kernel_rfl) (fun X hX=>zh) (zyj) (by kernel_rfl) (by kernel_rfl) hX
def w67_u0_h:SS:=⟨[0,3,5],⟨[.hole,(.ptr 0 0),.hole],[.cells true [.hole,.hole,.hole]],[1,2,1,1,1],[.sl qr,.int .i64,.sl zx,.sl (.one (.sl (.one (.int .i64)))),.sl zx]⟩⟩
def zna:Exs:=[((.exit 0),⟨[],⟨[],[],[],[]⟩⟩),(.ret,⟨[4],⟨[.hole],[],[2],[.bool]⟩⟩)]
def zzb:AC:=.run
def zvP:Un:=lpU w67_v.fz [33,34,35,36,37,40,41,42,43,44,45,46,47,4,38,39,5] w67_u0_h zna (lp zaZ zr)
theorem zyl (f:w67_u0_h.X→Option (YT zna)) (x:w67_u0_h.X):E w67_v (zt (za Tryz.f60) [1,1,0,1,0,0]) (zzb) (mkS w67_u0_h 8 x) (zA w67_v.fz w67_u0_h zna f)=zaZ f x:=by kernel_rfl
theorem zuj {X:Fx} (hX:VOk Tryz.prog X w67_v):q8 Tryz.prog X w67_v (zt (za Tryz.f60) [1,1,0,1,0]) zvP :=
 zF (c:=(zt (za Tryz.f60) [1,1,0,1,0,0])) (by kernel_rfl) (zu zp (zoz)) zL (ob:=[]) (by kernel_rfl) (fun X hX=>zh) (zyl) (by kernel_rfl) (by kernel_rfl) hX
def zIe:AC:=(.seq .run (.seq .run (.seq (.seq .run (.block (.unit zvP))) (.seq (.seq .run (.block (.unit zw5))) (.seq (.seq .run (.block (.unit zwF))) (.seq .run (.seq .run (.seq (.seq .run (.block (.unit ztz))) .run))))))))
theorem zLd (x:z6 w67_c.inp.hs):E w67_v (za Tryz.f60) (zIe) (w67_c.entry x) (zD tb w67_v.fz w67_c [.tmp 4] x)=w67_c.F x:=by kernel_rfl
theorem w67_ok:ShOk Tryz.prog gl 60 w67_c :=
 zE (l:=zFw) (n:=Tryz.f60.ntmps) (code:=za Tryz.f60) (rts:=[.tmp 4]) zp zL (zoz) Tryz.func60 (by kernel_rfl) (by kernel_rfl) rfl (by kernel_rfl) (ac:=zIe) (ob:=[((zt (za Tryz.f60) [1,1,0,1,0]),zvP),((zt (za Tryz.f60) [1,1,1,0,1,0]),zw5),((zt (za Tryz.f60) [1,1,1,1,0,1,0]),zwF),((zt (za Tryz.f60) [1,1,1,1,1,1,1,0,1,0]),ztz)]) (by kernel_rfl) (fun X hX=>(zq (zuj hX) (zq (zwn hX) (zq (zt5 hX) (zq (zvs hX) zh))))) (by kernel_rfl) (zLd)
def w68_c:ShC:={ inp:=⟨[(.agg [.hole,.hole,.hole]),.hole],[],[1,1,1,1],[.sl zx,.sl (.one (.sl (.one (.int .i64)))),.sl zx,.int .i64]⟩,out:=⟨[.hole],[],[2],[.bool]⟩,nres:=1,ms:=[],mu:=[],leak:=false,glob:=false,F:=fun (x:((List zd)×(List (List Int))×(List zd)×Int))=>zck x.1 x.2.1 x.2.2.1 x.2.2.2 }
-- quaereref13.there
def zDt:List (Nat×Con):=[]
def w68_v:Env:=zz tb gl zDt w68_c Tryz.f71.ntmps
theorem zGM:zB Tryz.prog (cond w68_c.glob gl fun _=>none) zDt:=zi
def zGZ:AC:=.run
theorem zJs (x:z6 w68_c.inp.hs):E w68_v (za Tryz.f71) (zGZ) (w68_c.entry x) (zD tb w68_v.fz w68_c [.tmp 4] x)=w68_c.F x:=by kernel_rfl
theorem w68_ok:ShOk Tryz.prog gl 71 w68_c :=
 zE (l:=zDt) (n:=Tryz.f71.ntmps) (code:=za Tryz.f71) (rts:=[.tmp 4]) zp zL (zGM) Tryz.func71 (by kernel_rfl) (by kernel_rfl) rfl (by kernel_rfl) (ac:=zGZ) (ob:=[]) (by kernel_rfl) (fun X hX=>zh) (by kernel_rfl) (zJs)
def w69_c:ShC:={ inp:=⟨[.hole,.hole,.hole],[],[1,1,1],[.sl qr,.sl (.one (.int .i64)),.int .i64]⟩,out:=⟨[.hole],[],[2],[.int .i64]⟩,nres:=1,ms:=[],mu:=[],leak:=false,glob:=false,F:=fun (x:((List zm)×(List Int)×Int))=>zeX x.1 x.2.1 x.2.2 }
-- quaereref1.behind
def zCY:List (Nat×Con):=[]
def w69_v:Env:=zz tb gl zCY w69_c Tryz.f155.ntmps
theorem zBL:zB Tryz.prog (cond w69_c.glob gl fun _=>none) zCY:=zi
def w69_u0_h:SS:=⟨[0,1,7,8],⟨[.hole,.hole,.hole,.hole],[],[1,1,2,2],[.sl qr,.sl (.one (.int .i64)),.int .i64,.int .i64]⟩⟩
def zmK:Exs:=[((.exit 0),⟨[8],⟨[.hole],[],[2],[.int .i64]⟩⟩)]
def zAf:AC:=.run
def ztP:Un:=lpU w69_v.fz [10,11,12,13,7,14,15,16,17,18,19,20,21,22,23,24,25,26,27,28,7,29,30,8] w69_u0_h zmK (lp q5 zr)
theorem zAF (f:w69_u0_h.X→Option (YT zmK)) (x:w69_u0_h.X):E w69_v (zt (za Tryz.f155) [1,1,0,0,0]) (zAf) (mkS w69_u0_h 8 x) (zA w69_v.fz w69_u0_h zmK f)=q5 f x:=by kernel_rfl
theorem zwU {X:Fx} (hX:VOk Tryz.prog X w69_v):q8 Tryz.prog X w69_v (zt (za Tryz.f155) [1,1,0,0]) ztP :=
 zF (c:=(zt (za Tryz.f155) [1,1,0,0,0])) (by kernel_rfl) (zu zp (zBL)) zL (ob:=[]) (by kernel_rfl) (fun X hX=>zh) (zAF) (by kernel_rfl) (by kernel_rfl) hX
def zIV:AC:=(.seq .run (.seq .run (.seq (.block (.unit ztP)) .run)))
theorem zJ9 (x:z6 w69_c.inp.hs):E w69_v (za Tryz.f155) (zIV) (w69_c.entry x) (zD tb w69_v.fz w69_c [.tmp 6] x)=w69_c.F x:=by kernel_rfl
theorem w69_ok:ShOk Tryz.prog gl 155 w69_c :=
 zE (l:=zCY) (n:=Tryz.f155.ntmps) (code:=za Tryz.f155) (rts:=[.tmp 6]) zp zL (zBL) Tryz.func155 (by kernel_rfl) (by kernel_rfl) rfl (by kernel_rfl) (ac:=zIV) (ob:=[((zt (za Tryz.f155) [1,1,0,0]),ztP)]) (by kernel_rfl) (fun X hX=>(zq (zwU hX) zh)) (by kernel_rfl) (zJ9)
def w70_c:ShC:={ inp:=⟨[.hole,.hole],[],[1,1],[.sl qr,.sl (.one (.int .i64))]⟩,out:=⟨[(.view 0)],[.seq false],[0],[.sl (.one (.sl (.one (.int .i64))))]⟩,nres:=1,ms:=[],mu:=[],leak:=true,glob:=false,F:=fun (x:((List zm)×(List Int)))=>qb x.1 x.2 }
-- quaereref1.Parts
def zEh:List (Nat×Con):=[(155,.gen (zU [w69_c]))]
def w70_v:Env:=zz tb gl zEh w70_c Tryz.f92.ntmps
theorem zBz:zB Tryz.prog (cond w70_c.glob gl fun _=>none) zEh:=(zb (ze (zc (w69_ok.anyGl rfl) zg)) zi)
def w70_u0_h:SS:=⟨[0,1,5,6],⟨[.hole,.hole,(.view 0),.hole],[.seq false],[1,1,2,0],[.sl qr,.sl (.one (.int .i64)),.int .i64,.sl (.one (.sl (.one (.int .i64))))]⟩⟩
def zmS:Exs:=[((.exit 0),⟨[5],⟨[(.view 0)],[.seq false],[0],[.sl (.one (.sl (.one (.int .i64))))]⟩⟩)]
def zAJ:AC:=.run
def ztg:Un:=lpU w70_v.fz [8,9,10,11,12,13,14,15,7,16,17,18,19,20,21,22,5,23,6] w70_u0_h zmS (lp zbu zr)
theorem zyo (f:w70_u0_h.X→Option (YT zmS)) (x:w70_u0_h.X):E w70_v (zt (za Tryz.f92) [1,1,1,0,0,0]) (zAJ) (mkS w70_u0_h 8 x) (zA w70_v.fz w70_u0_h zmS f)=zbu f x:=by kernel_rfl
theorem zwO {X:Fx} (hX:VOk Tryz.prog X w70_v):q8 Tryz.prog X w70_v (zt (za Tryz.f92) [1,1,1,0,0]) ztg :=
 zF (c:=(zt (za Tryz.f92) [1,1,1,0,0,0])) (by kernel_rfl) (zu zp (zBz)) zL (ob:=[]) (by kernel_rfl) (fun X hX=>zh) (zyo) (by kernel_rfl) (by kernel_rfl) hX
def zIo:AC:=(.seq .run (.seq .run (.seq .run (.seq (.block (.unit ztg)) .run))))
theorem zKB (x:z6 w70_c.inp.hs):E w70_v (za Tryz.f92) (zIo) (w70_c.entry x) (zD tb w70_v.fz w70_c [.tmp 4] x)=w70_c.F x:=by kernel_rfl
theorem w70_ok:ShOk Tryz.prog gl 92 w70_c :=
 zE (l:=zEh) (n:=Tryz.f92.ntmps) (code:=za Tryz.f92) (rts:=[.tmp 4]) zp zL (zBz) Tryz.func92 (by kernel_rfl) (by kernel_rfl) rfl (by kernel_rfl) (ac:=zIo) (ob:=[((zt (za Tryz.f92) [1,1,1,0,0]),ztg)]) (by kernel_rfl) (fun X hX=>(zq (zwO hX) zh)) (by kernel_rfl) (zKB)
def w71_c:ShC:={ inp:=⟨[(.ptr 0 0),.hole],[.cells true [.hole]],[1,1],[.sl (.one (.int .i64)),.ar (.one (.sl (.one (.int .i64)))) 48]⟩,out:=⟨[.hole],[],[1],[.sl (.one (.int .i64))]⟩,nres:=1,ms:=[],mu:=[],leak:=true,glob:=false,F:=fun (x:((List Int)×(List (List Int))))=>zbe x.1 x.2 }
-- (*quaereref1.store).walk
def zCH:List (Nat×Con):=[]
def w71_v:Env:=zz tb gl zCH w71_c Tryz.f214.ntmps
theorem zB3:zB Tryz.prog (cond w71_c.glob gl fun _=>none) zCH:=zi
def w71_u0_h:SS:=⟨[0,1],⟨[(.ptr 0 0),.hole],[.cells true [.hole]],[1,1],[.sl (.one (.int .i64)),.ar (.one (.sl (.one (.int .i64)))) 48]⟩⟩
def zm1:Exs:=[((.exit 0),⟨[1],⟨[.hole],[],[1],[.sl (.one (.int .i64))]⟩⟩)]
def zAq:AC:=.run
def zt1:Un:=lpU w71_v.fz [5,6,7,8,9,10,11,12,13,14,15,16,17,18,19,20,21,22,23,24,25,26,27,28,29,30,31,32,33,34,35,1] w71_u0_h zm1 (lp qV zr)
theorem zzN (f:w71_u0_h.X→Option (YT zm1)) (x:w71_u0_h.X):E w71_v (zt (za Tryz.f214) [1,0,0,0]) (zAq) (mkS w71_u0_h 8 x) (zA w71_v.fz w71_u0_h zm1 f)=qV f x:=by kernel_rfl
theorem zxr {X:Fx} (hX:VOk Tryz.prog X w71_v):q8 Tryz.prog X w71_v (zt (za Tryz.f214) [1,0,0]) zt1 :=
 zF (c:=(zt (za Tryz.f214) [1,0,0,0])) (by kernel_rfl) (zu zp (zB3)) zL (ob:=[]) (by kernel_rfl) (fun X hX=>zh) (zzN) (by kernel_rfl) (by kernel_rfl) hX
def zHl:AC:=(.seq .run (.seq (.block (.unit zt1)) .run))
theorem zLl (x:z6 w71_c.inp.hs):E w71_v (za Tryz.f214) (zHl) (w71_c.entry x) (zD tb w71_v.fz w71_c [.tmp 4] x)=w71_c.F x:=by kernel_rfl
theorem w71_ok:ShOk Tryz.prog gl 214 w71_c :=
 zE (l:=zCH) (n:=Tryz.f214.ntmps) (code:=za Tryz.f214) (rts:=[.tmp 4]) zp zL (zB3) Tryz.func214 (by kernel_rfl) (by kernel_rfl) rfl (by kernel_rfl) (ac:=zHl) (ob:=[((zt (za Tryz.f214) [1,0,0]),zt1)]) (by kernel_rfl) (fun X hX=>(zq (zxr hX) zh)) (by kernel_rfl) (zLl)
def w72_c:ShC:={ inp:=⟨[.hole,.hole],[],[1,1],[.sl (.one (.int .i64)),.sl (.one (.int .i64))]⟩,out:=⟨[.hole],[],[2],[.bool]⟩,nres:=1,ms:=[],mu:=[],leak:=false,glob:=false,F:=fun (x:((List Int)×(List Int)))=>zc9 x.1 x.2 }
-- quaereref1.Same
def zDl:List (Nat×Con):=[]
def w72_v:Env:=zz tb gl zDl w72_c Tryz.f123.ntmps
theorem zBT:zB Tryz.prog (cond w72_c.glob gl fun _=>none) zDl:=zi
def w72_u0_h:SS:=⟨[0,1,5],⟨[.hole,.hole,.hole],[],[1,1,2],[.sl (.one (.int .i64)),.sl (.one (.int .i64)),.int .i64]⟩⟩
def znW:Exs:=[((.exit 0),⟨[],⟨[],[],[],[]⟩⟩),(.ret,⟨[4],⟨[.hole],[],[2],[.bool]⟩⟩)]
def zzf:AC:=.run
def zuE:Un:=lpU w72_v.fz [11,12,13,14,17,18,19,20,21,22,23,24,25,4,15,16,5] w72_u0_h znW (lp zal zr)
theorem zzU (f:w72_u0_h.X→Option (YT znW)) (x:w72_u0_h.X):E w72_v (zt (za Tryz.f123) [1,1,0,1,0,0]) (zzf) (mkS w72_u0_h 8 x) (zA w72_v.fz w72_u0_h znW f)=zal f x:=by kernel_rfl
theorem zw9 {X:Fx} (hX:VOk Tryz.prog X w72_v):q8 Tryz.prog X w72_v (zt (za Tryz.f123) [1,1,0,1,0]) zuE :=
 zF (c:=(zt (za Tryz.f123) [1,1,0,1,0,0])) (by kernel_rfl) (zu zp (zBT)) zL (ob:=[]) (by kernel_rfl) (fun X hX=>zh) (zzU) (by kernel_rfl) (by kernel_rfl) hX
def zIb:AC:=(.seq .run (.seq .run (.seq (.seq .run (.block (.unit zuE))) .run)))
theorem zLg (x:z6 w72_c.inp.hs):E w72_v (za Tryz.f123) (zIb) (w72_c.entry x) (zD tb w72_v.fz w72_c [.tmp 4] x)=w72_c.F x:=by kernel_rfl
theorem w72_ok:ShOk Tryz.prog gl 123 w72_c :=
 zE (l:=zDl) (n:=Tryz.f123.ntmps) (code:=za Tryz.f123) (rts:=[.tmp 4]) zp zL (zBT) Tryz.func123 (by kernel_rfl) (by kernel_rfl) rfl (by kernel_rfl) (ac:=zIb) (ob:=[((zt (za Tryz.f123) [1,1,0,1,0]),zuE)]) (by kernel_rfl) (fun X hX=>(zq (zw9 hX) zh)) (by kernel_rfl) (zLg)
def zhL (k:Nat):ShC:={ inp:=⟨[(.ptr 0 0),.hole,.hole],[.cells true [.hole]],[1,1,1],[.int .i64,.sl (.one (.int .i64)),.ar (.one (.sl (.one (.int .i64)))) 48]⟩,out:=⟨[.hole],[],[2],[.bool]⟩,nres:=1,ms:=[],mu:=[],leak:=false,glob:=false,F:=(yu k) }
def zHq:ShC:={ inp:=⟨[(.ptr 0 0),.hole,.hole],[.cells true [.hole]],[1,1,1],[.int .i64,.sl (.one (.int .i64)),.ar (.one (.sl (.one (.int .i64)))) 48]⟩,out:=⟨[.hole],[],[2],[.bool]⟩,nres:=1,ms:=[],mu:=[],leak:=false,glob:=false,F:=fun (x:(Int×(List Int)×(List (List Int))))=>zcn x.1 x.2.1 x.2.2 }
def znh (k:Nat):Prop:=ShOk Tryz.prog gl 227 (zhL k)
-- (*quaereref1.store).inside
def zFC (k:Nat):List (Nat×Con):=[(227,.gen (zU [zhL k]))]
def zqA (k:Nat):Env:=zz tb gl (zFC k) (zhL (k+1)) Tryz.f227.ntmps
theorem zBk (k:Nat) (h:znh k):zB Tryz.prog (cond (zhL (k+1)).glob gl fun _=>none) (zFC k):=(zb (ze (zc (h.anyGl rfl) zg)) zi)
def w73_u0_h:SS:=⟨[0,1,2,7],⟨[(.ptr 0 0),.hole,.hole,.hole],[.cells true [.hole]],[2,1,2,1],[.int .i64,.sl (.one (.int .i64)),.int .i64,.ar (.one (.sl (.one (.int .i64)))) 48]⟩⟩
def zmz:Exs:=[((.exit 0),⟨[],⟨[],[],[],[]⟩⟩),(.ret,⟨[6],⟨[.hole],[],[2],[.bool]⟩⟩)]
def zyi (k:Nat):AC:=.run
def ztH (k:Nat):Un:=lpU (zqA k).fz [9,10,11,12,15,16,17,18,19,20,21,22,23,24,8,25,26,27,28,29,30,31,32,33,34,35,36,37,38,39,40,41,42,43,44,45,46,47,48,6,13,14,7] w73_u0_h zmz (lp (z3 (yu k)) zr)
theorem zza (k:Nat) (f:w73_u0_h.X→Option (YT zmz)) (x:w73_u0_h.X):E (zqA k) (zt (za Tryz.f227) [1,0,1,0,0]) (zyi k) (mkS w73_u0_h 8 x) (zA (zqA k).fz w73_u0_h zmz f)=(z3 (yu k)) f x:=by kernel_rfl
theorem zxA (k:Nat) (h:znh k) {X:Fx} (hX:VOk Tryz.prog X (zqA k)):q8 Tryz.prog X (zqA k) (zt (za Tryz.f227) [1,0,1,0]) (ztH k) :=
 zF (c:=(zt (za Tryz.f227) [1,0,1,0,0])) (by kernel_rfl) (zu zp (zBk k h)) zL (ob:=[]) (by kernel_rfl) (fun X hX=>zh) (zza k) (by kernel_rfl) (by kernel_rfl) hX
def zHP (k:Nat):AC:=(.seq .run (.seq (.seq .run (.block (.unit (ztH k)))) .run))
theorem zJJ (k:Nat) (x:z6 (zhL (k+1)).inp.hs):E (zqA k) (za Tryz.f227) (zHP k) ((zhL (k+1)).entry x) (zD tb (zqA k).fz (zhL (k+1)) [.tmp 6] x)=(zhL (k+1)).F x:=by kernel_rfl
theorem zEF (k:Nat) (h:znh k):ShOk Tryz.prog gl 227 (zhL (k+1)) :=
 zE (l:=zFC k) (n:=Tryz.f227.ntmps) (code:=za Tryz.f227) (rts:=[.tmp 6]) zp zL (zBk k h) Tryz.func227 (by kernel_rfl) (by kernel_rfl) rfl (by kernel_rfl) (ac:=zHP k) (ob:=[((zt (za Tryz.f227) [1,0,1,0]),ztH k)]) (by kernel_rfl) (fun X hX=>(zq (zxA k h hX) zh)) (by kernel_rfl) (zJJ k)
theorem zoM:∀ k,znh k
 | 0=>⟨by kernel_rfl,fun w A g vs x y _ _ _ h=>by cases h⟩
 | k+1=>have h:=zoM k; zEF k h
theorem w73_ok:ShOk Tryz.prog gl 227 zHq:=(zoM zr)
def w74_c:ShC:={ inp:=⟨[(.ptr 0 0),.hole,.hole,.hole],[.cells false [.hole]],[1,1,1,1],[.sl (.one (.int .i64)),.sl (.one (.int .i64)),.bool,.ar (.one (.sl (.one (.int .i64)))) 48]⟩,out:=⟨[.hole,(.ptr 0 0)],[.cells false [.hole]],[2,1],[.bool,.ar (.one (.sl (.one (.int .i64)))) 48]⟩,nres:=1,ms:=[0],mu:=[(0,0)],leak:=true,glob:=false,F:=fun (x:((List Int)×(List Int)×Bool×(List (List Int))))=>zI x.1 x.2.1 x.2.2.1 x.2.2.2 }
-- (*quaereref1.store).pair1
def zEO:List (Nat×Con):=[(227,.gen (zU [zHq]))]
def w74_v:Env:=zz tb gl zEO w74_c Tryz.f215.ntmps
theorem zG3:zB Tryz.prog (cond w74_c.glob gl fun _=>none) zEO:=(zb (ze (zc (w73_ok.anyGl rfl) zg)) zi)
def zIO:AC:=.run
theorem zLm (x:z6 w74_c.inp.hs):E w74_v (za Tryz.f215) (zIO) (w74_c.entry x) (zD tb w74_v.fz w74_c [.tmp 8] x)=w74_c.F x:=by kernel_rfl
theorem w74_ok:ShOk Tryz.prog gl 215 w74_c :=
 zE (l:=zEO) (n:=Tryz.f215.ntmps) (code:=za Tryz.f215) (rts:=[.tmp 8]) zp zL (zG3) Tryz.func215 (by kernel_rfl) (by kernel_rfl) rfl (by kernel_rfl) (ac:=zIO) (ob:=[]) (by kernel_rfl) (fun X hX=>zh) (by kernel_rfl) (zLm)
def zh1 (k:Nat):ShC:={ inp:=⟨[(.ptr 0 0),.hole,.hole,.hole],[.cells false [.hole]],[1,1,1,1],[.sl qr,.sl (.one (.int .i64)),.sl (.one (.int .i64)),.ar (.one (.sl (.one (.int .i64)))) 48]⟩,out:=⟨[.hole,(.ptr 0 0)],[.cells false [.hole]],[2,0],[.bool,.ar (.one (.sl (.one (.int .i64)))) 48]⟩,nres:=1,ms:=[0],mu:=[(0,0)],leak:=true,glob:=false,F:=(zR k).1 }
def zJT:ShC:={ inp:=⟨[(.ptr 0 0),.hole,.hole,.hole],[.cells false [.hole]],[1,1,1,1],[.sl qr,.sl (.one (.int .i64)),.sl (.one (.int .i64)),.ar (.one (.sl (.one (.int .i64)))) 48]⟩,out:=⟨[.hole,(.ptr 0 0)],[.cells false [.hole]],[2,0],[.bool,.ar (.one (.sl (.one (.int .i64)))) 48]⟩,nres:=1,ms:=[0],mu:=[(0,0)],leak:=true,glob:=false,F:=fun (x:((List zm)×(List Int)×(List Int)×(List (List Int))))=>ziP x.1 x.2.1 x.2.2.1 x.2.2.2 }
def zik (k:Nat):ShC:={ inp:=⟨[(.ptr 0 0),.hole,.hole,.hole],[.cells false [.hole]],[1,1,1,1],[.sl qr,.sl (.one (.sl (.one (.int .i64)))),.sl (.one (.sl (.one (.int .i64)))),.ar (.one (.sl (.one (.int .i64)))) 48]⟩,out:=⟨[.hole,(.ptr 0 0)],[.cells false [.hole]],[2,0],[.bool,.ar (.one (.sl (.one (.int .i64)))) 48]⟩,nres:=1,ms:=[0],mu:=[(0,0)],leak:=true,glob:=false,F:=(zR k).2 }
def zId:ShC:={ inp:=⟨[(.ptr 0 0),.hole,.hole,.hole],[.cells false [.hole]],[1,1,1,1],[.sl qr,.sl (.one (.sl (.one (.int .i64)))),.sl (.one (.sl (.one (.int .i64)))),.ar (.one (.sl (.one (.int .i64)))) 48]⟩,out:=⟨[.hole,(.ptr 0 0)],[.cells false [.hole]],[2,0],[.bool,.ar (.one (.sl (.one (.int .i64)))) 48]⟩,nres:=1,ms:=[0],mu:=[(0,0)],leak:=true,glob:=false,F:=fun (x:((List zm)×(List (List Int))×(List (List Int))×(List (List Int))))=>zcJ x.1 x.2.1 x.2.2.1 x.2.2.2 }
def zi8 (k:Nat):Prop:=ShOk Tryz.prog gl 187 (zh1 k)∧ShOk Tryz.prog gl 137 (zik k)
-- (*quaereref1.store).pair
def zE2 (k:Nat):List (Nat×Con):=[(92,.gen (zU [w70_c])),(123,.gen (zU [w72_c])),(137,.gen (zU [zik k])),(214,.gen (zU [w71_c])),(215,.gen (zU [w74_c]))]
def zIq (k:Nat):Env:=zz tb gl (zE2 k) (zh1 (k+1)) Tryz.f187.ntmps
theorem zG9 (k:Nat) (h:zi8 k):zB Tryz.prog (cond (zh1 (k+1)).glob gl fun _=>none) (zE2 k):=(zb (ze (zc (w70_ok.anyGl rfl) zg)) (zb (ze (zc (w72_ok.anyGl rfl) zg)) (zb (ze (zc (h.2.anyGl rfl) zg)) (zb (ze (zc (w71_ok.anyGl rfl) zg)) (zb (ze (zc (w74_ok.anyGl rfl) zg)) zi)))))
def zIR (k:Nat):AC:=.run
theorem zKS (k:Nat) (x:z6 (zh1 (k+1)).inp.hs):E (zIq k) (za Tryz.f187) (zIR k) ((zh1 (k+1)).entry x) (zD tb (zIq k).fz (zh1 (k+1)) [.tmp 8] x)=(zh1 (k+1)).F x:=by kernel_rfl
theorem zEL (k:Nat) (h:zi8 k):ShOk Tryz.prog gl 187 (zh1 (k+1)) :=
 zE (l:=zE2 k) (n:=Tryz.f187.ntmps) (code:=za Tryz.f187) (rts:=[.tmp 8]) zp zL (zG9 k h) Tryz.func187 (by kernel_rfl) (by kernel_rfl) rfl (by kernel_rfl) (ac:=zIR k) (ob:=[]) (by kernel_rfl) (fun X hX=>zh) (by kernel_rfl) (zKS k)
-- (*quaereref1.store).all
def zDj (k:Nat):List (Nat×Con):=[(187,.gen (zU [zh1 k]))]
def zqQ (k:Nat):Env:=zz tb gl (zDj k) (zik (k+1)) Tryz.f137.ntmps
theorem zCk (k:Nat) (h:zi8 k):zB Tryz.prog (cond (zik (k+1)).glob gl fun _=>none) (zDj k):=(zb (ze (zc (h.1.anyGl rfl) zg)) zi)
def w76_u0_h:SS:=⟨[0,1,2,3,9],⟨[(.ptr 0 0),.hole,.hole,.hole,.hole],[.cells false [.hole]],[1,1,1,2,0],[.sl qr,.sl (.one (.sl (.one (.int .i64)))),.sl (.one (.sl (.one (.int .i64)))),.int .i64,.ar (.one (.sl (.one (.int .i64)))) 48]⟩⟩
def zmQ:Exs:=[((.exit 0),⟨[0],⟨[(.ptr 0 0)],[.cells false [.hole]],[0],[.ar (.one (.sl (.one (.int .i64)))) 48]⟩⟩),(.ret,⟨[0,8],⟨[(.ptr 0 0),.hole],[.cells false [.hole]],[2,0],[.bool,.ar (.one (.sl (.one (.int .i64)))) 48]⟩⟩)]
def zyN (k:Nat):AC:=.run
def zth (k:Nat):Un:=lpU (zqQ k).fz [10,11,12,13,16,17,18,19,20,21,22,23,24,25,26,27,8,14,15,9] w76_u0_h zmQ (lp (yg (zR k)) zr)
theorem zyp (k:Nat) (f:w76_u0_h.X→Option (YT zmQ)) (x:w76_u0_h.X):E (zqQ k) (zt (za Tryz.f137) [1,0,1,0,0]) (zyN k) (mkS w76_u0_h 8 x) (zA (zqQ k).fz w76_u0_h zmQ f)=(yg (zR k)) f x:=by kernel_rfl
theorem zs5 (k:Nat) (h:zi8 k) {X:Fx} (hX:VOk Tryz.prog X (zqQ k)):q8 Tryz.prog X (zqQ k) (zt (za Tryz.f137) [1,0,1,0]) (zth k) :=
 zF (c:=(zt (za Tryz.f137) [1,0,1,0,0])) (by kernel_rfl) (zu zp (zCk k h)) zL (ob:=[]) (by kernel_rfl) (fun X hX=>zh) (zyp k) (by kernel_rfl) (by kernel_rfl) hX
def zI5 (k:Nat):AC:=(.seq .run (.seq (.seq .run (.block (.unit (zth k)))) .run))
theorem zJR (k:Nat) (x:z6 (zik (k+1)).inp.hs):E (zqQ k) (za Tryz.f137) (zI5 k) ((zik (k+1)).entry x) (zD tb (zqQ k).fz (zik (k+1)) [.tmp 8] x)=(zik (k+1)).F x:=by kernel_rfl
theorem zDz (k:Nat) (h:zi8 k):ShOk Tryz.prog gl 137 (zik (k+1)) :=
 zE (l:=zDj k) (n:=Tryz.f137.ntmps) (code:=za Tryz.f137) (rts:=[.tmp 8]) zp zL (zCk k h) Tryz.func137 (by kernel_rfl) (by kernel_rfl) rfl (by kernel_rfl) (ac:=zI5 k) (ob:=[((zt (za Tryz.f137) [1,0,1,0]),zth k)]) (by kernel_rfl) (fun X hX=>(zq (zs5 k h hX) zh)) (by kernel_rfl) (zJR k)
theorem zks:∀ k,zi8 k
 | 0=>⟨⟨by kernel_rfl,fun w A g vs x y _ _ _ h=>by cases h⟩,⟨by kernel_rfl,fun w A g vs x y _ _ _ h=>by cases h⟩⟩
 | k+1=>have h:=zks k; ⟨zEL k h,zDz k h⟩
theorem zLT:ShOk Tryz.prog gl 187 zJT:=(zks zr).1
theorem w76_ok:ShOk Tryz.prog gl 137 zId:=(zks zr).2
def zhJ (k:Nat):ShC:={ inp:=⟨[(.ptr 0 0),(.view 1),.hole],[.cells true [.hole],.seq false],[1,1,1],[.sl (.one (.int .i64)),.ar (.one (.sl (.one (.int .i64)))) 48,.sl (.one (.int .i64))]⟩,out:=⟨[(.view 0)],[.seq false],[0],[.sl (.one (.int .i64))]⟩,nres:=1,ms:=[],mu:=[],leak:=true,glob:=false,F:=(ye k) }
def zHn:ShC:={ inp:=⟨[(.ptr 0 0),(.view 1),.hole],[.cells true [.hole],.seq false],[1,1,1],[.sl (.one (.int .i64)),.ar (.one (.sl (.one (.int .i64)))) 48,.sl (.one (.int .i64))]⟩,out:=⟨[(.view 0)],[.seq false],[0],[.sl (.one (.int .i64))]⟩,nres:=1,ms:=[],mu:=[],leak:=true,glob:=false,F:=fun (x:((List Int)×(List (List Int))×(List Int)))=>zbp x.1 x.2.1 x.2.2 }
def znT (k:Nat):Prop:=ShOk Tryz.prog gl 138 (zhJ k)
-- (*quaereref1.store).full
def zEx (k:Nat):List (Nat×Con):=[(138,.gen (zU [zhJ k]))]
def zpB (k:Nat):Env:=zz tb gl (zEx k) (zhJ (k+1)) Tryz.f138.ntmps
theorem zBZ (k:Nat) (h:znT k):zB Tryz.prog (cond (zhJ (k+1)).glob gl fun _=>none) (zEx k):=(zb (ze (zc (h.anyGl rfl) zg)) zi)
def w77_u0_h:SS:=⟨[0,1,2,7],⟨[(.ptr 0 0),(.view 1),.hole,.hole],[.cells true [.hole],.seq false],[1,2,1,0],[.sl (.one (.int .i64)),.int .i64,.ar (.one (.sl (.one (.int .i64)))) 48,.sl (.one (.int .i64))]⟩⟩
def zmG:Exs:=[((.exit 0),⟨[1],⟨[(.view 0)],[.seq false],[0],[.sl (.one (.int .i64))]⟩⟩)]
def zzE (k:Nat):AC:=.run
def zt7 (k:Nat):Un:=lpU (zpB k).fz [8,9,10,11,12,13,14,15,16,19,20,21,22,23,24,25,26,27,28,29,30,31,32,33,34,35,36,37,38,39,40,41,42,43,44,45,46,47,48,49,50,1,51,52,53,54,55,56,57,1,17,18,7] w77_u0_h zmG (lp (z5 (ye k)) zr)
theorem zym (k:Nat) (f:w77_u0_h.X→Option (YT zmG)) (x:w77_u0_h.X):E (zpB k) (zt (za Tryz.f138) [1,0,1,0,0]) (zzE k) (mkS w77_u0_h 8 x) (zA (zpB k).fz w77_u0_h zmG f)=(z5 (ye k)) f x:=by kernel_rfl
theorem zve (k:Nat) (h:znT k) {X:Fx} (hX:VOk Tryz.prog X (zpB k)):q8 Tryz.prog X (zpB k) (zt (za Tryz.f138) [1,0,1,0]) (zt7 k) :=
 zF (c:=(zt (za Tryz.f138) [1,0,1,0,0])) (by kernel_rfl) (zu zp (zBZ k h)) zL (ob:=[]) (by kernel_rfl) (fun X hX=>zh) (zym k) (by kernel_rfl) (by kernel_rfl) hX
def zH6 (k:Nat):AC:=(.seq .run (.seq (.seq .run (.block (.unit (zt7 k)))) .run))
theorem zKj (k:Nat) (x:z6 (zhJ (k+1)).inp.hs):E (zpB k) (za Tryz.f138) (zH6 k) ((zhJ (k+1)).entry x) (zD tb (zpB k).fz (zhJ (k+1)) [.tmp 6] x)=(zhJ (k+1)).F x:=by kernel_rfl
theorem zCW (k:Nat) (h:znT k):ShOk Tryz.prog gl 138 (zhJ (k+1)) :=
 zE (l:=zEx k) (n:=Tryz.f138.ntmps) (code:=za Tryz.f138) (rts:=[.tmp 6]) zp zL (zBZ k h) Tryz.func138 (by kernel_rfl) (by kernel_rfl) rfl (by kernel_rfl) (ac:=zH6 k) (ob:=[((zt (za Tryz.f138) [1,0,1,0]),zt7 k)]) (by kernel_rfl) (fun X hX=>(zq (zve k h hX) zh)) (by kernel_rfl) (zKj k)
theorem zox:∀ k,znT k
 | 0=>⟨by kernel_rfl,fun w A g vs x y _ _ _ h=>by cases h⟩
 | k+1=>have h:=zox k; zCW k h
theorem w77_ok:ShOk Tryz.prog gl 138 zHn:=(zox zr)
def w78_c:ShC:={ inp:=⟨[.hole,.hole,.hole],[],[1,1,1],[.sl qr,.sl (.one (.int .i64)),.sl (.one (.int .i64))]⟩,out:=⟨[(.view 0),.hole,.hole],[.seq false],[2,2,0],[.bool,.bool,.sl (.cons (.int .i64) (.one (.sl (.one (.int .i64)))))]⟩,nres:=3,ms:=[],mu:=[],leak:=true,glob:=false,F:=fun (x:((List zm)×(List Int)×(List Int)))=>zb1 x.1 x.2.1 x.2.2 }
-- quaereref1.Together
def zDL:List (Nat×Con):=[(92,.gen (zU [w70_c])),(137,.gen (zU [zId])),(138,.gen (zU [zHn]))]
def w78_v:Env:=zz tb gl zDL w78_c Tryz.f72.ntmps
theorem zBu:zB Tryz.prog (cond w78_c.glob gl fun _=>none) zDL:=(zb (ze (zc (w70_ok.anyGl rfl) zg)) (zb (ze (zc (w76_ok.anyGl rfl) zg)) (zb (ze (zc (w77_ok.anyGl rfl) zg)) zi)))
def w78_u0_h:SS:=⟨[11,12,13],⟨[(.ptr 0 0),(.view 1),.hole],[.cells true [.hole],.seq false],[2,0,0],[.int .i64,.ar (.one (.sl (.one (.int .i64)))) 48,.sl (.cons (.int .i64) (.one (.sl (.one (.int .i64)))))]⟩⟩
def znU:Exs:=[((.exit 0),⟨[12],⟨[(.view 0)],[.seq false],[0],[.sl (.cons (.int .i64) (.one (.sl (.one (.int .i64)))))]⟩⟩),(.ret,⟨[6,7,8],⟨[.nilv,.hole,.hole],[],[2,2],[.bool,.bool]⟩⟩)]
def zz6:AC:=.run
def zsP:Un:=lpU w78_v.fz [36,37,40,41,42,43,44,45,46,47,48,49,50,51,52,53,54,55,14,56,57,58,6,7,8,59,60,61,62,63,64,12,38,39,13] w78_u0_h znU (lp qp zr)
theorem zzs (f:w78_u0_h.X→Option (YT znU)) (x:w78_u0_h.X):E w78_v (zt (za Tryz.f72) [1,1,1,1,1,0,1,0,0]) (zz6) (mkS w78_u0_h 8 x) (zA w78_v.fz w78_u0_h znU f)=qp f x:=by kernel_rfl
theorem zvS {X:Fx} (hX:VOk Tryz.prog X w78_v):q8 Tryz.prog X w78_v (zt (za Tryz.f72) [1,1,1,1,1,0,1,0]) zsP :=
 zF (c:=(zt (za Tryz.f72) [1,1,1,1,1,0,1,0,0])) (by kernel_rfl) (zu zp (zBu)) zL (ob:=[]) (by kernel_rfl) (fun X hX=>zh) (zzs) (by kernel_rfl) (by kernel_rfl) hX
def zGf:AC:=(.seq .run (.seq .run (.seq .run (.seq .run (.seq .run (.seq (.seq .run (.block (.unit zsP))) .run))))))
theorem zLe (x:z6 w78_c.inp.hs):E w78_v (za Tryz.f72) (zGf) (w78_c.entry x) (zD tb w78_v.fz w78_c [.tmp 6,.tmp 7,.tmp 8] x)=w78_c.F x:=by kernel_rfl
theorem w78_ok:ShOk Tryz.prog gl 72 w78_c :=
 zE (l:=zDL) (n:=Tryz.f72.ntmps) (code:=za Tryz.f72) (rts:=[.tmp 6,.tmp 7,.tmp 8]) zp zL (zBu) Tryz.func72 (by kernel_rfl) (by kernel_rfl) rfl (by kernel_rfl) (ac:=zGf) (ob:=[((zt (za Tryz.f72) [1,1,1,1,1,0,1,0]),zsP)]) (by kernel_rfl) (fun X hX=>(zq (zvS hX) zh)) (by kernel_rfl) (zLe)
def w79_c:ShC:={ inp:=⟨[.hole,.hole],[],[1,1],[.sl zx,.int .i64]⟩,out:=⟨[(.view 0)],[.seq false],[0],[.sl zx]⟩,nres:=1,ms:=[],mu:=[],leak:=true,glob:=false,F:=fun (x:((List zd)×Int))=>zbX x.1 x.2 }
-- quaereref13.without
def zEH:List (Nat×Con):=[]
def w79_v:Env:=zz tb gl zEH w79_c Tryz.f74.ntmps
theorem zG6:zB Tryz.prog (cond w79_c.glob gl fun _=>none) zEH:=zi
def zHL:AC:=.run
theorem zKU (x:z6 w79_c.inp.hs):E w79_v (za Tryz.f74) (zHL) (w79_c.entry x) (zD tb w79_v.fz w79_c [.tmp 4] x)=w79_c.F x:=by kernel_rfl
theorem w79_ok:ShOk Tryz.prog gl 74 w79_c :=
 zE (l:=zEH) (n:=Tryz.f74.ntmps) (code:=za Tryz.f74) (rts:=[.tmp 4]) zp zL (zG6) Tryz.func74 (by kernel_rfl) (by kernel_rfl) rfl (by kernel_rfl) (ac:=zHL) (ob:=[]) (by kernel_rfl) (fun X hX=>zh) (by kernel_rfl) (zKU)
def w80_c:ShC:={ inp:=⟨[.hole,.hole],[],[1,1],[.sl (.cons (.int .i64) (.one (.sl (.one (.int .i64))))),.int .i64]⟩,out:=⟨[.hole],[],[2],[.int .i64]⟩,nres:=1,ms:=[],mu:=[],leak:=false,glob:=false,F:=fun (x:((List (Int×(List Int)))×Int))=>zhp x.1 x.2 }
-- quaereref1.Of
def zFc:List (Nat×Con):=[]
def w80_v:Env:=zz tb gl zFc w80_c Tryz.f124.ntmps
theorem zBc:zB Tryz.prog (cond w80_c.glob gl fun _=>none) zFc:=zi
def w80_u0_h:SS:=⟨[0,1,5],⟨[.hole,.hole,.hole],[],[1,2,2],[.sl (.cons (.int .i64) (.one (.sl (.one (.int .i64))))),.int .i64,.int .i64]⟩⟩
def znB:Exs:=[((.exit 0),⟨[],⟨[],[],[],[]⟩⟩),(.ret,⟨[4],⟨[.hole],[],[2],[.int .i64]⟩⟩)]
def zzq:AC:=.run
def zv0:Un:=lpU w80_v.fz [6,7,8,9,12,13,14,15,16,17,18,19,4,10,11,5] w80_u0_h znB (lp zbw zr)
theorem zA1 (f:w80_u0_h.X→Option (YT znB)) (x:w80_u0_h.X):E w80_v (zt (za Tryz.f124) [1,0,1,0,0]) (zzq) (mkS w80_u0_h 8 x) (zA w80_v.fz w80_u0_h znB f)=zbw f x:=by kernel_rfl
theorem zxn {X:Fx} (hX:VOk Tryz.prog X w80_v):q8 Tryz.prog X w80_v (zt (za Tryz.f124) [1,0,1,0]) zv0 :=
 zF (c:=(zt (za Tryz.f124) [1,0,1,0,0])) (by kernel_rfl) (zu zp (zBc)) zL (ob:=[]) (by kernel_rfl) (fun X hX=>zh) (zA1) (by kernel_rfl) (by kernel_rfl) hX
def zGp:AC:=(.seq .run (.seq (.seq .run (.block (.unit zv0))) .run))
theorem zKs (x:z6 w80_c.inp.hs):E w80_v (za Tryz.f124) (zGp) (w80_c.entry x) (zD tb w80_v.fz w80_c [.tmp 4] x)=w80_c.F x:=by kernel_rfl
theorem w80_ok:ShOk Tryz.prog gl 124 w80_c :=
 zE (l:=zFc) (n:=Tryz.f124.ntmps) (code:=za Tryz.f124) (rts:=[.tmp 4]) zp zL (zBc) Tryz.func124 (by kernel_rfl) (by kernel_rfl) rfl (by kernel_rfl) (ac:=zGp) (ob:=[((zt (za Tryz.f124) [1,0,1,0]),zv0)]) (by kernel_rfl) (fun X hX=>(zq (zxn hX) zh)) (by kernel_rfl) (zKs)
def w81_c:ShC:={ inp:=⟨[.hole,.hole],[],[1,1],[.sl (.cons (.int .i64) (.one (.sl (.one (.int .i64))))),.sl (.one (.int .i64))]⟩,out:=⟨[(.view 0)],[.seq false],[2],[.sl (.one (.int .i64))]⟩,nres:=1,ms:=[],mu:=[],leak:=false,glob:=false,F:=fun (x:((List (Int×(List Int)))×(List Int)))=>zcZ x.1 x.2 }
-- quaereref1.Put
def zDM:List (Nat×Con):=[(124,.gen (zU [w80_c]))]
def w81_v:Env:=zz tb gl zDM w81_c Tryz.f94.ntmps
theorem zBB:zB Tryz.prog (cond w81_c.glob gl fun _=>none) zDM:=(zb (ze (zc (w80_ok.anyGl rfl) zg)) zi)
def w81_u0_h:SS:=⟨[0,1,5,6],⟨[.hole,.hole,(.view 0),.hole],[.seq false],[1,1,2,2],[.sl (.cons (.int .i64) (.one (.sl (.one (.int .i64))))),.sl (.one (.int .i64)),.int .i64,.sl (.one (.int .i64))]⟩⟩
def zmy:Exs:=[((.exit 0),⟨[5],⟨[(.view 0)],[.seq false],[2],[.sl (.one (.int .i64))]⟩⟩)]
def zz9:AC:=.run
def zuG:Un:=lpU w81_v.fz [8,9,10,11,7,14,15,16,17,18,19,20,21,22,23,24,25,7,26,27,28,29,30,31,32,33,34,5,35,36,37,38,39,40,41,5,12,13,6] w81_u0_h zmy (lp zaV zr)
theorem zy8 (f:w81_u0_h.X→Option (YT zmy)) (x:w81_u0_h.X):E w81_v (zt (za Tryz.f94) [1,1,0,1,0,0]) (zz9) (mkS w81_u0_h 8 x) (zA w81_v.fz w81_u0_h zmy f)=zaV f x:=by kernel_rfl
theorem zty {X:Fx} (hX:VOk Tryz.prog X w81_v):q8 Tryz.prog X w81_v (zt (za Tryz.f94) [1,1,0,1,0]) zuG :=
 zF (c:=(zt (za Tryz.f94) [1,1,0,1,0,0])) (by kernel_rfl) (zu zp (zBB)) zL (ob:=[]) (by kernel_rfl) (fun X hX=>zh) (zy8) (by kernel_rfl) (by kernel_rfl) hX
def zGO:AC:=(.seq .run (.seq .run (.seq (.seq .run (.block (.unit zuG))) .run)))
theorem zKG (x:z6 w81_c.inp.hs):E w81_v (za Tryz.f94) (zGO) (w81_c.entry x) (zD tb w81_v.fz w81_c [.tmp 4] x)=w81_c.F x:=by kernel_rfl
theorem w81_ok:ShOk Tryz.prog gl 94 w81_c :=
 zE (l:=zDM) (n:=Tryz.f94.ntmps) (code:=za Tryz.f94) (rts:=[.tmp 4]) zp zL (zBB) Tryz.func94 (by kernel_rfl) (by kernel_rfl) rfl (by kernel_rfl) (ac:=zGO) (ob:=[((zt (za Tryz.f94) [1,1,0,1,0]),zuG)]) (by kernel_rfl) (fun X hX=>(zq (zty hX) zh)) (by kernel_rfl) (zKG)
def w82_c:ShC:={ inp:=⟨[.hole,(.agg [.hole,.hole,.hole])],[],[1,1,1,1],[.sl (.cons (.int .i64) (.one (.sl (.one (.int .i64))))),.sl zx,.sl (.one (.sl (.one (.int .i64)))),.sl zx]⟩,out:=⟨[(.agg [.hole,.hole,(.view 0)])],[.seq false],[2,2,2],[.sl zx,.sl (.one (.sl (.one (.int .i64)))),.sl zx]⟩,nres:=1,ms:=[],mu:=[],leak:=false,glob:=false,F:=fun (x:((List (Int×(List Int)))×(List zd)×(List (List Int))×(List zd)))=>zd6 x.1 x.2.1 x.2.2.1 x.2.2.2 }
-- quaereref8.Copy
def zEs:List (Nat×Con):=[(94,.gen (zU [w81_c]))]
def w82_v:Env:=zz tb gl zEs w82_c Tryz.f125.ntmps
theorem zrJ:zB Tryz.prog (cond w82_c.glob gl fun _=>none) zEs:=(zb (ze (zc (w81_ok.anyGl rfl) zg)) zi)
def w82_u2_h:SS:=⟨[0,3,4,5,8],⟨[.hole,(.ptr 0 0),(.ptr 1 0),(.ptr 2 0),.hole],[.cells true [.hole,.hole,.hole],.cells true [.nilv,.nilv,.nilv],.cells false [.hole,.hole,(.view 3)],.seq false],[1,2,1,1,1,2,2,2],[.sl (.cons (.int .i64) (.one (.sl (.one (.int .i64))))),.int .i64,.sl zx,.sl (.one (.sl (.one (.int .i64)))),.sl zx,.sl zx,.sl (.one (.sl (.one (.int .i64)))),.sl zx]⟩⟩
def zng:Exs:=[((.exit 4),⟨[5],⟨[(.ptr 0 0)],[.cells false [.hole,.hole,(.view 1)],.seq false],[2,2,2],[.sl zx,.sl (.one (.sl (.one (.int .i64)))),.sl zx]⟩⟩)]
def zx9:AC:=.run
def zuA:Un:=lpU w82_v.fz [55,56,57,58,59,62,63,64,65,66,67,68,69,70,71,72,73,74,75,76,77,78,79,80,81,60,61,8] w82_u2_h zng (lp zat zr)
theorem zyx (f:w82_u2_h.X→Option (YT zng)) (x:w82_u2_h.X):E w82_v (zt (za Tryz.f125) [1,1,1,1,0,1,0,0]) (zx9) (mkS w82_u2_h 8 x) (zA w82_v.fz w82_u2_h zng f)=zat f x:=by kernel_rfl
theorem ztj {X:Fx} (hX:VOk Tryz.prog X w82_v):q8 Tryz.prog X w82_v (zt (za Tryz.f125) [1,1,1,1,0,1,0]) zuA :=
 zF (c:=(zt (za Tryz.f125) [1,1,1,1,0,1,0,0])) (by kernel_rfl) (zu zp (zrJ)) zL (ob:=[]) (by kernel_rfl) (fun X hX=>zh) (zyx) (by kernel_rfl) (by kernel_rfl) hX
def w82_u1_h:SS:=⟨[0,3,4,5,7],⟨[.hole,(.ptr 0 0),(.ptr 1 0),(.ptr 2 0),.hole],[.cells true [.hole,.hole,.hole],.cells true [.nilv,.nilv,.nilv],.cells false [.hole,(.view 3),.nilv],.seq false],[1,2,1,1,1,2,2],[.sl (.cons (.int .i64) (.one (.sl (.one (.int .i64))))),.int .i64,.sl zx,.sl (.one (.sl (.one (.int .i64)))),.sl zx,.sl zx,.sl (.one (.sl (.one (.int .i64))))]⟩⟩
def zn0:Exs:=[((.exit 2),⟨[5],⟨[(.ptr 0 0)],[.cells false [.hole,(.view 1),.nilv],.seq false],[2,2],[.sl zx,.sl (.one (.sl (.one (.int .i64))))]⟩⟩)]
def zzO:AC:=.run
def ztU:Un:=lpU w82_v.fz [36,37,38,39,40,43,44,45,46,47,48,49,50,51,52,53,54,41,42,7] w82_u1_h zn0 (lp zaz zr)
theorem zzg (f:w82_u1_h.X→Option (YT zn0)) (x:w82_u1_h.X):E w82_v (zt (za Tryz.f125) [1,1,1,0,1,0,0]) (zzO) (mkS w82_u1_h 8 x) (zA w82_v.fz w82_u1_h zn0 f)=zaz f x:=by kernel_rfl
theorem ztX {X:Fx} (hX:VOk Tryz.prog X w82_v):q8 Tryz.prog X w82_v (zt (za Tryz.f125) [1,1,1,0,1,0]) ztU :=
 zF (c:=(zt (za Tryz.f125) [1,1,1,0,1,0,0])) (by kernel_rfl) (zu zp (zrJ)) zL (ob:=[]) (by kernel_rfl) (fun X hX=>zh) (zzg) (by kernel_rfl) (by kernel_rfl) hX
def w82_u0_h:SS:=⟨[0,3,4,5,6],⟨[.hole,(.ptr 0 0),(.ptr 1 0),(.ptr 2 0),.hole],[.cells true [.hole,.hole,.hole],.cells true [.nilv,.nilv,.nilv],.cells false [(.view 3),.nilv,.nilv],.seq false],[1,2,1,1,1,2],[.sl (.cons (.int .i64) (.one (.sl (.one (.int .i64))))),.int .i64,.sl zx,.sl (.one (.sl (.one (.int .i64)))),.sl zx,.sl zx]⟩⟩
def zmY:Exs:=[((.exit 0),⟨[5],⟨[(.ptr 0 0)],[.cells false [(.view 1),.nilv,.nilv],.seq false],[2],[.sl zx]⟩⟩)]
def zzD:AC:=.run
def zwa:Un:=lpU w82_v.fz [9,10,11,12,13,16,17,18,19,20,21,22,23,24,25,26,27,28,29,30,31,32,33,34,35,14,15,6] w82_u0_h zmY (lp zav zr)
theorem zAp (f:w82_u0_h.X→Option (YT zmY)) (x:w82_u0_h.X):E w82_v (zt (za Tryz.f125) [1,1,0,1,0,0]) (zzD) (mkS w82_u0_h 8 x) (zA w82_v.fz w82_u0_h zmY f)=zav f x:=by kernel_rfl
theorem ztu {X:Fx} (hX:VOk Tryz.prog X w82_v):q8 Tryz.prog X w82_v (zt (za Tryz.f125) [1,1,0,1,0]) zwa :=
 zF (c:=(zt (za Tryz.f125) [1,1,0,1,0,0])) (by kernel_rfl) (zu zp (zrJ)) zL (ob:=[]) (by kernel_rfl) (fun X hX=>zh) (zAp) (by kernel_rfl) (by kernel_rfl) hX
def zF1:AC:=(.seq .run (.seq .run (.seq (.seq .run (.block (.unit zwa))) (.seq (.seq .run (.block (.unit ztU))) (.seq (.seq .run (.block (.unit zuA))) .run)))))
theorem zKR (x:z6 w82_c.inp.hs):E w82_v (za Tryz.f125) (zF1) (w82_c.entry x) (zD tb w82_v.fz w82_c [.cell 4 29] x)=w82_c.F x:=by kernel_rfl
theorem w82_ok:ShOk Tryz.prog gl 125 w82_c :=
 zE (l:=zEs) (n:=Tryz.f125.ntmps) (code:=za Tryz.f125) (rts:=[.cell 4 29]) zp zL (zrJ) Tryz.func125 (by kernel_rfl) (by kernel_rfl) rfl (by kernel_rfl) (ac:=zF1) (ob:=[((zt (za Tryz.f125) [1,1,0,1,0]),zwa),((zt (za Tryz.f125) [1,1,1,0,1,0]),ztU),((zt (za Tryz.f125) [1,1,1,1,0,1,0]),zuA)]) (by kernel_rfl) (fun X hX=>(zq (ztu hX) (zq (ztX hX) (zq (ztj hX) zh)))) (by kernel_rfl) (zKR)
def w83_c:ShC:={ inp:=⟨[(.agg [.hole,.hole]),(.agg [.hole,.hole])],[],[1,1,1,1],[.bool,.sl (.one (.int .i64)),.bool,.sl (.one (.int .i64))]⟩,out:=⟨[.hole],[],[2],[.bool]⟩,nres:=1,ms:=[],mu:=[],leak:=false,glob:=false,F:=fun (x:(Bool×(List Int)×Bool×(List Int)))=>zcD x.1 x.2.1 x.2.2.1 x.2.2.2 }
-- quaereref8.SameLit
def zDv:List (Nat×Con):=[(123,.gen (zU [w72_c]))]
def w83_v:Env:=zz tb gl zDv w83_c Tryz.f174.ntmps
theorem zGg:zB Tryz.prog (cond w83_c.glob gl fun _=>none) zDv:=(zb (ze (zc (w72_ok.anyGl rfl) zg)) zi)
def zIB:AC:=.run
theorem zJE (x:z6 w83_c.inp.hs):E w83_v (za Tryz.f174) (zIB) (w83_c.entry x) (zD tb w83_v.fz w83_c [.tmp 4] x)=w83_c.F x:=by kernel_rfl
theorem w83_ok:ShOk Tryz.prog gl 174 w83_c :=
 zE (l:=zDv) (n:=Tryz.f174.ntmps) (code:=za Tryz.f174) (rts:=[.tmp 4]) zp zL (zGg) Tryz.func174 (by kernel_rfl) (by kernel_rfl) rfl (by kernel_rfl) (ac:=zIB) (ob:=[]) (by kernel_rfl) (fun X hX=>zh) (by kernel_rfl) (zJE)
def w84_c:ShC:={ inp:=⟨[.hole],[],[1],[.sl zx]⟩,out:=⟨[(.view 0)],[.seq false],[0],[.sl zx]⟩,nres:=1,ms:=[],mu:=[],leak:=true,glob:=false,F:=fun (x:(List zd))=>zf2 x }
-- quaereref8.lits
def zEV:List (Nat×Con):=[(174,.gen (zU [w83_c]))]
def w84_v:Env:=zz tb gl zEV w84_c Tryz.f122.ntmps
theorem zvJ:zB Tryz.prog (cond w84_c.glob gl fun _=>none) zEV:=(zb (ze (zc (w83_ok.anyGl rfl) zg)) zi)
def w84_u0_h:SS:=⟨[0,3,4,5,6],⟨[.hole,(.view 0),.hole,.hole,.hole],[.seq false],[1,2,2,2,0],[.sl zx,.int .i64,.bool,.int .i64,.sl zx]⟩⟩
def zmH:Exs:=[((.exit 2),⟨[3,5],⟨[(.view 0),.hole],[.seq false],[2,0],[.bool,.sl zx]⟩⟩)]
def zAy:AC:=.run
def zuh:Un:=lpU w84_v.fz [13,14,15,16,19,20,21,22,23,24,25,26,27,28,29,30,5,17,18,6] w84_u0_h zmH (lp q4 zr)
theorem zAZ (f:w84_u0_h.X→Option (YT zmH)) (x:w84_u0_h.X):E w84_v (zt (za Tryz.f122) [1,1,0,1,0,0,1,0,0,1,0,1,0,0]) (zAy) (mkS w84_u0_h 8 x) (zA w84_v.fz w84_u0_h zmH f)=q4 f x:=by kernel_rfl
theorem ztD {X:Fx} (hX:VOk Tryz.prog X w84_v):q8 Tryz.prog X w84_v (zt (za Tryz.f122) [1,1,0,1,0,0,1,0,0,1,0,1,0]) zuh :=
 zF (c:=(zt (za Tryz.f122) [1,1,0,1,0,0,1,0,0,1,0,1,0,0])) (by kernel_rfl) (zu zp (zvJ)) zL (ob:=[]) (by kernel_rfl) (fun X hX=>zh) (zAZ) (by kernel_rfl) (by kernel_rfl) hX
def w84_u1_h:SS:=⟨[0,3,4],⟨[.hole,(.view 0),.hole],[.seq false],[1,2,0],[.sl zx,.int .i64,.sl zx]⟩⟩
def zmD:Exs:=[((.exit 0),⟨[3],⟨[(.view 0)],[.seq false],[0],[.sl zx]⟩⟩)]
def zAn:AC:=(.seq .run (.seq (.block (.seq .run (.seq (.seq .run (.block (.unit zuh))) .run))) .run))
def zxs:Un:=lpU w84_v.fz [7,8,9,10,5,6,13,14,15,16,19,20,21,22,23,24,25,26,27,28,29,30,5,17,18,6,31,32,33,34,35,36,37,38,39,3,11,12,4] w84_u1_h zmD (lp zaq zr)
theorem zzH (f:w84_u1_h.X→Option (YT zmD)) (x:w84_u1_h.X):E w84_v (zt (za Tryz.f122) [1,1,0,1,0,0]) (zAn) (mkS w84_u1_h 8 x) (zA w84_v.fz w84_u1_h zmD f)=zaq f x:=by kernel_rfl
theorem zwz {X:Fx} (hX:VOk Tryz.prog X w84_v):q8 Tryz.prog X w84_v (zt (za Tryz.f122) [1,1,0,1,0]) zxs :=
 zF (c:=(zt (za Tryz.f122) [1,1,0,1,0,0])) (by kernel_rfl) (zu zp (zvJ)) zL (ob:=[((zt (za Tryz.f122) [1,1,0,1,0,0,1,0,0,1,0,1,0]),zuh)]) (by kernel_rfl) (fun X hX=>(zq (ztD hX) zh)) (zzH) (by kernel_rfl) (by kernel_rfl) hX
def zGw:AC:=(.seq .run (.seq .run (.seq (.seq .run (.block (.unit zxs))) .run)))
theorem zLh (x:z6 w84_c.inp.hs):E w84_v (za Tryz.f122) (zGw) (w84_c.entry x) (zD tb w84_v.fz w84_c [.tmp 2] x)=w84_c.F x:=by kernel_rfl
theorem w84_ok:ShOk Tryz.prog gl 122 w84_c :=
 zE (l:=zEV) (n:=Tryz.f122.ntmps) (code:=za Tryz.f122) (rts:=[.tmp 2]) zp zL (zvJ) Tryz.func122 (by kernel_rfl) (by kernel_rfl) rfl (by kernel_rfl) (ac:=zGw) (ob:=[((zt (za Tryz.f122) [1,1,0,1,0]),zxs)]) (by kernel_rfl) (fun X hX=>(zq (zwz hX) zh)) (by kernel_rfl) (zLh)
def w85_c:ShC:={ inp:=⟨[(.agg [.hole,.hole,.hole])],[],[1,1,1],[.sl zx,.sl (.one (.sl (.one (.int .i64)))),.sl zx]⟩,out:=⟨[(.agg [.hole,.hole,(.view 0)])],[.seq false],[2,2,2],[.sl zx,.sl (.one (.sl (.one (.int .i64)))),.sl zx]⟩,nres:=1,ms:=[],mu:=[],leak:=false,glob:=false,F:=fun (x:((List zd)×(List (List Int))×(List zd)))=>zgl x.1 x.2.1 x.2.2 }
-- quaereref8.Norm
def zEn:List (Nat×Con):=[(121,.gen (zU [w66_c])),(122,.gen (zU [w84_c])),(123,.gen (zU [w72_c])),(124,.gen (zU [w80_c])),(125,.gen (zU [w82_c]))]
def w85_v:Env:=zz tb gl zEn w85_c Tryz.f61.ntmps
theorem zoV:zB Tryz.prog (cond w85_c.glob gl fun _=>none) zEn:=(zb (ze (zc (w66_ok.anyGl rfl) zg)) (zb (ze (zc (w84_ok.anyGl rfl) zg)) (zb (ze (zc (w72_ok.anyGl rfl) zg)) (zb (ze (zc (w80_ok.anyGl rfl) zg)) (zb (ze (zc (w82_ok.anyGl rfl) zg)) zi)))))
def w85_u2_h:SS:=⟨[2,3,7,8,9,10],⟨[(.ptr 0 0),(.ptr 1 0),(.view 2),.hole,.hole,.hole],[.cells true [.nilv,.nilv,.nilv],.cells true [.hole,.hole,.hole],.seq false],[0,2,2,0,0,0,2],[.sl (.one (.sl (.one (.int .i64)))),.int .i64,.int .i64,.sl zx,.sl (.one (.sl (.one (.int .i64)))),.sl zx,.sl (.cons (.int .i64) (.one (.sl (.one (.int .i64)))))]⟩⟩
def zmC:Exs:=[((.exit 6),⟨[7],⟨[(.view 0)],[.seq false],[2],[.sl (.cons (.int .i64) (.one (.sl (.one (.int .i64)))))]⟩⟩)]
def zAj:AC:=.run
def zto:Un:=lpU w85_v.fz [67,68,69,70,71,72,73,76,77,78,79,80,81,82,11,83,84,85,86,87,88,89,90,91,92,93,94,95,96,97,98,99,100,101,7,74,75,10] w85_u2_h zmC (lp zau zr)
theorem zyU (f:w85_u2_h.X→Option (YT zmC)) (x:w85_u2_h.X):E w85_v (zt (za Tryz.f61) [1,1,1,1,1,0,1,0,0,1,0,0,1,0,0]) (zAj) (mkS w85_u2_h 8 x) (zA w85_v.fz w85_u2_h zmC f)=zau f x:=by kernel_rfl
theorem zv5 {X:Fx} (hX:VOk Tryz.prog X w85_v):q8 Tryz.prog X w85_v (zt (za Tryz.f61) [1,1,1,1,1,0,1,0,0,1,0,0,1,0]) zto :=
 zF (c:=(zt (za Tryz.f61) [1,1,1,1,1,0,1,0,0,1,0,0,1,0,0])) (by kernel_rfl) (zu zp (zoV)) zL (ob:=[]) (by kernel_rfl) (fun X hX=>zh) (zyU) (by kernel_rfl) (by kernel_rfl) hX
def w85_u0_h:SS:=⟨[1,2,3,4,5,6],⟨[(.ptr 0 0),(.ptr 1 0),(.ptr 2 0),.hole,.hole,.hole],[.cells true [.hole,.hole,.hole],.cells true [.nilv,.nilv,.nilv],.cells false [.hole,(.view 3),.hole],.seq false],[2,2,2,1,1,1,0,0,0],[.int .i64,.bool,.int .i64,.sl zx,.sl (.one (.sl (.one (.int .i64)))),.sl zx,.sl zx,.sl zx,.sl (.one (.sl (.one (.int .i64))))]⟩⟩
def znv:Exs:=[((.exit 2),⟨[3,5],⟨[(.ptr 0 0),.hole],[.cells false [.hole,(.view 1),.hole],.seq false],[2,0,0,0],[.bool,.sl zx,.sl zx,.sl (.one (.sl (.one (.int .i64))))]⟩⟩)]
def zAU:AC:=.run
def zsW:Un:=lpU w85_v.fz [26,27,28,29,30,33,34,35,36,37,38,39,40,41,42,43,44,45,46,5,31,32,6] w85_u0_h znv (lp q6 zr)
theorem zyV (f:w85_u0_h.X→Option (YT znv)) (x:w85_u0_h.X):E w85_v (zt (za Tryz.f61) [1,1,0,1,0,0,1,0,0,1,0,1,0,0]) (zAU) (mkS w85_u0_h 8 x) (zA w85_v.fz w85_u0_h znv f)=q6 f x:=by kernel_rfl
theorem zwT {X:Fx} (hX:VOk Tryz.prog X w85_v):q8 Tryz.prog X w85_v (zt (za Tryz.f61) [1,1,0,1,0,0,1,0,0,1,0,1,0]) zsW :=
 zF (c:=(zt (za Tryz.f61) [1,1,0,1,0,0,1,0,0,1,0,1,0,0])) (by kernel_rfl) (zu zp (zoV)) zL (ob:=[]) (by kernel_rfl) (fun X hX=>zh) (zyV) (by kernel_rfl) (by kernel_rfl) hX
def w85_u3_h:SS:=⟨[2,3,7,8,9],⟨[(.ptr 0 0),(.ptr 1 0),(.view 2),.hole,.hole],[.cells true [.nilv,.nilv,.nilv],.cells true [.hole,.hole,.hole],.seq false],[0,2,0,0,0,2],[.sl (.one (.sl (.one (.int .i64)))),.int .i64,.sl zx,.sl (.one (.sl (.one (.int .i64)))),.sl zx,.sl (.cons (.int .i64) (.one (.sl (.one (.int .i64)))))]⟩⟩
def znF:Exs:=[((.exit 4),⟨[7],⟨[(.view 0)],[.seq false],[2],[.sl (.cons (.int .i64) (.one (.sl (.one (.int .i64)))))]⟩⟩)]
def zyJ:AC:=(.seq .run (.seq (.block (.seq .run (.block (.unit zto)))) .run))
def zvT:Un:=lpU w85_v.fz [61,62,63,64,10,67,68,69,70,71,72,73,76,77,78,79,80,81,82,11,83,84,85,86,87,88,89,90,91,92,93,94,95,96,97,98,99,100,101,7,74,75,10,65,66,9] w85_u3_h znF (lp zam zr)
theorem zzW (f:w85_u3_h.X→Option (YT znF)) (x:w85_u3_h.X):E w85_v (zt (za Tryz.f61) [1,1,1,1,1,0,1,0,0]) (zyJ) (mkS w85_u3_h 8 x) (zA w85_v.fz w85_u3_h znF f)=zam f x:=by kernel_rfl
theorem zvW {X:Fx} (hX:VOk Tryz.prog X w85_v):q8 Tryz.prog X w85_v (zt (za Tryz.f61) [1,1,1,1,1,0,1,0]) zvT :=
 zF (c:=(zt (za Tryz.f61) [1,1,1,1,1,0,1,0,0])) (by kernel_rfl) (zu zp (zoV)) zL (ob:=[((zt (za Tryz.f61) [1,1,1,1,1,0,1,0,0,1,0,0,1,0]),zto)]) (by kernel_rfl) (fun X hX=>(zq (zv5 hX) zh)) (zzW) (by kernel_rfl) (by kernel_rfl) hX
def w85_u1_h:SS:=⟨[1,2,3,4],⟨[(.ptr 0 0),(.ptr 1 0),(.ptr 2 0),.hole],[.cells true [.hole,.hole,.hole],.cells true [.nilv,.nilv,.nilv],.cells false [.hole,(.view 3),.hole],.seq false],[2,1,1,1,0,0,0],[.int .i64,.sl zx,.sl (.one (.sl (.one (.int .i64)))),.sl zx,.sl zx,.sl zx,.sl (.one (.sl (.one (.int .i64))))]⟩⟩
def zm3:Exs:=[((.exit 0),⟨[3],⟨[(.ptr 0 0)],[.cells false [.hole,(.view 1),.hole],.seq false],[0,0,0],[.sl zx,.sl zx,.sl (.one (.sl (.one (.int .i64))))]⟩⟩)]
def zyb:AC:=(.seq .run (.seq (.block (.seq .run (.seq (.seq .run (.block (.unit zsW))) .run))) .run))
def zxz:Un:=lpU w85_v.fz [19,20,21,22,23,5,6,26,27,28,29,30,33,34,35,36,37,38,39,40,41,42,43,44,45,46,5,31,32,6,47,48,49,50,51,52,53,54,55,56,57,58,24,25,4] w85_u1_h zm3 (lp zak zr)
theorem zAC (f:w85_u1_h.X→Option (YT zm3)) (x:w85_u1_h.X):E w85_v (zt (za Tryz.f61) [1,1,0,1,0,0]) (zyb) (mkS w85_u1_h 8 x) (zA w85_v.fz w85_u1_h zm3 f)=zak f x:=by kernel_rfl
theorem zuv {X:Fx} (hX:VOk Tryz.prog X w85_v):q8 Tryz.prog X w85_v (zt (za Tryz.f61) [1,1,0,1,0]) zxz :=
 zF (c:=(zt (za Tryz.f61) [1,1,0,1,0,0])) (by kernel_rfl) (zu zp (zoV)) zL (ob:=[((zt (za Tryz.f61) [1,1,0,1,0,0,1,0,0,1,0,1,0]),zsW)]) (by kernel_rfl) (fun X hX=>(zq (zwT hX) zh)) (zAC) (by kernel_rfl) (by kernel_rfl) hX
def zIp:AC:=(.seq .run (.seq .run (.seq (.seq .run (.block (.unit zxz))) (.seq .run (.seq .run (.seq (.seq .run (.block (.unit zvT))) .run))))))
theorem zJw (x:z6 w85_c.inp.hs):E w85_v (za Tryz.f61) (zIp) (w85_c.entry x) (zD tb w85_v.fz w85_c [.cell 2 29] x)=w85_c.F x:=by kernel_rfl
theorem w85_ok:ShOk Tryz.prog gl 61 w85_c :=
 zE (l:=zEn) (n:=Tryz.f61.ntmps) (code:=za Tryz.f61) (rts:=[.cell 2 29]) zp zL (zoV) Tryz.func61 (by kernel_rfl) (by kernel_rfl) rfl (by kernel_rfl) (ac:=zIp) (ob:=[((zt (za Tryz.f61) [1,1,0,1,0]),zxz),((zt (za Tryz.f61) [1,1,1,1,1,0,1,0]),zvT)]) (by kernel_rfl) (fun X hX=>(zq (zuv hX) (zq (zvW hX) zh))) (by kernel_rfl) (zJw)
def w86_c:ShC:={ inp:=⟨[.hole,.hole,(.agg [.hole,.hole,.hole])],[],[1,1,1,1,1],[.sl qr,.sl (.cons (.int .i64) (.one (.sl (.one (.int .i64))))),.sl zx,.sl (.one (.sl (.one (.int .i64)))),.sl zx]⟩,out:=⟨[(.agg [.hole,.hole,(.view 0)]),.hole],[.seq false],[2,2,2,2],[.sl zx,.sl (.one (.sl (.one (.int .i64)))),.bool,.sl zx]⟩,nres:=2,ms:=[],mu:=[],leak:=false,glob:=false,F:=fun (x:((List zm)×(List (Int×(List Int)))×(List zd)×(List (List Int))×(List zd)))=>zgv x.1 x.2.1 x.2.2.1 x.2.2.2.1 x.2.2.2.2 }
-- quaereref13.done
def zEl:List (Nat×Con):=[(60,.gen (zU [w67_c])),(61,.gen (zU [w85_c])),(125,.gen (zU [w82_c]))]
def w86_v:Env:=zz tb gl zEl w86_c Tryz.f73.ntmps
theorem zHg:zB Tryz.prog (cond w86_c.glob gl fun _=>none) zEl:=(zb (ze (zc (w67_ok.anyGl rfl) zg)) (zb (ze (zc (w85_ok.anyGl rfl) zg)) (zb (ze (zc (w82_ok.anyGl rfl) zg)) zi)))
def zII:AC:=.run
theorem zKr (x:z6 w86_c.inp.hs):E w86_v (za Tryz.f73) (zII) (w86_c.entry x) (zD tb w86_v.fz w86_c [.cell 6 29,.tmp 7] x)=w86_c.F x:=by kernel_rfl
theorem w86_ok:ShOk Tryz.prog gl 73 w86_c :=
 zE (l:=zEl) (n:=Tryz.f73.ntmps) (code:=za Tryz.f73) (rts:=[.cell 6 29,.tmp 7]) zp zL (zHg) Tryz.func73 (by kernel_rfl) (by kernel_rfl) rfl (by kernel_rfl) (ac:=zII) (ob:=[]) (by kernel_rfl) (fun X hX=>zh) (by kernel_rfl) (zKr)
def w87_c:ShC:={ inp:=⟨[.hole,(.agg [.hole,.hole,.hole]),.hole,.hole],[],[1,1,1,1,1,1],[.sl qr,.sl zx,.sl (.one (.sl (.one (.int .i64)))),.sl zx,.int .i64,.int .i64]⟩,out:=⟨[(.agg [.hole,.hole,(.view 0)]),.hole,.hole],[.seq false],[2,2,2,2,2],[.sl zx,.sl (.one (.sl (.one (.int .i64)))),.bool,.int .i64,.sl zx]⟩,nres:=3,ms:=[],mu:=[],leak:=false,glob:=false,F:=fun (x:((List zm)×(List zd)×(List (List Int))×(List zd)×Int×Int))=>zdL x.1 x.2.1 x.2.2.1 x.2.2.2.1 x.2.2.2.2.1 x.2.2.2.2.2 }
-- quaereref13.Factor
def zC7:List (Nat×Con):=[(60,.gen (zU [w67_c])),(71,.gen (zU [w68_c])),(72,.gen (zU [w78_c])),(73,.gen (zU [w86_c])),(74,.gen (zU [w79_c]))]
def w87_v:Env:=zz tb gl zC7 w87_c Tryz.f25.ntmps
theorem zH9:zB Tryz.prog (cond w87_c.glob gl fun _=>none) zC7:=(zb (ze (zc (w67_ok.anyGl rfl) zg)) (zb (ze (zc (w68_ok.anyGl rfl) zg)) (zb (ze (zc (w78_ok.anyGl rfl) zg)) (zb (ze (zc (w86_ok.anyGl rfl) zg)) (zb (ze (zc (w79_ok.anyGl rfl) zg)) zi)))))
def zIj:AC:=.run
theorem zKb (x:z6 w87_c.inp.hs):E w87_v (za Tryz.f25) (zIj) (w87_c.entry x) (zD tb w87_v.fz w87_c [.cell 8 29,.tmp 9,.tmp 10] x)=w87_c.F x:=by kernel_rfl
theorem w87_ok:ShOk Tryz.prog gl 25 w87_c :=
 zE (l:=zC7) (n:=Tryz.f25.ntmps) (code:=za Tryz.f25) (rts:=[.cell 8 29,.tmp 9,.tmp 10]) zp zL (zH9) Tryz.func25 (by kernel_rfl) (by kernel_rfl) rfl (by kernel_rfl) (ac:=zIj) (ob:=[]) (by kernel_rfl) (fun X hX=>zh) (by kernel_rfl) (zKb)
def w88_c:ShC:={ inp:=⟨[(.agg [.hole,.hole])],[],[1,1],[.bool,.sl (.one (.int .i64))]⟩,out:=⟨[(.agg [.hole,(.view 0)])],[.seq false],[2,2],[.bool,.sl (.one (.int .i64))]⟩,nres:=1,ms:=[],mu:=[],leak:=false,glob:=false,F:=fun (x:zd)=>zfO x.1 x.2 }
-- lit.Opposite
def zDD:List (Nat×Con):=[(115,.gen (zU [zyz]))]
def w88_v:Env:=zz tb gl zDD w88_c Tryz.f54.ntmps
theorem zGa:zB Tryz.prog (cond w88_c.glob gl fun _=>none) zDD:=(zb (ze (zc (w31_ok.anyGl rfl) zg)) zi)
def zHN:AC:=.run
theorem zJS (x:z6 w88_c.inp.hs):E w88_v (za Tryz.f54) (zHN) (w88_c.entry x) (zD tb w88_v.fz w88_c [.cell 2 69] x)=w88_c.F x:=by kernel_rfl
theorem w88_ok:ShOk Tryz.prog gl 54 w88_c :=
 zE (l:=zDD) (n:=Tryz.f54.ntmps) (code:=za Tryz.f54) (rts:=[.cell 2 69]) zp zL (zGa) Tryz.func54 (by kernel_rfl) (by kernel_rfl) rfl (by kernel_rfl) (ac:=zHN) (ob:=[]) (by kernel_rfl) (fun X hX=>zh) (by kernel_rfl) (zJS)
def w89_c:ShC:={ inp:=⟨[.hole,(.agg [.hole,.hole,.hole]),.hole],[],[1,1,1,1,1],[.sl qr,.sl zx,.sl (.one (.sl (.one (.int .i64)))),.sl zx,.int .i64]⟩,out:=⟨[(.agg [.hole,.hole,(.view 0)]),.hole],[.seq false],[2,2,2,2],[.sl zx,.sl (.one (.sl (.one (.int .i64)))),.int .i64,.sl zx]⟩,nres:=2,ms:=[],mu:=[],leak:=false,glob:=true,F:=fun (x:((List zm)×(List zd)×(List (List Int))×(List zd)×Int))=>zaT x.1 x.2.1 x.2.2.1 x.2.2.2.1 x.2.2.2.2 }
-- factor.Assume
def zDP:List (Nat×Con):=[(42,.gen (zU [w18_c])),(54,.gen (zU [w88_c])),(56,.gen (zU [w55_c])),(69,.gen (zU [w19_c])),(75,.gen (zU [w37_c]))]
def w89_v:Env:=zz tb gl zDP w89_c Tryz.f26.ntmps
theorem zG4:zB Tryz.prog (cond w89_c.glob gl fun _=>none) zDP:=(zb (ze (zc zoD zg)) (zb (ze (zc (w88_ok.anyGl rfl) zg)) (zb (ze (zc zCx zg)) (zb (ze (zc (w19_ok.anyGl rfl) zg)) (zb (ze (zc (w37_ok.anyGl rfl) zg)) zi)))))
def zHi:AC:=.run
theorem zKq (x:z6 w89_c.inp.hs):E w89_v (za Tryz.f26) (zHi) (w89_c.entry x) (zD tb w89_v.fz w89_c [.cell 6 29,.tmp 7] x)=w89_c.F x:=by kernel_rfl
theorem zBa:ShOk Tryz.prog gl 26 w89_c :=
 zE (l:=zDP) (n:=Tryz.f26.ntmps) (code:=za Tryz.f26) (rts:=[.cell 6 29,.tmp 7]) zp zL (zG4) Tryz.func26 (by kernel_rfl) (by kernel_rfl) rfl (by kernel_rfl) (ac:=zHi) (ob:=[]) (by kernel_rfl) (fun X hX=>zh) (by kernel_rfl) (zKq)
def w90_c:ShC:={ inp:=⟨[.hole,(.agg [.hole,.hole,.hole]),.hole],[],[1,1,1,1,1],[.sl qr,.sl zx,.sl (.one (.sl (.one (.int .i64)))),.sl zx,.int .i64]⟩,out:=⟨[(.agg [.hole,.hole,(.view 0)]),.hole],[.seq false],[2,2,2,2],[.sl zx,.sl (.one (.sl (.one (.int .i64)))),.int .i64,.sl zx]⟩,nres:=2,ms:=[],mu:=[],leak:=false,glob:=false,F:=fun (x:((List zm)×(List zd)×(List (List Int))×(List zd)×Int))=>zdE x.1 x.2.1 x.2.2.1 x.2.2.2.1 x.2.2.2.2 }
-- quaereref13.Assume
def zCO:List (Nat×Con):=[(60,.gen (zU [w67_c])),(61,.gen (zU [w85_c])),(71,.gen (zU [w68_c])),(74,.gen (zU [w79_c]))]
def w90_v:Env:=zz tb gl zCO w90_c Tryz.f27.ntmps
theorem zH0:zB Tryz.prog (cond w90_c.glob gl fun _=>none) zCO:=(zb (ze (zc (w67_ok.anyGl rfl) zg)) (zb (ze (zc (w85_ok.anyGl rfl) zg)) (zb (ze (zc (w68_ok.anyGl rfl) zg)) (zb (ze (zc (w79_ok.anyGl rfl) zg)) zi))))
def zHt:AC:=.run
theorem zJp (x:z6 w90_c.inp.hs):E w90_v (za Tryz.f27) (zHt) (w90_c.entry x) (zD tb w90_v.fz w90_c [.cell 6 29,.tmp 7] x)=w90_c.F x:=by kernel_rfl
theorem w90_ok:ShOk Tryz.prog gl 27 w90_c :=
 zE (l:=zCO) (n:=Tryz.f27.ntmps) (code:=za Tryz.f27) (rts:=[.cell 6 29,.tmp 7]) zp zL (zH0) Tryz.func27 (by kernel_rfl) (by kernel_rfl) rfl (by kernel_rfl) (ac:=zHt) (ob:=[]) (by kernel_rfl) (fun X hX=>zh) (by kernel_rfl) (zJp)
def w91_c:ShC:={ inp:=⟨[.hole,.hole],[],[1,1],[.sl (.one (.int .i64)),.sl (.one (.int .i64))]⟩,out:=⟨[.hole],[],[2],[.bool]⟩,nres:=1,ms:=[],mu:=[],leak:=false,glob:=false,F:=fun (x:((List Int)×(List Int)))=>zaP x.1 x.2 }
-- quaerelaw0.SameInts
def zDJ:List (Nat×Con):=[]
def w91_v:Env:=zz tb gl zDJ w91_c Tryz.f43.ntmps
theorem zB9:zB Tryz.prog (cond w91_c.glob gl fun _=>none) zDJ:=zi
def w91_u0_h:SS:=⟨[0,1,5],⟨[.hole,.hole,.hole],[],[1,1,2],[.sl (.one (.int .i64)),.sl (.one (.int .i64)),.int .i64]⟩⟩
def znL:Exs:=[((.exit 0),⟨[],⟨[],[],[],[]⟩⟩),(.ret,⟨[4],⟨[.hole],[],[2],[.bool]⟩⟩)]
def zAb:AC:=.run
def zxH:Un:=lpU w91_v.fz [11,12,13,14,17,18,19,20,21,22,23,24,25,4,15,16,5] w91_u0_h znL (lp yO zr)
theorem zzo (f:w91_u0_h.X→Option (YT znL)) (x:w91_u0_h.X):E w91_v (zt (za Tryz.f43) [1,1,0,1,0,0]) (zAb) (mkS w91_u0_h 8 x) (zA w91_v.fz w91_u0_h znL f)=yO f x:=by kernel_rfl
theorem zwu {X:Fx} (hX:VOk Tryz.prog X w91_v):q8 Tryz.prog X w91_v (zt (za Tryz.f43) [1,1,0,1,0]) zxH :=
 zF (c:=(zt (za Tryz.f43) [1,1,0,1,0,0])) (by kernel_rfl) (zu zp (zB9)) zL (ob:=[]) (by kernel_rfl) (fun X hX=>zh) (zzo) (by kernel_rfl) (by kernel_rfl) hX
def zHh:AC:=(.seq .run (.seq .run (.seq (.seq .run (.block (.unit zxH))) .run)))
theorem zKi (x:z6 w91_c.inp.hs):E w91_v (za Tryz.f43) (zHh) (w91_c.entry x) (zD tb w91_v.fz w91_c [.tmp 4] x)=w91_c.F x:=by kernel_rfl
theorem w91_ok:ShOk Tryz.prog gl 43 w91_c :=
 zE (l:=zDJ) (n:=Tryz.f43.ntmps) (code:=za Tryz.f43) (rts:=[.tmp 4]) zp zL (zB9) Tryz.func43 (by kernel_rfl) (by kernel_rfl) rfl (by kernel_rfl) (ac:=zHh) (ob:=[((zt (za Tryz.f43) [1,1,0,1,0]),zxH)]) (by kernel_rfl) (fun X hX=>(zq (zwu hX) zh)) (by kernel_rfl) (zKi)
def w92_c:ShC:={ inp:=⟨[.hole,.hole],[],[1,1],[.sl zx,.sl zx]⟩,out:=⟨[.hole],[],[2],[.bool]⟩,nres:=1,ms:=[],mu:=[],leak:=false,glob:=false,F:=fun (x:((List zd)×(List zd)))=>zbT x.1 x.2 }
-- quaerelaw0.SameLits
def zCR:List (Nat×Con):=[(43,.gen (zU [w91_c]))]
def w92_v:Env:=zz tb gl zCR w92_c Tryz.f20.ntmps
theorem zCw:zB Tryz.prog (cond w92_c.glob gl fun _=>none) zCR:=(zb (ze (zc (w91_ok.anyGl rfl) zg)) zi)
def w92_u0_h:SS:=⟨[0,1,5],⟨[.hole,.hole,.hole],[],[1,1,2],[.sl zx,.sl zx,.int .i64]⟩⟩
def znl:Exs:=[((.exit 0),⟨[],⟨[],[],[],[]⟩⟩),(.ret,⟨[4],⟨[.hole],[],[2],[.bool]⟩⟩)]
def zAh:AC:=.run
def ztq:Un:=lpU w92_v.fz [11,12,13,14,17,18,19,20,21,22,23,24,25,26,27,28,29,30,31,32,33,34,35,36,37,38,39,40,41,4,15,16,5] w92_u0_h znl (lp yS zr)
theorem zAm (f:w92_u0_h.X→Option (YT znl)) (x:w92_u0_h.X):E w92_v (zt (za Tryz.f20) [1,1,0,1,0,0]) (zAh) (mkS w92_u0_h 8 x) (zA w92_v.fz w92_u0_h znl f)=yS f x:=by kernel_rfl
theorem ztn {X:Fx} (hX:VOk Tryz.prog X w92_v):q8 Tryz.prog X w92_v (zt (za Tryz.f20) [1,1,0,1,0]) ztq :=
 zF (c:=(zt (za Tryz.f20) [1,1,0,1,0,0])) (by kernel_rfl) (zu zp (zCw)) zL (ob:=[]) (by kernel_rfl) (fun X hX=>zh) (zAm) (by kernel_rfl) (by kernel_rfl) hX
def zFO:AC:=(.seq .run (.seq .run (.seq (.seq .run (.block (.unit ztq))) .run)))
theorem zJx (x:z6 w92_c.inp.hs):E w92_v (za Tryz.f20) (zFO) (w92_c.entry x) (zD tb w92_v.fz w92_c [.tmp 4] x)=w92_c.F x:=by kernel_rfl
theorem w92_ok:ShOk Tryz.prog gl 20 w92_c :=
 zE (l:=zCR) (n:=Tryz.f20.ntmps) (code:=za Tryz.f20) (rts:=[.tmp 4]) zp zL (zCw) Tryz.func20 (by kernel_rfl) (by kernel_rfl) rfl (by kernel_rfl) (ac:=zFO) (ob:=[((zt (za Tryz.f20) [1,1,0,1,0]),ztq)]) (by kernel_rfl) (fun X hX=>(zq (ztn hX) zh)) (by kernel_rfl) (zJx)
def w93_c:ShC:={ inp:=⟨[.hole,.hole],[],[1,1],[.sl (.one (.sl (.one (.int .i64)))),.sl (.one (.sl (.one (.int .i64))))]⟩,out:=⟨[.hole],[],[2],[.bool]⟩,nres:=1,ms:=[],mu:=[],leak:=false,glob:=false,F:=fun (x:((List (List Int))×(List (List Int))))=>zc1 x.1 x.2 }
-- quaerelaw0.SameRows
def zCM:List (Nat×Con):=[(43,.gen (zU [w91_c]))]
def w93_v:Env:=zz tb gl zCM w93_c Tryz.f62.ntmps
theorem zBt:zB Tryz.prog (cond w93_c.glob gl fun _=>none) zCM:=(zb (ze (zc (w91_ok.anyGl rfl) zg)) zi)
def w93_u0_h:SS:=⟨[0,1,5],⟨[.hole,.hole,.hole],[],[1,1,2],[.sl (.one (.sl (.one (.int .i64)))),.sl (.one (.sl (.one (.int .i64)))),.int .i64]⟩⟩
def zm9:Exs:=[((.exit 0),⟨[],⟨[],[],[],[]⟩⟩),(.ret,⟨[4],⟨[.hole],[],[2],[.bool]⟩⟩)]
def zy6:AC:=.run
def zu2:Un:=lpU w93_v.fz [11,12,13,14,17,18,19,20,21,22,23,24,25,26,4,15,16,5] w93_u0_h zm9 (lp yT zr)
theorem zx2 (f:w93_u0_h.X→Option (YT zm9)) (x:w93_u0_h.X):E w93_v (zt (za Tryz.f62) [1,1,0,1,0,0]) (zy6) (mkS w93_u0_h 8 x) (zA w93_v.fz w93_u0_h zm9 f)=yT f x:=by kernel_rfl
theorem zw1 {X:Fx} (hX:VOk Tryz.prog X w93_v):q8 Tryz.prog X w93_v (zt (za Tryz.f62) [1,1,0,1,0]) zu2 :=
 zF (c:=(zt (za Tryz.f62) [1,1,0,1,0,0])) (by kernel_rfl) (zu zp (zBt)) zL (ob:=[]) (by kernel_rfl) (fun X hX=>zh) (zx2) (by kernel_rfl) (by kernel_rfl) hX
def zGd:AC:=(.seq .run (.seq .run (.seq (.seq .run (.block (.unit zu2))) .run)))
theorem zJA (x:z6 w93_c.inp.hs):E w93_v (za Tryz.f62) (zGd) (w93_c.entry x) (zD tb w93_v.fz w93_c [.tmp 4] x)=w93_c.F x:=by kernel_rfl
theorem w93_ok:ShOk Tryz.prog gl 62 w93_c :=
 zE (l:=zCM) (n:=Tryz.f62.ntmps) (code:=za Tryz.f62) (rts:=[.tmp 4]) zp zL (zBt) Tryz.func62 (by kernel_rfl) (by kernel_rfl) rfl (by kernel_rfl) (ac:=zGd) (ob:=[((zt (za Tryz.f62) [1,1,0,1,0]),zu2)]) (by kernel_rfl) (fun X hX=>(zq (zw1 hX) zh)) (by kernel_rfl) (zJA)
def w94_c:ShC:={ inp:=⟨[(.agg [.hole,.hole,.hole]),(.agg [.hole,.hole,.hole])],[],[1,1,1,1,1,1],[.sl zx,.sl (.one (.sl (.one (.int .i64)))),.sl zx,.sl zx,.sl (.one (.sl (.one (.int .i64)))),.sl zx]⟩,out:=⟨[.hole],[],[2],[.bool]⟩,nres:=1,ms:=[],mu:=[],leak:=false,glob:=false,F:=fun (x:((List zd)×(List (List Int))×(List zd)×(List zd)×(List (List Int))×(List zd)))=>yA x.1 x.2.1 x.2.2.1 x.2.2.2.1 x.2.2.2.2.1 x.2.2.2.2.2 }
-- quaerelaw0.SameClause
def zFx:List (Nat×Con):=[(20,.gen (zU [w92_c])),(62,.gen (zU [w93_c]))]
def w94_v:Env:=zz tb gl zFx w94_c Tryz.f17.ntmps
theorem zIl:zB Tryz.prog (cond w94_c.glob gl fun _=>none) zFx:=(zb (ze (zc (w92_ok.anyGl rfl) zg)) (zb (ze (zc (w93_ok.anyGl rfl) zg)) zi))
def zGl:AC:=.run
theorem zK6 (x:z6 w94_c.inp.hs):E w94_v (za Tryz.f17) (zGl) (w94_c.entry x) (zD tb w94_v.fz w94_c [.tmp 4] x)=w94_c.F x:=by kernel_rfl
theorem w94_ok:ShOk Tryz.prog gl 17 w94_c :=
 zE (l:=zFx) (n:=Tryz.f17.ntmps) (code:=za Tryz.f17) (rts:=[.tmp 4]) zp zL (zIl) Tryz.func17 (by kernel_rfl) (by kernel_rfl) rfl (by kernel_rfl) (ac:=zGl) (ob:=[]) (by kernel_rfl) (fun X hX=>zh) (by kernel_rfl) (zK6)
def w95_c:ShC:={ inp:=⟨[.hole],[],[1],[.int .i64]⟩,out:=⟨[.hole],[],[2],[.int .i64]⟩,nres:=1,ms:=[],mu:=[],leak:=false,glob:=false,F:=fun (x:Int)=>zdI x }
-- quaerelaw0.Num
def zFg:List (Nat×Con):=[]
def w95_v:Env:=zz tb gl zFg w95_c Tryz.f18.ntmps
theorem zFZ:zB Tryz.prog (cond w95_c.glob gl fun _=>none) zFg:=zi
def zHr:AC:=.run
theorem zKV (x:z6 w95_c.inp.hs):E w95_v (za Tryz.f18) (zHr) (w95_c.entry x) (zD tb w95_v.fz w95_c [.tmp 2] x)=w95_c.F x:=by kernel_rfl
theorem w95_ok:ShOk Tryz.prog gl 18 w95_c :=
 zE (l:=zFg) (n:=Tryz.f18.ntmps) (code:=za Tryz.f18) (rts:=[.tmp 2]) zp zL (zFZ) Tryz.func18 (by kernel_rfl) (by kernel_rfl) rfl (by kernel_rfl) (ac:=zHr) (ob:=[]) (by kernel_rfl) (fun X hX=>zh) (by kernel_rfl) (zKV)
def w96_c:ShC:={ inp:=⟨[],[],[],[]⟩,out:=⟨[(.view 0)],[.seq false],[2],[.sl qr]⟩,nres:=1,ms:=[],mu:=[],leak:=false,glob:=false,F:=fun (x:Unit)=>zdp }
-- quaerelaw14.words
def zFB:List (Nat×Con):=[]
def w96_v:Env:=zz tb gl zFB w96_c Tryz.f76.ntmps
theorem zHz:zB Tryz.prog (cond w96_c.glob gl fun _=>none) zFB:=zi
def zIr:AC:=.run
theorem zJu (x:z6 w96_c.inp.hs):E w96_v (za Tryz.f76) (zIr) (w96_c.entry x) (zD tb w96_v.fz w96_c [.tmp 0] x)=w96_c.F x:=by kernel_rfl
theorem w96_ok:ShOk Tryz.prog gl 76 w96_c :=
 zE (l:=zFB) (n:=Tryz.f76.ntmps) (code:=za Tryz.f76) (rts:=[.tmp 0]) zp zL (zHz) Tryz.func76 (by kernel_rfl) (by kernel_rfl) rfl (by kernel_rfl) (ac:=zIr) (ob:=[]) (by kernel_rfl) (fun X hX=>zh) (by kernel_rfl) (zJu)
def w97_c:ShC:={ inp:=⟨[(.agg [.hole,.hole]),(.ptr 0 0)],[.cells true [.hole]],[1,1,1],[.bool,.sl (.one (.int .i64)),.sl qr]⟩,out:=⟨[.hole],[],[2],[.bool]⟩,nres:=1,ms:=[],mu:=[],leak:=false,glob:=true,F:=fun (x:(Bool×(List Int)×(List zm)))=>zkg x.1 x.2.1 x.2.2 }
-- lit.Tops$1
def zED:List (Nat×Con):=[(142,.gen (zU [w14_c]))]
def w97_v:Env:=zz tb gl zED w97_c Tryz.f141.ntmps
theorem zI6:zB Tryz.prog (cond w97_c.glob gl fun _=>none) zED:=(zb (ze (zc zs3 zg)) zi)
def zGU:AC:=.run
theorem zK9 (x:z6 w97_c.inp.hs):E w97_v (za Tryz.f141) (zGU) (w97_c.entry x) (zD tb w97_v.fz w97_c [.tmp 3] x)=w97_c.F x:=by kernel_rfl
theorem zF5:ShOk Tryz.prog gl 141 w97_c :=
 zE (l:=zED) (n:=Tryz.f141.ntmps) (code:=za Tryz.f141) (rts:=[.tmp 3]) zp zL (zI6) Tryz.func141 (by kernel_rfl) (by kernel_rfl) rfl (by kernel_rfl) (ac:=zGU) (ob:=[]) (by kernel_rfl) (fun X hX=>zh) (by kernel_rfl) (zK9)
def w98_c:ShC:={ inp:=⟨[.hole,(.clo 141 [(.ptr 0 0)])],[.cells true [.hole]],[1,1],[.sl zx,.sl qr]⟩,out:=⟨[.hole],[],[2],[.int .i64]⟩,nres:=1,ms:=[],mu:=[],leak:=false,glob:=true,F:=fun (x:((List zd)×(List zm)))=>zdJ x.1 x.2 }
-- slices.IndexFunc[[]api.Lit,api.Lit]
def zDx:List (Nat×Con):=[(141,.gen (zU [w97_c]))]
def w98_v:Env:=zz tb gl zDx w98_c Tryz.f183.ntmps
theorem zB7:zB Tryz.prog (cond w98_c.glob gl fun _=>none) zDx:=(zb (ze (zc zF5 zg)) zi)
def w98_u0_h:SS:=⟨[0,1,7,8],⟨[.hole,(.clo 141 [(.ptr 0 0)]),.hole,.hole],[.cells true [.hole]],[1,2,2,1],[.sl zx,.int .i64,.int .i64,.sl qr]⟩⟩
def znS:Exs:=[((.exit 0),⟨[],⟨[],[],[],[]⟩⟩),(.ret,⟨[4],⟨[.hole],[],[2],[.int .i64]⟩⟩)]
def zAW:AC:=.run
def zuO:Un:=lpU w98_v.fz [9,10,5,11,12,13,14,15,16,17,4,18,8] w98_u0_h znS (lp zba zr)
theorem zyI (f:w98_u0_h.X→Option (YT znS)) (x:w98_u0_h.X):E w98_v (zt (za Tryz.f183) [1,0,1,0,0]) (zAW) (mkS w98_u0_h 8 x) (zA w98_v.fz w98_u0_h znS f)=zba f x:=by kernel_rfl
theorem zvN {X:Fx} (hX:VOk Tryz.prog X w98_v):q8 Tryz.prog X w98_v (zt (za Tryz.f183) [1,0,1,0]) zuO :=
 zF (c:=(zt (za Tryz.f183) [1,0,1,0,0])) (by kernel_rfl) (zu zp (zB7)) zL (ob:=[]) (by kernel_rfl) (fun X hX=>zh) (zyI) (by kernel_rfl) (by kernel_rfl) hX
def zHJ:AC:=(.seq .run (.seq (.seq .run (.block (.unit zuO))) .run))
theorem zJq (x:z6 w98_c.inp.hs):E w98_v (za Tryz.f183) (zHJ) (w98_c.entry x) (zD tb w98_v.fz w98_c [.tmp 4] x)=w98_c.F x:=by kernel_rfl
theorem zHY:ShOk Tryz.prog gl 183 w98_c :=
 zE (l:=zDx) (n:=Tryz.f183.ntmps) (code:=za Tryz.f183) (rts:=[.tmp 4]) zp zL (zB7) Tryz.func183 (by kernel_rfl) (by kernel_rfl) rfl (by kernel_rfl) (ac:=zHJ) (ob:=[((zt (za Tryz.f183) [1,0,1,0]),zuO)]) (by kernel_rfl) (fun X hX=>(zq (zvN hX) zh)) (by kernel_rfl) (zJq)
def w99_c:ShC:={ inp:=⟨[.hole,(.clo 141 [(.ptr 0 0)])],[.cells true [.hole]],[1,1],[.sl zx,.sl qr]⟩,out:=⟨[.hole],[],[2],[.bool]⟩,nres:=1,ms:=[],mu:=[],leak:=false,glob:=true,F:=fun (x:((List zd)×(List zm)))=>zcy x.1 x.2 }
-- slices.ContainsFunc[[]api.Lit,api.Lit]
def zEo:List (Nat×Con):=[(183,.gen (zU [w98_c]))]
def w99_v:Env:=zz tb gl zEo w99_c Tryz.f133.ntmps
theorem zG7:zB Tryz.prog (cond w99_c.glob gl fun _=>none) zEo:=(zb (ze (zc zHY zg)) zi)
def zIy:AC:=.run
theorem zJ1 (x:z6 w99_c.inp.hs):E w99_v (za Tryz.f133) (zIy) (w99_c.entry x) (zD tb w99_v.fz w99_c [.tmp 4] x)=w99_c.F x:=by kernel_rfl
theorem zIE:ShOk Tryz.prog gl 133 w99_c :=
 zE (l:=zEo) (n:=Tryz.f133.ntmps) (code:=za Tryz.f133) (rts:=[.tmp 4]) zp zL (zG7) Tryz.func133 (by kernel_rfl) (by kernel_rfl) rfl (by kernel_rfl) (ac:=zIy) (ob:=[]) (by kernel_rfl) (fun X hX=>zh) (by kernel_rfl) (zJ1)
def w100_c:ShC:={ inp:=⟨[.hole,.hole],[],[1,1],[.sl qr,.sl (.one (.int .i64))]⟩,out:=⟨[.hole],[],[2],[.bool]⟩,nres:=1,ms:=[],mu:=[],leak:=false,glob:=true,F:=fun (x:((List zm)×(List Int)))=>zg2 x.1 x.2 }
-- term.IsTerm
def zt4:List (Nat×Con):=[(158,.gen (zU [w12_c]))]
def w100_v:Env:=zz tb gl zt4 w100_c Tryz.f100.ntmps
theorem zET:zB Tryz.prog (cond w100_c.glob gl fun _=>none) zt4:=(zb (ze (zc ztE zg)) zi)
def zB5:AC:=.run
theorem zHD (x:z6 w100_c.inp.hs):E w100_v (za Tryz.f100) (zB5) (w100_c.entry x) (zD tb w100_v.fz w100_c [.tmp 4] x)=w100_c.F x:=by kernel_rfl
theorem zDh:ShOk Tryz.prog gl 100 w100_c :=
 zE (l:=zt4) (n:=Tryz.f100.ntmps) (code:=za Tryz.f100) (rts:=[.tmp 4]) zp zL (zET) Tryz.func100 (by kernel_rfl) (by kernel_rfl) rfl (by kernel_rfl) (ac:=zB5) (ob:=[]) (by kernel_rfl) (fun X hX=>zh) (by kernel_rfl) (zHD)
def w101_c:ShC:={ inp:=⟨[.hole],[],[1],[.sl (.one (.int .i64))]⟩,out:=⟨[.hole],[],[2],[.ar (.one (.int .i64)) 24]⟩,nres:=1,ms:=[],mu:=[],leak:=false,glob:=false,F:=fun (x:(List Int))=>zg9 x }
-- order.often
def zvg:List (Nat×Con):=[(55,.gen (zU [w9_c]))]
def w101_v:Env:=zz tb gl zvg w101_c Tryz.f198.ntmps
theorem zv9:zB Tryz.prog (cond w101_c.glob gl fun _=>none) zvg:=(zb (ze (zc (w9_ok.anyGl rfl) zg)) zi)
def w101_u0_h:SS:=⟨[2,5,6,7],⟨[(.aptr 0),.hole,.hole,.hole],[.seq false],[1,2,2,2],[.sl (.one (.int .i64)),.int .i64,.int .i64,.sl (.one (.int .i64))]⟩⟩
def zkI:Exs:=[((.exit 0),⟨[2],⟨[(.aptr 0)],[.seq false],[2],[.sl (.one (.int .i64))]⟩⟩)]
def ztC:AC:=.run
def zp9:Un:=lpU w101_v.fz [8,9,10,4,11,12,13,14,15,16,17,18,19,7] w101_u0_h zkI (lp zdX zr)
theorem zxF (f:w101_u0_h.X→Option (YT zkI)) (x:w101_u0_h.X):E w101_v (zt (za Tryz.f198) [1,0,1,0,0]) (ztC) (mkS w101_u0_h 8 x) (zA w101_v.fz w101_u0_h zkI f)=zdX f x:=by kernel_rfl
theorem zr6 {X:Fx} (hX:VOk Tryz.prog X w101_v):q8 Tryz.prog X w101_v (zt (za Tryz.f198) [1,0,1,0]) zp9 :=
 zF (c:=(zt (za Tryz.f198) [1,0,1,0,0])) (by kernel_rfl) (zu zp (zv9)) zL (ob:=[]) (by kernel_rfl) (fun X hX=>zh) (zxF) (by kernel_rfl) (by kernel_rfl) hX
def zCr:AC:=(.seq .run (.seq (.seq .run (.block (.unit zp9))) .run))
theorem zHv (x:z6 w101_c.inp.hs):E w101_v (za Tryz.f198) (zCr) (w101_c.entry x) (zD tb w101_v.fz w101_c [.cell 2 178] x)=w101_c.F x:=by kernel_rfl
theorem w101_ok:ShOk Tryz.prog gl 198 w101_c :=
 zE (l:=zvg) (n:=Tryz.f198.ntmps) (code:=za Tryz.f198) (rts:=[.cell 2 178]) zp zL (zv9) Tryz.func198 (by kernel_rfl) (by kernel_rfl) rfl (by kernel_rfl) (ac:=zCr) (ob:=[((zt (za Tryz.f198) [1,0,1,0]),zp9)]) (by kernel_rfl) (fun X hX=>(zq (zr6 hX) zh)) (by kernel_rfl) (zHv)
def w102_c:ShC:={ inp:=⟨[.hole,.hole],[],[1,1],[.sl (.one (.int .i64)),.sl (.one (.int .i64))]⟩,out:=⟨[.hole],[],[2],[.bool]⟩,nres:=1,ms:=[],mu:=[],leak:=false,glob:=false,F:=fun (x:((List Int)×(List Int)))=>zjg x.1 x.2 }
-- order.covers
def zuV:List (Nat×Con):=[(198,.gen (zU [w101_c]))]
def w102_v:Env:=zz tb gl zuV w102_c Tryz.f159.ntmps
theorem zvD:zB Tryz.prog (cond w102_c.glob gl fun _=>none) zuV:=(zb (ze (zc (w101_ok.anyGl rfl) zg)) zi)
def w102_u0_h:SS:=⟨[5,6,12],⟨[(.aptr 0),(.aptr 1),.hole],[.seq false,.seq false],[2,2,2],[.int .i64,.sl (.one (.int .i64)),.sl (.one (.int .i64))]⟩⟩
def zkF:Exs:=[((.exit 0),⟨[],⟨[],[],[],[]⟩⟩),(.ret,⟨[4],⟨[.hole],[],[2],[.bool]⟩⟩)]
def zxh:AC:=.run
def zql:Un:=lpU w102_v.fz [13,14,7,15,16,17,18,19,20,21,4,22,12] w102_u0_h zkF (lp zdr zr)
theorem zw6 (f:w102_u0_h.X→Option (YT zkF)) (x:w102_u0_h.X):E w102_v (zt (za Tryz.f159) [1,1,0,1,0,0]) (zxh) (mkS w102_u0_h 8 x) (zA w102_v.fz w102_u0_h zkF f)=zdr f x:=by kernel_rfl
theorem zsc {X:Fx} (hX:VOk Tryz.prog X w102_v):q8 Tryz.prog X w102_v (zt (za Tryz.f159) [1,1,0,1,0]) zql :=
 zF (c:=(zt (za Tryz.f159) [1,1,0,1,0,0])) (by kernel_rfl) (zu zp (zvD)) zL (ob:=[]) (by kernel_rfl) (fun X hX=>zh) (zw6) (by kernel_rfl) (by kernel_rfl) hX
def zBs:AC:=(.seq .run (.seq .run (.seq (.seq .run (.block (.unit zql))) .run)))
theorem zGy (x:z6 w102_c.inp.hs):E w102_v (za Tryz.f159) (zBs) (w102_c.entry x) (zD tb w102_v.fz w102_c [.tmp 4] x)=w102_c.F x:=by kernel_rfl
theorem w102_ok:ShOk Tryz.prog gl 159 w102_c :=
 zE (l:=zuV) (n:=Tryz.f159.ntmps) (code:=za Tryz.f159) (rts:=[.tmp 4]) zp zL (zvD) Tryz.func159 (by kernel_rfl) (by kernel_rfl) rfl (by kernel_rfl) (ac:=zBs) (ob:=[((zt (za Tryz.f159) [1,1,0,1,0]),zql)]) (by kernel_rfl) (fun X hX=>(zq (zsc hX) zh)) (by kernel_rfl) (zGy)
def w103_c:ShC:={ inp:=⟨[.hole,.hole],[],[1,1],[.sl qr,.sl (.one (.int .i64))]⟩,out:=⟨[.hole],[],[2],[.int .i64]⟩,nres:=1,ms:=[],mu:=[],leak:=false,glob:=false,F:=fun (x:((List zm)×(List Int)))=>zne x.1 x.2 }
-- term.Sum
def zuy:List (Nat×Con):=[]
def w103_v:Env:=zz tb gl zuy w103_c Tryz.f160.ntmps
theorem zuX:zB Tryz.prog (cond w103_c.glob gl fun _=>none) zuy:=zi
def w103_u0_h:SS:=⟨[0,5,8,9,10],⟨[.hole,.hole,.hole,.hole,.hole],[],[1,2,1,2,2],[.sl qr,.int .i64,.sl (.one (.int .i64)),.int .i64,.int .i64]⟩⟩
def zj2:Exs:=[((.exit 0),⟨[5],⟨[.hole],[],[2],[.int .i64]⟩⟩)]
def ztR:AC:=.run
def zqn:Un:=lpU w103_v.fz [11,12,13,7,14,15,16,17,5,18,19,20,21,22,23,24,5,25,10] w103_u0_h zj2 (lp zg8 zr)
theorem zul (f:w103_u0_h.X→Option (YT zj2)) (x:w103_u0_h.X):E w103_v (zt (za Tryz.f160) [1,1,0,1,0,0]) (ztR) (mkS w103_u0_h 8 x) (zA w103_v.fz w103_u0_h zj2 f)=zg8 f x:=by kernel_rfl
theorem zse {X:Fx} (hX:VOk Tryz.prog X w103_v):q8 Tryz.prog X w103_v (zt (za Tryz.f160) [1,1,0,1,0]) zqn :=
 zF (c:=(zt (za Tryz.f160) [1,1,0,1,0,0])) (by kernel_rfl) (zu zp (zuX)) zL (ob:=[]) (by kernel_rfl) (fun X hX=>zh) (zul) (by kernel_rfl) (by kernel_rfl) hX
def zBW:AC:=(.seq .run (.seq .run (.seq (.seq .run (.block (.unit zqn))) .run)))
theorem zGz (x:z6 w103_c.inp.hs):E w103_v (za Tryz.f160) (zBW) (w103_c.entry x) (zD tb w103_v.fz w103_c [.tmp 4] x)=w103_c.F x:=by kernel_rfl
theorem w103_ok:ShOk Tryz.prog gl 160 w103_c :=
 zE (l:=zuy) (n:=Tryz.f160.ntmps) (code:=za Tryz.f160) (rts:=[.tmp 4]) zp zL (zuX) Tryz.func160 (by kernel_rfl) (by kernel_rfl) rfl (by kernel_rfl) (ac:=zBW) (ob:=[((zt (za Tryz.f160) [1,1,0,1,0]),zqn)]) (by kernel_rfl) (fun X hX=>(zq (zse hX) zh)) (by kernel_rfl) (zGz)
def w104_c:ShC:={ inp:=⟨[.hole,.hole,.hole],[],[1,1,1],[.sl qr,.sl (.one (.int .i64)),.sl (.one (.int .i64))]⟩,out:=⟨[.hole,.hole],[],[0,0],[.sl (.one (.int .i64)),.sl (.one (.int .i64))]⟩,nres:=2,ms:=[],mu:=[],leak:=true,glob:=false,F:=fun (x:((List zm)×(List Int)×(List Int)))=>zjh x.1 x.2.1 x.2.2 }
-- order.unlike
def zxO:List (Nat×Con):=[(102,.gen (zU [w43_c])),(175,.gen (zU [w20_c]))]
def w104_v:Env:=zz tb gl zxO w104_c Tryz.f161.ntmps
theorem zwM:zB Tryz.prog (cond w104_c.glob gl fun _=>none) zxO:=(zb (ze (zc (w43_ok.anyGl rfl) zg)) (zb (ze (zc (w20_ok.anyGl rfl) zg)) zi))
def w104_u0_h:SS:=⟨[8,16,17,18],⟨[.hole,.hole,.hole,.hole],[],[0,0,2,2],[.sl (.one (.sl (.one (.int .i64)))),.sl (.one (.sl (.one (.int .i64)))),.int .i64,.int .i64]⟩⟩
def zkV:Exs:=[((.exit 0),⟨[],⟨[],[],[],[]⟩⟩),(.ret,⟨[6,7],⟨[.hole,.hole],[],[0,0],[.sl (.one (.int .i64)),.sl (.one (.int .i64))]⟩⟩)]
def zwx:AC:=.run
def zpZ:Un:=lpU w104_v.fz [19,20,21,22,9,10,23,24,25,26,27,28,29,30,31,32,33,34,35,36,37,38,39,40,6,7,41,18] w104_u0_h zkV (lp zc8 zr)
theorem ztL (f:w104_u0_h.X→Option (YT zkV)) (x:w104_u0_h.X):E w104_v (zt (za Tryz.f161) [1,1,0,1,0,0]) (zwx) (mkS w104_u0_h 8 x) (zA w104_v.fz w104_u0_h zkV f)=zc8 f x:=by kernel_rfl
theorem zrU {X:Fx} (hX:VOk Tryz.prog X w104_v):q8 Tryz.prog X w104_v (zt (za Tryz.f161) [1,1,0,1,0]) zpZ :=
 zF (c:=(zt (za Tryz.f161) [1,1,0,1,0,0])) (by kernel_rfl) (zu zp (zwM)) zL (ob:=[]) (by kernel_rfl) (fun X hX=>zh) (ztL) (by kernel_rfl) (by kernel_rfl) hX
def zBd:AC:=(.seq .run (.seq .run (.seq (.seq .run (.block (.unit zpZ))) .run)))
theorem zIf (x:z6 w104_c.inp.hs):E w104_v (za Tryz.f161) (zBd) (w104_c.entry x) (zD tb w104_v.fz w104_c [.tmp 6,.tmp 7] x)=w104_c.F x:=by kernel_rfl
theorem w104_ok:ShOk Tryz.prog gl 161 w104_c :=
 zE (l:=zxO) (n:=Tryz.f161.ntmps) (code:=za Tryz.f161) (rts:=[.tmp 6,.tmp 7]) zp zL (zwM) Tryz.func161 (by kernel_rfl) (by kernel_rfl) rfl (by kernel_rfl) (ac:=zBd) (ob:=[((zt (za Tryz.f161) [1,1,0,1,0]),zpZ)]) (by kernel_rfl) (fun X hX=>(zq (zrU hX) zh)) (by kernel_rfl) (zIf)
def w105_c:ShC:={ inp:=⟨[.hole,.hole,.hole],[],[1,1,1],[.sl qr,.sl (.one (.int .i64)),.sl (.one (.int .i64))]⟩,out:=⟨[.hole],[],[2],[.bool]⟩,nres:=1,ms:=[],mu:=[],leak:=false,glob:=false,F:=fun (x:((List zm)×(List Int)×(List Int)))=>zbr x.1 x.2.1 x.2.2 }
-- order.more
def zuu:List (Nat×Con):=[(159,.gen (zU [w102_c])),(160,.gen (zU [w103_c])),(161,.gen (zU [w104_c]))]
def w105_v:Env:=zz tb gl zuu w105_c Tryz.f103.ntmps
theorem ztN:zB Tryz.prog (cond w105_c.glob gl fun _=>none) zuu:=(zb (ze (zc (w102_ok.anyGl rfl) zg)) (zb (ze (zc (w103_ok.anyGl rfl) zg)) (zb (ze (zc (w104_ok.anyGl rfl) zg)) zi)))
def w105_u0_h:SS:=⟨[0,1,2],⟨[.hole,.hole,.hole],[],[1,0,0],[.sl qr,.sl (.one (.int .i64)),.sl (.one (.int .i64))]⟩⟩
def zj8:Exs:=[((.exit 0),⟨[],⟨[],[],[],[]⟩⟩),(.ret,⟨[6],⟨[.hole],[],[2],[.bool]⟩⟩)]
def zvQ:AC:=.run
def zqs:Un:=lpU w105_v.fz [9,10,11,12,13,14,15,16,17,18,19,20,21,7,8,22,23,24,25,26,27,6,28,29,30,31,32,33,34,35,36,37,38,39,40,41,6,43,44,45,46,47,48,42,49,50,1,2] w105_u0_h zj8 (lp zeW zr)
theorem zwp (f:w105_u0_h.X→Option (YT zj8)) (x:w105_u0_h.X):E w105_v (zt (za Tryz.f103) [1,0,0,0]) (zvQ) (mkS w105_u0_h 8 x) (zA w105_v.fz w105_u0_h zj8 f)=zeW f x:=by kernel_rfl
theorem zsG {X:Fx} (hX:VOk Tryz.prog X w105_v):q8 Tryz.prog X w105_v (zt (za Tryz.f103) [1,0,0]) zqs :=
 zF (c:=(zt (za Tryz.f103) [1,0,0,0])) (by kernel_rfl) (zu zp (ztN)) zL (ob:=[]) (by kernel_rfl) (fun X hX=>zh) (zwp) (by kernel_rfl) (by kernel_rfl) hX
def zA7:AC:=(.seq .run (.seq (.block (.unit zqs)) .run))
theorem zF9 (x:z6 w105_c.inp.hs):E w105_v (za Tryz.f103) (zA7) (w105_c.entry x) (zD tb w105_v.fz w105_c [.tmp 6] x)=w105_c.F x:=by kernel_rfl
theorem w105_ok:ShOk Tryz.prog gl 103 w105_c :=
 zE (l:=zuu) (n:=Tryz.f103.ntmps) (code:=za Tryz.f103) (rts:=[.tmp 6]) zp zL (ztN) Tryz.func103 (by kernel_rfl) (by kernel_rfl) rfl (by kernel_rfl) (ac:=zA7) (ob:=[((zt (za Tryz.f103) [1,0,0]),zqs)]) (by kernel_rfl) (fun X hX=>(zq (zsG hX) zh)) (by kernel_rfl) (zF9)
def w106_c:ShC:={ inp:=⟨[.hole,.hole,.hole],[],[1,1,1],[.sl qr,.sl (.one (.int .i64)),.sl (.one (.int .i64))]⟩,out:=⟨[.hole,.hole],[],[2,2],[.int .i64,.int .i64]⟩,nres:=2,ms:=[],mu:=[],leak:=false,glob:=true,F:=fun (x:((List zm)×(List Int)×(List Int)))=>zhX x.1 x.2.1 x.2.2 }
-- order.Compare
def zwQ:List (Nat×Con):=[(100,.gen (zU [w100_c])),(101,.gen (zU [w13_c])),(102,.gen (zU [w43_c])),(103,.gen (zU [w105_c]))]
def w106_v:Env:=zz tb gl zwQ w106_c Tryz.f41.ntmps
theorem zFa:zB Tryz.prog (cond w106_c.glob gl fun _=>none) zwQ:=(zb (ze (zc zDh zg)) (zb (ze (zc zBX zg)) (zb (ze (zc (w43_ok.anyGl rfl) zg)) (zb (ze (zc (w105_ok.anyGl rfl) zg)) zi))))
def zA6:AC:=.run
theorem zGS (x:z6 w106_c.inp.hs):E w106_v (za Tryz.f41) (zA6) (w106_c.entry x) (zD tb w106_v.fz w106_c [.tmp 6,.tmp 7] x)=w106_c.F x:=by kernel_rfl
theorem zCU:ShOk Tryz.prog gl 41 w106_c :=
 zE (l:=zwQ) (n:=Tryz.f41.ntmps) (code:=za Tryz.f41) (rts:=[.tmp 6,.tmp 7]) zp zL (zFa) Tryz.func41 (by kernel_rfl) (by kernel_rfl) rfl (by kernel_rfl) (ac:=zA6) (ob:=[]) (by kernel_rfl) (fun X hX=>zh) (by kernel_rfl) (zGS)
def w107_c:ShC:={ inp:=⟨[.hole,(.agg [.hole,.hole]),(.agg [.hole,.hole])],[],[1,1,1,1,1],[.sl qr,.bool,.sl (.one (.int .i64)),.bool,.sl (.one (.int .i64))]⟩,out:=⟨[.hole,.hole],[],[2,2],[.int .i64,.int .i64]⟩,nres:=2,ms:=[],mu:=[],leak:=false,glob:=true,F:=fun (x:((List zm)×Bool×(List Int)×Bool×(List Int)))=>zkn x.1 x.2.1 x.2.2.1 x.2.2.2.1 x.2.2.2.2 }
-- lit.Compare
def zsX:List (Nat×Con):=[(41,.gen (zU [w106_c])),(142,.gen (zU [w14_c]))]
def w107_v:Env:=zz tb gl zsX w107_c Tryz.f144.ntmps
theorem zEG:zB Tryz.prog (cond w107_c.glob gl fun _=>none) zsX:=(zb (ze (zc zCU zg)) (zb (ze (zc zs3 zg)) zi))
def zBl:AC:=.run
theorem zIc (x:z6 w107_c.inp.hs):E w107_v (za Tryz.f144) (zBl) (w107_c.entry x) (zD tb w107_v.fz w107_c [.tmp 6,.tmp 7] x)=w107_c.F x:=by kernel_rfl
theorem zDI:ShOk Tryz.prog gl 144 w107_c :=
 zE (l:=zsX) (n:=Tryz.f144.ntmps) (code:=za Tryz.f144) (rts:=[.tmp 6,.tmp 7]) zp zL (zEG) Tryz.func144 (by kernel_rfl) (by kernel_rfl) rfl (by kernel_rfl) (ac:=zBl) (ob:=[]) (by kernel_rfl) (fun X hX=>zh) (by kernel_rfl) (zIc)
def w108_c:ShC:={ inp:=⟨[(.agg [.hole,.hole]),(.ptr 0 0),(.ptr 1 0)],[.cells true [.hole],.cells true [.hole,.hole]],[1,1,1,1,1],[.bool,.sl (.one (.int .i64)),.sl qr,.bool,.sl (.one (.int .i64))]⟩,out:=⟨[.hole],[],[2],[.bool]⟩,nres:=1,ms:=[],mu:=[],leak:=false,glob:=true,F:=fun (x:(Bool×(List Int)×(List zm)×Bool×(List Int)))=>zj1 x.1 x.2.1 x.2.2.1 x.2.2.2.1 x.2.2.2.2 }
-- lit.Tops$2
def zs8:List (Nat×Con):=[(144,.gen (zU [w107_c]))]
def w108_v:Env:=zz tb gl zs8 w108_c Tryz.f143.ntmps
theorem zEt:zB Tryz.prog (cond w108_c.glob gl fun _=>none) zs8:=(zb (ze (zc zDI zg)) zi)
def zBN:AC:=.run
theorem zHW (x:z6 w108_c.inp.hs):E w108_v (za Tryz.f143) (zBN) (w108_c.entry x) (zD tb w108_v.fz w108_c [.tmp 4] x)=w108_c.F x:=by kernel_rfl
theorem zE5:ShOk Tryz.prog gl 143 w108_c :=
 zE (l:=zs8) (n:=Tryz.f143.ntmps) (code:=za Tryz.f143) (rts:=[.tmp 4]) zp zL (zEt) Tryz.func143 (by kernel_rfl) (by kernel_rfl) rfl (by kernel_rfl) (ac:=zBN) (ob:=[]) (by kernel_rfl) (fun X hX=>zh) (by kernel_rfl) (zHW)
def w109_c:ShC:={ inp:=⟨[.hole,(.clo 143 [(.ptr 0 0),(.ptr 1 0)])],[.cells true [.hole],.cells true [.hole,.hole]],[1,1,1,1],[.sl zx,.sl qr,.bool,.sl (.one (.int .i64))]⟩,out:=⟨[.hole],[],[2],[.int .i64]⟩,nres:=1,ms:=[],mu:=[],leak:=false,glob:=true,F:=fun (x:((List zd)×(List zm)×Bool×(List Int)))=>zdG x.1 x.2.1 x.2.2.1 x.2.2.2 }
-- slices.IndexFunc[[]api.Lit,api.Lit]
def zug:List (Nat×Con):=[(143,.gen (zU [w108_c]))]
def w109_v:Env:=zz tb gl zug w109_c Tryz.f183.ntmps
theorem zsU:zB Tryz.prog (cond w109_c.glob gl fun _=>none) zug:=(zb (ze (zc zE5 zg)) zi)
def w109_u0_h:SS:=⟨[0,1,7,8],⟨[.hole,(.clo 143 [(.ptr 0 0),(.ptr 1 0)]),.hole,.hole],[.cells true [.hole],.cells true [.hole,.hole]],[1,2,2,1,2,1],[.sl zx,.int .i64,.int .i64,.sl qr,.bool,.sl (.one (.int .i64))]⟩⟩
def zjY:Exs:=[((.exit 0),⟨[],⟨[],[],[],[]⟩⟩),(.ret,⟨[4],⟨[.hole],[],[2],[.int .i64]⟩⟩)]
def zxo:AC:=.run
def zqe:Un:=lpU w109_v.fz [9,10,5,11,12,13,14,15,16,17,4,18,8] w109_u0_h zjY (lp zbd zr)
theorem ztI (f:w109_u0_h.X→Option (YT zjY)) (x:w109_u0_h.X):E w109_v (zt (za Tryz.f183) [1,0,1,0,0]) (zxo) (mkS w109_u0_h 8 x) (zA w109_v.fz w109_u0_h zjY f)=zbd f x:=by kernel_rfl
theorem zrQ {X:Fx} (hX:VOk Tryz.prog X w109_v):q8 Tryz.prog X w109_v (zt (za Tryz.f183) [1,0,1,0]) zqe :=
 zF (c:=(zt (za Tryz.f183) [1,0,1,0,0])) (by kernel_rfl) (zu zp (zsU)) zL (ob:=[]) (by kernel_rfl) (fun X hX=>zh) (ztI) (by kernel_rfl) (by kernel_rfl) hX
def zB1:AC:=(.seq .run (.seq (.seq .run (.block (.unit zqe))) .run))
theorem zIg (x:z6 w109_c.inp.hs):E w109_v (za Tryz.f183) (zB1) (w109_c.entry x) (zD tb w109_v.fz w109_c [.tmp 4] x)=w109_c.F x:=by kernel_rfl
theorem zDN:ShOk Tryz.prog gl 183 w109_c :=
 zE (l:=zug) (n:=Tryz.f183.ntmps) (code:=za Tryz.f183) (rts:=[.tmp 4]) zp zL (zsU) Tryz.func183 (by kernel_rfl) (by kernel_rfl) rfl (by kernel_rfl) (ac:=zB1) (ob:=[((zt (za Tryz.f183) [1,0,1,0]),zqe)]) (by kernel_rfl) (fun X hX=>(zq (zrQ hX) zh)) (by kernel_rfl) (zIg)
def w110_c:ShC:={ inp:=⟨[.hole,(.clo 143 [(.ptr 0 0),(.ptr 1 0)])],[.cells true [.hole],.cells true [.hole,.hole]],[1,1,1,1],[.sl zx,.sl qr,.bool,.sl (.one (.int .i64))]⟩,out:=⟨[.hole],[],[2],[.bool]⟩,nres:=1,ms:=[],mu:=[],leak:=false,glob:=true,F:=fun (x:((List zd)×(List zm)×Bool×(List Int)))=>zcC x.1 x.2.1 x.2.2.1 x.2.2.2 }
-- slices.ContainsFunc[[]api.Lit,api.Lit]
def ztc:List (Nat×Con):=[(183,.gen (zU [w109_c]))]
def w110_v:Env:=zz tb gl ztc w110_c Tryz.f133.ntmps
theorem zDX:zB Tryz.prog (cond w110_c.glob gl fun _=>none) ztc:=(zb (ze (zc zDN zg)) zi)
def zBD:AC:=.run
theorem zI0 (x:z6 w110_c.inp.hs):E w110_v (za Tryz.f133) (zBD) (w110_c.entry x) (zD tb w110_v.fz w110_c [.tmp 4] x)=w110_c.F x:=by kernel_rfl
theorem zE6:ShOk Tryz.prog gl 133 w110_c :=
 zE (l:=ztc) (n:=Tryz.f133.ntmps) (code:=za Tryz.f133) (rts:=[.tmp 4]) zp zL (zDX) Tryz.func133 (by kernel_rfl) (by kernel_rfl) rfl (by kernel_rfl) (ac:=zBD) (ob:=[]) (by kernel_rfl) (fun X hX=>zh) (by kernel_rfl) (zI0)
def w111_c:ShC:={ inp:=⟨[.hole,.hole],[],[1,1],[.sl qr,.sl zx]⟩,out:=⟨[(.view 0),.hole],[.seq false],[2,2],[.int .i64,.sl (.one (.int .i64))]⟩,nres:=2,ms:=[],mu:=[],leak:=false,glob:=true,F:=fun (x:((List zm)×(List zd)))=>zq2 x.1 x.2 }
-- lit.Tops
def zvx:List (Nat×Con):=[(52,.gen (zU [w8_c])),(133,.gen (zU [w99_c,w110_c]))]
def w111_v:Env:=zz tb gl zvx w111_c Tryz.f77.ntmps
theorem zwj:zB Tryz.prog (cond w111_c.glob gl fun _=>none) zvx:=(zb (ze (zc zCJ zg)) (zb (ze (zc zIE (zc zE6 zg))) zi))
def w111_u0_h:SS:=⟨[1,2,6,17,18,19],⟨[.hole,(.ptr 0 0),(.view 1),.hole,.hole,.hole],[.cells true [.hole],.seq false],[1,1,2,2,1,2],[.sl zx,.sl zx,.int .i64,.int .i64,.sl qr,.sl (.one (.int .i64))]⟩⟩
def zkJ:Exs:=[((.exit 0),⟨[6],⟨[(.view 0)],[.seq false],[2],[.sl (.one (.int .i64))]⟩⟩)]
def zwi:AC:=.run
def zpQ:Un:=lpU w111_v.fz [20,21,22,23,8,7,24,25,26,27,28,29,30,31,6,32,19] w111_u0_h zkJ (lp zhq zr)
theorem zxi (f:w111_u0_h.X→Option (YT zkJ)) (x:w111_u0_h.X):E w111_v (zt (za Tryz.f77) [1,1,1,0,1,0,0]) (zwi) (mkS w111_u0_h 8 x) (zA w111_v.fz w111_u0_h zkJ f)=zhq f x:=by kernel_rfl
theorem zsr {X:Fx} (hX:VOk Tryz.prog X w111_v):q8 Tryz.prog X w111_v (zt (za Tryz.f77) [1,1,1,0,1,0]) zpQ :=
 zF (c:=(zt (za Tryz.f77) [1,1,1,0,1,0,0])) (by kernel_rfl) (zu zp (zwj)) zL (ob:=[]) (by kernel_rfl) (fun X hX=>zh) (zxi) (by kernel_rfl) (by kernel_rfl) hX
def zB0:AC:=(.seq .run (.seq .run (.seq .run (.seq (.seq .run (.block (.unit zpQ))) .run))))
theorem zHu (x:z6 w111_c.inp.hs):E w111_v (za Tryz.f77) (zB0) (w111_c.entry x) (zD tb w111_v.fz w111_c [.tmp 4,.tmp 5] x)=w111_c.F x:=by kernel_rfl
theorem zDV:ShOk Tryz.prog gl 77 w111_c :=
 zE (l:=zvx) (n:=Tryz.f77.ntmps) (code:=za Tryz.f77) (rts:=[.tmp 4,.tmp 5]) zp zL (zwj) Tryz.func77 (by kernel_rfl) (by kernel_rfl) rfl (by kernel_rfl) (ac:=zB0) (ob:=[((zt (za Tryz.f77) [1,1,1,0,1,0]),zpQ)]) (by kernel_rfl) (fun X hX=>(zq (zsr hX) zh)) (by kernel_rfl) (zHu)
def w112_c:ShC:={ inp:=⟨[.hole,.hole],[],[1,1],[.sl (.one (.int .i64)),.int .i64]⟩,out:=⟨[.hole],[],[2],[.int .i64]⟩,nres:=1,ms:=[],mu:=[],leak:=false,glob:=false,F:=fun (x:((List Int)×Int))=>zjw x.1 x.2 }
-- slices.Index[[]int,int]
def zxI:List (Nat×Con):=[]
def w112_v:Env:=zz tb gl zxI w112_c Tryz.f145.ntmps
theorem zxw:zB Tryz.prog (cond w112_c.glob gl fun _=>none) zxI:=zi
def w112_u0_h:SS:=⟨[0,1,7,8],⟨[.hole,.hole,.hole,.hole],[],[1,2,2,2],[.sl (.one (.int .i64)),.int .i64,.int .i64,.int .i64]⟩⟩
def zk6:Exs:=[((.exit 0),⟨[],⟨[],[],[],[]⟩⟩),(.ret,⟨[4],⟨[.hole],[],[2],[.int .i64]⟩⟩)]
def zxd:AC:=.run
def zpC:Un:=lpU w112_v.fz [9,10,5,11,12,13,14,15,16,17,4,18,8] w112_u0_h zk6 (lp zdm zr)
theorem zxL (f:w112_u0_h.X→Option (YT zk6)) (x:w112_u0_h.X):E w112_v (zt (za Tryz.f145) [1,0,1,0,0]) (zxd) (mkS w112_u0_h 8 x) (zA w112_v.fz w112_u0_h zk6 f)=zdm f x:=by kernel_rfl
theorem zsx {X:Fx} (hX:VOk Tryz.prog X w112_v):q8 Tryz.prog X w112_v (zt (za Tryz.f145) [1,0,1,0]) zpC :=
 zF (c:=(zt (za Tryz.f145) [1,0,1,0,0])) (by kernel_rfl) (zu zp (zxw)) zL (ob:=[]) (by kernel_rfl) (fun X hX=>zh) (zxL) (by kernel_rfl) (by kernel_rfl) hX
def zBm:AC:=(.seq .run (.seq (.seq .run (.block (.unit zpC))) .run))
theorem zHI (x:z6 w112_c.inp.hs):E w112_v (za Tryz.f145) (zBm) (w112_c.entry x) (zD tb w112_v.fz w112_c [.tmp 4] x)=w112_c.F x:=by kernel_rfl
theorem w112_ok:ShOk Tryz.prog gl 145 w112_c :=
 zE (l:=zxI) (n:=Tryz.f145.ntmps) (code:=za Tryz.f145) (rts:=[.tmp 4]) zp zL (zxw) Tryz.func145 (by kernel_rfl) (by kernel_rfl) rfl (by kernel_rfl) (ac:=zBm) (ob:=[((zt (za Tryz.f145) [1,0,1,0]),zpC)]) (by kernel_rfl) (fun X hX=>(zq (zsx hX) zh)) (by kernel_rfl) (zHI)
def w113_c:ShC:={ inp:=⟨[.hole,.hole],[],[1,1],[.sl (.one (.int .i64)),.int .i64]⟩,out:=⟨[.hole],[],[2],[.bool]⟩,nres:=1,ms:=[],mu:=[],leak:=false,glob:=false,F:=fun (x:((List Int)×Int))=>zdj x.1 x.2 }
-- slices.Contains[[]int,int]
def zvt:List (Nat×Con):=[(145,.gen (zU [w112_c]))]
def w113_v:Env:=zz tb gl zvt w113_c Tryz.f78.ntmps
theorem zD8:zB Tryz.prog (cond w113_c.glob gl fun _=>none) zvt:=(zb (ze (zc (w112_ok.anyGl rfl) zg)) zi)
def zCd:AC:=.run
theorem zHT (x:z6 w113_c.inp.hs):E w113_v (za Tryz.f78) (zCd) (w113_c.entry x) (zD tb w113_v.fz w113_c [.tmp 4] x)=w113_c.F x:=by kernel_rfl
theorem w113_ok:ShOk Tryz.prog gl 78 w113_c :=
 zE (l:=zvt) (n:=Tryz.f78.ntmps) (code:=za Tryz.f78) (rts:=[.tmp 4]) zp zL (zD8) Tryz.func78 (by kernel_rfl) (by kernel_rfl) rfl (by kernel_rfl) (ac:=zCd) (ob:=[]) (by kernel_rfl) (fun X hX=>zh) (by kernel_rfl) (zHT)
def w114_c:ShC:={ inp:=⟨[.hole,(.agg [.hole,.hole])],[],[1,1,1],[.sl qr,.bool,.sl (.one (.int .i64))]⟩,out:=⟨[.hole],[],[2],[.bool]⟩,nres:=1,ms:=[],mu:=[],leak:=false,glob:=false,F:=fun (x:((List zm)×Bool×(List Int)))=>zfw x.1 x.2.1 x.2.2 }
-- clause.selfSame
def ztV:List (Nat×Con):=[(102,.gen (zU [w43_c])),(175,.gen (zU [w20_c]))]
def w114_v:Env:=zz tb gl ztV w114_c Tryz.f190.ntmps
theorem zEN:zB Tryz.prog (cond w114_c.glob gl fun _=>none) ztV:=(zb (ze (zc (w43_ok.anyGl rfl) zg)) (zb (ze (zc (w20_ok.anyGl rfl) zg)) zi))
def zBb:AC:=.run
theorem zJa (x:z6 w114_c.inp.hs):E w114_v (za Tryz.f190) (zBb) (w114_c.entry x) (zD tb w114_v.fz w114_c [.tmp 4] x)=w114_c.F x:=by kernel_rfl
theorem w114_ok:ShOk Tryz.prog gl 190 w114_c :=
 zE (l:=ztV) (n:=Tryz.f190.ntmps) (code:=za Tryz.f190) (rts:=[.tmp 4]) zp zL (zEN) Tryz.func190 (by kernel_rfl) (by kernel_rfl) rfl (by kernel_rfl) (ac:=zBb) (ob:=[]) (by kernel_rfl) (fun X hX=>zh) (by kernel_rfl) (zJa)
def w115_c:ShC:={ inp:=⟨[(.agg [.hole,.hole]),(.ptr 0 0)],[.cells true [.hole,.hole]],[1,1,1,1],[.bool,.sl (.one (.int .i64)),.bool,.sl (.one (.int .i64))]⟩,out:=⟨[.hole],[],[2],[.bool]⟩,nres:=1,ms:=[],mu:=[],leak:=false,glob:=false,F:=fun (x:(Bool×(List Int)×Bool×(List Int)))=>zea x.1 x.2.1 x.2.2.1 x.2.2.2 }
-- clause.Trivial$1
def zvU:List (Nat×Con):=[(102,.gen (zU [w43_c]))]
def w115_v:Env:=zz tb gl zvU w115_c Tryz.f191.ntmps
theorem zD4:zB Tryz.prog (cond w115_c.glob gl fun _=>none) zvU:=(zb (ze (zc (w43_ok.anyGl rfl) zg)) zi)
def zCD:AC:=.run
theorem zGb (x:z6 w115_c.inp.hs):E w115_v (za Tryz.f191) (zCD) (w115_c.entry x) (zD tb w115_v.fz w115_c [.tmp 3] x)=w115_c.F x:=by kernel_rfl
theorem w115_ok:ShOk Tryz.prog gl 191 w115_c :=
 zE (l:=zvU) (n:=Tryz.f191.ntmps) (code:=za Tryz.f191) (rts:=[.tmp 3]) zp zL (zD4) Tryz.func191 (by kernel_rfl) (by kernel_rfl) rfl (by kernel_rfl) (ac:=zCD) (ob:=[]) (by kernel_rfl) (fun X hX=>zh) (by kernel_rfl) (zGb)
def w116_c:ShC:={ inp:=⟨[.hole,(.clo 191 [(.ptr 0 0)])],[.cells true [.hole,.hole]],[1,1,1],[.sl zx,.bool,.sl (.one (.int .i64))]⟩,out:=⟨[.hole],[],[2],[.int .i64]⟩,nres:=1,ms:=[],mu:=[],leak:=false,glob:=false,F:=fun (x:((List zd)×Bool×(List Int)))=>zdD x.1 x.2.1 x.2.2 }
-- slices.IndexFunc[[]api.Lit,api.Lit]
def zvH:List (Nat×Con):=[(191,.gen (zU [w115_c]))]
def w116_v:Env:=zz tb gl zvH w116_c Tryz.f183.ntmps
theorem zwr:zB Tryz.prog (cond w116_c.glob gl fun _=>none) zvH:=(zb (ze (zc (w115_ok.anyGl rfl) zg)) zi)
def w116_u0_h:SS:=⟨[0,1,7,8],⟨[.hole,(.clo 191 [(.ptr 0 0)]),.hole,.hole],[.cells true [.hole,.hole]],[1,2,2,2,1],[.sl zx,.int .i64,.int .i64,.bool,.sl (.one (.int .i64))]⟩⟩
def zkx:Exs:=[((.exit 0),⟨[],⟨[],[],[],[]⟩⟩),(.ret,⟨[4],⟨[.hole],[],[2],[.int .i64]⟩⟩)]
def zwv:AC:=.run
def zqu:Un:=lpU w116_v.fz [9,10,5,11,12,13,14,15,16,17,4,18,8] w116_u0_h zkx (lp zbc zr)
theorem zux (f:w116_u0_h.X→Option (YT zkx)) (x:w116_u0_h.X):E w116_v (zt (za Tryz.f183) [1,0,1,0,0]) (zwv) (mkS w116_u0_h 8 x) (zA w116_v.fz w116_u0_h zkx f)=zbc f x:=by kernel_rfl
theorem zst {X:Fx} (hX:VOk Tryz.prog X w116_v):q8 Tryz.prog X w116_v (zt (za Tryz.f183) [1,0,1,0]) zqu :=
 zF (c:=(zt (za Tryz.f183) [1,0,1,0,0])) (by kernel_rfl) (zu zp (zwr)) zL (ob:=[]) (by kernel_rfl) (fun X hX=>zh) (zux) (by kernel_rfl) (by kernel_rfl) hX
def zBf:AC:=(.seq .run (.seq (.seq .run (.block (.unit zqu))) .run))
theorem zFY (x:z6 w116_c.inp.hs):E w116_v (za Tryz.f183) (zBf) (w116_c.entry x) (zD tb w116_v.fz w116_c [.tmp 4] x)=w116_c.F x:=by kernel_rfl
theorem w116_ok:ShOk Tryz.prog gl 183 w116_c :=
 zE (l:=zvH) (n:=Tryz.f183.ntmps) (code:=za Tryz.f183) (rts:=[.tmp 4]) zp zL (zwr) Tryz.func183 (by kernel_rfl) (by kernel_rfl) rfl (by kernel_rfl) (ac:=zBf) (ob:=[((zt (za Tryz.f183) [1,0,1,0]),zqu)]) (by kernel_rfl) (fun X hX=>(zq (zst hX) zh)) (by kernel_rfl) (zFY)
def w117_c:ShC:={ inp:=⟨[.hole,(.clo 191 [(.ptr 0 0)])],[.cells true [.hole,.hole]],[1,1,1],[.sl zx,.bool,.sl (.one (.int .i64))]⟩,out:=⟨[.hole],[],[2],[.bool]⟩,nres:=1,ms:=[],mu:=[],leak:=false,glob:=false,F:=fun (x:((List zd)×Bool×(List Int)))=>zcG x.1 x.2.1 x.2.2 }
-- slices.ContainsFunc[[]api.Lit,api.Lit]
def zun:List (Nat×Con):=[(183,.gen (zU [w116_c]))]
def w117_v:Env:=zz tb gl zun w117_c Tryz.f133.ntmps
theorem zFe:zB Tryz.prog (cond w117_c.glob gl fun _=>none) zun:=(zb (ze (zc (w116_ok.anyGl rfl) zg)) zi)
def zBw:AC:=.run
theorem zGe (x:z6 w117_c.inp.hs):E w117_v (za Tryz.f133) (zBw) (w117_c.entry x) (zD tb w117_v.fz w117_c [.tmp 4] x)=w117_c.F x:=by kernel_rfl
theorem w117_ok:ShOk Tryz.prog gl 133 w117_c :=
 zE (l:=zun) (n:=Tryz.f133.ntmps) (code:=za Tryz.f133) (rts:=[.tmp 4]) zp zL (zFe) Tryz.func133 (by kernel_rfl) (by kernel_rfl) rfl (by kernel_rfl) (ac:=zBw) (ob:=[]) (by kernel_rfl) (fun X hX=>zh) (by kernel_rfl) (zGe)
def w118_c:ShC:={ inp:=⟨[.hole,(.agg [.hole,.hole,.hole])],[],[1,1,1,1],[.sl qr,.sl zx,.sl (.one (.sl (.one (.int .i64)))),.sl zx]⟩,out:=⟨[.hole,.hole],[],[2,2],[.bool,.int .i64]⟩,nres:=2,ms:=[],mu:=[],leak:=false,glob:=true,F:=fun (x:((List zm)×(List zd)×(List (List Int))×(List zd)))=>zgU x.1 x.2.1 x.2.2.1 x.2.2.2 }
-- clause.Trivial
def zwP:List (Nat×Con):=[(42,.gen (zU [w18_c])),(133,.gen (zU [w117_c])),(190,.gen (zU [w114_c]))]
def w118_v:Env:=zz tb gl zwP w118_c Tryz.f146.ntmps
theorem zvA:zB Tryz.prog (cond w118_c.glob gl fun _=>none) zwP:=(zb (ze (zc zoD zg)) (zb (ze (zc (w117_ok.anyGl rfl) zg)) (zb (ze (zc (w114_ok.anyGl rfl) zg)) zi)))
def w118_u0_h:SS:=⟨[0,3,13,14,15],⟨[.hole,(.ptr 0 0),.hole,.hole,.hole],[.cells true [.hole,.hole,.hole]],[1,1,2,2,1,1,1],[.sl qr,.sl zx,.int .i64,.int .i64,.sl zx,.sl (.one (.sl (.one (.int .i64)))),.sl zx]⟩⟩
def zki:Exs:=[((.exit 0),⟨[],⟨[],[],[],[]⟩⟩),(.ret,⟨[4,5],⟨[.hole,.hole],[],[2,2],[.bool,.int .i64]⟩⟩)]
def zwk:AC:=.run
def zqj:Un:=lpU w118_v.fz [16,17,18,7,19,20,21,22,23,24,25,26,27,4,5,28,15] w118_u0_h zki (lp zcg zr)
theorem zvX (f:w118_u0_h.X→Option (YT zki)) (x:w118_u0_h.X):E w118_v (zt (za Tryz.f146) [1,1,0,1,0,0]) (zwk) (mkS w118_u0_h 8 x) (zA w118_v.fz w118_u0_h zki f)=zcg f x:=by kernel_rfl
theorem zsm {X:Fx} (hX:VOk Tryz.prog X w118_v):q8 Tryz.prog X w118_v (zt (za Tryz.f146) [1,1,0,1,0]) zqj :=
 zF (c:=(zt (za Tryz.f146) [1,1,0,1,0,0])) (by kernel_rfl) (zu zp (zvA)) zL (ob:=[]) (by kernel_rfl) (fun X hX=>zh) (zvX) (by kernel_rfl) (by kernel_rfl) hX
def zCs:AC:=(.seq .run (.seq .run (.seq (.seq .run (.block (.unit zqj))) .run)))
theorem zHw (x:z6 w118_c.inp.hs):E w118_v (za Tryz.f146) (zCs) (w118_c.entry x) (zD tb w118_v.fz w118_c [.tmp 4,.tmp 5] x)=w118_c.F x:=by kernel_rfl
theorem zES:ShOk Tryz.prog gl 146 w118_c :=
 zE (l:=zwP) (n:=Tryz.f146.ntmps) (code:=za Tryz.f146) (rts:=[.tmp 4,.tmp 5]) zp zL (zvA) Tryz.func146 (by kernel_rfl) (by kernel_rfl) rfl (by kernel_rfl) (ac:=zCs) (ob:=[((zt (za Tryz.f146) [1,1,0,1,0]),zqj)]) (by kernel_rfl) (fun X hX=>(zq (zsm hX) zh)) (by kernel_rfl) (zHw)
def w119_c:ShC:={ inp:=⟨[(.ptr 0 0),(.agg [.hole,.hole,.hole,.hole,.hole,.hole,.hole,.hole,.hole,.hole]),(.agg [.hole,.hole,.hole]),.hole,.hole],[.cells false [.hole,(.view 1),.hole],.seq false],[1,1,1,1,1,1,1,1,1,1,1,1,1,1,1,1,1,1],[.int .i64,.int .i64,.int .i64,.int .i64,.int .i64,.int .i64,.int .i64,.sl zx,.sl (.one (.sl (.one (.int .i64)))),.sl zx,.sl zx,.sl (.one (.sl (.one (.int .i64)))),.sl zx,.bool,.int .i64,.sl qr,.int .i64,.sl (.cons (.int .i64) (.cons (.int .i64) (.cons (.int .i64) (.cons (.int .i64) (.cons (.int .i64) (.cons (.int .i64) (.cons (.int .i64) (.cons (.sl zx) (.cons (.sl (.one (.sl (.one (.int .i64))))) (.one (.sl zx)))))))))))]⟩,out:=⟨[(.ptr 0 0)],[.cells false [.hole,(.view 1),.hole],.seq false],[1,2,0],[.sl qr,.int .i64,.sl (.cons (.int .i64) (.cons (.int .i64) (.cons (.int .i64) (.cons (.int .i64) (.cons (.int .i64) (.cons (.int .i64) (.cons (.int .i64) (.cons (.sl zx) (.cons (.sl (.one (.sl (.one (.int .i64))))) (.one (.sl zx)))))))))))]⟩,nres:=0,ms:=[0],mu:=[(0,0)],leak:=true,glob:=true,F:=fun (x:(Int×Int×Int×Int×Int×Int×Int×(List zd)×(List (List Int))×(List zd)×(List zd)×(List (List Int))×(List zd)×Bool×Int×(List zm)×Int×(List (Int×Int×Int×Int×Int×Int×Int×(List zd)×(List (List Int))×(List zd)))))=>zb3 x.1 x.2.1 x.2.2.1 x.2.2.2.1 x.2.2.2.2.1 x.2.2.2.2.2.1 x.2.2.2.2.2.2.1 x.2.2.2.2.2.2.2.1 x.2.2.2.2.2.2.2.2.1 x.2.2.2.2.2.2.2.2.2.1 x.2.2.2.2.2.2.2.2.2.2.1 x.2.2.2.2.2.2.2.2.2.2.2.1 x.2.2.2.2.2.2.2.2.2.2.2.2.1 x.2.2.2.2.2.2.2.2.2.2.2.2.2.1 x.2.2.2.2.2.2.2.2.2.2.2.2.2.2.1 x.2.2.2.2.2.2.2.2.2.2.2.2.2.2.2.1 x.2.2.2.2.2.2.2.2.2.2.2.2.2.2.2.2.1 x.2.2.2.2.2.2.2.2.2.2.2.2.2.2.2.2.2 }
-- (*resolve.Kids).Add
def zwl:List (Nat×Con):=[(146,.gen (zU [w118_c]))]
def w119_v:Env:=zz tb gl zwl w119_c Tryz.f79.ntmps
theorem zEQ:zB Tryz.prog (cond w119_c.glob gl fun _=>none) zwl:=(zb (ze (zc zES zg)) zi)
def zCy:AC:=(.seq .run (.seq .run (.seq .run (.seq .run (.hide [[9],[],[],[],[],[],[],[],[],[],[]])))))
theorem zIQ (x:z6 w119_c.inp.hs):E w119_v (za Tryz.f79) (zCy) (w119_c.entry x) (zD tb w119_v.fz w119_c [] x)=w119_c.F x:=by kernel_rfl
theorem zD7:ShOk Tryz.prog gl 79 w119_c :=
 zE (l:=zwl) (n:=Tryz.f79.ntmps) (code:=za Tryz.f79) (rts:=[]) zp zL (zEQ) Tryz.func79 (by kernel_rfl) (by kernel_rfl) rfl (by kernel_rfl) (ac:=zCy) (ob:=[]) (by kernel_rfl) (fun X hX=>zh) (by kernel_rfl) (zIQ)
def w120_c:ShC:={ inp:=⟨[.hole,(.agg [.hole,.hole,.hole]),.hole],[],[1,1,1,1,1],[.sl qr,.sl zx,.sl (.one (.sl (.one (.int .i64)))),.sl zx,.int .i64]⟩,out:=⟨[(.view 0),.hole,.hole],[.seq false],[2,2,0],[.int .i64,.int .i64,.sl (.cons (.int .i64) (.cons (.int .i64) (.cons (.int .i64) (.cons (.int .i64) (.cons (.int .i64) (.cons (.int .i64) (.cons (.int .i64) (.cons (.sl zx) (.cons (.sl (.one (.sl (.one (.int .i64))))) (.one (.sl zx)))))))))))]⟩,nres:=3,ms:=[],mu:=[],leak:=true,glob:=true,F:=fun (x:((List zm)×(List zd)×(List (List Int))×(List zd)×Int))=>zl0 x.1 x.2.1 x.2.2.1 x.2.2.2.1 x.2.2.2.2 }
-- factor.All
def zwD:List (Nat×Con):=[(42,.gen (zU [w18_c])),(70,.gen (zU [w56_c])),(77,.gen (zU [w111_c])),(78,.gen (zU [w113_c])),(79,.gen (zU [w119_c]))]
def w120_v:Env:=zz tb gl zwD w120_c Tryz.f29.ntmps
theorem zpR:zB Tryz.prog (cond w120_c.glob gl fun _=>none) zwD:=(zb (ze (zc zoD zg)) (zb (ze (zc zCE zg)) (zb (ze (zc zDV zg)) (zb (ze (zc (w113_ok.anyGl rfl) zg)) (zb (ze (zc zD7 zg)) zi)))))
def w120_u0_h:SS:=⟨[0,2,4,9,11,12,13,32,33],⟨[.hole,.hole,(.ptr 0 0),.hole,(.ptr 1 0),.hole,.hole,.hole,.hole],[.cells true [.hole,.hole,.hole],.cells false [.hole,(.view 2),.hole],.seq false],[1,2,2,2,2,2,2,1,1,1,0,2,0],[.sl qr,.int .i64,.sl (.one (.int .i64)),.int .i64,.int .i64,.int .i64,.int .i64,.sl zx,.sl (.one (.sl (.one (.int .i64)))),.sl zx,.sl qr,.int .i64,.sl (.cons (.int .i64) (.cons (.int .i64) (.cons (.int .i64) (.cons (.int .i64) (.cons (.int .i64) (.cons (.int .i64) (.cons (.int .i64) (.cons (.sl zx) (.cons (.sl (.one (.sl (.one (.int .i64))))) (.one (.sl zx)))))))))))]⟩⟩
def zk8:Exs:=[((.exit 2),⟨[11],⟨[(.ptr 0 0)],[.cells false [.hole,(.view 1),.hole],.seq false],[0,2,0],[.sl qr,.int .i64,.sl (.cons (.int .i64) (.cons (.int .i64) (.cons (.int .i64) (.cons (.int .i64) (.cons (.int .i64) (.cons (.int .i64) (.cons (.int .i64) (.cons (.sl zx) (.cons (.sl (.one (.sl (.one (.int .i64))))) (.one (.sl zx)))))))))))]⟩⟩)]
def ztW:AC:=.run
def zqa:Un:=lpU w120_v.fz [38,39,40,41,42,45,46,47,48,49,50,51,52,54,55,56,57,58,53,59,60,61,14,15,16,62,63,64,65,66,67,68,69,43,44,13] w120_u0_h zk8 (lp zep zr)
theorem zw3 (f:w120_u0_h.X→Option (YT zk8)) (x:w120_u0_h.X):E w120_v (zt (za Tryz.f29) [1,1,1,1,0,1,0,0,1,1,0,0,1,1,0,0]) (ztW) (mkS w120_u0_h 8 x) (zA w120_v.fz w120_u0_h zk8 f)=zep f x:=by kernel_rfl
theorem zr2 {X:Fx} (hX:VOk Tryz.prog X w120_v):q8 Tryz.prog X w120_v (zt (za Tryz.f29) [1,1,1,1,0,1,0,0,1,1,0,0,1,1,0]) zqa :=
 zF (c:=(zt (za Tryz.f29) [1,1,1,1,0,1,0,0,1,1,0,0,1,1,0,0])) (by kernel_rfl) (zu zp (zpR)) zL (ob:=[]) (by kernel_rfl) (fun X hX=>zh) (zw3) (by kernel_rfl) (by kernel_rfl) hX
def w120_u1_h:SS:=⟨[0,2,4,9,11,32,33],⟨[.hole,.hole,(.ptr 0 0),.hole,(.ptr 1 0),.hole,.hole],[.cells true [.hole,.hole,.hole],.cells false [.hole,(.view 2),.hole],.seq false],[1,2,2,2,2,1,1,1,0,2,0],[.sl qr,.int .i64,.sl (.one (.int .i64)),.int .i64,.int .i64,.sl zx,.sl (.one (.sl (.one (.int .i64)))),.sl zx,.sl qr,.int .i64,.sl (.cons (.int .i64) (.cons (.int .i64) (.cons (.int .i64) (.cons (.int .i64) (.cons (.int .i64) (.cons (.int .i64) (.cons (.int .i64) (.cons (.sl zx) (.cons (.sl (.one (.sl (.one (.int .i64))))) (.one (.sl zx)))))))))))]⟩⟩
def zkv:Exs:=[((.exit 0),⟨[11],⟨[(.ptr 0 0)],[.cells false [.hole,(.view 1),.hole],.seq false],[0,2,0],[.sl qr,.int .i64,.sl (.cons (.int .i64) (.cons (.int .i64) (.cons (.int .i64) (.cons (.int .i64) (.cons (.int .i64) (.cons (.int .i64) (.cons (.int .i64) (.cons (.sl zx) (.cons (.sl (.one (.sl (.one (.int .i64))))) (.one (.sl zx)))))))))))]⟩⟩)]
def zuW:AC:=(.seq .run (.seq .run (.seq (.block (.seq .run (.seq .run (.block (.unit zqa))))) .run)))
def zpU:Un:=lpU w120_v.fz [34,35,12,36,37,13,38,39,40,41,42,45,46,47,48,49,50,51,52,54,55,56,57,58,53,59,60,61,14,15,16,62,63,64,65,66,67,68,69,43,44,13,70,33] w120_u1_h zkv (lp zeC zr)
theorem zvM (f:w120_u1_h.X→Option (YT zkv)) (x:w120_u1_h.X):E w120_v (zt (za Tryz.f29) [1,1,1,1,0,1,0,0]) (zuW) (mkS w120_u1_h 8 x) (zA w120_v.fz w120_u1_h zkv f)=zeC f x:=by kernel_rfl
theorem zrZ {X:Fx} (hX:VOk Tryz.prog X w120_v):q8 Tryz.prog X w120_v (zt (za Tryz.f29) [1,1,1,1,0,1,0]) zpU :=
 zF (c:=(zt (za Tryz.f29) [1,1,1,1,0,1,0,0])) (by kernel_rfl) (zu zp (zpR)) zL (ob:=[((zt (za Tryz.f29) [1,1,1,1,0,1,0,0,1,1,0,0,1,1,0]),zqa)]) (by kernel_rfl) (fun X hX=>(zq (zr2 hX) zh)) (zvM) (by kernel_rfl) (by kernel_rfl) hX
def zBJ:AC:=(.seq .run (.seq .run (.seq .run (.seq .run (.seq (.seq .run (.block (.unit zpU))) .run)))))
theorem zGG (x:z6 w120_c.inp.hs):E w120_v (za Tryz.f29) (zBJ) (w120_c.entry x) (zD tb w120_v.fz w120_c [.tmp 6,.tmp 7,.tmp 8] x)=w120_c.F x:=by kernel_rfl
theorem zDd:ShOk Tryz.prog gl 29 w120_c :=
 zE (l:=zwD) (n:=Tryz.f29.ntmps) (code:=za Tryz.f29) (rts:=[.tmp 6,.tmp 7,.tmp 8]) zp zL (zpR) Tryz.func29 (by kernel_rfl) (by kernel_rfl) rfl (by kernel_rfl) (ac:=zBJ) (ob:=[((zt (za Tryz.f29) [1,1,1,1,0,1,0]),zpU)]) (by kernel_rfl) (fun X hX=>(zq (zrZ hX) zh)) (by kernel_rfl) (zGG)
def w121_c:ShC:={ inp:=⟨[(.agg [.hole,.hole,.hole,.hole,.hole,.hole,.hole,.hole,.hole,.hole]),(.agg [.hole,.hole,.hole,.hole,.hole,.hole,.hole,.hole,.hole,.hole])],[],[1,1,1,1,1,1,1,1,1,1,1,1,1,1,1,1,1,1,1,1],[.int .i64,.int .i64,.int .i64,.int .i64,.int .i64,.int .i64,.int .i64,.sl zx,.sl (.one (.sl (.one (.int .i64)))),.sl zx,.int .i64,.int .i64,.int .i64,.int .i64,.int .i64,.int .i64,.int .i64,.sl zx,.sl (.one (.sl (.one (.int .i64)))),.sl zx]⟩,out:=⟨[.hole],[],[2],[.bool]⟩,nres:=1,ms:=[],mu:=[],leak:=false,glob:=false,F:=fun (x:(Int×Int×Int×Int×Int×Int×Int×(List zd)×(List (List Int))×(List zd)×Int×Int×Int×Int×Int×Int×Int×(List zd)×(List (List Int))×(List zd)))=>zil x.1 x.2.1 x.2.2.1 x.2.2.2.1 x.2.2.2.2.1 x.2.2.2.2.2.1 x.2.2.2.2.2.2.1 x.2.2.2.2.2.2.2.1 x.2.2.2.2.2.2.2.2.1 x.2.2.2.2.2.2.2.2.2.1 x.2.2.2.2.2.2.2.2.2.2.1 x.2.2.2.2.2.2.2.2.2.2.2.1 x.2.2.2.2.2.2.2.2.2.2.2.2.1 x.2.2.2.2.2.2.2.2.2.2.2.2.2.1 x.2.2.2.2.2.2.2.2.2.2.2.2.2.2.1 x.2.2.2.2.2.2.2.2.2.2.2.2.2.2.2.1 x.2.2.2.2.2.2.2.2.2.2.2.2.2.2.2.2.1 x.2.2.2.2.2.2.2.2.2.2.2.2.2.2.2.2.2.1 x.2.2.2.2.2.2.2.2.2.2.2.2.2.2.2.2.2.2.1 x.2.2.2.2.2.2.2.2.2.2.2.2.2.2.2.2.2.2.2 }
-- quaerelaw0.SameStep
def zwt:List (Nat×Con):=[(17,.gen (zU [w94_c]))]
def w121_v:Env:=zz tb gl zwt w121_c Tryz.f82.ntmps
theorem zFl:zB Tryz.prog (cond w121_c.glob gl fun _=>none) zwt:=(zb (ze (zc (w94_ok.anyGl rfl) zg)) zi)
def zCC:AC:=.run
theorem zGv (x:z6 w121_c.inp.hs):E w121_v (za Tryz.f82) (zCC) (w121_c.entry x) (zD tb w121_v.fz w121_c [.tmp 4] x)=w121_c.F x:=by kernel_rfl
theorem w121_ok:ShOk Tryz.prog gl 82 w121_c :=
 zE (l:=zwt) (n:=Tryz.f82.ntmps) (code:=za Tryz.f82) (rts:=[.tmp 4]) zp zL (zFl) Tryz.func82 (by kernel_rfl) (by kernel_rfl) rfl (by kernel_rfl) (ac:=zCC) (ob:=[]) (by kernel_rfl) (fun X hX=>zh) (by kernel_rfl) (zGv)
def w122_c:ShC:={ inp:=⟨[.hole,.hole],[],[1,1],[.sl (.cons (.int .i64) (.cons (.int .i64) (.cons (.int .i64) (.cons (.int .i64) (.cons (.int .i64) (.cons (.int .i64) (.cons (.int .i64) (.cons (.sl zx) (.cons (.sl (.one (.sl (.one (.int .i64))))) (.one (.sl zx))))))))))),.sl (.cons (.int .i64) (.cons (.int .i64) (.cons (.int .i64) (.cons (.int .i64) (.cons (.int .i64) (.cons (.int .i64) (.cons (.int .i64) (.cons (.sl zx) (.cons (.sl (.one (.sl (.one (.int .i64))))) (.one (.sl zx)))))))))))]⟩,out:=⟨[.hole],[],[2],[.bool]⟩,nres:=1,ms:=[],mu:=[],leak:=false,glob:=false,F:=fun (x:((List (Int×Int×Int×Int×Int×Int×Int×(List zd)×(List (List Int))×(List zd)))×(List (Int×Int×Int×Int×Int×Int×Int×(List zd)×(List (List Int))×(List zd)))))=>zgY x.1 x.2 }
-- quaerelaw0.SameSteps
def zuZ:List (Nat×Con):=[(82,.gen (zU [w121_c]))]
def w122_v:Env:=zz tb gl zuZ w122_c Tryz.f31.ntmps
theorem zvB:zB Tryz.prog (cond w122_c.glob gl fun _=>none) zuZ:=(zb (ze (zc (w121_ok.anyGl rfl) zg)) zi)
def w122_u0_h:SS:=⟨[0,1,5],⟨[.hole,.hole,.hole],[],[1,1,2],[.sl (.cons (.int .i64) (.cons (.int .i64) (.cons (.int .i64) (.cons (.int .i64) (.cons (.int .i64) (.cons (.int .i64) (.cons (.int .i64) (.cons (.sl zx) (.cons (.sl (.one (.sl (.one (.int .i64))))) (.one (.sl zx))))))))))),.sl (.cons (.int .i64) (.cons (.int .i64) (.cons (.int .i64) (.cons (.int .i64) (.cons (.int .i64) (.cons (.int .i64) (.cons (.int .i64) (.cons (.sl zx) (.cons (.sl (.one (.sl (.one (.int .i64))))) (.one (.sl zx))))))))))),.int .i64]⟩⟩
def zkH:Exs:=[((.exit 0),⟨[],⟨[],[],[],[]⟩⟩),(.ret,⟨[4],⟨[.hole],[],[2],[.bool]⟩⟩)]
def zts:AC:=.run
def zqL:Un:=lpU w122_v.fz [11,12,13,14,17,18,19,20,21,22,23,24,25,26,4,15,16,5] w122_u0_h zkH (lp zci zr)
theorem zxP (f:w122_u0_h.X→Option (YT zkH)) (x:w122_u0_h.X):E w122_v (zt (za Tryz.f31) [1,1,0,1,0,0]) (zts) (mkS w122_u0_h 8 x) (zA w122_v.fz w122_u0_h zkH f)=zci f x:=by kernel_rfl
theorem zsI {X:Fx} (hX:VOk Tryz.prog X w122_v):q8 Tryz.prog X w122_v (zt (za Tryz.f31) [1,1,0,1,0]) zqL :=
 zF (c:=(zt (za Tryz.f31) [1,1,0,1,0,0])) (by kernel_rfl) (zu zp (zvB)) zL (ob:=[]) (by kernel_rfl) (fun X hX=>zh) (zxP) (by kernel_rfl) (by kernel_rfl) hX
def zBP:AC:=(.seq .run (.seq .run (.seq (.seq .run (.block (.unit zqL))) .run)))
theorem zGI (x:z6 w122_c.inp.hs):E w122_v (za Tryz.f31) (zBP) (w122_c.entry x) (zD tb w122_v.fz w122_c [.tmp 4] x)=w122_c.F x:=by kernel_rfl
theorem w122_ok:ShOk Tryz.prog gl 31 w122_c :=
 zE (l:=zuZ) (n:=Tryz.f31.ntmps) (code:=za Tryz.f31) (rts:=[.tmp 4]) zp zL (zvB) Tryz.func31 (by kernel_rfl) (by kernel_rfl) rfl (by kernel_rfl) (ac:=zBP) (ob:=[((zt (za Tryz.f31) [1,1,0,1,0]),zqL)]) (by kernel_rfl) (fun X hX=>(zq (zsI hX) zh)) (by kernel_rfl) (zGI)
def w123_c:ShC:={ inp:=⟨[],[],[],[]⟩,out:=⟨[.hole],[],[2],[.bool]⟩,nres:=1,ms:=[],mu:=[],leak:=false,glob:=true,F:=fun (x:Unit)=>zhc }
-- quaerelaw14.awake
def zut:List (Nat×Con):=[(17,.gen (zU [w94_c])),(18,.gen (zU [w95_c])),(24,.gen (zU [w57_c])),(26,.gen (zU [w89_c])),(29,.gen (zU [w120_c])),(31,.gen (zU [w122_c])),(76,.gen (zU [w96_c]))]
def w123_v:Env:=zz tb gl zut w123_c Tryz.f28.ntmps
theorem zEi:zB Tryz.prog (cond w123_c.glob gl fun _=>none) zut:=(zb (ze (zc (w94_ok.anyGl rfl) zg)) (zb (ze (zc (w95_ok.anyGl rfl) zg)) (zb (ze (zc zBi zg)) (zb (ze (zc zBa zg)) (zb (ze (zc zDd zg)) (zb (ze (zc (w122_ok.anyGl rfl) zg)) (zb (ze (zc (w96_ok.anyGl rfl) zg)) zi)))))))
def zBF:AC:=.run
theorem zHM (x:z6 w123_c.inp.hs):E w123_v (za Tryz.f28) (zBF) (w123_c.entry x) (zD tb w123_v.fz w123_c [.tmp 0] x)=w123_c.F x:=by kernel_rfl
theorem zFy:ShOk Tryz.prog gl 28 w123_c :=
 zE (l:=zut) (n:=Tryz.f28.ntmps) (code:=za Tryz.f28) (rts:=[.tmp 0]) zp zL (zEi) Tryz.func28 (by kernel_rfl) (by kernel_rfl) rfl (by kernel_rfl) (ac:=zBF) (ob:=[]) (by kernel_rfl) (fun X hX=>zh) (by kernel_rfl) (zHM)
def w124_c:ShC:={ inp:=⟨[.hole,(.agg [.hole,.hole,.hole]),.hole,.hole],[],[1,1,1,1,1,1],[.sl qr,.sl zx,.sl (.one (.sl (.one (.int .i64)))),.sl zx,.int .i64,.int .i64]⟩,out:=⟨[.hole],[],[2],[.bool]⟩,nres:=1,ms:=[],mu:=[],leak:=false,glob:=true,F:=fun (x:((List zm)×(List zd)×(List (List Int))×(List zd)×Int×Int))=>zaj x.1 x.2.1 x.2.2.1 x.2.2.2.1 x.2.2.2.2.1 x.2.2.2.2.2 }
-- quaerelaw14.Factors
def zue:List (Nat×Con):=[(17,.gen (zU [w94_c])),(18,.gen (zU [w95_c])),(23,.gen (zU [w3_c])),(24,.gen (zU [w57_c])),(25,.gen (zU [w87_c])),(26,.gen (zU [w89_c])),(27,.gen (zU [w90_c])),(28,.gen (zU [w123_c]))]
def w124_v:Env:=zz tb gl zue w124_c Tryz.f4.ntmps
theorem zus:zB Tryz.prog (cond w124_c.glob gl fun _=>none) zue:=(zb (ze (zc (w94_ok.anyGl rfl) zg)) (zb (ze (zc (w95_ok.anyGl rfl) zg)) (zb (ze (zc (w3_ok.anyGl rfl) zg)) (zb (ze (zc zBi zg)) (zb (ze (zc (w87_ok.anyGl rfl) zg)) (zb (ze (zc zBa zg)) (zb (ze (zc (w90_ok.anyGl rfl) zg)) (zb (ze (zc zFy zg)) zi))))))))
def zom:List (Code×AC):=[((zt (za Tryz.f4) [1,1,0]),.run),((zt (za Tryz.f4) [1,1,1,0]),.run),((zt (za Tryz.f4) [1,1,1,1,0]),.run),((zt (za Tryz.f4) [1,1,1,1,1,0]),.run),((zt (za Tryz.f4) [1,1,1,1,1,1,0]),.run)]
def zp5:Un:=spU w124_v zom [23,24,25,26,27,22,28,29,30,10,11,12,32,33,34,35,36,31,37,38,39,13,14,15,41,42,43,44,40,45,46,16,17,48,49,50,51,47,52,53,18,19,54,55,56,57,58,59,60,61,62,63,64,65,66,67,68,69,70,71,72,73,74,75,76,77,78,79,80,8] [81,82,83,84] [(10,.rp (.cons (.sl zx) (.cons (.sl (.one (.sl (.one (.int .i64))))) (.one (.sl zx)))) 0),(16,.rp (.cons (.sl zx) (.cons (.sl (.one (.sl (.one (.int .i64))))) (.one (.sl zx)))) 0)] (zt (za Tryz.f4) [1,1,1,1,1,1,1,1,1]) .run
-- quaerelaw0.SpoilInts
theorem zB2:zbh Tryz.prog 126 [.one (.sl (.one (.int .i64)))] :=
 zit (l:=[]) (code:=za Tryz.f126) zp zkK Tryz.func126 (by kernel_rfl) (by kernel_rfl) (by kernel_rfl) (by kernel_rfl) (by kernel_rfl)
-- quaerelaw0.SpoilLits
theorem zLw:zbh Tryz.prog 63 [.one (.sl zx)] :=
 zit (l:=[(126,[.one (.sl (.one (.int .i64)))])]) (code:=za Tryz.f63) zp (zhH zB2 zkK) Tryz.func63 (by kernel_rfl) (by kernel_rfl) (by kernel_rfl) (by kernel_rfl) (by kernel_rfl)
-- quaerelaw0.SpoilRows
theorem zKL:zbh Tryz.prog 64 [.one (.sl (.one (.sl (.one (.int .i64)))))] :=
 zit (l:=[(126,[.one (.sl (.one (.int .i64)))])]) (code:=za Tryz.f64) zp (zhH zB2 zkK) Tryz.func64 (by kernel_rfl) (by kernel_rfl) (by kernel_rfl) (by kernel_rfl) (by kernel_rfl)
-- quaerelaw0.SpoilClause
theorem zLu:zbh Tryz.prog 19 [.agg [(.sl zx),(.sl (.one (.sl (.one (.int .i64))))),(.sl zx)]] :=
 zit (l:=[(63,[.one (.sl zx)]),(64,[.one (.sl (.one (.sl (.one (.int .i64)))))])]) (code:=za Tryz.f19) zp (zhH zLw (zhH zKL zkK)) Tryz.func19 (by kernel_rfl) (by kernel_rfl) (by kernel_rfl) (by kernel_rfl) (by kernel_rfl)
theorem zsh {X:Fx} (hX:VOk Tryz.prog X w124_v):q8 Tryz.prog X w124_v (zt (za Tryz.f4) [1,1]) zp5 :=
 zJD (zu zp (zus)) zL (l:=[(19,[.agg [(.sl zx),(.sl (.one (.sl (.one (.int .i64))))),(.sl zx)]])]) (zhH zLu zkK) (cs:=zom) (sps:=[(zt (za Tryz.f4) [1,1,1,1,1,1,1,0]),(zt (za Tryz.f4) [1,1,1,1,1,1,1,1,0])]) (by kernel_rfl) (fun X hX=>(zh7 (ob:=[]) (by kernel_rfl) zh (zh7 (ob:=[]) (by kernel_rfl) zh (zh7 (ob:=[]) (by kernel_rfl) zh (zh7 (ob:=[]) (by kernel_rfl) zh (zh7 (ob:=[]) (by kernel_rfl) zh zFo)))))) (ob:=[]) (by kernel_rfl) (fun X hX=>zh) (by kernel_rfl) (by kernel_rfl) (by kernel_rfl) hX
def zCb:AC:=(.seq .run (.seq .run (.unit zp5)))
theorem zGq (x:z6 w124_c.inp.hs):E w124_v (za Tryz.f4) (zCb) (w124_c.entry x) (zD tb w124_v.fz w124_c [.tmp 8] x)=w124_c.F x:=by kernel_rfl
theorem zE1:ShOk Tryz.prog gl 4 w124_c :=
 zE (l:=zue) (n:=Tryz.f4.ntmps) (code:=za Tryz.f4) (rts:=[.tmp 8]) zp zL (zus) Tryz.func4 (by kernel_rfl) (by kernel_rfl) rfl (by kernel_rfl) (ac:=zCb) (ob:=[((zt (za Tryz.f4) [1,1]),zp5)]) (by kernel_rfl) (fun X hX=>(zq (zsh hX) zh)) (by kernel_rfl) (zGq)
end
end Go.Abs.Sz5
