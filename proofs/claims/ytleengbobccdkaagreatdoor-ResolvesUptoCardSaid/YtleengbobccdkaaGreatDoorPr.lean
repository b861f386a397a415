import Derived.Test.YtleengbobccdkaaGreatDoorFc
import Derived.Test.YtleengbobccdkaaGreatDoorQc
import Derived.Test.YtleengbobccdkaaGreatDoorXa
import Derived.Test.YtleengbobccdkaaGreatDoorProg
/-
 The functions make just that.
-/
namespace Go.Abs.Sz5
open Go Go.Abs Go.Abs.Q Go.Proofs
set_option maxRecDepth 100000
noncomputable section
abbrev kK:Ty:=.sl (.one (.sl (.one (.int .i64))))
abbrev kR:Tys:=.one (.sl (.one (.int .i64)))
abbrev kJ:Ty:=.sl (.one (.int .i64))
abbrev kI:Tys:=.one (.int .i64)
abbrev kZ:Ty:=.int .i64
abbrev kL:Ty:=.sl zdj
abbrev kM:Ty:=.sl zra
def tbl:List (Nat×TD):=[(3,.int .i64),
 (4,.bool),
 (9,.str),
 (22,.sl 136 zra 40),
 (23,.sl 3 kI 8),
 (24,.sl 69 zdj 32),
 (27,.sl 23 kR 24),
 (29,.st [(24,0),(27,1),(24,2)] 3),
 (50,.sl 73 (.cons kZ (.cons kZ (.cons kZ (.cons kZ (.cons kZ (.cons kZ (.cons kZ (.cons kL (.cons kK (.one kL)))))))))) 128),
 (69,.st [(4,0),(23,1)] 2),
 (73,.st [(3,0),(3,1),(3,2),(3,3),(3,4),(3,5),(3,6),(29,7)] 10),
 (99,.sl 144 (.cons kZ kR) 32),
 (109,.st [(22,0),(50,1),(3,2)] 3),
 (131,.int .u64),
 (136,.st [(9,0),(3,1),(3,2),(3,3)] 4),
 (144,.st [(3,0),(23,1)] 2),
 (156,.arr 23 kR 48),
 (158,.st [(156,0)] 48),
 (178,.arr 3 kI 24),
 (198,.st [(23,0),(3,1)] 2),
 (199,.arr 198 (.cons (.ns kI) kI) 48),
 (201,.st [(22,0),(199,1)] 97),
 (204,.sl 27 (.one kK) 24),
 (206,.sl 24 (.one kL) 24),
 (217,.sl 220 (.cons kJ (.cons kZ (.cons kJ kI))) 64),
 (220,.fa 198 2 2),
 (239,.arr 4 (.one .bool) 48),
 (240,.sl 198 (.cons kJ kI) 32)]
def tb:Tb:=zEu tbl
theorem zo:zcq Tryz.prog tb:=zBU (by kernel_rfl)
theorem zH:Tryz.prog.follows .mixedOrders=true:=by kernel_rfl
def gl:Gl:=fun q=>cond (Nat.beq q 0) (some ⟨zra,(([61],0,2,1):zQ)⟩) (none)
def w0_c:ShC:={ inp:=⟨[.hole],[],[1],[kJ]⟩,out:=⟨[(.view 0)],[.seq false],[2],[kJ]⟩,nres:=1,ms:=[],mu:=[],leak:=false,glob:=false,F:=fun (x:jI)=>zbg x }
-- quaerelaw0.CopyInts
def zNx:List (Nat×Con):=[]
def w0_v:Env:=zy tb gl zNx w0_c Tryz.f51.ntmps
theorem zNP:zA Tryz.prog (cond w0_c.glob gl fun _=>none) zNx:=zi
def zO5:AC:=.run
theorem zPE (x:zZ w0_c.inp.hs):E w0_v (za Tryz.f51) (zO5) (w0_c.entry x) (zB tb w0_v.fz w0_c [.tmp 2] x)=w0_c.F x:=by kernel_rfl
theorem w0_ok:ShOk Tryz.prog gl 51 w0_c :=
 zC (l:=zNx) (n:=Tryz.f51.ntmps) (code:=za Tryz.f51) (rts:=[.tmp 2]) zo zH (zNP) Tryz.func51 (by kernel_rfl) (by kernel_rfl) rfl (by kernel_rfl) (ac:=zO5) (ob:=[]) (by kernel_rfl) (fun X hX=>zg) (by kernel_rfl) (zPE)
def w1_c:ShC:={ inp:=⟨[.hole],[],[1],[kL]⟩,out:=⟨[(.view 0)],[.seq false],[2],[kL]⟩,nres:=1,ms:=[],mu:=[],leak:=false,glob:=false,F:=fun (x:jQ)=>zcw x }
-- quaerelaw0.CopyLits
def zNw:List (Nat×Con):=[(51,.gen (zV [w0_c]))]
def w1_v:Env:=zy tb gl zNw w1_c Tryz.f13.ntmps
theorem zKF:zA Tryz.prog (cond w1_c.glob gl fun _=>none) zNw:=(zb (zd (zc (w0_ok.anyGl rfl) ze)) zi)
def w1_u0_h:SS:=⟨[0,3,4],⟨[.hole,(.view 0),.hole],[.seq false],[1,2,2],[kL,.int .i64,kL]⟩⟩
def zsz:Exs:=[((.exit 0),⟨[3],⟨[(.view 0)],[.seq false],[2],[kL]⟩⟩)]
def zF8:AC:=.run
def zIF:Un:=lpU w1_v.fz [5,6,7,8,11,12,13,14,15,16,17,18,19,20,21,22,23,24,25,3,9,10,4] w1_u0_h zsz (lp yV zp)
theorem zFP (f:w1_u0_h.X→Option (YT zsz)) (x:w1_u0_h.X):E w1_v (zq (za Tryz.f13) [1,1,0,1,0,0]) (zF8) (mkS w1_u0_h 8 x) (zx w1_v.fz w1_u0_h zsz f)=yV f x:=by kernel_rfl
theorem zDe {X:Fx} (hX:VOk Tryz.prog X w1_v):q6 Tryz.prog X w1_v (zq (za Tryz.f13) [1,1,0,1,0]) zIF :=
 zz (c:=(zq (za Tryz.f13) [1,1,0,1,0,0])) (by kernel_rfl) (zr zo (zKF)) zH (ob:=[]) (by kernel_rfl) (fun X hX=>zg) (zFP) (by kernel_rfl) (by kernel_rfl) hX
def zPh:AC:=(.seq .run (.seq .run (.seq (.seq .run (.block (.unit zIF))) .run)))
theorem zPs (x:zZ w1_c.inp.hs):E w1_v (za Tryz.f13) (zPh) (w1_c.entry x) (zB tb w1_v.fz w1_c [.tmp 2] x)=w1_c.F x:=by kernel_rfl
theorem w1_ok:ShOk Tryz.prog gl 13 w1_c :=
 zC (l:=zNw) (n:=Tryz.f13.ntmps) (code:=za Tryz.f13) (rts:=[.tmp 2]) zo zH (zKF) Tryz.func13 (by kernel_rfl) (by kernel_rfl) rfl (by kernel_rfl) (ac:=zPh) (ob:=[((zq (za Tryz.f13) [1,1,0,1,0]),zIF)]) (by kernel_rfl) (fun X hX=>(zn (zDe hX) zg)) (by kernel_rfl) (zPs)
def w2_c:ShC:={ inp:=⟨[.hole],[],[1],[kK]⟩,out:=⟨[(.view 0)],[.seq false],[2],[kK]⟩,nres:=1,ms:=[],mu:=[],leak:=false,glob:=false,F:=fun (x:jR)=>zdA x }
-- quaerelaw0.CopyRows
def zO1:List (Nat×Con):=[(51,.gen (zV [w0_c]))]
def w2_v:Env:=zy tb gl zO1 w2_c Tryz.f68.ntmps
theorem zJI:zA Tryz.prog (cond w2_c.glob gl fun _=>none) zO1:=(zb (zd (zc (w0_ok.anyGl rfl) ze)) zi)
def w2_u0_h:SS:=⟨[0,3,4],⟨[.hole,(.view 0),.hole],[.seq false],[1,2,2],[kK,.int .i64,kK]⟩⟩
def zrM:Exs:=[((.exit 0),⟨[3],⟨[(.view 0)],[.seq false],[2],[kK]⟩⟩)]
def zIw:AC:=.run
def zHo:Un:=lpU w2_v.fz [5,6,7,8,11,12,13,14,15,16,17,18,3,9,10,4] w2_u0_h zrM (lp yW zp)
theorem zH7 (f:w2_u0_h.X→Option (YT zrM)) (x:w2_u0_h.X):E w2_v (zq (za Tryz.f68) [1,1,0,1,0,0]) (zIw) (mkS w2_u0_h 8 x) (zx w2_v.fz w2_u0_h zrM f)=yW f x:=by kernel_rfl
theorem zCS {X:Fx} (hX:VOk Tryz.prog X w2_v):q6 Tryz.prog X w2_v (zq (za Tryz.f68) [1,1,0,1,0]) zHo :=
 zz (c:=(zq (za Tryz.f68) [1,1,0,1,0,0])) (by kernel_rfl) (zr zo (zJI)) zH (ob:=[]) (by kernel_rfl) (fun X hX=>zg) (zH7) (by kernel_rfl) (by kernel_rfl) hX
def zPl:AC:=(.seq .run (.seq .run (.seq (.seq .run (.block (.unit zHo))) .run)))
theorem zPz (x:zZ w2_c.inp.hs):E w2_v (za Tryz.f68) (zPl) (w2_c.entry x) (zB tb w2_v.fz w2_c [.tmp 2] x)=w2_c.F x:=by kernel_rfl
theorem w2_ok:ShOk Tryz.prog gl 68 w2_c :=
 zC (l:=zO1) (n:=Tryz.f68.ntmps) (code:=za Tryz.f68) (rts:=[.tmp 2]) zo zH (zJI) Tryz.func68 (by kernel_rfl) (by kernel_rfl) rfl (by kernel_rfl) (ac:=zPl) (ob:=[((zq (za Tryz.f68) [1,1,0,1,0]),zHo)]) (by kernel_rfl) (fun X hX=>(zn (zCS hX) zg)) (by kernel_rfl) (zPz)
def w3_c:ShC:={ inp:=⟨[(.agg [.hole,.hole,.hole])],[],[1,1,1],[kL,kK,kL]⟩,out:=⟨[(.agg [(.view 0),(.view 1),(.view 2)])],[.seq false,.seq false,.seq false],[2,2,2],[kL,kK,kL]⟩,nres:=1,ms:=[],mu:=[],leak:=false,glob:=false,F:=fun (x:(jQ×jR×jQ))=>zad x.1 x.2.1 x.2.2 }
-- quaerelaw0.CopyClause
def zNT:List (Nat×Con):=[(13,.gen (zV [w1_c])),(68,.gen (zV [w2_c]))]
def w3_v:Env:=zy tb gl zNT w3_c Tryz.f23.ntmps
theorem zNE:zA Tryz.prog (cond w3_c.glob gl fun _=>none) zNT:=(zb (zd (zc (w1_ok.anyGl rfl) ze)) (zb (zd (zc (w2_ok.anyGl rfl) ze)) zi))
def zPf:AC:=.run
theorem zPv (x:zZ w3_c.inp.hs):E w3_v (za Tryz.f23) (zPf) (w3_c.entry x) (zB tb w3_v.fz w3_c [.cell 2 29] x)=w3_c.F x:=by kernel_rfl
theorem w3_ok:ShOk Tryz.prog gl 23 w3_c :=
 zC (l:=zNT) (n:=Tryz.f23.ntmps) (code:=za Tryz.f23) (rts:=[.cell 2 29]) zo zH (zNE) Tryz.func23 (by kernel_rfl) (by kernel_rfl) rfl (by kernel_rfl) (ac:=zPf) (ob:=[]) (by kernel_rfl) (fun X hX=>zg) (by kernel_rfl) (zPv)
def w4_c:ShC:={ inp:=⟨[.hole],[],[1],[.int .u8]⟩,out:=⟨[.hole],[],[2],[.bool]⟩,nres:=1,ms:=[],mu:=[],leak:=false,glob:=false,F:=fun (x:Int)=>zdG x }
-- sign.small
def zM4:List (Nat×Con):=[]
def w4_v:Env:=zy tb gl zM4 w4_c Tryz.f204.ntmps
theorem zM9:zA Tryz.prog (cond w4_c.glob gl fun _=>none) zM4:=zi
def zPg:AC:=.run
theorem zPr (x:zZ w4_c.inp.hs):E w4_v (za Tryz.f204) (zPg) (w4_c.entry x) (zB tb w4_v.fz w4_c [.tmp 2] x)=w4_c.F x:=by kernel_rfl
theorem w4_ok:ShOk Tryz.prog gl 204 w4_c :=
 zC (l:=zM4) (n:=Tryz.f204.ntmps) (code:=za Tryz.f204) (rts:=[.tmp 2]) zo zH (zM9) Tryz.func204 (by kernel_rfl) (by kernel_rfl) rfl (by kernel_rfl) (ac:=zPg) (ob:=[]) (by kernel_rfl) (fun X hX=>zg) (by kernel_rfl) (zPr)
def w5_c:ShC:={ inp:=⟨[.hole],[],[1],[.str]⟩,out:=⟨[.hole],[],[2],[.bool]⟩,nres:=1,ms:=[],mu:=[],leak:=false,glob:=false,F:=fun (x:Str)=>ze7 x }
-- sign.called
def zNo:List (Nat×Con):=[(204,.gen (zV [w4_c]))]
def w5_v:Env:=zy tb gl zNo w5_c Tryz.f167.ntmps
theorem zKO:zA Tryz.prog (cond w5_c.glob gl fun _=>none) zNo:=(zb (zd (zc (w4_ok.anyGl rfl) ze)) zi)
def w5_u0_h:SS:=⟨[0,18,19],⟨[.hole,.hole,.hole],[],[2,2,2],[.str,.int .i64,.int .i64]⟩⟩
def zsq:Exs:=[((.exit 0),⟨[],⟨[],[],[],[]⟩⟩),(.ret,⟨[2],⟨[.hole],[],[2],[.bool]⟩⟩)]
def zIT:AC:=.run
def zHt:Un:=lpU w5_v.fz [20,21,3,22,23,24,25,26,27,28,29,30,31,32,33,34,35,36,37,38,2,39,19] w5_u0_h zsq (lp q5 zp)
theorem zHW (f:w5_u0_h.X→Option (YT zsq)) (x:w5_u0_h.X):E w5_v (zq (za Tryz.f167) [1,1,0,1,0,0]) (zIT) (mkS w5_u0_h 8 x) (zx w5_v.fz w5_u0_h zsq f)=q5 f x:=by kernel_rfl
theorem zBs {X:Fx} (hX:VOk Tryz.prog X w5_v):q6 Tryz.prog X w5_v (zq (za Tryz.f167) [1,1,0,1,0]) zHt :=
 zz (c:=(zq (za Tryz.f167) [1,1,0,1,0,0])) (by kernel_rfl) (zr zo (zKO)) zH (ob:=[]) (by kernel_rfl) (fun X hX=>zg) (zHW) (by kernel_rfl) (by kernel_rfl) hX
def zPa:AC:=(.seq .run (.seq .run (.seq (.seq .run (.block (.unit zHt))) .run)))
theorem zPw (x:zZ w5_c.inp.hs):E w5_v (za Tryz.f167) (zPa) (w5_c.entry x) (zB tb w5_v.fz w5_c [.tmp 2] x)=w5_c.F x:=by kernel_rfl
theorem w5_ok:ShOk Tryz.prog gl 167 w5_c :=
 zC (l:=zNo) (n:=Tryz.f167.ntmps) (code:=za Tryz.f167) (rts:=[.tmp 2]) zo zH (zKO) Tryz.func167 (by kernel_rfl) (by kernel_rfl) rfl (by kernel_rfl) (ac:=zPa) (ob:=[((zq (za Tryz.f167) [1,1,0,1,0]),zHt)]) (by kernel_rfl) (fun X hX=>(zn (zBs hX) zg)) (by kernel_rfl) (zPw)
def w6_c:ShC:={ inp:=⟨[(.agg [.hole,.hole,.hole,.hole])],[],[1,1,1,1],[.str,.int .i64,.int .i64,.int .i64]⟩,out:=⟨[.hole],[],[2],[.bool]⟩,nres:=1,ms:=[],mu:=[],leak:=false,glob:=false,F:=fun (x:zQ)=>zdT x.1 x.2.1 x.2.2.1 x.2.2.2 }
-- sign.SymMay
def zOq:List (Nat×Con):=[(167,.gen (zV [w5_c]))]
def w6_v:Env:=zy tb gl zOq w6_c Tryz.f113.ntmps
theorem zNF:zA Tryz.prog (cond w6_c.glob gl fun _=>none) zOq:=(zb (zd (zc (w5_ok.anyGl rfl) ze)) zi)
def zO2:AC:=.run
theorem zPt (x:zZ w6_c.inp.hs):E w6_v (za Tryz.f113) (zO2) (w6_c.entry x) (zB tb w6_v.fz w6_c [.tmp 2] x)=w6_c.F x:=by kernel_rfl
theorem w6_ok:ShOk Tryz.prog gl 113 w6_c :=
 zC (l:=zOq) (n:=Tryz.f113.ntmps) (code:=za Tryz.f113) (rts:=[.tmp 2]) zo zH (zNF) Tryz.func113 (by kernel_rfl) (by kernel_rfl) rfl (by kernel_rfl) (ac:=zO2) (ob:=[]) (by kernel_rfl) (fun X hX=>zg) (by kernel_rfl) (zPt)
def w7_c:ShC:={ inp:=⟨[.hole,.hole],[],[1,1],[kM,.str]⟩,out:=⟨[.hole],[],[2],[.int .i64]⟩,nres:=1,ms:=[],mu:=[],leak:=false,glob:=false,F:=fun (x:(jS×Str))=>zeV x.1 x.2 }
-- sign.find
def zOO:List (Nat×Con):=[]
def w7_v:Env:=zy tb gl zOO w7_c Tryz.f114.ntmps
theorem zLT:zA Tryz.prog (cond w7_c.glob gl fun _=>none) zOO:=zi
def w7_u0_h:SS:=⟨[0,1,7,8],⟨[.hole,.hole,.hole,.hole],[],[1,2,2,2],[kM,.str,.int .i64,.int .i64]⟩⟩
def zsu:Exs:=[((.exit 0),⟨[],⟨[],[],[],[]⟩⟩),(.ret,⟨[4],⟨[.hole],[],[2],[.int .i64]⟩⟩)]
def zGi:AC:=.run
def zGX:Un:=lpU w7_v.fz [9,10,5,11,12,13,14,15,16,17,18,4,19,8] w7_u0_h zsu (lp zaV zp)
theorem zHu (f:w7_u0_h.X→Option (YT zsu)) (x:w7_u0_h.X):E w7_v (zq (za Tryz.f114) [1,0,1,0,0]) (zGi) (mkS w7_u0_h 8 x) (zx w7_v.fz w7_u0_h zsu f)=zaV f x:=by kernel_rfl
theorem zAP {X:Fx} (hX:VOk Tryz.prog X w7_v):q6 Tryz.prog X w7_v (zq (za Tryz.f114) [1,0,1,0]) zGX :=
 zz (c:=(zq (za Tryz.f114) [1,0,1,0,0])) (by kernel_rfl) (zr zo (zLT)) zH (ob:=[]) (by kernel_rfl) (fun X hX=>zg) (zHu) (by kernel_rfl) (by kernel_rfl) hX
def zPj:AC:=(.seq .run (.seq (.seq .run (.block (.unit zGX))) .run))
theorem zPu (x:zZ w7_c.inp.hs):E w7_v (za Tryz.f114) (zPj) (w7_c.entry x) (zB tb w7_v.fz w7_c [.tmp 4] x)=w7_c.F x:=by kernel_rfl
theorem w7_ok:ShOk Tryz.prog gl 114 w7_c :=
 zC (l:=zOO) (n:=Tryz.f114.ntmps) (code:=za Tryz.f114) (rts:=[.tmp 4]) zo zH (zLT) Tryz.func114 (by kernel_rfl) (by kernel_rfl) rfl (by kernel_rfl) (ac:=zPj) (ob:=[((zq (za Tryz.f114) [1,0,1,0]),zGX)]) (by kernel_rfl) (fun X hX=>(zn (zAP hX) zg)) (by kernel_rfl) (zPu)
def w8_c:ShC:={ inp:=⟨[.hole],[],[1],[kM]⟩,out:=⟨[.hole],[],[2],[.bool]⟩,nres:=1,ms:=[],mu:=[],leak:=false,glob:=true,F:=fun (x:jS)=>zfC x }
-- sign.May
def zOP:List (Nat×Con):=[(113,.gen (zV [w6_c])),(114,.gen (zV [w7_c]))]
def w8_v:Env:=zy tb gl zOP w8_c Tryz.f52.ntmps
theorem zLs:zA Tryz.prog (cond w8_c.glob gl fun _=>none) zOP:=(zb (zd (zc (w6_ok.anyGl rfl) ze)) (zb (zd (zc (w7_ok.anyGl rfl) ze)) zi))
def w8_u0_h:SS:=⟨[0,3],⟨[.hole,.hole],[],[1,2],[kM,.int .i64]⟩⟩
def zr7:Exs:=[((.exit 0),⟨[],⟨[],[],[],[]⟩⟩),(.ret,⟨[2],⟨[.hole],[],[2],[.bool]⟩⟩)]
def zHb:AC:=.run
def zIu:Un:=lpU w8_v.fz [19,20,21,22,25,26,27,28,29,30,31,32,33,34,35,36,37,38,39,40,41,2,23,24,3] w8_u0_h zr7 (lp zbO zp)
theorem zIm (f:w8_u0_h.X→Option (YT zr7)) (x:w8_u0_h.X):E w8_v (zq (za Tryz.f52) [1,1,0,1,0,0]) (zHb) (mkS w8_u0_h 8 x) (zx w8_v.fz w8_u0_h zr7 f)=zbO f x:=by kernel_rfl
theorem zDt {X:Fx} (hX:VOk Tryz.prog X w8_v):q6 Tryz.prog X w8_v (zq (za Tryz.f52) [1,1,0,1,0]) zIu :=
 zz (c:=(zq (za Tryz.f52) [1,1,0,1,0,0])) (by kernel_rfl) (zr zo (zLs)) zH (ob:=[]) (by kernel_rfl) (fun X hX=>zg) (zIm) (by kernel_rfl) (by kernel_rfl) hX
def zO3:AC:=(.seq .run (.seq .run (.seq (.seq .run (.block (.unit zIu))) .run)))
theorem zPx (x:zZ w8_c.inp.hs):E w8_v (za Tryz.f52) (zO3) (w8_c.entry x) (zB tb w8_v.fz w8_c [.tmp 2] x)=w8_c.F x:=by kernel_rfl
theorem zIV:ShOk Tryz.prog gl 52 w8_c :=
 zC (l:=zOP) (n:=Tryz.f52.ntmps) (code:=za Tryz.f52) (rts:=[.tmp 2]) zo zH (zLs) Tryz.func52 (by kernel_rfl) (by kernel_rfl) rfl (by kernel_rfl) (ac:=zO3) (ob:=[((zq (za Tryz.f52) [1,1,0,1,0]),zIu)]) (by kernel_rfl) (fun X hX=>(zn (zDt hX) zg)) (by kernel_rfl) (zPx)
def w9_c:ShC:={ inp:=⟨[.hole],[],[1],[.int .i64]⟩,out:=⟨[.hole],[],[2],[.int .i64]⟩,nres:=1,ms:=[],mu:=[],leak:=false,glob:=false,F:=fun (x:Int)=>yo x }
-- term.Number
def zM3:List (Nat×Con):=[]
def w9_v:Env:=zy tb gl zM3 w9_c Tryz.f55.ntmps
theorem zN2:zA Tryz.prog (cond w9_c.glob gl fun _=>none) zM3:=zi
def zPd:AC:=.run
theorem zPA (x:zZ w9_c.inp.hs):E w9_v (za Tryz.f55) (zPd) (w9_c.entry x) (zB tb w9_v.fz w9_c [.tmp 2] x)=w9_c.F x:=by kernel_rfl
theorem w9_ok:ShOk Tryz.prog gl 55 w9_c :=
 zC (l:=zM3) (n:=Tryz.f55.ntmps) (code:=za Tryz.f55) (rts:=[.tmp 2]) zo zH (zN2) Tryz.func55 (by kernel_rfl) (by kernel_rfl) rfl (by kernel_rfl) (ac:=zPd) (ob:=[]) (by kernel_rfl) (fun X hX=>zg) (by kernel_rfl) (zPA)
def w10_c:ShC:={ inp:=⟨[.hole,.hole],[],[1,1],[kM,.int .i64]⟩,out:=⟨[.hole,.hole],[],[2,2],[.int .i64,.bool]⟩,nres:=2,ms:=[],mu:=[],leak:=false,glob:=false,F:=fun (x:(jS×Int))=>zg7 x.1 x.2 }
-- term.args
def zFQ:List (Nat×Con):=[(55,.gen (zV [w9_c]))]
def w10_v:Env:=zy tb gl zFQ w10_c Tryz.f193.ntmps
theorem zLd:zA Tryz.prog (cond w10_c.glob gl fun _=>none) zFQ:=(zb (zd (zc (w9_ok.anyGl rfl) ze)) zi)
def zJR:AC:=.run
theorem zNS (x:zZ w10_c.inp.hs):E w10_v (za Tryz.f193) (zJR) (w10_c.entry x) (zB tb w10_v.fz w10_c [.tmp 4,.tmp 5] x)=w10_c.F x:=by kernel_rfl
theorem w10_ok:ShOk Tryz.prog gl 193 w10_c :=
 zC (l:=zFQ) (n:=Tryz.f193.ntmps) (code:=za Tryz.f193) (rts:=[.tmp 4,.tmp 5]) zo zH (zLd) Tryz.func193 (by kernel_rfl) (by kernel_rfl) rfl (by kernel_rfl) (ac:=zJR) (ob:=[]) (by kernel_rfl) (fun X hX=>zg) (by kernel_rfl) (zNS)
def w11_c:ShC:={ inp:=⟨[.hole,.hole,.hole],[],[1,1,1],[kM,kJ,.int .i64]⟩,out:=⟨[.hole,.hole],[],[2,2],[.int .i64,.bool]⟩,nres:=2,ms:=[],mu:=[],leak:=false,glob:=false,F:=fun (x:(jS×jI×Int))=>zeP x.1 x.2.1 x.2.2 }
-- term.Skip
def zIn:List (Nat×Con):=[(193,.gen (zV [w10_c]))]
def w11_v:Env:=zy tb gl zIn w11_c Tryz.f151.ntmps
theorem zFK:zA Tryz.prog (cond w11_c.glob gl fun _=>none) zIn:=(zb (zd (zc (w10_ok.anyGl rfl) ze)) zi)
def zkV:Exs:=[(.goto 0,⟨[0,1,2,8],⟨[.hole,.hole,.hole,.hole],[],[1,1,2,2],[kM,kJ,.int .i64,.int .i64]⟩⟩)]
def zpa:Exs:=[(.ret,⟨[6,7],⟨[.hole,.hole],[],[2,2],[.int .i64,.bool]⟩⟩)]
def zBO:AC:=.run
def zBd:List (Nat×AC):=[]
def zzc:Un:=scU w11_v [8,11,12,13,14,6,7,16,17,18,19,20,21,15,22,23,9,10,24,25,6,7,26,27,2,28,29,30,31,8,32,33,34,6,7] zkV zpa (zq (za Tryz.f151) [1,0]) (zBO) (lp zbf zp)
theorem zCs (f:YT zkV→Option (YT zpa)) (x:YT zkV):zq8 w11_v (zq (za Tryz.f151) [1,0]) (zuH (zBd)) zkV zpa f x=zbf f x:=by kernel_rfl
theorem zwr {X:Fx} (hX:VOk Tryz.prog X w11_v):q6 Tryz.prog X w11_v (zq (za Tryz.f151) [1]) zzc :=
 zxo (c:=(zq (za Tryz.f151) [1,0])) (by kernel_rfl) (zr zo (zFK)) zH (ob:=[]) (by kernel_rfl) (fun X hX=>zg) (fun X hX=>zyF zsC) (zCs) (by kernel_rfl) (by kernel_rfl) (by kernel_rfl) hX
def zLm:AC:=(.seq .run (.unit zzc))
theorem zOZ (x:zZ w11_c.inp.hs):E w11_v (za Tryz.f151) (zLm) (w11_c.entry x) (zB tb w11_v.fz w11_c [.tmp 6,.tmp 7] x)=w11_c.F x:=by kernel_rfl
theorem w11_ok:ShOk Tryz.prog gl 151 w11_c :=
 zC (l:=zIn) (n:=Tryz.f151.ntmps) (code:=za Tryz.f151) (rts:=[.tmp 6,.tmp 7]) zo zH (zFK) Tryz.func151 (by kernel_rfl) (by kernel_rfl) rfl (by kernel_rfl) (ac:=zLm) (ob:=[((zq (za Tryz.f151) [1]),zzc)]) (by kernel_rfl) (fun X hX=>(zn (zwr hX) zg)) (by kernel_rfl) (zOZ)
def w12_c:ShC:={ inp:=⟨[.hole,.hole],[],[1,1],[kM,kJ]⟩,out:=⟨[(.view 0),.hole],[.seq false],[2,2],[.bool,kJ]⟩,nres:=2,ms:=[],mu:=[],leak:=false,glob:=true,F:=fun (x:(jS×jI))=>zcQ x.1 x.2 }
-- term.begins
def zF0:List (Nat×Con):=[(52,.gen (zV [w8_c])),(151,.gen (zV [w11_c]))]
def w12_v:Env:=zy tb gl zF0 w12_c Tryz.f158.ntmps
theorem zD3:zA Tryz.prog (cond w12_c.glob gl fun _=>none) zF0:=(zb (zd (zc zIV ze)) (zb (zd (zc (w11_ok.anyGl rfl) ze)) zi))
def zk0:Exs:=[(.goto 0,⟨[0,1,6,7],⟨[.hole,.hole,(.view 0),.hole],[.seq false],[1,1,2,2],[kM,kJ,.int .i64,kJ]⟩⟩)]
def zon:Exs:=[(.ret,⟨[4,5],⟨[(.view 0),.hole],[.seq false],[2,2],[.bool,kJ]⟩⟩)]
def zA9:AC:=.run
def zBR:List (Nat×AC):=[]
def zzZ:Un:=scU w12_v [10,11,12,13,14,15,16,17,4,5,6,7,18,19,20,21,22,4,5,24,25,26,27,23,28,29,8,9,30,31,4,5,32,33,34,35,6,36,7] zk0 zon (zq (za Tryz.f158) [1,0]) (zA9) (lp zbA zp)
theorem zCG (f:YT zk0→Option (YT zon)) (x:YT zk0):zq8 w12_v (zq (za Tryz.f158) [1,0]) (zuH (zBR)) zk0 zon f x=zbA f x:=by kernel_rfl
theorem zx1 {X:Fx} (hX:VOk Tryz.prog X w12_v):q6 Tryz.prog X w12_v (zq (za Tryz.f158) [1]) zzZ :=
 zxo (c:=(zq (za Tryz.f158) [1,0])) (by kernel_rfl) (zr zo (zD3)) zH (ob:=[]) (by kernel_rfl) (fun X hX=>zg) (fun X hX=>zyF zsC) (zCG) (by kernel_rfl) (by kernel_rfl) (by kernel_rfl) hX
def zKP:AC:=(.seq .run (.unit zzZ))
theorem zNg (x:zZ w12_c.inp.hs):E w12_v (za Tryz.f158) (zKP) (w12_c.entry x) (zB tb w12_v.fz w12_c [.tmp 4,.tmp 5] x)=w12_c.F x:=by kernel_rfl
theorem zz5:ShOk Tryz.prog gl 158 w12_c :=
 zC (l:=zF0) (n:=Tryz.f158.ntmps) (code:=za Tryz.f158) (rts:=[.tmp 4,.tmp 5]) zo zH (zD3) Tryz.func158 (by kernel_rfl) (by kernel_rfl) rfl (by kernel_rfl) (ac:=zKP) (ob:=[((zq (za Tryz.f158) [1]),zzZ)]) (by kernel_rfl) (fun X hX=>(zn (zx1 hX) zg)) (by kernel_rfl) (zNg)
def w13_c:ShC:={ inp:=⟨[.hole,.hole],[],[1,1],[kM,kJ]⟩,out:=⟨[.hole],[],[2],[.bool]⟩,nres:=1,ms:=[],mu:=[],leak:=false,glob:=true,F:=fun (x:(jS×jI))=>zbK x.1 x.2 }
-- term.IsAtom
def zGo:List (Nat×Con):=[(158,.gen (zV [w12_c]))]
def w13_v:Env:=zy tb gl zGo w13_c Tryz.f101.ntmps
theorem zKz:zA Tryz.prog (cond w13_c.glob gl fun _=>none) zGo:=(zb (zd (zc zz5 ze)) zi)
def zKg:AC:=.run
theorem zOB (x:zZ w13_c.inp.hs):E w13_v (za Tryz.f101) (zKg) (w13_c.entry x) (zB tb w13_v.fz w13_c [.tmp 4] x)=w13_c.F x:=by kernel_rfl
theorem zD4:ShOk Tryz.prog gl 101 w13_c :=
 zC (l:=zGo) (n:=Tryz.f101.ntmps) (code:=za Tryz.f101) (rts:=[.tmp 4]) zo zH (zKz) Tryz.func101 (by kernel_rfl) (by kernel_rfl) rfl (by kernel_rfl) (ac:=zKg) (ob:=[]) (by kernel_rfl) (fun X hX=>zg) (by kernel_rfl) (zOB)
def w14_c:ShC:={ inp:=⟨[.hole,(.agg [.hole,.hole])],[],[1,1,1],[kM,.bool,kJ]⟩,out:=⟨[.hole],[],[2],[.bool]⟩,nres:=1,ms:=[],mu:=[],leak:=false,glob:=true,F:=fun (x:(jS×Bool×jI))=>zib x.1 x.2.1 x.2.2 }
-- lit.May
def zGz:List (Nat×Con):=[(101,.gen (zV [w13_c]))]
def w14_v:Env:=zy tb gl zGz w14_c Tryz.f142.ntmps
theorem zLI:zA Tryz.prog (cond w14_c.glob gl fun _=>none) zGz:=(zb (zd (zc zD4 ze)) zi)
def zJy:AC:=.run
theorem zNp (x:zZ w14_c.inp.hs):E w14_v (za Tryz.f142) (zJy) (w14_c.entry x) (zB tb w14_v.fz w14_c [.tmp 4] x)=w14_c.F x:=by kernel_rfl
theorem zAc:ShOk Tryz.prog gl 142 w14_c :=
 zC (l:=zGz) (n:=Tryz.f142.ntmps) (code:=za Tryz.f142) (rts:=[.tmp 4]) zo zH (zLI) Tryz.func142 (by kernel_rfl) (by kernel_rfl) rfl (by kernel_rfl) (ac:=zJy) (ob:=[]) (by kernel_rfl) (fun X hX=>zg) (by kernel_rfl) (zNp)
def w15_c:ShC:={ inp:=⟨[.hole,.hole],[],[1,1],[kM,kL]⟩,out:=⟨[.hole,.hole],[],[2,2],[.int .i64,.bool]⟩,nres:=2,ms:=[],mu:=[],leak:=false,glob:=true,F:=fun (x:(jS×jQ))=>zb5 x.1 x.2 }
-- clause.litsMay
def zGr:List (Nat×Con):=[(142,.gen (zV [w14_c]))]
def w15_v:Env:=zy tb gl zGr w15_c Tryz.f104.ntmps
theorem zFu:zA Tryz.prog (cond w15_c.glob gl fun _=>none) zGr:=(zb (zd (zc zAc ze)) zi)
def w15_u0_h:SS:=⟨[0,6,9,10,11],⟨[.hole,.hole,.hole,.hole,.hole],[],[1,2,1,2,2],[kM,.int .i64,kL,.int .i64,.int .i64]⟩⟩
def zom:Exs:=[((.exit 0),⟨[6],⟨[.hole],[],[2],[.int .i64]⟩⟩),(.ret,⟨[4,5],⟨[.hole,.hole],[],[2,2],[.int .i64,.bool]⟩⟩)]
def zDA:AC:=.run
def zxG:Un:=lpU w15_v.fz [12,13,14,8,15,16,17,18,4,5,19,20,21,22,23,6,24,11] w15_u0_h zom (lp yL zp)
theorem zCk (f:w15_u0_h.X→Option (YT zom)) (x:w15_u0_h.X):E w15_v (zq (za Tryz.f104) [1,1,0,1,0,0]) (zDA) (mkS w15_u0_h 8 x) (zx w15_v.fz w15_u0_h zom f)=yL f x:=by kernel_rfl
theorem zyE {X:Fx} (hX:VOk Tryz.prog X w15_v):q6 Tryz.prog X w15_v (zq (za Tryz.f104) [1,1,0,1,0]) zxG :=
 zz (c:=(zq (za Tryz.f104) [1,1,0,1,0,0])) (by kernel_rfl) (zr zo (zFu)) zH (ob:=[]) (by kernel_rfl) (fun X hX=>zg) (zCk) (by kernel_rfl) (by kernel_rfl) hX
def zJ3:AC:=(.seq .run (.seq .run (.seq (.seq .run (.block (.unit zxG))) .run)))
theorem zOw (x:zZ w15_c.inp.hs):E w15_v (za Tryz.f104) (zJ3) (w15_c.entry x) (zB tb w15_v.fz w15_c [.tmp 4,.tmp 5] x)=w15_c.F x:=by kernel_rfl
theorem zLz:ShOk Tryz.prog gl 104 w15_c :=
 zC (l:=zGr) (n:=Tryz.f104.ntmps) (code:=za Tryz.f104) (rts:=[.tmp 4,.tmp 5]) zo zH (zFu) Tryz.func104 (by kernel_rfl) (by kernel_rfl) rfl (by kernel_rfl) (ac:=zJ3) (ob:=[((zq (za Tryz.f104) [1,1,0,1,0]),zxG)]) (by kernel_rfl) (fun X hX=>(zn (zyE hX) zg)) (by kernel_rfl) (zOw)
def w16_c:ShC:={ inp:=⟨[.hole,.hole],[],[1,1],[kM,kJ]⟩,out:=⟨[.hole,.hole],[],[2,2],[.int .i64,.int .i64]⟩,nres:=2,ms:=[],mu:=[],leak:=false,glob:=true,F:=fun (x:(jS×jI))=>ze8 x.1 x.2 }
-- term.Row
def zGP:List (Nat×Con):=[(158,.gen (zV [w12_c]))]
def w16_v:Env:=zy tb gl zGP w16_c Tryz.f162.ntmps
theorem zKE:zA Tryz.prog (cond w16_c.glob gl fun _=>none) zGP:=(zb (zd (zc zz5 ze)) zi)
def zLk:AC:=.run
theorem zNr (x:zZ w16_c.inp.hs):E w16_v (za Tryz.f162) (zLk) (w16_c.entry x) (zB tb w16_v.fz w16_c [.tmp 4,.tmp 5] x)=w16_c.F x:=by kernel_rfl
theorem zFh:ShOk Tryz.prog gl 162 w16_c :=
 zC (l:=zGP) (n:=Tryz.f162.ntmps) (code:=za Tryz.f162) (rts:=[.tmp 4,.tmp 5]) zo zH (zKE) Tryz.func162 (by kernel_rfl) (by kernel_rfl) rfl (by kernel_rfl) (ac:=zLk) (ob:=[]) (by kernel_rfl) (fun X hX=>zg) (by kernel_rfl) (zNr)
def w17_c:ShC:={ inp:=⟨[.hole,.hole],[],[1,1],[kM,kK]⟩,out:=⟨[.hole,.hole],[],[2,2],[.int .i64,.bool]⟩,nres:=2,ms:=[],mu:=[],leak:=false,glob:=true,F:=fun (x:(jS×jR))=>zcY x.1 x.2 }
-- clause.rowsMay
def zFZ:List (Nat×Con):=[(162,.gen (zV [w16_c]))]
def w17_v:Env:=zy tb gl zFZ w17_c Tryz.f105.ntmps
theorem zFi:zA Tryz.prog (cond w17_c.glob gl fun _=>none) zFZ:=(zb (zd (zc zFh ze)) zi)
def w17_u0_h:SS:=⟨[0,6,7,12,13,14],⟨[.hole,.hole,.hole,.hole,.hole,.hole],[],[1,2,2,1,2,2],[kM,.int .i64,.int .i64,kK,.int .i64,.int .i64]⟩⟩
def zog:Exs:=[((.exit 0),⟨[6],⟨[.hole],[],[2],[.int .i64]⟩⟩),(.ret,⟨[4,5],⟨[.hole,.hole],[],[2,2],[.int .i64,.bool]⟩⟩)]
def zBh:AC:=.run
def zza:Un:=lpU w17_v.fz [15,16,17,18,8,9,20,21,22,19,23,24,10,11,25,26,27,7,28,29,30,31,32,33,34,4,5,35,36,37,38,6,39,14] w17_u0_h zog (lp yM zp)
theorem zDN (f:w17_u0_h.X→Option (YT zog)) (x:w17_u0_h.X):E w17_v (zq (za Tryz.f105) [1,1,0,1,0,0]) (zBh) (mkS w17_u0_h 8 x) (zx w17_v.fz w17_u0_h zog f)=yM f x:=by kernel_rfl
theorem zxM {X:Fx} (hX:VOk Tryz.prog X w17_v):q6 Tryz.prog X w17_v (zq (za Tryz.f105) [1,1,0,1,0]) zza :=
 zz (c:=(zq (za Tryz.f105) [1,1,0,1,0,0])) (by kernel_rfl) (zr zo (zFi)) zH (ob:=[]) (by kernel_rfl) (fun X hX=>zg) (zDN) (by kernel_rfl) (by kernel_rfl) hX
def zLl:AC:=(.seq .run (.seq .run (.seq (.seq .run (.block (.unit zza))) .run)))
theorem zOW (x:zZ w17_c.inp.hs):E w17_v (za Tryz.f105) (zLl) (w17_c.entry x) (zB tb w17_v.fz w17_c [.tmp 4,.tmp 5] x)=w17_c.F x:=by kernel_rfl
theorem zLQ:ShOk Tryz.prog gl 105 w17_c :=
 zC (l:=zFZ) (n:=Tryz.f105.ntmps) (code:=za Tryz.f105) (rts:=[.tmp 4,.tmp 5]) zo zH (zFi) Tryz.func105 (by kernel_rfl) (by kernel_rfl) rfl (by kernel_rfl) (ac:=zLl) (ob:=[((zq (za Tryz.f105) [1,1,0,1,0]),zza)]) (by kernel_rfl) (fun X hX=>(zn (zxM hX) zg)) (by kernel_rfl) (zOW)
def w18_c:ShC:={ inp:=⟨[.hole,(.agg [.hole,.hole,.hole])],[],[1,1,1,1],[kM,kL,kK,kL]⟩,out:=⟨[.hole],[],[2],[.bool]⟩,nres:=1,ms:=[],mu:=[],leak:=false,glob:=true,F:=fun (x:(jS×jQ×jR×jQ))=>zbz x.1 x.2.1 x.2.2.1 x.2.2.2 }
-- clause.May
def zGp:List (Nat×Con):=[(52,.gen (zV [w8_c])),(104,.gen (zV [w15_c])),(105,.gen (zV [w17_c]))]
def w18_v:Env:=zy tb gl zGp w18_c Tryz.f42.ntmps
theorem zLJ:zA Tryz.prog (cond w18_c.glob gl fun _=>none) zGp:=(zb (zd (zc zIV ze)) (zb (zd (zc zLz ze)) (zb (zd (zc zLQ ze)) zi)))
def zJP:AC:=.run
theorem zNu (x:zZ w18_c.inp.hs):E w18_v (za Tryz.f42) (zJP) (w18_c.entry x) (zB tb w18_v.fz w18_c [.tmp 4] x)=w18_c.F x:=by kernel_rfl
theorem zqM:ShOk Tryz.prog gl 42 w18_c :=
 zC (l:=zGp) (n:=Tryz.f42.ntmps) (code:=za Tryz.f42) (rts:=[.tmp 4]) zo zH (zLJ) Tryz.func42 (by kernel_rfl) (by kernel_rfl) rfl (by kernel_rfl) (ac:=zJP) (ob:=[]) (by kernel_rfl) (fun X hX=>zg) (by kernel_rfl) (zNu)
def w19_c:ShC:={ inp:=⟨[(.agg [.hole,.hole,.hole]),.hole],[],[1,1,1,1],[kL,kK,kL,.int .i64]⟩,out:=⟨[.hole],[],[2],[.bool]⟩,nres:=1,ms:=[],mu:=[],leak:=false,glob:=false,F:=fun (x:(jQ×jR×jQ×Int))=>zcl x.1 x.2.1 x.2.2.1 x.2.2.2 }
-- resolve.place
def zHf:List (Nat×Con):=[]
def w19_v:Env:=zy tb gl zHf w19_c Tryz.f83.ntmps
theorem zK8:zA Tryz.prog (cond w19_c.glob gl fun _=>none) zHf:=zi
def zJZ:AC:=.run
theorem zNH (x:zZ w19_c.inp.hs):E w19_v (za Tryz.f83) (zJZ) (w19_c.entry x) (zB tb w19_v.fz w19_c [.tmp 4] x)=w19_c.F x:=by kernel_rfl
theorem w19_ok:ShOk Tryz.prog gl 83 w19_c :=
 zC (l:=zHf) (n:=Tryz.f83.ntmps) (code:=za Tryz.f83) (rts:=[.tmp 4]) zo zH (zK8) Tryz.func83 (by kernel_rfl) (by kernel_rfl) rfl (by kernel_rfl) (ac:=zJZ) (ob:=[]) (by kernel_rfl) (fun X hX=>zg) (by kernel_rfl) (zNH)
def w20_c:ShC:={ inp:=⟨[.nilv,.hole],[],[1],[.int .i64]⟩,out:=⟨[(.view 0)],[.seq false],[2],[kL]⟩,nres:=1,ms:=[],mu:=[],leak:=false,glob:=false,F:=fun (x:Int)=>zdx x }
-- slices.Grow[[]api.Lit,api.Lit]
def zFS:List (Nat×Con):=[(1000025,.gen (zV []))]
def w20_v:Env:=zy tb gl zFS w20_c Tryz.f189.ntmps
theorem zKD:zA Tryz.prog (cond w20_c.glob gl fun _=>none) zFS:=(zb (zd ze) zi)
def zMF:AC:=.run
theorem zM2 (x:zZ w20_c.inp.hs):E w20_v (za Tryz.f189) (zMF) (w20_c.entry x) (zB tb w20_v.fz w20_c [.tmp 4] x)=w20_c.F x:=by kernel_rfl
theorem w20_ok:ShOk Tryz.prog gl 189 w20_c :=
 zC (l:=zFS) (n:=Tryz.f189.ntmps) (code:=za Tryz.f189) (rts:=[.tmp 4]) zo zH (zKD) Tryz.func189 (by kernel_rfl) (by kernel_rfl) rfl (by kernel_rfl) (ac:=zMF) (ob:=[]) (by kernel_rfl) (fun X hX=>zg) (by kernel_rfl) (zM2)
def w21_c:ShC:={ inp:=⟨[.hole],[],[1],[.sl (.one kL)]⟩,out:=⟨[(.view 0)],[.seq false],[0],[kL]⟩,nres:=1,ms:=[],mu:=[],leak:=true,glob:=false,F:=fun (x:(List jQ))=>zbR x }
-- slices.Concat[[]api.Lit,api.Lit]
def zHx:List (Nat×Con):=[(189,.gen (zV [w20_c]))]
def w21_v:Env:=zy tb gl zHx w21_c Tryz.f140.ntmps
theorem zv6:zA Tryz.prog (cond w21_c.glob gl fun _=>none) zHx:=(zb (zd (zc (w20_ok.anyGl rfl) ze)) zi)
def w21_u1_h:SS:=⟨[6,25,26,27],⟨[(.view 0),.hole,.hole,.hole],[.seq false],[1,2,2,0],[.sl (.one kL),.int .i64,.int .i64,kL]⟩⟩
def zn7:Exs:=[((.exit 2),⟨[6],⟨[(.view 0)],[.seq false],[0],[kL]⟩⟩)]
def zBH:AC:=.run
def zyR:Un:=lpU w21_v.fz [28,29,30,8,31,32,33,6,34,27] w21_u1_h zn7 (lp yu zp)
theorem zB4 (f:w21_u1_h.X→Option (YT zn7)) (x:w21_u1_h.X):E w21_v (zq (za Tryz.f140) [1,1,1,1,0,1,0,0]) (zBH) (mkS w21_u1_h 8 x) (zx w21_v.fz w21_u1_h zn7 f)=yu f x:=by kernel_rfl
theorem zAl {X:Fx} (hX:VOk Tryz.prog X w21_v):q6 Tryz.prog X w21_v (zq (za Tryz.f140) [1,1,1,1,0,1,0]) zyR :=
 zz (c:=(zq (za Tryz.f140) [1,1,1,1,0,1,0,0])) (by kernel_rfl) (zr zo (zv6)) zH (ob:=[]) (by kernel_rfl) (fun X hX=>zg) (zB4) (by kernel_rfl) (by kernel_rfl) hX
def w21_u0_h:SS:=⟨[0,3,9,10,11],⟨[.hole,.hole,.hole,.hole,.hole],[],[1,2,1,2,2],[.sl (.one kL),.int .i64,.sl (.one kL),.int .i64,.int .i64]⟩⟩
def zo8:Exs:=[((.exit 0),⟨[3],⟨[.hole],[],[2],[.int .i64]⟩⟩)]
def zAQ:AC:=.run
def zAz:Un:=lpU w21_v.fz [12,13,14,5,15,16,17,18,3,19,20,21,22,11] w21_u0_h zo8 (lp yv zp)
theorem zCW (f:w21_u0_h.X→Option (YT zo8)) (x:w21_u0_h.X):E w21_v (zq (za Tryz.f140) [1,1,0,1,0,0]) (zAQ) (mkS w21_u0_h 8 x) (zx w21_v.fz w21_u0_h zo8 f)=yv f x:=by kernel_rfl
theorem zy7 {X:Fx} (hX:VOk Tryz.prog X w21_v):q6 Tryz.prog X w21_v (zq (za Tryz.f140) [1,1,0,1,0]) zAz :=
 zz (c:=(zq (za Tryz.f140) [1,1,0,1,0,0])) (by kernel_rfl) (zr zo (zv6)) zH (ob:=[]) (by kernel_rfl) (fun X hX=>zg) (zCW) (by kernel_rfl) (by kernel_rfl) hX
def zLn:AC:=(.seq .run (.seq .run (.seq (.seq .run (.block (.unit zAz))) (.seq .run (.seq (.seq .run (.block (.unit zyR))) .run)))))
theorem zOn (x:zZ w21_c.inp.hs):E w21_v (za Tryz.f140) (zLn) (w21_c.entry x) (zB tb w21_v.fz w21_c [.tmp 2] x)=w21_c.F x:=by kernel_rfl
theorem w21_ok:ShOk Tryz.prog gl 140 w21_c :=
 zC (l:=zHx) (n:=Tryz.f140.ntmps) (code:=za Tryz.f140) (rts:=[.tmp 2]) zo zH (zv6) Tryz.func140 (by kernel_rfl) (by kernel_rfl) rfl (by kernel_rfl) (ac:=zLn) (ob:=[((zq (za Tryz.f140) [1,1,0,1,0]),zAz),((zq (za Tryz.f140) [1,1,1,1,0,1,0]),zyR)]) (by kernel_rfl) (fun X hX=>(zn (zy7 hX) (zn (zAl hX) zg))) (by kernel_rfl) (zOn)
def w22_c:ShC:={ inp:=⟨[.hole],[],[1],[.int .i64]⟩,out:=⟨[.hole],[],[2],[.bool]⟩,nres:=1,ms:=[],mu:=[],leak:=false,glob:=false,F:=fun (x:Int)=>ziI x }
-- cmp.isNaN[int]
def zIJ:List (Nat×Con):=[]
def w22_v:Env:=zy tb gl zIJ w22_c Tryz.f228.ntmps
theorem zK7:zA Tryz.prog (cond w22_c.glob gl fun _=>none) zIJ:=zi
def zMd:AC:=.run
theorem zNZ (x:zZ w22_c.inp.hs):E w22_v (za Tryz.f228) (zMd) (w22_c.entry x) (zB tb w22_v.fz w22_c [.tmp 2] x)=w22_c.F x:=by kernel_rfl
theorem w22_ok:ShOk Tryz.prog gl 228 w22_c :=
 zC (l:=zIJ) (n:=Tryz.f228.ntmps) (code:=za Tryz.f228) (rts:=[.tmp 2]) zo zH (zK7) Tryz.func228 (by kernel_rfl) (by kernel_rfl) rfl (by kernel_rfl) (ac:=zMd) (ob:=[]) (by kernel_rfl) (fun X hX=>zg) (by kernel_rfl) (zNZ)
def w23_c:ShC:={ inp:=⟨[.hole,.hole],[],[1,1],[.int .i64,.int .i64]⟩,out:=⟨[.hole],[],[2],[.bool]⟩,nres:=1,ms:=[],mu:=[],leak:=false,glob:=false,F:=fun (x:(Int×Int))=>zk3 x.1 x.2 }
-- cmp.Less[int]
def zG5:List (Nat×Con):=[(228,.gen (zV [w22_c]))]
def w23_v:Env:=zy tb gl zG5 w23_c Tryz.f218.ntmps
theorem zJE:zA Tryz.prog (cond w23_c.glob gl fun _=>none) zG5:=(zb (zd (zc (w22_ok.anyGl rfl) ze)) zi)
def zMc:AC:=.run
theorem zNA (x:zZ w23_c.inp.hs):E w23_v (za Tryz.f218) (zMc) (w23_c.entry x) (zB tb w23_v.fz w23_c [.tmp 4] x)=w23_c.F x:=by kernel_rfl
theorem w23_ok:ShOk Tryz.prog gl 218 w23_c :=
 zC (l:=zG5) (n:=Tryz.f218.ntmps) (code:=za Tryz.f218) (rts:=[.tmp 4]) zo zH (zJE) Tryz.func218 (by kernel_rfl) (by kernel_rfl) rfl (by kernel_rfl) (ac:=zMc) (ob:=[]) (by kernel_rfl) (fun X hX=>zg) (by kernel_rfl) (zNA)
def w24_c:ShC:={ inp:=⟨[.hole],[],[1],[.int .i64]⟩,out:=⟨[.hole],[],[2],[.bool]⟩,nres:=1,ms:=[],mu:=[],leak:=false,glob:=false,F:=fun (x:Int)=>zc6 x }
-- slices.isNaN[int]
def zHZ:List (Nat×Con):=[]
def w24_v:Env:=zy tb gl zHZ w24_c Tryz.f219.ntmps
theorem zL6:zA Tryz.prog (cond w24_c.glob gl fun _=>none) zHZ:=zi
def zMn:AC:=.run
theorem zOI (x:zZ w24_c.inp.hs):E w24_v (za Tryz.f219) (zMn) (w24_c.entry x) (zB tb w24_v.fz w24_c [.tmp 2] x)=w24_c.F x:=by kernel_rfl
theorem w24_ok:ShOk Tryz.prog gl 219 w24_c :=
 zC (l:=zHZ) (n:=Tryz.f219.ntmps) (code:=za Tryz.f219) (rts:=[.tmp 2]) zo zH (zL6) Tryz.func219 (by kernel_rfl) (by kernel_rfl) rfl (by kernel_rfl) (ac:=zMn) (ob:=[]) (by kernel_rfl) (fun X hX=>zg) (by kernel_rfl) (zOI)
def w25_c:ShC:={ inp:=⟨[.hole,.hole],[],[1,1],[kJ,.int .i64]⟩,out:=⟨[.hole,.hole],[],[2,2],[.int .i64,.bool]⟩,nres:=2,ms:=[],mu:=[],leak:=false,glob:=false,F:=fun (x:(jI×Int))=>zaG x.1 x.2 }
-- slices.BinarySearch[[]int,int]
def zIP:List (Nat×Con):=[(218,.gen (zV [w23_c])),(219,.gen (zV [w24_c]))]
def w25_v:Env:=zy tb gl zIP w25_c Tryz.f199.ntmps
theorem zFt:zA Tryz.prog (cond w25_c.glob gl fun _=>none) zIP:=(zb (zd (zc (w23_ok.anyGl rfl) ze)) (zb (zd (zc (w24_ok.anyGl rfl) ze)) zi))
def w25_u0_h:SS:=⟨[0,1,6,7,8],⟨[.hole,.hole,.hole,.hole,.hole],[],[1,2,2,2,2],[kJ,.int .i64,.int .i64,.int .i64,.int .i64]⟩⟩
def zoM:Exs:=[((.exit 0),⟨[7],⟨[.hole],[],[2],[.int .i64]⟩⟩)]
def zA2:AC:=.run
def zyI:Un:=lpU w25_v.fz [13,14,15,16,17,18,19,20,21,9,22,23,24,25,26,27,28,29,7,30,8] w25_u0_h zoM (lp yq zp)
theorem zBV (f:w25_u0_h.X→Option (YT zoM)) (x:w25_u0_h.X):E w25_v (zq (za Tryz.f199) [1,1,1,0,0,0]) (zA2) (mkS w25_u0_h 8 x) (zx w25_v.fz w25_u0_h zoM f)=yq f x:=by kernel_rfl
theorem zwZ {X:Fx} (hX:VOk Tryz.prog X w25_v):q6 Tryz.prog X w25_v (zq (za Tryz.f199) [1,1,1,0,0]) zyI :=
 zz (c:=(zq (za Tryz.f199) [1,1,1,0,0,0])) (by kernel_rfl) (zr zo (zFt)) zH (ob:=[]) (by kernel_rfl) (fun X hX=>zg) (zBV) (by kernel_rfl) (by kernel_rfl) hX
def zKS:AC:=(.seq .run (.seq .run (.seq .run (.seq (.block (.unit zyI)) .run))))
theorem zOE (x:zZ w25_c.inp.hs):E w25_v (za Tryz.f199) (zKS) (w25_c.entry x) (zB tb w25_v.fz w25_c [.tmp 4,.tmp 5] x)=w25_c.F x:=by kernel_rfl
theorem w25_ok:ShOk Tryz.prog gl 199 w25_c :=
 zC (l:=zIP) (n:=Tryz.f199.ntmps) (code:=za Tryz.f199) (rts:=[.tmp 4,.tmp 5]) zo zH (zFt) Tryz.func199 (by kernel_rfl) (by kernel_rfl) rfl (by kernel_rfl) (ac:=zKS) (ob:=[((zq (za Tryz.f199) [1,1,1,0,0]),zyI)]) (by kernel_rfl) (fun X hX=>(zn (zwZ hX) zg)) (by kernel_rfl) (zOE)
def zmT:Go.Shelf.Ren:={ f:=fun x=>match x with | 21=>200 | 27=>220 | 28=>221 | 35=>229 | 39=>234 | n=>n,t:=fun x=>match x with | 22=>23 | 3=>3 | 4=>4 | 0=>0 | n=>n,g:=fun x=>x }
theorem zjC:Go.Proofs.Lays2.n21 Tryz.prog zmT where
 mixed:=by kernel_rfl
 f21:=Tryz.func200.trans (by kernel_rfl)
 f27:=Tryz.func220.trans (by kernel_rfl)
 f28:=Tryz.func221.trans (by kernel_rfl)
 f35:=Tryz.func229.trans (by kernel_rfl)
 f39:=Tryz.func234.trans (by kernel_rfl)
 t0:=Tryz.underlying0
 a0:=Tryz.isAgg0
 z0:=Tryz.sizeOf0
 v0:=Tryz.zeroValue0
 t3:=Tryz.underlying3
 a3:=Tryz.isAgg3
 z3:=Tryz.sizeOf3
 v3:=Tryz.zeroValue3
 t4:=Tryz.underlying4
 a4:=Tryz.isAgg4
 z4:=Tryz.sizeOf4
 v4:=Tryz.zeroValue4
 t22:=Tryz.underlying23
 a22:=Tryz.isAgg23
 z22:=Tryz.sizeOf23
 v22:=Tryz.zeroValue23
 i3:=by kernel_rfl
def zL3:ShC:=insC
-- slices.Insert[[]int,int]
theorem w26_ok:ShOk Tryz.prog gl 200 zL3 :=
 zzs (code:=za Tryz.f200) Tryz.func200 (by kernel_rfl) (by kernel_rfl) zjC rfl
def w27_c:ShC:={ inp:=⟨[(.view 0),.hole],[.seq false],[1,1],[kJ,kJ]⟩,out:=⟨[(.view 0)],[.seq false],[0],[kJ]⟩,nres:=1,ms:=[],mu:=[],leak:=true,glob:=false,F:=fun (x:(jI×jI))=>zb9 x.1 x.2 }
-- term.Seen
def zGN:List (Nat×Con):=[(55,.gen (zV [w9_c])),(199,.gen (zV [w25_c])),(200,.gen (zV [zL3]))]
def w27_v:Env:=zy tb gl zGN w27_c Tryz.f163.ntmps
theorem zEy:zA Tryz.prog (cond w27_c.glob gl fun _=>none) zGN:=(zb (zd (zc (w9_ok.anyGl rfl) ze)) (zb (zd (zc (w25_ok.anyGl rfl) ze)) (zb (zd (zc (w26_ok.anyGl rfl) ze)) zi)))
def w27_u0_h:SS:=⟨[0,9,10,11],⟨[(.view 0),.hole,.hole,.hole],[.seq false],[1,2,2,0],[kJ,.int .i64,.int .i64,kJ]⟩⟩
def zoY:Exs:=[((.exit 0),⟨[0],⟨[(.view 0)],[.seq false],[0],[kJ]⟩⟩)]
def zAV:AC:=.run
def zzG:Un:=lpU w27_v.fz [12,13,14,6,15,16,18,19,20,21,17,22,23,7,8,24,25,26,27,28,29,30,31,0,32,11] w27_u0_h zoY (lp qV zp)
theorem zDx (f:w27_u0_h.X→Option (YT zoY)) (x:w27_u0_h.X):E w27_v (zq (za Tryz.f163) [1,0,1,0,0]) (zAV) (mkS w27_u0_h 8 x) (zx w27_v.fz w27_u0_h zoY f)=qV f x:=by kernel_rfl
theorem zyT {X:Fx} (hX:VOk Tryz.prog X w27_v):q6 Tryz.prog X w27_v (zq (za Tryz.f163) [1,0,1,0]) zzG :=
 zz (c:=(zq (za Tryz.f163) [1,0,1,0,0])) (by kernel_rfl) (zr zo (zEy)) zH (ob:=[]) (by kernel_rfl) (fun X hX=>zg) (zDx) (by kernel_rfl) (by kernel_rfl) hX
def zJj:AC:=(.seq .run (.seq (.seq .run (.block (.unit zzG))) .run))
theorem zOr (x:zZ w27_c.inp.hs):E w27_v (za Tryz.f163) (zJj) (w27_c.entry x) (zB tb w27_v.fz w27_c [.tmp 4] x)=w27_c.F x:=by kernel_rfl
theorem w27_ok:ShOk Tryz.prog gl 163 w27_c :=
 zC (l:=zGN) (n:=Tryz.f163.ntmps) (code:=za Tryz.f163) (rts:=[.tmp 4]) zo zH (zEy) Tryz.func163 (by kernel_rfl) (by kernel_rfl) rfl (by kernel_rfl) (ac:=zJj) (ob:=[((zq (za Tryz.f163) [1,0,1,0]),zzG)]) (by kernel_rfl) (fun X hX=>(zn (zyT hX) zg)) (by kernel_rfl) (zOr)
def w28_c:ShC:={ inp:=⟨[.hole,(.agg [.hole,.hole,.hole])],[],[1,1,1,1],[kM,kL,kK,kL]⟩,out:=⟨[(.view 0),.hole],[.seq false],[2,0],[.int .i64,kJ]⟩,nres:=2,ms:=[],mu:=[],leak:=true,glob:=true,F:=fun (x:(jS×jQ×jR×jQ))=>zce x.1 x.2.1 x.2.2.1 x.2.2.2 }
-- clause.Vars
def zF3:List (Nat×Con):=[(42,.gen (zV [w18_c])),(140,.gen (zV [w21_c])),(163,.gen (zV [w27_c]))]
def w28_v:Env:=zy tb gl zF3 w28_c Tryz.f107.ntmps
theorem zxy:zA Tryz.prog (cond w28_c.glob gl fun _=>none) zF3:=(zb (zd (zc zqM ze)) (zb (zd (zc (w21_ok.anyGl rfl) ze)) (zb (zd (zc (w27_ok.anyGl rfl) ze)) zi)))
def w28_u1_h:SS:=⟨[6,32,33,34],⟨[(.view 0),.hole,.hole,.hole],[.seq false],[1,2,2,0],[kK,.int .i64,.int .i64,kJ]⟩⟩
def zoa:Exs:=[((.exit 2),⟨[6],⟨[(.view 0)],[.seq false],[0],[kJ]⟩⟩)]
def zCV:AC:=.run
def zAp:Un:=lpU w28_v.fz [35,36,37,10,38,39,40,6,41,34] w28_u1_h zoa (lp q4 zp)
theorem zB3 (f:w28_u1_h.X→Option (YT zoa)) (x:w28_u1_h.X):E w28_v (zq (za Tryz.f107) [1,1,1,1,0,1,0,0]) (zCV) (mkS w28_u1_h 8 x) (zx w28_v.fz w28_u1_h zoa f)=q4 f x:=by kernel_rfl
theorem zz6 {X:Fx} (hX:VOk Tryz.prog X w28_v):q6 Tryz.prog X w28_v (zq (za Tryz.f107) [1,1,1,1,0,1,0]) zAp :=
 zz (c:=(zq (za Tryz.f107) [1,1,1,1,0,1,0,0])) (by kernel_rfl) (zr zo (zxy)) zH (ob:=[]) (by kernel_rfl) (fun X hX=>zg) (zB3) (by kernel_rfl) (by kernel_rfl) hX
def w28_u0_h:SS:=⟨[3,6,20,21,22],⟨[(.ptr 0 0),(.view 1),.hole,.hole,.hole],[.cells true [.hole,.hole,.hole],.seq false],[0,2,2,1,1,1,0],[kL,.int .i64,.int .i64,kL,kK,kL,kJ]⟩⟩
def znO:Exs:=[((.exit 0),⟨[6],⟨[(.view 0)],[.seq false],[0],[kJ]⟩⟩)]
def zAU:AC:=.run
def zy0:Un:=lpU w28_v.fz [23,24,25,8,26,27,28,29,6,30,22] w28_u0_h znO (lp qW zp)
theorem zCB (f:w28_u0_h.X→Option (YT znO)) (x:w28_u0_h.X):E w28_v (zq (za Tryz.f107) [1,1,1,0,1,0,0]) (zAU) (mkS w28_u0_h 8 x) (zx w28_v.fz w28_u0_h znO f)=qW f x:=by kernel_rfl
theorem zAo {X:Fx} (hX:VOk Tryz.prog X w28_v):q6 Tryz.prog X w28_v (zq (za Tryz.f107) [1,1,1,0,1,0]) zy0 :=
 zz (c:=(zq (za Tryz.f107) [1,1,1,0,1,0,0])) (by kernel_rfl) (zr zo (zxy)) zH (ob:=[]) (by kernel_rfl) (fun X hX=>zg) (zCB) (by kernel_rfl) (by kernel_rfl) hX
def zJS:AC:=(.seq .run (.seq .run (.seq .run (.seq (.seq .run (.block (.unit zy0))) (.seq (.seq .run (.block (.unit zAp))) .run)))))
theorem zOH (x:zZ w28_c.inp.hs):E w28_v (za Tryz.f107) (zJS) (w28_c.entry x) (zB tb w28_v.fz w28_c [.tmp 4,.tmp 5] x)=w28_c.F x:=by kernel_rfl
theorem zJU:ShOk Tryz.prog gl 107 w28_c :=
 zC (l:=zF3) (n:=Tryz.f107.ntmps) (code:=za Tryz.f107) (rts:=[.tmp 4,.tmp 5]) zo zH (zxy) Tryz.func107 (by kernel_rfl) (by kernel_rfl) rfl (by kernel_rfl) (ac:=zJS) (ob:=[((zq (za Tryz.f107) [1,1,1,0,1,0]),zy0),((zq (za Tryz.f107) [1,1,1,1,0,1,0]),zAp)]) (by kernel_rfl) (fun X hX=>(zn (zAo hX) (zn (zz6 hX) zg))) (by kernel_rfl) (zOH)
def w29_c:ShC:={ inp:=⟨[.hole],[],[1],[.ns kI]⟩,out:=⟨[(.view 0)],[.seq false],[2],[kJ]⟩,nres:=1,ms:=[],mu:=[],leak:=false,glob:=false,F:=fun (x:(Option jI))=>zgz x }
-- slices.Clone[[]int,int]
def zIc:List (Nat×Con):=[]
def w29_v:Env:=zy tb gl zIc w29_c Tryz.f115.ntmps
theorem zJf:zA Tryz.prog (cond w29_c.glob gl fun _=>none) zIc:=zi
def zMt:AC:=.run
theorem zN6 (x:zZ w29_c.inp.hs):E w29_v (za Tryz.f115) (zMt) (w29_c.entry x) (zB tb w29_v.fz w29_c [.tmp 2] x)=w29_c.F x:=by kernel_rfl
theorem zKe:ShOk Tryz.prog gl 115 w29_c :=
 zC (l:=zIc) (n:=Tryz.f115.ntmps) (code:=za Tryz.f115) (rts:=[.tmp 2]) zo zH (zJf) Tryz.func115 (by kernel_rfl) (by kernel_rfl) rfl (by kernel_rfl) (ac:=zMt) (ob:=[]) (by kernel_rfl) (fun X hX=>zg) (by kernel_rfl) (zN6)
def w30_c:ShC:={ inp:=⟨[.nilv],[],[],[]⟩,out:=⟨[(.view 0)],[.seq false],[2],[kJ]⟩,nres:=1,ms:=[],mu:=[],leak:=false,glob:=false,F:=fun (x:Unit)=>zmW }
-- slices.Clone[[]int,int]
def zG2:List (Nat×Con):=[]
def w30_v:Env:=zy tb gl zG2 w30_c Tryz.f115.ntmps
theorem zLN:zA Tryz.prog (cond w30_c.glob gl fun _=>none) zG2:=zi
def zJd:AC:=.run
theorem zMV (x:zZ w30_c.inp.hs):E w30_v (za Tryz.f115) (zJd) (w30_c.entry x) (zB tb w30_v.fz w30_c [.tmp 2] x)=w30_c.F x:=by kernel_rfl
theorem zKi:ShOk Tryz.prog gl 115 w30_c :=
 zC (l:=zG2) (n:=Tryz.f115.ntmps) (code:=za Tryz.f115) (rts:=[.tmp 2]) zo zH (zLN) Tryz.func115 (by kernel_rfl) (by kernel_rfl) rfl (by kernel_rfl) (ac:=zJd) (ob:=[]) (by kernel_rfl) (fun X hX=>zg) (by kernel_rfl) (zMV)
def zCo:ShC:={ inp:=⟨[.hole],[],[1],[kJ]⟩,out:=⟨[(.view 0)],[.seq false],[2],[kJ]⟩,nres:=1,ms:=[],mu:=[],leak:=false,glob:=false,F:=fun (x:jI)=>zb2 x }
-- slices.Clone[[]int,int]
theorem w31_ok:ShOk Tryz.prog gl 115 zCo :=
 zL4 zKi zKe fun xs y h=>⟨h,fun e=>by subst e; exact h⟩
def w32_c:ShC:={ inp:=⟨[.hole,(.ptr 0 0)],[.cells true [.hole]],[1,1],[kJ,.int .i64]⟩,out:=⟨[(.view 0)],[.seq false],[2],[kJ]⟩,nres:=1,ms:=[],mu:=[],leak:=false,glob:=false,F:=fun (x:(jI×Int))=>qy x.1 x.2 }
-- clause.Shift$1
def zGh:List (Nat×Con):=[(115,.gen (zV [zCo]))]
def w32_v:Env:=zy tb gl zGh w32_c Tryz.f216.ntmps
theorem zEd:zA Tryz.prog (cond w32_c.glob gl fun _=>none) zGh:=(zb (zd (zc (w31_ok.anyGl rfl) ze)) zi)
def w32_u0_h:SS:=⟨[1,4,9,10,11],⟨[(.ptr 0 0),(.view 1),(.view 1),.hole,.hole],[.cells true [.hole],.seq false],[2,2,2,2],[.int .i64,.int .i64,.int .i64,kJ]⟩⟩
def znV:Exs:=[((.exit 0),⟨[4],⟨[(.view 0)],[.seq false],[2],[kJ]⟩⟩)]
def zBL:AC:=.run
def zzf:Un:=lpU w32_v.fz [12,13,14,15,5,6,16,17,18,19,20,21,22,23,24,11] w32_u0_h znV (lp yQ zp)
theorem zCl (f:w32_u0_h.X→Option (YT znV)) (x:w32_u0_h.X):E w32_v (zq (za Tryz.f216) [1,1,0,1,0,0]) (zBL) (mkS w32_u0_h 8 x) (zx w32_v.fz w32_u0_h znV f)=yQ f x:=by kernel_rfl
theorem zzL {X:Fx} (hX:VOk Tryz.prog X w32_v):q6 Tryz.prog X w32_v (zq (za Tryz.f216) [1,1,0,1,0]) zzf :=
 zz (c:=(zq (za Tryz.f216) [1,1,0,1,0,0])) (by kernel_rfl) (zr zo (zEd)) zH (ob:=[]) (by kernel_rfl) (fun X hX=>zg) (zCl) (by kernel_rfl) (by kernel_rfl) hX
def zLj:AC:=(.seq .run (.seq .run (.seq (.seq .run (.block (.unit zzf))) .run)))
theorem zN1 (x:zZ w32_c.inp.hs):E w32_v (za Tryz.f216) (zLj) (w32_c.entry x) (zB tb w32_v.fz w32_c [.tmp 3] x)=w32_c.F x:=by kernel_rfl
theorem w32_ok:ShOk Tryz.prog gl 216 w32_c :=
 zC (l:=zGh) (n:=Tryz.f216.ntmps) (code:=za Tryz.f216) (rts:=[.tmp 3]) zo zH (zEd) Tryz.func216 (by kernel_rfl) (by kernel_rfl) rfl (by kernel_rfl) (ac:=zLj) (ob:=[((zq (za Tryz.f216) [1,1,0,1,0]),zzf)]) (by kernel_rfl) (fun X hX=>(zn (zzL hX) zg)) (by kernel_rfl) (zN1)
def w33_c:ShC:={ inp:=⟨[(.agg [.hole,.hole,.hole]),(.clo 216 [(.ptr 0 0)])],[.cells true [.hole]],[1,1,1,1],[kL,kK,kL,.int .i64]⟩,out:=⟨[(.agg [.hole,.hole,(.view 0)])],[.seq false],[2,2,2],[kL,kK,kL]⟩,nres:=1,ms:=[],mu:=[],leak:=false,glob:=false,F:=fun (x:(jQ×jR×jQ×Int))=>zfn x.1 x.2.1 x.2.2.1 x.2.2.2 }
-- clause.each
def zGB:List (Nat×Con):=[(216,.gen (zV [w32_c]))]
def w33_v:Env:=zy tb gl zGB w33_c Tryz.f170.ntmps
theorem zsZ:zA Tryz.prog (cond w33_c.glob gl fun _=>none) zGB:=(zb (zd (zc (w32_ok.anyGl rfl) ze)) zi)
def w33_u2_h:SS:=⟨[1,4,5,49,50,51],⟨[(.clo 216 [(.ptr 0 0)]),(.ptr 1 0),(.ptr 2 0),.hole,.hole,.hole],[.cells true [.hole],.cells true [.nilv,.nilv,.nilv],.cells false [.hole,.hole,(.view 3)],.seq false],[1,2,2,2,2,2,2],[kL,.int .i64,.int .i64,.int .i64,kL,kK,kL]⟩⟩
def zoU:Exs:=[((.exit 4),⟨[5],⟨[(.ptr 0 0)],[.cells false [.hole,.hole,(.view 1)],.seq false],[2,2,2],[kL,kK,kL]⟩⟩)]
def zAH:AC:=.run
def zxZ:Un:=lpU w33_v.fz [52,53,54,11,55,56,57,58,59,60,61,62,63,64,65,66,67,51] w33_u2_h zoU (lp qe zp)
theorem zDv (f:w33_u2_h.X→Option (YT zoU)) (x:w33_u2_h.X):E w33_v (zq (za Tryz.f170) [1,1,1,1,0,1,0,0]) (zAH) (mkS w33_u2_h 8 x) (zx w33_v.fz w33_u2_h zoU f)=qe f x:=by kernel_rfl
theorem zxB {X:Fx} (hX:VOk Tryz.prog X w33_v):q6 Tryz.prog X w33_v (zq (za Tryz.f170) [1,1,1,1,0,1,0]) zxZ :=
 zz (c:=(zq (za Tryz.f170) [1,1,1,1,0,1,0,0])) (by kernel_rfl) (zr zo (zsZ)) zH (ob:=[]) (by kernel_rfl) (fun X hX=>zg) (zDv) (by kernel_rfl) (by kernel_rfl) hX
def w33_u1_h:SS:=⟨[1,2,4,5,33,34,35],⟨[(.clo 216 [(.ptr 0 0)]),(.ptr 1 0),(.ptr 2 0),(.ptr 3 0),.hole,.hole,.hole],[.cells true [.hole],.cells true [.hole,.hole,.hole],.cells true [.nilv,.nilv,.nilv],.cells false [.hole,(.view 4),.nilv],.seq false],[1,2,2,2,1,1,1,2,2],[kK,.int .i64,.int .i64,.int .i64,kL,kK,kL,kL,kK]⟩⟩
def zod:Exs:=[((.exit 2),⟨[5],⟨[(.ptr 0 0)],[.cells false [.hole,(.view 1),.nilv],.seq false],[2,2],[kL,kK]⟩⟩)]
def zCc:AC:=.run
def zxp:Un:=lpU w33_v.fz [36,37,38,9,39,40,41,42,43,44,45,46,47,35] w33_u1_h zod (lp yX zp)
theorem zDM (f:w33_u1_h.X→Option (YT zod)) (x:w33_u1_h.X):E w33_v (zq (za Tryz.f170) [1,1,1,0,1,0,0]) (zCc) (mkS w33_u1_h 8 x) (zx w33_v.fz w33_u1_h zod f)=yX f x:=by kernel_rfl
theorem zAu {X:Fx} (hX:VOk Tryz.prog X w33_v):q6 Tryz.prog X w33_v (zq (za Tryz.f170) [1,1,1,0,1,0]) zxp :=
 zz (c:=(zq (za Tryz.f170) [1,1,1,0,1,0,0])) (by kernel_rfl) (zr zo (zsZ)) zH (ob:=[]) (by kernel_rfl) (fun X hX=>zg) (zDM) (by kernel_rfl) (by kernel_rfl) hX
def w33_u0_h:SS:=⟨[1,2,4,5,13,14,15],⟨[(.clo 216 [(.ptr 0 0)]),(.ptr 1 0),(.ptr 2 0),(.ptr 3 0),.hole,.hole,.hole],[.cells true [.hole],.cells true [.hole,.hole,.hole],.cells true [.nilv,.nilv,.nilv],.cells false [(.view 4),.nilv,.nilv],.seq false],[1,2,2,2,1,1,1,2],[kL,.int .i64,.int .i64,.int .i64,kL,kK,kL,kL]⟩⟩
def zn1:Exs:=[((.exit 0),⟨[5],⟨[(.ptr 0 0)],[.cells false [(.view 1),.nilv,.nilv],.seq false],[2],[kL]⟩⟩)]
def zBr:AC:=.run
def zw4:Un:=lpU w33_v.fz [16,17,18,7,19,20,21,22,23,24,25,26,27,28,29,30,31,15] w33_u0_h zn1 (lp qa zp)
theorem zDT (f:w33_u0_h.X→Option (YT zn1)) (x:w33_u0_h.X):E w33_v (zq (za Tryz.f170) [1,1,0,1,0,0]) (zBr) (mkS w33_u0_h 8 x) (zx w33_v.fz w33_u0_h zn1 f)=qa f x:=by kernel_rfl
theorem zxr {X:Fx} (hX:VOk Tryz.prog X w33_v):q6 Tryz.prog X w33_v (zq (za Tryz.f170) [1,1,0,1,0]) zw4 :=
 zz (c:=(zq (za Tryz.f170) [1,1,0,1,0,0])) (by kernel_rfl) (zr zo (zsZ)) zH (ob:=[]) (by kernel_rfl) (fun X hX=>zg) (zDT) (by kernel_rfl) (by kernel_rfl) hX
def zMu:AC:=(.seq .run (.seq .run (.seq (.seq .run (.block (.unit zw4))) (.seq (.seq .run (.block (.unit zxp))) (.seq (.seq .run (.block (.unit zxZ))) .run)))))
theorem zOY (x:zZ w33_c.inp.hs):E w33_v (za Tryz.f170) (zMu) (w33_c.entry x) (zB tb w33_v.fz w33_c [.cell 4 29] x)=w33_c.F x:=by kernel_rfl
theorem w33_ok:ShOk Tryz.prog gl 170 w33_c :=
 zC (l:=zGB) (n:=Tryz.f170.ntmps) (code:=za Tryz.f170) (rts:=[.cell 4 29]) zo zH (zsZ) Tryz.func170 (by kernel_rfl) (by kernel_rfl) rfl (by kernel_rfl) (ac:=zMu) (ob:=[((zq (za Tryz.f170) [1,1,0,1,0]),zw4),((zq (za Tryz.f170) [1,1,1,0,1,0]),zxp),((zq (za Tryz.f170) [1,1,1,1,0,1,0]),zxZ)]) (by kernel_rfl) (fun X hX=>(zn (zxr hX) (zn (zAu hX) (zn (zxB hX) zg)))) (by kernel_rfl) (zOY)
def w34_c:ShC:={ inp:=⟨[(.agg [.hole,.hole,.hole]),.hole],[],[1,1,1,1],[kL,kK,kL,.int .i64]⟩,out:=⟨[(.agg [.hole,.hole,(.view 0)])],[.seq false],[2,2,2],[kL,kK,kL]⟩,nres:=1,ms:=[],mu:=[],leak:=false,glob:=false,F:=fun (x:(jQ×jR×jQ×Int))=>zax x.1 x.2.1 x.2.2.1 x.2.2.2 }
-- clause.Shift
def zGL:List (Nat×Con):=[(170,.gen (zV [w33_c]))]
def w34_v:Env:=zy tb gl zGL w34_c Tryz.f192.ntmps
theorem zMi:zA Tryz.prog (cond w34_c.glob gl fun _=>none) zGL:=(zb (zd (zc (w33_ok.anyGl rfl) ze)) zi)
def zJa:AC:=.run
theorem zN9 (x:zZ w34_c.inp.hs):E w34_v (za Tryz.f192) (zJa) (w34_c.entry x) (zB tb w34_v.fz w34_c [.cell 4 29] x)=w34_c.F x:=by kernel_rfl
theorem w34_ok:ShOk Tryz.prog gl 192 w34_c :=
 zC (l:=zGL) (n:=Tryz.f192.ntmps) (code:=za Tryz.f192) (rts:=[.cell 4 29]) zo zH (zMi) Tryz.func192 (by kernel_rfl) (by kernel_rfl) rfl (by kernel_rfl) (ac:=zJa) (ob:=[]) (by kernel_rfl) (fun X hX=>zg) (by kernel_rfl) (zN9)
def w35_c:ShC:={ inp:=⟨[.hole,(.agg [.hole,.hole,.hole]),(.agg [.hole,.hole,.hole])],[],[1,1,1,1,1,1,1],[kM,kL,kK,kL,kL,kK,kL]⟩,out:=⟨[(.agg [.hole,.hole,(.view 0)]),.hole],[.seq false],[2,2,2,2],[kL,kK,.bool,kL]⟩,nres:=2,ms:=[],mu:=[],leak:=false,glob:=true,F:=fun (x:(jS×jQ×jR×jQ×jQ×jR×jQ))=>zcA x.1 x.2.1 x.2.2.1 x.2.2.2.1 x.2.2.2.2.1 x.2.2.2.2.2.1 x.2.2.2.2.2.2 }
-- resolve.Apart
def zGU:List (Nat×Con):=[(107,.gen (zV [w28_c])),(192,.gen (zV [w34_c]))]
def w35_v:Env:=zy tb gl zGU w35_c Tryz.f149.ntmps
theorem zKu:zA Tryz.prog (cond w35_c.glob gl fun _=>none) zGU:=(zb (zd (zc zJU ze)) (zb (zd (zc (w34_ok.anyGl rfl) ze)) zi))
def zMx:AC:=.run
theorem zN3 (x:zZ w35_c.inp.hs):E w35_v (za Tryz.f149) (zMx) (w35_c.entry x) (zB tb w35_v.fz w35_c [.cell 6 29,.tmp 7] x)=w35_c.F x:=by kernel_rfl
theorem zKB:ShOk Tryz.prog gl 149 w35_c :=
 zC (l:=zGU) (n:=Tryz.f149.ntmps) (code:=za Tryz.f149) (rts:=[.cell 6 29,.tmp 7]) zo zH (zKu) Tryz.func149 (by kernel_rfl) (by kernel_rfl) rfl (by kernel_rfl) (ac:=zMx) (ob:=[]) (by kernel_rfl) (fun X hX=>zg) (by kernel_rfl) (zN3)
def w36_c:ShC:={ inp:=⟨[.hole,.hole],[],[1,1],[kM,kJ]⟩,out:=⟨[(.view 0)],[.seq false],[0],[kK]⟩,nres:=1,ms:=[],mu:=[],leak:=true,glob:=false,F:=fun (x:(jS×jI))=>zbG x.1 x.2 }
-- term.Pieces
def zIQ:List (Nat×Con):=[(151,.gen (zV [w11_c]))]
def w36_v:Env:=zy tb gl zIQ w36_c Tryz.f175.ntmps
theorem zFz:zA Tryz.prog (cond w36_c.glob gl fun _=>none) zIQ:=(zb (zd (zc (w11_ok.anyGl rfl) ze)) zi)
def w36_u0_h:SS:=⟨[0,1,5,6],⟨[.hole,.hole,(.view 0),.hole],[.seq false],[1,1,2,0],[kM,kJ,.int .i64,kK]⟩⟩
def zoH:Exs:=[((.exit 0),⟨[5],⟨[(.view 0)],[.seq false],[0],[kK]⟩⟩),(.ret,⟨[4],⟨[(.view 0)],[.seq false],[0],[kK]⟩⟩)]
def zBG:AC:=.run
def zAy:Un:=lpU w36_v.fz [9,10,11,12,14,15,16,17,13,18,19,7,8,20,21,22,4,23,24,25,26,27,28,29,5,30,6] w36_u0_h zoH (lp zbx zp)
theorem zBv (f:w36_u0_h.X→Option (YT zoH)) (x:w36_u0_h.X):E w36_v (zq (za Tryz.f175) [1,1,0,1,0,0]) (zBG) (mkS w36_u0_h 8 x) (zx w36_v.fz w36_u0_h zoH f)=zbx f x:=by kernel_rfl
theorem zxV {X:Fx} (hX:VOk Tryz.prog X w36_v):q6 Tryz.prog X w36_v (zq (za Tryz.f175) [1,1,0,1,0]) zAy :=
 zz (c:=(zq (za Tryz.f175) [1,1,0,1,0,0])) (by kernel_rfl) (zr zo (zFz)) zH (ob:=[]) (by kernel_rfl) (fun X hX=>zg) (zBv) (by kernel_rfl) (by kernel_rfl) hX
def zJ6:AC:=(.seq .run (.seq .run (.seq (.seq .run (.block (.unit zAy))) .run)))
theorem zOJ (x:zZ w36_c.inp.hs):E w36_v (za Tryz.f175) (zJ6) (w36_c.entry x) (zB tb w36_v.fz w36_c [.tmp 4] x)=w36_c.F x:=by kernel_rfl
theorem w36_ok:ShOk Tryz.prog gl 175 w36_c :=
 zC (l:=zIQ) (n:=Tryz.f175.ntmps) (code:=za Tryz.f175) (rts:=[.tmp 4]) zo zH (zFz) Tryz.func175 (by kernel_rfl) (by kernel_rfl) rfl (by kernel_rfl) (ac:=zJ6) (ob:=[((zq (za Tryz.f175) [1,1,0,1,0]),zAy)]) (by kernel_rfl) (fun X hX=>(zn (zxV hX) zg)) (by kernel_rfl) (zOJ)
def w37_c:ShC:={ inp:=⟨[(.ptr 0 0),(.view 1),(.agg [.hole,.hole]),(.agg [.hole,.hole])],[.cells true [.hole,.hole],.seq false],[1,1,1,1,1,1,1],[kJ,.int .i64,kJ,.int .i64,kM,.ar (.cons (.ns kI) kI) 48,.sl (.cons kJ (.cons kZ (.cons kJ kI)))]⟩,out:=⟨[(.view 0)],[.seq false],[0],[.sl (.cons kJ (.cons kZ (.cons kJ kI)))]⟩,nres:=1,ms:=[],mu:=[],leak:=true,glob:=false,F:=fun (x:(jI×Int×jI×Int×jS×(List ((Option jI)×Int))×(List (jI×Int×jI×Int))))=>qN x.1 x.2.1 x.2.2.1 x.2.2.2.1 x.2.2.2.2.1 x.2.2.2.2.2.1 x.2.2.2.2.2.2 }
-- (*unify.run).pairs
def zIU:List (Nat×Con):=[(175,.gen (zV [w36_c]))]
def w37_v:Env:=zy tb gl zIU w37_c Tryz.f210.ntmps
theorem zFl:zA Tryz.prog (cond w37_c.glob gl fun _=>none) zIU:=(zb (zd (zc (w36_ok.anyGl rfl) ze)) zi)
def w37_u0_h:SS:=⟨[1,6,7,9,10,27,28],⟨[(.view 0),(.ptr 1 0),(.ptr 2 0),.hole,.hole,.hole,.hole],[.seq false,.cells true [.hole,.hole],.cells true [.hole,.hole]],[0,0,2,2,0,1,2,1,2],[kK,kK,.int .i64,.int .i64,.sl (.cons kJ (.cons kZ (.cons kJ kI))),kJ,.int .i64,kJ,.int .i64]⟩⟩
def zoe:Exs:=[((.exit 0),⟨[1],⟨[(.view 0)],[.seq false],[0],[.sl (.cons kJ (.cons kZ (.cons kJ kI)))]⟩⟩)]
def zBQ:AC:=.run
def zvB:Un:=lpU w37_v.fz [29,30,11,31,32,33,34,35,36,37,38,39,40,41,42,43,44,45,46,47,48,1,49,28] w37_u0_h zoe (lp z6 zp)
theorem zDw (f:w37_u0_h.X→Option (YT zoe)) (x:w37_u0_h.X):E w37_v (zq (za Tryz.f210) [1,1,0,1,0,0]) (zBQ) (mkS w37_u0_h 8 x) (zx w37_v.fz w37_u0_h zoe f)=z6 f x:=by kernel_rfl
theorem zvp {X:Fx} (hX:VOk Tryz.prog X w37_v):q6 Tryz.prog X w37_v (zq (za Tryz.f210) [1,1,0,1,0]) zvB :=
 zz (c:=(zq (za Tryz.f210) [1,1,0,1,0,0])) (by kernel_rfl) (zr zo (zFl)) zH (ob:=[]) (by kernel_rfl) (fun X hX=>zg) (zDw) (by kernel_rfl) (by kernel_rfl) hX
def zKI:AC:=(.seq .run (.seq .run (.seq (.seq .run (.block (.unit zvB))) .run)))
theorem zNh (x:zZ w37_c.inp.hs):E w37_v (za Tryz.f210) (zKI) (w37_c.entry x) (zB tb w37_v.fz w37_c [.tmp 8] x)=w37_c.F x:=by kernel_rfl
theorem w37_ok:ShOk Tryz.prog gl 210 w37_c :=
 zC (l:=zIU) (n:=Tryz.f210.ntmps) (code:=za Tryz.f210) (rts:=[.tmp 8]) zo zH (zFl) Tryz.func210 (by kernel_rfl) (by kernel_rfl) rfl (by kernel_rfl) (ac:=zKI) (ob:=[((zq (za Tryz.f210) [1,1,0,1,0]),zvB)]) (by kernel_rfl) (fun X hX=>(zn (zvp hX) zg)) (by kernel_rfl) (zNh)
def w38_c:ShC:={ inp:=⟨[(.agg [.hole,.hole]),.hole],[],[1,1,1],[kJ,.int .i64,.int .i64]⟩,out:=⟨[.hole],[],[2],[.int .i64]⟩,nres:=1,ms:=[],mu:=[],leak:=false,glob:=false,F:=fun (x:(jI×Int×Int))=>yR x.1 x.2.1 x.2.2 }
-- (unify.piece).number
def zIS:List (Nat×Con):=[(55,.gen (zV [w9_c]))]
def w38_v:Env:=zy tb gl zIS w38_c Tryz.f213.ntmps
theorem zLW:zA Tryz.prog (cond w38_c.glob gl fun _=>none) zIS:=(zb (zd (zc (w9_ok.anyGl rfl) ze)) zi)
def zJH:AC:=.run
theorem zOx (x:zZ w38_c.inp.hs):E w38_v (za Tryz.f213) (zJH) (w38_c.entry x) (zB tb w38_v.fz w38_c [.tmp 4] x)=w38_c.F x:=by kernel_rfl
theorem w38_ok:ShOk Tryz.prog gl 213 w38_c :=
 zC (l:=zIS) (n:=Tryz.f213.ntmps) (code:=za Tryz.f213) (rts:=[.tmp 4]) zo zH (zLW) Tryz.func213 (by kernel_rfl) (by kernel_rfl) rfl (by kernel_rfl) (ac:=zJH) (ob:=[]) (by kernel_rfl) (fun X hX=>zg) (by kernel_rfl) (zOx)
def w39_c:ShC:={ inp:=⟨[(.ptr 0 0),(.agg [.hole,.hole])],[.cells true [.hole,.hole]],[1,1,1,1],[kJ,.int .i64,kM,.ar (.cons (.ns kI) kI) 48]⟩,out:=⟨[(.agg [.hole,.hole])],[],[1,2],[kJ,.int .i64]⟩,nres:=1,ms:=[],mu:=[],leak:=true,glob:=false,F:=fun (x:(jI×Int×jS×(List ((Option jI)×Int))))=>za6 x.1 x.2.1 x.2.2.1 x.2.2.2 }
-- (*unify.run).what
def zH5:List (Nat×Con):=[(213,.gen (zV [w38_c]))]
def w39_v:Env:=zy tb gl zH5 w39_c Tryz.f211.ntmps
theorem zFd:zA Tryz.prog (cond w39_c.glob gl fun _=>none) zH5:=(zb (zd (zc (w38_ok.anyGl rfl) ze)) zi)
def w39_u0_h:SS:=⟨[0,3,4],⟨[(.ptr 0 0),(.ptr 1 0),(.ptr 2 0)],[.cells true [.hole,.hole],.cells false [.hole,.hole],.cells true [.nilv,.hole]],[1,1,1,2,2],[kM,.ar (.cons (.ns kI) kI) 48,kJ,.int .i64,.int .i64]⟩⟩
def zo7:Exs:=[((.exit 0),⟨[3],⟨[(.ptr 0 0)],[.cells false [.hole,.hole]],[1,2],[kJ,.int .i64]⟩⟩)]
def zC0:AC:=.run
def zwa:Un:=lpU w39_v.fz [6,7,8,9,10,11,12,13,14,15,16,17,18,19,20,21,5,22,23,24,25] w39_u0_h zo7 (lp zaA zp)
theorem zBX (f:w39_u0_h.X→Option (YT zo7)) (x:w39_u0_h.X):E w39_v (zq (za Tryz.f211) [1,0,0,0]) (zC0) (mkS w39_u0_h 8 x) (zx w39_v.fz w39_u0_h zo7 f)=zaA f x:=by kernel_rfl
theorem zzb {X:Fx} (hX:VOk Tryz.prog X w39_v):q6 Tryz.prog X w39_v (zq (za Tryz.f211) [1,0,0]) zwa :=
 zz (c:=(zq (za Tryz.f211) [1,0,0,0])) (by kernel_rfl) (zr zo (zFd)) zH (ob:=[]) (by kernel_rfl) (fun X hX=>zg) (zBX) (by kernel_rfl) (by kernel_rfl) hX
def zLC:AC:=(.seq .run (.seq (.block (.unit zwa)) .run))
theorem zOe (x:zZ w39_c.inp.hs):E w39_v (za Tryz.f211) (zLC) (w39_c.entry x) (zB tb w39_v.fz w39_c [.cell 4 198] x)=w39_c.F x:=by kernel_rfl
theorem w39_ok:ShOk Tryz.prog gl 211 w39_c :=
 zC (l:=zH5) (n:=Tryz.f211.ntmps) (code:=za Tryz.f211) (rts:=[.cell 4 198]) zo zH (zFd) Tryz.func211 (by kernel_rfl) (by kernel_rfl) rfl (by kernel_rfl) (ac:=zLC) (ob:=[((zq (za Tryz.f211) [1,0,0]),zwa)]) (by kernel_rfl) (fun X hX=>(zn (zzb hX) zg)) (by kernel_rfl) (zOe)
def w40_c:ShC:={ inp:=⟨[(.ptr 0 0),.hole,(.agg [.hole,.hole])],[.cells true [.hole,.hole]],[1,1,1,1,1],[.int .i64,kJ,.int .i64,kM,.ar (.cons (.ns kI) kI) 48]⟩,out:=⟨[.hole],[],[2],[.bool]⟩,nres:=1,ms:=[],mu:=[],leak:=false,glob:=false,F:=fun (x:(Int×jI×Int×jS×(List ((Option jI)×Int))))=>zb8 x.1 x.2.1 x.2.2.1 x.2.2.2.1 x.2.2.2.2 }
-- (*unify.run).within
def zID:List (Nat×Con):=[(213,.gen (zV [w38_c])),(1000027,.gen (zV []))]
def w40_v:Env:=zy tb gl zID w40_c Tryz.f226.ntmps
theorem zxS:zA Tryz.prog (cond w40_c.glob gl fun _=>none) zID:=(zb (zd (zc (w38_ok.anyGl rfl) ze)) (zb (zd ze) zi))
def w40_u0_h:SS:=⟨[0,1,5,7,8,29,30,31],⟨[(.ptr 0 0),.hole,(.ptr 1 0),(.aptr 2),(.view 3),.hole,.hole,.hole],[.cells true [.hole,.hole],.cells true [.hole,.hole],.seq false,.seq false],[2,0,2,2,1,1,0,2,2,0],[.int .i64,kJ,.int .i64,.int .i64,kM,.ar (.cons (.ns kI) kI) 48,kJ,.int .i64,.sl (.one .bool),.sl (.cons kJ kI)]⟩⟩
def zoh:Exs:=[((.exit 2),⟨[7,8],⟨[(.aptr 0),(.view 1)],[.seq false,.seq false],[2,0],[.sl (.one .bool),.sl (.cons kJ kI)]⟩⟩),(.ret,⟨[6],⟨[.hole],[],[2],[.bool]⟩⟩)]
def zCY:AC:=.run
def zw2:Un:=lpU w40_v.fz [32,33,34,10,35,36,37,38,39,11,40,41,42,6,43,44,45,46,47,48,49,50,51,52,53,54,55,56,57,58,59,60,61,62,63,64,65,66,67,8,68,31] w40_u0_h zoh (lp yl zp)
theorem zCx (f:w40_u0_h.X→Option (YT zoh)) (x:w40_u0_h.X):E w40_v (zq (za Tryz.f226) [1,1,1,0,0,0,1,0,1,1,1,0,0]) (zCY) (mkS w40_u0_h 8 x) (zx w40_v.fz w40_u0_h zoh f)=yl f x:=by kernel_rfl
theorem zyN {X:Fx} (hX:VOk Tryz.prog X w40_v):q6 Tryz.prog X w40_v (zq (za Tryz.f226) [1,1,1,0,0,0,1,0,1,1,1,0]) zw2 :=
 zz (c:=(zq (za Tryz.f226) [1,1,1,0,0,0,1,0,1,1,1,0,0])) (by kernel_rfl) (zr zo (zxS)) zH (ob:=[]) (by kernel_rfl) (fun X hX=>zg) (zCx) (by kernel_rfl) (by kernel_rfl) hX
def w40_u1_h:SS:=⟨[0,1,5,7,8],⟨[(.ptr 0 0),.hole,(.ptr 1 0),(.aptr 2),(.view 3)],[.cells true [.hole,.hole],.cells false [.hole,.hole],.seq false,.seq false],[2,1,1,0,2,2,0],[.int .i64,kM,.ar (.cons (.ns kI) kI) 48,kJ,.int .i64,.sl (.one .bool),.sl (.cons kJ kI)]⟩⟩
def zpu:Exs:=[((.exit 0),⟨[],⟨[],[],[],[]⟩⟩),(.ret,⟨[6],⟨[.hole],[],[2],[.bool]⟩⟩)]
def zDn:AC:=(.seq .run (.block (.seq .run (.seq .run (.seq .run (.block (.unit zw2)))))))
def zya:Un:=lpU w40_v.fz [14,15,16,17,18,19,20,21,22,23,24,25,26,27,8,28,29,30,31,32,33,34,10,35,36,37,38,39,11,40,41,42,6,43,44,45,46,47,48,49,50,51,52,53,54,55,56,57,58,59,60,61,62,63,64,65,66,67,8,68,31] w40_u1_h zpu (lp qQ zp)
theorem zDq (f:w40_u1_h.X→Option (YT zpu)) (x:w40_u1_h.X):E w40_v (zq (za Tryz.f226) [1,1,1,0,0,0]) (zDn) (mkS w40_u1_h 8 x) (zx w40_v.fz w40_u1_h zpu f)=qQ f x:=by kernel_rfl
theorem zwe {X:Fx} (hX:VOk Tryz.prog X w40_v):q6 Tryz.prog X w40_v (zq (za Tryz.f226) [1,1,1,0,0]) zya :=
 zz (c:=(zq (za Tryz.f226) [1,1,1,0,0,0])) (by kernel_rfl) (zr zo (zxS)) zH (ob:=[((zq (za Tryz.f226) [1,1,1,0,0,0,1,0,1,1,1,0]),zw2)]) (by kernel_rfl) (fun X hX=>(zn (zyN hX) zg)) (zDq) (by kernel_rfl) (by kernel_rfl) hX
def zJh:AC:=(.seq .run (.seq .run (.seq .run (.seq (.block (.unit zya)) .run))))
theorem zOF (x:zZ w40_c.inp.hs):E w40_v (za Tryz.f226) (zJh) (w40_c.entry x) (zB tb w40_v.fz w40_c [.tmp 6] x)=w40_c.F x:=by kernel_rfl
theorem w40_ok:ShOk Tryz.prog gl 226 w40_c :=
 zC (l:=zID) (n:=Tryz.f226.ntmps) (code:=za Tryz.f226) (rts:=[.tmp 6]) zo zH (zxS) Tryz.func226 (by kernel_rfl) (by kernel_rfl) rfl (by kernel_rfl) (ac:=zJh) (ob:=[((zq (za Tryz.f226) [1,1,1,0,0]),zya)]) (by kernel_rfl) (fun X hX=>(zn (zwe hX) zg)) (by kernel_rfl) (zOF)
def w41_c:ShC:={ inp:=⟨[(.ptr 0 0),(.agg [.hole,.hole]),(.agg [.hole,.hole])],[.cells false [.hole,.hole]],[1,1,1,1,1,1],[kJ,.int .i64,kJ,.int .i64,kM,.ar (.cons (.ns kI) kI) 48]⟩,out:=⟨[.hole,(.ptr 0 0)],[.cells false [.hole,.hole]],[2,1,0],[.bool,kM,.ar (.cons (.ns kI) kI) 48]⟩,nres:=1,ms:=[0],mu:=[(0,0)],leak:=true,glob:=false,F:=fun (x:(jI×Int×jI×Int×jS×(List ((Option jI)×Int))))=>qx x.1 x.2.1 x.2.2.1 x.2.2.2.1 x.2.2.2.2.1 x.2.2.2.2.2 }
-- (*unify.run).put
def zGe:List (Nat×Con):=[(213,.gen (zV [w38_c])),(226,.gen (zV [w40_c]))]
def w41_v:Env:=zy tb gl zGe w41_c Tryz.f212.ntmps
theorem zJW:zA Tryz.prog (cond w41_c.glob gl fun _=>none) zGe:=(zb (zd (zc (w38_ok.anyGl rfl) ze)) (zb (zd (zc (w40_ok.anyGl rfl) ze)) zi))
def zJ1:AC:=.run
theorem zNR (x:zZ w41_c.inp.hs):E w41_v (za Tryz.f212) (zJ1) (w41_c.entry x) (zB tb w41_v.fz w41_c [.tmp 6] x)=w41_c.F x:=by kernel_rfl
theorem w41_ok:ShOk Tryz.prog gl 212 w41_c :=
 zC (l:=zGe) (n:=Tryz.f212.ntmps) (code:=za Tryz.f212) (rts:=[.tmp 6]) zo zH (zJW) Tryz.func212 (by kernel_rfl) (by kernel_rfl) rfl (by kernel_rfl) (ac:=zJ1) (ob:=[]) (by kernel_rfl) (fun X hX=>zg) (by kernel_rfl) (zNR)
def w42_c:ShC:={ inp:=⟨[(.ptr 0 0),(.agg [.hole,.hole]),(.agg [.hole,.hole])],[.cells false [.hole,.hole]],[1,1,1,1,1,1],[kJ,.int .i64,kJ,.int .i64,kM,.ar (.cons (.ns kI) kI) 48]⟩,out:=⟨[.hole,(.ptr 0 0)],[.cells false [.hole,.hole]],[2,0,0],[.bool,kM,.ar (.cons (.ns kI) kI) 48]⟩,nres:=1,ms:=[0],mu:=[(0,0)],leak:=true,glob:=false,F:=fun (x:(jI×Int×jI×Int×jS×(List ((Option jI)×Int))))=>zaL x.1 x.2.1 x.2.2.1 x.2.2.2.1 x.2.2.2.2.1 x.2.2.2.2.2 }
-- (*unify.run).same
def zFO:List (Nat×Con):=[(210,.gen (zV [w37_c])),(211,.gen (zV [w39_c])),(212,.gen (zV [w41_c])),(1000039,.gen (zV []))]
def w42_v:Env:=zy tb gl zFO w42_c Tryz.f184.ntmps
theorem zFB:zA Tryz.prog (cond w42_c.glob gl fun _=>none) zFO:=(zb (zd (zc (w37_ok.anyGl rfl) ze)) (zb (zd (zc (w39_ok.anyGl rfl) ze)) (zb (zd (zc (w41_ok.anyGl rfl) ze)) (zb (zd ze) zi))))
def zk5:Exs:=[(.goto 0,⟨[0,7],⟨[(.ptr 0 0),(.view 1)],[.cells false [.hole,.hole],.seq false],[0,0,0],[kM,.ar (.cons (.ns kI) kI) 48,.sl (.cons kJ (.cons kZ (.cons kJ kI)))]⟩⟩)]
def zoN:Exs:=[(.ret,⟨[0,6],⟨[(.ptr 0 0),.hole],[.cells false [.hole,.hole]],[2,0,0],[.bool,kM,.ar (.cons (.ns kI) kI) 48]⟩⟩)]
def zDu:AC:=.run
def zBC:List (Nat×AC):=[]
def zx6:Un:=scU w42_v [10,11,12,13,7,14,15,16,6,17,18,19,20,21,22,23,24,25,26,27,28,29,30,31,32,33,34,8,9,35,36,37,38,39,7,41,42,43,44,45,40,46,47,48,49,6,51,52,53,54,55,50,56,57,58,59,6,61,62,63,64,65,66,67,68,69,60,6,70,71,72,73,74,75,76,77,78,79,80,81,82,83,84,7] zk5 zoN (zq (za Tryz.f184) [1,0]) (zDu) (lp zI zp)
theorem zC3 (f:YT zk5→Option (YT zoN)) (x:YT zk5):zq8 w42_v (zq (za Tryz.f184) [1,0]) (zuH (zBC)) zk5 zoN f x=zI f x:=by kernel_rfl
theorem zuY {X:Fx} (hX:VOk Tryz.prog X w42_v):q6 Tryz.prog X w42_v (zq (za Tryz.f184) [1]) zx6 :=
 zxo (c:=(zq (za Tryz.f184) [1,0])) (by kernel_rfl) (zr zo (zFB)) zH (ob:=[]) (by kernel_rfl) (fun X hX=>zg) (fun X hX=>zyF zsC) (zC3) (by kernel_rfl) (by kernel_rfl) (by kernel_rfl) hX
def zJc:AC:=(.seq .run (.unit zx6))
theorem zM5 (x:zZ w42_c.inp.hs):E w42_v (za Tryz.f184) (zJc) (w42_c.entry x) (zB tb w42_v.fz w42_c [.tmp 6] x)=w42_c.F x:=by kernel_rfl
theorem w42_ok:ShOk Tryz.prog gl 184 w42_c :=
 zC (l:=zFO) (n:=Tryz.f184.ntmps) (code:=za Tryz.f184) (rts:=[.tmp 6]) zo zH (zFB) Tryz.func184 (by kernel_rfl) (by kernel_rfl) rfl (by kernel_rfl) (ac:=zJc) (ob:=[((zq (za Tryz.f184) [1]),zx6)]) (by kernel_rfl) (fun X hX=>(zn (zuY hX) zg)) (by kernel_rfl) (zM5)
def w43_c:ShC:={ inp:=⟨[(.agg [.hole,.hole]),.hole],[],[1,1,1],[.ns kI,.int .i64,.int .i64]⟩,out:=⟨[.hole],[],[2],[.int .i64]⟩,nres:=1,ms:=[],mu:=[],leak:=false,glob:=false,F:=fun (x:((Option jI)×Int×Int))=>zao x.1 x.2.1 x.2.2 }
-- (unify.piece).number
def zHO:List (Nat×Con):=[(55,.gen (zV [w9_c]))]
def w43_v:Env:=zy tb gl zHO w43_c Tryz.f213.ntmps
theorem zI7:zA Tryz.prog (cond w43_c.glob gl fun _=>none) zHO:=(zb (zd (zc (w9_ok.anyGl rfl) ze)) zi)
def zKC:AC:=.run
theorem zMT (x:zZ w43_c.inp.hs):E w43_v (za Tryz.f213) (zKC) (w43_c.entry x) (zB tb w43_v.fz w43_c [.tmp 4] x)=w43_c.F x:=by kernel_rfl
theorem w43_ok:ShOk Tryz.prog gl 213 w43_c :=
 zC (l:=zHO) (n:=Tryz.f213.ntmps) (code:=za Tryz.f213) (rts:=[.tmp 4]) zo zH (zI7) Tryz.func213 (by kernel_rfl) (by kernel_rfl) rfl (by kernel_rfl) (ac:=zKC) (ob:=[]) (by kernel_rfl) (fun X hX=>zg) (by kernel_rfl) (zMT)
def ziP (k:Nat):ShC:={ inp:=⟨[(.ptr 0 0),(.agg [.hole,.hole])],[.cells true [.hole,.hole]],[1,1,1,1],[.ns kI,.int .i64,kM,.ar (.cons (.ns kI) kI) 48]⟩,out:=⟨[.hole],[],[2],[.ns kI]⟩,nres:=1,ms:=[],mu:=[],leak:=false,glob:=false,F:=(qr k) }
def zKx:ShC:={ inp:=⟨[(.ptr 0 0),(.agg [.hole,.hole])],[.cells true [.hole,.hole]],[1,1,1,1],[.ns kI,.int .i64,kM,.ar (.cons (.ns kI) kI) 48]⟩,out:=⟨[.hole],[],[2],[.ns kI]⟩,nres:=1,ms:=[],mu:=[],leak:=false,glob:=false,F:=fun (x:((Option jI)×Int×jS×(List ((Option jI)×Int))))=>zdM x.1 x.2.1 x.2.2.1 x.2.2.2 }
def zou (k:Nat):Prop:=ShOk Tryz.prog gl 185 (ziP k)
-- (*unify.run).whole
def zH1 (k:Nat):List (Nat×Con):=[(185,.gen (zV [ziP k])),(213,.gen (zV [w43_c]))]
def zrD (k:Nat):Env:=zy tb gl (zH1 k) (ziP (k+1)) Tryz.f185.ntmps
theorem zEz (k:Nat) (h:zou k):zA Tryz.prog (cond (ziP (k+1)).glob gl fun _=>none) (zH1 k):=(zb (zd (zc (h.anyGl rfl) ze)) (zb (zd (zc (w43_ok.anyGl rfl) ze)) zi))
def w44_u0_h:SS:=⟨[0,3,5,10,11,12],⟨[(.ptr 0 0),(.ptr 1 0),(.view 2),.hole,.hole,.hole],[.cells true [.hole,.hole],.cells true [.hole,.hole],.seq false],[1,2,2,1,1,1,2,2],[.ns kI,.int .i64,.int .i64,kM,.ar (.cons (.ns kI) kI) 48,.ns kI,.int .i64,kJ]⟩⟩
def znN:Exs:=[((.exit 0),⟨[5],⟨[(.view 0)],[.seq false],[2],[kJ]⟩⟩),(.ret,⟨[4],⟨[.nilv],[],[],[]⟩⟩)]
def zA7 (k:Nat):AC:=.run
def zAv (k:Nat):Un:=lpU (zrD k).fz [13,14,15,7,16,17,8,18,19,20,21,22,23,24,25,26,27,28,29,30,31,32,33,34,35,36,37,38,39,40,41,8,42,43,44,45,46,47,48,49,50,51,4,52,53,54,5,55,12] w44_u0_h znN (lp (yr (qr k)) zp)
theorem zDX (k:Nat) (f:w44_u0_h.X→Option (YT znN)) (x:w44_u0_h.X):E (zrD k) (zq (za Tryz.f185) [1,1,0,1,0,0]) (zA7 k) (mkS w44_u0_h 8 x) (zx (zrD k).fz w44_u0_h znN f)=(yr (qr k)) f x:=by kernel_rfl
theorem zyS (k:Nat) (h:zou k) {X:Fx} (hX:VOk Tryz.prog X (zrD k)):q6 Tryz.prog X (zrD k) (zq (za Tryz.f185) [1,1,0,1,0]) (zAv k) :=
 zz (c:=(zq (za Tryz.f185) [1,1,0,1,0,0])) (by kernel_rfl) (zr zo (zEz k h)) zH (ob:=[]) (by kernel_rfl) (fun X hX=>zg) (zDX k) (by kernel_rfl) (by kernel_rfl) hX
def zJF (k:Nat):AC:=(.seq .run (.seq .run (.seq (.seq .run (.block (.unit (zAv k)))) .run)))
theorem zNk (k:Nat) (x:zZ (ziP (k+1)).inp.hs):E (zrD k) (za Tryz.f185) (zJF k) ((ziP (k+1)).entry x) (zB tb (zrD k).fz (ziP (k+1)) [.tmp 4] x)=(ziP (k+1)).F x:=by kernel_rfl
theorem zIr (k:Nat) (h:zou k):ShOk Tryz.prog gl 185 (ziP (k+1)) :=
 zC (l:=zH1 k) (n:=Tryz.f185.ntmps) (code:=za Tryz.f185) (rts:=[.tmp 4]) zo zH (zEz k h) Tryz.func185 (by kernel_rfl) (by kernel_rfl) rfl (by kernel_rfl) (ac:=zJF k) (ob:=[((zq (za Tryz.f185) [1,1,0,1,0]),zAv k)]) (by kernel_rfl) (fun X hX=>(zn (zyS k h hX) zg)) (by kernel_rfl) (zNk k)
theorem zqN:∀ k,zou k
 | 0=>zlO (by kernel_rfl) fun _=>rfl
 | k+1=>have h:=zqN k; zIr k h
theorem w44_ok:ShOk Tryz.prog gl 185 zKx:=(zqN zp)
def w45_c:ShC:={ inp:=⟨[.hole,.hole,.hole],[],[1,1,1],[kM,kJ,kJ]⟩,out:=⟨[(.view 0),.hole,.hole],[.seq false],[2,2,2],[.bool,.int .i64,.sl (.cons kZ kR)]⟩,nres:=3,ms:=[],mu:=[],leak:=false,glob:=true,F:=fun (x:(jS×jI×jI))=>zd0 x.1 x.2.1 x.2.2 }
-- unify.Unify
def zHv:List (Nat×Con):=[(115,.gen (zV [zCo])),(162,.gen (zV [w16_c])),(184,.gen (zV [w42_c])),(185,.gen (zV [zKx]))]
def w45_v:Env:=zy tb gl zHv w45_c Tryz.f135.ntmps
theorem zD2:zA Tryz.prog (cond w45_c.glob gl fun _=>none) zHv:=(zb (zd (zc (w31_ok.anyGl rfl) ze)) (zb (zd (zc zFh ze)) (zb (zd (zc (w42_ok.anyGl rfl) ze)) (zb (zd (zc (w44_ok.anyGl rfl) ze)) zi))))
def w45_u0_h:SS:=⟨[13,14,50],⟨[(.ptr 0 0),(.view 1),.hole],[.cells true [.hole,.hole],.seq false],[2,0,0,2],[.int .i64,kM,.ar (.cons (.ns kI) kI) 48,.sl (.cons kZ kR)]⟩⟩
def zoA:Exs:=[((.exit 0),⟨[14],⟨[(.view 0)],[.seq false],[2],[.sl (.cons kZ kR)]⟩⟩),(.ret,⟨[6,7,8],⟨[.nilv,.hole,.hole],[],[2,2],[.bool,.int .i64]⟩⟩)]
def zDI:AC:=.run
def zzY:Un:=lpU w45_v.fz [51,52,15,53,54,55,56,57,58,59,60,61,62,63,64,65,66,67,68,16,69,70,6,7,8,71,72,73,74,75,76,77,14,78,50] w45_u0_h zoA (lp zay zp)
theorem zDb (f:w45_u0_h.X→Option (YT zoA)) (x:w45_u0_h.X):E w45_v (zq (za Tryz.f135) [1,1,1,1,1,1,1,0,1,0,0]) (zDI) (mkS w45_u0_h 8 x) (zx w45_v.fz w45_u0_h zoA f)=zay f x:=by kernel_rfl
theorem zz4 {X:Fx} (hX:VOk Tryz.prog X w45_v):q6 Tryz.prog X w45_v (zq (za Tryz.f135) [1,1,1,1,1,1,1,0,1,0]) zzY :=
 zz (c:=(zq (za Tryz.f135) [1,1,1,1,1,1,1,0,1,0,0])) (by kernel_rfl) (zr zo (zD2)) zH (ob:=[]) (by kernel_rfl) (fun X hX=>zg) (zDb) (by kernel_rfl) (by kernel_rfl) hX
def zJM:AC:=(.seq .run (.seq .run (.seq .run (.seq .run (.seq .run (.seq .run (.seq .run (.seq (.seq .run (.block (.unit zzY))) .run))))))))
theorem zNm (x:zZ w45_c.inp.hs):E w45_v (za Tryz.f135) (zJM) (w45_c.entry x) (zB tb w45_v.fz w45_c [.tmp 6,.tmp 7,.tmp 8] x)=w45_c.F x:=by kernel_rfl
theorem zMv:ShOk Tryz.prog gl 135 w45_c :=
 zC (l:=zHv) (n:=Tryz.f135.ntmps) (code:=za Tryz.f135) (rts:=[.tmp 6,.tmp 7,.tmp 8]) zo zH (zD2) Tryz.func135 (by kernel_rfl) (by kernel_rfl) rfl (by kernel_rfl) (ac:=zJM) (ob:=[((zq (za Tryz.f135) [1,1,1,1,1,1,1,0,1,0]),zzY)]) (by kernel_rfl) (fun X hX=>(zn (zz4 hX) zg)) (by kernel_rfl) (zNm)
def w46_c:ShC:={ inp:=⟨[.nilv,.hole],[],[1],[.int .i64]⟩,out:=⟨[(.view 0)],[.seq false],[2],[kK]⟩,nres:=1,ms:=[],mu:=[],leak:=false,glob:=false,F:=fun (x:Int)=>zfe x }
-- slices.Grow[[][]int,[]int]
def zH0:List (Nat×Con):=[(1000025,.gen (zV []))]
def w46_v:Env:=zy tb gl zH0 w46_c Tryz.f188.ntmps
theorem zK9:zA Tryz.prog (cond w46_c.glob gl fun _=>none) zH0:=(zb (zd ze) zi)
def zMB:AC:=.run
theorem zNa (x:zZ w46_c.inp.hs):E w46_v (za Tryz.f188) (zMB) (w46_c.entry x) (zB tb w46_v.fz w46_c [.tmp 4] x)=w46_c.F x:=by kernel_rfl
theorem w46_ok:ShOk Tryz.prog gl 188 w46_c :=
 zC (l:=zH0) (n:=Tryz.f188.ntmps) (code:=za Tryz.f188) (rts:=[.tmp 4]) zo zH (zK9) Tryz.func188 (by kernel_rfl) (by kernel_rfl) rfl (by kernel_rfl) (ac:=zMB) (ob:=[]) (by kernel_rfl) (fun X hX=>zg) (by kernel_rfl) (zNa)
def w47_c:ShC:={ inp:=⟨[.hole],[],[1],[.sl (.one kK)]⟩,out:=⟨[(.view 0)],[.seq false],[0],[kK]⟩,nres:=1,ms:=[],mu:=[],leak:=true,glob:=false,F:=fun (x:(List jR))=>zdy x }
-- slices.Concat[[][]int,[]int]
def zH9:List (Nat×Con):=[(188,.gen (zV [w46_c]))]
def w47_v:Env:=zy tb gl zH9 w47_c Tryz.f139.ntmps
theorem zvj:zA Tryz.prog (cond w47_c.glob gl fun _=>none) zH9:=(zb (zd (zc (w46_ok.anyGl rfl) ze)) zi)
def w47_u1_h:SS:=⟨[6,25,26,27],⟨[(.view 0),.hole,.hole,.hole],[.seq false],[1,2,2,0],[.sl (.one kK),.int .i64,.int .i64,kK]⟩⟩
def zn9:Exs:=[((.exit 2),⟨[6],⟨[(.view 0)],[.seq false],[0],[kK]⟩⟩)]
def zB6:AC:=.run
def zzP:Un:=lpU w47_v.fz [28,29,30,8,31,32,33,6,34,27] w47_u1_h zn9 (lp y9 zp)
theorem zBD (f:w47_u1_h.X→Option (YT zn9)) (x:w47_u1_h.X):E w47_v (zq (za Tryz.f139) [1,1,1,1,0,1,0,0]) (zB6) (mkS w47_u1_h 8 x) (zx w47_v.fz w47_u1_h zn9 f)=y9 f x:=by kernel_rfl
theorem zwc {X:Fx} (hX:VOk Tryz.prog X w47_v):q6 Tryz.prog X w47_v (zq (za Tryz.f139) [1,1,1,1,0,1,0]) zzP :=
 zz (c:=(zq (za Tryz.f139) [1,1,1,1,0,1,0,0])) (by kernel_rfl) (zr zo (zvj)) zH (ob:=[]) (by kernel_rfl) (fun X hX=>zg) (zBD) (by kernel_rfl) (by kernel_rfl) hX
def w47_u0_h:SS:=⟨[0,3,9,10,11],⟨[.hole,.hole,.hole,.hole,.hole],[],[1,2,1,2,2],[.sl (.one kK),.int .i64,.sl (.one kK),.int .i64,.int .i64]⟩⟩
def znZ:Exs:=[((.exit 0),⟨[3],⟨[.hole],[],[2],[.int .i64]⟩⟩)]
def zAK:AC:=.run
def zvf:Un:=lpU w47_v.fz [12,13,14,5,15,16,17,18,3,19,20,21,22,11] w47_u0_h znZ (lp y5 zp)
theorem zA1 (f:w47_u0_h.X→Option (YT znZ)) (x:w47_u0_h.X):E w47_v (zq (za Tryz.f139) [1,1,0,1,0,0]) (zAK) (mkS w47_u0_h 8 x) (zx w47_v.fz w47_u0_h znZ f)=y5 f x:=by kernel_rfl
theorem zzE {X:Fx} (hX:VOk Tryz.prog X w47_v):q6 Tryz.prog X w47_v (zq (za Tryz.f139) [1,1,0,1,0]) zvf :=
 zz (c:=(zq (za Tryz.f139) [1,1,0,1,0,0])) (by kernel_rfl) (zr zo (zvj)) zH (ob:=[]) (by kernel_rfl) (fun X hX=>zg) (zA1) (by kernel_rfl) (by kernel_rfl) hX
def zL2:AC:=(.seq .run (.seq .run (.seq (.seq .run (.block (.unit zvf))) (.seq .run (.seq (.seq .run (.block (.unit zzP))) .run)))))
theorem zM0 (x:zZ w47_c.inp.hs):E w47_v (za Tryz.f139) (zL2) (w47_c.entry x) (zB tb w47_v.fz w47_c [.tmp 2] x)=w47_c.F x:=by kernel_rfl
theorem w47_ok:ShOk Tryz.prog gl 139 w47_c :=
 zC (l:=zH9) (n:=Tryz.f139.ntmps) (code:=za Tryz.f139) (rts:=[.tmp 2]) zo zH (zvj) Tryz.func139 (by kernel_rfl) (by kernel_rfl) rfl (by kernel_rfl) (ac:=zL2) (ob:=[((zq (za Tryz.f139) [1,1,0,1,0]),zvf),((zq (za Tryz.f139) [1,1,1,1,0,1,0]),zzP)]) (by kernel_rfl) (fun X hX=>(zn (zzE hX) (zn (zwc hX) zg))) (by kernel_rfl) (zM0)
def w48_c:ShC:={ inp:=⟨[(.agg [.hole,.hole,.hole]),.hole,(.agg [.hole,.hole,.hole]),.hole],[],[1,1,1,1,1,1,1,1],[kL,kK,kL,.int .i64,kL,kK,kL,.int .i64]⟩,out:=⟨[(.agg [(.view 0),.hole,(.view 1)])],[.seq false,.seq false],[0,0,0],[kK,kL,kL]⟩,nres:=1,ms:=[],mu:=[],leak:=true,glob:=false,F:=fun (x:(jQ×jR×jQ×Int×jQ×jR×jQ×Int))=>zem x.1 x.2.1 x.2.2.1 x.2.2.2.1 x.2.2.2.2.1 x.2.2.2.2.2.1 x.2.2.2.2.2.2.1 x.2.2.2.2.2.2.2 }
-- resolve.Both
def zIR:List (Nat×Con):=[(139,.gen (zV [w47_c])),(140,.gen (zV [w21_c]))]
def w48_v:Env:=zy tb gl zIR w48_c Tryz.f75.ntmps
theorem zy1:zA Tryz.prog (cond w48_c.glob gl fun _=>none) zIR:=(zb (zd (zc (w47_ok.anyGl rfl) ze)) (zb (zd (zc (w21_ok.anyGl rfl) ze)) zi))
def w48_u1_h:SS:=⟨[3,8,9,46,47,48],⟨[.hole,(.ptr 0 0),(.ptr 1 0),.hole,.hole,.hole],[.cells true [.nilv,.nilv,.nilv],.cells false [(.view 2),.hole,(.view 3)],.seq false,.seq false],[2,1,2,2,0,0,0],[.int .i64,kL,.int .i64,.int .i64,kK,kL,kL]⟩⟩
def zoq:Exs:=[((.exit 2),⟨[9],⟨[(.ptr 0 0)],[.cells false [(.view 1),.hole,(.view 2)],.seq false,.seq false],[0,0,0],[kK,kL,kL]⟩⟩)]
def zCf:AC:=.run
def zy6:Un:=lpU w48_v.fz [49,50,51,52,13,12,53,54,55,56,57,58,59,60,61,62,48] w48_u1_h zoq (lp qC zp)
theorem zBS (f:w48_u1_h.X→Option (YT zoq)) (x:w48_u1_h.X):E w48_v (zq (za Tryz.f75) [1,1,1,0,1,0,0]) (zCf) (mkS w48_u1_h 8 x) (zx w48_v.fz w48_u1_h zoq f)=qC f x:=by kernel_rfl
theorem zAk {X:Fx} (hX:VOk Tryz.prog X w48_v):q6 Tryz.prog X w48_v (zq (za Tryz.f75) [1,1,1,0,1,0]) zy6 :=
 zz (c:=(zq (za Tryz.f75) [1,1,1,0,1,0,0])) (by kernel_rfl) (zr zo (zy1)) zH (ob:=[]) (by kernel_rfl) (fun X hX=>zg) (zBS) (by kernel_rfl) (by kernel_rfl) hX
def w48_u0_h:SS:=⟨[1,3,6,8,9,28,29,30],⟨[.hole,.hole,(.ptr 0 0),(.ptr 1 0),(.ptr 2 0),.hole,.hole,.hole],[.cells true [.hole,.hole,.hole],.cells true [.nilv,.nilv,.nilv],.cells false [(.view 3),.hole,(.view 4)],.seq false,.seq false],[2,2,1,2,2,1,1,1,0,0,0],[.int .i64,.int .i64,kL,.int .i64,.int .i64,kL,kK,kL,kK,kL,kL]⟩⟩
def zpk:Exs:=[((.exit 0),⟨[9],⟨[(.ptr 0 0)],[.cells false [(.view 1),.hole,(.view 2)],.seq false,.seq false],[0,0,0],[kK,kL,kL]⟩⟩)]
def zBi:AC:=.run
def zxL:Un:=lpU w48_v.fz [31,32,33,34,11,10,35,36,37,38,39,40,41,42,43,44,30] w48_u0_h zpk (lp qF zp)
theorem zA3 (f:w48_u0_h.X→Option (YT zpk)) (x:w48_u0_h.X):E w48_v (zq (za Tryz.f75) [1,1,0,1,0,0]) (zBi) (mkS w48_u0_h 8 x) (zx w48_v.fz w48_u0_h zpk f)=qF f x:=by kernel_rfl
theorem zvY {X:Fx} (hX:VOk Tryz.prog X w48_v):q6 Tryz.prog X w48_v (zq (za Tryz.f75) [1,1,0,1,0]) zxL :=
 zz (c:=(zq (za Tryz.f75) [1,1,0,1,0,0])) (by kernel_rfl) (zr zo (zy1)) zH (ob:=[]) (by kernel_rfl) (fun X hX=>zg) (zA3) (by kernel_rfl) (by kernel_rfl) hX
def zJK:AC:=(.seq .run (.seq .run (.seq (.seq .run (.block (.unit zxL))) (.seq (.seq .run (.block (.unit zy6))) .run))))
theorem zN5 (x:zZ w48_c.inp.hs):E w48_v (za Tryz.f75) (zJK) (w48_c.entry x) (zB tb w48_v.fz w48_c [.cell 8 29] x)=w48_c.F x:=by kernel_rfl
theorem w48_ok:ShOk Tryz.prog gl 75 w48_c :=
 zC (l:=zIR) (n:=Tryz.f75.ntmps) (code:=za Tryz.f75) (rts:=[.cell 8 29]) zo zH (zy1) Tryz.func75 (by kernel_rfl) (by kernel_rfl) rfl (by kernel_rfl) (ac:=zJK) (ob:=[((zq (za Tryz.f75) [1,1,0,1,0]),zxL),((zq (za Tryz.f75) [1,1,1,0,1,0]),zy6)]) (by kernel_rfl) (fun X hX=>(zn (zvY hX) (zn (zAk hX) zg))) (by kernel_rfl) (zN5)
def w49_c:ShC:={ inp:=⟨[.hole,.hole],[],[1,1],[.sl (.cons kZ kR),.int .i64]⟩,out:=⟨[.hole],[],[0],[.ns kI]⟩,nres:=1,ms:=[],mu:=[],leak:=true,glob:=false,F:=fun (x:((List (Int×jI))×Int))=>zgp x.1 x.2 }
-- bind.find
def zGI:List (Nat×Con):=[]
def w49_v:Env:=zy tb gl zGI w49_c Tryz.f194.ntmps
theorem zFE:zA Tryz.prog (cond w49_c.glob gl fun _=>none) zGI:=zi
def w49_u0_h:SS:=⟨[1,7,8,9],⟨[.hole,.hole,.hole,.hole],[],[2,1,2,2],[.int .i64,.sl (.cons kZ kR),.int .i64,.int .i64]⟩⟩
def zpw:Exs:=[((.exit 0),⟨[],⟨[],[],[],[]⟩⟩),(.ret,⟨[4],⟨[.hole],[],[1],[kJ]⟩⟩)]
def zBa:AC:=.run
def zuS:Un:=lpU w49_v.fz [10,11,12,6,13,14,15,16,17,18,4,19,9] w49_u0_h zpw (lp zaS zp)
theorem zAZ (f:w49_u0_h.X→Option (YT zpw)) (x:w49_u0_h.X):E w49_v (zq (za Tryz.f194) [1,0,1,0,0]) (zBa) (mkS w49_u0_h 8 x) (zx w49_v.fz w49_u0_h zpw f)=zaS f x:=by kernel_rfl
theorem zyn {X:Fx} (hX:VOk Tryz.prog X w49_v):q6 Tryz.prog X w49_v (zq (za Tryz.f194) [1,0,1,0]) zuS :=
 zz (c:=(zq (za Tryz.f194) [1,0,1,0,0])) (by kernel_rfl) (zr zo (zFE)) zH (ob:=[]) (by kernel_rfl) (fun X hX=>zg) (zAZ) (by kernel_rfl) (by kernel_rfl) hX
def zJV:AC:=(.seq .run (.seq (.seq .run (.block (.unit zuS))) .run))
theorem zMS (x:zZ w49_c.inp.hs):E w49_v (za Tryz.f194) (zJV) (w49_c.entry x) (zB tb w49_v.fz w49_c [.tmp 4] x)=w49_c.F x:=by kernel_rfl
theorem w49_ok:ShOk Tryz.prog gl 194 w49_c :=
 zC (l:=zGI) (n:=Tryz.f194.ntmps) (code:=za Tryz.f194) (rts:=[.tmp 4]) zo zH (zFE) Tryz.func194 (by kernel_rfl) (by kernel_rfl) rfl (by kernel_rfl) (ac:=zJV) (ob:=[((zq (za Tryz.f194) [1,0,1,0]),zuS)]) (by kernel_rfl) (fun X hX=>(zn (zyn hX) zg)) (by kernel_rfl) (zMS)
def w50_c:ShC:={ inp:=⟨[.hole,.hole],[],[1,1],[.sl (.cons kZ kR),kJ]⟩,out:=⟨[(.view 0)],[.seq false],[2],[kJ]⟩,nres:=1,ms:=[],mu:=[],leak:=false,glob:=false,F:=fun (x:((List (Int×jI))×jI))=>zo4 x.1 x.2 }
-- bind.On
def zGJ:List (Nat×Con):=[(55,.gen (zV [w9_c])),(194,.gen (zV [w49_c]))]
def w50_v:Env:=zy tb gl zGJ w50_c Tryz.f152.ntmps
theorem zEO:zA Tryz.prog (cond w50_c.glob gl fun _=>none) zGJ:=(zb (zd (zc (w9_ok.anyGl rfl) ze)) (zb (zd (zc (w49_ok.anyGl rfl) ze)) zi))
def w50_u0_h:SS:=⟨[0,5,9,10,11],⟨[.hole,(.view 0),.hole,.hole,.hole],[.seq false],[1,1,2,2,2],[.sl (.cons kZ kR),kJ,.int .i64,.int .i64,kJ]⟩⟩
def zoG:Exs:=[((.exit 0),⟨[5],⟨[(.view 0)],[.seq false],[2],[kJ]⟩⟩)]
def zBp:AC:=.run
def zz1:Un:=lpU w50_v.fz [12,13,14,7,15,16,17,18,8,19,20,21,22,23,24,25,26,27,28,5,29,30,31,5,32,11] w50_u0_h zoG (lp zbV zp)
theorem zA8 (f:w50_u0_h.X→Option (YT zoG)) (x:w50_u0_h.X):E w50_v (zq (za Tryz.f152) [1,1,0,1,0,0]) (zBp) (mkS w50_u0_h 8 x) (zx w50_v.fz w50_u0_h zoG f)=zbV f x:=by kernel_rfl
theorem zw6 {X:Fx} (hX:VOk Tryz.prog X w50_v):q6 Tryz.prog X w50_v (zq (za Tryz.f152) [1,1,0,1,0]) zz1 :=
 zz (c:=(zq (za Tryz.f152) [1,1,0,1,0,0])) (by kernel_rfl) (zr zo (zEO)) zH (ob:=[]) (by kernel_rfl) (fun X hX=>zg) (zA8) (by kernel_rfl) (by kernel_rfl) hX
def zKH:AC:=(.seq .run (.seq .run (.seq (.seq .run (.block (.unit zz1))) .run)))
theorem zNi (x:zZ w50_c.inp.hs):E w50_v (za Tryz.f152) (zKH) (w50_c.entry x) (zB tb w50_v.fz w50_c [.tmp 4] x)=w50_c.F x:=by kernel_rfl
theorem w50_ok:ShOk Tryz.prog gl 152 w50_c :=
 zC (l:=zGJ) (n:=Tryz.f152.ntmps) (code:=za Tryz.f152) (rts:=[.tmp 4]) zo zH (zEO) Tryz.func152 (by kernel_rfl) (by kernel_rfl) rfl (by kernel_rfl) (ac:=zKH) (ob:=[((zq (za Tryz.f152) [1,1,0,1,0]),zz1)]) (by kernel_rfl) (fun X hX=>(zn (zw6 hX) zg)) (by kernel_rfl) (zNi)
def w51_c:ShC:={ inp:=⟨[.hole,(.ptr 0 0)],[.cells true [.hole]],[1,1],[kJ,.sl (.cons kZ kR)]⟩,out:=⟨[(.view 0)],[.seq false],[2],[kJ]⟩,nres:=1,ms:=[],mu:=[],leak:=false,glob:=false,F:=fun (x:(jI×(List (Int×jI))))=>zaq x.1 x.2 }
-- clause.On$1
def zIl:List (Nat×Con):=[(152,.gen (zV [w50_c]))]
def w51_v:Env:=zy tb gl zIl w51_c Tryz.f186.ntmps
theorem zJ7:zA Tryz.prog (cond w51_c.glob gl fun _=>none) zIl:=(zb (zd (zc (w50_ok.anyGl rfl) ze)) zi)
def zKW:AC:=.run
theorem zO0 (x:zZ w51_c.inp.hs):E w51_v (za Tryz.f186) (zKW) (w51_c.entry x) (zB tb w51_v.fz w51_c [.tmp 3] x)=w51_c.F x:=by kernel_rfl
theorem w51_ok:ShOk Tryz.prog gl 186 w51_c :=
 zC (l:=zIl) (n:=Tryz.f186.ntmps) (code:=za Tryz.f186) (rts:=[.tmp 3]) zo zH (zJ7) Tryz.func186 (by kernel_rfl) (by kernel_rfl) rfl (by kernel_rfl) (ac:=zKW) (ob:=[]) (by kernel_rfl) (fun X hX=>zg) (by kernel_rfl) (zO0)
def w52_c:ShC:={ inp:=⟨[(.agg [.hole,.hole,.hole]),(.clo 186 [(.ptr 0 0)])],[.cells true [.hole]],[1,1,1,1],[kL,kK,kL,.sl (.cons kZ kR)]⟩,out:=⟨[(.agg [.hole,.hole,(.view 0)])],[.seq false],[2,2,2],[kL,kK,kL]⟩,nres:=1,ms:=[],mu:=[],leak:=false,glob:=false,F:=fun (x:(jQ×jR×jQ×(List (Int×jI))))=>zh0 x.1 x.2.1 x.2.2.1 x.2.2.2 }
-- clause.each
def zGW:List (Nat×Con):=[(186,.gen (zV [w51_c]))]
def w52_v:Env:=zy tb gl zGW w52_c Tryz.f170.ntmps
theorem ztw:zA Tryz.prog (cond w52_c.glob gl fun _=>none) zGW:=(zb (zd (zc (w51_ok.anyGl rfl) ze)) zi)
def w52_u2_h:SS:=⟨[1,4,5,49,50,51],⟨[(.clo 186 [(.ptr 0 0)]),(.ptr 1 0),(.ptr 2 0),.hole,.hole,.hole],[.cells true [.hole],.cells true [.nilv,.nilv,.nilv],.cells false [.hole,.hole,(.view 3)],.seq false],[1,2,2,1,2,2,2],[kL,.int .i64,.int .i64,.sl (.cons kZ kR),kL,kK,kL]⟩⟩
def zow:Exs:=[((.exit 4),⟨[5],⟨[(.ptr 0 0)],[.cells false [.hole,.hole,(.view 1)],.seq false],[2,2,2],[kL,kK,kL]⟩⟩)]
def zBJ:AC:=.run
def zu3:Un:=lpU w52_v.fz [52,53,54,11,55,56,57,58,59,60,61,62,63,64,65,66,67,51] w52_u2_h zow (lp qU zp)
theorem zA0 (f:w52_u2_h.X→Option (YT zow)) (x:w52_u2_h.X):E w52_v (zq (za Tryz.f170) [1,1,1,1,0,1,0,0]) (zBJ) (mkS w52_u2_h 8 x) (zx w52_v.fz w52_u2_h zow f)=qU f x:=by kernel_rfl
theorem zw8 {X:Fx} (hX:VOk Tryz.prog X w52_v):q6 Tryz.prog X w52_v (zq (za Tryz.f170) [1,1,1,1,0,1,0]) zu3 :=
 zz (c:=(zq (za Tryz.f170) [1,1,1,1,0,1,0,0])) (by kernel_rfl) (zr zo (ztw)) zH (ob:=[]) (by kernel_rfl) (fun X hX=>zg) (zA0) (by kernel_rfl) (by kernel_rfl) hX
def w52_u1_h:SS:=⟨[1,2,4,5,33,34,35],⟨[(.clo 186 [(.ptr 0 0)]),(.ptr 1 0),(.ptr 2 0),(.ptr 3 0),.hole,.hole,.hole],[.cells true [.hole],.cells true [.hole,.hole,.hole],.cells true [.nilv,.nilv,.nilv],.cells false [.hole,(.view 4),.nilv],.seq false],[1,2,2,1,1,1,1,2,2],[kK,.int .i64,.int .i64,.sl (.cons kZ kR),kL,kK,kL,kL,kK]⟩⟩
def zpB:Exs:=[((.exit 2),⟨[5],⟨[(.ptr 0 0)],[.cells false [.hole,(.view 1),.nilv],.seq false],[2,2],[kL,kK]⟩⟩)]
def zBN:AC:=.run
def zwX:Un:=lpU w52_v.fz [36,37,38,9,39,40,41,42,43,44,45,46,47,35] w52_u1_h zpB (lp qR zp)
theorem zCQ (f:w52_u1_h.X→Option (YT zpB)) (x:w52_u1_h.X):E w52_v (zq (za Tryz.f170) [1,1,1,0,1,0,0]) (zBN) (mkS w52_u1_h 8 x) (zx w52_v.fz w52_u1_h zpB f)=qR f x:=by kernel_rfl
theorem zAg {X:Fx} (hX:VOk Tryz.prog X w52_v):q6 Tryz.prog X w52_v (zq (za Tryz.f170) [1,1,1,0,1,0]) zwX :=
 zz (c:=(zq (za Tryz.f170) [1,1,1,0,1,0,0])) (by kernel_rfl) (zr zo (ztw)) zH (ob:=[]) (by kernel_rfl) (fun X hX=>zg) (zCQ) (by kernel_rfl) (by kernel_rfl) hX
def w52_u0_h:SS:=⟨[1,2,4,5,13,14,15],⟨[(.clo 186 [(.ptr 0 0)]),(.ptr 1 0),(.ptr 2 0),(.ptr 3 0),.hole,.hole,.hole],[.cells true [.hole],.cells true [.hole,.hole,.hole],.cells true [.nilv,.nilv,.nilv],.cells false [(.view 4),.nilv,.nilv],.seq false],[1,2,2,1,1,1,1,2],[kL,.int .i64,.int .i64,.sl (.cons kZ kR),kL,kK,kL,kL]⟩⟩
def zpy:Exs:=[((.exit 0),⟨[5],⟨[(.ptr 0 0)],[.cells false [(.view 1),.nilv,.nilv],.seq false],[2],[kL]⟩⟩)]
def zBq:AC:=.run
def zwE:Un:=lpU w52_v.fz [16,17,18,7,19,20,21,22,23,24,25,26,27,28,29,30,31,15] w52_u0_h zpy (lp qZ zp)
theorem zDP (f:w52_u0_h.X→Option (YT zpy)) (x:w52_u0_h.X):E w52_v (zq (za Tryz.f170) [1,1,0,1,0,0]) (zBq) (mkS w52_u0_h 8 x) (zx w52_v.fz w52_u0_h zpy f)=qZ f x:=by kernel_rfl
theorem zvS {X:Fx} (hX:VOk Tryz.prog X w52_v):q6 Tryz.prog X w52_v (zq (za Tryz.f170) [1,1,0,1,0]) zwE :=
 zz (c:=(zq (za Tryz.f170) [1,1,0,1,0,0])) (by kernel_rfl) (zr zo (ztw)) zH (ob:=[]) (by kernel_rfl) (fun X hX=>zg) (zDP) (by kernel_rfl) (by kernel_rfl) hX
def zMm:AC:=(.seq .run (.seq .run (.seq (.seq .run (.block (.unit zwE))) (.seq (.seq .run (.block (.unit zwX))) (.seq (.seq .run (.block (.unit zu3))) .run)))))
theorem zOL (x:zZ w52_c.inp.hs):E w52_v (za Tryz.f170) (zMm) (w52_c.entry x) (zB tb w52_v.fz w52_c [.cell 4 29] x)=w52_c.F x:=by kernel_rfl
theorem w52_ok:ShOk Tryz.prog gl 170 w52_c :=
 zC (l:=zGW) (n:=Tryz.f170.ntmps) (code:=za Tryz.f170) (rts:=[.cell 4 29]) zo zH (ztw) Tryz.func170 (by kernel_rfl) (by kernel_rfl) rfl (by kernel_rfl) (ac:=zMm) (ob:=[((zq (za Tryz.f170) [1,1,0,1,0]),zwE),((zq (za Tryz.f170) [1,1,1,0,1,0]),zwX),((zq (za Tryz.f170) [1,1,1,1,0,1,0]),zu3)]) (by kernel_rfl) (fun X hX=>(zn (zvS hX) (zn (zAg hX) (zn (zw8 hX) zg)))) (by kernel_rfl) (zOL)
def w53_c:ShC:={ inp:=⟨[.hole,(.agg [.hole,.hole,.hole])],[],[1,1,1,1],[.sl (.cons kZ kR),kL,kK,kL]⟩,out:=⟨[(.agg [.hole,.hole,(.view 0)])],[.seq false],[2,2,2],[kL,kK,kL]⟩,nres:=1,ms:=[],mu:=[],leak:=false,glob:=false,F:=fun (x:((List (Int×jI))×jQ×jR×jQ))=>zgj x.1 x.2.1 x.2.2.1 x.2.2.2 }
-- clause.On
def zGE:List (Nat×Con):=[(170,.gen (zV [w52_c]))]
def w53_v:Env:=zy tb gl zGE w53_c Tryz.f136.ntmps
theorem zKb:zA Tryz.prog (cond w53_c.glob gl fun _=>none) zGE:=(zb (zd (zc (w52_ok.anyGl rfl) ze)) zi)
def zLr:AC:=.run
theorem zOp (x:zZ w53_c.inp.hs):E w53_v (za Tryz.f136) (zLr) (w53_c.entry x) (zB tb w53_v.fz w53_c [.cell 4 29] x)=w53_c.F x:=by kernel_rfl
theorem w53_ok:ShOk Tryz.prog gl 136 w53_c :=
 zC (l:=zGE) (n:=Tryz.f136.ntmps) (code:=za Tryz.f136) (rts:=[.cell 4 29]) zo zH (zKb) Tryz.func136 (by kernel_rfl) (by kernel_rfl) rfl (by kernel_rfl) (ac:=zLr) (ob:=[]) (by kernel_rfl) (fun X hX=>zg) (by kernel_rfl) (zOp)
def w54_c:ShC:={ inp:=⟨[.hole,.hole],[],[1,1],[kJ,kJ]⟩,out:=⟨[.hole],[],[2],[.bool]⟩,nres:=1,ms:=[],mu:=[],leak:=false,glob:=false,F:=fun (x:(jI×jI))=>qI x.1 x.2 }
-- slices.Equal[[]int,int]
def zHJ:List (Nat×Con):=[]
def w54_v:Env:=zy tb gl zHJ w54_c Tryz.f102.ntmps
theorem zD6:zA Tryz.prog (cond w54_c.glob gl fun _=>none) zHJ:=zi
def w54_u0_h:SS:=⟨[0,1,12,13],⟨[.hole,.hole,.hole,.hole],[],[1,1,2,2],[kJ,kJ,.int .i64,.int .i64]⟩⟩
def zoR:Exs:=[((.exit 0),⟨[],⟨[],[],[],[]⟩⟩),(.ret,⟨[4],⟨[.hole],[],[2],[.bool]⟩⟩)]
def zBE:AC:=.run
def zu4:Un:=lpU w54_v.fz [14,15,5,16,17,18,19,20,21,22,23,24,4,25,13] w54_u0_h zoR (lp qD zp)
theorem zCr (f:w54_u0_h.X→Option (YT zoR)) (x:w54_u0_h.X):E w54_v (zq (za Tryz.f102) [1,1,0,1,0,0]) (zBE) (mkS w54_u0_h 8 x) (zx w54_v.fz w54_u0_h zoR f)=qD f x:=by kernel_rfl
theorem zyU {X:Fx} (hX:VOk Tryz.prog X w54_v):q6 Tryz.prog X w54_v (zq (za Tryz.f102) [1,1,0,1,0]) zu4 :=
 zz (c:=(zq (za Tryz.f102) [1,1,0,1,0,0])) (by kernel_rfl) (zr zo (zD6)) zH (ob:=[]) (by kernel_rfl) (fun X hX=>zg) (zCr) (by kernel_rfl) (by kernel_rfl) hX
def zL8:AC:=(.seq .run (.seq .run (.seq (.seq .run (.block (.unit zu4))) .run)))
theorem zOm (x:zZ w54_c.inp.hs):E w54_v (za Tryz.f102) (zL8) (w54_c.entry x) (zB tb w54_v.fz w54_c [.tmp 4] x)=w54_c.F x:=by kernel_rfl
theorem w54_ok:ShOk Tryz.prog gl 102 w54_c :=
 zC (l:=zHJ) (n:=Tryz.f102.ntmps) (code:=za Tryz.f102) (rts:=[.tmp 4]) zo zH (zD6) Tryz.func102 (by kernel_rfl) (by kernel_rfl) rfl (by kernel_rfl) (ac:=zL8) (ob:=[((zq (za Tryz.f102) [1,1,0,1,0]),zu4)]) (by kernel_rfl) (fun X hX=>(zn (zyU hX) zg)) (by kernel_rfl) (zOm)
def w55_c:ShC:={ inp:=⟨[(.agg [.hole,.hole]),(.agg [.hole,.hole])],[],[1,1,1,1],[.bool,kJ,.bool,kJ]⟩,out:=⟨[.hole],[],[2],[.bool]⟩,nres:=1,ms:=[],mu:=[],leak:=false,glob:=false,F:=fun (x:(Bool×jI×Bool×jI))=>zkY x.1 x.2.1 x.2.2.1 x.2.2.2 }
-- lit.Same
def zIK:List (Nat×Con):=[(102,.gen (zV [w54_c]))]
def w55_v:Env:=zy tb gl zIK w55_c Tryz.f206.ntmps
theorem zI6:zA Tryz.prog (cond w55_c.glob gl fun _=>none) zIK:=(zb (zd (zc (w54_ok.anyGl rfl) ze)) zi)
def zL5:AC:=.run
theorem zOU (x:zZ w55_c.inp.hs):E w55_v (za Tryz.f206) (zL5) (w55_c.entry x) (zB tb w55_v.fz w55_c [.tmp 4] x)=w55_c.F x:=by kernel_rfl
theorem w55_ok:ShOk Tryz.prog gl 206 w55_c :=
 zC (l:=zIK) (n:=Tryz.f206.ntmps) (code:=za Tryz.f206) (rts:=[.tmp 4]) zo zH (zI6) Tryz.func206 (by kernel_rfl) (by kernel_rfl) rfl (by kernel_rfl) (ac:=zL5) (ob:=[]) (by kernel_rfl) (fun X hX=>zg) (by kernel_rfl) (zOU)
def w56_c:ShC:={ inp:=⟨[(.agg [.hole,.hole]),(.ptr 0 0)],[.cells true [.hole,.hole]],[1,1,1,1],[.bool,kJ,.bool,kJ]⟩,out:=⟨[.hole],[],[2],[.bool]⟩,nres:=1,ms:=[],mu:=[],leak:=false,glob:=false,F:=fun (x:(Bool×jI×Bool×jI))=>zcW x.1 x.2.1 x.2.2.1 x.2.2.2 }
-- clause.once$1
def zHS:List (Nat×Con):=[(206,.gen (zV [w55_c]))]
def w56_v:Env:=zy tb gl zHS w56_c Tryz.f205.ntmps
theorem zJ2:zA Tryz.prog (cond w56_c.glob gl fun _=>none) zHS:=(zb (zd (zc (w55_ok.anyGl rfl) ze)) zi)
def zJG:AC:=.run
theorem zNe (x:zZ w56_c.inp.hs):E w56_v (za Tryz.f205) (zJG) (w56_c.entry x) (zB tb w56_v.fz w56_c [.tmp 3] x)=w56_c.F x:=by kernel_rfl
theorem w56_ok:ShOk Tryz.prog gl 205 w56_c :=
 zC (l:=zHS) (n:=Tryz.f205.ntmps) (code:=za Tryz.f205) (rts:=[.tmp 3]) zo zH (zJ2) Tryz.func205 (by kernel_rfl) (by kernel_rfl) rfl (by kernel_rfl) (ac:=zJG) (ob:=[]) (by kernel_rfl) (fun X hX=>zg) (by kernel_rfl) (zNe)
def w57_c:ShC:={ inp:=⟨[.hole,(.clo 205 [(.ptr 0 0)])],[.cells true [.hole,.hole]],[1,1,1],[kL,.bool,kJ]⟩,out:=⟨[.hole],[],[2],[.int .i64]⟩,nres:=1,ms:=[],mu:=[],leak:=false,glob:=false,F:=fun (x:(jQ×Bool×jI))=>zdq x.1 x.2.1 x.2.2 }
-- slices.IndexFunc[[]api.Lit,api.Lit]
def zGv:List (Nat×Con):=[(205,.gen (zV [w56_c]))]
def w57_v:Env:=zy tb gl zGv w57_c Tryz.f183.ntmps
theorem zEZ:zA Tryz.prog (cond w57_c.glob gl fun _=>none) zGv:=(zb (zd (zc (w56_ok.anyGl rfl) ze)) zi)
def w57_u0_h:SS:=⟨[0,1,7,8],⟨[.hole,(.clo 205 [(.ptr 0 0)]),.hole,.hole],[.cells true [.hole,.hole]],[1,2,2,2,1],[kL,.int .i64,.int .i64,.bool,kJ]⟩⟩
def zpg:Exs:=[((.exit 0),⟨[],⟨[],[],[],[]⟩⟩),(.ret,⟨[4],⟨[.hole],[],[2],[.int .i64]⟩⟩)]
def zDS:AC:=.run
def zvn:Un:=lpU w57_v.fz [9,10,5,11,12,13,14,15,16,17,4,18,8] w57_u0_h zpg (lp yj zp)
theorem zDc (f:w57_u0_h.X→Option (YT zpg)) (x:w57_u0_h.X):E w57_v (zq (za Tryz.f183) [1,0,1,0,0]) (zDS) (mkS w57_u0_h 8 x) (zx w57_v.fz w57_u0_h zpg f)=yj f x:=by kernel_rfl
theorem zy8 {X:Fx} (hX:VOk Tryz.prog X w57_v):q6 Tryz.prog X w57_v (zq (za Tryz.f183) [1,0,1,0]) zvn :=
 zz (c:=(zq (za Tryz.f183) [1,0,1,0,0])) (by kernel_rfl) (zr zo (zEZ)) zH (ob:=[]) (by kernel_rfl) (fun X hX=>zg) (zDc) (by kernel_rfl) (by kernel_rfl) hX
def zKJ:AC:=(.seq .run (.seq (.seq .run (.block (.unit zvn))) .run))
theorem zN4 (x:zZ w57_c.inp.hs):E w57_v (za Tryz.f183) (zKJ) (w57_c.entry x) (zB tb w57_v.fz w57_c [.tmp 4] x)=w57_c.F x:=by kernel_rfl
theorem w57_ok:ShOk Tryz.prog gl 183 w57_c :=
 zC (l:=zGv) (n:=Tryz.f183.ntmps) (code:=za Tryz.f183) (rts:=[.tmp 4]) zo zH (zEZ) Tryz.func183 (by kernel_rfl) (by kernel_rfl) rfl (by kernel_rfl) (ac:=zKJ) (ob:=[((zq (za Tryz.f183) [1,0,1,0]),zvn)]) (by kernel_rfl) (fun X hX=>(zn (zy8 hX) zg)) (by kernel_rfl) (zN4)
def w58_c:ShC:={ inp:=⟨[.hole,(.clo 205 [(.ptr 0 0)])],[.cells true [.hole,.hole]],[1,1,1],[kL,.bool,kJ]⟩,out:=⟨[.hole],[],[2],[.bool]⟩,nres:=1,ms:=[],mu:=[],leak:=false,glob:=false,F:=fun (x:(jQ×Bool×jI))=>zaH x.1 x.2.1 x.2.2 }
-- slices.ContainsFunc[[]api.Lit,api.Lit]
def zHR:List (Nat×Con):=[(183,.gen (zV [w57_c]))]
def w58_v:Env:=zy tb gl zHR w58_c Tryz.f133.ntmps
theorem zLq:zA Tryz.prog (cond w58_c.glob gl fun _=>none) zHR:=(zb (zd (zc (w57_ok.anyGl rfl) ze)) zi)
def zMs:AC:=.run
theorem zNU (x:zZ w58_c.inp.hs):E w58_v (za Tryz.f133) (zMs) (w58_c.entry x) (zB tb w58_v.fz w58_c [.tmp 4] x)=w58_c.F x:=by kernel_rfl
theorem w58_ok:ShOk Tryz.prog gl 133 w58_c :=
 zC (l:=zHR) (n:=Tryz.f133.ntmps) (code:=za Tryz.f133) (rts:=[.tmp 4]) zo zH (zLq) Tryz.func133 (by kernel_rfl) (by kernel_rfl) rfl (by kernel_rfl) (ac:=zMs) (ob:=[]) (by kernel_rfl) (fun X hX=>zg) (by kernel_rfl) (zNU)
def w59_c:ShC:={ inp:=⟨[.hole],[],[1],[kL]⟩,out:=⟨[(.view 0)],[.seq false],[0],[kL]⟩,nres:=1,ms:=[],mu:=[],leak:=true,glob:=false,F:=fun (x:jQ)=>zdW x }
-- clause.once
def zIb:List (Nat×Con):=[(133,.gen (zV [w58_c]))]
def w59_v:Env:=zy tb gl zIb w59_c Tryz.f168.ntmps
theorem zET:zA Tryz.prog (cond w59_c.glob gl fun _=>none) zIb:=(zb (zd (zc (w58_ok.anyGl rfl) ze)) zi)
def w59_u0_h:SS:=⟨[3,6,7,8],⟨[(.view 0),.hole,.hole,.hole],[.seq false],[1,2,2,0],[kL,.int .i64,.int .i64,kL]⟩⟩
def zph:Exs:=[((.exit 0),⟨[3],⟨[(.view 0)],[.seq false],[0],[kL]⟩⟩)]
def zC6:AC:=.run
def zzx:Un:=lpU w59_v.fz [9,10,11,5,12,13,14,15,16,17,18,19,3,20,8] w59_u0_h zph (lp qS zp)
theorem zDj (f:w59_u0_h.X→Option (YT zph)) (x:w59_u0_h.X):E w59_v (zq (za Tryz.f168) [1,1,0,1,0,0]) (zC6) (mkS w59_u0_h 8 x) (zx w59_v.fz w59_u0_h zph f)=qS f x:=by kernel_rfl
theorem zx2 {X:Fx} (hX:VOk Tryz.prog X w59_v):q6 Tryz.prog X w59_v (zq (za Tryz.f168) [1,1,0,1,0]) zzx :=
 zz (c:=(zq (za Tryz.f168) [1,1,0,1,0,0])) (by kernel_rfl) (zr zo (zET)) zH (ob:=[]) (by kernel_rfl) (fun X hX=>zg) (zDj) (by kernel_rfl) (by kernel_rfl) hX
def zJ0:AC:=(.seq .run (.seq .run (.seq (.seq .run (.block (.unit zzx))) .run)))
theorem zM7 (x:zZ w59_c.inp.hs):E w59_v (za Tryz.f168) (zJ0) (w59_c.entry x) (zB tb w59_v.fz w59_c [.tmp 2] x)=w59_c.F x:=by kernel_rfl
theorem w59_ok:ShOk Tryz.prog gl 168 w59_c :=
 zC (l:=zIb) (n:=Tryz.f168.ntmps) (code:=za Tryz.f168) (rts:=[.tmp 2]) zo zH (zET) Tryz.func168 (by kernel_rfl) (by kernel_rfl) rfl (by kernel_rfl) (ac:=zJ0) (ob:=[((zq (za Tryz.f168) [1,1,0,1,0]),zzx)]) (by kernel_rfl) (fun X hX=>(zn (zx2 hX) zg)) (by kernel_rfl) (zM7)
def w60_c:ShC:={ inp:=⟨[.hole,(.ptr 0 0)],[.cells true [.hole]],[1,1],[kJ,kJ]⟩,out:=⟨[.hole],[],[2],[.bool]⟩,nres:=1,ms:=[],mu:=[],leak:=false,glob:=false,F:=fun (x:(jI×jI))=>zcX x.1 x.2 }
-- clause.anew$1
def zHc:List (Nat×Con):=[(102,.gen (zV [w54_c]))]
def w60_v:Env:=zy tb gl zHc w60_c Tryz.f169.ntmps
theorem zL9:zA Tryz.prog (cond w60_c.glob gl fun _=>none) zHc:=(zb (zd (zc (w54_ok.anyGl rfl) ze)) zi)
def zJs:AC:=.run
theorem zOu (x:zZ w60_c.inp.hs):E w60_v (za Tryz.f169) (zJs) (w60_c.entry x) (zB tb w60_v.fz w60_c [.tmp 3] x)=w60_c.F x:=by kernel_rfl
theorem w60_ok:ShOk Tryz.prog gl 169 w60_c :=
 zC (l:=zHc) (n:=Tryz.f169.ntmps) (code:=za Tryz.f169) (rts:=[.tmp 3]) zo zH (zL9) Tryz.func169 (by kernel_rfl) (by kernel_rfl) rfl (by kernel_rfl) (ac:=zJs) (ob:=[]) (by kernel_rfl) (fun X hX=>zg) (by kernel_rfl) (zOu)
def w61_c:ShC:={ inp:=⟨[.hole,(.clo 169 [(.ptr 0 0)])],[.cells true [.hole]],[1,1],[kK,kJ]⟩,out:=⟨[.hole],[],[2],[.int .i64]⟩,nres:=1,ms:=[],mu:=[],leak:=false,glob:=false,F:=fun (x:(jR×jI))=>zcv x.1 x.2 }
-- slices.IndexFunc[[][]int,[]int]
def zH6:List (Nat×Con):=[(169,.gen (zV [w60_c]))]
def w61_v:Env:=zy tb gl zH6 w61_c Tryz.f182.ntmps
theorem zE5:zA Tryz.prog (cond w61_c.glob gl fun _=>none) zH6:=(zb (zd (zc (w60_ok.anyGl rfl) ze)) zi)
def w61_u0_h:SS:=⟨[0,1,7,8],⟨[.hole,(.clo 169 [(.ptr 0 0)]),.hole,.hole],[.cells true [.hole]],[1,2,2,1],[kK,.int .i64,.int .i64,kJ]⟩⟩
def zoI:Exs:=[((.exit 0),⟨[],⟨[],[],[],[]⟩⟩),(.ret,⟨[4],⟨[.hole],[],[2],[.int .i64]⟩⟩)]
def zCg:AC:=.run
def zvh:Un:=lpU w61_v.fz [9,10,5,11,12,13,14,15,16,17,4,18,8] w61_u0_h zoI (lp zX zp)
theorem zDD (f:w61_u0_h.X→Option (YT zoI)) (x:w61_u0_h.X):E w61_v (zq (za Tryz.f182) [1,0,1,0,0]) (zCg) (mkS w61_u0_h 8 x) (zx w61_v.fz w61_u0_h zoI f)=zX f x:=by kernel_rfl
theorem zyH {X:Fx} (hX:VOk Tryz.prog X w61_v):q6 Tryz.prog X w61_v (zq (za Tryz.f182) [1,0,1,0]) zvh :=
 zz (c:=(zq (za Tryz.f182) [1,0,1,0,0])) (by kernel_rfl) (zr zo (zE5)) zH (ob:=[]) (by kernel_rfl) (fun X hX=>zg) (zDD) (by kernel_rfl) (by kernel_rfl) hX
def zJb:AC:=(.seq .run (.seq (.seq .run (.block (.unit zvh))) .run))
theorem zOj (x:zZ w61_c.inp.hs):E w61_v (za Tryz.f182) (zJb) (w61_c.entry x) (zB tb w61_v.fz w61_c [.tmp 4] x)=w61_c.F x:=by kernel_rfl
theorem w61_ok:ShOk Tryz.prog gl 182 w61_c :=
 zC (l:=zH6) (n:=Tryz.f182.ntmps) (code:=za Tryz.f182) (rts:=[.tmp 4]) zo zH (zE5) Tryz.func182 (by kernel_rfl) (by kernel_rfl) rfl (by kernel_rfl) (ac:=zJb) (ob:=[((zq (za Tryz.f182) [1,0,1,0]),zvh)]) (by kernel_rfl) (fun X hX=>(zn (zyH hX) zg)) (by kernel_rfl) (zOj)
def w62_c:ShC:={ inp:=⟨[.hole,(.clo 169 [(.ptr 0 0)])],[.cells true [.hole]],[1,1],[kK,kJ]⟩,out:=⟨[.hole],[],[2],[.bool]⟩,nres:=1,ms:=[],mu:=[],leak:=false,glob:=false,F:=fun (x:(jR×jI))=>zac x.1 x.2 }
-- slices.ContainsFunc[[][]int,[]int]
def zHn:List (Nat×Con):=[(182,.gen (zV [w61_c]))]
def w62_v:Env:=zy tb gl zHn w62_c Tryz.f132.ntmps
theorem zLL:zA Tryz.prog (cond w62_c.glob gl fun _=>none) zHn:=(zb (zd (zc (w61_ok.anyGl rfl) ze)) zi)
def zJk:AC:=.run
theorem zNQ (x:zZ w62_c.inp.hs):E w62_v (za Tryz.f132) (zJk) (w62_c.entry x) (zB tb w62_v.fz w62_c [.tmp 4] x)=w62_c.F x:=by kernel_rfl
theorem w62_ok:ShOk Tryz.prog gl 132 w62_c :=
 zC (l:=zHn) (n:=Tryz.f132.ntmps) (code:=za Tryz.f132) (rts:=[.tmp 4]) zo zH (zLL) Tryz.func132 (by kernel_rfl) (by kernel_rfl) rfl (by kernel_rfl) (ac:=zJk) (ob:=[]) (by kernel_rfl) (fun X hX=>zg) (by kernel_rfl) (zNQ)
def w63_c:ShC:={ inp:=⟨[.hole,(.aptr 0),(.ptr 1 0)],[.seq false,.cells false [.hole]],[1,1,1],[kJ,kJ,.int .i64]⟩,out:=⟨[(.view 0),(.aptr 1),(.ptr 2 0)],[.seq false,.seq false,.cells false [.hole]],[2,0,2],[kJ,kJ,.int .i64]⟩,nres:=1,ms:=[1,2],mu:=[(0,1),(1,2)],leak:=true,glob:=false,F:=fun (x:(jI×jI×Int))=>qb x.1 x.2.1 x.2.2 }
-- clause.anew$2
def zGR:List (Nat×Con):=[(55,.gen (zV [w9_c])),(115,.gen (zV [zCo]))]
def w63_v:Env:=zy tb gl zGR w63_c Tryz.f171.ntmps
theorem zFr:zA Tryz.prog (cond w63_c.glob gl fun _=>none) zGR:=(zb (zd (zc (w9_ok.anyGl rfl) ze)) (zb (zd (zc (w31_ok.anyGl rfl) ze)) zi))
def w63_u0_h:SS:=⟨[1,2,5,10,11,12],⟨[(.aptr 0),(.ptr 1 0),(.view 2),(.view 2),.hole,.hole],[.seq false,.cells false [.hole],.seq false],[2,2,0,2,2],[.int .i64,.int .i64,kJ,.int .i64,kJ]⟩⟩
def zob:Exs:=[((.exit 0),⟨[1,2,5],⟨[(.aptr 0),(.ptr 1 0),(.view 2)],[.seq false,.cells false [.hole],.seq false],[0,2,2],[kJ,.int .i64,kJ]⟩⟩)]
def zCt:AC:=.run
def zzu:Un:=lpU w63_v.fz [13,14,15,16,6,7,17,18,19,20,21,22,23,24,25,26,27,28,29,30,31,32,33,34,35,36,37,38,12] w63_u0_h zob (lp yz zp)
theorem zBK (f:w63_u0_h.X→Option (YT zob)) (x:w63_u0_h.X):E w63_v (zq (za Tryz.f171) [1,1,0,1,0,0]) (zCt) (mkS w63_u0_h 8 x) (zx w63_v.fz w63_u0_h zob f)=yz f x:=by kernel_rfl
theorem zzg {X:Fx} (hX:VOk Tryz.prog X w63_v):q6 Tryz.prog X w63_v (zq (za Tryz.f171) [1,1,0,1,0]) zzu :=
 zz (c:=(zq (za Tryz.f171) [1,1,0,1,0,0])) (by kernel_rfl) (zr zo (zFr)) zH (ob:=[]) (by kernel_rfl) (fun X hX=>zg) (zBK) (by kernel_rfl) (by kernel_rfl) hX
def zKn:AC:=(.seq .run (.seq .run (.seq (.seq .run (.block (.unit zzu))) .run)))
theorem zOT (x:zZ w63_c.inp.hs):E w63_v (za Tryz.f171) (zKn) (w63_c.entry x) (zB tb w63_v.fz w63_c [.tmp 4] x)=w63_c.F x:=by kernel_rfl
theorem w63_ok:ShOk Tryz.prog gl 171 w63_c :=
 zC (l:=zGR) (n:=Tryz.f171.ntmps) (code:=za Tryz.f171) (rts:=[.tmp 4]) zo zH (zFr) Tryz.func171 (by kernel_rfl) (by kernel_rfl) rfl (by kernel_rfl) (ac:=zKn) (ob:=[((zq (za Tryz.f171) [1,1,0,1,0]),zzu)]) (by kernel_rfl) (fun X hX=>(zn (zzg hX) zg)) (by kernel_rfl) (zOT)
def w64_c:ShC:={ inp:=⟨[(.agg [.hole,.hole,.hole]),(.clo 171 [(.aptr 0),(.ptr 1 0)])],[.seq false,.cells false [.hole]],[1,1,1,1,1],[kL,kK,kL,kJ,.int .i64]⟩,out:=⟨[(.agg [.hole,.hole,(.view 0)]),(.clo 171 [(.aptr 1),(.ptr 2 0)])],[.seq false,.seq false,.cells false [.hole]],[2,2,2,0,2],[kL,kK,kL,kJ,.int .i64]⟩,nres:=1,ms:=[1],mu:=[(0,1),(1,2)],leak:=true,glob:=false,F:=fun (x:(jQ×jR×jQ×jI×Int))=>zfH x.1 x.2.1 x.2.2.1 x.2.2.2.1 x.2.2.2.2 }
-- clause.each
def zGF:List (Nat×Con):=[(171,.gen (zV [w63_c]))]
def w64_v:Env:=zy tb gl zGF w64_c Tryz.f170.ntmps
theorem zsJ:zA Tryz.prog (cond w64_c.glob gl fun _=>none) zGF:=(zb (zd (zc (w63_ok.anyGl rfl) ze)) zi)
def w64_u2_h:SS:=⟨[1,4,5,49,50,51],⟨[(.clo 171 [(.aptr 0),(.ptr 1 0)]),(.ptr 2 0),(.ptr 3 0),.hole,.hole,.hole],[.seq false,.cells false [.hole],.cells true [.nilv,.nilv,.nilv],.cells false [.hole,.hole,(.view 4)],.seq false],[1,2,2,0,2,2,2,2],[kL,.int .i64,.int .i64,kJ,.int .i64,kL,kK,kL]⟩⟩
def zoF:Exs:=[((.exit 4),⟨[1,5],⟨[(.clo 171 [(.aptr 0),(.ptr 1 0)]),(.ptr 2 0)],[.seq false,.cells false [.hole],.cells false [.hole,.hole,(.view 3)],.seq false],[0,2,2,2,2],[kJ,.int .i64,kL,kK,kL]⟩⟩)]
def zB9:AC:=(.seq .run (.seq .run (.seq (.block (.seq .run (.hide [[8,9],[8,9],[8,9],[8,9],[],[],[],[],[],[],[],[],[]]))) .run)))
def zyf:Un:=lpU w64_v.fz [52,53,54,11,55,56,57,58,59,60,61,62,63,64,65,66,67,51] w64_u2_h zoF (lp qc zp)
theorem zCK (f:w64_u2_h.X→Option (YT zoF)) (x:w64_u2_h.X):E w64_v (zq (za Tryz.f170) [1,1,1,1,0,1,0,0]) (zB9) (mkS w64_u2_h 8 x) (zx w64_v.fz w64_u2_h zoF f)=qc f x:=by kernel_rfl
theorem zAx {X:Fx} (hX:VOk Tryz.prog X w64_v):q6 Tryz.prog X w64_v (zq (za Tryz.f170) [1,1,1,1,0,1,0]) zyf :=
 zz (c:=(zq (za Tryz.f170) [1,1,1,1,0,1,0,0])) (by kernel_rfl) (zr zo (zsJ)) zH (ob:=[]) (by kernel_rfl) (fun X hX=>zg) (zCK) (by kernel_rfl) (by kernel_rfl) hX
def w64_u1_h:SS:=⟨[1,2,4,5,33,34,35],⟨[(.clo 171 [(.aptr 0),(.ptr 1 0)]),(.ptr 2 0),(.ptr 3 0),(.ptr 4 0),.hole,.hole,.hole],[.seq false,.cells false [.hole],.cells true [.hole,.hole,.hole],.cells true [.nilv,.nilv,.nilv],.cells false [.hole,(.view 5),.nilv],.seq false],[1,2,2,0,2,1,1,1,2,2],[kK,.int .i64,.int .i64,kJ,.int .i64,kL,kK,kL,kL,kK]⟩⟩
def zpd:Exs:=[((.exit 2),⟨[1,5],⟨[(.clo 171 [(.aptr 0),(.ptr 1 0)]),(.ptr 2 0)],[.seq false,.cells false [.hole],.cells false [.hole,(.view 3),.nilv],.seq false],[0,2,2,2],[kJ,.int .i64,kL,kK]⟩⟩)]
def zCn:AC:=(.seq .run (.seq .run (.seq (.block (.seq .run (.hide [[8,9],[8,9],[],[],[],[],[],[],[]]))) .run)))
def zzR:Un:=lpU w64_v.fz [36,37,38,9,39,40,41,42,43,44,45,46,47,35] w64_u1_h zpd (lp y0 zp)
theorem zDO (f:w64_u1_h.X→Option (YT zpd)) (x:w64_u1_h.X):E w64_v (zq (za Tryz.f170) [1,1,1,0,1,0,0]) (zCn) (mkS w64_u1_h 8 x) (zx w64_v.fz w64_u1_h zpd f)=y0 f x:=by kernel_rfl
theorem zAd {X:Fx} (hX:VOk Tryz.prog X w64_v):q6 Tryz.prog X w64_v (zq (za Tryz.f170) [1,1,1,0,1,0]) zzR :=
 zz (c:=(zq (za Tryz.f170) [1,1,1,0,1,0,0])) (by kernel_rfl) (zr zo (zsJ)) zH (ob:=[]) (by kernel_rfl) (fun X hX=>zg) (zDO) (by kernel_rfl) (by kernel_rfl) hX
def w64_u0_h:SS:=⟨[1,2,4,5,13,14,15],⟨[(.clo 171 [(.aptr 0),(.ptr 1 0)]),(.ptr 2 0),(.ptr 3 0),(.ptr 4 0),.hole,.hole,.hole],[.seq false,.cells false [.hole],.cells true [.hole,.hole,.hole],.cells true [.nilv,.nilv,.nilv],.cells false [(.view 5),.nilv,.nilv],.seq false],[1,2,2,0,2,1,1,1,2],[kL,.int .i64,.int .i64,kJ,.int .i64,kL,kK,kL,kL]⟩⟩
def zpb:Exs:=[((.exit 0),⟨[1,5],⟨[(.clo 171 [(.aptr 0),(.ptr 1 0)]),(.ptr 2 0)],[.seq false,.cells false [.hole],.cells false [(.view 3),.nilv,.nilv],.seq false],[0,2,2],[kJ,.int .i64,kL]⟩⟩)]
def zBy:AC:=(.seq .run (.seq .run (.seq (.block (.seq .run (.hide [[8,9],[8,9],[8,9],[8,9],[],[],[],[],[],[],[],[],[]]))) .run)))
def zv0:Un:=lpU w64_v.fz [16,17,18,7,19,20,21,22,23,24,25,26,27,28,29,30,31,15] w64_u0_h zpb (lp y7 zp)
theorem zAW (f:w64_u0_h.X→Option (YT zpb)) (x:w64_u0_h.X):E w64_v (zq (za Tryz.f170) [1,1,0,1,0,0]) (zBy) (mkS w64_u0_h 8 x) (zx w64_v.fz w64_u0_h zpb f)=y7 f x:=by kernel_rfl
theorem zwT {X:Fx} (hX:VOk Tryz.prog X w64_v):q6 Tryz.prog X w64_v (zq (za Tryz.f170) [1,1,0,1,0]) zv0 :=
 zz (c:=(zq (za Tryz.f170) [1,1,0,1,0,0])) (by kernel_rfl) (zr zo (zsJ)) zH (ob:=[]) (by kernel_rfl) (fun X hX=>zg) (zAW) (by kernel_rfl) (by kernel_rfl) hX
def zJv:AC:=(.seq .run (.seq .run (.seq (.seq .run (.block (.unit zv0))) (.seq (.seq .run (.block (.unit zzR))) (.seq (.seq .run (.block (.unit zyf))) .run)))))
theorem zM1 (x:zZ w64_c.inp.hs):E w64_v (za Tryz.f170) (zJv) (w64_c.entry x) (zB tb w64_v.fz w64_c [.cell 4 29] x)=w64_c.F x:=by kernel_rfl
theorem w64_ok:ShOk Tryz.prog gl 170 w64_c :=
 zC (l:=zGF) (n:=Tryz.f170.ntmps) (code:=za Tryz.f170) (rts:=[.cell 4 29]) zo zH (zsJ) Tryz.func170 (by kernel_rfl) (by kernel_rfl) rfl (by kernel_rfl) (ac:=zJv) (ob:=[((zq (za Tryz.f170) [1,1,0,1,0]),zv0),((zq (za Tryz.f170) [1,1,1,0,1,0]),zzR),((zq (za Tryz.f170) [1,1,1,1,0,1,0]),zyf)]) (by kernel_rfl) (fun X hX=>(zn (zwT hX) (zn (zAd hX) (zn (zAx hX) zg)))) (by kernel_rfl) (zM1)
def w65_c:ShC:={ inp:=⟨[(.agg [.hole,.hole,.hole])],[],[1,1,1],[kL,kK,kL]⟩,out:=⟨[(.agg [.hole,.hole,(.view 0)])],[.seq false],[2,2,2],[kL,kK,kL]⟩,nres:=1,ms:=[],mu:=[],leak:=false,glob:=false,F:=fun (x:(jQ×jR×jQ))=>zfh x.1 x.2.1 x.2.2 }
-- clause.anew
def zGw:List (Nat×Con):=[(132,.gen (zV [w62_c])),(168,.gen (zV [w59_c])),(170,.gen (zV [w64_c]))]
def w65_v:Env:=zy tb gl zGw w65_c Tryz.f116.ntmps
theorem zFj:zA Tryz.prog (cond w65_c.glob gl fun _=>none) zGw:=(zb (zd (zc (w62_ok.anyGl rfl) ze)) (zb (zd (zc (w59_ok.anyGl rfl) ze)) (zb (zd (zc (w64_ok.anyGl rfl) ze)) zi)))
def w65_u0_h:SS:=⟨[2,3,16,17,18],⟨[(.ptr 0 0),(.ptr 1 0),.hole,.hole,.hole],[.cells true [.nilv,.nilv,.nilv],.cells false [.hole,(.view 2),.hole],.seq false],[1,2,2,0,0,0],[kK,.int .i64,.int .i64,kL,kL,kK]⟩⟩
def zpi:Exs:=[((.exit 0),⟨[3],⟨[(.ptr 0 0)],[.cells false [.hole,(.view 1),.hole],.seq false],[0,0,0],[kL,kL,kK]⟩⟩)]
def zDW:AC:=.run
def zAq:Un:=lpU w65_v.fz [19,20,21,5,22,23,24,25,26,27,28,29,30,31,32,33,18] w65_u0_h zpi (lp qX zp)
theorem zBI (f:w65_u0_h.X→Option (YT zpi)) (x:w65_u0_h.X):E w65_v (zq (za Tryz.f116) [1,1,0,1,0,0]) (zDW) (mkS w65_u0_h 8 x) (zx w65_v.fz w65_u0_h zpi f)=qX f x:=by kernel_rfl
theorem zwO {X:Fx} (hX:VOk Tryz.prog X w65_v):q6 Tryz.prog X w65_v (zq (za Tryz.f116) [1,1,0,1,0]) zAq :=
 zz (c:=(zq (za Tryz.f116) [1,1,0,1,0,0])) (by kernel_rfl) (zr zo (zFj)) zH (ob:=[]) (by kernel_rfl) (fun X hX=>zg) (zBI) (by kernel_rfl) (by kernel_rfl) hX
def zJD:AC:=(.seq .run (.seq .run (.seq (.seq .run (.block (.unit zAq))) .run)))
theorem zNY (x:zZ w65_c.inp.hs):E w65_v (za Tryz.f116) (zJD) (w65_c.entry x) (zB tb w65_v.fz w65_c [.cell 2 29] x)=w65_c.F x:=by kernel_rfl
theorem w65_ok:ShOk Tryz.prog gl 116 w65_c :=
 zC (l:=zGw) (n:=Tryz.f116.ntmps) (code:=za Tryz.f116) (rts:=[.cell 2 29]) zo zH (zFj) Tryz.func116 (by kernel_rfl) (by kernel_rfl) rfl (by kernel_rfl) (ac:=zJD) (ob:=[((zq (za Tryz.f116) [1,1,0,1,0]),zAq)]) (by kernel_rfl) (fun X hX=>(zn (zwO hX) zg)) (by kernel_rfl) (zNY)
def w66_c:ShC:={ inp:=⟨[.hole,(.agg [.hole,.hole,.hole])],[],[1,1,1,1],[kM,kL,kK,kL]⟩,out:=⟨[(.agg [.hole,.hole,(.view 0)]),.hole],[.seq false],[2,2,2,2],[kL,kK,.int .i64,kL]⟩,nres:=2,ms:=[],mu:=[],leak:=false,glob:=true,F:=fun (x:(jS×jQ×jR×jQ))=>zdz x.1 x.2.1 x.2.2.1 x.2.2.2 }
-- clause.Normal
def zHg:List (Nat×Con):=[(42,.gen (zV [w18_c])),(116,.gen (zV [w65_c]))]
def w66_v:Env:=zy tb gl zHg w66_c Tryz.f56.ntmps
theorem zKG:zA Tryz.prog (cond w66_c.glob gl fun _=>none) zHg:=(zb (zd (zc zqM ze)) (zb (zd (zc (w65_ok.anyGl rfl) ze)) zi))
def zJL:AC:=.run
theorem zOA (x:zZ w66_c.inp.hs):E w66_v (za Tryz.f56) (zJL) (w66_c.entry x) (zB tb w66_v.fz w66_c [.cell 4 29,.tmp 5] x)=w66_c.F x:=by kernel_rfl
theorem zJT:ShOk Tryz.prog gl 56 w66_c :=
 zC (l:=zHg) (n:=Tryz.f56.ntmps) (code:=za Tryz.f56) (rts:=[.cell 4 29,.tmp 5]) zo zH (zKG) Tryz.func56 (by kernel_rfl) (by kernel_rfl) rfl (by kernel_rfl) (ac:=zJL) (ob:=[]) (by kernel_rfl) (fun X hX=>zg) (by kernel_rfl) (zOA)
def w67_c:ShC:={ inp:=⟨[.hole,(.agg [.hole,.hole,.hole]),.hole,(.agg [.hole,.hole,.hole]),.hole],[],[1,1,1,1,1,1,1,1,1],[kM,kL,kK,kL,.int .i64,kL,kK,kL,.int .i64]⟩,out:=⟨[(.agg [.hole,.hole,(.view 0)]),.hole,.hole],[.seq false],[2,2,2,2,2],[kL,kK,.bool,.int .i64,kL]⟩,nres:=3,ms:=[],mu:=[],leak:=false,glob:=true,F:=fun (x:(jS×jQ×jR×jQ×Int×jQ×jR×jQ×Int))=>za7 x.1 x.2.1 x.2.2.1 x.2.2.2.1 x.2.2.2.2.1 x.2.2.2.2.2.1 x.2.2.2.2.2.2.1 x.2.2.2.2.2.2.2.1 x.2.2.2.2.2.2.2.2 }
-- resolve.one
def zGn:List (Nat×Con):=[(56,.gen (zV [w66_c])),(75,.gen (zV [w48_c])),(135,.gen (zV [w45_c])),(136,.gen (zV [w53_c])),(149,.gen (zV [w35_c]))]
def w67_v:Env:=zy tb gl zGn w67_c Tryz.f84.ntmps
theorem zKo:zA Tryz.prog (cond w67_c.glob gl fun _=>none) zGn:=(zb (zd (zc zJT ze)) (zb (zd (zc (w48_ok.anyGl rfl) ze)) (zb (zd (zc zMv ze)) (zb (zd (zc (w53_ok.anyGl rfl) ze)) (zb (zd (zc zKB ze)) zi)))))
def zJn:AC:=.run
theorem zNc (x:zZ w67_c.inp.hs):E w67_v (za Tryz.f84) (zJn) (w67_c.entry x) (zB tb w67_v.fz w67_c [.cell 10 29,.tmp 11,.tmp 12] x)=w67_c.F x:=by kernel_rfl
theorem zFp:ShOk Tryz.prog gl 84 w67_c :=
 zC (l:=zGn) (n:=Tryz.f84.ntmps) (code:=za Tryz.f84) (rts:=[.cell 10 29,.tmp 11,.tmp 12]) zo zH (zKo) Tryz.func84 (by kernel_rfl) (by kernel_rfl) rfl (by kernel_rfl) (ac:=zJn) (ob:=[]) (by kernel_rfl) (fun X hX=>zg) (by kernel_rfl) (zNc)
def w68_c:ShC:={ inp:=⟨[.hole,(.agg [.hole,.hole,.hole]),.hole,(.agg [.hole,.hole,.hole]),.hole],[],[1,1,1,1,1,1,1,1,1],[kM,kL,kK,kL,.int .i64,kL,kK,kL,.int .i64]⟩,out:=⟨[(.agg [.hole,.hole,(.view 0)]),.hole,.hole],[.seq false],[2,2,2,2,2],[kL,kK,.bool,.int .i64,kL]⟩,nres:=3,ms:=[],mu:=[],leak:=false,glob:=true,F:=fun (x:(jS×jQ×jR×jQ×Int×jQ×jR×jQ×Int))=>zbs x.1 x.2.1 x.2.2.1 x.2.2.2.1 x.2.2.2.2.1 x.2.2.2.2.2.1 x.2.2.2.2.2.2.1 x.2.2.2.2.2.2.2.1 x.2.2.2.2.2.2.2.2 }
-- resolve.One
def zFY:List (Nat×Con):=[(42,.gen (zV [w18_c])),(83,.gen (zV [w19_c])),(84,.gen (zV [w67_c]))]
def w68_v:Env:=zy tb gl zFY w68_c Tryz.f33.ntmps
theorem zKX:zA Tryz.prog (cond w68_c.glob gl fun _=>none) zFY:=(zb (zd (zc zqM ze)) (zb (zd (zc (w19_ok.anyGl rfl) ze)) (zb (zd (zc zFp ze)) zi)))
def zJO:AC:=.run
theorem zNv (x:zZ w68_c.inp.hs):E w68_v (za Tryz.f33) (zJO) (w68_c.entry x) (zB tb w68_v.fz w68_c [.cell 10 29,.tmp 11,.tmp 12] x)=w68_c.F x:=by kernel_rfl
theorem zFy:ShOk Tryz.prog gl 33 w68_c :=
 zC (l:=zFY) (n:=Tryz.f33.ntmps) (code:=za Tryz.f33) (rts:=[.cell 10 29,.tmp 11,.tmp 12]) zo zH (zKX) Tryz.func33 (by kernel_rfl) (by kernel_rfl) rfl (by kernel_rfl) (ac:=zJO) (ob:=[]) (by kernel_rfl) (fun X hX=>zg) (by kernel_rfl) (zNv)
def w69_c:ShC:={ inp:=⟨[.hole],[],[1],[.int .u8]⟩,out:=⟨[.hole],[],[2],[.bool]⟩,nres:=1,ms:=[],mu:=[],leak:=false,glob:=false,F:=fun (x:Int)=>ze1 x }
-- quaereref1.small
def zGO:List (Nat×Con):=[]
def w69_v:Env:=zy tb gl zGO w69_c Tryz.f172.ntmps
theorem zJY:zA Tryz.prog (cond w69_c.glob gl fun _=>none) zGO:=zi
def zJm:AC:=.run
theorem zOD (x:zZ w69_c.inp.hs):E w69_v (za Tryz.f172) (zJm) (w69_c.entry x) (zB tb w69_v.fz w69_c [.tmp 2] x)=w69_c.F x:=by kernel_rfl
theorem w69_ok:ShOk Tryz.prog gl 172 w69_c :=
 zC (l:=zGO) (n:=Tryz.f172.ntmps) (code:=za Tryz.f172) (rts:=[.tmp 2]) zo zH (zJY) Tryz.func172 (by kernel_rfl) (by kernel_rfl) rfl (by kernel_rfl) (ac:=zJm) (ob:=[]) (by kernel_rfl) (fun X hX=>zg) (by kernel_rfl) (zOD)
def w70_c:ShC:={ inp:=⟨[(.agg [.hole,.hole,.hole,.hole])],[],[1,1,1,1],[.str,.int .i64,.int .i64,.int .i64]⟩,out:=⟨[.hole],[],[2],[.bool]⟩,nres:=1,ms:=[],mu:=[],leak:=false,glob:=false,F:=fun (x:zQ)=>zd5 x.1 x.2.1 x.2.2.1 x.2.2.2 }
-- quaereref1.SymMay
def zGs:List (Nat×Con):=[(172,.gen (zV [w69_c]))]
def w70_v:Env:=zy tb gl zGs w70_c Tryz.f117.ntmps
theorem zFJ:zA Tryz.prog (cond w70_c.glob gl fun _=>none) zGs:=(zb (zd (zc (w69_ok.anyGl rfl) ze)) zi)
def w70_u0_h:SS:=⟨[1,3],⟨[(.ptr 0 0),.hole],[.cells true [.hole,.hole,.hole,.hole]],[2,2,2,2,2],[.int .i64,.str,.int .i64,.int .i64,.int .i64]⟩⟩
def zpe:Exs:=[((.exit 0),⟨[],⟨[],[],[],[]⟩⟩),(.ret,⟨[2],⟨[.hole],[],[2],[.bool]⟩⟩)]
def zDy:AC:=.run
def zxh:Un:=lpU w70_v.fz [21,22,23,24,25,28,29,30,31,32,33,34,35,36,37,38,39,40,41,42,43,44,45,46,47,2,26,27,3] w70_u0_h zpe (lp q3 zp)
theorem zBz (f:w70_u0_h.X→Option (YT zpe)) (x:w70_u0_h.X):E w70_v (zq (za Tryz.f117) [1,1,0,1,0,0]) (zDy) (mkS w70_u0_h 8 x) (zx w70_v.fz w70_u0_h zpe f)=q3 f x:=by kernel_rfl
theorem zzJ {X:Fx} (hX:VOk Tryz.prog X w70_v):q6 Tryz.prog X w70_v (zq (za Tryz.f117) [1,1,0,1,0]) zxh :=
 zz (c:=(zq (za Tryz.f117) [1,1,0,1,0,0])) (by kernel_rfl) (zr zo (zFJ)) zH (ob:=[]) (by kernel_rfl) (fun X hX=>zg) (zBz) (by kernel_rfl) (by kernel_rfl) hX
def zKl:AC:=(.seq .run (.seq .run (.seq (.seq .run (.block (.unit zxh))) .run)))
theorem zNs (x:zZ w70_c.inp.hs):E w70_v (za Tryz.f117) (zKl) (w70_c.entry x) (zB tb w70_v.fz w70_c [.tmp 2] x)=w70_c.F x:=by kernel_rfl
theorem w70_ok:ShOk Tryz.prog gl 117 w70_c :=
 zC (l:=zGs) (n:=Tryz.f117.ntmps) (code:=za Tryz.f117) (rts:=[.tmp 2]) zo zH (zFJ) Tryz.func117 (by kernel_rfl) (by kernel_rfl) rfl (by kernel_rfl) (ac:=zKl) (ob:=[((zq (za Tryz.f117) [1,1,0,1,0]),zxh)]) (by kernel_rfl) (fun X hX=>(zn (zzJ hX) zg)) (by kernel_rfl) (zNs)
def w71_c:ShC:={ inp:=⟨[.hole,.hole],[],[1,1],[kM,.str]⟩,out:=⟨[.hole],[],[2],[.int .i64]⟩,nres:=1,ms:=[],mu:=[],leak:=false,glob:=false,F:=fun (x:(jS×Str))=>zgB x.1 x.2 }
-- quaereref1.Code
def zHU:List (Nat×Con):=[]
def w71_v:Env:=zy tb gl zHU w71_c Tryz.f118.ntmps
theorem zEc:zA Tryz.prog (cond w71_c.glob gl fun _=>none) zHU:=zi
def w71_u0_h:SS:=⟨[0,1,5],⟨[.hole,.hole,.hole],[],[1,2,2],[kM,.str,.int .i64]⟩⟩
def zpA:Exs:=[((.exit 0),⟨[],⟨[],[],[],[]⟩⟩),(.ret,⟨[4],⟨[.hole],[],[2],[.int .i64]⟩⟩)]
def zAI:AC:=.run
def zvu:Un:=lpU w71_v.fz [6,7,8,9,12,13,14,15,16,17,18,19,4,10,11,5] w71_u0_h zpA (lp zaO zp)
theorem zCH (f:w71_u0_h.X→Option (YT zpA)) (x:w71_u0_h.X):E w71_v (zq (za Tryz.f118) [1,0,1,0,0]) (zAI) (mkS w71_u0_h 8 x) (zx w71_v.fz w71_u0_h zpA f)=zaO f x:=by kernel_rfl
theorem zyP {X:Fx} (hX:VOk Tryz.prog X w71_v):q6 Tryz.prog X w71_v (zq (za Tryz.f118) [1,0,1,0]) zvu :=
 zz (c:=(zq (za Tryz.f118) [1,0,1,0,0])) (by kernel_rfl) (zr zo (zEc)) zH (ob:=[]) (by kernel_rfl) (fun X hX=>zg) (zCH) (by kernel_rfl) (by kernel_rfl) hX
def zKQ:AC:=(.seq .run (.seq (.seq .run (.block (.unit zvu))) .run))
theorem zMY (x:zZ w71_c.inp.hs):E w71_v (za Tryz.f118) (zKQ) (w71_c.entry x) (zB tb w71_v.fz w71_c [.tmp 4] x)=w71_c.F x:=by kernel_rfl
theorem w71_ok:ShOk Tryz.prog gl 118 w71_c :=
 zC (l:=zHU) (n:=Tryz.f118.ntmps) (code:=za Tryz.f118) (rts:=[.tmp 4]) zo zH (zEc) Tryz.func118 (by kernel_rfl) (by kernel_rfl) rfl (by kernel_rfl) (ac:=zKQ) (ob:=[((zq (za Tryz.f118) [1,0,1,0]),zvu)]) (by kernel_rfl) (fun X hX=>(zn (zyP hX) zg)) (by kernel_rfl) (zMY)
def w72_c:ShC:={ inp:=⟨[.hole],[],[1],[kM]⟩,out:=⟨[.hole],[],[2],[.bool]⟩,nres:=1,ms:=[],mu:=[],leak:=false,glob:=false,F:=fun (x:jS)=>zdh x }
-- quaereref1.SignMay
def zHI:List (Nat×Con):=[(117,.gen (zV [w70_c])),(118,.gen (zV [w71_c]))]
def w72_v:Env:=zy tb gl zHI w72_c Tryz.f57.ntmps
theorem zEl:zA Tryz.prog (cond w72_c.glob gl fun _=>none) zHI:=(zb (zd (zc (w70_ok.anyGl rfl) ze)) (zb (zd (zc (w71_ok.anyGl rfl) ze)) zi))
def w72_u0_h:SS:=⟨[0,3],⟨[.hole,.hole],[],[1,2],[kM,.int .i64]⟩⟩
def zoP:Exs:=[((.exit 0),⟨[],⟨[],[],[],[]⟩⟩),(.ret,⟨[2],⟨[.hole],[],[2],[.bool]⟩⟩)]
def zBm:AC:=.run
def zzB:Un:=lpU w72_v.fz [19,20,21,22,25,26,27,28,29,30,31,32,33,34,35,36,37,38,39,40,41,2,23,24,3] w72_u0_h zoP (lp zah zp)
theorem zB7 (f:w72_u0_h.X→Option (YT zoP)) (x:w72_u0_h.X):E w72_v (zq (za Tryz.f57) [1,1,0,1,0,0]) (zBm) (mkS w72_u0_h 8 x) (zx w72_v.fz w72_u0_h zoP f)=zah f x:=by kernel_rfl
theorem zwk {X:Fx} (hX:VOk Tryz.prog X w72_v):q6 Tryz.prog X w72_v (zq (za Tryz.f57) [1,1,0,1,0]) zzB :=
 zz (c:=(zq (za Tryz.f57) [1,1,0,1,0,0])) (by kernel_rfl) (zr zo (zEl)) zH (ob:=[]) (by kernel_rfl) (fun X hX=>zg) (zB7) (by kernel_rfl) (by kernel_rfl) hX
def zLt:AC:=(.seq .run (.seq .run (.seq (.seq .run (.block (.unit zzB))) .run)))
theorem zNf (x:zZ w72_c.inp.hs):E w72_v (za Tryz.f57) (zLt) (w72_c.entry x) (zB tb w72_v.fz w72_c [.tmp 2] x)=w72_c.F x:=by kernel_rfl
theorem w72_ok:ShOk Tryz.prog gl 57 w72_c :=
 zC (l:=zHI) (n:=Tryz.f57.ntmps) (code:=za Tryz.f57) (rts:=[.tmp 2]) zo zH (zEl) Tryz.func57 (by kernel_rfl) (by kernel_rfl) rfl (by kernel_rfl) (ac:=zLt) (ob:=[((zq (za Tryz.f57) [1,1,0,1,0]),zzB)]) (by kernel_rfl) (fun X hX=>(zn (zwk hX) zg)) (by kernel_rfl) (zNf)
def w73_c:ShC:={ inp:=⟨[.hole,.hole,.hole],[],[1,1,1],[kM,kJ,.int .i64]⟩,out:=⟨[.hole],[],[2],[.int .i64]⟩,nres:=1,ms:=[],mu:=[],leak:=false,glob:=false,F:=fun (x:(jS×jI×Int))=>zkR x.1 x.2.1 x.2.2 }
-- quaereref1.End
def zGA:List (Nat×Con):=[]
def w73_v:Env:=zy tb gl zGA w73_c Tryz.f93.ntmps
theorem zEH:zA Tryz.prog (cond w73_c.glob gl fun _=>none) zGA:=zi
def w73_u0_h:SS:=⟨[0,1,7,8],⟨[.hole,.hole,.hole,.hole],[],[1,1,2,2],[kM,kJ,.int .i64,.int .i64]⟩⟩
def zn0:Exs:=[((.exit 0),⟨[8],⟨[.hole],[],[2],[.int .i64]⟩⟩),(.ret,⟨[6],⟨[.hole],[],[2],[.int .i64]⟩⟩)]
def zA6:AC:=.run
def zyr:Un:=lpU w73_v.fz [10,11,12,13,14,15,16,17,18,19,20,21,22,23,24,25,26,27,28,29,30,31,6,32,33,7,34,35,36,37,38,39,40,41,42,43,44,45,46,47,6,48,49,50,51,52,53,54,55,56,57,7,58,59,8] w73_u0_h zn0 (lp zbN zp)
theorem zBn (f:w73_u0_h.X→Option (YT zn0)) (x:w73_u0_h.X):E w73_v (zq (za Tryz.f93) [1,1,0,0,0]) (zA6) (mkS w73_u0_h 8 x) (zx w73_v.fz w73_u0_h zn0 f)=zbN f x:=by kernel_rfl
theorem zuU {X:Fx} (hX:VOk Tryz.prog X w73_v):q6 Tryz.prog X w73_v (zq (za Tryz.f93) [1,1,0,0]) zyr :=
 zz (c:=(zq (za Tryz.f93) [1,1,0,0,0])) (by kernel_rfl) (zr zo (zEH)) zH (ob:=[]) (by kernel_rfl) (fun X hX=>zg) (zBn) (by kernel_rfl) (by kernel_rfl) hX
def zL0:AC:=(.seq .run (.seq .run (.seq (.block (.unit zyr)) .run)))
theorem zNI (x:zZ w73_c.inp.hs):E w73_v (za Tryz.f93) (zL0) (w73_c.entry x) (zB tb w73_v.fz w73_c [.tmp 6] x)=w73_c.F x:=by kernel_rfl
theorem w73_ok:ShOk Tryz.prog gl 93 w73_c :=
 zC (l:=zGA) (n:=Tryz.f93.ntmps) (code:=za Tryz.f93) (rts:=[.tmp 6]) zo zH (zEH) Tryz.func93 (by kernel_rfl) (by kernel_rfl) rfl (by kernel_rfl) (ac:=zL0) (ob:=[((zq (za Tryz.f93) [1,1,0,0]),zyr)]) (by kernel_rfl) (fun X hX=>(zn (zuU hX) zg)) (by kernel_rfl) (zNI)
def w74_c:ShC:={ inp:=⟨[.hole,.hole],[],[1,1],[kM,kJ]⟩,out:=⟨[.hole],[],[2],[.int .i64]⟩,nres:=1,ms:=[],mu:=[],leak:=false,glob:=false,F:=fun (x:(jS×jI))=>zci x.1 x.2 }
-- quaereref1.Terms
def zHa:List (Nat×Con):=[(93,.gen (zV [w73_c]))]
def w74_v:Env:=zy tb gl zHa w74_c Tryz.f120.ntmps
theorem zEB:zA Tryz.prog (cond w74_c.glob gl fun _=>none) zHa:=(zb (zd (zc (w73_ok.anyGl rfl) ze)) zi)
def w74_u0_h:SS:=⟨[0,1,5,6],⟨[.hole,.hole,.hole,.hole],[],[1,1,2,2],[kM,kJ,.int .i64,.int .i64]⟩⟩
def zoQ:Exs:=[((.exit 0),⟨[5],⟨[.hole],[],[2],[.int .i64]⟩⟩),(.ret,⟨[4],⟨[.hole],[],[2],[.int .i64]⟩⟩)]
def zCC:AC:=.run
def zxK:Un:=lpU w74_v.fz [10,11,12,13,14,15,16,17,6,18,19,4,20,21,5] w74_u0_h zoQ (lp zb3 zp)
theorem zDf (f:w74_u0_h.X→Option (YT zoQ)) (x:w74_u0_h.X):E w74_v (zq (za Tryz.f120) [1,1,1,0,0,0]) (zCC) (mkS w74_u0_h 8 x) (zx w74_v.fz w74_u0_h zoQ f)=zb3 f x:=by kernel_rfl
theorem zvz {X:Fx} (hX:VOk Tryz.prog X w74_v):q6 Tryz.prog X w74_v (zq (za Tryz.f120) [1,1,1,0,0]) zxK :=
 zz (c:=(zq (za Tryz.f120) [1,1,1,0,0,0])) (by kernel_rfl) (zr zo (zEB)) zH (ob:=[]) (by kernel_rfl) (fun X hX=>zg) (zDf) (by kernel_rfl) (by kernel_rfl) hX
def zK3:AC:=(.seq .run (.seq .run (.seq .run (.seq (.block (.unit zxK)) .run))))
theorem zOG (x:zZ w74_c.inp.hs):E w74_v (za Tryz.f120) (zK3) (w74_c.entry x) (zB tb w74_v.fz w74_c [.tmp 4] x)=w74_c.F x:=by kernel_rfl
theorem w74_ok:ShOk Tryz.prog gl 120 w74_c :=
 zC (l:=zHa) (n:=Tryz.f120.ntmps) (code:=za Tryz.f120) (rts:=[.tmp 4]) zo zH (zEB) Tryz.func120 (by kernel_rfl) (by kernel_rfl) rfl (by kernel_rfl) (ac:=zK3) (ob:=[((zq (za Tryz.f120) [1,1,1,0,0]),zxK)]) (by kernel_rfl) (fun X hX=>(zn (zvz hX) zg)) (by kernel_rfl) (zOG)
def w75_c:ShC:={ inp:=⟨[.hole,.hole],[],[1,1],[kM,kJ]⟩,out:=⟨[.hole],[],[2],[.bool]⟩,nres:=1,ms:=[],mu:=[],leak:=false,glob:=false,F:=fun (x:(jS×jI))=>zfq x.1 x.2 }
-- quaereref1.IsAtom
def zHm:List (Nat×Con):=[(120,.gen (zV [w74_c]))]
def w75_v:Env:=zy tb gl zHm w75_c Tryz.f173.ntmps
theorem zKU:zA Tryz.prog (cond w75_c.glob gl fun _=>none) zHm:=(zb (zd (zc (w74_ok.anyGl rfl) ze)) zi)
def zKR:AC:=.run
theorem zOi (x:zZ w75_c.inp.hs):E w75_v (za Tryz.f173) (zKR) (w75_c.entry x) (zB tb w75_v.fz w75_c [.tmp 4] x)=w75_c.F x:=by kernel_rfl
theorem w75_ok:ShOk Tryz.prog gl 173 w75_c :=
 zC (l:=zHm) (n:=Tryz.f173.ntmps) (code:=za Tryz.f173) (rts:=[.tmp 4]) zo zH (zKU) Tryz.func173 (by kernel_rfl) (by kernel_rfl) rfl (by kernel_rfl) (ac:=zKR) (ob:=[]) (by kernel_rfl) (fun X hX=>zg) (by kernel_rfl) (zOi)
def w76_c:ShC:={ inp:=⟨[.hole,(.agg [.hole,.hole])],[],[1,1,1],[kM,.bool,kJ]⟩,out:=⟨[.hole],[],[2],[.bool]⟩,nres:=1,ms:=[],mu:=[],leak:=false,glob:=false,F:=fun (x:(jS×Bool×jI))=>zca x.1 x.2.1 x.2.2 }
-- quaereref8.LitMay
def zIs:List (Nat×Con):=[(57,.gen (zV [w72_c])),(173,.gen (zV [w75_c]))]
def w76_v:Env:=zy tb gl zIs w76_c Tryz.f119.ntmps
theorem zJl:zA Tryz.prog (cond w76_c.glob gl fun _=>none) zIs:=(zb (zd (zc (w72_ok.anyGl rfl) ze)) (zb (zd (zc (w75_ok.anyGl rfl) ze)) zi))
def zJ5:AC:=.run
theorem zND (x:zZ w76_c.inp.hs):E w76_v (za Tryz.f119) (zJ5) (w76_c.entry x) (zB tb w76_v.fz w76_c [.tmp 4] x)=w76_c.F x:=by kernel_rfl
theorem w76_ok:ShOk Tryz.prog gl 119 w76_c :=
 zC (l:=zIs) (n:=Tryz.f119.ntmps) (code:=za Tryz.f119) (rts:=[.tmp 4]) zo zH (zJl) Tryz.func119 (by kernel_rfl) (by kernel_rfl) rfl (by kernel_rfl) (ac:=zJ5) (ob:=[]) (by kernel_rfl) (fun X hX=>zg) (by kernel_rfl) (zND)
def w77_c:ShC:={ inp:=⟨[(.agg [.hole,.hole,.hole])],[],[1,1,1],[kL,kK,kL]⟩,out:=⟨[(.view 0)],[.seq false],[0],[kK]⟩,nres:=1,ms:=[],mu:=[],leak:=true,glob:=false,F:=fun (x:(jQ×jR×jQ))=>zeO x.1 x.2.1 x.2.2 }
-- quaereref8.rows
def zHF:List (Nat×Con):=[]
def w77_v:Env:=zy tb gl zHF w77_c Tryz.f121.ntmps
theorem zs0:zA Tryz.prog (cond w77_c.glob gl fun _=>none) zHF:=zi
def w77_u2_h:SS:=⟨[1,3,6],⟨[(.ptr 0 0),(.view 1),.hole],[.cells true [.hole,.hole,.hole],.seq false],[2,1,1,1,0],[.int .i64,kL,kK,kL,kK]⟩⟩
def zpp:Exs:=[((.exit 4),⟨[3],⟨[(.view 0)],[.seq false],[0],[kK]⟩⟩)]
def zCa:AC:=.run
def zxI:Un:=lpU w77_v.fz [38,39,40,41,42,45,46,47,48,49,50,51,52,53,3,43,44,6] w77_u2_h zpp (lp zaY zp)
theorem zDd (f:w77_u2_h.X→Option (YT zpp)) (x:w77_u2_h.X):E w77_v (zq (za Tryz.f121) [1,1,1,1,0,1,0,0]) (zCa) (mkS w77_u2_h 8 x) (zx w77_v.fz w77_u2_h zpp f)=zaY f x:=by kernel_rfl
theorem zyj {X:Fx} (hX:VOk Tryz.prog X w77_v):q6 Tryz.prog X w77_v (zq (za Tryz.f121) [1,1,1,1,0,1,0]) zxI :=
 zz (c:=(zq (za Tryz.f121) [1,1,1,1,0,1,0,0])) (by kernel_rfl) (zr zo (zs0)) zH (ob:=[]) (by kernel_rfl) (fun X hX=>zg) (zDd) (by kernel_rfl) (by kernel_rfl) hX
def w77_u1_h:SS:=⟨[1,3,5],⟨[(.ptr 0 0),(.view 1),.hole],[.cells true [.hole,.hole,.hole],.seq false],[2,1,1,1,0],[.int .i64,kL,kK,kL,kK]⟩⟩
def zoE:Exs:=[((.exit 2),⟨[3],⟨[(.view 0)],[.seq false],[0],[kK]⟩⟩)]
def zCI:AC:=.run
def zyK:Un:=lpU w77_v.fz [23,24,25,26,27,30,31,32,33,34,35,36,37,3,28,29,5] w77_u1_h zoE (lp zaX zp)
theorem zBj (f:w77_u1_h.X→Option (YT zoE)) (x:w77_u1_h.X):E w77_v (zq (za Tryz.f121) [1,1,1,0,1,0,0]) (zCI) (mkS w77_u1_h 8 x) (zx w77_v.fz w77_u1_h zoE f)=zaX f x:=by kernel_rfl
theorem zzv {X:Fx} (hX:VOk Tryz.prog X w77_v):q6 Tryz.prog X w77_v (zq (za Tryz.f121) [1,1,1,0,1,0]) zyK :=
 zz (c:=(zq (za Tryz.f121) [1,1,1,0,1,0,0])) (by kernel_rfl) (zr zo (zs0)) zH (ob:=[]) (by kernel_rfl) (fun X hX=>zg) (zBj) (by kernel_rfl) (by kernel_rfl) hX
def w77_u0_h:SS:=⟨[1,3,4],⟨[(.ptr 0 0),(.view 1),.hole],[.cells true [.hole,.hole,.hole],.seq false],[2,1,1,1,0],[.int .i64,kL,kK,kL,kK]⟩⟩
def zn4:Exs:=[((.exit 0),⟨[3],⟨[(.view 0)],[.seq false],[0],[kK]⟩⟩)]
def zBb:AC:=.run
def zvy:Un:=lpU w77_v.fz [7,8,9,10,11,14,15,16,17,18,19,20,21,22,3,12,13,4] w77_u0_h zn4 (lp zaU zp)
theorem zA4 (f:w77_u0_h.X→Option (YT zn4)) (x:w77_u0_h.X):E w77_v (zq (za Tryz.f121) [1,1,0,1,0,0]) (zBb) (mkS w77_u0_h 8 x) (zx w77_v.fz w77_u0_h zn4 f)=zaU f x:=by kernel_rfl
theorem zu0 {X:Fx} (hX:VOk Tryz.prog X w77_v):q6 Tryz.prog X w77_v (zq (za Tryz.f121) [1,1,0,1,0]) zvy :=
 zz (c:=(zq (za Tryz.f121) [1,1,0,1,0,0])) (by kernel_rfl) (zr zo (zs0)) zH (ob:=[]) (by kernel_rfl) (fun X hX=>zg) (zA4) (by kernel_rfl) (by kernel_rfl) hX
def zJ9:AC:=(.seq .run (.seq .run (.seq (.seq .run (.block (.unit zvy))) (.seq (.seq .run (.block (.unit zyK))) (.seq (.seq .run (.block (.unit zxI))) .run)))))
theorem zM8 (x:zZ w77_c.inp.hs):E w77_v (za Tryz.f121) (zJ9) (w77_c.entry x) (zB tb w77_v.fz w77_c [.tmp 2] x)=w77_c.F x:=by kernel_rfl
theorem w77_ok:ShOk Tryz.prog gl 121 w77_c :=
 zC (l:=zHF) (n:=Tryz.f121.ntmps) (code:=za Tryz.f121) (rts:=[.tmp 2]) zo zH (zs0) Tryz.func121 (by kernel_rfl) (by kernel_rfl) rfl (by kernel_rfl) (ac:=zJ9) (ob:=[((zq (za Tryz.f121) [1,1,0,1,0]),zvy),((zq (za Tryz.f121) [1,1,1,0,1,0]),zyK),((zq (za Tryz.f121) [1,1,1,1,0,1,0]),zxI)]) (by kernel_rfl) (fun X hX=>(zn (zu0 hX) (zn (zzv hX) (zn (zyj hX) zg)))) (by kernel_rfl) (zM8)
def w78_c:ShC:={ inp:=⟨[.hole,(.agg [.hole,.hole,.hole])],[],[1,1,1,1],[kM,kL,kK,kL]⟩,out:=⟨[.hole],[],[2],[.bool]⟩,nres:=1,ms:=[],mu:=[],leak:=false,glob:=false,F:=fun (x:(jS×jQ×jR×jQ))=>zhn x.1 x.2.1 x.2.2.1 x.2.2.2 }
-- quaereref8.May
def zGZ:List (Nat×Con):=[(57,.gen (zV [w72_c])),(119,.gen (zV [w76_c])),(120,.gen (zV [w74_c])),(121,.gen (zV [w77_c]))]
def w78_v:Env:=zy tb gl zGZ w78_c Tryz.f60.ntmps
theorem zp2:zA Tryz.prog (cond w78_c.glob gl fun _=>none) zGZ:=(zb (zd (zc (w72_ok.anyGl rfl) ze)) (zb (zd (zc (w76_ok.anyGl rfl) ze)) (zb (zd (zc (w74_ok.anyGl rfl) ze)) (zb (zd (zc (w77_ok.anyGl rfl) ze)) zi))))
def w78_u3_h:SS:=⟨[9,10,11],⟨[.hole,.hole,.hole],[],[0,2,2],[kK,.int .i64,.int .i64]⟩⟩
def znS:Exs:=[((.exit 6),⟨[10],⟨[.hole],[],[2],[.int .i64]⟩⟩)]
def zDk:AC:=.run
def zAh:Un:=lpU w78_v.fz [91,92,93,94,97,98,99,100,101,102,103,10,95,96,11] w78_u3_h znS (lp zbj zp)
theorem zC2 (f:w78_u3_h.X→Option (YT znS)) (x:w78_u3_h.X):E w78_v (zq (za Tryz.f60) [1,1,1,1,1,1,1,0,1,0,0]) (zDk) (mkS w78_u3_h 8 x) (zx w78_v.fz w78_u3_h znS f)=zbj f x:=by kernel_rfl
theorem zwx {X:Fx} (hX:VOk Tryz.prog X w78_v):q6 Tryz.prog X w78_v (zq (za Tryz.f60) [1,1,1,1,1,1,1,0,1,0]) zAh :=
 zz (c:=(zq (za Tryz.f60) [1,1,1,1,1,1,1,0,1,0,0])) (by kernel_rfl) (zr zo (zp2)) zH (ob:=[]) (by kernel_rfl) (fun X hX=>zg) (zC2) (by kernel_rfl) (by kernel_rfl) hX
def w78_u2_h:SS:=⟨[0,3,7],⟨[.hole,(.ptr 0 0),.hole],[.cells true [.hole,.hole,.hole]],[1,2,1,1,1],[kM,.int .i64,kL,kK,kL]⟩⟩
def znR:Exs:=[((.exit 4),⟨[],⟨[],[],[],[]⟩⟩),(.ret,⟨[4],⟨[.hole],[],[2],[.bool]⟩⟩)]
def zAN:AC:=.run
def zy5:Un:=lpU w78_v.fz [63,64,65,66,67,70,71,72,73,74,75,76,8,77,78,79,80,81,82,83,84,85,86,87,88,4,68,69,7] w78_u2_h znR (lp zbo zp)
theorem zCJ (f:w78_u2_h.X→Option (YT znR)) (x:w78_u2_h.X):E w78_v (zq (za Tryz.f60) [1,1,1,1,0,1,0,0]) (zAN) (mkS w78_u2_h 8 x) (zx w78_v.fz w78_u2_h znR f)=zbo f x:=by kernel_rfl
theorem zyz {X:Fx} (hX:VOk Tryz.prog X w78_v):q6 Tryz.prog X w78_v (zq (za Tryz.f60) [1,1,1,1,0,1,0]) zy5 :=
 zz (c:=(zq (za Tryz.f60) [1,1,1,1,0,1,0,0])) (by kernel_rfl) (zr zo (zp2)) zH (ob:=[]) (by kernel_rfl) (fun X hX=>zg) (zCJ) (by kernel_rfl) (by kernel_rfl) hX
def w78_u1_h:SS:=⟨[0,3,6],⟨[.hole,(.ptr 0 0),.hole],[.cells true [.hole,.hole,.hole]],[1,2,1,1,1],[kM,.int .i64,kL,kK,kL]⟩⟩
def zps:Exs:=[((.exit 2),⟨[],⟨[],[],[],[]⟩⟩),(.ret,⟨[4],⟨[.hole],[],[2],[.bool]⟩⟩)]
def zBW:AC:=.run
def zv7:Un:=lpU w78_v.fz [48,49,50,51,52,55,56,57,58,59,60,61,62,4,53,54,6] w78_u1_h zps (lp zbl zp)
theorem zB2 (f:w78_u1_h.X→Option (YT zps)) (x:w78_u1_h.X):E w78_v (zq (za Tryz.f60) [1,1,1,0,1,0,0]) (zBW) (mkS w78_u1_h 8 x) (zx w78_v.fz w78_u1_h zps f)=zbl f x:=by kernel_rfl
theorem zvT {X:Fx} (hX:VOk Tryz.prog X w78_v):q6 Tryz.prog X w78_v (zq (za Tryz.f60) [1,1,1,0,1,0]) zv7 :=
 zz (c:=(zq (za Tryz.f60) [1,1,1,0,1,0,0])) (by kernel_rfl) (zr zo (zp2)) zH (ob:=[]) (by kernel_rfl) (fun X hX=>zg) (zB2) (by kernel_rfl) (by kernel_rfl) hX
def w78_u0_h:SS:=⟨[0,3,5],⟨[.hole,(.ptr 0 0),.hole],[.cells true [.hole,.hole,.hole]],[1,2,1,1,1],[kM,.int .i64,kL,kK,kL]⟩⟩
def zpm:Exs:=[((.exit 0),⟨[],⟨[],[],[],[]⟩⟩),(.ret,⟨[4],⟨[.hole],[],[2],[.bool]⟩⟩)]
def zCe:AC:=.run
def zxc:Un:=lpU w78_v.fz [33,34,35,36,37,40,41,42,43,44,45,46,47,4,38,39,5] w78_u0_h zpm (lp zbk zp)
theorem zCU (f:w78_u0_h.X→Option (YT zpm)) (x:w78_u0_h.X):E w78_v (zq (za Tryz.f60) [1,1,0,1,0,0]) (zCe) (mkS w78_u0_h 8 x) (zx w78_v.fz w78_u0_h zpm f)=zbk f x:=by kernel_rfl
theorem zwB {X:Fx} (hX:VOk Tryz.prog X w78_v):q6 Tryz.prog X w78_v (zq (za Tryz.f60) [1,1,0,1,0]) zxc :=
 zz (c:=(zq (za Tryz.f60) [1,1,0,1,0,0])) (by kernel_rfl) (zr zo (zp2)) zH (ob:=[]) (by kernel_rfl) (fun X hX=>zg) (zCU) (by kernel_rfl) (by kernel_rfl) hX
def zKk:AC:=(.seq .run (.seq .run (.seq (.seq .run (.block (.unit zxc))) (.seq (.seq .run (.block (.unit zv7))) (.seq (.seq .run (.block (.unit zy5))) (.seq .run (.seq .run (.seq (.seq .run (.block (.unit zAh))) .run))))))))
theorem zNn (x:zZ w78_c.inp.hs):E w78_v (za Tryz.f60) (zKk) (w78_c.entry x) (zB tb w78_v.fz w78_c [.tmp 4] x)=w78_c.F x:=by kernel_rfl
theorem w78_ok:ShOk Tryz.prog gl 60 w78_c :=
 zC (l:=zGZ) (n:=Tryz.f60.ntmps) (code:=za Tryz.f60) (rts:=[.tmp 4]) zo zH (zp2) Tryz.func60 (by kernel_rfl) (by kernel_rfl) rfl (by kernel_rfl) (ac:=zKk) (ob:=[((zq (za Tryz.f60) [1,1,0,1,0]),zxc),((zq (za Tryz.f60) [1,1,1,0,1,0]),zv7),((zq (za Tryz.f60) [1,1,1,1,0,1,0]),zy5),((zq (za Tryz.f60) [1,1,1,1,1,1,1,0,1,0]),zAh)]) (by kernel_rfl) (fun X hX=>(zn (zwB hX) (zn (zvT hX) (zn (zyz hX) (zn (zwx hX) zg))))) (by kernel_rfl) (zNn)
def w79_c:ShC:={ inp:=⟨[(.agg [.hole,.hole,.hole]),.hole],[],[1,1,1,1],[kL,kK,kL,.int .i64]⟩,out:=⟨[.hole],[],[2],[.bool]⟩,nres:=1,ms:=[],mu:=[],leak:=false,glob:=false,F:=fun (x:(jQ×jR×jQ×Int))=>zd1 x.1 x.2.1 x.2.2.1 x.2.2.2 }
-- quaereref13.there
def zHr:List (Nat×Con):=[]
def w79_v:Env:=zy tb gl zHr w79_c Tryz.f71.ntmps
theorem zLY:zA Tryz.prog (cond w79_c.glob gl fun _=>none) zHr:=zi
def zMj:AC:=.run
theorem zOR (x:zZ w79_c.inp.hs):E w79_v (za Tryz.f71) (zMj) (w79_c.entry x) (zB tb w79_v.fz w79_c [.tmp 4] x)=w79_c.F x:=by kernel_rfl
theorem w79_ok:ShOk Tryz.prog gl 71 w79_c :=
 zC (l:=zHr) (n:=Tryz.f71.ntmps) (code:=za Tryz.f71) (rts:=[.tmp 4]) zo zH (zLY) Tryz.func71 (by kernel_rfl) (by kernel_rfl) rfl (by kernel_rfl) (ac:=zMj) (ob:=[]) (by kernel_rfl) (fun X hX=>zg) (by kernel_rfl) (zOR)
def w80_c:ShC:={ inp:=⟨[.hole,.hole],[],[1,1],[kJ,.int .i64]⟩,out:=⟨[.hole],[],[2],[.bool]⟩,nres:=1,ms:=[],mu:=[],leak:=false,glob:=false,F:=fun (x:(jI×Int))=>zo0 x.1 x.2 }
-- quaereref1.In
def zHz:List (Nat×Con):=[]
def w80_v:Env:=zy tb gl zHz w80_c Tryz.f58.ntmps
theorem zE4:zA Tryz.prog (cond w80_c.glob gl fun _=>none) zHz:=zi
def w80_u0_h:SS:=⟨[0,1,5],⟨[.hole,.hole,.hole],[],[1,2,2],[kJ,.int .i64,.int .i64]⟩⟩
def znT:Exs:=[((.exit 0),⟨[],⟨[],[],[],[]⟩⟩),(.ret,⟨[4],⟨[.hole],[],[2],[.bool]⟩⟩)]
def zC4:AC:=.run
def zvE:Un:=lpU w80_v.fz [6,7,8,9,12,13,14,15,16,17,18,4,10,11,5] w80_u0_h znT (lp zb1 zp)
theorem zBP (f:w80_u0_h.X→Option (YT znT)) (x:w80_u0_h.X):E w80_v (zq (za Tryz.f58) [1,0,1,0,0]) (zC4) (mkS w80_u0_h 8 x) (zx w80_v.fz w80_u0_h znT f)=zb1 f x:=by kernel_rfl
theorem zwh {X:Fx} (hX:VOk Tryz.prog X w80_v):q6 Tryz.prog X w80_v (zq (za Tryz.f58) [1,0,1,0]) zvE :=
 zz (c:=(zq (za Tryz.f58) [1,0,1,0,0])) (by kernel_rfl) (zr zo (zE4)) zH (ob:=[]) (by kernel_rfl) (fun X hX=>zg) (zBP) (by kernel_rfl) (by kernel_rfl) hX
def zJg:AC:=(.seq .run (.seq (.seq .run (.block (.unit zvE))) .run))
theorem zNj (x:zZ w80_c.inp.hs):E w80_v (za Tryz.f58) (zJg) (w80_c.entry x) (zB tb w80_v.fz w80_c [.tmp 4] x)=w80_c.F x:=by kernel_rfl
theorem w80_ok:ShOk Tryz.prog gl 58 w80_c :=
 zC (l:=zHz) (n:=Tryz.f58.ntmps) (code:=za Tryz.f58) (rts:=[.tmp 4]) zo zH (zE4) Tryz.func58 (by kernel_rfl) (by kernel_rfl) rfl (by kernel_rfl) (ac:=zJg) (ob:=[((zq (za Tryz.f58) [1,0,1,0]),zvE)]) (by kernel_rfl) (fun X hX=>(zn (zwh hX) zg)) (by kernel_rfl) (zNj)
def w81_c:ShC:={ inp:=⟨[.hole],[],[1],[kJ]⟩,out:=⟨[(.view 0)],[.seq false],[2],[kJ]⟩,nres:=1,ms:=[],mu:=[],leak:=false,glob:=false,F:=fun (x:jI)=>zh3 x }
-- quaereref1.VarsOf
def zFR:List (Nat×Con):=[(58,.gen (zV [w80_c]))]
def w81_v:Env:=zy tb gl zFR w81_c Tryz.f164.ntmps
theorem zEn:zA Tryz.prog (cond w81_c.glob gl fun _=>none) zFR:=(zb (zd (zc (w80_ok.anyGl rfl) ze)) zi)
def w81_u0_h:SS:=⟨[0,3,4],⟨[.hole,(.view 0),.hole],[.seq false],[1,2,2],[kJ,.int .i64,kJ]⟩⟩
def zpx:Exs:=[((.exit 0),⟨[3],⟨[(.view 0)],[.seq false],[2],[kJ]⟩⟩)]
def zDa:AC:=.run
def zxv:Un:=lpU w81_v.fz [5,6,9,10,11,12,13,14,15,3,7,8,4] w81_u0_h zpx (lp zaz zp)
theorem zB1 (f:w81_u0_h.X→Option (YT zpx)) (x:w81_u0_h.X):E w81_v (zq (za Tryz.f164) [1,1,0,1,0,0]) (zDa) (mkS w81_u0_h 8 x) (zx w81_v.fz w81_u0_h zpx f)=zaz f x:=by kernel_rfl
theorem zu1 {X:Fx} (hX:VOk Tryz.prog X w81_v):q6 Tryz.prog X w81_v (zq (za Tryz.f164) [1,1,0,1,0]) zxv :=
 zz (c:=(zq (za Tryz.f164) [1,1,0,1,0,0])) (by kernel_rfl) (zr zo (zEn)) zH (ob:=[]) (by kernel_rfl) (fun X hX=>zg) (zB1) (by kernel_rfl) (by kernel_rfl) hX
def zMh:AC:=(.seq .run (.seq .run (.seq (.seq .run (.block (.unit zxv))) .run)))
theorem zOX (x:zZ w81_c.inp.hs):E w81_v (za Tryz.f164) (zMh) (w81_c.entry x) (zB tb w81_v.fz w81_c [.tmp 2] x)=w81_c.F x:=by kernel_rfl
theorem w81_ok:ShOk Tryz.prog gl 164 w81_c :=
 zC (l:=zFR) (n:=Tryz.f164.ntmps) (code:=za Tryz.f164) (rts:=[.tmp 2]) zo zH (zEn) Tryz.func164 (by kernel_rfl) (by kernel_rfl) rfl (by kernel_rfl) (ac:=zMh) (ob:=[((zq (za Tryz.f164) [1,1,0,1,0]),zxv)]) (by kernel_rfl) (fun X hX=>(zn (zu1 hX) zg)) (by kernel_rfl) (zOX)
def w82_c:ShC:={ inp:=⟨[(.agg [.hole,.hole,.hole])],[],[1,1,1],[kL,kK,kL]⟩,out:=⟨[(.view 0)],[.seq false],[2],[kJ]⟩,nres:=1,ms:=[],mu:=[],leak:=false,glob:=false,F:=fun (x:(jQ×jR×jQ))=>zcO x.1 x.2.1 x.2.2 }
-- quaereref8.VarsOf
def zIN:List (Nat×Con):=[(121,.gen (zV [w77_c])),(164,.gen (zV [w81_c]))]
def w82_v:Env:=zy tb gl zIN w82_c Tryz.f109.ntmps
theorem zEp:zA Tryz.prog (cond w82_c.glob gl fun _=>none) zIN:=(zb (zd (zc (w77_ok.anyGl rfl) ze)) (zb (zd (zc (w81_ok.anyGl rfl) ze)) zi))
def w82_u0_h:SS:=⟨[3,4,5],⟨[(.view 0),.hole,.hole],[.seq false],[0,2,2],[kK,.int .i64,kJ]⟩⟩
def zoT:Exs:=[((.exit 0),⟨[3],⟨[(.view 0)],[.seq false],[2],[kJ]⟩⟩)]
def zCF:AC:=.run
def zAw:Un:=lpU w82_v.fz [8,9,10,11,14,15,16,17,18,19,3,12,13,5] w82_u0_h zoT (lp qT zp)
theorem zCp (f:w82_u0_h.X→Option (YT zoT)) (x:w82_u0_h.X):E w82_v (zq (za Tryz.f109) [1,1,1,0,1,0,0]) (zCF) (mkS w82_u0_h 8 x) (zx w82_v.fz w82_u0_h zoT f)=qT f x:=by kernel_rfl
theorem zwK {X:Fx} (hX:VOk Tryz.prog X w82_v):q6 Tryz.prog X w82_v (zq (za Tryz.f109) [1,1,1,0,1,0]) zAw :=
 zz (c:=(zq (za Tryz.f109) [1,1,1,0,1,0,0])) (by kernel_rfl) (zr zo (zEp)) zH (ob:=[]) (by kernel_rfl) (fun X hX=>zg) (zCp) (by kernel_rfl) (by kernel_rfl) hX
def zKh:AC:=(.seq .run (.seq .run (.seq .run (.seq (.seq .run (.block (.unit zAw))) .run))))
theorem zOz (x:zZ w82_c.inp.hs):E w82_v (za Tryz.f109) (zKh) (w82_c.entry x) (zB tb w82_v.fz w82_c [.tmp 2] x)=w82_c.F x:=by kernel_rfl
theorem w82_ok:ShOk Tryz.prog gl 109 w82_c :=
 zC (l:=zIN) (n:=Tryz.f109.ntmps) (code:=za Tryz.f109) (rts:=[.tmp 2]) zo zH (zEp) Tryz.func109 (by kernel_rfl) (by kernel_rfl) rfl (by kernel_rfl) (ac:=zKh) (ob:=[((zq (za Tryz.f109) [1,1,1,0,1,0]),zAw)]) (by kernel_rfl) (fun X hX=>(zn (zwK hX) zg)) (by kernel_rfl) (zOz)
def w83_c:ShC:={ inp:=⟨[.hole,.hole],[],[1,1],[.sl (.cons kZ kR),.int .i64]⟩,out:=⟨[.hole],[],[2],[.int .i64]⟩,nres:=1,ms:=[],mu:=[],leak:=false,glob:=false,F:=fun (x:((List (Int×jI))×Int))=>zio x.1 x.2 }
-- quaereref1.Of
def zF4:List (Nat×Con):=[]
def w83_v:Env:=zy tb gl zF4 w83_c Tryz.f124.ntmps
theorem zFw:zA Tryz.prog (cond w83_c.glob gl fun _=>none) zF4:=zi
def w83_u0_h:SS:=⟨[0,1,5],⟨[.hole,.hole,.hole],[],[1,2,2],[.sl (.cons kZ kR),.int .i64,.int .i64]⟩⟩
def zoB:Exs:=[((.exit 0),⟨[],⟨[],[],[],[]⟩⟩),(.ret,⟨[4],⟨[.hole],[],[2],[.int .i64]⟩⟩)]
def zBu:AC:=.run
def zvb:Un:=lpU w83_v.fz [6,7,8,9,12,13,14,15,16,17,18,19,4,10,11,5] w83_u0_h zoB (lp zbU zp)
theorem zDL (f:w83_u0_h.X→Option (YT zoB)) (x:w83_u0_h.X):E w83_v (zq (za Tryz.f124) [1,0,1,0,0]) (zBu) (mkS w83_u0_h 8 x) (zx w83_v.fz w83_u0_h zoB f)=zbU f x:=by kernel_rfl
theorem zx7 {X:Fx} (hX:VOk Tryz.prog X w83_v):q6 Tryz.prog X w83_v (zq (za Tryz.f124) [1,0,1,0]) zvb :=
 zz (c:=(zq (za Tryz.f124) [1,0,1,0,0])) (by kernel_rfl) (zr zo (zFw)) zH (ob:=[]) (by kernel_rfl) (fun X hX=>zg) (zDL) (by kernel_rfl) (by kernel_rfl) hX
def zKT:AC:=(.seq .run (.seq (.seq .run (.block (.unit zvb))) .run))
theorem zNC (x:zZ w83_c.inp.hs):E w83_v (za Tryz.f124) (zKT) (w83_c.entry x) (zB tb w83_v.fz w83_c [.tmp 4] x)=w83_c.F x:=by kernel_rfl
theorem w83_ok:ShOk Tryz.prog gl 124 w83_c :=
 zC (l:=zF4) (n:=Tryz.f124.ntmps) (code:=za Tryz.f124) (rts:=[.tmp 4]) zo zH (zFw) Tryz.func124 (by kernel_rfl) (by kernel_rfl) rfl (by kernel_rfl) (ac:=zKT) (ob:=[((zq (za Tryz.f124) [1,0,1,0]),zvb)]) (by kernel_rfl) (fun X hX=>(zn (zx7 hX) zg)) (by kernel_rfl) (zNC)
def w84_c:ShC:={ inp:=⟨[.hole,.hole],[],[1,1],[.sl (.cons kZ kR),kJ]⟩,out:=⟨[(.view 0)],[.seq false],[2],[kJ]⟩,nres:=1,ms:=[],mu:=[],leak:=false,glob:=false,F:=fun (x:((List (Int×jI))×jI))=>zdD x.1 x.2 }
-- quaereref1.Put
def zIe:List (Nat×Con):=[(124,.gen (zV [w83_c]))]
def w84_v:Env:=zy tb gl zIe w84_c Tryz.f94.ntmps
theorem zEA:zA Tryz.prog (cond w84_c.glob gl fun _=>none) zIe:=(zb (zd (zc (w83_ok.anyGl rfl) ze)) zi)
def w84_u0_h:SS:=⟨[0,1,5,6],⟨[.hole,.hole,(.view 0),.hole],[.seq false],[1,1,2,2],[.sl (.cons kZ kR),kJ,.int .i64,kJ]⟩⟩
def zpz:Exs:=[((.exit 0),⟨[5],⟨[(.view 0)],[.seq false],[2],[kJ]⟩⟩)]
def zBF:AC:=.run
def zy9:Un:=lpU w84_v.fz [8,9,10,11,7,14,15,16,17,18,19,20,21,22,23,24,25,7,26,27,28,29,30,31,32,33,34,5,35,36,37,38,39,40,41,5,12,13,6] w84_u0_h zpz (lp zbt zp)
theorem zDG (f:w84_u0_h.X→Option (YT zpz)) (x:w84_u0_h.X):E w84_v (zq (za Tryz.f94) [1,1,0,1,0,0]) (zBF) (mkS w84_u0_h 8 x) (zx w84_v.fz w84_u0_h zpz f)=zbt f x:=by kernel_rfl
theorem zyi {X:Fx} (hX:VOk Tryz.prog X w84_v):q6 Tryz.prog X w84_v (zq (za Tryz.f94) [1,1,0,1,0]) zy9 :=
 zz (c:=(zq (za Tryz.f94) [1,1,0,1,0,0])) (by kernel_rfl) (zr zo (zEA)) zH (ob:=[]) (by kernel_rfl) (fun X hX=>zg) (zDG) (by kernel_rfl) (by kernel_rfl) hX
def zLP:AC:=(.seq .run (.seq .run (.seq (.seq .run (.block (.unit zy9))) .run)))
theorem zOv (x:zZ w84_c.inp.hs):E w84_v (za Tryz.f94) (zLP) (w84_c.entry x) (zB tb w84_v.fz w84_c [.tmp 4] x)=w84_c.F x:=by kernel_rfl
theorem w84_ok:ShOk Tryz.prog gl 94 w84_c :=
 zC (l:=zIe) (n:=Tryz.f94.ntmps) (code:=za Tryz.f94) (rts:=[.tmp 4]) zo zH (zEA) Tryz.func94 (by kernel_rfl) (by kernel_rfl) rfl (by kernel_rfl) (ac:=zLP) (ob:=[((zq (za Tryz.f94) [1,1,0,1,0]),zy9)]) (by kernel_rfl) (fun X hX=>(zn (zyi hX) zg)) (by kernel_rfl) (zOv)
def w85_c:ShC:={ inp:=⟨[.hole,(.agg [.hole,.hole,.hole])],[],[1,1,1,1],[.sl (.cons kZ kR),kL,kK,kL]⟩,out:=⟨[(.agg [.hole,.hole,(.view 0)])],[.seq false],[2,2,2],[kL,kK,kL]⟩,nres:=1,ms:=[],mu:=[],leak:=false,glob:=false,F:=fun (x:((List (Int×jI))×jQ×jR×jQ))=>zcz x.1 x.2.1 x.2.2.1 x.2.2.2 }
-- quaereref8.Copy
def zGQ:List (Nat×Con):=[(94,.gen (zV [w84_c]))]
def w85_v:Env:=zy tb gl zGQ w85_c Tryz.f125.ntmps
theorem ztz:zA Tryz.prog (cond w85_c.glob gl fun _=>none) zGQ:=(zb (zd (zc (w84_ok.anyGl rfl) ze)) zi)
def w85_u2_h:SS:=⟨[0,3,4,5,8],⟨[.hole,(.ptr 0 0),(.ptr 1 0),(.ptr 2 0),.hole],[.cells true [.hole,.hole,.hole],.cells true [.nilv,.nilv,.nilv],.cells false [.hole,.hole,(.view 3)],.seq false],[1,2,1,1,1,2,2,2],[.sl (.cons kZ kR),.int .i64,kL,kK,kL,kL,kK,kL]⟩⟩
def zoL:Exs:=[((.exit 4),⟨[5],⟨[(.ptr 0 0)],[.cells false [.hole,.hole,(.view 1)],.seq false],[2,2,2],[kL,kK,kL]⟩⟩)]
def zDm:AC:=.run
def zxD:Un:=lpU w85_v.fz [55,56,57,58,59,62,63,64,65,66,67,68,69,70,71,72,73,74,75,76,77,78,79,80,81,60,61,8] w85_u2_h zoL (lp zaN zp)
theorem zDU (f:w85_u2_h.X→Option (YT zoL)) (x:w85_u2_h.X):E w85_v (zq (za Tryz.f125) [1,1,1,1,0,1,0,0]) (zDm) (mkS w85_u2_h 8 x) (zx w85_v.fz w85_u2_h zoL f)=zaN f x:=by kernel_rfl
theorem zxu {X:Fx} (hX:VOk Tryz.prog X w85_v):q6 Tryz.prog X w85_v (zq (za Tryz.f125) [1,1,1,1,0,1,0]) zxD :=
 zz (c:=(zq (za Tryz.f125) [1,1,1,1,0,1,0,0])) (by kernel_rfl) (zr zo (ztz)) zH (ob:=[]) (by kernel_rfl) (fun X hX=>zg) (zDU) (by kernel_rfl) (by kernel_rfl) hX
def w85_u1_h:SS:=⟨[0,3,4,5,7],⟨[.hole,(.ptr 0 0),(.ptr 1 0),(.ptr 2 0),.hole],[.cells true [.hole,.hole,.hole],.cells true [.nilv,.nilv,.nilv],.cells false [.hole,(.view 3),.nilv],.seq false],[1,2,1,1,1,2,2],[.sl (.cons kZ kR),.int .i64,kL,kK,kL,kL,kK]⟩⟩
def zn2:Exs:=[((.exit 2),⟨[5],⟨[(.ptr 0 0)],[.cells false [.hole,(.view 1),.nilv],.seq false],[2,2],[kL,kK]⟩⟩)]
def zAX:AC:=.run
def zws:Un:=lpU w85_v.fz [36,37,38,39,40,43,44,45,46,47,48,49,50,51,52,53,54,41,42,7] w85_u1_h zn2 (lp zaT zp)
theorem zCw (f:w85_u1_h.X→Option (YT zn2)) (x:w85_u1_h.X):E w85_v (zq (za Tryz.f125) [1,1,1,0,1,0,0]) (zAX) (mkS w85_u1_h 8 x) (zx w85_v.fz w85_u1_h zn2 f)=zaT f x:=by kernel_rfl
theorem zzM {X:Fx} (hX:VOk Tryz.prog X w85_v):q6 Tryz.prog X w85_v (zq (za Tryz.f125) [1,1,1,0,1,0]) zws :=
 zz (c:=(zq (za Tryz.f125) [1,1,1,0,1,0,0])) (by kernel_rfl) (zr zo (ztz)) zH (ob:=[]) (by kernel_rfl) (fun X hX=>zg) (zCw) (by kernel_rfl) (by kernel_rfl) hX
def w85_u0_h:SS:=⟨[0,3,4,5,6],⟨[.hole,(.ptr 0 0),(.ptr 1 0),(.ptr 2 0),.hole],[.cells true [.hole,.hole,.hole],.cells true [.nilv,.nilv,.nilv],.cells false [(.view 3),.nilv,.nilv],.seq false],[1,2,1,1,1,2],[.sl (.cons kZ kR),.int .i64,kL,kK,kL,kL]⟩⟩
def zoi:Exs:=[((.exit 0),⟨[5],⟨[(.ptr 0 0)],[.cells false [(.view 1),.nilv,.nilv],.seq false],[2],[kL]⟩⟩)]
def zB0:AC:=.run
def zwD:Un:=lpU w85_v.fz [9,10,11,12,13,16,17,18,19,20,21,22,23,24,25,26,27,28,29,30,31,32,33,34,35,14,15,6] w85_u0_h zoi (lp zaP zp)
theorem zBo (f:w85_u0_h.X→Option (YT zoi)) (x:w85_u0_h.X):E w85_v (zq (za Tryz.f125) [1,1,0,1,0,0]) (zB0) (mkS w85_u0_h 8 x) (zx w85_v.fz w85_u0_h zoi f)=zaP f x:=by kernel_rfl
theorem zzW {X:Fx} (hX:VOk Tryz.prog X w85_v):q6 Tryz.prog X w85_v (zq (za Tryz.f125) [1,1,0,1,0]) zwD :=
 zz (c:=(zq (za Tryz.f125) [1,1,0,1,0,0])) (by kernel_rfl) (zr zo (ztz)) zH (ob:=[]) (by kernel_rfl) (fun X hX=>zg) (zBo) (by kernel_rfl) (by kernel_rfl) hX
def zLb:AC:=(.seq .run (.seq .run (.seq (.seq .run (.block (.unit zwD))) (.seq (.seq .run (.block (.unit zws))) (.seq (.seq .run (.block (.unit zxD))) .run)))))
theorem zNB (x:zZ w85_c.inp.hs):E w85_v (za Tryz.f125) (zLb) (w85_c.entry x) (zB tb w85_v.fz w85_c [.cell 4 29] x)=w85_c.F x:=by kernel_rfl
theorem w85_ok:ShOk Tryz.prog gl 125 w85_c :=
 zC (l:=zGQ) (n:=Tryz.f125.ntmps) (code:=za Tryz.f125) (rts:=[.cell 4 29]) zo zH (ztz) Tryz.func125 (by kernel_rfl) (by kernel_rfl) rfl (by kernel_rfl) (ac:=zLb) (ob:=[((zq (za Tryz.f125) [1,1,0,1,0]),zwD),((zq (za Tryz.f125) [1,1,1,0,1,0]),zws),((zq (za Tryz.f125) [1,1,1,1,0,1,0]),zxD)]) (by kernel_rfl) (fun X hX=>(zn (zzW hX) (zn (zzM hX) (zn (zxu hX) zg)))) (by kernel_rfl) (zNB)
def w86_c:ShC:={ inp:=⟨[(.agg [.hole,.hole,.hole]),(.agg [.hole,.hole,.hole])],[],[1,1,1,1,1,1],[kL,kK,kL,kL,kK,kL]⟩,out:=⟨[(.agg [.hole,.hole,(.view 0)]),.hole],[.seq false],[2,2,2,2],[kL,kK,.bool,kL]⟩,nres:=2,ms:=[],mu:=[],leak:=false,glob:=false,F:=fun (x:(jQ×jR×jQ×jQ×jR×jQ))=>zdX x.1 x.2.1 x.2.2.1 x.2.2.2.1 x.2.2.2.2.1 x.2.2.2.2.2 }
-- quaereref13.apart
def zH3:List (Nat×Con):=[(109,.gen (zV [w82_c])),(125,.gen (zV [w85_c]))]
def w86_v:Env:=zy tb gl zH3 w86_c Tryz.f85.ntmps
theorem zD0:zA Tryz.prog (cond w86_c.glob gl fun _=>none) zH3:=(zb (zd (zc (w82_ok.anyGl rfl) ze)) (zb (zd (zc (w85_ok.anyGl rfl) ze)) zi))
def w86_u0_h:SS:=⟨[3,4,7,8,9,10],⟨[(.ptr 0 0),(.ptr 1 0),.hole,(.view 2),.hole,.hole],[.cells true [.hole,.hole,.hole],.cells false [.nilv,.nilv,.nilv],.seq false],[2,2,2,1,1,1,2],[.int .i64,kJ,.int .i64,kL,kK,kL,.sl (.cons kZ kR)]⟩⟩
def znM:Exs:=[((.exit 0),⟨[4,8],⟨[(.ptr 0 0),(.view 1)],[.cells false [.nilv,.nilv,.nilv],.seq false],[2],[.sl (.cons kZ kR)]⟩⟩),(.ret,⟨[4,5],⟨[(.ptr 0 0),.hole],[.cells false [.nilv,.nilv,.nilv]],[2],[.bool]⟩⟩)]
def zDl:AC:=.run
def zwz:Un:=lpU w86_v.fz [25,26,27,28,31,32,33,34,35,36,37,38,5,39,40,41,42,43,44,45,46,47,48,49,50,51,52,53,54,8,29,30,10] w86_u0_h znM (lp yS zp)
theorem zCu (f:w86_u0_h.X→Option (YT znM)) (x:w86_u0_h.X):E w86_v (zq (za Tryz.f85) [1,1,1,1,1,1,0,1,0,0]) (zDl) (mkS w86_u0_h 8 x) (zx w86_v.fz w86_u0_h znM f)=yS f x:=by kernel_rfl
theorem zwn {X:Fx} (hX:VOk Tryz.prog X w86_v):q6 Tryz.prog X w86_v (zq (za Tryz.f85) [1,1,1,1,1,1,0,1,0]) zwz :=
 zz (c:=(zq (za Tryz.f85) [1,1,1,1,1,1,0,1,0,0])) (by kernel_rfl) (zr zo (zD0)) zH (ob:=[]) (by kernel_rfl) (fun X hX=>zg) (zCu) (by kernel_rfl) (by kernel_rfl) hX
def zJw:AC:=(.seq .run (.seq .run (.seq .run (.seq .run (.seq .run (.seq .run (.seq (.seq .run (.block (.unit zwz))) .run)))))))
theorem zNO (x:zZ w86_c.inp.hs):E w86_v (za Tryz.f85) (zJw) (w86_c.entry x) (zB tb w86_v.fz w86_c [.cell 4 29,.tmp 5] x)=w86_c.F x:=by kernel_rfl
theorem w86_ok:ShOk Tryz.prog gl 85 w86_c :=
 zC (l:=zH3) (n:=Tryz.f85.ntmps) (code:=za Tryz.f85) (rts:=[.cell 4 29,.tmp 5]) zo zH (zD0) Tryz.func85 (by kernel_rfl) (by kernel_rfl) rfl (by kernel_rfl) (ac:=zJw) (ob:=[((zq (za Tryz.f85) [1,1,1,1,1,1,0,1,0]),zwz)]) (by kernel_rfl) (fun X hX=>(zn (zwn hX) zg)) (by kernel_rfl) (zNO)
def w87_c:ShC:={ inp:=⟨[.hole,.hole,.hole],[],[1,1,1],[kM,kJ,.int .i64]⟩,out:=⟨[.hole],[],[2],[.int .i64]⟩,nres:=1,ms:=[],mu:=[],leak:=false,glob:=false,F:=fun (x:(jS×jI×Int))=>zfA x.1 x.2.1 x.2.2 }
-- quaereref1.behind
def zHd:List (Nat×Con):=[]
def w87_v:Env:=zy tb gl zHd w87_c Tryz.f155.ntmps
theorem zEi:zA Tryz.prog (cond w87_c.glob gl fun _=>none) zHd:=zi
def w87_u0_h:SS:=⟨[0,1,7,8],⟨[.hole,.hole,.hole,.hole],[],[1,1,2,2],[kM,kJ,.int .i64,.int .i64]⟩⟩
def zpo:Exs:=[((.exit 0),⟨[8],⟨[.hole],[],[2],[.int .i64]⟩⟩)]
def zDp:AC:=.run
def zzK:Un:=lpU w87_v.fz [10,11,12,13,7,14,15,16,17,18,19,20,21,22,23,24,25,26,27,28,7,29,30,8] w87_u0_h zpo (lp zau zp)
theorem zDC (f:w87_u0_h.X→Option (YT zpo)) (x:w87_u0_h.X):E w87_v (zq (za Tryz.f155) [1,1,0,0,0]) (zDp) (mkS w87_u0_h 8 x) (zx w87_v.fz w87_u0_h zpo f)=zau f x:=by kernel_rfl
theorem zzH {X:Fx} (hX:VOk Tryz.prog X w87_v):q6 Tryz.prog X w87_v (zq (za Tryz.f155) [1,1,0,0]) zzK :=
 zz (c:=(zq (za Tryz.f155) [1,1,0,0,0])) (by kernel_rfl) (zr zo (zEi)) zH (ob:=[]) (by kernel_rfl) (fun X hX=>zg) (zDC) (by kernel_rfl) (by kernel_rfl) hX
def zMy:AC:=(.seq .run (.seq .run (.seq (.block (.unit zzK)) .run)))
theorem zOd (x:zZ w87_c.inp.hs):E w87_v (za Tryz.f155) (zMy) (w87_c.entry x) (zB tb w87_v.fz w87_c [.tmp 6] x)=w87_c.F x:=by kernel_rfl
theorem w87_ok:ShOk Tryz.prog gl 155 w87_c :=
 zC (l:=zHd) (n:=Tryz.f155.ntmps) (code:=za Tryz.f155) (rts:=[.tmp 6]) zo zH (zEi) Tryz.func155 (by kernel_rfl) (by kernel_rfl) rfl (by kernel_rfl) (ac:=zMy) (ob:=[((zq (za Tryz.f155) [1,1,0,0]),zzK)]) (by kernel_rfl) (fun X hX=>(zn (zzH hX) zg)) (by kernel_rfl) (zOd)
def w88_c:ShC:={ inp:=⟨[.hole,.hole],[],[1,1],[kM,kJ]⟩,out:=⟨[(.view 0)],[.seq false],[0],[kK]⟩,nres:=1,ms:=[],mu:=[],leak:=true,glob:=false,F:=fun (x:(jS×jI))=>qo x.1 x.2 }
-- quaereref1.Parts
def zHP:List (Nat×Con):=[(155,.gen (zV [w87_c]))]
def w88_v:Env:=zy tb gl zHP w88_c Tryz.f92.ntmps
theorem zEE:zA Tryz.prog (cond w88_c.glob gl fun _=>none) zHP:=(zb (zd (zc (w87_ok.anyGl rfl) ze)) zi)
def w88_u0_h:SS:=⟨[0,1,5,6],⟨[.hole,.hole,(.view 0),.hole],[.seq false],[1,1,2,0],[kM,kJ,.int .i64,kK]⟩⟩
def zoW:Exs:=[((.exit 0),⟨[5],⟨[(.view 0)],[.seq false],[0],[kK]⟩⟩)]
def zCE:AC:=.run
def zwQ:Un:=lpU w88_v.fz [8,9,10,11,12,13,14,15,7,16,17,18,19,20,21,22,5,23,6] w88_u0_h zoW (lp zbT zp)
theorem zCA (f:w88_u0_h.X→Option (YT zoW)) (x:w88_u0_h.X):E w88_v (zq (za Tryz.f92) [1,1,1,0,0,0]) (zCE) (mkS w88_u0_h 8 x) (zx w88_v.fz w88_u0_h zoW f)=zbT f x:=by kernel_rfl
theorem zvc {X:Fx} (hX:VOk Tryz.prog X w88_v):q6 Tryz.prog X w88_v (zq (za Tryz.f92) [1,1,1,0,0]) zwQ :=
 zz (c:=(zq (za Tryz.f92) [1,1,1,0,0,0])) (by kernel_rfl) (zr zo (zEE)) zH (ob:=[]) (by kernel_rfl) (fun X hX=>zg) (zCA) (by kernel_rfl) (by kernel_rfl) hX
def zLy:AC:=(.seq .run (.seq .run (.seq .run (.seq (.block (.unit zwQ)) .run))))
theorem zM6 (x:zZ w88_c.inp.hs):E w88_v (za Tryz.f92) (zLy) (w88_c.entry x) (zB tb w88_v.fz w88_c [.tmp 4] x)=w88_c.F x:=by kernel_rfl
theorem w88_ok:ShOk Tryz.prog gl 92 w88_c :=
 zC (l:=zHP) (n:=Tryz.f92.ntmps) (code:=za Tryz.f92) (rts:=[.tmp 4]) zo zH (zEE) Tryz.func92 (by kernel_rfl) (by kernel_rfl) rfl (by kernel_rfl) (ac:=zLy) (ob:=[((zq (za Tryz.f92) [1,1,1,0,0]),zwQ)]) (by kernel_rfl) (fun X hX=>(zn (zvc hX) zg)) (by kernel_rfl) (zM6)
def w89_c:ShC:={ inp:=⟨[(.ptr 0 0),.hole],[.cells true [.hole]],[1,1],[kJ,.ar kR 48]⟩,out:=⟨[.hole],[],[1],[kJ]⟩,nres:=1,ms:=[],mu:=[],leak:=true,glob:=false,F:=fun (x:(jI×jR))=>zbQ x.1 x.2 }
-- (*quaereref1.store).walk
def zHk:List (Nat×Con):=[]
def w89_v:Env:=zy tb gl zHk w89_c Tryz.f214.ntmps
theorem zD5:zA Tryz.prog (cond w89_c.glob gl fun _=>none) zHk:=zi
def w89_u0_h:SS:=⟨[0,1],⟨[(.ptr 0 0),.hole],[.cells true [.hole]],[1,1],[kJ,.ar kR 48]⟩⟩
def zpl:Exs:=[((.exit 0),⟨[1],⟨[.hole],[],[1],[kJ]⟩⟩)]
def zDV:AC:=.run
def zxq:Un:=lpU w89_v.fz [5,6,7,8,9,10,11,12,13,14,15,16,17,18,19,20,21,22,23,24,25,26,27,28,29,30,31,32,33,34,35,1] w89_u0_h zpl (lp zaj zp)
theorem zAJ (f:w89_u0_h.X→Option (YT zpl)) (x:w89_u0_h.X):E w89_v (zq (za Tryz.f214) [1,0,0,0]) (zDV) (mkS w89_u0_h 8 x) (zx w89_v.fz w89_u0_h zpl f)=zaj f x:=by kernel_rfl
theorem zxg {X:Fx} (hX:VOk Tryz.prog X w89_v):q6 Tryz.prog X w89_v (zq (za Tryz.f214) [1,0,0]) zxq :=
 zz (c:=(zq (za Tryz.f214) [1,0,0,0])) (by kernel_rfl) (zr zo (zD5)) zH (ob:=[]) (by kernel_rfl) (fun X hX=>zg) (zAJ) (by kernel_rfl) (by kernel_rfl) hX
def zKj:AC:=(.seq .run (.seq (.block (.unit zxq)) .run))
theorem zNX (x:zZ w89_c.inp.hs):E w89_v (za Tryz.f214) (zKj) (w89_c.entry x) (zB tb w89_v.fz w89_c [.tmp 4] x)=w89_c.F x:=by kernel_rfl
theorem w89_ok:ShOk Tryz.prog gl 214 w89_c :=
 zC (l:=zHk) (n:=Tryz.f214.ntmps) (code:=za Tryz.f214) (rts:=[.tmp 4]) zo zH (zD5) Tryz.func214 (by kernel_rfl) (by kernel_rfl) rfl (by kernel_rfl) (ac:=zKj) (ob:=[((zq (za Tryz.f214) [1,0,0]),zxq)]) (by kernel_rfl) (fun X hX=>(zn (zxg hX) zg)) (by kernel_rfl) (zNX)
def w90_c:ShC:={ inp:=⟨[.hole,.hole],[],[1,1],[kJ,kJ]⟩,out:=⟨[.hole],[],[2],[.bool]⟩,nres:=1,ms:=[],mu:=[],leak:=false,glob:=false,F:=fun (x:(jI×jI))=>zdQ x.1 x.2 }
-- quaereref1.Same
def zHD:List (Nat×Con):=[]
def w90_v:Env:=zy tb gl zHD w90_c Tryz.f123.ntmps
theorem zEe:zA Tryz.prog (cond w90_c.glob gl fun _=>none) zHD:=zi
def w90_u0_h:SS:=⟨[0,1,5],⟨[.hole,.hole,.hole],[],[1,1,2],[kJ,kJ,.int .i64]⟩⟩
def zov:Exs:=[((.exit 0),⟨[],⟨[],[],[],[]⟩⟩),(.ret,⟨[4],⟨[.hole],[],[2],[.bool]⟩⟩)]
def zC8:AC:=.run
def zzX:Un:=lpU w90_v.fz [11,12,13,14,17,18,19,20,21,22,23,24,25,4,15,16,5] w90_u0_h zov (lp za3 zp)
theorem zAS (f:w90_u0_h.X→Option (YT zov)) (x:w90_u0_h.X):E w90_v (zq (za Tryz.f123) [1,1,0,1,0,0]) (zC8) (mkS w90_u0_h 8 x) (zx w90_v.fz w90_u0_h zov f)=za3 f x:=by kernel_rfl
theorem zw3 {X:Fx} (hX:VOk Tryz.prog X w90_v):q6 Tryz.prog X w90_v (zq (za Tryz.f123) [1,1,0,1,0]) zzX :=
 zz (c:=(zq (za Tryz.f123) [1,1,0,1,0,0])) (by kernel_rfl) (zr zo (zEe)) zH (ob:=[]) (by kernel_rfl) (fun X hX=>zg) (zAS) (by kernel_rfl) (by kernel_rfl) hX
def zLK:AC:=(.seq .run (.seq .run (.seq (.seq .run (.block (.unit zzX))) .run)))
theorem zOK (x:zZ w90_c.inp.hs):E w90_v (za Tryz.f123) (zLK) (w90_c.entry x) (zB tb w90_v.fz w90_c [.tmp 4] x)=w90_c.F x:=by kernel_rfl
theorem w90_ok:ShOk Tryz.prog gl 123 w90_c :=
 zC (l:=zHD) (n:=Tryz.f123.ntmps) (code:=za Tryz.f123) (rts:=[.tmp 4]) zo zH (zEe) Tryz.func123 (by kernel_rfl) (by kernel_rfl) rfl (by kernel_rfl) (ac:=zLK) (ob:=[((zq (za Tryz.f123) [1,1,0,1,0]),zzX)]) (by kernel_rfl) (fun X hX=>(zn (zw3 hX) zg)) (by kernel_rfl) (zOK)
def zjf (k:Nat):ShC:={ inp:=⟨[(.ptr 0 0),.hole,.hole],[.cells true [.hole]],[1,1,1],[.int .i64,kJ,.ar kR 48]⟩,out:=⟨[.hole],[],[2],[.bool]⟩,nres:=1,ms:=[],mu:=[],leak:=false,glob:=false,F:=(yA k) }
def zJz:ShC:={ inp:=⟨[(.ptr 0 0),.hole,.hole],[.cells true [.hole]],[1,1,1],[.int .i64,kJ,.ar kR 48]⟩,out:=⟨[.hole],[],[2],[.bool]⟩,nres:=1,ms:=[],mu:=[],leak:=false,glob:=false,F:=fun (x:(Int×jI×jR))=>zcJ x.1 x.2.1 x.2.2 }
def zoo (k:Nat):Prop:=ShOk Tryz.prog gl 227 (zjf k)
-- (*quaereref1.store).inside
def zIL (k:Nat):List (Nat×Con):=[(227,.gen (zV [zjf k]))]
def zrG (k:Nat):Env:=zy tb gl (zIL k) (zjf (k+1)) Tryz.f227.ntmps
theorem zFL (k:Nat) (h:zoo k):zA Tryz.prog (cond (zjf (k+1)).glob gl fun _=>none) (zIL k):=(zb (zd (zc (h.anyGl rfl) ze)) zi)
def w91_u0_h:SS:=⟨[0,1,2,7],⟨[(.ptr 0 0),.hole,.hole,.hole],[.cells true [.hole]],[2,1,2,1],[.int .i64,kJ,.int .i64,.ar kR 48]⟩⟩
def zot:Exs:=[((.exit 0),⟨[],⟨[],[],[],[]⟩⟩),(.ret,⟨[6],⟨[.hole],[],[2],[.bool]⟩⟩)]
def zBA (k:Nat):AC:=.run
def zvl (k:Nat):Un:=lpU (zrG k).fz [9,10,11,12,15,16,17,18,19,20,21,22,23,24,8,25,26,27,28,29,30,31,32,33,34,35,36,37,38,39,40,41,42,43,44,45,46,47,48,6,13,14,7] w91_u0_h zot (lp (ya (yA k)) zp)
theorem zBf (k:Nat) (f:w91_u0_h.X→Option (YT zot)) (x:w91_u0_h.X):E (zrG k) (zq (za Tryz.f227) [1,0,1,0,0]) (zBA k) (mkS w91_u0_h 8 x) (zx (zrG k).fz w91_u0_h zot f)=(ya (yA k)) f x:=by kernel_rfl
theorem zw7 (k:Nat) (h:zoo k) {X:Fx} (hX:VOk Tryz.prog X (zrG k)):q6 Tryz.prog X (zrG k) (zq (za Tryz.f227) [1,0,1,0]) (zvl k) :=
 zz (c:=(zq (za Tryz.f227) [1,0,1,0,0])) (by kernel_rfl) (zr zo (zFL k h)) zH (ob:=[]) (by kernel_rfl) (fun X hX=>zg) (zBf k) (by kernel_rfl) (by kernel_rfl) hX
def zKm (k:Nat):AC:=(.seq .run (.seq (.seq .run (.block (.unit (zvl k)))) .run))
theorem zOf (k:Nat) (x:zZ (zjf (k+1)).inp.hs):E (zrG k) (za Tryz.f227) (zKm k) ((zjf (k+1)).entry x) (zB tb (zrG k).fz (zjf (k+1)) [.tmp 6] x)=(zjf (k+1)).F x:=by kernel_rfl
theorem zGl (k:Nat) (h:zoo k):ShOk Tryz.prog gl 227 (zjf (k+1)) :=
 zC (l:=zIL k) (n:=Tryz.f227.ntmps) (code:=za Tryz.f227) (rts:=[.tmp 6]) zo zH (zFL k h) Tryz.func227 (by kernel_rfl) (by kernel_rfl) rfl (by kernel_rfl) (ac:=zKm k) (ob:=[((zq (za Tryz.f227) [1,0,1,0]),zvl k)]) (by kernel_rfl) (fun X hX=>(zn (zw7 k h hX) zg)) (by kernel_rfl) (zOf k)
theorem zqB:∀ k,zoo k
 | 0=>zlO (by kernel_rfl) fun _=>rfl
 | k+1=>have h:=zqB k; zGl k h
theorem w91_ok:ShOk Tryz.prog gl 227 zJz:=(zqB zp)
def w92_c:ShC:={ inp:=⟨[(.ptr 0 0),.hole,.hole,.hole],[.cells false [.hole]],[1,1,1,1],[kJ,kJ,.bool,.ar kR 48]⟩,out:=⟨[.hole,(.ptr 0 0)],[.cells false [.hole]],[2,1],[.bool,.ar kR 48]⟩,nres:=1,ms:=[0],mu:=[(0,0)],leak:=true,glob:=false,F:=fun (x:(jI×jI×Bool×jR))=>zO x.1 x.2.1 x.2.2.1 x.2.2.2 }
-- (*quaereref1.store).pair1
def zIj:List (Nat×Con):=[(227,.gen (zV [zJz]))]
def w92_v:Env:=zy tb gl zIj w92_c Tryz.f215.ntmps
theorem zMf:zA Tryz.prog (cond w92_c.glob gl fun _=>none) zIj:=(zb (zd (zc (w91_ok.anyGl rfl) ze)) zi)
def zLV:AC:=.run
theorem zNt (x:zZ w92_c.inp.hs):E w92_v (za Tryz.f215) (zLV) (w92_c.entry x) (zB tb w92_v.fz w92_c [.tmp 8] x)=w92_c.F x:=by kernel_rfl
theorem w92_ok:ShOk Tryz.prog gl 215 w92_c :=
 zC (l:=zIj) (n:=Tryz.f215.ntmps) (code:=za Tryz.f215) (rts:=[.tmp 8]) zo zH (zMf) Tryz.func215 (by kernel_rfl) (by kernel_rfl) rfl (by kernel_rfl) (ac:=zLV) (ob:=[]) (by kernel_rfl) (fun X hX=>zg) (by kernel_rfl) (zNt)
def ziJ (k:Nat):ShC:={ inp:=⟨[(.ptr 0 0),.hole,.hole,.hole],[.cells false [.hole]],[1,1,1,1],[kM,kJ,kJ,.ar kR 48]⟩,out:=⟨[.hole,(.ptr 0 0)],[.cells false [.hole]],[2,0],[.bool,.ar kR 48]⟩,nres:=1,ms:=[0],mu:=[(0,0)],leak:=true,glob:=false,F:=(zS k).1 }
def zNN:ShC:={ inp:=⟨[(.ptr 0 0),.hole,.hole,.hole],[.cells false [.hole]],[1,1,1,1],[kM,kJ,kJ,.ar kR 48]⟩,out:=⟨[.hole,(.ptr 0 0)],[.cells false [.hole]],[2,0],[.bool,.ar kR 48]⟩,nres:=1,ms:=[0],mu:=[(0,0)],leak:=true,glob:=false,F:=fun (x:(jS×jI×jI×jR))=>zjT x.1 x.2.1 x.2.2.1 x.2.2.2 }
def zjv (k:Nat):ShC:={ inp:=⟨[(.ptr 0 0),.hole,.hole,.hole],[.cells false [.hole]],[1,1,1,1],[kM,kK,kK,.ar kR 48]⟩,out:=⟨[.hole,(.ptr 0 0)],[.cells false [.hole]],[2,0],[.bool,.ar kR 48]⟩,nres:=1,ms:=[0],mu:=[(0,0)],leak:=true,glob:=false,F:=(zS k).2 }
def zKa:ShC:={ inp:=⟨[(.ptr 0 0),.hole,.hole,.hole],[.cells false [.hole]],[1,1,1,1],[kM,kK,kK,.ar kR 48]⟩,out:=⟨[.hole,(.ptr 0 0)],[.cells false [.hole]],[2,0],[.bool,.ar kR 48]⟩,nres:=1,ms:=[0],mu:=[(0,0)],leak:=true,glob:=false,F:=fun (x:(jS×jR×jR×jR))=>zdl x.1 x.2.1 x.2.2.1 x.2.2.2 }
def zjW (k:Nat):Prop:=ShOk Tryz.prog gl 187 (ziJ k)∧ShOk Tryz.prog gl 137 (zjv k)
-- (*quaereref1.store).pair
def zIi (k:Nat):List (Nat×Con):=[(92,.gen (zV [w88_c])),(123,.gen (zV [w90_c])),(137,.gen (zV [zjv k])),(214,.gen (zV [w89_c])),(215,.gen (zV [w92_c]))]
def zMC (k:Nat):Env:=zy tb gl (zIi k) (ziJ (k+1)) Tryz.f187.ntmps
theorem zLO (k:Nat) (h:zjW k):zA Tryz.prog (cond (ziJ (k+1)).glob gl fun _=>none) (zIi k):=(zb (zd (zc (w88_ok.anyGl rfl) ze)) (zb (zd (zc (w90_ok.anyGl rfl) ze)) (zb (zd (zc (h.2.anyGl rfl) ze)) (zb (zd (zc (w89_ok.anyGl rfl) ze)) (zb (zd (zc (w92_ok.anyGl rfl) ze)) zi)))))
def zI9 (k:Nat):AC:=.run
theorem zOC (k:Nat) (x:zZ (ziJ (k+1)).inp.hs):E (zMC k) (za Tryz.f187) (zI9 k) ((ziJ (k+1)).entry x) (zB tb (zMC k).fz (ziJ (k+1)) [.tmp 8] x)=(ziJ (k+1)).F x:=by kernel_rfl
theorem zIo (k:Nat) (h:zjW k):ShOk Tryz.prog gl 187 (ziJ (k+1)) :=
 zC (l:=zIi k) (n:=Tryz.f187.ntmps) (code:=za Tryz.f187) (rts:=[.tmp 8]) zo zH (zLO k h) Tryz.func187 (by kernel_rfl) (by kernel_rfl) rfl (by kernel_rfl) (ac:=zI9 k) (ob:=[]) (by kernel_rfl) (fun X hX=>zg) (by kernel_rfl) (zOC k)
-- (*quaereref1.store).all
def zIz (k:Nat):List (Nat×Con):=[(187,.gen (zV [ziJ k]))]
def zsd (k:Nat):Env:=zy tb gl (zIz k) (zjv (k+1)) Tryz.f137.ntmps
theorem zE0 (k:Nat) (h:zjW k):zA Tryz.prog (cond (zjv (k+1)).glob gl fun _=>none) (zIz k):=(zb (zd (zc (h.1.anyGl rfl) ze)) zi)
def w94_u0_h:SS:=⟨[0,1,2,3,9],⟨[(.ptr 0 0),.hole,.hole,.hole,.hole],[.cells false [.hole]],[1,1,1,2,0],[kM,kK,kK,.int .i64,.ar kR 48]⟩⟩
def zop:Exs:=[((.exit 0),⟨[0],⟨[(.ptr 0 0)],[.cells false [.hole]],[0],[.ar kR 48]⟩⟩),(.ret,⟨[0,8],⟨[(.ptr 0 0),.hole],[.cells false [.hole]],[2,0],[.bool,.ar kR 48]⟩⟩)]
def zBt (k:Nat):AC:=.run
def zyO (k:Nat):Un:=lpU (zsd k).fz [10,11,12,13,16,17,18,19,20,21,22,23,24,25,26,27,8,14,15,9] w94_u0_h zop (lp (yg (zS k)) zp)
theorem zDz (k:Nat) (f:w94_u0_h.X→Option (YT zop)) (x:w94_u0_h.X):E (zsd k) (zq (za Tryz.f137) [1,0,1,0,0]) (zBt k) (mkS w94_u0_h 8 x) (zx (zsd k).fz w94_u0_h zop f)=(yg (zS k)) f x:=by kernel_rfl
theorem zxE (k:Nat) (h:zjW k) {X:Fx} (hX:VOk Tryz.prog X (zsd k)):q6 Tryz.prog X (zsd k) (zq (za Tryz.f137) [1,0,1,0]) (zyO k) :=
 zz (c:=(zq (za Tryz.f137) [1,0,1,0,0])) (by kernel_rfl) (zr zo (zE0 k h)) zH (ob:=[]) (by kernel_rfl) (fun X hX=>zg) (zDz k) (by kernel_rfl) (by kernel_rfl) hX
def zJr (k:Nat):AC:=(.seq .run (.seq (.seq .run (.block (.unit (zyO k)))) .run))
theorem zOV (k:Nat) (x:zZ (zjv (k+1)).inp.hs):E (zsd k) (za Tryz.f137) (zJr k) ((zjv (k+1)).entry x) (zB tb (zsd k).fz (zjv (k+1)) [.tmp 8] x)=(zjv (k+1)).F x:=by kernel_rfl
theorem zIk (k:Nat) (h:zjW k):ShOk Tryz.prog gl 137 (zjv (k+1)) :=
 zC (l:=zIz k) (n:=Tryz.f137.ntmps) (code:=za Tryz.f137) (rts:=[.tmp 8]) zo zH (zE0 k h) Tryz.func137 (by kernel_rfl) (by kernel_rfl) rfl (by kernel_rfl) (ac:=zJr k) (ob:=[((zq (za Tryz.f137) [1,0,1,0]),zyO k)]) (by kernel_rfl) (fun X hX=>(zn (zxE k h hX) zg)) (by kernel_rfl) (zOV k)
theorem zls:∀ k,zjW k
 | 0=>⟨(zlO (by kernel_rfl) fun _=>rfl),(zlO (by kernel_rfl) fun _=>rfl)⟩
 | k+1=>have h:=zls k; ⟨zIo k h,zIk k h⟩
theorem zPp:ShOk Tryz.prog gl 187 zNN:=(zls zp).1
theorem w94_ok:ShOk Tryz.prog gl 137 zKa:=(zls zp).2
def zjb (k:Nat):ShC:={ inp:=⟨[(.ptr 0 0),(.view 1),.hole],[.cells true [.hole],.seq false],[1,1,1],[kJ,.ar kR 48,kJ]⟩,out:=⟨[(.view 0)],[.seq false],[0],[kJ]⟩,nres:=1,ms:=[],mu:=[],leak:=true,glob:=false,F:=(yi k) }
def zLH:ShC:={ inp:=⟨[(.ptr 0 0),(.view 1),.hole],[.cells true [.hole],.seq false],[1,1,1],[kJ,.ar kR 48,kJ]⟩,out:=⟨[(.view 0)],[.seq false],[0],[kJ]⟩,nres:=1,ms:=[],mu:=[],leak:=true,glob:=false,F:=fun (x:(jI×jR×jI))=>zb0 x.1 x.2.1 x.2.2 }
def znU (k:Nat):Prop:=ShOk Tryz.prog gl 138 (zjb k)
-- (*quaereref1.store).full
def zHy (k:Nat):List (Nat×Con):=[(138,.gen (zV [zjb k]))]
def zrj (k:Nat):Env:=zy tb gl (zHy k) (zjb (k+1)) Tryz.f138.ntmps
theorem zFe (k:Nat) (h:znU k):zA Tryz.prog (cond (zjb (k+1)).glob gl fun _=>none) (zHy k):=(zb (zd (zc (h.anyGl rfl) ze)) zi)
def w95_u0_h:SS:=⟨[0,1,2,7],⟨[(.ptr 0 0),(.view 1),.hole,.hole],[.cells true [.hole],.seq false],[1,2,1,0],[kJ,.int .i64,.ar kR 48,kJ]⟩⟩
def zoz:Exs:=[((.exit 0),⟨[1],⟨[(.view 0)],[.seq false],[0],[kJ]⟩⟩)]
def zBM (k:Nat):AC:=.run
def zwp (k:Nat):Un:=lpU (zrj k).fz [8,9,10,11,12,13,14,15,16,19,20,21,22,23,24,25,26,27,28,29,30,31,32,33,34,35,36,37,38,39,40,41,42,43,44,45,46,47,48,49,50,1,51,52,53,54,55,56,57,1,17,18,7] w95_u0_h zoz (lp (yb (yi k)) zp)
theorem zBk (k:Nat) (f:w95_u0_h.X→Option (YT zoz)) (x:w95_u0_h.X):E (zrj k) (zq (za Tryz.f138) [1,0,1,0,0]) (zBM k) (mkS w95_u0_h 8 x) (zx (zrj k).fz w95_u0_h zoz f)=(yb (yi k)) f x:=by kernel_rfl
theorem zzQ (k:Nat) (h:znU k) {X:Fx} (hX:VOk Tryz.prog X (zrj k)):q6 Tryz.prog X (zrj k) (zq (za Tryz.f138) [1,0,1,0]) (zwp k) :=
 zz (c:=(zq (za Tryz.f138) [1,0,1,0,0])) (by kernel_rfl) (zr zo (zFe k h)) zH (ob:=[]) (by kernel_rfl) (fun X hX=>zg) (zBk k) (by kernel_rfl) (by kernel_rfl) hX
def zJC (k:Nat):AC:=(.seq .run (.seq (.seq .run (.block (.unit (zwp k)))) .run))
theorem zNl (k:Nat) (x:zZ (zjb (k+1)).inp.hs):E (zrj k) (za Tryz.f138) (zJC k) ((zjb (k+1)).entry x) (zB tb (zrj k).fz (zjb (k+1)) [.tmp 6] x)=(zjb (k+1)).F x:=by kernel_rfl
theorem zIf (k:Nat) (h:znU k):ShOk Tryz.prog gl 138 (zjb (k+1)) :=
 zC (l:=zHy k) (n:=Tryz.f138.ntmps) (code:=za Tryz.f138) (rts:=[.tmp 6]) zo zH (zFe k h) Tryz.func138 (by kernel_rfl) (by kernel_rfl) rfl (by kernel_rfl) (ac:=zJC k) (ob:=[((zq (za Tryz.f138) [1,0,1,0]),zwp k)]) (by kernel_rfl) (fun X hX=>(zn (zzQ k h hX) zg)) (by kernel_rfl) (zNl k)
theorem zp8:∀ k,znU k
 | 0=>zlO (by kernel_rfl) fun _=>rfl
 | k+1=>have h:=zp8 k; zIf k h
theorem w95_ok:ShOk Tryz.prog gl 138 zLH:=(zp8 zp)
def w96_c:ShC:={ inp:=⟨[.hole,.hole,.hole],[],[1,1,1],[kM,kJ,kJ]⟩,out:=⟨[(.view 0),.hole,.hole],[.seq false],[2,2,0],[.bool,.bool,.sl (.cons kZ kR)]⟩,nres:=3,ms:=[],mu:=[],leak:=true,glob:=false,F:=fun (x:(jS×jI×jI))=>zcs x.1 x.2.1 x.2.2 }
-- quaereref1.Together
def zHq:List (Nat×Con):=[(92,.gen (zV [w88_c])),(137,.gen (zV [zKa])),(138,.gen (zV [zLH]))]
def w96_v:Env:=zy tb gl zHq w96_c Tryz.f72.ntmps
theorem zFv:zA Tryz.prog (cond w96_c.glob gl fun _=>none) zHq:=(zb (zd (zc (w88_ok.anyGl rfl) ze)) (zb (zd (zc (w94_ok.anyGl rfl) ze)) (zb (zd (zc (w95_ok.anyGl rfl) ze)) zi)))
def w96_u0_h:SS:=⟨[11,12,13],⟨[(.ptr 0 0),(.view 1),.hole],[.cells true [.hole],.seq false],[2,0,0],[.int .i64,.ar kR 48,.sl (.cons kZ kR)]⟩⟩
def zpc:Exs:=[((.exit 0),⟨[12],⟨[(.view 0)],[.seq false],[0],[.sl (.cons kZ kR)]⟩⟩),(.ret,⟨[6,7,8],⟨[.nilv,.hole,.hole],[],[2,2],[.bool,.bool]⟩⟩)]
def zAY:AC:=.run
def zAn:Un:=lpU w96_v.fz [36,37,40,41,42,43,44,45,46,47,48,49,50,51,52,53,54,55,14,56,57,58,6,7,8,59,60,61,62,63,64,12,38,39,13] w96_u0_h zpc (lp qJ zp)
theorem zBc (f:w96_u0_h.X→Option (YT zpc)) (x:w96_u0_h.X):E w96_v (zq (za Tryz.f72) [1,1,1,1,1,0,1,0,0]) (zAY) (mkS w96_u0_h 8 x) (zx w96_v.fz w96_u0_h zpc f)=qJ f x:=by kernel_rfl
theorem zye {X:Fx} (hX:VOk Tryz.prog X w96_v):q6 Tryz.prog X w96_v (zq (za Tryz.f72) [1,1,1,1,1,0,1,0]) zAn :=
 zz (c:=(zq (za Tryz.f72) [1,1,1,1,1,0,1,0,0])) (by kernel_rfl) (zr zo (zFv)) zH (ob:=[]) (by kernel_rfl) (fun X hX=>zg) (zBc) (by kernel_rfl) (by kernel_rfl) hX
def zK1:AC:=(.seq .run (.seq .run (.seq .run (.seq .run (.seq .run (.seq (.seq .run (.block (.unit zAn))) .run))))))
theorem zOl (x:zZ w96_c.inp.hs):E w96_v (za Tryz.f72) (zK1) (w96_c.entry x) (zB tb w96_v.fz w96_c [.tmp 6,.tmp 7,.tmp 8] x)=w96_c.F x:=by kernel_rfl
theorem w96_ok:ShOk Tryz.prog gl 72 w96_c :=
 zC (l:=zHq) (n:=Tryz.f72.ntmps) (code:=za Tryz.f72) (rts:=[.tmp 6,.tmp 7,.tmp 8]) zo zH (zFv) Tryz.func72 (by kernel_rfl) (by kernel_rfl) rfl (by kernel_rfl) (ac:=zK1) (ob:=[((zq (za Tryz.f72) [1,1,1,1,1,0,1,0]),zAn)]) (by kernel_rfl) (fun X hX=>(zn (zye hX) zg)) (by kernel_rfl) (zOl)
def w97_c:ShC:={ inp:=⟨[.hole,.hole],[],[1,1],[kL,.int .i64]⟩,out:=⟨[(.view 0)],[.seq false],[0],[kL]⟩,nres:=1,ms:=[],mu:=[],leak:=true,glob:=false,F:=fun (x:(jQ×Int))=>zcy x.1 x.2 }
-- quaereref13.without
def zIB:List (Nat×Con):=[]
def w97_v:Env:=zy tb gl zIB w97_c Tryz.f74.ntmps
theorem zLS:zA Tryz.prog (cond w97_c.glob gl fun _=>none) zIB:=zi
def zKZ:AC:=.run
theorem zNM (x:zZ w97_c.inp.hs):E w97_v (za Tryz.f74) (zKZ) (w97_c.entry x) (zB tb w97_v.fz w97_c [.tmp 4] x)=w97_c.F x:=by kernel_rfl
theorem w97_ok:ShOk Tryz.prog gl 74 w97_c :=
 zC (l:=zIB) (n:=Tryz.f74.ntmps) (code:=za Tryz.f74) (rts:=[.tmp 4]) zo zH (zLS) Tryz.func74 (by kernel_rfl) (by kernel_rfl) rfl (by kernel_rfl) (ac:=zKZ) (ob:=[]) (by kernel_rfl) (fun X hX=>zg) (by kernel_rfl) (zNM)
def w98_c:ShC:={ inp:=⟨[.hole,(.agg [.hole,.hole,.hole]),(.agg [.hole,.hole,.hole])],[],[1,1,1,1,1,1,1],[kL,kL,kK,kL,kL,kK,kL]⟩,out:=⟨[(.agg [.hole,(.view 0),(.view 1)])],[.seq false,.seq false],[1,1,1],[kL,kK,kL]⟩,nres:=1,ms:=[],mu:=[],leak:=true,glob:=false,F:=fun (x:(jQ×jQ×jR×jQ×jQ×jR×jQ))=>zj3 x.1 x.2.1 x.2.2.1 x.2.2.2.1 x.2.2.2.2.1 x.2.2.2.2.2.1 x.2.2.2.2.2.2 }
-- quaereref13.both
def zHA:List (Nat×Con):=[]
def w98_v:Env:=zy tb gl zHA w98_c Tryz.f86.ntmps
theorem zKf:zA Tryz.prog (cond w98_c.glob gl fun _=>none) zHA:=zi
def zJA:AC:=.run
theorem zOo (x:zZ w98_c.inp.hs):E w98_v (za Tryz.f86) (zJA) (w98_c.entry x) (zB tb w98_v.fz w98_c [.cell 6 29] x)=w98_c.F x:=by kernel_rfl
theorem w98_ok:ShOk Tryz.prog gl 86 w98_c :=
 zC (l:=zHA) (n:=Tryz.f86.ntmps) (code:=za Tryz.f86) (rts:=[.cell 6 29]) zo zH (zKf) Tryz.func86 (by kernel_rfl) (by kernel_rfl) rfl (by kernel_rfl) (ac:=zJA) (ob:=[]) (by kernel_rfl) (fun X hX=>zg) (by kernel_rfl) (zOo)
def w99_c:ShC:={ inp:=⟨[(.agg [.hole,.hole]),(.agg [.hole,.hole])],[],[1,1,1,1],[.bool,kJ,.bool,kJ]⟩,out:=⟨[.hole],[],[2],[.bool]⟩,nres:=1,ms:=[],mu:=[],leak:=false,glob:=false,F:=fun (x:(Bool×jI×Bool×jI))=>zdg x.1 x.2.1 x.2.2.1 x.2.2.2 }
-- quaereref8.SameLit
def zHM:List (Nat×Con):=[(123,.gen (zV [w90_c]))]
def w99_v:Env:=zy tb gl zHM w99_c Tryz.f174.ntmps
theorem zMk:zA Tryz.prog (cond w99_c.glob gl fun _=>none) zHM:=(zb (zd (zc (w90_ok.anyGl rfl) ze)) zi)
def zJi:AC:=.run
theorem zNL (x:zZ w99_c.inp.hs):E w99_v (za Tryz.f174) (zJi) (w99_c.entry x) (zB tb w99_v.fz w99_c [.tmp 4] x)=w99_c.F x:=by kernel_rfl
theorem w99_ok:ShOk Tryz.prog gl 174 w99_c :=
 zC (l:=zHM) (n:=Tryz.f174.ntmps) (code:=za Tryz.f174) (rts:=[.tmp 4]) zo zH (zMk) Tryz.func174 (by kernel_rfl) (by kernel_rfl) rfl (by kernel_rfl) (ac:=zJi) (ob:=[]) (by kernel_rfl) (fun X hX=>zg) (by kernel_rfl) (zNL)
def w100_c:ShC:={ inp:=⟨[.hole],[],[1],[kL]⟩,out:=⟨[(.view 0)],[.seq false],[0],[kL]⟩,nres:=1,ms:=[],mu:=[],leak:=true,glob:=false,F:=fun (x:jQ)=>zgY x }
-- quaereref8.lits
def zyG:List (Nat×Con):=[(174,.gen (zV [w99_c]))]
def w100_v:Env:=zy tb gl zyG w100_c Tryz.f122.ntmps
theorem zsa:zA Tryz.prog (cond w100_c.glob gl fun _=>none) zyG:=(zb (zd (zc (w99_ok.anyGl rfl) ze)) zi)
def w100_u0_h:SS:=⟨[0,3,4,5,6],⟨[.hole,(.view 0),.hole,.hole,.hole],[.seq false],[1,2,2,2,0],[kL,.int .i64,.bool,.int .i64,kL]⟩⟩
def zmE:Exs:=[((.exit 2),⟨[3,5],⟨[(.view 0),.hole],[.seq false],[2,0],[.bool,kL]⟩⟩)]
def zxP:AC:=.run
def zrn:Un:=lpU w100_v.fz [13,14,15,16,19,20,21,22,23,24,25,26,27,28,29,30,5,17,18,6] w100_u0_h zmE (lp zaw zp)
theorem zy4 (f:w100_u0_h.X→Option (YT zmE)) (x:w100_u0_h.X):E w100_v (zq (za Tryz.f122) [1,1,0,1,0,0,1,0,0,1,0,1,0,0]) (zxP) (mkS w100_u0_h 8 x) (zx w100_v.fz w100_u0_h zmE f)=zaw f x:=by kernel_rfl
theorem ztN {X:Fx} (hX:VOk Tryz.prog X w100_v):q6 Tryz.prog X w100_v (zq (za Tryz.f122) [1,1,0,1,0,0,1,0,0,1,0,1,0]) zrn :=
 zz (c:=(zq (za Tryz.f122) [1,1,0,1,0,0,1,0,0,1,0,1,0,0])) (by kernel_rfl) (zr zo (zsa)) zH (ob:=[]) (by kernel_rfl) (fun X hX=>zg) (zy4) (by kernel_rfl) (by kernel_rfl) hX
def w100_u1_h:SS:=⟨[0,3,4],⟨[.hole,(.view 0),.hole],[.seq false],[1,2,0],[kL,.int .i64,kL]⟩⟩
def zlx:Exs:=[((.exit 0),⟨[3],⟨[(.view 0)],[.seq false],[0],[kL]⟩⟩)]
def zz8:AC:=(.seq .run (.seq (.block (.seq .run (.seq (.seq .run (.block (.unit zrn))) .run))) .run))
def zrv:Un:=lpU w100_v.fz [7,8,9,10,5,6,13,14,15,16,19,20,21,22,23,24,25,26,27,28,29,30,5,17,18,6,31,32,33,34,35,36,37,38,39,3,11,12,4] w100_u1_h zlx (lp za1 zp)
theorem zyC (f:w100_u1_h.X→Option (YT zlx)) (x:w100_u1_h.X):E w100_v (zq (za Tryz.f122) [1,1,0,1,0,0]) (zz8) (mkS w100_u1_h 8 x) (zx w100_v.fz w100_u1_h zlx f)=za1 f x:=by kernel_rfl
theorem ztW {X:Fx} (hX:VOk Tryz.prog X w100_v):q6 Tryz.prog X w100_v (zq (za Tryz.f122) [1,1,0,1,0]) zrv :=
 zz (c:=(zq (za Tryz.f122) [1,1,0,1,0,0])) (by kernel_rfl) (zr zo (zsa)) zH (ob:=[((zq (za Tryz.f122) [1,1,0,1,0,0,1,0,0,1,0,1,0]),zrn)]) (by kernel_rfl) (fun X hX=>(zn (ztN hX) zg)) (zyC) (by kernel_rfl) (by kernel_rfl) hX
def zEg:AC:=(.seq .run (.seq .run (.seq (.seq .run (.block (.unit zrv))) .run)))
theorem zMl (x:zZ w100_c.inp.hs):E w100_v (za Tryz.f122) (zEg) (w100_c.entry x) (zB tb w100_v.fz w100_c [.tmp 2] x)=w100_c.F x:=by kernel_rfl
theorem w100_ok:ShOk Tryz.prog gl 122 w100_c :=
 zC (l:=zyG) (n:=Tryz.f122.ntmps) (code:=za Tryz.f122) (rts:=[.tmp 2]) zo zH (zsa) Tryz.func122 (by kernel_rfl) (by kernel_rfl) rfl (by kernel_rfl) (ac:=zEg) (ob:=[((zq (za Tryz.f122) [1,1,0,1,0]),zrv)]) (by kernel_rfl) (fun X hX=>(zn (ztW hX) zg)) (by kernel_rfl) (zMl)
def w101_c:ShC:={ inp:=⟨[(.agg [.hole,.hole,.hole])],[],[1,1,1],[kL,kK,kL]⟩,out:=⟨[(.agg [.hole,.hole,(.view 0)])],[.seq false],[2,2,2],[kL,kK,kL]⟩,nres:=1,ms:=[],mu:=[],leak:=false,glob:=false,F:=fun (x:(jQ×jR×jQ))=>zjm x.1 x.2.1 x.2.2 }
-- quaereref8.Norm
def zwV:List (Nat×Con):=[(121,.gen (zV [w77_c])),(122,.gen (zV [w100_c])),(123,.gen (zV [w90_c])),(124,.gen (zV [w83_c])),(125,.gen (zV [w85_c]))]
def w101_v:Env:=zy tb gl zwV w101_c Tryz.f61.ntmps
theorem zmD:zA Tryz.prog (cond w101_c.glob gl fun _=>none) zwV:=(zb (zd (zc (w77_ok.anyGl rfl) ze)) (zb (zd (zc (w100_ok.anyGl rfl) ze)) (zb (zd (zc (w90_ok.anyGl rfl) ze)) (zb (zd (zc (w83_ok.anyGl rfl) ze)) (zb (zd (zc (w85_ok.anyGl rfl) ze)) zi)))))
def w101_u2_h:SS:=⟨[2,3,7,8,9,10],⟨[(.ptr 0 0),(.ptr 1 0),(.view 2),.hole,.hole,.hole],[.cells true [.nilv,.nilv,.nilv],.cells true [.hole,.hole,.hole],.seq false],[0,2,2,0,0,0,2],[kK,.int .i64,.int .i64,kL,kK,kL,.sl (.cons kZ kR)]⟩⟩
def zmm:Exs:=[((.exit 6),⟨[7],⟨[(.view 0)],[.seq false],[2],[.sl (.cons kZ kR)]⟩⟩)]
def zxs:AC:=.run
def zsy:Un:=lpU w101_v.fz [67,68,69,70,71,72,73,76,77,78,79,80,81,82,11,83,84,85,86,87,88,89,90,91,92,93,94,95,96,97,98,99,100,101,7,74,75,10] w101_u2_h zmm (lp za2 zp)
theorem zyq (f:w101_u2_h.X→Option (YT zmm)) (x:w101_u2_h.X):E w101_v (zq (za Tryz.f61) [1,1,1,1,1,0,1,0,0,1,0,0,1,0,0]) (zxs) (mkS w101_u2_h 8 x) (zx w101_v.fz w101_u2_h zmm f)=za2 f x:=by kernel_rfl
theorem zuq {X:Fx} (hX:VOk Tryz.prog X w101_v):q6 Tryz.prog X w101_v (zq (za Tryz.f61) [1,1,1,1,1,0,1,0,0,1,0,0,1,0]) zsy :=
 zz (c:=(zq (za Tryz.f61) [1,1,1,1,1,0,1,0,0,1,0,0,1,0,0])) (by kernel_rfl) (zr zo (zmD)) zH (ob:=[]) (by kernel_rfl) (fun X hX=>zg) (zyq) (by kernel_rfl) (by kernel_rfl) hX
def w101_u0_h:SS:=⟨[1,2,3,4,5,6],⟨[(.ptr 0 0),(.ptr 1 0),(.ptr 2 0),.hole,.hole,.hole],[.cells true [.hole,.hole,.hole],.cells true [.nilv,.nilv,.nilv],.cells false [.hole,(.view 3),.hole],.seq false],[2,2,2,1,1,1,0,0,0],[.int .i64,.bool,.int .i64,kL,kK,kL,kL,kL,kK]⟩⟩
def zl4:Exs:=[((.exit 2),⟨[3,5],⟨[(.ptr 0 0),.hole],[.cells false [.hole,(.view 1),.hole],.seq false],[2,0,0,0],[.bool,kL,kL,kK]⟩⟩)]
def zxO:AC:=.run
def zrX:Un:=lpU w101_v.fz [26,27,28,29,30,33,34,35,36,37,38,39,40,41,42,43,44,45,46,5,31,32,6] w101_u0_h zl4 (lp zar zp)
theorem zzm (f:w101_u0_h.X→Option (YT zl4)) (x:w101_u0_h.X):E w101_v (zq (za Tryz.f61) [1,1,0,1,0,0,1,0,0,1,0,1,0,0]) (zxO) (mkS w101_u0_h 8 x) (zx w101_v.fz w101_u0_h zl4 f)=zar f x:=by kernel_rfl
theorem ztS {X:Fx} (hX:VOk Tryz.prog X w101_v):q6 Tryz.prog X w101_v (zq (za Tryz.f61) [1,1,0,1,0,0,1,0,0,1,0,1,0]) zrX :=
 zz (c:=(zq (za Tryz.f61) [1,1,0,1,0,0,1,0,0,1,0,1,0,0])) (by kernel_rfl) (zr zo (zmD)) zH (ob:=[]) (by kernel_rfl) (fun X hX=>zg) (zzm) (by kernel_rfl) (by kernel_rfl) hX
def w101_u3_h:SS:=⟨[2,3,7,8,9],⟨[(.ptr 0 0),(.ptr 1 0),(.view 2),.hole,.hole],[.cells true [.nilv,.nilv,.nilv],.cells true [.hole,.hole,.hole],.seq false],[0,2,0,0,0,2],[kK,.int .i64,kL,kK,kL,.sl (.cons kZ kR)]⟩⟩
def zmA:Exs:=[((.exit 4),⟨[7],⟨[(.view 0)],[.seq false],[2],[.sl (.cons kZ kR)]⟩⟩)]
def zz3:AC:=(.seq .run (.seq (.block (.seq .run (.block (.unit zsy)))) .run))
def zru:Un:=lpU w101_v.fz [61,62,63,64,10,67,68,69,70,71,72,73,76,77,78,79,80,81,82,11,83,84,85,86,87,88,89,90,91,92,93,94,95,96,97,98,99,100,101,7,74,75,10,65,66,9] w101_u3_h zmA (lp zaW zp)
theorem zwj (f:w101_u3_h.X→Option (YT zmA)) (x:w101_u3_h.X):E w101_v (zq (za Tryz.f61) [1,1,1,1,1,0,1,0,0]) (zz3) (mkS w101_u3_h 8 x) (zx w101_v.fz w101_u3_h zmA f)=zaW f x:=by kernel_rfl
theorem zuv {X:Fx} (hX:VOk Tryz.prog X w101_v):q6 Tryz.prog X w101_v (zq (za Tryz.f61) [1,1,1,1,1,0,1,0]) zru :=
 zz (c:=(zq (za Tryz.f61) [1,1,1,1,1,0,1,0,0])) (by kernel_rfl) (zr zo (zmD)) zH (ob:=[((zq (za Tryz.f61) [1,1,1,1,1,0,1,0,0,1,0,0,1,0]),zsy)]) (by kernel_rfl) (fun X hX=>(zn (zuq hX) zg)) (zwj) (by kernel_rfl) (by kernel_rfl) hX
def w101_u1_h:SS:=⟨[1,2,3,4],⟨[(.ptr 0 0),(.ptr 1 0),(.ptr 2 0),.hole],[.cells true [.hole,.hole,.hole],.cells true [.nilv,.nilv,.nilv],.cells false [.hole,(.view 3),.hole],.seq false],[2,1,1,1,0,0,0],[.int .i64,kL,kK,kL,kL,kL,kK]⟩⟩
def zmv:Exs:=[((.exit 0),⟨[3],⟨[(.ptr 0 0)],[.cells false [.hole,(.view 1),.hole],.seq false],[0,0,0],[kL,kL,kK]⟩⟩)]
def zv2:AC:=(.seq .run (.seq (.block (.seq .run (.seq (.seq .run (.block (.unit zrX))) .run))) .run))
def zrr:Un:=lpU w101_v.fz [19,20,21,22,23,5,6,26,27,28,29,30,33,34,35,36,37,38,39,40,41,42,43,44,45,46,5,31,32,6,47,48,49,50,51,52,53,54,55,56,57,58,24,25,4] w101_u1_h zmv (lp zaR zp)
theorem zuT (f:w101_u1_h.X→Option (YT zmv)) (x:w101_u1_h.X):E w101_v (zq (za Tryz.f61) [1,1,0,1,0,0]) (zv2) (mkS w101_u1_h 8 x) (zx w101_v.fz w101_u1_h zmv f)=zaR f x:=by kernel_rfl
theorem ztD {X:Fx} (hX:VOk Tryz.prog X w101_v):q6 Tryz.prog X w101_v (zq (za Tryz.f61) [1,1,0,1,0]) zrr :=
 zz (c:=(zq (za Tryz.f61) [1,1,0,1,0,0])) (by kernel_rfl) (zr zo (zmD)) zH (ob:=[((zq (za Tryz.f61) [1,1,0,1,0,0,1,0,0,1,0,1,0]),zrX)]) (by kernel_rfl) (fun X hX=>(zn (ztS hX) zg)) (zuT) (by kernel_rfl) (by kernel_rfl) hX
def zES:AC:=(.seq .run (.seq .run (.seq (.seq .run (.block (.unit zrr))) (.seq .run (.seq .run (.seq (.seq .run (.block (.unit zru))) .run))))))
theorem zLo (x:zZ w101_c.inp.hs):E w101_v (za Tryz.f61) (zES) (w101_c.entry x) (zB tb w101_v.fz w101_c [.cell 2 29] x)=w101_c.F x:=by kernel_rfl
theorem w101_ok:ShOk Tryz.prog gl 61 w101_c :=
 zC (l:=zwV) (n:=Tryz.f61.ntmps) (code:=za Tryz.f61) (rts:=[.cell 2 29]) zo zH (zmD) Tryz.func61 (by kernel_rfl) (by kernel_rfl) rfl (by kernel_rfl) (ac:=zES) (ob:=[((zq (za Tryz.f61) [1,1,0,1,0]),zrr),((zq (za Tryz.f61) [1,1,1,1,1,0,1,0]),zru)]) (by kernel_rfl) (fun X hX=>(zn (ztD hX) (zn (zuv hX) zg))) (by kernel_rfl) (zLo)
def w102_c:ShC:={ inp:=⟨[.hole,.hole,(.agg [.hole,.hole,.hole])],[],[1,1,1,1,1],[kM,.sl (.cons kZ kR),kL,kK,kL]⟩,out:=⟨[(.agg [.hole,.hole,(.view 0)]),.hole],[.seq false],[2,2,2,2],[kL,kK,.bool,kL]⟩,nres:=2,ms:=[],mu:=[],leak:=false,glob:=false,F:=fun (x:(jS×(List (Int×jI))×jQ×jR×jQ))=>zhp x.1 x.2.1 x.2.2.1 x.2.2.2.1 x.2.2.2.2 }
-- quaereref13.done
def zvX:List (Nat×Con):=[(60,.gen (zV [w78_c])),(61,.gen (zV [w101_c])),(125,.gen (zV [w85_c]))]
def w102_v:Env:=zy tb gl zvX w102_c Tryz.f73.ntmps
theorem zIv:zA Tryz.prog (cond w102_c.glob gl fun _=>none) zvX:=(zb (zd (zc (w78_ok.anyGl rfl) ze)) (zb (zd (zc (w101_ok.anyGl rfl) ze)) (zb (zd (zc (w85_ok.anyGl rfl) ze)) zi)))
def zEm:AC:=.run
theorem zKr (x:zZ w102_c.inp.hs):E w102_v (za Tryz.f73) (zEm) (w102_c.entry x) (zB tb w102_v.fz w102_c [.cell 6 29,.tmp 7] x)=w102_c.F x:=by kernel_rfl
theorem w102_ok:ShOk Tryz.prog gl 73 w102_c :=
 zC (l:=zvX) (n:=Tryz.f73.ntmps) (code:=za Tryz.f73) (rts:=[.cell 6 29,.tmp 7]) zo zH (zIv) Tryz.func73 (by kernel_rfl) (by kernel_rfl) rfl (by kernel_rfl) (ac:=zEm) (ob:=[]) (by kernel_rfl) (fun X hX=>zg) (by kernel_rfl) (zKr)
def w103_c:ShC:={ inp:=⟨[.hole,(.agg [.hole,.hole,.hole]),.hole,(.agg [.hole,.hole,.hole]),.hole],[],[1,1,1,1,1,1,1,1,1],[kM,kL,kK,kL,.int .i64,kL,kK,kL,.int .i64]⟩,out:=⟨[(.agg [.hole,.hole,(.view 0)]),.hole,.hole],[.seq false],[2,2,2,2,2],[kL,kK,.bool,.int .i64,kL]⟩,nres:=3,ms:=[],mu:=[],leak:=false,glob:=false,F:=fun (x:(jS×jQ×jR×jQ×Int×jQ×jR×jQ×Int))=>zdB x.1 x.2.1 x.2.2.1 x.2.2.2.1 x.2.2.2.2.1 x.2.2.2.2.2.1 x.2.2.2.2.2.2.1 x.2.2.2.2.2.2.2.1 x.2.2.2.2.2.2.2.2 }
-- quaereref13.Resolve
def zzn:List (Nat×Con):=[(60,.gen (zV [w78_c])),(71,.gen (zV [w79_c])),(72,.gen (zV [w96_c])),(73,.gen (zV [w102_c])),(74,.gen (zV [w97_c])),(85,.gen (zV [w86_c])),(86,.gen (zV [w98_c]))]
def w103_v:Env:=zy tb gl zzn w103_c Tryz.f34.ntmps
theorem zGS:zA Tryz.prog (cond w103_c.glob gl fun _=>none) zzn:=(zb (zd (zc (w78_ok.anyGl rfl) ze)) (zb (zd (zc (w79_ok.anyGl rfl) ze)) (zb (zd (zc (w96_ok.anyGl rfl) ze)) (zb (zd (zc (w102_ok.anyGl rfl) ze)) (zb (zd (zc (w97_ok.anyGl rfl) ze)) (zb (zd (zc (w86_ok.anyGl rfl) ze)) (zb (zd (zc (w98_ok.anyGl rfl) ze)) zi)))))))
def zE9:AC:=.run
theorem zK5 (x:zZ w103_c.inp.hs):E w103_v (za Tryz.f34) (zE9) (w103_c.entry x) (zB tb w103_v.fz w103_c [.cell 10 29,.tmp 11,.tmp 12] x)=w103_c.F x:=by kernel_rfl
theorem w103_ok:ShOk Tryz.prog gl 34 w103_c :=
 zC (l:=zzn) (n:=Tryz.f34.ntmps) (code:=za Tryz.f34) (rts:=[.cell 10 29,.tmp 11,.tmp 12]) zo zH (zGS) Tryz.func34 (by kernel_rfl) (by kernel_rfl) rfl (by kernel_rfl) (ac:=zE9) (ob:=[]) (by kernel_rfl) (fun X hX=>zg) (by kernel_rfl) (zK5)
def w104_c:ShC:={ inp:=⟨[.hole,.hole],[],[1,1],[kJ,kJ]⟩,out:=⟨[.hole],[],[2],[.bool]⟩,nres:=1,ms:=[],mu:=[],leak:=false,glob:=false,F:=fun (x:(jI×jI))=>zbn x.1 x.2 }
-- quaerelaw0.SameInts
def zv4:List (Nat×Con):=[]
def w104_v:Env:=zy tb gl zv4 w104_c Tryz.f43.ntmps
theorem zw5:zA Tryz.prog (cond w104_c.glob gl fun _=>none) zv4:=zi
def w104_u0_h:SS:=⟨[0,1,5],⟨[.hole,.hole,.hole],[],[1,1,2],[kJ,kJ,.int .i64]⟩⟩
def zla:Exs:=[((.exit 0),⟨[],⟨[],[],[],[]⟩⟩),(.ret,⟨[4],⟨[.hole],[],[2],[.bool]⟩⟩)]
def zvK:AC:=.run
def zsr:Un:=lpU w104_v.fz [11,12,13,14,17,18,19,20,21,22,23,24,25,4,15,16,5] w104_u0_h zla (lp qf zp)
theorem zAA (f:w104_u0_h.X→Option (YT zla)) (x:w104_u0_h.X):E w104_v (zq (za Tryz.f43) [1,1,0,1,0,0]) (zvK) (mkS w104_u0_h 8 x) (zx w104_v.fz w104_u0_h zla f)=qf f x:=by kernel_rfl
theorem zub {X:Fx} (hX:VOk Tryz.prog X w104_v):q6 Tryz.prog X w104_v (zq (za Tryz.f43) [1,1,0,1,0]) zsr :=
 zz (c:=(zq (za Tryz.f43) [1,1,0,1,0,0])) (by kernel_rfl) (zr zo (zw5)) zH (ob:=[]) (by kernel_rfl) (fun X hX=>zg) (zAA) (by kernel_rfl) (by kernel_rfl) hX
def zD1:AC:=(.seq .run (.seq .run (.seq (.seq .run (.block (.unit zsr))) .run)))
theorem zJN (x:zZ w104_c.inp.hs):E w104_v (za Tryz.f43) (zD1) (w104_c.entry x) (zB tb w104_v.fz w104_c [.tmp 4] x)=w104_c.F x:=by kernel_rfl
theorem w104_ok:ShOk Tryz.prog gl 43 w104_c :=
 zC (l:=zv4) (n:=Tryz.f43.ntmps) (code:=za Tryz.f43) (rts:=[.tmp 4]) zo zH (zw5) Tryz.func43 (by kernel_rfl) (by kernel_rfl) rfl (by kernel_rfl) (ac:=zD1) (ob:=[((zq (za Tryz.f43) [1,1,0,1,0]),zsr)]) (by kernel_rfl) (fun X hX=>(zn (zub hX) zg)) (by kernel_rfl) (zJN)
def w105_c:ShC:={ inp:=⟨[.hole,.hole],[],[1,1],[kL,kL]⟩,out:=⟨[.hole],[],[2],[.bool]⟩,nres:=1,ms:=[],mu:=[],leak:=false,glob:=false,F:=fun (x:(jQ×jQ))=>zcm x.1 x.2 }
-- quaerelaw0.SameLits
def zwf:List (Nat×Con):=[(43,.gen (zV [w104_c]))]
def w105_v:Env:=zy tb gl zwf w105_c Tryz.f20.ntmps
theorem zyy:zA Tryz.prog (cond w105_c.glob gl fun _=>none) zwf:=(zb (zd (zc (w104_ok.anyGl rfl) ze)) zi)
def w105_u0_h:SS:=⟨[0,1,5],⟨[.hole,.hole,.hole],[],[1,1,2],[kL,kL,.int .i64]⟩⟩
def zlU:Exs:=[((.exit 0),⟨[],⟨[],[],[],[]⟩⟩),(.ret,⟨[4],⟨[.hole],[],[2],[.bool]⟩⟩)]
def zwA:AC:=.run
def zsb:Un:=lpU w105_v.fz [11,12,13,14,17,18,19,20,21,22,23,24,25,26,27,28,29,30,31,32,33,34,35,36,37,38,39,40,41,4,15,16,5] w105_u0_h zlU (lp yZ zp)
theorem zzq (f:w105_u0_h.X→Option (YT zlU)) (x:w105_u0_h.X):E w105_v (zq (za Tryz.f20) [1,1,0,1,0,0]) (zwA) (mkS w105_u0_h 8 x) (zx w105_v.fz w105_u0_h zlU f)=yZ f x:=by kernel_rfl
theorem zul {X:Fx} (hX:VOk Tryz.prog X w105_v):q6 Tryz.prog X w105_v (zq (za Tryz.f20) [1,1,0,1,0]) zsb :=
 zz (c:=(zq (za Tryz.f20) [1,1,0,1,0,0])) (by kernel_rfl) (zr zo (zyy)) zH (ob:=[]) (by kernel_rfl) (fun X hX=>zg) (zzq) (by kernel_rfl) (by kernel_rfl) hX
def zEJ:AC:=(.seq .run (.seq .run (.seq (.seq .run (.block (.unit zsb))) .run)))
theorem zL7 (x:zZ w105_c.inp.hs):E w105_v (za Tryz.f20) (zEJ) (w105_c.entry x) (zB tb w105_v.fz w105_c [.tmp 4] x)=w105_c.F x:=by kernel_rfl
theorem w105_ok:ShOk Tryz.prog gl 20 w105_c :=
 zC (l:=zwf) (n:=Tryz.f20.ntmps) (code:=za Tryz.f20) (rts:=[.tmp 4]) zo zH (zyy) Tryz.func20 (by kernel_rfl) (by kernel_rfl) rfl (by kernel_rfl) (ac:=zEJ) (ob:=[((zq (za Tryz.f20) [1,1,0,1,0]),zsb)]) (by kernel_rfl) (fun X hX=>(zn (zul hX) zg)) (by kernel_rfl) (zL7)
def w106_c:ShC:={ inp:=⟨[.hole,.hole],[],[1,1],[kK,kK]⟩,out:=⟨[.hole],[],[2],[.bool]⟩,nres:=1,ms:=[],mu:=[],leak:=false,glob:=false,F:=fun (x:(jR×jR))=>zdt x.1 x.2 }
-- quaerelaw0.SameRows
def zvv:List (Nat×Con):=[(43,.gen (zV [w104_c]))]
def w106_v:Env:=zy tb gl zvv w106_c Tryz.f62.ntmps
theorem zzo:zA Tryz.prog (cond w106_c.glob gl fun _=>none) zvv:=(zb (zd (zc (w104_ok.anyGl rfl) ze)) zi)
def w106_u0_h:SS:=⟨[0,1,5],⟨[.hole,.hole,.hole],[],[1,1,2],[kK,kK,.int .i64]⟩⟩
def zlW:Exs:=[((.exit 0),⟨[],⟨[],[],[],[]⟩⟩),(.ret,⟨[4],⟨[.hole],[],[2],[.bool]⟩⟩)]
def zxX:AC:=.run
def zrk:Un:=lpU w106_v.fz [11,12,13,14,17,18,19,20,21,22,23,24,25,26,4,15,16,5] w106_u0_h zlW (lp qd zp)
theorem zzU (f:w106_u0_h.X→Option (YT zlW)) (x:w106_u0_h.X):E w106_v (zq (za Tryz.f62) [1,1,0,1,0,0]) (zxX) (mkS w106_u0_h 8 x) (zx w106_v.fz w106_u0_h zlW f)=qd f x:=by kernel_rfl
theorem zt6 {X:Fx} (hX:VOk Tryz.prog X w106_v):q6 Tryz.prog X w106_v (zq (za Tryz.f62) [1,1,0,1,0]) zrk :=
 zz (c:=(zq (za Tryz.f62) [1,1,0,1,0,0])) (by kernel_rfl) (zr zo (zzo)) zH (ob:=[]) (by kernel_rfl) (fun X hX=>zg) (zzU) (by kernel_rfl) (by kernel_rfl) hX
def zEU:AC:=(.seq .run (.seq .run (.seq (.seq .run (.block (.unit zrk))) .run)))
theorem zMa (x:zZ w106_c.inp.hs):E w106_v (za Tryz.f62) (zEU) (w106_c.entry x) (zB tb w106_v.fz w106_c [.tmp 4] x)=w106_c.F x:=by kernel_rfl
theorem w106_ok:ShOk Tryz.prog gl 62 w106_c :=
 zC (l:=zvv) (n:=Tryz.f62.ntmps) (code:=za Tryz.f62) (rts:=[.tmp 4]) zo zH (zzo) Tryz.func62 (by kernel_rfl) (by kernel_rfl) rfl (by kernel_rfl) (ac:=zEU) (ob:=[((zq (za Tryz.f62) [1,1,0,1,0]),zrk)]) (by kernel_rfl) (fun X hX=>(zn (zt6 hX) zg)) (by kernel_rfl) (zMa)
def w107_c:ShC:={ inp:=⟨[(.agg [.hole,.hole,.hole]),(.agg [.hole,.hole,.hole])],[],[1,1,1,1,1,1],[kL,kK,kL,kL,kK,kL]⟩,out:=⟨[.hole],[],[2],[.bool]⟩,nres:=1,ms:=[],mu:=[],leak:=false,glob:=false,F:=fun (x:(jQ×jR×jQ×jQ×jR×jQ))=>yU x.1 x.2.1 x.2.2.1 x.2.2.2.1 x.2.2.2.2.1 x.2.2.2.2.2 }
-- quaerelaw0.SameClause
def zwL:List (Nat×Con):=[(20,.gen (zV [w105_c])),(62,.gen (zV [w106_c]))]
def w107_v:Env:=zy tb gl zwL w107_c Tryz.f17.ntmps
theorem zIM:zA Tryz.prog (cond w107_c.glob gl fun _=>none) zwL:=(zb (zd (zc (w105_ok.anyGl rfl) ze)) (zb (zd (zc (w106_ok.anyGl rfl) ze)) zi))
def zE3:AC:=.run
theorem zLa (x:zZ w107_c.inp.hs):E w107_v (za Tryz.f17) (zE3) (w107_c.entry x) (zB tb w107_v.fz w107_c [.tmp 4] x)=w107_c.F x:=by kernel_rfl
theorem w107_ok:ShOk Tryz.prog gl 17 w107_c :=
 zC (l:=zwL) (n:=Tryz.f17.ntmps) (code:=za Tryz.f17) (rts:=[.tmp 4]) zo zH (zIM) Tryz.func17 (by kernel_rfl) (by kernel_rfl) rfl (by kernel_rfl) (ac:=zE3) (ob:=[]) (by kernel_rfl) (fun X hX=>zg) (by kernel_rfl) (zLa)
def w108_c:ShC:={ inp:=⟨[.hole],[],[1],[.int .i64]⟩,out:=⟨[.hole],[],[2],[.int .i64]⟩,nres:=1,ms:=[],mu:=[],leak:=false,glob:=false,F:=fun (x:Int)=>zfD x }
-- quaerelaw0.Num
def zz0:List (Nat×Con):=[]
def w108_v:Env:=zy tb gl zz0 w108_c Tryz.f18.ntmps
theorem zGu:zA Tryz.prog (cond w108_c.glob gl fun _=>none) zz0:=zi
def zEX:AC:=.run
theorem zLu (x:zZ w108_c.inp.hs):E w108_v (za Tryz.f18) (zEX) (w108_c.entry x) (zB tb w108_v.fz w108_c [.tmp 2] x)=w108_c.F x:=by kernel_rfl
theorem w108_ok:ShOk Tryz.prog gl 18 w108_c :=
 zC (l:=zz0) (n:=Tryz.f18.ntmps) (code:=za Tryz.f18) (rts:=[.tmp 2]) zo zH (zGu) Tryz.func18 (by kernel_rfl) (by kernel_rfl) rfl (by kernel_rfl) (ac:=zEX) (ob:=[]) (by kernel_rfl) (fun X hX=>zg) (by kernel_rfl) (zLu)
def w109_c:ShC:={ inp:=⟨[],[],[],[]⟩,out:=⟨[(.view 0)],[.seq false],[2],[kM]⟩,nres:=1,ms:=[],mu:=[],leak:=false,glob:=false,F:=fun (x:Unit)=>zd4 }
-- quaerelaw13.words
def zxF:List (Nat×Con):=[]
def w109_v:Env:=zy tb gl zxF w109_c Tryz.f87.ntmps
theorem zIG:zA Tryz.prog (cond w109_c.glob gl fun _=>none) zxF:=zi
def zEr:AC:=.run
theorem zLc (x:zZ w109_c.inp.hs):E w109_v (za Tryz.f87) (zEr) (w109_c.entry x) (zB tb w109_v.fz w109_c [.tmp 0] x)=w109_c.F x:=by kernel_rfl
theorem w109_ok:ShOk Tryz.prog gl 87 w109_c :=
 zC (l:=zxF) (n:=Tryz.f87.ntmps) (code:=za Tryz.f87) (rts:=[.tmp 0]) zo zH (zIG) Tryz.func87 (by kernel_rfl) (by kernel_rfl) rfl (by kernel_rfl) (ac:=zEr) (ob:=[]) (by kernel_rfl) (fun X hX=>zg) (by kernel_rfl) (zLc)
def w110_c:ShC:={ inp:=⟨[(.agg [.hole,.hole]),(.ptr 0 0)],[.cells true [.hole]],[1,1,1],[.bool,kJ,kM]⟩,out:=⟨[.hole],[],[2],[.bool]⟩,nres:=1,ms:=[],mu:=[],leak:=false,glob:=true,F:=fun (x:(Bool×jI×jS))=>zlc x.1 x.2.1 x.2.2 }
-- lit.Tops$1
def zvx:List (Nat×Con):=[(142,.gen (zV [w14_c]))]
def w110_v:Env:=zy tb gl zvx w110_c Tryz.f141.ntmps
theorem zIH:zA Tryz.prog (cond w110_c.glob gl fun _=>none) zvx:=(zb (zd (zc zAc ze)) zi)
def zD7:AC:=.run
theorem zLZ (x:zZ w110_c.inp.hs):E w110_v (za Tryz.f141) (zD7) (w110_c.entry x) (zB tb w110_v.fz w110_c [.tmp 3] x)=w110_c.F x:=by kernel_rfl
theorem zGH:ShOk Tryz.prog gl 141 w110_c :=
 zC (l:=zvx) (n:=Tryz.f141.ntmps) (code:=za Tryz.f141) (rts:=[.tmp 3]) zo zH (zIH) Tryz.func141 (by kernel_rfl) (by kernel_rfl) rfl (by kernel_rfl) (ac:=zD7) (ob:=[]) (by kernel_rfl) (fun X hX=>zg) (by kernel_rfl) (zLZ)
def w111_c:ShC:={ inp:=⟨[.hole,(.clo 141 [(.ptr 0 0)])],[.cells true [.hole]],[1,1],[kL,kM]⟩,out:=⟨[.hole],[],[2],[.int .i64]⟩,nres:=1,ms:=[],mu:=[],leak:=false,glob:=true,F:=fun (x:(jQ×jS))=>zej x.1 x.2 }
-- slices.IndexFunc[[]api.Lit,api.Lit]
def zuX:List (Nat×Con):=[(141,.gen (zV [w110_c]))]
def w111_v:Env:=zy tb gl zuX w111_c Tryz.f183.ntmps
theorem zvs:zA Tryz.prog (cond w111_c.glob gl fun _=>none) zuX:=(zb (zd (zc zGH ze)) zi)
def w111_u0_h:SS:=⟨[0,1,7,8],⟨[.hole,(.clo 141 [(.ptr 0 0)]),.hole,.hole],[.cells true [.hole]],[1,2,2,1],[kL,.int .i64,.int .i64,kM]⟩⟩
def zlF:Exs:=[((.exit 0),⟨[],⟨[],[],[],[]⟩⟩),(.ret,⟨[4],⟨[.hole],[],[2],[.int .i64]⟩⟩)]
def zvr:AC:=.run
def zrC:Un:=lpU w111_v.fz [9,10,5,11,12,13,14,15,16,17,4,18,8] w111_u0_h zlF (lp zbL zp)
theorem zu5 (f:w111_u0_h.X→Option (YT zlF)) (x:w111_u0_h.X):E w111_v (zq (za Tryz.f183) [1,0,1,0,0]) (zvr) (mkS w111_u0_h 8 x) (zx w111_v.fz w111_u0_h zlF f)=zbL f x:=by kernel_rfl
theorem ztL {X:Fx} (hX:VOk Tryz.prog X w111_v):q6 Tryz.prog X w111_v (zq (za Tryz.f183) [1,0,1,0]) zrC :=
 zz (c:=(zq (za Tryz.f183) [1,0,1,0,0])) (by kernel_rfl) (zr zo (zvs)) zH (ob:=[]) (by kernel_rfl) (fun X hX=>zg) (zu5) (by kernel_rfl) (by kernel_rfl) hX
def zEq:AC:=(.seq .run (.seq (.seq .run (.block (.unit zrC))) .run))
theorem zLx (x:zZ w111_c.inp.hs):E w111_v (za Tryz.f183) (zEq) (w111_c.entry x) (zB tb w111_v.fz w111_c [.tmp 4] x)=w111_c.F x:=by kernel_rfl
theorem zG8:ShOk Tryz.prog gl 183 w111_c :=
 zC (l:=zuX) (n:=Tryz.f183.ntmps) (code:=za Tryz.f183) (rts:=[.tmp 4]) zo zH (zvs) Tryz.func183 (by kernel_rfl) (by kernel_rfl) rfl (by kernel_rfl) (ac:=zEq) (ob:=[((zq (za Tryz.f183) [1,0,1,0]),zrC)]) (by kernel_rfl) (fun X hX=>(zn (ztL hX) zg)) (by kernel_rfl) (zLx)
def w112_c:ShC:={ inp:=⟨[.hole,(.clo 141 [(.ptr 0 0)])],[.cells true [.hole]],[1,1],[kL,kM]⟩,out:=⟨[.hole],[],[2],[.bool]⟩,nres:=1,ms:=[],mu:=[],leak:=false,glob:=true,F:=fun (x:(jQ×jS))=>zdc x.1 x.2 }
-- slices.ContainsFunc[[]api.Lit,api.Lit]
def zwP:List (Nat×Con):=[(183,.gen (zV [w111_c]))]
def w112_v:Env:=zy tb gl zwP w112_c Tryz.f133.ntmps
theorem zGt:zA Tryz.prog (cond w112_c.glob gl fun _=>none) zwP:=(zb (zd (zc zG8 ze)) zi)
def zEh:AC:=.run
theorem zKv (x:zZ w112_c.inp.hs):E w112_v (za Tryz.f133) (zEh) (w112_c.entry x) (zB tb w112_v.fz w112_c [.tmp 4] x)=w112_c.F x:=by kernel_rfl
theorem zGk:ShOk Tryz.prog gl 133 w112_c :=
 zC (l:=zwP) (n:=Tryz.f133.ntmps) (code:=za Tryz.f133) (rts:=[.tmp 4]) zo zH (zGt) Tryz.func133 (by kernel_rfl) (by kernel_rfl) rfl (by kernel_rfl) (ac:=zEh) (ob:=[]) (by kernel_rfl) (fun X hX=>zg) (by kernel_rfl) (zKv)
def w113_c:ShC:={ inp:=⟨[.hole,.hole],[],[1,1],[kM,kJ]⟩,out:=⟨[.hole],[],[2],[.bool]⟩,nres:=1,ms:=[],mu:=[],leak:=false,glob:=true,F:=fun (x:(jS×jI))=>zii x.1 x.2 }
-- term.IsTerm
def zzh:List (Nat×Con):=[(158,.gen (zV [w12_c]))]
def w113_v:Env:=zy tb gl zzh w113_c Tryz.f100.ntmps
theorem zHl:zA Tryz.prog (cond w113_c.glob gl fun _=>none) zzh:=(zb (zd (zc zz5 ze)) zi)
def zEV:AC:=.run
theorem zLf (x:zZ w113_c.inp.hs):E w113_v (za Tryz.f100) (zEV) (w113_c.entry x) (zB tb w113_v.fz w113_c [.tmp 4] x)=w113_c.F x:=by kernel_rfl
theorem zFW:ShOk Tryz.prog gl 100 w113_c :=
 zC (l:=zzh) (n:=Tryz.f100.ntmps) (code:=za Tryz.f100) (rts:=[.tmp 4]) zo zH (zHl) Tryz.func100 (by kernel_rfl) (by kernel_rfl) rfl (by kernel_rfl) (ac:=zEV) (ob:=[]) (by kernel_rfl) (fun X hX=>zg) (by kernel_rfl) (zLf)
def w114_c:ShC:={ inp:=⟨[.hole],[],[1],[kJ]⟩,out:=⟨[.hole],[],[2],[.ar kI 24]⟩,nres:=1,ms:=[],mu:=[],leak:=false,glob:=false,F:=fun (x:jI)=>ziw x }
-- order.often
def zx5:List (Nat×Con):=[(55,.gen (zV [w9_c]))]
def w114_v:Env:=zy tb gl zx5 w114_c Tryz.f198.ntmps
theorem zu2:zA Tryz.prog (cond w114_c.glob gl fun _=>none) zx5:=(zb (zd (zc (w9_ok.anyGl rfl) ze)) zi)
def w114_u0_h:SS:=⟨[2,5,6,7],⟨[(.aptr 0),.hole,.hole,.hole],[.seq false],[1,2,2,2],[kJ,.int .i64,.int .i64,kJ]⟩⟩
def zmp:Exs:=[((.exit 0),⟨[2],⟨[(.aptr 0)],[.seq false],[2],[kJ]⟩⟩)]
def zww:AC:=.run
def zsk:Un:=lpU w114_v.fz [8,9,10,4,11,12,13,14,15,16,17,18,19,7] w114_u0_h zmp (lp zeG zp)
theorem zvQ (f:w114_u0_h.X→Option (YT zmp)) (x:w114_u0_h.X):E w114_v (zq (za Tryz.f198) [1,0,1,0,0]) (zww) (mkS w114_u0_h 8 x) (zx w114_v.fz w114_u0_h zmp f)=zeG f x:=by kernel_rfl
theorem zuj {X:Fx} (hX:VOk Tryz.prog X w114_v):q6 Tryz.prog X w114_v (zq (za Tryz.f198) [1,0,1,0]) zsk :=
 zz (c:=(zq (za Tryz.f198) [1,0,1,0,0])) (by kernel_rfl) (zr zo (zu2)) zH (ob:=[]) (by kernel_rfl) (fun X hX=>zg) (zvQ) (by kernel_rfl) (by kernel_rfl) hX
def zFI:AC:=(.seq .run (.seq (.seq .run (.block (.unit zsk))) .run))
theorem zMq (x:zZ w114_c.inp.hs):E w114_v (za Tryz.f198) (zFI) (w114_c.entry x) (zB tb w114_v.fz w114_c [.cell 2 178] x)=w114_c.F x:=by kernel_rfl
theorem w114_ok:ShOk Tryz.prog gl 198 w114_c :=
 zC (l:=zx5) (n:=Tryz.f198.ntmps) (code:=za Tryz.f198) (rts:=[.cell 2 178]) zo zH (zu2) Tryz.func198 (by kernel_rfl) (by kernel_rfl) rfl (by kernel_rfl) (ac:=zFI) (ob:=[((zq (za Tryz.f198) [1,0,1,0]),zsk)]) (by kernel_rfl) (fun X hX=>(zn (zuj hX) zg)) (by kernel_rfl) (zMq)
def w115_c:ShC:={ inp:=⟨[.hole,.hole],[],[1,1],[kJ,kJ]⟩,out:=⟨[.hole],[],[2],[.bool]⟩,nres:=1,ms:=[],mu:=[],leak:=false,glob:=false,F:=fun (x:(jI×jI))=>zkn x.1 x.2 }
-- order.covers
def zwR:List (Nat×Con):=[(198,.gen (zV [w114_c]))]
def w115_v:Env:=zy tb gl zwR w115_c Tryz.f159.ntmps
theorem zyu:zA Tryz.prog (cond w115_c.glob gl fun _=>none) zwR:=(zb (zd (zc (w114_ok.anyGl rfl) ze)) zi)
def w115_u0_h:SS:=⟨[5,6,12],⟨[(.aptr 0),(.aptr 1),.hole],[.seq false,.seq false],[2,2,2],[.int .i64,kJ,kJ]⟩⟩
def zmk:Exs:=[((.exit 0),⟨[],⟨[],[],[],[]⟩⟩),(.ret,⟨[4],⟨[.hole],[],[2],[.bool]⟩⟩)]
def zzd:AC:=.run
def zr3:Un:=lpU w115_v.fz [13,14,7,15,16,17,18,19,20,21,4,22,12] w115_u0_h zmk (lp zdJ zp)
theorem zyp (f:w115_u0_h.X→Option (YT zmk)) (x:w115_u0_h.X):E w115_v (zq (za Tryz.f159) [1,1,0,1,0,0]) (zzd) (mkS w115_u0_h 8 x) (zx w115_v.fz w115_u0_h zmk f)=zdJ f x:=by kernel_rfl
theorem ztX {X:Fx} (hX:VOk Tryz.prog X w115_v):q6 Tryz.prog X w115_v (zq (za Tryz.f159) [1,1,0,1,0]) zr3 :=
 zz (c:=(zq (za Tryz.f159) [1,1,0,1,0,0])) (by kernel_rfl) (zr zo (zyu)) zH (ob:=[]) (by kernel_rfl) (fun X hX=>zg) (zyp) (by kernel_rfl) (by kernel_rfl) hX
def zEI:AC:=(.seq .run (.seq .run (.seq (.seq .run (.block (.unit zr3))) .run)))
theorem zKc (x:zZ w115_c.inp.hs):E w115_v (za Tryz.f159) (zEI) (w115_c.entry x) (zB tb w115_v.fz w115_c [.tmp 4] x)=w115_c.F x:=by kernel_rfl
theorem w115_ok:ShOk Tryz.prog gl 159 w115_c :=
 zC (l:=zwR) (n:=Tryz.f159.ntmps) (code:=za Tryz.f159) (rts:=[.tmp 4]) zo zH (zyu) Tryz.func159 (by kernel_rfl) (by kernel_rfl) rfl (by kernel_rfl) (ac:=zEI) (ob:=[((zq (za Tryz.f159) [1,1,0,1,0]),zr3)]) (by kernel_rfl) (fun X hX=>(zn (ztX hX) zg)) (by kernel_rfl) (zKc)
def w116_c:ShC:={ inp:=⟨[.hole,.hole],[],[1,1],[kM,kJ]⟩,out:=⟨[.hole],[],[2],[.int .i64]⟩,nres:=1,ms:=[],mu:=[],leak:=false,glob:=false,F:=fun (x:(jS×jI))=>zoZ x.1 x.2 }
-- term.Sum
def zwl:List (Nat×Con):=[]
def w116_v:Env:=zy tb gl zwl w116_c Tryz.f160.ntmps
theorem zxC:zA Tryz.prog (cond w116_c.glob gl fun _=>none) zwl:=zi
def w116_u0_h:SS:=⟨[0,5,8,9,10],⟨[.hole,.hole,.hole,.hole,.hole],[],[1,2,1,2,2],[kM,.int .i64,kJ,.int .i64,.int .i64]⟩⟩
def zlT:Exs:=[((.exit 0),⟨[5],⟨[.hole],[],[2],[.int .i64]⟩⟩)]
def zvH:AC:=.run
def zrR:Un:=lpU w116_v.fz [11,12,13,7,14,15,16,17,5,18,19,20,21,22,23,24,5,25,10] w116_u0_h zlT (lp zhU zp)
theorem zyX (f:w116_u0_h.X→Option (YT zlT)) (x:w116_u0_h.X):E w116_v (zq (za Tryz.f160) [1,1,0,1,0,0]) (zvH) (mkS w116_u0_h 8 x) (zx w116_v.fz w116_u0_h zlT f)=zhU f x:=by kernel_rfl
theorem zuK {X:Fx} (hX:VOk Tryz.prog X w116_v):q6 Tryz.prog X w116_v (zq (za Tryz.f160) [1,1,0,1,0]) zrR :=
 zz (c:=(zq (za Tryz.f160) [1,1,0,1,0,0])) (by kernel_rfl) (zr zo (zxC)) zH (ob:=[]) (by kernel_rfl) (fun X hX=>zg) (zyX) (by kernel_rfl) (by kernel_rfl) hX
def zFx:AC:=(.seq .run (.seq .run (.seq (.seq .run (.block (.unit zrR))) .run)))
theorem zJq (x:zZ w116_c.inp.hs):E w116_v (za Tryz.f160) (zFx) (w116_c.entry x) (zB tb w116_v.fz w116_c [.tmp 4] x)=w116_c.F x:=by kernel_rfl
theorem w116_ok:ShOk Tryz.prog gl 160 w116_c :=
 zC (l:=zwl) (n:=Tryz.f160.ntmps) (code:=za Tryz.f160) (rts:=[.tmp 4]) zo zH (zxC) Tryz.func160 (by kernel_rfl) (by kernel_rfl) rfl (by kernel_rfl) (ac:=zFx) (ob:=[((zq (za Tryz.f160) [1,1,0,1,0]),zrR)]) (by kernel_rfl) (fun X hX=>(zn (zuK hX) zg)) (by kernel_rfl) (zJq)
def w117_c:ShC:={ inp:=⟨[.hole,.hole,.hole],[],[1,1,1],[kM,kJ,kJ]⟩,out:=⟨[.hole,.hole],[],[0,0],[kJ,kJ]⟩,nres:=2,ms:=[],mu:=[],leak:=true,glob:=false,F:=fun (x:(jS×jI×jI))=>zkC x.1 x.2.1 x.2.2 }
-- order.unlike
def zvd:List (Nat×Con):=[(102,.gen (zV [w54_c])),(175,.gen (zV [w36_c]))]
def w117_v:Env:=zy tb gl zvd w117_c Tryz.f161.ntmps
theorem zzF:zA Tryz.prog (cond w117_c.glob gl fun _=>none) zvd:=(zb (zd (zc (w54_ok.anyGl rfl) ze)) (zb (zd (zc (w36_ok.anyGl rfl) ze)) zi))
def w117_u0_h:SS:=⟨[8,16,17,18],⟨[.hole,.hole,.hole,.hole],[],[0,0,2,2],[kK,kK,.int .i64,.int .i64]⟩⟩
def zma:Exs:=[((.exit 0),⟨[],⟨[],[],[],[]⟩⟩),(.ret,⟨[6,7],⟨[.hole,.hole],[],[0,0],[kJ,kJ]⟩⟩)]
def zAC:AC:=.run
def zrm:Un:=lpU w117_v.fz [19,20,21,22,9,10,23,24,25,26,27,28,29,30,31,32,33,34,35,36,37,38,39,40,6,7,41,18] w117_u0_h zma (lp zdY zp)
theorem zyJ (f:w117_u0_h.X→Option (YT zma)) (x:w117_u0_h.X):E w117_v (zq (za Tryz.f161) [1,1,0,1,0,0]) (zAC) (mkS w117_u0_h 8 x) (zx w117_v.fz w117_u0_h zma f)=zdY f x:=by kernel_rfl
theorem ztH {X:Fx} (hX:VOk Tryz.prog X w117_v):q6 Tryz.prog X w117_v (zq (za Tryz.f161) [1,1,0,1,0]) zrm :=
 zz (c:=(zq (za Tryz.f161) [1,1,0,1,0,0])) (by kernel_rfl) (zr zo (zzF)) zH (ob:=[]) (by kernel_rfl) (fun X hX=>zg) (zyJ) (by kernel_rfl) (by kernel_rfl) hX
def zEG:AC:=(.seq .run (.seq .run (.seq (.seq .run (.block (.unit zrm))) .run)))
theorem zK6 (x:zZ w117_c.inp.hs):E w117_v (za Tryz.f161) (zEG) (w117_c.entry x) (zB tb w117_v.fz w117_c [.tmp 6,.tmp 7] x)=w117_c.F x:=by kernel_rfl
theorem w117_ok:ShOk Tryz.prog gl 161 w117_c :=
 zC (l:=zvd) (n:=Tryz.f161.ntmps) (code:=za Tryz.f161) (rts:=[.tmp 6,.tmp 7]) zo zH (zzF) Tryz.func161 (by kernel_rfl) (by kernel_rfl) rfl (by kernel_rfl) (ac:=zEG) (ob:=[((zq (za Tryz.f161) [1,1,0,1,0]),zrm)]) (by kernel_rfl) (fun X hX=>(zn (ztH hX) zg)) (by kernel_rfl) (zK6)
def w118_c:ShC:={ inp:=⟨[.hole,.hole,.hole],[],[1,1,1],[kM,kJ,kJ]⟩,out:=⟨[.hole],[],[2],[.bool]⟩,nres:=1,ms:=[],mu:=[],leak:=false,glob:=false,F:=fun (x:(jS×jI×jI))=>zbW x.1 x.2.1 x.2.2 }
-- order.more
def zva:List (Nat×Con):=[(159,.gen (zV [w115_c])),(160,.gen (zV [w116_c])),(161,.gen (zV [w117_c]))]
def w118_v:Env:=zy tb gl zva w118_c Tryz.f103.ntmps
theorem zwC:zA Tryz.prog (cond w118_c.glob gl fun _=>none) zva:=(zb (zd (zc (w115_ok.anyGl rfl) ze)) (zb (zd (zc (w116_ok.anyGl rfl) ze)) (zb (zd (zc (w117_ok.anyGl rfl) ze)) zi)))
def w118_u0_h:SS:=⟨[0,1,2],⟨[.hole,.hole,.hole],[],[1,0,0],[kM,kJ,kJ]⟩⟩
def zlf:Exs:=[((.exit 0),⟨[],⟨[],[],[],[]⟩⟩),(.ret,⟨[6],⟨[.hole],[],[2],[.bool]⟩⟩)]
def zxn:AC:=.run
def zsc:Un:=lpU w118_v.fz [9,10,11,12,13,14,15,16,17,18,19,20,21,7,8,22,23,24,25,26,27,6,28,29,30,31,32,33,34,35,36,37,38,39,40,41,6,43,44,45,46,47,48,42,49,50,1,2] w118_u0_h zlf (lp zfJ zp)
theorem zAe (f:w118_u0_h.X→Option (YT zlf)) (x:w118_u0_h.X):E w118_v (zq (za Tryz.f103) [1,0,0,0]) (zxn) (mkS w118_u0_h 8 x) (zx w118_v.fz w118_u0_h zlf f)=zfJ f x:=by kernel_rfl
theorem ztI {X:Fx} (hX:VOk Tryz.prog X w118_v):q6 Tryz.prog X w118_v (zq (za Tryz.f103) [1,0,0]) zsc :=
 zz (c:=(zq (za Tryz.f103) [1,0,0,0])) (by kernel_rfl) (zr zo (zwC)) zH (ob:=[]) (by kernel_rfl) (fun X hX=>zg) (zAe) (by kernel_rfl) (by kernel_rfl) hX
def zFn:AC:=(.seq .run (.seq (.block (.unit zsc)) .run))
theorem zLg (x:zZ w118_c.inp.hs):E w118_v (za Tryz.f103) (zFn) (w118_c.entry x) (zB tb w118_v.fz w118_c [.tmp 6] x)=w118_c.F x:=by kernel_rfl
theorem w118_ok:ShOk Tryz.prog gl 103 w118_c :=
 zC (l:=zva) (n:=Tryz.f103.ntmps) (code:=za Tryz.f103) (rts:=[.tmp 6]) zo zH (zwC) Tryz.func103 (by kernel_rfl) (by kernel_rfl) rfl (by kernel_rfl) (ac:=zFn) (ob:=[((zq (za Tryz.f103) [1,0,0]),zsc)]) (by kernel_rfl) (fun X hX=>(zn (ztI hX) zg)) (by kernel_rfl) (zLg)
def w119_c:ShC:={ inp:=⟨[.hole,.hole,.hole],[],[1,1,1],[kM,kJ,kJ]⟩,out:=⟨[.hole,.hole],[],[2,2],[.int .i64,.int .i64]⟩,nres:=2,ms:=[],mu:=[],leak:=false,glob:=true,F:=fun (x:(jS×jI×jI))=>zjx x.1 x.2.1 x.2.2 }
-- order.Compare
def zuZ:List (Nat×Con):=[(100,.gen (zV [w113_c])),(101,.gen (zV [w13_c])),(102,.gen (zV [w54_c])),(103,.gen (zV [w118_c]))]
def w119_v:Env:=zy tb gl zuZ w119_c Tryz.f41.ntmps
theorem zG3:zA Tryz.prog (cond w119_c.glob gl fun _=>none) zuZ:=(zb (zd (zc zFW ze)) (zb (zd (zc zD4 ze)) (zb (zd (zc (w54_ok.anyGl rfl) ze)) (zb (zd (zc (w118_ok.anyGl rfl) ze)) zi))))
def zEx:AC:=.run
theorem zMw (x:zZ w119_c.inp.hs):E w119_v (za Tryz.f41) (zEx) (w119_c.entry x) (zB tb w119_v.fz w119_c [.tmp 6,.tmp 7] x)=w119_c.F x:=by kernel_rfl
theorem zGT:ShOk Tryz.prog gl 41 w119_c :=
 zC (l:=zuZ) (n:=Tryz.f41.ntmps) (code:=za Tryz.f41) (rts:=[.tmp 6,.tmp 7]) zo zH (zG3) Tryz.func41 (by kernel_rfl) (by kernel_rfl) rfl (by kernel_rfl) (ac:=zEx) (ob:=[]) (by kernel_rfl) (fun X hX=>zg) (by kernel_rfl) (zMw)
def w120_c:ShC:={ inp:=⟨[.hole,(.agg [.hole,.hole]),(.agg [.hole,.hole])],[],[1,1,1,1,1],[kM,.bool,kJ,.bool,kJ]⟩,out:=⟨[.hole,.hole],[],[2,2],[.int .i64,.int .i64]⟩,nres:=2,ms:=[],mu:=[],leak:=false,glob:=true,F:=fun (x:(jS×Bool×jI×Bool×jI))=>zld x.1 x.2.1 x.2.2.1 x.2.2.2.1 x.2.2.2.2 }
-- lit.Compare
def zvo:List (Nat×Con):=[(41,.gen (zV [w119_c])),(142,.gen (zV [w14_c]))]
def w120_v:Env:=zy tb gl zvo w120_c Tryz.f144.ntmps
theorem zFT:zA Tryz.prog (cond w120_c.glob gl fun _=>none) zvo:=(zb (zd (zc zGT ze)) (zb (zd (zc zAc ze)) zi))
def zEf:AC:=.run
theorem zJt (x:zZ w120_c.inp.hs):E w120_v (za Tryz.f144) (zEf) (w120_c.entry x) (zB tb w120_v.fz w120_c [.tmp 6,.tmp 7] x)=w120_c.F x:=by kernel_rfl
theorem zIq:ShOk Tryz.prog gl 144 w120_c :=
 zC (l:=zvo) (n:=Tryz.f144.ntmps) (code:=za Tryz.f144) (rts:=[.tmp 6,.tmp 7]) zo zH (zFT) Tryz.func144 (by kernel_rfl) (by kernel_rfl) rfl (by kernel_rfl) (ac:=zEf) (ob:=[]) (by kernel_rfl) (fun X hX=>zg) (by kernel_rfl) (zJt)
def w121_c:ShC:={ inp:=⟨[(.agg [.hole,.hole]),(.ptr 0 0),(.ptr 1 0)],[.cells true [.hole],.cells true [.hole,.hole]],[1,1,1,1,1],[.bool,kJ,kM,.bool,kJ]⟩,out:=⟨[.hole],[],[2],[.bool]⟩,nres:=1,ms:=[],mu:=[],leak:=false,glob:=true,F:=fun (x:(Bool×jI×jS×Bool×jI))=>zlP x.1 x.2.1 x.2.2.1 x.2.2.2.1 x.2.2.2.2 }
-- lit.Tops$2
def zxz:List (Nat×Con):=[(144,.gen (zV [w120_c]))]
def w121_v:Env:=zy tb gl zxz w121_c Tryz.f143.ntmps
theorem zIx:zA Tryz.prog (cond w121_c.glob gl fun _=>none) zxz:=(zb (zd (zc zIq ze)) zi)
def zD8:AC:=.run
theorem zKd (x:zZ w121_c.inp.hs):E w121_v (za Tryz.f143) (zD8) (w121_c.entry x) (zB tb w121_v.fz w121_c [.tmp 4] x)=w121_c.F x:=by kernel_rfl
theorem zG9:ShOk Tryz.prog gl 143 w121_c :=
 zC (l:=zxz) (n:=Tryz.f143.ntmps) (code:=za Tryz.f143) (rts:=[.tmp 4]) zo zH (zIx) Tryz.func143 (by kernel_rfl) (by kernel_rfl) rfl (by kernel_rfl) (ac:=zD8) (ob:=[]) (by kernel_rfl) (fun X hX=>zg) (by kernel_rfl) (zKd)
def w122_c:ShC:={ inp:=⟨[.hole,(.clo 143 [(.ptr 0 0),(.ptr 1 0)])],[.cells true [.hole],.cells true [.hole,.hole]],[1,1,1,1],[kL,kM,.bool,kJ]⟩,out:=⟨[.hole],[],[2],[.int .i64]⟩,nres:=1,ms:=[],mu:=[],leak:=false,glob:=true,F:=fun (x:(jQ×jS×Bool×jI))=>zeh x.1 x.2.1 x.2.2.1 x.2.2.2 }
-- slices.IndexFunc[[]api.Lit,api.Lit]
def zyw:List (Nat×Con):=[(143,.gen (zV [w121_c]))]
def w122_v:Env:=zy tb gl zyw w122_c Tryz.f183.ntmps
theorem zuV:zA Tryz.prog (cond w122_c.glob gl fun _=>none) zyw:=(zb (zd (zc zG9 ze)) zi)
def w122_u0_h:SS:=⟨[0,1,7,8],⟨[.hole,(.clo 143 [(.ptr 0 0),(.ptr 1 0)]),.hole,.hole],[.cells true [.hole],.cells true [.hole,.hole]],[1,2,2,1,2,1],[kL,.int .i64,.int .i64,kM,.bool,kJ]⟩⟩
def zlj:Exs:=[((.exit 0),⟨[],⟨[],[],[],[]⟩⟩),(.ret,⟨[4],⟨[.hole],[],[2],[.int .i64]⟩⟩)]
def zyx:AC:=.run
def zrT:Un:=lpU w122_v.fz [9,10,5,11,12,13,14,15,16,17,4,18,8] w122_u0_h zlj (lp zbF zp)
theorem zAm (f:w122_u0_h.X→Option (YT zlj)) (x:w122_u0_h.X):E w122_v (zq (za Tryz.f183) [1,0,1,0,0]) (zyx) (mkS w122_u0_h 8 x) (zx w122_v.fz w122_u0_h zlj f)=zbF f x:=by kernel_rfl
theorem zuG {X:Fx} (hX:VOk Tryz.prog X w122_v):q6 Tryz.prog X w122_v (zq (za Tryz.f183) [1,0,1,0]) zrT :=
 zz (c:=(zq (za Tryz.f183) [1,0,1,0,0])) (by kernel_rfl) (zr zo (zuV)) zH (ob:=[]) (by kernel_rfl) (fun X hX=>zg) (zAm) (by kernel_rfl) (by kernel_rfl) hX
def zFa:AC:=(.seq .run (.seq (.seq .run (.block (.unit zrT))) .run))
theorem zLU (x:zZ w122_c.inp.hs):E w122_v (za Tryz.f183) (zFa) (w122_c.entry x) (zB tb w122_v.fz w122_c [.tmp 4] x)=w122_c.F x:=by kernel_rfl
theorem zF1:ShOk Tryz.prog gl 183 w122_c :=
 zC (l:=zyw) (n:=Tryz.f183.ntmps) (code:=za Tryz.f183) (rts:=[.tmp 4]) zo zH (zuV) Tryz.func183 (by kernel_rfl) (by kernel_rfl) rfl (by kernel_rfl) (ac:=zFa) (ob:=[((zq (za Tryz.f183) [1,0,1,0]),zrT)]) (by kernel_rfl) (fun X hX=>(zn (zuG hX) zg)) (by kernel_rfl) (zLU)
def w123_c:ShC:={ inp:=⟨[.hole,(.clo 143 [(.ptr 0 0),(.ptr 1 0)])],[.cells true [.hole],.cells true [.hole,.hole]],[1,1,1,1],[kL,kM,.bool,kJ]⟩,out:=⟨[.hole],[],[2],[.bool]⟩,nres:=1,ms:=[],mu:=[],leak:=false,glob:=true,F:=fun (x:(jQ×jS×Bool×jI))=>zc3 x.1 x.2.1 x.2.2.1 x.2.2.2 }
-- slices.ContainsFunc[[]api.Lit,api.Lit]
def zwS:List (Nat×Con):=[(183,.gen (zV [w122_c]))]
def w123_v:Env:=zy tb gl zwS w123_c Tryz.f133.ntmps
theorem zG7:zA Tryz.prog (cond w123_c.glob gl fun _=>none) zwS:=(zb (zd (zc zF1 ze)) zi)
def zD9:AC:=.run
theorem zKp (x:zZ w123_c.inp.hs):E w123_v (za Tryz.f133) (zD9) (w123_c.entry x) (zB tb w123_v.fz w123_c [.tmp 4] x)=w123_c.F x:=by kernel_rfl
theorem zHw:ShOk Tryz.prog gl 133 w123_c :=
 zC (l:=zwS) (n:=Tryz.f133.ntmps) (code:=za Tryz.f133) (rts:=[.tmp 4]) zo zH (zG7) Tryz.func133 (by kernel_rfl) (by kernel_rfl) rfl (by kernel_rfl) (ac:=zD9) (ob:=[]) (by kernel_rfl) (fun X hX=>zg) (by kernel_rfl) (zKp)
def w124_c:ShC:={ inp:=⟨[.hole,.hole],[],[1,1],[kM,kL]⟩,out:=⟨[(.view 0),.hole],[.seq false],[2,2],[.int .i64,kJ]⟩,nres:=2,ms:=[],mu:=[],leak:=false,glob:=true,F:=fun (x:(jS×jQ))=>znW x.1 x.2 }
-- lit.Tops
def zAr:List (Nat×Con):=[(52,.gen (zV [w8_c])),(133,.gen (zV [w112_c,w123_c]))]
def w124_v:Env:=zy tb gl zAr w124_c Tryz.f77.ntmps
theorem zxw:zA Tryz.prog (cond w124_c.glob gl fun _=>none) zAr:=(zb (zd (zc zIV ze)) (zb (zd (zc zGk (zc zHw ze))) zi))
def w124_u0_h:SS:=⟨[1,2,6,17,18,19],⟨[.hole,(.ptr 0 0),(.view 1),.hole,.hole,.hole],[.cells true [.hole],.seq false],[1,1,2,2,1,2],[kL,kL,.int .i64,.int .i64,kM,kJ]⟩⟩
def zlo:Exs:=[((.exit 0),⟨[6],⟨[(.view 0)],[.seq false],[2],[kJ]⟩⟩)]
def zyA:AC:=.run
def zrS:Un:=lpU w124_v.fz [20,21,22,23,8,7,24,25,26,27,28,29,30,31,6,32,19] w124_u0_h zlo (lp zh4 zp)
theorem zyo (f:w124_u0_h.X→Option (YT zlo)) (x:w124_u0_h.X):E w124_v (zq (za Tryz.f77) [1,1,1,0,1,0,0]) (zyA) (mkS w124_u0_h 8 x) (zx w124_v.fz w124_u0_h zlo f)=zh4 f x:=by kernel_rfl
theorem zuE {X:Fx} (hX:VOk Tryz.prog X w124_v):q6 Tryz.prog X w124_v (zq (za Tryz.f77) [1,1,1,0,1,0]) zrS :=
 zz (c:=(zq (za Tryz.f77) [1,1,1,0,1,0,0])) (by kernel_rfl) (zr zo (zxw)) zH (ob:=[]) (by kernel_rfl) (fun X hX=>zg) (zyo) (by kernel_rfl) (by kernel_rfl) hX
def zEK:AC:=(.seq .run (.seq .run (.seq .run (.seq (.seq .run (.block (.unit zrS))) .run))))
theorem zKq (x:zZ w124_c.inp.hs):E w124_v (za Tryz.f77) (zEK) (w124_c.entry x) (zB tb w124_v.fz w124_c [.tmp 4,.tmp 5] x)=w124_c.F x:=by kernel_rfl
theorem zG4:ShOk Tryz.prog gl 77 w124_c :=
 zC (l:=zAr) (n:=Tryz.f77.ntmps) (code:=za Tryz.f77) (rts:=[.tmp 4,.tmp 5]) zo zH (zxw) Tryz.func77 (by kernel_rfl) (by kernel_rfl) rfl (by kernel_rfl) (ac:=zEK) (ob:=[((zq (za Tryz.f77) [1,1,1,0,1,0]),zrS)]) (by kernel_rfl) (fun X hX=>(zn (zuE hX) zg)) (by kernel_rfl) (zKq)
def w125_c:ShC:={ inp:=⟨[.hole,(.agg [.hole,.hole])],[],[1,1,1],[kM,.bool,kJ]⟩,out:=⟨[.hole],[],[2],[.bool]⟩,nres:=1,ms:=[],mu:=[],leak:=false,glob:=false,F:=fun (x:(jS×Bool×jI))=>zgX x.1 x.2.1 x.2.2 }
-- clause.selfSame
def zyB:List (Nat×Con):=[(102,.gen (zV [w54_c])),(175,.gen (zV [w36_c]))]
def w125_v:Env:=zy tb gl zyB w125_c Tryz.f190.ntmps
theorem zIC:zA Tryz.prog (cond w125_c.glob gl fun _=>none) zyB:=(zb (zd (zc (w54_ok.anyGl rfl) ze)) (zb (zd (zc (w36_ok.anyGl rfl) ze)) zi))
def zEW:AC:=.run
theorem zLp (x:zZ w125_c.inp.hs):E w125_v (za Tryz.f190) (zEW) (w125_c.entry x) (zB tb w125_v.fz w125_c [.tmp 4] x)=w125_c.F x:=by kernel_rfl
theorem w125_ok:ShOk Tryz.prog gl 190 w125_c :=
 zC (l:=zyB) (n:=Tryz.f190.ntmps) (code:=za Tryz.f190) (rts:=[.tmp 4]) zo zH (zIC) Tryz.func190 (by kernel_rfl) (by kernel_rfl) rfl (by kernel_rfl) (ac:=zEW) (ob:=[]) (by kernel_rfl) (fun X hX=>zg) (by kernel_rfl) (zLp)
def w126_c:ShC:={ inp:=⟨[(.agg [.hole,.hole]),(.ptr 0 0)],[.cells true [.hole,.hole]],[1,1,1,1],[.bool,kJ,.bool,kJ]⟩,out:=⟨[.hole],[],[2],[.bool]⟩,nres:=1,ms:=[],mu:=[],leak:=false,glob:=false,F:=fun (x:(Bool×jI×Bool×jI))=>zeT x.1 x.2.1 x.2.2.1 x.2.2.2 }
-- clause.Trivial$1
def zv8:List (Nat×Con):=[(102,.gen (zV [w54_c]))]
def w126_v:Env:=zy tb gl zv8 w126_c Tryz.f191.ntmps
theorem zFX:zA Tryz.prog (cond w126_c.glob gl fun _=>none) zv8:=(zb (zd (zc (w54_ok.anyGl rfl) ze)) zi)
def zEM:AC:=.run
theorem zK4 (x:zZ w126_c.inp.hs):E w126_v (za Tryz.f191) (zEM) (w126_c.entry x) (zB tb w126_v.fz w126_c [.tmp 3] x)=w126_c.F x:=by kernel_rfl
theorem w126_ok:ShOk Tryz.prog gl 191 w126_c :=
 zC (l:=zv8) (n:=Tryz.f191.ntmps) (code:=za Tryz.f191) (rts:=[.tmp 3]) zo zH (zFX) Tryz.func191 (by kernel_rfl) (by kernel_rfl) rfl (by kernel_rfl) (ac:=zEM) (ob:=[]) (by kernel_rfl) (fun X hX=>zg) (by kernel_rfl) (zK4)
def w127_c:ShC:={ inp:=⟨[.hole,(.clo 191 [(.ptr 0 0)])],[.cells true [.hole,.hole]],[1,1,1],[kL,.bool,kJ]⟩,out:=⟨[.hole],[],[2],[.int .i64]⟩,nres:=1,ms:=[],mu:=[],leak:=false,glob:=false,F:=fun (x:(jQ×Bool×jI))=>zei x.1 x.2.1 x.2.2 }
-- slices.IndexFunc[[]api.Lit,api.Lit]
def zxl:List (Nat×Con):=[(191,.gen (zV [w126_c]))]
def w127_v:Env:=zy tb gl zxl w127_c Tryz.f183.ntmps
theorem zzp:zA Tryz.prog (cond w127_c.glob gl fun _=>none) zxl:=(zb (zd (zc (w126_ok.anyGl rfl) ze)) zi)
def w127_u0_h:SS:=⟨[0,1,7,8],⟨[.hole,(.clo 191 [(.ptr 0 0)]),.hole,.hole],[.cells true [.hole,.hole]],[1,2,2,2,1],[kL,.int .i64,.int .i64,.bool,kJ]⟩⟩
def zlG:Exs:=[((.exit 0),⟨[],⟨[],[],[],[]⟩⟩),(.ret,⟨[4],⟨[.hole],[],[2],[.int .i64]⟩⟩)]
def zvt:AC:=.run
def zsA:Un:=lpU w127_v.fz [9,10,5,11,12,13,14,15,16,17,4,18,8] w127_u0_h zlG (lp zbS zp)
theorem zu9 (f:w127_u0_h.X→Option (YT zlG)) (x:w127_u0_h.X):E w127_v (zq (za Tryz.f183) [1,0,1,0,0]) (zvt) (mkS w127_u0_h 8 x) (zx w127_v.fz w127_u0_h zlG f)=zbS f x:=by kernel_rfl
theorem ztG {X:Fx} (hX:VOk Tryz.prog X w127_v):q6 Tryz.prog X w127_v (zq (za Tryz.f183) [1,0,1,0]) zsA :=
 zz (c:=(zq (za Tryz.f183) [1,0,1,0,0])) (by kernel_rfl) (zr zo (zzp)) zH (ob:=[]) (by kernel_rfl) (fun X hX=>zg) (zu9) (by kernel_rfl) (by kernel_rfl) hX
def zEw:AC:=(.seq .run (.seq (.seq .run (.block (.unit zsA))) .run))
theorem zKY (x:zZ w127_c.inp.hs):E w127_v (za Tryz.f183) (zEw) (w127_c.entry x) (zB tb w127_v.fz w127_c [.tmp 4] x)=w127_c.F x:=by kernel_rfl
theorem w127_ok:ShOk Tryz.prog gl 183 w127_c :=
 zC (l:=zxl) (n:=Tryz.f183.ntmps) (code:=za Tryz.f183) (rts:=[.tmp 4]) zo zH (zzp) Tryz.func183 (by kernel_rfl) (by kernel_rfl) rfl (by kernel_rfl) (ac:=zEw) (ob:=[((zq (za Tryz.f183) [1,0,1,0]),zsA)]) (by kernel_rfl) (fun X hX=>(zn (ztG hX) zg)) (by kernel_rfl) (zKY)
def w128_c:ShC:={ inp:=⟨[.hole,(.clo 191 [(.ptr 0 0)])],[.cells true [.hole,.hole]],[1,1,1],[kL,.bool,kJ]⟩,out:=⟨[.hole],[],[2],[.bool]⟩,nres:=1,ms:=[],mu:=[],leak:=false,glob:=false,F:=fun (x:(jQ×Bool×jI))=>zc5 x.1 x.2.1 x.2.2 }
-- slices.ContainsFunc[[]api.Lit,api.Lit]
def zwY:List (Nat×Con):=[(183,.gen (zV [w127_c]))]
def w128_v:Env:=zy tb gl zwY w128_c Tryz.f133.ntmps
theorem zFV:zA Tryz.prog (cond w128_c.glob gl fun _=>none) zwY:=(zb (zd (zc (w127_ok.anyGl rfl) ze)) zi)
def zFf:AC:=.run
theorem zLh (x:zZ w128_c.inp.hs):E w128_v (za Tryz.f133) (zFf) (w128_c.entry x) (zB tb w128_v.fz w128_c [.tmp 4] x)=w128_c.F x:=by kernel_rfl
theorem w128_ok:ShOk Tryz.prog gl 133 w128_c :=
 zC (l:=zwY) (n:=Tryz.f133.ntmps) (code:=za Tryz.f133) (rts:=[.tmp 4]) zo zH (zFV) Tryz.func133 (by kernel_rfl) (by kernel_rfl) rfl (by kernel_rfl) (ac:=zFf) (ob:=[]) (by kernel_rfl) (fun X hX=>zg) (by kernel_rfl) (zLh)
def w129_c:ShC:={ inp:=⟨[.hole,(.agg [.hole,.hole,.hole])],[],[1,1,1,1],[kM,kL,kK,kL]⟩,out:=⟨[.hole,.hole],[],[2,2],[.bool,.int .i64]⟩,nres:=2,ms:=[],mu:=[],leak:=false,glob:=true,F:=fun (x:(jS×jQ×jR×jQ))=>zhM x.1 x.2.1 x.2.2.1 x.2.2.2 }
-- clause.Trivial
def zwH:List (Nat×Con):=[(42,.gen (zV [w18_c])),(133,.gen (zV [w128_c])),(190,.gen (zV [w125_c]))]
def w129_v:Env:=zy tb gl zwH w129_c Tryz.f146.ntmps
theorem zxf:zA Tryz.prog (cond w129_c.glob gl fun _=>none) zwH:=(zb (zd (zc zqM ze)) (zb (zd (zc (w128_ok.anyGl rfl) ze)) (zb (zd (zc (w125_ok.anyGl rfl) ze)) zi)))
def w129_u0_h:SS:=⟨[0,3,13,14,15],⟨[.hole,(.ptr 0 0),.hole,.hole,.hole],[.cells true [.hole,.hole,.hole]],[1,1,2,2,1,1,1],[kM,kL,.int .i64,.int .i64,kL,kK,kL]⟩⟩
def zl6:Exs:=[((.exit 0),⟨[],⟨[],[],[],[]⟩⟩),(.ret,⟨[4,5],⟨[.hole,.hole],[],[2,2],[.bool,.int .i64]⟩⟩)]
def zzk:AC:=.run
def zrQ:Un:=lpU w129_v.fz [16,17,18,7,19,20,21,22,23,24,25,26,27,4,5,28,15] w129_u0_h zl6 (lp zcK zp)
theorem zzV (f:w129_u0_h.X→Option (YT zl6)) (x:w129_u0_h.X):E w129_v (zq (za Tryz.f146) [1,1,0,1,0,0]) (zzk) (mkS w129_u0_h 8 x) (zx w129_v.fz w129_u0_h zl6 f)=zcK f x:=by kernel_rfl
theorem zuA {X:Fx} (hX:VOk Tryz.prog X w129_v):q6 Tryz.prog X w129_v (zq (za Tryz.f146) [1,1,0,1,0]) zrQ :=
 zz (c:=(zq (za Tryz.f146) [1,1,0,1,0,0])) (by kernel_rfl) (zr zo (zxf)) zH (ob:=[]) (by kernel_rfl) (fun X hX=>zg) (zzV) (by kernel_rfl) (by kernel_rfl) hX
def zFk:AC:=(.seq .run (.seq .run (.seq (.seq .run (.block (.unit zrQ))) .run)))
theorem zMD (x:zZ w129_c.inp.hs):E w129_v (za Tryz.f146) (zFk) (w129_c.entry x) (zB tb w129_v.fz w129_c [.tmp 4,.tmp 5] x)=w129_c.F x:=by kernel_rfl
theorem zGK:ShOk Tryz.prog gl 146 w129_c :=
 zC (l:=zwH) (n:=Tryz.f146.ntmps) (code:=za Tryz.f146) (rts:=[.tmp 4,.tmp 5]) zo zH (zxf) Tryz.func146 (by kernel_rfl) (by kernel_rfl) rfl (by kernel_rfl) (ac:=zFk) (ob:=[((zq (za Tryz.f146) [1,1,0,1,0]),zrQ)]) (by kernel_rfl) (fun X hX=>(zn (zuA hX) zg)) (by kernel_rfl) (zMD)
def w130_c:ShC:={ inp:=⟨[(.ptr 0 0),(.agg [.hole,.hole,.hole,.hole,.hole,.hole,.hole,.hole,.hole,.hole]),(.agg [.hole,.hole,.hole]),.hole,.hole],[.cells false [.hole,(.view 1),.hole],.seq false],[1,1,1,1,1,1,1,2,2,2,2,2,2,1,1,1,1,2],[.int .i64,.int .i64,.int .i64,.int .i64,.int .i64,.int .i64,.int .i64,kL,kK,kL,kL,kK,kL,.bool,.int .i64,kM,.int .i64,.sl (.cons kZ (.cons kZ (.cons kZ (.cons kZ (.cons kZ (.cons kZ (.cons kZ (.cons kL (.cons kK (.one kL))))))))))]⟩,out:=⟨[(.ptr 0 0)],[.cells false [.hole,(.view 1),.hole],.seq false],[1,2,2],[kM,.int .i64,.sl (.cons kZ (.cons kZ (.cons kZ (.cons kZ (.cons kZ (.cons kZ (.cons kZ (.cons kL (.cons kK (.one kL))))))))))]⟩,nres:=0,ms:=[0],mu:=[(0,0)],leak:=true,glob:=true,F:=fun (x:(Int×Int×Int×Int×Int×Int×Int×jQ×jR×jQ×jQ×jR×jQ×Bool×Int×jS×Int×jT))=>zep x.1 x.2.1 x.2.2.1 x.2.2.2.1 x.2.2.2.2.1 x.2.2.2.2.2.1 x.2.2.2.2.2.2.1 x.2.2.2.2.2.2.2.1 x.2.2.2.2.2.2.2.2.1 x.2.2.2.2.2.2.2.2.2.1 x.2.2.2.2.2.2.2.2.2.2.1 x.2.2.2.2.2.2.2.2.2.2.2.1 x.2.2.2.2.2.2.2.2.2.2.2.2.1 x.2.2.2.2.2.2.2.2.2.2.2.2.2.1 x.2.2.2.2.2.2.2.2.2.2.2.2.2.2.1 x.2.2.2.2.2.2.2.2.2.2.2.2.2.2.2.1 x.2.2.2.2.2.2.2.2.2.2.2.2.2.2.2.2.1 x.2.2.2.2.2.2.2.2.2.2.2.2.2.2.2.2.2 }
-- (*resolve.Kids).Add
def zxR:List (Nat×Con):=[(146,.gen (zV [w129_c]))]
def w130_v:Env:=zy tb gl zxR w130_c Tryz.f79.ntmps
theorem zHK:zA Tryz.prog (cond w130_c.glob gl fun _=>none) zxR:=(zb (zd (zc zGK ze)) zi)
def zFc:AC:=(.seq .run (.seq .run (.seq .run (.seq .run (.hide [[9],[],[],[],[],[],[],[],[],[],[]])))))
theorem zLB (x:zZ w130_c.inp.hs):E w130_v (za Tryz.f79) (zFc) (w130_c.entry x) (zB tb w130_v.fz w130_c [] x)=w130_c.F x:=by kernel_rfl
theorem zGG:ShOk Tryz.prog gl 79 w130_c :=
 zC (l:=zxR) (n:=Tryz.f79.ntmps) (code:=za Tryz.f79) (rts:=[]) zo zH (zHK) Tryz.func79 (by kernel_rfl) (by kernel_rfl) rfl (by kernel_rfl) (ac:=zFc) (ob:=[]) (by kernel_rfl) (fun X hX=>zg) (by kernel_rfl) (zLB)
def w131_c:ShC:={ inp:=⟨[.hole,(.agg [.hole,.hole,.hole]),.hole,(.agg [.hole,.hole,.hole]),.hole],[],[1,1,1,1,1,1,1,1,1],[kM,kL,kK,kL,.int .i64,kL,kK,kL,.int .i64]⟩,out:=⟨[(.view 0),.hole,.hole],[.seq false],[2,2,2],[.int .i64,.int .i64,.sl (.cons kZ (.cons kZ (.cons kZ (.cons kZ (.cons kZ (.cons kZ (.cons kZ (.cons kL (.cons kK (.one kL))))))))))]⟩,nres:=3,ms:=[],mu:=[],leak:=false,glob:=true,F:=fun (x:(jS×jQ×jR×jQ×Int×jQ×jR×jQ×Int))=>zlJ x.1 x.2.1 x.2.2.1 x.2.2.2.1 x.2.2.2.2.1 x.2.2.2.2.2.1 x.2.2.2.2.2.2.1 x.2.2.2.2.2.2.2.1 x.2.2.2.2.2.2.2.2 }
-- resolve.All
def zyV:List (Nat×Con):=[(42,.gen (zV [w18_c])),(77,.gen (zV [w124_c])),(79,.gen (zV [w130_c])),(84,.gen (zV [w67_c]))]
def w131_v:Env:=zy tb gl zyV w131_c Tryz.f88.ntmps
theorem zrK:zA Tryz.prog (cond w131_c.glob gl fun _=>none) zyV:=(zb (zd (zc zqM ze)) (zb (zd (zc zG4 ze)) (zb (zd (zc zGG ze)) (zb (zd (zc zFp ze)) zi))))
def w131_u0_h:SS:=⟨[0,2,4,6,8,15,17,19,51,52,53,57,58,59],⟨[.hole,.hole,.hole,(.ptr 0 0),(.ptr 1 0),.hole,(.ptr 2 0),.hole,.hole,.hole,.hole,.hole,.hole,.hole],[.cells true [.hole,.hole,.hole],.cells true [.hole,.hole,.hole],.cells false [.hole,(.view 3),.hole],.seq false],[1,2,2,2,2,2,2,2,2,2,2,1,1,1,1,1,1,0,2,2],[kM,.int .i64,.int .i64,kJ,.int .i64,kJ,.int .i64,.int .i64,kJ,.int .i64,.int .i64,kL,kK,kL,kL,kK,kL,kM,.int .i64,.sl (.cons kZ (.cons kZ (.cons kZ (.cons kZ (.cons kZ (.cons kZ (.cons kZ (.cons kL (.cons kK (.one kL))))))))))]⟩⟩
def zly:Exs:=[((.exit 2),⟨[17],⟨[(.ptr 0 0)],[.cells false [.hole,(.view 1),.hole],.seq false],[0,2,2],[kM,.int .i64,.sl (.cons kZ (.cons kZ (.cons kZ (.cons kZ (.cons kZ (.cons kZ (.cons kZ (.cons kL (.cons kK (.one kL))))))))))]⟩⟩)]
def zw1:AC:=.run
def zry:Un:=lpU w131_v.fz [60,61,62,21,64,65,66,67,68,69,63,70,71,72,22,23,24,73,74,75,76,77,78,79,80,81,82,59] w131_u0_h zly (lp zeE zp)
theorem zvU (f:w131_u0_h.X→Option (YT zly)) (x:w131_u0_h.X):E w131_v (zq (za Tryz.f88) [1,1,1,1,1,0,1,0,0,1,1,0,0,1,1,0,0]) (zw1) (mkS w131_u0_h 8 x) (zx w131_v.fz w131_u0_h zly f)=zeE f x:=by kernel_rfl
theorem zuy {X:Fx} (hX:VOk Tryz.prog X w131_v):q6 Tryz.prog X w131_v (zq (za Tryz.f88) [1,1,1,1,1,0,1,0,0,1,1,0,0,1,1,0]) zry :=
 zz (c:=(zq (za Tryz.f88) [1,1,1,1,1,0,1,0,0,1,1,0,0,1,1,0,0])) (by kernel_rfl) (zr zo (zrK)) zH (ob:=[]) (by kernel_rfl) (fun X hX=>zg) (zvU) (by kernel_rfl) (by kernel_rfl) hX
def w131_u1_h:SS:=⟨[0,2,4,6,8,15,17,51,52,53],⟨[.hole,.hole,.hole,(.ptr 0 0),(.ptr 1 0),.hole,(.ptr 2 0),.hole,.hole,.hole],[.cells true [.hole,.hole,.hole],.cells true [.hole,.hole,.hole],.cells false [.hole,(.view 3),.hole],.seq false],[1,2,2,2,2,2,2,1,1,1,1,1,1,0,2,2],[kM,.int .i64,.int .i64,kJ,kJ,.int .i64,.int .i64,kL,kK,kL,kL,kK,kL,kM,.int .i64,.sl (.cons kZ (.cons kZ (.cons kZ (.cons kZ (.cons kZ (.cons kZ (.cons kZ (.cons kL (.cons kK (.one kL))))))))))]⟩⟩
def zlw:Exs:=[((.exit 0),⟨[17],⟨[(.ptr 0 0)],[.cells false [.hole,(.view 1),.hole],.seq false],[0,2,2],[kM,.int .i64,.sl (.cons kZ (.cons kZ (.cons kZ (.cons kZ (.cons kZ (.cons kZ (.cons kZ (.cons kL (.cons kK (.one kL))))))))))]⟩⟩)]
def zAf:AC:=(.seq .run (.seq .run (.seq (.block (.seq .run (.seq .run (.block (.unit zry))))) .run)))
def zse:Un:=lpU w131_v.fz [54,55,56,19,57,58,59,60,61,62,21,64,65,66,67,68,69,63,70,71,72,22,23,24,73,74,75,76,77,78,79,80,81,82,59,83,53] w131_u1_h zlw (lp zeH zp)
theorem zx3 (f:w131_u1_h.X→Option (YT zlw)) (x:w131_u1_h.X):E w131_v (zq (za Tryz.f88) [1,1,1,1,1,0,1,0,0]) (zAf) (mkS w131_u1_h 8 x) (zx w131_v.fz w131_u1_h zlw f)=zeH f x:=by kernel_rfl
theorem zua {X:Fx} (hX:VOk Tryz.prog X w131_v):q6 Tryz.prog X w131_v (zq (za Tryz.f88) [1,1,1,1,1,0,1,0]) zse :=
 zz (c:=(zq (za Tryz.f88) [1,1,1,1,1,0,1,0,0])) (by kernel_rfl) (zr zo (zrK)) zH (ob:=[((zq (za Tryz.f88) [1,1,1,1,1,0,1,0,0,1,1,0,0,1,1,0]),zry)]) (by kernel_rfl) (fun X hX=>(zn (zuy hX) zg)) (zx3) (by kernel_rfl) (by kernel_rfl) hX
def zEa:AC:=(.seq .run (.seq .run (.seq .run (.seq .run (.seq .run (.seq (.seq .run (.block (.unit zse))) .run))))))
theorem zJ4 (x:zZ w131_c.inp.hs):E w131_v (za Tryz.f88) (zEa) (w131_c.entry x) (zB tb w131_v.fz w131_c [.tmp 10,.tmp 11,.tmp 12] x)=w131_c.F x:=by kernel_rfl
theorem zGx:ShOk Tryz.prog gl 88 w131_c :=
 zC (l:=zyV) (n:=Tryz.f88.ntmps) (code:=za Tryz.f88) (rts:=[.tmp 10,.tmp 11,.tmp 12]) zo zH (zrK) Tryz.func88 (by kernel_rfl) (by kernel_rfl) rfl (by kernel_rfl) (ac:=zEa) (ob:=[((zq (za Tryz.f88) [1,1,1,1,1,0,1,0]),zse)]) (by kernel_rfl) (fun X hX=>(zn (zua hX) zg)) (by kernel_rfl) (zJ4)
def w132_c:ShC:={ inp:=⟨[(.agg [.hole,.hole,.hole,.hole,.hole,.hole,.hole,.hole,.hole,.hole]),(.agg [.hole,.hole,.hole,.hole,.hole,.hole,.hole,.hole,.hole,.hole])],[],[1,1,1,1,1,1,1,1,1,1,1,1,1,1,1,1,1,1,1,1],[.int .i64,.int .i64,.int .i64,.int .i64,.int .i64,.int .i64,.int .i64,kL,kK,kL,.int .i64,.int .i64,.int .i64,.int .i64,.int .i64,.int .i64,.int .i64,kL,kK,kL]⟩,out:=⟨[.hole],[],[2],[.bool]⟩,nres:=1,ms:=[],mu:=[],leak:=false,glob:=false,F:=fun (x:(Int×Int×Int×Int×Int×Int×Int×jQ×jR×jQ×Int×Int×Int×Int×Int×Int×Int×jQ×jR×jQ))=>zjr x.1 x.2.1 x.2.2.1 x.2.2.2.1 x.2.2.2.2.1 x.2.2.2.2.2.1 x.2.2.2.2.2.2.1 x.2.2.2.2.2.2.2.1 x.2.2.2.2.2.2.2.2.1 x.2.2.2.2.2.2.2.2.2.1 x.2.2.2.2.2.2.2.2.2.2.1 x.2.2.2.2.2.2.2.2.2.2.2.1 x.2.2.2.2.2.2.2.2.2.2.2.2.1 x.2.2.2.2.2.2.2.2.2.2.2.2.2.1 x.2.2.2.2.2.2.2.2.2.2.2.2.2.2.1 x.2.2.2.2.2.2.2.2.2.2.2.2.2.2.2.1 x.2.2.2.2.2.2.2.2.2.2.2.2.2.2.2.2.1 x.2.2.2.2.2.2.2.2.2.2.2.2.2.2.2.2.2.1 x.2.2.2.2.2.2.2.2.2.2.2.2.2.2.2.2.2.2.1 x.2.2.2.2.2.2.2.2.2.2.2.2.2.2.2.2.2.2.2 }
-- quaerelaw0.SameStep
def zwI:List (Nat×Con):=[(17,.gen (zV [w107_c]))]
def w132_v:Env:=zy tb gl zwI w132_c Tryz.f82.ntmps
theorem zF5:zA Tryz.prog (cond w132_c.glob gl fun _=>none) zwI:=(zb (zd (zc (w107_ok.anyGl rfl) ze)) zi)
def zEo:AC:=.run
theorem zMo (x:zZ w132_c.inp.hs):E w132_v (za Tryz.f82) (zEo) (w132_c.entry x) (zB tb w132_v.fz w132_c [.tmp 4] x)=w132_c.F x:=by kernel_rfl
theorem w132_ok:ShOk Tryz.prog gl 82 w132_c :=
 zC (l:=zwI) (n:=Tryz.f82.ntmps) (code:=za Tryz.f82) (rts:=[.tmp 4]) zo zH (zF5) Tryz.func82 (by kernel_rfl) (by kernel_rfl) rfl (by kernel_rfl) (ac:=zEo) (ob:=[]) (by kernel_rfl) (fun X hX=>zg) (by kernel_rfl) (zMo)
def w133_c:ShC:={ inp:=⟨[.hole,.hole],[],[1,1],[.sl (.cons kZ (.cons kZ (.cons kZ (.cons kZ (.cons kZ (.cons kZ (.cons kZ (.cons kL (.cons kK (.one kL)))))))))),.sl (.cons kZ (.cons kZ (.cons kZ (.cons kZ (.cons kZ (.cons kZ (.cons kZ (.cons kL (.cons kK (.one kL))))))))))]⟩,out:=⟨[.hole],[],[2],[.bool]⟩,nres:=1,ms:=[],mu:=[],leak:=false,glob:=false,F:=fun (x:(jT×jT))=>zhN x.1 x.2 }
-- quaerelaw0.SameSteps
def zwN:List (Nat×Con):=[(82,.gen (zV [w132_c]))]
def w133_v:Env:=zy tb gl zwN w133_c Tryz.f31.ntmps
theorem zyD:zA Tryz.prog (cond w133_c.glob gl fun _=>none) zwN:=(zb (zd (zc (w132_ok.anyGl rfl) ze)) zi)
def w133_u0_h:SS:=⟨[0,1,5],⟨[.hole,.hole,.hole],[],[1,1,2],[.sl (.cons kZ (.cons kZ (.cons kZ (.cons kZ (.cons kZ (.cons kZ (.cons kZ (.cons kL (.cons kK (.one kL)))))))))),.sl (.cons kZ (.cons kZ (.cons kZ (.cons kZ (.cons kZ (.cons kZ (.cons kZ (.cons kL (.cons kK (.one kL)))))))))),.int .i64]⟩⟩
def zmu:Exs:=[((.exit 0),⟨[],⟨[],[],[],[]⟩⟩),(.ret,⟨[4],⟨[.hole],[],[2],[.bool]⟩⟩)]
def zxW:AC:=.run
def zro:Un:=lpU w133_v.fz [11,12,13,14,17,18,19,20,21,22,23,24,25,26,4,15,16,5] w133_u0_h zmu (lp zcR zp)
theorem zyL (f:w133_u0_h.X→Option (YT zmu)) (x:w133_u0_h.X):E w133_v (zq (za Tryz.f31) [1,1,0,1,0,0]) (zxW) (mkS w133_u0_h 8 x) (zx w133_v.fz w133_u0_h zmu f)=zcR f x:=by kernel_rfl
theorem zt3 {X:Fx} (hX:VOk Tryz.prog X w133_v):q6 Tryz.prog X w133_v (zq (za Tryz.f31) [1,1,0,1,0]) zro :=
 zz (c:=(zq (za Tryz.f31) [1,1,0,1,0,0])) (by kernel_rfl) (zr zo (zyD)) zH (ob:=[]) (by kernel_rfl) (fun X hX=>zg) (zyL) (by kernel_rfl) (by kernel_rfl) hX
def zEP:AC:=(.seq .run (.seq .run (.seq (.seq .run (.block (.unit zro))) .run)))
theorem zJ8 (x:zZ w133_c.inp.hs):E w133_v (za Tryz.f31) (zEP) (w133_c.entry x) (zB tb w133_v.fz w133_c [.tmp 4] x)=w133_c.F x:=by kernel_rfl
theorem w133_ok:ShOk Tryz.prog gl 31 w133_c :=
 zC (l:=zwN) (n:=Tryz.f31.ntmps) (code:=za Tryz.f31) (rts:=[.tmp 4]) zo zH (zyD) Tryz.func31 (by kernel_rfl) (by kernel_rfl) rfl (by kernel_rfl) (ac:=zEP) (ob:=[((zq (za Tryz.f31) [1,1,0,1,0]),zro)]) (by kernel_rfl) (fun X hX=>(zn (zt3 hX) zg)) (by kernel_rfl) (zJ8)
def w134_c:ShC:={ inp:=⟨[],[],[],[]⟩,out:=⟨[.hole],[],[2],[.bool]⟩,nres:=1,ms:=[],mu:=[],leak:=false,glob:=true,F:=fun (x:Unit)=>zim }
-- quaerelaw13.awake
def zvG:List (Nat×Con):=[(17,.gen (zV [w107_c])),(18,.gen (zV [w108_c])),(31,.gen (zV [w133_c])),(33,.gen (zV [w68_c])),(87,.gen (zV [w109_c])),(88,.gen (zV [w131_c]))]
def w134_v:Env:=zy tb gl zvG w134_c Tryz.f35.ntmps
theorem zG1:zA Tryz.prog (cond w134_c.glob gl fun _=>none) zvG:=(zb (zd (zc (w107_ok.anyGl rfl) ze)) (zb (zd (zc (w108_ok.anyGl rfl) ze)) (zb (zd (zc (w133_ok.anyGl rfl) ze)) (zb (zd (zc zFy ze)) (zb (zd (zc (w109_ok.anyGl rfl) ze)) (zb (zd (zc zGx ze)) zi))))))
def zEF:AC:=.run
theorem zMz (x:zZ w134_c.inp.hs):E w134_v (za Tryz.f35) (zEF) (w134_c.entry x) (zB tb w134_v.fz w134_c [.tmp 0] x)=w134_c.F x:=by kernel_rfl
theorem zId:ShOk Tryz.prog gl 35 w134_c :=
 zC (l:=zvG) (n:=Tryz.f35.ntmps) (code:=za Tryz.f35) (rts:=[.tmp 0]) zo zH (zG1) Tryz.func35 (by kernel_rfl) (by kernel_rfl) rfl (by kernel_rfl) (ac:=zEF) (ob:=[]) (by kernel_rfl) (fun X hX=>zg) (by kernel_rfl) (zMz)
def w135_c:ShC:={ inp:=⟨[.hole,(.agg [.hole,.hole,.hole]),.hole,(.agg [.hole,.hole,.hole]),.hole],[],[1,1,1,1,1,1,1,1,1],[kM,kL,kK,kL,.int .i64,kL,kK,kL,.int .i64]⟩,out:=⟨[.hole],[],[2],[.bool]⟩,nres:=1,ms:=[],mu:=[],leak:=false,glob:=true,F:=fun (x:(jS×jQ×jR×jQ×Int×jQ×jR×jQ×Int))=>zas x.1 x.2.1 x.2.2.1 x.2.2.2.1 x.2.2.2.2.1 x.2.2.2.2.2.1 x.2.2.2.2.2.2.1 x.2.2.2.2.2.2.2.1 x.2.2.2.2.2.2.2.2 }
-- quaerelaw13.Resolves
def zxU:List (Nat×Con):=[(17,.gen (zV [w107_c])),(18,.gen (zV [w108_c])),(23,.gen (zV [w3_c])),(33,.gen (zV [w68_c])),(34,.gen (zV [w103_c])),(35,.gen (zV [w134_c]))]
def w135_v:Env:=zy tb gl zxU w135_c Tryz.f6.ntmps
theorem zz7:zA Tryz.prog (cond w135_c.glob gl fun _=>none) zxU:=(zb (zd (zc (w107_ok.anyGl rfl) ze)) (zb (zd (zc (w108_ok.anyGl rfl) ze)) (zb (zd (zc (w3_ok.anyGl rfl) ze)) (zb (zd (zc zFy ze)) (zb (zd (zc (w103_ok.anyGl rfl) ze)) (zb (zd (zc zId ze)) zi))))))
def zq6:List (Code×AC):=[((zq (za Tryz.f6) [1,1,0]),.run),((zq (za Tryz.f6) [1,1,1,0]),.run),((zq (za Tryz.f6) [1,1,1,1,0]),.run)]
def zrB:Un:=spU w135_v zq6 [24,25,26,27,28,29,23,30,31,32,13,14,15,34,35,36,37,38,39,33,40,41,42,16,17,18,43,44,45,46,47,48,49,50,51,52,53,54,55,56,57,10] [58,59] [(13,.rp (.cons kL (.cons kK (.one kL))) 0)] (zq (za Tryz.f6) [1,1,1,1,1,1]) .run
-- quaerelaw0.SpoilInts
theorem zFA:zbM Tryz.prog 126 [.one kJ] :=
 zi9 (l:=[]) (code:=za Tryz.f126) zo zl0 Tryz.func126 (by kernel_rfl) (by kernel_rfl) (by kernel_rfl) (by kernel_rfl) (by kernel_rfl)
-- quaerelaw0.SpoilLits
theorem zOQ:zbM Tryz.prog 63 [.one kL] :=
 zi9 (l:=[(126,[.one kJ])]) (code:=za Tryz.f63) zo (ziU zFA zl0) Tryz.func63 (by kernel_rfl) (by kernel_rfl) (by kernel_rfl) (by kernel_rfl) (by kernel_rfl)
-- quaerelaw0.SpoilRows
theorem zN7:zbM Tryz.prog 64 [.one kK] :=
 zi9 (l:=[(126,[.one kJ])]) (code:=za Tryz.f64) zo (ziU zFA zl0) Tryz.func64 (by kernel_rfl) (by kernel_rfl) (by kernel_rfl) (by kernel_rfl) (by kernel_rfl)
-- quaerelaw0.SpoilClause
theorem zNJ:zbM Tryz.prog 19 [.agg [kL,kK,kL]] :=
 zi9 (l:=[(63,[.one kL]),(64,[.one kK])]) (code:=za Tryz.f19) zo (ziU zOQ (ziU zN7 zl0)) Tryz.func19 (by kernel_rfl) (by kernel_rfl) (by kernel_rfl) (by kernel_rfl) (by kernel_rfl)
theorem zur {X:Fx} (hX:VOk Tryz.prog X w135_v):q6 Tryz.prog X w135_v (zq (za Tryz.f6) [1,1]) zrB :=
 zOS (zr zo (zz7)) zH (l:=[(19,[.agg [kL,kK,kL]])]) (ziU zNJ zl0) (cs:=zq6) (sps:=[(zq (za Tryz.f6) [1,1,1,1,1,0])]) (by kernel_rfl) (fun X hX=>(zok (ob:=[]) (by kernel_rfl) zg (zok (ob:=[]) (by kernel_rfl) zg (zok (ob:=[]) (by kernel_rfl) zg zIE)))) (ob:=[]) (by kernel_rfl) (fun X hX=>zg) (by kernel_rfl) (by kernel_rfl) (by kernel_rfl) hX
def zE7:AC:=(.seq .run (.seq .run (.unit zrB)))
theorem zLE (x:zZ w135_c.inp.hs):E w135_v (za Tryz.f6) (zE7) (w135_c.entry x) (zB tb w135_v.fz w135_c [.tmp 10] x)=w135_c.F x:=by kernel_rfl
theorem zG0:ShOk Tryz.prog gl 6 w135_c :=
 zC (l:=zxU) (n:=Tryz.f6.ntmps) (code:=za Tryz.f6) (rts:=[.tmp 10]) zo zH (zz7) Tryz.func6 (by kernel_rfl) (by kernel_rfl) rfl (by kernel_rfl) (ac:=zE7) (ob:=[((zq (za Tryz.f6) [1,1]),zrB)]) (by kernel_rfl) (fun X hX=>(zn (zur hX) zg)) (by kernel_rfl) (zLE)
end
end Go.Abs.Sz5
