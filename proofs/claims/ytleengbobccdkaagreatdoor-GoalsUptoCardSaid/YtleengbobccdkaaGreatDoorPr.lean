import Derived.Test.YtleengbobccdkaaGreatDoorFc
import Derived.Test.YtleengbobccdkaaGreatDoorQb
import Derived.Test.YtleengbobccdkaaGreatDoorProg
import Derived.Test.YtleengbobccdkaaGreatDoorSh
/-
 The functions make just that.
-/
namespace Go.Abs.Sz5
open Go Go.Abs Go.Abs.Q Go.Proofs
set_option maxRecDepth 100000
noncomputable section
def tbl:List (Nat×TD):=[(3,.int .i64),
 (4,.bool),
 (9,.str),
 (22,.sl 136 tSym 40),
 (23,.sl 3 (.one (.int .i64)) 8),
 (24,.sl 69 tLit 32),
 (27,.sl 23 (.one (.sl (.one (.int .i64)))) 24),
 (29,.st [(24,0),(27,1),(24,2)] 3),
 (69,.st [(4,0),(23,1)] 2),
 (84,.fn),
 (99,.sl 144 (.cons (.int .i64) (.one (.sl (.one (.int .i64))))) 32),
 (136,.st [(9,0),(3,1),(3,2),(3,3)] 4),
 (144,.st [(3,0),(23,1)] 2),
 (147,.sl 9 (.one .str) 16),
 (178,.arr 3 (.one (.int .i64)) 24)]
def tb:Tb:=tbOf tbl
theorem tb_ok:TbOk Tryz.prog tb:=tb_check (by kernel_rfl)
theorem hord:Tryz.prog.follows .mixedOrders=true:=by kernel_rfl
def gl:Gl:=fun q=>cond (Nat.beq q 0) (some ⟨tSym,(([61],0,2,1):QSym)⟩) (none)
def w0_c:ShC:={ inp:=⟨[.hole],[],[1],[.sl (.one (.int .i64))]⟩,out:=⟨[(.view 0)],[.seq false],[2],[.sl (.one (.int .i64))]⟩,nres:=1,ms:=[],mu:=[],leak:=false,glob:=false,F:=fun (x:(List Int))=>law0_CopyInts x }
-- quaerelaw0.CopyInts
def w0_g:List (Nat×Con):=[]
def w0_v:Env:=envOf tb gl w0_g w0_c Tryz.f51.ntmps
theorem w0_gs:Goods Tryz.prog (cond w0_c.glob gl fun _=>none) w0_g:=goods_nil
def w0_a:AC:=.run
theorem w0_s (x:TupL w0_c.inp.hs):E w0_v (bodyOf Tryz.f51) (w0_a) (w0_c.entry x) (retSK tb w0_v.fz w0_c [.tmp 2] x)=w0_c.F x:=by kernel_rfl
theorem w0_ok:ShOk Tryz.prog gl 51 w0_c :=
 fn_ok (l:=w0_g) (n:=Tryz.f51.ntmps) (code:=bodyOf Tryz.f51) (rts:=[.tmp 2]) tb_ok hord (w0_gs) Tryz.func51 (by kernel_rfl) (by kernel_rfl) rfl (by kernel_rfl) (ac:=w0_a) (ob:=[]) (by kernel_rfl) (fun X hX=>obl_nil) (by kernel_rfl) (w0_s)
def w1_c:ShC:={ inp:=⟨[.hole],[],[1],[.sl tLit]⟩,out:=⟨[(.view 0)],[.seq false],[2],[.sl tLit]⟩,nres:=1,ms:=[],mu:=[],leak:=false,glob:=false,F:=fun (x:(List QLit))=>law0_CopyLits x }
-- quaerelaw0.CopyLits
def w1_g:List (Nat×Con):=[(51,.gen (altE [w0_c]))]
def w1_v:Env:=envOf tb gl w1_g w1_c Tryz.f13.ntmps
theorem w1_gs:Goods Tryz.prog (cond w1_c.glob gl fun _=>none) w1_g:=(goods_cons (good_alt (alls_cons (w0_ok.anyGl rfl) alls_nil)) goods_nil)
def w1_u0_h:SS:=⟨[0,3,4],⟨[.hole,(.view 0),.hole],[.seq false],[1,2,2],[.sl tLit,.int .i64,.sl tLit]⟩⟩
def w1_u0_e:Exs:=[((.exit 0),⟨[3],⟨[(.view 0)],[.seq false],[2],[.sl tLit]⟩⟩)]
def w1_u0_a:AC:=.run
def w1_u0:Un:=lpU w1_v.fz [5,6,7,8,11,12,13,14,15,16,17,18,19,20,21,22,23,24,25,3,9,10,4] w1_u0_h w1_u0_e (lp law0_CopyLits_L0 fuel)
theorem w1_u0_s (f:w1_u0_h.X→Option (YT w1_u0_e)) (x:w1_u0_h.X):E w1_v (subC (bodyOf Tryz.f13) [1,1,0,1,0,0]) (w1_u0_a) (mkS w1_u0_h 8 x) (roundK w1_v.fz w1_u0_h w1_u0_e f)=law0_CopyLits_L0 f x:=by kernel_rfl
theorem w1_u0_ok {X:Fx} (hX:VOk Tryz.prog X w1_v):UnOk Tryz.prog X w1_v (subC (bodyOf Tryz.f13) [1,1,0,1,0]) w1_u0 :=
 lp_un' (c:=(subC (bodyOf Tryz.f13) [1,1,0,1,0,0])) (by kernel_rfl) (env_all tb_ok (w1_gs)) hord (ob:=[]) (by kernel_rfl) (fun X hX=>obl_nil) (w1_u0_s) (by kernel_rfl) (by kernel_rfl) hX
def w1_a:AC:=(.seq .run (.seq .run (.seq (.seq .run (.block (.unit w1_u0))) .run)))
theorem w1_s (x:TupL w1_c.inp.hs):E w1_v (bodyOf Tryz.f13) (w1_a) (w1_c.entry x) (retSK tb w1_v.fz w1_c [.tmp 2] x)=w1_c.F x:=by kernel_rfl
theorem w1_ok:ShOk Tryz.prog gl 13 w1_c :=
 fn_ok (l:=w1_g) (n:=Tryz.f13.ntmps) (code:=bodyOf Tryz.f13) (rts:=[.tmp 2]) tb_ok hord (w1_gs) Tryz.func13 (by kernel_rfl) (by kernel_rfl) rfl (by kernel_rfl) (ac:=w1_a) (ob:=[((subC (bodyOf Tryz.f13) [1,1,0,1,0]),w1_u0)]) (by kernel_rfl) (fun X hX=>(obl_cons (w1_u0_ok hX) obl_nil)) (by kernel_rfl) (w1_s)
def w2_c:ShC:={ inp:=⟨[.hole],[],[1],[.sl (.one (.int .i64))]⟩,out:=⟨[(.part 0)],[.seq false],[2,2],[.int .i64,.sl (.one (.int .i64))]⟩,nres:=1,ms:=[],mu:=[],leak:=false,glob:=false,F:=fun (x:(List Int))=>law0_LendInts x }
-- quaerelaw0.LendInts
def w2_g:List (Nat×Con):=[(51,.gen (altE [w0_c]))]
def w2_v:Env:=envOf tb gl w2_g w2_c Tryz.f14.ntmps
theorem w2_gs:Goods Tryz.prog (cond w2_c.glob gl fun _=>none) w2_g:=(goods_cons (good_alt (alls_cons (w0_ok.anyGl rfl) alls_nil)) goods_nil)
def w2_a:AC:=.run
theorem w2_s (x:TupL w2_c.inp.hs):E w2_v (bodyOf Tryz.f14) (w2_a) (w2_c.entry x) (retSK tb w2_v.fz w2_c [.tmp 2] x)=w2_c.F x:=by kernel_rfl
theorem w2_ok:ShOk Tryz.prog gl 14 w2_c :=
 fn_ok (l:=w2_g) (n:=Tryz.f14.ntmps) (code:=bodyOf Tryz.f14) (rts:=[.tmp 2]) tb_ok hord (w2_gs) Tryz.func14 (by kernel_rfl) (by kernel_rfl) rfl (by kernel_rfl) (ac:=w2_a) (ob:=[]) (by kernel_rfl) (fun X hX=>obl_nil) (by kernel_rfl) (w2_s)
def w3_c:ShC:={ inp:=⟨[.hole],[],[1],[.int .u8]⟩,out:=⟨[.hole],[],[2],[.bool]⟩,nres:=1,ms:=[],mu:=[],leak:=false,glob:=false,F:=fun (x:Int)=>sign_small x }
-- sign.small
def w3_g:List (Nat×Con):=[]
def w3_v:Env:=envOf tb gl w3_g w3_c Tryz.f204.ntmps
theorem w3_gs:Goods Tryz.prog (cond w3_c.glob gl fun _=>none) w3_g:=goods_nil
def w3_a:AC:=.run
theorem w3_s (x:TupL w3_c.inp.hs):E w3_v (bodyOf Tryz.f204) (w3_a) (w3_c.entry x) (retSK tb w3_v.fz w3_c [.tmp 2] x)=w3_c.F x:=by kernel_rfl
theorem w3_ok:ShOk Tryz.prog gl 204 w3_c :=
 fn_ok (l:=w3_g) (n:=Tryz.f204.ntmps) (code:=bodyOf Tryz.f204) (rts:=[.tmp 2]) tb_ok hord (w3_gs) Tryz.func204 (by kernel_rfl) (by kernel_rfl) rfl (by kernel_rfl) (ac:=w3_a) (ob:=[]) (by kernel_rfl) (fun X hX=>obl_nil) (by kernel_rfl) (w3_s)
def w4_c:ShC:={ inp:=⟨[.hole],[],[1],[.str]⟩,out:=⟨[.hole],[],[2],[.bool]⟩,nres:=1,ms:=[],mu:=[],leak:=false,glob:=false,F:=fun (x:Str)=>sign_called x }
-- sign.called
def w4_g:List (Nat×Con):=[(204,.gen (altE [w3_c]))]
def w4_v:Env:=envOf tb gl w4_g w4_c Tryz.f167.ntmps
theorem w4_gs:Goods Tryz.prog (cond w4_c.glob gl fun _=>none) w4_g:=(goods_cons (good_alt (alls_cons (w3_ok.anyGl rfl) alls_nil)) goods_nil)
def w4_u0_h:SS:=⟨[0,18,19],⟨[.hole,.hole,.hole],[],[2,2,2],[.str,.int .i64,.int .i64]⟩⟩
def w4_u0_e:Exs:=[((.exit 0),⟨[],⟨[],[],[],[]⟩⟩),(.ret,⟨[2],⟨[.hole],[],[2],[.bool]⟩⟩)]
def w4_u0_a:AC:=.run
def w4_u0:Un:=lpU w4_v.fz [20,21,3,22,23,24,25,26,27,28,29,30,31,32,33,34,35,36,37,38,2,39,19] w4_u0_h w4_u0_e (lp sign_called_L0 fuel)
theorem w4_u0_s (f:w4_u0_h.X→Option (YT w4_u0_e)) (x:w4_u0_h.X):E w4_v (subC (bodyOf Tryz.f167) [1,1,0,1,0,0]) (w4_u0_a) (mkS w4_u0_h 8 x) (roundK w4_v.fz w4_u0_h w4_u0_e f)=sign_called_L0 f x:=by kernel_rfl
theorem w4_u0_ok {X:Fx} (hX:VOk Tryz.prog X w4_v):UnOk Tryz.prog X w4_v (subC (bodyOf Tryz.f167) [1,1,0,1,0]) w4_u0 :=
 lp_un' (c:=(subC (bodyOf Tryz.f167) [1,1,0,1,0,0])) (by kernel_rfl) (env_all tb_ok (w4_gs)) hord (ob:=[]) (by kernel_rfl) (fun X hX=>obl_nil) (w4_u0_s) (by kernel_rfl) (by kernel_rfl) hX
def w4_a:AC:=(.seq .run (.seq .run (.seq (.seq .run (.block (.unit w4_u0))) .run)))
theorem w4_s (x:TupL w4_c.inp.hs):E w4_v (bodyOf Tryz.f167) (w4_a) (w4_c.entry x) (retSK tb w4_v.fz w4_c [.tmp 2] x)=w4_c.F x:=by kernel_rfl
theorem w4_ok:ShOk Tryz.prog gl 167 w4_c :=
 fn_ok (l:=w4_g) (n:=Tryz.f167.ntmps) (code:=bodyOf Tryz.f167) (rts:=[.tmp 2]) tb_ok hord (w4_gs) Tryz.func167 (by kernel_rfl) (by kernel_rfl) rfl (by kernel_rfl) (ac:=w4_a) (ob:=[((subC (bodyOf Tryz.f167) [1,1,0,1,0]),w4_u0)]) (by kernel_rfl) (fun X hX=>(obl_cons (w4_u0_ok hX) obl_nil)) (by kernel_rfl) (w4_s)
def w5_c:ShC:={ inp:=⟨[(.agg [.hole,.hole,.hole,.hole])],[],[1,1,1,1],[.str,.int .i64,.int .i64,.int .i64]⟩,out:=⟨[.hole],[],[2],[.bool]⟩,nres:=1,ms:=[],mu:=[],leak:=false,glob:=false,F:=fun (x:QSym)=>sign_SymMay x.1 x.2.1 x.2.2.1 x.2.2.2 }
-- sign.SymMay
def w5_g:List (Nat×Con):=[(167,.gen (altE [w4_c]))]
def w5_v:Env:=envOf tb gl w5_g w5_c Tryz.f113.ntmps
theorem w5_gs:Goods Tryz.prog (cond w5_c.glob gl fun _=>none) w5_g:=(goods_cons (good_alt (alls_cons (w4_ok.anyGl rfl) alls_nil)) goods_nil)
def w5_a:AC:=.run
theorem w5_s (x:TupL w5_c.inp.hs):E w5_v (bodyOf Tryz.f113) (w5_a) (w5_c.entry x) (retSK tb w5_v.fz w5_c [.tmp 2] x)=w5_c.F x:=by kernel_rfl
theorem w5_ok:ShOk Tryz.prog gl 113 w5_c :=
 fn_ok (l:=w5_g) (n:=Tryz.f113.ntmps) (code:=bodyOf Tryz.f113) (rts:=[.tmp 2]) tb_ok hord (w5_gs) Tryz.func113 (by kernel_rfl) (by kernel_rfl) rfl (by kernel_rfl) (ac:=w5_a) (ob:=[]) (by kernel_rfl) (fun X hX=>obl_nil) (by kernel_rfl) (w5_s)
def w6_c:ShC:={ inp:=⟨[.hole,.hole],[],[1,1],[.sl tSym,.str]⟩,out:=⟨[.hole],[],[2],[.int .i64]⟩,nres:=1,ms:=[],mu:=[],leak:=false,glob:=false,F:=fun (x:((List QSym)×Str))=>sign_find x.1 x.2 }
-- sign.find
def w6_g:List (Nat×Con):=[]
def w6_v:Env:=envOf tb gl w6_g w6_c Tryz.f114.ntmps
theorem w6_gs:Goods Tryz.prog (cond w6_c.glob gl fun _=>none) w6_g:=goods_nil
def w6_u0_h:SS:=⟨[0,1,7,8],⟨[.hole,.hole,.hole,.hole],[],[1,2,2,2],[.sl tSym,.str,.int .i64,.int .i64]⟩⟩
def w6_u0_e:Exs:=[((.exit 0),⟨[],⟨[],[],[],[]⟩⟩),(.ret,⟨[4],⟨[.hole],[],[2],[.int .i64]⟩⟩)]
def w6_u0_a:AC:=.run
def w6_u0:Un:=lpU w6_v.fz [9,10,5,11,12,13,14,15,16,17,18,4,19,8] w6_u0_h w6_u0_e (lp sign_find_L0 fuel)
theorem w6_u0_s (f:w6_u0_h.X→Option (YT w6_u0_e)) (x:w6_u0_h.X):E w6_v (subC (bodyOf Tryz.f114) [1,0,1,0,0]) (w6_u0_a) (mkS w6_u0_h 8 x) (roundK w6_v.fz w6_u0_h w6_u0_e f)=sign_find_L0 f x:=by kernel_rfl
theorem w6_u0_ok {X:Fx} (hX:VOk Tryz.prog X w6_v):UnOk Tryz.prog X w6_v (subC (bodyOf Tryz.f114) [1,0,1,0]) w6_u0 :=
 lp_un' (c:=(subC (bodyOf Tryz.f114) [1,0,1,0,0])) (by kernel_rfl) (env_all tb_ok (w6_gs)) hord (ob:=[]) (by kernel_rfl) (fun X hX=>obl_nil) (w6_u0_s) (by kernel_rfl) (by kernel_rfl) hX
def w6_a:AC:=(.seq .run (.seq (.seq .run (.block (.unit w6_u0))) .run))
theorem w6_s (x:TupL w6_c.inp.hs):E w6_v (bodyOf Tryz.f114) (w6_a) (w6_c.entry x) (retSK tb w6_v.fz w6_c [.tmp 4] x)=w6_c.F x:=by kernel_rfl
theorem w6_ok:ShOk Tryz.prog gl 114 w6_c :=
 fn_ok (l:=w6_g) (n:=Tryz.f114.ntmps) (code:=bodyOf Tryz.f114) (rts:=[.tmp 4]) tb_ok hord (w6_gs) Tryz.func114 (by kernel_rfl) (by kernel_rfl) rfl (by kernel_rfl) (ac:=w6_a) (ob:=[((subC (bodyOf Tryz.f114) [1,0,1,0]),w6_u0)]) (by kernel_rfl) (fun X hX=>(obl_cons (w6_u0_ok hX) obl_nil)) (by kernel_rfl) (w6_s)
def w7_c:ShC:={ inp:=⟨[.hole],[],[1],[.sl tSym]⟩,out:=⟨[.hole],[],[2],[.bool]⟩,nres:=1,ms:=[],mu:=[],leak:=false,glob:=true,F:=fun (x:(List QSym))=>sign_May x }
-- sign.May
def w7_g:List (Nat×Con):=[(113,.gen (altE [w5_c])),(114,.gen (altE [w6_c]))]
def w7_v:Env:=envOf tb gl w7_g w7_c Tryz.f52.ntmps
theorem w7_gs:Goods Tryz.prog (cond w7_c.glob gl fun _=>none) w7_g:=(goods_cons (good_alt (alls_cons (w5_ok.anyGl rfl) alls_nil)) (goods_cons (good_alt (alls_cons (w6_ok.anyGl rfl) alls_nil)) goods_nil))
def w7_u0_h:SS:=⟨[0,3],⟨[.hole,.hole],[],[1,2],[.sl tSym,.int .i64]⟩⟩
def w7_u0_e:Exs:=[((.exit 0),⟨[],⟨[],[],[],[]⟩⟩),(.ret,⟨[2],⟨[.hole],[],[2],[.bool]⟩⟩)]
def w7_u0_a:AC:=.run
def w7_u0:Un:=lpU w7_v.fz [19,20,21,22,25,26,27,28,29,30,31,32,33,34,35,36,37,38,39,40,41,2,23,24,3] w7_u0_h w7_u0_e (lp sign_May_L0 fuel)
theorem w7_u0_s (f:w7_u0_h.X→Option (YT w7_u0_e)) (x:w7_u0_h.X):E w7_v (subC (bodyOf Tryz.f52) [1,1,0,1,0,0]) (w7_u0_a) (mkS w7_u0_h 8 x) (roundK w7_v.fz w7_u0_h w7_u0_e f)=sign_May_L0 f x:=by kernel_rfl
theorem w7_u0_ok {X:Fx} (hX:VOk Tryz.prog X w7_v):UnOk Tryz.prog X w7_v (subC (bodyOf Tryz.f52) [1,1,0,1,0]) w7_u0 :=
 lp_un' (c:=(subC (bodyOf Tryz.f52) [1,1,0,1,0,0])) (by kernel_rfl) (env_all tb_ok (w7_gs)) hord (ob:=[]) (by kernel_rfl) (fun X hX=>obl_nil) (w7_u0_s) (by kernel_rfl) (by kernel_rfl) hX
def w7_a:AC:=(.seq .run (.seq .run (.seq (.seq .run (.block (.unit w7_u0))) .run)))
theorem w7_s (x:TupL w7_c.inp.hs):E w7_v (bodyOf Tryz.f52) (w7_a) (w7_c.entry x) (retSK tb w7_v.fz w7_c [.tmp 2] x)=w7_c.F x:=by kernel_rfl
theorem w7_ok:ShOk Tryz.prog gl 52 w7_c :=
 fn_ok (l:=w7_g) (n:=Tryz.f52.ntmps) (code:=bodyOf Tryz.f52) (rts:=[.tmp 2]) tb_ok hord (w7_gs) Tryz.func52 (by kernel_rfl) (by kernel_rfl) rfl (by kernel_rfl) (ac:=w7_a) (ob:=[((subC (bodyOf Tryz.f52) [1,1,0,1,0]),w7_u0)]) (by kernel_rfl) (fun X hX=>(obl_cons (w7_u0_ok hX) obl_nil)) (by kernel_rfl) (w7_s)
def w8_c:ShC:={ inp:=⟨[.hole,.hole],[],[1,1],[.sl (.one (.int .i64)),.int .i64]⟩,out:=⟨[.hole],[],[2],[.int .i64]⟩,nres:=1,ms:=[],mu:=[],leak:=false,glob:=false,F:=fun (x:((List Int)×Int))=>slices_Index x.1 x.2 }
-- slices.Index[[]int,int]
def w8_g:List (Nat×Con):=[]
def w8_v:Env:=envOf tb gl w8_g w8_c Tryz.f145.ntmps
theorem w8_gs:Goods Tryz.prog (cond w8_c.glob gl fun _=>none) w8_g:=goods_nil
def w8_u0_h:SS:=⟨[0,1,7,8],⟨[.hole,.hole,.hole,.hole],[],[1,2,2,2],[.sl (.one (.int .i64)),.int .i64,.int .i64,.int .i64]⟩⟩
def w8_u0_e:Exs:=[((.exit 0),⟨[],⟨[],[],[],[]⟩⟩),(.ret,⟨[4],⟨[.hole],[],[2],[.int .i64]⟩⟩)]
def w8_u0_a:AC:=.run
def w8_u0:Un:=lpU w8_v.fz [9,10,5,11,12,13,14,15,16,17,4,18,8] w8_u0_h w8_u0_e (lp slices_Index_L0 fuel)
theorem w8_u0_s (f:w8_u0_h.X→Option (YT w8_u0_e)) (x:w8_u0_h.X):E w8_v (subC (bodyOf Tryz.f145) [1,0,1,0,0]) (w8_u0_a) (mkS w8_u0_h 8 x) (roundK w8_v.fz w8_u0_h w8_u0_e f)=slices_Index_L0 f x:=by kernel_rfl
theorem w8_u0_ok {X:Fx} (hX:VOk Tryz.prog X w8_v):UnOk Tryz.prog X w8_v (subC (bodyOf Tryz.f145) [1,0,1,0]) w8_u0 :=
 lp_un' (c:=(subC (bodyOf Tryz.f145) [1,0,1,0,0])) (by kernel_rfl) (env_all tb_ok (w8_gs)) hord (ob:=[]) (by kernel_rfl) (fun X hX=>obl_nil) (w8_u0_s) (by kernel_rfl) (by kernel_rfl) hX
def w8_a:AC:=(.seq .run (.seq (.seq .run (.block (.unit w8_u0))) .run))
theorem w8_s (x:TupL w8_c.inp.hs):E w8_v (bodyOf Tryz.f145) (w8_a) (w8_c.entry x) (retSK tb w8_v.fz w8_c [.tmp 4] x)=w8_c.F x:=by kernel_rfl
theorem w8_ok:ShOk Tryz.prog gl 145 w8_c :=
 fn_ok (l:=w8_g) (n:=Tryz.f145.ntmps) (code:=bodyOf Tryz.f145) (rts:=[.tmp 4]) tb_ok hord (w8_gs) Tryz.func145 (by kernel_rfl) (by kernel_rfl) rfl (by kernel_rfl) (ac:=w8_a) (ob:=[((subC (bodyOf Tryz.f145) [1,0,1,0]),w8_u0)]) (by kernel_rfl) (fun X hX=>(obl_cons (w8_u0_ok hX) obl_nil)) (by kernel_rfl) (w8_s)
def w9_c:ShC:={ inp:=⟨[.hole,.hole],[],[1,1],[.sl (.one (.int .i64)),.int .i64]⟩,out:=⟨[.hole],[],[2],[.bool]⟩,nres:=1,ms:=[],mu:=[],leak:=false,glob:=false,F:=fun (x:((List Int)×Int))=>slices_Contains x.1 x.2 }
-- slices.Contains[[]int,int]
def w9_g:List (Nat×Con):=[(145,.gen (altE [w8_c]))]
def w9_v:Env:=envOf tb gl w9_g w9_c Tryz.f78.ntmps
theorem w9_gs:Goods Tryz.prog (cond w9_c.glob gl fun _=>none) w9_g:=(goods_cons (good_alt (alls_cons (w8_ok.anyGl rfl) alls_nil)) goods_nil)
def w9_a:AC:=.run
theorem w9_s (x:TupL w9_c.inp.hs):E w9_v (bodyOf Tryz.f78) (w9_a) (w9_c.entry x) (retSK tb w9_v.fz w9_c [.tmp 4] x)=w9_c.F x:=by kernel_rfl
theorem w9_ok:ShOk Tryz.prog gl 78 w9_c :=
 fn_ok (l:=w9_g) (n:=Tryz.f78.ntmps) (code:=bodyOf Tryz.f78) (rts:=[.tmp 4]) tb_ok hord (w9_gs) Tryz.func78 (by kernel_rfl) (by kernel_rfl) rfl (by kernel_rfl) (ac:=w9_a) (ob:=[]) (by kernel_rfl) (fun X hX=>obl_nil) (by kernel_rfl) (w9_s)
def w10_c:ShC:={ inp:=⟨[.hole],[],[1],[.sl (.one (.int .i64))]⟩,out:=⟨[.hole],[],[2],[.bool]⟩,nres:=1,ms:=[],mu:=[],leak:=false,glob:=false,F:=fun (x:(List Int))=>ask_varsMay x }
-- ask.varsMay
def w10_g:List (Nat×Con):=[(78,.gen (altE [w9_c]))]
def w10_v:Env:=envOf tb gl w10_g w10_c Tryz.f53.ntmps
theorem w10_gs:Goods Tryz.prog (cond w10_c.glob gl fun _=>none) w10_g:=(goods_cons (good_alt (alls_cons (w9_ok.anyGl rfl) alls_nil)) goods_nil)
def w10_u0_h:SS:=⟨[0,5,6,7],⟨[.hole,.hole,.hole,.hole],[],[1,1,2,2],[.sl (.one (.int .i64)),.sl (.one (.int .i64)),.int .i64,.int .i64]⟩⟩
def w10_u0_e:Exs:=[((.exit 0),⟨[],⟨[],[],[],[]⟩⟩),(.ret,⟨[2],⟨[.hole],[],[2],[.bool]⟩⟩)]
def w10_u0_a:AC:=.run
def w10_u0:Un:=lpU w10_v.fz [8,9,10,11,3,4,12,13,14,15,16,17,18,19,20,21,22,23,24,2,25,7] w10_u0_h w10_u0_e (lp ask_varsMay_L0 fuel)
theorem w10_u0_s (f:w10_u0_h.X→Option (YT w10_u0_e)) (x:w10_u0_h.X):E w10_v (subC (bodyOf Tryz.f53) [1,0,1,0,0]) (w10_u0_a) (mkS w10_u0_h 8 x) (roundK w10_v.fz w10_u0_h w10_u0_e f)=ask_varsMay_L0 f x:=by kernel_rfl
theorem w10_u0_ok {X:Fx} (hX:VOk Tryz.prog X w10_v):UnOk Tryz.prog X w10_v (subC (bodyOf Tryz.f53) [1,0,1,0]) w10_u0 :=
 lp_un' (c:=(subC (bodyOf Tryz.f53) [1,0,1,0,0])) (by kernel_rfl) (env_all tb_ok (w10_gs)) hord (ob:=[]) (by kernel_rfl) (fun X hX=>obl_nil) (w10_u0_s) (by kernel_rfl) (by kernel_rfl) hX
def w10_a:AC:=(.seq .run (.seq (.seq .run (.block (.unit w10_u0))) .run))
theorem w10_s (x:TupL w10_c.inp.hs):E w10_v (bodyOf Tryz.f53) (w10_a) (w10_c.entry x) (retSK tb w10_v.fz w10_c [.tmp 2] x)=w10_c.F x:=by kernel_rfl
theorem w10_ok:ShOk Tryz.prog gl 53 w10_c :=
 fn_ok (l:=w10_g) (n:=Tryz.f53.ntmps) (code:=bodyOf Tryz.f53) (rts:=[.tmp 2]) tb_ok hord (w10_gs) Tryz.func53 (by kernel_rfl) (by kernel_rfl) rfl (by kernel_rfl) (ac:=w10_a) (ob:=[((subC (bodyOf Tryz.f53) [1,0,1,0]),w10_u0)]) (by kernel_rfl) (fun X hX=>(obl_cons (w10_u0_ok hX) obl_nil)) (by kernel_rfl) (w10_s)
def w11_c:ShC:={ inp:=⟨[.hole],[],[1],[.ns (.one (.int .i64))]⟩,out:=⟨[(.view 0)],[.seq false],[2],[.sl (.one (.int .i64))]⟩,nres:=1,ms:=[],mu:=[],leak:=false,glob:=false,F:=fun (x:(Option (List Int)))=>slices_Clone x }
-- slices.Clone[[]int,int]
def w11_g:List (Nat×Con):=[]
def w11_v:Env:=envOf tb gl w11_g w11_c Tryz.f115.ntmps
theorem w11_gs:Goods Tryz.prog (cond w11_c.glob gl fun _=>none) w11_g:=goods_nil
def w11_a:AC:=.run
theorem w11_s (x:TupL w11_c.inp.hs):E w11_v (bodyOf Tryz.f115) (w11_a) (w11_c.entry x) (retSK tb w11_v.fz w11_c [.tmp 2] x)=w11_c.F x:=by kernel_rfl
theorem w11_ok:ShOk Tryz.prog gl 115 w11_c :=
 fn_ok (l:=w11_g) (n:=Tryz.f115.ntmps) (code:=bodyOf Tryz.f115) (rts:=[.tmp 2]) tb_ok hord (w11_gs) Tryz.func115 (by kernel_rfl) (by kernel_rfl) rfl (by kernel_rfl) (ac:=w11_a) (ob:=[]) (by kernel_rfl) (fun X hX=>obl_nil) (by kernel_rfl) (w11_s)
def w12_c:ShC:={ inp:=⟨[.nilv],[],[],[]⟩,out:=⟨[(.view 0)],[.seq false],[2],[.sl (.one (.int .i64))]⟩,nres:=1,ms:=[],mu:=[],leak:=false,glob:=false,F:=fun (x:Unit)=>slices_Clone_1 }
-- slices.Clone[[]int,int]
def w12_g:List (Nat×Con):=[]
def w12_v:Env:=envOf tb gl w12_g w12_c Tryz.f115.ntmps
theorem w12_gs:Goods Tryz.prog (cond w12_c.glob gl fun _=>none) w12_g:=goods_nil
def w12_a:AC:=.run
theorem w12_s (x:TupL w12_c.inp.hs):E w12_v (bodyOf Tryz.f115) (w12_a) (w12_c.entry x) (retSK tb w12_v.fz w12_c [.tmp 2] x)=w12_c.F x:=by kernel_rfl
theorem w12_ok:ShOk Tryz.prog gl 115 w12_c :=
 fn_ok (l:=w12_g) (n:=Tryz.f115.ntmps) (code:=bodyOf Tryz.f115) (rts:=[.tmp 2]) tb_ok hord (w12_gs) Tryz.func115 (by kernel_rfl) (by kernel_rfl) rfl (by kernel_rfl) (ac:=w12_a) (ob:=[]) (by kernel_rfl) (fun X hX=>obl_nil) (by kernel_rfl) (w12_s)
def w13_c:ShC:={ inp:=⟨[.hole],[],[1],[.sl (.one (.int .i64))]⟩,out:=⟨[(.view 0)],[.seq false],[2],[.sl (.one (.int .i64))]⟩,nres:=1,ms:=[],mu:=[],leak:=false,glob:=false,F:=fun (x:(List Int))=>slices_CloneN x }
-- slices.Clone[[]int,int]
theorem w13_ok:ShOk Tryz.prog gl 115 w13_c :=
 sh_nil w12_ok w11_ok fun xs y h=>⟨h,fun e=>by subst e; exact h⟩
def w14_c:ShC:={ inp:=⟨[(.agg [.hole,.hole])],[],[1,1],[.bool,.sl (.one (.int .i64))]⟩,out:=⟨[(.agg [.hole,(.view 0)])],[.seq false],[2,2],[.bool,.sl (.one (.int .i64))]⟩,nres:=1,ms:=[],mu:=[],leak:=false,glob:=false,F:=fun (x:QLit)=>lit_Opposite x.1 x.2 }
-- lit.Opposite
def w14_g:List (Nat×Con):=[(115,.gen (altE [w13_c]))]
def w14_v:Env:=envOf tb gl w14_g w14_c Tryz.f54.ntmps
theorem w14_gs:Goods Tryz.prog (cond w14_c.glob gl fun _=>none) w14_g:=(goods_cons (good_alt (alls_cons (w13_ok.anyGl rfl) alls_nil)) goods_nil)
def w14_a:AC:=.run
theorem w14_s (x:TupL w14_c.inp.hs):E w14_v (bodyOf Tryz.f54) (w14_a) (w14_c.entry x) (retSK tb w14_v.fz w14_c [.cell 2 69] x)=w14_c.F x:=by kernel_rfl
theorem w14_ok:ShOk Tryz.prog gl 54 w14_c :=
 fn_ok (l:=w14_g) (n:=Tryz.f54.ntmps) (code:=bodyOf Tryz.f54) (rts:=[.cell 2 69]) tb_ok hord (w14_gs) Tryz.func54 (by kernel_rfl) (by kernel_rfl) rfl (by kernel_rfl) (ac:=w14_a) (ob:=[]) (by kernel_rfl) (fun X hX=>obl_nil) (by kernel_rfl) (w14_s)
def w15_c:ShC:={ inp:=⟨[.hole],[],[1],[.int .i64]⟩,out:=⟨[.hole],[],[2],[.int .i64]⟩,nres:=1,ms:=[],mu:=[],leak:=false,glob:=false,F:=fun (x:Int)=>term_Number x }
-- term.Number
def w15_g:List (Nat×Con):=[]
def w15_v:Env:=envOf tb gl w15_g w15_c Tryz.f55.ntmps
theorem w15_gs:Goods Tryz.prog (cond w15_c.glob gl fun _=>none) w15_g:=goods_nil
def w15_a:AC:=.run
theorem w15_s (x:TupL w15_c.inp.hs):E w15_v (bodyOf Tryz.f55) (w15_a) (w15_c.entry x) (retSK tb w15_v.fz w15_c [.tmp 2] x)=w15_c.F x:=by kernel_rfl
theorem w15_ok:ShOk Tryz.prog gl 55 w15_c :=
 fn_ok (l:=w15_g) (n:=Tryz.f55.ntmps) (code:=bodyOf Tryz.f55) (rts:=[.tmp 2]) tb_ok hord (w15_gs) Tryz.func55 (by kernel_rfl) (by kernel_rfl) rfl (by kernel_rfl) (ac:=w15_a) (ob:=[]) (by kernel_rfl) (fun X hX=>obl_nil) (by kernel_rfl) (w15_s)
def w16_c:ShC:={ inp:=⟨[.hole,.hole],[],[1,1],[.sl tSym,.int .i64]⟩,out:=⟨[.hole,.hole],[],[2,2],[.int .i64,.bool]⟩,nres:=2,ms:=[],mu:=[],leak:=false,glob:=false,F:=fun (x:((List QSym)×Int))=>term_args x.1 x.2 }
-- term.args
def w16_g:List (Nat×Con):=[(55,.gen (altE [w15_c]))]
def w16_v:Env:=envOf tb gl w16_g w16_c Tryz.f193.ntmps
theorem w16_gs:Goods Tryz.prog (cond w16_c.glob gl fun _=>none) w16_g:=(goods_cons (good_alt (alls_cons (w15_ok.anyGl rfl) alls_nil)) goods_nil)
def w16_a:AC:=.run
theorem w16_s (x:TupL w16_c.inp.hs):E w16_v (bodyOf Tryz.f193) (w16_a) (w16_c.entry x) (retSK tb w16_v.fz w16_c [.tmp 4,.tmp 5] x)=w16_c.F x:=by kernel_rfl
theorem w16_ok:ShOk Tryz.prog gl 193 w16_c :=
 fn_ok (l:=w16_g) (n:=Tryz.f193.ntmps) (code:=bodyOf Tryz.f193) (rts:=[.tmp 4,.tmp 5]) tb_ok hord (w16_gs) Tryz.func193 (by kernel_rfl) (by kernel_rfl) rfl (by kernel_rfl) (ac:=w16_a) (ob:=[]) (by kernel_rfl) (fun X hX=>obl_nil) (by kernel_rfl) (w16_s)
def w17_c:ShC:={ inp:=⟨[.hole,.hole,.hole],[],[1,1,1],[.sl tSym,.sl (.one (.int .i64)),.int .i64]⟩,out:=⟨[.hole,.hole],[],[2,2],[.int .i64,.bool]⟩,nres:=2,ms:=[],mu:=[],leak:=false,glob:=false,F:=fun (x:((List QSym)×(List Int)×Int))=>term_Skip x.1 x.2.1 x.2.2 }
-- term.Skip
def w17_g:List (Nat×Con):=[(193,.gen (altE [w16_c]))]
def w17_v:Env:=envOf tb gl w17_g w17_c Tryz.f151.ntmps
theorem w17_gs:Goods Tryz.prog (cond w17_c.glob gl fun _=>none) w17_g:=(goods_cons (good_alt (alls_cons (w16_ok.anyGl rfl) alls_nil)) goods_nil)
def w17_u0_j:Exs:=[(.goto 0,⟨[0,1,2,8],⟨[.hole,.hole,.hole,.hole],[],[1,1,2,2],[.sl tSym,.sl (.one (.int .i64)),.int .i64,.int .i64]⟩⟩)]
def w17_u0_e:Exs:=[(.ret,⟨[6,7],⟨[.hole,.hole],[],[2,2],[.int .i64,.bool]⟩⟩)]
def w17_u0_a:AC:=.run
def w17_u0_l:List (Nat×AC):=[]
def w17_u0:Un:=scU w17_v [8,11,12,13,14,6,7,16,17,18,19,20,21,15,22,23,9,10,24,25,6,7,26,27,2,28,29,30,31,8,32,33,34,6,7] w17_u0_j w17_u0_e (subC (bodyOf Tryz.f151) [1,0]) (w17_u0_a) (lp term_Skip_L0 fuel)
theorem w17_u0_s (f:YT w17_u0_j→Option (YT w17_u0_e)) (x:YT w17_u0_j):passE w17_v (subC (bodyOf Tryz.f151) [1,0]) (acsOf (w17_u0_l)) w17_u0_j w17_u0_e f x=term_Skip_L0 f x:=by kernel_rfl
theorem w17_u0_ok {X:Fx} (hX:VOk Tryz.prog X w17_v):UnOk Tryz.prog X w17_v (subC (bodyOf Tryz.f151) [1]) w17_u0 :=
 sc_un' (c:=(subC (bodyOf Tryz.f151) [1,0])) (by kernel_rfl) (env_all tb_ok (w17_gs)) hord (ob:=[]) (by kernel_rfl) (fun X hX=>obl_nil) (fun X hX=>acs_ok acl_nil) (w17_u0_s) (by kernel_rfl) (by kernel_rfl) (by kernel_rfl) hX
def w17_a:AC:=(.seq .run (.unit w17_u0))
theorem w17_s (x:TupL w17_c.inp.hs):E w17_v (bodyOf Tryz.f151) (w17_a) (w17_c.entry x) (retSK tb w17_v.fz w17_c [.tmp 6,.tmp 7] x)=w17_c.F x:=by kernel_rfl
theorem w17_ok:ShOk Tryz.prog gl 151 w17_c :=
 fn_ok (l:=w17_g) (n:=Tryz.f151.ntmps) (code:=bodyOf Tryz.f151) (rts:=[.tmp 6,.tmp 7]) tb_ok hord (w17_gs) Tryz.func151 (by kernel_rfl) (by kernel_rfl) rfl (by kernel_rfl) (ac:=w17_a) (ob:=[((subC (bodyOf Tryz.f151) [1]),w17_u0)]) (by kernel_rfl) (fun X hX=>(obl_cons (w17_u0_ok hX) obl_nil)) (by kernel_rfl) (w17_s)
def w18_c:ShC:={ inp:=⟨[.hole,.hole],[],[1,1],[.sl tSym,.sl (.one (.int .i64))]⟩,out:=⟨[(.view 0),.hole],[.seq false],[2,2],[.bool,.sl (.one (.int .i64))]⟩,nres:=2,ms:=[],mu:=[],leak:=false,glob:=true,F:=fun (x:((List QSym)×(List Int)))=>term_begins x.1 x.2 }
-- term.begins
def w18_g:List (Nat×Con):=[(52,.gen (altE [w7_c])),(151,.gen (altE [w17_c]))]
def w18_v:Env:=envOf tb gl w18_g w18_c Tryz.f158.ntmps
theorem w18_gs:Goods Tryz.prog (cond w18_c.glob gl fun _=>none) w18_g:=(goods_cons (good_alt (alls_cons w7_ok alls_nil)) (goods_cons (good_alt (alls_cons (w17_ok.anyGl rfl) alls_nil)) goods_nil))
def w18_u0_j:Exs:=[(.goto 0,⟨[0,1,6,7],⟨[.hole,.hole,(.view 0),.hole],[.seq false],[1,1,2,2],[.sl tSym,.sl (.one (.int .i64)),.int .i64,.sl (.one (.int .i64))]⟩⟩)]
def w18_u0_e:Exs:=[(.ret,⟨[4,5],⟨[(.view 0),.hole],[.seq false],[2,2],[.bool,.sl (.one (.int .i64))]⟩⟩)]
def w18_u0_a:AC:=.run
def w18_u0_l:List (Nat×AC):=[]
def w18_u0:Un:=scU w18_v [10,11,12,13,14,15,16,17,4,5,6,7,18,19,20,21,22,4,5,24,25,26,27,23,28,29,8,9,30,31,4,5,32,33,34,35,6,36,7] w18_u0_j w18_u0_e (subC (bodyOf Tryz.f158) [1,0]) (w18_u0_a) (lp term_begins_L0 fuel)
theorem w18_u0_s (f:YT w18_u0_j→Option (YT w18_u0_e)) (x:YT w18_u0_j):passE w18_v (subC (bodyOf Tryz.f158) [1,0]) (acsOf (w18_u0_l)) w18_u0_j w18_u0_e f x=term_begins_L0 f x:=by kernel_rfl
theorem w18_u0_ok {X:Fx} (hX:VOk Tryz.prog X w18_v):UnOk Tryz.prog X w18_v (subC (bodyOf Tryz.f158) [1]) w18_u0 :=
 sc_un' (c:=(subC (bodyOf Tryz.f158) [1,0])) (by kernel_rfl) (env_all tb_ok (w18_gs)) hord (ob:=[]) (by kernel_rfl) (fun X hX=>obl_nil) (fun X hX=>acs_ok acl_nil) (w18_u0_s) (by kernel_rfl) (by kernel_rfl) (by kernel_rfl) hX
def w18_a:AC:=(.seq .run (.unit w18_u0))
theorem w18_s (x:TupL w18_c.inp.hs):E w18_v (bodyOf Tryz.f158) (w18_a) (w18_c.entry x) (retSK tb w18_v.fz w18_c [.tmp 4,.tmp 5] x)=w18_c.F x:=by kernel_rfl
theorem w18_ok:ShOk Tryz.prog gl 158 w18_c :=
 fn_ok (l:=w18_g) (n:=Tryz.f158.ntmps) (code:=bodyOf Tryz.f158) (rts:=[.tmp 4,.tmp 5]) tb_ok hord (w18_gs) Tryz.func158 (by kernel_rfl) (by kernel_rfl) rfl (by kernel_rfl) (ac:=w18_a) (ob:=[((subC (bodyOf Tryz.f158) [1]),w18_u0)]) (by kernel_rfl) (fun X hX=>(obl_cons (w18_u0_ok hX) obl_nil)) (by kernel_rfl) (w18_s)
def w19_c:ShC:={ inp:=⟨[.hole,.hole],[],[1,1],[.sl tSym,.sl (.one (.int .i64))]⟩,out:=⟨[.hole],[],[2],[.bool]⟩,nres:=1,ms:=[],mu:=[],leak:=false,glob:=true,F:=fun (x:((List QSym)×(List Int)))=>term_IsAtom x.1 x.2 }
-- term.IsAtom
def w19_g:List (Nat×Con):=[(158,.gen (altE [w18_c]))]
def w19_v:Env:=envOf tb gl w19_g w19_c Tryz.f101.ntmps
theorem w19_gs:Goods Tryz.prog (cond w19_c.glob gl fun _=>none) w19_g:=(goods_cons (good_alt (alls_cons w18_ok alls_nil)) goods_nil)
def w19_a:AC:=.run
theorem w19_s (x:TupL w19_c.inp.hs):E w19_v (bodyOf Tryz.f101) (w19_a) (w19_c.entry x) (retSK tb w19_v.fz w19_c [.tmp 4] x)=w19_c.F x:=by kernel_rfl
theorem w19_ok:ShOk Tryz.prog gl 101 w19_c :=
 fn_ok (l:=w19_g) (n:=Tryz.f101.ntmps) (code:=bodyOf Tryz.f101) (rts:=[.tmp 4]) tb_ok hord (w19_gs) Tryz.func101 (by kernel_rfl) (by kernel_rfl) rfl (by kernel_rfl) (ac:=w19_a) (ob:=[]) (by kernel_rfl) (fun X hX=>obl_nil) (by kernel_rfl) (w19_s)
def w20_c:ShC:={ inp:=⟨[.hole,(.agg [.hole,.hole])],[],[1,1,1],[.sl tSym,.bool,.sl (.one (.int .i64))]⟩,out:=⟨[.hole],[],[2],[.bool]⟩,nres:=1,ms:=[],mu:=[],leak:=false,glob:=true,F:=fun (x:((List QSym)×Bool×(List Int)))=>lit_May x.1 x.2.1 x.2.2 }
-- lit.May
def w20_g:List (Nat×Con):=[(101,.gen (altE [w19_c]))]
def w20_v:Env:=envOf tb gl w20_g w20_c Tryz.f142.ntmps
theorem w20_gs:Goods Tryz.prog (cond w20_c.glob gl fun _=>none) w20_g:=(goods_cons (good_alt (alls_cons w19_ok alls_nil)) goods_nil)
def w20_a:AC:=.run
theorem w20_s (x:TupL w20_c.inp.hs):E w20_v (bodyOf Tryz.f142) (w20_a) (w20_c.entry x) (retSK tb w20_v.fz w20_c [.tmp 4] x)=w20_c.F x:=by kernel_rfl
theorem w20_ok:ShOk Tryz.prog gl 142 w20_c :=
 fn_ok (l:=w20_g) (n:=Tryz.f142.ntmps) (code:=bodyOf Tryz.f142) (rts:=[.tmp 4]) tb_ok hord (w20_gs) Tryz.func142 (by kernel_rfl) (by kernel_rfl) rfl (by kernel_rfl) (ac:=w20_a) (ob:=[]) (by kernel_rfl) (fun X hX=>obl_nil) (by kernel_rfl) (w20_s)
def w21_c:ShC:={ inp:=⟨[.hole,.hole],[],[1,1],[.sl tSym,.sl tLit]⟩,out:=⟨[.hole,.hole],[],[2,2],[.int .i64,.bool]⟩,nres:=2,ms:=[],mu:=[],leak:=false,glob:=true,F:=fun (x:((List QSym)×(List QLit)))=>clause_litsMay x.1 x.2 }
-- clause.litsMay
def w21_g:List (Nat×Con):=[(142,.gen (altE [w20_c]))]
def w21_v:Env:=envOf tb gl w21_g w21_c Tryz.f104.ntmps
theorem w21_gs:Goods Tryz.prog (cond w21_c.glob gl fun _=>none) w21_g:=(goods_cons (good_alt (alls_cons w20_ok alls_nil)) goods_nil)
def w21_u0_h:SS:=⟨[0,6,9,10,11],⟨[.hole,.hole,.hole,.hole,.hole],[],[1,2,1,2,2],[.sl tSym,.int .i64,.sl tLit,.int .i64,.int .i64]⟩⟩
def w21_u0_e:Exs:=[((.exit 0),⟨[6],⟨[.hole],[],[2],[.int .i64]⟩⟩),(.ret,⟨[4,5],⟨[.hole,.hole],[],[2,2],[.int .i64,.bool]⟩⟩)]
def w21_u0_a:AC:=.run
def w21_u0:Un:=lpU w21_v.fz [12,13,14,8,15,16,17,18,4,5,19,20,21,22,23,6,24,11] w21_u0_h w21_u0_e (lp clause_litsMay_L0 fuel)
theorem w21_u0_s (f:w21_u0_h.X→Option (YT w21_u0_e)) (x:w21_u0_h.X):E w21_v (subC (bodyOf Tryz.f104) [1,1,0,1,0,0]) (w21_u0_a) (mkS w21_u0_h 8 x) (roundK w21_v.fz w21_u0_h w21_u0_e f)=clause_litsMay_L0 f x:=by kernel_rfl
theorem w21_u0_ok {X:Fx} (hX:VOk Tryz.prog X w21_v):UnOk Tryz.prog X w21_v (subC (bodyOf Tryz.f104) [1,1,0,1,0]) w21_u0 :=
 lp_un' (c:=(subC (bodyOf Tryz.f104) [1,1,0,1,0,0])) (by kernel_rfl) (env_all tb_ok (w21_gs)) hord (ob:=[]) (by kernel_rfl) (fun X hX=>obl_nil) (w21_u0_s) (by kernel_rfl) (by kernel_rfl) hX
def w21_a:AC:=(.seq .run (.seq .run (.seq (.seq .run (.block (.unit w21_u0))) .run)))
theorem w21_s (x:TupL w21_c.inp.hs):E w21_v (bodyOf Tryz.f104) (w21_a) (w21_c.entry x) (retSK tb w21_v.fz w21_c [.tmp 4,.tmp 5] x)=w21_c.F x:=by kernel_rfl
theorem w21_ok:ShOk Tryz.prog gl 104 w21_c :=
 fn_ok (l:=w21_g) (n:=Tryz.f104.ntmps) (code:=bodyOf Tryz.f104) (rts:=[.tmp 4,.tmp 5]) tb_ok hord (w21_gs) Tryz.func104 (by kernel_rfl) (by kernel_rfl) rfl (by kernel_rfl) (ac:=w21_a) (ob:=[((subC (bodyOf Tryz.f104) [1,1,0,1,0]),w21_u0)]) (by kernel_rfl) (fun X hX=>(obl_cons (w21_u0_ok hX) obl_nil)) (by kernel_rfl) (w21_s)
def w22_c:ShC:={ inp:=⟨[.hole,.hole],[],[1,1],[.sl tSym,.sl (.one (.int .i64))]⟩,out:=⟨[.hole,.hole],[],[2,2],[.int .i64,.int .i64]⟩,nres:=2,ms:=[],mu:=[],leak:=false,glob:=true,F:=fun (x:((List QSym)×(List Int)))=>term_Row x.1 x.2 }
-- term.Row
def w22_g:List (Nat×Con):=[(158,.gen (altE [w18_c]))]
def w22_v:Env:=envOf tb gl w22_g w22_c Tryz.f162.ntmps
theorem w22_gs:Goods Tryz.prog (cond w22_c.glob gl fun _=>none) w22_g:=(goods_cons (good_alt (alls_cons w18_ok alls_nil)) goods_nil)
def w22_a:AC:=.run
theorem w22_s (x:TupL w22_c.inp.hs):E w22_v (bodyOf Tryz.f162) (w22_a) (w22_c.entry x) (retSK tb w22_v.fz w22_c [.tmp 4,.tmp 5] x)=w22_c.F x:=by kernel_rfl
theorem w22_ok:ShOk Tryz.prog gl 162 w22_c :=
 fn_ok (l:=w22_g) (n:=Tryz.f162.ntmps) (code:=bodyOf Tryz.f162) (rts:=[.tmp 4,.tmp 5]) tb_ok hord (w22_gs) Tryz.func162 (by kernel_rfl) (by kernel_rfl) rfl (by kernel_rfl) (ac:=w22_a) (ob:=[]) (by kernel_rfl) (fun X hX=>obl_nil) (by kernel_rfl) (w22_s)
def w23_c:ShC:={ inp:=⟨[.hole,.hole],[],[1,1],[.sl tSym,.sl (.one (.sl (.one (.int .i64))))]⟩,out:=⟨[.hole,.hole],[],[2,2],[.int .i64,.bool]⟩,nres:=2,ms:=[],mu:=[],leak:=false,glob:=true,F:=fun (x:((List QSym)×(List (List Int))))=>clause_rowsMay x.1 x.2 }
-- clause.rowsMay
def w23_g:List (Nat×Con):=[(162,.gen (altE [w22_c]))]
def w23_v:Env:=envOf tb gl w23_g w23_c Tryz.f105.ntmps
theorem w23_gs:Goods Tryz.prog (cond w23_c.glob gl fun _=>none) w23_g:=(goods_cons (good_alt (alls_cons w22_ok alls_nil)) goods_nil)
def w23_u0_h:SS:=⟨[0,6,7,12,13,14],⟨[.hole,.hole,.hole,.hole,.hole,.hole],[],[1,2,2,1,2,2],[.sl tSym,.int .i64,.int .i64,.sl (.one (.sl (.one (.int .i64)))),.int .i64,.int .i64]⟩⟩
def w23_u0_e:Exs:=[((.exit 0),⟨[6],⟨[.hole],[],[2],[.int .i64]⟩⟩),(.ret,⟨[4,5],⟨[.hole,.hole],[],[2,2],[.int .i64,.bool]⟩⟩)]
def w23_u0_a:AC:=.run
def w23_u0:Un:=lpU w23_v.fz [15,16,17,18,8,9,20,21,22,19,23,24,10,11,25,26,27,7,28,29,30,31,32,33,34,4,5,35,36,37,38,6,39,14] w23_u0_h w23_u0_e (lp clause_rowsMay_L0 fuel)
theorem w23_u0_s (f:w23_u0_h.X→Option (YT w23_u0_e)) (x:w23_u0_h.X):E w23_v (subC (bodyOf Tryz.f105) [1,1,0,1,0,0]) (w23_u0_a) (mkS w23_u0_h 8 x) (roundK w23_v.fz w23_u0_h w23_u0_e f)=clause_rowsMay_L0 f x:=by kernel_rfl
theorem w23_u0_ok {X:Fx} (hX:VOk Tryz.prog X w23_v):UnOk Tryz.prog X w23_v (subC (bodyOf Tryz.f105) [1,1,0,1,0]) w23_u0 :=
 lp_un' (c:=(subC (bodyOf Tryz.f105) [1,1,0,1,0,0])) (by kernel_rfl) (env_all tb_ok (w23_gs)) hord (ob:=[]) (by kernel_rfl) (fun X hX=>obl_nil) (w23_u0_s) (by kernel_rfl) (by kernel_rfl) hX
def w23_a:AC:=(.seq .run (.seq .run (.seq (.seq .run (.block (.unit w23_u0))) .run)))
theorem w23_s (x:TupL w23_c.inp.hs):E w23_v (bodyOf Tryz.f105) (w23_a) (w23_c.entry x) (retSK tb w23_v.fz w23_c [.tmp 4,.tmp 5] x)=w23_c.F x:=by kernel_rfl
theorem w23_ok:ShOk Tryz.prog gl 105 w23_c :=
 fn_ok (l:=w23_g) (n:=Tryz.f105.ntmps) (code:=bodyOf Tryz.f105) (rts:=[.tmp 4,.tmp 5]) tb_ok hord (w23_gs) Tryz.func105 (by kernel_rfl) (by kernel_rfl) rfl (by kernel_rfl) (ac:=w23_a) (ob:=[((subC (bodyOf Tryz.f105) [1,1,0,1,0]),w23_u0)]) (by kernel_rfl) (fun X hX=>(obl_cons (w23_u0_ok hX) obl_nil)) (by kernel_rfl) (w23_s)
def w24_c:ShC:={ inp:=⟨[.hole,(.agg [.hole,.hole,.hole])],[],[1,1,1,1],[.sl tSym,.sl tLit,.sl (.one (.sl (.one (.int .i64)))),.sl tLit]⟩,out:=⟨[.hole],[],[2],[.bool]⟩,nres:=1,ms:=[],mu:=[],leak:=false,glob:=true,F:=fun (x:((List QSym)×(List QLit)×(List (List Int))×(List QLit)))=>clause_May x.1 x.2.1 x.2.2.1 x.2.2.2 }
-- clause.May
def w24_g:List (Nat×Con):=[(52,.gen (altE [w7_c])),(104,.gen (altE [w21_c])),(105,.gen (altE [w23_c]))]
def w24_v:Env:=envOf tb gl w24_g w24_c Tryz.f42.ntmps
theorem w24_gs:Goods Tryz.prog (cond w24_c.glob gl fun _=>none) w24_g:=(goods_cons (good_alt (alls_cons w7_ok alls_nil)) (goods_cons (good_alt (alls_cons w21_ok alls_nil)) (goods_cons (good_alt (alls_cons w23_ok alls_nil)) goods_nil)))
def w24_a:AC:=.run
theorem w24_s (x:TupL w24_c.inp.hs):E w24_v (bodyOf Tryz.f42) (w24_a) (w24_c.entry x) (retSK tb w24_v.fz w24_c [.tmp 4] x)=w24_c.F x:=by kernel_rfl
theorem w24_ok:ShOk Tryz.prog gl 42 w24_c :=
 fn_ok (l:=w24_g) (n:=Tryz.f42.ntmps) (code:=bodyOf Tryz.f42) (rts:=[.tmp 4]) tb_ok hord (w24_gs) Tryz.func42 (by kernel_rfl) (by kernel_rfl) rfl (by kernel_rfl) (ac:=w24_a) (ob:=[]) (by kernel_rfl) (fun X hX=>obl_nil) (by kernel_rfl) (w24_s)
def w25_c:ShC:={ inp:=⟨[.hole,.hole],[],[1,1],[.sl (.one (.int .i64)),.sl (.one (.int .i64))]⟩,out:=⟨[.hole],[],[2],[.bool]⟩,nres:=1,ms:=[],mu:=[],leak:=false,glob:=false,F:=fun (x:((List Int)×(List Int)))=>slices_Equal x.1 x.2 }
-- slices.Equal[[]int,int]
def w25_g:List (Nat×Con):=[]
def w25_v:Env:=envOf tb gl w25_g w25_c Tryz.f102.ntmps
theorem w25_gs:Goods Tryz.prog (cond w25_c.glob gl fun _=>none) w25_g:=goods_nil
def w25_u0_h:SS:=⟨[0,1,12,13],⟨[.hole,.hole,.hole,.hole],[],[1,1,2,2],[.sl (.one (.int .i64)),.sl (.one (.int .i64)),.int .i64,.int .i64]⟩⟩
def w25_u0_e:Exs:=[((.exit 0),⟨[],⟨[],[],[],[]⟩⟩),(.ret,⟨[4],⟨[.hole],[],[2],[.bool]⟩⟩)]
def w25_u0_a:AC:=.run
def w25_u0:Un:=lpU w25_v.fz [14,15,5,16,17,18,19,20,21,22,23,24,4,25,13] w25_u0_h w25_u0_e (lp slices_Equal_L0 fuel)
theorem w25_u0_s (f:w25_u0_h.X→Option (YT w25_u0_e)) (x:w25_u0_h.X):E w25_v (subC (bodyOf Tryz.f102) [1,1,0,1,0,0]) (w25_u0_a) (mkS w25_u0_h 8 x) (roundK w25_v.fz w25_u0_h w25_u0_e f)=slices_Equal_L0 f x:=by kernel_rfl
theorem w25_u0_ok {X:Fx} (hX:VOk Tryz.prog X w25_v):UnOk Tryz.prog X w25_v (subC (bodyOf Tryz.f102) [1,1,0,1,0]) w25_u0 :=
 lp_un' (c:=(subC (bodyOf Tryz.f102) [1,1,0,1,0,0])) (by kernel_rfl) (env_all tb_ok (w25_gs)) hord (ob:=[]) (by kernel_rfl) (fun X hX=>obl_nil) (w25_u0_s) (by kernel_rfl) (by kernel_rfl) hX
def w25_a:AC:=(.seq .run (.seq .run (.seq (.seq .run (.block (.unit w25_u0))) .run)))
theorem w25_s (x:TupL w25_c.inp.hs):E w25_v (bodyOf Tryz.f102) (w25_a) (w25_c.entry x) (retSK tb w25_v.fz w25_c [.tmp 4] x)=w25_c.F x:=by kernel_rfl
theorem w25_ok:ShOk Tryz.prog gl 102 w25_c :=
 fn_ok (l:=w25_g) (n:=Tryz.f102.ntmps) (code:=bodyOf Tryz.f102) (rts:=[.tmp 4]) tb_ok hord (w25_gs) Tryz.func102 (by kernel_rfl) (by kernel_rfl) rfl (by kernel_rfl) (ac:=w25_a) (ob:=[((subC (bodyOf Tryz.f102) [1,1,0,1,0]),w25_u0)]) (by kernel_rfl) (fun X hX=>(obl_cons (w25_u0_ok hX) obl_nil)) (by kernel_rfl) (w25_s)
def w26_c:ShC:={ inp:=⟨[(.agg [.hole,.hole]),(.agg [.hole,.hole])],[],[1,1,1,1],[.bool,.sl (.one (.int .i64)),.bool,.sl (.one (.int .i64))]⟩,out:=⟨[.hole],[],[2],[.bool]⟩,nres:=1,ms:=[],mu:=[],leak:=false,glob:=false,F:=fun (x:(Bool×(List Int)×Bool×(List Int)))=>lit_Same x.1 x.2.1 x.2.2.1 x.2.2.2 }
-- lit.Same
def w26_g:List (Nat×Con):=[(102,.gen (altE [w25_c]))]
def w26_v:Env:=envOf tb gl w26_g w26_c Tryz.f206.ntmps
theorem w26_gs:Goods Tryz.prog (cond w26_c.glob gl fun _=>none) w26_g:=(goods_cons (good_alt (alls_cons (w25_ok.anyGl rfl) alls_nil)) goods_nil)
def w26_a:AC:=.run
theorem w26_s (x:TupL w26_c.inp.hs):E w26_v (bodyOf Tryz.f206) (w26_a) (w26_c.entry x) (retSK tb w26_v.fz w26_c [.tmp 4] x)=w26_c.F x:=by kernel_rfl
theorem w26_ok:ShOk Tryz.prog gl 206 w26_c :=
 fn_ok (l:=w26_g) (n:=Tryz.f206.ntmps) (code:=bodyOf Tryz.f206) (rts:=[.tmp 4]) tb_ok hord (w26_gs) Tryz.func206 (by kernel_rfl) (by kernel_rfl) rfl (by kernel_rfl) (ac:=w26_a) (ob:=[]) (by kernel_rfl) (fun X hX=>obl_nil) (by kernel_rfl) (w26_s)
def w27_c:ShC:={ inp:=⟨[(.agg [.hole,.hole]),(.ptr 0 0)],[.cells true [.hole,.hole]],[1,1,1,1],[.bool,.sl (.one (.int .i64)),.bool,.sl (.one (.int .i64))]⟩,out:=⟨[.hole],[],[2],[.bool]⟩,nres:=1,ms:=[],mu:=[],leak:=false,glob:=false,F:=fun (x:(Bool×(List Int)×Bool×(List Int)))=>clause_once_c1 x.1 x.2.1 x.2.2.1 x.2.2.2 }
-- clause.once$1
def w27_g:List (Nat×Con):=[(206,.gen (altE [w26_c]))]
def w27_v:Env:=envOf tb gl w27_g w27_c Tryz.f205.ntmps
theorem w27_gs:Goods Tryz.prog (cond w27_c.glob gl fun _=>none) w27_g:=(goods_cons (good_alt (alls_cons (w26_ok.anyGl rfl) alls_nil)) goods_nil)
def w27_a:AC:=.run
theorem w27_s (x:TupL w27_c.inp.hs):E w27_v (bodyOf Tryz.f205) (w27_a) (w27_c.entry x) (retSK tb w27_v.fz w27_c [.tmp 3] x)=w27_c.F x:=by kernel_rfl
theorem w27_ok:ShOk Tryz.prog gl 205 w27_c :=
 fn_ok (l:=w27_g) (n:=Tryz.f205.ntmps) (code:=bodyOf Tryz.f205) (rts:=[.tmp 3]) tb_ok hord (w27_gs) Tryz.func205 (by kernel_rfl) (by kernel_rfl) rfl (by kernel_rfl) (ac:=w27_a) (ob:=[]) (by kernel_rfl) (fun X hX=>obl_nil) (by kernel_rfl) (w27_s)
def w28_c:ShC:={ inp:=⟨[.hole,(.clo 205 [(.ptr 0 0)])],[.cells true [.hole,.hole]],[1,1,1],[.sl tLit,.bool,.sl (.one (.int .i64))]⟩,out:=⟨[.hole],[],[2],[.int .i64]⟩,nres:=1,ms:=[],mu:=[],leak:=false,glob:=false,F:=fun (x:((List QLit)×Bool×(List Int)))=>slices_IndexFunc x.1 x.2.1 x.2.2 }
-- slices.IndexFunc[[]api.Lit,api.Lit]
def w28_g:List (Nat×Con):=[(205,.gen (altE [w27_c]))]
def w28_v:Env:=envOf tb gl w28_g w28_c Tryz.f183.ntmps
theorem w28_gs:Goods Tryz.prog (cond w28_c.glob gl fun _=>none) w28_g:=(goods_cons (good_alt (alls_cons (w27_ok.anyGl rfl) alls_nil)) goods_nil)
def w28_u0_h:SS:=⟨[0,1,7,8],⟨[.hole,(.clo 205 [(.ptr 0 0)]),.hole,.hole],[.cells true [.hole,.hole]],[1,2,2,2,1],[.sl tLit,.int .i64,.int .i64,.bool,.sl (.one (.int .i64))]⟩⟩
def w28_u0_e:Exs:=[((.exit 0),⟨[],⟨[],[],[],[]⟩⟩),(.ret,⟨[4],⟨[.hole],[],[2],[.int .i64]⟩⟩)]
def w28_u0_a:AC:=.run
def w28_u0:Un:=lpU w28_v.fz [9,10,5,11,12,13,14,15,16,17,4,18,8] w28_u0_h w28_u0_e (lp slices_IndexFunc_L0 fuel)
theorem w28_u0_s (f:w28_u0_h.X→Option (YT w28_u0_e)) (x:w28_u0_h.X):E w28_v (subC (bodyOf Tryz.f183) [1,0,1,0,0]) (w28_u0_a) (mkS w28_u0_h 8 x) (roundK w28_v.fz w28_u0_h w28_u0_e f)=slices_IndexFunc_L0 f x:=by kernel_rfl
theorem w28_u0_ok {X:Fx} (hX:VOk Tryz.prog X w28_v):UnOk Tryz.prog X w28_v (subC (bodyOf Tryz.f183) [1,0,1,0]) w28_u0 :=
 lp_un' (c:=(subC (bodyOf Tryz.f183) [1,0,1,0,0])) (by kernel_rfl) (env_all tb_ok (w28_gs)) hord (ob:=[]) (by kernel_rfl) (fun X hX=>obl_nil) (w28_u0_s) (by kernel_rfl) (by kernel_rfl) hX
def w28_a:AC:=(.seq .run (.seq (.seq .run (.block (.unit w28_u0))) .run))
theorem w28_s (x:TupL w28_c.inp.hs):E w28_v (bodyOf Tryz.f183) (w28_a) (w28_c.entry x) (retSK tb w28_v.fz w28_c [.tmp 4] x)=w28_c.F x:=by kernel_rfl
theorem w28_ok:ShOk Tryz.prog gl 183 w28_c :=
 fn_ok (l:=w28_g) (n:=Tryz.f183.ntmps) (code:=bodyOf Tryz.f183) (rts:=[.tmp 4]) tb_ok hord (w28_gs) Tryz.func183 (by kernel_rfl) (by kernel_rfl) rfl (by kernel_rfl) (ac:=w28_a) (ob:=[((subC (bodyOf Tryz.f183) [1,0,1,0]),w28_u0)]) (by kernel_rfl) (fun X hX=>(obl_cons (w28_u0_ok hX) obl_nil)) (by kernel_rfl) (w28_s)
def w29_c:ShC:={ inp:=⟨[.hole,(.clo 205 [(.ptr 0 0)])],[.cells true [.hole,.hole]],[1,1,1],[.sl tLit,.bool,.sl (.one (.int .i64))]⟩,out:=⟨[.hole],[],[2],[.bool]⟩,nres:=1,ms:=[],mu:=[],leak:=false,glob:=false,F:=fun (x:((List QLit)×Bool×(List Int)))=>slices_ContainsFunc x.1 x.2.1 x.2.2 }
-- slices.ContainsFunc[[]api.Lit,api.Lit]
def w29_g:List (Nat×Con):=[(183,.gen (altE [w28_c]))]
def w29_v:Env:=envOf tb gl w29_g w29_c Tryz.f133.ntmps
theorem w29_gs:Goods Tryz.prog (cond w29_c.glob gl fun _=>none) w29_g:=(goods_cons (good_alt (alls_cons (w28_ok.anyGl rfl) alls_nil)) goods_nil)
def w29_a:AC:=.run
theorem w29_s (x:TupL w29_c.inp.hs):E w29_v (bodyOf Tryz.f133) (w29_a) (w29_c.entry x) (retSK tb w29_v.fz w29_c [.tmp 4] x)=w29_c.F x:=by kernel_rfl
theorem w29_ok:ShOk Tryz.prog gl 133 w29_c :=
 fn_ok (l:=w29_g) (n:=Tryz.f133.ntmps) (code:=bodyOf Tryz.f133) (rts:=[.tmp 4]) tb_ok hord (w29_gs) Tryz.func133 (by kernel_rfl) (by kernel_rfl) rfl (by kernel_rfl) (ac:=w29_a) (ob:=[]) (by kernel_rfl) (fun X hX=>obl_nil) (by kernel_rfl) (w29_s)
def w30_c:ShC:={ inp:=⟨[.hole],[],[1],[.sl tLit]⟩,out:=⟨[(.view 0)],[.seq false],[0],[.sl tLit]⟩,nres:=1,ms:=[],mu:=[],leak:=true,glob:=false,F:=fun (x:(List QLit))=>clause_once x }
-- clause.once
def w30_g:List (Nat×Con):=[(133,.gen (altE [w29_c]))]
def w30_v:Env:=envOf tb gl w30_g w30_c Tryz.f168.ntmps
theorem w30_gs:Goods Tryz.prog (cond w30_c.glob gl fun _=>none) w30_g:=(goods_cons (good_alt (alls_cons (w29_ok.anyGl rfl) alls_nil)) goods_nil)
def w30_u0_h:SS:=⟨[3,6,7,8],⟨[(.view 0),.hole,.hole,.hole],[.seq false],[1,2,2,0],[.sl tLit,.int .i64,.int .i64,.sl tLit]⟩⟩
def w30_u0_e:Exs:=[((.exit 0),⟨[3],⟨[(.view 0)],[.seq false],[0],[.sl tLit]⟩⟩)]
def w30_u0_a:AC:=.run
def w30_u0:Un:=lpU w30_v.fz [9,10,11,5,12,13,14,15,16,17,18,19,3,20,8] w30_u0_h w30_u0_e (lp clause_once_L0 fuel)
theorem w30_u0_s (f:w30_u0_h.X→Option (YT w30_u0_e)) (x:w30_u0_h.X):E w30_v (subC (bodyOf Tryz.f168) [1,1,0,1,0,0]) (w30_u0_a) (mkS w30_u0_h 8 x) (roundK w30_v.fz w30_u0_h w30_u0_e f)=clause_once_L0 f x:=by kernel_rfl
theorem w30_u0_ok {X:Fx} (hX:VOk Tryz.prog X w30_v):UnOk Tryz.prog X w30_v (subC (bodyOf Tryz.f168) [1,1,0,1,0]) w30_u0 :=
 lp_un' (c:=(subC (bodyOf Tryz.f168) [1,1,0,1,0,0])) (by kernel_rfl) (env_all tb_ok (w30_gs)) hord (ob:=[]) (by kernel_rfl) (fun X hX=>obl_nil) (w30_u0_s) (by kernel_rfl) (by kernel_rfl) hX
def w30_a:AC:=(.seq .run (.seq .run (.seq (.seq .run (.block (.unit w30_u0))) .run)))
theorem w30_s (x:TupL w30_c.inp.hs):E w30_v (bodyOf Tryz.f168) (w30_a) (w30_c.entry x) (retSK tb w30_v.fz w30_c [.tmp 2] x)=w30_c.F x:=by kernel_rfl
theorem w30_ok:ShOk Tryz.prog gl 168 w30_c :=
 fn_ok (l:=w30_g) (n:=Tryz.f168.ntmps) (code:=bodyOf Tryz.f168) (rts:=[.tmp 2]) tb_ok hord (w30_gs) Tryz.func168 (by kernel_rfl) (by kernel_rfl) rfl (by kernel_rfl) (ac:=w30_a) (ob:=[((subC (bodyOf Tryz.f168) [1,1,0,1,0]),w30_u0)]) (by kernel_rfl) (fun X hX=>(obl_cons (w30_u0_ok hX) obl_nil)) (by kernel_rfl) (w30_s)
def w31_c:ShC:={ inp:=⟨[.hole,(.ptr 0 0)],[.cells true [.hole]],[1,1],[.sl (.one (.int .i64)),.sl (.one (.int .i64))]⟩,out:=⟨[.hole],[],[2],[.bool]⟩,nres:=1,ms:=[],mu:=[],leak:=false,glob:=false,F:=fun (x:((List Int)×(List Int)))=>clause_anew_c1 x.1 x.2 }
-- clause.anew$1
def w31_g:List (Nat×Con):=[(102,.gen (altE [w25_c]))]
def w31_v:Env:=envOf tb gl w31_g w31_c Tryz.f169.ntmps
theorem w31_gs:Goods Tryz.prog (cond w31_c.glob gl fun _=>none) w31_g:=(goods_cons (good_alt (alls_cons (w25_ok.anyGl rfl) alls_nil)) goods_nil)
def w31_a:AC:=.run
theorem w31_s (x:TupL w31_c.inp.hs):E w31_v (bodyOf Tryz.f169) (w31_a) (w31_c.entry x) (retSK tb w31_v.fz w31_c [.tmp 3] x)=w31_c.F x:=by kernel_rfl
theorem w31_ok:ShOk Tryz.prog gl 169 w31_c :=
 fn_ok (l:=w31_g) (n:=Tryz.f169.ntmps) (code:=bodyOf Tryz.f169) (rts:=[.tmp 3]) tb_ok hord (w31_gs) Tryz.func169 (by kernel_rfl) (by kernel_rfl) rfl (by kernel_rfl) (ac:=w31_a) (ob:=[]) (by kernel_rfl) (fun X hX=>obl_nil) (by kernel_rfl) (w31_s)
def w32_c:ShC:={ inp:=⟨[.hole,(.clo 169 [(.ptr 0 0)])],[.cells true [.hole]],[1,1],[.sl (.one (.sl (.one (.int .i64)))),.sl (.one (.int .i64))]⟩,out:=⟨[.hole],[],[2],[.int .i64]⟩,nres:=1,ms:=[],mu:=[],leak:=false,glob:=false,F:=fun (x:((List (List Int))×(List Int)))=>slices_IndexFunc_1 x.1 x.2 }
-- slices.IndexFunc[[][]int,[]int]
def w32_g:List (Nat×Con):=[(169,.gen (altE [w31_c]))]
def w32_v:Env:=envOf tb gl w32_g w32_c Tryz.f182.ntmps
theorem w32_gs:Goods Tryz.prog (cond w32_c.glob gl fun _=>none) w32_g:=(goods_cons (good_alt (alls_cons (w31_ok.anyGl rfl) alls_nil)) goods_nil)
def w32_u0_h:SS:=⟨[0,1,7,8],⟨[.hole,(.clo 169 [(.ptr 0 0)]),.hole,.hole],[.cells true [.hole]],[1,2,2,1],[.sl (.one (.sl (.one (.int .i64)))),.int .i64,.int .i64,.sl (.one (.int .i64))]⟩⟩
def w32_u0_e:Exs:=[((.exit 0),⟨[],⟨[],[],[],[]⟩⟩),(.ret,⟨[4],⟨[.hole],[],[2],[.int .i64]⟩⟩)]
def w32_u0_a:AC:=.run
def w32_u0:Un:=lpU w32_v.fz [9,10,5,11,12,13,14,15,16,17,4,18,8] w32_u0_h w32_u0_e (lp slices_IndexFunc_1_L0 fuel)
theorem w32_u0_s (f:w32_u0_h.X→Option (YT w32_u0_e)) (x:w32_u0_h.X):E w32_v (subC (bodyOf Tryz.f182) [1,0,1,0,0]) (w32_u0_a) (mkS w32_u0_h 8 x) (roundK w32_v.fz w32_u0_h w32_u0_e f)=slices_IndexFunc_1_L0 f x:=by kernel_rfl
theorem w32_u0_ok {X:Fx} (hX:VOk Tryz.prog X w32_v):UnOk Tryz.prog X w32_v (subC (bodyOf Tryz.f182) [1,0,1,0]) w32_u0 :=
 lp_un' (c:=(subC (bodyOf Tryz.f182) [1,0,1,0,0])) (by kernel_rfl) (env_all tb_ok (w32_gs)) hord (ob:=[]) (by kernel_rfl) (fun X hX=>obl_nil) (w32_u0_s) (by kernel_rfl) (by kernel_rfl) hX
def w32_a:AC:=(.seq .run (.seq (.seq .run (.block (.unit w32_u0))) .run))
theorem w32_s (x:TupL w32_c.inp.hs):E w32_v (bodyOf Tryz.f182) (w32_a) (w32_c.entry x) (retSK tb w32_v.fz w32_c [.tmp 4] x)=w32_c.F x:=by kernel_rfl
theorem w32_ok:ShOk Tryz.prog gl 182 w32_c :=
 fn_ok (l:=w32_g) (n:=Tryz.f182.ntmps) (code:=bodyOf Tryz.f182) (rts:=[.tmp 4]) tb_ok hord (w32_gs) Tryz.func182 (by kernel_rfl) (by kernel_rfl) rfl (by kernel_rfl) (ac:=w32_a) (ob:=[((subC (bodyOf Tryz.f182) [1,0,1,0]),w32_u0)]) (by kernel_rfl) (fun X hX=>(obl_cons (w32_u0_ok hX) obl_nil)) (by kernel_rfl) (w32_s)
def w33_c:ShC:={ inp:=⟨[.hole,(.clo 169 [(.ptr 0 0)])],[.cells true [.hole]],[1,1],[.sl (.one (.sl (.one (.int .i64)))),.sl (.one (.int .i64))]⟩,out:=⟨[.hole],[],[2],[.bool]⟩,nres:=1,ms:=[],mu:=[],leak:=false,glob:=false,F:=fun (x:((List (List Int))×(List Int)))=>slices_ContainsFunc_1 x.1 x.2 }
-- slices.ContainsFunc[[][]int,[]int]
def w33_g:List (Nat×Con):=[(182,.gen (altE [w32_c]))]
def w33_v:Env:=envOf tb gl w33_g w33_c Tryz.f132.ntmps
theorem w33_gs:Goods Tryz.prog (cond w33_c.glob gl fun _=>none) w33_g:=(goods_cons (good_alt (alls_cons (w32_ok.anyGl rfl) alls_nil)) goods_nil)
def w33_a:AC:=.run
theorem w33_s (x:TupL w33_c.inp.hs):E w33_v (bodyOf Tryz.f132) (w33_a) (w33_c.entry x) (retSK tb w33_v.fz w33_c [.tmp 4] x)=w33_c.F x:=by kernel_rfl
theorem w33_ok:ShOk Tryz.prog gl 132 w33_c :=
 fn_ok (l:=w33_g) (n:=Tryz.f132.ntmps) (code:=bodyOf Tryz.f132) (rts:=[.tmp 4]) tb_ok hord (w33_gs) Tryz.func132 (by kernel_rfl) (by kernel_rfl) rfl (by kernel_rfl) (ac:=w33_a) (ob:=[]) (by kernel_rfl) (fun X hX=>obl_nil) (by kernel_rfl) (w33_s)
def w34_c:ShC:={ inp:=⟨[.hole,(.aptr 0),(.ptr 1 0)],[.seq false,.cells false [.hole]],[1,1,1],[.sl (.one (.int .i64)),.sl (.one (.int .i64)),.int .i64]⟩,out:=⟨[(.view 0),(.aptr 1),(.ptr 2 0)],[.seq false,.seq false,.cells false [.hole]],[2,0,2],[.sl (.one (.int .i64)),.sl (.one (.int .i64)),.int .i64]⟩,nres:=1,ms:=[1,2],mu:=[(0,1),(1,2)],leak:=true,glob:=false,F:=fun (x:((List Int)×(List Int)×Int))=>clause_anew_c2_1 x.1 x.2.1 x.2.2 }
-- clause.anew$2
def w34_g:List (Nat×Con):=[(55,.gen (altE [w15_c])),(115,.gen (altE [w13_c]))]
def w34_v:Env:=envOf tb gl w34_g w34_c Tryz.f171.ntmps
theorem w34_gs:Goods Tryz.prog (cond w34_c.glob gl fun _=>none) w34_g:=(goods_cons (good_alt (alls_cons (w15_ok.anyGl rfl) alls_nil)) (goods_cons (good_alt (alls_cons (w13_ok.anyGl rfl) alls_nil)) goods_nil))
def w34_u0_h:SS:=⟨[1,2,5,10,11,12],⟨[(.aptr 0),(.ptr 1 0),(.view 2),(.view 2),.hole,.hole],[.seq false,.cells false [.hole],.seq false],[2,2,0,2,2],[.int .i64,.int .i64,.sl (.one (.int .i64)),.int .i64,.sl (.one (.int .i64))]⟩⟩
def w34_u0_e:Exs:=[((.exit 0),⟨[1,2,5],⟨[(.aptr 0),(.ptr 1 0),(.view 2)],[.seq false,.cells false [.hole],.seq false],[0,2,2],[.sl (.one (.int .i64)),.int .i64,.sl (.one (.int .i64))]⟩⟩)]
def w34_u0_a:AC:=.run
def w34_u0:Un:=lpU w34_v.fz [13,14,15,16,6,7,17,18,19,20,21,22,23,24,25,26,27,28,29,30,31,32,33,34,35,36,37,38,12] w34_u0_h w34_u0_e (lp clause_anew_c2_1_L0 fuel)
theorem w34_u0_s (f:w34_u0_h.X→Option (YT w34_u0_e)) (x:w34_u0_h.X):E w34_v (subC (bodyOf Tryz.f171) [1,1,0,1,0,0]) (w34_u0_a) (mkS w34_u0_h 8 x) (roundK w34_v.fz w34_u0_h w34_u0_e f)=clause_anew_c2_1_L0 f x:=by kernel_rfl
theorem w34_u0_ok {X:Fx} (hX:VOk Tryz.prog X w34_v):UnOk Tryz.prog X w34_v (subC (bodyOf Tryz.f171) [1,1,0,1,0]) w34_u0 :=
 lp_un' (c:=(subC (bodyOf Tryz.f171) [1,1,0,1,0,0])) (by kernel_rfl) (env_all tb_ok (w34_gs)) hord (ob:=[]) (by kernel_rfl) (fun X hX=>obl_nil) (w34_u0_s) (by kernel_rfl) (by kernel_rfl) hX
def w34_a:AC:=(.seq .run (.seq .run (.seq (.seq .run (.block (.unit w34_u0))) .run)))
theorem w34_s (x:TupL w34_c.inp.hs):E w34_v (bodyOf Tryz.f171) (w34_a) (w34_c.entry x) (retSK tb w34_v.fz w34_c [.tmp 4] x)=w34_c.F x:=by kernel_rfl
theorem w34_ok:ShOk Tryz.prog gl 171 w34_c :=
 fn_ok (l:=w34_g) (n:=Tryz.f171.ntmps) (code:=bodyOf Tryz.f171) (rts:=[.tmp 4]) tb_ok hord (w34_gs) Tryz.func171 (by kernel_rfl) (by kernel_rfl) rfl (by kernel_rfl) (ac:=w34_a) (ob:=[((subC (bodyOf Tryz.f171) [1,1,0,1,0]),w34_u0)]) (by kernel_rfl) (fun X hX=>(obl_cons (w34_u0_ok hX) obl_nil)) (by kernel_rfl) (w34_s)
def w35_c:ShC:={ inp:=⟨[(.agg [.hole,.hole,.hole]),(.clo 171 [(.aptr 0),(.ptr 1 0)])],[.seq false,.cells false [.hole]],[1,1,1,1,1],[.sl tLit,.sl (.one (.sl (.one (.int .i64)))),.sl tLit,.sl (.one (.int .i64)),.int .i64]⟩,out:=⟨[(.agg [.hole,.hole,(.view 0)]),(.clo 171 [(.aptr 1),(.ptr 2 0)])],[.seq false,.seq false,.cells false [.hole]],[2,2,2,0,2],[.sl tLit,.sl (.one (.sl (.one (.int .i64)))),.sl tLit,.sl (.one (.int .i64)),.int .i64]⟩,nres:=1,ms:=[1],mu:=[(0,1),(1,2)],leak:=true,glob:=false,F:=fun (x:((List QLit)×(List (List Int))×(List QLit)×(List Int)×Int))=>clause_each_1 x.1 x.2.1 x.2.2.1 x.2.2.2.1 x.2.2.2.2 }
-- clause.each
def w35_g:List (Nat×Con):=[(171,.gen (altE [w34_c]))]
def w35_v:Env:=envOf tb gl w35_g w35_c Tryz.f170.ntmps
theorem w35_gs:Goods Tryz.prog (cond w35_c.glob gl fun _=>none) w35_g:=(goods_cons (good_alt (alls_cons (w34_ok.anyGl rfl) alls_nil)) goods_nil)
def w35_u2_h:SS:=⟨[1,4,5,49,50,51],⟨[(.clo 171 [(.aptr 0),(.ptr 1 0)]),(.ptr 2 0),(.ptr 3 0),.hole,.hole,.hole],[.seq false,.cells false [.hole],.cells true [.nilv,.nilv,.nilv],.cells false [.hole,.hole,(.view 4)],.seq false],[1,2,2,0,2,2,2,2],[.sl tLit,.int .i64,.int .i64,.sl (.one (.int .i64)),.int .i64,.sl tLit,.sl (.one (.sl (.one (.int .i64)))),.sl tLit]⟩⟩
def w35_u2_e:Exs:=[((.exit 4),⟨[1,5],⟨[(.clo 171 [(.aptr 0),(.ptr 1 0)]),(.ptr 2 0)],[.seq false,.cells false [.hole],.cells false [.hole,.hole,(.view 3)],.seq false],[0,2,2,2,2],[.sl (.one (.int .i64)),.int .i64,.sl tLit,.sl (.one (.sl (.one (.int .i64)))),.sl tLit]⟩⟩)]
def w35_u2_a:AC:=(.seq .run (.seq .run (.seq (.block (.seq .run (.hide [[8,9],[8,9],[8,9],[8,9],[],[],[],[],[],[],[],[],[]]))) .run)))
def w35_u2:Un:=lpU w35_v.fz [52,53,54,11,55,56,57,58,59,60,61,62,63,64,65,66,67,51] w35_u2_h w35_u2_e (lp clause_each_1_L2 fuel)
theorem w35_u2_s (f:w35_u2_h.X→Option (YT w35_u2_e)) (x:w35_u2_h.X):E w35_v (subC (bodyOf Tryz.f170) [1,1,1,1,0,1,0,0]) (w35_u2_a) (mkS w35_u2_h 8 x) (roundK w35_v.fz w35_u2_h w35_u2_e f)=clause_each_1_L2 f x:=by kernel_rfl
theorem w35_u2_ok {X:Fx} (hX:VOk Tryz.prog X w35_v):UnOk Tryz.prog X w35_v (subC (bodyOf Tryz.f170) [1,1,1,1,0,1,0]) w35_u2 :=
 lp_un' (c:=(subC (bodyOf Tryz.f170) [1,1,1,1,0,1,0,0])) (by kernel_rfl) (env_all tb_ok (w35_gs)) hord (ob:=[]) (by kernel_rfl) (fun X hX=>obl_nil) (w35_u2_s) (by kernel_rfl) (by kernel_rfl) hX
def w35_u1_h:SS:=⟨[1,2,4,5,33,34,35],⟨[(.clo 171 [(.aptr 0),(.ptr 1 0)]),(.ptr 2 0),(.ptr 3 0),(.ptr 4 0),.hole,.hole,.hole],[.seq false,.cells false [.hole],.cells true [.hole,.hole,.hole],.cells true [.nilv,.nilv,.nilv],.cells false [.hole,(.view 5),.nilv],.seq false],[1,2,2,0,2,1,1,1,2,2],[.sl (.one (.sl (.one (.int .i64)))),.int .i64,.int .i64,.sl (.one (.int .i64)),.int .i64,.sl tLit,.sl (.one (.sl (.one (.int .i64)))),.sl tLit,.sl tLit,.sl (.one (.sl (.one (.int .i64))))]⟩⟩
def w35_u1_e:Exs:=[((.exit 2),⟨[1,5],⟨[(.clo 171 [(.aptr 0),(.ptr 1 0)]),(.ptr 2 0)],[.seq false,.cells false [.hole],.cells false [.hole,(.view 3),.nilv],.seq false],[0,2,2,2],[.sl (.one (.int .i64)),.int .i64,.sl tLit,.sl (.one (.sl (.one (.int .i64))))]⟩⟩)]
def w35_u1_a:AC:=(.seq .run (.seq .run (.seq (.block (.seq .run (.hide [[8,9],[8,9],[],[],[],[],[],[],[]]))) .run)))
def w35_u1:Un:=lpU w35_v.fz [36,37,38,9,39,40,41,42,43,44,45,46,47,35] w35_u1_h w35_u1_e (lp clause_each_1_L1 fuel)
theorem w35_u1_s (f:w35_u1_h.X→Option (YT w35_u1_e)) (x:w35_u1_h.X):E w35_v (subC (bodyOf Tryz.f170) [1,1,1,0,1,0,0]) (w35_u1_a) (mkS w35_u1_h 8 x) (roundK w35_v.fz w35_u1_h w35_u1_e f)=clause_each_1_L1 f x:=by kernel_rfl
theorem w35_u1_ok {X:Fx} (hX:VOk Tryz.prog X w35_v):UnOk Tryz.prog X w35_v (subC (bodyOf Tryz.f170) [1,1,1,0,1,0]) w35_u1 :=
 lp_un' (c:=(subC (bodyOf Tryz.f170) [1,1,1,0,1,0,0])) (by kernel_rfl) (env_all tb_ok (w35_gs)) hord (ob:=[]) (by kernel_rfl) (fun X hX=>obl_nil) (w35_u1_s) (by kernel_rfl) (by kernel_rfl) hX
def w35_u0_h:SS:=⟨[1,2,4,5,13,14,15],⟨[(.clo 171 [(.aptr 0),(.ptr 1 0)]),(.ptr 2 0),(.ptr 3 0),(.ptr 4 0),.hole,.hole,.hole],[.seq false,.cells false [.hole],.cells true [.hole,.hole,.hole],.cells true [.nilv,.nilv,.nilv],.cells false [(.view 5),.nilv,.nilv],.seq false],[1,2,2,0,2,1,1,1,2],[.sl tLit,.int .i64,.int .i64,.sl (.one (.int .i64)),.int .i64,.sl tLit,.sl (.one (.sl (.one (.int .i64)))),.sl tLit,.sl tLit]⟩⟩
def w35_u0_e:Exs:=[((.exit 0),⟨[1,5],⟨[(.clo 171 [(.aptr 0),(.ptr 1 0)]),(.ptr 2 0)],[.seq false,.cells false [.hole],.cells false [(.view 3),.nilv,.nilv],.seq false],[0,2,2],[.sl (.one (.int .i64)),.int .i64,.sl tLit]⟩⟩)]
def w35_u0_a:AC:=(.seq .run (.seq .run (.seq (.block (.seq .run (.hide [[8,9],[8,9],[8,9],[8,9],[],[],[],[],[],[],[],[],[]]))) .run)))
def w35_u0:Un:=lpU w35_v.fz [16,17,18,7,19,20,21,22,23,24,25,26,27,28,29,30,31,15] w35_u0_h w35_u0_e (lp clause_each_1_L0 fuel)
theorem w35_u0_s (f:w35_u0_h.X→Option (YT w35_u0_e)) (x:w35_u0_h.X):E w35_v (subC (bodyOf Tryz.f170) [1,1,0,1,0,0]) (w35_u0_a) (mkS w35_u0_h 8 x) (roundK w35_v.fz w35_u0_h w35_u0_e f)=clause_each_1_L0 f x:=by kernel_rfl
theorem w35_u0_ok {X:Fx} (hX:VOk Tryz.prog X w35_v):UnOk Tryz.prog X w35_v (subC (bodyOf Tryz.f170) [1,1,0,1,0]) w35_u0 :=
 lp_un' (c:=(subC (bodyOf Tryz.f170) [1,1,0,1,0,0])) (by kernel_rfl) (env_all tb_ok (w35_gs)) hord (ob:=[]) (by kernel_rfl) (fun X hX=>obl_nil) (w35_u0_s) (by kernel_rfl) (by kernel_rfl) hX
def w35_a:AC:=(.seq .run (.seq .run (.seq (.seq .run (.block (.unit w35_u0))) (.seq (.seq .run (.block (.unit w35_u1))) (.seq (.seq .run (.block (.unit w35_u2))) .run)))))
theorem w35_s (x:TupL w35_c.inp.hs):E w35_v (bodyOf Tryz.f170) (w35_a) (w35_c.entry x) (retSK tb w35_v.fz w35_c [.cell 4 29] x)=w35_c.F x:=by kernel_rfl
theorem w35_ok:ShOk Tryz.prog gl 170 w35_c :=
 fn_ok (l:=w35_g) (n:=Tryz.f170.ntmps) (code:=bodyOf Tryz.f170) (rts:=[.cell 4 29]) tb_ok hord (w35_gs) Tryz.func170 (by kernel_rfl) (by kernel_rfl) rfl (by kernel_rfl) (ac:=w35_a) (ob:=[((subC (bodyOf Tryz.f170) [1,1,0,1,0]),w35_u0),((subC (bodyOf Tryz.f170) [1,1,1,0,1,0]),w35_u1),((subC (bodyOf Tryz.f170) [1,1,1,1,0,1,0]),w35_u2)]) (by kernel_rfl) (fun X hX=>(obl_cons (w35_u0_ok hX) (obl_cons (w35_u1_ok hX) (obl_cons (w35_u2_ok hX) obl_nil)))) (by kernel_rfl) (w35_s)
def w36_c:ShC:={ inp:=⟨[(.agg [.hole,.hole,.hole])],[],[1,1,1],[.sl tLit,.sl (.one (.sl (.one (.int .i64)))),.sl tLit]⟩,out:=⟨[(.agg [.hole,.hole,(.view 0)])],[.seq false],[2,2,2],[.sl tLit,.sl (.one (.sl (.one (.int .i64)))),.sl tLit]⟩,nres:=1,ms:=[],mu:=[],leak:=false,glob:=false,F:=fun (x:((List QLit)×(List (List Int))×(List QLit)))=>clause_anew x.1 x.2.1 x.2.2 }
-- clause.anew
def w36_g:List (Nat×Con):=[(132,.gen (altE [w33_c])),(168,.gen (altE [w30_c])),(170,.gen (altE [w35_c]))]
def w36_v:Env:=envOf tb gl w36_g w36_c Tryz.f116.ntmps
theorem w36_gs:Goods Tryz.prog (cond w36_c.glob gl fun _=>none) w36_g:=(goods_cons (good_alt (alls_cons (w33_ok.anyGl rfl) alls_nil)) (goods_cons (good_alt (alls_cons (w30_ok.anyGl rfl) alls_nil)) (goods_cons (good_alt (alls_cons (w35_ok.anyGl rfl) alls_nil)) goods_nil)))
def w36_u0_h:SS:=⟨[2,3,16,17,18],⟨[(.ptr 0 0),(.ptr 1 0),.hole,.hole,.hole],[.cells true [.nilv,.nilv,.nilv],.cells false [.hole,(.view 2),.hole],.seq false],[1,2,2,0,0,0],[.sl (.one (.sl (.one (.int .i64)))),.int .i64,.int .i64,.sl tLit,.sl tLit,.sl (.one (.sl (.one (.int .i64))))]⟩⟩
def w36_u0_e:Exs:=[((.exit 0),⟨[3],⟨[(.ptr 0 0)],[.cells false [.hole,(.view 1),.hole],.seq false],[0,0,0],[.sl tLit,.sl tLit,.sl (.one (.sl (.one (.int .i64))))]⟩⟩)]
def w36_u0_a:AC:=.run
def w36_u0:Un:=lpU w36_v.fz [19,20,21,5,22,23,24,25,26,27,28,29,30,31,32,33,18] w36_u0_h w36_u0_e (lp clause_anew_L0 fuel)
theorem w36_u0_s (f:w36_u0_h.X→Option (YT w36_u0_e)) (x:w36_u0_h.X):E w36_v (subC (bodyOf Tryz.f116) [1,1,0,1,0,0]) (w36_u0_a) (mkS w36_u0_h 8 x) (roundK w36_v.fz w36_u0_h w36_u0_e f)=clause_anew_L0 f x:=by kernel_rfl
theorem w36_u0_ok {X:Fx} (hX:VOk Tryz.prog X w36_v):UnOk Tryz.prog X w36_v (subC (bodyOf Tryz.f116) [1,1,0,1,0]) w36_u0 :=
 lp_un' (c:=(subC (bodyOf Tryz.f116) [1,1,0,1,0,0])) (by kernel_rfl) (env_all tb_ok (w36_gs)) hord (ob:=[]) (by kernel_rfl) (fun X hX=>obl_nil) (w36_u0_s) (by kernel_rfl) (by kernel_rfl) hX
def w36_a:AC:=(.seq .run (.seq .run (.seq (.seq .run (.block (.unit w36_u0))) .run)))
theorem w36_s (x:TupL w36_c.inp.hs):E w36_v (bodyOf Tryz.f116) (w36_a) (w36_c.entry x) (retSK tb w36_v.fz w36_c [.cell 2 29] x)=w36_c.F x:=by kernel_rfl
theorem w36_ok:ShOk Tryz.prog gl 116 w36_c :=
 fn_ok (l:=w36_g) (n:=Tryz.f116.ntmps) (code:=bodyOf Tryz.f116) (rts:=[.cell 2 29]) tb_ok hord (w36_gs) Tryz.func116 (by kernel_rfl) (by kernel_rfl) rfl (by kernel_rfl) (ac:=w36_a) (ob:=[((subC (bodyOf Tryz.f116) [1,1,0,1,0]),w36_u0)]) (by kernel_rfl) (fun X hX=>(obl_cons (w36_u0_ok hX) obl_nil)) (by kernel_rfl) (w36_s)
def w37_c:ShC:={ inp:=⟨[.hole,(.agg [.hole,.hole,.hole])],[],[1,1,1,1],[.sl tSym,.sl tLit,.sl (.one (.sl (.one (.int .i64)))),.sl tLit]⟩,out:=⟨[(.agg [.hole,.hole,(.view 0)]),.hole],[.seq false],[2,2,2,2],[.sl tLit,.sl (.one (.sl (.one (.int .i64)))),.int .i64,.sl tLit]⟩,nres:=2,ms:=[],mu:=[],leak:=false,glob:=true,F:=fun (x:((List QSym)×(List QLit)×(List (List Int))×(List QLit)))=>clause_Normal x.1 x.2.1 x.2.2.1 x.2.2.2 }
-- clause.Normal
def w37_g:List (Nat×Con):=[(42,.gen (altE [w24_c])),(116,.gen (altE [w36_c]))]
def w37_v:Env:=envOf tb gl w37_g w37_c Tryz.f56.ntmps
theorem w37_gs:Goods Tryz.prog (cond w37_c.glob gl fun _=>none) w37_g:=(goods_cons (good_alt (alls_cons w24_ok alls_nil)) (goods_cons (good_alt (alls_cons (w36_ok.anyGl rfl) alls_nil)) goods_nil))
def w37_a:AC:=.run
theorem w37_s (x:TupL w37_c.inp.hs):E w37_v (bodyOf Tryz.f56) (w37_a) (w37_c.entry x) (retSK tb w37_v.fz w37_c [.cell 4 29,.tmp 5] x)=w37_c.F x:=by kernel_rfl
theorem w37_ok:ShOk Tryz.prog gl 56 w37_c :=
 fn_ok (l:=w37_g) (n:=Tryz.f56.ntmps) (code:=bodyOf Tryz.f56) (rts:=[.cell 4 29,.tmp 5]) tb_ok hord (w37_gs) Tryz.func56 (by kernel_rfl) (by kernel_rfl) rfl (by kernel_rfl) (ac:=w37_a) (ob:=[]) (by kernel_rfl) (fun X hX=>obl_nil) (by kernel_rfl) (w37_s)
def w38_c:ShC:={ inp:=⟨[.hole,.hole,.hole],[],[1,1,1],[.sl tSym,.sl (.one (.int .i64)),.sl tLit]⟩,out:=⟨[(.agg [.hole,.hole,(.view 0)]),.hole],[.seq false],[2,2,2,2],[.sl tLit,.sl (.one (.sl (.one (.int .i64)))),.int .i64,.sl tLit]⟩,nres:=2,ms:=[],mu:=[],leak:=false,glob:=true,F:=fun (x:((List QSym)×(List Int)×(List QLit)))=>ask_Goal x.1 x.2.1 x.2.2 }
-- ask.Goal
def w38_g:List (Nat×Con):=[(52,.gen (altE [w7_c])),(53,.gen (altE [w10_c])),(54,.gen (altE [w14_c])),(55,.gen (altE [w15_c])),(56,.gen (altE [w37_c]))]
def w38_v:Env:=envOf tb gl w38_g w38_c Tryz.f15.ntmps
theorem w38_gs:Goods Tryz.prog (cond w38_c.glob gl fun _=>none) w38_g:=(goods_cons (good_alt (alls_cons w7_ok alls_nil)) (goods_cons (good_alt (alls_cons (w10_ok.anyGl rfl) alls_nil)) (goods_cons (good_alt (alls_cons (w14_ok.anyGl rfl) alls_nil)) (goods_cons (good_alt (alls_cons (w15_ok.anyGl rfl) alls_nil)) (goods_cons (good_alt (alls_cons w37_ok alls_nil)) goods_nil)))))
def w38_u1_h:SS:=⟨[0,6,8,11,52,53,54],⟨[.hole,(.ptr 0 0),(.ptr 1 0),(.view 2),.hole,.hole,.hole],[.cells true [.nilv,.nilv,.nilv],.cells true [.hole,.nilv,.nilv],.seq false],[1,1,2,2,2,2],[.sl tSym,.sl (.one (.int .i64)),.int .i64,.int .i64,.sl tLit,.sl (.one (.int .i64))]⟩⟩
def w38_u1_e:Exs:=[((.exit 2),⟨[11],⟨[(.view 0)],[.seq false],[2],[.sl (.one (.int .i64))]⟩⟩)]
def w38_u1_a:AC:=.run
def w38_u1:Un:=lpU w38_v.fz [55,56,57,58,12,13,59,60,61,62,63,64,54] w38_u1_h w38_u1_e (lp ask_Goal_L1 fuel)
theorem w38_u1_s (f:w38_u1_h.X→Option (YT w38_u1_e)) (x:w38_u1_h.X):E w38_v (subC (bodyOf Tryz.f15) [1,1,1,1,1,0,1,0,0]) (w38_u1_a) (mkS w38_u1_h 8 x) (roundK w38_v.fz w38_u1_h w38_u1_e f)=ask_Goal_L1 f x:=by kernel_rfl
theorem w38_u1_ok {X:Fx} (hX:VOk Tryz.prog X w38_v):UnOk Tryz.prog X w38_v (subC (bodyOf Tryz.f15) [1,1,1,1,1,0,1,0]) w38_u1 :=
 lp_un' (c:=(subC (bodyOf Tryz.f15) [1,1,1,1,1,0,1,0,0])) (by kernel_rfl) (env_all tb_ok (w38_gs)) hord (ob:=[]) (by kernel_rfl) (fun X hX=>obl_nil) (w38_u1_s) (by kernel_rfl) (by kernel_rfl) hX
def w38_u0_h:SS:=⟨[0,1,6,8,35,36,37],⟨[.hole,.hole,(.ptr 0 0),(.ptr 1 0),.hole,.hole,.hole],[.cells true [.nilv,.nilv,.nilv],.cells false [(.view 2),.nilv,.nilv],.seq false],[1,1,1,2,2,2],[.sl tSym,.sl (.one (.int .i64)),.sl tLit,.int .i64,.int .i64,.sl tLit]⟩⟩
def w38_u0_e:Exs:=[((.exit 0),⟨[8],⟨[(.ptr 0 0)],[.cells false [(.view 1),.nilv,.nilv],.seq false],[2],[.sl tLit]⟩⟩)]
def w38_u0_a:AC:=.run
def w38_u0:Un:=lpU w38_v.fz [38,39,40,10,41,42,43,44,45,46,47,48,37] w38_u0_h w38_u0_e (lp ask_Goal_L0 fuel)
theorem w38_u0_s (f:w38_u0_h.X→Option (YT w38_u0_e)) (x:w38_u0_h.X):E w38_v (subC (bodyOf Tryz.f15) [1,1,1,0,1,0,0]) (w38_u0_a) (mkS w38_u0_h 8 x) (roundK w38_v.fz w38_u0_h w38_u0_e f)=ask_Goal_L0 f x:=by kernel_rfl
theorem w38_u0_ok {X:Fx} (hX:VOk Tryz.prog X w38_v):UnOk Tryz.prog X w38_v (subC (bodyOf Tryz.f15) [1,1,1,0,1,0]) w38_u0 :=
 lp_un' (c:=(subC (bodyOf Tryz.f15) [1,1,1,0,1,0,0])) (by kernel_rfl) (env_all tb_ok (w38_gs)) hord (ob:=[]) (by kernel_rfl) (fun X hX=>obl_nil) (w38_u0_s) (by kernel_rfl) (by kernel_rfl) hX
def w38_a:AC:=(.seq .run (.seq .run (.seq .run (.seq (.seq .run (.block (.unit w38_u0))) (.seq .run (.seq (.seq .run (.block (.unit w38_u1))) .run))))))
theorem w38_s (x:TupL w38_c.inp.hs):E w38_v (bodyOf Tryz.f15) (w38_a) (w38_c.entry x) (retSK tb w38_v.fz w38_c [.cell 6 29,.tmp 7] x)=w38_c.F x:=by kernel_rfl
theorem w38_ok:ShOk Tryz.prog gl 15 w38_c :=
 fn_ok (l:=w38_g) (n:=Tryz.f15.ntmps) (code:=bodyOf Tryz.f15) (rts:=[.cell 6 29,.tmp 7]) tb_ok hord (w38_gs) Tryz.func15 (by kernel_rfl) (by kernel_rfl) rfl (by kernel_rfl) (ac:=w38_a) (ob:=[((subC (bodyOf Tryz.f15) [1,1,1,0,1,0]),w38_u0),((subC (bodyOf Tryz.f15) [1,1,1,1,1,0,1,0]),w38_u1)]) (by kernel_rfl) (fun X hX=>(obl_cons (w38_u0_ok hX) (obl_cons (w38_u1_ok hX) obl_nil))) (by kernel_rfl) (w38_s)
def w39_c:ShC:={ inp:=⟨[.hole],[],[1],[.int .u8]⟩,out:=⟨[.hole],[],[2],[.bool]⟩,nres:=1,ms:=[],mu:=[],leak:=false,glob:=false,F:=fun (x:Int)=>ref1_small x }
-- quaereref1.small
def w39_g:List (Nat×Con):=[]
def w39_v:Env:=envOf tb gl w39_g w39_c Tryz.f172.ntmps
theorem w39_gs:Goods Tryz.prog (cond w39_c.glob gl fun _=>none) w39_g:=goods_nil
def w39_a:AC:=.run
theorem w39_s (x:TupL w39_c.inp.hs):E w39_v (bodyOf Tryz.f172) (w39_a) (w39_c.entry x) (retSK tb w39_v.fz w39_c [.tmp 2] x)=w39_c.F x:=by kernel_rfl
theorem w39_ok:ShOk Tryz.prog gl 172 w39_c :=
 fn_ok (l:=w39_g) (n:=Tryz.f172.ntmps) (code:=bodyOf Tryz.f172) (rts:=[.tmp 2]) tb_ok hord (w39_gs) Tryz.func172 (by kernel_rfl) (by kernel_rfl) rfl (by kernel_rfl) (ac:=w39_a) (ob:=[]) (by kernel_rfl) (fun X hX=>obl_nil) (by kernel_rfl) (w39_s)
def w40_c:ShC:={ inp:=⟨[(.agg [.hole,.hole,.hole,.hole])],[],[1,1,1,1],[.str,.int .i64,.int .i64,.int .i64]⟩,out:=⟨[.hole],[],[2],[.bool]⟩,nres:=1,ms:=[],mu:=[],leak:=false,glob:=false,F:=fun (x:QSym)=>ref1_SymMay x.1 x.2.1 x.2.2.1 x.2.2.2 }
-- quaereref1.SymMay
def w40_g:List (Nat×Con):=[(172,.gen (altE [w39_c]))]
def w40_v:Env:=envOf tb gl w40_g w40_c Tryz.f117.ntmps
theorem w40_gs:Goods Tryz.prog (cond w40_c.glob gl fun _=>none) w40_g:=(goods_cons (good_alt (alls_cons (w39_ok.anyGl rfl) alls_nil)) goods_nil)
def w40_u0_h:SS:=⟨[1,3],⟨[(.ptr 0 0),.hole],[.cells true [.hole,.hole,.hole,.hole]],[2,2,2,2,2],[.int .i64,.str,.int .i64,.int .i64,.int .i64]⟩⟩
def w40_u0_e:Exs:=[((.exit 0),⟨[],⟨[],[],[],[]⟩⟩),(.ret,⟨[2],⟨[.hole],[],[2],[.bool]⟩⟩)]
def w40_u0_a:AC:=.run
def w40_u0:Un:=lpU w40_v.fz [21,22,23,24,25,28,29,30,31,32,33,34,35,36,37,38,39,40,41,42,43,44,45,46,47,2,26,27,3] w40_u0_h w40_u0_e (lp ref1_SymMay_L0 fuel)
theorem w40_u0_s (f:w40_u0_h.X→Option (YT w40_u0_e)) (x:w40_u0_h.X):E w40_v (subC (bodyOf Tryz.f117) [1,1,0,1,0,0]) (w40_u0_a) (mkS w40_u0_h 8 x) (roundK w40_v.fz w40_u0_h w40_u0_e f)=ref1_SymMay_L0 f x:=by kernel_rfl
theorem w40_u0_ok {X:Fx} (hX:VOk Tryz.prog X w40_v):UnOk Tryz.prog X w40_v (subC (bodyOf Tryz.f117) [1,1,0,1,0]) w40_u0 :=
 lp_un' (c:=(subC (bodyOf Tryz.f117) [1,1,0,1,0,0])) (by kernel_rfl) (env_all tb_ok (w40_gs)) hord (ob:=[]) (by kernel_rfl) (fun X hX=>obl_nil) (w40_u0_s) (by kernel_rfl) (by kernel_rfl) hX
def w40_a:AC:=(.seq .run (.seq .run (.seq (.seq .run (.block (.unit w40_u0))) .run)))
theorem w40_s (x:TupL w40_c.inp.hs):E w40_v (bodyOf Tryz.f117) (w40_a) (w40_c.entry x) (retSK tb w40_v.fz w40_c [.tmp 2] x)=w40_c.F x:=by kernel_rfl
theorem w40_ok:ShOk Tryz.prog gl 117 w40_c :=
 fn_ok (l:=w40_g) (n:=Tryz.f117.ntmps) (code:=bodyOf Tryz.f117) (rts:=[.tmp 2]) tb_ok hord (w40_gs) Tryz.func117 (by kernel_rfl) (by kernel_rfl) rfl (by kernel_rfl) (ac:=w40_a) (ob:=[((subC (bodyOf Tryz.f117) [1,1,0,1,0]),w40_u0)]) (by kernel_rfl) (fun X hX=>(obl_cons (w40_u0_ok hX) obl_nil)) (by kernel_rfl) (w40_s)
def w41_c:ShC:={ inp:=⟨[.hole,.hole],[],[1,1],[.sl tSym,.str]⟩,out:=⟨[.hole],[],[2],[.int .i64]⟩,nres:=1,ms:=[],mu:=[],leak:=false,glob:=false,F:=fun (x:((List QSym)×Str))=>ref1_Code x.1 x.2 }
-- quaereref1.Code
def w41_g:List (Nat×Con):=[]
def w41_v:Env:=envOf tb gl w41_g w41_c Tryz.f118.ntmps
theorem w41_gs:Goods Tryz.prog (cond w41_c.glob gl fun _=>none) w41_g:=goods_nil
def w41_u0_h:SS:=⟨[0,1,5],⟨[.hole,.hole,.hole],[],[1,2,2],[.sl tSym,.str,.int .i64]⟩⟩
def w41_u0_e:Exs:=[((.exit 0),⟨[],⟨[],[],[],[]⟩⟩),(.ret,⟨[4],⟨[.hole],[],[2],[.int .i64]⟩⟩)]
def w41_u0_a:AC:=.run
def w41_u0:Un:=lpU w41_v.fz [6,7,8,9,12,13,14,15,16,17,18,19,4,10,11,5] w41_u0_h w41_u0_e (lp ref1_Code_L0 fuel)
theorem w41_u0_s (f:w41_u0_h.X→Option (YT w41_u0_e)) (x:w41_u0_h.X):E w41_v (subC (bodyOf Tryz.f118) [1,0,1,0,0]) (w41_u0_a) (mkS w41_u0_h 8 x) (roundK w41_v.fz w41_u0_h w41_u0_e f)=ref1_Code_L0 f x:=by kernel_rfl
theorem w41_u0_ok {X:Fx} (hX:VOk Tryz.prog X w41_v):UnOk Tryz.prog X w41_v (subC (bodyOf Tryz.f118) [1,0,1,0]) w41_u0 :=
 lp_un' (c:=(subC (bodyOf Tryz.f118) [1,0,1,0,0])) (by kernel_rfl) (env_all tb_ok (w41_gs)) hord (ob:=[]) (by kernel_rfl) (fun X hX=>obl_nil) (w41_u0_s) (by kernel_rfl) (by kernel_rfl) hX
def w41_a:AC:=(.seq .run (.seq (.seq .run (.block (.unit w41_u0))) .run))
theorem w41_s (x:TupL w41_c.inp.hs):E w41_v (bodyOf Tryz.f118) (w41_a) (w41_c.entry x) (retSK tb w41_v.fz w41_c [.tmp 4] x)=w41_c.F x:=by kernel_rfl
theorem w41_ok:ShOk Tryz.prog gl 118 w41_c :=
 fn_ok (l:=w41_g) (n:=Tryz.f118.ntmps) (code:=bodyOf Tryz.f118) (rts:=[.tmp 4]) tb_ok hord (w41_gs) Tryz.func118 (by kernel_rfl) (by kernel_rfl) rfl (by kernel_rfl) (ac:=w41_a) (ob:=[((subC (bodyOf Tryz.f118) [1,0,1,0]),w41_u0)]) (by kernel_rfl) (fun X hX=>(obl_cons (w41_u0_ok hX) obl_nil)) (by kernel_rfl) (w41_s)
def w42_c:ShC:={ inp:=⟨[.hole],[],[1],[.sl tSym]⟩,out:=⟨[.hole],[],[2],[.bool]⟩,nres:=1,ms:=[],mu:=[],leak:=false,glob:=false,F:=fun (x:(List QSym))=>ref1_SignMay x }
-- quaereref1.SignMay
def w42_g:List (Nat×Con):=[(117,.gen (altE [w40_c])),(118,.gen (altE [w41_c]))]
def w42_v:Env:=envOf tb gl w42_g w42_c Tryz.f57.ntmps
theorem w42_gs:Goods Tryz.prog (cond w42_c.glob gl fun _=>none) w42_g:=(goods_cons (good_alt (alls_cons (w40_ok.anyGl rfl) alls_nil)) (goods_cons (good_alt (alls_cons (w41_ok.anyGl rfl) alls_nil)) goods_nil))
def w42_u0_h:SS:=⟨[0,3],⟨[.hole,.hole],[],[1,2],[.sl tSym,.int .i64]⟩⟩
def w42_u0_e:Exs:=[((.exit 0),⟨[],⟨[],[],[],[]⟩⟩),(.ret,⟨[2],⟨[.hole],[],[2],[.bool]⟩⟩)]
def w42_u0_a:AC:=.run
def w42_u0:Un:=lpU w42_v.fz [19,20,21,22,25,26,27,28,29,30,31,32,33,34,35,36,37,38,39,40,41,2,23,24,3] w42_u0_h w42_u0_e (lp ref1_SignMay_L0 fuel)
theorem w42_u0_s (f:w42_u0_h.X→Option (YT w42_u0_e)) (x:w42_u0_h.X):E w42_v (subC (bodyOf Tryz.f57) [1,1,0,1,0,0]) (w42_u0_a) (mkS w42_u0_h 8 x) (roundK w42_v.fz w42_u0_h w42_u0_e f)=ref1_SignMay_L0 f x:=by kernel_rfl
theorem w42_u0_ok {X:Fx} (hX:VOk Tryz.prog X w42_v):UnOk Tryz.prog X w42_v (subC (bodyOf Tryz.f57) [1,1,0,1,0]) w42_u0 :=
 lp_un' (c:=(subC (bodyOf Tryz.f57) [1,1,0,1,0,0])) (by kernel_rfl) (env_all tb_ok (w42_gs)) hord (ob:=[]) (by kernel_rfl) (fun X hX=>obl_nil) (w42_u0_s) (by kernel_rfl) (by kernel_rfl) hX
def w42_a:AC:=(.seq .run (.seq .run (.seq (.seq .run (.block (.unit w42_u0))) .run)))
theorem w42_s (x:TupL w42_c.inp.hs):E w42_v (bodyOf Tryz.f57) (w42_a) (w42_c.entry x) (retSK tb w42_v.fz w42_c [.tmp 2] x)=w42_c.F x:=by kernel_rfl
theorem w42_ok:ShOk Tryz.prog gl 57 w42_c :=
 fn_ok (l:=w42_g) (n:=Tryz.f57.ntmps) (code:=bodyOf Tryz.f57) (rts:=[.tmp 2]) tb_ok hord (w42_gs) Tryz.func57 (by kernel_rfl) (by kernel_rfl) rfl (by kernel_rfl) (ac:=w42_a) (ob:=[((subC (bodyOf Tryz.f57) [1,1,0,1,0]),w42_u0)]) (by kernel_rfl) (fun X hX=>(obl_cons (w42_u0_ok hX) obl_nil)) (by kernel_rfl) (w42_s)
def w43_c:ShC:={ inp:=⟨[.hole,.hole],[],[1,1],[.sl (.one (.int .i64)),.int .i64]⟩,out:=⟨[.hole],[],[2],[.bool]⟩,nres:=1,ms:=[],mu:=[],leak:=false,glob:=false,F:=fun (x:((List Int)×Int))=>ref1_In x.1 x.2 }
-- quaereref1.In
def w43_g:List (Nat×Con):=[]
def w43_v:Env:=envOf tb gl w43_g w43_c Tryz.f58.ntmps
theorem w43_gs:Goods Tryz.prog (cond w43_c.glob gl fun _=>none) w43_g:=goods_nil
def w43_u0_h:SS:=⟨[0,1,5],⟨[.hole,.hole,.hole],[],[1,2,2],[.sl (.one (.int .i64)),.int .i64,.int .i64]⟩⟩
def w43_u0_e:Exs:=[((.exit 0),⟨[],⟨[],[],[],[]⟩⟩),(.ret,⟨[4],⟨[.hole],[],[2],[.bool]⟩⟩)]
def w43_u0_a:AC:=.run
def w43_u0:Un:=lpU w43_v.fz [6,7,8,9,12,13,14,15,16,17,18,4,10,11,5] w43_u0_h w43_u0_e (lp ref1_In_L0 fuel)
theorem w43_u0_s (f:w43_u0_h.X→Option (YT w43_u0_e)) (x:w43_u0_h.X):E w43_v (subC (bodyOf Tryz.f58) [1,0,1,0,0]) (w43_u0_a) (mkS w43_u0_h 8 x) (roundK w43_v.fz w43_u0_h w43_u0_e f)=ref1_In_L0 f x:=by kernel_rfl
theorem w43_u0_ok {X:Fx} (hX:VOk Tryz.prog X w43_v):UnOk Tryz.prog X w43_v (subC (bodyOf Tryz.f58) [1,0,1,0]) w43_u0 :=
 lp_un' (c:=(subC (bodyOf Tryz.f58) [1,0,1,0,0])) (by kernel_rfl) (env_all tb_ok (w43_gs)) hord (ob:=[]) (by kernel_rfl) (fun X hX=>obl_nil) (w43_u0_s) (by kernel_rfl) (by kernel_rfl) hX
def w43_a:AC:=(.seq .run (.seq (.seq .run (.block (.unit w43_u0))) .run))
theorem w43_s (x:TupL w43_c.inp.hs):E w43_v (bodyOf Tryz.f58) (w43_a) (w43_c.entry x) (retSK tb w43_v.fz w43_c [.tmp 4] x)=w43_c.F x:=by kernel_rfl
theorem w43_ok:ShOk Tryz.prog gl 58 w43_c :=
 fn_ok (l:=w43_g) (n:=Tryz.f58.ntmps) (code:=bodyOf Tryz.f58) (rts:=[.tmp 4]) tb_ok hord (w43_gs) Tryz.func58 (by kernel_rfl) (by kernel_rfl) rfl (by kernel_rfl) (ac:=w43_a) (ob:=[((subC (bodyOf Tryz.f58) [1,0,1,0]),w43_u0)]) (by kernel_rfl) (fun X hX=>(obl_cons (w43_u0_ok hX) obl_nil)) (by kernel_rfl) (w43_s)
def w44_c:ShC:={ inp:=⟨[(.agg [.hole,.hole])],[],[1,1],[.bool,.sl (.one (.int .i64))]⟩,out:=⟨[(.agg [.hole,.hole])],[],[2,1],[.bool,.sl (.one (.int .i64))]⟩,nres:=1,ms:=[],mu:=[],leak:=true,glob:=false,F:=fun (x:QLit)=>ref21_opposite x.1 x.2 }
-- quaereref21.opposite
def w44_g:List (Nat×Con):=[]
def w44_v:Env:=envOf tb gl w44_g w44_c Tryz.f59.ntmps
theorem w44_gs:Goods Tryz.prog (cond w44_c.glob gl fun _=>none) w44_g:=goods_nil
def w44_a:AC:=.run
theorem w44_s (x:TupL w44_c.inp.hs):E w44_v (bodyOf Tryz.f59) (w44_a) (w44_c.entry x) (retSK tb w44_v.fz w44_c [.cell 2 69] x)=w44_c.F x:=by kernel_rfl
theorem w44_ok:ShOk Tryz.prog gl 59 w44_c :=
 fn_ok (l:=w44_g) (n:=Tryz.f59.ntmps) (code:=bodyOf Tryz.f59) (rts:=[.cell 2 69]) tb_ok hord (w44_gs) Tryz.func59 (by kernel_rfl) (by kernel_rfl) rfl (by kernel_rfl) (ac:=w44_a) (ob:=[]) (by kernel_rfl) (fun X hX=>obl_nil) (by kernel_rfl) (w44_s)
def w45_c:ShC:={ inp:=⟨[.hole,.hole,.hole],[],[1,1,1],[.sl tSym,.sl (.one (.int .i64)),.int .i64]⟩,out:=⟨[.hole],[],[2],[.int .i64]⟩,nres:=1,ms:=[],mu:=[],leak:=false,glob:=false,F:=fun (x:((List QSym)×(List Int)×Int))=>ref1_End x.1 x.2.1 x.2.2 }
-- quaereref1.End
def w45_g:List (Nat×Con):=[]
def w45_v:Env:=envOf tb gl w45_g w45_c Tryz.f93.ntmps
theorem w45_gs:Goods Tryz.prog (cond w45_c.glob gl fun _=>none) w45_g:=goods_nil
def w45_u0_h:SS:=⟨[0,1,7,8],⟨[.hole,.hole,.hole,.hole],[],[1,1,2,2],[.sl tSym,.sl (.one (.int .i64)),.int .i64,.int .i64]⟩⟩
def w45_u0_e:Exs:=[((.exit 0),⟨[8],⟨[.hole],[],[2],[.int .i64]⟩⟩),(.ret,⟨[6],⟨[.hole],[],[2],[.int .i64]⟩⟩)]
def w45_u0_a:AC:=.run
def w45_u0:Un:=lpU w45_v.fz [10,11,12,13,14,15,16,17,18,19,20,21,22,23,24,25,26,27,28,29,30,31,6,32,33,7,34,35,36,37,38,39,40,41,42,43,44,45,46,47,6,48,49,50,51,52,53,54,55,56,57,7,58,59,8] w45_u0_h w45_u0_e (lp ref1_End_L0 fuel)
theorem w45_u0_s (f:w45_u0_h.X→Option (YT w45_u0_e)) (x:w45_u0_h.X):E w45_v (subC (bodyOf Tryz.f93) [1,1,0,0,0]) (w45_u0_a) (mkS w45_u0_h 8 x) (roundK w45_v.fz w45_u0_h w45_u0_e f)=ref1_End_L0 f x:=by kernel_rfl
theorem w45_u0_ok {X:Fx} (hX:VOk Tryz.prog X w45_v):UnOk Tryz.prog X w45_v (subC (bodyOf Tryz.f93) [1,1,0,0]) w45_u0 :=
 lp_un' (c:=(subC (bodyOf Tryz.f93) [1,1,0,0,0])) (by kernel_rfl) (env_all tb_ok (w45_gs)) hord (ob:=[]) (by kernel_rfl) (fun X hX=>obl_nil) (w45_u0_s) (by kernel_rfl) (by kernel_rfl) hX
def w45_a:AC:=(.seq .run (.seq .run (.seq (.block (.unit w45_u0)) .run)))
theorem w45_s (x:TupL w45_c.inp.hs):E w45_v (bodyOf Tryz.f93) (w45_a) (w45_c.entry x) (retSK tb w45_v.fz w45_c [.tmp 6] x)=w45_c.F x:=by kernel_rfl
theorem w45_ok:ShOk Tryz.prog gl 93 w45_c :=
 fn_ok (l:=w45_g) (n:=Tryz.f93.ntmps) (code:=bodyOf Tryz.f93) (rts:=[.tmp 6]) tb_ok hord (w45_gs) Tryz.func93 (by kernel_rfl) (by kernel_rfl) rfl (by kernel_rfl) (ac:=w45_a) (ob:=[((subC (bodyOf Tryz.f93) [1,1,0,0]),w45_u0)]) (by kernel_rfl) (fun X hX=>(obl_cons (w45_u0_ok hX) obl_nil)) (by kernel_rfl) (w45_s)
def w46_c:ShC:={ inp:=⟨[.hole,.hole],[],[1,1],[.sl tSym,.sl (.one (.int .i64))]⟩,out:=⟨[.hole],[],[2],[.int .i64]⟩,nres:=1,ms:=[],mu:=[],leak:=false,glob:=false,F:=fun (x:((List QSym)×(List Int)))=>ref1_Terms x.1 x.2 }
-- quaereref1.Terms
def w46_g:List (Nat×Con):=[(93,.gen (altE [w45_c]))]
def w46_v:Env:=envOf tb gl w46_g w46_c Tryz.f120.ntmps
theorem w46_gs:Goods Tryz.prog (cond w46_c.glob gl fun _=>none) w46_g:=(goods_cons (good_alt (alls_cons (w45_ok.anyGl rfl) alls_nil)) goods_nil)
def w46_u0_h:SS:=⟨[0,1,5,6],⟨[.hole,.hole,.hole,.hole],[],[1,1,2,2],[.sl tSym,.sl (.one (.int .i64)),.int .i64,.int .i64]⟩⟩
def w46_u0_e:Exs:=[((.exit 0),⟨[5],⟨[.hole],[],[2],[.int .i64]⟩⟩),(.ret,⟨[4],⟨[.hole],[],[2],[.int .i64]⟩⟩)]
def w46_u0_a:AC:=.run
def w46_u0:Un:=lpU w46_v.fz [10,11,12,13,14,15,16,17,6,18,19,4,20,21,5] w46_u0_h w46_u0_e (lp ref1_Terms_L0 fuel)
theorem w46_u0_s (f:w46_u0_h.X→Option (YT w46_u0_e)) (x:w46_u0_h.X):E w46_v (subC (bodyOf Tryz.f120) [1,1,1,0,0,0]) (w46_u0_a) (mkS w46_u0_h 8 x) (roundK w46_v.fz w46_u0_h w46_u0_e f)=ref1_Terms_L0 f x:=by kernel_rfl
theorem w46_u0_ok {X:Fx} (hX:VOk Tryz.prog X w46_v):UnOk Tryz.prog X w46_v (subC (bodyOf Tryz.f120) [1,1,1,0,0]) w46_u0 :=
 lp_un' (c:=(subC (bodyOf Tryz.f120) [1,1,1,0,0,0])) (by kernel_rfl) (env_all tb_ok (w46_gs)) hord (ob:=[]) (by kernel_rfl) (fun X hX=>obl_nil) (w46_u0_s) (by kernel_rfl) (by kernel_rfl) hX
def w46_a:AC:=(.seq .run (.seq .run (.seq .run (.seq (.block (.unit w46_u0)) .run))))
theorem w46_s (x:TupL w46_c.inp.hs):E w46_v (bodyOf Tryz.f120) (w46_a) (w46_c.entry x) (retSK tb w46_v.fz w46_c [.tmp 4] x)=w46_c.F x:=by kernel_rfl
theorem w46_ok:ShOk Tryz.prog gl 120 w46_c :=
 fn_ok (l:=w46_g) (n:=Tryz.f120.ntmps) (code:=bodyOf Tryz.f120) (rts:=[.tmp 4]) tb_ok hord (w46_gs) Tryz.func120 (by kernel_rfl) (by kernel_rfl) rfl (by kernel_rfl) (ac:=w46_a) (ob:=[((subC (bodyOf Tryz.f120) [1,1,1,0,0]),w46_u0)]) (by kernel_rfl) (fun X hX=>(obl_cons (w46_u0_ok hX) obl_nil)) (by kernel_rfl) (w46_s)
def w47_c:ShC:={ inp:=⟨[.hole,.hole],[],[1,1],[.sl tSym,.sl (.one (.int .i64))]⟩,out:=⟨[.hole],[],[2],[.bool]⟩,nres:=1,ms:=[],mu:=[],leak:=false,glob:=false,F:=fun (x:((List QSym)×(List Int)))=>ref1_IsAtom x.1 x.2 }
-- quaereref1.IsAtom
def w47_g:List (Nat×Con):=[(120,.gen (altE [w46_c]))]
def w47_v:Env:=envOf tb gl w47_g w47_c Tryz.f173.ntmps
theorem w47_gs:Goods Tryz.prog (cond w47_c.glob gl fun _=>none) w47_g:=(goods_cons (good_alt (alls_cons (w46_ok.anyGl rfl) alls_nil)) goods_nil)
def w47_a:AC:=.run
theorem w47_s (x:TupL w47_c.inp.hs):E w47_v (bodyOf Tryz.f173) (w47_a) (w47_c.entry x) (retSK tb w47_v.fz w47_c [.tmp 4] x)=w47_c.F x:=by kernel_rfl
theorem w47_ok:ShOk Tryz.prog gl 173 w47_c :=
 fn_ok (l:=w47_g) (n:=Tryz.f173.ntmps) (code:=bodyOf Tryz.f173) (rts:=[.tmp 4]) tb_ok hord (w47_gs) Tryz.func173 (by kernel_rfl) (by kernel_rfl) rfl (by kernel_rfl) (ac:=w47_a) (ob:=[]) (by kernel_rfl) (fun X hX=>obl_nil) (by kernel_rfl) (w47_s)
def w48_c:ShC:={ inp:=⟨[.hole,(.agg [.hole,.hole])],[],[1,1,1],[.sl tSym,.bool,.sl (.one (.int .i64))]⟩,out:=⟨[.hole],[],[2],[.bool]⟩,nres:=1,ms:=[],mu:=[],leak:=false,glob:=false,F:=fun (x:((List QSym)×Bool×(List Int)))=>ref8_LitMay x.1 x.2.1 x.2.2 }
-- quaereref8.LitMay
def w48_g:List (Nat×Con):=[(57,.gen (altE [w42_c])),(173,.gen (altE [w47_c]))]
def w48_v:Env:=envOf tb gl w48_g w48_c Tryz.f119.ntmps
theorem w48_gs:Goods Tryz.prog (cond w48_c.glob gl fun _=>none) w48_g:=(goods_cons (good_alt (alls_cons (w42_ok.anyGl rfl) alls_nil)) (goods_cons (good_alt (alls_cons (w47_ok.anyGl rfl) alls_nil)) goods_nil))
def w48_a:AC:=.run
theorem w48_s (x:TupL w48_c.inp.hs):E w48_v (bodyOf Tryz.f119) (w48_a) (w48_c.entry x) (retSK tb w48_v.fz w48_c [.tmp 4] x)=w48_c.F x:=by kernel_rfl
theorem w48_ok:ShOk Tryz.prog gl 119 w48_c :=
 fn_ok (l:=w48_g) (n:=Tryz.f119.ntmps) (code:=bodyOf Tryz.f119) (rts:=[.tmp 4]) tb_ok hord (w48_gs) Tryz.func119 (by kernel_rfl) (by kernel_rfl) rfl (by kernel_rfl) (ac:=w48_a) (ob:=[]) (by kernel_rfl) (fun X hX=>obl_nil) (by kernel_rfl) (w48_s)
def w49_c:ShC:={ inp:=⟨[(.agg [.hole,.hole,.hole])],[],[1,1,1],[.sl tLit,.sl (.one (.sl (.one (.int .i64)))),.sl tLit]⟩,out:=⟨[(.view 0)],[.seq false],[0],[.sl (.one (.sl (.one (.int .i64))))]⟩,nres:=1,ms:=[],mu:=[],leak:=true,glob:=false,F:=fun (x:((List QLit)×(List (List Int))×(List QLit)))=>ref8_rows x.1 x.2.1 x.2.2 }
-- quaereref8.rows
def w49_g:List (Nat×Con):=[]
def w49_v:Env:=envOf tb gl w49_g w49_c Tryz.f121.ntmps
theorem w49_gs:Goods Tryz.prog (cond w49_c.glob gl fun _=>none) w49_g:=goods_nil
def w49_u2_h:SS:=⟨[1,3,6],⟨[(.ptr 0 0),(.view 1),.hole],[.cells true [.hole,.hole,.hole],.seq false],[2,1,1,1,0],[.int .i64,.sl tLit,.sl (.one (.sl (.one (.int .i64)))),.sl tLit,.sl (.one (.sl (.one (.int .i64))))]⟩⟩
def w49_u2_e:Exs:=[((.exit 4),⟨[3],⟨[(.view 0)],[.seq false],[0],[.sl (.one (.sl (.one (.int .i64))))]⟩⟩)]
def w49_u2_a:AC:=.run
def w49_u2:Un:=lpU w49_v.fz [38,39,40,41,42,45,46,47,48,49,50,51,52,53,3,43,44,6] w49_u2_h w49_u2_e (lp ref8_rows_L2 fuel)
theorem w49_u2_s (f:w49_u2_h.X→Option (YT w49_u2_e)) (x:w49_u2_h.X):E w49_v (subC (bodyOf Tryz.f121) [1,1,1,1,0,1,0,0]) (w49_u2_a) (mkS w49_u2_h 8 x) (roundK w49_v.fz w49_u2_h w49_u2_e f)=ref8_rows_L2 f x:=by kernel_rfl
theorem w49_u2_ok {X:Fx} (hX:VOk Tryz.prog X w49_v):UnOk Tryz.prog X w49_v (subC (bodyOf Tryz.f121) [1,1,1,1,0,1,0]) w49_u2 :=
 lp_un' (c:=(subC (bodyOf Tryz.f121) [1,1,1,1,0,1,0,0])) (by kernel_rfl) (env_all tb_ok (w49_gs)) hord (ob:=[]) (by kernel_rfl) (fun X hX=>obl_nil) (w49_u2_s) (by kernel_rfl) (by kernel_rfl) hX
def w49_u1_h:SS:=⟨[1,3,5],⟨[(.ptr 0 0),(.view 1),.hole],[.cells true [.hole,.hole,.hole],.seq false],[2,1,1,1,0],[.int .i64,.sl tLit,.sl (.one (.sl (.one (.int .i64)))),.sl tLit,.sl (.one (.sl (.one (.int .i64))))]⟩⟩
def w49_u1_e:Exs:=[((.exit 2),⟨[3],⟨[(.view 0)],[.seq false],[0],[.sl (.one (.sl (.one (.int .i64))))]⟩⟩)]
def w49_u1_a:AC:=.run
def w49_u1:Un:=lpU w49_v.fz [23,24,25,26,27,30,31,32,33,34,35,36,37,3,28,29,5] w49_u1_h w49_u1_e (lp ref8_rows_L1 fuel)
theorem w49_u1_s (f:w49_u1_h.X→Option (YT w49_u1_e)) (x:w49_u1_h.X):E w49_v (subC (bodyOf Tryz.f121) [1,1,1,0,1,0,0]) (w49_u1_a) (mkS w49_u1_h 8 x) (roundK w49_v.fz w49_u1_h w49_u1_e f)=ref8_rows_L1 f x:=by kernel_rfl
theorem w49_u1_ok {X:Fx} (hX:VOk Tryz.prog X w49_v):UnOk Tryz.prog X w49_v (subC (bodyOf Tryz.f121) [1,1,1,0,1,0]) w49_u1 :=
 lp_un' (c:=(subC (bodyOf Tryz.f121) [1,1,1,0,1,0,0])) (by kernel_rfl) (env_all tb_ok (w49_gs)) hord (ob:=[]) (by kernel_rfl) (fun X hX=>obl_nil) (w49_u1_s) (by kernel_rfl) (by kernel_rfl) hX
def w49_u0_h:SS:=⟨[1,3,4],⟨[(.ptr 0 0),(.view 1),.hole],[.cells true [.hole,.hole,.hole],.seq false],[2,1,1,1,0],[.int .i64,.sl tLit,.sl (.one (.sl (.one (.int .i64)))),.sl tLit,.sl (.one (.sl (.one (.int .i64))))]⟩⟩
def w49_u0_e:Exs:=[((.exit 0),⟨[3],⟨[(.view 0)],[.seq false],[0],[.sl (.one (.sl (.one (.int .i64))))]⟩⟩)]
def w49_u0_a:AC:=.run
def w49_u0:Un:=lpU w49_v.fz [7,8,9,10,11,14,15,16,17,18,19,20,21,22,3,12,13,4] w49_u0_h w49_u0_e (lp ref8_rows_L0 fuel)
theorem w49_u0_s (f:w49_u0_h.X→Option (YT w49_u0_e)) (x:w49_u0_h.X):E w49_v (subC (bodyOf Tryz.f121) [1,1,0,1,0,0]) (w49_u0_a) (mkS w49_u0_h 8 x) (roundK w49_v.fz w49_u0_h w49_u0_e f)=ref8_rows_L0 f x:=by kernel_rfl
theorem w49_u0_ok {X:Fx} (hX:VOk Tryz.prog X w49_v):UnOk Tryz.prog X w49_v (subC (bodyOf Tryz.f121) [1,1,0,1,0]) w49_u0 :=
 lp_un' (c:=(subC (bodyOf Tryz.f121) [1,1,0,1,0,0])) (by kernel_rfl) (env_all tb_ok (w49_gs)) hord (ob:=[]) (by kernel_rfl) (fun X hX=>obl_nil) (w49_u0_s) (by kernel_rfl) (by kernel_rfl) hX
def w49_a:AC:=(.seq .run (.seq .run (.seq (.seq .run (.block (.unit w49_u0))) (.seq (.seq .run (.block (.unit w49_u1))) (.seq (.seq .run (.block (.unit w49_u2))) .run)))))
theorem w49_s (x:TupL w49_c.inp.hs):E w49_v (bodyOf Tryz.f121) (w49_a) (w49_c.entry x) (retSK tb w49_v.fz w49_c [.tmp 2] x)=w49_c.F x:=by kernel_rfl
theorem w49_ok:ShOk Tryz.prog gl 121 w49_c :=
 fn_ok (l:=w49_g) (n:=Tryz.f121.ntmps) (code:=bodyOf Tryz.f121) (rts:=[.tmp 2]) tb_ok hord (w49_gs) Tryz.func121 (by kernel_rfl) (by kernel_rfl) rfl (by kernel_rfl) (ac:=w49_a) (ob:=[((subC (bodyOf Tryz.f121) [1,1,0,1,0]),w49_u0),((subC (bodyOf Tryz.f121) [1,1,1,0,1,0]),w49_u1),((subC (bodyOf Tryz.f121) [1,1,1,1,0,1,0]),w49_u2)]) (by kernel_rfl) (fun X hX=>(obl_cons (w49_u0_ok hX) (obl_cons (w49_u1_ok hX) (obl_cons (w49_u2_ok hX) obl_nil)))) (by kernel_rfl) (w49_s)
def w50_c:ShC:={ inp:=⟨[.hole,(.agg [.hole,.hole,.hole])],[],[1,1,1,1],[.sl tSym,.sl tLit,.sl (.one (.sl (.one (.int .i64)))),.sl tLit]⟩,out:=⟨[.hole],[],[2],[.bool]⟩,nres:=1,ms:=[],mu:=[],leak:=false,glob:=false,F:=fun (x:((List QSym)×(List QLit)×(List (List Int))×(List QLit)))=>ref8_May x.1 x.2.1 x.2.2.1 x.2.2.2 }
-- quaereref8.May
def w50_g:List (Nat×Con):=[(57,.gen (altE [w42_c])),(119,.gen (altE [w48_c])),(120,.gen (altE [w46_c])),(121,.gen (altE [w49_c]))]
def w50_v:Env:=envOf tb gl w50_g w50_c Tryz.f60.ntmps
theorem w50_gs:Goods Tryz.prog (cond w50_c.glob gl fun _=>none) w50_g:=(goods_cons (good_alt (alls_cons (w42_ok.anyGl rfl) alls_nil)) (goods_cons (good_alt (alls_cons (w48_ok.anyGl rfl) alls_nil)) (goods_cons (good_alt (alls_cons (w46_ok.anyGl rfl) alls_nil)) (goods_cons (good_alt (alls_cons (w49_ok.anyGl rfl) alls_nil)) goods_nil))))
def w50_u3_h:SS:=⟨[9,10,11],⟨[.hole,.hole,.hole],[],[0,2,2],[.sl (.one (.sl (.one (.int .i64)))),.int .i64,.int .i64]⟩⟩
def w50_u3_e:Exs:=[((.exit 6),⟨[10],⟨[.hole],[],[2],[.int .i64]⟩⟩)]
def w50_u3_a:AC:=.run
def w50_u3:Un:=lpU w50_v.fz [91,92,93,94,97,98,99,100,101,102,103,10,95,96,11] w50_u3_h w50_u3_e (lp ref8_May_L3 fuel)
theorem w50_u3_s (f:w50_u3_h.X→Option (YT w50_u3_e)) (x:w50_u3_h.X):E w50_v (subC (bodyOf Tryz.f60) [1,1,1,1,1,1,1,0,1,0,0]) (w50_u3_a) (mkS w50_u3_h 8 x) (roundK w50_v.fz w50_u3_h w50_u3_e f)=ref8_May_L3 f x:=by kernel_rfl
theorem w50_u3_ok {X:Fx} (hX:VOk Tryz.prog X w50_v):UnOk Tryz.prog X w50_v (subC (bodyOf Tryz.f60) [1,1,1,1,1,1,1,0,1,0]) w50_u3 :=
 lp_un' (c:=(subC (bodyOf Tryz.f60) [1,1,1,1,1,1,1,0,1,0,0])) (by kernel_rfl) (env_all tb_ok (w50_gs)) hord (ob:=[]) (by kernel_rfl) (fun X hX=>obl_nil) (w50_u3_s) (by kernel_rfl) (by kernel_rfl) hX
def w50_u2_h:SS:=⟨[0,3,7],⟨[.hole,(.ptr 0 0),.hole],[.cells true [.hole,.hole,.hole]],[1,2,1,1,1],[.sl tSym,.int .i64,.sl tLit,.sl (.one (.sl (.one (.int .i64)))),.sl tLit]⟩⟩
def w50_u2_e:Exs:=[((.exit 4),⟨[],⟨[],[],[],[]⟩⟩),(.ret,⟨[4],⟨[.hole],[],[2],[.bool]⟩⟩)]
def w50_u2_a:AC:=.run
def w50_u2:Un:=lpU w50_v.fz [63,64,65,66,67,70,71,72,73,74,75,76,8,77,78,79,80,81,82,83,84,85,86,87,88,4,68,69,7] w50_u2_h w50_u2_e (lp ref8_May_L2 fuel)
theorem w50_u2_s (f:w50_u2_h.X→Option (YT w50_u2_e)) (x:w50_u2_h.X):E w50_v (subC (bodyOf Tryz.f60) [1,1,1,1,0,1,0,0]) (w50_u2_a) (mkS w50_u2_h 8 x) (roundK w50_v.fz w50_u2_h w50_u2_e f)=ref8_May_L2 f x:=by kernel_rfl
theorem w50_u2_ok {X:Fx} (hX:VOk Tryz.prog X w50_v):UnOk Tryz.prog X w50_v (subC (bodyOf Tryz.f60) [1,1,1,1,0,1,0]) w50_u2 :=
 lp_un' (c:=(subC (bodyOf Tryz.f60) [1,1,1,1,0,1,0,0])) (by kernel_rfl) (env_all tb_ok (w50_gs)) hord (ob:=[]) (by kernel_rfl) (fun X hX=>obl_nil) (w50_u2_s) (by kernel_rfl) (by kernel_rfl) hX
def w50_u1_h:SS:=⟨[0,3,6],⟨[.hole,(.ptr 0 0),.hole],[.cells true [.hole,.hole,.hole]],[1,2,1,1,1],[.sl tSym,.int .i64,.sl tLit,.sl (.one (.sl (.one (.int .i64)))),.sl tLit]⟩⟩
def w50_u1_e:Exs:=[((.exit 2),⟨[],⟨[],[],[],[]⟩⟩),(.ret,⟨[4],⟨[.hole],[],[2],[.bool]⟩⟩)]
def w50_u1_a:AC:=.run
def w50_u1:Un:=lpU w50_v.fz [48,49,50,51,52,55,56,57,58,59,60,61,62,4,53,54,6] w50_u1_h w50_u1_e (lp ref8_May_L1 fuel)
theorem w50_u1_s (f:w50_u1_h.X→Option (YT w50_u1_e)) (x:w50_u1_h.X):E w50_v (subC (bodyOf Tryz.f60) [1,1,1,0,1,0,0]) (w50_u1_a) (mkS w50_u1_h 8 x) (roundK w50_v.fz w50_u1_h w50_u1_e f)=ref8_May_L1 f x:=by kernel_rfl
theorem w50_u1_ok {X:Fx} (hX:VOk Tryz.prog X w50_v):UnOk Tryz.prog X w50_v (subC (bodyOf Tryz.f60) [1,1,1,0,1,0]) w50_u1 :=
 lp_un' (c:=(subC (bodyOf Tryz.f60) [1,1,1,0,1,0,0])) (by kernel_rfl) (env_all tb_ok (w50_gs)) hord (ob:=[]) (by kernel_rfl) (fun X hX=>obl_nil) (w50_u1_s) (by kernel_rfl) (by kernel_rfl) hX
def w50_u0_h:SS:=⟨[0,3,5],⟨[.hole,(.ptr 0 0),.hole],[.cells true [.hole,.hole,.hole]],[1,2,1,1,1],[.sl tSym,.int .i64,.sl tLit,.sl (.one (.sl (.one (.int .i64)))),.sl tLit]⟩⟩
def w50_u0_e:Exs:=[((.exit 0),⟨[],⟨[],[],[],[]⟩⟩),(.ret,⟨[4],⟨[.hole],[],[2],[.bool]⟩⟩)]
def w50_u0_a:AC:=.run
def w50_u0:Un:=lpU w50_v.fz [33,34,35,36,37,40,41,42,43,44,45,46,47,4,38,39,5] w50_u0_h w50_u0_e (lp ref8_May_L0 fuel)
theorem w50_u0_s (f:w50_u0_h.X→Option (YT w50_u0_e)) (x:w50_u0_h.X):E w50_v (subC (bodyOf Tryz.f60) [1,1,0,1,0,0]) (w50_u0_a) (mkS w50_u0_h 8 x) (roundK w50_v.fz w50_u0_h w50_u0_e f)=ref8_May_L0 f x:=by kernel_rfl
theorem w50_u0_ok {X:Fx} (hX:VOk Tryz.prog X w50_v):UnOk Tryz.prog X w50_v (subC (bodyOf Tryz.f60) [1,1,0,1,0]) w50_u0 :=
 lp_un' (c:=(subC (bodyOf Tryz.f60) [1,1,0,1,0,0])) (by kernel_rfl) (env_all tb_ok (w50_gs)) hord (ob:=[]) (by kernel_rfl) (fun X hX=>obl_nil) (w50_u0_s) (by kernel_rfl) (by kernel_rfl) hX
def w50_a:AC:=(.seq .run (.seq .run (.seq (.seq .run (.block (.unit w50_u0))) (.seq (.seq .run (.block (.unit w50_u1))) (.seq (.seq .run (.block (.unit w50_u2))) (.seq .run (.seq .run (.seq (.seq .run (.block (.unit w50_u3))) .run))))))))
theorem w50_s (x:TupL w50_c.inp.hs):E w50_v (bodyOf Tryz.f60) (w50_a) (w50_c.entry x) (retSK tb w50_v.fz w50_c [.tmp 4] x)=w50_c.F x:=by kernel_rfl
theorem w50_ok:ShOk Tryz.prog gl 60 w50_c :=
 fn_ok (l:=w50_g) (n:=Tryz.f60.ntmps) (code:=bodyOf Tryz.f60) (rts:=[.tmp 4]) tb_ok hord (w50_gs) Tryz.func60 (by kernel_rfl) (by kernel_rfl) rfl (by kernel_rfl) (ac:=w50_a) (ob:=[((subC (bodyOf Tryz.f60) [1,1,0,1,0]),w50_u0),((subC (bodyOf Tryz.f60) [1,1,1,0,1,0]),w50_u1),((subC (bodyOf Tryz.f60) [1,1,1,1,0,1,0]),w50_u2),((subC (bodyOf Tryz.f60) [1,1,1,1,1,1,1,0,1,0]),w50_u3)]) (by kernel_rfl) (fun X hX=>(obl_cons (w50_u0_ok hX) (obl_cons (w50_u1_ok hX) (obl_cons (w50_u2_ok hX) (obl_cons (w50_u3_ok hX) obl_nil))))) (by kernel_rfl) (w50_s)
def w51_c:ShC:={ inp:=⟨[.hole,.hole],[],[1,1],[.sl (.one (.int .i64)),.sl (.one (.int .i64))]⟩,out:=⟨[.hole],[],[2],[.bool]⟩,nres:=1,ms:=[],mu:=[],leak:=false,glob:=false,F:=fun (x:((List Int)×(List Int)))=>ref1_Same x.1 x.2 }
-- quaereref1.Same
def w51_g:List (Nat×Con):=[]
def w51_v:Env:=envOf tb gl w51_g w51_c Tryz.f123.ntmps
theorem w51_gs:Goods Tryz.prog (cond w51_c.glob gl fun _=>none) w51_g:=goods_nil
def w51_u0_h:SS:=⟨[0,1,5],⟨[.hole,.hole,.hole],[],[1,1,2],[.sl (.one (.int .i64)),.sl (.one (.int .i64)),.int .i64]⟩⟩
def w51_u0_e:Exs:=[((.exit 0),⟨[],⟨[],[],[],[]⟩⟩),(.ret,⟨[4],⟨[.hole],[],[2],[.bool]⟩⟩)]
def w51_u0_a:AC:=.run
def w51_u0:Un:=lpU w51_v.fz [11,12,13,14,17,18,19,20,21,22,23,24,25,4,15,16,5] w51_u0_h w51_u0_e (lp ref1_Same_L0 fuel)
theorem w51_u0_s (f:w51_u0_h.X→Option (YT w51_u0_e)) (x:w51_u0_h.X):E w51_v (subC (bodyOf Tryz.f123) [1,1,0,1,0,0]) (w51_u0_a) (mkS w51_u0_h 8 x) (roundK w51_v.fz w51_u0_h w51_u0_e f)=ref1_Same_L0 f x:=by kernel_rfl
theorem w51_u0_ok {X:Fx} (hX:VOk Tryz.prog X w51_v):UnOk Tryz.prog X w51_v (subC (bodyOf Tryz.f123) [1,1,0,1,0]) w51_u0 :=
 lp_un' (c:=(subC (bodyOf Tryz.f123) [1,1,0,1,0,0])) (by kernel_rfl) (env_all tb_ok (w51_gs)) hord (ob:=[]) (by kernel_rfl) (fun X hX=>obl_nil) (w51_u0_s) (by kernel_rfl) (by kernel_rfl) hX
def w51_a:AC:=(.seq .run (.seq .run (.seq (.seq .run (.block (.unit w51_u0))) .run)))
theorem w51_s (x:TupL w51_c.inp.hs):E w51_v (bodyOf Tryz.f123) (w51_a) (w51_c.entry x) (retSK tb w51_v.fz w51_c [.tmp 4] x)=w51_c.F x:=by kernel_rfl
theorem w51_ok:ShOk Tryz.prog gl 123 w51_c :=
 fn_ok (l:=w51_g) (n:=Tryz.f123.ntmps) (code:=bodyOf Tryz.f123) (rts:=[.tmp 4]) tb_ok hord (w51_gs) Tryz.func123 (by kernel_rfl) (by kernel_rfl) rfl (by kernel_rfl) (ac:=w51_a) (ob:=[((subC (bodyOf Tryz.f123) [1,1,0,1,0]),w51_u0)]) (by kernel_rfl) (fun X hX=>(obl_cons (w51_u0_ok hX) obl_nil)) (by kernel_rfl) (w51_s)
def w52_c:ShC:={ inp:=⟨[(.agg [.hole,.hole]),(.agg [.hole,.hole])],[],[1,1,1,1],[.bool,.sl (.one (.int .i64)),.bool,.sl (.one (.int .i64))]⟩,out:=⟨[.hole],[],[2],[.bool]⟩,nres:=1,ms:=[],mu:=[],leak:=false,glob:=false,F:=fun (x:(Bool×(List Int)×Bool×(List Int)))=>ref8_SameLit x.1 x.2.1 x.2.2.1 x.2.2.2 }
-- quaereref8.SameLit
def w52_g:List (Nat×Con):=[(123,.gen (altE [w51_c]))]
def w52_v:Env:=envOf tb gl w52_g w52_c Tryz.f174.ntmps
theorem w52_gs:Goods Tryz.prog (cond w52_c.glob gl fun _=>none) w52_g:=(goods_cons (good_alt (alls_cons (w51_ok.anyGl rfl) alls_nil)) goods_nil)
def w52_a:AC:=.run
theorem w52_s (x:TupL w52_c.inp.hs):E w52_v (bodyOf Tryz.f174) (w52_a) (w52_c.entry x) (retSK tb w52_v.fz w52_c [.tmp 4] x)=w52_c.F x:=by kernel_rfl
theorem w52_ok:ShOk Tryz.prog gl 174 w52_c :=
 fn_ok (l:=w52_g) (n:=Tryz.f174.ntmps) (code:=bodyOf Tryz.f174) (rts:=[.tmp 4]) tb_ok hord (w52_gs) Tryz.func174 (by kernel_rfl) (by kernel_rfl) rfl (by kernel_rfl) (ac:=w52_a) (ob:=[]) (by kernel_rfl) (fun X hX=>obl_nil) (by kernel_rfl) (w52_s)
def w53_c:ShC:={ inp:=⟨[.hole],[],[1],[.sl tLit]⟩,out:=⟨[(.view 0)],[.seq false],[0],[.sl tLit]⟩,nres:=1,ms:=[],mu:=[],leak:=true,glob:=false,F:=fun (x:(List QLit))=>ref8_lits x }
-- quaereref8.lits
def w53_g:List (Nat×Con):=[(174,.gen (altE [w52_c]))]
def w53_v:Env:=envOf tb gl w53_g w53_c Tryz.f122.ntmps
theorem w53_gs:Goods Tryz.prog (cond w53_c.glob gl fun _=>none) w53_g:=(goods_cons (good_alt (alls_cons (w52_ok.anyGl rfl) alls_nil)) goods_nil)
def w53_u0_h:SS:=⟨[0,3,4,5,6],⟨[.hole,(.view 0),.hole,.hole,.hole],[.seq false],[1,2,2,2,0],[.sl tLit,.int .i64,.bool,.int .i64,.sl tLit]⟩⟩
def w53_u0_e:Exs:=[((.exit 2),⟨[3,5],⟨[(.view 0),.hole],[.seq false],[2,0],[.bool,.sl tLit]⟩⟩)]
def w53_u0_a:AC:=.run
def w53_u0:Un:=lpU w53_v.fz [13,14,15,16,19,20,21,22,23,24,25,26,27,28,29,30,5,17,18,6] w53_u0_h w53_u0_e (lp ref8_lits_L0 fuel)
theorem w53_u0_s (f:w53_u0_h.X→Option (YT w53_u0_e)) (x:w53_u0_h.X):E w53_v (subC (bodyOf Tryz.f122) [1,1,0,1,0,0,1,0,0,1,0,1,0,0]) (w53_u0_a) (mkS w53_u0_h 8 x) (roundK w53_v.fz w53_u0_h w53_u0_e f)=ref8_lits_L0 f x:=by kernel_rfl
theorem w53_u0_ok {X:Fx} (hX:VOk Tryz.prog X w53_v):UnOk Tryz.prog X w53_v (subC (bodyOf Tryz.f122) [1,1,0,1,0,0,1,0,0,1,0,1,0]) w53_u0 :=
 lp_un' (c:=(subC (bodyOf Tryz.f122) [1,1,0,1,0,0,1,0,0,1,0,1,0,0])) (by kernel_rfl) (env_all tb_ok (w53_gs)) hord (ob:=[]) (by kernel_rfl) (fun X hX=>obl_nil) (w53_u0_s) (by kernel_rfl) (by kernel_rfl) hX
def w53_u1_h:SS:=⟨[0,3,4],⟨[.hole,(.view 0),.hole],[.seq false],[1,2,0],[.sl tLit,.int .i64,.sl tLit]⟩⟩
def w53_u1_e:Exs:=[((.exit 0),⟨[3],⟨[(.view 0)],[.seq false],[0],[.sl tLit]⟩⟩)]
def w53_u1_a:AC:=(.seq .run (.seq (.block (.seq .run (.seq (.seq .run (.block (.unit w53_u0))) .run))) .run))
def w53_u1:Un:=lpU w53_v.fz [7,8,9,10,5,6,13,14,15,16,19,20,21,22,23,24,25,26,27,28,29,30,5,17,18,6,31,32,33,34,35,36,37,38,39,3,11,12,4] w53_u1_h w53_u1_e (lp ref8_lits_L1 fuel)
theorem w53_u1_s (f:w53_u1_h.X→Option (YT w53_u1_e)) (x:w53_u1_h.X):E w53_v (subC (bodyOf Tryz.f122) [1,1,0,1,0,0]) (w53_u1_a) (mkS w53_u1_h 8 x) (roundK w53_v.fz w53_u1_h w53_u1_e f)=ref8_lits_L1 f x:=by kernel_rfl
theorem w53_u1_ok {X:Fx} (hX:VOk Tryz.prog X w53_v):UnOk Tryz.prog X w53_v (subC (bodyOf Tryz.f122) [1,1,0,1,0]) w53_u1 :=
 lp_un' (c:=(subC (bodyOf Tryz.f122) [1,1,0,1,0,0])) (by kernel_rfl) (env_all tb_ok (w53_gs)) hord (ob:=[((subC (bodyOf Tryz.f122) [1,1,0,1,0,0,1,0,0,1,0,1,0]),w53_u0)]) (by kernel_rfl) (fun X hX=>(obl_cons (w53_u0_ok hX) obl_nil)) (w53_u1_s) (by kernel_rfl) (by kernel_rfl) hX
def w53_a:AC:=(.seq .run (.seq .run (.seq (.seq .run (.block (.unit w53_u1))) .run)))
theorem w53_s (x:TupL w53_c.inp.hs):E w53_v (bodyOf Tryz.f122) (w53_a) (w53_c.entry x) (retSK tb w53_v.fz w53_c [.tmp 2] x)=w53_c.F x:=by kernel_rfl
theorem w53_ok:ShOk Tryz.prog gl 122 w53_c :=
 fn_ok (l:=w53_g) (n:=Tryz.f122.ntmps) (code:=bodyOf Tryz.f122) (rts:=[.tmp 2]) tb_ok hord (w53_gs) Tryz.func122 (by kernel_rfl) (by kernel_rfl) rfl (by kernel_rfl) (ac:=w53_a) (ob:=[((subC (bodyOf Tryz.f122) [1,1,0,1,0]),w53_u1)]) (by kernel_rfl) (fun X hX=>(obl_cons (w53_u1_ok hX) obl_nil)) (by kernel_rfl) (w53_s)
def w54_c:ShC:={ inp:=⟨[.hole,.hole],[],[1,1],[.sl (.cons (.int .i64) (.one (.sl (.one (.int .i64))))),.int .i64]⟩,out:=⟨[.hole],[],[2],[.int .i64]⟩,nres:=1,ms:=[],mu:=[],leak:=false,glob:=false,F:=fun (x:((List (Int×(List Int)))×Int))=>ref1_Of x.1 x.2 }
-- quaereref1.Of
def w54_g:List (Nat×Con):=[]
def w54_v:Env:=envOf tb gl w54_g w54_c Tryz.f124.ntmps
theorem w54_gs:Goods Tryz.prog (cond w54_c.glob gl fun _=>none) w54_g:=goods_nil
def w54_u0_h:SS:=⟨[0,1,5],⟨[.hole,.hole,.hole],[],[1,2,2],[.sl (.cons (.int .i64) (.one (.sl (.one (.int .i64))))),.int .i64,.int .i64]⟩⟩
def w54_u0_e:Exs:=[((.exit 0),⟨[],⟨[],[],[],[]⟩⟩),(.ret,⟨[4],⟨[.hole],[],[2],[.int .i64]⟩⟩)]
def w54_u0_a:AC:=.run
def w54_u0:Un:=lpU w54_v.fz [6,7,8,9,12,13,14,15,16,17,18,19,4,10,11,5] w54_u0_h w54_u0_e (lp ref1_Of_L0 fuel)
theorem w54_u0_s (f:w54_u0_h.X→Option (YT w54_u0_e)) (x:w54_u0_h.X):E w54_v (subC (bodyOf Tryz.f124) [1,0,1,0,0]) (w54_u0_a) (mkS w54_u0_h 8 x) (roundK w54_v.fz w54_u0_h w54_u0_e f)=ref1_Of_L0 f x:=by kernel_rfl
theorem w54_u0_ok {X:Fx} (hX:VOk Tryz.prog X w54_v):UnOk Tryz.prog X w54_v (subC (bodyOf Tryz.f124) [1,0,1,0]) w54_u0 :=
 lp_un' (c:=(subC (bodyOf Tryz.f124) [1,0,1,0,0])) (by kernel_rfl) (env_all tb_ok (w54_gs)) hord (ob:=[]) (by kernel_rfl) (fun X hX=>obl_nil) (w54_u0_s) (by kernel_rfl) (by kernel_rfl) hX
def w54_a:AC:=(.seq .run (.seq (.seq .run (.block (.unit w54_u0))) .run))
theorem w54_s (x:TupL w54_c.inp.hs):E w54_v (bodyOf Tryz.f124) (w54_a) (w54_c.entry x) (retSK tb w54_v.fz w54_c [.tmp 4] x)=w54_c.F x:=by kernel_rfl
theorem w54_ok:ShOk Tryz.prog gl 124 w54_c :=
 fn_ok (l:=w54_g) (n:=Tryz.f124.ntmps) (code:=bodyOf Tryz.f124) (rts:=[.tmp 4]) tb_ok hord (w54_gs) Tryz.func124 (by kernel_rfl) (by kernel_rfl) rfl (by kernel_rfl) (ac:=w54_a) (ob:=[((subC (bodyOf Tryz.f124) [1,0,1,0]),w54_u0)]) (by kernel_rfl) (fun X hX=>(obl_cons (w54_u0_ok hX) obl_nil)) (by kernel_rfl) (w54_s)
def w55_c:ShC:={ inp:=⟨[.hole,.hole],[],[1,1],[.sl (.cons (.int .i64) (.one (.sl (.one (.int .i64))))),.sl (.one (.int .i64))]⟩,out:=⟨[(.view 0)],[.seq false],[2],[.sl (.one (.int .i64))]⟩,nres:=1,ms:=[],mu:=[],leak:=false,glob:=false,F:=fun (x:((List (Int×(List Int)))×(List Int)))=>ref1_Put x.1 x.2 }
-- quaereref1.Put
def w55_g:List (Nat×Con):=[(124,.gen (altE [w54_c]))]
def w55_v:Env:=envOf tb gl w55_g w55_c Tryz.f94.ntmps
theorem w55_gs:Goods Tryz.prog (cond w55_c.glob gl fun _=>none) w55_g:=(goods_cons (good_alt (alls_cons (w54_ok.anyGl rfl) alls_nil)) goods_nil)
def w55_u0_h:SS:=⟨[0,1,5,6],⟨[.hole,.hole,(.view 0),.hole],[.seq false],[1,1,2,2],[.sl (.cons (.int .i64) (.one (.sl (.one (.int .i64))))),.sl (.one (.int .i64)),.int .i64,.sl (.one (.int .i64))]⟩⟩
def w55_u0_e:Exs:=[((.exit 0),⟨[5],⟨[(.view 0)],[.seq false],[2],[.sl (.one (.int .i64))]⟩⟩)]
def w55_u0_a:AC:=.run
def w55_u0:Un:=lpU w55_v.fz [8,9,10,11,7,14,15,16,17,18,19,20,21,22,23,24,25,7,26,27,28,29,30,31,32,33,34,5,35,36,37,38,39,40,41,5,12,13,6] w55_u0_h w55_u0_e (lp ref1_Put_L0 fuel)
theorem w55_u0_s (f:w55_u0_h.X→Option (YT w55_u0_e)) (x:w55_u0_h.X):E w55_v (subC (bodyOf Tryz.f94) [1,1,0,1,0,0]) (w55_u0_a) (mkS w55_u0_h 8 x) (roundK w55_v.fz w55_u0_h w55_u0_e f)=ref1_Put_L0 f x:=by kernel_rfl
theorem w55_u0_ok {X:Fx} (hX:VOk Tryz.prog X w55_v):UnOk Tryz.prog X w55_v (subC (bodyOf Tryz.f94) [1,1,0,1,0]) w55_u0 :=
 lp_un' (c:=(subC (bodyOf Tryz.f94) [1,1,0,1,0,0])) (by kernel_rfl) (env_all tb_ok (w55_gs)) hord (ob:=[]) (by kernel_rfl) (fun X hX=>obl_nil) (w55_u0_s) (by kernel_rfl) (by kernel_rfl) hX
def w55_a:AC:=(.seq .run (.seq .run (.seq (.seq .run (.block (.unit w55_u0))) .run)))
theorem w55_s (x:TupL w55_c.inp.hs):E w55_v (bodyOf Tryz.f94) (w55_a) (w55_c.entry x) (retSK tb w55_v.fz w55_c [.tmp 4] x)=w55_c.F x:=by kernel_rfl
theorem w55_ok:ShOk Tryz.prog gl 94 w55_c :=
 fn_ok (l:=w55_g) (n:=Tryz.f94.ntmps) (code:=bodyOf Tryz.f94) (rts:=[.tmp 4]) tb_ok hord (w55_gs) Tryz.func94 (by kernel_rfl) (by kernel_rfl) rfl (by kernel_rfl) (ac:=w55_a) (ob:=[((subC (bodyOf Tryz.f94) [1,1,0,1,0]),w55_u0)]) (by kernel_rfl) (fun X hX=>(obl_cons (w55_u0_ok hX) obl_nil)) (by kernel_rfl) (w55_s)
def w56_c:ShC:={ inp:=⟨[.hole,(.agg [.hole,.hole,.hole])],[],[1,1,1,1],[.sl (.cons (.int .i64) (.one (.sl (.one (.int .i64))))),.sl tLit,.sl (.one (.sl (.one (.int .i64)))),.sl tLit]⟩,out:=⟨[(.agg [.hole,.hole,(.view 0)])],[.seq false],[2,2,2],[.sl tLit,.sl (.one (.sl (.one (.int .i64)))),.sl tLit]⟩,nres:=1,ms:=[],mu:=[],leak:=false,glob:=false,F:=fun (x:((List (Int×(List Int)))×(List QLit)×(List (List Int))×(List QLit)))=>ref8_Copy x.1 x.2.1 x.2.2.1 x.2.2.2 }
-- quaereref8.Copy
def w56_g:List (Nat×Con):=[(94,.gen (altE [w55_c]))]
def w56_v:Env:=envOf tb gl w56_g w56_c Tryz.f125.ntmps
theorem w56_gs:Goods Tryz.prog (cond w56_c.glob gl fun _=>none) w56_g:=(goods_cons (good_alt (alls_cons (w55_ok.anyGl rfl) alls_nil)) goods_nil)
def w56_u2_h:SS:=⟨[0,3,4,5,8],⟨[.hole,(.ptr 0 0),(.ptr 1 0),(.ptr 2 0),.hole],[.cells true [.hole,.hole,.hole],.cells true [.nilv,.nilv,.nilv],.cells false [.hole,.hole,(.view 3)],.seq false],[1,2,1,1,1,2,2,2],[.sl (.cons (.int .i64) (.one (.sl (.one (.int .i64))))),.int .i64,.sl tLit,.sl (.one (.sl (.one (.int .i64)))),.sl tLit,.sl tLit,.sl (.one (.sl (.one (.int .i64)))),.sl tLit]⟩⟩
def w56_u2_e:Exs:=[((.exit 4),⟨[5],⟨[(.ptr 0 0)],[.cells false [.hole,.hole,(.view 1)],.seq false],[2,2,2],[.sl tLit,.sl (.one (.sl (.one (.int .i64)))),.sl tLit]⟩⟩)]
def w56_u2_a:AC:=.run
def w56_u2:Un:=lpU w56_v.fz [55,56,57,58,59,62,63,64,65,66,67,68,69,70,71,72,73,74,75,76,77,78,79,80,81,60,61,8] w56_u2_h w56_u2_e (lp ref8_Copy_L2 fuel)
theorem w56_u2_s (f:w56_u2_h.X→Option (YT w56_u2_e)) (x:w56_u2_h.X):E w56_v (subC (bodyOf Tryz.f125) [1,1,1,1,0,1,0,0]) (w56_u2_a) (mkS w56_u2_h 8 x) (roundK w56_v.fz w56_u2_h w56_u2_e f)=ref8_Copy_L2 f x:=by kernel_rfl
theorem w56_u2_ok {X:Fx} (hX:VOk Tryz.prog X w56_v):UnOk Tryz.prog X w56_v (subC (bodyOf Tryz.f125) [1,1,1,1,0,1,0]) w56_u2 :=
 lp_un' (c:=(subC (bodyOf Tryz.f125) [1,1,1,1,0,1,0,0])) (by kernel_rfl) (env_all tb_ok (w56_gs)) hord (ob:=[]) (by kernel_rfl) (fun X hX=>obl_nil) (w56_u2_s) (by kernel_rfl) (by kernel_rfl) hX
def w56_u1_h:SS:=⟨[0,3,4,5,7],⟨[.hole,(.ptr 0 0),(.ptr 1 0),(.ptr 2 0),.hole],[.cells true [.hole,.hole,.hole],.cells true [.nilv,.nilv,.nilv],.cells false [.hole,(.view 3),.nilv],.seq false],[1,2,1,1,1,2,2],[.sl (.cons (.int .i64) (.one (.sl (.one (.int .i64))))),.int .i64,.sl tLit,.sl (.one (.sl (.one (.int .i64)))),.sl tLit,.sl tLit,.sl (.one (.sl (.one (.int .i64))))]⟩⟩
def w56_u1_e:Exs:=[((.exit 2),⟨[5],⟨[(.ptr 0 0)],[.cells false [.hole,(.view 1),.nilv],.seq false],[2,2],[.sl tLit,.sl (.one (.sl (.one (.int .i64))))]⟩⟩)]
def w56_u1_a:AC:=.run
def w56_u1:Un:=lpU w56_v.fz [36,37,38,39,40,43,44,45,46,47,48,49,50,51,52,53,54,41,42,7] w56_u1_h w56_u1_e (lp ref8_Copy_L1 fuel)
theorem w56_u1_s (f:w56_u1_h.X→Option (YT w56_u1_e)) (x:w56_u1_h.X):E w56_v (subC (bodyOf Tryz.f125) [1,1,1,0,1,0,0]) (w56_u1_a) (mkS w56_u1_h 8 x) (roundK w56_v.fz w56_u1_h w56_u1_e f)=ref8_Copy_L1 f x:=by kernel_rfl
theorem w56_u1_ok {X:Fx} (hX:VOk Tryz.prog X w56_v):UnOk Tryz.prog X w56_v (subC (bodyOf Tryz.f125) [1,1,1,0,1,0]) w56_u1 :=
 lp_un' (c:=(subC (bodyOf Tryz.f125) [1,1,1,0,1,0,0])) (by kernel_rfl) (env_all tb_ok (w56_gs)) hord (ob:=[]) (by kernel_rfl) (fun X hX=>obl_nil) (w56_u1_s) (by kernel_rfl) (by kernel_rfl) hX
def w56_u0_h:SS:=⟨[0,3,4,5,6],⟨[.hole,(.ptr 0 0),(.ptr 1 0),(.ptr 2 0),.hole],[.cells true [.hole,.hole,.hole],.cells true [.nilv,.nilv,.nilv],.cells false [(.view 3),.nilv,.nilv],.seq false],[1,2,1,1,1,2],[.sl (.cons (.int .i64) (.one (.sl (.one (.int .i64))))),.int .i64,.sl tLit,.sl (.one (.sl (.one (.int .i64)))),.sl tLit,.sl tLit]⟩⟩
def w56_u0_e:Exs:=[((.exit 0),⟨[5],⟨[(.ptr 0 0)],[.cells false [(.view 1),.nilv,.nilv],.seq false],[2],[.sl tLit]⟩⟩)]
def w56_u0_a:AC:=.run
def w56_u0:Un:=lpU w56_v.fz [9,10,11,12,13,16,17,18,19,20,21,22,23,24,25,26,27,28,29,30,31,32,33,34,35,14,15,6] w56_u0_h w56_u0_e (lp ref8_Copy_L0 fuel)
theorem w56_u0_s (f:w56_u0_h.X→Option (YT w56_u0_e)) (x:w56_u0_h.X):E w56_v (subC (bodyOf Tryz.f125) [1,1,0,1,0,0]) (w56_u0_a) (mkS w56_u0_h 8 x) (roundK w56_v.fz w56_u0_h w56_u0_e f)=ref8_Copy_L0 f x:=by kernel_rfl
theorem w56_u0_ok {X:Fx} (hX:VOk Tryz.prog X w56_v):UnOk Tryz.prog X w56_v (subC (bodyOf Tryz.f125) [1,1,0,1,0]) w56_u0 :=
 lp_un' (c:=(subC (bodyOf Tryz.f125) [1,1,0,1,0,0])) (by kernel_rfl) (env_all tb_ok (w56_gs)) hord (ob:=[]) (by kernel_rfl) (fun X hX=>obl_nil) (w56_u0_s) (by kernel_rfl) (by kernel_rfl) hX
def w56_a:AC:=(.seq .run (.seq .run (.seq (.seq .run (.block (.unit w56_u0))) (.seq (.seq .run (.block (.unit w56_u1))) (.seq (.seq .run (.block (.unit w56_u2))) .run)))))
theorem w56_s (x:TupL w56_c.inp.hs):E w56_v (bodyOf Tryz.f125) (w56_a) (w56_c.entry x) (retSK tb w56_v.fz w56_c [.cell 4 29] x)=w56_c.F x:=by kernel_rfl
theorem w56_ok:ShOk Tryz.prog gl 125 w56_c :=
 fn_ok (l:=w56_g) (n:=Tryz.f125.ntmps) (code:=bodyOf Tryz.f125) (rts:=[.cell 4 29]) tb_ok hord (w56_gs) Tryz.func125 (by kernel_rfl) (by kernel_rfl) rfl (by kernel_rfl) (ac:=w56_a) (ob:=[((subC (bodyOf Tryz.f125) [1,1,0,1,0]),w56_u0),((subC (bodyOf Tryz.f125) [1,1,1,0,1,0]),w56_u1),((subC (bodyOf Tryz.f125) [1,1,1,1,0,1,0]),w56_u2)]) (by kernel_rfl) (fun X hX=>(obl_cons (w56_u0_ok hX) (obl_cons (w56_u1_ok hX) (obl_cons (w56_u2_ok hX) obl_nil)))) (by kernel_rfl) (w56_s)
def w57_c:ShC:={ inp:=⟨[(.agg [.hole,.hole,.hole])],[],[1,1,1],[.sl tLit,.sl (.one (.sl (.one (.int .i64)))),.sl tLit]⟩,out:=⟨[(.agg [.hole,.hole,(.view 0)])],[.seq false],[2,2,2],[.sl tLit,.sl (.one (.sl (.one (.int .i64)))),.sl tLit]⟩,nres:=1,ms:=[],mu:=[],leak:=false,glob:=false,F:=fun (x:((List QLit)×(List (List Int))×(List QLit)))=>ref8_Norm x.1 x.2.1 x.2.2 }
-- quaereref8.Norm
def w57_g:List (Nat×Con):=[(121,.gen (altE [w49_c])),(122,.gen (altE [w53_c])),(123,.gen (altE [w51_c])),(124,.gen (altE [w54_c])),(125,.gen (altE [w56_c]))]
def w57_v:Env:=envOf tb gl w57_g w57_c Tryz.f61.ntmps
theorem w57_gs:Goods Tryz.prog (cond w57_c.glob gl fun _=>none) w57_g:=(goods_cons (good_alt (alls_cons (w49_ok.anyGl rfl) alls_nil)) (goods_cons (good_alt (alls_cons (w53_ok.anyGl rfl) alls_nil)) (goods_cons (good_alt (alls_cons (w51_ok.anyGl rfl) alls_nil)) (goods_cons (good_alt (alls_cons (w54_ok.anyGl rfl) alls_nil)) (goods_cons (good_alt (alls_cons (w56_ok.anyGl rfl) alls_nil)) goods_nil)))))
def w57_u2_h:SS:=⟨[2,3,7,8,9,10],⟨[(.ptr 0 0),(.ptr 1 0),(.view 2),.hole,.hole,.hole],[.cells true [.nilv,.nilv,.nilv],.cells true [.hole,.hole,.hole],.seq false],[0,2,2,0,0,0,2],[.sl (.one (.sl (.one (.int .i64)))),.int .i64,.int .i64,.sl tLit,.sl (.one (.sl (.one (.int .i64)))),.sl tLit,.sl (.cons (.int .i64) (.one (.sl (.one (.int .i64)))))]⟩⟩
def w57_u2_e:Exs:=[((.exit 6),⟨[7],⟨[(.view 0)],[.seq false],[2],[.sl (.cons (.int .i64) (.one (.sl (.one (.int .i64)))))]⟩⟩)]
def w57_u2_a:AC:=.run
def w57_u2:Un:=lpU w57_v.fz [67,68,69,70,71,72,73,76,77,78,79,80,81,82,11,83,84,85,86,87,88,89,90,91,92,93,94,95,96,97,98,99,100,101,7,74,75,10] w57_u2_h w57_u2_e (lp ref8_Norm_L2 fuel)
theorem w57_u2_s (f:w57_u2_h.X→Option (YT w57_u2_e)) (x:w57_u2_h.X):E w57_v (subC (bodyOf Tryz.f61) [1,1,1,1,1,0,1,0,0,1,0,0,1,0,0]) (w57_u2_a) (mkS w57_u2_h 8 x) (roundK w57_v.fz w57_u2_h w57_u2_e f)=ref8_Norm_L2 f x:=by kernel_rfl
theorem w57_u2_ok {X:Fx} (hX:VOk Tryz.prog X w57_v):UnOk Tryz.prog X w57_v (subC (bodyOf Tryz.f61) [1,1,1,1,1,0,1,0,0,1,0,0,1,0]) w57_u2 :=
 lp_un' (c:=(subC (bodyOf Tryz.f61) [1,1,1,1,1,0,1,0,0,1,0,0,1,0,0])) (by kernel_rfl) (env_all tb_ok (w57_gs)) hord (ob:=[]) (by kernel_rfl) (fun X hX=>obl_nil) (w57_u2_s) (by kernel_rfl) (by kernel_rfl) hX
def w57_u0_h:SS:=⟨[1,2,3,4,5,6],⟨[(.ptr 0 0),(.ptr 1 0),(.ptr 2 0),.hole,.hole,.hole],[.cells true [.hole,.hole,.hole],.cells true [.nilv,.nilv,.nilv],.cells false [.hole,(.view 3),.hole],.seq false],[2,2,2,1,1,1,0,0,0],[.int .i64,.bool,.int .i64,.sl tLit,.sl (.one (.sl (.one (.int .i64)))),.sl tLit,.sl tLit,.sl tLit,.sl (.one (.sl (.one (.int .i64))))]⟩⟩
def w57_u0_e:Exs:=[((.exit 2),⟨[3,5],⟨[(.ptr 0 0),.hole],[.cells false [.hole,(.view 1),.hole],.seq false],[2,0,0,0],[.bool,.sl tLit,.sl tLit,.sl (.one (.sl (.one (.int .i64))))]⟩⟩)]
def w57_u0_a:AC:=.run
def w57_u0:Un:=lpU w57_v.fz [26,27,28,29,30,33,34,35,36,37,38,39,40,41,42,43,44,45,46,5,31,32,6] w57_u0_h w57_u0_e (lp ref8_Norm_L0 fuel)
theorem w57_u0_s (f:w57_u0_h.X→Option (YT w57_u0_e)) (x:w57_u0_h.X):E w57_v (subC (bodyOf Tryz.f61) [1,1,0,1,0,0,1,0,0,1,0,1,0,0]) (w57_u0_a) (mkS w57_u0_h 8 x) (roundK w57_v.fz w57_u0_h w57_u0_e f)=ref8_Norm_L0 f x:=by kernel_rfl
theorem w57_u0_ok {X:Fx} (hX:VOk Tryz.prog X w57_v):UnOk Tryz.prog X w57_v (subC (bodyOf Tryz.f61) [1,1,0,1,0,0,1,0,0,1,0,1,0]) w57_u0 :=
 lp_un' (c:=(subC (bodyOf Tryz.f61) [1,1,0,1,0,0,1,0,0,1,0,1,0,0])) (by kernel_rfl) (env_all tb_ok (w57_gs)) hord (ob:=[]) (by kernel_rfl) (fun X hX=>obl_nil) (w57_u0_s) (by kernel_rfl) (by kernel_rfl) hX
def w57_u3_h:SS:=⟨[2,3,7,8,9],⟨[(.ptr 0 0),(.ptr 1 0),(.view 2),.hole,.hole],[.cells true [.nilv,.nilv,.nilv],.cells true [.hole,.hole,.hole],.seq false],[0,2,0,0,0,2],[.sl (.one (.sl (.one (.int .i64)))),.int .i64,.sl tLit,.sl (.one (.sl (.one (.int .i64)))),.sl tLit,.sl (.cons (.int .i64) (.one (.sl (.one (.int .i64)))))]⟩⟩
def w57_u3_e:Exs:=[((.exit 4),⟨[7],⟨[(.view 0)],[.seq false],[2],[.sl (.cons (.int .i64) (.one (.sl (.one (.int .i64)))))]⟩⟩)]
def w57_u3_a:AC:=(.seq .run (.seq (.block (.seq .run (.block (.unit w57_u2)))) .run))
def w57_u3:Un:=lpU w57_v.fz [61,62,63,64,10,67,68,69,70,71,72,73,76,77,78,79,80,81,82,11,83,84,85,86,87,88,89,90,91,92,93,94,95,96,97,98,99,100,101,7,74,75,10,65,66,9] w57_u3_h w57_u3_e (lp ref8_Norm_L3 fuel)
theorem w57_u3_s (f:w57_u3_h.X→Option (YT w57_u3_e)) (x:w57_u3_h.X):E w57_v (subC (bodyOf Tryz.f61) [1,1,1,1,1,0,1,0,0]) (w57_u3_a) (mkS w57_u3_h 8 x) (roundK w57_v.fz w57_u3_h w57_u3_e f)=ref8_Norm_L3 f x:=by kernel_rfl
theorem w57_u3_ok {X:Fx} (hX:VOk Tryz.prog X w57_v):UnOk Tryz.prog X w57_v (subC (bodyOf Tryz.f61) [1,1,1,1,1,0,1,0]) w57_u3 :=
 lp_un' (c:=(subC (bodyOf Tryz.f61) [1,1,1,1,1,0,1,0,0])) (by kernel_rfl) (env_all tb_ok (w57_gs)) hord (ob:=[((subC (bodyOf Tryz.f61) [1,1,1,1,1,0,1,0,0,1,0,0,1,0]),w57_u2)]) (by kernel_rfl) (fun X hX=>(obl_cons (w57_u2_ok hX) obl_nil)) (w57_u3_s) (by kernel_rfl) (by kernel_rfl) hX
def w57_u1_h:SS:=⟨[1,2,3,4],⟨[(.ptr 0 0),(.ptr 1 0),(.ptr 2 0),.hole],[.cells true [.hole,.hole,.hole],.cells true [.nilv,.nilv,.nilv],.cells false [.hole,(.view 3),.hole],.seq false],[2,1,1,1,0,0,0],[.int .i64,.sl tLit,.sl (.one (.sl (.one (.int .i64)))),.sl tLit,.sl tLit,.sl tLit,.sl (.one (.sl (.one (.int .i64))))]⟩⟩
def w57_u1_e:Exs:=[((.exit 0),⟨[3],⟨[(.ptr 0 0)],[.cells false [.hole,(.view 1),.hole],.seq false],[0,0,0],[.sl tLit,.sl tLit,.sl (.one (.sl (.one (.int .i64))))]⟩⟩)]
def w57_u1_a:AC:=(.seq .run (.seq (.block (.seq .run (.seq (.seq .run (.block (.unit w57_u0))) .run))) .run))
def w57_u1:Un:=lpU w57_v.fz [19,20,21,22,23,5,6,26,27,28,29,30,33,34,35,36,37,38,39,40,41,42,43,44,45,46,5,31,32,6,47,48,49,50,51,52,53,54,55,56,57,58,24,25,4] w57_u1_h w57_u1_e (lp ref8_Norm_L1 fuel)
theorem w57_u1_s (f:w57_u1_h.X→Option (YT w57_u1_e)) (x:w57_u1_h.X):E w57_v (subC (bodyOf Tryz.f61) [1,1,0,1,0,0]) (w57_u1_a) (mkS w57_u1_h 8 x) (roundK w57_v.fz w57_u1_h w57_u1_e f)=ref8_Norm_L1 f x:=by kernel_rfl
theorem w57_u1_ok {X:Fx} (hX:VOk Tryz.prog X w57_v):UnOk Tryz.prog X w57_v (subC (bodyOf Tryz.f61) [1,1,0,1,0]) w57_u1 :=
 lp_un' (c:=(subC (bodyOf Tryz.f61) [1,1,0,1,0,0])) (by kernel_rfl) (env_all tb_ok (w57_gs)) hord (ob:=[((subC (bodyOf Tryz.f61) [1,1,0,1,0,0,1,0,0,1,0,1,0]),w57_u0)]) (by kernel_rfl) (fun X hX=>(obl_cons (w57_u0_ok hX) obl_nil)) (w57_u1_s) (by kernel_rfl) (by kernel_rfl) hX
def w57_a:AC:=(.seq .run (.seq .run (.seq (.seq .run (.block (.unit w57_u1))) (.seq .run (.seq .run (.seq (.seq .run (.block (.unit w57_u3))) .run))))))
theorem w57_s (x:TupL w57_c.inp.hs):E w57_v (bodyOf Tryz.f61) (w57_a) (w57_c.entry x) (retSK tb w57_v.fz w57_c [.cell 2 29] x)=w57_c.F x:=by kernel_rfl
theorem w57_ok:ShOk Tryz.prog gl 61 w57_c :=
 fn_ok (l:=w57_g) (n:=Tryz.f61.ntmps) (code:=bodyOf Tryz.f61) (rts:=[.cell 2 29]) tb_ok hord (w57_gs) Tryz.func61 (by kernel_rfl) (by kernel_rfl) rfl (by kernel_rfl) (ac:=w57_a) (ob:=[((subC (bodyOf Tryz.f61) [1,1,0,1,0]),w57_u1),((subC (bodyOf Tryz.f61) [1,1,1,1,1,0,1,0]),w57_u3)]) (by kernel_rfl) (fun X hX=>(obl_cons (w57_u1_ok hX) (obl_cons (w57_u3_ok hX) obl_nil))) (by kernel_rfl) (w57_s)
def w58_c:ShC:={ inp:=⟨[.hole,.hole,.hole],[],[1,1,1],[.sl tSym,.sl (.one (.int .i64)),.sl tLit]⟩,out:=⟨[(.agg [.hole,.hole,(.view 0)]),.hole],[.seq false],[2,2,2,2],[.sl tLit,.sl (.one (.sl (.one (.int .i64)))),.int .i64,.sl tLit]⟩,nres:=2,ms:=[],mu:=[],leak:=false,glob:=false,F:=fun (x:((List QSym)×(List Int)×(List QLit)))=>ref21_Goal x.1 x.2.1 x.2.2 }
-- quaereref21.Goal
def w58_g:List (Nat×Con):=[(57,.gen (altE [w42_c])),(58,.gen (altE [w43_c])),(59,.gen (altE [w44_c])),(60,.gen (altE [w50_c])),(61,.gen (altE [w57_c]))]
def w58_v:Env:=envOf tb gl w58_g w58_c Tryz.f16.ntmps
theorem w58_gs:Goods Tryz.prog (cond w58_c.glob gl fun _=>none) w58_g:=(goods_cons (good_alt (alls_cons (w42_ok.anyGl rfl) alls_nil)) (goods_cons (good_alt (alls_cons (w43_ok.anyGl rfl) alls_nil)) (goods_cons (good_alt (alls_cons (w44_ok.anyGl rfl) alls_nil)) (goods_cons (good_alt (alls_cons (w50_ok.anyGl rfl) alls_nil)) (goods_cons (good_alt (alls_cons (w57_ok.anyGl rfl) alls_nil)) goods_nil)))))
def w58_u1_h:SS:=⟨[0,2,6,10,11],⟨[.hole,.hole,(.ptr 0 0),(.ptr 1 0),.hole],[.cells true [.nilv,.nilv,.nilv],.cells false [(.view 2),.hole,.nilv],.seq false],[1,1,2,2,0],[.sl tSym,.sl tLit,.int .i64,.sl (.one (.sl (.one (.int .i64)))),.sl tLit]⟩⟩
def w58_u1_e:Exs:=[((.exit 2),⟨[10],⟨[(.ptr 0 0)],[.cells false [(.view 1),.hole,.nilv],.seq false],[2,0],[.sl (.one (.sl (.one (.int .i64)))),.sl tLit]⟩⟩)]
def w58_u1_a:AC:=.run
def w58_u1:Un:=lpU w58_v.fz [64,65,66,67,70,71,72,73,74,75,76,77,78,79,68,69,11] w58_u1_h w58_u1_e (lp ref21_Goal_L1 fuel)
theorem w58_u1_s (f:w58_u1_h.X→Option (YT w58_u1_e)) (x:w58_u1_h.X):E w58_v (subC (bodyOf Tryz.f16) [1,1,1,1,1,0,1,0,0]) (w58_u1_a) (mkS w58_u1_h 8 x) (roundK w58_v.fz w58_u1_h w58_u1_e f)=ref21_Goal_L1 f x:=by kernel_rfl
theorem w58_u1_ok {X:Fx} (hX:VOk Tryz.prog X w58_v):UnOk Tryz.prog X w58_v (subC (bodyOf Tryz.f16) [1,1,1,1,1,0,1,0]) w58_u1 :=
 lp_un' (c:=(subC (bodyOf Tryz.f16) [1,1,1,1,1,0,1,0,0])) (by kernel_rfl) (env_all tb_ok (w58_gs)) hord (ob:=[]) (by kernel_rfl) (fun X hX=>obl_nil) (w58_u1_s) (by kernel_rfl) (by kernel_rfl) hX
def w58_u0_h:SS:=⟨[0,1,2,6,8,9],⟨[.hole,.hole,.hole,(.ptr 0 0),(.view 1),.hole],[.cells false [.nilv,.nilv,.nilv],.seq false],[1,1,1,2,2],[.sl tSym,.sl (.one (.int .i64)),.sl tLit,.int .i64,.sl (.one (.int .i64))]⟩⟩
def w58_u0_e:Exs:=[((.exit 0),⟨[6,8],⟨[(.ptr 0 0),(.view 1)],[.cells false [.nilv,.nilv,.nilv],.seq false],[2],[.sl (.one (.int .i64))]⟩⟩),(.ret,⟨[6,7],⟨[(.ptr 0 0),.hole],[.cells false [.nilv,.nilv,.nilv]],[2],[.int .i64]⟩⟩)]
def w58_u0_a:AC:=.run
def w58_u0:Un:=lpU w58_v.fz [26,27,28,29,32,33,34,35,36,37,38,39,40,41,42,43,44,45,46,47,48,49,50,51,52,7,53,54,55,56,57,58,59,60,8,30,31,9] w58_u0_h w58_u0_e (lp ref21_Goal_L0 fuel)
theorem w58_u0_s (f:w58_u0_h.X→Option (YT w58_u0_e)) (x:w58_u0_h.X):E w58_v (subC (bodyOf Tryz.f16) [1,1,1,0,1,0,0]) (w58_u0_a) (mkS w58_u0_h 8 x) (roundK w58_v.fz w58_u0_h w58_u0_e f)=ref21_Goal_L0 f x:=by kernel_rfl
theorem w58_u0_ok {X:Fx} (hX:VOk Tryz.prog X w58_v):UnOk Tryz.prog X w58_v (subC (bodyOf Tryz.f16) [1,1,1,0,1,0]) w58_u0 :=
 lp_un' (c:=(subC (bodyOf Tryz.f16) [1,1,1,0,1,0,0])) (by kernel_rfl) (env_all tb_ok (w58_gs)) hord (ob:=[]) (by kernel_rfl) (fun X hX=>obl_nil) (w58_u0_s) (by kernel_rfl) (by kernel_rfl) hX
def w58_a:AC:=(.seq .run (.seq .run (.seq .run (.seq (.seq .run (.block (.unit w58_u0))) (.seq .run (.seq (.seq .run (.block (.unit w58_u1))) .run))))))
theorem w58_s (x:TupL w58_c.inp.hs):E w58_v (bodyOf Tryz.f16) (w58_a) (w58_c.entry x) (retSK tb w58_v.fz w58_c [.cell 6 29,.tmp 7] x)=w58_c.F x:=by kernel_rfl
theorem w58_ok:ShOk Tryz.prog gl 16 w58_c :=
 fn_ok (l:=w58_g) (n:=Tryz.f16.ntmps) (code:=bodyOf Tryz.f16) (rts:=[.cell 6 29,.tmp 7]) tb_ok hord (w58_gs) Tryz.func16 (by kernel_rfl) (by kernel_rfl) rfl (by kernel_rfl) (ac:=w58_a) (ob:=[((subC (bodyOf Tryz.f16) [1,1,1,0,1,0]),w58_u0),((subC (bodyOf Tryz.f16) [1,1,1,1,1,0,1,0]),w58_u1)]) (by kernel_rfl) (fun X hX=>(obl_cons (w58_u0_ok hX) (obl_cons (w58_u1_ok hX) obl_nil))) (by kernel_rfl) (w58_s)
def w59_c:ShC:={ inp:=⟨[.hole,.hole],[],[1,1],[.sl (.one (.int .i64)),.sl (.one (.int .i64))]⟩,out:=⟨[.hole],[],[2],[.bool]⟩,nres:=1,ms:=[],mu:=[],leak:=false,glob:=false,F:=fun (x:((List Int)×(List Int)))=>law0_SameInts x.1 x.2 }
-- quaerelaw0.SameInts
def w59_g:List (Nat×Con):=[]
def w59_v:Env:=envOf tb gl w59_g w59_c Tryz.f43.ntmps
theorem w59_gs:Goods Tryz.prog (cond w59_c.glob gl fun _=>none) w59_g:=goods_nil
def w59_u0_h:SS:=⟨[0,1,5],⟨[.hole,.hole,.hole],[],[1,1,2],[.sl (.one (.int .i64)),.sl (.one (.int .i64)),.int .i64]⟩⟩
def w59_u0_e:Exs:=[((.exit 0),⟨[],⟨[],[],[],[]⟩⟩),(.ret,⟨[4],⟨[.hole],[],[2],[.bool]⟩⟩)]
def w59_u0_a:AC:=.run
def w59_u0:Un:=lpU w59_v.fz [11,12,13,14,17,18,19,20,21,22,23,24,25,4,15,16,5] w59_u0_h w59_u0_e (lp law0_SameInts_L0 fuel)
theorem w59_u0_s (f:w59_u0_h.X→Option (YT w59_u0_e)) (x:w59_u0_h.X):E w59_v (subC (bodyOf Tryz.f43) [1,1,0,1,0,0]) (w59_u0_a) (mkS w59_u0_h 8 x) (roundK w59_v.fz w59_u0_h w59_u0_e f)=law0_SameInts_L0 f x:=by kernel_rfl
theorem w59_u0_ok {X:Fx} (hX:VOk Tryz.prog X w59_v):UnOk Tryz.prog X w59_v (subC (bodyOf Tryz.f43) [1,1,0,1,0]) w59_u0 :=
 lp_un' (c:=(subC (bodyOf Tryz.f43) [1,1,0,1,0,0])) (by kernel_rfl) (env_all tb_ok (w59_gs)) hord (ob:=[]) (by kernel_rfl) (fun X hX=>obl_nil) (w59_u0_s) (by kernel_rfl) (by kernel_rfl) hX
def w59_a:AC:=(.seq .run (.seq .run (.seq (.seq .run (.block (.unit w59_u0))) .run)))
theorem w59_s (x:TupL w59_c.inp.hs):E w59_v (bodyOf Tryz.f43) (w59_a) (w59_c.entry x) (retSK tb w59_v.fz w59_c [.tmp 4] x)=w59_c.F x:=by kernel_rfl
theorem w59_ok:ShOk Tryz.prog gl 43 w59_c :=
 fn_ok (l:=w59_g) (n:=Tryz.f43.ntmps) (code:=bodyOf Tryz.f43) (rts:=[.tmp 4]) tb_ok hord (w59_gs) Tryz.func43 (by kernel_rfl) (by kernel_rfl) rfl (by kernel_rfl) (ac:=w59_a) (ob:=[((subC (bodyOf Tryz.f43) [1,1,0,1,0]),w59_u0)]) (by kernel_rfl) (fun X hX=>(obl_cons (w59_u0_ok hX) obl_nil)) (by kernel_rfl) (w59_s)
def w60_c:ShC:={ inp:=⟨[.hole,.hole],[],[1,1],[.sl tLit,.sl tLit]⟩,out:=⟨[.hole],[],[2],[.bool]⟩,nres:=1,ms:=[],mu:=[],leak:=false,glob:=false,F:=fun (x:((List QLit)×(List QLit)))=>law0_SameLits x.1 x.2 }
-- quaerelaw0.SameLits
def w60_g:List (Nat×Con):=[(43,.gen (altE [w59_c]))]
def w60_v:Env:=envOf tb gl w60_g w60_c Tryz.f20.ntmps
theorem w60_gs:Goods Tryz.prog (cond w60_c.glob gl fun _=>none) w60_g:=(goods_cons (good_alt (alls_cons (w59_ok.anyGl rfl) alls_nil)) goods_nil)
def w60_u0_h:SS:=⟨[0,1,5],⟨[.hole,.hole,.hole],[],[1,1,2],[.sl tLit,.sl tLit,.int .i64]⟩⟩
def w60_u0_e:Exs:=[((.exit 0),⟨[],⟨[],[],[],[]⟩⟩),(.ret,⟨[4],⟨[.hole],[],[2],[.bool]⟩⟩)]
def w60_u0_a:AC:=.run
def w60_u0:Un:=lpU w60_v.fz [11,12,13,14,17,18,19,20,21,22,23,24,25,26,27,28,29,30,31,32,33,34,35,36,37,38,39,40,41,4,15,16,5] w60_u0_h w60_u0_e (lp law0_SameLits_L0 fuel)
theorem w60_u0_s (f:w60_u0_h.X→Option (YT w60_u0_e)) (x:w60_u0_h.X):E w60_v (subC (bodyOf Tryz.f20) [1,1,0,1,0,0]) (w60_u0_a) (mkS w60_u0_h 8 x) (roundK w60_v.fz w60_u0_h w60_u0_e f)=law0_SameLits_L0 f x:=by kernel_rfl
theorem w60_u0_ok {X:Fx} (hX:VOk Tryz.prog X w60_v):UnOk Tryz.prog X w60_v (subC (bodyOf Tryz.f20) [1,1,0,1,0]) w60_u0 :=
 lp_un' (c:=(subC (bodyOf Tryz.f20) [1,1,0,1,0,0])) (by kernel_rfl) (env_all tb_ok (w60_gs)) hord (ob:=[]) (by kernel_rfl) (fun X hX=>obl_nil) (w60_u0_s) (by kernel_rfl) (by kernel_rfl) hX
def w60_a:AC:=(.seq .run (.seq .run (.seq (.seq .run (.block (.unit w60_u0))) .run)))
theorem w60_s (x:TupL w60_c.inp.hs):E w60_v (bodyOf Tryz.f20) (w60_a) (w60_c.entry x) (retSK tb w60_v.fz w60_c [.tmp 4] x)=w60_c.F x:=by kernel_rfl
theorem w60_ok:ShOk Tryz.prog gl 20 w60_c :=
 fn_ok (l:=w60_g) (n:=Tryz.f20.ntmps) (code:=bodyOf Tryz.f20) (rts:=[.tmp 4]) tb_ok hord (w60_gs) Tryz.func20 (by kernel_rfl) (by kernel_rfl) rfl (by kernel_rfl) (ac:=w60_a) (ob:=[((subC (bodyOf Tryz.f20) [1,1,0,1,0]),w60_u0)]) (by kernel_rfl) (fun X hX=>(obl_cons (w60_u0_ok hX) obl_nil)) (by kernel_rfl) (w60_s)
def w61_c:ShC:={ inp:=⟨[.hole,.hole],[],[1,1],[.sl (.one (.sl (.one (.int .i64)))),.sl (.one (.sl (.one (.int .i64))))]⟩,out:=⟨[.hole],[],[2],[.bool]⟩,nres:=1,ms:=[],mu:=[],leak:=false,glob:=false,F:=fun (x:((List (List Int))×(List (List Int))))=>law0_SameRows x.1 x.2 }
-- quaerelaw0.SameRows
def w61_g:List (Nat×Con):=[(43,.gen (altE [w59_c]))]
def w61_v:Env:=envOf tb gl w61_g w61_c Tryz.f62.ntmps
theorem w61_gs:Goods Tryz.prog (cond w61_c.glob gl fun _=>none) w61_g:=(goods_cons (good_alt (alls_cons (w59_ok.anyGl rfl) alls_nil)) goods_nil)
def w61_u0_h:SS:=⟨[0,1,5],⟨[.hole,.hole,.hole],[],[1,1,2],[.sl (.one (.sl (.one (.int .i64)))),.sl (.one (.sl (.one (.int .i64)))),.int .i64]⟩⟩
def w61_u0_e:Exs:=[((.exit 0),⟨[],⟨[],[],[],[]⟩⟩),(.ret,⟨[4],⟨[.hole],[],[2],[.bool]⟩⟩)]
def w61_u0_a:AC:=.run
def w61_u0:Un:=lpU w61_v.fz [11,12,13,14,17,18,19,20,21,22,23,24,25,26,4,15,16,5] w61_u0_h w61_u0_e (lp law0_SameRows_L0 fuel)
theorem w61_u0_s (f:w61_u0_h.X→Option (YT w61_u0_e)) (x:w61_u0_h.X):E w61_v (subC (bodyOf Tryz.f62) [1,1,0,1,0,0]) (w61_u0_a) (mkS w61_u0_h 8 x) (roundK w61_v.fz w61_u0_h w61_u0_e f)=law0_SameRows_L0 f x:=by kernel_rfl
theorem w61_u0_ok {X:Fx} (hX:VOk Tryz.prog X w61_v):UnOk Tryz.prog X w61_v (subC (bodyOf Tryz.f62) [1,1,0,1,0]) w61_u0 :=
 lp_un' (c:=(subC (bodyOf Tryz.f62) [1,1,0,1,0,0])) (by kernel_rfl) (env_all tb_ok (w61_gs)) hord (ob:=[]) (by kernel_rfl) (fun X hX=>obl_nil) (w61_u0_s) (by kernel_rfl) (by kernel_rfl) hX
def w61_a:AC:=(.seq .run (.seq .run (.seq (.seq .run (.block (.unit w61_u0))) .run)))
theorem w61_s (x:TupL w61_c.inp.hs):E w61_v (bodyOf Tryz.f62) (w61_a) (w61_c.entry x) (retSK tb w61_v.fz w61_c [.tmp 4] x)=w61_c.F x:=by kernel_rfl
theorem w61_ok:ShOk Tryz.prog gl 62 w61_c :=
 fn_ok (l:=w61_g) (n:=Tryz.f62.ntmps) (code:=bodyOf Tryz.f62) (rts:=[.tmp 4]) tb_ok hord (w61_gs) Tryz.func62 (by kernel_rfl) (by kernel_rfl) rfl (by kernel_rfl) (ac:=w61_a) (ob:=[((subC (bodyOf Tryz.f62) [1,1,0,1,0]),w61_u0)]) (by kernel_rfl) (fun X hX=>(obl_cons (w61_u0_ok hX) obl_nil)) (by kernel_rfl) (w61_s)
def w62_c:ShC:={ inp:=⟨[(.agg [.hole,.hole,.hole]),(.agg [.hole,.hole,.hole])],[],[1,1,1,1,1,1],[.sl tLit,.sl (.one (.sl (.one (.int .i64)))),.sl tLit,.sl tLit,.sl (.one (.sl (.one (.int .i64)))),.sl tLit]⟩,out:=⟨[.hole],[],[2],[.bool]⟩,nres:=1,ms:=[],mu:=[],leak:=false,glob:=false,F:=fun (x:((List QLit)×(List (List Int))×(List QLit)×(List QLit)×(List (List Int))×(List QLit)))=>law0_SameClause x.1 x.2.1 x.2.2.1 x.2.2.2.1 x.2.2.2.2.1 x.2.2.2.2.2 }
-- quaerelaw0.SameClause
def w62_g:List (Nat×Con):=[(20,.gen (altE [w60_c])),(62,.gen (altE [w61_c]))]
def w62_v:Env:=envOf tb gl w62_g w62_c Tryz.f17.ntmps
theorem w62_gs:Goods Tryz.prog (cond w62_c.glob gl fun _=>none) w62_g:=(goods_cons (good_alt (alls_cons (w60_ok.anyGl rfl) alls_nil)) (goods_cons (good_alt (alls_cons (w61_ok.anyGl rfl) alls_nil)) goods_nil))
def w62_a:AC:=.run
theorem w62_s (x:TupL w62_c.inp.hs):E w62_v (bodyOf Tryz.f17) (w62_a) (w62_c.entry x) (retSK tb w62_v.fz w62_c [.tmp 4] x)=w62_c.F x:=by kernel_rfl
theorem w62_ok:ShOk Tryz.prog gl 17 w62_c :=
 fn_ok (l:=w62_g) (n:=Tryz.f17.ntmps) (code:=bodyOf Tryz.f17) (rts:=[.tmp 4]) tb_ok hord (w62_gs) Tryz.func17 (by kernel_rfl) (by kernel_rfl) rfl (by kernel_rfl) (ac:=w62_a) (ob:=[]) (by kernel_rfl) (fun X hX=>obl_nil) (by kernel_rfl) (w62_s)
def w63_c:ShC:={ inp:=⟨[.hole],[],[1],[.int .i64]⟩,out:=⟨[.hole],[],[2],[.int .i64]⟩,nres:=1,ms:=[],mu:=[],leak:=false,glob:=false,F:=fun (x:Int)=>law0_Num x }
-- quaerelaw0.Num
def w63_g:List (Nat×Con):=[]
def w63_v:Env:=envOf tb gl w63_g w63_c Tryz.f18.ntmps
theorem w63_gs:Goods Tryz.prog (cond w63_c.glob gl fun _=>none) w63_g:=goods_nil
def w63_a:AC:=.run
theorem w63_s (x:TupL w63_c.inp.hs):E w63_v (bodyOf Tryz.f18) (w63_a) (w63_c.entry x) (retSK tb w63_v.fz w63_c [.tmp 2] x)=w63_c.F x:=by kernel_rfl
theorem w63_ok:ShOk Tryz.prog gl 18 w63_c :=
 fn_ok (l:=w63_g) (n:=Tryz.f18.ntmps) (code:=bodyOf Tryz.f18) (rts:=[.tmp 2]) tb_ok hord (w63_gs) Tryz.func18 (by kernel_rfl) (by kernel_rfl) rfl (by kernel_rfl) (ac:=w63_a) (ob:=[]) (by kernel_rfl) (fun X hX=>obl_nil) (by kernel_rfl) (w63_s)
def w64_c:ShC:={ inp:=⟨[(.part 0),.hole],[.seq false],[1,1,1],[.int .i64,.sl (.one (.int .i64)),.sl (.one (.int .i64))]⟩,out:=⟨[.hole],[],[2],[.bool]⟩,nres:=1,ms:=[],mu:=[],leak:=false,glob:=false,F:=fun (x:(Int×(List Int)×(List Int)))=>law0_KeptInts_1 x.1 x.2.1 x.2.2 }
-- quaerelaw0.KeptInts
def w64_g:List (Nat×Con):=[(43,.gen (altE [w59_c])),(1000010,.gen (altE []))]
def w64_v:Env:=envOf tb gl w64_g w64_c Tryz.f21.ntmps
theorem w64_gs:Goods Tryz.prog (cond w64_c.glob gl fun _=>none) w64_g:=(goods_cons (good_alt (alls_cons (w59_ok.anyGl rfl) alls_nil)) (goods_cons (good_alt alls_nil) goods_nil))
def w64_a:AC:=.run
theorem w64_s (x:TupL w64_c.inp.hs):E w64_v (bodyOf Tryz.f21) (w64_a) (w64_c.entry x) (retSK tb w64_v.fz w64_c [.tmp 4] x)=w64_c.F x:=by kernel_rfl
theorem w64_ok:ShOk Tryz.prog gl 21 w64_c :=
 fn_ok (l:=w64_g) (n:=Tryz.f21.ntmps) (code:=bodyOf Tryz.f21) (rts:=[.tmp 4]) tb_ok hord (w64_gs) Tryz.func21 (by kernel_rfl) (by kernel_rfl) rfl (by kernel_rfl) (ac:=w64_a) (ob:=[]) (by kernel_rfl) (fun X hX=>obl_nil) (by kernel_rfl) (w64_s)
def w65_c:ShC:={ inp:=⟨[],[],[],[]⟩,out:=⟨[(.view 0)],[.seq false],[2],[.sl tSym]⟩,nres:=1,ms:=[],mu:=[],leak:=false,glob:=false,F:=fun (x:Unit)=>law24_words }
-- quaerelaw24.words
def w65_g:List (Nat×Con):=[]
def w65_v:Env:=envOf tb gl w65_g w65_c Tryz.f65.ntmps
theorem w65_gs:Goods Tryz.prog (cond w65_c.glob gl fun _=>none) w65_g:=goods_nil
def w65_a:AC:=.run
theorem w65_s (x:TupL w65_c.inp.hs):E w65_v (bodyOf Tryz.f65) (w65_a) (w65_c.entry x) (retSK tb w65_v.fz w65_c [.tmp 0] x)=w65_c.F x:=by kernel_rfl
theorem w65_ok:ShOk Tryz.prog gl 65 w65_c :=
 fn_ok (l:=w65_g) (n:=Tryz.f65.ntmps) (code:=bodyOf Tryz.f65) (rts:=[.tmp 0]) tb_ok hord (w65_gs) Tryz.func65 (by kernel_rfl) (by kernel_rfl) rfl (by kernel_rfl) (ac:=w65_a) (ob:=[]) (by kernel_rfl) (fun X hX=>obl_nil) (by kernel_rfl) (w65_s)
def w66_c:ShC:={ inp:=⟨[.hole,.hole],[],[1,1],[.sl tSym,.sl (.one (.int .i64))]⟩,out:=⟨[(.view 0)],[.seq false],[0],[.sl (.one (.sl (.one (.int .i64))))]⟩,nres:=1,ms:=[],mu:=[],leak:=true,glob:=false,F:=fun (x:((List QSym)×(List Int)))=>term_Pieces x.1 x.2 }
-- term.Pieces
def w66_g:List (Nat×Con):=[(151,.gen (altE [w17_c]))]
def w66_v:Env:=envOf tb gl w66_g w66_c Tryz.f175.ntmps
theorem w66_gs:Goods Tryz.prog (cond w66_c.glob gl fun _=>none) w66_g:=(goods_cons (good_alt (alls_cons (w17_ok.anyGl rfl) alls_nil)) goods_nil)
def w66_u0_h:SS:=⟨[0,1,5,6],⟨[.hole,.hole,(.view 0),.hole],[.seq false],[1,1,2,0],[.sl tSym,.sl (.one (.int .i64)),.int .i64,.sl (.one (.sl (.one (.int .i64))))]⟩⟩
def w66_u0_e:Exs:=[((.exit 0),⟨[5],⟨[(.view 0)],[.seq false],[0],[.sl (.one (.sl (.one (.int .i64))))]⟩⟩),(.ret,⟨[4],⟨[(.view 0)],[.seq false],[0],[.sl (.one (.sl (.one (.int .i64))))]⟩⟩)]
def w66_u0_a:AC:=.run
def w66_u0:Un:=lpU w66_v.fz [9,10,11,12,14,15,16,17,13,18,19,7,8,20,21,22,4,23,24,25,26,27,28,29,5,30,6] w66_u0_h w66_u0_e (lp term_Pieces_L0 fuel)
theorem w66_u0_s (f:w66_u0_h.X→Option (YT w66_u0_e)) (x:w66_u0_h.X):E w66_v (subC (bodyOf Tryz.f175) [1,1,0,1,0,0]) (w66_u0_a) (mkS w66_u0_h 8 x) (roundK w66_v.fz w66_u0_h w66_u0_e f)=term_Pieces_L0 f x:=by kernel_rfl
theorem w66_u0_ok {X:Fx} (hX:VOk Tryz.prog X w66_v):UnOk Tryz.prog X w66_v (subC (bodyOf Tryz.f175) [1,1,0,1,0]) w66_u0 :=
 lp_un' (c:=(subC (bodyOf Tryz.f175) [1,1,0,1,0,0])) (by kernel_rfl) (env_all tb_ok (w66_gs)) hord (ob:=[]) (by kernel_rfl) (fun X hX=>obl_nil) (w66_u0_s) (by kernel_rfl) (by kernel_rfl) hX
def w66_a:AC:=(.seq .run (.seq .run (.seq (.seq .run (.block (.unit w66_u0))) .run)))
theorem w66_s (x:TupL w66_c.inp.hs):E w66_v (bodyOf Tryz.f175) (w66_a) (w66_c.entry x) (retSK tb w66_v.fz w66_c [.tmp 4] x)=w66_c.F x:=by kernel_rfl
theorem w66_ok:ShOk Tryz.prog gl 175 w66_c :=
 fn_ok (l:=w66_g) (n:=Tryz.f175.ntmps) (code:=bodyOf Tryz.f175) (rts:=[.tmp 4]) tb_ok hord (w66_gs) Tryz.func175 (by kernel_rfl) (by kernel_rfl) rfl (by kernel_rfl) (ac:=w66_a) (ob:=[((subC (bodyOf Tryz.f175) [1,1,0,1,0]),w66_u0)]) (by kernel_rfl) (fun X hX=>(obl_cons (w66_u0_ok hX) obl_nil)) (by kernel_rfl) (w66_s)
def w67_c:ShC:=itoaC
-- strconv.Itoa
theorem w67_ok:ShOk Tryz.prog gl 176 w67_c :=
 itoa_ok (code:=bodyOf Tryz.f176) Tryz.func176 (by kernel_rfl) (by kernel_rfl) (Nat.le_of_ble_eq_true (by kernel_rfl)) fun i hi w=>Tryz.strconv_Itoa_small i hi w
def w68_c:ShC:=joinC
-- strings.Join
theorem w68_ok:ShOk Tryz.prog gl 129 w68_c :=
 join_ok (code:=bodyOf Tryz.f129) Tryz.func129 (by kernel_rfl) (by kernel_rfl) (Nat.le_of_ble_eq_true (by kernel_rfl)) Tryz.strings_Join_none Tryz.strings_Join
def w69_ck (k:Nat):ShC:={ inp:=⟨[.hole,.hole],[],[1,1],[.sl tSym,.sl (.one (.int .i64))]⟩,out:=⟨[.hole],[],[2],[.str]⟩,nres:=1,ms:=[],mu:=[],leak:=false,glob:=false,F:=(formula_ShowTerms_R k) }
def w69_c:ShC:={ inp:=⟨[.hole,.hole],[],[1,1],[.sl tSym,.sl (.one (.int .i64))]⟩,out:=⟨[.hole],[],[2],[.str]⟩,nres:=1,ms:=[],mu:=[],leak:=false,glob:=false,F:=fun (x:((List QSym)×(List Int)))=>formula_ShowTerms x.1 x.2 }
def w69_R_H (k:Nat):Prop:=ShOk Tryz.prog gl 127 (w69_ck k)
-- formula.ShowTerms
def w69_g (k:Nat):List (Nat×Con):=[(55,.gen (altE [w15_c])),(127,.gen (altE [w69_ck k])),(129,.gen (altE [w68_c])),(175,.gen (altE [w66_c])),(176,.gen (altE [w67_c]))]
def w69_v (k:Nat):Env:=envOf tb gl (w69_g k) (w69_ck (k+1)) Tryz.f127.ntmps
theorem w69_gs (k:Nat) (h:w69_R_H k):Goods Tryz.prog (cond (w69_ck (k+1)).glob gl fun _=>none) (w69_g k):=(goods_cons (good_alt (alls_cons (w15_ok.anyGl rfl) alls_nil)) (goods_cons (good_alt (alls_cons (h.anyGl rfl) alls_nil)) (goods_cons (good_alt (alls_cons (w68_ok.anyGl rfl) alls_nil)) (goods_cons (good_alt (alls_cons (w66_ok.anyGl rfl) alls_nil)) (goods_cons (good_alt (alls_cons (w67_ok.anyGl rfl) alls_nil)) goods_nil)))))
def w69_u0_h:SS:=⟨[0,5,10,11,12],⟨[.hole,(.view 0),.hole,.hole,.hole],[.seq false],[1,0,2,2,2],[.sl tSym,.sl (.one (.sl (.one (.int .i64)))),.int .i64,.int .i64,.sl (.one .str)]⟩⟩
def w69_u0_e:Exs:=[((.exit 0),⟨[5],⟨[(.view 0)],[.seq false],[2],[.sl (.one .str)]⟩⟩)]
def w69_u0_a (k:Nat):AC:=.run
def w69_u0 (k:Nat):Un:=lpU (w69_v k).fz [13,14,15,7,34,35,36,37,33,38,39,40,41,42,43,44,45,46,5,48,49,50,47,51,52,53,54,55,56,57,58,59,60,5,16,17,18,19,20,21,22,23,24,25,26,27,28,29,30,31,32,5,61,12] w69_u0_h w69_u0_e (lp (formula_ShowTerms_L0 (formula_ShowTerms_R k)) fuel)
theorem w69_u0_s (k:Nat) (f:w69_u0_h.X→Option (YT w69_u0_e)) (x:w69_u0_h.X):E (w69_v k) (subC (bodyOf Tryz.f127) [1,1,0,1,0,0]) (w69_u0_a k) (mkS w69_u0_h 8 x) (roundK (w69_v k).fz w69_u0_h w69_u0_e f)=(formula_ShowTerms_L0 (formula_ShowTerms_R k)) f x:=by kernel_rfl
theorem w69_u0_ok (k:Nat) (h:w69_R_H k) {X:Fx} (hX:VOk Tryz.prog X (w69_v k)):UnOk Tryz.prog X (w69_v k) (subC (bodyOf Tryz.f127) [1,1,0,1,0]) (w69_u0 k) :=
 lp_un' (c:=(subC (bodyOf Tryz.f127) [1,1,0,1,0,0])) (by kernel_rfl) (env_all tb_ok (w69_gs k h)) hord (ob:=[]) (by kernel_rfl) (fun X hX=>obl_nil) (w69_u0_s k) (by kernel_rfl) (by kernel_rfl) hX
def w69_a (k:Nat):AC:=(.seq .run (.seq .run (.seq (.seq .run (.block (.unit (w69_u0 k)))) .run)))
theorem w69_s (k:Nat) (x:TupL (w69_ck (k+1)).inp.hs):E (w69_v k) (bodyOf Tryz.f127) (w69_a k) ((w69_ck (k+1)).entry x) (retSK tb (w69_v k).fz (w69_ck (k+1)) [.tmp 4] x)=(w69_ck (k+1)).F x:=by kernel_rfl
theorem w69_ok1 (k:Nat) (h:w69_R_H k):ShOk Tryz.prog gl 127 (w69_ck (k+1)) :=
 fn_ok (l:=w69_g k) (n:=Tryz.f127.ntmps) (code:=bodyOf Tryz.f127) (rts:=[.tmp 4]) tb_ok hord (w69_gs k h) Tryz.func127 (by kernel_rfl) (by kernel_rfl) rfl (by kernel_rfl) (ac:=w69_a k) (ob:=[((subC (bodyOf Tryz.f127) [1,1,0,1,0]),w69_u0 k)]) (by kernel_rfl) (fun X hX=>(obl_cons (w69_u0_ok k h hX) obl_nil)) (by kernel_rfl) (w69_s k)
theorem w69_R_all:∀ k,w69_R_H k
 | 0=>sh_base (by kernel_rfl) fun _=>rfl
 | k+1=>have h:=w69_R_all k; w69_ok1 k h
theorem w69_ok:ShOk Tryz.prog gl 127 w69_c:=(w69_R_all fuel)
def w70_c:ShC:={ inp:=⟨[.hole,.hole],[],[1,1],[.sl tSym,.sl (.one (.int .i64))]⟩,out:=⟨[.hole],[],[2],[.str]⟩,nres:=1,ms:=[],mu:=[],leak:=false,glob:=false,F:=fun (x:((List QSym)×(List Int)))=>formula_ShowAtom x.1 x.2 }
-- formula.ShowAtom
def w70_g:List (Nat×Con):=[(127,.gen (altE [w69_c])),(175,.gen (altE [w66_c]))]
def w70_v:Env:=envOf tb gl w70_g w70_c Tryz.f128.ntmps
theorem w70_gs:Goods Tryz.prog (cond w70_c.glob gl fun _=>none) w70_g:=(goods_cons (good_alt (alls_cons (w69_ok.anyGl rfl) alls_nil)) (goods_cons (good_alt (alls_cons (w66_ok.anyGl rfl) alls_nil)) goods_nil))
def w70_a:AC:=.run
theorem w70_s (x:TupL w70_c.inp.hs):E w70_v (bodyOf Tryz.f128) (w70_a) (w70_c.entry x) (retSK tb w70_v.fz w70_c [.tmp 4] x)=w70_c.F x:=by kernel_rfl
theorem w70_ok:ShOk Tryz.prog gl 128 w70_c :=
 fn_ok (l:=w70_g) (n:=Tryz.f128.ntmps) (code:=bodyOf Tryz.f128) (rts:=[.tmp 4]) tb_ok hord (w70_gs) Tryz.func128 (by kernel_rfl) (by kernel_rfl) rfl (by kernel_rfl) (ac:=w70_a) (ob:=[]) (by kernel_rfl) (fun X hX=>obl_nil) (by kernel_rfl) (w70_s)
def w71_c:ShC:={ inp:=⟨[.hole,(.agg [.hole,.hole,.hole])],[],[1,1,1,1],[.sl tSym,.sl tLit,.sl (.one (.sl (.one (.int .i64)))),.sl tLit]⟩,out:=⟨[.hole,.hole],[],[2,2],[.str,.int .i64]⟩,nres:=2,ms:=[],mu:=[],leak:=false,glob:=true,F:=fun (x:((List QSym)×(List QLit)×(List (List Int))×(List QLit)))=>ask_Show x.1 x.2.1 x.2.2.1 x.2.2.2 }
-- ask.Show
def w71_g:List (Nat×Con):=[(42,.gen (altE [w24_c])),(127,.gen (altE [w69_c])),(128,.gen (altE [w70_c])),(129,.gen (altE [w68_c]))]
def w71_v:Env:=envOf tb gl w71_g w71_c Tryz.f66.ntmps
theorem w71_gs:Goods Tryz.prog (cond w71_c.glob gl fun _=>none) w71_g:=(goods_cons (good_alt (alls_cons w24_ok alls_nil)) (goods_cons (good_alt (alls_cons (w69_ok.anyGl rfl) alls_nil)) (goods_cons (good_alt (alls_cons (w70_ok.anyGl rfl) alls_nil)) (goods_cons (good_alt (alls_cons (w68_ok.anyGl rfl) alls_nil)) goods_nil))))
def w71_u1_h:SS:=⟨[0,6,7,47,48,49],⟨[.hole,.hole,(.view 0),.hole,.hole,.hole],[.seq false],[1,2,1,2,2,2],[.sl tSym,.sl (.one .str),.sl tLit,.int .i64,.int .i64,.sl (.one .str)]⟩⟩
def w71_u1_e:Exs:=[((.exit 2),⟨[7],⟨[(.view 0)],[.seq false],[2],[.sl (.one .str)]⟩⟩)]
def w71_u1_a:AC:=.run
def w71_u1:Un:=lpU w71_v.fz [50,51,52,11,53,54,55,56,12,57,58,59,60,12,61,62,63,64,7,65,49] w71_u1_h w71_u1_e (lp ask_Show_L1 fuel)
theorem w71_u1_s (f:w71_u1_h.X→Option (YT w71_u1_e)) (x:w71_u1_h.X):E w71_v (subC (bodyOf Tryz.f66) [1,1,1,1,0,1,0,0]) (w71_u1_a) (mkS w71_u1_h 8 x) (roundK w71_v.fz w71_u1_h w71_u1_e f)=ask_Show_L1 f x:=by kernel_rfl
theorem w71_u1_ok {X:Fx} (hX:VOk Tryz.prog X w71_v):UnOk Tryz.prog X w71_v (subC (bodyOf Tryz.f66) [1,1,1,1,0,1,0]) w71_u1 :=
 lp_un' (c:=(subC (bodyOf Tryz.f66) [1,1,1,1,0,1,0,0])) (by kernel_rfl) (env_all tb_ok (w71_gs)) hord (ob:=[]) (by kernel_rfl) (fun X hX=>obl_nil) (w71_u1_s) (by kernel_rfl) (by kernel_rfl) hX
def w71_u0_h:SS:=⟨[0,3,6,7,31,32,33],⟨[.hole,(.ptr 0 0),(.view 1),.nilv,.hole,.hole,.hole],[.cells true [.hole,.hole,.hole],.seq false],[1,1,2,2,1,1,1,2],[.sl tSym,.sl (.one (.sl (.one (.int .i64)))),.int .i64,.int .i64,.sl tLit,.sl (.one (.sl (.one (.int .i64)))),.sl tLit,.sl (.one .str)]⟩⟩
def w71_u0_e:Exs:=[((.exit 0),⟨[6],⟨[(.view 0)],[.seq false],[2],[.sl (.one .str)]⟩⟩)]
def w71_u0_a:AC:=.run
def w71_u0:Un:=lpU w71_v.fz [34,35,36,9,37,38,39,40,41,42,43,44,6,45,33] w71_u0_h w71_u0_e (lp ask_Show_L0 fuel)
theorem w71_u0_s (f:w71_u0_h.X→Option (YT w71_u0_e)) (x:w71_u0_h.X):E w71_v (subC (bodyOf Tryz.f66) [1,1,1,0,1,0,0]) (w71_u0_a) (mkS w71_u0_h 8 x) (roundK w71_v.fz w71_u0_h w71_u0_e f)=ask_Show_L0 f x:=by kernel_rfl
theorem w71_u0_ok {X:Fx} (hX:VOk Tryz.prog X w71_v):UnOk Tryz.prog X w71_v (subC (bodyOf Tryz.f66) [1,1,1,0,1,0]) w71_u0 :=
 lp_un' (c:=(subC (bodyOf Tryz.f66) [1,1,1,0,1,0,0])) (by kernel_rfl) (env_all tb_ok (w71_gs)) hord (ob:=[]) (by kernel_rfl) (fun X hX=>obl_nil) (w71_u0_s) (by kernel_rfl) (by kernel_rfl) hX
def w71_a:AC:=(.seq .run (.seq .run (.seq .run (.seq (.seq .run (.block (.unit w71_u0))) (.seq (.seq .run (.block (.unit w71_u1))) .run)))))
theorem w71_s (x:TupL w71_c.inp.hs):E w71_v (bodyOf Tryz.f66) (w71_a) (w71_c.entry x) (retSK tb w71_v.fz w71_c [.tmp 4,.tmp 5] x)=w71_c.F x:=by kernel_rfl
theorem w71_ok:ShOk Tryz.prog gl 66 w71_c :=
 fn_ok (l:=w71_g) (n:=Tryz.f66.ntmps) (code:=bodyOf Tryz.f66) (rts:=[.tmp 4,.tmp 5]) tb_ok hord (w71_gs) Tryz.func66 (by kernel_rfl) (by kernel_rfl) rfl (by kernel_rfl) (ac:=w71_a) (ob:=[((subC (bodyOf Tryz.f66) [1,1,1,0,1,0]),w71_u0),((subC (bodyOf Tryz.f66) [1,1,1,1,0,1,0]),w71_u1)]) (by kernel_rfl) (fun X hX=>(obl_cons (w71_u0_ok hX) (obl_cons (w71_u1_ok hX) obl_nil))) (by kernel_rfl) (w71_s)
def w72_c:ShC:={ inp:=⟨[.hole,(.ptr 0 0)],[.cells true [.hole]],[1,1],[.int .i64,.sl tSym]⟩,out:=⟨[.hole],[],[2],[.bool]⟩,nres:=1,ms:=[],mu:=[],leak:=false,glob:=false,F:=fun (x:(Int×(List QSym)))=>ask_own_c1 x.1 x.2 }
-- ask.own$1
def w72_g:List (Nat×Con):=[]
def w72_v:Env:=envOf tb gl w72_g w72_c Tryz.f181.ntmps
theorem w72_gs:Goods Tryz.prog (cond w72_c.glob gl fun _=>none) w72_g:=goods_nil
def w72_a:AC:=.run
theorem w72_s (x:TupL w72_c.inp.hs):E w72_v (bodyOf Tryz.f181) (w72_a) (w72_c.entry x) (retSK tb w72_v.fz w72_c [.tmp 3] x)=w72_c.F x:=by kernel_rfl
theorem w72_ok:ShOk Tryz.prog gl 181 w72_c :=
 fn_ok (l:=w72_g) (n:=Tryz.f181.ntmps) (code:=bodyOf Tryz.f181) (rts:=[.tmp 3]) tb_ok hord (w72_gs) Tryz.func181 (by kernel_rfl) (by kernel_rfl) rfl (by kernel_rfl) (ac:=w72_a) (ob:=[]) (by kernel_rfl) (fun X hX=>obl_nil) (by kernel_rfl) (w72_s)
def w73_c:ShC:={ inp:=⟨[.hole,(.clo 181 [(.ptr 0 0)])],[.cells true [.hole]],[1,1],[.sl (.one (.int .i64)),.sl tSym]⟩,out:=⟨[.hole],[],[2],[.int .i64]⟩,nres:=1,ms:=[],mu:=[],leak:=false,glob:=false,F:=fun (x:((List Int)×(List QSym)))=>slices_IndexFunc_3 x.1 x.2 }
-- slices.IndexFunc[[]int,int]
def w73_g:List (Nat×Con):=[(181,.gen (altE [w72_c]))]
def w73_v:Env:=envOf tb gl w73_g w73_c Tryz.f157.ntmps
theorem w73_gs:Goods Tryz.prog (cond w73_c.glob gl fun _=>none) w73_g:=(goods_cons (good_alt (alls_cons (w72_ok.anyGl rfl) alls_nil)) goods_nil)
def w73_u0_h:SS:=⟨[0,1,7,8],⟨[.hole,(.clo 181 [(.ptr 0 0)]),.hole,.hole],[.cells true [.hole]],[1,2,2,1],[.sl (.one (.int .i64)),.int .i64,.int .i64,.sl tSym]⟩⟩
def w73_u0_e:Exs:=[((.exit 0),⟨[],⟨[],[],[],[]⟩⟩),(.ret,⟨[4],⟨[.hole],[],[2],[.int .i64]⟩⟩)]
def w73_u0_a:AC:=.run
def w73_u0:Un:=lpU w73_v.fz [9,10,5,11,12,13,14,15,16,17,4,18,8] w73_u0_h w73_u0_e (lp slices_IndexFunc_3_L0 fuel)
theorem w73_u0_s (f:w73_u0_h.X→Option (YT w73_u0_e)) (x:w73_u0_h.X):E w73_v (subC (bodyOf Tryz.f157) [1,0,1,0,0]) (w73_u0_a) (mkS w73_u0_h 8 x) (roundK w73_v.fz w73_u0_h w73_u0_e f)=slices_IndexFunc_3_L0 f x:=by kernel_rfl
theorem w73_u0_ok {X:Fx} (hX:VOk Tryz.prog X w73_v):UnOk Tryz.prog X w73_v (subC (bodyOf Tryz.f157) [1,0,1,0]) w73_u0 :=
 lp_un' (c:=(subC (bodyOf Tryz.f157) [1,0,1,0,0])) (by kernel_rfl) (env_all tb_ok (w73_gs)) hord (ob:=[]) (by kernel_rfl) (fun X hX=>obl_nil) (w73_u0_s) (by kernel_rfl) (by kernel_rfl) hX
def w73_a:AC:=(.seq .run (.seq (.seq .run (.block (.unit w73_u0))) .run))
theorem w73_s (x:TupL w73_c.inp.hs):E w73_v (bodyOf Tryz.f157) (w73_a) (w73_c.entry x) (retSK tb w73_v.fz w73_c [.tmp 4] x)=w73_c.F x:=by kernel_rfl
theorem w73_ok:ShOk Tryz.prog gl 157 w73_c :=
 fn_ok (l:=w73_g) (n:=Tryz.f157.ntmps) (code:=bodyOf Tryz.f157) (rts:=[.tmp 4]) tb_ok hord (w73_gs) Tryz.func157 (by kernel_rfl) (by kernel_rfl) rfl (by kernel_rfl) (ac:=w73_a) (ob:=[((subC (bodyOf Tryz.f157) [1,0,1,0]),w73_u0)]) (by kernel_rfl) (fun X hX=>(obl_cons (w73_u0_ok hX) obl_nil)) (by kernel_rfl) (w73_s)
def w74_c:ShC:={ inp:=⟨[.hole,(.clo 181 [(.ptr 0 0)])],[.cells true [.hole]],[1,1],[.sl (.one (.int .i64)),.sl tSym]⟩,out:=⟨[.hole],[],[2],[.bool]⟩,nres:=1,ms:=[],mu:=[],leak:=false,glob:=false,F:=fun (x:((List Int)×(List QSym)))=>slices_ContainsFunc_3 x.1 x.2 }
-- slices.ContainsFunc[[]int,int]
def w74_g:List (Nat×Con):=[(157,.gen (altE [w73_c]))]
def w74_v:Env:=envOf tb gl w74_g w74_c Tryz.f180.ntmps
theorem w74_gs:Goods Tryz.prog (cond w74_c.glob gl fun _=>none) w74_g:=(goods_cons (good_alt (alls_cons (w73_ok.anyGl rfl) alls_nil)) goods_nil)
def w74_a:AC:=.run
theorem w74_s (x:TupL w74_c.inp.hs):E w74_v (bodyOf Tryz.f180) (w74_a) (w74_c.entry x) (retSK tb w74_v.fz w74_c [.tmp 4] x)=w74_c.F x:=by kernel_rfl
theorem w74_ok:ShOk Tryz.prog gl 180 w74_c :=
 fn_ok (l:=w74_g) (n:=Tryz.f180.ntmps) (code:=bodyOf Tryz.f180) (rts:=[.tmp 4]) tb_ok hord (w74_gs) Tryz.func180 (by kernel_rfl) (by kernel_rfl) rfl (by kernel_rfl) (ac:=w74_a) (ob:=[]) (by kernel_rfl) (fun X hX=>obl_nil) (by kernel_rfl) (w74_s)
def w75_c:ShC:={ inp:=⟨[.hole,.hole],[],[1,1],[.sl tSym,.sl (.one (.int .i64))]⟩,out:=⟨[.hole],[],[2],[.bool]⟩,nres:=1,ms:=[],mu:=[],leak:=false,glob:=false,F:=fun (x:((List QSym)×(List Int)))=>ask_own x.1 x.2 }
-- ask.own
def w75_g:List (Nat×Con):=[(180,.gen (altE [w74_c]))]
def w75_v:Env:=envOf tb gl w75_g w75_c Tryz.f131.ntmps
theorem w75_gs:Goods Tryz.prog (cond w75_c.glob gl fun _=>none) w75_g:=(goods_cons (good_alt (alls_cons (w74_ok.anyGl rfl) alls_nil)) goods_nil)
def w75_a:AC:=.run
theorem w75_s (x:TupL w75_c.inp.hs):E w75_v (bodyOf Tryz.f131) (w75_a) (w75_c.entry x) (retSK tb w75_v.fz w75_c [.tmp 4] x)=w75_c.F x:=by kernel_rfl
theorem w75_ok:ShOk Tryz.prog gl 131 w75_c :=
 fn_ok (l:=w75_g) (n:=Tryz.f131.ntmps) (code:=bodyOf Tryz.f131) (rts:=[.tmp 4]) tb_ok hord (w75_gs) Tryz.func131 (by kernel_rfl) (by kernel_rfl) rfl (by kernel_rfl) (ac:=w75_a) (ob:=[]) (by kernel_rfl) (fun X hX=>obl_nil) (by kernel_rfl) (w75_s)
def w76_c:ShC:={ inp:=⟨[.hole,(.ptr 0 0)],[.cells true [.hole]],[1,1],[.sl (.one (.int .i64)),.sl tSym]⟩,out:=⟨[.hole],[],[2],[.bool]⟩,nres:=1,ms:=[],mu:=[],leak:=false,glob:=false,F:=fun (x:((List Int)×(List QSym)))=>ask_Fine_c1 x.1 x.2 }
-- ask.Fine$1
def w76_g:List (Nat×Con):=[(131,.gen (altE [w75_c]))]
def w76_v:Env:=envOf tb gl w76_g w76_c Tryz.f130.ntmps
theorem w76_gs:Goods Tryz.prog (cond w76_c.glob gl fun _=>none) w76_g:=(goods_cons (good_alt (alls_cons (w75_ok.anyGl rfl) alls_nil)) goods_nil)
def w76_a:AC:=.run
theorem w76_s (x:TupL w76_c.inp.hs):E w76_v (bodyOf Tryz.f130) (w76_a) (w76_c.entry x) (retSK tb w76_v.fz w76_c [.tmp 3] x)=w76_c.F x:=by kernel_rfl
theorem w76_ok:ShOk Tryz.prog gl 130 w76_c :=
 fn_ok (l:=w76_g) (n:=Tryz.f130.ntmps) (code:=bodyOf Tryz.f130) (rts:=[.tmp 3]) tb_ok hord (w76_gs) Tryz.func130 (by kernel_rfl) (by kernel_rfl) rfl (by kernel_rfl) (ac:=w76_a) (ob:=[]) (by kernel_rfl) (fun X hX=>obl_nil) (by kernel_rfl) (w76_s)
def w77_c:ShC:={ inp:=⟨[.hole,(.clo 130 [(.ptr 0 0)])],[.cells true [.hole]],[1,1],[.sl (.one (.sl (.one (.int .i64)))),.sl tSym]⟩,out:=⟨[.hole],[],[2],[.int .i64]⟩,nres:=1,ms:=[],mu:=[],leak:=false,glob:=false,F:=fun (x:((List (List Int))×(List QSym)))=>slices_IndexFunc_2 x.1 x.2 }
-- slices.IndexFunc[[][]int,[]int]
def w77_g:List (Nat×Con):=[(130,.gen (altE [w76_c]))]
def w77_v:Env:=envOf tb gl w77_g w77_c Tryz.f182.ntmps
theorem w77_gs:Goods Tryz.prog (cond w77_c.glob gl fun _=>none) w77_g:=(goods_cons (good_alt (alls_cons (w76_ok.anyGl rfl) alls_nil)) goods_nil)
def w77_u0_h:SS:=⟨[0,1,7,8],⟨[.hole,(.clo 130 [(.ptr 0 0)]),.hole,.hole],[.cells true [.hole]],[1,2,2,1],[.sl (.one (.sl (.one (.int .i64)))),.int .i64,.int .i64,.sl tSym]⟩⟩
def w77_u0_e:Exs:=[((.exit 0),⟨[],⟨[],[],[],[]⟩⟩),(.ret,⟨[4],⟨[.hole],[],[2],[.int .i64]⟩⟩)]
def w77_u0_a:AC:=.run
def w77_u0:Un:=lpU w77_v.fz [9,10,5,11,12,13,14,15,16,17,4,18,8] w77_u0_h w77_u0_e (lp slices_IndexFunc_2_L0 fuel)
theorem w77_u0_s (f:w77_u0_h.X→Option (YT w77_u0_e)) (x:w77_u0_h.X):E w77_v (subC (bodyOf Tryz.f182) [1,0,1,0,0]) (w77_u0_a) (mkS w77_u0_h 8 x) (roundK w77_v.fz w77_u0_h w77_u0_e f)=slices_IndexFunc_2_L0 f x:=by kernel_rfl
theorem w77_u0_ok {X:Fx} (hX:VOk Tryz.prog X w77_v):UnOk Tryz.prog X w77_v (subC (bodyOf Tryz.f182) [1,0,1,0]) w77_u0 :=
 lp_un' (c:=(subC (bodyOf Tryz.f182) [1,0,1,0,0])) (by kernel_rfl) (env_all tb_ok (w77_gs)) hord (ob:=[]) (by kernel_rfl) (fun X hX=>obl_nil) (w77_u0_s) (by kernel_rfl) (by kernel_rfl) hX
def w77_a:AC:=(.seq .run (.seq (.seq .run (.block (.unit w77_u0))) .run))
theorem w77_s (x:TupL w77_c.inp.hs):E w77_v (bodyOf Tryz.f182) (w77_a) (w77_c.entry x) (retSK tb w77_v.fz w77_c [.tmp 4] x)=w77_c.F x:=by kernel_rfl
theorem w77_ok:ShOk Tryz.prog gl 182 w77_c :=
 fn_ok (l:=w77_g) (n:=Tryz.f182.ntmps) (code:=bodyOf Tryz.f182) (rts:=[.tmp 4]) tb_ok hord (w77_gs) Tryz.func182 (by kernel_rfl) (by kernel_rfl) rfl (by kernel_rfl) (ac:=w77_a) (ob:=[((subC (bodyOf Tryz.f182) [1,0,1,0]),w77_u0)]) (by kernel_rfl) (fun X hX=>(obl_cons (w77_u0_ok hX) obl_nil)) (by kernel_rfl) (w77_s)
def w78_c:ShC:={ inp:=⟨[.hole,(.clo 130 [(.ptr 0 0)])],[.cells true [.hole]],[1,1],[.sl (.one (.sl (.one (.int .i64)))),.sl tSym]⟩,out:=⟨[.hole],[],[2],[.bool]⟩,nres:=1,ms:=[],mu:=[],leak:=false,glob:=false,F:=fun (x:((List (List Int))×(List QSym)))=>slices_ContainsFunc_2 x.1 x.2 }
-- slices.ContainsFunc[[][]int,[]int]
def w78_g:List (Nat×Con):=[(182,.gen (altE [w77_c]))]
def w78_v:Env:=envOf tb gl w78_g w78_c Tryz.f132.ntmps
theorem w78_gs:Goods Tryz.prog (cond w78_c.glob gl fun _=>none) w78_g:=(goods_cons (good_alt (alls_cons (w77_ok.anyGl rfl) alls_nil)) goods_nil)
def w78_a:AC:=.run
theorem w78_s (x:TupL w78_c.inp.hs):E w78_v (bodyOf Tryz.f132) (w78_a) (w78_c.entry x) (retSK tb w78_v.fz w78_c [.tmp 4] x)=w78_c.F x:=by kernel_rfl
theorem w78_ok:ShOk Tryz.prog gl 132 w78_c :=
 fn_ok (l:=w78_g) (n:=Tryz.f132.ntmps) (code:=bodyOf Tryz.f132) (rts:=[.tmp 4]) tb_ok hord (w78_gs) Tryz.func132 (by kernel_rfl) (by kernel_rfl) rfl (by kernel_rfl) (ac:=w78_a) (ob:=[]) (by kernel_rfl) (fun X hX=>obl_nil) (by kernel_rfl) (w78_s)
def w79_c:ShC:={ inp:=⟨[(.agg [.hole,.hole]),(.ptr 0 0)],[.cells true [(.clo 130 [(.ptr 1 0)])],.cells true [.hole]],[1,1,1],[.bool,.sl (.one (.int .i64)),.sl tSym]⟩,out:=⟨[.hole],[],[2],[.bool]⟩,nres:=1,ms:=[],mu:=[],leak:=false,glob:=false,F:=fun (x:(Bool×(List Int)×(List QSym)))=>ask_Fine_c2 x.1 x.2.1 x.2.2 }
-- ask.Fine$2
def w79_g:List (Nat×Con):=[(130,.gen (altE [w76_c]))]
def w79_v:Env:=envOf tb gl w79_g w79_c Tryz.f134.ntmps
theorem w79_gs:Goods Tryz.prog (cond w79_c.glob gl fun _=>none) w79_g:=(goods_cons (good_alt (alls_cons (w76_ok.anyGl rfl) alls_nil)) goods_nil)
def w79_a:AC:=.run
theorem w79_s (x:TupL w79_c.inp.hs):E w79_v (bodyOf Tryz.f134) (w79_a) (w79_c.entry x) (retSK tb w79_v.fz w79_c [.tmp 3] x)=w79_c.F x:=by kernel_rfl
theorem w79_ok:ShOk Tryz.prog gl 134 w79_c :=
 fn_ok (l:=w79_g) (n:=Tryz.f134.ntmps) (code:=bodyOf Tryz.f134) (rts:=[.tmp 3]) tb_ok hord (w79_gs) Tryz.func134 (by kernel_rfl) (by kernel_rfl) rfl (by kernel_rfl) (ac:=w79_a) (ob:=[]) (by kernel_rfl) (fun X hX=>obl_nil) (by kernel_rfl) (w79_s)
def w80_c:ShC:={ inp:=⟨[.hole,(.clo 134 [(.ptr 0 0)])],[.cells true [(.clo 130 [(.ptr 1 0)])],.cells true [.hole]],[1,1],[.sl tLit,.sl tSym]⟩,out:=⟨[.hole],[],[2],[.int .i64]⟩,nres:=1,ms:=[],mu:=[],leak:=false,glob:=false,F:=fun (x:((List QLit)×(List QSym)))=>slices_IndexFunc_4 x.1 x.2 }
-- slices.IndexFunc[[]api.Lit,api.Lit]
def w80_g:List (Nat×Con):=[(134,.gen (altE [w79_c]))]
def w80_v:Env:=envOf tb gl w80_g w80_c Tryz.f183.ntmps
theorem w80_gs:Goods Tryz.prog (cond w80_c.glob gl fun _=>none) w80_g:=(goods_cons (good_alt (alls_cons (w79_ok.anyGl rfl) alls_nil)) goods_nil)
def w80_u0_h:SS:=⟨[0,1,7,8],⟨[.hole,(.clo 134 [(.ptr 0 0)]),.hole,.hole],[.cells true [(.clo 130 [(.ptr 1 0)])],.cells true [.hole]],[1,2,2,1],[.sl tLit,.int .i64,.int .i64,.sl tSym]⟩⟩
def w80_u0_e:Exs:=[((.exit 0),⟨[],⟨[],[],[],[]⟩⟩),(.ret,⟨[4],⟨[.hole],[],[2],[.int .i64]⟩⟩)]
def w80_u0_a:AC:=.run
def w80_u0:Un:=lpU w80_v.fz [9,10,5,11,12,13,14,15,16,17,4,18,8] w80_u0_h w80_u0_e (lp slices_IndexFunc_4_L0 fuel)
theorem w80_u0_s (f:w80_u0_h.X→Option (YT w80_u0_e)) (x:w80_u0_h.X):E w80_v (subC (bodyOf Tryz.f183) [1,0,1,0,0]) (w80_u0_a) (mkS w80_u0_h 8 x) (roundK w80_v.fz w80_u0_h w80_u0_e f)=slices_IndexFunc_4_L0 f x:=by kernel_rfl
theorem w80_u0_ok {X:Fx} (hX:VOk Tryz.prog X w80_v):UnOk Tryz.prog X w80_v (subC (bodyOf Tryz.f183) [1,0,1,0]) w80_u0 :=
 lp_un' (c:=(subC (bodyOf Tryz.f183) [1,0,1,0,0])) (by kernel_rfl) (env_all tb_ok (w80_gs)) hord (ob:=[]) (by kernel_rfl) (fun X hX=>obl_nil) (w80_u0_s) (by kernel_rfl) (by kernel_rfl) hX
def w80_a:AC:=(.seq .run (.seq (.seq .run (.block (.unit w80_u0))) .run))
theorem w80_s (x:TupL w80_c.inp.hs):E w80_v (bodyOf Tryz.f183) (w80_a) (w80_c.entry x) (retSK tb w80_v.fz w80_c [.tmp 4] x)=w80_c.F x:=by kernel_rfl
theorem w80_ok:ShOk Tryz.prog gl 183 w80_c :=
 fn_ok (l:=w80_g) (n:=Tryz.f183.ntmps) (code:=bodyOf Tryz.f183) (rts:=[.tmp 4]) tb_ok hord (w80_gs) Tryz.func183 (by kernel_rfl) (by kernel_rfl) rfl (by kernel_rfl) (ac:=w80_a) (ob:=[((subC (bodyOf Tryz.f183) [1,0,1,0]),w80_u0)]) (by kernel_rfl) (fun X hX=>(obl_cons (w80_u0_ok hX) obl_nil)) (by kernel_rfl) (w80_s)
def w81_c:ShC:={ inp:=⟨[.hole,(.clo 134 [(.ptr 0 0)])],[.cells true [(.clo 130 [(.ptr 1 0)])],.cells true [.hole]],[1,1],[.sl tLit,.sl tSym]⟩,out:=⟨[.hole],[],[2],[.bool]⟩,nres:=1,ms:=[],mu:=[],leak:=false,glob:=false,F:=fun (x:((List QLit)×(List QSym)))=>slices_ContainsFunc_4 x.1 x.2 }
-- slices.ContainsFunc[[]api.Lit,api.Lit]
def w81_g:List (Nat×Con):=[(183,.gen (altE [w80_c]))]
def w81_v:Env:=envOf tb gl w81_g w81_c Tryz.f133.ntmps
theorem w81_gs:Goods Tryz.prog (cond w81_c.glob gl fun _=>none) w81_g:=(goods_cons (good_alt (alls_cons (w80_ok.anyGl rfl) alls_nil)) goods_nil)
def w81_a:AC:=.run
theorem w81_s (x:TupL w81_c.inp.hs):E w81_v (bodyOf Tryz.f133) (w81_a) (w81_c.entry x) (retSK tb w81_v.fz w81_c [.tmp 4] x)=w81_c.F x:=by kernel_rfl
theorem w81_ok:ShOk Tryz.prog gl 133 w81_c :=
 fn_ok (l:=w81_g) (n:=Tryz.f133.ntmps) (code:=bodyOf Tryz.f133) (rts:=[.tmp 4]) tb_ok hord (w81_gs) Tryz.func133 (by kernel_rfl) (by kernel_rfl) rfl (by kernel_rfl) (ac:=w81_a) (ob:=[]) (by kernel_rfl) (fun X hX=>obl_nil) (by kernel_rfl) (w81_s)
def w82_c:ShC:={ inp:=⟨[.hole,(.agg [.hole,.hole,.hole])],[],[1,1,1,1],[.sl tSym,.sl tLit,.sl (.one (.sl (.one (.int .i64)))),.sl tLit]⟩,out:=⟨[.hole,.hole],[],[2,2],[.bool,.int .i64]⟩,nres:=2,ms:=[],mu:=[],leak:=false,glob:=true,F:=fun (x:((List QSym)×(List QLit)×(List (List Int))×(List QLit)))=>ask_Fine x.1 x.2.1 x.2.2.1 x.2.2.2 }
-- ask.Fine
def w82_g:List (Nat×Con):=[(42,.gen (altE [w24_c])),(132,.gen (altE [w78_c])),(133,.gen (altE [w81_c]))]
def w82_v:Env:=envOf tb gl w82_g w82_c Tryz.f67.ntmps
theorem w82_gs:Goods Tryz.prog (cond w82_c.glob gl fun _=>none) w82_g:=(goods_cons (good_alt (alls_cons w24_ok alls_nil)) (goods_cons (good_alt (alls_cons (w78_ok.anyGl rfl) alls_nil)) (goods_cons (good_alt (alls_cons (w81_ok.anyGl rfl) alls_nil)) goods_nil)))
def w82_a:AC:=.run
theorem w82_s (x:TupL w82_c.inp.hs):E w82_v (bodyOf Tryz.f67) (w82_a) (w82_c.entry x) (retSK tb w82_v.fz w82_c [.tmp 4,.tmp 5] x)=w82_c.F x:=by kernel_rfl
theorem w82_ok:ShOk Tryz.prog gl 67 w82_c :=
 fn_ok (l:=w82_g) (n:=Tryz.f67.ntmps) (code:=bodyOf Tryz.f67) (rts:=[.tmp 4,.tmp 5]) tb_ok hord (w82_gs) Tryz.func67 (by kernel_rfl) (by kernel_rfl) rfl (by kernel_rfl) (ac:=w82_a) (ob:=[]) (by kernel_rfl) (fun X hX=>obl_nil) (by kernel_rfl) (w82_s)
def w83_c:ShC:={ inp:=⟨[],[],[],[]⟩,out:=⟨[.hole],[],[2],[.bool]⟩,nres:=1,ms:=[],mu:=[],leak:=false,glob:=true,F:=fun (x:Unit)=>law24_awake }
-- quaerelaw24.awake
def w83_g:List (Nat×Con):=[(15,.gen (altE [w38_c])),(17,.gen (altE [w62_c])),(18,.gen (altE [w63_c])),(65,.gen (altE [w65_c])),(66,.gen (altE [w71_c])),(67,.gen (altE [w82_c]))]
def w83_v:Env:=envOf tb gl w83_g w83_c Tryz.f22.ntmps
theorem w83_gs:Goods Tryz.prog (cond w83_c.glob gl fun _=>none) w83_g:=(goods_cons (good_alt (alls_cons w38_ok alls_nil)) (goods_cons (good_alt (alls_cons (w62_ok.anyGl rfl) alls_nil)) (goods_cons (good_alt (alls_cons (w63_ok.anyGl rfl) alls_nil)) (goods_cons (good_alt (alls_cons (w65_ok.anyGl rfl) alls_nil)) (goods_cons (good_alt (alls_cons w71_ok alls_nil)) (goods_cons (good_alt (alls_cons w82_ok alls_nil)) goods_nil))))))
def w83_a:AC:=.run
theorem w83_s (x:TupL w83_c.inp.hs):E w83_v (bodyOf Tryz.f22) (w83_a) (w83_c.entry x) (retSK tb w83_v.fz w83_c [.tmp 0] x)=w83_c.F x:=by kernel_rfl
theorem w83_ok:ShOk Tryz.prog gl 22 w83_c :=
 fn_ok (l:=w83_g) (n:=Tryz.f22.ntmps) (code:=bodyOf Tryz.f22) (rts:=[.tmp 0]) tb_ok hord (w83_gs) Tryz.func22 (by kernel_rfl) (by kernel_rfl) rfl (by kernel_rfl) (ac:=w83_a) (ob:=[]) (by kernel_rfl) (fun X hX=>obl_nil) (by kernel_rfl) (w83_s)
def w84_c:ShC:={ inp:=⟨[.hole,.hole,.hole],[],[1,1,1],[.sl tSym,.sl (.one (.int .i64)),.sl tLit]⟩,out:=⟨[.hole],[],[2],[.bool]⟩,nres:=1,ms:=[],mu:=[],leak:=false,glob:=true,F:=fun (x:((List QSym)×(List Int)×(List QLit)))=>law24_Goals x.1 x.2.1 x.2.2 }
-- quaerelaw24.Goals
def w84_g:List (Nat×Con):=[(13,.gen (altE [w1_c])),(14,.gen (altE [w2_c])),(15,.gen (altE [w38_c])),(16,.gen (altE [w58_c])),(17,.gen (altE [w62_c])),(18,.gen (altE [w63_c])),(20,.gen (altE [w60_c])),(21,.gen (altE [w64_c])),(22,.gen (altE [w83_c]))]
def w84_v:Env:=envOf tb gl w84_g w84_c Tryz.f3.ntmps
theorem w84_gs:Goods Tryz.prog (cond w84_c.glob gl fun _=>none) w84_g:=(goods_cons (good_alt (alls_cons (w1_ok.anyGl rfl) alls_nil)) (goods_cons (good_alt (alls_cons (w2_ok.anyGl rfl) alls_nil)) (goods_cons (good_alt (alls_cons w38_ok alls_nil)) (goods_cons (good_alt (alls_cons (w58_ok.anyGl rfl) alls_nil)) (goods_cons (good_alt (alls_cons (w62_ok.anyGl rfl) alls_nil)) (goods_cons (good_alt (alls_cons (w63_ok.anyGl rfl) alls_nil)) (goods_cons (good_alt (alls_cons (w60_ok.anyGl rfl) alls_nil)) (goods_cons (good_alt (alls_cons (w64_ok.anyGl rfl) alls_nil)) (goods_cons (good_alt (alls_cons w83_ok alls_nil)) goods_nil)))))))))
def w84_u0_l:List (Code×AC):=[((subC (bodyOf Tryz.f3) [1,1,0]),.run),((subC (bodyOf Tryz.f3) [1,1,1,0]),.run),((subC (bodyOf Tryz.f3) [1,1,1,1,0]),.run)]
def w84_u0:Un:=spU w84_v w84_u0_l [18,19,20,21,17,22,23,9,10,25,26,27,28,24,29,30,11,12,31,32,33,34,35,36,37,38,39,40,6] [41,42] [(9,.rp (.cons (.sl tLit) (.cons (.sl (.one (.sl (.one (.int .i64))))) (.one (.sl tLit)))) 0)] (subC (bodyOf Tryz.f3) [1,1,1,1,1,1]) .run
-- quaerelaw0.SpoilInts
theorem spl126:SpoilOk Tryz.prog 126 [.one (.sl (.one (.int .i64)))] :=
 spoil_fn' (l:=[]) (code:=bodyOf Tryz.f126) tb_ok sps_nil Tryz.func126 (by kernel_rfl) (by kernel_rfl) (by kernel_rfl) (by kernel_rfl) (by kernel_rfl)
-- quaerelaw0.SpoilLits
theorem spl63:SpoilOk Tryz.prog 63 [.one (.sl tLit)] :=
 spoil_fn' (l:=[(126,[.one (.sl (.one (.int .i64)))])]) (code:=bodyOf Tryz.f63) tb_ok (sps_cons spl126 sps_nil) Tryz.func63 (by kernel_rfl) (by kernel_rfl) (by kernel_rfl) (by kernel_rfl) (by kernel_rfl)
-- quaerelaw0.SpoilRows
theorem spl64:SpoilOk Tryz.prog 64 [.one (.sl (.one (.sl (.one (.int .i64)))))] :=
 spoil_fn' (l:=[(126,[.one (.sl (.one (.int .i64)))])]) (code:=bodyOf Tryz.f64) tb_ok (sps_cons spl126 sps_nil) Tryz.func64 (by kernel_rfl) (by kernel_rfl) (by kernel_rfl) (by kernel_rfl) (by kernel_rfl)
-- quaerelaw0.SpoilClause
theorem spl19:SpoilOk Tryz.prog 19 [.agg [(.sl tLit),(.sl (.one (.sl (.one (.int .i64))))),(.sl tLit)]] :=
 spoil_fn' (l:=[(63,[.one (.sl tLit)]),(64,[.one (.sl (.one (.sl (.one (.int .i64)))))])]) (code:=bodyOf Tryz.f19) tb_ok (sps_cons spl63 (sps_cons spl64 sps_nil)) Tryz.func19 (by kernel_rfl) (by kernel_rfl) (by kernel_rfl) (by kernel_rfl) (by kernel_rfl)
theorem w84_u0_ok {X:Fx} (hX:VOk Tryz.prog X w84_v):UnOk Tryz.prog X w84_v (subC (bodyOf Tryz.f3) [1,1]) w84_u0 :=
 sp_un (env_all tb_ok (w84_gs)) hord (l:=[(19,[.agg [(.sl tLit),(.sl (.one (.sl (.one (.int .i64))))),(.sl tLit)]])]) (sps_cons spl19 sps_nil) (cs:=w84_u0_l) (sps:=[(subC (bodyOf Tryz.f3) [1,1,1,1,1,0])]) (by kernel_rfl) (fun X hX=>(ecs_cons (ob:=[]) (by kernel_rfl) obl_nil (ecs_cons (ob:=[]) (by kernel_rfl) obl_nil (ecs_cons (ob:=[]) (by kernel_rfl) obl_nil ecs_nil)))) (ob:=[]) (by kernel_rfl) (fun X hX=>obl_nil) (by kernel_rfl) (by kernel_rfl) (by kernel_rfl) hX
def w84_a:AC:=(.seq .run (.seq .run (.unit w84_u0)))
theorem w84_s (x:TupL w84_c.inp.hs):E w84_v (bodyOf Tryz.f3) (w84_a) (w84_c.entry x) (retSK tb w84_v.fz w84_c [.tmp 6] x)=w84_c.F x:=by kernel_rfl
theorem w84_ok:ShOk Tryz.prog gl 3 w84_c :=
 fn_ok (l:=w84_g) (n:=Tryz.f3.ntmps) (code:=bodyOf Tryz.f3) (rts:=[.tmp 6]) tb_ok hord (w84_gs) Tryz.func3 (by kernel_rfl) (by kernel_rfl) rfl (by kernel_rfl) (ac:=w84_a) (ob:=[((subC (bodyOf Tryz.f3) [1,1]),w84_u0)]) (by kernel_rfl) (fun X hX=>(obl_cons (w84_u0_ok hX) obl_nil)) (by kernel_rfl) (w84_s)
end
end Go.Abs.Sz5
