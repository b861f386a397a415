import Derived.Test.YtgjajclncfhidaaGreatDoorFc
import Derived.Test.YtgjajclncfhidaaGreatDoorQd
import Derived.Test.YtgjajclncfhidaaGreatDoorXa
import Derived.Test.YtgjajclncfhidaaGreatDoorProg
/-
 The functions make just that.
-/
namespace Go.Abs.Sc
open Go Go.Abs Go.Abs.Q Go.Proofs
set_option maxRecDepth 100000
noncomputable section
abbrev kK:Ty:=.sl (.one (.sl (.one (.int .i64))))
abbrev kR:Tys:=.one (.sl (.one (.int .i64)))
abbrev kJ:Ty:=.sl (.one (.int .i64))
abbrev kI:Tys:=.one (.int .i64)
abbrev kZ:Ty:=.int .i64
abbrev kL:Ty:=.sl Er
abbrev kM:Ty:=.sl MU
def tbl:List (Nat×TD):=[(3,.int .i64),
 (4,.bool),
 (9,.str),
 (22,.sl 114 MU 40),
 (23,.sl 55 (.cons kZ (.cons kZ (.cons kZ (.cons kZ (.cons kZ (.cons kZ (.cons kZ (.cons kL (.cons kK (.one kL)))))))))) 128),
 (25,.sl 61 Er 32),
 (26,.sl 38 kR 24),
 (28,.st [(25,0),(26,1),(25,2)] 3),
 (38,.sl 3 kI 8),
 (55,.st [(3,0),(3,1),(3,2),(3,3),(3,4),(3,5),(3,6),(28,7)] 10),
 (59,.int .u64),
 (61,.st [(4,0),(38,1)] 2),
 (70,.sl 4 (.one .bool) 1),
 (114,.st [(9,0),(3,1),(3,2),(3,3)] 4),
 (115,.sl 25 (.one kL) 24),
 (131,.sl 188 (.cons kZ kR) 32),
 (160,.st [(38,0),(38,1)] 2),
 (181,.st [(38,0),(3,1)] 2),
 (182,.arr 181 (.cons (.ns kI) kI) 48),
 (184,.st [(22,0),(182,1)] 97),
 (188,.st [(3,0),(38,1)] 2),
 (213,.sl 216 (.cons kJ (.cons kZ (.cons kJ kI))) 64),
 (216,.fa 181 2 2),
 (218,.arr 3 kI 24),
 (220,.sl 26 (.one kK) 24),
 (225,.arr 38 (.one (.ns kI)) 24),
 (237,.arr 4 (.one .bool) 48),
 (238,.sl 181 (.cons kJ kI) 32)]
def tb:Tb:=Rj tbl
theorem ze:kh Tryz.prog tb:=M6 (by kernel_rfl)
theorem zy:Tryz.prog.follows .mixedOrders=true:=by kernel_rfl
def gl:Gl:=fun q=>cond (Nat.beq q 0) (some ⟨MU,(([61],0,2,1):zh)⟩) (none)
abbrev SK:=ShOk Tryz.prog gl
abbrev UK:=UnA Tryz.prog
abbrev VK:=VAll Tryz.prog
abbrev GD (c:ShC):=QZ Tryz.prog (cond c.glob gl fun _=>none)
def zdP:ShC:=⟨⟨[],[],[],[]⟩,⟨[(.view 0)],[.seq false],[2],[kM]⟩,1,[],[],false,false,fun (_:Unit)=>tM⟩
theorem zdj:SK 41 zdP:=yV .run [.tmp 0] ze zy zb Tryz.func41 ob0
def zdK:ShC:=⟨⟨[],[],[],[]⟩,⟨[(.view 0)],[.seq false],[2],[.sl (.cons kZ (.cons kZ (.cons kZ (.cons kZ (.cons kZ (.cons kZ (.cons kZ (.cons kL (.cons kK (.one kL))))))))))]⟩,1,[],[],false,false,fun (_:Unit)=>jo⟩
theorem zcn:SK 42 zdK:=yV .run [.tmp 0] ze zy zb Tryz.func42 ob0
def zdC:ShC:=⟨⟨[.hole],[],[1],[.int .u8]⟩,⟨[.hole],[],[2],[.bool]⟩,1,[],[],false,false,fun (x:Int)=>ri x⟩
theorem zc3:SK 184 zdC:=yV .run [.tmp 2] ze zy zb Tryz.func184 ob0
def zdk:ShC:=⟨⟨[.hole],[],[1],[.str]⟩,⟨[.hole],[],[2],[.bool]⟩,1,[],[],false,false,fun (x:Str)=>jN x⟩
theorem Sj:GD zdk [(184,.gen (qP [zdC]))]:=(gd1 zc3 zb)
def zdG:=tw tb gl Sj zdk Tryz.f143
theorem zdN:VK zdG:=zw ze Sj
def U9:Un:=lpU 2 [20,21,3,22,23,24,25,26,27,28,29,30,31,32,33,34,35,36,37,38,2,39,19] ⟨[0,18,19],⟨[.hole,.hole,.hole],[],[2,2,2],[.str,.int .i64,.int .i64]⟩⟩ [((.exit 0),⟨[],⟨[],[],[],[]⟩⟩),(.ret,⟨[2],⟨[.hole],[],[2],[.bool]⟩⟩)] (lp vz zd)
theorem Oj:UK zdG (wD (zq Tryz.f143) [1,1,0,1,0]) U9:=um .run zy zdN ob0
theorem zdg:SK 143 zdk:=yV (.seq .run (.seq .run (.seq (.seq .run (.block (.unit U9))) .run))) [.tmp 2] ze zy Sj Tryz.func143 (ob1 Oj ob0)
def zdz:ShC:=⟨⟨[(.agg [.hole,.hole,.hole,.hole])],[],[1,1,1,1],[.str,.int .i64,.int .i64,.int .i64]⟩,⟨[.hole],[],[2],[.bool]⟩,1,[],[],false,false,fun (x:zh)=>rR x.1 x.2.1 x.2.2.1 x.2.2.2⟩
theorem zcU:SK 89 zdz:=yV .run [.tmp 2] ze zy (gd1 zdg zb) Tryz.func89 ob0
def zb7:ShC:=⟨⟨[.hole,.hole],[],[1,1],[kM,.str]⟩,⟨[.hole],[],[2],[.int .i64]⟩,1,[],[],false,false,fun (x:(jS×Str))=>ZX x.1 x.2⟩
theorem Sx:GD zb7 []:=zb
def zdy:=tw tb gl Sx zb7 Tryz.f90
theorem zdJ:VK zdy:=zw ze Sx
def UX:Un:=lpU 2 [9,10,5,11,12,13,14,15,16,17,18,4,19,8] ⟨[0,1,7,8],⟨[.hole,.hole,.hole,.hole],[],[1,2,2,2],[kM,.str,.int .i64,.int .i64]⟩⟩ [((.exit 0),⟨[],⟨[],[],[],[]⟩⟩),(.ret,⟨[4],⟨[.hole],[],[2],[.int .i64]⟩⟩)] (lp uQ zd)
theorem NH:UK zdy (wD (zq Tryz.f90) [1,0,1,0]) UX:=um .run zy zdJ ob0
theorem zda:SK 90 zb7:=yV (.seq .run (.seq (.seq .run (.block (.unit UX))) .run)) [.tmp 4] ze zy Sx Tryz.func90 (ob1 NH ob0)
def zb8:ShC:=⟨⟨[.hole],[],[1],[kM]⟩,⟨[.hole],[],[2],[.bool]⟩,1,[],[],false,true,fun (x:jS)=>YP x⟩
theorem TC:GD zb8 [(89,.gen (qP [zdz])),(90,.gen (qP [zb7]))]:=(gd1 zcU (gd1 zda zb))
def zdE:=tw tb gl TC zb8 Tryz.f49
theorem zdL:VK zdE:=zw ze TC
def za3:Un:=lpU 2 [19,20,21,22,25,26,27,28,29,30,31,32,33,34,35,36,37,38,39,40,41,2,23,24,3] ⟨[0,3],⟨[.hole,.hole],[],[1,2],[kM,.int .i64]⟩⟩ [((.exit 0),⟨[],⟨[],[],[],[]⟩⟩),(.ret,⟨[2],⟨[.hole],[],[2],[.bool]⟩⟩)] (lp uK zd)
theorem M5:UK zdE (wD (zq Tryz.f49) [1,1,0,1,0]) za3:=um .run zy zdL ob0
theorem Tf:SK 49 zb8:=yV (.seq .run (.seq .run (.seq (.seq .run (.block (.unit za3))) .run))) [.tmp 2] ze zy TC Tryz.func49 (ob1 M5 ob0)
def zdV:ShC:=⟨⟨[.hole,.hole,.hole],[],[1,1,1],[.int .i64,.int .i64,.int .i64]⟩,⟨[.hole],[],[2],[.bool]⟩,1,[],[],false,false,fun (x:(Int×Int×Int))=>wx x.1 x.2.1 x.2.2⟩
theorem zdm:SK 157 zdV:=yV .run [.tmp 6] ze zy zb Tryz.func157 ob0
def zdO:ShC:=⟨⟨[(.agg [.hole,.hole,.hole,.hole,.hole,.hole,.hole,.hole,.hole,.hole])],[],[1,1,1,1,1,1,1,1,1,1],[.int .i64,.int .i64,.int .i64,.int .i64,.int .i64,.int .i64,.int .i64,kL,kK,kL]⟩,⟨[.hole],[],[2],[.bool]⟩,1,[],[],false,false,fun (x:jU)=>tc x.1 x.2.1 x.2.2.1 x.2.2.2.1 x.2.2.2.2.1 x.2.2.2.2.2.1 x.2.2.2.2.2.2.1 x.2.2.2.2.2.2.2.1 x.2.2.2.2.2.2.2.2.1 x.2.2.2.2.2.2.2.2.2⟩
theorem zcW:SK 106 zdO:=yV .run [.tmp 2] ze zy (gd1 zdm zb) Tryz.func106 ob0
def RD:ShC:=⟨⟨[.hole],[],[1],[.int .i64]⟩,⟨[.hole],[],[2],[.int .i64]⟩,1,[],[],false,false,fun (x:Int)=>zP x⟩
theorem Gp:SK 84 RD:=yV .run [.tmp 2] ze zy zb Tryz.func84 ob0
def UP:ShC:=⟨⟨[.hole,.hole],[],[1,1],[kM,.int .i64]⟩,⟨[.hole,.hole],[],[2,2],[.int .i64,.bool]⟩,2,[],[],false,false,fun (x:(jS×Int))=>Z0 x.1 x.2⟩
theorem zaF:SK 217 UP:=yV .run [.tmp 4,.tmp 5] ze zy (gd1 Gp zb) Tryz.func217 ob0
def DU:ShC:=⟨⟨[.hole,.hole,.hole],[],[1,1,1],[kM,kJ,.int .i64]⟩,⟨[.hole,.hole],[],[2,2],[.int .i64,.bool]⟩,2,[],[],false,false,fun (x:(jS×jI×Int))=>xE x.1 x.2.1 x.2.2⟩
theorem Mx:GD DU [(217,.gen (qP [UP]))]:=(gd1 zaF zb)
def R6:=tw tb gl Mx DU Tryz.f185
theorem zdi:VK R6:=zw ze Mx
def OH:Un:=scU R6 [8,11,12,13,14,6,7,16,17,18,19,20,21,15,22,23,9,10,24,25,6,7,26,27,2,28,29,30,31,8,32,33,34,6,7] [(.goto 0,⟨[0,1,2,8],⟨[.hole,.hole,.hole,.hole],[],[1,1,2,2],[kM,kJ,.int .i64,.int .i64]⟩⟩)] [(.ret,⟨[6,7],⟨[.hole,.hole],[],[2,2],[.int .i64,.bool]⟩⟩)] (BD (wD (zq Tryz.f185) [1])) .run (lp vT zd)
theorem FE:UK R6 (wD (zq Tryz.f185) [1]) OH:=Uc [] zy zdi ob0 zaE
theorem Jw:SK 185 DU:=yV (.seq .run (.unit OH)) [.tmp 6,.tmp 7] ze zy Mx Tryz.func185 (ob1 FE ob0)
def S4:ShC:=⟨⟨[.hole,.hole],[],[1,1],[kM,kJ]⟩,⟨[(.view 0),.hole],[.seq false],[2,2],[.bool,kJ]⟩,2,[],[],false,true,fun (x:(jS×jI))=>tR x.1 x.2⟩
theorem FX:GD S4 [(49,.gen (qP [zb8])),(185,.gen (qP [DU]))]:=(gdG Tf (gd1 Jw zb))
def Sk:=tw tb gl FX S4 Tryz.f145
theorem zcF:VK Sk:=zw ze FX
def PW:Un:=scU Sk [10,11,12,13,14,15,16,17,4,5,6,7,18,19,20,21,22,4,5,24,25,26,27,23,28,29,8,9,30,31,4,5,32,33,34,35,6,36,7] [(.goto 0,⟨[0,1,6,7],⟨[.hole,.hole,(.view 0),.hole],[.seq false],[1,1,2,2],[kM,kJ,.int .i64,kJ]⟩⟩)] [(.ret,⟨[4,5],⟨[(.view 0),.hole],[.seq false],[2,2],[.bool,kJ]⟩⟩)] (BD (wD (zq Tryz.f145) [1])) .run (lp uu zd)
theorem H9:UK Sk (wD (zq Tryz.f145) [1]) PW:=Uc [] zy zcF ob0 zaE
theorem HG:SK 145 S4:=yV (.seq .run (.unit PW)) [.tmp 4,.tmp 5] ze zy FX Tryz.func145 (ob1 H9 ob0)
def zcr:ShC:=⟨⟨[.hole,.hole],[],[1,1],[kM,kJ]⟩,⟨[.hole],[],[2],[.bool]⟩,1,[],[],false,true,fun (x:(jS×jI))=>vk x.1 x.2⟩
theorem Rt:SK 144 zcr:=yV .run [.tmp 4] ze zy (gdG HG zb) Tryz.func144 ob0
def zbC:ShC:=⟨⟨[.hole,(.agg [.hole,.hole])],[],[1,1,1],[kM,.bool,kJ]⟩,⟨[.hole],[],[2],[.bool]⟩,1,[],[],false,true,fun (x:(jS×Bool×jI))=>Yp x.1 x.2.1 x.2.2⟩
theorem Pj:SK 91 zbC:=yV .run [.tmp 4] ze zy (gdG Rt zb) Tryz.func91 ob0
def RN:ShC:=⟨⟨[.hole,.hole],[],[1,1],[kM,kL]⟩,⟨[.hole,.hole],[],[2,2],[.int .i64,.bool]⟩,2,[],[],false,true,fun (x:(jS×jQ))=>ur x.1 x.2⟩
theorem Mi:GD RN [(91,.gen (qP [zbC]))]:=(gdG Pj zb)
def za7:=tw tb gl Mi RN Tryz.f50
theorem zdb:VK za7:=zw ze Mi
def OG:Un:=lpU 2 [12,13,14,8,15,16,17,18,4,5,19,20,21,22,23,6,24,11] ⟨[0,6,9,10,11],⟨[.hole,.hole,.hole,.hole,.hole],[],[1,2,1,2,2],[kM,.int .i64,kL,.int .i64,.int .i64]⟩⟩ [((.exit 0),⟨[6],⟨[.hole],[],[2],[.int .i64]⟩⟩),(.ret,⟨[4,5],⟨[.hole,.hole],[],[2,2],[.int .i64,.bool]⟩⟩)] (lp xC zd)
theorem EH:UK za7 (wD (zq Tryz.f50) [1,1,0,1,0]) OG:=um .run zy zdb ob0
theorem UR:SK 50 RN:=yV (.seq .run (.seq .run (.seq (.seq .run (.block (.unit OG))) .run))) [.tmp 4,.tmp 5] ze zy Mi Tryz.func50 (ob1 EH ob0)
def SG:ShC:=⟨⟨[.hole,.hole],[],[1,1],[kM,kJ]⟩,⟨[.hole,.hole],[],[2,2],[.int .i64,.int .i64]⟩,2,[],[],false,true,fun (x:(jS×jI))=>Zd x.1 x.2⟩
theorem PA:SK 92 SG:=yV .run [.tmp 4,.tmp 5] ze zy (gdG HG zb) Tryz.func92 ob0
def Ts:ShC:=⟨⟨[.hole,.hole],[],[1,1],[kM,kK]⟩,⟨[.hole,.hole],[],[2,2],[.int .i64,.bool]⟩,2,[],[],false,true,fun (x:(jS×jR))=>tV x.1 x.2⟩
theorem MG:GD Ts [(92,.gen (qP [SG]))]:=(gdG PA zb)
def zad:=tw tb gl MG Ts Tryz.f51
theorem zdq:VK zad:=zw ze MG
def Po:Un:=lpU 2 [15,16,17,18,8,9,20,21,22,19,23,24,10,11,25,26,27,7,28,29,30,31,32,33,34,4,5,35,36,37,38,6,39,14] ⟨[0,6,7,12,13,14],⟨[.hole,.hole,.hole,.hole,.hole,.hole],[],[1,2,2,1,2,2],[kM,.int .i64,.int .i64,kK,.int .i64,.int .i64]⟩⟩ [((.exit 0),⟨[6],⟨[.hole],[],[2],[.int .i64]⟩⟩),(.ret,⟨[4,5],⟨[.hole,.hole],[],[2,2],[.int .i64,.bool]⟩⟩)] (lp xA zd)
theorem H8:UK zad (wD (zq Tryz.f51) [1,1,0,1,0]) Po:=um .run zy zdq ob0
theorem zbt:SK 51 Ts:=yV (.seq .run (.seq .run (.seq (.seq .run (.block (.unit Po))) .run))) [.tmp 4,.tmp 5] ze zy MG Tryz.func51 (ob1 H8 ob0)
def N8:ShC:=⟨⟨[.hole,(.agg [.hole,.hole,.hole])],[],[1,1,1,1],[kM,kL,kK,kL]⟩,⟨[.hole],[],[2],[.bool]⟩,1,[],[],false,true,fun (x:(jS×jQ×jR×jQ))=>qx x.1 x.2.1 x.2.2.1 x.2.2.2⟩
theorem Ya:SK 25 N8:=yV .run [.tmp 4] ze zy (gdG Tf (gdG UR (gdG zbt zb))) Tryz.func25 ob0
def zci:ShC:=⟨⟨[.hole,(.agg [.hole,.hole,.hole,.hole,.hole,.hole,.hole,.hole,.hole,.hole])],[],[1,1,1,1,1,1,1,1,1,1,1],[kM,.int .i64,.int .i64,.int .i64,.int .i64,.int .i64,.int .i64,.int .i64,kL,kK,kL]⟩,⟨[.hole],[],[2],[.bool]⟩,1,[],[],false,true,fun (x:(jS×Int×Int×Int×Int×Int×Int×Int×jQ×jR×jQ))=>WW x.1 x.2.1 x.2.2.1 x.2.2.2.1 x.2.2.2.2.1 x.2.2.2.2.2.1 x.2.2.2.2.2.2.1 x.2.2.2.2.2.2.2.1 x.2.2.2.2.2.2.2.2.1 x.2.2.2.2.2.2.2.2.2.1 x.2.2.2.2.2.2.2.2.2.2⟩
theorem za6:SK 61 zci:=yV .run [.tmp 4] ze zy (gdG Ya (gd1 zcW zb)) Tryz.func61 ob0
def zbZ:ShC:=⟨⟨[(.agg [.hole,.hole,.hole,.hole,.hole,.hole,.hole,.hole,.hole,.hole]),(.ptr 0 0)],[.cells true [.hole]],[1,1,1,1,1,1,1,1,1,1,1],[.int .i64,.int .i64,.int .i64,.int .i64,.int .i64,.int .i64,.int .i64,kL,kK,kL,kM]⟩,⟨[.hole],[],[2],[.bool]⟩,1,[],[],false,true,fun (x:(Int×Int×Int×Int×Int×Int×Int×jQ×jR×jQ×jS))=>u9 x.1 x.2.1 x.2.2.1 x.2.2.2.1 x.2.2.2.2.1 x.2.2.2.2.2.1 x.2.2.2.2.2.2.1 x.2.2.2.2.2.2.2.1 x.2.2.2.2.2.2.2.2.1 x.2.2.2.2.2.2.2.2.2.1 x.2.2.2.2.2.2.2.2.2.2⟩
theorem UU:SK 60 zbZ:=yV .run [.tmp 3] ze zy (gdG za6 zb) Tryz.func60 ob0
def RW:ShC:=⟨⟨[.hole,(.clo 60 [(.ptr 0 0)])],[.cells true [.hole]],[1,1],[.sl (.cons kZ (.cons kZ (.cons kZ (.cons kZ (.cons kZ (.cons kZ (.cons kZ (.cons kL (.cons kK (.one kL)))))))))),kM]⟩,⟨[.hole],[],[2],[.int .i64]⟩,1,[],[],false,true,fun (x:(jT×jS))=>uM x.1 x.2⟩
theorem LK:GD RW [(60,.gen (qP [zbZ]))]:=(gdG UU zb)
def T9:=tw tb gl LK RW Tryz.f105
theorem zce:VK T9:=zw ze LK
def OS:Un:=lpU 2 [9,10,5,11,12,13,14,15,16,17,4,18,8] ⟨[0,1,7,8],⟨[.hole,(.clo 60 [(.ptr 0 0)]),.hole,.hole],[.cells true [.hole]],[1,2,2,1],[.sl (.cons kZ (.cons kZ (.cons kZ (.cons kZ (.cons kZ (.cons kZ (.cons kZ (.cons kL (.cons kK (.one kL)))))))))),.int .i64,.int .i64,kM]⟩⟩ [((.exit 0),⟨[],⟨[],[],[],[]⟩⟩),(.ret,⟨[4],⟨[.hole],[],[2],[.int .i64]⟩⟩)] (lp yO zd)
theorem FO:UK T9 (wD (zq Tryz.f105) [1,0,1,0]) OS:=um .run zy zce ob0
theorem UN:SK 105 RW:=yV (.seq .run (.seq (.seq .run (.block (.unit OS))) .run)) [.tmp 4] ze zy LK Tryz.func105 (ob1 FO ob0)
def zch:ShC:=⟨⟨[.hole,(.clo 60 [(.ptr 0 0)])],[.cells true [.hole]],[1,1],[.sl (.cons kZ (.cons kZ (.cons kZ (.cons kZ (.cons kZ (.cons kZ (.cons kZ (.cons kL (.cons kK (.one kL)))))))))),kM]⟩,⟨[.hole],[],[2],[.bool]⟩,1,[],[],false,true,fun (x:(jT×jS))=>vN x.1 x.2⟩
theorem zbL:SK 59 zch:=yV .run [.tmp 4] ze zy (gdG UN zb) Tryz.func59 ob0
def R9:ShC:=⟨⟨[.hole,.hole],[],[1,1],[kM,.sl (.cons kZ (.cons kZ (.cons kZ (.cons kZ (.cons kZ (.cons kZ (.cons kZ (.cons kL (.cons kK (.one kL))))))))))]⟩,⟨[.hole],[],[2],[.bool]⟩,1,[],[],false,true,fun (x:(jS×jT))=>uO x.1 x.2⟩
theorem LP:SK 29 R9:=yV .run [.tmp 4] ze zy (gdG Tf (gdG zbL zb)) Tryz.func29 ob0
def zcI:ShC:=⟨⟨[(.agg [.hole,.hole,.hole,.hole,.hole,.hole,.hole,.hole,.hole,.hole])],[],[1,1,1,1,1,1,1,1,1,1],[.int .i64,.int .i64,.int .i64,.int .i64,.int .i64,.int .i64,.int .i64,kL,kK,kL]⟩,⟨[(.agg [.hole,.hole,.hole,.hole,.hole,.hole,.hole,.nilv,.nilv,.nilv])],[],[2,2,2,2,2,2,2],[.int .i64,.int .i64,.int .i64,.int .i64,.int .i64,.int .i64,.int .i64]⟩,1,[],[],false,false,fun (x:jU)=>Zf x.1 x.2.1 x.2.2.1 x.2.2.2.1 x.2.2.2.2.1 x.2.2.2.2.2.1 x.2.2.2.2.2.2.1 x.2.2.2.2.2.2.2.1 x.2.2.2.2.2.2.2.2.1 x.2.2.2.2.2.2.2.2.2⟩
theorem zaR:SK 62 zcI:=yV (.seq .run (.seq .run (.seq (.seq .run (.block (.seq .run (.cond .run (.seq .run (.cond (.hide [[],[],[64],[64],[64],[64],[],[],[],[],[],[]]) (.seq .run (.cond (.hide [[],[],[64],[64],[],[],[],[]]) (.seq .run (.cond (.hide [[],[],[64],[64],[64],[64],[64],[64],[64],[64],[],[],[],[],[],[],[],[],[],[]]) .run)))))))))) .run))) [.cell 2 55] ze zy zb Tryz.func62 ob0
def zcy:ShC:=⟨⟨[(.agg [.hole,.hole,.hole,.hole,.hole,.hole,.hole,.hole,.hole,.hole]),(.agg [.hole,.hole,.hole,.hole,.hole,.hole,.hole,.hole,.hole,.hole])],[],[1,1,1,1,1,1,1,1,1,1,1,1,1,1,1,1,1,1,1,1],[.int .i64,.int .i64,.int .i64,.int .i64,.int .i64,.int .i64,.int .i64,kL,kK,kL,.int .i64,.int .i64,.int .i64,.int .i64,.int .i64,.int .i64,.int .i64,kL,kK,kL]⟩,⟨[.hole],[],[2],[.bool]⟩,1,[],[],false,false,fun (x:(Int×Int×Int×Int×Int×Int×Int×jQ×jR×jQ×Int×Int×Int×Int×Int×Int×Int×jQ×jR×jQ))=>wP x.1 x.2.1 x.2.2.1 x.2.2.2.1 x.2.2.2.2.1 x.2.2.2.2.2.1 x.2.2.2.2.2.2.1 x.2.2.2.2.2.2.2.1 x.2.2.2.2.2.2.2.2.1 x.2.2.2.2.2.2.2.2.2.1 x.2.2.2.2.2.2.2.2.2.2.1 x.2.2.2.2.2.2.2.2.2.2.2.1 x.2.2.2.2.2.2.2.2.2.2.2.2.1 x.2.2.2.2.2.2.2.2.2.2.2.2.2.1 x.2.2.2.2.2.2.2.2.2.2.2.2.2.2.1 x.2.2.2.2.2.2.2.2.2.2.2.2.2.2.2.1 x.2.2.2.2.2.2.2.2.2.2.2.2.2.2.2.2.1 x.2.2.2.2.2.2.2.2.2.2.2.2.2.2.2.2.2.1 x.2.2.2.2.2.2.2.2.2.2.2.2.2.2.2.2.2.2.1 x.2.2.2.2.2.2.2.2.2.2.2.2.2.2.2.2.2.2.2⟩
theorem zaD:SK 63 zcy:=yV .run [.tmp 4] ze zy zb Tryz.func63 ob0
def zct:ShC:=⟨⟨[.hole],[],[1],[.ns kI]⟩,⟨[(.view 0)],[.seq false],[2],[kJ]⟩,1,[],[],false,false,fun (x:(Option jI))=>Yo x⟩
theorem T5:SK 108 zct:=yV .run [.tmp 2] ze zy zb Tryz.func108 ob0
def zcB:ShC:=⟨⟨[.nilv],[],[],[]⟩,⟨[(.view 0)],[.seq false],[2],[kJ]⟩,1,[],[],false,false,fun (_:Unit)=>KO⟩
theorem zap:SK 108 zcB:=yV .run [.tmp 2] ze zy zb Tryz.func108 ob0
def IU:ShC:=⟨⟨[.hole],[],[1],[kJ]⟩,⟨[(.view 0)],[.seq false],[2],[kJ]⟩,1,[],[],false,false,fun (x:jI)=>zB x⟩
theorem Wx:SK 108 IU :=
 zaz zap T5 fun xs y h=>⟨h,fun e=>by subst e; exact h⟩
def R3:ShC:=⟨⟨[(.agg [.hole,.hole,.hole]),(.clo 108 [])],[],[1,1,1],[kL,kK,kL]⟩,⟨[(.agg [(.view 0),(.view 1),(.view 2)])],[.seq false,.seq false,.seq false],[2,2,2],[kL,kK,kL]⟩,1,[],[],false,false,fun (x:(jQ×jR×jQ))=>jW x.1 x.2.1 x.2.2⟩
theorem Ln:GD R3 [(108,.gen (qP [IU]))]:=(gd1 Wx zb)
def Ol:=tw tb gl Ln R3 Tryz.f107
theorem Sr:VK Ol:=zw ze Ln
def OQ:Un:=lpU 2 [52,53,54,11,55,56,57,58,59,60,61,62,63,64,65,66,67,51] ⟨[1,4,5,49,50,51],⟨[(.clo 108 []),(.ptr 0 0),(.ptr 1 0),.hole,.hole,.hole],[.cells true [.nilv,.nilv,.nilv],.cells false [(.view 2),(.view 3),(.view 4)],.seq false,.seq false,.seq false],[1,2,2,2,2,2],[kL,.int .i64,.int .i64,kL,kK,kL]⟩⟩ [((.exit 4),⟨[5],⟨[(.ptr 0 0)],[.cells false [(.view 1),(.view 2),(.view 3)],.seq false,.seq false,.seq false],[2,2,2],[kL,kK,kL]⟩⟩)] (lp xZ zd)
theorem HN:UK Ol (wD (zq Tryz.f107) [1,1,1,1,0,1,0]) OQ:=um .run zy Sr ob0
def Pu:Un:=lpU 2 [36,37,38,9,39,40,41,42,43,44,45,46,47,35] ⟨[1,2,4,5,33,34,35],⟨[(.clo 108 []),(.ptr 0 0),(.ptr 1 0),(.ptr 2 0),.hole,.hole,.hole],[.cells true [.hole,.hole,.hole],.cells true [.nilv,.nilv,.nilv],.cells false [(.view 3),(.view 4),.nilv],.seq false,.seq false],[1,2,2,1,1,1,2,2],[kK,.int .i64,.int .i64,kL,kK,kL,kL,kK]⟩⟩ [((.exit 2),⟨[5],⟨[(.ptr 0 0)],[.cells false [(.view 1),(.view 2),.nilv],.seq false,.seq false],[2,2],[kL,kK]⟩⟩)] (lp xY zd)
theorem Fc:UK Ol (wD (zq Tryz.f107) [1,1,1,0,1,0]) Pu:=um .run zy Sr ob0
def PG:Un:=lpU 2 [16,17,18,7,19,20,21,22,23,24,25,26,27,28,29,30,31,15] ⟨[1,2,4,5,13,14,15],⟨[(.clo 108 []),(.ptr 0 0),(.ptr 1 0),(.ptr 2 0),.hole,.hole,.hole],[.cells true [.hole,.hole,.hole],.cells true [.nilv,.nilv,.nilv],.cells false [(.view 3),.nilv,.nilv],.seq false],[1,2,2,1,1,1,2],[kL,.int .i64,.int .i64,kL,kK,kL,kL]⟩⟩ [((.exit 0),⟨[5],⟨[(.ptr 0 0)],[.cells false [(.view 1),.nilv,.nilv],.seq false],[2],[kL]⟩⟩)] (lp wh zd)
theorem LB:UK Ol (wD (zq Tryz.f107) [1,1,0,1,0]) PG:=um .run zy Sr ob0
theorem UF:SK 107 R3:=yV (.seq .run (.seq .run (.seq (.seq .run (.block (.unit PG))) (.seq (.seq .run (.block (.unit Pu))) (.seq (.seq .run (.block (.unit OQ))) .run))))) [.cell 4 28] ze zy Ln Tryz.func107 (ob1 LB (ob1 Fc (ob1 HN ob0)))
def zay:ShC:=⟨⟨[(.agg [.hole,.hole,.hole])],[],[1,1,1],[kL,kK,kL]⟩,⟨[(.agg [(.view 0),(.view 1),(.view 2)])],[.seq false,.seq false,.seq false],[2,2,2],[kL,kK,kL]⟩,1,[],[],false,false,fun (x:(jQ×jR×jQ))=>uF x.1 x.2.1 x.2.2⟩
theorem E0:SK 64 zay:=yV .run [.cell 2 28] ze zy (gd1 UF zb) Tryz.func64 ob0
def zcV:ShC:=⟨⟨[(.agg [.hole,.hole,.hole]),.hole],[],[1,1,1,1],[kL,kK,kL,.int .i64]⟩,⟨[.hole],[],[2],[.bool]⟩,1,[],[],false,false,fun (x:(jQ×jR×jQ×Int))=>u6 x.1 x.2.1 x.2.2.1 x.2.2.2⟩
theorem zb1:SK 158 zcV:=yV .run [.tmp 4] ze zy zb Tryz.func158 ob0
def zaV:ShC:=⟨⟨[.nilv,.hole],[],[1],[.int .i64]⟩,⟨[(.view 0)],[.seq false],[2],[kL]⟩,1,[],[],false,false,fun (x:Int)=>sO x⟩
theorem zas:SK 82 zaV:=yV .run [.tmp 4] ze zy (gd0 1000025 zb) Tryz.func82 ob0
def MM:ShC:=⟨⟨[.hole],[],[1],[.sl (.one kL)]⟩,⟨[(.view 0)],[.seq false],[0],[kL]⟩,1,[],[],true,false,fun (x:(List jQ))=>vX x⟩
theorem Fn:GD MM [(82,.gen (qP [zaV]))]:=(gd1 zas zb)
def RU:=tw tb gl Fn MM Tryz.f43
theorem zbX:VK RU:=zw ze Fn
def O4:Un:=lpU 2 [28,29,30,8,31,32,33,6,34,27] ⟨[6,25,26,27],⟨[(.view 0),.hole,.hole,.hole],[.seq false],[1,2,2,0],[.sl (.one kL),.int .i64,.int .i64,kL]⟩⟩ [((.exit 2),⟨[6],⟨[(.view 0)],[.seq false],[0],[kL]⟩⟩)] (lp xg zd)
theorem FH:UK RU (wD (zq Tryz.f43) [1,1,1,1,0,1,0]) O4:=um .run zy zbX ob0
def O3:Un:=lpU 2 [12,13,14,5,15,16,17,18,3,19,20,21,22,11] ⟨[0,3,9,10,11],⟨[.hole,.hole,.hole,.hole,.hole],[],[1,2,1,2,2],[.sl (.one kL),.int .i64,.sl (.one kL),.int .i64,.int .i64]⟩⟩ [((.exit 0),⟨[3],⟨[.hole],[],[2],[.int .i64]⟩⟩)] (lp xb zd)
theorem FU:UK RU (wD (zq Tryz.f43) [1,1,0,1,0]) O3:=um .run zy zbX ob0
theorem Pk:SK 43 MM:=yV (.seq .run (.seq .run (.seq (.seq .run (.block (.unit O3))) (.seq .run (.seq (.seq .run (.block (.unit O4))) .run))))) [.tmp 2] ze zy Fn Tryz.func43 (ob1 FU (ob1 FH ob0))
def zcu:ShC:=⟨⟨[.hole],[],[1],[.int .i64]⟩,⟨[.hole],[],[2],[.bool]⟩,1,[],[],false,false,fun (x:Int)=>Xt x⟩
theorem zaw:SK 181 zcu:=yV .run [.tmp 2] ze zy zb Tryz.func181 ob0
def Uz:ShC:=⟨⟨[.hole,.hole],[],[1,1],[.int .i64,.int .i64]⟩,⟨[.hole],[],[2],[.bool]⟩,1,[],[],false,false,fun (x:(Int×Int))=>WQ x.1 x.2⟩
theorem zaB:SK 135 Uz:=yV .run [.tmp 4] ze zy (gd1 zaw zb) Tryz.func135 ob0
def zal:ShC:=⟨⟨[.hole],[],[1],[.int .i64]⟩,⟨[.hole],[],[2],[.bool]⟩,1,[],[],false,false,fun (x:Int)=>sc x⟩
theorem zaa:SK 136 zal:=yV .run [.tmp 2] ze zy zb Tryz.func136 ob0
def N3:ShC:=⟨⟨[.hole,.hole],[],[1,1],[kJ,.int .i64]⟩,⟨[.hole,.hole],[],[2,2],[.int .i64,.bool]⟩,2,[],[],false,false,fun (x:(jI×Int))=>xR x.1 x.2⟩
theorem Hx:GD N3 [(135,.gen (qP [Uz])),(136,.gen (qP [zal]))]:=(gd1 zaB (gd1 zaa zb))
def UL:=tw tb gl Hx N3 Tryz.f83
theorem zc8:VK UL:=zw ze Hx
def P3:Un:=lpU 2 [13,14,15,16,17,18,19,20,21,9,22,23,24,25,26,27,28,29,7,30,8] ⟨[0,1,6,7,8],⟨[.hole,.hole,.hole,.hole,.hole],[],[1,2,2,2,2],[kJ,.int .i64,.int .i64,.int .i64,.int .i64]⟩⟩ [((.exit 0),⟨[7],⟨[.hole],[],[2],[.int .i64]⟩⟩)] (lp yQ zd)
theorem L9:UK UL (wD (zq Tryz.f83) [1,1,1,0,0]) P3:=um .run zy zc8 ob0
theorem UW:SK 83 N3:=yV (.seq .run (.seq .run (.seq .run (.seq (.block (.unit P3)) .run)))) [.tmp 4,.tmp 5] ze zy Hx Tryz.func83 (ob1 L9 ob0)
def KH:Go.Shelf.Ren:={ f:=fun x=>match x with | 21=>85 | 27=>137 | 28=>138 | 35=>182 | 39=>35 | n=>n,t:=fun x=>match x with | 22=>38 | 3=>3 | 4=>4 | 0=>0 | n=>n,g:=fun x=>x }
theorem XQ:Go.Proofs.Lays2.n21 Tryz.prog KH where
 mixed:=by kernel_rfl
 f21:=Tryz.func85.trans (by kernel_rfl)
 f27:=Tryz.func137.trans (by kernel_rfl)
 f28:=Tryz.func138.trans (by kernel_rfl)
 f35:=Tryz.func182.trans (by kernel_rfl)
 f39:=Tryz.func35.trans (by kernel_rfl)
 t0:=Tryz.underlying0
 a0:=Tryz.isAgg0
 z0:=Tryz.sizeOf0
 v0:=Tryz.zeroValue0
 t3:=Tryz.underlying3
 a3:=Tryz.isAgg3
 z3:=Tryz.sizeOf3
 v3:=Tryz.zeroValue3
 t4:=Tryz.underlying4
 a4:=Tryz.isAgg4
 z4:=Tryz.sizeOf4
 v4:=Tryz.zeroValue4
 t22:=Tryz.underlying38
 a22:=Tryz.isAgg38
 z22:=Tryz.sizeOf38
 v22:=Tryz.zeroValue38
 i3:=by kernel_rfl
def zbE:ShC:=insC
theorem TZ:SK 85 zbE :=
 Fo (code:=zq Tryz.f85) Tryz.func85 (by kernel_rfl) (by kernel_rfl) XQ rfl
def NQ:ShC:=⟨⟨[(.view 0),.hole],[.seq false],[1,1],[kJ,kJ]⟩,⟨[(.view 0)],[.seq false],[0],[kJ]⟩,1,[],[],true,false,fun (x:(jI×jI))=>uE x.1 x.2⟩
theorem Mb:GD NQ [(83,.gen (qP [N3])),(84,.gen (qP [RD])),(85,.gen (qP [zbE]))]:=(gd1 UW (gd1 Gp (gd1 TZ zb)))
def zaA:=tw tb gl Mb NQ Tryz.f44
theorem zdc:VK zaA:=zw ze Mb
def Oz:Un:=lpU 2 [12,13,14,6,15,16,18,19,20,21,17,22,23,7,8,24,25,26,27,28,29,30,31,0,32,11] ⟨[0,9,10,11],⟨[(.view 0),.hole,.hole,.hole],[.seq false],[1,2,2,0],[kJ,.int .i64,.int .i64,kJ]⟩⟩ [((.exit 0),⟨[0],⟨[(.view 0)],[.seq false],[0],[kJ]⟩⟩)] (lp vE zd)
theorem Hr:UK zaA (wD (zq Tryz.f44) [1,0,1,0]) Oz:=um .run zy zdc ob0
theorem UC:SK 44 NQ:=yV (.seq .run (.seq (.seq .run (.block (.unit Oz))) .run)) [.tmp 4] ze zy Mb Tryz.func44 (ob1 Hr ob0)
def SU:ShC:=⟨⟨[.hole,(.agg [.hole,.hole,.hole])],[],[1,1,1,1],[kM,kL,kK,kL]⟩,⟨[(.view 0),.hole],[.seq false],[2,0],[.int .i64,kJ]⟩,2,[],[],true,true,fun (x:(jS×jQ×jR×jQ))=>qr x.1 x.2.1 x.2.2.1 x.2.2.2⟩
theorem Fw:GD SU [(25,.gen (qP [N8])),(43,.gen (qP [MM])),(44,.gen (qP [NQ]))]:=(gdG Ya (gd1 Pk (gd1 UC zb)))
def Tg:=tw tb gl Fw SU Tryz.f22
theorem zbW:VK Tg:=zw ze Fw
def P4:Un:=lpU 2 [35,36,37,10,38,39,40,6,41,34] ⟨[6,32,33,34],⟨[(.view 0),.hole,.hole,.hole],[.seq false],[1,2,2,0],[kK,.int .i64,.int .i64,kJ]⟩⟩ [((.exit 2),⟨[6],⟨[(.view 0)],[.seq false],[0],[kJ]⟩⟩)] (lp vt zd)
theorem Ml:UK Tg (wD (zq Tryz.f22) [1,1,1,1,0,1,0]) P4:=um .run zy zbW ob0
def OR:Un:=lpU 2 [23,24,25,8,26,27,28,29,6,30,22] ⟨[3,6,20,21,22],⟨[(.ptr 0 0),(.view 1),.hole,.hole,.hole],[.cells true [.hole,.hole,.hole],.seq false],[0,2,2,1,1,1,0],[kL,.int .i64,.int .i64,kL,kK,kL,kJ]⟩⟩ [((.exit 0),⟨[6],⟨[(.view 0)],[.seq false],[0],[kJ]⟩⟩)] (lp vy zd)
theorem FS:UK Tg (wD (zq Tryz.f22) [1,1,1,0,1,0]) OR:=um .run zy zbW ob0
theorem Re:SK 22 SU:=yV (.seq .run (.seq .run (.seq .run (.seq (.seq .run (.block (.unit OR))) (.seq (.seq .run (.block (.unit P4))) .run))))) [.tmp 4,.tmp 5] ze zy Fw Tryz.func22 (ob1 FS (ob1 Ml ob0))
def Ny:ShC:=⟨⟨[.hole,(.ptr 0 0)],[.cells true [.hole]],[1,1],[kJ,.int .i64]⟩,⟨[(.view 0)],[.seq false],[2],[kJ]⟩,1,[],[],false,false,fun (x:(jI×Int))=>qn x.1 x.2⟩
theorem F4:GD Ny [(108,.gen (qP [IU]))]:=(gd1 Wx zb)
def Ux:=tw tb gl F4 Ny Tryz.f188
theorem zcm:VK Ux:=zw ze F4
def O2:Un:=lpU 2 [12,13,14,15,5,6,16,17,18,19,20,21,22,23,24,11] ⟨[1,4,9,10,11],⟨[(.ptr 0 0),(.view 1),(.view 1),.hole,.hole],[.cells true [.hole],.seq false],[2,2,2,2],[.int .i64,.int .i64,.int .i64,kJ]⟩⟩ [((.exit 0),⟨[4],⟨[(.view 0)],[.seq false],[2],[kJ]⟩⟩)] (lp qt zd)
theorem Hz:UK Ux (wD (zq Tryz.f188) [1,1,0,1,0]) O2:=um .run zy zcm ob0
theorem zaP:SK 188 Ny:=yV (.seq .run (.seq .run (.seq (.seq .run (.block (.unit O2))) .run))) [.tmp 3] ze zy F4 Tryz.func188 (ob1 Hz ob0)
def SR:ShC:=⟨⟨[(.agg [.hole,.hole,.hole]),(.clo 188 [(.ptr 0 0)])],[.cells true [.hole]],[1,1,1,1],[kL,kK,kL,.int .i64]⟩,⟨[(.agg [(.view 0),(.view 1),(.view 2)])],[.seq false,.seq false,.seq false],[2,2,2],[kL,kK,kL]⟩,1,[],[],false,false,fun (x:(jQ×jR×jQ×Int))=>j7 x.1 x.2.1 x.2.2.1 x.2.2.2⟩
theorem Lp:GD SR [(188,.gen (qP [Ny]))]:=(gd1 zaP zb)
def NI:=tw tb gl Lp SR Tryz.f107
theorem SF:VK NI:=zw ze Lp
def Rv:Un:=lpU 2 [52,53,54,11,55,56,57,58,59,60,61,62,63,64,65,66,67,51] ⟨[1,4,5,49,50,51],⟨[(.clo 188 [(.ptr 0 0)]),(.ptr 1 0),(.ptr 2 0),.hole,.hole,.hole],[.cells true [.hole],.cells true [.nilv,.nilv,.nilv],.cells false [(.view 3),(.view 4),(.view 5)],.seq false,.seq false,.seq false],[1,2,2,2,2,2,2],[kL,.int .i64,.int .i64,.int .i64,kL,kK,kL]⟩⟩ [((.exit 4),⟨[5],⟨[(.ptr 0 0)],[.cells false [(.view 1),(.view 2),(.view 3)],.seq false,.seq false,.seq false],[2,2,2],[kL,kK,kL]⟩⟩)] (lp wg zd)
theorem LV:UK NI (wD (zq Tryz.f107) [1,1,1,1,0,1,0]) Rv:=um .run zy SF ob0
def PU:Un:=lpU 2 [36,37,38,9,39,40,41,42,43,44,45,46,47,35] ⟨[1,2,4,5,33,34,35],⟨[(.clo 188 [(.ptr 0 0)]),(.ptr 1 0),(.ptr 2 0),(.ptr 3 0),.hole,.hole,.hole],[.cells true [.hole],.cells true [.hole,.hole,.hole],.cells true [.nilv,.nilv,.nilv],.cells false [(.view 4),(.view 5),.nilv],.seq false,.seq false],[1,2,2,2,1,1,1,2,2],[kK,.int .i64,.int .i64,.int .i64,kL,kK,kL,kL,kK]⟩⟩ [((.exit 2),⟨[5],⟨[(.ptr 0 0)],[.cells false [(.view 1),(.view 2),.nilv],.seq false,.seq false],[2,2],[kL,kK]⟩⟩)] (lp wc zd)
theorem Hp:UK NI (wD (zq Tryz.f107) [1,1,1,0,1,0]) PU:=um .run zy SF ob0
def PE:Un:=lpU 2 [16,17,18,7,19,20,21,22,23,24,25,26,27,28,29,30,31,15] ⟨[1,2,4,5,13,14,15],⟨[(.clo 188 [(.ptr 0 0)]),(.ptr 1 0),(.ptr 2 0),(.ptr 3 0),.hole,.hole,.hole],[.cells true [.hole],.cells true [.hole,.hole,.hole],.cells true [.nilv,.nilv,.nilv],.cells false [(.view 4),.nilv,.nilv],.seq false],[1,2,2,2,1,1,1,2],[kL,.int .i64,.int .i64,.int .i64,kL,kK,kL,kL]⟩⟩ [((.exit 0),⟨[5],⟨[(.ptr 0 0)],[.cells false [(.view 1),.nilv,.nilv],.seq false],[2],[kL]⟩⟩)] (lp xV zd)
theorem EZ:UK NI (wD (zq Tryz.f107) [1,1,0,1,0]) PE:=um .run zy SF ob0
theorem zbc:SK 107 SR:=yV (.seq .run (.seq .run (.seq (.seq .run (.block (.unit PE))) (.seq (.seq .run (.block (.unit PU))) (.seq (.seq .run (.block (.unit Rv))) .run))))) [.cell 4 28] ze zy Lp Tryz.func107 (ob1 EZ (ob1 Hp (ob1 LV ob0)))
def zcf:ShC:=⟨⟨[(.agg [.hole,.hole,.hole]),.hole],[],[1,1,1,1],[kL,kK,kL,.int .i64]⟩,⟨[(.agg [(.view 0),(.view 1),(.view 2)])],[.seq false,.seq false,.seq false],[2,2,2],[kL,kK,kL]⟩,1,[],[],false,false,fun (x:(jQ×jR×jQ×Int))=>zH x.1 x.2.1 x.2.2.1 x.2.2.2⟩
theorem P5:SK 148 zcf:=yV .run [.cell 4 28] ze zy (gd1 zbc zb) Tryz.func148 ob0
def zde:ShC:=⟨⟨[.hole,(.agg [.hole,.hole,.hole]),(.agg [.hole,.hole,.hole])],[],[1,1,1,1,1,1,1],[kM,kL,kK,kL,kL,kK,kL]⟩,⟨[(.agg [.hole,.hole,(.view 0)]),.hole],[.seq false],[2,2,2,2],[kL,kK,.bool,kL]⟩,2,[],[],false,true,fun (x:(jS×jQ×jR×jQ×jQ×jR×jQ))=>vj x.1 x.2.1 x.2.2.1 x.2.2.2.1 x.2.2.2.2.1 x.2.2.2.2.2.1 x.2.2.2.2.2.2⟩
theorem zbb:SK 97 zde:=yV .run [.cell 6 28,.tmp 7] ze zy (gdG Re (gd1 P5 zb)) Tryz.func97 ob0
def FI:ShC:=⟨⟨[.hole,.hole],[],[1,1],[kM,kJ]⟩,⟨[(.view 0)],[.seq false],[0],[kK]⟩,1,[],[],true,false,fun (x:(jS×jI))=>vR x.1 x.2⟩
theorem Fg:GD FI [(185,.gen (qP [DU]))]:=(gd1 Jw zb)
def zaI:=tw tb gl Fg FI Tryz.f199
theorem zcb:VK zaI:=zw ze Fg
def PM:Un:=lpU 2 [9,10,11,12,14,15,16,17,13,18,19,7,8,20,21,22,4,23,24,25,26,27,28,29,5,30,6] ⟨[0,1,5,6],⟨[.hole,.hole,(.view 0),.hole],[.seq false],[1,1,2,0],[kM,kJ,.int .i64,kK]⟩⟩ [((.exit 0),⟨[5],⟨[(.view 0)],[.seq false],[0],[kK]⟩⟩),(.ret,⟨[4],⟨[(.view 0)],[.seq false],[0],[kK]⟩⟩)] (lp ut zd)
theorem Fm:UK zaI (wD (zq Tryz.f199) [1,1,0,1,0]) PM:=um .run zy zcb ob0
theorem LT:SK 199 FI:=yV (.seq .run (.seq .run (.seq (.seq .run (.block (.unit PM))) .run))) [.tmp 4] ze zy Fg Tryz.func199 (ob1 Fm ob0)
def Nm:ShC:=⟨⟨[(.ptr 0 0),(.view 1),(.agg [.hole,.hole]),(.agg [.hole,.hole])],[.cells true [.hole,.hole],.seq false],[1,1,1,1,1,1,1],[kJ,.int .i64,kJ,.int .i64,kM,.ar (.cons (.ns kI) kI) 48,.sl (.cons kJ (.cons kZ (.cons kJ kI)))]⟩,⟨[(.view 0)],[.seq false],[0],[.sl (.cons kJ (.cons kZ (.cons kJ kI)))]⟩,1,[],[],true,false,fun (x:(jI×Int×jI×Int×jS×(List ((Option jI)×Int))×(List (jI×Int×jI×Int))))=>qE x.1 x.2.1 x.2.2.1 x.2.2.2.1 x.2.2.2.2.1 x.2.2.2.2.2.1 x.2.2.2.2.2.2⟩
theorem HJ:GD Nm [(199,.gen (qP [FI]))]:=(gd1 LT zb)
def Ua:=tw tb gl HJ Nm Tryz.f189
theorem zcd:VK Ua:=zw ze HJ
def Pv:Un:=lpU 2 [29,30,11,31,32,33,34,35,36,37,38,39,40,41,42,43,44,45,46,47,48,1,49,28] ⟨[1,6,7,9,10,27,28],⟨[(.view 0),(.ptr 1 0),(.ptr 2 0),.hole,.hole,.hole,.hole],[.seq false,.cells true [.hole,.hole],.cells true [.hole,.hole]],[0,0,2,2,0,1,2,1,2],[kK,kK,.int .i64,.int .i64,.sl (.cons kJ (.cons kZ (.cons kJ kI))),kJ,.int .i64,kJ,.int .i64]⟩⟩ [((.exit 0),⟨[1],⟨[(.view 0)],[.seq false],[0],[.sl (.cons kJ (.cons kZ (.cons kJ kI)))]⟩⟩)] (lp qy zd)
theorem Lk:UK Ua (wD (zq Tryz.f189) [1,1,0,1,0]) Pv:=um .run zy zcd ob0
theorem Um:SK 189 Nm:=yV (.seq .run (.seq .run (.seq (.seq .run (.block (.unit Pv))) .run))) [.tmp 8] ze zy HJ Tryz.func189 (ob1 Lk ob0)
def SP:ShC:=⟨⟨[(.agg [.hole,.hole]),.hole],[],[1,1,1],[kJ,.int .i64,.int .i64]⟩,⟨[.hole],[],[2],[.int .i64]⟩,1,[],[],false,false,fun (x:(jI×Int×Int))=>yK x.1 x.2.1 x.2.2⟩
theorem Ll:SK 192 SP:=yV .run [.tmp 4] ze zy (gd1 Gp zb) Tryz.func192 ob0
def Na:ShC:=⟨⟨[(.ptr 0 0),(.agg [.hole,.hole])],[.cells true [.hole,.hole]],[1,1,1,1],[kJ,.int .i64,kM,.ar (.cons (.ns kI) kI) 48]⟩,⟨[(.agg [.hole,.hole])],[],[1,2],[kJ,.int .i64]⟩,1,[],[],true,false,fun (x:(jI×Int×jS×(List ((Option jI)×Int))))=>wA x.1 x.2.1 x.2.2.1 x.2.2.2⟩
theorem FY:GD Na [(192,.gen (qP [SP]))]:=(gd1 Ll zb)
def zaZ:=tw tb gl FY Na Tryz.f190
theorem zcT:VK zaZ:=zw ze FY
def Ri:Un:=lpU 2 [6,7,8,9,10,11,12,13,14,15,16,17,18,19,20,21,5,22,23,24,25] ⟨[0,3,4],⟨[(.ptr 0 0),(.ptr 1 0),(.ptr 2 0)],[.cells true [.hole,.hole],.cells false [.hole,.hole],.cells true [.nilv,.hole]],[1,1,1,2,2],[kM,.ar (.cons (.ns kI) kI) 48,kJ,.int .i64,.int .i64]⟩⟩ [((.exit 0),⟨[3],⟨[(.ptr 0 0)],[.cells false [.hole,.hole]],[1,2],[kJ,.int .i64]⟩⟩)] (lp wQ zd)
theorem EL:UK zaZ (wD (zq Tryz.f190) [1,0,0]) Ri:=um .run zy zcT ob0
theorem zbp:SK 190 Na:=yV (.seq .run (.seq (.block (.unit Ri)) .run)) [.cell 4 181] ze zy FY Tryz.func190 (ob1 EL ob0)
def R4:ShC:=⟨⟨[(.ptr 0 0),.hole,(.agg [.hole,.hole])],[.cells true [.hole,.hole]],[1,1,1,1,1],[.int .i64,kJ,.int .i64,kM,.ar (.cons (.ns kI) kI) 48]⟩,⟨[.hole],[],[2],[.bool]⟩,1,[],[],false,false,fun (x:(Int×jI×Int×jS×(List ((Option jI)×Int))))=>uy x.1 x.2.1 x.2.2.1 x.2.2.2.1 x.2.2.2.2⟩
theorem L3:GD R4 [(192,.gen (qP [SP])),(1000027,.gen (qP []))]:=(gd1 Ll (gd0 1000027 zb))
def TA:=tw tb gl L3 R4 Tryz.f221
theorem zbP:VK TA:=zw ze L3
def Pb:Un:=lpU 2 [32,33,34,10,35,36,37,38,39,11,40,41,42,6,43,44,45,46,47,48,49,50,51,52,53,54,55,56,57,58,59,60,61,62,63,64,65,66,67,8,68,31] ⟨[0,1,5,7,8,29,30,31],⟨[(.ptr 0 0),.hole,(.ptr 1 0),(.aptr 2),(.view 3),.hole,.hole,.hole],[.cells true [.hole,.hole],.cells true [.hole,.hole],.seq false,.seq false],[2,0,2,2,1,1,0,2,2,0],[.int .i64,kJ,.int .i64,.int .i64,kM,.ar (.cons (.ns kI) kI) 48,kJ,.int .i64,.sl (.one .bool),.sl (.cons kJ kI)]⟩⟩ [((.exit 2),⟨[7,8],⟨[(.aptr 0),(.view 1)],[.seq false,.seq false],[2,0],[.sl (.one .bool),.sl (.cons kJ kI)]⟩⟩),(.ret,⟨[6],⟨[.hole],[],[2],[.bool]⟩⟩)] (lp qN zd)
theorem FG:UK TA (wD (zq Tryz.f221) [1,1,1,0,0,0,1,0,1,1,1,0]) Pb:=um .run zy zbP ob0
def Pg:Un:=lpU 2 [14,15,16,17,18,19,20,21,22,23,24,25,26,27,8,28,29,30,31,32,33,34,10,35,36,37,38,39,11,40,41,42,6,43,44,45,46,47,48,49,50,51,52,53,54,55,56,57,58,59,60,61,62,63,64,65,66,67,8,68,31] ⟨[0,1,5,7,8],⟨[(.ptr 0 0),.hole,(.ptr 1 0),(.aptr 2),(.view 3)],[.cells true [.hole,.hole],.cells false [.hole,.hole],.seq false,.seq false],[2,1,1,0,2,2,0],[.int .i64,kM,.ar (.cons (.ns kI) kI) 48,kJ,.int .i64,.sl (.one .bool),.sl (.cons kJ kI)]⟩⟩ [((.exit 0),⟨[],⟨[],[],[],[]⟩⟩),(.ret,⟨[6],⟨[.hole],[],[2],[.bool]⟩⟩)] (lp xQ zd)
theorem Fb:UK TA (wD (zq Tryz.f221) [1,1,1,0,0]) Pg:=um (.seq .run (.block (.seq .run (.seq .run (.seq .run (.block (.unit Pb))))))) zy zbP (ob1 FG ob0)
theorem zaX:SK 221 R4:=yV (.seq .run (.seq .run (.seq .run (.seq (.block (.unit Pg)) .run)))) [.tmp 6] ze zy L3 Tryz.func221 (ob1 Fb ob0)
def zbR:ShC:=⟨⟨[(.ptr 0 0),(.agg [.hole,.hole]),(.agg [.hole,.hole])],[.cells false [.hole,.hole]],[1,1,1,1,1,1],[kJ,.int .i64,kJ,.int .i64,kM,.ar (.cons (.ns kI) kI) 48]⟩,⟨[.hole,(.ptr 0 0)],[.cells false [.hole,.hole]],[2,1,0],[.bool,kM,.ar (.cons (.ns kI) kI) 48]⟩,1,[0],[(0,0)],true,false,fun (x:(jI×Int×jI×Int×jS×(List ((Option jI)×Int))))=>qp x.1 x.2.1 x.2.2.1 x.2.2.2.1 x.2.2.2.2.1 x.2.2.2.2.2⟩
theorem zaC:SK 191 zbR:=yV .run [.tmp 6] ze zy (gd1 Ll (gd1 zaX zb)) Tryz.func191 ob0
def Nb:ShC:=⟨⟨[(.ptr 0 0),(.agg [.hole,.hole]),(.agg [.hole,.hole])],[.cells false [.hole,.hole]],[1,1,1,1,1,1],[kJ,.int .i64,kJ,.int .i64,kM,.ar (.cons (.ns kI) kI) 48]⟩,⟨[.hole,(.ptr 0 0)],[.cells false [.hole,.hole]],[2,0,0],[.bool,kM,.ar (.cons (.ns kI) kI) 48]⟩,1,[0],[(0,0)],true,false,fun (x:(jI×Int×jI×Int×jS×(List ((Option jI)×Int))))=>wd x.1 x.2.1 x.2.2.1 x.2.2.2.1 x.2.2.2.2.1 x.2.2.2.2.2⟩
theorem L6:GD Nb [(189,.gen (qP [Nm])),(190,.gen (qP [Na])),(191,.gen (qP [zbR])),(1000039,.gen (qP []))]:=(gd1 Um (gd1 zbp (gd1 zaC (gd0 1000039 zb))))
def TI:=tw tb gl L6 Nb Tryz.f149
theorem zcs:VK TI:=zw ze L6
def Ra:Un:=scU TI [10,11,12,13,7,14,15,16,6,17,18,19,20,21,22,23,24,25,26,27,28,29,30,31,32,33,34,8,9,35,36,37,38,39,7,41,42,43,44,45,40,46,47,48,49,6,51,52,53,54,55,50,56,57,58,59,6,61,62,63,64,65,66,67,68,69,60,6,70,71,72,73,74,75,76,77,78,79,80,81,82,83,84,7] [(.goto 0,⟨[0,7],⟨[(.ptr 0 0),(.view 1)],[.cells false [.hole,.hole],.seq false],[0,0,0],[kM,.ar (.cons (.ns kI) kI) 48,.sl (.cons kJ (.cons kZ (.cons kJ kI)))]⟩⟩)] [(.ret,⟨[0,6],⟨[(.ptr 0 0),.hole],[.cells false [.hole,.hole]],[2,0,0],[.bool,kM,.ar (.cons (.ns kI) kI) 48]⟩⟩)] (BD (wD (zq Tryz.f149) [1])) .run (lp zt zd)
theorem Lm:UK TI (wD (zq Tryz.f149) [1]) Ra:=Uc [] zy zcs ob0 zaE
theorem US:SK 149 Nb:=yV (.seq .run (.unit Ra)) [.tmp 6] ze zy L6 Tryz.func149 (ob1 Lm ob0)
def za0:ShC:=⟨⟨[(.agg [.hole,.hole]),.hole],[],[1,1,1],[.ns kI,.int .i64,.int .i64]⟩,⟨[.hole],[],[2],[.int .i64]⟩,1,[],[],false,false,fun (x:((Option jI)×Int×Int))=>xn x.1 x.2.1 x.2.2⟩
theorem zaY:SK 192 za0:=yV .run [.tmp 4] ze zy (gd1 Gp zb) Tryz.func192 ob0
def G3 (k:Nat):ShC:=⟨⟨[(.ptr 0 0),(.agg [.hole,.hole])],[.cells true [.hole,.hole]],[1,1,1,1],[.ns kI,.int .i64,kM,.ar (.cons (.ns kI) kI) 48]⟩,⟨[.hole],[],[2],[.ns kI]⟩,1,[],[],false,false,(qG k)⟩
def U7:ShC:=⟨⟨[(.ptr 0 0),(.agg [.hole,.hole])],[.cells true [.hole,.hole]],[1,1,1,1],[.ns kI,.int .i64,kM,.ar (.cons (.ns kI) kI) 48]⟩,⟨[.hole],[],[2],[.ns kI]⟩,1,[],[],false,false,fun (x:((Option jI)×Int×jS×(List ((Option jI)×Int))))=>rB x.1 x.2.1 x.2.2.1 x.2.2.2⟩
def Vg (k:Nat):Prop:=SK 150 (G3 k)
def zbi (k:Nat):List (Nat×Con):=[(150,.gen (qP [G3 k])),(192,.gen (qP [za0]))]
theorem O5 (k:Nat) (h:Vg k):GD (G3 (k+1)) (zbi k):=(gd1 h (gd1 zaY zb))
def zan (k:Nat):Env:=Xp tb gl (zbi k) (G3 (k+1)) Tryz.f150.ntmps
theorem zc5 (k:Nat) (h:Vg k):VK (zan k):=zw ze (O5 k h)
def Pl (k:Nat):Un:=lpU 2 [13,14,15,7,16,17,8,18,19,20,21,22,23,24,25,26,27,28,29,30,31,32,33,34,35,36,37,38,39,40,41,8,42,43,44,45,46,47,48,49,50,51,4,52,53,54,5,55,12] ⟨[0,3,5,10,11,12],⟨[(.ptr 0 0),(.ptr 1 0),(.view 2),.hole,.hole,.hole],[.cells true [.hole,.hole],.cells true [.hole,.hole],.seq false],[1,2,2,1,1,1,2,2],[.ns kI,.int .i64,.int .i64,kM,.ar (.cons (.ns kI) kI) 48,.ns kI,.int .i64,kJ]⟩⟩ [((.exit 0),⟨[5],⟨[(.view 0)],[.seq false],[2],[kJ]⟩⟩),(.ret,⟨[4],⟨[.nilv],[],[],[]⟩⟩)] (lp (yI (qG k)) zd)
theorem EF (k:Nat) (h:Vg k):UK (zan k) (wD (zq Tryz.f150) [1,1,0,1,0]) (Pl k):=um .run zy (zc5 k h) ob0
theorem S5 (k:Nat) (h:Vg k):SK 150 (G3 (k+1)):=yV (.seq .run (.seq .run (.seq (.seq .run (.block (.unit (Pl k)))) .run))) [.tmp 4] ze zy (O5 k h) Tryz.func150 (ob1 (EF k h) ob0)
theorem Ik:∀ k,Vg k
 | 0=>RG (by kernel_rfl) fun _=>rfl
 | k+1=>have h:=Ik k; S5 k h
theorem UG:SK 150 U7:=(Ik zd)
def Sp:ShC:=⟨⟨[.hole,.hole,.hole],[],[1,1,1],[kM,kJ,kJ]⟩,⟨[(.view 0),.hole,.hole],[.seq false],[2,2,2],[.bool,.int .i64,.sl (.cons kZ kR)]⟩,3,[],[],false,true,fun (x:(jS×jI×jI))=>vQ x.1 x.2.1 x.2.2⟩
theorem HS:GD Sp [(92,.gen (qP [SG])),(108,.gen (qP [IU])),(149,.gen (qP [Nb])),(150,.gen (qP [U7]))]:=(gdG PA (gd1 Wx (gd1 US (gd1 UG zb))))
def zbO:=tw tb gl HS Sp Tryz.f98
theorem zdt:VK zbO:=zw ze HS
def PX:Un:=lpU 2 [51,52,15,53,54,55,56,57,58,59,60,61,62,63,64,65,66,67,68,16,69,70,6,7,8,71,72,73,74,75,76,77,14,78,50] ⟨[13,14,50],⟨[(.ptr 0 0),(.view 1),.hole],[.cells true [.hole,.hole],.seq false],[2,0,0,2],[.int .i64,kM,.ar (.cons (.ns kI) kI) 48,.sl (.cons kZ kR)]⟩⟩ [((.exit 0),⟨[14],⟨[(.view 0)],[.seq false],[2],[.sl (.cons kZ kR)]⟩⟩),(.ret,⟨[6,7,8],⟨[.nilv,.hole,.hole],[],[2,2],[.bool,.int .i64]⟩⟩)] (lp wr zd)
theorem Ft:UK zbO (wD (zq Tryz.f98) [1,1,1,1,1,1,1,0,1,0]) PX:=um .run zy zdt ob0
theorem AB:SK 98 Sp:=yV (.seq .run (.seq .run (.seq .run (.seq .run (.seq .run (.seq .run (.seq .run (.seq (.seq .run (.block (.unit PX))) .run)))))))) [.tmp 6,.tmp 7,.tmp 8] ze zy HS Tryz.func98 (ob1 Ft ob0)
def zbS:ShC:=⟨⟨[.nilv,.hole],[],[1],[.int .i64]⟩,⟨[(.view 0)],[.seq false],[2],[kK]⟩,1,[],[],false,false,fun (x:Int)=>ZB x⟩
theorem UM:SK 198 zbS:=yV .run [.tmp 4] ze zy (gd0 1000025 zb) Tryz.func198 ob0
def Og:ShC:=⟨⟨[.hole],[],[1],[.sl (.one kK)]⟩,⟨[(.view 0)],[.seq false],[0],[kK]⟩,1,[],[],true,false,fun (x:(List jR))=>sZ x⟩
theorem HP:GD Og [(198,.gen (qP [zbS]))]:=(gd1 UM zb)
def SE:=tw tb gl HP Og Tryz.f154
theorem Us:VK SE:=zw ze HP
def Pn:Un:=lpU 2 [28,29,30,8,31,32,33,6,34,27] ⟨[6,25,26,27],⟨[(.view 0),.hole,.hole,.hole],[.seq false],[1,2,2,0],[.sl (.one kK),.int .i64,.int .i64,kK]⟩⟩ [((.exit 2),⟨[6],⟨[(.view 0)],[.seq false],[0],[kK]⟩⟩)] (lp we zd)
theorem E8:UK SE (wD (zq Tryz.f154) [1,1,1,1,0,1,0]) Pn:=um .run zy Us ob0
def Rh:Un:=lpU 2 [12,13,14,5,15,16,17,18,3,19,20,21,22,11] ⟨[0,3,9,10,11],⟨[.hole,.hole,.hole,.hole,.hole],[],[1,2,1,2,2],[.sl (.one kK),.int .i64,.sl (.one kK),.int .i64,.int .i64]⟩⟩ [((.exit 0),⟨[3],⟨[.hole],[],[2],[.int .i64]⟩⟩)] (lp wa zd)
theorem F7:UK SE (wD (zq Tryz.f154) [1,1,0,1,0]) Rh:=um .run zy Us ob0
theorem zaO:SK 154 Og:=yV (.seq .run (.seq .run (.seq (.seq .run (.block (.unit Rh))) (.seq .run (.seq (.seq .run (.block (.unit Pn))) .run))))) [.tmp 2] ze zy HP Tryz.func154 (ob1 F7 (ob1 E8 ob0))
def Ta:ShC:=⟨⟨[(.agg [.hole,.hole,.hole]),.hole,(.agg [.hole,.hole,.hole]),.hole],[],[1,1,1,1,1,1,1,1],[kL,kK,kL,.int .i64,kL,kK,kL,.int .i64]⟩,⟨[(.agg [(.view 0),.hole,(.view 1)])],[.seq false,.seq false],[0,0,0],[kK,kL,kL]⟩,1,[],[],true,false,fun (x:(jQ×jR×jQ×Int×jQ×jR×jQ×Int))=>wZ x.1 x.2.1 x.2.2.1 x.2.2.2.1 x.2.2.2.2.1 x.2.2.2.2.2.1 x.2.2.2.2.2.2.1 x.2.2.2.2.2.2.2⟩
theorem Hw:GD Ta [(43,.gen (qP [MM])),(154,.gen (qP [Og]))]:=(gd1 Pk (gd1 zaO zb))
def Sy:=tw tb gl Hw Ta Tryz.f101
theorem zbH:VK Sy:=zw ze Hw
def P7:Un:=lpU 2 [49,50,51,52,13,12,53,54,55,56,57,58,59,60,61,62,48] ⟨[3,8,9,46,47,48],⟨[.hole,(.ptr 0 0),(.ptr 1 0),.hole,.hole,.hole],[.cells true [.nilv,.nilv,.nilv],.cells false [(.view 2),.hole,(.view 3)],.seq false,.seq false],[2,1,2,2,0,0,0],[.int .i64,kL,.int .i64,.int .i64,kK,kL,kL]⟩⟩ [((.exit 2),⟨[9],⟨[(.ptr 0 0)],[.cells false [(.view 1),.hole,(.view 2)],.seq false,.seq false],[0,0,0],[kK,kL,kL]⟩⟩)] (lp wG zd)
theorem LQ:UK Sy (wD (zq Tryz.f101) [1,1,1,0,1,0]) P7:=um .run zy zbH ob0
def Pf:Un:=lpU 2 [31,32,33,34,11,10,35,36,37,38,39,40,41,42,43,44,30] ⟨[1,3,6,8,9,28,29,30],⟨[.hole,.hole,(.ptr 0 0),(.ptr 1 0),(.ptr 2 0),.hole,.hole,.hole],[.cells true [.hole,.hole,.hole],.cells true [.nilv,.nilv,.nilv],.cells false [(.view 3),.hole,(.view 4)],.seq false,.seq false],[2,2,1,2,2,1,1,1,0,0,0],[.int .i64,.int .i64,kL,.int .i64,.int .i64,kL,kK,kL,kK,kL,kL]⟩⟩ [((.exit 0),⟨[9],⟨[(.ptr 0 0)],[.cells false [(.view 1),.hole,(.view 2)],.seq false,.seq false],[0,0,0],[kK,kL,kL]⟩⟩)] (lp wS zd)
theorem EY:UK Sy (wD (zq Tryz.f101) [1,1,0,1,0]) Pf:=um .run zy zbH ob0
theorem Il:SK 101 Ta:=yV (.seq .run (.seq .run (.seq (.seq .run (.block (.unit Pf))) (.seq (.seq .run (.block (.unit P7))) .run)))) [.cell 8 28] ze zy Hw Tryz.func101 (ob1 EY (ob1 LQ ob0))
def Np:ShC:=⟨⟨[.hole,.hole],[],[1,1],[.sl (.cons kZ kR),.int .i64]⟩,⟨[.hole],[],[0],[.ns kI]⟩,1,[],[],true,false,fun (x:((List (Int×jI))×Int))=>Yf x.1 x.2⟩
theorem LD:GD Np []:=zb
def zaT:=tw tb gl LD Np Tryz.f197
theorem zcO:VK zaT:=zw ze LD
def PB:Un:=lpU 2 [10,11,12,6,13,14,15,16,17,18,4,19,9] ⟨[1,7,8,9],⟨[.hole,.hole,.hole,.hole],[],[2,1,2,2],[.int .i64,.sl (.cons kZ kR),.int .i64,.int .i64]⟩⟩ [((.exit 0),⟨[],⟨[],[],[],[]⟩⟩),(.ret,⟨[4],⟨[.hole],[],[1],[kJ]⟩⟩)] (lp uS zd)
theorem Hn:UK zaT (wD (zq Tryz.f197) [1,0,1,0]) PB:=um .run zy zcO ob0
theorem UB:SK 197 Np:=yV (.seq .run (.seq (.seq .run (.block (.unit PB))) .run)) [.tmp 4] ze zy LD Tryz.func197 (ob1 Hn ob0)
def NS:ShC:=⟨⟨[.hole,.hole],[],[1,1],[.sl (.cons kZ kR),kJ]⟩,⟨[(.view 0)],[.seq false],[2],[kJ]⟩,1,[],[],false,false,fun (x:((List (Int×jI))×jI))=>Zt x.1 x.2⟩
theorem MI:GD NS [(84,.gen (qP [RD])),(197,.gen (qP [Np]))]:=(gd1 Gp (gd1 UB zb))
def za9:=tw tb gl MI NS Tryz.f153
theorem zcN:VK za9:=zw ze MI
def O1:Un:=lpU 2 [12,13,14,7,15,16,17,18,8,19,20,21,22,23,24,25,26,27,28,5,29,30,31,5,32,11] ⟨[0,5,9,10,11],⟨[.hole,(.view 0),.hole,.hole,.hole],[.seq false],[1,1,2,2,2],[.sl (.cons kZ kR),kJ,.int .i64,.int .i64,kJ]⟩⟩ [((.exit 0),⟨[5],⟨[(.view 0)],[.seq false],[2],[kJ]⟩⟩)] (lp rm zd)
theorem Fp:UK za9 (wD (zq Tryz.f153) [1,1,0,1,0]) O1:=um .run zy zcN ob0
theorem FV:SK 153 NS:=yV (.seq .run (.seq .run (.seq (.seq .run (.block (.unit O1))) .run))) [.tmp 4] ze zy MI Tryz.func153 (ob1 Fp ob0)
def za2:ShC:=⟨⟨[.hole,(.ptr 0 0)],[.cells true [.hole]],[1,1],[kJ,.sl (.cons kZ kR)]⟩,⟨[(.view 0)],[.seq false],[2],[kJ]⟩,1,[],[],false,false,fun (x:(jI×(List (Int×jI))))=>xp x.1 x.2⟩
theorem zaq:SK 152 za2:=yV .run [.tmp 3] ze zy (gd1 FV zb) Tryz.func152 ob0
def TK:ShC:=⟨⟨[(.agg [.hole,.hole,.hole]),(.clo 152 [(.ptr 0 0)])],[.cells true [.hole]],[1,1,1,1],[kL,kK,kL,.sl (.cons kZ kR)]⟩,⟨[(.agg [.hole,.hole,(.view 0)])],[.seq false],[2,2,2],[kL,kK,kL]⟩,1,[],[],false,false,fun (x:(jQ×jR×jQ×(List (Int×jI))))=>Qj x.1 x.2.1 x.2.2.1 x.2.2.2⟩
theorem My:GD TK [(152,.gen (qP [za2]))]:=(gd1 zaq zb)
def Oe:=tw tb gl My TK Tryz.f107
theorem Tl:VK Oe:=zw ze My
def Pp:Un:=lpU 2 [52,53,54,11,55,56,57,58,59,60,61,62,63,64,65,66,67,51] ⟨[1,4,5,49,50,51],⟨[(.clo 152 [(.ptr 0 0)]),(.ptr 1 0),(.ptr 2 0),.hole,.hole,.hole],[.cells true [.hole],.cells true [.nilv,.nilv,.nilv],.cells false [.hole,.hole,(.view 3)],.seq false],[1,2,2,1,2,2,2],[kL,.int .i64,.int .i64,.sl (.cons kZ kR),kL,kK,kL]⟩⟩ [((.exit 4),⟨[5],⟨[(.ptr 0 0)],[.cells false [.hole,.hole,(.view 1)],.seq false],[2,2,2],[kL,kK,kL]⟩⟩)] (lp vF zd)
theorem Fs:UK Oe (wD (zq Tryz.f107) [1,1,1,1,0,1,0]) Pp:=um .run zy Tl ob0
def OX:Un:=lpU 2 [36,37,38,9,39,40,41,42,43,44,45,46,47,35] ⟨[1,2,4,5,33,34,35],⟨[(.clo 152 [(.ptr 0 0)]),(.ptr 1 0),(.ptr 2 0),(.ptr 3 0),.hole,.hole,.hole],[.cells true [.hole],.cells true [.hole,.hole,.hole],.cells true [.nilv,.nilv,.nilv],.cells false [.hole,(.view 4),.nilv],.seq false],[1,2,2,1,1,1,1,2,2],[kK,.int .i64,.int .i64,.sl (.cons kZ kR),kL,kK,kL,kL,kK]⟩⟩ [((.exit 2),⟨[5],⟨[(.ptr 0 0)],[.cells false [.hole,(.view 1),.nilv],.seq false],[2,2],[kL,kK]⟩⟩)] (lp vA zd)
theorem EI:UK Oe (wD (zq Tryz.f107) [1,1,1,0,1,0]) OX:=um .run zy Tl ob0
def OV:Un:=lpU 2 [16,17,18,7,19,20,21,22,23,24,25,26,27,28,29,30,31,15] ⟨[1,2,4,5,13,14,15],⟨[(.clo 152 [(.ptr 0 0)]),(.ptr 1 0),(.ptr 2 0),(.ptr 3 0),.hole,.hole,.hole],[.cells true [.hole],.cells true [.hole,.hole,.hole],.cells true [.nilv,.nilv,.nilv],.cells false [(.view 4),.nilv,.nilv],.seq false],[1,2,2,1,1,1,1,2],[kL,.int .i64,.int .i64,.sl (.cons kZ kR),kL,kK,kL,kL]⟩⟩ [((.exit 0),⟨[5],⟨[(.ptr 0 0)],[.cells false [(.view 1),.nilv,.nilv],.seq false],[2],[kL]⟩⟩)] (lp vB zd)
theorem FQ:UK Oe (wD (zq Tryz.f107) [1,1,0,1,0]) OV:=um .run zy Tl ob0
theorem zbN:SK 107 TK:=yV (.seq .run (.seq .run (.seq (.seq .run (.block (.unit OV))) (.seq (.seq .run (.block (.unit OX))) (.seq (.seq .run (.block (.unit Pp))) .run))))) [.cell 4 28] ze zy My Tryz.func107 (ob1 FQ (ob1 EI (ob1 Fs ob0)))
def zc9:ShC:=⟨⟨[.hole,(.agg [.hole,.hole,.hole])],[],[1,1,1,1],[.sl (.cons kZ kR),kL,kK,kL]⟩,⟨[(.agg [.hole,.hole,(.view 0)])],[.seq false],[2,2,2],[kL,kK,kL]⟩,1,[],[],false,false,fun (x:((List (Int×jI))×jQ×jR×jQ))=>t6 x.1 x.2.1 x.2.2.1 x.2.2.2⟩
theorem Aa:SK 100 zc9:=yV .run [.cell 4 28] ze zy (gd1 zbN zb) Tryz.func100 ob0
def Fi:ShC:=⟨⟨[.hole,.hole],[],[1,1],[kJ,kJ]⟩,⟨[.hole],[],[2],[.bool]⟩,1,[],[],false,false,fun (x:(jI×jI))=>yJ x.1 x.2⟩
theorem MO:GD Fi []:=zb
def zbh:=tw tb gl MO Fi Tryz.f78
theorem zcD:VK zbh:=zw ze MO
def PV:Un:=lpU 2 [14,15,5,16,17,18,19,20,21,22,23,24,4,25,13] ⟨[0,1,12,13],⟨[.hole,.hole,.hole,.hole],[],[1,1,2,2],[kJ,kJ,.int .i64,.int .i64]⟩⟩ [((.exit 0),⟨[],⟨[],[],[],[]⟩⟩),(.ret,⟨[4],⟨[.hole],[],[2],[.bool]⟩⟩)] (lp wM zd)
theorem Fk:UK zbh (wD (zq Tryz.f78) [1,1,0,1,0]) PV:=um .run zy zcD ob0
theorem Da:SK 78 Fi:=yV (.seq .run (.seq .run (.seq (.seq .run (.block (.unit PV))) .run))) [.tmp 4] ze zy MO Tryz.func78 (ob1 Fk ob0)
def Uq:ShC:=⟨⟨[(.agg [.hole,.hole]),(.agg [.hole,.hole])],[],[1,1,1,1],[.bool,kJ,.bool,kJ]⟩,⟨[.hole],[],[2],[.bool]⟩,1,[],[],false,false,fun (x:(Bool×jI×Bool×jI))=>Y1 x.1 x.2.1 x.2.2.1 x.2.2.2⟩
theorem Rf:SK 76 Uq:=yV .run [.tmp 4] ze zy (gd1 Da zb) Tryz.func76 ob0
def zbA:ShC:=⟨⟨[(.agg [.hole,.hole]),(.ptr 0 0)],[.cells true [.hole,.hole]],[1,1,1,1],[.bool,kJ,.bool,kJ]⟩,⟨[.hole],[],[2],[.bool]⟩,1,[],[],false,false,fun (x:(Bool×jI×Bool×jI))=>tU x.1 x.2.1 x.2.2.1 x.2.2.2⟩
theorem Ub:SK 222 zbA:=yV .run [.tmp 3] ze zy (gd1 Rf zb) Tryz.func222 ob0
def Sw:ShC:=⟨⟨[.hole,(.clo 222 [(.ptr 0 0)])],[.cells true [.hole,.hole]],[1,1,1],[kL,.bool,kJ]⟩,⟨[.hole],[],[2],[.int .i64]⟩,1,[],[],false,false,fun (x:(jQ×Bool×jI))=>sM x.1 x.2.1 x.2.2⟩
theorem EA:GD Sw [(222,.gen (qP [zbA]))]:=(gd1 Ub zb)
def T3:=tw tb gl EA Sw Tryz.f146
theorem zcS:VK T3:=zw ze EA
def OA:Un:=lpU 2 [9,10,5,11,12,13,14,15,16,17,4,18,8] ⟨[0,1,7,8],⟨[.hole,(.clo 222 [(.ptr 0 0)]),.hole,.hole],[.cells true [.hole,.hole]],[1,2,2,2,1],[kL,.int .i64,.int .i64,.bool,kJ]⟩⟩ [((.exit 0),⟨[],⟨[],[],[],[]⟩⟩),(.ret,⟨[4],⟨[.hole],[],[2],[.int .i64]⟩⟩)] (lp qL zd)
theorem H6:UK T3 (wD (zq Tryz.f146) [1,0,1,0]) OA:=um .run zy zcS ob0
theorem zbz:SK 146 Sw:=yV (.seq .run (.seq (.seq .run (.block (.unit OA))) .run)) [.tmp 4] ze zy EA Tryz.func146 (ob1 H6 ob0)
def zam:ShC:=⟨⟨[.hole,(.clo 222 [(.ptr 0 0)])],[.cells true [.hole,.hole]],[1,1,1],[kL,.bool,kJ]⟩,⟨[.hole],[],[2],[.bool]⟩,1,[],[],false,false,fun (x:(jQ×Bool×jI))=>xF x.1 x.2.1 x.2.2⟩
theorem zb0:SK 93 zam:=yV .run [.tmp 4] ze zy (gd1 zbz zb) Tryz.func93 ob0
def ND:ShC:=⟨⟨[.hole],[],[1],[kL]⟩,⟨[(.view 0)],[.seq false],[0],[kL]⟩,1,[],[],true,false,fun (x:jQ)=>rE x⟩
theorem ER:GD ND [(93,.gen (qP [zam]))]:=(gd1 zb0 zb)
def UQ:=tw tb gl ER ND Tryz.f193
theorem zcG:VK UQ:=zw ze ER
def ON:Un:=lpU 2 [9,10,11,5,12,13,14,15,16,17,18,19,3,20,8] ⟨[3,6,7,8],⟨[(.view 0),.hole,.hole,.hole],[.seq false],[1,2,2,0],[kL,.int .i64,.int .i64,kL]⟩⟩ [((.exit 0),⟨[3],⟨[(.view 0)],[.seq false],[0],[kL]⟩⟩)] (lp vw zd)
theorem Fv:UK UQ (wD (zq Tryz.f193) [1,1,0,1,0]) ON:=um .run zy zcG ob0
theorem zbg:SK 193 ND:=yV (.seq .run (.seq .run (.seq (.seq .run (.block (.unit ON))) .run))) [.tmp 2] ze zy ER Tryz.func193 (ob1 Fv ob0)
def zbq:ShC:=⟨⟨[.hole,(.ptr 0 0)],[.cells true [.hole]],[1,1],[kJ,kJ]⟩,⟨[.hole],[],[2],[.bool]⟩,1,[],[],false,false,fun (x:(jI×jI))=>tY x.1 x.2⟩
theorem UA:SK 195 zbq:=yV .run [.tmp 3] ze zy (gd1 Da zb) Tryz.func195 ob0
def Tz:ShC:=⟨⟨[.hole,(.clo 195 [(.ptr 0 0)])],[.cells true [.hole]],[1,1],[kK,kJ]⟩,⟨[.hole],[],[2],[.int .i64]⟩,1,[],[],false,false,fun (x:(jR×jI))=>tt x.1 x.2⟩
theorem EB:GD Tz [(195,.gen (qP [zbq]))]:=(gd1 UA zb)
def Ur:=tw tb gl EB Tz Tryz.f223
theorem zcg:VK Ur:=zw ze EB
def Pd:Un:=lpU 2 [9,10,5,11,12,13,14,15,16,17,4,18,8] ⟨[0,1,7,8],⟨[.hole,(.clo 195 [(.ptr 0 0)]),.hole,.hole],[.cells true [.hole]],[1,2,2,1],[kK,.int .i64,.int .i64,kJ]⟩⟩ [((.exit 0),⟨[],⟨[],[],[],[]⟩⟩),(.ret,⟨[4],⟨[.hole],[],[2],[.int .i64]⟩⟩)] (lp qf zd)
theorem Mv:UK Ur (wD (zq Tryz.f223) [1,0,1,0]) Pd:=um .run zy zcg ob0
theorem Ug:SK 223 Tz:=yV (.seq .run (.seq (.seq .run (.block (.unit Pd))) .run)) [.tmp 4] ze zy EB Tryz.func223 (ob1 Mv ob0)
def Uk:ShC:=⟨⟨[.hole,(.clo 195 [(.ptr 0 0)])],[.cells true [.hole]],[1,1],[kK,kJ]⟩,⟨[.hole],[],[2],[.bool]⟩,1,[],[],false,false,fun (x:(jR×jI))=>qY x.1 x.2⟩
theorem zaL:SK 194 Uk:=yV .run [.tmp 4] ze zy (gd1 Ug zb) Tryz.func194 ob0
def Oh:ShC:=⟨⟨[.hole,(.aptr 0),(.ptr 1 0)],[.seq false,.cells false [.hole]],[1,1,1],[kJ,kJ,.int .i64]⟩,⟨[(.view 0),(.aptr 1),(.ptr 2 0)],[.seq false,.seq false,.cells false [.hole]],[2,0,2],[kJ,kJ,.int .i64]⟩,1,[1,2],[(0,1),(1,2)],true,false,fun (x:(jI×jI×Int))=>yU x.1 x.2.1 x.2.2⟩
theorem Lv:GD Oh [(84,.gen (qP [RD])),(108,.gen (qP [IU]))]:=(gd1 Gp (gd1 Wx zb))
def T6:=tw tb gl Lv Oh Tryz.f196
theorem zcP:VK T6:=zw ze Lv
def Ph:Un:=lpU 2 [13,14,15,16,6,7,17,18,19,20,21,22,23,24,25,26,27,28,29,30,31,32,33,34,35,36,37,38,12] ⟨[1,2,5,10,11,12],⟨[(.aptr 0),(.ptr 1 0),(.view 2),(.view 2),.hole,.hole],[.seq false,.cells false [.hole],.seq false],[2,2,0,2,2],[.int .i64,.int .i64,kJ,.int .i64,kJ]⟩⟩ [((.exit 0),⟨[1,2,5],⟨[(.aptr 0),(.ptr 1 0),(.view 2)],[.seq false,.cells false [.hole],.seq false],[0,2,2],[kJ,.int .i64,kJ]⟩⟩)] (lp yZ zd)
theorem HM:UK T6 (wD (zq Tryz.f196) [1,1,0,1,0]) Ph:=um .run zy zcP ob0
theorem zbe:SK 196 Oh:=yV (.seq .run (.seq .run (.seq (.seq .run (.block (.unit Ph))) .run))) [.tmp 4] ze zy Lv Tryz.func196 (ob1 HM ob0)
def Nt:ShC:=⟨⟨[(.agg [.hole,.hole,.hole]),(.clo 196 [(.aptr 0),(.ptr 1 0)])],[.seq false,.cells false [.hole]],[1,1,1,1,1],[kL,kK,kL,kJ,.int .i64]⟩,⟨[(.agg [.hole,.hole,(.view 0)]),(.clo 196 [(.aptr 1),(.ptr 2 0)])],[.seq false,.seq false,.cells false [.hole]],[2,2,2,0,2],[kL,kK,kL,kJ,.int .i64]⟩,1,[1],[(0,1),(1,2)],true,false,fun (x:(jQ×jR×jQ×jI×Int))=>Zw x.1 x.2.1 x.2.2.1 x.2.2.2.1 x.2.2.2.2⟩
theorem Lc:GD Nt [(196,.gen (qP [Oh]))]:=(gd1 zbe zb)
def Ou:=tw tb gl Lc Nt Tryz.f107
theorem Te:VK Ou:=zw ze Lc
def P6:Un:=lpU 2 [52,53,54,11,55,56,57,58,59,60,61,62,63,64,65,66,67,51] ⟨[1,4,5,49,50,51],⟨[(.clo 196 [(.aptr 0),(.ptr 1 0)]),(.ptr 2 0),(.ptr 3 0),.hole,.hole,.hole],[.seq false,.cells false [.hole],.cells true [.nilv,.nilv,.nilv],.cells false [.hole,.hole,(.view 4)],.seq false],[1,2,2,0,2,2,2,2],[kL,.int .i64,.int .i64,kJ,.int .i64,kL,kK,kL]⟩⟩ [((.exit 4),⟨[1,5],⟨[(.clo 196 [(.aptr 0),(.ptr 1 0)]),(.ptr 2 0)],[.seq false,.cells false [.hole],.cells false [.hole,.hole,(.view 3)],.seq false],[0,2,2,2,2],[kJ,.int .i64,kL,kK,kL]⟩⟩)] (lp xU zd)
theorem Mc:UK Ou (wD (zq Tryz.f107) [1,1,1,1,0,1,0]) P6:=um (.seq .run (.seq .run (.seq (.block (.seq .run (.hide [[8,9],[8,9],[8,9],[8,9],[],[],[],[],[],[],[],[],[]]))) .run))) zy Te ob0
def PZ:Un:=lpU 2 [36,37,38,9,39,40,41,42,43,44,45,46,47,35] ⟨[1,2,4,5,33,34,35],⟨[(.clo 196 [(.aptr 0),(.ptr 1 0)]),(.ptr 2 0),(.ptr 3 0),(.ptr 4 0),.hole,.hole,.hole],[.seq false,.cells false [.hole],.cells true [.hole,.hole,.hole],.cells true [.nilv,.nilv,.nilv],.cells false [.hole,(.view 5),.nilv],.seq false],[1,2,2,0,2,1,1,1,2,2],[kK,.int .i64,.int .i64,kJ,.int .i64,kL,kK,kL,kL,kK]⟩⟩ [((.exit 2),⟨[1,5],⟨[(.clo 196 [(.aptr 0),(.ptr 1 0)]),(.ptr 2 0)],[.seq false,.cells false [.hole],.cells false [.hole,(.view 3),.nilv],.seq false],[0,2,2,2],[kJ,.int .i64,kL,kK]⟩⟩)] (lp x9 zd)
theorem Mw:UK Ou (wD (zq Tryz.f107) [1,1,1,0,1,0]) PZ:=um (.seq .run (.seq .run (.seq (.block (.seq .run (.hide [[8,9],[8,9],[],[],[],[],[],[],[]]))) .run))) zy Te ob0
def P0:Un:=lpU 2 [16,17,18,7,19,20,21,22,23,24,25,26,27,28,29,30,31,15] ⟨[1,2,4,5,13,14,15],⟨[(.clo 196 [(.aptr 0),(.ptr 1 0)]),(.ptr 2 0),(.ptr 3 0),(.ptr 4 0),.hole,.hole,.hole],[.seq false,.cells false [.hole],.cells true [.hole,.hole,.hole],.cells true [.nilv,.nilv,.nilv],.cells false [(.view 5),.nilv,.nilv],.seq false],[1,2,2,0,2,1,1,1,2],[kL,.int .i64,.int .i64,kJ,.int .i64,kL,kK,kL,kL]⟩⟩ [((.exit 0),⟨[1,5],⟨[(.clo 196 [(.aptr 0),(.ptr 1 0)]),(.ptr 2 0)],[.seq false,.cells false [.hole],.cells false [(.view 3),.nilv,.nilv],.seq false],[0,2,2],[kJ,.int .i64,kL]⟩⟩)] (lp xX zd)
theorem EC:UK Ou (wD (zq Tryz.f107) [1,1,0,1,0]) P0:=um (.seq .run (.seq .run (.seq (.block (.seq .run (.hide [[8,9],[8,9],[8,9],[8,9],[],[],[],[],[],[],[],[],[]]))) .run))) zy Te ob0
theorem Uh:SK 107 Nt:=yV (.seq .run (.seq .run (.seq (.seq .run (.block (.unit P0))) (.seq (.seq .run (.block (.unit PZ))) (.seq (.seq .run (.block (.unit P6))) .run))))) [.cell 4 28] ze zy Lc Tryz.func107 (ob1 EC (ob1 Mw (ob1 Mc ob0)))
def Sg:ShC:=⟨⟨[(.agg [.hole,.hole,.hole])],[],[1,1,1],[kL,kK,kL]⟩,⟨[(.agg [.hole,.hole,(.view 0)])],[.seq false],[2,2,2],[kL,kK,kL]⟩,1,[],[],false,false,fun (x:(jQ×jR×jQ))=>Zz x.1 x.2.1 x.2.2⟩
theorem HL:GD Sg [(107,.gen (qP [Nt])),(193,.gen (qP [ND])),(194,.gen (qP [Uk]))]:=(gd1 Uh (gd1 zbg (gd1 zaL zb)))
def zbV:=tw tb gl HL Sg Tryz.f151
theorem zdo:VK zbV:=zw ze HL
def PS:Un:=lpU 2 [19,20,21,5,22,23,24,25,26,27,28,29,30,31,32,33,18] ⟨[2,3,16,17,18],⟨[(.ptr 0 0),(.ptr 1 0),.hole,.hole,.hole],[.cells true [.nilv,.nilv,.nilv],.cells false [.hole,(.view 2),.hole],.seq false],[1,2,2,0,0,0],[kK,.int .i64,.int .i64,kL,kL,kK]⟩⟩ [((.exit 0),⟨[3],⟨[(.ptr 0 0)],[.cells false [.hole,(.view 1),.hole],.seq false],[0,0,0],[kL,kL,kK]⟩⟩)] (lp vC zd)
theorem Ey:UK zbV (wD (zq Tryz.f151) [1,1,0,1,0]) PS:=um .run zy zdo ob0
theorem Up:SK 151 Sg:=yV (.seq .run (.seq .run (.seq (.seq .run (.block (.unit PS))) .run))) [.cell 2 28] ze zy HL Tryz.func151 (ob1 Ey ob0)
def T0:ShC:=⟨⟨[.hole,(.agg [.hole,.hole,.hole])],[],[1,1,1,1],[kM,kL,kK,kL]⟩,⟨[(.agg [.hole,.hole,(.view 0)]),.hole],[.seq false],[2,2,2,2],[kL,kK,.int .i64,kL]⟩,2,[],[],false,true,fun (x:(jS×jQ×jR×jQ))=>qQ x.1 x.2.1 x.2.2.1 x.2.2.2⟩
theorem W5:SK 99 T0:=yV .run [.cell 4 28,.tmp 5] ze zy (gdG Ya (gd1 Up zb)) Tryz.func99 ob0
def zc4:ShC:=⟨⟨[.hole,(.agg [.hole,.hole,.hole]),.hole,(.agg [.hole,.hole,.hole]),.hole],[],[1,1,1,1,1,1,1,1,1],[kM,kL,kK,kL,.int .i64,kL,kK,kL,.int .i64]⟩,⟨[(.agg [.hole,.hole,(.view 0)]),.hole,.hole],[.seq false],[2,2,2,2,2],[kL,kK,.bool,.int .i64,kL]⟩,3,[],[],false,true,fun (x:(jS×jQ×jR×jQ×Int×jQ×jR×jQ×Int))=>w8 x.1 x.2.1 x.2.2.1 x.2.2.2.1 x.2.2.2.2.1 x.2.2.2.2.2.1 x.2.2.2.2.2.2.1 x.2.2.2.2.2.2.2.1 x.2.2.2.2.2.2.2.2⟩
theorem zbk:SK 53 zc4:=yV .run [.cell 10 28,.tmp 11,.tmp 12] ze zy (gdG zbb (gdG AB (gdG W5 (gd1 Aa (gd1 Il zb))))) Tryz.func53 ob0
def zdr:ShC:=⟨⟨[.hole,(.agg [.hole,.hole,.hole]),.hole,(.agg [.hole,.hole,.hole]),.hole],[],[1,1,1,1,1,1,1,1,1],[kM,kL,kK,kL,.int .i64,kL,kK,kL,.int .i64]⟩,⟨[(.agg [.hole,.hole,(.view 0)]),.hole,.hole],[.seq false],[2,2,2,2,2],[kL,kK,.bool,.int .i64,kL]⟩,3,[],[],false,true,fun (x:(jS×jQ×jR×jQ×Int×jQ×jR×jQ×Int))=>kc x.1 x.2.1 x.2.2.1 x.2.2.2.1 x.2.2.2.2.1 x.2.2.2.2.2.1 x.2.2.2.2.2.2.1 x.2.2.2.2.2.2.2.1 x.2.2.2.2.2.2.2.2⟩
theorem za4:SK 109 zdr:=yV .run [.cell 10 28,.tmp 11,.tmp 12] ze zy (gdG Ya (gdG zbk (gd1 zb1 zb))) Tryz.func109 ob0
def zdf:ShC:=⟨⟨[(.agg [.hole,.hole,.hole]),.hole],[],[1,1,1,1],[kL,kK,kL,.int .i64]⟩,⟨[.hole],[],[2],[.bool]⟩,1,[],[],false,false,fun (x:(jQ×jR×jQ×Int))=>uU x.1 x.2.1 x.2.2.1 x.2.2.2⟩
theorem Pi:SK 159 zdf:=yV .run [.tmp 4] ze zy zb Tryz.func159 ob0
def zcj:ShC:=⟨⟨[.hole,(.agg [.hole,.hole,.hole]),.hole,.hole],[],[1,1,1,1,1,1],[kM,kL,kK,kL,.int .i64,.int .i64]⟩,⟨[(.agg [.hole,.hole,(.view 0)]),.hole,.hole],[.seq false],[2,2,2,2,2],[kL,kK,.bool,.int .i64,kL]⟩,3,[],[],false,true,fun (x:(jS×jQ×jR×jQ×Int×Int))=>jf x.1 x.2.1 x.2.2.1 x.2.2.2.1 x.2.2.2.2.1 x.2.2.2.2.2⟩
theorem zaQ:SK 56 zcj:=yV .run [.cell 8 28,.tmp 9,.tmp 10] ze zy (gdG AB (gdG W5 (gd1 Aa (gd1 Il zb)))) Tryz.func56 ob0
def zdp:ShC:=⟨⟨[.hole,(.agg [.hole,.hole,.hole]),.hole,.hole],[],[1,1,1,1,1,1],[kM,kL,kK,kL,.int .i64,.int .i64]⟩,⟨[(.agg [.hole,.hole,(.view 0)]),.hole,.hole],[.seq false],[2,2,2,2,2],[kL,kK,.bool,.int .i64,kL]⟩,3,[],[],false,true,fun (x:(jS×jQ×jR×jQ×Int×Int))=>YM x.1 x.2.1 x.2.2.1 x.2.2.2.1 x.2.2.2.2.1 x.2.2.2.2.2⟩
theorem zaM:SK 110 zdp:=yV .run [.cell 8 28,.tmp 9,.tmp 10] ze zy (gdG Ya (gdG zaQ (gd1 Pi zb))) Tryz.func110 ob0
def zcC:ShC:=⟨⟨[(.agg [.hole,.hole,.hole]),.hole,.hole],[],[1,1,1,1,1],[kL,kK,kL,.int .i64,.bool]⟩,⟨[.hole],[],[2],[.bool]⟩,1,[],[],false,false,fun (x:(jQ×jR×jQ×Int×Bool))=>u3 x.1 x.2.1 x.2.2.1 x.2.2.2.1 x.2.2.2.2⟩
theorem OP:SK 160 zcC:=yV .run [.tmp 6] ze zy zb Tryz.func160 ob0
def zdv:ShC:=⟨⟨[.hole,(.agg [.hole,.hole,.hole]),(.agg [.hole,.hole,.hole])],[],[1,1,1,1,1,1,1],[kM,kL,kK,kL,kL,kK,kL]⟩,⟨[(.agg [(.view 0),(.view 1),(.view 2)]),.hole],[.seq false,.seq false,.seq false],[2,2,2,2],[.bool,kL,kK,kL]⟩,2,[],[],false,true,fun (x:(jS×jQ×jR×jQ×jQ×jR×jQ))=>tj x.1 x.2.1 x.2.2.1 x.2.2.2.1 x.2.2.2.2.1 x.2.2.2.2.2.1 x.2.2.2.2.2.2⟩
theorem zbQ:SK 97 zdv:=yV .run [.cell 6 28,.tmp 7] ze zy (gdG Re (gd1 P5 zb)) Tryz.func97 ob0
def zag:ShC:=⟨⟨[.hole,.hole],[],[1,1],[kM,kJ]⟩,⟨[(.view 0)],[.seq false],[0],[kK]⟩,1,[],[],true,false,fun (x:(jS×jI))=>uc x.1 x.2⟩
theorem L7:SK 200 zag:=yV .run [.tmp 4] ze zy (gd1 LT zb) Tryz.func200 ob0
def zdn:ShC:=⟨⟨[.hole,.hole],[],[1,1],[kM,kJ]⟩,⟨[.hole],[],[2],[.bool]⟩,1,[],[],false,true,fun (x:(jS×jI))=>uI x.1 x.2⟩
theorem P9:SK 186 zdn:=yV .run [.tmp 4] ze zy (gdG HG zb) Tryz.func186 ob0
def Ox:ShC:=⟨⟨[.hole],[],[1],[kJ]⟩,⟨[.hole],[],[2],[.ar kI 24]⟩,1,[],[],false,false,fun (x:jI)=>rK x⟩
theorem FC:GD Ox [(84,.gen (qP [RD]))]:=(gd1 Gp zb)
def Uf:=tw tb gl FC Ox Tryz.f228
theorem zcJ:VK Uf:=zw ze FC
def OI:Un:=lpU 2 [8,9,10,4,11,12,13,14,15,16,17,18,19,7] ⟨[2,5,6,7],⟨[(.aptr 0),.hole,.hole,.hole],[.seq false],[1,2,2,2],[kJ,.int .i64,.int .i64,kJ]⟩⟩ [((.exit 0),⟨[2],⟨[(.aptr 0)],[.seq false],[2],[kJ]⟩⟩)] (lp vv zd)
theorem LY:UK Uf (wD (zq Tryz.f228) [1,0,1,0]) OI:=um .run zy zcJ ob0
theorem U4:SK 228 Ox:=yV (.seq .run (.seq (.seq .run (.block (.unit OI))) .run)) [.cell 2 218] ze zy FC Tryz.func228 (ob1 LY ob0)
def Oq:ShC:=⟨⟨[.hole,.hole],[],[1,1],[kJ,kJ]⟩,⟨[.hole],[],[2],[.bool]⟩,1,[],[],false,false,fun (x:(jI×jI))=>ky x.1 x.2⟩
theorem Ly:GD Oq [(228,.gen (qP [Ox]))]:=(gd1 U4 zb)
def zav:=tw tb gl Ly Oq Tryz.f218
theorem zcc:VK zav:=zw ze Ly
def Pm:Un:=lpU 2 [13,14,7,15,16,17,18,19,20,21,4,22,12] ⟨[5,6,12],⟨[(.aptr 0),(.aptr 1),.hole],[.seq false,.seq false],[2,2,2],[.int .i64,kJ,kJ]⟩⟩ [((.exit 0),⟨[],⟨[],[],[],[]⟩⟩),(.ret,⟨[4],⟨[.hole],[],[2],[.bool]⟩⟩)] (lp xD zd)
theorem Ex:UK zav (wD (zq Tryz.f218) [1,1,0,1,0]) Pm:=um .run zy zcc ob0
theorem zau:SK 218 Oq:=yV (.seq .run (.seq .run (.seq (.seq .run (.block (.unit Pm))) .run))) [.tmp 4] ze zy Ly Tryz.func218 (ob1 Ex ob0)
def N0:ShC:=⟨⟨[.hole,.hole],[],[1,1],[kM,kJ]⟩,⟨[.hole],[],[2],[.int .i64]⟩,1,[],[],false,false,fun (x:(jS×jI))=>Zr x.1 x.2⟩
theorem FJ:GD N0 []:=zb
def zaU:=tw tb gl FJ N0 Tryz.f219
theorem zc7:VK zaU:=zw ze FJ
def PQ:Un:=lpU 2 [11,12,13,7,14,15,16,17,5,18,19,20,21,22,23,24,5,25,10] ⟨[0,5,8,9,10],⟨[.hole,.hole,.hole,.hole,.hole],[],[1,2,1,2,2],[kM,.int .i64,kJ,.int .i64,.int .i64]⟩⟩ [((.exit 0),⟨[5],⟨[.hole],[],[2],[.int .i64]⟩⟩)] (lp tD zd)
theorem H5:UK zaU (wD (zq Tryz.f219) [1,1,0,1,0]) PQ:=um .run zy zc7 ob0
theorem TW:SK 219 N0:=yV (.seq .run (.seq .run (.seq (.seq .run (.block (.unit PQ))) .run))) [.tmp 4] ze zy FJ Tryz.func219 (ob1 H5 ob0)
def Oo:ShC:=⟨⟨[.hole,.hole,.hole],[],[1,1,1],[kM,kJ,kJ]⟩,⟨[.hole,.hole],[],[0,0],[kJ,kJ]⟩,2,[],[],true,false,fun (x:(jS×jI×jI))=>Yl x.1 x.2.1 x.2.2⟩
theorem MC:GD Oo [(78,.gen (qP [Fi])),(199,.gen (qP [FI]))]:=(gd1 Da (gd1 LT zb))
def za5:=tw tb gl MC Oo Tryz.f220
theorem zc1:VK za5:=zw ze MC
def OD:Un:=lpU 2 [19,20,21,22,9,10,23,24,25,26,27,28,29,30,31,32,33,34,35,36,37,38,39,40,6,7,41,18] ⟨[8,16,17,18],⟨[.hole,.hole,.hole,.hole],[],[0,0,2,2],[kK,kK,.int .i64,.int .i64]⟩⟩ [((.exit 0),⟨[],⟨[],[],[],[]⟩⟩),(.ret,⟨[6,7],⟨[.hole,.hole],[],[0,0],[kJ,kJ]⟩⟩)] (lp wJ zd)
theorem Mf:UK za5 (wD (zq Tryz.f220) [1,1,0,1,0]) OD:=um .run zy zc1 ob0
theorem zbf:SK 220 Oo:=yV (.seq .run (.seq .run (.seq (.seq .run (.block (.unit OD))) .run))) [.tmp 6,.tmp 7] ze zy MC Tryz.func220 (ob1 Mf ob0)
def RH:ShC:=⟨⟨[.hole,.hole,.hole],[],[1,1,1],[kM,kJ,kJ]⟩,⟨[.hole],[],[2],[.bool]⟩,1,[],[],false,false,fun (x:(jS×jI×jI))=>xy x.1 x.2.1 x.2.2⟩
theorem FW:GD RH [(218,.gen (qP [Oq])),(219,.gen (qP [N0])),(220,.gen (qP [Oo]))]:=(gd1 zau (gd1 TW (gd1 zbf zb)))
def Uy:=tw tb gl FW RH Tryz.f187
theorem zcE:VK Uy:=zw ze FW
def Px:Un:=lpU 2 [9,10,11,12,13,14,15,16,17,18,19,20,21,7,8,22,23,24,25,26,27,6,28,29,30,31,32,33,34,35,36,37,38,39,40,41,6,43,44,45,46,47,48,42,49,50,1,2] ⟨[0,1,2],⟨[.hole,.hole,.hole],[],[1,0,0],[kM,kJ,kJ]⟩⟩ [((.exit 0),⟨[],⟨[],[],[],[]⟩⟩),(.ret,⟨[6],⟨[.hole],[],[2],[.bool]⟩⟩)] (lp te zd)
theorem LF:UK Uy (wD (zq Tryz.f187) [1,0,0]) Px:=um .run zy zcE ob0
theorem zaN:SK 187 RH:=yV (.seq .run (.seq (.block (.unit Px)) .run)) [.tmp 6] ze zy FW Tryz.func187 (ob1 LF ob0)
def zcv:ShC:=⟨⟨[.hole,.hole,.hole],[],[1,1,1],[kM,kJ,kJ]⟩,⟨[.hole,.hole],[],[2,2],[.int .i64,.int .i64]⟩,2,[],[],false,true,fun (x:(jS×jI×jI))=>v9 x.1 x.2.1 x.2.2⟩
theorem OO:SK 147 zcv:=yV .run [.tmp 6,.tmp 7] ze zy (gd1 Da (gdG Rt (gdG P9 (gd1 zaN zb)))) Tryz.func147 ob0
def zcq:ShC:=⟨⟨[.hole,.hole,.hole],[],[1,1,1],[kM,kJ,kJ]⟩,⟨[.hole],[],[2],[.bool]⟩,1,[],[],false,true,fun (x:(jS×jI×jI))=>QA x.1 x.2.1 x.2.2⟩
theorem UV:SK 201 zcq:=yV .run [.tmp 6] ze zy (gdG OO zb) Tryz.func201 ob0
def Ue:ShC:=⟨⟨[.nilv,.hole],[],[1],[.int .i64]⟩,⟨[(.view 0)],[.seq false],[2],[kJ]⟩,1,[],[],false,false,fun (x:Int)=>sU x⟩
theorem UZ:SK 229 Ue:=yV .run [.tmp 4] ze zy (gd0 1000025 zb) Tryz.func229 ob0
def NV:ShC:=⟨⟨[.hole],[],[1],[kK]⟩,⟨[(.view 0)],[.seq false],[2],[kJ]⟩,1,[],[],false,false,fun (x:jR)=>wO x⟩
theorem EM:GD NV [(229,.gen (qP [Ue]))]:=(gd1 UZ zb)
def SB:=tw tb gl EM NV Tryz.f224
theorem Ud:VK SB:=zw ze EM
def P8:Un:=lpU 2 [28,29,30,8,31,32,33,6,34,27] ⟨[6,25,26,27],⟨[(.view 0),.hole,.hole,.hole],[.seq false],[1,2,2,2],[kK,.int .i64,.int .i64,kJ]⟩⟩ [((.exit 2),⟨[6],⟨[(.view 0)],[.seq false],[2],[kJ]⟩⟩)] (lp xf zd)
theorem F5:UK SB (wD (zq Tryz.f224) [1,1,1,1,0,1,0]) P8:=um .run zy Ud ob0
def Ps:Un:=lpU 2 [12,13,14,5,15,16,17,18,3,19,20,21,22,11] ⟨[0,3,9,10,11],⟨[.hole,.hole,.hole,.hole,.hole],[],[1,2,1,2,2],[kK,.int .i64,kK,.int .i64,.int .i64]⟩⟩ [((.exit 0),⟨[3],⟨[.hole],[],[2],[.int .i64]⟩⟩)] (lp xd zd)
theorem E7:UK SB (wD (zq Tryz.f224) [1,1,0,1,0]) Ps:=um .run zy Ud ob0
theorem OC:SK 224 NV:=yV (.seq .run (.seq .run (.seq (.seq .run (.block (.unit Ps))) (.seq .run (.seq (.seq .run (.block (.unit P8))) .run))))) [.tmp 2] ze zy EM Tryz.func224 (ob1 E7 (ob1 F5 ob0))
def zcw:ShC:=⟨⟨[.hole,.hole,.hole,.hole],[],[1,1,1,1],[kM,kJ,.int .i64,kJ]⟩,⟨[(.view 0)],[.seq false],[2],[kJ]⟩,1,[],[],false,false,fun (x:(jS×jI×Int×jI))=>Yn x.1 x.2.1 x.2.2.1 x.2.2.2⟩
theorem zbj:SK 202 zcw:=yV .run [.tmp 8] ze zy (gd1 Jw (gd1 OC zb)) Tryz.func202 ob0
def zcR:ShC:=⟨⟨[.hole,(.agg [.hole,.hole,.hole]),.hole,.hole,(.agg [.hole,.hole,.hole]),.hole,.hole],[],[1,1,1,1,1,1,1,1,1,1,1],[kM,kL,kK,kL,.int .i64,.int .i64,kL,kK,kL,.int .i64,.int .i64]⟩,⟨[(.agg [.hole,.hole,(.view 0)]),.hole,.hole],[.seq false],[2,2,2,2,2],[kL,kK,.bool,.int .i64,kL]⟩,3,[],[],false,true,fun (x:(jS×jQ×jR×jQ×Int×Int×jQ×jR×jQ×Int×Int))=>kn x.1 x.2.1 x.2.2.1 x.2.2.2.1 x.2.2.2.2.1 x.2.2.2.2.2.1 x.2.2.2.2.2.2.1 x.2.2.2.2.2.2.2.1 x.2.2.2.2.2.2.2.2.1 x.2.2.2.2.2.2.2.2.2.1 x.2.2.2.2.2.2.2.2.2.2⟩
theorem zby:SK 161 zcR:=yV .run [.cell 14 28,.tmp 15,.tmp 16] ze zy (gdG zbQ (gdG AB (gdG W5 (gd1 Aa (gd1 Il (gd1 FV (gd1 Jw (gd1 L7 (gdG UV (gd1 zbj zb)))))))))) Tryz.func161 ob0
def zc0:ShC:=⟨⟨[.hole,(.agg [.hole,.hole,.hole]),.hole,.hole,(.agg [.hole,.hole,.hole]),.hole,.hole],[],[1,1,1,1,1,1,1,1,1,1,1],[kM,kL,kK,kL,.int .i64,.int .i64,kL,kK,kL,.int .i64,.int .i64]⟩,⟨[(.agg [.hole,.hole,(.view 0)]),.hole,.hole],[.seq false],[2,2,2,2,2],[kL,kK,.bool,.int .i64,kL]⟩,3,[],[],false,true,fun (x:(jS×jQ×jR×jQ×Int×Int×jQ×jR×jQ×Int×Int))=>YK x.1 x.2.1 x.2.2.1 x.2.2.2.1 x.2.2.2.2.1 x.2.2.2.2.2.1 x.2.2.2.2.2.2.1 x.2.2.2.2.2.2.2.1 x.2.2.2.2.2.2.2.2.1 x.2.2.2.2.2.2.2.2.2.1 x.2.2.2.2.2.2.2.2.2.2⟩
theorem zbB:SK 111 zc0:=yV .run [.cell 14 28,.tmp 15,.tmp 16] ze zy (gdG Ya (gd1 OP (gdG zby zb))) Tryz.func111 ob0
def zco:ShC:=⟨⟨[.hole,(.agg [.hole,.hole,.hole]),.hole],[],[1,1,1,1,1],[kM,kL,kK,kL,.int .i64]⟩,⟨[(.agg [.hole,.hole,(.view 0)]),.hole,.hole],[.seq false],[2,2,2,2,2],[kL,kK,.bool,.int .i64,kL]⟩,3,[],[],false,true,fun (x:(jS×jQ×jR×jQ×Int))=>tF x.1 x.2.1 x.2.2.1 x.2.2.2.1 x.2.2.2.2⟩
theorem T8:SK 162 zco:=yV .run [.cell 6 28,.tmp 7,.tmp 8] ze zy (gdG AB (gdG W5 (gd1 Aa (gd1 Il (gd1 L7 zb))))) Tryz.func162 ob0
def zcM:ShC:=⟨⟨[.hole,(.agg [.hole,.hole,.hole]),.hole],[],[1,1,1,1,1],[kM,kL,kK,kL,.int .i64]⟩,⟨[(.agg [.hole,.hole,(.view 0)]),.hole,.hole],[.seq false],[2,2,2,2,2],[kL,kK,.bool,.int .i64,kL]⟩,3,[],[],false,true,fun (x:(jS×jQ×jR×jQ×Int))=>rH x.1 x.2.1 x.2.2.1 x.2.2.2.1 x.2.2.2.2⟩
theorem zbM:SK 112 zcM:=yV .run [.cell 6 28,.tmp 7,.tmp 8] ze zy (gdG Ya (gd1 OP (gdG T8 zb))) Tryz.func112 ob0
def zbv:ShC:=⟨⟨[(.agg [.hole,.hole,.hole])],[],[1,1,1],[kL,kK,kL]⟩,⟨[.hole],[],[2],[.bool]⟩,1,[],[],false,false,fun (x:(jQ×jR×jQ))=>rV x.1 x.2.1 x.2.2⟩
theorem PF:SK 163 zbv:=yV .run [.tmp 2] ze zy zb Tryz.func163 ob0
def AA:ShC:=⟨⟨[.hole,.hole],[],[1,1],[.ns kI,kJ]⟩,⟨[.hole],[],[2],[.bool]⟩,1,[],[],false,false,fun (x:((Option jI)×jI))=>wy x.1 x.2⟩
theorem Bm:GD AA []:=zb
def Ro:=tw tb gl Bm AA Tryz.f78
theorem zbm:VK Ro:=zw ze Bm
def HR:Un:=lpU 2 [14,15,5,16,17,18,19,20,21,22,23,24,4,25,13] ⟨[0,1,12,13],⟨[.hole,.hole,.hole,.hole],[],[1,1,2,2],[.ns kI,kJ,.int .i64,.int .i64]⟩⟩ [((.exit 0),⟨[],⟨[],[],[],[]⟩⟩),(.ret,⟨[4],⟨[.hole],[],[2],[.bool]⟩⟩)] (lp xz zd)
theorem Cf:UK Ro (wD (zq Tryz.f78) [1,1,0,1,0]) HR:=um .run zy zbm ob0
theorem Sv:SK 78 AA:=yV (.seq .run (.seq .run (.seq (.seq .run (.block (.unit HR))) .run))) [.tmp 4] ze zy Bm Tryz.func78 (ob1 Cf ob0)
def BX:ShC:=⟨⟨[(.aptr 0),.hole,.hole,.hole],[.seq false],[1,1,1,1],[kM,kJ,kJ,.sl (.one (.ns kI))]⟩,⟨[.hole,(.aptr 0)],[.seq false],[2,1],[.bool,.sl (.one (.ns kI))]⟩,1,[0],[(0,0)],true,false,fun (x:(jS×jI×jI×(List (Option jI))))=>qA x.1 x.2.1 x.2.2.1 x.2.2.2⟩
theorem DZ:GD BX [(78,.gen (qP [AA])),(84,.gen (qP [RD])),(185,.gen (qP [DU]))]:=(gd1 Sv (gd1 Gp (gd1 Jw zb)))
def PT:=tw tb gl DZ BX Tryz.f205
theorem zbx:VK PT:=zw ze DZ
def H7:Un:=lpU 2 [19,20,21,11,22,23,24,25,8,26,27,28,29,30,31,32,33,8,34,35,9,37,38,39,40,36,41,42,12,13,43,44,8,45,46,47,48,49,50,14,15,51,52,53,54,55,56,57,58,59,60,61,62,63,64,65,66,67,68,69,8,70,9,71,18] ⟨[0,1,3,9,16,17,18],⟨[(.aptr 0),.hole,.hole,.hole,.hole,.hole,.hole],[.seq false],[1,1,2,1,2,2,1],[kM,kJ,.int .i64,kJ,.int .i64,.int .i64,.sl (.one (.ns kI))]⟩⟩ [((.exit 0),⟨[0,9],⟨[(.aptr 0),.hole],[.seq false],[2,1],[.int .i64,.sl (.one (.ns kI))]⟩⟩),(.ret,⟨[0,8],⟨[(.aptr 0),.hole],[.seq false],[2,1],[.bool,.sl (.one (.ns kI))]⟩⟩)] (lp qI zd)
theorem CH:UK PT (wD (zq Tryz.f205) [1,1,0,1,0]) H7:=um .run zy zbx ob0
theorem Ma:SK 205 BX:=yV (.seq .run (.seq .run (.seq (.seq .run (.block (.unit H7))) .run))) [.tmp 8] ze zy DZ Tryz.func205 (ob1 CH ob0)
def Lf:ShC:=⟨⟨[(.agg [.hole,.hole]),(.ptr 0 0),(.ptr 1 0)],[.cells true [.hole,.hole],.cells true [.hole]],[1,1,1,1,1],[.bool,kJ,.bool,kJ,kM]⟩,⟨[.hole],[],[2],[.bool]⟩,1,[],[],false,false,fun (x:(Bool×jI×Bool×jI×jS))=>xj x.1 x.2.1 x.2.2.1 x.2.2.2.1 x.2.2.2.2⟩
theorem EJ:SK 204 Lf:=yV .run [.tmp 4] ze zy (gd1 Ma zb) Tryz.func204 ob0
def BP:ShC:=⟨⟨[.hole,(.clo 204 [(.ptr 0 0),(.ptr 1 0)])],[.cells true [.hole,.hole],.cells true [.hole]],[1,1,1,1],[kL,.bool,kJ,kM]⟩,⟨[.hole],[],[2],[.int .i64]⟩,1,[],[],false,false,fun (x:(jQ×Bool×jI×jS))=>uL x.1 x.2.1 x.2.2.1 x.2.2.2⟩
theorem DS:GD BP [(204,.gen (qP [Lf]))]:=(gd1 EJ zb)
def OW:=tw tb gl DS BP Tryz.f146
theorem UJ:VK OW:=zw ze DS
def LL:Un:=lpU 2 [9,10,5,11,12,13,14,15,16,17,4,18,8] ⟨[0,1,7,8],⟨[.hole,(.clo 204 [(.ptr 0 0),(.ptr 1 0)]),.hole,.hole],[.cells true [.hole,.hole],.cells true [.hole]],[1,2,2,2,1,1],[kL,.int .i64,.int .i64,.bool,kJ,kM]⟩⟩ [((.exit 0),⟨[],⟨[],[],[],[]⟩⟩),(.ret,⟨[4],⟨[.hole],[],[2],[.int .i64]⟩⟩)] (lp yN zd)
theorem Cy:UK OW (wD (zq Tryz.f146) [1,0,1,0]) LL:=um .run zy UJ ob0
theorem RJ:SK 146 BP:=yV (.seq .run (.seq (.seq .run (.block (.unit LL))) .run)) [.tmp 4] ze zy DS Tryz.func146 (ob1 Cy ob0)
def HB:ShC:=⟨⟨[(.view 0),(.clo 204 [(.ptr 1 0),(.ptr 2 0)])],[.seq false,.cells true [.hole,.hole],.cells true [.hole]],[1,1,1,1],[kL,.bool,kJ,kM]⟩,⟨[(.view 0)],[.seq false],[0],[kL]⟩,1,[],[],true,false,fun (x:(jQ×Bool×jI×jS))=>vh x.1 x.2.1 x.2.2.1 x.2.2.2⟩
theorem Dn:GD HB [(146,.gen (qP [BP])),(204,.gen (qP [Lf])),(1000041,.gen (qP []))]:=(gd1 RJ (gd1 EJ (gd0 1000041 zb)))
def OJ:=tw tb gl Dn HB Tryz.f203
theorem UO:VK OJ:=zw ze Dn
def Mh:Un:=lpU 2 [16,17,18,19,22,23,24,25,7,26,27,28,29,30,31,32,33,34,35,5,20,21,6] ⟨[0,1,5,6],⟨[(.view 0),(.clo 204 [(.ptr 1 0),(.ptr 2 0)]),.hole,.hole],[.seq false,.cells true [.hole,.hole],.cells true [.hole]],[2,2,0,2,1,1],[.int .i64,.int .i64,kL,.bool,kJ,kM]⟩⟩ [((.exit 0),⟨[0,5],⟨[(.view 0),.hole],[.seq false],[2,0],[.int .i64,kL]⟩⟩)] (lp yg zd)
theorem C0:UK OJ (wD (zq Tryz.f203) [1,1,1,0,1,0]) Mh:=um .run zy UO ob0
theorem Tp:SK 203 HB:=yV (.seq .run (.seq .run (.seq .run (.seq (.seq .run (.block (.unit Mh))) .run)))) [.tmp 4] ze zy Dn Tryz.func203 (ob1 C0 ob0)
def zbT:ShC:=⟨⟨[.hole,(.agg [.hole,.hole]),(.agg [.hole,.hole,.hole])],[],[1,1,1,1,1,1],[kM,.bool,kJ,kL,kK,kL]⟩,⟨[(.agg [.hole,.hole,(.view 0)]),.hole,.hole],[.seq false],[2,2,2,2,2],[kL,kK,.int .i64,.int .i64,kL]⟩,3,[],[],false,true,fun (x:(jS×Bool×jI×jQ×jR×jQ))=>WS x.1 x.2.1 x.2.2.1 x.2.2.2.1 x.2.2.2.2.1 x.2.2.2.2.2⟩
theorem Ti:SK 164 zbT:=yV (.seq .run (.seq .run (.seq .run (.seq .run (.seq .run (.seq (.hide [[],[32],[32],[32],[32],[32],[32],[32],[],[],[]]) .run)))))) [.cell 6 28,.tmp 7,.tmp 8] ze zy (gdG Ya (gd1 E0 (gdG Pj (gdG W5 (gd1 Tp zb))))) Tryz.func164 ob0
def Rs:ShC:=⟨⟨[.hole,.hole,.hole],[],[1,1,1],[kM,kJ,kJ]⟩,⟨[.hole],[],[2],[.bool]⟩,1,[],[],false,true,fun (x:(jS×jI×jI))=>sq x.1 x.2.1 x.2.2⟩
theorem Mu:SK 206 Rs:=yV .run [.tmp 6] ze zy (gdG OO zb) Tryz.func206 ob0
def LA:ShC:=⟨⟨[.hole,(.agg [.hole,.hole,.hole])],[],[1,1,1,1],[kM,kL,kK,kL]⟩,⟨[(.agg [(.view 0),(.view 1)]),.hole,.hole],[.seq false,.seq false],[2,2,2,2],[.bool,.int .i64,kJ,kJ]⟩,3,[],[],false,true,fun (x:(jS×jQ×jR×jQ))=>Q4 x.1 x.2.1 x.2.2.1 x.2.2.2⟩
theorem Bg:GD LA [(25,.gen (qP [N8])),(108,.gen (qP [IU])),(163,.gen (qP [zbv])),(200,.gen (qP [zag])),(206,.gen (qP [Rs]))]:=(gdG Ya (gd1 Wx (gd1 PF (gd1 L7 (gdG Mu zb)))))
def Rp:=tw tb gl Bg LA Tryz.f165
theorem UH:VK Rp:=zw ze Bg
def LG:Un:=lpU 2 [45,46,8,47,48,49,50,51,52,53,54,55,56,57,58,59,60,61,62,63,64,65,66,67,68,69,5,6,70,44] ⟨[0,4,7,43,44],⟨[.hole,(.ptr 0 0),.hole,.hole,.hole],[.cells false [.nilv,.nilv]],[1,0,2,2],[kM,kK,.int .i64,.int .i64]⟩⟩ [((.exit 0),⟨[4],⟨[(.ptr 0 0)],[.cells false [.nilv,.nilv]],[],[]⟩⟩),(.ret,⟨[4,5,6],⟨[(.ptr 0 0),.hole,.hole],[.cells false [(.view 1),(.view 2)],.seq false,.seq false],[2,2,2,2],[.bool,.int .i64,kJ,kJ]⟩⟩)] (lp t9 zd)
theorem A4:UK Rp (wD (zq Tryz.f165) [1,1,1,1,0,1,0]) LG:=um .run zy UH ob0
theorem Sq:SK 165 LA:=yV (.seq .run (.seq .run (.seq .run (.seq .run (.seq (.seq .run (.block (.unit LG))) .run))))) [.cell 4 160,.tmp 5,.tmp 6] ze zy Bg Tryz.func165 (ob1 A4 ob0)
def Rb:ShC:=⟨⟨[.hole,(.agg [.hole,.hole])],[],[1,1,1],[kM,kJ,kJ]⟩,⟨[.hole],[],[2],[.bool]⟩,1,[],[],false,true,fun (x:(jS×jI×jI))=>vW x.1 x.2.1 x.2.2⟩
theorem SZ:SK 207 Rb:=yV .run [.tmp 4] ze zy (gdG P9 (gdG Mu zb)) Tryz.func207 ob0
def Ab:ShC:=⟨⟨[(.aptr 0)],[.seq false],[1],[.sl (.one (.ns kI))]⟩,⟨[(.view 0),(.aptr 1)],[.seq false,.seq false],[2,1],[.sl (.cons kZ kR),.sl (.one (.ns kI))]⟩,1,[0],[(0,1)],true,false,fun (x:(List (Option jI)))=>vm x⟩
theorem Dt:GD Ab [(84,.gen (qP [RD])),(108,.gen (qP [IU]))]:=(gd1 Gp (gd1 Wx zb))
def Rc:=tw tb gl Dt Ab Tryz.f225
theorem UE:VK Rc:=zw ze Dt
def MF:Un:=lpU 2 [9,10,11,12,13,4,5,14,15,16,17,18,19,20,21,22,23,24,25,26,27,28,29,30,31,32,33,34,35,3,36,8] ⟨[0,3,6,8],⟨[(.aptr 0),(.view 1),(.aptr 0),.hole],[.seq false,.seq false],[2,1,2],[.int .i64,.sl (.one (.ns kI)),.sl (.cons kZ kR)]⟩⟩ [((.exit 0),⟨[0,3],⟨[(.aptr 0),(.view 1)],[.seq false,.seq false],[1,2],[.sl (.one (.ns kI)),.sl (.cons kZ kR)]⟩⟩)] (lp qM zd)
theorem CG:UK Rc (wD (zq Tryz.f225) [1,1,0,1,0]) MF:=um .run zy UE ob0
theorem RP:SK 225 Ab:=yV (.seq .run (.seq .run (.seq (.seq .run (.block (.unit MF))) .run))) [.tmp 2] ze zy Dt Tryz.func225 (ob1 CG ob0)
def BW:ShC:=⟨⟨[.hole,(.agg [.hole,.hole]),.hole],[],[1,1,1,1],[kM,kJ,kJ,kJ]⟩,⟨[.hole,.hole,.hole],[],[2,2,2],[kJ,.int .i64,.bool]⟩,3,[],[],false,false,fun (x:(jS×jI×jI×jI))=>kv x.1 x.2.1 x.2.2.1 x.2.2.2⟩
theorem BJ:GD BW [(108,.gen (qP [IU])),(153,.gen (qP [NS])),(185,.gen (qP [DU])),(205,.gen (qP [BX])),(224,.gen (qP [NV])),(225,.gen (qP [Ab]))]:=(gd1 Wx (gd1 FV (gd1 Jw (gd1 Ma (gd1 OC (gd1 RP zb))))))
def FN:=tw tb gl BJ BW Tryz.f208
theorem TY:VK FN:=zw ze BJ
def F8:Un:=scU FN [15,16,9,10,11,17,18,19,20,21,22,6,7,8,24,25,26,27,23,28,29,12,13,14,30,31,32,33,34,35,36,37,38,39,40,11,41,42,6,7,8,43,44,45,46,47,48,49,50,51,52,53,54,9,55,56,57,6,7,8,58,59,10,11] [(.goto 0,⟨[0,4,9,10,11],⟨[.hole,(.ptr 0 0),.hole,.hole,.hole],[.cells true [.hole,.hole]],[1,2,2,2,1,1],[kM,kJ,.int .i64,.int .i64,kJ,kJ]⟩⟩)] [(.ret,⟨[6,7,8],⟨[.hole,.hole,.hole],[],[2,2,2],[kJ,.int .i64,.bool]⟩⟩)] (BD (wD (zq Tryz.f208) [1])) (.seq .run (.seq .run (.seq .run (.seq .run (.seq .run (.seq .run (.seq .run (.seq .run (.seq (.hide [[184],[184],[184],[],[184],[184],[],[184],[184],[184],[],[],[]]) .run))))))))) (lp zI zd)
theorem CY:UK FN (wD (zq Tryz.f208) [1]) F8:=Uc [(0,(.seq .run (.seq .run (.seq .run (.seq .run (.seq .run (.seq .run (.seq (.hide [[113],[113],[113],[],[113],[113],[],[113],[113],[113],[],[],[]]) .run))))))))] zy TY ob0 (zdx ob0 zaE)
theorem RX:SK 208 BW:=yV (.seq .run (.unit F8)) [.tmp 6,.tmp 7,.tmp 8] ze zy BJ Tryz.func208 (ob1 CY ob0)
def HO:ShC:=⟨⟨[.hole,(.agg [.hole,.hole]),(.agg [.hole,.hole,.hole])],[],[1,1,1,1,1,1],[kM,kJ,kJ,kL,kK,kL]⟩,⟨[(.agg [.hole,.hole,(.view 0)]),.hole,.hole],[.seq false],[2,2,2,2,2],[kL,kK,.int .i64,.int .i64,kL]⟩,3,[],[],false,true,fun (x:(jS×jI×jI×jQ×jR×jQ))=>Zk x.1 x.2.1 x.2.2.1 x.2.2.2.1 x.2.2.2.2.1 x.2.2.2.2.2⟩
theorem Di:GD HO [(25,.gen (qP [N8])),(64,.gen (qP [zay])),(99,.gen (qP [T0])),(207,.gen (qP [Rb])),(208,.gen (qP [BW]))]:=(gdG Ya (gd1 E0 (gdG W5 (gdG SZ (gd1 RX zb)))))
def O6:=tw tb gl Di HO Tryz.f166
theorem UD:VK O6:=zw ze Di
def Fd:Un:=lpU 2 [35,36,37,38,12,11,40,41,42,43,44,45,39,46,47,48,13,14,15,49,50,51,7,8,52,53,54,55,56,57,58,59,60,61,62,63,64,65,66,10,67,34] ⟨[0,4,6,9,10,32,33,34],⟨[.hole,(.ptr 0 0),(.ptr 1 0),(.ptr 2 0),.hole,(.view 3),.hole,.hole],[.cells true [.hole,.hole],.cells false [.nilv,.nilv,.nilv],.cells false [(.view 3),.hole,.hole],.seq false],[1,2,2,2,1,1,2,2,2],[kM,.int .i64,.int .i64,.int .i64,kJ,kJ,kK,kL,kL]⟩⟩ [((.exit 0),⟨[6,9,10],⟨[(.ptr 0 0),(.ptr 1 0),.hole],[.cells false [.nilv,.nilv,.nilv],.cells false [(.view 2),.hole,.hole],.seq false],[2,2,2,2],[.int .i64,kK,kL,kL]⟩⟩),(.ret,⟨[6,7,8],⟨[(.ptr 0 0),.hole,.hole],[.cells false [.nilv,.nilv,.nilv]],[2,2],[.int .i64,.int .i64]⟩⟩)] (lp wv zd)
theorem Eg:UK O6 (wD (zq Tryz.f166) [1,1,1,0,1,0]) Fd:=um .run zy UD ob0
theorem SD:SK 166 HO:=yV (.seq .run (.seq .run (.seq .run (.seq (.seq .run (.block (.unit Fd))) .run)))) [.cell 6 28,.tmp 7,.tmp 8] ze zy Di Tryz.func166 (ob1 Eg ob0)
def zbK:ShC:=⟨⟨[.hole,.hole,(.agg [.hole,.hole,.hole]),(.agg [.hole,.hole,.hole])],[],[1,1,1,1,1,1,1,1],[kM,.int .i64,kL,kK,kL,kL,kK,kL]⟩,⟨[(.agg [.hole,.hole,(.view 0)]),.hole],[.seq false],[2,2,2,2],[kL,kK,.bool,kL]⟩,2,[],[],false,true,fun (x:(jS×Int×jQ×jR×jQ×jQ×jR×jQ))=>u5 x.1 x.2.1 x.2.2.1 x.2.2.2.1 x.2.2.2.2.1 x.2.2.2.2.2.1 x.2.2.2.2.2.2.1 x.2.2.2.2.2.2.2⟩
theorem Su:SK 113 zbK:=yV (.seq .run (.seq .run (.seq .run (.seq .run (.seq (.seq .run (.cond (.seq .run (.hide [[],[],[],[],[],[],[],[],[],[40],[40],[],[],[]])) .run)) .run))))) [.cell 8 28,.tmp 9] ze zy (gd1 PF (gdG Ti (gdG Sq (gdG SD zb)))) Tryz.func113 ob0
def T7:ShC:=⟨⟨[(.agg [.hole,.hole])],[],[1,1],[.bool,kJ]⟩,⟨[(.agg [.hole,(.view 0)])],[.seq false],[2,2],[.bool,kJ]⟩,1,[],[],false,false,fun (x:zc)=>Yy x.1 x.2⟩
theorem R0:SK 167 T7:=yV .run [.cell 2 61] ze zy (gd1 Wx zb) Tryz.func167 ob0
def zbF:ShC:=⟨⟨[.hole,(.agg [.hole,.hole,.hole]),.hole],[],[1,1,1,1,1],[kM,kL,kK,kL,.int .i64]⟩,⟨[(.agg [.hole,.hole,(.view 0)]),.hole],[.seq false],[2,2,2,2],[kL,kK,.int .i64,kL]⟩,2,[],[],false,true,fun (x:(jS×jQ×jR×jQ×Int))=>va x.1 x.2.1 x.2.2.1 x.2.2.2.1 x.2.2.2.2⟩
theorem R8:SK 114 zbF:=yV .run [.cell 6 28,.tmp 7] ze zy (gdG Ya (gdG W5 (gd1 Il (gd1 Pi (gd1 R0 zb))))) Tryz.func114 ob0
def zbl:ShC:=⟨⟨[.hole,(.agg [.hole,.hole,.hole,.hole,.hole,.hole,.hole,.hole,.hole,.hole]),(.agg [.hole,.hole,.hole]),(.agg [.hole,.hole,.hole])],[],[1,1,1,1,1,1,1,1,1,1,1,1,1,1,1,1,1],[kM,.int .i64,.int .i64,.int .i64,.int .i64,.int .i64,.int .i64,.int .i64,kL,kK,kL,kL,kK,kL,kL,kK,kL]⟩,⟨[(.agg [.hole,.hole,(.view 0)]),.hole],[.seq false],[2,2,2,2],[kL,kK,.bool,kL]⟩,2,[],[],false,true,fun (x:(jS×Int×Int×Int×Int×Int×Int×Int×jQ×jR×jQ×jQ×jR×jQ×jQ×jR×jQ))=>wI x.1 x.2.1 x.2.2.1 x.2.2.2.1 x.2.2.2.2.1 x.2.2.2.2.2.1 x.2.2.2.2.2.2.1 x.2.2.2.2.2.2.2.1 x.2.2.2.2.2.2.2.2.1 x.2.2.2.2.2.2.2.2.2.1 x.2.2.2.2.2.2.2.2.2.2.1 x.2.2.2.2.2.2.2.2.2.2.2.1 x.2.2.2.2.2.2.2.2.2.2.2.2.1 x.2.2.2.2.2.2.2.2.2.2.2.2.2.1 x.2.2.2.2.2.2.2.2.2.2.2.2.2.2.1 x.2.2.2.2.2.2.2.2.2.2.2.2.2.2.2.1 x.2.2.2.2.2.2.2.2.2.2.2.2.2.2.2.2⟩
theorem SO:SK 65 zbl:=yV .run [.cell 8 28,.tmp 9] ze zy (gdG za4 (gdG zaM (gdG zbB (gdG zbM (gdG Su (gdG R8 zb)))))) Tryz.func65 ob0
def OM:ShC:=⟨⟨[.hole,.hole,.hole],[],[1,1,1],[kM,.sl (.cons kZ (.cons kZ (.cons kZ (.cons kZ (.cons kZ (.cons kZ (.cons kZ (.cons kL (.cons kK (.one kL)))))))))),.int .i64]⟩,⟨[(.agg [.hole,.hole,(.view 0)]),.hole],[.seq false],[2,2,2,2],[kL,kK,.bool,kL]⟩,2,[],[],false,true,fun (x:(jS×jT×Int))=>rx x.1 x.2.1 x.2.2⟩
theorem HX:SK 30 OM:=yV .run [.cell 6 28,.tmp 7] ze zy (gd1 zaR (gd1 zaD (gd1 E0 (gdG SO zb)))) Tryz.func30 ob0
def zax:ShC:=⟨⟨[.hole,.hole,.hole],[],[1,1,1],[kM,.sl (.cons kZ (.cons kZ (.cons kZ (.cons kZ (.cons kZ (.cons kZ (.cons kZ (.cons kL (.cons kK (.one kL)))))))))),.int .i64]⟩,⟨[(.agg [.hole,.hole,(.view 0)]),.hole,.hole],[.seq false],[2,2,2,2,2],[kL,kK,.bool,.int .i64,kL]⟩,3,[],[],false,true,fun (x:(jS×jT×Int))=>Xz x.1 x.2.1 x.2.2⟩
theorem Tv:SK 9 zax:=yV .run [.cell 6 28,.tmp 7,.tmp 8] ze zy (gdG LP (gdG HX zb)) Tryz.func9 ob0
def HC:ShC:=⟨⟨[.hole,.hole,(.clo 76 [])],[],[1,1],[kL,kL]⟩,⟨[.hole],[],[2],[.bool]⟩,1,[],[],false,false,fun (x:(jQ×jQ))=>vp x.1 x.2⟩
theorem Bb:GD HC [(76,.gen (qP [Uq]))]:=(gd1 Rf zb)
def OF:=tw tb gl Bb HC Tryz.f75
theorem zaf:VK OF:=zw ze Bb
def Mq:Un:=lpU 2 [18,19,20,21,8,7,22,23,24,25,9,26,27,28,29,30,6,31,17] ⟨[1,2,15,16,17],⟨[.hole,(.clo 76 []),.hole,.hole,.hole],[],[1,1,2,2],[kL,kL,.int .i64,.int .i64]⟩⟩ [((.exit 0),⟨[],⟨[],[],[],[]⟩⟩),(.ret,⟨[6],⟨[.hole],[],[2],[.bool]⟩⟩)] (lp qK zd)
theorem CB:UK OF (wD (zq Tryz.f75) [1,1,0,1,0]) Mq:=um .run zy zaf ob0
theorem Se:SK 75 HC:=yV (.seq .run (.seq .run (.seq (.seq .run (.block (.unit Mq))) .run))) [.tmp 6] ze zy Bb Tryz.func75 (ob1 CB ob0)
def Ht:ShC:=⟨⟨[.hole,.hole,(.clo 78 [])],[],[1,1],[kK,kK]⟩,⟨[.hole],[],[2],[.bool]⟩,1,[],[],false,false,fun (x:(jR×jR))=>vK x.1 x.2⟩
theorem Dj:GD Ht [(78,.gen (qP [Fi]))]:=(gd1 Da zb)
def OU:=tw tb gl Dj Ht Tryz.f77
theorem zao:VK OU:=zw ze Dj
def Lw:Un:=lpU 2 [18,19,20,21,7,8,22,23,24,25,9,26,27,28,29,30,6,31,17] ⟨[1,2,15,16,17],⟨[.hole,(.clo 78 []),.hole,.hole,.hole],[],[1,1,2,2],[kK,kK,.int .i64,.int .i64]⟩⟩ [((.exit 0),⟨[],⟨[],[],[],[]⟩⟩),(.ret,⟨[6],⟨[.hole],[],[2],[.bool]⟩⟩)] (lp y8 zd)
theorem Em:UK OU (wD (zq Tryz.f77) [1,1,0,1,0]) Lw:=um .run zy zao ob0
theorem RK:SK 77 Ht:=yV (.seq .run (.seq .run (.seq (.seq .run (.block (.unit Lw))) .run))) [.tmp 6] ze zy Dj Tryz.func77 (ob1 Em ob0)
def PN:ShC:=⟨⟨[(.agg [.hole,.hole,.hole]),(.agg [.hole,.hole,.hole])],[],[1,1,1,1,1,1],[kL,kK,kL,kL,kK,kL]⟩,⟨[.hole],[],[2],[.bool]⟩,1,[],[],false,false,fun (x:(jQ×jR×jQ×jQ×jR×jQ))=>Zy x.1 x.2.1 x.2.2.1 x.2.2.2.1 x.2.2.2.2.1 x.2.2.2.2.2⟩
theorem SI:SK 33 PN:=yV .run [.tmp 4] ze zy (gd1 Se (gd1 RK zb)) Tryz.func33 ob0
def AE:ShC:=⟨⟨[.hole,.hole],[],[1,1],[kM,.sl (.cons kZ (.cons kZ (.cons kZ (.cons kZ (.cons kZ (.cons kZ (.cons kZ (.cons kL (.cons kK (.one kL))))))))))]⟩,⟨[.hole,.hole],[],[2,2],[.int .i64,.int .i64]⟩,2,[],[],false,true,fun (x:(jS×jT))=>xI x.1 x.2⟩
theorem DJ:GD AE [(29,.gen (qP [R9])),(30,.gen (qP [OM])),(33,.gen (qP [PN]))]:=(gdG LP (gdG HX (gd1 SI zb)))
def O7:=tw tb gl DJ AE Tryz.f11
theorem zbJ:VK O7:=zw ze DJ
def ET:Un:=lpU 2 [16,17,6,19,20,21,22,18,23,24,7,8,25,26,27,28,29,30,31,32,33,34,35,36,37,4,5,38,15] ⟨[0,1,14,15],⟨[.hole,.hole,.hole,.hole],[],[1,1,2,2],[kM,.sl (.cons kZ (.cons kZ (.cons kZ (.cons kZ (.cons kZ (.cons kZ (.cons kZ (.cons kL (.cons kK (.one kL)))))))))),.int .i64,.int .i64]⟩⟩ [((.exit 0),⟨[],⟨[],[],[],[]⟩⟩),(.ret,⟨[4,5],⟨[.hole,.hole],[],[2,2],[.int .i64,.int .i64]⟩⟩)] (lp xw zd)
theorem CK:UK O7 (wD (zq Tryz.f11) [1,1,0,1,0]) ET:=um .run zy zbJ ob0
theorem EG:SK 11 AE:=yV (.seq .run (.seq .run (.seq (.seq .run (.block (.unit ET))) .run))) [.tmp 4,.tmp 5] ze zy DJ Tryz.func11 (ob1 CK ob0)
def Ac:ShC:=⟨⟨[(.view 0)],[.seq false],[1],[kJ]⟩,⟨[(.view 0)],[.seq false],[0],[kJ]⟩,0,[0],[(0,0)],true,false,fun (x:jI)=>xv x⟩
theorem D7:GD Ac []:=zb
def OT:=tw tb gl D7 Ac Tryz.f35
theorem zbG:VK OT:=zw ze D7
def FZ:Un:=lpU 2 [7,8,9,14,15,16,17,18,19,20,21,22,23,24,25,26,27,10,11,12,13,2,3] ⟨[0,2,3],⟨[(.view 0),.hole,.hole],[.seq false],[2,2,0],[.int .i64,.int .i64,kJ]⟩⟩ [((.exit 0),⟨[0],⟨[(.view 0)],[.seq false],[0],[kJ]⟩⟩)] (lp yz zd)
theorem C7:UK OT (wD (zq Tryz.f35) [1,0]) FZ:=um (.seq .run (.seq (.block (.hide [[],[],[8],[8],[],[],[],[],[],[],[],[],[],[],[],[]])) .run)) zy zbG ob0
theorem Tk:SK 35 Ac:=yV (.seq .run (.block (.unit FZ))) [] ze zy D7 Tryz.func35 (ob1 C7 ob0)
def Ai:ShC:=⟨⟨[.hole,.hole,.hole],[],[1,1,1],[kM,.sl (.cons kZ (.cons kZ (.cons kZ (.cons kZ (.cons kZ (.cons kZ (.cons kZ (.cons kL (.cons kK (.one kL)))))))))),.int .i64]⟩,⟨[(.view 0),.hole],[.seq false],[2,2],[.int .i64,kJ]⟩,2,[],[],false,true,fun (x:(jS×jT×Int))=>jx x.1 x.2.1 x.2.2⟩
theorem D4:GD Ai [(29,.gen (qP [R9])),(35,.gen (qP [Ac]))]:=(gdG LP (gd1 Tk zb))
def Gz:=tw tb gl D4 Ai Tryz.f13
theorem EV:VK Gz:=zw ze D4
def Hv:Un:=lpU 2 [55,56,57,12,58,59,60,61,62,63,64,65,66,67,68,54] ⟨[1,8,10,52,53,54],⟨[.hole,(.view 0),.hole,.hole,.hole,.hole],[.seq false],[1,2,2,2,2,2],[.sl (.cons kZ (.cons kZ (.cons kZ (.cons kZ (.cons kZ (.cons kZ (.cons kZ (.cons kL (.cons kK (.one kL)))))))))),.int .i64,kJ,.int .i64,.int .i64,.sl (.one .bool)]⟩⟩ [((.exit 0),⟨[8],⟨[(.view 0)],[.seq false],[2],[.sl (.one .bool)]⟩⟩)] (lp w9 zd)
theorem CE:UK Gz (wD (Ju (wD (zq Tryz.f13) [1,0]) 0) [1,0,1,0,1,1,0]) Hv:=um .run zy EV ob0
def Lu:Un:=lpU 2 [55,56,57,12,58,59,60,61,62,63,64,65,66,67,68,54] ⟨[1,8,10,52,53,54],⟨[.hole,(.view 0),.hole,.hole,.hole,.hole],[.seq false],[1,2,2,2,2,2],[.sl (.cons kZ (.cons kZ (.cons kZ (.cons kZ (.cons kZ (.cons kZ (.cons kZ (.cons kL (.cons kK (.one kL)))))))))),.int .i64,kJ,.int .i64,.int .i64,.sl (.one .bool)]⟩⟩ [((.exit 0),⟨[8],⟨[(.view 0)],[.seq false],[2],[.sl (.one .bool)]⟩⟩)] (lp ve zd)
theorem Cp:UK Gz (wD (zq Tryz.f13) [1,0,1,1,1,1,1,1,0,1,0,1,1,0]) Lu:=um .run zy EV ob0
def Ff:Un:=scU Gz [13,14,15,16,17,18,19,20,21,22,23,24,25,26,6,7,27,28,29,8,30,31,32,9,33,10,34,35,36,37,38,39,40,41,9,42,43,44,45,46,47,48,49,50,51,52,53,54,55,56,57,12,58,59,60,61,62,63,64,65,66,67,68,54,69,70,10,71,72,73,74,75,6,7] [(.goto 0,⟨[1,8,9,10],⟨[.hole,(.view 0),(.view 1),.hole],[.seq false,.seq false],[1,2,2,2],[.sl (.cons kZ (.cons kZ (.cons kZ (.cons kZ (.cons kZ (.cons kZ (.cons kZ (.cons kL (.cons kK (.one kL)))))))))),.int .i64,.sl (.one .bool),kJ]⟩⟩)] [(.ret,⟨[6,7],⟨[(.view 0),.hole],[.seq false],[2,2],[.int .i64,kJ]⟩⟩)] (BD (wD (zq Tryz.f13) [1])) (.seq .run (.seq .run (.seq .run (.seq .run (.seq .run (.seq .run (.seq (.seq .run (.cond (.seq .run (.seq .run (.block (.unit Lu)))) .run)) .run))))))) (lp vi zd)
theorem Ep:UK Gz (wD (zq Tryz.f13) [1]) Ff:=Uc [(0,(.seq .run (.seq (.seq .run (.cond (.seq .run (.seq .run (.block (.unit Hv)))) .run)) .run)))] zy EV (ob1 Cp ob0) (zdx (ob1 CE ob0) zaE)
theorem Mk:SK 13 Ai:=yV (.seq .run (.unit Ff)) [.tmp 6,.tmp 7] ze zy D4 Tryz.func13 (ob1 Ep ob0)
def PC:ShC:=⟨⟨[.hole],[],[1],[.int .i64]⟩,⟨[.hole],[],[2],[.int .i64]⟩,1,[],[],false,false,fun (x:Int)=>uf x⟩
theorem LN:SK 16 PC:=yV .run [.tmp 2] ze zy zb Tryz.func16 ob0
def IJ:ShC:=⟨⟨[.hole,.hole],[],[1,1],[kJ,kJ]⟩,⟨[.hole],[],[2],[.bool]⟩,1,[],[],false,false,fun (x:(jI×jI))=>wj x.1 x.2⟩
theorem DG:GD IJ []:=zb
def Rg:=tw tb gl DG IJ Tryz.f17
theorem zbu:VK Rg:=zw ze DG
def HK:Un:=lpU 2 [11,12,13,14,17,18,19,20,21,22,23,24,25,4,15,16,5] ⟨[0,1,5],⟨[.hole,.hole,.hole],[],[1,1,2],[kJ,kJ,.int .i64]⟩⟩ [((.exit 0),⟨[],⟨[],[],[],[]⟩⟩),(.ret,⟨[4],⟨[.hole],[],[2],[.bool]⟩⟩)] (lp wb zd)
theorem CO:UK Rg (wD (zq Tryz.f17) [1,1,0,1,0]) HK:=um .run zy zbu ob0
theorem Bp:SK 17 IJ:=yV (.seq .run (.seq .run (.seq (.seq .run (.block (.unit HK))) .run))) [.tmp 4] ze zy DG Tryz.func17 (ob1 CO ob0)
def Hd:ShC:=⟨⟨[.hole,.hole],[],[1,1],[kL,kL]⟩,⟨[.hole],[],[2],[.bool]⟩,1,[],[],false,false,fun (x:(jQ×jQ))=>tl x.1 x.2⟩
theorem Bn:GD Hd [(17,.gen (qP [IJ]))]:=(gd1 Bp zb)
def P2:=tw tb gl Bn Hd Tryz.f36
theorem zac:VK P2:=zw ze Bn
def MH:Un:=lpU 2 [11,12,13,14,17,18,19,20,21,22,23,24,25,26,27,28,29,30,31,32,33,34,35,36,37,38,39,40,41,4,15,16,5] ⟨[0,1,5],⟨[.hole,.hole,.hole],[],[1,1,2],[kL,kL,.int .i64]⟩⟩ [((.exit 0),⟨[],⟨[],[],[],[]⟩⟩),(.ret,⟨[4],⟨[.hole],[],[2],[.bool]⟩⟩)] (lp x5 zd)
theorem C9:UK P2 (wD (zq Tryz.f36) [1,1,0,1,0]) MH:=um .run zy zac ob0
theorem SH:SK 36 Hd:=yV (.seq .run (.seq .run (.seq (.seq .run (.block (.unit MH))) .run))) [.tmp 4] ze zy Bn Tryz.func36 (ob1 C9 ob0)
def HZ:ShC:=⟨⟨[.hole,.hole],[],[1,1],[kK,kK]⟩,⟨[.hole],[],[2],[.bool]⟩,1,[],[],false,false,fun (x:(jR×jR))=>sP x.1 x.2⟩
theorem Bq:GD HZ [(17,.gen (qP [IJ]))]:=(gd1 Bp zb)
def Rm:=tw tb gl Bq HZ Tryz.f37
theorem za8:VK Rm:=zw ze Bq
def Hc:Un:=lpU 2 [11,12,13,14,17,18,19,20,21,22,23,24,25,26,4,15,16,5] ⟨[0,1,5],⟨[.hole,.hole,.hole],[],[1,1,2],[kK,kK,.int .i64]⟩⟩ [((.exit 0),⟨[],⟨[],[],[],[]⟩⟩),(.ret,⟨[4],⟨[.hole],[],[2],[.bool]⟩⟩)] (lp xW zd)
theorem CX:UK Rm (wD (zq Tryz.f37) [1,1,0,1,0]) Hc:=um .run zy za8 ob0
theorem S6:SK 37 HZ:=yV (.seq .run (.seq .run (.seq (.seq .run (.block (.unit Hc))) .run))) [.tmp 4] ze zy Bq Tryz.func37 (ob1 CX ob0)
def Uv:ShC:=⟨⟨[(.agg [.hole,.hole,.hole]),(.agg [.hole,.hole,.hole])],[],[1,1,1,1,1,1],[kL,kK,kL,kL,kK,kL]⟩,⟨[.hole],[],[2],[.bool]⟩,1,[],[],false,false,fun (x:(jQ×jR×jQ×jQ×jR×jQ))=>wN x.1 x.2.1 x.2.2.1 x.2.2.2.1 x.2.2.2.2.1 x.2.2.2.2.2⟩
theorem RM:SK 15 Uv:=yV .run [.tmp 4] ze zy (gd1 SH (gd1 S6 zb)) Tryz.func15 ob0
def OZ:ShC:=⟨⟨[],[],[],[]⟩,⟨[.hole],[],[2],[.bool]⟩,1,[],[],false,true,fun (_:Unit)=>QM⟩
theorem SC:SK 20 OZ:=yV .run [.tmp 0] ze zy (gdG Tv (gdG EG (gdG Mk (gd1 RM (gd1 LN (gd1 Bp (gd1 zdj (gd1 zcn zb)))))))) Tryz.func20 ob0
def Ay:ShC:=⟨⟨[.hole,.hole,.hole],[],[1,1,1],[kM,.sl (.cons kZ (.cons kZ (.cons kZ (.cons kZ (.cons kZ (.cons kZ (.cons kZ (.cons kL (.cons kK (.one kL)))))))))),.int .i64]⟩,⟨[.hole],[],[2],[.bool]⟩,1,[],[],false,true,fun (x:(jS×jT×Int))=>xH x.1 x.2.1 x.2.2⟩
theorem Br:GD Ay [(11,.gen (qP [AE])),(13,.gen (qP [Ai])),(16,.gen (qP [PC])),(20,.gen (qP [OZ]))]:=(gdG EG (gdG Mk (gd1 LN (gdG SC zb))))
def Pa:=tw tb gl Br Ay Tryz.f6
theorem zbY:VK Pa:=zw ze Br
def LI:Un:=lpU 2 [73,74,75,76,79,80,81,82,83,84,85,86,87,88,89,90,91,92,93,94,95,96,97,98,99,100,101,102,103,104,105,106,107,108,6,109,110,111,112,113,114,115,15,116,117,118,119,120,121,122,123,124,125,126,127,6,128,129,130,131,132,133,134,135,136,137,138,139,140,141,142,143,144,145,146,147,148,149,150,151,152,153,154,155,156,13,77,78,14] ⟨[0,1,10,12,13,14],⟨[.hole,.hole,.hole,(.view 0),(.view 1),.hole],[.seq false,.seq false],[1,1,2,2,2,0],[kM,.sl (.cons kZ (.cons kZ (.cons kZ (.cons kZ (.cons kZ (.cons kZ (.cons kZ (.cons kL (.cons kK (.one kL)))))))))),kJ,.int .i64,kJ,.sl (.cons kZ (.cons kZ (.cons kZ (.cons kZ (.cons kZ (.cons kZ (.cons kZ (.cons kL (.cons kK (.one kL))))))))))]⟩⟩ [((.exit 0),⟨[13],⟨[(.view 0)],[.seq false],[0],[.sl (.cons kZ (.cons kZ (.cons kZ (.cons kZ (.cons kZ (.cons kZ (.cons kZ (.cons kL (.cons kK (.one kL))))))))))]⟩⟩),(.ret,⟨[6],⟨[.hole],[],[2],[.bool]⟩⟩)] (lp xc zd)
theorem Ch:UK Pa (wD (zq Tryz.f6) [1,1,1,1,1,1,1,1,1,0,1,0]) LI:=um .run zy zbY ob0
theorem R5:SK 6 Ay:=yV (.seq .run (.seq .run (.seq .run (.seq .run (.seq .run (.seq .run (.seq .run (.seq .run (.seq .run (.seq (.seq .run (.block (.unit LI))) .run)))))))))) [.tmp 6] ze zy Br Tryz.func6 (ob1 Ch ob0)
end
end Go.Abs.Sc
