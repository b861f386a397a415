import Derived.Test.YtgjajclncfhidaaGreatDoorFc
import Derived.Test.YtgjajclncfhidaaGreatDoorQd
import Derived.Test.YtgjajclncfhidaaGreatDoorXa
import Derived.Test.YtgjajclncfhidaaGreatDoorProg
/-
 The functions make just that.
-/
namespace Go.Abs.Sc
open Go Go.Abs Go.Abs.Q Go.Proofs
set_option maxRecDepth 100000
noncomputable section
abbrev kK:Ty:=.sl (.one (.sl (.one (.int .i64))))
abbrev kR:Tys:=.one (.sl (.one (.int .i64)))
abbrev kJ:Ty:=.sl (.one (.int .i64))
abbrev kI:Tys:=.one (.int .i64)
abbrev kZ:Ty:=.int .i64
abbrev kL:Ty:=.sl HB
abbrev kM:Ty:=.sl Ps
def tbl:List (Nat×TD):=[(3,.int .i64),
 (4,.bool),
 (9,.str),
 (22,.sl 114 Ps 40),
 (23,.sl 55 (.cons kZ (.cons kZ (.cons kZ (.cons kZ (.cons kZ (.cons kZ (.cons kZ (.cons kL (.cons kK (.one kL)))))))))) 128),
 (25,.sl 61 HB 32),
 (26,.sl 38 kR 24),
 (28,.st [(25,0),(26,1),(25,2)] 3),
 (38,.sl 3 kI 8),
 (51,.st [(3,0),(38,1)] 2),
 (55,.st [(3,0),(3,1),(3,2),(3,3),(3,4),(3,5),(3,6),(28,7)] 10),
 (59,.int .u64),
 (61,.st [(4,0),(38,1)] 2),
 (70,.sl 4 (.one .bool) 1),
 (114,.st [(9,0),(3,1),(3,2),(3,3)] 4),
 (115,.sl 25 (.one kL) 24),
 (131,.sl 188 (.cons kZ kR) 32),
 (160,.st [(38,0),(38,1)] 2),
 (181,.st [(38,0),(3,1)] 2),
 (182,.arr 181 (.cons (.ns kI) kI) 48),
 (184,.st [(22,0),(182,1)] 97),
 (188,.st [(3,0),(38,1)] 2),
 (213,.sl 216 (.cons kJ (.cons kZ (.cons kJ kI))) 64),
 (216,.fa 181 2 2),
 (218,.arr 3 kI 24),
 (220,.sl 26 (.one kK) 24),
 (225,.arr 38 (.one (.ns kI)) 24),
 (237,.arr 4 (.one .bool) 48),
 (238,.sl 181 (.cons kJ kI) 32)]
def tb:Tb:=TQ tbl
theorem zd:jk Tryz.prog tb:=PU (by kernel_rfl)
theorem zu:Tryz.prog.follows .mixedOrders=true:=by kernel_rfl
def gl:Gl:=fun q=>cond (Nat.beq q 0) (some ⟨Ps,(([61],0,2,1):zg)⟩) (none)
abbrev SK:=ShOk Tryz.prog gl
abbrev UK:=UnA Tryz.prog
abbrev VK:=VAll Tryz.prog
abbrev GD (c:ShC):=WA Tryz.prog (cond c.glob gl fun _=>none)
def zg3:ShC:=⟨⟨[],[],[],[]⟩,⟨[(.view 0)],[.seq false],[2],[kM]⟩,1,[],[],false,false,fun (_:Unit)=>sQ⟩
theorem zfS:SK 41 zg3:=yq .run [.tmp 0] zd zu zb Tryz.func41 ob0
def zgY:ShC:=⟨⟨[],[],[],[]⟩,⟨[(.view 0)],[.seq false],[2],[.sl (.cons kZ (.cons kZ (.cons kZ (.cons kZ (.cons kZ (.cons kZ (.cons kZ (.cons kL (.cons kK (.one kL))))))))))]⟩,1,[],[],false,false,fun (_:Unit)=>ZI⟩
theorem zgb:SK 42 zgY:=yq .run [.tmp 0] zd zu zb Tryz.func42 ob0
def zgP:ShC:=⟨⟨[.hole],[],[1],[.int .u8]⟩,⟨[.hole],[],[2],[.bool]⟩,1,[],[],false,false,fun (x:Int)=>kr x⟩
theorem zf4:SK 184 zgP:=yq .run [.tmp 2] zd zu zb Tryz.func184 ob0
def zfB:ShC:=⟨⟨[.hole],[],[1],[.str]⟩,⟨[.hole],[],[2],[.bool]⟩,1,[],[],false,false,fun (x:Str)=>Yu x⟩
theorem za3:GD zfB [(184,.gen (qp [zgP]))]:=(gd1 zf4 zb)
def zgJ:=u9 tb gl za3 zfB Tryz.f143
theorem zgU:VK zgJ:=zq zd za3
def zdR:Un:=lpU 2 [20,21,3,22,23,24,25,26,27,28,29,30,31,32,33,34,35,36,37,38,2,39,19] ⟨[0,18,19],⟨[.hole,.hole,.hole],[],[2,2,2],[.str,.int .i64,.int .i64]⟩⟩ [((.exit 0),⟨[],⟨[],[],[],[]⟩⟩),(.ret,⟨[2],⟨[.hole],[],[2],[.bool]⟩⟩)] (lp ua ze)
theorem Rs:UK zgJ (xR (zn Tryz.f143) [1,1,0,1,0]) zdR:=vE .run zu zgU ob0
theorem zfZ:SK 143 zfB:=yq (.seq .run (.seq .run (.seq (.seq .run (.block (.unit zdR))) .run))) [.tmp 2] zd zu za3 Tryz.func143 (ob1 Rs ob0)
def zgQ:ShC:=⟨⟨[(.agg [.hole,.hole,.hole,.hole])],[],[1,1,1,1],[.str,.int .i64,.int .i64,.int .i64]⟩,⟨[.hole],[],[2],[.bool]⟩,1,[],[],false,false,fun (x:zg)=>kW x.1 x.2.1 x.2.2.1 x.2.2.2⟩
theorem zfP:SK 89 zgQ:=yq .run [.tmp 2] zd zu (gd1 zfZ zb) Tryz.func89 ob0
def zfl:ShC:=⟨⟨[.hole,.hole],[],[1,1],[kM,.str]⟩,⟨[.hole],[],[2],[.int .i64]⟩,1,[],[],false,false,fun (x:(jS×Str))=>Qb x.1 x.2⟩
theorem zbD:GD zfl []:=zb
def zgM:=u9 tb gl zbD zfl Tryz.f90
theorem zg4:VK zgM:=zq zd zbD
def zcZ:Un:=lpU 2 [9,10,5,11,12,13,14,15,16,17,18,4,19,8] ⟨[0,1,7,8],⟨[.hole,.hole,.hole,.hole],[],[1,2,2,2],[kM,.str,.int .i64,.int .i64]⟩⟩ [((.exit 0),⟨[],⟨[],[],[],[]⟩⟩),(.ret,⟨[4],⟨[.hole],[],[2],[.int .i64]⟩⟩)] (lp tP ze)
theorem Sd:UK zgM (xR (zn Tryz.f90) [1,0,1,0]) zcZ:=vE .run zu zg4 ob0
theorem zgh:SK 90 zfl:=yq (.seq .run (.seq (.seq .run (.block (.unit zcZ))) .run)) [.tmp 4] zd zu zbD Tryz.func90 (ob1 Sd ob0)
def zfk:ShC:=⟨⟨[.hole],[],[1],[kM]⟩,⟨[.hole],[],[2],[.bool]⟩,1,[],[],false,true,fun (x:jS)=>Q2 x⟩
theorem UT:GD zfk [(89,.gen (qp [zgQ])),(90,.gen (qp [zfl]))]:=(gd1 zfP (gd1 zgh zb))
def zgL:=u9 tb gl UT zfk Tryz.f49
theorem zg1:VK zgL:=zq zd UT
def zeD:Un:=lpU 2 [19,20,21,22,25,26,27,28,29,30,31,32,33,34,35,36,37,38,39,40,41,2,23,24,3] ⟨[0,3],⟨[.hole,.hole],[],[1,2],[kM,.int .i64]⟩⟩ [((.exit 0),⟨[],⟨[],[],[],[]⟩⟩),(.ret,⟨[2],⟨[.hole],[],[2],[.bool]⟩⟩)] (lp tt ze)
theorem PK:UK zgL (xR (zn Tryz.f49) [1,1,0,1,0]) zeD:=vE .run zu zg1 ob0
theorem zaF:SK 49 zfk:=yq (.seq .run (.seq .run (.seq (.seq .run (.block (.unit zeD))) .run))) [.tmp 2] zd zu UT Tryz.func49 (ob1 PK ob0)
def zgW:ShC:=⟨⟨[.hole,.hole,.hole],[],[1,1,1],[.int .i64,.int .i64,.int .i64]⟩,⟨[.hole],[],[2],[.bool]⟩,1,[],[],false,false,fun (x:(Int×Int×Int))=>w9 x.1 x.2.1 x.2.2⟩
theorem zfw:SK 157 zgW:=yq .run [.tmp 6] zd zu zb Tryz.func157 ob0
def zg0:ShC:=⟨⟨[(.agg [.hole,.hole,.hole,.hole,.hole,.hole,.hole,.hole,.hole,.hole])],[],[1,1,1,1,1,1,1,1,1,1],[.int .i64,.int .i64,.int .i64,.int .i64,.int .i64,.int .i64,.int .i64,kL,kK,kL]⟩,⟨[.hole],[],[2],[.bool]⟩,1,[],[],false,false,fun (x:jU)=>tX x.1 x.2.1 x.2.2.1 x.2.2.2.1 x.2.2.2.2.1 x.2.2.2.2.2.1 x.2.2.2.2.2.2.1 x.2.2.2.2.2.2.2.1 x.2.2.2.2.2.2.2.2.1 x.2.2.2.2.2.2.2.2.2⟩
theorem zf1:SK 106 zg0:=yq .run [.tmp 2] zd zu (gd1 zfw zb) Tryz.func106 ob0
def zaY:ShC:=⟨⟨[.hole],[],[1],[.int .i64]⟩,⟨[.hole],[],[2],[.int .i64]⟩,1,[],[],false,false,fun (x:Int)=>zQ x⟩
theorem G0:SK 84 zaY:=yq .run [.tmp 2] zd zu zb Tryz.func84 ob0
def zc8:ShC:=⟨⟨[.hole,.hole],[],[1,1],[kM,.int .i64]⟩,⟨[.hole,.hole],[],[2,2],[.int .i64,.bool]⟩,2,[],[],false,false,fun (x:(jS×Int))=>Y2 x.1 x.2⟩
theorem zdv:SK 217 zc8:=yq .run [.tmp 4,.tmp 5] zd zu (gd1 G0 zb) Tryz.func217 ob0
def Cd:ShC:=⟨⟨[.hole,.hole,.hole],[],[1,1,1],[kM,kJ,.int .i64]⟩,⟨[.hole,.hole],[],[2,2],[.int .i64,.bool]⟩,2,[],[],false,false,fun (x:(jS×jI×Int))=>wd x.1 x.2.1 x.2.2⟩
theorem H5:GD Cd [(217,.gen (qp [zc8]))]:=(gd1 zdv zb)
def zaG:=u9 tb gl H5 Cd Tryz.f185
theorem zgm:VK zaG:=zq zd H5
def Sr:Un:=scU zaG [8,11,12,13,14,6,7,16,17,18,19,20,21,15,22,23,9,10,24,25,6,7,26,27,2,28,29,30,31,8,32,33,34,6,7] [(.goto 0,⟨[0,1,2,8],⟨[.hole,.hole,.hole,.hole],[],[1,1,2,2],[kM,kJ,.int .i64,.int .i64]⟩⟩)] [(.ret,⟨[6,7],⟨[.hole,.hole],[],[2,2],[.int .i64,.bool]⟩⟩)] (Ac (xR (zn Tryz.f185) [1])) .run (lp uL ze)
theorem Mw:UK zaG (xR (zn Tryz.f185) [1]) Sr:=zex [] zu zgm ob0 zen
theorem GP:SK 185 Cd:=yq (.seq .run (.unit Sr)) [.tmp 6,.tmp 7] zd zu H5 Tryz.func185 (ob1 Mw ob0)
def zap:ShC:=⟨⟨[.hole,.hole],[],[1,1],[kM,kJ]⟩,⟨[(.view 0),.hole],[.seq false],[2,2],[.bool,kJ]⟩,2,[],[],false,true,fun (x:(jS×jI))=>sO x.1 x.2⟩
theorem HZ:GD zap [(49,.gen (qp [zfk])),(185,.gen (qp [Cd]))]:=(gdG zaF (gd1 GP zb))
def zaM:=u9 tb gl HZ zap Tryz.f145
theorem zfY:VK zaM:=zq zd HZ
def SP:Un:=scU zaM [10,11,12,13,14,15,16,17,4,5,6,7,18,19,20,21,22,4,5,24,25,26,27,23,28,29,8,9,30,31,4,5,32,33,34,35,6,36,7] [(.goto 0,⟨[0,1,6,7],⟨[.hole,.hole,(.view 0),.hole],[.seq false],[1,1,2,2],[kM,kJ,.int .i64,kJ]⟩⟩)] [(.ret,⟨[4,5],⟨[(.view 0),.hole],[.seq false],[2,2],[.bool,kJ]⟩⟩)] (Ac (xR (zn Tryz.f145) [1])) .run (lp u6 ze)
theorem M3:UK zaM (xR (zn Tryz.f145) [1]) SP:=zex [] zu zfY ob0 zen
theorem Nc:SK 145 zap:=yq (.seq .run (.unit SP)) [.tmp 4,.tmp 5] zd zu HZ Tryz.func145 (ob1 M3 ob0)
def zfo:ShC:=⟨⟨[.hole,.hole],[],[1,1],[kM,kJ]⟩,⟨[.hole],[],[2],[.bool]⟩,1,[],[],false,true,fun (x:(jS×jI))=>vP x.1 x.2⟩
theorem SJ:SK 144 zfo:=yq .run [.tmp 4] zd zu (gdG Nc zb) Tryz.func144 ob0
def zeS:ShC:=⟨⟨[.hole,(.agg [.hole,.hole])],[],[1,1,1],[kM,.bool,kJ]⟩,⟨[.hole],[],[2],[.bool]⟩,1,[],[],false,true,fun (x:(jS×Bool×jI))=>Qg x.1 x.2.1 x.2.2⟩
theorem Tp:SK 91 zeS:=yq .run [.tmp 4] zd zu (gdG SJ zb) Tryz.func91 ob0
def zbj:ShC:=⟨⟨[.hole,.hole],[],[1,1],[kM,kL]⟩,⟨[.hole,.hole],[],[2,2],[.int .i64,.bool]⟩,2,[],[],false,true,fun (x:(jS×jQ))=>u4 x.1 x.2⟩
theorem LU:GD zbj [(91,.gen (qp [zeS]))]:=(gdG Tp zb)
def zdZ:=u9 tb gl LU zbj Tryz.f50
theorem zgt:VK zdZ:=zq zd LU
def SI:Un:=lpU 2 [12,13,14,8,15,16,17,18,4,5,19,20,21,22,23,6,24,11] ⟨[0,6,9,10,11],⟨[.hole,.hole,.hole,.hole,.hole],[],[1,2,1,2,2],[kM,.int .i64,kL,.int .i64,.int .i64]⟩⟩ [((.exit 0),⟨[6],⟨[.hole],[],[2],[.int .i64]⟩⟩),(.ret,⟨[4,5],⟨[.hole,.hole],[],[2,2],[.int .i64,.bool]⟩⟩)] (lp wa ze)
theorem MJ:UK zdZ (xR (zn Tryz.f50) [1,1,0,1,0]) SI:=vE .run zu zgt ob0
theorem zeO:SK 50 zbj:=yq (.seq .run (.seq .run (.seq (.seq .run (.block (.unit SI))) .run))) [.tmp 4,.tmp 5] zd zu LU Tryz.func50 (ob1 MJ ob0)
def zau:ShC:=⟨⟨[.hole,.hole],[],[1,1],[kM,kJ]⟩,⟨[.hole,.hole],[],[2,2],[.int .i64,.int .i64]⟩,2,[],[],false,true,fun (x:(jS×jI))=>Ym x.1 x.2⟩
theorem TP:SK 92 zau:=yq .run [.tmp 4,.tmp 5] zd zu (gdG Nc zb) Tryz.func92 ob0
def za7:ShC:=⟨⟨[.hole,.hole],[],[1,1],[kM,kK]⟩,⟨[.hole,.hole],[],[2,2],[.int .i64,.bool]⟩,2,[],[],false,true,fun (x:(jS×jR))=>sV x.1 x.2⟩
theorem LB:GD za7 [(92,.gen (qp [zau]))]:=(gdG TP zb)
def zdE:=u9 tb gl LB za7 Tryz.f51
theorem zga:VK zdE:=zq zd LB
def Tl:Un:=lpU 2 [15,16,17,18,8,9,20,21,22,19,23,24,10,11,25,26,27,7,28,29,30,31,32,33,34,4,5,35,36,37,38,6,39,14] ⟨[0,6,7,12,13,14],⟨[.hole,.hole,.hole,.hole,.hole,.hole],[],[1,2,2,1,2,2],[kM,.int .i64,.int .i64,kK,.int .i64,.int .i64]⟩⟩ [((.exit 0),⟨[6],⟨[.hole],[],[2],[.int .i64]⟩⟩),(.ret,⟨[4,5],⟨[.hole,.hole],[],[2,2],[.int .i64,.bool]⟩⟩)] (lp xZ ze)
theorem NC:UK zdE (xR (zn Tryz.f51) [1,1,0,1,0]) Tl:=vE .run zu zga ob0
theorem zcf:SK 51 za7:=yq (.seq .run (.seq .run (.seq (.seq .run (.block (.unit Tl))) .run))) [.tmp 4,.tmp 5] zd zu LB Tryz.func51 (ob1 NC ob0)
def RS:ShC:=⟨⟨[.hole,(.agg [.hole,.hole,.hole])],[],[1,1,1,1],[kM,kL,kK,kL]⟩,⟨[.hole],[],[2],[.bool]⟩,1,[],[],false,true,fun (x:(jS×jQ×jR×jQ))=>qI x.1 x.2.1 x.2.2.1 x.2.2.2⟩
theorem Qq:SK 25 RS:=yq .run [.tmp 4] zd zu (gdG zaF (gdG zeO (gdG zcf zb))) Tryz.func25 ob0
def zgG:ShC:=⟨⟨[.hole,(.agg [.hole,.hole,.hole,.hole,.hole,.hole,.hole,.hole,.hole,.hole])],[],[1,1,1,1,1,1,1,1,1,1,1],[kM,.int .i64,.int .i64,.int .i64,.int .i64,.int .i64,.int .i64,.int .i64,kL,kK,kL]⟩,⟨[.hole],[],[2],[.bool]⟩,1,[],[],false,true,fun (x:(jS×Int×Int×Int×Int×Int×Int×Int×jQ×jR×jQ))=>Ka x.1 x.2.1 x.2.2.1 x.2.2.2.1 x.2.2.2.2.1 x.2.2.2.2.2.1 x.2.2.2.2.2.2.1 x.2.2.2.2.2.2.2.1 x.2.2.2.2.2.2.2.2.1 x.2.2.2.2.2.2.2.2.2.1 x.2.2.2.2.2.2.2.2.2.2⟩
theorem zcR:SK 61 zgG:=yq .run [.tmp 4] zd zu (gdG Qq (gd1 zf1 zb)) Tryz.func61 ob0
def zci:ShC:=⟨⟨[(.agg [.hole,.hole,.hole,.hole,.hole,.hole,.hole,.hole,.hole,.hole]),(.ptr 0 0)],[.cells true [.hole]],[1,1,1,1,1,1,1,1,1,1,1],[.int .i64,.int .i64,.int .i64,.int .i64,.int .i64,.int .i64,.int .i64,kL,kK,kL,kM]⟩,⟨[.hole],[],[2],[.bool]⟩,1,[],[],false,true,fun (x:(Int×Int×Int×Int×Int×Int×Int×jQ×jR×jQ×jS))=>sq x.1 x.2.1 x.2.2.1 x.2.2.2.1 x.2.2.2.2.1 x.2.2.2.2.2.1 x.2.2.2.2.2.2.1 x.2.2.2.2.2.2.2.1 x.2.2.2.2.2.2.2.2.1 x.2.2.2.2.2.2.2.2.2.1 x.2.2.2.2.2.2.2.2.2.2⟩
theorem zdp:SK 60 zci:=yq .run [.tmp 3] zd zu (gdG zcR zb) Tryz.func60 ob0
def za1:ShC:=⟨⟨[.hole,(.clo 60 [(.ptr 0 0)])],[.cells true [.hole]],[1,1],[.sl (.cons kZ (.cons kZ (.cons kZ (.cons kZ (.cons kZ (.cons kZ (.cons kZ (.cons kL (.cons kK (.one kL)))))))))),kM]⟩,⟨[.hole],[],[2],[.int .i64]⟩,1,[],[],false,true,fun (x:(jT×jS))=>tD x.1 x.2⟩
theorem Lk:GD za1 [(60,.gen (qp [zci]))]:=(gdG zdp zb)
def zew:=u9 tb gl Lk za1 Tryz.f105
theorem zgu:VK zew:=zq zd Lk
def Ur:Un:=lpU 2 [9,10,5,11,12,13,14,15,16,17,4,18,8] ⟨[0,1,7,8],⟨[.hole,(.clo 60 [(.ptr 0 0)]),.hole,.hole],[.cells true [.hole]],[1,2,2,1],[.sl (.cons kZ (.cons kZ (.cons kZ (.cons kZ (.cons kZ (.cons kZ (.cons kZ (.cons kL (.cons kK (.one kL)))))))))),.int .i64,.int .i64,kM]⟩⟩ [((.exit 0),⟨[],⟨[],[],[],[]⟩⟩),(.ret,⟨[4],⟨[.hole],[],[2],[.int .i64]⟩⟩)] (lp yU ze)
theorem MF:UK zew (xR (zn Tryz.f105) [1,0,1,0]) Ur:=vE .run zu zgu ob0
theorem zed:SK 105 za1:=yq (.seq .run (.seq (.seq .run (.block (.unit Ur))) .run)) [.tmp 4] zd zu Lk Tryz.func105 (ob1 MF ob0)
def zfN:ShC:=⟨⟨[.hole,(.clo 60 [(.ptr 0 0)])],[.cells true [.hole]],[1,1],[.sl (.cons kZ (.cons kZ (.cons kZ (.cons kZ (.cons kZ (.cons kZ (.cons kZ (.cons kL (.cons kK (.one kL)))))))))),kM]⟩,⟨[.hole],[],[2],[.bool]⟩,1,[],[],false,true,fun (x:(jT×jS))=>uE x.1 x.2⟩
theorem zeV:SK 59 zfN:=yq .run [.tmp 4] zd zu (gdG zed zb) Tryz.func59 ob0
def zaz:ShC:=⟨⟨[.hole,.hole],[],[1,1],[kM,.sl (.cons kZ (.cons kZ (.cons kZ (.cons kZ (.cons kZ (.cons kZ (.cons kZ (.cons kL (.cons kK (.one kL))))))))))]⟩,⟨[.hole],[],[2],[.bool]⟩,1,[],[],false,true,fun (x:(jS×jT))=>tQ x.1 x.2⟩
theorem O8:SK 29 zaz:=yq .run [.tmp 4] zd zu (gdG zaF (gdG zeV zb)) Tryz.func29 ob0
def zgp:ShC:=⟨⟨[(.agg [.hole,.hole,.hole,.hole,.hole,.hole,.hole,.hole,.hole,.hole])],[],[1,1,1,1,1,1,1,1,1,1],[.int .i64,.int .i64,.int .i64,.int .i64,.int .i64,.int .i64,.int .i64,kL,kK,kL]⟩,⟨[(.agg [.hole,.hole,.hole,.hole,.hole,.hole,.hole,.nilv,.nilv,.nilv])],[],[2,2,2,2,2,2,2],[.int .i64,.int .i64,.int .i64,.int .i64,.int .i64,.int .i64,.int .i64]⟩,1,[],[],false,false,fun (x:jU)=>Yy x.1 x.2.1 x.2.2.1 x.2.2.2.1 x.2.2.2.2.1 x.2.2.2.2.2.1 x.2.2.2.2.2.2.1 x.2.2.2.2.2.2.2.1 x.2.2.2.2.2.2.2.2.1 x.2.2.2.2.2.2.2.2.2⟩
theorem zdC:SK 62 zgp:=yq (.seq .run (.seq .run (.seq (.seq .run (.block (.seq .run (.cond .run (.seq .run (.cond (.hide [[],[],[64],[64],[64],[64],[],[],[],[],[],[]]) (.seq .run (.cond (.hide [[],[],[64],[64],[],[],[],[]]) (.seq .run (.cond (.hide [[],[],[64],[64],[64],[64],[64],[64],[64],[64],[],[],[],[],[],[],[],[],[],[]]) .run)))))))))) .run))) [.cell 2 55] zd zu zb Tryz.func62 ob0
def zgl:ShC:=⟨⟨[(.agg [.hole,.hole,.hole,.hole,.hole,.hole,.hole,.hole,.hole,.hole]),(.agg [.hole,.hole,.hole,.hole,.hole,.hole,.hole,.hole,.hole,.hole])],[],[1,1,1,1,1,1,1,1,1,1,1,1,1,1,1,1,1,1,1,1],[.int .i64,.int .i64,.int .i64,.int .i64,.int .i64,.int .i64,.int .i64,kL,kK,kL,.int .i64,.int .i64,.int .i64,.int .i64,.int .i64,.int .i64,.int .i64,kL,kK,kL]⟩,⟨[.hole],[],[2],[.bool]⟩,1,[],[],false,false,fun (x:(Int×Int×Int×Int×Int×Int×Int×jQ×jR×jQ×Int×Int×Int×Int×Int×Int×Int×jQ×jR×jQ))=>vy x.1 x.2.1 x.2.2.1 x.2.2.2.1 x.2.2.2.2.1 x.2.2.2.2.2.1 x.2.2.2.2.2.2.1 x.2.2.2.2.2.2.2.1 x.2.2.2.2.2.2.2.2.1 x.2.2.2.2.2.2.2.2.2.1 x.2.2.2.2.2.2.2.2.2.2.1 x.2.2.2.2.2.2.2.2.2.2.2.1 x.2.2.2.2.2.2.2.2.2.2.2.2.1 x.2.2.2.2.2.2.2.2.2.2.2.2.2.1 x.2.2.2.2.2.2.2.2.2.2.2.2.2.2.1 x.2.2.2.2.2.2.2.2.2.2.2.2.2.2.2.1 x.2.2.2.2.2.2.2.2.2.2.2.2.2.2.2.2.1 x.2.2.2.2.2.2.2.2.2.2.2.2.2.2.2.2.2.1 x.2.2.2.2.2.2.2.2.2.2.2.2.2.2.2.2.2.2.1 x.2.2.2.2.2.2.2.2.2.2.2.2.2.2.2.2.2.2.2⟩
theorem zc7:SK 63 zgl:=yq .run [.tmp 4] zd zu zb Tryz.func63 ob0
def zfv:ShC:=⟨⟨[.hole],[],[1],[.ns kI]⟩,⟨[(.view 0)],[.seq false],[2],[kJ]⟩,1,[],[],false,false,fun (x:(Option jI))=>Y1 x⟩
theorem zdS:SK 108 zfv:=yq .run [.tmp 2] zd zu zb Tryz.func108 ob0
def zgF:ShC:=⟨⟨[.nilv],[],[],[]⟩,⟨[(.view 0)],[.seq false],[2],[kJ]⟩,1,[],[],false,false,fun (_:Unit)=>J1⟩
theorem zch:SK 108 zgF:=yq .run [.tmp 2] zd zu zb Tryz.func108 ob0
def I8:ShC:=⟨⟨[.hole],[],[1],[kJ]⟩,⟨[(.view 0)],[.seq false],[2],[kJ]⟩,1,[],[],false,false,fun (x:jI)=>zD x⟩
theorem VA:SK 108 I8 :=
 ze8 zch zdS fun xs y h=>⟨h,fun e=>by subst e; exact h⟩
def zaQ:ShC:=⟨⟨[(.agg [.hole,.hole,.hole]),(.clo 108 [])],[],[1,1,1],[kL,kK,kL]⟩,⟨[(.agg [(.view 0),(.view 1),(.view 2)])],[.seq false,.seq false,.seq false],[2,2,2],[kL,kK,kL]⟩,1,[],[],false,false,fun (x:(jQ×jR×jQ))=>ZR x.1 x.2.1 x.2.2⟩
theorem Lj:GD zaQ [(108,.gen (qp [I8]))]:=(gd1 VA zb)
def RP:=u9 tb gl Lj zaQ Tryz.f107
theorem zbZ:VK RP:=zq zd Lj
def SA:Un:=lpU 2 [52,53,54,11,55,56,57,58,59,60,61,62,63,64,65,66,67,51] ⟨[1,4,5,49,50,51],⟨[(.clo 108 []),(.ptr 0 0),(.ptr 1 0),.hole,.hole,.hole],[.cells true [.nilv,.nilv,.nilv],.cells false [(.view 2),(.view 3),(.view 4)],.seq false,.seq false,.seq false],[1,2,2,2,2,2],[kL,.int .i64,.int .i64,kL,kK,kL]⟩⟩ [((.exit 4),⟨[5],⟨[(.ptr 0 0)],[.cells false [(.view 1),(.view 2),(.view 3)],.seq false,.seq false,.seq false],[2,2,2],[kL,kK,kL]⟩⟩)] (lp wE ze)
theorem Lc:UK RP (xR (zn Tryz.f107) [1,1,1,1,0,1,0]) SA:=vE .run zu zbZ ob0
def Tk:Un:=lpU 2 [36,37,38,9,39,40,41,42,43,44,45,46,47,35] ⟨[1,2,4,5,33,34,35],⟨[(.clo 108 []),(.ptr 0 0),(.ptr 1 0),(.ptr 2 0),.hole,.hole,.hole],[.cells true [.hole,.hole,.hole],.cells true [.nilv,.nilv,.nilv],.cells false [(.view 3),(.view 4),.nilv],.seq false,.seq false],[1,2,2,1,1,1,2,2],[kK,.int .i64,.int .i64,kL,kK,kL,kL,kK]⟩⟩ [((.exit 2),⟨[5],⟨[(.ptr 0 0)],[.cells false [(.view 1),(.view 2),.nilv],.seq false,.seq false],[2,2],[kL,kK]⟩⟩)] (lp wI ze)
theorem HL:UK RP (xR (zn Tryz.f107) [1,1,1,0,1,0]) Tk:=vE .run zu zbZ ob0
def SX:Un:=lpU 2 [16,17,18,7,19,20,21,22,23,24,25,26,27,28,29,30,31,15] ⟨[1,2,4,5,13,14,15],⟨[(.clo 108 []),(.ptr 0 0),(.ptr 1 0),(.ptr 2 0),.hole,.hole,.hole],[.cells true [.hole,.hole,.hole],.cells true [.nilv,.nilv,.nilv],.cells false [(.view 3),.nilv,.nilv],.seq false],[1,2,2,1,1,1,2],[kL,.int .i64,.int .i64,kL,kK,kL,kL]⟩⟩ [((.exit 0),⟨[5],⟨[(.ptr 0 0)],[.cells false [(.view 1),.nilv,.nilv],.seq false],[2],[kL]⟩⟩)] (lp wG ze)
theorem LS:UK RP (xR (zn Tryz.f107) [1,1,0,1,0]) SX:=vE .run zu zbZ ob0
theorem zd6:SK 107 zaQ:=yq (.seq .run (.seq .run (.seq (.seq .run (.block (.unit SX))) (.seq (.seq .run (.block (.unit Tk))) (.seq (.seq .run (.block (.unit SA))) .run))))) [.cell 4 28] zd zu Lj Tryz.func107 (ob1 LS (ob1 HL (ob1 Lc ob0)))
def zd9:ShC:=⟨⟨[(.agg [.hole,.hole,.hole])],[],[1,1,1],[kL,kK,kL]⟩,⟨[(.agg [(.view 0),(.view 1),(.view 2)])],[.seq false,.seq false,.seq false],[2,2,2],[kL,kK,kL]⟩,1,[],[],false,false,fun (x:(jQ×jR×jQ))=>tx x.1 x.2.1 x.2.2⟩
theorem Om:SK 64 zd9:=yq .run [.cell 2 28] zd zu (gd1 zd6 zb) Tryz.func64 ob0
def zf6:ShC:=⟨⟨[(.agg [.hole,.hole,.hole]),.hole],[],[1,1,1,1],[kL,kK,kL,.int .i64]⟩,⟨[.hole],[],[2],[.bool]⟩,1,[],[],false,false,fun (x:(jQ×jR×jQ×Int))=>t7 x.1 x.2.1 x.2.2.1 x.2.2.2⟩
theorem zc0:SK 158 zf6:=yq .run [.tmp 4] zd zu zb Tryz.func158 ob0
def zcw:ShC:=⟨⟨[.nilv,.hole],[],[1],[.int .i64]⟩,⟨[(.view 0)],[.seq false],[2],[kL]⟩,1,[],[],false,false,fun (x:Int)=>kf x⟩
theorem zdi:SK 82 zcw:=yq .run [.tmp 4] zd zu (gd0 1000025 zb) Tryz.func82 ob0
def Mz:ShC:=⟨⟨[.hole],[],[1],[.sl (.one kL)]⟩,⟨[(.view 0)],[.seq false],[0],[kL]⟩,1,[],[],true,false,fun (x:(List jQ))=>uK x⟩
theorem N3:GD Mz [(82,.gen (qp [zcw]))]:=(gd1 zdi zb)
def zbd:=u9 tb gl N3 Mz Tryz.f43
theorem zeI:VK zbd:=zq zd N3
def TZ:Un:=lpU 2 [28,29,30,8,31,32,33,6,34,27] ⟨[6,25,26,27],⟨[(.view 0),.hole,.hole,.hole],[.seq false],[1,2,2,0],[.sl (.one kL),.int .i64,.int .i64,kL]⟩⟩ [((.exit 2),⟨[6],⟨[(.view 0)],[.seq false],[0],[kL]⟩⟩)] (lp xz ze)
theorem Of:UK zbd (xR (zn Tryz.f43) [1,1,1,1,0,1,0]) TZ:=vE .run zu zeI ob0
def S3:Un:=lpU 2 [12,13,14,5,15,16,17,18,3,19,20,21,22,11] ⟨[0,3,9,10,11],⟨[.hole,.hole,.hole,.hole,.hole],[],[1,2,1,2,2],[.sl (.one kL),.int .i64,.sl (.one kL),.int .i64,.int .i64]⟩⟩ [((.exit 0),⟨[3],⟨[.hole],[],[2],[.int .i64]⟩⟩)] (lp xC ze)
theorem Lf:UK zbd (xR (zn Tryz.f43) [1,1,0,1,0]) S3:=vE .run zu zeI ob0
theorem T8:SK 43 Mz:=yq (.seq .run (.seq .run (.seq (.seq .run (.block (.unit S3))) (.seq .run (.seq (.seq .run (.block (.unit TZ))) .run))))) [.tmp 2] zd zu N3 Tryz.func43 (ob1 Lf (ob1 Of ob0))
def zgA:ShC:=⟨⟨[.hole],[],[1],[.int .i64]⟩,⟨[.hole],[],[2],[.bool]⟩,1,[],[],false,false,fun (x:Int)=>Wy x⟩
theorem zdY:SK 181 zgA:=yq .run [.tmp 2] zd zu zb Tryz.func181 ob0
def zfe:ShC:=⟨⟨[.hole,.hole],[],[1,1],[.int .i64,.int .i64]⟩,⟨[.hole],[],[2],[.bool]⟩,1,[],[],false,false,fun (x:(Int×Int))=>Kb x.1 x.2⟩
theorem zdN:SK 135 zfe:=yq .run [.tmp 4] zd zu (gd1 zdY zb) Tryz.func135 ob0
def zdT:ShC:=⟨⟨[.hole],[],[1],[.int .i64]⟩,⟨[.hole],[],[2],[.bool]⟩,1,[],[],false,false,fun (x:Int)=>ri x⟩
theorem zeR:SK 136 zdT:=yq .run [.tmp 2] zd zu zb Tryz.func136 ob0
def RO:ShC:=⟨⟨[.hole,.hole],[],[1,1],[kJ,.int .i64]⟩,⟨[.hole,.hole],[],[2,2],[.int .i64,.bool]⟩,2,[],[],false,false,fun (x:(jI×Int))=>wk x.1 x.2⟩
theorem O6:GD RO [(135,.gen (qp [zfe])),(136,.gen (qp [zdT]))]:=(gd1 zdN (gd1 zeR zb))
def zec:=u9 tb gl O6 RO Tryz.f83
theorem zfK:VK zec:=zq zd O6
def SO:Un:=lpU 2 [13,14,15,16,17,18,19,20,21,9,22,23,24,25,26,27,28,29,7,30,8] ⟨[0,1,6,7,8],⟨[.hole,.hole,.hole,.hole,.hole],[],[1,2,2,2,2],[kJ,.int .i64,.int .i64,.int .i64,.int .i64]⟩⟩ [((.exit 0),⟨[7],⟨[.hole],[],[2],[.int .i64]⟩⟩)] (lp yW ze)
theorem OB:UK zec (xR (zn Tryz.f83) [1,1,1,0,0]) SO:=vE .run zu zfK ob0
theorem zer:SK 83 RO:=yq (.seq .run (.seq .run (.seq .run (.seq (.block (.unit SO)) .run)))) [.tmp 4,.tmp 5] zd zu O6 Tryz.func83 (ob1 OB ob0)
def JM:Go.Shelf.Ren:={ f:=fun x=>match x with | 21=>85 | 27=>137 | 28=>138 | 35=>182 | 39=>35 | n=>n,t:=fun x=>match x with | 22=>38 | 3=>3 | 4=>4 | 0=>0 | n=>n,g:=fun x=>x }
theorem Vd:Go.Proofs.Lays2.n21 Tryz.prog JM where
 mixed:=by kernel_rfl
 f21:=Tryz.func85.trans (by kernel_rfl)
 f27:=Tryz.func137.trans (by kernel_rfl)
 f28:=Tryz.func138.trans (by kernel_rfl)
 f35:=Tryz.func182.trans (by kernel_rfl)
 f39:=Tryz.func35.trans (by kernel_rfl)
 t0:=Tryz.underlying0
 a0:=Tryz.isAgg0
 z0:=Tryz.sizeOf0
 v0:=Tryz.zeroValue0
 t3:=Tryz.underlying3
 a3:=Tryz.isAgg3
 z3:=Tryz.sizeOf3
 v3:=Tryz.zeroValue3
 t4:=Tryz.underlying4
 a4:=Tryz.isAgg4
 z4:=Tryz.sizeOf4
 v4:=Tryz.zeroValue4
 t22:=Tryz.underlying38
 a22:=Tryz.isAgg38
 z22:=Tryz.sizeOf38
 v22:=Tryz.zeroValue38
 i3:=by kernel_rfl
def zdQ:ShC:=insC
theorem zcM:SK 85 zdQ :=
 NJ (code:=zn Tryz.f85) Tryz.func85 (by kernel_rfl) (by kernel_rfl) Vd rfl
def PZ:ShC:=⟨⟨[(.view 0),.hole],[.seq false],[1,1],[kJ,kJ]⟩,⟨[(.view 0)],[.seq false],[0],[kJ]⟩,1,[],[],true,false,fun (x:(jI×jI))=>tm x.1 x.2⟩
theorem NN:GD PZ [(83,.gen (qp [RO])),(84,.gen (qp [zaY])),(85,.gen (qp [zdQ]))]:=(gd1 zer (gd1 G0 (gd1 zcM zb)))
def zeq:=u9 tb gl NN PZ Tryz.f44
theorem zfs:VK zeq:=zq zd NN
def Te:Un:=lpU 2 [12,13,14,6,15,16,18,19,20,21,17,22,23,7,8,24,25,26,27,28,29,30,31,0,32,11] ⟨[0,9,10,11],⟨[(.view 0),.hole,.hole,.hole],[.seq false],[1,2,2,0],[kJ,.int .i64,.int .i64,kJ]⟩⟩ [((.exit 0),⟨[0],⟨[(.view 0)],[.seq false],[0],[kJ]⟩⟩)] (lp uj ze)
theorem Po:UK zeq (xR (zn Tryz.f44) [1,0,1,0]) Te:=vE .run zu zfs ob0
theorem zdI:SK 44 PZ:=yq (.seq .run (.seq (.seq .run (.block (.unit Te))) .run)) [.tmp 4] zd zu NN Tryz.func44 (ob1 Po ob0)
def Rm:ShC:=⟨⟨[.hole,(.agg [.hole,.hole,.hole])],[],[1,1,1,1],[kM,kL,kK,kL]⟩,⟨[(.view 0),.hole],[.seq false],[2,0],[.int .i64,kJ]⟩,2,[],[],true,true,fun (x:(jS×jQ×jR×jQ))=>yL x.1 x.2.1 x.2.2.1 x.2.2.2⟩
theorem Ox:GD Rm [(25,.gen (qp [RS])),(43,.gen (qp [Mz])),(44,.gen (qp [PZ]))]:=(gdG Qq (gd1 T8 (gd1 zdI zb)))
def za4:=u9 tb gl Ox Rm Tryz.f22
theorem zcm:VK za4:=zq zd Ox
def S4:Un:=lpU 2 [35,36,37,10,38,39,40,6,41,34] ⟨[6,32,33,34],⟨[(.view 0),.hole,.hole,.hole],[.seq false],[1,2,2,0],[kK,.int .i64,.int .i64,kJ]⟩⟩ [((.exit 2),⟨[6],⟨[(.view 0)],[.seq false],[0],[kJ]⟩⟩)] (lp ue ze)
theorem LW:UK za4 (xR (zn Tryz.f22) [1,1,1,1,0,1,0]) S4:=vE .run zu zcm ob0
def Uu:Un:=lpU 2 [23,24,25,8,26,27,28,29,6,30,22] ⟨[3,6,20,21,22],⟨[(.ptr 0 0),(.view 1),.hole,.hole,.hole],[.cells true [.hole,.hole,.hole],.seq false],[0,2,2,1,1,1,0],[kL,.int .i64,.int .i64,kL,kK,kL,kJ]⟩⟩ [((.exit 0),⟨[6],⟨[(.view 0)],[.seq false],[0],[kJ]⟩⟩)] (lp v8 ze)
theorem N7:UK za4 (xR (zn Tryz.f22) [1,1,1,0,1,0]) Uu:=vE .run zu zcm ob0
theorem HI:SK 22 Rm:=yq (.seq .run (.seq .run (.seq .run (.seq (.seq .run (.block (.unit Uu))) (.seq (.seq .run (.block (.unit S4))) .run))))) [.tmp 4,.tmp 5] zd zu Ox Tryz.func22 (ob1 N7 (ob1 LW ob0))
def Ry:ShC:=⟨⟨[.hole,(.ptr 0 0)],[.cells true [.hole]],[1,1],[kJ,.int .i64]⟩,⟨[(.view 0)],[.seq false],[2],[kJ]⟩,1,[],[],false,false,fun (x:(jI×Int))=>qD x.1 x.2⟩
theorem Me:GD Ry [(108,.gen (qp [I8]))]:=(gd1 VA zb)
def zcI:=u9 tb gl Me Ry Tryz.f188
theorem zfA:VK zcI:=zq zd Me
def Uy:Un:=lpU 2 [12,13,14,15,5,6,16,17,18,19,20,21,22,23,24,11] ⟨[1,4,9,10,11],⟨[(.ptr 0 0),(.view 1),(.view 1),.hole,.hole],[.cells true [.hole],.seq false],[2,2,2,2],[.int .i64,.int .i64,.int .i64,kJ]⟩⟩ [((.exit 0),⟨[4],⟨[(.view 0)],[.seq false],[2],[kJ]⟩⟩)] (lp qF ze)
theorem NG:UK zcI (xR (zn Tryz.f188) [1,1,0,1,0]) Uy:=vE .run zu zfA ob0
theorem zcB:SK 188 Ry:=yq (.seq .run (.seq .run (.seq (.seq .run (.block (.unit Uy))) .run))) [.tmp 3] zd zu Me Tryz.func188 (ob1 NG ob0)
def U4:ShC:=⟨⟨[(.agg [.hole,.hole,.hole]),(.clo 188 [(.ptr 0 0)])],[.cells true [.hole]],[1,1,1,1],[kL,kK,kL,.int .i64]⟩,⟨[(.agg [(.view 0),(.view 1),(.view 2)])],[.seq false,.seq false,.seq false],[2,2,2],[kL,kK,kL]⟩,1,[],[],false,false,fun (x:(jQ×jR×jQ×Int))=>Yx x.1 x.2.1 x.2.2.1 x.2.2.2⟩
theorem MC:GD U4 [(188,.gen (qp [Ry]))]:=(gd1 zcB zb)
def Rb:=u9 tb gl MC U4 Tryz.f107
theorem zbG:VK Rb:=zq zd MC
def TN:Un:=lpU 2 [52,53,54,11,55,56,57,58,59,60,61,62,63,64,65,66,67,51] ⟨[1,4,5,49,50,51],⟨[(.clo 188 [(.ptr 0 0)]),(.ptr 1 0),(.ptr 2 0),.hole,.hole,.hole],[.cells true [.hole],.cells true [.nilv,.nilv,.nilv],.cells false [(.view 3),(.view 4),(.view 5)],.seq false,.seq false,.seq false],[1,2,2,2,2,2,2],[kL,.int .i64,.int .i64,.int .i64,kL,kK,kL]⟩⟩ [((.exit 4),⟨[5],⟨[(.ptr 0 0)],[.cells false [(.view 1),(.view 2),(.view 3)],.seq false,.seq false,.seq false],[2,2,2],[kL,kK,kL]⟩⟩)] (lp ww ze)
theorem ML:UK Rb (xR (zn Tryz.f107) [1,1,1,1,0,1,0]) TN:=vE .run zu zbG ob0
def TM:Un:=lpU 2 [36,37,38,9,39,40,41,42,43,44,45,46,47,35] ⟨[1,2,4,5,33,34,35],⟨[(.clo 188 [(.ptr 0 0)]),(.ptr 1 0),(.ptr 2 0),(.ptr 3 0),.hole,.hole,.hole],[.cells true [.hole],.cells true [.hole,.hole,.hole],.cells true [.nilv,.nilv,.nilv],.cells false [(.view 4),(.view 5),.nilv],.seq false,.seq false],[1,2,2,2,1,1,1,2,2],[kK,.int .i64,.int .i64,.int .i64,kL,kK,kL,kL,kK]⟩⟩ [((.exit 2),⟨[5],⟨[(.ptr 0 0)],[.cells false [(.view 1),(.view 2),.nilv],.seq false,.seq false],[2,2],[kL,kK]⟩⟩)] (lp wF ze)
theorem MD:UK Rb (xR (zn Tryz.f107) [1,1,1,0,1,0]) TM:=vE .run zu zbG ob0
def TO:Un:=lpU 2 [16,17,18,7,19,20,21,22,23,24,25,26,27,28,29,30,31,15] ⟨[1,2,4,5,13,14,15],⟨[(.clo 188 [(.ptr 0 0)]),(.ptr 1 0),(.ptr 2 0),(.ptr 3 0),.hole,.hole,.hole],[.cells true [.hole],.cells true [.hole,.hole,.hole],.cells true [.nilv,.nilv,.nilv],.cells false [(.view 4),.nilv,.nilv],.seq false],[1,2,2,2,1,1,1,2],[kL,.int .i64,.int .i64,.int .i64,kL,kK,kL,kL]⟩⟩ [((.exit 0),⟨[5],⟨[(.ptr 0 0)],[.cells false [(.view 1),.nilv,.nilv],.seq false],[2],[kL]⟩⟩)] (lp wN ze)
theorem Nb:UK Rb (xR (zn Tryz.f107) [1,1,0,1,0]) TO:=vE .run zu zbG ob0
theorem zcu:SK 107 U4:=yq (.seq .run (.seq .run (.seq (.seq .run (.block (.unit TO))) (.seq (.seq .run (.block (.unit TM))) (.seq (.seq .run (.block (.unit TN))) .run))))) [.cell 4 28] zd zu MC Tryz.func107 (ob1 Nb (ob1 MD (ob1 ML ob0)))
def zf0:ShC:=⟨⟨[(.agg [.hole,.hole,.hole]),.hole],[],[1,1,1,1],[kL,kK,kL,.int .i64]⟩,⟨[(.agg [(.view 0),(.view 1),(.view 2)])],[.seq false,.seq false,.seq false],[2,2,2],[kL,kK,kL]⟩,1,[],[],false,false,fun (x:(jQ×jR×jQ×Int))=>zJ x.1 x.2.1 x.2.2.1 x.2.2.2⟩
theorem Uc:SK 148 zf0:=yq .run [.cell 4 28] zd zu (gd1 zcu zb) Tryz.func148 ob0
def zgn:ShC:=⟨⟨[.hole,(.agg [.hole,.hole,.hole]),(.agg [.hole,.hole,.hole])],[],[1,1,1,1,1,1,1],[kM,kL,kK,kL,kL,kK,kL]⟩,⟨[(.agg [.hole,.hole,(.view 0)]),.hole],[.seq false],[2,2,2,2],[kL,kK,.bool,kL]⟩,2,[],[],false,true,fun (x:(jS×jQ×jR×jQ×jQ×jR×jQ))=>vN x.1 x.2.1 x.2.2.1 x.2.2.2.1 x.2.2.2.2.1 x.2.2.2.2.2.1 x.2.2.2.2.2.2⟩
theorem zdo:SK 97 zgn:=yq .run [.cell 6 28,.tmp 7] zd zu (gdG HI (gd1 Uc zb)) Tryz.func97 ob0
def MM:ShC:=⟨⟨[.hole,.hole],[],[1,1],[kM,kJ]⟩,⟨[(.view 0)],[.seq false],[0],[kK]⟩,1,[],[],true,false,fun (x:(jS×jI))=>uA x.1 x.2⟩
theorem ON:GD MM [(185,.gen (qp [Cd]))]:=(gd1 GP zb)
def zcj:=u9 tb gl ON MM Tryz.f199
theorem zf9:VK zcj:=zq zd ON
def TE:Un:=lpU 2 [9,10,11,12,14,15,16,17,13,18,19,7,8,20,21,22,4,23,24,25,26,27,28,29,5,30,6] ⟨[0,1,5,6],⟨[.hole,.hole,(.view 0),.hole],[.seq false],[1,1,2,0],[kM,kJ,.int .i64,kK]⟩⟩ [((.exit 0),⟨[5],⟨[(.view 0)],[.seq false],[0],[kK]⟩⟩),(.ret,⟨[4],⟨[(.view 0)],[.seq false],[0],[kK]⟩⟩)] (lp u7 ze)
theorem O2:UK zcj (xR (zn Tryz.f199) [1,1,0,1,0]) TE:=vE .run zu zf9 ob0
theorem LO:SK 199 MM:=yq (.seq .run (.seq .run (.seq (.seq .run (.block (.unit TE))) .run))) [.tmp 4] zd zu ON Tryz.func199 (ob1 O2 ob0)
def Sa:ShC:=⟨⟨[(.ptr 0 0),(.view 1),(.agg [.hole,.hole]),(.agg [.hole,.hole])],[.cells true [.hole,.hole],.seq false],[1,1,1,1,1,1,1],[kJ,.int .i64,kJ,.int .i64,kM,.ar (.cons (.ns kI) kI) 48,.sl (.cons kJ (.cons kZ (.cons kJ kI)))]⟩,⟨[(.view 0)],[.seq false],[0],[.sl (.cons kJ (.cons kZ (.cons kJ kI)))]⟩,1,[],[],true,false,fun (x:(jI×Int×jI×Int×jS×(List ((Option jI)×Int))×(List (jI×Int×jI×Int))))=>xb x.1 x.2.1 x.2.2.1 x.2.2.2.1 x.2.2.2.2.1 x.2.2.2.2.2.1 x.2.2.2.2.2.2⟩
theorem NS:GD Sa [(199,.gen (qp [MM]))]:=(gd1 LO zb)
def zcz:=u9 tb gl NS Sa Tryz.f189
theorem zfR:VK zcz:=zq zd NS
def To:Un:=lpU 2 [29,30,11,31,32,33,34,35,36,37,38,39,40,41,42,43,44,45,46,47,48,1,49,28] ⟨[1,6,7,9,10,27,28],⟨[(.view 0),(.ptr 1 0),(.ptr 2 0),.hole,.hole,.hole,.hole],[.seq false,.cells true [.hole,.hole],.cells true [.hole,.hole]],[0,0,2,2,0,1,2,1,2],[kK,kK,.int .i64,.int .i64,.sl (.cons kJ (.cons kZ (.cons kJ kI))),kJ,.int .i64,kJ,.int .i64]⟩⟩ [((.exit 0),⟨[1],⟨[(.view 0)],[.seq false],[0],[.sl (.cons kJ (.cons kZ (.cons kJ kI)))]⟩⟩)] (lp qH ze)
theorem Pa:UK zcz (xR (zn Tryz.f189) [1,1,0,1,0]) To:=vE .run zu zfR ob0
theorem zd5:SK 189 Sa:=yq (.seq .run (.seq .run (.seq (.seq .run (.block (.unit To))) .run))) [.tmp 8] zd zu NS Tryz.func189 (ob1 Pa ob0)
def zbn:ShC:=⟨⟨[(.agg [.hole,.hole]),.hole],[],[1,1,1],[kJ,.int .i64,.int .i64]⟩,⟨[.hole],[],[2],[.int .i64]⟩,1,[],[],false,false,fun (x:(jI×Int×Int))=>yT x.1 x.2.1 x.2.2⟩
theorem H8:SK 192 zbn:=yq .run [.tmp 4] zd zu (gd1 G0 zb) Tryz.func192 ob0
def P4:ShC:=⟨⟨[(.ptr 0 0),(.agg [.hole,.hole])],[.cells true [.hole,.hole]],[1,1,1,1],[kJ,.int .i64,kM,.ar (.cons (.ns kI) kI) 48]⟩,⟨[(.agg [.hole,.hole])],[],[1,2],[kJ,.int .i64]⟩,1,[],[],true,false,fun (x:(jI×Int×jS×(List ((Option jI)×Int))))=>vl x.1 x.2.1 x.2.2.1 x.2.2.2⟩
theorem NV:GD P4 [(192,.gen (qp [zbn]))]:=(gd1 H8 zb)
def zeX:=u9 tb gl NV P4 Tryz.f190
theorem zgx:VK zeX:=zq zd NV
def SW:Un:=lpU 2 [6,7,8,9,10,11,12,13,14,15,16,17,18,19,20,21,5,22,23,24,25] ⟨[0,3,4],⟨[(.ptr 0 0),(.ptr 1 0),(.ptr 2 0)],[.cells true [.hole,.hole],.cells false [.hole,.hole],.cells true [.nilv,.hole]],[1,1,1,2,2],[kM,.ar (.cons (.ns kI) kI) 48,kJ,.int .i64,.int .i64]⟩⟩ [((.exit 0),⟨[3],⟨[(.ptr 0 0)],[.cells false [.hole,.hole]],[1,2],[kJ,.int .i64]⟩⟩)] (lp vu ze)
theorem LP:UK zeX (xR (zn Tryz.f190) [1,0,0]) SW:=vE .run zu zgx ob0
theorem zdl:SK 190 P4:=yq (.seq .run (.seq (.block (.unit SW)) .run)) [.cell 4 181] zd zu NV Tryz.func190 (ob1 LP ob0)
def zbk:ShC:=⟨⟨[(.ptr 0 0),.hole,(.agg [.hole,.hole])],[.cells true [.hole,.hole]],[1,1,1,1,1],[.int .i64,kJ,.int .i64,kM,.ar (.cons (.ns kI) kI) 48]⟩,⟨[.hole],[],[2],[.bool]⟩,1,[],[],false,false,fun (x:(Int×jI×Int×jS×(List ((Option jI)×Int))))=>tj x.1 x.2.1 x.2.2.1 x.2.2.2.1 x.2.2.2.2⟩
theorem OC:GD zbk [(192,.gen (qp [zbn])),(1000027,.gen (qp []))]:=(gd1 H8 (gd0 1000027 zb))
def zb0:=u9 tb gl OC zbk Tryz.f221
theorem zcd:VK zb0:=zq zd OC
def SF:Un:=lpU 2 [32,33,34,10,35,36,37,38,39,11,40,41,42,6,43,44,45,46,47,48,49,50,51,52,53,54,55,56,57,58,59,60,61,62,63,64,65,66,67,8,68,31] ⟨[0,1,5,7,8,29,30,31],⟨[(.ptr 0 0),.hole,(.ptr 1 0),(.aptr 2),(.view 3),.hole,.hole,.hole],[.cells true [.hole,.hole],.cells true [.hole,.hole],.seq false,.seq false],[2,0,2,2,1,1,0,2,2,0],[.int .i64,kJ,.int .i64,.int .i64,kM,.ar (.cons (.ns kI) kI) 48,kJ,.int .i64,.sl (.one .bool),.sl (.cons kJ kI)]⟩⟩ [((.exit 2),⟨[7,8],⟨[(.aptr 0),(.view 1)],[.seq false,.seq false],[2,0],[.sl (.one .bool),.sl (.cons kJ kI)]⟩⟩),(.ret,⟨[6],⟨[.hole],[],[2],[.bool]⟩⟩)] (lp q9 ze)
theorem HX:UK zb0 (xR (zn Tryz.f221) [1,1,1,0,0,0,1,0,1,1,1,0]) SF:=vE .run zu zcd ob0
def TC:Un:=lpU 2 [14,15,16,17,18,19,20,21,22,23,24,25,26,27,8,28,29,30,31,32,33,34,10,35,36,37,38,39,11,40,41,42,6,43,44,45,46,47,48,49,50,51,52,53,54,55,56,57,58,59,60,61,62,63,64,65,66,67,8,68,31] ⟨[0,1,5,7,8],⟨[(.ptr 0 0),.hole,(.ptr 1 0),(.aptr 2),(.view 3)],[.cells true [.hole,.hole],.cells false [.hole,.hole],.seq false,.seq false],[2,1,1,0,2,2,0],[.int .i64,kM,.ar (.cons (.ns kI) kI) 48,kJ,.int .i64,.sl (.one .bool),.sl (.cons kJ kI)]⟩⟩ [((.exit 0),⟨[],⟨[],[],[],[]⟩⟩),(.ret,⟨[6],⟨[.hole],[],[2],[.bool]⟩⟩)] (lp wr ze)
theorem LI:UK zb0 (xR (zn Tryz.f221) [1,1,1,0,0]) TC:=vE (.seq .run (.block (.seq .run (.seq .run (.seq .run (.block (.unit SF))))))) zu zcd (ob1 HX ob0)
theorem ze4:SK 221 zbk:=yq (.seq .run (.seq .run (.seq .run (.seq (.block (.unit TC)) .run)))) [.tmp 6] zd zu OC Tryz.func221 (ob1 LI ob0)
def zd8:ShC:=⟨⟨[(.ptr 0 0),(.agg [.hole,.hole]),(.agg [.hole,.hole])],[.cells false [.hole,.hole]],[1,1,1,1,1,1],[kJ,.int .i64,kJ,.int .i64,kM,.ar (.cons (.ns kI) kI) 48]⟩,⟨[.hole,(.ptr 0 0)],[.cells false [.hole,.hole]],[2,1,0],[.bool,kM,.ar (.cons (.ns kI) kI) 48]⟩,1,[0],[(0,0)],true,false,fun (x:(jI×Int×jI×Int×jS×(List ((Option jI)×Int))))=>qB x.1 x.2.1 x.2.2.1 x.2.2.2.1 x.2.2.2.2.1 x.2.2.2.2.2⟩
theorem ze7:SK 191 zd8:=yq .run [.tmp 6] zd zu (gd1 H8 (gd1 ze4 zb)) Tryz.func191 ob0
def Sp:ShC:=⟨⟨[(.ptr 0 0),(.agg [.hole,.hole]),(.agg [.hole,.hole])],[.cells false [.hole,.hole]],[1,1,1,1,1,1],[kJ,.int .i64,kJ,.int .i64,kM,.ar (.cons (.ns kI) kI) 48]⟩,⟨[.hole,(.ptr 0 0)],[.cells false [.hole,.hole]],[2,0,0],[.bool,kM,.ar (.cons (.ns kI) kI) 48]⟩,1,[0],[(0,0)],true,false,fun (x:(jI×Int×jI×Int×jS×(List ((Option jI)×Int))))=>wB x.1 x.2.1 x.2.2.1 x.2.2.2.1 x.2.2.2.2.1 x.2.2.2.2.2⟩
theorem Lw:GD Sp [(189,.gen (qp [Sa])),(190,.gen (qp [P4])),(191,.gen (qp [zd8])),(1000039,.gen (qp []))]:=(gd1 zd5 (gd1 zdl (gd1 ze7 (gd0 1000039 zb))))
def zbx:=u9 tb gl Lw Sp Tryz.f149
theorem zgB:VK zbx:=zq zd Lw
def SH:Un:=scU zbx [10,11,12,13,7,14,15,16,6,17,18,19,20,21,22,23,24,25,26,27,28,29,30,31,32,33,34,8,9,35,36,37,38,39,7,41,42,43,44,45,40,46,47,48,49,6,51,52,53,54,55,50,56,57,58,59,6,61,62,63,64,65,66,67,68,69,60,6,70,71,72,73,74,75,76,77,78,79,80,81,82,83,84,7] [(.goto 0,⟨[0,7],⟨[(.ptr 0 0),(.view 1)],[.cells false [.hole,.hole],.seq false],[0,0,0],[kM,.ar (.cons (.ns kI) kI) 48,.sl (.cons kJ (.cons kZ (.cons kJ kI)))]⟩⟩)] [(.ret,⟨[0,6],⟨[(.ptr 0 0),.hole],[.cells false [.hole,.hole]],[2,0,0],[.bool,kM,.ar (.cons (.ns kI) kI) 48]⟩⟩)] (Ac (xR (zn Tryz.f149) [1])) .run (lp zw ze)
theorem Pj:UK zbx (xR (zn Tryz.f149) [1]) SH:=zex [] zu zgB ob0 zen
theorem zfa:SK 149 Sp:=yq (.seq .run (.unit SH)) [.tmp 6] zd zu Lw Tryz.func149 (ob1 Pj ob0)
def zcg:ShC:=⟨⟨[(.agg [.hole,.hole]),.hole],[],[1,1,1],[.ns kI,.int .i64,.int .i64]⟩,⟨[.hole],[],[2],[.int .i64]⟩,1,[],[],false,false,fun (x:((Option jI)×Int×Int))=>xO x.1 x.2.1 x.2.2⟩
theorem zcD:SK 192 zcg:=yq .run [.tmp 4] zd zu (gd1 G0 zb) Tryz.func192 ob0
def Da (k:Nat):ShC:=⟨⟨[(.ptr 0 0),(.agg [.hole,.hole])],[.cells true [.hole,.hole]],[1,1,1,1],[.ns kI,.int .i64,kM,.ar (.cons (.ns kI) kI) 48]⟩,⟨[.hole],[],[2],[.ns kI]⟩,1,[],[],false,false,(qS k)⟩
def zff:ShC:=⟨⟨[(.ptr 0 0),(.agg [.hole,.hole])],[.cells true [.hole,.hole]],[1,1,1,1],[.ns kI,.int .i64,kM,.ar (.cons (.ns kI) kI) 48]⟩,⟨[.hole],[],[2],[.ns kI]⟩,1,[],[],false,false,fun (x:((Option jI)×Int×jS×(List ((Option jI)×Int))))=>kN x.1 x.2.1 x.2.2.1 x.2.2.2⟩
def Jk (k:Nat):Prop:=SK 150 (Da k)
def zey (k:Nat):List (Nat×Con):=[(150,.gen (qp [Da k])),(192,.gen (qp [zcg]))]
theorem Uj (k:Nat) (h:Jk k):GD (Da (k+1)) (zey k):=(gd1 h (gd1 zcD zb))
def zdV (k:Nat):Env:=XN tb gl (zey k) (Da (k+1)) Tryz.f150.ntmps
theorem zge (k:Nat) (h:Jk k):VK (zdV k):=zq zd (Uj k h)
def UF (k:Nat):Un:=lpU 2 [13,14,15,7,16,17,8,18,19,20,21,22,23,24,25,26,27,28,29,30,31,32,33,34,35,36,37,38,39,40,41,8,42,43,44,45,46,47,48,49,50,51,4,52,53,54,5,55,12] ⟨[0,3,5,10,11,12],⟨[(.ptr 0 0),(.ptr 1 0),(.view 2),.hole,.hole,.hole],[.cells true [.hole,.hole],.cells true [.hole,.hole],.seq false],[1,2,2,1,1,1,2,2],[.ns kI,.int .i64,.int .i64,kM,.ar (.cons (.ns kI) kI) 48,.ns kI,.int .i64,kJ]⟩⟩ [((.exit 0),⟨[5],⟨[(.view 0)],[.seq false],[2],[kJ]⟩⟩),(.ret,⟨[4],⟨[.nilv],[],[],[]⟩⟩)] (lp (yP (qS k)) ze)
theorem NI (k:Nat) (h:Jk k):UK (zdV k) (xR (zn Tryz.f150) [1,1,0,1,0]) (UF k):=vE .run zu (zge k h) ob0
theorem zaP (k:Nat) (h:Jk k):SK 150 (Da (k+1)):=yq (.seq .run (.seq .run (.seq (.seq .run (.block (.unit (UF k)))) .run))) [.tmp 4] zd zu (Uj k h) Tryz.func150 (ob1 (NI k h) ob0)
theorem Bq:∀ k,Jk k
 | 0=>Np (by kernel_rfl) fun _=>rfl
 | k+1=>have h:=Bq k; zaP k h
theorem zep:SK 150 zff:=(Bq ze)
def zaT:ShC:=⟨⟨[.hole,.hole,.hole],[],[1,1,1],[kM,kJ,kJ]⟩,⟨[(.view 0),.hole,.hole],[.seq false],[2,2,2],[.bool,.int .i64,.sl (.cons kZ kR)]⟩,3,[],[],false,true,fun (x:(jS×jI×jI))=>uI x.1 x.2.1 x.2.2⟩
theorem MN:GD zaT [(92,.gen (qp [zau])),(108,.gen (qp [I8])),(149,.gen (qp [Sp])),(150,.gen (qp [zff]))]:=(gdG TP (gd1 VA (gd1 zfa (gd1 zep zb))))
def ze9:=u9 tb gl MN zaT Tryz.f98
theorem zf5:VK ze9:=zq zd MN
def Ue:Un:=lpU 2 [51,52,15,53,54,55,56,57,58,59,60,61,62,63,64,65,66,67,68,16,69,70,6,7,8,71,72,73,74,75,76,77,14,78,50] ⟨[13,14,50],⟨[(.ptr 0 0),(.view 1),.hole],[.cells true [.hole,.hole],.seq false],[2,0,0,2],[.int .i64,kM,.ar (.cons (.ns kI) kI) 48,.sl (.cons kZ kR)]⟩⟩ [((.exit 0),⟨[14],⟨[(.view 0)],[.seq false],[2],[.sl (.cons kZ kR)]⟩⟩),(.ret,⟨[6,7,8],⟨[.nilv,.hole,.hole],[],[2,2],[.bool,.int .i64]⟩⟩)] (lp vk ze)
theorem Ot:UK ze9 (xR (zn Tryz.f98) [1,1,1,1,1,1,1,0,1,0]) Ue:=vE .run zu zf5 ob0
theorem C9:SK 98 zaT:=yq (.seq .run (.seq .run (.seq .run (.seq .run (.seq .run (.seq .run (.seq .run (.seq (.seq .run (.block (.unit Ue))) .run)))))))) [.tmp 6,.tmp 7,.tmp 8] zd zu MN Tryz.func98 (ob1 Ot ob0)
def ze5:ShC:=⟨⟨[.nilv,.hole],[],[1],[.int .i64]⟩,⟨[(.view 0)],[.seq false],[2],[kK]⟩,1,[],[],false,false,fun (x:Int)=>Yr x⟩
theorem zce:SK 198 ze5:=yq .run [.tmp 4] zd zu (gd0 1000025 zb) Tryz.func198 ob0
def PQ:ShC:=⟨⟨[.hole],[],[1],[.sl (.one kK)]⟩,⟨[(.view 0)],[.seq false],[0],[kK]⟩,1,[],[],true,false,fun (x:(List jR))=>kc x⟩
theorem HS:GD PQ [(198,.gen (qp [ze5]))]:=(gd1 zce zb)
def zbu:=u9 tb gl HS PQ Tryz.f154
theorem zcO:VK zbu:=zq zd HS
def SR:Un:=lpU 2 [28,29,30,8,31,32,33,6,34,27] ⟨[6,25,26,27],⟨[(.view 0),.hole,.hole,.hole],[.seq false],[1,2,2,0],[.sl (.one kK),.int .i64,.int .i64,kK]⟩⟩ [((.exit 2),⟨[6],⟨[(.view 0)],[.seq false],[0],[kK]⟩⟩)] (lp wz ze)
theorem LK:UK zbu (xR (zn Tryz.f154) [1,1,1,1,0,1,0]) SR:=vE .run zu zcO ob0
def Tv:Un:=lpU 2 [12,13,14,5,15,16,17,18,3,19,20,21,22,11] ⟨[0,3,9,10,11],⟨[.hole,.hole,.hole,.hole,.hole],[],[1,2,1,2,2],[.sl (.one kK),.int .i64,.sl (.one kK),.int .i64,.int .i64]⟩⟩ [((.exit 0),⟨[3],⟨[.hole],[],[2],[.int .i64]⟩⟩)] (lp wO ze)
theorem Lp:UK zbu (xR (zn Tryz.f154) [1,1,0,1,0]) Tv:=vE .run zu zcO ob0
theorem zcF:SK 154 PQ:=yq (.seq .run (.seq .run (.seq (.seq .run (.block (.unit Tv))) (.seq .run (.seq (.seq .run (.block (.unit SR))) .run))))) [.tmp 2] zd zu HS Tryz.func154 (ob1 Lp (ob1 LK ob0))
def zan:ShC:=⟨⟨[(.agg [.hole,.hole,.hole]),.hole,(.agg [.hole,.hole,.hole]),.hole],[],[1,1,1,1,1,1,1,1],[kL,kK,kL,.int .i64,kL,kK,kL,.int .i64]⟩,⟨[(.agg [(.view 0),.hole,(.view 1)])],[.seq false,.seq false],[0,0,0],[kK,kL,kL]⟩,1,[],[],true,false,fun (x:(jQ×jR×jQ×Int×jQ×jR×jQ×Int))=>vG x.1 x.2.1 x.2.2.1 x.2.2.2.1 x.2.2.2.2.1 x.2.2.2.2.2.1 x.2.2.2.2.2.2.1 x.2.2.2.2.2.2.2⟩
theorem Mi:GD zan [(43,.gen (qp [Mz])),(154,.gen (qp [PQ]))]:=(gd1 T8 (gd1 zcF zb))
def zao:=u9 tb gl Mi zan Tryz.f101
theorem zeZ:VK zao:=zq zd Mi
def Tf:Un:=lpU 2 [49,50,51,52,13,12,53,54,55,56,57,58,59,60,61,62,48] ⟨[3,8,9,46,47,48],⟨[.hole,(.ptr 0 0),(.ptr 1 0),.hole,.hole,.hole],[.cells true [.nilv,.nilv,.nilv],.cells false [(.view 2),.hole,(.view 3)],.seq false,.seq false],[2,1,2,2,0,0,0],[.int .i64,kL,.int .i64,.int .i64,kK,kL,kL]⟩⟩ [((.exit 2),⟨[9],⟨[(.ptr 0 0)],[.cells false [(.view 1),.hole,(.view 2)],.seq false,.seq false],[0,0,0],[kK,kL,kL]⟩⟩)] (lp vx ze)
theorem Mr:UK zao (xR (zn Tryz.f101) [1,1,1,0,1,0]) Tf:=vE .run zu zeZ ob0
def SD:Un:=lpU 2 [31,32,33,34,11,10,35,36,37,38,39,40,41,42,43,44,30] ⟨[1,3,6,8,9,28,29,30],⟨[.hole,.hole,(.ptr 0 0),(.ptr 1 0),(.ptr 2 0),.hole,.hole,.hole],[.cells true [.hole,.hole,.hole],.cells true [.nilv,.nilv,.nilv],.cells false [(.view 3),.hole,(.view 4)],.seq false,.seq false],[2,2,1,2,2,1,1,1,0,0,0],[.int .i64,.int .i64,kL,.int .i64,.int .i64,kL,kK,kL,kK,kL,kL]⟩⟩ [((.exit 0),⟨[9],⟨[(.ptr 0 0)],[.cells false [(.view 1),.hole,(.view 2)],.seq false,.seq false],[0,0,0],[kK,kL,kL]⟩⟩)] (lp vt ze)
theorem Oo:UK zao (xR (zn Tryz.f101) [1,1,0,1,0]) SD:=vE .run zu zeZ ob0
theorem DJ:SK 101 zan:=yq (.seq .run (.seq .run (.seq (.seq .run (.block (.unit SD))) (.seq (.seq .run (.block (.unit Tf))) .run)))) [.cell 8 28] zd zu Mi Tryz.func101 (ob1 Oo (ob1 Mr ob0))
def Si:ShC:=⟨⟨[.hole,.hole],[],[1,1],[.sl (.cons kZ kR),.int .i64]⟩,⟨[.hole],[],[0],[.ns kI]⟩,1,[],[],true,false,fun (x:((List (Int×jI))×Int))=>QD x.1 x.2⟩
theorem Lg:GD Si []:=zb
def zds:=u9 tb gl Lg Si Tryz.f197
theorem zgo:VK zds:=zq zd Lg
def SY:Un:=lpU 2 [10,11,12,6,13,14,15,16,17,18,4,19,9] ⟨[1,7,8,9],⟨[.hole,.hole,.hole,.hole],[],[2,1,2,2],[.int .i64,.sl (.cons kZ kR),.int .i64,.int .i64]⟩⟩ [((.exit 0),⟨[],⟨[],[],[],[]⟩⟩),(.ret,⟨[4],⟨[.hole],[],[1],[kJ]⟩⟩)] (lp tJ ze)
theorem LF:UK zds (xR (zn Tryz.f197) [1,0,1,0]) SY:=vE .run zu zgo ob0
theorem zdP:SK 197 Si:=yq (.seq .run (.seq (.seq .run (.block (.unit SY))) .run)) [.tmp 4] zd zu Lg Tryz.func197 (ob1 LF ob0)
def P3:ShC:=⟨⟨[.hole,.hole],[],[1,1],[.sl (.cons kZ kR),kJ]⟩,⟨[(.view 0)],[.seq false],[2],[kJ]⟩,1,[],[],false,false,fun (x:((List (Int×jI))×jI))=>Z6 x.1 x.2⟩
theorem Nx:GD P3 [(84,.gen (qp [zaY])),(197,.gen (qp [Si]))]:=(gd1 G0 (gd1 zdP zb))
def zdM:=u9 tb gl Nx P3 Tryz.f153
theorem zfp:VK zdM:=zq zd Nx
def TU:Un:=lpU 2 [12,13,14,7,15,16,17,18,8,19,20,21,22,23,24,25,26,27,28,5,29,30,31,5,32,11] ⟨[0,5,9,10,11],⟨[.hole,(.view 0),.hole,.hole,.hole],[.seq false],[1,1,2,2,2],[.sl (.cons kZ kR),kJ,.int .i64,.int .i64,kJ]⟩⟩ [((.exit 0),⟨[5],⟨[(.view 0)],[.seq false],[2],[kJ]⟩⟩)] (lp ky ze)
theorem N5:UK zdM (xR (zn Tryz.f153) [1,1,0,1,0]) TU:=vE .run zu zfp ob0
theorem MO:SK 153 P3:=yq (.seq .run (.seq .run (.seq (.seq .run (.block (.unit TU))) .run))) [.tmp 4] zd zu Nx Tryz.func153 (ob1 N5 ob0)
def zcq:ShC:=⟨⟨[.hole,(.ptr 0 0)],[.cells true [.hole]],[1,1],[kJ,.sl (.cons kZ kR)]⟩,⟨[(.view 0)],[.seq false],[2],[kJ]⟩,1,[],[],false,false,fun (x:(jI×(List (Int×jI))))=>xW x.1 x.2⟩
theorem zd3:SK 152 zcq:=yq .run [.tmp 3] zd zu (gd1 MO zb) Tryz.func152 ob0
def za9:ShC:=⟨⟨[(.agg [.hole,.hole,.hole]),(.clo 152 [(.ptr 0 0)])],[.cells true [.hole]],[1,1,1,1],[kL,kK,kL,.sl (.cons kZ kR)]⟩,⟨[(.agg [.hole,.hole,(.view 0)])],[.seq false],[2,2,2],[kL,kK,kL]⟩,1,[],[],false,false,fun (x:(jQ×jR×jQ×(List (Int×jI))))=>Xt x.1 x.2.1 x.2.2.1 x.2.2.2⟩
theorem Pe:GD za9 [(152,.gen (qp [zcq]))]:=(gd1 zd3 zb)
def R7:=u9 tb gl Pe za9 Tryz.f107
theorem zbQ:VK R7:=zq zd Pe
def UH:Un:=lpU 2 [52,53,54,11,55,56,57,58,59,60,61,62,63,64,65,66,67,51] ⟨[1,4,5,49,50,51],⟨[(.clo 152 [(.ptr 0 0)]),(.ptr 1 0),(.ptr 2 0),.hole,.hole,.hole],[.cells true [.hole],.cells true [.nilv,.nilv,.nilv],.cells false [.hole,.hole,(.view 3)],.seq false],[1,2,2,1,2,2,2],[kL,.int .i64,.int .i64,.sl (.cons kZ kR),kL,kK,kL]⟩⟩ [((.exit 4),⟨[5],⟨[(.ptr 0 0)],[.cells false [.hole,.hole,(.view 1)],.seq false],[2,2,2],[kL,kK,kL]⟩⟩)] (lp um ze)
theorem Pl:UK R7 (xR (zn Tryz.f107) [1,1,1,1,0,1,0]) UH:=vE .run zu zbQ ob0
def UE:Un:=lpU 2 [36,37,38,9,39,40,41,42,43,44,45,46,47,35] ⟨[1,2,4,5,33,34,35],⟨[(.clo 152 [(.ptr 0 0)]),(.ptr 1 0),(.ptr 2 0),(.ptr 3 0),.hole,.hole,.hole],[.cells true [.hole],.cells true [.hole,.hole,.hole],.cells true [.nilv,.nilv,.nilv],.cells false [.hole,(.view 4),.nilv],.seq false],[1,2,2,1,1,1,1,2,2],[kK,.int .i64,.int .i64,.sl (.cons kZ kR),kL,kK,kL,kL,kK]⟩⟩ [((.exit 2),⟨[5],⟨[(.ptr 0 0)],[.cells false [.hole,(.view 1),.nilv],.seq false],[2,2],[kL,kK]⟩⟩)] (lp un ze)
theorem HP:UK R7 (xR (zn Tryz.f107) [1,1,1,0,1,0]) UE:=vE .run zu zbQ ob0
def Ug:Un:=lpU 2 [16,17,18,7,19,20,21,22,23,24,25,26,27,28,29,30,31,15] ⟨[1,2,4,5,13,14,15],⟨[(.clo 152 [(.ptr 0 0)]),(.ptr 1 0),(.ptr 2 0),(.ptr 3 0),.hole,.hole,.hole],[.cells true [.hole],.cells true [.hole,.hole,.hole],.cells true [.nilv,.nilv,.nilv],.cells false [(.view 4),.nilv,.nilv],.seq false],[1,2,2,1,1,1,1,2],[kL,.int .i64,.int .i64,.sl (.cons kZ kR),kL,kK,kL,kL]⟩⟩ [((.exit 0),⟨[5],⟨[(.ptr 0 0)],[.cells false [(.view 1),.nilv,.nilv],.seq false],[2],[kL]⟩⟩)] (lp v7 ze)
theorem Og:UK R7 (xR (zn Tryz.f107) [1,1,0,1,0]) Ug:=vE .run zu zbQ ob0
theorem zcP:SK 107 za9:=yq (.seq .run (.seq .run (.seq (.seq .run (.block (.unit Ug))) (.seq (.seq .run (.block (.unit UE))) (.seq (.seq .run (.block (.unit UH))) .run))))) [.cell 4 28] zd zu Pe Tryz.func107 (ob1 Og (ob1 HP (ob1 Pl ob0)))
def zfz:ShC:=⟨⟨[.hole,(.agg [.hole,.hole,.hole])],[],[1,1,1,1],[.sl (.cons kZ kR),kL,kK,kL]⟩,⟨[(.agg [.hole,.hole,(.view 0)])],[.seq false],[2,2,2],[kL,kK,kL]⟩,1,[],[],false,false,fun (x:((List (Int×jI))×jQ×jR×jQ))=>rE x.1 x.2.1 x.2.2.1 x.2.2.2⟩
theorem EB:SK 100 zfz:=yq .run [.cell 4 28] zd zu (gd1 zcP zb) Tryz.func100 ob0
def Oi:ShC:=⟨⟨[.hole,.hole],[],[1,1],[kJ,kJ]⟩,⟨[.hole],[],[2],[.bool]⟩,1,[],[],false,false,fun (x:(jI×jI))=>yR x.1 x.2⟩
theorem O5:GD Oi []:=zb
def zcp:=u9 tb gl O5 Oi Tryz.f78
theorem zfx:VK zcp:=zq zd O5
def Tx:Un:=lpU 2 [14,15,5,16,17,18,19,20,21,22,23,24,4,25,13] ⟨[0,1,12,13],⟨[.hole,.hole,.hole,.hole],[],[1,1,2,2],[kJ,kJ,.int .i64,.int .i64]⟩⟩ [((.exit 0),⟨[],⟨[],[],[],[]⟩⟩),(.ret,⟨[4],⟨[.hole],[],[2],[.bool]⟩⟩)] (lp vD ze)
theorem LX:UK zcp (xR (zn Tryz.f78) [1,1,0,1,0]) Tx:=vE .run zu zfx ob0
theorem DZ:SK 78 Oi:=yq (.seq .run (.seq .run (.seq (.seq .run (.block (.unit Tx))) .run))) [.tmp 4] zd zu O5 Tryz.func78 (ob1 LX ob0)
def zdF:ShC:=⟨⟨[(.agg [.hole,.hole]),(.agg [.hole,.hole])],[],[1,1,1,1],[.bool,kJ,.bool,kJ]⟩,⟨[.hole],[],[2],[.bool]⟩,1,[],[],false,false,fun (x:(Bool×jI×Bool×jI))=>QY x.1 x.2.1 x.2.2.1 x.2.2.2⟩
theorem SN:SK 76 zdF:=yq .run [.tmp 4] zd zu (gd1 DZ zb) Tryz.func76 ob0
def zeP:ShC:=⟨⟨[(.agg [.hole,.hole]),(.ptr 0 0)],[.cells true [.hole,.hole]],[1,1,1,1],[.bool,kJ,.bool,kJ]⟩,⟨[.hole],[],[2],[.bool]⟩,1,[],[],false,false,fun (x:(Bool×jI×Bool×jI))=>sX x.1 x.2.1 x.2.2.1 x.2.2.2⟩
theorem zeC:SK 222 zeP:=yq .run [.tmp 3] zd zu (gd1 SN zb) Tryz.func222 ob0
def zbE:ShC:=⟨⟨[.hole,(.clo 222 [(.ptr 0 0)])],[.cells true [.hole,.hole]],[1,1,1],[kL,.bool,kJ]⟩,⟨[.hole],[],[2],[.int .i64]⟩,1,[],[],false,false,fun (x:(jQ×Bool×jI))=>rQ x.1 x.2.1 x.2.2⟩
theorem MU:GD zbE [(222,.gen (qp [zeP]))]:=(gd1 zeC zb)
def zdf:=u9 tb gl MU zbE Tryz.f146
theorem zgk:VK zdf:=zq zd MU
def T0:Un:=lpU 2 [9,10,5,11,12,13,14,15,16,17,4,18,8] ⟨[0,1,7,8],⟨[.hole,(.clo 222 [(.ptr 0 0)]),.hole,.hole],[.cells true [.hole,.hole]],[1,2,2,2,1],[kL,.int .i64,.int .i64,.bool,kJ]⟩⟩ [((.exit 0),⟨[],⟨[],[],[],[]⟩⟩),(.ret,⟨[4],⟨[.hole],[],[2],[.int .i64]⟩⟩)] (lp qX ze)
theorem NQ:UK zdf (xR (zn Tryz.f146) [1,0,1,0]) T0:=vE .run zu zgk ob0
theorem zcn:SK 146 zbE:=yq (.seq .run (.seq (.seq .run (.block (.unit T0))) .run)) [.tmp 4] zd zu MU Tryz.func146 (ob1 NQ ob0)
def zeQ:ShC:=⟨⟨[.hole,(.clo 222 [(.ptr 0 0)])],[.cells true [.hole,.hole]],[1,1,1],[kL,.bool,kJ]⟩,⟨[.hole],[],[2],[.bool]⟩,1,[],[],false,false,fun (x:(jQ×Bool×jI))=>wg x.1 x.2.1 x.2.2⟩
theorem zdm:SK 93 zeQ:=yq .run [.tmp 4] zd zu (gd1 zcn zb) Tryz.func93 ob0
def PM:ShC:=⟨⟨[.hole],[],[1],[kL]⟩,⟨[(.view 0)],[.seq false],[0],[kL]⟩,1,[],[],true,false,fun (x:jQ)=>kX x⟩
theorem MS:GD PM [(93,.gen (qp [zeQ]))]:=(gd1 zdm zb)
def zee:=u9 tb gl MS PM Tryz.f193
theorem zgs:VK zee:=zq zd MS
def Uw:Un:=lpU 2 [9,10,11,5,12,13,14,15,16,17,18,19,3,20,8] ⟨[3,6,7,8],⟨[(.view 0),.hole,.hole,.hole],[.seq false],[1,2,2,0],[kL,.int .i64,.int .i64,kL]⟩⟩ [((.exit 0),⟨[3],⟨[(.view 0)],[.seq false],[0],[kL]⟩⟩)] (lp v9 ze)
theorem L5:UK zee (xR (zn Tryz.f193) [1,1,0,1,0]) Uw:=vE .run zu zgs ob0
theorem zef:SK 193 PM:=yq (.seq .run (.seq .run (.seq (.seq .run (.block (.unit Uw))) .run))) [.tmp 2] zd zu MS Tryz.func193 (ob1 L5 ob0)
def zeK:ShC:=⟨⟨[.hole,(.ptr 0 0)],[.cells true [.hole]],[1,1],[kJ,kJ]⟩,⟨[.hole],[],[2],[.bool]⟩,1,[],[],false,false,fun (x:(jI×jI))=>sS x.1 x.2⟩
theorem zdJ:SK 195 zeK:=yq .run [.tmp 3] zd zu (gd1 DZ zb) Tryz.func195 ob0
def zab:ShC:=⟨⟨[.hole,(.clo 195 [(.ptr 0 0)])],[.cells true [.hole]],[1,1],[kK,kJ]⟩,⟨[.hole],[],[2],[.int .i64]⟩,1,[],[],false,false,fun (x:(jR×jI))=>tU x.1 x.2⟩
theorem LE:GD zab [(195,.gen (qp [zeK]))]:=(gd1 zdJ zb)
def zcQ:=u9 tb gl LE zab Tryz.f223
theorem zfL:VK zcQ:=zq zd LE
def SQ:Un:=lpU 2 [9,10,5,11,12,13,14,15,16,17,4,18,8] ⟨[0,1,7,8],⟨[.hole,(.clo 195 [(.ptr 0 0)]),.hole,.hole],[.cells true [.hole]],[1,2,2,1],[kK,.int .i64,.int .i64,kJ]⟩⟩ [((.exit 0),⟨[],⟨[],[],[],[]⟩⟩),(.ret,⟨[4],⟨[.hole],[],[2],[.int .i64]⟩⟩)] (lp qk ze)
theorem MW:UK zcQ (xR (zn Tryz.f223) [1,0,1,0]) SQ:=vE .run zu zfL ob0
theorem zcV:SK 223 zab:=yq (.seq .run (.seq (.seq .run (.block (.unit SQ))) .run)) [.tmp 4] zd zu LE Tryz.func223 (ob1 MW ob0)
def zd7:ShC:=⟨⟨[.hole,(.clo 195 [(.ptr 0 0)])],[.cells true [.hole]],[1,1],[kK,kJ]⟩,⟨[.hole],[],[2],[.bool]⟩,1,[],[],false,false,fun (x:(jR×jI))=>xq x.1 x.2⟩
theorem zfd:SK 194 zd7:=yq .run [.tmp 4] zd zu (gd1 zcV zb) Tryz.func194 ob0
def Rj:ShC:=⟨⟨[.hole,(.aptr 0),(.ptr 1 0)],[.seq false,.cells false [.hole]],[1,1,1],[kJ,kJ,.int .i64]⟩,⟨[(.view 0),(.aptr 1),(.ptr 2 0)],[.seq false,.seq false,.cells false [.hole]],[2,0,2],[kJ,kJ,.int .i64]⟩,1,[1,2],[(0,1),(1,2)],true,false,fun (x:(jI×jI×Int))=>yZ x.1 x.2.1 x.2.2⟩
theorem Ma:GD Rj [(84,.gen (qp [zaY])),(108,.gen (qp [I8]))]:=(gd1 G0 (gd1 VA zb))
def zei:=u9 tb gl Ma Rj Tryz.f196
theorem zfM:VK zei:=zq zd Ma
def Ua:Un:=lpU 2 [13,14,15,16,6,7,17,18,19,20,21,22,23,24,25,26,27,28,29,30,31,32,33,34,35,36,37,38,12] ⟨[1,2,5,10,11,12],⟨[(.aptr 0),(.ptr 1 0),(.view 2),(.view 2),.hole,.hole],[.seq false,.cells false [.hole],.seq false],[2,2,0,2,2],[.int .i64,.int .i64,kJ,.int .i64,kJ]⟩⟩ [((.exit 0),⟨[1,2,5],⟨[(.aptr 0),(.ptr 1 0),(.view 2)],[.seq false,.cells false [.hole],.seq false],[0,2,2],[kJ,.int .i64,kJ]⟩⟩)] (lp y9 ze)
theorem Ns:UK zei (xR (zn Tryz.f196) [1,1,0,1,0]) Ua:=vE .run zu zfM ob0
theorem zes:SK 196 Rj:=yq (.seq .run (.seq .run (.seq (.seq .run (.block (.unit Ua))) .run))) [.tmp 4] zd zu Ma Tryz.func196 (ob1 Ns ob0)
def RN:ShC:=⟨⟨[(.agg [.hole,.hole,.hole]),(.clo 196 [(.aptr 0),(.ptr 1 0)])],[.seq false,.cells false [.hole]],[1,1,1,1,1],[kL,kK,kL,kJ,.int .i64]⟩,⟨[(.agg [.hole,.hole,(.view 0)]),(.clo 196 [(.aptr 1),(.ptr 2 0)])],[.seq false,.seq false,.cells false [.hole]],[2,2,2,0,2],[kL,kK,kL,kJ,.int .i64]⟩,1,[1],[(0,1),(1,2)],true,false,fun (x:(jQ×jR×jQ×jI×Int))=>Z9 x.1 x.2.1 x.2.2.1 x.2.2.2.1 x.2.2.2.2⟩
theorem Ow:GD RN [(196,.gen (qp [Rj]))]:=(gd1 zes zb)
def PP:=u9 tb gl Ow RN Tryz.f107
theorem zad:VK PP:=zq zd Ow
def SC:Un:=lpU 2 [52,53,54,11,55,56,57,58,59,60,61,62,63,64,65,66,67,51] ⟨[1,4,5,49,50,51],⟨[(.clo 196 [(.aptr 0),(.ptr 1 0)]),(.ptr 2 0),(.ptr 3 0),.hole,.hole,.hole],[.seq false,.cells false [.hole],.cells true [.nilv,.nilv,.nilv],.cells false [.hole,.hole,(.view 4)],.seq false],[1,2,2,0,2,2,2,2],[kL,.int .i64,.int .i64,kJ,.int .i64,kL,kK,kL]⟩⟩ [((.exit 4),⟨[1,5],⟨[(.clo 196 [(.aptr 0),(.ptr 1 0)]),(.ptr 2 0)],[.seq false,.cells false [.hole],.cells false [.hole,.hole,(.view 3)],.seq false],[0,2,2,2,2],[kJ,.int .i64,kL,kK,kL]⟩⟩)] (lp wJ ze)
theorem HO:UK PP (xR (zn Tryz.f107) [1,1,1,1,0,1,0]) SC:=vE (.seq .run (.seq .run (.seq (.block (.seq .run (.hide [[8,9],[8,9],[8,9],[8,9],[],[],[],[],[],[],[],[],[]]))) .run))) zu zad ob0
def Sw:Un:=lpU 2 [36,37,38,9,39,40,41,42,43,44,45,46,47,35] ⟨[1,2,4,5,33,34,35],⟨[(.clo 196 [(.aptr 0),(.ptr 1 0)]),(.ptr 2 0),(.ptr 3 0),(.ptr 4 0),.hole,.hole,.hole],[.seq false,.cells false [.hole],.cells true [.hole,.hole,.hole],.cells true [.nilv,.nilv,.nilv],.cells false [.hole,(.view 5),.nilv],.seq false],[1,2,2,0,2,1,1,1,2,2],[kK,.int .i64,.int .i64,kJ,.int .i64,kL,kK,kL,kL,kK]⟩⟩ [((.exit 2),⟨[1,5],⟨[(.clo 196 [(.aptr 0),(.ptr 1 0)]),(.ptr 2 0)],[.seq false,.cells false [.hole],.cells false [.hole,(.view 3),.nilv],.seq false],[0,2,2,2],[kJ,.int .i64,kL,kK]⟩⟩)] (lp wM ze)
theorem LJ:UK PP (xR (zn Tryz.f107) [1,1,1,0,1,0]) Sw:=vE (.seq .run (.seq .run (.seq (.block (.seq .run (.hide [[8,9],[8,9],[],[],[],[],[],[],[]]))) .run))) zu zad ob0
def Ut:Un:=lpU 2 [16,17,18,7,19,20,21,22,23,24,25,26,27,28,29,30,31,15] ⟨[1,2,4,5,13,14,15],⟨[(.clo 196 [(.aptr 0),(.ptr 1 0)]),(.ptr 2 0),(.ptr 3 0),(.ptr 4 0),.hole,.hole,.hole],[.seq false,.cells false [.hole],.cells true [.hole,.hole,.hole],.cells true [.nilv,.nilv,.nilv],.cells false [(.view 5),.nilv,.nilv],.seq false],[1,2,2,0,2,1,1,1,2],[kL,.int .i64,.int .i64,kJ,.int .i64,kL,kK,kL,kL]⟩⟩ [((.exit 0),⟨[1,5],⟨[(.clo 196 [(.aptr 0),(.ptr 1 0)]),(.ptr 2 0)],[.seq false,.cells false [.hole],.cells false [(.view 3),.nilv,.nilv],.seq false],[0,2,2],[kJ,.int .i64,kL]⟩⟩)] (lp wD ze)
theorem Mo:UK PP (xR (zn Tryz.f107) [1,1,0,1,0]) Ut:=vE (.seq .run (.seq .run (.seq (.block (.seq .run (.hide [[8,9],[8,9],[8,9],[8,9],[],[],[],[],[],[],[],[],[]]))) .run))) zu zad ob0
theorem zcJ:SK 107 RN:=yq (.seq .run (.seq .run (.seq (.seq .run (.block (.unit Ut))) (.seq (.seq .run (.block (.unit Sw))) (.seq (.seq .run (.block (.unit SC))) .run))))) [.cell 4 28] zd zu Ow Tryz.func107 (ob1 Mo (ob1 LJ (ob1 HO ob0)))
def zbh:ShC:=⟨⟨[(.agg [.hole,.hole,.hole])],[],[1,1,1],[kL,kK,kL]⟩,⟨[(.agg [.hole,.hole,(.view 0)])],[.seq false],[2,2,2],[kL,kK,kL]⟩,1,[],[],false,false,fun (x:(jQ×jR×jQ))=>YA x.1 x.2.1 x.2.2⟩
theorem Nz:GD zbh [(107,.gen (qp [RN])),(193,.gen (qp [PM])),(194,.gen (qp [zd7]))]:=(gd1 zcJ (gd1 zef (gd1 zfd zb)))
def zeE:=u9 tb gl Nz zbh Tryz.f151
theorem zgC:VK zeE:=zq zd Nz
def T4:Un:=lpU 2 [19,20,21,5,22,23,24,25,26,27,28,29,30,31,32,33,18] ⟨[2,3,16,17,18],⟨[(.ptr 0 0),(.ptr 1 0),.hole,.hole,.hole],[.cells true [.nilv,.nilv,.nilv],.cells false [.hole,(.view 2),.hole],.seq false],[1,2,2,0,0,0],[kK,.int .i64,.int .i64,kL,kL,kK]⟩⟩ [((.exit 0),⟨[3],⟨[(.ptr 0 0)],[.cells false [.hole,(.view 1),.hole],.seq false],[0,0,0],[kL,kL,kK]⟩⟩)] (lp uf ze)
theorem M8:UK zeE (xR (zn Tryz.f151) [1,1,0,1,0]) T4:=vE .run zu zgC ob0
theorem zdk:SK 151 zbh:=yq (.seq .run (.seq .run (.seq (.seq .run (.block (.unit T4))) .run))) [.cell 2 28] zd zu Nz Tryz.func151 (ob1 M8 ob0)
def zdD:ShC:=⟨⟨[.hole,(.agg [.hole,.hole,.hole])],[],[1,1,1,1],[kM,kL,kK,kL]⟩,⟨[(.agg [.hole,.hole,(.view 0)]),.hole],[.seq false],[2,2,2,2],[kL,kK,.int .i64,kL]⟩,2,[],[],false,true,fun (x:(jS×jQ×jR×jQ))=>xd x.1 x.2.1 x.2.2.1 x.2.2.2⟩
theorem JI:SK 99 zdD:=yq .run [.cell 4 28,.tmp 5] zd zu (gdG Qq (gd1 zdk zb)) Tryz.func99 ob0
def zfJ:ShC:=⟨⟨[.hole,(.agg [.hole,.hole,.hole]),.hole,(.agg [.hole,.hole,.hole]),.hole],[],[1,1,1,1,1,1,1,1,1],[kM,kL,kK,kL,.int .i64,kL,kK,kL,.int .i64]⟩,⟨[(.agg [.hole,.hole,(.view 0)]),.hole,.hole],[.seq false],[2,2,2,2,2],[kL,kK,.bool,.int .i64,kL]⟩,3,[],[],false,true,fun (x:(jS×jQ×jR×jQ×Int×jQ×jR×jQ×Int))=>vL x.1 x.2.1 x.2.2.1 x.2.2.2.1 x.2.2.2.2.1 x.2.2.2.2.2.1 x.2.2.2.2.2.2.1 x.2.2.2.2.2.2.2.1 x.2.2.2.2.2.2.2.2⟩
theorem zc6:SK 53 zfJ:=yq .run [.cell 10 28,.tmp 11,.tmp 12] zd zu (gdG zdo (gdG C9 (gdG JI (gd1 EB (gd1 DJ zb))))) Tryz.func53 ob0
def zgf:ShC:=⟨⟨[.hole,(.agg [.hole,.hole,.hole]),.hole,(.agg [.hole,.hole,.hole]),.hole],[],[1,1,1,1,1,1,1,1,1],[kM,kL,kK,kL,.int .i64,kL,kK,kL,.int .i64]⟩,⟨[(.agg [.hole,.hole,(.view 0)]),.hole,.hole],[.seq false],[2,2,2,2,2],[kL,kK,.bool,.int .i64,kL]⟩,3,[],[],false,true,fun (x:(jS×jQ×jR×jQ×Int×jQ×jR×jQ×Int))=>sH x.1 x.2.1 x.2.2.1 x.2.2.2.1 x.2.2.2.2.1 x.2.2.2.2.2.1 x.2.2.2.2.2.2.1 x.2.2.2.2.2.2.2.1 x.2.2.2.2.2.2.2.2⟩
theorem zdX:SK 109 zgf:=yq .run [.cell 10 28,.tmp 11,.tmp 12] zd zu (gdG Qq (gdG zc6 (gd1 zc0 zb))) Tryz.func109 ob0
def zgD:ShC:=⟨⟨[(.agg [.hole,.hole,.hole]),.hole],[],[1,1,1,1],[kL,kK,kL,.int .i64]⟩,⟨[.hole],[],[2],[.bool]⟩,1,[],[],false,false,fun (x:(jQ×jR×jQ×Int))=>tK x.1 x.2.1 x.2.2.1 x.2.2.2⟩
theorem Us:SK 159 zgD:=yq .run [.tmp 4] zd zu zb Tryz.func159 ob0
def zfI:ShC:=⟨⟨[.hole,(.agg [.hole,.hole,.hole]),.hole,.hole],[],[1,1,1,1,1,1],[kM,kL,kK,kL,.int .i64,.int .i64]⟩,⟨[(.agg [.hole,.hole,(.view 0)]),.hole,.hole],[.seq false],[2,2,2,2,2],[kL,kK,.bool,.int .i64,kL]⟩,3,[],[],false,true,fun (x:(jS×jQ×jR×jQ×Int×Int))=>Zg x.1 x.2.1 x.2.2.1 x.2.2.2.1 x.2.2.2.2.1 x.2.2.2.2.2⟩
theorem zel:SK 56 zfI:=yq .run [.cell 8 28,.tmp 9,.tmp 10] zd zu (gdG C9 (gdG JI (gd1 EB (gd1 DJ zb)))) Tryz.func56 ob0
def zgj:ShC:=⟨⟨[.hole,(.agg [.hole,.hole,.hole]),.hole,.hole],[],[1,1,1,1,1,1],[kM,kL,kK,kL,.int .i64,.int .i64]⟩,⟨[(.agg [.hole,.hole,(.view 0)]),.hole,.hole],[.seq false],[2,2,2,2,2],[kL,kK,.bool,.int .i64,kL]⟩,3,[],[],false,true,fun (x:(jS×jQ×jR×jQ×Int×Int))=>ku x.1 x.2.1 x.2.2.1 x.2.2.2.1 x.2.2.2.2.1 x.2.2.2.2.2⟩
theorem zcS:SK 110 zgj:=yq .run [.cell 8 28,.tmp 9,.tmp 10] zd zu (gdG Qq (gdG zel (gd1 Us zb))) Tryz.func110 ob0
def zgw:ShC:=⟨⟨[(.agg [.hole,.hole,.hole]),.hole,.hole],[],[1,1,1,1,1],[kL,kK,kL,.int .i64,.bool]⟩,⟨[.hole],[],[2],[.bool]⟩,1,[],[],false,false,fun (x:(jQ×jR×jQ×Int×Bool))=>t6 x.1 x.2.1 x.2.2.1 x.2.2.2.1 x.2.2.2.2⟩
theorem UQ:SK 160 zgw:=yq .run [.tmp 6] zd zu zb Tryz.func160 ob0
def zfr:ShC:=⟨⟨[.hole,(.agg [.hole,.hole,.hole]),(.agg [.hole,.hole,.hole])],[],[1,1,1,1,1,1,1],[kM,kL,kK,kL,kL,kK,kL]⟩,⟨[(.agg [(.view 0),(.view 1),(.view 2)]),.hole],[.seq false,.seq false,.seq false],[2,2,2,2],[.bool,kL,kK,kL]⟩,2,[],[],false,true,fun (x:(jS×jQ×jR×jQ×jQ×jR×jQ))=>si x.1 x.2.1 x.2.2.1 x.2.2.2.1 x.2.2.2.2.1 x.2.2.2.2.2.1 x.2.2.2.2.2.2⟩
theorem ze2:SK 97 zfr:=yq .run [.cell 6 28,.tmp 7] zd zu (gdG HI (gd1 Uc zb)) Tryz.func97 ob0
def zdt:ShC:=⟨⟨[.hole,.hole],[],[1,1],[kM,kJ]⟩,⟨[(.view 0)],[.seq false],[0],[kK]⟩,1,[],[],true,false,fun (x:(jS×jI))=>uQ x.1 x.2⟩
theorem OP:SK 200 zdt:=yq .run [.tmp 4] zd zu (gd1 LO zb) Tryz.func200 ob0
def zfG:ShC:=⟨⟨[.hole,.hole],[],[1,1],[kM,kJ]⟩,⟨[.hole],[],[2],[.bool]⟩,1,[],[],false,true,fun (x:(jS×jI))=>tA x.1 x.2⟩
theorem Ss:SK 186 zfG:=yq .run [.tmp 4] zd zu (gdG Nc zb) Tryz.func186 ob0
def RI:ShC:=⟨⟨[.hole],[],[1],[kJ]⟩,⟨[.hole],[],[2],[.ar kI 24]⟩,1,[],[],false,false,fun (x:jI)=>ji x⟩
theorem M5:GD RI [(84,.gen (qp [zaY]))]:=(gd1 G0 zb)
def zdu:=u9 tb gl M5 RI Tryz.f228
theorem zf2:VK zdu:=zq zd M5
def S9:Un:=lpU 2 [8,9,10,4,11,12,13,14,15,16,17,18,19,7] ⟨[2,5,6,7],⟨[(.aptr 0),.hole,.hole,.hole],[.seq false],[1,2,2,2],[kJ,.int .i64,.int .i64,kJ]⟩⟩ [((.exit 0),⟨[2],⟨[(.aptr 0)],[.seq false],[2],[kJ]⟩⟩)] (lp ub ze)
theorem L9:UK zdu (xR (zn Tryz.f228) [1,0,1,0]) S9:=vE .run zu zf2 ob0
theorem zeH:SK 228 RI:=yq (.seq .run (.seq (.seq .run (.block (.unit S9))) .run)) [.cell 2 218] zd zu M5 Tryz.func228 (ob1 L9 ob0)
def PR:ShC:=⟨⟨[.hole,.hole],[],[1,1],[kJ,kJ]⟩,⟨[.hole],[],[2],[.bool]⟩,1,[],[],false,false,fun (x:(jI×jI))=>jE x.1 x.2⟩
theorem Na:GD PR [(228,.gen (qp [RI]))]:=(gd1 zeH zb)
def zdK:=u9 tb gl Na PR Tryz.f218
theorem zft:VK zdK:=zq zd Na
def SM:Un:=lpU 2 [13,14,7,15,16,17,18,19,20,21,4,22,12] ⟨[5,6,12],⟨[(.aptr 0),(.aptr 1),.hole],[.seq false,.seq false],[2,2,2],[.int .i64,kJ,kJ]⟩⟩ [((.exit 0),⟨[],⟨[],[],[],[]⟩⟩),(.ret,⟨[4],⟨[.hole],[],[2],[.bool]⟩⟩)] (lp wc ze)
theorem MX:UK zdK (xR (zn Tryz.f218) [1,1,0,1,0]) SM:=vE .run zu zft ob0
theorem zdG:SK 218 PR:=yq (.seq .run (.seq .run (.seq (.seq .run (.block (.unit SM))) .run))) [.tmp 4] zd zu Na Tryz.func218 (ob1 MX ob0)
def P5:ShC:=⟨⟨[.hole,.hole],[],[1,1],[kM,kJ]⟩,⟨[.hole],[],[2],[.int .i64]⟩,1,[],[],false,false,fun (x:(jS×jI))=>Yh x.1 x.2⟩
theorem HJ:GD P5 []:=zb
def zdq:=u9 tb gl HJ P5 Tryz.f219
theorem zfF:VK zdq:=zq zd HJ
def TG:Un:=lpU 2 [11,12,13,7,14,15,16,17,5,18,19,20,21,22,23,24,5,25,10] ⟨[0,5,8,9,10],⟨[.hole,.hole,.hole,.hole,.hole],[],[1,2,1,2,2],[kM,.int .i64,kJ,.int .i64,.int .i64]⟩⟩ [((.exit 0),⟨[5],⟨[.hole],[],[2],[.int .i64]⟩⟩)] (lp sE ze)
theorem LL:UK zdq (xR (zn Tryz.f219) [1,1,0,1,0]) TG:=vE .run zu zfF ob0
theorem zcG:SK 219 P5:=yq (.seq .run (.seq .run (.seq (.seq .run (.block (.unit TG))) .run))) [.tmp 4] zd zu HJ Tryz.func219 (ob1 LL ob0)
def P0:ShC:=⟨⟨[.hole,.hole,.hole],[],[1,1,1],[kM,kJ,kJ]⟩,⟨[.hole,.hole],[],[0,0],[kJ,kJ]⟩,2,[],[],true,false,fun (x:(jS×jI×jI))=>QI x.1 x.2.1 x.2.2⟩
theorem HY:GD P0 [(78,.gen (qp [Oi])),(199,.gen (qp [MM]))]:=(gd1 DZ (gd1 LO zb))
def zeJ:=u9 tb gl HY P0 Tryz.f220
theorem zfu:VK zeJ:=zq zd HY
def UC:Un:=lpU 2 [19,20,21,22,9,10,23,24,25,26,27,28,29,30,31,32,33,34,35,36,37,38,39,40,6,7,41,18] ⟨[8,16,17,18],⟨[.hole,.hole,.hole,.hole],[],[0,0,2,2],[kK,kK,.int .i64,.int .i64]⟩⟩ [((.exit 0),⟨[],⟨[],[],[],[]⟩⟩),(.ret,⟨[6,7],⟨[.hole,.hole],[],[0,0],[kJ,kJ]⟩⟩)] (lp vC ze)
theorem H6:UK zeJ (xR (zn Tryz.f220) [1,1,0,1,0]) UC:=vE .run zu zfu ob0
theorem zde:SK 220 P0:=yq (.seq .run (.seq .run (.seq (.seq .run (.block (.unit UC))) .run))) [.tmp 6,.tmp 7] zd zu HY Tryz.func220 (ob1 H6 ob0)
def zbr:ShC:=⟨⟨[.hole,.hole,.hole],[],[1,1,1],[kM,kJ,kJ]⟩,⟨[.hole],[],[2],[.bool]⟩,1,[],[],false,false,fun (x:(jS×jI×jI))=>x6 x.1 x.2.1 x.2.2⟩
theorem Mv:GD zbr [(218,.gen (qp [PR])),(219,.gen (qp [P5])),(220,.gen (qp [P0]))]:=(gd1 zdG (gd1 zcG (gd1 zde zb)))
def zeN:=u9 tb gl Mv zbr Tryz.f187
theorem zfX:VK zeN:=zq zd Mv
def T9:Un:=lpU 2 [9,10,11,12,13,14,15,16,17,18,19,20,21,7,8,22,23,24,25,26,27,6,28,29,30,31,32,33,34,35,36,37,38,39,40,41,6,43,44,45,46,47,48,42,49,50,1,2] ⟨[0,1,2],⟨[.hole,.hole,.hole],[],[1,0,0],[kM,kJ,kJ]⟩⟩ [((.exit 0),⟨[],⟨[],[],[],[]⟩⟩),(.ret,⟨[6],⟨[.hole],[],[2],[.bool]⟩⟩)] (lp so ze)
theorem Nr:UK zeN (xR (zn Tryz.f187) [1,0,0]) T9:=vE .run zu zfX ob0
theorem zeW:SK 187 zbr:=yq (.seq .run (.seq (.block (.unit T9)) .run)) [.tmp 6] zd zu Mv Tryz.func187 (ob1 Nr ob0)
def zf8:ShC:=⟨⟨[.hole,.hole,.hole],[],[1,1,1],[kM,kJ,kJ]⟩,⟨[.hole,.hole],[],[2,2],[.int .i64,.int .i64]⟩,2,[],[],false,true,fun (x:(jS×jI×jI))=>uO x.1 x.2.1 x.2.2⟩
theorem TW:SK 147 zf8:=yq .run [.tmp 6,.tmp 7] zd zu (gd1 DZ (gdG SJ (gdG Ss (gd1 zeW zb)))) Tryz.func147 ob0
def zgH:ShC:=⟨⟨[.hole,.hole,.hole],[],[1,1,1],[kM,kJ,kJ]⟩,⟨[.hole],[],[2],[.bool]⟩,1,[],[],false,true,fun (x:(jS×jI×jI))=>XF x.1 x.2.1 x.2.2⟩
theorem zcA:SK 201 zgH:=yq .run [.tmp 6] zd zu (gdG TW zb) Tryz.func201 ob0
def zcy:ShC:=⟨⟨[.nilv,.hole],[],[1],[.int .i64]⟩,⟨[(.view 0)],[.seq false],[2],[kJ]⟩,1,[],[],false,false,fun (x:Int)=>rT x⟩
theorem zd4:SK 229 zcy:=yq .run [.tmp 4] zd zu (gd0 1000025 zb) Tryz.func229 ob0
def RY:ShC:=⟨⟨[.hole],[],[1],[kK]⟩,⟨[(.view 0)],[.seq false],[2],[kJ]⟩,1,[],[],false,false,fun (x:jR)=>vo x⟩
theorem Ny:GD RY [(229,.gen (qp [zcy]))]:=(gd1 zd4 zb)
def U5:=u9 tb gl Ny RY Tryz.f224
theorem ze6:VK U5:=zq zd Ny
def T3:Un:=lpU 2 [28,29,30,8,31,32,33,6,34,27] ⟨[6,25,26,27],⟨[(.view 0),.hole,.hole,.hole],[.seq false],[1,2,2,2],[kK,.int .i64,.int .i64,kJ]⟩⟩ [((.exit 2),⟨[6],⟨[(.view 0)],[.seq false],[2],[kJ]⟩⟩)] (lp xB ze)
theorem LV:UK U5 (xR (zn Tryz.f224) [1,1,1,1,0,1,0]) T3:=vE .run zu ze6 ob0
def UJ:Un:=lpU 2 [12,13,14,5,15,16,17,18,3,19,20,21,22,11] ⟨[0,3,9,10,11],⟨[.hole,.hole,.hole,.hole,.hole],[],[1,2,1,2,2],[kK,.int .i64,kK,.int .i64,.int .i64]⟩⟩ [((.exit 0),⟨[3],⟨[.hole],[],[2],[.int .i64]⟩⟩)] (lp xD ze)
theorem LT:UK U5 (xR (zn Tryz.f224) [1,1,0,1,0]) UJ:=vE .run zu ze6 ob0
theorem TA:SK 224 RY:=yq (.seq .run (.seq .run (.seq (.seq .run (.block (.unit UJ))) (.seq .run (.seq (.seq .run (.block (.unit T3))) .run))))) [.tmp 2] zd zu Ny Tryz.func224 (ob1 LT (ob1 LV ob0))
def zgy:ShC:=⟨⟨[.hole,.hole,.hole,.hole],[],[1,1,1,1],[kM,kJ,.int .i64,kJ]⟩,⟨[(.view 0)],[.seq false],[2],[kJ]⟩,1,[],[],false,false,fun (x:(jS×jI×Int×jI))=>Qc x.1 x.2.1 x.2.2.1 x.2.2.2⟩
theorem zdO:SK 202 zgy:=yq .run [.tmp 8] zd zu (gd1 GP (gd1 TA zb)) Tryz.func202 ob0
def zfU:ShC:=⟨⟨[.hole,(.agg [.hole,.hole,.hole]),.hole,.hole,(.agg [.hole,.hole,.hole]),.hole,.hole],[],[1,1,1,1,1,1,1,1,1,1,1],[kM,kL,kK,kL,.int .i64,.int .i64,kL,kK,kL,.int .i64,.int .i64]⟩,⟨[(.agg [.hole,.hole,(.view 0)]),.hole,.hole],[.seq false],[2,2,2,2,2],[kL,kK,.bool,.int .i64,kL]⟩,3,[],[],false,true,fun (x:(jS×jQ×jR×jQ×Int×Int×jQ×jR×jQ×Int×Int))=>sZ x.1 x.2.1 x.2.2.1 x.2.2.2.1 x.2.2.2.2.1 x.2.2.2.2.2.1 x.2.2.2.2.2.2.1 x.2.2.2.2.2.2.2.1 x.2.2.2.2.2.2.2.2.1 x.2.2.2.2.2.2.2.2.2.1 x.2.2.2.2.2.2.2.2.2.2⟩
theorem zej:SK 161 zfU:=yq .run [.cell 14 28,.tmp 15,.tmp 16] zd zu (gdG ze2 (gdG C9 (gdG JI (gd1 EB (gd1 DJ (gd1 MO (gd1 GP (gd1 OP (gdG zcA (gd1 zdO zb)))))))))) Tryz.func161 ob0
def zf3:ShC:=⟨⟨[.hole,(.agg [.hole,.hole,.hole]),.hole,.hole,(.agg [.hole,.hole,.hole]),.hole,.hole],[],[1,1,1,1,1,1,1,1,1,1,1],[kM,kL,kK,kL,.int .i64,.int .i64,kL,kK,kL,.int .i64,.int .i64]⟩,⟨[(.agg [.hole,.hole,(.view 0)]),.hole,.hole],[.seq false],[2,2,2,2,2],[kL,kK,.bool,.int .i64,kL]⟩,3,[],[],false,true,fun (x:(jS×jQ×jR×jQ×Int×Int×jQ×jR×jQ×Int×Int))=>sc x.1 x.2.1 x.2.2.1 x.2.2.2.1 x.2.2.2.2.1 x.2.2.2.2.2.1 x.2.2.2.2.2.2.1 x.2.2.2.2.2.2.2.1 x.2.2.2.2.2.2.2.2.1 x.2.2.2.2.2.2.2.2.2.1 x.2.2.2.2.2.2.2.2.2.2⟩
theorem zdU:SK 111 zf3:=yq .run [.cell 14 28,.tmp 15,.tmp 16] zd zu (gdG Qq (gd1 UQ (gdG zej zb))) Tryz.func111 ob0
def zgz:ShC:=⟨⟨[.hole,(.agg [.hole,.hole,.hole]),.hole],[],[1,1,1,1,1],[kM,kL,kK,kL,.int .i64]⟩,⟨[(.agg [.hole,.hole,(.view 0)]),.hole,.hole],[.seq false],[2,2,2,2,2],[kL,kK,.bool,.int .i64,kL]⟩,3,[],[],false,true,fun (x:(jS×jQ×jR×jQ×Int))=>uD x.1 x.2.1 x.2.2.1 x.2.2.2.1 x.2.2.2.2⟩
theorem zfb:SK 162 zgz:=yq .run [.cell 6 28,.tmp 7,.tmp 8] zd zu (gdG C9 (gdG JI (gd1 EB (gd1 DJ (gd1 OP zb))))) Tryz.func162 ob0
def zfH:ShC:=⟨⟨[.hole,(.agg [.hole,.hole,.hole]),.hole],[],[1,1,1,1,1],[kM,kL,kK,kL,.int .i64]⟩,⟨[(.agg [.hole,.hole,(.view 0)]),.hole,.hole],[.seq false],[2,2,2,2,2],[kL,kK,.bool,.int .i64,kL]⟩,3,[],[],false,true,fun (x:(jS×jQ×jR×jQ×Int))=>tE x.1 x.2.1 x.2.2.1 x.2.2.2.1 x.2.2.2.2⟩
theorem zdx:SK 112 zfH:=yq .run [.cell 6 28,.tmp 7,.tmp 8] zd zu (gdG Qq (gd1 UQ (gdG zfb zb))) Tryz.func112 ob0
def zdg:ShC:=⟨⟨[(.agg [.hole,.hole,.hole])],[],[1,1,1],[kL,kK,kL]⟩,⟨[.hole],[],[2],[.bool]⟩,1,[],[],false,false,fun (x:(jQ×jR×jQ))=>jh x.1 x.2.1 x.2.2⟩
theorem TY:SK 163 zdg:=yq .run [.tmp 2] zd zu zb Tryz.func163 ob0
def Ey:ShC:=⟨⟨[.hole,.hole],[],[1,1],[.ns kI,kJ]⟩,⟨[.hole],[],[2],[.bool]⟩,1,[],[],false,false,fun (x:((Option jI)×jI))=>wX x.1 x.2⟩
theorem B3:GD Ey []:=zb
def TS:=u9 tb gl B3 Ey Tryz.f78
theorem zcW:VK TS:=zq zd B3
def MK:Un:=lpU 2 [14,15,5,16,17,18,19,20,21,22,23,24,4,25,13] ⟨[0,1,12,13],⟨[.hole,.hole,.hole,.hole],[],[1,1,2,2],[.ns kI,kJ,.int .i64,.int .i64]⟩⟩ [((.exit 0),⟨[],⟨[],[],[],[]⟩⟩),(.ret,⟨[4],⟨[.hole],[],[2],[.bool]⟩⟩)] (lp xY ze)
theorem Fm:UK TS (xR (zn Tryz.f78) [1,1,0,1,0]) MK:=vE .run zu zcW ob0
theorem zbF:SK 78 Ey:=yq (.seq .run (.seq .run (.seq (.seq .run (.block (.unit MK))) .run))) [.tmp 4] zd zu B3 Tryz.func78 (ob1 Fm ob0)
def Es:ShC:=⟨⟨[(.aptr 0),.hole,.hole,.hole],[.seq false],[1,1,1,1],[kM,kJ,kJ,.sl (.one (.ns kI))]⟩,⟨[.hole,(.aptr 0)],[.seq false],[2,1],[.bool,.sl (.one (.ns kI))]⟩,1,[0],[(0,0)],true,false,fun (x:(jS×jI×jI×(List (Option jI))))=>qM x.1 x.2.1 x.2.2.1 x.2.2.2⟩
theorem AJ:GD Es [(78,.gen (qp [Ey])),(84,.gen (qp [zaY])),(185,.gen (qp [Cd]))]:=(gd1 zbF (gd1 G0 (gd1 GP zb)))
def Ux:=u9 tb gl AJ Es Tryz.f205
theorem zeL:VK Ux:=zq zd AJ
def NR:Un:=lpU 2 [19,20,21,11,22,23,24,25,8,26,27,28,29,30,31,32,33,8,34,35,9,37,38,39,40,36,41,42,12,13,43,44,8,45,46,47,48,49,50,14,15,51,52,53,54,55,56,57,58,59,60,61,62,63,64,65,66,67,68,69,8,70,9,71,18] ⟨[0,1,3,9,16,17,18],⟨[(.aptr 0),.hole,.hole,.hole,.hole,.hole,.hole],[.seq false],[1,1,2,1,2,2,1],[kM,kJ,.int .i64,kJ,.int .i64,.int .i64,.sl (.one (.ns kI))]⟩⟩ [((.exit 0),⟨[0,9],⟨[(.aptr 0),.hole],[.seq false],[2,1],[.int .i64,.sl (.one (.ns kI))]⟩⟩),(.ret,⟨[0,8],⟨[(.aptr 0),.hole],[.seq false],[2,1],[.bool,.sl (.one (.ns kI))]⟩⟩)] (lp qU ze)
theorem FO:UK Ux (xR (zn Tryz.f205) [1,1,0,1,0]) NR:=vE .run zu zeL ob0
theorem Mb:SK 205 Es:=yq (.seq .run (.seq .run (.seq (.seq .run (.block (.unit NR))) .run))) [.tmp 8] zd zu AJ Tryz.func205 (ob1 FO ob0)
def Lq:ShC:=⟨⟨[(.agg [.hole,.hole]),(.ptr 0 0),(.ptr 1 0)],[.cells true [.hole,.hole],.cells true [.hole]],[1,1,1,1,1],[.bool,kJ,.bool,kJ,kM]⟩,⟨[.hole],[],[2],[.bool]⟩,1,[],[],false,false,fun (x:(Bool×jI×Bool×jI×jS))=>xJ x.1 x.2.1 x.2.2.1 x.2.2.2.1 x.2.2.2.2⟩
theorem Mn:SK 204 Lq:=yq .run [.tmp 4] zd zu (gd1 Mb zb) Tryz.func204 ob0
def CZ:ShC:=⟨⟨[.hole,(.clo 204 [(.ptr 0 0),(.ptr 1 0)])],[.cells true [.hole,.hole],.cells true [.hole]],[1,1,1,1],[kL,.bool,kJ,kM]⟩,⟨[.hole],[],[2],[.int .i64]⟩,1,[],[],false,false,fun (x:(jQ×Bool×jI×jS))=>tz x.1 x.2.1 x.2.2.1 x.2.2.2⟩
theorem Af:GD CZ [(204,.gen (qp [Lq]))]:=(gd1 Mn zb)
def Uz:=u9 tb gl Af CZ Tryz.f146
theorem zcb:VK Uz:=zq zd Af
def MY:Un:=lpU 2 [9,10,5,11,12,13,14,15,16,17,4,18,8] ⟨[0,1,7,8],⟨[.hole,(.clo 204 [(.ptr 0 0),(.ptr 1 0)]),.hole,.hole],[.cells true [.hole,.hole],.cells true [.hole]],[1,2,2,2,1,1],[kL,.int .i64,.int .i64,.bool,kJ,kM]⟩⟩ [((.exit 0),⟨[],⟨[],[],[],[]⟩⟩),(.ret,⟨[4],⟨[.hole],[],[2],[.int .i64]⟩⟩)] (lp yX ze)
theorem E5:UK Uz (xR (zn Tryz.f146) [1,0,1,0]) MY:=vE .run zu zcb ob0
theorem zai:SK 146 CZ:=yq (.seq .run (.seq (.seq .run (.block (.unit MY))) .run)) [.tmp 4] zd zu Af Tryz.func146 (ob1 E5 ob0)
def Mk:ShC:=⟨⟨[(.view 0),(.clo 204 [(.ptr 1 0),(.ptr 2 0)])],[.seq false,.cells true [.hole,.hole],.cells true [.hole]],[1,1,1,1],[kL,.bool,kJ,kM]⟩,⟨[(.view 0)],[.seq false],[0],[kL]⟩,1,[],[],true,false,fun (x:(jQ×Bool×jI×jS))=>vI x.1 x.2.1 x.2.2.1 x.2.2.2⟩
theorem AF:GD Mk [(146,.gen (qp [CZ])),(204,.gen (qp [Lq])),(1000041,.gen (qp []))]:=(gd1 zai (gd1 Mn (gd0 1000041 zb)))
def Ti:=u9 tb gl AF Mk Tryz.f203
theorem zez:VK Ti:=zq zd AF
def OU:Un:=lpU 2 [16,17,18,19,22,23,24,25,7,26,27,28,29,30,31,32,33,34,35,5,20,21,6] ⟨[0,1,5,6],⟨[(.view 0),(.clo 204 [(.ptr 1 0),(.ptr 2 0)]),.hole,.hole],[.seq false,.cells true [.hole,.hole],.cells true [.hole]],[2,2,0,2,1,1],[.int .i64,.int .i64,kL,.bool,kJ,kM]⟩⟩ [((.exit 0),⟨[0,5],⟨[(.view 0),.hole],[.seq false],[2,0],[.int .i64,kL]⟩⟩)] (lp yi ze)
theorem FN:UK Ti (xR (zn Tryz.f203) [1,1,1,0,1,0]) OU:=vE .run zu zez ob0
theorem zbc:SK 203 Mk:=yq (.seq .run (.seq .run (.seq .run (.seq (.seq .run (.block (.unit OU))) .run)))) [.tmp 4] zd zu AF Tryz.func203 (ob1 FN ob0)
def zda:ShC:=⟨⟨[.hole,(.agg [.hole,.hole]),(.agg [.hole,.hole,.hole])],[],[1,1,1,1,1,1],[kM,.bool,kJ,kL,kK,kL]⟩,⟨[(.agg [.hole,.hole,(.view 0)]),.hole,.hole],[.seq false],[2,2,2,2,2],[kL,kK,.int .i64,.int .i64,kL]⟩,3,[],[],false,true,fun (x:(jS×Bool×jI×jQ×jR×jQ))=>Km x.1 x.2.1 x.2.2.1 x.2.2.2.1 x.2.2.2.2.1 x.2.2.2.2.2⟩
theorem UZ:SK 164 zda:=yq (.seq .run (.seq .run (.seq .run (.seq .run (.seq .run (.seq (.hide [[],[32],[32],[32],[32],[32],[32],[32],[],[],[]]) .run)))))) [.cell 6 28,.tmp 7,.tmp 8] zd zu (gdG Qq (gd1 Om (gdG Tp (gdG JI (gd1 zbc zb))))) Tryz.func164 ob0
def Tj:ShC:=⟨⟨[.hole,.hole,.hole],[],[1,1,1],[kM,kJ,kJ]⟩,⟨[.hole],[],[2],[.bool]⟩,1,[],[],false,true,fun (x:(jS×jI×jI))=>rx x.1 x.2.1 x.2.2⟩
theorem OT:SK 206 Tj:=yq .run [.tmp 6] zd zu (gdG TW zb) Tryz.func206 ob0
def NT:ShC:=⟨⟨[.hole,(.agg [.hole,.hole,.hole])],[],[1,1,1,1],[kM,kL,kK,kL]⟩,⟨[(.agg [(.view 0),(.view 1)]),.hole,.hole],[.seq false,.seq false],[2,2,2,2],[.bool,.int .i64,kJ,kJ]⟩,3,[],[],false,true,fun (x:(jS×jQ×jR×jQ))=>Wg x.1 x.2.1 x.2.2.1 x.2.2.2⟩
theorem BP:GD NT [(25,.gen (qp [RS])),(108,.gen (qp [I8])),(163,.gen (qp [zdg])),(200,.gen (qp [zdt])),(206,.gen (qp [Tj]))]:=(gdG Qq (gd1 VA (gd1 TY (gd1 OP (gdG OT zb)))))
def Tq:=u9 tb gl BP NT Tryz.f165
theorem zdd:VK Tq:=zq zd BP
def NX:Un:=lpU 2 [45,46,8,47,48,49,50,51,52,53,54,55,56,57,58,59,60,61,62,63,64,65,66,67,68,69,5,6,70,44] ⟨[0,4,7,43,44],⟨[.hole,(.ptr 0 0),.hole,.hole,.hole],[.cells false [.nilv,.nilv]],[1,0,2,2],[kM,kK,.int .i64,.int .i64]⟩⟩ [((.exit 0),⟨[4],⟨[(.ptr 0 0)],[.cells false [.nilv,.nilv]],[],[]⟩⟩),(.ret,⟨[4,5,6],⟨[(.ptr 0 0),.hole,.hole],[.cells false [(.view 1),(.view 2)],.seq false,.seq false],[2,2,2,2],[.bool,.int .i64,kJ,kJ]⟩⟩)] (lp ry ze)
theorem FL:UK Tq (xR (zn Tryz.f165) [1,1,1,1,0,1,0]) NX:=vE .run zu zdd ob0
theorem zac:SK 165 NT:=yq (.seq .run (.seq .run (.seq .run (.seq .run (.seq (.seq .run (.block (.unit NX))) .run))))) [.cell 4 160,.tmp 5,.tmp 6] zd zu BP Tryz.func165 (ob1 FL ob0)
def Tw:ShC:=⟨⟨[.hole,(.agg [.hole,.hole])],[],[1,1,1],[kM,kJ,kJ]⟩,⟨[.hole],[],[2],[.bool]⟩,1,[],[],false,true,fun (x:(jS×jI×jI))=>uH x.1 x.2.1 x.2.2⟩
theorem zax:SK 207 Tw:=yq .run [.tmp 4] zd zu (gdG Ss (gdG OT zb)) Tryz.func207 ob0
def Ej:ShC:=⟨⟨[(.aptr 0)],[.seq false],[1],[.sl (.one (.ns kI))]⟩,⟨[(.view 0),(.aptr 1)],[.seq false,.seq false],[2,1],[.sl (.cons kZ kR),.sl (.one (.ns kI))]⟩,1,[0],[(0,1)],true,false,fun (x:(List (Option jI)))=>vV x⟩
theorem AT:GD Ej [(84,.gen (qp [zaY])),(108,.gen (qp [I8]))]:=(gd1 G0 (gd1 VA zb))
def UN:=u9 tb gl AT Ej Tryz.f225
theorem zeT:VK UN:=zq zd AT
def OF:Un:=lpU 2 [9,10,11,12,13,4,5,14,15,16,17,18,19,20,21,22,23,24,25,26,27,28,29,30,31,32,33,34,35,3,36,8] ⟨[0,3,6,8],⟨[(.aptr 0),(.view 1),(.aptr 0),.hole],[.seq false,.seq false],[2,1,2],[.int .i64,.sl (.one (.ns kI)),.sl (.cons kZ kR)]⟩⟩ [((.exit 0),⟨[0,3],⟨[(.aptr 0),(.view 1)],[.seq false,.seq false],[1,2],[.sl (.one (.ns kI)),.sl (.cons kZ kR)]⟩⟩)] (lp qV ze)
theorem Ht:UK UN (xR (zn Tryz.f225) [1,1,0,1,0]) OF:=vE .run zu zeT ob0
theorem zbA:SK 225 Ej:=yq (.seq .run (.seq .run (.seq (.seq .run (.block (.unit OF))) .run))) [.tmp 2] zd zu AT Tryz.func225 (ob1 Ht ob0)
def EE:ShC:=⟨⟨[.hole,(.agg [.hole,.hole]),.hole],[],[1,1,1,1],[kM,kJ,kJ,kJ]⟩,⟨[.hole,.hole,.hole],[],[2,2,2],[kJ,.int .i64,.bool]⟩,3,[],[],false,false,fun (x:(jS×jI×jI×jI))=>ju x.1 x.2.1 x.2.2.1 x.2.2.2⟩
theorem BZ:GD EE [(108,.gen (qp [I8])),(153,.gen (qp [P3])),(185,.gen (qp [Cd])),(205,.gen (qp [Es])),(224,.gen (qp [RY])),(225,.gen (qp [Ej]))]:=(gd1 VA (gd1 MO (gd1 GP (gd1 Mb (gd1 TA (gd1 zbA zb))))))
def HM:=u9 tb gl BZ EE Tryz.f208
theorem zd1:VK HM:=zq zd BZ
def Lm:Un:=scU HM [15,16,9,10,11,17,18,19,20,21,22,6,7,8,24,25,26,27,23,28,29,12,13,14,30,31,32,33,34,35,36,37,38,39,40,11,41,42,6,7,8,43,44,45,46,47,48,49,50,51,52,53,54,9,55,56,57,6,7,8,58,59,10,11] [(.goto 0,⟨[0,4,9,10,11],⟨[.hole,(.ptr 0 0),.hole,.hole,.hole],[.cells true [.hole,.hole]],[1,2,2,2,1,1],[kM,kJ,.int .i64,.int .i64,kJ,kJ]⟩⟩)] [(.ret,⟨[6,7,8],⟨[.hole,.hole,.hole],[],[2,2,2],[kJ,.int .i64,.bool]⟩⟩)] (Ac (xR (zn Tryz.f208) [1])) (.seq .run (.seq .run (.seq .run (.seq .run (.seq .run (.seq .run (.seq .run (.seq .run (.seq (.hide [[184],[184],[184],[],[184],[184],[],[184],[184],[184],[],[],[]]) .run))))))))) (lp zL ze)
theorem Hq:UK HM (xR (zn Tryz.f208) [1]) Lm:=zex [(0,(.seq .run (.seq .run (.seq .run (.seq .run (.seq .run (.seq .run (.seq (.hide [[113],[113],[113],[],[113],[113],[],[113],[113],[113],[],[],[]]) .run))))))))] zu zd1 ob0 (zgN ob0 zen)
theorem UY:SK 208 EE:=yq (.seq .run (.unit Lm)) [.tmp 6,.tmp 7,.tmp 8] zd zu BZ Tryz.func208 (ob1 Hq ob0)
def Lv:ShC:=⟨⟨[.hole,(.agg [.hole,.hole]),(.agg [.hole,.hole,.hole])],[],[1,1,1,1,1,1],[kM,kJ,kJ,kL,kK,kL]⟩,⟨[(.agg [.hole,.hole,(.view 0)]),.hole,.hole],[.seq false],[2,2,2,2,2],[kL,kK,.int .i64,.int .i64,kL]⟩,3,[],[],false,true,fun (x:(jS×jI×jI×jQ×jR×jQ))=>Z7 x.1 x.2.1 x.2.2.1 x.2.2.2.1 x.2.2.2.2.1 x.2.2.2.2.2⟩
theorem Cp:GD Lv [(25,.gen (qp [RS])),(64,.gen (qp [zd9])),(99,.gen (qp [zdD])),(207,.gen (qp [Tw])),(208,.gen (qp [EE]))]:=(gdG Qq (gd1 Om (gdG JI (gdG zax (gd1 UY zb)))))
def Uv:=u9 tb gl Cp Lv Tryz.f166
theorem zct:VK Uv:=zq zd Cp
def Md:Un:=lpU 2 [35,36,37,38,12,11,40,41,42,43,44,45,39,46,47,48,13,14,15,49,50,51,7,8,52,53,54,55,56,57,58,59,60,61,62,63,64,65,66,10,67,34] ⟨[0,4,6,9,10,32,33,34],⟨[.hole,(.ptr 0 0),(.ptr 1 0),(.ptr 2 0),.hole,(.view 3),.hole,.hole],[.cells true [.hole,.hole],.cells false [.nilv,.nilv,.nilv],.cells false [(.view 3),.hole,.hole],.seq false],[1,2,2,2,1,1,2,2,2],[kM,.int .i64,.int .i64,.int .i64,kJ,kJ,kK,kL,kL]⟩⟩ [((.exit 0),⟨[6,9,10],⟨[(.ptr 0 0),(.ptr 1 0),.hole],[.cells false [.nilv,.nilv,.nilv],.cells false [(.view 2),.hole,.hole],.seq false],[2,2,2,2],[.int .i64,kK,kL,kL]⟩⟩),(.ret,⟨[6,7,8],⟨[(.ptr 0 0),.hole,.hole],[.cells false [.nilv,.nilv,.nilv]],[2,2],[.int .i64,.int .i64]⟩⟩)] (lp ve ze)
theorem F7:UK Uv (xR (zn Tryz.f166) [1,1,1,0,1,0]) Md:=vE .run zu zct ob0
theorem zaH:SK 166 Lv:=yq (.seq .run (.seq .run (.seq .run (.seq (.seq .run (.block (.unit Md))) .run)))) [.cell 6 28,.tmp 7,.tmp 8] zd zu Cp Tryz.func166 (ob1 F7 ob0)
def zdh:ShC:=⟨⟨[.hole,.hole,(.agg [.hole,.hole,.hole]),(.agg [.hole,.hole,.hole])],[],[1,1,1,1,1,1,1,1],[kM,.int .i64,kL,kK,kL,kL,kK,kL]⟩,⟨[(.agg [.hole,.hole,(.view 0)]),.hole],[.seq false],[2,2,2,2],[kL,kK,.bool,kL]⟩,2,[],[],false,true,fun (x:(jS×Int×jQ×jR×jQ×jQ×jR×jQ))=>vJ x.1 x.2.1 x.2.2.1 x.2.2.2.1 x.2.2.2.2.1 x.2.2.2.2.2.1 x.2.2.2.2.2.2.1 x.2.2.2.2.2.2.2⟩
theorem U8:SK 113 zdh:=yq (.seq .run (.seq .run (.seq .run (.seq .run (.seq (.seq .run (.cond (.seq .run (.hide [[],[],[],[],[],[],[],[],[],[40],[40],[],[],[]])) .run)) .run))))) [.cell 8 28,.tmp 9] zd zu (gd1 TY (gdG UZ (gdG zac (gdG zaH zb)))) Tryz.func113 ob0
def zfc:ShC:=⟨⟨[(.agg [.hole,.hole])],[],[1,1],[.bool,kJ]⟩,⟨[(.agg [.hole,(.view 0)])],[.seq false],[2,2],[.bool,kJ]⟩,1,[],[],false,false,fun (x:zc)=>Qa x.1 x.2⟩
theorem zaa:SK 167 zfc:=yq .run [.cell 2 61] zd zu (gd1 VA zb) Tryz.func167 ob0
def zeB:ShC:=⟨⟨[.hole,(.agg [.hole,.hole,.hole]),.hole],[],[1,1,1,1,1],[kM,kL,kK,kL,.int .i64]⟩,⟨[(.agg [.hole,.hole,(.view 0)]),.hole],[.seq false],[2,2,2,2],[kL,kK,.int .i64,kL]⟩,2,[],[],false,true,fun (x:(jS×jQ×jR×jQ×Int))=>wQ x.1 x.2.1 x.2.2.1 x.2.2.2.1 x.2.2.2.2⟩
theorem UW:SK 114 zeB:=yq .run [.cell 6 28,.tmp 7] zd zu (gdG Qq (gdG JI (gd1 DJ (gd1 Us (gd1 zaa zb))))) Tryz.func114 ob0
def zcc:ShC:=⟨⟨[.hole,(.agg [.hole,.hole,.hole,.hole,.hole,.hole,.hole,.hole,.hole,.hole]),(.agg [.hole,.hole,.hole]),(.agg [.hole,.hole,.hole])],[],[1,1,1,1,1,1,1,1,1,1,1,1,1,1,1,1,1],[kM,.int .i64,.int .i64,.int .i64,.int .i64,.int .i64,.int .i64,.int .i64,kL,kK,kL,kL,kK,kL,kL,kK,kL]⟩,⟨[(.agg [.hole,.hole,(.view 0)]),.hole],[.seq false],[2,2,2,2],[kL,kK,.bool,kL]⟩,2,[],[],false,true,fun (x:(jS×Int×Int×Int×Int×Int×Int×Int×jQ×jR×jQ×jQ×jR×jQ×jQ×jR×jQ))=>wA x.1 x.2.1 x.2.2.1 x.2.2.2.1 x.2.2.2.2.1 x.2.2.2.2.2.1 x.2.2.2.2.2.2.1 x.2.2.2.2.2.2.2.1 x.2.2.2.2.2.2.2.2.1 x.2.2.2.2.2.2.2.2.2.1 x.2.2.2.2.2.2.2.2.2.2.1 x.2.2.2.2.2.2.2.2.2.2.2.1 x.2.2.2.2.2.2.2.2.2.2.2.2.1 x.2.2.2.2.2.2.2.2.2.2.2.2.2.1 x.2.2.2.2.2.2.2.2.2.2.2.2.2.2.1 x.2.2.2.2.2.2.2.2.2.2.2.2.2.2.2.1 x.2.2.2.2.2.2.2.2.2.2.2.2.2.2.2.2⟩
theorem zbv:SK 65 zcc:=yq .run [.cell 8 28,.tmp 9] zd zu (gdG zdX (gdG zcS (gdG zdU (gdG zdx (gdG U8 (gdG UW zb)))))) Tryz.func65 ob0
def TK:ShC:=⟨⟨[.hole,.hole,.hole],[],[1,1,1],[kM,.sl (.cons kZ (.cons kZ (.cons kZ (.cons kZ (.cons kZ (.cons kZ (.cons kZ (.cons kL (.cons kK (.one kL)))))))))),.int .i64]⟩,⟨[(.agg [.hole,.hole,(.view 0)]),.hole],[.seq false],[2,2,2,2],[kL,kK,.bool,kL]⟩,2,[],[],false,true,fun (x:(jS×jT×Int))=>kx x.1 x.2.1 x.2.2⟩
theorem NE:SK 30 TK:=yq .run [.cell 6 28,.tmp 7] zd zu (gd1 zdC (gd1 zc7 (gd1 Om (gdG zbv zb)))) Tryz.func30 ob0
def zcr:ShC:=⟨⟨[.hole,.hole,.hole],[],[1,1,1],[kM,.sl (.cons kZ (.cons kZ (.cons kZ (.cons kZ (.cons kZ (.cons kZ (.cons kZ (.cons kL (.cons kK (.one kL)))))))))),.int .i64]⟩,⟨[(.agg [.hole,.hole,(.view 0)]),.hole,.hole],[.seq false],[2,2,2,2,2],[kL,kK,.bool,.int .i64,kL]⟩,3,[],[],false,true,fun (x:(jS×jT×Int))=>Vi x.1 x.2.1 x.2.2⟩
theorem zaU:SK 9 zcr:=yq .run [.cell 6 28,.tmp 7,.tmp 8] zd zu (gdG O8 (gdG NE zb)) Tryz.func9 ob0
def NA:ShC:=⟨⟨[.hole,.hole,(.clo 76 [])],[],[1,1],[kL,kL]⟩,⟨[.hole],[],[2],[.bool]⟩,1,[],[],false,false,fun (x:(jQ×jQ))=>vY x.1 x.2⟩
theorem AS:GD NA [(76,.gen (qp [zdF]))]:=(gd1 SN zb)
def UA:=u9 tb gl AS NA Tryz.f75
theorem zdH:VK UA:=zq zd AS
def La:Un:=lpU 2 [18,19,20,21,8,7,22,23,24,25,9,26,27,28,29,30,6,31,17] ⟨[1,2,15,16,17],⟨[.hole,(.clo 76 []),.hole,.hole,.hole],[],[1,1,2,2],[kL,kL,.int .i64,.int .i64]⟩⟩ [((.exit 0),⟨[],⟨[],[],[],[]⟩⟩),(.ret,⟨[6],⟨[.hole],[],[2],[.bool]⟩⟩)] (lp qY ze)
theorem FH:UK UA (xR (zn Tryz.f75) [1,1,0,1,0]) La:=vE .run zu zdH ob0
theorem zaI:SK 75 NA:=yq (.seq .run (.seq .run (.seq (.seq .run (.block (.unit La))) .run))) [.tmp 6] zd zu AS Tryz.func75 (ob1 FH ob0)
def My:ShC:=⟨⟨[.hole,.hole,(.clo 78 [])],[],[1,1],[kK,kK]⟩,⟨[.hole],[],[2],[.bool]⟩,1,[],[],false,false,fun (x:(jR×jR))=>uv x.1 x.2⟩
theorem A6:GD My [(78,.gen (qp [Oi]))]:=(gd1 DZ zb)
def TT:=u9 tb gl A6 My Tryz.f77
theorem zdj:VK TT:=zq zd A6
def HR:Un:=lpU 2 [18,19,20,21,7,8,22,23,24,25,9,26,27,28,29,30,6,31,17] ⟨[1,2,15,16,17],⟨[.hole,(.clo 78 []),.hole,.hole,.hole],[],[1,1,2,2],[kK,kK,.int .i64,.int .i64]⟩⟩ [((.exit 0),⟨[],⟨[],[],[],[]⟩⟩),(.ret,⟨[6],⟨[.hole],[],[2],[.bool]⟩⟩)] (lp qm ze)
theorem Fd:UK TT (xR (zn Tryz.f77) [1,1,0,1,0]) HR:=vE .run zu zdj ob0
theorem zbO:SK 77 My:=yq (.seq .run (.seq .run (.seq (.seq .run (.block (.unit HR))) .run))) [.tmp 6] zd zu A6 Tryz.func77 (ob1 Fd ob0)
def Uh:ShC:=⟨⟨[(.agg [.hole,.hole,.hole]),(.agg [.hole,.hole,.hole])],[],[1,1,1,1,1,1],[kL,kK,kL,kL,kK,kL]⟩,⟨[.hole],[],[2],[.bool]⟩,1,[],[],false,false,fun (x:(jQ×jR×jQ×jQ×jR×jQ))=>ZY x.1 x.2.1 x.2.2.1 x.2.2.2.1 x.2.2.2.2.1 x.2.2.2.2.2⟩
theorem zbw:SK 33 Uh:=yq .run [.tmp 4] zd zu (gd1 zaI (gd1 zbO zb)) Tryz.func33 ob0
def CP:ShC:=⟨⟨[.hole,.hole],[],[1,1],[kM,.sl (.cons kZ (.cons kZ (.cons kZ (.cons kZ (.cons kZ (.cons kZ (.cons kZ (.cons kL (.cons kK (.one kL))))))))))]⟩,⟨[.hole,.hole],[],[2,2],[.int .i64,.int .i64]⟩,2,[],[],false,true,fun (x:(jS×jT))=>vQ x.1 x.2⟩
theorem BR:GD CP [(29,.gen (qp [zaz])),(30,.gen (qp [TK])),(33,.gen (qp [Uh]))]:=(gdG O8 (gdG NE (gd1 zbw zb)))
def UD:=u9 tb gl BR CP Tryz.f11
theorem zd2:VK UD:=zq zd BR
def N8:Un:=lpU 2 [16,17,6,19,20,21,22,18,23,24,7,8,25,26,27,28,29,30,31,32,33,34,35,36,37,4,5,38,15] ⟨[0,1,14,15],⟨[.hole,.hole,.hole,.hole],[],[1,1,2,2],[kM,.sl (.cons kZ (.cons kZ (.cons kZ (.cons kZ (.cons kZ (.cons kZ (.cons kZ (.cons kL (.cons kK (.one kL)))))))))),.int .i64,.int .i64]⟩⟩ [((.exit 0),⟨[],⟨[],[],[],[]⟩⟩),(.ret,⟨[4,5],⟨[.hole,.hole],[],[2,2],[.int .i64,.int .i64]⟩⟩)] (lp xU ze)
theorem Ff:UK UD (xR (zn Tryz.f11) [1,1,0,1,0]) N8:=vE .run zu zd2 ob0
theorem MV:SK 11 CP:=yq (.seq .run (.seq .run (.seq (.seq .run (.block (.unit N8))) .run))) [.tmp 4,.tmp 5] zd zu BR Tryz.func11 (ob1 Ff ob0)
def Ek:ShC:=⟨⟨[(.view 0)],[.seq false],[1],[kJ]⟩,⟨[(.view 0)],[.seq false],[0],[kJ]⟩,0,[0],[(0,0)],true,false,fun (x:jI)=>ra x⟩
theorem AZ:GD Ek []:=zb
def Sx:=u9 tb gl AZ Ek Tryz.f35
theorem zeg:VK Sx:=zq zd AZ
def M4:Un:=lpU 2 [7,8,9,14,15,16,17,18,19,20,21,22,23,24,25,26,27,10,11,12,13,2,3] ⟨[0,2,3],⟨[(.view 0),.hole,.hole],[.seq false],[2,2,0],[.int .i64,.int .i64,kJ]⟩⟩ [((.exit 0),⟨[0],⟨[(.view 0)],[.seq false],[0],[kJ]⟩⟩)] (lp Zt ze)
theorem FB:UK Sx (xR (zn Tryz.f35) [1,0]) M4:=vE (.seq .run (.seq (.block (.hide [[],[],[8],[8],[],[],[],[],[],[],[],[],[],[],[],[]])) .run)) zu zeg ob0
theorem zaq:SK 35 Ek:=yq (.seq .run (.block (.unit M4))) [] zd zu AZ Tryz.func35 (ob1 FB ob0)
def MT:ShC:=⟨⟨[.hole,.hole,.hole],[],[1,1,1],[kM,.sl (.cons kZ (.cons kZ (.cons kZ (.cons kZ (.cons kZ (.cons kZ (.cons kZ (.cons kL (.cons kK (.one kL)))))))))),.int .i64]⟩,⟨[(.view 0),.hole],[.seq false],[2,2],[.int .i64,kJ]⟩,2,[],[],false,true,fun (x:(jS×jT×Int))=>GF x.1 x.2.1 x.2.2⟩
theorem AQ:GD MT [(29,.gen (qp [zaz])),(35,.gen (qp [Ek]))]:=(gdG O8 (gd1 zaq zb))
def Db:=u9 tb gl AQ MT Tryz.f13
theorem LD:VK Db:=zq zd AQ
def Lz:Un:=lpU 2 [55,56,57,12,58,59,60,61,62,63,64,65,66,67,68,54] ⟨[1,8,10,52,53,54],⟨[.hole,(.view 0),.hole,.hole,.hole,.hole],[.seq false],[1,2,2,2,2,2],[.sl (.cons kZ (.cons kZ (.cons kZ (.cons kZ (.cons kZ (.cons kZ (.cons kZ (.cons kL (.cons kK (.one kL)))))))))),.int .i64,kJ,.int .i64,.int .i64,.sl (.one .bool)]⟩⟩ [((.exit 0),⟨[8],⟨[(.view 0)],[.seq false],[2],[.sl (.one .bool)]⟩⟩)] (lp Wb ze)
theorem Hv:UK Db (xR (GE (xR (zn Tryz.f13) [1,0]) 0) [1,0,1,0,1,1,0]) Lz:=vE .run zu LD ob0
def HV:Un:=lpU 2 [55,56,57,12,58,59,60,61,62,63,64,65,66,67,68,54] ⟨[1,8,10,52,53,54],⟨[.hole,(.view 0),.hole,.hole,.hole,.hole],[.seq false],[1,2,2,2,2,2],[.sl (.cons kZ (.cons kZ (.cons kZ (.cons kZ (.cons kZ (.cons kZ (.cons kZ (.cons kL (.cons kK (.one kL)))))))))),.int .i64,kJ,.int .i64,.int .i64,.sl (.one .bool)]⟩⟩ [((.exit 0),⟨[8],⟨[(.view 0)],[.seq false],[2],[.sl (.one .bool)]⟩⟩)] (lp Wu ze)
theorem Hn:UK Db (xR (zn Tryz.f13) [1,0,1,1,1,1,1,1,0,1,0,1,1,0]) HV:=vE .run zu LD ob0
def Mj:Un:=scU Db [13,14,15,16,17,18,19,20,21,22,23,24,25,26,6,7,27,28,29,8,30,31,32,9,33,10,34,35,36,37,38,39,40,41,9,42,43,44,45,46,47,48,49,50,51,52,53,54,55,56,57,12,58,59,60,61,62,63,64,65,66,67,68,54,69,70,10,71,72,73,74,75,6,7] [(.goto 0,⟨[1,8,9,10],⟨[.hole,(.view 0),(.view 1),.hole],[.seq false,.seq false],[1,2,2,2],[.sl (.cons kZ (.cons kZ (.cons kZ (.cons kZ (.cons kZ (.cons kZ (.cons kZ (.cons kL (.cons kK (.one kL)))))))))),.int .i64,.sl (.one .bool),kJ]⟩⟩)] [(.ret,⟨[6,7],⟨[(.view 0),.hole],[.seq false],[2,2],[.int .i64,kJ]⟩⟩)] (Ac (xR (zn Tryz.f13) [1])) (.seq .run (.seq .run (.seq .run (.seq .run (.seq .run (.seq .run (.seq (.seq .run (.cond (.seq .run (.seq .run (.block (.unit HV)))) .run)) .run))))))) (lp YE ze)
theorem E0:UK Db (xR (zn Tryz.f13) [1]) Mj:=zex [(0,(.seq .run (.seq (.seq .run (.cond (.seq .run (.seq .run (.block (.unit Lz)))) .run)) .run)))] zu LD (ob1 Hn ob0) (zgN (ob1 Hv ob0) zen)
theorem zbq:SK 13 MT:=yq (.seq .run (.unit Mj)) [.tmp 6,.tmp 7] zd zu AQ Tryz.func13 (ob1 E0 ob0)
def Tc:ShC:=⟨⟨[.hole],[],[1],[.int .i64]⟩,⟨[.hole],[],[2],[.int .i64]⟩,1,[],[],false,false,fun (x:Int)=>tl x⟩
theorem Ov:SK 16 Tc:=yq .run [.tmp 2] zd zu zb Tryz.func16 ob0
def Dc:ShC:=⟨⟨[.hole,.hole],[],[1,1],[kJ,kJ]⟩,⟨[.hole],[],[2],[.bool]⟩,1,[],[],false,false,fun (x:(jI×jI))=>wS x.1 x.2⟩
theorem AH:GD Dc []:=zb
def SZ:=u9 tb gl AH Dc Tryz.f17
theorem zeF:VK SZ:=zq zd AH
def Ok:Un:=lpU 2 [11,12,13,14,17,18,19,20,21,22,23,24,25,4,15,16,5] ⟨[0,1,5],⟨[.hole,.hole,.hole],[],[1,1,2],[kJ,kJ,.int .i64]⟩⟩ [((.exit 0),⟨[],⟨[],[],[],[]⟩⟩),(.ret,⟨[4],⟨[.hole],[],[2],[.bool]⟩⟩)] (lp wH ze)
theorem FZ:UK SZ (xR (zn Tryz.f17) [1,1,0,1,0]) Ok:=vE .run zu zeF ob0
theorem AI:SK 17 Dc:=yq (.seq .run (.seq .run (.seq (.seq .run (.block (.unit Ok))) .run))) [.tmp 4] zd zu AH Tryz.func17 (ob1 FZ ob0)
def NL:ShC:=⟨⟨[.hole,.hole],[],[1,1],[kL,kL]⟩,⟨[.hole],[],[2],[.bool]⟩,1,[],[],false,false,fun (x:(jQ×jQ))=>t8 x.1 x.2⟩
theorem A9:GD NL [(17,.gen (qp [Dc]))]:=(gd1 AI zb)
def SU:=u9 tb gl A9 NL Tryz.f36
theorem zeo:VK SU:=zq zd A9
def OS:Un:=lpU 2 [11,12,13,14,17,18,19,20,21,22,23,24,25,26,27,28,29,30,31,32,33,34,35,36,37,38,39,40,41,4,15,16,5] ⟨[0,1,5],⟨[.hole,.hole,.hole],[],[1,1,2],[kL,kL,.int .i64]⟩⟩ [((.exit 0),⟨[],⟨[],[],[],[]⟩⟩),(.ret,⟨[4],⟨[.hole],[],[2],[.bool]⟩⟩)] (lp wK ze)
theorem Ft:UK SU (xR (zn Tryz.f36) [1,1,0,1,0]) OS:=vE .run zu zeo ob0
theorem zbb:SK 36 NL:=yq (.seq .run (.seq .run (.seq (.seq .run (.block (.unit OS))) .run))) [.tmp 4] zd zu A9 Tryz.func36 (ob1 Ft ob0)
def Nf:ShC:=⟨⟨[.hole,.hole],[],[1,1],[kK,kK]⟩,⟨[.hole],[],[2],[.bool]⟩,1,[],[],false,false,fun (x:(jR×jR))=>rZ x.1 x.2⟩
theorem AL:GD Nf [(17,.gen (qp [Dc]))]:=(gd1 AI zb)
def S6:=u9 tb gl AL Nf Tryz.f37
theorem zc4:VK S6:=zq zd AL
def Mc:Un:=lpU 2 [11,12,13,14,17,18,19,20,21,22,23,24,25,26,4,15,16,5] ⟨[0,1,5],⟨[.hole,.hole,.hole],[],[1,1,2],[kK,kK,.int .i64]⟩⟩ [((.exit 0),⟨[],⟨[],[],[],[]⟩⟩),(.ret,⟨[4],⟨[.hole],[],[2],[.bool]⟩⟩)] (lp wy ze)
theorem E6:UK S6 (xR (zn Tryz.f37) [1,1,0,1,0]) Mc:=vE .run zu zc4 ob0
theorem zav:SK 37 Nf:=yq (.seq .run (.seq .run (.seq (.seq .run (.block (.unit Mc))) .run))) [.tmp 4] zd zu AL Tryz.func37 (ob1 E6 ob0)
def zek:ShC:=⟨⟨[(.agg [.hole,.hole,.hole]),(.agg [.hole,.hole,.hole])],[],[1,1,1,1,1,1],[kL,kK,kL,kL,kK,kL]⟩,⟨[.hole],[],[2],[.bool]⟩,1,[],[],false,false,fun (x:(jQ×jR×jQ×jQ×jR×jQ))=>vw x.1 x.2.1 x.2.2.1 x.2.2.2.1 x.2.2.2.2.1 x.2.2.2.2.2⟩
theorem zae:SK 15 zek:=yq .run [.tmp 4] zd zu (gd1 zbb (gd1 zav zb)) Tryz.func15 ob0
def Tu:ShC:=⟨⟨[],[],[],[]⟩,⟨[.hole],[],[2],[.bool]⟩,1,[],[],false,true,fun (_:Unit)=>XT⟩
theorem zaV:SK 20 Tu:=yq .run [.tmp 0] zd zu (gdG zaU (gdG MV (gdG zbq (gd1 zae (gd1 Ov (gd1 AI (gd1 zfS (gd1 zgb zb)))))))) Tryz.func20 ob0
def Up:ShC:=⟨⟨[.hole,.hole],[],[1,1],[.int .i64,kJ]⟩,⟨[(.agg [.hole,.hole])],[],[2,1],[.int .i64,kJ]⟩,1,[],[],true,false,fun (x:(Int×jI))=>V9 x.1 x.2⟩
theorem zaK:SK 21 Up:=yq .run [.cell 4 51] zd zu zb Tryz.func21 ob0
def Uq:ShC:=⟨⟨[.hole],[],[1],[kJ]⟩,⟨[.hole],[],[2],[.bool]⟩,1,[],[],false,false,fun (x:jI)=>Kl x⟩
theorem zbP:SK 23 Uq:=yq .run [.tmp 2] zd zu zb Tryz.func23 ob0
def Cq:ShC:=⟨⟨[(.agg [.hole,.hole,.hole])],[],[1,1,1],[kL,kK,kL]⟩,⟨[(.view 0)],[.seq false],[0],[kK]⟩,1,[],[],true,false,fun (x:(jQ×jR×jQ))=>ZF x.1 x.2.1 x.2.2⟩
theorem A8:GD Cq []:=zb
def CF:=u9 tb gl A8 Cq Tryz.f79
theorem Nt:VK CF:=zq zd A8
def N0:Un:=lpU 2 [38,39,40,41,42,45,46,47,48,49,50,51,52,53,3,43,44,6] ⟨[1,3,6],⟨[(.ptr 0 0),(.view 1),.hole],[.cells true [.hole,.hole,.hole],.seq false],[2,1,1,1,0],[.int .i64,kL,kK,kL,kK]⟩⟩ [((.exit 4),⟨[3],⟨[(.view 0)],[.seq false],[0],[kK]⟩⟩)] (lp tG ze)
theorem ES:UK CF (xR (zn Tryz.f79) [1,1,1,1,0,1,0]) N0:=vE .run zu Nt ob0
def Lb:Un:=lpU 2 [23,24,25,26,27,30,31,32,33,34,35,36,37,3,28,29,5] ⟨[1,3,5],⟨[(.ptr 0 0),(.view 1),.hole],[.cells true [.hole,.hole,.hole],.seq false],[2,1,1,1,0],[.int .i64,kL,kK,kL,kK]⟩⟩ [((.exit 2),⟨[3],⟨[(.view 0)],[.seq false],[0],[kK]⟩⟩)] (lp tM ze)
theorem EZ:UK CF (xR (zn Tryz.f79) [1,1,1,0,1,0]) Lb:=vE .run zu Nt ob0
def Nj:Un:=lpU 2 [7,8,9,10,11,14,15,16,17,18,19,20,21,22,3,12,13,4] ⟨[1,3,4],⟨[(.ptr 0 0),(.view 1),.hole],[.cells true [.hole,.hole,.hole],.seq false],[2,1,1,1,0],[.int .i64,kL,kK,kL,kK]⟩⟩ [((.exit 0),⟨[3],⟨[(.view 0)],[.seq false],[0],[kK]⟩⟩)] (lp tL ze)
theorem E3:UK CF (xR (zn Tryz.f79) [1,1,0,1,0]) Nj:=vE .run zu Nt ob0
theorem zbp:SK 79 Cq:=yq (.seq .run (.seq .run (.seq (.seq .run (.block (.unit Nj))) (.seq (.seq .run (.block (.unit Lb))) (.seq (.seq .run (.block (.unit N0))) .run))))) [.tmp 2] zd zu A8 Tryz.func79 (ob1 E3 (ob1 EZ (ob1 ES ob0)))
def C0:ShC:=⟨⟨[.hole,.hole],[],[1,1],[kJ,.int .i64]⟩,⟨[.hole],[],[2],[.bool]⟩,1,[],[],false,false,fun (x:(jI×Int))=>IJ x.1 x.2⟩
theorem Cj:GD C0 []:=zb
def S7:=u9 tb gl Cj C0 Tryz.f139
theorem zdb:VK S7:=zq zd Cj
def NF:Un:=lpU 2 [6,7,8,9,12,13,14,15,16,17,18,4,10,11,5] ⟨[0,1,5],⟨[.hole,.hole,.hole],[],[1,2,2],[kJ,.int .i64,.int .i64]⟩⟩ [((.exit 0),⟨[],⟨[],[],[],[]⟩⟩),(.ret,⟨[4],⟨[.hole],[],[2],[.bool]⟩⟩)] (lp kq ze)
theorem Hs:UK S7 (xR (zn Tryz.f139) [1,0,1,0]) NF:=vE .run zu zdb ob0
theorem zal:SK 139 C0:=yq (.seq .run (.seq (.seq .run (.block (.unit NF))) .run)) [.tmp 4] zd zu Cj Tryz.func139 (ob1 Hs ob0)
def Eb:ShC:=⟨⟨[.hole],[],[1],[kJ]⟩,⟨[(.view 0)],[.seq false],[2],[kJ]⟩,1,[],[],false,false,fun (x:jI)=>XW x⟩
theorem B9:GD Eb [(139,.gen (qp [C0]))]:=(gd1 zal zb)
def SB:=u9 tb gl B9 Eb Tryz.f86
theorem zdw:VK SB:=zq zd B9
def NW:Un:=lpU 2 [5,6,9,10,11,12,13,14,15,3,7,8,4] ⟨[0,3,4],⟨[.hole,(.view 0),.hole],[.seq false],[1,2,2],[kJ,.int .i64,kJ]⟩⟩ [((.exit 0),⟨[3],⟨[(.view 0)],[.seq false],[2],[kJ]⟩⟩)] (lp vi ze)
theorem FV:UK SB (xR (zn Tryz.f86) [1,1,0,1,0]) NW:=vE .run zu zdw ob0
theorem zaB:SK 86 Eb:=yq (.seq .run (.seq .run (.seq (.seq .run (.block (.unit NW))) .run))) [.tmp 2] zd zu B9 Tryz.func86 (ob1 FV ob0)
def CH:ShC:=⟨⟨[(.agg [.hole,.hole,.hole])],[],[1,1,1],[kL,kK,kL]⟩,⟨[(.view 0)],[.seq false],[2],[kJ]⟩,1,[],[],false,false,fun (x:(jQ×jR×jQ))=>tw x.1 x.2.1 x.2.2⟩
theorem AB:GD CH [(79,.gen (qp [Cq])),(86,.gen (qp [Eb]))]:=(gd1 zbp (gd1 zaB zb))
def UB:=u9 tb gl AB CH Tryz.f45
theorem zcN:VK UB:=zq zd AB
def N6:Un:=lpU 2 [8,9,10,11,14,15,16,17,18,19,3,12,13,5] ⟨[3,4,5],⟨[(.view 0),.hole,.hole],[.seq false],[0,2,2],[kK,.int .i64,kJ]⟩⟩ [((.exit 0),⟨[3],⟨[(.view 0)],[.seq false],[2],[kJ]⟩⟩)] (lp uk ze)
theorem EU:UK UB (xR (zn Tryz.f45) [1,1,1,0,1,0]) N6:=vE .run zu zcN ob0
theorem zbs:SK 45 CH:=yq (.seq .run (.seq .run (.seq .run (.seq (.seq .run (.block (.unit N6))) .run)))) [.tmp 2] zd zu AB Tryz.func45 (ob1 EU ob0)
def Um:ShC:=⟨⟨[],[],[],[]⟩,⟨[(.view 0)],[.seq false],[2],[kJ]⟩,1,[],[],false,false,fun (_:Unit)=>GZ⟩
theorem zah:SK 46 Um:=yq .run [.tmp 0] zd zu zb Tryz.func46 ob0
def EA:ShC:=⟨⟨[(.agg [.hole,.hole]),.hole,.hole],[],[1,1,1,1],[.int .i64,kJ,.int .i64,kJ]⟩,⟨[.hole],[],[2],[.int .i64]⟩,1,[],[],false,false,fun (x:(Int×jI×Int×jI))=>xo x.1 x.2.1 x.2.2.1 x.2.2.2⟩
theorem Aw:GD EA []:=zb
def Sz:=u9 tb gl Aw EA Tryz.f141
theorem zcT:VK Sz:=zq zd Aw
def MP:Un:=lpU 2 [17,18,19,20,23,24,25,26,27,28,29,30,31,7,21,22,8] ⟨[2,3,7,8],⟨[.hole,(.ptr 0 0),.hole,.hole],[.cells true [.hole,.hole]],[1,2,2,2,1],[kJ,.int .u64,.int .i64,.int .i64,kJ]⟩⟩ [((.exit 0),⟨[7],⟨[.hole],[],[2],[.int .u64]⟩⟩)] (lp xA ze)
theorem FJ:UK Sz (xR (zn Tryz.f141) [1,1,1,0,1,0]) MP:=vE .run zu zcT ob0
theorem B7:SK 141 EA:=yq (.seq .run (.seq .run (.seq .run (.seq (.seq .run (.block (.unit MP))) .run)))) [.tmp 6] zd zu Aw Tryz.func141 (ob1 FJ ob0)
def KP (k:Nat):ShC:=⟨⟨[(.agg [.hole,.hole]),.hole,.hole,.hole,.hole],[],[1,1,1,1,1,1],[.int .i64,kJ,kM,kJ,.int .i64,kJ]⟩,⟨[.hole,.hole],[],[2,2],[.int .i64,.int .i64]⟩,2,[],[],false,false,(xy k)⟩
def SE:ShC:=⟨⟨[(.agg [.hole,.hole]),.hole,.hole,.hole,.hole],[],[1,1,1,1,1,1],[.int .i64,kJ,kM,kJ,.int .i64,kJ]⟩,⟨[.hole,.hole],[],[2,2],[.int .i64,.int .i64]⟩,2,[],[],false,false,fun (x:(Int×jI×jS×jI×Int×jI))=>rJ x.1 x.2.1 x.2.2.1 x.2.2.2.1 x.2.2.2.2.1 x.2.2.2.2.2⟩
def Wf (k:Nat):Prop:=SK 183 (KP k)
def US (k:Nat):List (Nat×Con):=[(141,.gen (qp [EA])),(183,.gen (qp [KP k]))]
theorem NB (k:Nat) (h:Wf k):GD (KP (k+1)) (US k):=(gd1 B7 (gd1 h zb))
def UR (k:Nat):Env:=XN tb gl (US k) (KP (k+1)) Tryz.f183.ntmps
theorem zdL (k:Nat) (h:Wf k):VK (UR k):=zq zd (NB k h)
def OX (k:Nat):Un:=lpU 2 [32,33,34,35,36,37,38,42,43,44,45,46,47,41,48,49,15,16,50,51,52,53,13,54,3,39,40,14] ⟨[1,2,3,4,5,12,13,14],⟨[.hole,.hole,.hole,.hole,(.ptr 0 0),.hole,(.view 1),.hole],[.cells true [.hole,.hole],.seq false],[1,1,2,1,2,2,2,1,2],[kM,kJ,.int .i64,kJ,.int .i64,.int .i64,.int .i64,kJ,kJ]⟩⟩ [((.exit 0),⟨[3,13],⟨[.hole,(.view 0)],[.seq false],[2,2],[.int .i64,kJ]⟩⟩)] (lp (qe (xy k)) ze)
theorem Fq (k:Nat) (h:Wf k):UK (UR k) (xR (zn Tryz.f183) [1,1,1,1,1,0,1,0]) (OX k):=vE .run zu (zdL k h) ob0
theorem Ri (k:Nat) (h:Wf k):SK 183 (KP (k+1)):=yq (.seq .run (.seq .run (.seq .run (.seq .run (.seq .run (.seq (.seq .run (.block (.unit (OX k)))) .run)))))) [.tmp 10,.tmp 11] zd zu (NB k h) Tryz.func183 (ob1 (Fq k h) ob0)
theorem GG:∀ k,Wf k
 | 0=>Np (by kernel_rfl) fun _=>rfl
 | k+1=>have h:=GG k; Ri k h
theorem zbM:SK 183 SE:=(GG ze)
def L4:ShC:=⟨⟨[(.agg [.hole,.hole]),.hole,.hole,.hole],[],[1,1,1,1,1],[.int .i64,kJ,kM,kJ,kJ]⟩,⟨[(.view 0)],[.seq false],[2],[kJ]⟩,1,[],[],false,false,fun (x:(Int×jI×jS×jI×jI))=>vB x.1 x.2.1 x.2.2.1 x.2.2.2.1 x.2.2.2.2⟩
theorem Cf:GD L4 [(183,.gen (qp [SE]))]:=(gd1 zbM zb)
def T6:=u9 tb gl Cf L4 Tryz.f142
theorem zd0:VK T6:=zq zd Cf
def LA:Un:=lpU 2 [13,14,15,16,18,19,20,21,22,23,17,24,25,11,12,26,27,28,29,9,30,10] ⟨[1,2,3,4,9,10],⟨[.hole,.hole,.hole,(.ptr 0 0),(.view 1),.hole],[.cells true [.hole,.hole],.seq false],[1,1,1,2,2,1,2],[kM,kJ,kJ,.int .i64,.int .i64,kJ,kJ]⟩⟩ [((.exit 0),⟨[9],⟨[(.view 0)],[.seq false],[2],[kJ]⟩⟩)] (lp yN ze)
theorem Hu:UK T6 (xR (zn Tryz.f142) [1,1,1,0,0]) LA:=vE .run zu zd0 ob0
theorem Lu:SK 142 L4:=yq (.seq .run (.seq .run (.seq .run (.seq (.block (.unit LA)) .run)))) [.tmp 8] zd zu Cf Tryz.func142 (ob1 Hu ob0)
def zeb:ShC:=⟨⟨[(.agg [.hole,.hole]),.hole,.hole,.hole],[],[1,1,1,1,1],[.int .i64,kJ,kM,kJ,kJ]⟩,⟨[.hole],[],[2],[.bool]⟩,1,[],[],false,false,fun (x:(Int×jI×jS×jI×jI))=>uJ x.1 x.2.1 x.2.2.1 x.2.2.2.1 x.2.2.2.2⟩
theorem zaC:SK 140 zeb:=yq .run [.tmp 8] zd zu (gd1 B7 (gd1 Lu zb)) Tryz.func140 ob0
def UM:ShC:=⟨⟨[(.agg [.hole,.hole]),.hole,(.agg [.hole,.hole]),.hole],[],[1,1,1,1,1,1],[.int .i64,kJ,kM,.bool,kJ,kJ]⟩,⟨[.hole],[],[2],[.bool]⟩,1,[],[],false,false,fun (x:(Int×jI×jS×Bool×jI×jI))=>va x.1 x.2.1 x.2.2.1 x.2.2.2.1 x.2.2.2.2.1 x.2.2.2.2.2⟩
theorem U7:SK 87 UM:=yq .run [.tmp 8] zd zu (gd1 zaC zb) Tryz.func87 ob0
def Sy:ShC:=⟨⟨[(.agg [.hole,.hole]),.hole,.hole,.hole],[],[1,1,1,1,1],[.int .i64,kJ,kM,kJ,kJ]⟩,⟨[.hole],[],[2],[.bool]⟩,1,[],[],false,false,fun (x:(Int×jI×jS×jI×jI))=>vW x.1 x.2.1 x.2.2.1 x.2.2.2.1 x.2.2.2.2⟩
theorem zbi:SK 88 Sy:=yq .run [.tmp 8] zd zu (gd1 B7 (gd1 Lu zb)) Tryz.func88 ob0
def Ex:ShC:=⟨⟨[(.agg [.hole,.hole]),.hole,(.agg [.hole,.hole,.hole]),.hole],[],[1,1,1,1,1,1,1],[.int .i64,kJ,kM,kL,kK,kL,kJ]⟩,⟨[.hole],[],[2],[.bool]⟩,1,[],[],false,false,fun (x:(Int×jI×jS×jQ×jR×jQ×jI))=>uw x.1 x.2.1 x.2.2.1 x.2.2.2.1 x.2.2.2.2.1 x.2.2.2.2.2.1 x.2.2.2.2.2.2⟩
theorem AA:GD Ex [(87,.gen (qp [UM])),(88,.gen (qp [Sy]))]:=(gd1 U7 (gd1 zbi zb))
def Ef:=u9 tb gl AA Ex Tryz.f47
theorem Li:VK Ef:=zq zd AA
def Ou:Un:=lpU 2 [45,46,47,48,49,52,53,54,55,56,57,58,59,60,8,50,51,11] ⟨[1,3,4,6,11],⟨[.hole,.hole,(.ptr 0 0),(.ptr 1 0),.hole],[.cells true [.hole,.hole],.cells true [.hole,.hole,.hole]],[1,1,2,2,1,1,1,1],[kM,kJ,.int .i64,.int .i64,kJ,kL,kK,kL]⟩⟩ [((.exit 4),⟨[],⟨[],[],[],[]⟩⟩),(.ret,⟨[8],⟨[.hole],[],[2],[.bool]⟩⟩)] (lp xF ze)
theorem Hz:UK Ef (xR (zn Tryz.f47) [1,1,1,0,1,0]) Ou:=vE .run zu Li ob0
def Mg:Un:=lpU 2 [29,30,31,32,33,36,37,38,39,40,41,42,43,44,8,34,35,10] ⟨[1,3,4,6,10],⟨[.hole,.hole,(.ptr 0 0),(.ptr 1 0),.hole],[.cells true [.hole,.hole],.cells true [.hole,.hole,.hole]],[1,1,2,2,1,1,1,1],[kM,kJ,.int .i64,.int .i64,kJ,kL,kK,kL]⟩⟩ [((.exit 2),⟨[],⟨[],[],[],[]⟩⟩),(.ret,⟨[8],⟨[.hole],[],[2],[.bool]⟩⟩)] (lp xG ze)
theorem F4:UK Ef (xR (zn Tryz.f47) [1,1,0,1,0]) Mg:=vE .run zu Li ob0
def OO:Un:=lpU 2 [12,13,14,15,16,19,20,21,22,23,24,25,26,27,28,8,17,18,9] ⟨[1,3,4,6,9],⟨[.hole,.hole,(.ptr 0 0),(.ptr 1 0),.hole],[.cells true [.hole,.hole],.cells true [.hole,.hole,.hole]],[1,1,2,2,1,1,1,1],[kM,kJ,.int .i64,.int .i64,kJ,kL,kK,kL]⟩⟩ [((.exit 0),⟨[],⟨[],[],[],[]⟩⟩),(.ret,⟨[8],⟨[.hole],[],[2],[.bool]⟩⟩)] (lp xH ze)
theorem Hw:UK Ef (xR (zn Tryz.f47) [1,0,1,0]) OO:=vE .run zu Li ob0
theorem zbt:SK 47 Ex:=yq (.seq .run (.seq (.seq .run (.block (.unit OO))) (.seq (.seq .run (.block (.unit Mg))) (.seq (.seq .run (.block (.unit Ou))) .run)))) [.tmp 8] zd zu AA Tryz.func47 (ob1 Hw (ob1 F4 (ob1 Hz ob0)))
def Ed:ShC:=⟨⟨[(.agg [.hole,.hole]),(.view 0),.hole],[.seq false],[1,1,1,1],[.int .i64,kJ,kJ,kJ]⟩,⟨[.hole,(.view 0)],[.seq false],[2,0],[.bool,kJ]⟩,1,[1],[(0,0)],true,false,fun (x:(Int×jI×jI×jI))=>uG x.1 x.2.1 x.2.2.1 x.2.2.2⟩
theorem Av:GD Ed []:=zb
def T5:=u9 tb gl Av Ed Tryz.f48
theorem zdW:VK T5:=zq zd Av
def M7:Un:=lpU 2 [8,9,10,11,14,15,16,17,18,19,20,21,22,23,24,25,26,27,28,29,30,31,32,6,33,34,35,36,37,38,12,13,7] ⟨[1,2,3,7],⟨[(.view 0),.hole,(.ptr 1 0),.hole],[.seq false,.cells true [.hole,.hole]],[1,2,0,2,1],[kJ,.int .i64,kJ,.int .i64,kJ]⟩⟩ [((.exit 0),⟨[1],⟨[(.view 0)],[.seq false],[0],[kJ]⟩⟩),(.ret,⟨[1,6],⟨[(.view 0),.hole],[.seq false],[2,0],[.bool,kJ]⟩⟩)] (lp xI ze)
theorem F0:UK T5 (xR (zn Tryz.f48) [1,0,1,0]) M7:=vE .run zu zdW ob0
theorem zbz:SK 48 Ed:=yq (.seq .run (.seq (.seq .run (.block (.unit M7))) .run)) [.tmp 6] zd zu Av Tryz.func48 (ob1 F0 ob0)
def Cv:ShC:=⟨⟨[(.agg [.hole,.hole]),.hole,(.agg [.hole,.hole,.hole])],[],[1,1,1,1,1,1],[.int .i64,kJ,kM,kL,kK,kL]⟩,⟨[.hole],[],[2],[.bool]⟩,1,[],[],false,false,fun (x:(Int×jI×jS×jQ×jR×jQ))=>zy x.1 x.2.1 x.2.2.1 x.2.2.2.1 x.2.2.2.2.1 x.2.2.2.2.2⟩
theorem Au:GD Cv [(45,.gen (qp [CH])),(46,.gen (qp [Um])),(47,.gen (qp [Ex])),(48,.gen (qp [Ed]))]:=(gd1 zbs (gd1 zah (gd1 zbt (gd1 zbz zb))))
def UG:=u9 tb gl Au Cv Tryz.f24
theorem zcx:VK UG:=zq zd Au
def OW:Un:=lpU 2 [12,13,14,15,16,17,6,18,19,20,21,22,6] ⟨[1,3,5,7,8],⟨[.hole,(.ptr 0 0),(.ptr 1 0),.hole,(.view 2)],[.cells true [.hole,.hole],.cells true [.hole,.hole,.hole],.seq false],[1,2,2,1,1,1,1,0],[kM,kJ,.int .i64,kJ,kL,kK,kL,kJ]⟩⟩ [(.ret,⟨[6],⟨[.hole],[],[2],[.bool]⟩⟩)] (lp xN ze)
theorem F9:UK UG (xR (zn Tryz.f24) [1,1,1,0]) OW:=vE .run zu zcx ob0
theorem za6:SK 24 Cv:=yq (.seq .run (.seq .run (.seq .run (.block (.unit OW))))) [.tmp 6] zd zu Au Tryz.func24 (ob1 F9 ob0)
def Em:ShC:=⟨⟨[.hole,.hole,.hole,.hole],[],[1,1,1,1],[kM,.sl (.cons kZ (.cons kZ (.cons kZ (.cons kZ (.cons kZ (.cons kZ (.cons kZ (.cons kL (.cons kK (.one kL)))))))))),.int .i64,kJ]⟩,⟨[.hole],[],[2],[.bool]⟩,1,[],[],false,true,fun (x:(jS×jT×Int×jI))=>xL x.1 x.2.1 x.2.2.1 x.2.2.2⟩
theorem AP:GD Em [(11,.gen (qp [CP])),(16,.gen (qp [Tc])),(20,.gen (qp [Tu])),(21,.gen (qp [Up])),(22,.gen (qp [Rm])),(23,.gen (qp [Uq])),(24,.gen (qp [Cv]))]:=(gdG MV (gd1 Ov (gdG zaV (gd1 zaK (gdG HI (gd1 zbP (gd1 za6 zb)))))))
def Su:=u9 tb gl AP Em Tryz.f4
theorem zdB:VK Su:=zq zd AP
def NO:Un:=lpU 2 [38,39,40,41,45,46,47,48,49,50,51,44,52,53,13,14,54,55,56,8,57,58,59,8,60,61,62,63,64,65,66,67,68,69,70,71,72,73,74,8,8,42,43,12] ⟨[0,1,11,12],⟨[.hole,.hole,(.ptr 0 0),.hole],[.cells true [.hole,.hole]],[1,1,2,2,0],[kM,.sl (.cons kZ (.cons kZ (.cons kZ (.cons kZ (.cons kZ (.cons kZ (.cons kZ (.cons kL (.cons kK (.one kL)))))))))),.int .i64,.int .i64,kJ]⟩⟩ [((.exit 0),⟨[],⟨[],[],[],[]⟩⟩),(.ret,⟨[8],⟨[.hole],[],[2],[.bool]⟩⟩)] (lp qT ze)
theorem ET:UK Su (xR (zn Tryz.f4) [1,1,1,1,1,0,1,0]) NO:=vE .run zu zdB ob0
theorem zaX:SK 4 Em:=yq (.seq .run (.seq .run (.seq .run (.seq .run (.seq .run (.seq (.seq .run (.block (.unit NO))) .run)))))) [.tmp 8] zd zu AP Tryz.func4 (ob1 ET ob0)
end
end Go.Abs.Sc
