import Derived.Test.YtjapmbbledbnfaaGreatDoorFc
import Derived.Test.YtjapmbbledbnfaaGreatDoorQc
import Derived.Test.YtjapmbbledbnfaaGreatDoorXa
import Derived.Test.YtjapmbbledbnfaaGreatDoorProg
/-
 The functions make just that.
-/
namespace Go.Abs.Sz6
open Go Go.Abs Go.Abs.Q Go.Proofs
set_option maxRecDepth 100000
noncomputable section
abbrev kK:Ty:=.sl (.one (.sl (.one (.int .i64))))
abbrev kR:Tys:=.one (.sl (.one (.int .i64)))
abbrev kJ:Ty:=.sl (.one (.int .i64))
abbrev kI:Tys:=.one (.int .i64)
abbrev kZ:Ty:=.int .i64
abbrev kL:Ty:=.sl Yt
abbrev kM:Ty:=.sl GN
def tbl:List (Nat×TD):=[(3,.int .i64),
 (4,.bool),
 (9,.str),
 (22,.sl 121 GN 40),
 (23,.sl 44 Yt 32),
 (24,.sl 40 kR 24),
 (26,.st [(23,0),(24,1),(23,2)] 3),
 (28,.sl 68 (.cons kZ (.cons kZ (.cons kZ (.cons kZ (.cons kZ (.cons kZ (.cons kZ (.cons kL (.cons kK (.one kL)))))))))) 128),
 (40,.sl 3 kI 8),
 (44,.st [(4,0),(40,1)] 2),
 (65,.st [(22,0),(28,1),(3,2)] 3),
 (68,.st [(3,0),(3,1),(3,2),(3,3),(3,4),(3,5),(3,6),(26,7)] 10),
 (85,.sl 136 (.cons kZ kR) 32),
 (121,.st [(9,0),(3,1),(3,2),(3,3)] 4),
 (130,.arr 40 kR 48),
 (132,.st [(130,0)] 48),
 (136,.st [(3,0),(40,1)] 2),
 (144,.st [(40,0),(3,1)] 2),
 (145,.arr 144 (.cons (.ns kI) kI) 48),
 (147,.st [(22,0),(145,1)] 97),
 (158,.arr 3 kI 24),
 (161,.sl 164 (.cons kJ (.cons kZ (.cons kJ kI))) 64),
 (164,.fa 144 2 2),
 (168,.sl 24 (.one kK) 24),
 (170,.sl 23 (.one kL) 24),
 (180,.int .u64),
 (183,.arr 4 (.one .bool) 48),
 (184,.sl 144 (.cons kJ kI) 32)]
def tb:Tb:=RJ tbl
theorem zb:vL Tryz.prog tb:=MX (by kernel_rfl)
theorem zk:Tryz.prog.follows .mixedOrders=true:=by kernel_rfl
def gl:Gl:=fun q=>cond (Nat.beq q 0) (some ⟨GN,(([61],0,2,1):zl)⟩) (none)
abbrev SK:=ShOk Tryz.prog gl
abbrev UK:=UnA Tryz.prog
abbrev VK:=VAll Tryz.prog
abbrev GD (c:ShC):=Y4 Tryz.prog (cond c.glob gl fun _=>none)
def ze3:ShC:=⟨⟨[.hole],[],[1],[kJ]⟩,⟨[(.view 0)],[.seq false],[2],[kJ]⟩,1,[],[],false,false,fun (x:jI)=>wb x⟩
theorem zca:SK 55 ze3:=zU .run [.tmp 2] zb zk za Tryz.func55 ob0
def zeP:ShC:=⟨⟨[.hole],[],[1],[kL]⟩,⟨[(.view 0)],[.seq false],[2],[kL]⟩,1,[],[],false,false,fun (x:jQ)=>v9 x⟩
theorem Ta:GD zeP [(55,.gen (yd [ze3]))]:=(gd1 zca za)
def zff:=wD tb gl Ta zeP Tryz.f23
theorem zfx:VK zff:=zh zb Ta
def zbT:Un:=lpU 2 [5,6,7,8,11,12,13,14,15,16,17,18,19,20,21,22,23,24,25,3,9,10,4] ⟨[0,3,4],⟨[.hole,(.view 0),.hole],[.seq false],[1,2,2],[kL,.int .i64,kL]⟩⟩ [((.exit 0),⟨[3],⟨[(.view 0)],[.seq false],[2],[kL]⟩⟩)] (lp xh zd)
theorem M4:UK zff (yx (ze Tryz.f23) [1,1,0,1,0]) zbT:=qB .run zk zfx ob0
theorem zfd:SK 23 zeP:=zU (.seq .run (.seq .run (.seq (.seq .run (.block (.unit zbT))) .run))) [.tmp 2] zb zk Ta Tryz.func23 (ob1 M4 ob0)
def zeN:ShC:=⟨⟨[.hole],[],[1],[kK]⟩,⟨[(.view 0)],[.seq false],[2],[kK]⟩,1,[],[],false,false,fun (x:jR)=>tJ x⟩
theorem UV:GD zeN [(55,.gen (yd [ze3]))]:=(gd1 zca za)
def zfn:=wD tb gl UV zeN Tryz.f24
theorem zfG:VK zfn:=zh zb UV
def zb2:Un:=lpU 2 [5,6,7,8,11,12,13,14,15,16,17,18,3,9,10,4] ⟨[0,3,4],⟨[.hole,(.view 0),.hole],[.seq false],[1,2,2],[kK,.int .i64,kK]⟩⟩ [((.exit 0),⟨[3],⟨[(.view 0)],[.seq false],[2],[kK]⟩⟩)] (lp xm zd)
theorem NX:UK zfn (yx (ze Tryz.f24) [1,1,0,1,0]) zb2:=qB .run zk zfG ob0
theorem ze4:SK 24 zeN:=zU (.seq .run (.seq .run (.seq (.seq .run (.block (.unit zb2))) .run))) [.tmp 2] zb zk UV Tryz.func24 (ob1 NX ob0)
def zfr:ShC:=⟨⟨[(.agg [.hole,.hole,.hole])],[],[1,1,1],[kL,kK,kL]⟩,⟨[(.agg [(.view 0),(.view 1),(.view 2)])],[.seq false,.seq false,.seq false],[2,2,2],[kL,kK,kL]⟩,1,[],[],false,false,fun (x:(jQ×jR×jQ))=>xO x.1 x.2.1 x.2.2⟩
theorem ze6:SK 6 zfr:=zU .run [.cell 2 26] zb zk (gd1 zfd (gd1 ze4 za)) Tryz.func6 ob0
def zfi:ShC:=⟨⟨[.hole],[],[1],[.int .u8]⟩,⟨[.hole],[],[2],[.bool]⟩,1,[],[],false,false,fun (x:Int)=>tL x⟩
theorem zeO:SK 144 zfi:=zU .run [.tmp 2] zb zk za Tryz.func144 ob0
def zdU:ShC:=⟨⟨[.hole],[],[1],[.str]⟩,⟨[.hole],[],[2],[.bool]⟩,1,[],[],false,false,fun (x:Str)=>ka x⟩
theorem TM:GD zdU [(144,.gen (yd [zfi]))]:=(gd1 zeO za)
def zfh:=wD tb gl TM zdU Tryz.f124
theorem zfv:VK zfh:=zh zb TM
def zbp:Un:=lpU 2 [20,21,3,22,23,24,25,26,27,28,29,30,31,32,33,34,35,36,37,38,2,39,19] ⟨[0,18,19],⟨[.hole,.hole,.hole],[],[2,2,2],[.str,.int .i64,.int .i64]⟩⟩ [((.exit 0),⟨[],⟨[],[],[],[]⟩⟩),(.ret,⟨[2],⟨[.hole],[],[2],[.bool]⟩⟩)] (lp wu zd)
theorem Nb:UK zfh (yx (ze Tryz.f124) [1,1,0,1,0]) zbp:=qB .run zk zfv ob0
theorem zdL:SK 124 zdU:=zU (.seq .run (.seq .run (.seq (.seq .run (.block (.unit zbp))) .run))) [.tmp 2] zb zk TM Tryz.func124 (ob1 Nb ob0)
def zfg:ShC:=⟨⟨[(.agg [.hole,.hole,.hole,.hole])],[],[1,1,1,1],[.str,.int .i64,.int .i64,.int .i64]⟩,⟨[.hole],[],[2],[.bool]⟩,1,[],[],false,false,fun (x:zl)=>tX x.1 x.2.1 x.2.2.1 x.2.2.2⟩
theorem zd2:SK 89 zfg:=zU .run [.tmp 2] zb zk (gd1 zdL za) Tryz.func89 ob0
def zdz:ShC:=⟨⟨[.hole,.hole],[],[1,1],[kM,.str]⟩,⟨[.hole],[],[2],[.int .i64]⟩,1,[],[],false,false,fun (x:(jS×Str))=>j5 x.1 x.2⟩
theorem UF:GD zdz []:=za
def zfm:=wD tb gl UF zdz Tryz.f90
theorem zfF:VK zfm:=zh zb UF
def zbC:Un:=lpU 2 [9,10,5,11,12,13,14,15,16,17,18,4,19,8] ⟨[0,1,7,8],⟨[.hole,.hole,.hole,.hole],[],[1,2,2,2],[kM,.str,.int .i64,.int .i64]⟩⟩ [((.exit 0),⟨[],⟨[],[],[],[]⟩⟩),(.ret,⟨[4],⟨[.hole],[],[2],[.int .i64]⟩⟩)] (lp vz zd)
theorem NR:UK zfm (yx (ze Tryz.f90) [1,0,1,0]) zbC:=qB .run zk zfF ob0
theorem zev:SK 90 zdz:=zU (.seq .run (.seq (.seq .run (.block (.unit zbC))) .run)) [.tmp 4] zb zk UF Tryz.func90 (ob1 NR ob0)
def zal:ShC:=⟨⟨[.hole],[],[1],[kM]⟩,⟨[.hole],[],[2],[.bool]⟩,1,[],[],false,true,fun (x:jS)=>Zs x⟩
theorem TQ:GD zal [(89,.gen (yd [zfg])),(90,.gen (yd [zdz]))]:=(gd1 zd2 (gd1 zev za))
def zfl:=wD tb gl TQ zal Tryz.f44
theorem zfE:VK zfl:=zh zb TQ
def zdn:Un:=lpU 2 [19,20,21,22,25,26,27,28,29,30,31,32,33,34,35,36,37,38,39,40,41,2,23,24,3] ⟨[0,3],⟨[.hole,.hole],[],[1,2],[kM,.int .i64]⟩⟩ [((.exit 0),⟨[],⟨[],[],[],[]⟩⟩),(.ret,⟨[2],⟨[.hole],[],[2],[.bool]⟩⟩)] (lp vj zd)
theorem Oi:UK zfl (yx (ze Tryz.f44) [1,1,0,1,0]) zdn:=qB .run zk zfE ob0
theorem TT:SK 44 zal:=zU (.seq .run (.seq .run (.seq (.seq .run (.block (.unit zdn))) .run))) [.tmp 2] zb zk TQ Tryz.func44 (ob1 Oi ob0)
def zaE:ShC:=⟨⟨[.hole],[],[1],[.int .i64]⟩,⟨[.hole],[],[2],[.int .i64]⟩,1,[],[],false,false,fun (x:Int)=>yj x⟩
theorem IK:SK 107 zaE:=zU .run [.tmp 2] zb zk za Tryz.func107 ob0
def zdg:ShC:=⟨⟨[.hole,.hole],[],[1,1],[kM,.int .i64]⟩,⟨[.hole,.hole],[],[2,2],[.int .i64,.bool]⟩,2,[],[],false,false,fun (x:(jS×Int))=>jA x.1 x.2⟩
theorem zcM:SK 102 zdg:=zU .run [.tmp 4,.tmp 5] zb zk (gd1 IK za) Tryz.func102 ob0
def LO:ShC:=⟨⟨[.hole,.hole,.hole],[],[1,1,1],[kM,kJ,.int .i64]⟩,⟨[.hole,.hole],[],[2,2],[.int .i64,.bool]⟩,2,[],[],false,false,fun (x:(jS×jI×Int))=>uW x.1 x.2.1 x.2.2⟩
theorem CH:GD LO [(102,.gen (yd [zdg]))]:=(gd1 zcM za)
def Ti:=wD tb gl CH LO Tryz.f64
theorem zdK:VK Ti:=zh zb CH
def O2:Un:=scU Ti [8,11,12,13,14,6,7,16,17,18,19,20,21,15,22,23,9,10,24,25,6,7,26,27,2,28,29,30,31,8,32,33,34,6,7] [(.goto 0,⟨[0,1,2,8],⟨[.hole,.hole,.hole,.hole],[],[1,1,2,2],[kM,kJ,.int .i64,.int .i64]⟩⟩)] [(.ret,⟨[6,7],⟨[.hole,.hole],[],[2,2],[.int .i64,.bool]⟩⟩)] (DT (yx (ze Tryz.f64) [1])) .run (lp wQ zd)
theorem HR:UK Ti (yx (ze Tryz.f64) [1]) O2:=zdD [] zk zdK ob0 zdH
theorem DI:SK 64 LO:=zU (.seq .run (.unit O2)) [.tmp 6,.tmp 7] zb zk CH Tryz.func64 (ob1 HR ob0)
def To:ShC:=⟨⟨[.hole,.hole],[],[1,1],[kM,kJ]⟩,⟨[(.view 0),.hole],[.seq false],[2,2],[.bool,kJ]⟩,2,[],[],false,true,fun (x:(jS×jI))=>ux x.1 x.2⟩
theorem LT:GD To [(44,.gen (yd [zal])),(64,.gen (yd [LO]))]:=(gdG TT (gd1 DI za))
def TA:=wD tb gl LT To Tryz.f85
theorem zep:VK TA:=zh zb LT
def PZ:Un:=scU TA [10,11,12,13,14,15,16,17,4,5,6,7,18,19,20,21,22,4,5,24,25,26,27,23,28,29,8,9,30,31,4,5,32,33,34,35,6,36,7] [(.goto 0,⟨[0,1,6,7],⟨[.hole,.hole,(.view 0),.hole],[.seq false],[1,1,2,2],[kM,kJ,.int .i64,kJ]⟩⟩)] [(.ret,⟨[4,5],⟨[(.view 0),.hole],[.seq false],[2,2],[.bool,kJ]⟩⟩)] (DT (yx (ze Tryz.f85) [1])) .run (lp w9 zd)
theorem F5:UK TA (yx (ze Tryz.f85) [1]) PZ:=zdD [] zk zep ob0 zdH
theorem Ez:SK 85 To:=zU (.seq .run (.unit PZ)) [.tmp 4,.tmp 5] zb zk LT Tryz.func85 (ob1 F5 ob0)
def zek:ShC:=⟨⟨[.hole,.hole],[],[1,1],[kM,kJ]⟩,⟨[.hole],[],[2],[.bool]⟩,1,[],[],false,true,fun (x:(jS×jI))=>wM x.1 x.2⟩
theorem Ps:SK 41 zek:=zU .run [.tmp 4] zb zk (gdG Ez za) Tryz.func41 ob0
def zdv:ShC:=⟨⟨[.hole,(.agg [.hole,.hole])],[],[1,1,1],[kM,.bool,kJ]⟩,⟨[.hole],[],[2],[.bool]⟩,1,[],[],false,true,fun (x:(jS×Bool×jI))=>kr x.1 x.2.1 x.2.2⟩
theorem Ms:SK 58 zdv:=zU .run [.tmp 4] zb zk (gdG Ps za) Tryz.func58 ob0
def UJ:ShC:=⟨⟨[.hole,.hole],[],[1,1],[kM,kL]⟩,⟨[.hole,.hole],[],[2,2],[.int .i64,.bool]⟩,2,[],[],false,true,fun (x:(jS×jQ))=>w8 x.1 x.2⟩
theorem Ll:GD UJ [(58,.gen (yd [zdv]))]:=(gdG Ms za)
def zc3:=wD tb gl Ll UJ Tryz.f45
theorem zdQ:VK zc3:=zh zb Ll
def PR:Un:=lpU 2 [12,13,14,8,15,16,17,18,4,5,19,20,21,22,23,6,24,11] ⟨[0,6,9,10,11],⟨[.hole,.hole,.hole,.hole,.hole],[],[1,2,1,2,2],[kM,.int .i64,kL,.int .i64,.int .i64]⟩⟩ [((.exit 0),⟨[6],⟨[.hole],[],[2],[.int .i64]⟩⟩),(.ret,⟨[4,5],⟨[.hole,.hole],[],[2,2],[.int .i64,.bool]⟩⟩)] (lp qS zd)
theorem CA:UK zc3 (yx (ze Tryz.f45) [1,1,0,1,0]) PR:=qB .run zk zdQ ob0
theorem zbh:SK 45 UJ:=zU (.seq .run (.seq .run (.seq (.seq .run (.block (.unit PR))) .run))) [.tmp 4,.tmp 5] zb zk Ll Tryz.func45 (ob1 CA ob0)
def UC:ShC:=⟨⟨[.hole,.hole],[],[1,1],[kM,kJ]⟩,⟨[.hole,.hole],[],[2,2],[.int .i64,.int .i64]⟩,2,[],[],false,true,fun (x:(jS×jI))=>ku x.1 x.2⟩
theorem Ra:SK 91 UC:=zU .run [.tmp 4,.tmp 5] zb zk (gdG Ez za) Tryz.func91 ob0
def Uq:ShC:=⟨⟨[.hole,.hole],[],[1,1],[kM,kK]⟩,⟨[.hole,.hole],[],[2,2],[.int .i64,.bool]⟩,2,[],[],false,true,fun (x:(jS×jR))=>uN x.1 x.2⟩
theorem Fj:GD Uq [(91,.gen (yd [UC]))]:=(gdG Ra za)
def zbb:=wD tb gl Fj Uq Tryz.f46
theorem zd8:VK zbb:=zh zb Fj
def OA:Un:=lpU 2 [15,16,17,18,8,9,20,21,22,19,23,24,10,11,25,26,27,7,28,29,30,31,32,33,34,4,5,35,36,37,38,6,39,14] ⟨[0,6,7,12,13,14],⟨[.hole,.hole,.hole,.hole,.hole,.hole],[],[1,2,2,1,2,2],[kM,.int .i64,.int .i64,kK,.int .i64,.int .i64]⟩⟩ [((.exit 0),⟨[6],⟨[.hole],[],[2],[.int .i64]⟩⟩),(.ret,⟨[4,5],⟨[.hole,.hole],[],[2,2],[.int .i64,.bool]⟩⟩)] (lp qQ zd)
theorem A8:UK zbb (yx (ze Tryz.f46) [1,1,0,1,0]) OA:=qB .run zk zd8 ob0
theorem zb8:SK 46 Uq:=zU (.seq .run (.seq .run (.seq (.seq .run (.block (.unit OA))) .run))) [.tmp 4,.tmp 5] zb zk Fj Tryz.func46 (ob1 A8 ob0)
def CY:ShC:=⟨⟨[.hole,(.agg [.hole,.hole,.hole])],[],[1,1,1,1],[kM,kL,kK,kL]⟩,⟨[.hole],[],[2],[.bool]⟩,1,[],[],false,true,fun (x:(jS×jQ×jR×jQ))=>xf x.1 x.2.1 x.2.2.1 x.2.2.2⟩
theorem Wr:SK 15 CY:=zU .run [.tmp 4] zb zk (gdG TT (gdG zbh (gdG zb8 za))) Tryz.func15 ob0
def zay:ShC:=⟨⟨[(.agg [.hole,.hole,.hole]),.hole,.hole],[],[1,1,1,1,1],[kL,kK,kL,.int .i64,.bool]⟩,⟨[.hole],[],[2],[.bool]⟩,1,[],[],false,false,fun (x:(jQ×jR×jQ×Int×Bool))=>we x.1 x.2.1 x.2.2.1 x.2.2.2.1 x.2.2.2.2⟩
theorem Bg:SK 28 zay:=zU .run [.tmp 6] zb zk za Tryz.func28 ob0
def C9:ShC:=⟨⟨[.hole,.hole],[],[1,1],[kM,kJ]⟩,⟨[(.view 0)],[.seq false],[0],[kK]⟩,1,[],[],true,false,fun (x:(jS×jI))=>x9 x.1 x.2⟩
theorem Ly:GD C9 [(64,.gen (yd [LO]))]:=(gd1 DI za)
def zbu:=wD tb gl Ly C9 Tryz.f101
theorem zeo:VK zbu:=zh zb Ly
def PX:Un:=lpU 2 [9,10,11,12,14,15,16,17,13,18,19,7,8,20,21,22,4,23,24,25,26,27,28,29,5,30,6] ⟨[0,1,5,6],⟨[.hole,.hole,(.view 0),.hole],[.seq false],[1,1,2,0],[kM,kJ,.int .i64,kK]⟩⟩ [((.exit 0),⟨[5],⟨[(.view 0)],[.seq false],[0],[kK]⟩⟩),(.ret,⟨[4],⟨[(.view 0)],[.seq false],[0],[kK]⟩⟩)] (lp va zd)
theorem FU:UK zbu (yx (ze Tryz.f101) [1,1,0,1,0]) PX:=qB .run zk zeo ob0
theorem DG:SK 101 C9:=zU (.seq .run (.seq .run (.seq (.seq .run (.block (.unit PX))) .run))) [.tmp 4] zb zk Ly Tryz.func101 (ob1 FU ob0)
def zeV:ShC:=⟨⟨[.hole,.hole],[],[1,1],[kM,kJ]⟩,⟨[(.view 0)],[.seq false],[0],[kK]⟩,1,[],[],true,false,fun (x:(jS×jI))=>ub x.1 x.2⟩
theorem Sk:SK 63 zeV:=zU .run [.tmp 4] zb zk (gd1 DG za) Tryz.func63 ob0
def NC:ShC:=⟨⟨[(.ptr 0 0),(.view 1),(.agg [.hole,.hole]),(.agg [.hole,.hole])],[.cells true [.hole,.hole],.seq false],[1,1,1,1,1,1,1],[kJ,.int .i64,kJ,.int .i64,kM,.ar (.cons (.ns kI) kI) 48,.sl (.cons kJ (.cons kZ (.cons kJ kI)))]⟩,⟨[(.view 0)],[.seq false],[0],[.sl (.cons kJ (.cons kZ (.cons kJ kI)))]⟩,1,[],[],true,false,fun (x:(jI×Int×jI×Int×jS×(List ((Option jI)×Int))×(List (jI×Int×jI×Int))))=>qf x.1 x.2.1 x.2.2.1 x.2.2.2.1 x.2.2.2.2.1 x.2.2.2.2.2.1 x.2.2.2.2.2.2⟩
theorem Cr:GD NC [(101,.gen (yd [C9]))]:=(gd1 DG za)
def zcT:=wD tb gl Cr NC Tryz.f129
theorem zef:VK zcT:=zh zb Cr
def OU:Un:=lpU 2 [29,30,11,31,32,33,34,35,36,37,38,39,40,41,42,43,44,45,46,47,48,1,49,28] ⟨[1,6,7,9,10,27,28],⟨[(.view 0),(.ptr 1 0),(.ptr 2 0),.hole,.hole,.hole,.hole],[.seq false,.cells true [.hole,.hole],.cells true [.hole,.hole]],[0,0,2,2,0,1,2,1,2],[kK,kK,.int .i64,.int .i64,.sl (.cons kJ (.cons kZ (.cons kJ kI))),kJ,.int .i64,kJ,.int .i64]⟩⟩ [((.exit 0),⟨[1],⟨[(.view 0)],[.seq false],[0],[.sl (.cons kJ (.cons kZ (.cons kJ kI)))]⟩⟩)] (lp yY zd)
theorem HW:UK zcT (yx (ze Tryz.f129) [1,1,0,1,0]) OU:=qB .run zk zef ob0
theorem zc0:SK 129 NC:=zU (.seq .run (.seq .run (.seq (.seq .run (.block (.unit OU))) .run))) [.tmp 8] zb zk Cr Tryz.func129 (ob1 HW ob0)
def TW:ShC:=⟨⟨[(.agg [.hole,.hole]),.hole],[],[1,1,1],[kJ,.int .i64,.int .i64]⟩,⟨[.hole],[],[2],[.int .i64]⟩,1,[],[],false,false,fun (x:(jI×Int×Int))=>ym x.1 x.2.1 x.2.2⟩
theorem LU:SK 132 TW:=zU .run [.tmp 4] zb zk (gd1 IK za) Tryz.func132 ob0
def Nh:ShC:=⟨⟨[(.ptr 0 0),(.agg [.hole,.hole])],[.cells true [.hole,.hole]],[1,1,1,1],[kJ,.int .i64,kM,.ar (.cons (.ns kI) kI) 48]⟩,⟨[(.agg [.hole,.hole])],[],[1,2],[kJ,.int .i64]⟩,1,[],[],true,false,fun (x:(jI×Int×jS×(List ((Option jI)×Int))))=>xA x.1 x.2.1 x.2.2.1 x.2.2.2⟩
theorem EX:GD Nh [(132,.gen (yd [TW]))]:=(gd1 LU za)
def zcB:=wD tb gl EX Nh Tryz.f130
theorem zeq:VK zcB:=zh zb EX
def PD:Un:=lpU 2 [6,7,8,9,10,11,12,13,14,15,16,17,18,19,20,21,5,22,23,24,25] ⟨[0,3,4],⟨[(.ptr 0 0),(.ptr 1 0),(.ptr 2 0)],[.cells true [.hole,.hole],.cells false [.hole,.hole],.cells true [.nilv,.hole]],[1,1,1,2,2],[kM,.ar (.cons (.ns kI) kI) 48,kJ,.int .i64,.int .i64]⟩⟩ [((.exit 0),⟨[3],⟨[(.ptr 0 0)],[.cells false [.hole,.hole]],[1,2],[kJ,.int .i64]⟩⟩)] (lp xS zd)
theorem Lw:UK zcB (yx (ze Tryz.f130) [1,0,0]) PD:=qB .run zk zeq ob0
theorem zds:SK 130 Nh:=zU (.seq .run (.seq (.block (.unit PD)) .run)) [.cell 4 144] zb zk EX Tryz.func130 (ob1 Lw ob0)
def UW:ShC:=⟨⟨[(.ptr 0 0),.hole,(.agg [.hole,.hole])],[.cells true [.hole,.hole]],[1,1,1,1,1],[.int .i64,kJ,.int .i64,kM,.ar (.cons (.ns kI) kI) 48]⟩,⟨[.hole],[],[2],[.bool]⟩,1,[],[],false,false,fun (x:(Int×jI×Int×jS×(List ((Option jI)×Int))))=>vd x.1 x.2.1 x.2.2.1 x.2.2.2.1 x.2.2.2.2⟩
theorem CB:GD UW [(132,.gen (yd [TW])),(1000027,.gen (yd []))]:=(gd1 LU (gd0 1000027 za))
def UH:=wD tb gl CB UW Tryz.f150
theorem zcH:VK UH:=zh zb CB
def Pv:Un:=lpU 2 [32,33,34,10,35,36,37,38,39,11,40,41,42,6,43,44,45,46,47,48,49,50,51,52,53,54,55,56,57,58,59,60,61,62,63,64,65,66,67,8,68,31] ⟨[0,1,5,7,8,29,30,31],⟨[(.ptr 0 0),.hole,(.ptr 1 0),(.aptr 2),(.view 3),.hole,.hole,.hole],[.cells true [.hole,.hole],.cells true [.hole,.hole],.seq false,.seq false],[2,0,2,2,1,1,0,2,2,0],[.int .i64,kJ,.int .i64,.int .i64,kM,.ar (.cons (.ns kI) kI) 48,kJ,.int .i64,.sl (.one .bool),.sl (.cons kJ kI)]⟩⟩ [((.exit 2),⟨[7,8],⟨[(.aptr 0),(.view 1)],[.seq false,.seq false],[2,0],[.sl (.one .bool),.sl (.cons kJ kI)]⟩⟩),(.ret,⟨[6],⟨[.hole],[],[2],[.bool]⟩⟩)] (lp qa zd)
theorem Hm:UK UH (yx (ze Tryz.f150) [1,1,1,0,0,0,1,0,1,1,1,0]) Pv:=qB .run zk zcH ob0
def RW:Un:=lpU 2 [14,15,16,17,18,19,20,21,22,23,24,25,26,27,8,28,29,30,31,32,33,34,10,35,36,37,38,39,11,40,41,42,6,43,44,45,46,47,48,49,50,51,52,53,54,55,56,57,58,59,60,61,62,63,64,65,66,67,8,68,31] ⟨[0,1,5,7,8],⟨[(.ptr 0 0),.hole,(.ptr 1 0),(.aptr 2),(.view 3)],[.cells true [.hole,.hole],.cells false [.hole,.hole],.seq false,.seq false],[2,1,1,0,2,2,0],[.int .i64,kM,.ar (.cons (.ns kI) kI) 48,kJ,.int .i64,.sl (.one .bool),.sl (.cons kJ kI)]⟩⟩ [((.exit 0),⟨[],⟨[],[],[],[]⟩⟩),(.ret,⟨[6],⟨[.hole],[],[2],[.bool]⟩⟩)] (lp q8 zd)
theorem EZ:UK UH (yx (ze Tryz.f150) [1,1,1,0,0]) RW:=qB (.seq .run (.block (.seq .run (.seq .run (.seq .run (.block (.unit Pv))))))) zk zcH (ob1 Hm ob0)
theorem zbO:SK 150 UW:=zU (.seq .run (.seq .run (.seq .run (.seq (.block (.unit RW)) .run)))) [.tmp 6] zb zk CB Tryz.func150 (ob1 EZ ob0)
def zcY:ShC:=⟨⟨[(.ptr 0 0),(.agg [.hole,.hole]),(.agg [.hole,.hole])],[.cells false [.hole,.hole]],[1,1,1,1,1,1],[kJ,.int .i64,kJ,.int .i64,kM,.ar (.cons (.ns kI) kI) 48]⟩,⟨[.hole,(.ptr 0 0)],[.cells false [.hole,.hole]],[2,1,0],[.bool,kM,.ar (.cons (.ns kI) kI) 48]⟩,1,[0],[(0,0)],true,false,fun (x:(jI×Int×jI×Int×jS×(List ((Option jI)×Int))))=>yQ x.1 x.2.1 x.2.2.1 x.2.2.2.1 x.2.2.2.2.1 x.2.2.2.2.2⟩
theorem zbN:SK 131 zcY:=zU .run [.tmp 6] zb zk (gd1 LU (gd1 zbO za)) Tryz.func131 ob0
def MC:ShC:=⟨⟨[(.ptr 0 0),(.agg [.hole,.hole]),(.agg [.hole,.hole])],[.cells false [.hole,.hole]],[1,1,1,1,1,1],[kJ,.int .i64,kJ,.int .i64,kM,.ar (.cons (.ns kI) kI) 48]⟩,⟨[.hole,(.ptr 0 0)],[.cells false [.hole,.hole]],[2,0,0],[.bool,kM,.ar (.cons (.ns kI) kI) 48]⟩,1,[0],[(0,0)],true,false,fun (x:(jI×Int×jI×Int×jS×(List ((Option jI)×Int))))=>xc x.1 x.2.1 x.2.2.1 x.2.2.2.1 x.2.2.2.2.1 x.2.2.2.2.2⟩
theorem FG:GD MC [(129,.gen (yd [NC])),(130,.gen (yd [Nh])),(131,.gen (yd [zcY])),(1000039,.gen (yd []))]:=(gd1 zc0 (gd1 zds (gd1 zbN (gd0 1000039 za))))
def UP:=wD tb gl FG MC Tryz.f103
theorem zfa:VK UP:=zh zb FG
def PS:Un:=scU UP [10,11,12,13,7,14,15,16,6,17,18,19,20,21,22,23,24,25,26,27,28,29,30,31,32,33,34,8,9,35,36,37,38,39,7,41,42,43,44,45,40,46,47,48,49,6,51,52,53,54,55,50,56,57,58,59,6,61,62,63,64,65,66,67,68,69,60,6,70,71,72,73,74,75,76,77,78,79,80,81,82,83,84,7] [(.goto 0,⟨[0,7],⟨[(.ptr 0 0),(.view 1)],[.cells false [.hole,.hole],.seq false],[0,0,0],[kM,.ar (.cons (.ns kI) kI) 48,.sl (.cons kJ (.cons kZ (.cons kJ kI)))]⟩⟩)] [(.ret,⟨[0,6],⟨[(.ptr 0 0),.hole],[.cells false [.hole,.hole]],[2,0,0],[.bool,kM,.ar (.cons (.ns kI) kI) 48]⟩⟩)] (DT (yx (ze Tryz.f103) [1])) .run (lp zr zd)
theorem Es:UK UP (yx (ze Tryz.f103) [1]) PS:=zdD [] zk zfa ob0 zdH
theorem zdr:SK 103 MC:=zU (.seq .run (.unit PS)) [.tmp 6] zb zk FG Tryz.func103 (ob1 Es ob0)
def zcV:ShC:=⟨⟨[(.agg [.hole,.hole]),.hole],[],[1,1,1],[.ns kI,.int .i64,.int .i64]⟩,⟨[.hole],[],[2],[.int .i64]⟩,1,[],[],false,false,fun (x:((Option jI)×Int×Int))=>qL x.1 x.2.1 x.2.2⟩
theorem zda:SK 132 zcV:=zU .run [.tmp 4] zb zk (gd1 IK za) Tryz.func132 ob0
def Jm (k:Nat):ShC:=⟨⟨[(.ptr 0 0),(.agg [.hole,.hole])],[.cells true [.hole,.hole]],[1,1,1,1],[.ns kI,.int .i64,kM,.ar (.cons (.ns kI) kI) 48]⟩,⟨[.hole],[],[2],[.ns kI]⟩,1,[],[],false,false,(qe k)⟩
def zdm:ShC:=⟨⟨[(.ptr 0 0),(.agg [.hole,.hole])],[.cells true [.hole,.hole]],[1,1,1,1],[.ns kI,.int .i64,kM,.ar (.cons (.ns kI) kI) 48]⟩,⟨[.hole],[],[2],[.ns kI]⟩,1,[],[],false,false,fun (x:((Option jI)×Int×jS×(List ((Option jI)×Int))))=>tZ x.1 x.2.1 x.2.2.1 x.2.2.2⟩
def Wk (k:Nat):Prop:=SK 104 (Jm k)
def zaB (k:Nat):List (Nat×Con):=[(104,.gen (yd [Jm k])),(132,.gen (yd [zcV]))]
theorem OC (k:Nat) (h:Wk k):GD (Jm (k+1)) (zaB k):=(gd1 h (gd1 zda za))
def zcx (k:Nat):Env:=je tb gl (zaB k) (Jm (k+1)) Tryz.f104.ntmps
theorem zen (k:Nat) (h:Wk k):VK (zcx k):=zh zb (OC k h)
def Pb (k:Nat):Un:=lpU 2 [13,14,15,7,16,17,8,18,19,20,21,22,23,24,25,26,27,28,29,30,31,32,33,34,35,36,37,38,39,40,41,8,42,43,44,45,46,47,48,49,50,51,4,52,53,54,5,55,12] ⟨[0,3,5,10,11,12],⟨[(.ptr 0 0),(.ptr 1 0),(.view 2),.hole,.hole,.hole],[.cells true [.hole,.hole],.cells true [.hole,.hole],.seq false],[1,2,2,1,1,1,2,2],[.ns kI,.int .i64,.int .i64,kM,.ar (.cons (.ns kI) kI) 48,.ns kI,.int .i64,kJ]⟩⟩ [((.exit 0),⟨[5],⟨[(.view 0)],[.seq false],[2],[kJ]⟩⟩),(.ret,⟨[4],⟨[.nilv],[],[],[]⟩⟩)] (lp (yl (qe k)) zd)
theorem Ce (k:Nat) (h:Wk k):UK (zcx k) (yx (ze Tryz.f104) [1,1,0,1,0]) (Pb k):=qB .run zk (zen k h) ob0
theorem S8 (k:Nat) (h:Wk k):SK 104 (Jm (k+1)):=zU (.seq .run (.seq .run (.seq (.seq .run (.block (.unit (Pb k)))) .run))) [.tmp 4] zb zk (OC k h) Tryz.func104 (ob1 (Ce k h) ob0)
theorem Ja:∀ k,Wk k
 | 0=>QG (by kernel_rfl) fun _=>rfl
 | k+1=>have h:=Ja k; S8 k h
theorem zaZ:SK 104 zdm:=(Ja zd)
def ze1:ShC:=⟨⟨[.hole],[],[1],[.ns kI]⟩,⟨[(.view 0)],[.seq false],[2],[kJ]⟩,1,[],[],false,false,fun (x:(Option jI))=>ji x⟩
theorem zav:SK 105 ze1:=zU .run [.tmp 2] zb zk za Tryz.func105 ob0
def zei:ShC:=⟨⟨[.nilv],[],[],[]⟩,⟨[(.view 0)],[.seq false],[2],[kJ]⟩,1,[],[],false,false,fun (_:Unit)=>Vd⟩
theorem zaD:SK 105 zei:=zU .run [.tmp 2] zb zk za Tryz.func105 ob0
def On:ShC:=⟨⟨[.hole],[],[1],[kJ]⟩,⟨[(.view 0)],[.seq false],[2],[kJ]⟩,1,[],[],false,false,fun (x:jI)=>wR x⟩
theorem La:SK 105 On :=
 za1 zaD zav fun xs y h=>⟨h,fun e=>by subst e; exact h⟩
def Sp:ShC:=⟨⟨[.hole,.hole,.hole],[],[1,1,1],[kM,kJ,kJ]⟩,⟨[(.view 0),.hole,.hole],[.seq false],[2,2,2],[.bool,.int .i64,.sl (.cons kZ kR)]⟩,3,[],[],false,true,fun (x:(jS×jI×jI))=>uy x.1 x.2.1 x.2.2⟩
theorem Hc:GD Sp [(91,.gen (yd [UC])),(103,.gen (yd [MC])),(104,.gen (yd [zdm])),(105,.gen (yd [On]))]:=(gdG Ra (gd1 zdr (gd1 zaZ (gd1 La za))))
def zcn:=wD tb gl Hc Sp Tryz.f65
theorem zez:VK zcn:=zh zb Hc
def Py:Un:=lpU 2 [51,52,15,53,54,55,56,57,58,59,60,61,62,63,64,65,66,67,68,16,69,70,6,7,8,71,72,73,74,75,76,77,14,78,50] ⟨[13,14,50],⟨[(.ptr 0 0),(.view 1),.hole],[.cells true [.hole,.hole],.seq false],[2,0,0,2],[.int .i64,kM,.ar (.cons (.ns kI) kI) 48,.sl (.cons kZ kR)]⟩⟩ [((.exit 0),⟨[14],⟨[(.view 0)],[.seq false],[2],[.sl (.cons kZ kR)]⟩⟩),(.ret,⟨[6,7,8],⟨[.nilv,.hole,.hole],[],[2,2],[.bool,.int .i64]⟩⟩)] (lp xE zd)
theorem ED:UK zcn (yx (ze Tryz.f65) [1,1,1,1,1,1,1,0,1,0]) Py:=qB .run zk zez ob0
theorem P7:SK 65 Sp:=zU (.seq .run (.seq .run (.seq .run (.seq .run (.seq .run (.seq .run (.seq .run (.seq (.seq .run (.block (.unit Py))) .run)))))))) [.tmp 6,.tmp 7,.tmp 8] zb zk Hc Tryz.func65 (ob1 ED ob0)
def zaV:ShC:=⟨⟨[.nilv,.hole],[],[1],[.int .i64]⟩,⟨[(.view 0)],[.seq false],[2],[kK]⟩,1,[],[],false,false,fun (x:Int)=>rG x⟩
theorem zch:SK 138 zaV:=zU .run [.tmp 4] zb zk (gd0 1000025 za) Tryz.func138 ob0
def NG:ShC:=⟨⟨[.hole],[],[1],[.sl (.one kK)]⟩,⟨[(.view 0)],[.seq false],[0],[kK]⟩,1,[],[],true,false,fun (x:(List jR))=>tw x⟩
theorem E8:GD NG [(138,.gen (yd [zaV]))]:=(gd1 zch za)
def S9:=wD tb gl E8 NG Tryz.f112
theorem zcw:VK S9:=zh zb E8
def PW:Un:=lpU 2 [28,29,30,8,31,32,33,6,34,27] ⟨[6,25,26,27],⟨[(.view 0),.hole,.hole,.hole],[.seq false],[1,2,2,0],[.sl (.one kK),.int .i64,.int .i64,kK]⟩⟩ [((.exit 2),⟨[6],⟨[(.view 0)],[.seq false],[0],[kK]⟩⟩)] (lp xk zd)
theorem F9:UK S9 (yx (ze Tryz.f112) [1,1,1,1,0,1,0]) PW:=qB .run zk zcw ob0
def Ro:Un:=lpU 2 [12,13,14,5,15,16,17,18,3,19,20,21,22,11] ⟨[0,3,9,10,11],⟨[.hole,.hole,.hole,.hole,.hole],[],[1,2,1,2,2],[.sl (.one kK),.int .i64,.sl (.one kK),.int .i64,.int .i64]⟩⟩ [((.exit 0),⟨[3],⟨[.hole],[],[2],[.int .i64]⟩⟩)] (lp xo zd)
theorem CS:UK S9 (yx (ze Tryz.f112) [1,1,0,1,0]) Ro:=qB .run zk zcw ob0
theorem zaW:SK 112 NG:=zU (.seq .run (.seq .run (.seq (.seq .run (.block (.unit Ro))) (.seq .run (.seq (.seq .run (.block (.unit PW))) .run))))) [.tmp 2] zb zk E8 Tryz.func112 (ob1 CS (ob1 F9 ob0))
def zcK:ShC:=⟨⟨[.nilv,.hole],[],[1],[.int .i64]⟩,⟨[(.view 0)],[.seq false],[2],[kL]⟩,1,[],[],false,false,fun (x:Int)=>tz x⟩
theorem zcm:SK 139 zcK:=zU .run [.tmp 4] zb zk (gd0 1000025 za) Tryz.func139 ob0
def Hs:ShC:=⟨⟨[.hole],[],[1],[.sl (.one kL)]⟩,⟨[(.view 0)],[.seq false],[0],[kL]⟩,1,[],[],true,false,fun (x:(List jQ))=>wK x⟩
theorem Mt:GD Hs [(139,.gen (yd [zcK]))]:=(gd1 zcm za)
def SU:=wD tb gl Mt Hs Tryz.f113
theorem zdu:VK SU:=zh zb Mt
def O4:Un:=lpU 2 [28,29,30,8,31,32,33,6,34,27] ⟨[6,25,26,27],⟨[(.view 0),.hole,.hole,.hole],[.seq false],[1,2,2,0],[.sl (.one kL),.int .i64,.int .i64,kL]⟩⟩ [((.exit 2),⟨[6],⟨[(.view 0)],[.seq false],[0],[kL]⟩⟩)] (lp qA zd)
theorem LA:UK SU (yx (ze Tryz.f113) [1,1,1,1,0,1,0]) O4:=qB .run zk zdu ob0
def Re:Un:=lpU 2 [12,13,14,5,15,16,17,18,3,19,20,21,22,11] ⟨[0,3,9,10,11],⟨[.hole,.hole,.hole,.hole,.hole],[],[1,2,1,2,2],[.sl (.one kL),.int .i64,.sl (.one kL),.int .i64,.int .i64]⟩⟩ [((.exit 0),⟨[3],⟨[.hole],[],[2],[.int .i64]⟩⟩)] (lp qD zd)
theorem HA:UK SU (yx (ze Tryz.f113) [1,1,0,1,0]) Re:=qB .run zk zdu ob0
theorem Pu:SK 113 Hs:=zU (.seq .run (.seq .run (.seq (.seq .run (.block (.unit Re))) (.seq .run (.seq (.seq .run (.block (.unit O4))) .run))))) [.tmp 2] zb zk Mt Tryz.func113 (ob1 HA (ob1 LA ob0))
def UY:ShC:=⟨⟨[(.agg [.hole,.hole,.hole]),.hole,(.agg [.hole,.hole,.hole]),.hole],[],[1,1,1,1,1,1,1,1],[kL,kK,kL,.int .i64,kL,kK,kL,.int .i64]⟩,⟨[(.agg [(.view 0),.hole,(.view 1)])],[.seq false,.seq false],[0,0,0],[kK,kL,kL]⟩,1,[],[],true,false,fun (x:(jQ×jR×jQ×Int×jQ×jR×jQ×Int))=>u9 x.1 x.2.1 x.2.2.1 x.2.2.2.1 x.2.2.2.2.1 x.2.2.2.2.2.1 x.2.2.2.2.2.2.1 x.2.2.2.2.2.2.2⟩
theorem Lz:GD UY [(112,.gen (yd [NG])),(113,.gen (yd [Hs]))]:=(gd1 zaW (gd1 Pu za))
def SW:=wD tb gl Lz UY Tryz.f71
theorem za9:VK SW:=zh zb Lz
def Pf:Un:=lpU 2 [49,50,51,52,13,12,53,54,55,56,57,58,59,60,61,62,48] ⟨[3,8,9,46,47,48],⟨[.hole,(.ptr 0 0),(.ptr 1 0),.hole,.hole,.hole],[.cells true [.nilv,.nilv,.nilv],.cells false [(.view 2),.hole,(.view 3)],.seq false,.seq false],[2,1,2,2,0,0,0],[.int .i64,kL,.int .i64,.int .i64,kK,kL,kL]⟩⟩ [((.exit 2),⟨[9],⟨[(.ptr 0 0)],[.cells false [(.view 1),.hole,(.view 2)],.seq false,.seq false],[0,0,0],[kK,kL,kL]⟩⟩)] (lp xJ zd)
theorem HQ:UK SW (yx (ze Tryz.f71) [1,1,1,0,1,0]) Pf:=qB .run zk za9 ob0
def Po:Un:=lpU 2 [31,32,33,34,11,10,35,36,37,38,39,40,41,42,43,44,30] ⟨[1,3,6,8,9,28,29,30],⟨[.hole,.hole,(.ptr 0 0),(.ptr 1 0),(.ptr 2 0),.hole,.hole,.hole],[.cells true [.hole,.hole,.hole],.cells true [.nilv,.nilv,.nilv],.cells false [(.view 3),.hole,(.view 4)],.seq false,.seq false],[2,2,1,2,2,1,1,1,0,0,0],[.int .i64,.int .i64,kL,.int .i64,.int .i64,kL,kK,kL,kK,kL,kL]⟩⟩ [((.exit 0),⟨[9],⟨[(.ptr 0 0)],[.cells false [(.view 1),.hole,(.view 2)],.seq false,.seq false],[0,0,0],[kK,kL,kL]⟩⟩)] (lp xP zd)
theorem CC:UK SW (yx (ze Tryz.f71) [1,1,0,1,0]) Po:=qB .run zk za9 ob0
theorem OB:SK 71 UY:=zU (.seq .run (.seq .run (.seq (.seq .run (.block (.unit Po))) (.seq (.seq .run (.block (.unit Pf))) .run)))) [.cell 8 26] zb zk Lz Tryz.func71 (ob1 CC (ob1 HQ ob0))
def N7:ShC:=⟨⟨[.hole,.hole],[],[1,1],[.sl (.cons kZ kR),.int .i64]⟩,⟨[.hole],[],[0],[.ns kI]⟩,1,[],[],true,false,fun (x:((List (Int×jI))×Int))=>jE x.1 x.2⟩
theorem Er:GD N7 []:=za
def zaN:=wD tb gl Er N7 Tryz.f106
theorem zdW:VK zaN:=zh zb Er
def OZ:Un:=lpU 2 [10,11,12,6,13,14,15,16,17,18,4,19,9] ⟨[1,7,8,9],⟨[.hole,.hole,.hole,.hole],[],[2,1,2,2],[.int .i64,.sl (.cons kZ kR),.int .i64,.int .i64]⟩⟩ [((.exit 0),⟨[],⟨[],[],[],[]⟩⟩),(.ret,⟨[4],⟨[.hole],[],[1],[kJ]⟩⟩)] (lp vA zd)
theorem Hf:UK zaN (yx (ze Tryz.f106) [1,0,1,0]) OZ:=qB .run zk zdW ob0
theorem zao:SK 106 N7:=zU (.seq .run (.seq (.seq .run (.block (.unit OZ))) .run)) [.tmp 4] zb zk Er Tryz.func106 (ob1 Hf ob0)
def TK:ShC:=⟨⟨[.hole,.hole],[],[1,1],[.sl (.cons kZ kR),kJ]⟩,⟨[(.view 0)],[.seq false],[2],[kJ]⟩,1,[],[],false,false,fun (x:((List (Int×jI))×jI))=>Qt x.1 x.2⟩
theorem HT:GD TK [(106,.gen (yd [N7])),(107,.gen (yd [zaE]))]:=(gd1 zao (gd1 IK za))
def za2:=wD tb gl HT TK Tryz.f66
theorem zer:VK za2:=zh zb HT
def RN:Un:=lpU 2 [12,13,14,7,15,16,17,18,8,19,20,21,22,23,24,25,26,27,28,5,29,30,31,5,32,11] ⟨[0,5,9,10,11],⟨[.hole,(.view 0),.hole,.hole,.hole],[.seq false],[1,1,2,2,2],[.sl (.cons kZ kR),kJ,.int .i64,.int .i64,kJ]⟩⟩ [((.exit 0),⟨[5],⟨[(.view 0)],[.seq false],[2],[kJ]⟩⟩)] (lp tO zd)
theorem Ex:UK za2 (yx (ze Tryz.f66) [1,1,0,1,0]) RN:=qB .run zk zer ob0
theorem R3:SK 66 TK:=zU (.seq .run (.seq .run (.seq (.seq .run (.block (.unit RN))) .run))) [.tmp 4] zb zk HT Tryz.func66 (ob1 Ex ob0)
def zb0:ShC:=⟨⟨[.hole,(.ptr 0 0)],[.cells true [.hole]],[1,1],[kJ,.sl (.cons kZ kR)]⟩,⟨[(.view 0)],[.seq false],[2],[kJ]⟩,1,[],[],false,false,fun (x:(jI×(List (Int×jI))))=>qO x.1 x.2⟩
theorem zbo:SK 111 zb0:=zU .run [.tmp 3] zb zk (gd1 R3 za) Tryz.func111 ob0
def SY:ShC:=⟨⟨[(.agg [.hole,.hole,.hole]),(.clo 111 [(.ptr 0 0)])],[.cells true [.hole]],[1,1,1,1],[kL,kK,kL,.sl (.cons kZ kR)]⟩,⟨[(.agg [.hole,.hole,(.view 0)])],[.seq false],[2,2,2],[kL,kK,kL]⟩,1,[],[],false,false,fun (x:(jQ×jR×jQ×(List (Int×jI))))=>Yq x.1 x.2.1 x.2.2.1 x.2.2.2⟩
theorem Lb:GD SY [(111,.gen (yd [zb0]))]:=(gd1 zbo za)
def Ns:=wD tb gl Lb SY Tryz.f110
theorem S3:VK Ns:=zh zb Lb
def PA:Un:=lpU 2 [52,53,54,11,55,56,57,58,59,60,61,62,63,64,65,66,67,51] ⟨[1,4,5,49,50,51],⟨[(.clo 111 [(.ptr 0 0)]),(.ptr 1 0),(.ptr 2 0),.hole,.hole,.hole],[.cells true [.hole],.cells true [.nilv,.nilv,.nilv],.cells false [.hole,.hole,(.view 3)],.seq false],[1,2,2,1,2,2,2],[kL,.int .i64,.int .i64,.sl (.cons kZ kR),kL,kK,kL]⟩⟩ [((.exit 4),⟨[5],⟨[(.ptr 0 0)],[.cells false [.hole,.hole,(.view 1)],.seq false],[2,2,2],[kL,kK,kL]⟩⟩)] (lp wq zd)
theorem LS:UK Ns (yx (ze Tryz.f110) [1,1,1,1,0,1,0]) PA:=qB .run zk S3 ob0
def RK:Un:=lpU 2 [36,37,38,9,39,40,41,42,43,44,45,46,47,35] ⟨[1,2,4,5,33,34,35],⟨[(.clo 111 [(.ptr 0 0)]),(.ptr 1 0),(.ptr 2 0),(.ptr 3 0),.hole,.hole,.hole],[.cells true [.hole],.cells true [.hole,.hole,.hole],.cells true [.nilv,.nilv,.nilv],.cells false [.hole,(.view 4),.nilv],.seq false],[1,2,2,1,1,1,1,2,2],[kK,.int .i64,.int .i64,.sl (.cons kZ kR),kL,kK,kL,kL,kK]⟩⟩ [((.exit 2),⟨[5],⟨[(.ptr 0 0)],[.cells false [.hole,(.view 1),.nilv],.seq false],[2,2],[kL,kK]⟩⟩)] (lp ww zd)
theorem L4:UK Ns (yx (ze Tryz.f110) [1,1,1,0,1,0]) RK:=qB .run zk S3 ob0
def P8:Un:=lpU 2 [16,17,18,7,19,20,21,22,23,24,25,26,27,28,29,30,31,15] ⟨[1,2,4,5,13,14,15],⟨[(.clo 111 [(.ptr 0 0)]),(.ptr 1 0),(.ptr 2 0),(.ptr 3 0),.hole,.hole,.hole],[.cells true [.hole],.cells true [.hole,.hole,.hole],.cells true [.nilv,.nilv,.nilv],.cells false [(.view 4),.nilv,.nilv],.seq false],[1,2,2,1,1,1,1,2],[kL,.int .i64,.int .i64,.sl (.cons kZ kR),kL,kK,kL,kL]⟩⟩ [((.exit 0),⟨[5],⟨[(.ptr 0 0)],[.cells false [(.view 1),.nilv,.nilv],.seq false],[2],[kL]⟩⟩)] (lp wv zd)
theorem FA:UK Ns (yx (ze Tryz.f110) [1,1,0,1,0]) P8:=qB .run zk S3 ob0
theorem zaL:SK 110 SY:=zU (.seq .run (.seq .run (.seq (.seq .run (.block (.unit P8))) (.seq (.seq .run (.block (.unit RK))) (.seq (.seq .run (.block (.unit PA))) .run))))) [.cell 4 26] zb zk Lb Tryz.func110 (ob1 FA (ob1 L4 (ob1 LS ob0)))
def zfc:ShC:=⟨⟨[.hole,(.agg [.hole,.hole,.hole])],[],[1,1,1,1],[.sl (.cons kZ kR),kL,kK,kL]⟩,⟨[(.agg [.hole,.hole,(.view 0)])],[.seq false],[2,2,2],[kL,kK,kL]⟩,1,[],[],false,false,fun (x:((List (Int×jI))×jQ×jR×jQ))=>sZ x.1 x.2.1 x.2.2.1 x.2.2.2⟩
theorem O8:SK 70 zfc:=zU .run [.cell 4 26] zb zk (gd1 zaL za) Tryz.func70 ob0
def Om:ShC:=⟨⟨[.hole,.hole],[],[1,1],[kJ,kJ]⟩,⟨[.hole],[],[2],[.bool]⟩,1,[],[],false,false,fun (x:(jI×jI))=>zZ x.1 x.2⟩
theorem Lr:GD Om []:=za
def zbA:=wD tb gl Lr Om Tryz.f42
theorem ze0:VK zbA:=zh zb Lr
def Pz:Un:=lpU 2 [14,15,5,16,17,18,19,20,21,22,23,24,4,25,13] ⟨[0,1,12,13],⟨[.hole,.hole,.hole,.hole],[],[1,1,2,2],[kJ,kJ,.int .i64,.int .i64]⟩⟩ [((.exit 0),⟨[],⟨[],[],[],[]⟩⟩),(.ret,⟨[4],⟨[.hole],[],[2],[.bool]⟩⟩)] (lp xW zd)
theorem Co:UK zbA (yx (ze Tryz.f42) [1,1,0,1,0]) Pz:=qB .run zk ze0 ob0
theorem Vw:SK 42 Om:=zU (.seq .run (.seq .run (.seq (.seq .run (.block (.unit Pz))) .run))) [.tmp 4] zb zk Lr Tryz.func42 (ob1 Co ob0)
def zdV:ShC:=⟨⟨[(.agg [.hole,.hole]),(.agg [.hole,.hole])],[],[1,1,1,1],[.bool,kJ,.bool,kJ]⟩,⟨[.hole],[],[2],[.bool]⟩,1,[],[],false,false,fun (x:(Bool×jI×Bool×jI))=>XB x.1 x.2.1 x.2.2.1 x.2.2.2⟩
theorem zbg:SK 152 zdV:=zU .run [.tmp 4] zb zk (gd1 Vw za) Tryz.func152 ob0
def zbY:ShC:=⟨⟨[(.agg [.hole,.hole]),(.ptr 0 0)],[.cells true [.hole,.hole]],[1,1,1,1],[.bool,kJ,.bool,kJ]⟩,⟨[.hole],[],[2],[.bool]⟩,1,[],[],false,false,fun (x:(Bool×jI×Bool×jI))=>uQ x.1 x.2.1 x.2.2.1 x.2.2.2⟩
theorem zaC:SK 151 zbY:=zU .run [.tmp 3] zb zk (gd1 zbg za) Tryz.func151 ob0
def UR:ShC:=⟨⟨[.hole,(.clo 151 [(.ptr 0 0)])],[.cells true [.hole,.hole]],[1,1,1],[kL,.bool,kJ]⟩,⟨[.hole],[],[2],[.int .i64]⟩,1,[],[],false,false,fun (x:(jQ×Bool×jI))=>tl x.1 x.2.1 x.2.2⟩
theorem Cj:GD UR [(151,.gen (yd [zbY]))]:=(gd1 zaC za)
def zcU:=wD tb gl Cj UR Tryz.f98
theorem zex:VK zcU:=zh zb Cj
def O3:Un:=lpU 2 [9,10,5,11,12,13,14,15,16,17,4,18,8] ⟨[0,1,7,8],⟨[.hole,(.clo 151 [(.ptr 0 0)]),.hole,.hole],[.cells true [.hole,.hole]],[1,2,2,2,1],[kL,.int .i64,.int .i64,.bool,kJ]⟩⟩ [((.exit 0),⟨[],⟨[],[],[],[]⟩⟩),(.ret,⟨[4],⟨[.hole],[],[2],[.int .i64]⟩⟩)] (lp qb zd)
theorem EV:UK zcU (yx (ze Tryz.f98) [1,0,1,0]) O3:=qB .run zk zex ob0
theorem zc5:SK 98 UR:=zU (.seq .run (.seq (.seq .run (.block (.unit O3))) .run)) [.tmp 4] zb zk Cj Tryz.func98 (ob1 EV ob0)
def zaz:ShC:=⟨⟨[.hole,(.clo 151 [(.ptr 0 0)])],[.cells true [.hole,.hole]],[1,1,1],[kL,.bool,kJ]⟩,⟨[.hole],[],[2],[.bool]⟩,1,[],[],false,false,fun (x:(jQ×Bool×jI))=>q9 x.1 x.2.1 x.2.2⟩
theorem zcQ:SK 56 zaz:=zU .run [.tmp 4] zb zk (gd1 zc5 za) Tryz.func56 ob0
def MS:ShC:=⟨⟨[.hole],[],[1],[kL]⟩,⟨[(.view 0)],[.seq false],[0],[kL]⟩,1,[],[],true,false,fun (x:jQ)=>tU x⟩
theorem FQ:GD MS [(56,.gen (yd [zaz]))]:=(gd1 zcQ za)
def zbi:=wD tb gl FQ MS Tryz.f134
theorem zeb:VK zbi:=zh zb FQ
def Sd:Un:=lpU 2 [9,10,11,5,12,13,14,15,16,17,18,19,3,20,8] ⟨[3,6,7,8],⟨[(.view 0),.hole,.hole,.hole],[.seq false],[1,2,2,0],[kL,.int .i64,.int .i64,kL]⟩⟩ [((.exit 0),⟨[3],⟨[(.view 0)],[.seq false],[0],[kL]⟩⟩)] (lp wj zd)
theorem FW:UK zbi (yx (ze Tryz.f134) [1,1,0,1,0]) Sd:=qB .run zk zeb ob0
theorem zcs:SK 134 MS:=zU (.seq .run (.seq .run (.seq (.seq .run (.block (.unit Sd))) .run))) [.tmp 2] zb zk FQ Tryz.func134 (ob1 FW ob0)
def zcf:ShC:=⟨⟨[.hole,(.ptr 0 0)],[.cells true [.hole]],[1,1],[kJ,kJ]⟩,⟨[.hole],[],[2],[.bool]⟩,1,[],[],false,false,fun (x:(jI×jI))=>uP x.1 x.2⟩
theorem zdp:SK 136 zcf:=zU .run [.tmp 3] zb zk (gd1 Vw za) Tryz.func136 ob0
def SX:ShC:=⟨⟨[.hole,(.clo 136 [(.ptr 0 0)])],[.cells true [.hole]],[1,1],[kK,kJ]⟩,⟨[.hole],[],[2],[.int .i64]⟩,1,[],[],false,false,fun (x:(jR×jI))=>vP x.1 x.2⟩
theorem Hk:GD SX [(136,.gen (yd [zcf]))]:=(gd1 zdp za)
def zcl:=wD tb gl Hk SX Tryz.f153
theorem zeB:VK zcl:=zh zb Hk
def Pp:Un:=lpU 2 [9,10,5,11,12,13,14,15,16,17,4,18,8] ⟨[0,1,7,8],⟨[.hole,(.clo 136 [(.ptr 0 0)]),.hole,.hole],[.cells true [.hole]],[1,2,2,1],[kK,.int .i64,.int .i64,kJ]⟩⟩ [((.exit 0),⟨[],⟨[],[],[],[]⟩⟩),(.ret,⟨[4],⟨[.hole],[],[2],[.int .i64]⟩⟩)] (lp yJ zd)
theorem Hd:UK zcl (yx (ze Tryz.f153) [1,0,1,0]) Pp:=qB .run zk zeB ob0
theorem zcd:SK 153 SX:=zU (.seq .run (.seq (.seq .run (.block (.unit Pp))) .run)) [.tmp 4] zb zk Hk Tryz.func153 (ob1 Hd ob0)
def zak:ShC:=⟨⟨[.hole,(.clo 136 [(.ptr 0 0)])],[.cells true [.hole]],[1,1],[kK,kJ]⟩,⟨[.hole],[],[2],[.bool]⟩,1,[],[],false,false,fun (x:(jR×jI))=>qy x.1 x.2⟩
theorem zbe:SK 135 zak:=zU .run [.tmp 4] zb zk (gd1 zcd za) Tryz.func135 ob0
def Nx:ShC:=⟨⟨[.hole,(.aptr 0),(.ptr 1 0)],[.seq false,.cells false [.hole]],[1,1,1],[kJ,kJ,.int .i64]⟩,⟨[(.view 0),(.aptr 1),(.ptr 2 0)],[.seq false,.seq false,.cells false [.hole]],[2,0,2],[kJ,kJ,.int .i64]⟩,1,[1,2],[(0,1),(1,2)],true,false,fun (x:(jI×jI×Int))=>yw x.1 x.2.1 x.2.2⟩
theorem L7:GD Nx [(105,.gen (yd [On])),(107,.gen (yd [zaE]))]:=(gd1 La (gd1 IK za))
def zdh:=wD tb gl L7 Nx Tryz.f137
theorem zeh:VK zdh:=zh zb L7
def PU:Un:=lpU 2 [13,14,15,16,6,7,17,18,19,20,21,22,23,24,25,26,27,28,29,30,31,32,33,34,35,36,37,38,12] ⟨[1,2,5,10,11,12],⟨[(.aptr 0),(.ptr 1 0),(.view 2),(.view 2),.hole,.hole],[.seq false,.cells false [.hole],.seq false],[2,2,0,2,2],[.int .i64,.int .i64,kJ,.int .i64,kJ]⟩⟩ [((.exit 0),⟨[1,2,5],⟨[(.aptr 0),(.ptr 1 0),(.view 2)],[.seq false,.cells false [.hole],.seq false],[0,2,2],[kJ,.int .i64,kJ]⟩⟩)] (lp yA zd)
theorem Fq:UK zdh (yx (ze Tryz.f137) [1,1,0,1,0]) PU:=qB .run zk zeh ob0
theorem zaq:SK 137 Nx:=zU (.seq .run (.seq .run (.seq (.seq .run (.block (.unit PU))) .run))) [.tmp 4] zb zk L7 Tryz.func137 (ob1 Fq ob0)
def Of:ShC:=⟨⟨[(.agg [.hole,.hole,.hole]),(.clo 137 [(.aptr 0),(.ptr 1 0)])],[.seq false,.cells false [.hole]],[1,1,1,1,1],[kL,kK,kL,kJ,.int .i64]⟩,⟨[(.agg [.hole,.hole,(.view 0)]),(.clo 137 [(.aptr 1),(.ptr 2 0)])],[.seq false,.seq false,.cells false [.hole]],[2,2,2,0,2],[kL,kK,kL,kJ,.int .i64]⟩,1,[1],[(0,1),(1,2)],true,false,fun (x:(jQ×jR×jQ×jI×Int))=>kA x.1 x.2.1 x.2.2.1 x.2.2.2.1 x.2.2.2.2⟩
theorem HE:GD Of [(137,.gen (yd [Nx]))]:=(gd1 zaq za)
def N0:=wD tb gl HE Of Tryz.f110
theorem SQ:VK N0:=zh zb HE
def Ru:Un:=lpU 2 [52,53,54,11,55,56,57,58,59,60,61,62,63,64,65,66,67,51] ⟨[1,4,5,49,50,51],⟨[(.clo 137 [(.aptr 0),(.ptr 1 0)]),(.ptr 2 0),(.ptr 3 0),.hole,.hole,.hole],[.seq false,.cells false [.hole],.cells true [.nilv,.nilv,.nilv],.cells false [.hole,.hole,(.view 4)],.seq false],[1,2,2,0,2,2,2,2],[kL,.int .i64,.int .i64,kJ,.int .i64,kL,kK,kL]⟩⟩ [((.exit 4),⟨[1,5],⟨[(.clo 137 [(.aptr 0),(.ptr 1 0)]),(.ptr 2 0)],[.seq false,.cells false [.hole],.cells false [.hole,.hole,(.view 3)],.seq false],[0,2,2,2,2],[kJ,.int .i64,kL,kK,kL]⟩⟩)] (lp xg zd)
theorem HO:UK N0 (yx (ze Tryz.f110) [1,1,1,1,0,1,0]) Ru:=qB (.seq .run (.seq .run (.seq (.block (.seq .run (.hide [[8,9],[8,9],[8,9],[8,9],[],[],[],[],[],[],[],[],[]]))) .run))) zk SQ ob0
def PC:Un:=lpU 2 [36,37,38,9,39,40,41,42,43,44,45,46,47,35] ⟨[1,2,4,5,33,34,35],⟨[(.clo 137 [(.aptr 0),(.ptr 1 0)]),(.ptr 2 0),(.ptr 3 0),(.ptr 4 0),.hole,.hole,.hole],[.seq false,.cells false [.hole],.cells true [.hole,.hole,.hole],.cells true [.nilv,.nilv,.nilv],.cells false [.hole,(.view 5),.nilv],.seq false],[1,2,2,0,2,1,1,1,2,2],[kK,.int .i64,.int .i64,kJ,.int .i64,kL,kK,kL,kL,kK]⟩⟩ [((.exit 2),⟨[1,5],⟨[(.clo 137 [(.aptr 0),(.ptr 1 0)]),(.ptr 2 0)],[.seq false,.cells false [.hole],.cells false [.hole,(.view 3),.nilv],.seq false],[0,2,2,2],[kJ,.int .i64,kL,kK]⟩⟩)] (lp xn zd)
theorem Ml:UK N0 (yx (ze Tryz.f110) [1,1,1,0,1,0]) PC:=qB (.seq .run (.seq .run (.seq (.block (.seq .run (.hide [[8,9],[8,9],[],[],[],[],[],[],[]]))) .run))) zk SQ ob0
def PQ:Un:=lpU 2 [16,17,18,7,19,20,21,22,23,24,25,26,27,28,29,30,31,15] ⟨[1,2,4,5,13,14,15],⟨[(.clo 137 [(.aptr 0),(.ptr 1 0)]),(.ptr 2 0),(.ptr 3 0),(.ptr 4 0),.hole,.hole,.hole],[.seq false,.cells false [.hole],.cells true [.hole,.hole,.hole],.cells true [.nilv,.nilv,.nilv],.cells false [(.view 5),.nilv,.nilv],.seq false],[1,2,2,0,2,1,1,1,2],[kL,.int .i64,.int .i64,kJ,.int .i64,kL,kK,kL,kL]⟩⟩ [((.exit 0),⟨[1,5],⟨[(.clo 137 [(.aptr 0),(.ptr 1 0)]),(.ptr 2 0)],[.seq false,.cells false [.hole],.cells false [(.view 3),.nilv,.nilv],.seq false],[0,2,2],[kJ,.int .i64,kL]⟩⟩)] (lp xd zd)
theorem LX:UK N0 (yx (ze Tryz.f110) [1,1,0,1,0]) PQ:=qB (.seq .run (.seq .run (.seq (.block (.seq .run (.hide [[8,9],[8,9],[8,9],[8,9],[],[],[],[],[],[],[],[],[]]))) .run))) zk SQ ob0
theorem zbm:SK 110 Of:=zU (.seq .run (.seq .run (.seq (.seq .run (.block (.unit PQ))) (.seq (.seq .run (.block (.unit PC))) (.seq (.seq .run (.block (.unit Ru))) .run))))) [.cell 4 26] zb zk HE Tryz.func110 (ob1 LX (ob1 Ml (ob1 HO ob0)))
def TN:ShC:=⟨⟨[(.agg [.hole,.hole,.hole])],[],[1,1,1],[kL,kK,kL]⟩,⟨[(.agg [.hole,.hole,(.view 0)])],[.seq false],[2,2,2],[kL,kK,kL]⟩,1,[],[],false,false,fun (x:(jQ×jR×jQ))=>rO x.1 x.2.1 x.2.2⟩
theorem Mn:GD TN [(110,.gen (yd [Of])),(134,.gen (yd [MS])),(135,.gen (yd [zak]))]:=(gd1 zbm (gd1 zcs (gd1 zbe za)))
def zcv:=wD tb gl Mn TN Tryz.f109
theorem zdN:VK zcv:=zh zb Mn
def R2:Un:=lpU 2 [19,20,21,5,22,23,24,25,26,27,28,29,30,31,32,33,18] ⟨[2,3,16,17,18],⟨[(.ptr 0 0),(.ptr 1 0),.hole,.hole,.hole],[.cells true [.nilv,.nilv,.nilv],.cells false [.hole,(.view 2),.hole],.seq false],[1,2,2,0,0,0],[kK,.int .i64,.int .i64,kL,kL,kK]⟩⟩ [((.exit 0),⟨[3],⟨[(.ptr 0 0)],[.cells false [.hole,(.view 1),.hole],.seq false],[0,0,0],[kL,kL,kK]⟩⟩)] (lp wy zd)
theorem Ek:UK zcv (yx (ze Tryz.f109) [1,1,0,1,0]) R2:=qB .run zk zdN ob0
theorem zc2:SK 109 TN:=zU (.seq .run (.seq .run (.seq (.seq .run (.block (.unit R2))) .run))) [.cell 2 26] zb zk Mn Tryz.func109 (ob1 Ek ob0)
def zec:ShC:=⟨⟨[.hole,(.agg [.hole,.hole,.hole])],[],[1,1,1,1],[kM,kL,kK,kL]⟩,⟨[(.agg [.hole,.hole,(.view 0)]),.hole],[.seq false],[2,2,2,2],[kL,kK,.int .i64,kL]⟩,2,[],[],false,true,fun (x:(jS×jQ×jR×jQ))=>vT x.1 x.2.1 x.2.2.1 x.2.2.2⟩
theorem OH:SK 69 zec:=zU .run [.cell 4 26,.tmp 5] zb zk (gdG Wr (gd1 zc2 za)) Tryz.func69 ob0
def zbL:ShC:=⟨⟨[.hole,(.agg [.hole,.hole,.hole]),.hole],[],[1,1,1,1,1],[kM,kL,kK,kL,.int .i64]⟩,⟨[(.agg [.hole,.hole,(.view 0)]),.hole,.hole],[.seq false],[2,2,2,2,2],[kL,kK,.bool,.int .i64,kL]⟩,3,[],[],false,true,fun (x:(jS×jQ×jR×jQ×Int))=>xz x.1 x.2.1 x.2.2.1 x.2.2.2.1 x.2.2.2.2⟩
theorem RD:SK 47 zbL:=zU .run [.cell 6 26,.tmp 7,.tmp 8] zb zk (gd1 Sk (gdG P7 (gdG OH (gd1 O8 (gd1 OB za))))) Tryz.func47 ob0
def zc4:ShC:=⟨⟨[.hole,(.agg [.hole,.hole,.hole]),.hole],[],[1,1,1,1,1],[kM,kL,kK,kL,.int .i64]⟩,⟨[(.agg [.hole,.hole,(.view 0)]),.hole,.hole],[.seq false],[2,2,2,2,2],[kL,kK,.bool,.int .i64,kL]⟩,3,[],[],false,true,fun (x:(jS×jQ×jR×jQ×Int))=>vh x.1 x.2.1 x.2.2.1 x.2.2.2.1 x.2.2.2.2⟩
theorem Rh:SK 18 zc4:=zU .run [.cell 6 26,.tmp 7,.tmp 8] zb zk (gdG Wr (gd1 Bg (gdG RD za))) Tryz.func18 ob0
def zcq:ShC:=⟨⟨[.hole],[],[1],[.int .u8]⟩,⟨[.hole],[],[2],[.bool]⟩,1,[],[],false,false,fun (x:Int)=>rx x⟩
theorem zaY:SK 140 zcq:=zU .run [.tmp 2] zb zk za Tryz.func140 ob0
def NE:ShC:=⟨⟨[(.agg [.hole,.hole,.hole,.hole])],[],[1,1,1,1],[.str,.int .i64,.int .i64,.int .i64]⟩,⟨[.hole],[],[2],[.bool]⟩,1,[],[],false,false,fun (x:zl)=>tY x.1 x.2.1 x.2.2.1 x.2.2.2⟩
theorem Mx:GD NE [(140,.gen (yd [zcq]))]:=(gd1 zaY za)
def zcu:=wD tb gl Mx NE Tryz.f116
theorem zdM:VK zcu:=zh zb Mx
def Oz:Un:=lpU 2 [21,22,23,24,25,28,29,30,31,32,33,34,35,36,37,38,39,40,41,42,43,44,45,46,47,2,26,27,3] ⟨[1,3],⟨[(.ptr 0 0),.hole],[.cells true [.hole,.hole,.hole,.hole]],[2,2,2,2,2],[.int .i64,.str,.int .i64,.int .i64,.int .i64]⟩⟩ [((.exit 0),⟨[],⟨[],[],[],[]⟩⟩),(.ret,⟨[2],⟨[.hole],[],[2],[.bool]⟩⟩)] (lp wx zd)
theorem Hn:UK zcu (yx (ze Tryz.f116) [1,1,0,1,0]) Oz:=qB .run zk zdM ob0
theorem zcD:SK 116 NE:=zU (.seq .run (.seq .run (.seq (.seq .run (.block (.unit Oz))) .run))) [.tmp 2] zb zk Mx Tryz.func116 (ob1 Hn ob0)
def NT:ShC:=⟨⟨[.hole,.hole],[],[1,1],[kM,.str]⟩,⟨[.hole],[],[2],[.int .i64]⟩,1,[],[],false,false,fun (x:(jS×Str))=>Zc x.1 x.2⟩
theorem Mp:GD NT []:=za
def zbt:=wD tb gl Mp NT Tryz.f117
theorem zdR:VK zbt:=zh zb Mp
def Rg:Un:=lpU 2 [6,7,8,9,12,13,14,15,16,17,18,19,4,10,11,5] ⟨[0,1,5],⟨[.hole,.hole,.hole],[],[1,2,2],[kM,.str,.int .i64]⟩⟩ [((.exit 0),⟨[],⟨[],[],[],[]⟩⟩),(.ret,⟨[4],⟨[.hole],[],[2],[.int .i64]⟩⟩)] (lp vH zd)
theorem Ea:UK zbt (yx (ze Tryz.f117) [1,0,1,0]) Rg:=qB .run zk zdR ob0
theorem zcZ:SK 117 NT:=zU (.seq .run (.seq (.seq .run (.block (.unit Rg))) .run)) [.tmp 4] zb zk Mp Tryz.func117 (ob1 Ea ob0)
def NW:ShC:=⟨⟨[.hole],[],[1],[kM]⟩,⟨[.hole],[],[2],[.bool]⟩,1,[],[],false,false,fun (x:jS)=>u2 x⟩
theorem CN:GD NW [(116,.gen (yd [NE])),(117,.gen (yd [NT]))]:=(gd1 zcD (gd1 zcZ za))
def zar:=wD tb gl CN NW Tryz.f73
theorem zeH:VK zar:=zh zb CN
def Pj:Un:=lpU 2 [19,20,21,22,25,26,27,28,29,30,31,32,33,34,35,36,37,38,39,40,41,2,23,24,3] ⟨[0,3],⟨[.hole,.hole],[],[1,2],[kM,.int .i64]⟩⟩ [((.exit 0),⟨[],⟨[],[],[],[]⟩⟩),(.ret,⟨[2],⟨[.hole],[],[2],[.bool]⟩⟩)] (lp q6 zd)
theorem EY:UK zar (yx (ze Tryz.f73) [1,1,0,1,0]) Pj:=qB .run zk zeH ob0
theorem Pt:SK 73 NW:=zU (.seq .run (.seq .run (.seq (.seq .run (.block (.unit Pj))) .run))) [.tmp 2] zb zk CN Tryz.func73 (ob1 EY ob0)
def Oh:ShC:=⟨⟨[.hole,.hole,.hole],[],[1,1,1],[kM,kJ,.int .i64]⟩,⟨[.hole],[],[2],[.int .i64]⟩,1,[],[],false,false,fun (x:(jS×jI×Int))=>Xz x.1 x.2.1 x.2.2⟩
theorem ER:GD Oh []:=za
def zcp:=wD tb gl ER Oh Tryz.f79
theorem ze2:VK zcp:=zh zb ER
def Sj:Un:=lpU 2 [10,11,12,13,14,15,16,17,18,19,20,21,22,23,24,25,26,27,28,29,30,31,6,32,33,7,34,35,36,37,38,39,40,41,42,43,44,45,46,47,6,48,49,50,51,52,53,54,55,56,57,7,58,59,8] ⟨[0,1,7,8],⟨[.hole,.hole,.hole,.hole],[],[1,1,2,2],[kM,kJ,.int .i64,.int .i64]⟩⟩ [((.exit 0),⟨[8],⟨[.hole],[],[2],[.int .i64]⟩⟩),(.ret,⟨[6],⟨[.hole],[],[2],[.int .i64]⟩⟩)] (lp ve zd)
theorem EQ:UK zcp (yx (ze Tryz.f79) [1,1,0,0]) Sj:=qB .run zk ze2 ob0
theorem zba:SK 79 Oh:=zU (.seq .run (.seq .run (.seq (.block (.unit Sj)) .run))) [.tmp 6] zb zk ER Tryz.func79 (ob1 EQ ob0)
def NQ:ShC:=⟨⟨[.hole,.hole],[],[1,1],[kM,kJ]⟩,⟨[.hole],[],[2],[.int .i64]⟩,1,[],[],false,false,fun (x:(jS×jI))=>vD x.1 x.2⟩
theorem CL:GD NQ [(79,.gen (yd [Oh]))]:=(gd1 zba za)
def zdi:=wD tb gl CL NQ Tryz.f75
theorem zeS:VK zdi:=zh zb CL
def Pw:Un:=lpU 2 [10,11,12,13,14,15,16,17,6,18,19,4,20,21,5] ⟨[0,1,5,6],⟨[.hole,.hole,.hole,.hole],[],[1,1,2,2],[kM,kJ,.int .i64,.int .i64]⟩⟩ [((.exit 0),⟨[5],⟨[.hole],[],[2],[.int .i64]⟩⟩),(.ret,⟨[4],⟨[.hole],[],[2],[.int .i64]⟩⟩)] (lp vX zd)
theorem Mg:UK zdi (yx (ze Tryz.f75) [1,1,1,0,0]) Pw:=qB .run zk zeS ob0
theorem Px:SK 75 NQ:=zU (.seq .run (.seq .run (.seq .run (.seq (.block (.unit Pw)) .run)))) [.tmp 4] zb zk CL Tryz.func75 (ob1 Mg ob0)
def zet:ShC:=⟨⟨[.hole,.hole],[],[1,1],[kM,kJ]⟩,⟨[.hole],[],[2],[.bool]⟩,1,[],[],false,false,fun (x:(jS×jI))=>ko x.1 x.2⟩
theorem zbn:SK 118 zet:=zU .run [.tmp 4] zb zk (gd1 Px za) Tryz.func118 ob0
def zco:ShC:=⟨⟨[.hole,(.agg [.hole,.hole])],[],[1,1,1],[kM,.bool,kJ]⟩,⟨[.hole],[],[2],[.bool]⟩,1,[],[],false,false,fun (x:(jS×Bool×jI))=>vf x.1 x.2.1 x.2.2⟩
theorem zcO:SK 74 zco:=zU .run [.tmp 4] zb zk (gd1 Pt (gd1 zbn za)) Tryz.func74 ob0
def LW:ShC:=⟨⟨[(.agg [.hole,.hole,.hole])],[],[1,1,1],[kL,kK,kL]⟩,⟨[(.view 0)],[.seq false],[0],[kK]⟩,1,[],[],true,false,fun (x:(jQ×jR×jQ))=>jx x.1 x.2.1 x.2.2⟩
theorem Hw:GD LW []:=za
def Np:=wD tb gl Hw LW Tryz.f76
theorem Sq:VK Np:=zh zb Hw
def O0:Un:=lpU 2 [38,39,40,41,42,45,46,47,48,49,50,51,52,53,3,43,44,6] ⟨[1,3,6],⟨[(.ptr 0 0),(.view 1),.hole],[.cells true [.hole,.hole,.hole],.seq false],[2,1,1,1,0],[.int .i64,kL,kK,kL,kK]⟩⟩ [((.exit 4),⟨[3],⟨[(.view 0)],[.seq false],[0],[kK]⟩⟩)] (lp vG zd)
theorem Fs:UK Np (yx (ze Tryz.f76) [1,1,1,1,0,1,0]) O0:=qB .run zk Sq ob0
def OV:Un:=lpU 2 [23,24,25,26,27,30,31,32,33,34,35,36,37,3,28,29,5] ⟨[1,3,5],⟨[(.ptr 0 0),(.view 1),.hole],[.cells true [.hole,.hole,.hole],.seq false],[2,1,1,1,0],[.int .i64,kL,kK,kL,kK]⟩⟩ [((.exit 2),⟨[3],⟨[(.view 0)],[.seq false],[0],[kK]⟩⟩)] (lp vy zd)
theorem HM:UK Np (yx (ze Tryz.f76) [1,1,1,0,1,0]) OV:=qB .run zk Sq ob0
def R8:Un:=lpU 2 [7,8,9,10,11,14,15,16,17,18,19,20,21,22,3,12,13,4] ⟨[1,3,4],⟨[(.ptr 0 0),(.view 1),.hole],[.cells true [.hole,.hole,.hole],.seq false],[2,1,1,1,0],[.int .i64,kL,kK,kL,kK]⟩⟩ [((.exit 0),⟨[3],⟨[(.view 0)],[.seq false],[0],[kK]⟩⟩)] (lp vn zd)
theorem Fg:UK Np (yx (ze Tryz.f76) [1,1,0,1,0]) R8:=qB .run zk Sq ob0
theorem Rd:SK 76 LW:=zU (.seq .run (.seq .run (.seq (.seq .run (.block (.unit R8))) (.seq (.seq .run (.block (.unit OV))) (.seq (.seq .run (.block (.unit O0))) .run))))) [.tmp 2] zb zk Hw Tryz.func76 (ob1 Fg (ob1 HM (ob1 Fs ob0)))
def Na:ShC:=⟨⟨[.hole,(.agg [.hole,.hole,.hole])],[],[1,1,1,1],[kM,kL,kK,kL]⟩,⟨[.hole],[],[2],[.bool]⟩,1,[],[],false,false,fun (x:(jS×jQ×jR×jQ))=>ZA x.1 x.2.1 x.2.2.1 x.2.2.2⟩
theorem Lf:GD Na [(73,.gen (yd [NW])),(74,.gen (yd [zco])),(75,.gen (yd [NQ])),(76,.gen (yd [LW]))]:=(gd1 Pt (gd1 zcO (gd1 Px (gd1 Rd za))))
def Mh:=wD tb gl Lf Na Tryz.f31
theorem NB:VK Mh:=zh zb Lf
def Oy:Un:=lpU 2 [91,92,93,94,97,98,99,100,101,102,103,10,95,96,11] ⟨[9,10,11],⟨[.hole,.hole,.hole],[],[0,2,2],[kK,.int .i64,.int .i64]⟩⟩ [((.exit 6),⟨[10],⟨[.hole],[],[2],[.int .i64]⟩⟩)] (lp uE zd)
theorem E0:UK Mh (yx (ze Tryz.f31) [1,1,1,1,1,1,1,0,1,0]) Oy:=qB .run zk NB ob0
def Pi:Un:=lpU 2 [63,64,65,66,67,70,71,72,73,74,75,76,8,77,78,79,80,81,82,83,84,85,86,87,88,4,68,69,7] ⟨[0,3,7],⟨[.hole,(.ptr 0 0),.hole],[.cells true [.hole,.hole,.hole]],[1,2,1,1,1],[kM,.int .i64,kL,kK,kL]⟩⟩ [((.exit 4),⟨[],⟨[],[],[],[]⟩⟩),(.ret,⟨[4],⟨[.hole],[],[2],[.bool]⟩⟩)] (lp uG zd)
theorem EA:UK Mh (yx (ze Tryz.f31) [1,1,1,1,0,1,0]) Pi:=qB .run zk NB ob0
def R7:Un:=lpU 2 [48,49,50,51,52,55,56,57,58,59,60,61,62,4,53,54,6] ⟨[0,3,6],⟨[.hole,(.ptr 0 0),.hole],[.cells true [.hole,.hole,.hole]],[1,2,1,1,1],[kM,.int .i64,kL,kK,kL]⟩⟩ [((.exit 2),⟨[],⟨[],[],[],[]⟩⟩),(.ret,⟨[4],⟨[.hole],[],[2],[.bool]⟩⟩)] (lp uF zd)
theorem Eg:UK Mh (yx (ze Tryz.f31) [1,1,1,0,1,0]) R7:=qB .run zk NB ob0
def PK:Un:=lpU 2 [33,34,35,36,37,40,41,42,43,44,45,46,47,4,38,39,5] ⟨[0,3,5],⟨[.hole,(.ptr 0 0),.hole],[.cells true [.hole,.hole,.hole]],[1,2,1,1,1],[kM,.int .i64,kL,kK,kL]⟩⟩ [((.exit 0),⟨[],⟨[],[],[],[]⟩⟩),(.ret,⟨[4],⟨[.hole],[],[2],[.bool]⟩⟩)] (lp uC zd)
theorem Mq:UK Mh (yx (ze Tryz.f31) [1,1,0,1,0]) PK:=qB .run zk NB ob0
theorem Mw:SK 31 Na:=zU (.seq .run (.seq .run (.seq (.seq .run (.block (.unit PK))) (.seq (.seq .run (.block (.unit R7))) (.seq (.seq .run (.block (.unit Pi))) (.seq .run (.seq .run (.seq (.seq .run (.block (.unit Oy))) .run)))))))) [.tmp 4] zb zk Lf Tryz.func31 (ob1 Mq (ob1 Eg (ob1 EA (ob1 E0 ob0))))
def zel:ShC:=⟨⟨[(.agg [.hole,.hole,.hole]),.hole],[],[1,1,1,1],[kL,kK,kL,.int .i64]⟩,⟨[.hole],[],[2],[.bool]⟩,1,[],[],false,false,fun (x:(jQ×jR×jQ×Int))=>rI x.1 x.2.1 x.2.2.1 x.2.2.2⟩
theorem zbd:SK 48 zel:=zU .run [.tmp 4] zb zk za Tryz.func48 ob0
def MV:ShC:=⟨⟨[.hole,.hole,.hole],[],[1,1,1],[kM,kJ,.int .i64]⟩,⟨[.hole],[],[2],[.int .i64]⟩,1,[],[],false,false,fun (x:(jS×jI×Int))=>ky x.1 x.2.1 x.2.2⟩
theorem FH:GD MV []:=za
def zai:=wD tb gl FH MV Tryz.f92
theorem zfb:VK zai:=zh zb FH
def R0:Un:=lpU 2 [10,11,12,13,7,14,15,16,17,18,19,20,21,22,23,24,25,26,27,28,7,29,30,8] ⟨[0,1,7,8],⟨[.hole,.hole,.hole,.hole],[],[1,1,2,2],[kM,kJ,.int .i64,.int .i64]⟩⟩ [((.exit 0),⟨[8],⟨[.hole],[],[2],[.int .i64]⟩⟩)] (lp xB zd)
theorem Md:UK zai (yx (ze Tryz.f92) [1,1,0,0]) R0:=qB .run zk zfb ob0
theorem zcJ:SK 92 MV:=zU (.seq .run (.seq .run (.seq (.block (.unit R0)) .run))) [.tmp 6] zb zk FH Tryz.func92 (ob1 Md ob0)
def AR:ShC:=⟨⟨[.hole,.hole],[],[1,1],[kM,kJ]⟩,⟨[(.view 0)],[.seq false],[0],[kK]⟩,1,[],[],true,false,fun (x:(jS×jI))=>zD x.1 x.2⟩
theorem F8:GD AR [(92,.gen (yd [MV]))]:=(gd1 zcJ za)
def zcr:=wD tb gl F8 AR Tryz.f49
theorem zem:VK zcr:=zh zb F8
def ON:Un:=lpU 2 [8,9,10,11,12,13,14,15,7,16,17,18,19,20,21,22,5,23,6] ⟨[0,1,5,6],⟨[.hole,.hole,(.view 0),.hole],[.seq false],[1,1,2,0],[kM,kJ,.int .i64,kK]⟩⟩ [((.exit 0),⟨[5],⟨[(.view 0)],[.seq false],[0],[kK]⟩⟩)] (lp vO zd)
theorem CQ:UK zcr (yx (ze Tryz.f49) [1,1,1,0,0]) ON:=qB .run zk zem ob0
theorem GI:SK 49 AR:=zU (.seq .run (.seq .run (.seq .run (.seq (.block (.unit ON)) .run)))) [.tmp 4] zb zk F8 Tryz.func49 (ob1 CQ ob0)
def TG:ShC:=⟨⟨[(.ptr 0 0),.hole],[.cells true [.hole]],[1,1],[kJ,.ar kR 48]⟩,⟨[.hole],[],[1],[kJ]⟩,1,[],[],true,false,fun (x:(jI×jR))=>wO x.1 x.2⟩
theorem Cs:GD TG []:=za
def zcS:=wD tb gl Cs TG Tryz.f145
theorem zd5:VK zcS:=zh zb Cs
def P9:Un:=lpU 2 [5,6,7,8,9,10,11,12,13,14,15,16,17,18,19,20,21,22,23,24,25,26,27,28,29,30,31,32,33,34,35,1] ⟨[0,1],⟨[(.ptr 0 0),.hole],[.cells true [.hole]],[1,1],[kJ,.ar kR 48]⟩⟩ [((.exit 0),⟨[1],⟨[.hole],[],[1],[kJ]⟩⟩)] (lp xt zd)
theorem FF:UK zcS (yx (ze Tryz.f145) [1,0,0]) P9:=qB .run zk zd5 ob0
theorem zaP:SK 145 TG:=zU (.seq .run (.seq (.block (.unit P9)) .run)) [.tmp 4] zb zk Cs Tryz.func145 (ob1 FF ob0)
def AN:ShC:=⟨⟨[.hole,.hole],[],[1,1],[kJ,kJ]⟩,⟨[.hole],[],[2],[.bool]⟩,1,[],[],false,false,fun (x:(jI×jI))=>qX x.1 x.2⟩
theorem E7:GD AN []:=za
def zcN:=wD tb gl E7 AN Tryz.f121
theorem zew:VK zcN:=zh zb E7
def RI:Un:=lpU 2 [11,12,13,14,17,18,19,20,21,22,23,24,25,4,15,16,5] ⟨[0,1,5],⟨[.hole,.hole,.hole],[],[1,1,2],[kJ,kJ,.int .i64]⟩⟩ [((.exit 0),⟨[],⟨[],[],[],[]⟩⟩),(.ret,⟨[4],⟨[.hole],[],[2],[.bool]⟩⟩)] (lp vq zd)
theorem En:UK zcN (yx (ze Tryz.f121) [1,1,0,1,0]) RI:=qB .run zk zew ob0
theorem V4:SK 121 AN:=zU (.seq .run (.seq .run (.seq (.seq .run (.block (.unit RI))) .run))) [.tmp 4] zb zk E7 Tryz.func121 (ob1 En ob0)
def K2 (k:Nat):ShC:=⟨⟨[(.ptr 0 0),.hole,.hole],[.cells true [.hole]],[1,1,1],[.int .i64,kJ,.ar kR 48]⟩,⟨[.hole],[],[2],[.bool]⟩,1,[],[],false,false,(yz k)⟩
def zeL:ShC:=⟨⟨[(.ptr 0 0),.hole,.hole],[.cells true [.hole]],[1,1,1],[.int .i64,kJ,.ar kR 48]⟩,⟨[.hole],[],[2],[.bool]⟩,1,[],[],false,false,fun (x:(Int×jI×jR))=>uI x.1 x.2.1 x.2.2⟩
def Ws (k:Nat):Prop:=SK 155 (K2 k)
def zcI (k:Nat):List (Nat×Con):=[(155,.gen (yd [K2 k]))]
theorem OR (k:Nat) (h:Ws k):GD (K2 (k+1)) (zcI k):=(gd1 h za)
def zbE (k:Nat):Env:=je tb gl (zcI k) (K2 (k+1)) Tryz.f155.ntmps
theorem zeA (k:Nat) (h:Ws k):VK (zbE k):=zh zb (OR k h)
def OQ (k:Nat):Un:=lpU 2 [9,10,11,12,15,16,17,18,19,20,21,22,23,24,8,25,26,27,28,29,30,31,32,33,34,35,36,37,38,39,40,41,42,43,44,45,46,47,48,6,13,14,7] ⟨[0,1,2,7],⟨[(.ptr 0 0),.hole,.hole,.hole],[.cells true [.hole]],[2,1,2,1],[.int .i64,kJ,.int .i64,.ar kR 48]⟩⟩ [((.exit 0),⟨[],⟨[],[],[],[]⟩⟩),(.ret,⟨[6],⟨[.hole],[],[2],[.bool]⟩⟩)] (lp (yW (yz k)) zd)
theorem HV (k:Nat) (h:Ws k):UK (zbE k) (yx (ze Tryz.f155) [1,0,1,0]) (OQ k):=qB .run zk (zeA k h) ob0
theorem SB (k:Nat) (h:Ws k):SK 155 (K2 (k+1)):=zU (.seq .run (.seq (.seq .run (.block (.unit (OQ k)))) .run)) [.tmp 6] zb zk (OR k h) Tryz.func155 (ob1 (HV k h) ob0)
theorem J8:∀ k,Ws k
 | 0=>QG (by kernel_rfl) fun _=>rfl
 | k+1=>have h:=J8 k; SB k h
theorem zbF:SK 155 zeL:=(J8 zd)
def zeR:ShC:=⟨⟨[(.ptr 0 0),.hole,.hole,.hole],[.cells false [.hole]],[1,1,1,1],[kJ,kJ,.bool,.ar kR 48]⟩,⟨[.hole,(.ptr 0 0)],[.cells false [.hole]],[2,1],[.bool,.ar kR 48]⟩,1,[0],[(0,0)],true,false,fun (x:(jI×jI×Bool×jR))=>zt x.1 x.2.1 x.2.2.1 x.2.2.2⟩
theorem za3:SK 146 zeR:=zU .run [.tmp 8] zb zk (gd1 zbF za) Tryz.func146 ob0
def Lx (k:Nat):ShC:=⟨⟨[(.ptr 0 0),.hole,.hole,.hole],[.cells false [.hole]],[1,1,1,1],[kM,kJ,kJ,.ar kR 48]⟩,⟨[.hole,(.ptr 0 0)],[.cells false [.hole]],[2,0],[.bool,.ar kR 48]⟩,1,[0],[(0,0)],true,false,(zz k).1⟩
def zeK:ShC:=⟨⟨[(.ptr 0 0),.hole,.hole,.hole],[.cells false [.hole]],[1,1,1,1],[kM,kJ,kJ,.ar kR 48]⟩,⟨[.hole,(.ptr 0 0)],[.cells false [.hole]],[2,0],[.bool,.ar kR 48]⟩,1,[0],[(0,0)],true,false,fun (x:(jS×jI×jI×jR))=>QB x.1 x.2.1 x.2.2.1 x.2.2.2⟩
def D7 (k:Nat):ShC:=⟨⟨[(.ptr 0 0),.hole,.hole,.hole],[.cells false [.hole]],[1,1,1,1],[kM,kK,kK,.ar kR 48]⟩,⟨[.hole,(.ptr 0 0)],[.cells false [.hole]],[2,0],[.bool,.ar kR 48]⟩,1,[0],[(0,0)],true,false,(zz k).2⟩
def zcj:ShC:=⟨⟨[(.ptr 0 0),.hole,.hole,.hole],[.cells false [.hole]],[1,1,1,1],[kM,kK,kK,.ar kR 48]⟩,⟨[.hole,(.ptr 0 0)],[.cells false [.hole]],[2,0],[.bool,.ar kR 48]⟩,1,[0],[(0,0)],true,false,fun (x:(jS×jR×jR×jR))=>th x.1 x.2.1 x.2.2.1 x.2.2.2⟩
def QK (k:Nat):Prop:=SK 125 (Lx k)∧SK 93 (D7 k)
theorem T3 (k:Nat) (h:QK k):SK 125 (Lx (k+1)):=zU .run [.tmp 8] zb zk (gd1 GI (gd1 h.2 (gd1 V4 (gd1 zaP (gd1 za3 za))))) Tryz.func125 ob0
def zbk (k:Nat):List (Nat×Con):=[(125,.gen (yd [Lx k]))]
theorem OJ (k:Nat) (h:QK k):GD (D7 (k+1)) (zbk k):=(gd1 h.1 za)
def zbw (k:Nat):Env:=je tb gl (zbk k) (D7 (k+1)) Tryz.f93.ntmps
theorem zd9 (k:Nat) (h:QK k):VK (zbw k):=zh zb (OJ k h)
def RY (k:Nat):Un:=lpU 2 [10,11,12,13,16,17,18,19,20,21,22,23,24,25,26,27,8,14,15,9] ⟨[0,1,2,3,9],⟨[(.ptr 0 0),.hole,.hole,.hole,.hole],[.cells false [.hole]],[1,1,1,2,0],[kM,kK,kK,.int .i64,.ar kR 48]⟩⟩ [((.exit 0),⟨[0],⟨[(.ptr 0 0)],[.cells false [.hole]],[0],[.ar kR 48]⟩⟩),(.ret,⟨[0,8],⟨[(.ptr 0 0),.hole],[.cells false [.hole]],[2,0],[.bool,.ar kR 48]⟩⟩)] (lp (qc (zz k)) zd)
theorem LK (k:Nat) (h:QK k):UK (zbw k) (yx (ze Tryz.f93) [1,0,1,0]) (RY k):=qB .run zk (zd9 k h) ob0
theorem Ss (k:Nat) (h:QK k):SK 93 (D7 (k+1)):=zU (.seq .run (.seq (.seq .run (.block (.unit (RY k)))) .run)) [.tmp 8] zb zk (OJ k h) Tryz.func93 (ob1 (LK k h) ob0)
theorem XJ:∀ k,QK k
 | 0=>⟨(QG (by kernel_rfl) fun _=>rfl),(QG (by kernel_rfl) fun _=>rfl)⟩
 | k+1=>have h:=XJ k; ⟨T3 k h,Ss k h⟩
theorem zft:SK 125 zeK:=(XJ zd).1
theorem zaf:SK 93 zcj:=(XJ zd).2
def GB (k:Nat):ShC:=⟨⟨[(.ptr 0 0),(.view 1),.hole],[.cells true [.hole],.seq false],[1,1,1],[kJ,.ar kR 48,kJ]⟩,⟨[(.view 0)],[.seq false],[0],[kJ]⟩,1,[],[],true,false,(zX k)⟩
def zbq:ShC:=⟨⟨[(.ptr 0 0),(.view 1),.hole],[.cells true [.hole],.seq false],[1,1,1],[kJ,.ar kR 48,kJ]⟩,⟨[(.view 0)],[.seq false],[0],[kJ]⟩,1,[],[],true,false,fun (x:(jI×jR×jI))=>wU x.1 x.2.1 x.2.2⟩
def X0 (k:Nat):Prop:=SK 94 (GB k)
def zc1 (k:Nat):List (Nat×Con):=[(94,.gen (yd [GB k]))]
theorem OS (k:Nat) (h:X0 k):GD (GB (k+1)) (zc1 k):=(gd1 h za)
def zaI (k:Nat):Env:=je tb gl (zc1 k) (GB (k+1)) Tryz.f94.ntmps
theorem zeW (k:Nat) (h:X0 k):VK (zaI k):=zh zb (OS k h)
def R5 (k:Nat):Un:=lpU 2 [8,9,10,11,12,13,14,15,16,19,20,21,22,23,24,25,26,27,28,29,30,31,32,33,34,35,36,37,38,39,40,41,42,43,44,45,46,47,48,49,50,1,51,52,53,54,55,56,57,1,17,18,7] ⟨[0,1,2,7],⟨[(.ptr 0 0),(.view 1),.hole,.hole],[.cells true [.hole],.seq false],[1,2,1,0],[kJ,.int .i64,.ar kR 48,kJ]⟩⟩ [((.exit 0),⟨[1],⟨[(.view 0)],[.seq false],[0],[kJ]⟩⟩)] (lp (yX (zX k)) zd)
theorem CD (k:Nat) (h:X0 k):UK (zaI k) (yx (ze Tryz.f94) [1,0,1,0]) (R5 k):=qB .run zk (zeW k h) ob0
theorem TX (k:Nat) (h:X0 k):SK 94 (GB (k+1)):=zU (.seq .run (.seq (.seq .run (.block (.unit (R5 k)))) .run)) [.tmp 6] zb zk (OS k h) Tryz.func94 (ob1 (CD k h) ob0)
theorem K6:∀ k,X0 k
 | 0=>QG (by kernel_rfl) fun _=>rfl
 | k+1=>have h:=K6 k; TX k h
theorem zbH:SK 94 zbq:=(K6 zd)
def Uw:ShC:=⟨⟨[.hole,.hole,.hole],[],[1,1,1],[kM,kJ,kJ]⟩,⟨[(.view 0),.hole,.hole],[.seq false],[2,2,0],[.bool,.bool,.sl (.cons kZ kR)]⟩,3,[],[],true,false,fun (x:(jS×jI×jI))=>vM x.1 x.2.1 x.2.2⟩
theorem F0:GD Uw [(49,.gen (yd [AR])),(93,.gen (yd [zcj])),(94,.gen (yd [zbq]))]:=(gd1 GI (gd1 zaf (gd1 zbH za)))
def zcg:=wD tb gl F0 Uw Tryz.f50
theorem zdO:VK zcg:=zh zb F0
def PB:Un:=lpU 2 [36,37,40,41,42,43,44,45,46,47,48,49,50,51,52,53,54,55,14,56,57,58,6,7,8,59,60,61,62,63,64,12,38,39,13] ⟨[11,12,13],⟨[(.ptr 0 0),(.view 1),.hole],[.cells true [.hole],.seq false],[2,0,0],[.int .i64,.ar kR 48,.sl (.cons kZ kR)]⟩⟩ [((.exit 0),⟨[12],⟨[(.view 0)],[.seq false],[0],[.sl (.cons kZ kR)]⟩⟩),(.ret,⟨[6,7,8],⟨[.nilv,.hole,.hole],[],[2,2],[.bool,.bool]⟩⟩)] (lp qE zd)
theorem Fy:UK zcg (yx (ze Tryz.f50) [1,1,1,1,1,0,1,0]) PB:=qB .run zk zdO ob0
theorem zbx:SK 50 Uw:=zU (.seq .run (.seq .run (.seq .run (.seq .run (.seq .run (.seq (.seq .run (.block (.unit PB))) .run)))))) [.tmp 6,.tmp 7,.tmp 8] zb zk F0 Tryz.func50 (ob1 Fy ob0)
def zeZ:ShC:=⟨⟨[.hole,.hole],[],[1,1],[kL,.int .i64]⟩,⟨[(.view 0)],[.seq false],[0],[kL]⟩,1,[],[],true,false,fun (x:(jQ×Int))=>tx x.1 x.2⟩
theorem zbz:SK 52 zeZ:=zU .run [.tmp 4] zb zk za Tryz.func52 ob0
def CR:ShC:=⟨⟨[.hole,.hole],[],[1,1],[.sl (.cons kZ kR),.int .i64]⟩,⟨[.hole],[],[2],[.int .i64]⟩,1,[],[],false,false,fun (x:((List (Int×jI))×Int))=>Z8 x.1 x.2⟩
theorem Fd:GD CR []:=za
def zbU:=wD tb gl Fd CR Tryz.f120
theorem zeI:VK zbU:=zh zb Fd
def OO:Un:=lpU 2 [6,7,8,9,12,13,14,15,16,17,18,19,4,10,11,5] ⟨[0,1,5],⟨[.hole,.hole,.hole],[],[1,2,2],[.sl (.cons kZ kR),.int .i64,.int .i64]⟩⟩ [((.exit 0),⟨[],⟨[],[],[],[]⟩⟩),(.ret,⟨[4],⟨[.hole],[],[2],[.int .i64]⟩⟩)] (lp tP zd)
theorem CW:UK zbU (yx (ze Tryz.f120) [1,0,1,0]) OO:=qB .run zk zeI ob0
theorem RS:SK 120 CR:=zU (.seq .run (.seq (.seq .run (.block (.unit OO))) .run)) [.tmp 4] zb zk Fd Tryz.func120 (ob1 CW ob0)
def N6:ShC:=⟨⟨[.hole,.hole],[],[1,1],[.sl (.cons kZ kR),kJ]⟩,⟨[(.view 0)],[.seq false],[2],[kJ]⟩,1,[],[],false,false,fun (x:((List (Int×jI))×jI))=>tF x.1 x.2⟩
theorem Fi:GD N6 [(120,.gen (yd [CR]))]:=(gd1 RS za)
def za5:=wD tb gl Fi N6 Tryz.f80
theorem zd3:VK za5:=zh zb Fi
def Sg:Un:=lpU 2 [8,9,10,11,7,14,15,16,17,18,19,20,21,22,23,24,25,7,26,27,28,29,30,31,32,33,34,5,35,36,37,38,39,40,41,5,12,13,6] ⟨[0,1,5,6],⟨[.hole,.hole,(.view 0),.hole],[.seq false],[1,1,2,2],[.sl (.cons kZ kR),kJ,.int .i64,kJ]⟩⟩ [((.exit 0),⟨[5],⟨[(.view 0)],[.seq false],[2],[kJ]⟩⟩)] (lp uB zd)
theorem HK:UK za5 (yx (ze Tryz.f80) [1,1,0,1,0]) Sg:=qB .run zk zd3 ob0
theorem zbf:SK 80 N6:=zU (.seq .run (.seq .run (.seq (.seq .run (.block (.unit Sg))) .run))) [.tmp 4] zb zk Fi Tryz.func80 (ob1 HK ob0)
def Nr:ShC:=⟨⟨[.hole,(.agg [.hole,.hole,.hole])],[],[1,1,1,1],[.sl (.cons kZ kR),kL,kK,kL]⟩,⟨[(.agg [.hole,.hole,(.view 0)])],[.seq false],[2,2,2],[kL,kK,kL]⟩,1,[],[],false,false,fun (x:((List (Int×jI))×jQ×jR×jQ))=>ru x.1 x.2.1 x.2.2.1 x.2.2.2⟩
theorem LJ:GD Nr [(80,.gen (yd [N6]))]:=(gd1 zbf za)
def M7:=wD tb gl LJ Nr Tryz.f95
theorem S5:VK M7:=zh zb LJ
def O5:Un:=lpU 2 [55,56,57,58,59,62,63,64,65,66,67,68,69,70,71,72,73,74,75,76,77,78,79,80,81,60,61,8] ⟨[0,3,4,5,8],⟨[.hole,(.ptr 0 0),(.ptr 1 0),(.ptr 2 0),.hole],[.cells true [.hole,.hole,.hole],.cells true [.nilv,.nilv,.nilv],.cells false [.hole,.hole,(.view 3)],.seq false],[1,2,1,1,1,2,2,2],[.sl (.cons kZ kR),.int .i64,kL,kK,kL,kL,kK,kL]⟩⟩ [((.exit 4),⟨[5],⟨[(.ptr 0 0)],[.cells false [.hole,.hole,(.view 1)],.seq false],[2,2,2],[kL,kK,kL]⟩⟩)] (lp vp zd)
theorem LB:UK M7 (yx (ze Tryz.f95) [1,1,1,1,0,1,0]) O5:=qB .run zk S5 ob0
def OF:Un:=lpU 2 [36,37,38,39,40,43,44,45,46,47,48,49,50,51,52,53,54,41,42,7] ⟨[0,3,4,5,7],⟨[.hole,(.ptr 0 0),(.ptr 1 0),(.ptr 2 0),.hole],[.cells true [.hole,.hole,.hole],.cells true [.nilv,.nilv,.nilv],.cells false [.hole,(.view 3),.nilv],.seq false],[1,2,1,1,1,2,2],[.sl (.cons kZ kR),.int .i64,kL,kK,kL,kL,kK]⟩⟩ [((.exit 2),⟨[5],⟨[(.ptr 0 0)],[.cells false [.hole,(.view 1),.nilv],.seq false],[2,2],[kL,kK]⟩⟩)] (lp vC zd)
theorem Lk:UK M7 (yx (ze Tryz.f95) [1,1,1,0,1,0]) OF:=qB .run zk S5 ob0
def Rb:Un:=lpU 2 [9,10,11,12,13,16,17,18,19,20,21,22,23,24,25,26,27,28,29,30,31,32,33,34,35,14,15,6] ⟨[0,3,4,5,6],⟨[.hole,(.ptr 0 0),(.ptr 1 0),(.ptr 2 0),.hole],[.cells true [.hole,.hole,.hole],.cells true [.nilv,.nilv,.nilv],.cells false [(.view 3),.nilv,.nilv],.seq false],[1,2,1,1,1,2],[.sl (.cons kZ kR),.int .i64,kL,kK,kL,kL]⟩⟩ [((.exit 0),⟨[5],⟨[(.ptr 0 0)],[.cells false [(.view 1),.nilv,.nilv],.seq false],[2],[kL]⟩⟩)] (lp vv zd)
theorem HH:UK M7 (yx (ze Tryz.f95) [1,1,0,1,0]) Rb:=qB .run zk S5 ob0
theorem Ox:SK 95 Nr:=zU (.seq .run (.seq .run (.seq (.seq .run (.block (.unit Rb))) (.seq (.seq .run (.block (.unit OF))) (.seq (.seq .run (.block (.unit O5))) .run))))) [.cell 4 26] zb zk LJ Tryz.func95 (ob1 HH (ob1 Lk (ob1 LB ob0)))
def zdb:ShC:=⟨⟨[(.agg [.hole,.hole]),(.agg [.hole,.hole])],[],[1,1,1,1],[.bool,kJ,.bool,kJ]⟩,⟨[.hole],[],[2],[.bool]⟩,1,[],[],false,false,fun (x:(Bool×jI×Bool×jI))=>uX x.1 x.2.1 x.2.2.1 x.2.2.2⟩
theorem zcA:SK 147 zdb:=zU .run [.tmp 4] zb zk (gd1 V4 za) Tryz.func147 ob0
def MK:ShC:=⟨⟨[.hole],[],[1],[kL]⟩,⟨[(.view 0)],[.seq false],[0],[kL]⟩,1,[],[],true,false,fun (x:jQ)=>jh x⟩
theorem FR:GD MK [(147,.gen (yd [zdb]))]:=(gd1 zcA za)
def Sy:=wD tb gl FR MK Tryz.f126
theorem zaG:VK Sy:=zh zb FR
def O1:Un:=lpU 2 [13,14,15,16,19,20,21,22,23,24,25,26,27,28,29,30,5,17,18,6] ⟨[0,3,4,5,6],⟨[.hole,(.view 0),.hole,.hole,.hole],[.seq false],[1,2,2,2,0],[kL,.int .i64,.bool,.int .i64,kL]⟩⟩ [((.exit 2),⟨[3,5],⟨[(.view 0),.hole],[.seq false],[2,0],[.bool,kL]⟩⟩)] (lp wN zd)
theorem Ei:UK Sy (yx (ze Tryz.f126) [1,1,0,1,0,0,1,0,0,1,0,1,0]) O1:=qB .run zk zaG ob0
def PP:Un:=lpU 2 [7,8,9,10,5,6,13,14,15,16,19,20,21,22,23,24,25,26,27,28,29,30,5,17,18,6,31,32,33,34,35,36,37,38,39,3,11,12,4] ⟨[0,3,4],⟨[.hole,(.view 0),.hole],[.seq false],[1,2,0],[kL,.int .i64,kL]⟩⟩ [((.exit 0),⟨[3],⟨[(.view 0)],[.seq false],[0],[kL]⟩⟩)] (lp vB zd)
theorem Mi:UK Sy (yx (ze Tryz.f126) [1,1,0,1,0]) PP:=qB (.seq .run (.seq (.block (.seq .run (.seq (.seq .run (.block (.unit O1))) .run))) .run)) zk zaG (ob1 Ei ob0)
theorem zck:SK 126 MK:=zU (.seq .run (.seq .run (.seq (.seq .run (.block (.unit PP))) .run))) [.tmp 2] zb zk FR Tryz.func126 (ob1 Mi ob0)
def Sw:ShC:=⟨⟨[(.agg [.hole,.hole,.hole])],[],[1,1,1],[kL,kK,kL]⟩,⟨[(.agg [.hole,.hole,(.view 0)])],[.seq false],[2,2,2],[kL,kK,kL]⟩,1,[],[],false,false,fun (x:(jQ×jR×jQ))=>Qc x.1 x.2.1 x.2.2⟩
theorem A6:GD Sw [(76,.gen (yd [LW])),(95,.gen (yd [Nr])),(120,.gen (yd [CR])),(121,.gen (yd [AN])),(126,.gen (yd [MK]))]:=(gd1 Rd (gd1 Ox (gd1 RS (gd1 V4 (gd1 zck za)))))
def EJ:=wD tb gl A6 Sw Tryz.f96
theorem NK:VK EJ:=zh zb A6
def OK:Un:=lpU 2 [67,68,69,70,71,72,73,76,77,78,79,80,81,82,11,83,84,85,86,87,88,89,90,91,92,93,94,95,96,97,98,99,100,101,7,74,75,10] ⟨[2,3,7,8,9,10],⟨[(.ptr 0 0),(.ptr 1 0),(.view 2),.hole,.hole,.hole],[.cells true [.nilv,.nilv,.nilv],.cells true [.hole,.hole,.hole],.seq false],[0,2,2,0,0,0,2],[kK,.int .i64,.int .i64,kL,kK,kL,.sl (.cons kZ kR)]⟩⟩ [((.exit 6),⟨[7],⟨[(.view 0)],[.seq false],[2],[.sl (.cons kZ kR)]⟩⟩)] (lp xZ zd)
theorem Ln:UK EJ (yx (ze Tryz.f96) [1,1,1,1,1,0,1,0,0,1,0,0,1,0]) OK:=qB .run zk NK ob0
def R1:Un:=lpU 2 [26,27,28,29,30,33,34,35,36,37,38,39,40,41,42,43,44,45,46,5,31,32,6] ⟨[1,2,3,4,5,6],⟨[(.ptr 0 0),(.ptr 1 0),(.ptr 2 0),.hole,.hole,.hole],[.cells true [.hole,.hole,.hole],.cells true [.nilv,.nilv,.nilv],.cells false [.hole,(.view 3),.hole],.seq false],[2,2,2,1,1,1,0,0,0],[.int .i64,.bool,.int .i64,kL,kK,kL,kL,kL,kK]⟩⟩ [((.exit 2),⟨[3,5],⟨[(.ptr 0 0),.hole],[.cells false [.hole,(.view 1),.hole],.seq false],[2,0,0,0],[.bool,kL,kL,kK]⟩⟩)] (lp wP zd)
theorem A9:UK EJ (yx (ze Tryz.f96) [1,1,0,1,0,0,1,0,0,1,0,1,0]) R1:=qB .run zk NK ob0
def RP:Un:=lpU 2 [61,62,63,64,10,67,68,69,70,71,72,73,76,77,78,79,80,81,82,11,83,84,85,86,87,88,89,90,91,92,93,94,95,96,97,98,99,100,101,7,74,75,10,65,66,9] ⟨[2,3,7,8,9],⟨[(.ptr 0 0),(.ptr 1 0),(.view 2),.hole,.hole],[.cells true [.nilv,.nilv,.nilv],.cells true [.hole,.hole,.hole],.seq false],[0,2,0,0,0,2],[kK,.int .i64,kL,kK,kL,.sl (.cons kZ kR)]⟩⟩ [((.exit 4),⟨[7],⟨[(.view 0)],[.seq false],[2],[.sl (.cons kZ kR)]⟩⟩)] (lp vx zd)
theorem C8:UK EJ (yx (ze Tryz.f96) [1,1,1,1,1,0,1,0]) RP:=qB (.seq .run (.seq (.block (.seq .run (.block (.unit OK)))) .run)) zk NK (ob1 Ln ob0)
def RZ:Un:=lpU 2 [19,20,21,22,23,5,6,26,27,28,29,30,33,34,35,36,37,38,39,40,41,42,43,44,45,46,5,31,32,6,47,48,49,50,51,52,53,54,55,56,57,58,24,25,4] ⟨[1,2,3,4],⟨[(.ptr 0 0),(.ptr 1 0),(.ptr 2 0),.hole],[.cells true [.hole,.hole,.hole],.cells true [.nilv,.nilv,.nilv],.cells false [.hole,(.view 3),.hole],.seq false],[2,1,1,1,0,0,0],[.int .i64,kL,kK,kL,kL,kL,kK]⟩⟩ [((.exit 0),⟨[3],⟨[(.ptr 0 0)],[.cells false [.hole,(.view 1),.hole],.seq false],[0,0,0],[kL,kL,kK]⟩⟩)] (lp vw zd)
theorem EB:UK EJ (yx (ze Tryz.f96) [1,1,0,1,0]) RZ:=qB (.seq .run (.seq (.block (.seq .run (.seq (.seq .run (.block (.unit R1))) .run))) .run)) zk NK (ob1 A9 ob0)
theorem zbS:SK 96 Sw:=zU (.seq .run (.seq .run (.seq (.seq .run (.block (.unit RZ))) (.seq .run (.seq .run (.seq (.seq .run (.block (.unit RP))) .run)))))) [.cell 2 26] zb zk A6 Tryz.func96 (ob1 EB (ob1 C8 ob0))
def zd6:ShC:=⟨⟨[.hole,.hole,(.agg [.hole,.hole,.hole])],[],[1,1,1,1,1],[kM,.sl (.cons kZ kR),kL,kK,kL]⟩,⟨[(.agg [.hole,.hole,(.view 0)]),.hole],[.seq false],[2,2,2,2],[kL,kK,.bool,kL]⟩,2,[],[],false,false,fun (x:(jS×(List (Int×jI))×jQ×jR×jQ))=>Zz x.1 x.2.1 x.2.2.1 x.2.2.2.1 x.2.2.2.2⟩
theorem za0:SK 51 zd6:=zU .run [.cell 6 26,.tmp 7] zb zk (gd1 Mw (gd1 Ox (gd1 zbS za))) Tryz.func51 ob0
def Sr:ShC:=⟨⟨[.hole,(.agg [.hole,.hole,.hole]),.hole],[],[1,1,1,1,1],[kM,kL,kK,kL,.int .i64]⟩,⟨[(.agg [.hole,.hole,(.view 0)]),.hole,.hole],[.seq false],[2,2,2,2,2],[kL,kK,.bool,.int .i64,kL]⟩,3,[],[],false,false,fun (x:(jS×jQ×jR×jQ×Int))=>xp x.1 x.2.1 x.2.2.1 x.2.2.2.1 x.2.2.2.2⟩
theorem Pl:SK 19 Sr:=zU .run [.cell 6 26,.tmp 7,.tmp 8] zb zk (gd1 Mw (gd1 zbd (gd1 GI (gd1 zbx (gd1 za0 (gd1 zbz za)))))) Tryz.func19 ob0
def zb9:ShC:=⟨⟨[(.agg [.hole,.hole]),(.ptr 0 0)],[.cells true [.hole]],[1,1,1],[.bool,kJ,kM]⟩,⟨[.hole],[],[2],[.bool]⟩,1,[],[],false,true,fun (x:(Bool×jI×jS))=>rT x.1 x.2.1 x.2.2⟩
theorem zde:SK 57 zb9:=zU .run [.tmp 3] zb zk (gdG Ms za) Tryz.func57 ob0
def Sz:ShC:=⟨⟨[.hole,(.clo 57 [(.ptr 0 0)])],[.cells true [.hole]],[1,1],[kL,kM]⟩,⟨[.hole],[],[2],[.int .i64]⟩,1,[],[],false,true,fun (x:(jQ×jS))=>vV x.1 x.2⟩
theorem Ma:GD Sz [(57,.gen (yd [zb9]))]:=(gdG zde za)
def zb6:=wD tb gl Ma Sz Tryz.f98
theorem zdT:VK zb6:=zh zb Ma
def Rt:Un:=lpU 2 [9,10,5,11,12,13,14,15,16,17,4,18,8] ⟨[0,1,7,8],⟨[.hole,(.clo 57 [(.ptr 0 0)]),.hole,.hole],[.cells true [.hole]],[1,2,2,1],[kL,.int .i64,.int .i64,kM]⟩⟩ [((.exit 0),⟨[],⟨[],[],[],[]⟩⟩),(.ret,⟨[4],⟨[.hole],[],[2],[.int .i64]⟩⟩)] (lp yL zd)
theorem Lj:UK zb6 (yx (ze Tryz.f98) [1,0,1,0]) Rt:=qB .run zk zdT ob0
theorem zcX:SK 98 Sz:=zU (.seq .run (.seq (.seq .run (.block (.unit Rt))) .run)) [.tmp 4] zb zk Ma Tryz.func98 (ob1 Lj ob0)
def zaT:ShC:=⟨⟨[.hole,(.clo 57 [(.ptr 0 0)])],[.cells true [.hole]],[1,1],[kL,kM]⟩,⟨[.hole],[],[2],[.bool]⟩,1,[],[],false,true,fun (x:(jQ×jS))=>wH x.1 x.2⟩
theorem zbs:SK 56 zaT:=zU .run [.tmp 4] zb zk (gdG zcX za) Tryz.func56 ob0
def zd0:ShC:=⟨⟨[.hole,.hole],[],[1,1],[kM,kJ]⟩,⟨[.hole],[],[2],[.bool]⟩,1,[],[],false,true,fun (x:(jS×jI))=>tR x.1 x.2⟩
theorem zbc:SK 40 zd0:=zU .run [.tmp 4] zb zk (gdG Ez za) Tryz.func40 ob0
def No:ShC:=⟨⟨[.hole],[],[1],[kJ]⟩,⟨[.hole],[],[2],[.ar kI 24]⟩,1,[],[],false,false,fun (x:jI)=>t6 x⟩
theorem Lv:GD No [(107,.gen (yd [zaE]))]:=(gd1 IK za)
def zbQ:=wD tb gl Lv No Tryz.f123
theorem zd4:VK zbQ:=zh zb Lv
def Rj:Un:=lpU 2 [8,9,10,4,11,12,13,14,15,16,17,18,19,7] ⟨[2,5,6,7],⟨[(.aptr 0),.hole,.hole,.hole],[.seq false],[1,2,2,2],[kJ,.int .i64,.int .i64,kJ]⟩⟩ [((.exit 0),⟨[2],⟨[(.aptr 0)],[.seq false],[2],[kJ]⟩⟩)] (lp wm zd)
theorem CI:UK zbQ (yx (ze Tryz.f123) [1,0,1,0]) Rj:=qB .run zk zd4 ob0
theorem zaX:SK 123 No:=zU (.seq .run (.seq (.seq .run (.block (.unit Rj))) .run)) [.cell 2 158] zb zk Lv Tryz.func123 (ob1 CI ob0)
def NI:ShC:=⟨⟨[.hole,.hole],[],[1,1],[kJ,kJ]⟩,⟨[.hole],[],[2],[.bool]⟩,1,[],[],false,false,fun (x:(jI×jI))=>sq x.1 x.2⟩
theorem Ee:GD NI [(123,.gen (yd [No]))]:=(gd1 zaX za)
def zaS:=wD tb gl Ee NI Tryz.f86
theorem zdS:VK zaS:=zh zb Ee
def Si:Un:=lpU 2 [13,14,7,15,16,17,18,19,20,21,4,22,12] ⟨[5,6,12],⟨[(.aptr 0),(.aptr 1),.hole],[.seq false,.seq false],[2,2,2],[.int .i64,kJ,kJ]⟩⟩ [((.exit 0),⟨[],⟨[],[],[],[]⟩⟩),(.ret,⟨[4],⟨[.hole],[],[2],[.bool]⟩⟩)] (lp qW zd)
theorem CF:UK zaS (yx (ze Tryz.f86) [1,1,0,1,0]) Si:=qB .run zk zdS ob0
theorem zbX:SK 86 NI:=zU (.seq .run (.seq .run (.seq (.seq .run (.block (.unit Si))) .run))) [.tmp 4] zb zk Ee Tryz.func86 (ob1 CF ob0)
def NP:ShC:=⟨⟨[.hole,.hole],[],[1,1],[kM,kJ]⟩,⟨[.hole],[],[2],[.int .i64]⟩,1,[],[],false,false,fun (x:(jS×jI))=>kc x.1 x.2⟩
theorem Cd:GD NP []:=za
def zcC:=wD tb gl Cd NP Tryz.f87
theorem zdY:VK zcC:=zh zb Cd
def PV:Un:=lpU 2 [11,12,13,7,14,15,16,17,5,18,19,20,21,22,23,24,5,25,10] ⟨[0,5,8,9,10],⟨[.hole,.hole,.hole,.hole,.hole],[],[1,2,1,2,2],[kM,.int .i64,kJ,.int .i64,.int .i64]⟩⟩ [((.exit 0),⟨[5],⟨[.hole],[],[2],[.int .i64]⟩⟩)] (lp uz zd)
theorem Fb:UK zcC (yx (ze Tryz.f87) [1,1,0,1,0]) PV:=qB .run zk zdY ob0
theorem zcz:SK 87 NP:=zU (.seq .run (.seq .run (.seq (.seq .run (.block (.unit PV))) .run))) [.tmp 4] zb zk Cd Tryz.func87 (ob1 Fb ob0)
def N3:ShC:=⟨⟨[.hole,.hole,.hole],[],[1,1,1],[kM,kJ,kJ]⟩,⟨[.hole,.hole],[],[0,0],[kJ,kJ]⟩,2,[],[],true,false,fun (x:(jS×jI×jI))=>jq x.1 x.2.1 x.2.2⟩
theorem L0:GD N3 [(42,.gen (yd [Om])),(101,.gen (yd [C9]))]:=(gd1 Vw (gd1 DG za))
def za7:=wD tb gl L0 N3 Tryz.f88
theorem zeG:VK za7:=zh zb L0
def RM:Un:=lpU 2 [19,20,21,22,9,10,23,24,25,26,27,28,29,30,31,32,33,34,35,36,37,38,39,40,6,7,41,18] ⟨[8,16,17,18],⟨[.hole,.hole,.hole,.hole],[],[0,0,2,2],[kK,kK,.int .i64,.int .i64]⟩⟩ [((.exit 0),⟨[],⟨[],[],[],[]⟩⟩),(.ret,⟨[6,7],⟨[.hole,.hole],[],[0,0],[kJ,kJ]⟩⟩)] (lp xV zd)
theorem H6:UK za7 (yx (ze Tryz.f88) [1,1,0,1,0]) RM:=qB .run zk zeG ob0
theorem za8:SK 88 N3:=zU (.seq .run (.seq .run (.seq (.seq .run (.block (.unit RM))) .run))) [.tmp 6,.tmp 7] zb zk L0 Tryz.func88 (ob1 H6 ob0)
def Uc:ShC:=⟨⟨[.hole,.hole,.hole],[],[1,1,1],[kM,kJ,kJ]⟩,⟨[.hole],[],[2],[.bool]⟩,1,[],[],false,false,fun (x:(jS×jI×jI))=>qT x.1 x.2.1 x.2.2⟩
theorem Cm:GD Uc [(86,.gen (yd [NI])),(87,.gen (yd [NP])),(88,.gen (yd [N3]))]:=(gd1 zbX (gd1 zcz (gd1 za8 za)))
def zb3:=wD tb gl Cm Uc Tryz.f43
theorem zeF:VK zb3:=zh zb Cm
def RA:Un:=lpU 2 [9,10,11,12,13,14,15,16,17,18,19,20,21,7,8,22,23,24,25,26,27,6,28,29,30,31,32,33,34,35,36,37,38,39,40,41,6,43,44,45,46,47,48,42,49,50,1,2] ⟨[0,1,2],⟨[.hole,.hole,.hole],[],[1,0,0],[kM,kJ,kJ]⟩⟩ [((.exit 0),⟨[],⟨[],[],[],[]⟩⟩),(.ret,⟨[6],⟨[.hole],[],[2],[.bool]⟩⟩)] (lp vW zd)
theorem HX:UK zb3 (yx (ze Tryz.f43) [1,0,0]) RA:=qB .run zk zeF ob0
theorem zaA:SK 43 Uc:=zU (.seq .run (.seq (.block (.unit RA)) .run)) [.tmp 6] zb zk Cm Tryz.func43 (ob1 HX ob0)
def zea:ShC:=⟨⟨[.hole,.hole,.hole],[],[1,1,1],[kM,kJ,kJ]⟩,⟨[.hole,.hole],[],[2,2],[.int .i64,.int .i64]⟩,2,[],[],false,true,fun (x:(jS×jI×jI))=>vN x.1 x.2.1 x.2.2⟩
theorem Rc:SK 14 zea:=zU .run [.tmp 6,.tmp 7] zb zk (gdG zbc (gdG Ps (gd1 Vw (gd1 zaA za)))) Tryz.func14 ob0
def zeu:ShC:=⟨⟨[.hole,(.agg [.hole,.hole]),(.agg [.hole,.hole])],[],[1,1,1,1,1],[kM,.bool,kJ,.bool,kJ]⟩,⟨[.hole,.hole],[],[2,2],[.int .i64,.int .i64]⟩,2,[],[],false,true,fun (x:(jS×Bool×jI×Bool×jI))=>kg x.1 x.2.1 x.2.2.1 x.2.2.2.1 x.2.2.2.2⟩
theorem zdq:SK 60 zeu:=zU .run [.tmp 6,.tmp 7] zb zk (gdG Rc (gdG Ms za)) Tryz.func60 ob0
def Rs:ShC:=⟨⟨[(.agg [.hole,.hole]),(.ptr 0 0),(.ptr 1 0)],[.cells true [.hole],.cells true [.hole,.hole]],[1,1,1,1,1],[.bool,kJ,kM,.bool,kJ]⟩,⟨[.hole],[],[2],[.bool]⟩,1,[],[],false,true,fun (x:(Bool×jI×jS×Bool×jI))=>rH x.1 x.2.1 x.2.2.1 x.2.2.2.1 x.2.2.2.2⟩
theorem Uz:SK 59 Rs:=zU .run [.tmp 4] zb zk (gdG zdq za) Tryz.func59 ob0
def Ca:ShC:=⟨⟨[.hole,(.clo 59 [(.ptr 0 0),(.ptr 1 0)])],[.cells true [.hole],.cells true [.hole,.hole]],[1,1,1,1],[kL,kM,.bool,kJ]⟩,⟨[.hole],[],[2],[.int .i64]⟩,1,[],[],false,true,fun (x:(jQ×jS×Bool×jI))=>vU x.1 x.2.1 x.2.2.1 x.2.2.2⟩
theorem I8:GD Ca [(59,.gen (yd [Rs]))]:=(gdG Uz za)
def OW:=wD tb gl I8 Ca Tryz.f98
theorem zbG:VK OW:=zh zb I8
def Hl:Un:=lpU 2 [9,10,5,11,12,13,14,15,16,17,4,18,8] ⟨[0,1,7,8],⟨[.hole,(.clo 59 [(.ptr 0 0),(.ptr 1 0)]),.hole,.hole],[.cells true [.hole],.cells true [.hole,.hole]],[1,2,2,1,2,1],[kL,.int .i64,.int .i64,kM,.bool,kJ]⟩⟩ [((.exit 0),⟨[],⟨[],[],[],[]⟩⟩),(.ret,⟨[4],⟨[.hole],[],[2],[.int .i64]⟩⟩)] (lp yF zd)
theorem AK:UK OW (yx (ze Tryz.f98) [1,0,1,0]) Hl:=qB .run zk zbG ob0
theorem Tz:SK 98 Ca:=zU (.seq .run (.seq (.seq .run (.block (.unit Hl))) .run)) [.tmp 4] zb zk I8 Tryz.func98 (ob1 AK ob0)
def Rx:ShC:=⟨⟨[.hole,(.clo 59 [(.ptr 0 0),(.ptr 1 0)])],[.cells true [.hole],.cells true [.hole,.hole]],[1,1,1,1],[kL,kM,.bool,kJ]⟩,⟨[.hole],[],[2],[.bool]⟩,1,[],[],false,true,fun (x:(jQ×jS×Bool×jI))=>qx x.1 x.2.1 x.2.2.1 x.2.2.2⟩
theorem UB:SK 56 Rx:=zU .run [.tmp 4] zb zk (gdG Tz za) Tryz.func56 ob0
def Jq:ShC:=⟨⟨[.hole,.hole],[],[1,1],[kM,kL]⟩,⟨[(.view 0),.hole],[.seq false],[2,2],[.int .i64,kJ]⟩,2,[],[],false,true,fun (x:(jS×jQ))=>Zr x.1 x.2⟩
theorem Ig:GD Jq [(44,.gen (yd [zal])),(56,.gen (yd [zaT,Rx]))]:=(gdG TT (Zg (Xr (YD zbs (YD UB Xo))) za))
def OI:=wD tb gl Ig Jq Tryz.f25
theorem zce:VK OI:=zh zb Ig
def EN:Un:=lpU 2 [20,21,22,23,8,7,24,25,26,27,28,29,30,31,6,32,19] ⟨[1,2,6,17,18,19],⟨[.hole,(.ptr 0 0),(.view 1),.hole,.hole,.hole],[.cells true [.hole],.seq false],[1,1,2,2,1,2],[kL,kL,.int .i64,.int .i64,kM,kJ]⟩⟩ [((.exit 0),⟨[6],⟨[(.view 0)],[.seq false],[2],[kJ]⟩⟩)] (lp uu zd)
theorem Aq:UK OI (yx (ze Tryz.f25) [1,1,1,0,1,0]) EN:=qB .run zk zce ob0
theorem Lh:SK 25 Jq:=zU (.seq .run (.seq .run (.seq .run (.seq (.seq .run (.block (.unit EN))) .run)))) [.tmp 4,.tmp 5] zb zk Ig Tryz.func25 (ob1 Aq ob0)
def Pg:ShC:=⟨⟨[.hole,(.agg [.hole,.hole])],[],[1,1,1],[kM,.bool,kJ]⟩,⟨[.hole],[],[2],[.bool]⟩,1,[],[],false,false,fun (x:(jS×Bool×jI))=>xQ x.1 x.2.1 x.2.2⟩
theorem Um:SK 114 Pg:=zU .run [.tmp 4] zb zk (gd1 Vw (gd1 DG za)) Tryz.func114 ob0
def OM:ShC:=⟨⟨[(.agg [.hole,.hole]),(.ptr 0 0)],[.cells true [.hole,.hole]],[1,1,1,1],[.bool,kJ,.bool,kJ]⟩,⟨[.hole],[],[2],[.bool]⟩,1,[],[],false,false,fun (x:(Bool×jI×Bool×jI))=>wW x.1 x.2.1 x.2.2.1 x.2.2.2⟩
theorem Ud:SK 115 OM:=zU .run [.tmp 3] zb zk (gd1 Vw za) Tryz.func115 ob0
def Eh:ShC:=⟨⟨[.hole,(.clo 115 [(.ptr 0 0)])],[.cells true [.hole,.hole]],[1,1,1],[kL,.bool,kJ]⟩,⟨[.hole],[],[2],[.int .i64]⟩,1,[],[],false,false,fun (x:(jQ×Bool×jI))=>v7 x.1 x.2.1 x.2.2⟩
theorem If:GD Eh [(115,.gen (yd [OM]))]:=(gd1 Ud za)
def Ry:=wD tb gl If Eh Tryz.f98
theorem zbM:VK Ry:=zh zb If
def Ld:Un:=lpU 2 [9,10,5,11,12,13,14,15,16,17,4,18,8] ⟨[0,1,7,8],⟨[.hole,(.clo 115 [(.ptr 0 0)]),.hole,.hole],[.cells true [.hole,.hole]],[1,2,2,2,1],[kL,.int .i64,.int .i64,.bool,kJ]⟩⟩ [((.exit 0),⟨[],⟨[],[],[],[]⟩⟩),(.ret,⟨[4],⟨[.hole],[],[2],[.int .i64]⟩⟩)] (lp yH zd)
theorem B9:UK Ry (yx (ze Tryz.f98) [1,0,1,0]) Ld:=qB .run zk zbM ob0
theorem Tn:SK 98 Eh:=zU (.seq .run (.seq (.seq .run (.block (.unit Ld))) .run)) [.tmp 4] zb zk If Tryz.func98 (ob1 B9 ob0)
def OD:ShC:=⟨⟨[.hole,(.clo 115 [(.ptr 0 0)])],[.cells true [.hole,.hole]],[1,1,1],[kL,.bool,kJ]⟩,⟨[.hole],[],[2],[.bool]⟩,1,[],[],false,false,fun (x:(jQ×Bool×jI))=>qp x.1 x.2.1 x.2.2⟩
theorem Sn:SK 56 OD:=zU .run [.tmp 4] zb zk (gd1 Tn za) Tryz.func56 ob0
def Cp:ShC:=⟨⟨[.hole,(.agg [.hole,.hole,.hole])],[],[1,1,1,1],[kM,kL,kK,kL]⟩,⟨[.hole,.hole],[],[2,2],[.bool,.int .i64]⟩,2,[],[],false,true,fun (x:(jS×jQ×jR×jQ))=>wz x.1 x.2.1 x.2.2.1 x.2.2.2⟩
theorem Ir:GD Cp [(15,.gen (yd [CY])),(56,.gen (yd [OD])),(114,.gen (yd [Pg]))]:=(gdG Wr (gd1 Sn (gd1 Um za)))
def PT:=wD tb gl Ir Cp Tryz.f72
theorem zaK:VK PT:=zh zb Ir
def A3:Un:=lpU 2 [16,17,18,7,19,20,21,22,23,24,25,26,27,4,5,28,15] ⟨[0,3,13,14,15],⟨[.hole,(.ptr 0 0),.hole,.hole,.hole],[.cells true [.hole,.hole,.hole]],[1,1,2,2,1,1,1],[kM,kL,.int .i64,.int .i64,kL,kK,kL]⟩⟩ [((.exit 0),⟨[],⟨[],[],[],[]⟩⟩),(.ret,⟨[4,5],⟨[.hole,.hole],[],[2,2],[.bool,.int .i64]⟩⟩)] (lp qR zd)
theorem AU:UK PT (yx (ze Tryz.f72) [1,1,0,1,0]) A3:=qB .run zk zaK ob0
theorem Tf:SK 72 Cp:=zU (.seq .run (.seq .run (.seq (.seq .run (.block (.unit A3))) .run))) [.tmp 4,.tmp 5] zb zk Ir Tryz.func72 (ob1 AU ob0)
def FZ:ShC:=⟨⟨[(.ptr 0 0),(.agg [.hole,.hole,.hole,.hole,.hole,.hole,.hole,.hole,.hole,.hole]),(.agg [.hole,.hole,.hole]),.hole,.hole],[.cells false [.hole,(.view 1),.hole],.seq false],[1,1,1,1,1,1,1,2,2,2,2,2,2,1,1,1,1,2],[.int .i64,.int .i64,.int .i64,.int .i64,.int .i64,.int .i64,.int .i64,kL,kK,kL,kL,kK,kL,.bool,.int .i64,kM,.int .i64,.sl (.cons kZ (.cons kZ (.cons kZ (.cons kZ (.cons kZ (.cons kZ (.cons kZ (.cons kL (.cons kK (.one kL))))))))))]⟩,⟨[(.ptr 0 0)],[.cells false [.hole,(.view 1),.hole],.seq false],[1,2,2],[kM,.int .i64,.sl (.cons kZ (.cons kZ (.cons kZ (.cons kZ (.cons kZ (.cons kZ (.cons kZ (.cons kL (.cons kK (.one kL))))))))))]⟩,0,[0],[(0,0)],true,true,fun (x:(Int×Int×Int×Int×Int×Int×Int×jQ×jR×jQ×jQ×jR×jQ×Bool×Int×jS×Int×jT))=>qC x.1 x.2.1 x.2.2.1 x.2.2.2.1 x.2.2.2.2.1 x.2.2.2.2.2.1 x.2.2.2.2.2.2.1 x.2.2.2.2.2.2.2.1 x.2.2.2.2.2.2.2.2.1 x.2.2.2.2.2.2.2.2.2.1 x.2.2.2.2.2.2.2.2.2.2.1 x.2.2.2.2.2.2.2.2.2.2.2.1 x.2.2.2.2.2.2.2.2.2.2.2.2.1 x.2.2.2.2.2.2.2.2.2.2.2.2.2.1 x.2.2.2.2.2.2.2.2.2.2.2.2.2.2.1 x.2.2.2.2.2.2.2.2.2.2.2.2.2.2.2.1 x.2.2.2.2.2.2.2.2.2.2.2.2.2.2.2.2.1 x.2.2.2.2.2.2.2.2.2.2.2.2.2.2.2.2.2⟩
theorem FO:SK 30 FZ:=zU (.seq .run (.seq .run (.seq .run (.seq .run (.hide [[9],[],[],[],[],[],[],[],[],[],[]]))))) [] zb zk (gdG Tf za) Tryz.func30 ob0
def Bi:ShC:=⟨⟨[.hole,(.agg [.hole,.hole,.hole]),.hole],[],[1,1,1,1,1],[kM,kL,kK,kL,.int .i64]⟩,⟨[(.view 0),.hole,.hole],[.seq false],[2,2,2],[.int .i64,.int .i64,.sl (.cons kZ (.cons kZ (.cons kZ (.cons kZ (.cons kZ (.cons kZ (.cons kZ (.cons kL (.cons kK (.one kL))))))))))]⟩,3,[],[],false,true,fun (x:(jS×jQ×jR×jQ×Int))=>qM x.1 x.2.1 x.2.2.1 x.2.2.2.1 x.2.2.2.2⟩
theorem Iy:GD Bi [(15,.gen (yd [CY])),(25,.gen (yd [Jq])),(28,.gen (yd [zay])),(30,.gen (yd [FZ])),(47,.gen (yd [zbL]))]:=(gdG Wr (gdG Lh (gd1 Bg (gdG FO (gdG RD za)))))
def PH:=wD tb gl Iy Bi Tryz.f20
theorem zdc:VK PH:=zh zb Iy
def C5:Un:=lpU 2 [33,34,35,13,36,37,38,40,41,42,43,39,44,45,46,14,15,16,47,48,49,50,51,52,53,54,32] ⟨[0,2,4,11,30,31,32],⟨[.hole,.hole,(.ptr 0 0),(.ptr 1 0),.hole,.hole,.hole],[.cells true [.hole,.hole,.hole],.cells false [.hole,(.view 2),.hole],.seq false],[1,2,2,2,2,1,1,1,0,2,2],[kM,.int .i64,kJ,.int .i64,.int .i64,kL,kK,kL,kM,.int .i64,.sl (.cons kZ (.cons kZ (.cons kZ (.cons kZ (.cons kZ (.cons kZ (.cons kZ (.cons kL (.cons kK (.one kL))))))))))]⟩⟩ [((.exit 0),⟨[11],⟨[(.ptr 0 0)],[.cells false [.hole,(.view 1),.hole],.seq false],[0,2,2],[kM,.int .i64,.sl (.cons kZ (.cons kZ (.cons kZ (.cons kZ (.cons kZ (.cons kZ (.cons kZ (.cons kL (.cons kK (.one kL))))))))))]⟩⟩)] (lp qF zd)
theorem AH:UK PH (yx (ze Tryz.f20) [1,1,1,1,0,1,0]) C5:=qB .run zk zdc ob0
theorem TH:SK 20 Bi:=zU (.seq .run (.seq .run (.seq .run (.seq .run (.seq (.seq .run (.block (.unit C5))) .run))))) [.tmp 6,.tmp 7,.tmp 8] zb zk Iy Tryz.func20 (ob1 AH ob0)
def DB:ShC:=⟨⟨[.hole,.hole],[],[1,1],[kM,kJ]⟩,⟨[.hole],[],[2],[.int .i64]⟩,1,[],[],false,false,fun (x:(jS×jI))=>rB x.1 x.2⟩
theorem IN:GD DB []:=za
def Sa:=wD tb gl IN DB Tryz.f142
theorem zci:VK Sa:=zh zb IN
def Ft:Un:=lpU 2 [7,8,9,10,13,14,15,16,17,18,19,5,20,21,22,23,24,25,26,27,28,29,5,11,12,6] ⟨[0,1,5,6],⟨[.hole,.hole,.hole,.hole],[],[1,1,2,2],[kM,kJ,.int .i64,.int .i64]⟩⟩ [((.exit 0),⟨[5],⟨[.hole],[],[2],[.int .i64]⟩⟩)] (lp wY zd)
theorem AJ:UK Sa (yx (ze Tryz.f142) [1,1,0,1,0]) Ft:=qB .run zk zci ob0
theorem Tq:SK 142 DB:=zU (.seq .run (.seq .run (.seq (.seq .run (.block (.unit Ft))) .run))) [.tmp 4] zb zk IN Tryz.func142 (ob1 AJ ob0)
def DM:ShC:=⟨⟨[.hole,.hole],[],[1,1],[kJ,kJ]⟩,⟨[.hole],[],[2],[.bool]⟩,1,[],[],false,false,fun (x:(jI×jI))=>Zq x.1 x.2⟩
theorem IO:GD DM []:=za
def Bo:=wD tb gl IO DM Tryz.f143
theorem LG:VK Bo:=zh zb IO
def A7:Un:=lpU 2 [28,29,30,31,34,35,36,37,38,39,40,41,42,6,32,33,8] ⟨[0,1,5,6,8],⟨[.hole,.hole,.hole,.hole,.hole],[],[1,1,2,2,2],[kJ,kJ,.int .i64,.int .i64,.int .i64]⟩⟩ [((.exit 4),⟨[6],⟨[.hole],[],[2],[.int .i64]⟩⟩)] (lp wX zd)
theorem BI:UK Bo (yx (ze Tryz.f143) [1,0,1,0,0,1,0,0,1,1,0,1,0]) A7:=qB .run zk LG ob0
def Ed:Un:=lpU 2 [13,14,15,16,19,20,21,22,23,24,25,26,27,6,17,18,7] ⟨[0,1,5,6,7],⟨[.hole,.hole,.hole,.hole,.hole],[],[1,1,2,2,2],[kJ,kJ,.int .i64,.int .i64,.int .i64]⟩⟩ [((.exit 2),⟨[6],⟨[.hole],[],[2],[.int .i64]⟩⟩)] (lp w6 zd)
theorem BB:UK Bo (yx (ze Tryz.f143) [1,0,1,0,0,1,0,0,1,0,1,0]) Ed:=qB .run zk LG ob0
def Lm:Un:=lpU 2 [9,10,6,7,13,14,15,16,19,20,21,22,23,24,25,26,27,6,17,18,7,8,28,29,30,31,34,35,36,37,38,39,40,41,42,6,32,33,8,43,44,4,11,12,5] ⟨[0,1,5],⟨[.hole,.hole,.hole],[],[1,1,2],[kJ,kJ,.int .i64]⟩⟩ [((.exit 0),⟨[],⟨[],[],[],[]⟩⟩),(.ret,⟨[4],⟨[.hole],[],[2],[.bool]⟩⟩)] (lp wa zd)
theorem AL:UK Bo (yx (ze Tryz.f143) [1,0,1,0]) Lm:=qB (.seq .run (.seq (.block (.seq .run (.seq (.seq .run (.block (.unit Ed))) (.seq (.seq .run (.block (.unit A7))) .run)))) .run)) zk LG (ob1 BB (ob1 BI ob0))
theorem Tx:SK 143 DM:=zU (.seq .run (.seq (.seq .run (.block (.unit Lm))) .run)) [.tmp 4] zb zk IO Tryz.func143 (ob1 AL ob0)
def XP (k:Nat):ShC:=⟨⟨[.hole,.hole,.hole],[],[1,1,1],[kM,kJ,kJ]⟩,⟨[.hole],[],[2],[.bool]⟩,1,[],[],false,false,(t8 k)⟩
def zaj:ShC:=⟨⟨[.hole,.hole,.hole],[],[1,1,1],[kM,kJ,kJ]⟩,⟨[.hole],[],[2],[.bool]⟩,1,[],[],false,false,fun (x:(jS×jI×jI))=>Yu x.1 x.2.1 x.2.2⟩
def Y3 (k:Nat):Prop:=SK 122 (XP k)
def Ri (k:Nat):List (Nat×Con):=[(49,.gen (yd [AR])),(121,.gen (yd [AN])),(122,.gen (yd [XP k])),(142,.gen (yd [DB])),(143,.gen (yd [DM]))]
theorem Ls (k:Nat) (h:Y3 k):GD (XP (k+1)) (Ri k):=(gd1 GI (gd1 V4 (gd1 h (gd1 Tq (gd1 Tx za)))))
def RO (k:Nat):Env:=je tb gl (Ri k) (XP (k+1)) Tryz.f122.ntmps
theorem zbZ (k:Nat) (h:Y3 k):VK (RO k):=zh zb (Ls k h)
def E6 (k:Nat):Un:=lpU 2 [59,60,61,62,65,66,67,68,69,70,71,72,73,74,75,76,77,78,79,80,81,82,83,84,6,63,64,11] ⟨[0,9,10,11],⟨[.hole,.hole,.hole,.hole],[],[1,0,0,2],[kM,kK,kK,.int .i64]⟩⟩ [((.exit 0),⟨[],⟨[],[],[],[]⟩⟩),(.ret,⟨[6],⟨[.hole],[],[2],[.bool]⟩⟩)] (lp (vo (t8 k)) zd)
theorem BH (k:Nat) (h:Y3 k):UK (RO k) (yx (ze Tryz.f122) [1,1,1,1,1,0,1,0]) (E6 k):=qB .run zk (zbZ k h) ob0
theorem Oq (k:Nat) (h:Y3 k):SK 122 (XP (k+1)):=zU (.seq .run (.seq .run (.seq .run (.seq .run (.seq .run (.seq (.seq .run (.block (.unit (E6 k)))) .run)))))) [.tmp 6] zb zk (Ls k h) Tryz.func122 (ob1 (BH k h) ob0)
theorem VD:∀ k,Y3 k
 | 0=>QG (by kernel_rfl) fun _=>rfl
 | k+1=>have h:=VD k; Oq k h
theorem SC:SK 122 zaj:=(VD zd)
def zb5:ShC:=⟨⟨[.hole,.hole,.hole],[],[1,1,1],[kM,kJ,kJ]⟩,⟨[.hole],[],[2],[.int .i64]⟩,1,[],[],false,false,fun (x:(jS×jI×jI))=>rq x.1 x.2.1 x.2.2⟩
theorem Us:SK 81 zb5:=zU .run [.tmp 6] zb zk (gd1 V4 (gd1 SC za)) Tryz.func81 ob0
def Sc:ShC:=⟨⟨[.hole,(.agg [.hole,.hole]),(.agg [.hole,.hole])],[],[1,1,1,1,1],[kM,.bool,kJ,.bool,kJ]⟩,⟨[.hole],[],[2],[.int .i64]⟩,1,[],[],false,false,fun (x:(jS×Bool×jI×Bool×jI))=>tN x.1 x.2.1 x.2.2.1 x.2.2.2.1 x.2.2.2.2⟩
theorem SN:SK 77 Sc:=zU .run [.tmp 6] zb zk (gd1 Us za) Tryz.func77 ob0
def DY:ShC:=⟨⟨[.hole,.hole,.hole],[],[1,1,1],[kM,kL,.int .i64]⟩,⟨[.hole],[],[2],[.bool]⟩,1,[],[],false,false,fun (x:(jS×jQ×Int))=>Xp x.1 x.2.1 x.2.2⟩
theorem I9:GD DY [(77,.gen (yd [Sc]))]:=(gd1 SN za)
def OX:=wD tb gl I9 DY Tryz.f33
theorem zaJ:VK OX:=zh zb I9
def Hx:Un:=lpU 2 [8,9,10,11,14,15,16,17,18,19,20,21,22,23,24,6,12,13,7] ⟨[0,1,2,7],⟨[.hole,.hole,.hole,.hole],[],[1,1,2,2],[kM,kL,.int .i64,.int .i64]⟩⟩ [((.exit 0),⟨[],⟨[],[],[],[]⟩⟩),(.ret,⟨[6],⟨[.hole],[],[2],[.bool]⟩⟩)] (lp uA zd)
theorem At:UK OX (yx (ze Tryz.f33) [1,0,1,0]) Hx:=qB .run zk zaJ ob0
theorem T4:SK 33 DY:=zU (.seq .run (.seq (.seq .run (.block (.unit Hx))) .run)) [.tmp 6] zb zk I9 Tryz.func33 (ob1 At ob0)
def HP:ShC:=⟨⟨[.hole,(.agg [.hole,.hole,.hole])],[],[1,1,1,1],[kM,kL,kK,kL]⟩,⟨[.hole],[],[2],[.bool]⟩,1,[],[],false,false,fun (x:(jS×jQ×jR×jQ))=>Qb x.1 x.2.1 x.2.2.1 x.2.2.2⟩
theorem Iz:GD HP [(49,.gen (yd [AR])),(121,.gen (yd [AN]))]:=(gd1 GI (gd1 V4 za))
def Me:=wD tb gl Iz HP Tryz.f84
theorem O7:VK Me:=zh zb Iz
def EG:Un:=lpU 2 [46,47,48,51,52,53,54,55,56,57,58,59,60,61,62,63,64,65,66,67,68,69,70,71,72,73,4,49,50,8] ⟨[0,3,5,6,8],⟨[.hole,(.ptr 0 0),.hole,.hole,.hole],[.cells true [.hole,.hole,.hole]],[1,2,1,2,1,1,1],[kM,.int .i64,kJ,.int .i64,kL,kK,kL]⟩⟩ [((.exit 2),⟨[],⟨[],[],[],[]⟩⟩),(.ret,⟨[4],⟨[.hole],[],[2],[.bool]⟩⟩)] (lp y0 zd)
theorem Ab:UK Me (yx (ze Tryz.f84) [1,0,1,0,0,1,0,0,1,1,1,0]) EG:=qB .run zk O7 ob0
def EI:Un:=lpU 2 [9,10,11,12,13,16,17,18,19,20,21,6,22,23,24,25,26,27,28,29,30,31,32,33,34,35,36,37,38,7,39,40,41,42,43,44,45,4,8,46,47,48,51,52,53,54,55,56,57,58,59,60,61,62,63,64,65,66,67,68,69,70,71,72,73,4,49,50,8,14,15,5] ⟨[0,3,5],⟨[.hole,(.ptr 0 0),.hole],[.cells true [.hole,.hole,.hole]],[1,2,1,1,1],[kM,.int .i64,kL,kK,kL]⟩⟩ [((.exit 0),⟨[],⟨[],[],[],[]⟩⟩),(.ret,⟨[4],⟨[.hole],[],[2],[.bool]⟩⟩)] (lp vF zd)
theorem BE:UK Me (yx (ze Tryz.f84) [1,0,1,0]) EI:=qB (.seq .run (.seq (.block (.seq .run (.seq .run (.seq .run (.block (.unit EG)))))) .run)) zk O7 (ob1 Ab ob0)
theorem Ux:SK 84 HP:=zU (.seq .run (.seq (.seq .run (.block (.unit EI))) .run)) [.tmp 4] zb zk Iz Tryz.func84 (ob1 BE ob0)
def PL:ShC:=⟨⟨[.hole,(.view 0),.hole,(.agg [.hole,.hole,.hole,.hole,.hole,.hole,.hole,.hole,.hole,.hole]),.hole,.hole],[.seq false],[1,1,1,1,1,1,1,1,1,1,1,1,1,1,1],[kM,.int .i64,.int .i64,.int .i64,.int .i64,.int .i64,.int .i64,.int .i64,.int .i64,kL,kK,kL,.bool,.int .i64,.sl (.cons kZ (.cons kZ (.cons kZ (.cons kZ (.cons kZ (.cons kZ (.cons kZ (.cons kL (.cons kK (.one kL))))))))))]⟩,⟨[(.view 0),.hole],[.seq false],[2,0],[.int .i64,.sl (.cons kZ (.cons kZ (.cons kZ (.cons kZ (.cons kZ (.cons kZ (.cons kZ (.cons kL (.cons kK (.one kL))))))))))]⟩,2,[],[],true,false,fun (x:(jS×Int×Int×Int×Int×Int×Int×Int×Int×jQ×jR×jQ×Bool×Int×jT))=>wI x.1 x.2.1 x.2.2.1 x.2.2.2.1 x.2.2.2.2.1 x.2.2.2.2.2.1 x.2.2.2.2.2.2.1 x.2.2.2.2.2.2.2.1 x.2.2.2.2.2.2.2.2.1 x.2.2.2.2.2.2.2.2.2.1 x.2.2.2.2.2.2.2.2.2.2.1 x.2.2.2.2.2.2.2.2.2.2.2.1 x.2.2.2.2.2.2.2.2.2.2.2.2.1 x.2.2.2.2.2.2.2.2.2.2.2.2.2.1 x.2.2.2.2.2.2.2.2.2.2.2.2.2.2⟩
theorem Tj:SK 35 PL:=zU .run [.tmp 12,.tmp 13] zb zk (gd1 Ux za) Tryz.func35 ob0
def D8:ShC:=⟨⟨[.hole,(.agg [.hole,.hole,.hole]),.hole],[],[1,1,1,1,1],[kM,kL,kK,kL,.int .i64]⟩,⟨[(.view 0),.hole,.hole],[.seq false],[2,2,0],[.int .i64,.int .i64,.sl (.cons kZ (.cons kZ (.cons kZ (.cons kZ (.cons kZ (.cons kZ (.cons kZ (.cons kL (.cons kK (.one kL))))))))))]⟩,3,[],[],true,false,fun (x:(jS×jQ×jR×jQ×Int))=>xw x.1 x.2.1 x.2.2.1 x.2.2.2.1 x.2.2.2.2⟩
theorem GS:GD D8 [(19,.gen (yd [Sr])),(31,.gen (yd [Na])),(33,.gen (yd [DY])),(35,.gen (yd [PL]))]:=(gd1 Pl (gd1 Mw (gd1 T4 (gd1 Tj za))))
def OE:=wD tb gl GS D8 Tryz.f21
theorem zdw:VK OE:=zh zb GS
def HG:Un:=lpU 2 [19,20,21,22,23,26,27,28,29,30,31,32,33,34,35,36,37,38,39,40,41,42,43,44,45,46,47,48,49,51,52,53,54,50,55,56,57,12,13,14,59,60,61,62,63,64,65,66,67,68,58,69,70,9,10,24,25,11] ⟨[0,2,4,9,10,11],⟨[.hole,.hole,(.ptr 0 0),(.view 1),.hole,.hole],[.cells true [.hole,.hole,.hole],.seq false],[1,2,2,2,1,1,1,0],[kM,.int .i64,.int .i64,.int .i64,kL,kK,kL,.sl (.cons kZ (.cons kZ (.cons kZ (.cons kZ (.cons kZ (.cons kZ (.cons kZ (.cons kL (.cons kK (.one kL))))))))))]⟩⟩ [((.exit 0),⟨[9,10],⟨[(.view 0),.hole],[.seq false],[2,0],[.int .i64,.sl (.cons kZ (.cons kZ (.cons kZ (.cons kZ (.cons kZ (.cons kZ (.cons kZ (.cons kL (.cons kK (.one kL))))))))))]⟩⟩)] (lp qd zd)
theorem BR:UK OE (yx (ze Tryz.f21) [1,1,1,1,0,1,0]) HG:=qB .run zk zdw ob0
theorem UD:SK 21 D8:=zU (.seq .run (.seq .run (.seq .run (.seq .run (.seq (.seq .run (.block (.unit HG))) .run))))) [.tmp 6,.tmp 7,.tmp 8] zb zk GS Tryz.func21 (ob1 BR ob0)
def Jo:ShC:=⟨⟨[.hole,.hole],[],[1,1],[kJ,kJ]⟩,⟨[.hole],[],[2],[.bool]⟩,1,[],[],false,false,fun (x:(jI×jI))=>x6 x.1 x.2⟩
theorem G2:GD Jo []:=za
def OY:=wD tb gl G2 Jo Tryz.f17
theorem zah:VK OY:=zh zb G2
def Hr:Un:=lpU 2 [11,12,13,14,17,18,19,20,21,22,23,24,25,4,15,16,5] ⟨[0,1,5],⟨[.hole,.hole,.hole],[],[1,1,2],[kJ,kJ,.int .i64]⟩⟩ [((.exit 0),⟨[],⟨[],[],[],[]⟩⟩),(.ret,⟨[4],⟨[.hole],[],[2],[.bool]⟩⟩)] (lp xl zd)
theorem B3:UK OY (yx (ze Tryz.f17) [1,1,0,1,0]) Hr:=qB .run zk zah ob0
theorem Fp:SK 17 Jo:=zU (.seq .run (.seq .run (.seq (.seq .run (.block (.unit Hr))) .run))) [.tmp 4] zb zk G2 Tryz.func17 (ob1 B3 ob0)
def LP:ShC:=⟨⟨[.hole,.hole],[],[1,1],[kL,kL]⟩,⟨[.hole],[],[2],[.bool]⟩,1,[],[],false,false,fun (x:(jQ×jQ))=>ue x.1 x.2⟩
theorem IT:GD LP [(17,.gen (yd [Jo]))]:=(gd1 Fp za)
def Rw:=wD tb gl IT LP Tryz.f37
theorem zdt:VK Rw:=zh zb IT
def LF:Un:=lpU 2 [11,12,13,14,17,18,19,20,21,22,23,24,25,26,27,28,29,30,31,32,33,34,35,36,37,38,39,40,41,4,15,16,5] ⟨[0,1,5],⟨[.hole,.hole,.hole],[],[1,1,2],[kL,kL,.int .i64]⟩⟩ [((.exit 0),⟨[],⟨[],[],[],[]⟩⟩),(.ret,⟨[4],⟨[.hole],[],[2],[.bool]⟩⟩)] (lp xj zd)
theorem Ac:UK Rw (yx (ze Tryz.f37) [1,1,0,1,0]) LF:=qB .run zk zdt ob0
theorem UL:SK 37 LP:=zU (.seq .run (.seq .run (.seq (.seq .run (.block (.unit LF))) .run))) [.tmp 4] zb zk IT Tryz.func37 (ob1 Ac ob0)
def Mj:ShC:=⟨⟨[.hole,.hole],[],[1,1],[kK,kK]⟩,⟨[.hole],[],[2],[.bool]⟩,1,[],[],false,false,fun (x:(jR×jR))=>tK x.1 x.2⟩
theorem GU:GD Mj [(17,.gen (yd [Jo]))]:=(gd1 Fp za)
def RU:=wD tb gl GU Mj Tryz.f38
theorem zae:VK RU:=zh zb GU
def EU:Un:=lpU 2 [11,12,13,14,17,18,19,20,21,22,23,24,25,26,4,15,16,5] ⟨[0,1,5],⟨[.hole,.hole,.hole],[],[1,1,2],[kK,kK,.int .i64]⟩⟩ [((.exit 0),⟨[],⟨[],[],[],[]⟩⟩),(.ret,⟨[4],⟨[.hole],[],[2],[.bool]⟩⟩)] (lp xi zd)
theorem Bv:UK RU (yx (ze Tryz.f38) [1,1,0,1,0]) EU:=qB .run zk zae ob0
theorem Uv:SK 38 Mj:=zU (.seq .run (.seq .run (.seq (.seq .run (.block (.unit EU))) .run))) [.tmp 4] zb zk GU Tryz.func38 (ob1 Bv ob0)
def P5:ShC:=⟨⟨[(.agg [.hole,.hole,.hole]),(.agg [.hole,.hole,.hole])],[],[1,1,1,1,1,1],[kL,kK,kL,kL,kK,kL]⟩,⟨[.hole],[],[2],[.bool]⟩,1,[],[],false,false,fun (x:(jQ×jR×jQ×jQ×jR×jQ))=>yr x.1 x.2.1 x.2.2.1 x.2.2.2.1 x.2.2.2.2.1 x.2.2.2.2.2⟩
theorem Id:SK 12 P5:=zU .run [.tmp 4] zb zk (gd1 UL (gd1 Uv za)) Tryz.func12 ob0
def PE:ShC:=⟨⟨[.hole],[],[1],[.int .i64]⟩,⟨[.hole],[],[2],[.int .i64]⟩,1,[],[],false,false,fun (x:Int)=>tB x⟩
theorem HJ:SK 10 PE:=zU .run [.tmp 2] zb zk za Tryz.func10 ob0
def Sf:ShC:=⟨⟨[(.agg [.hole,.hole,.hole,.hole,.hole,.hole,.hole,.hole,.hole,.hole]),(.agg [.hole,.hole,.hole,.hole,.hole,.hole,.hole,.hole,.hole,.hole])],[],[1,1,1,1,1,1,1,1,1,1,1,1,1,1,1,1,1,1,1,1],[.int .i64,.int .i64,.int .i64,.int .i64,.int .i64,.int .i64,.int .i64,kL,kK,kL,.int .i64,.int .i64,.int .i64,.int .i64,.int .i64,.int .i64,.int .i64,kL,kK,kL]⟩,⟨[.hole],[],[2],[.bool]⟩,1,[],[],false,false,fun (x:(Int×Int×Int×Int×Int×Int×Int×jQ×jR×jQ×Int×Int×Int×Int×Int×Int×Int×jQ×jR×jQ))=>uc x.1 x.2.1 x.2.2.1 x.2.2.2.1 x.2.2.2.2.1 x.2.2.2.2.2.1 x.2.2.2.2.2.2.1 x.2.2.2.2.2.2.2.1 x.2.2.2.2.2.2.2.2.1 x.2.2.2.2.2.2.2.2.2.1 x.2.2.2.2.2.2.2.2.2.2.1 x.2.2.2.2.2.2.2.2.2.2.2.1 x.2.2.2.2.2.2.2.2.2.2.2.2.1 x.2.2.2.2.2.2.2.2.2.2.2.2.2.1 x.2.2.2.2.2.2.2.2.2.2.2.2.2.2.1 x.2.2.2.2.2.2.2.2.2.2.2.2.2.2.2.1 x.2.2.2.2.2.2.2.2.2.2.2.2.2.2.2.2.1 x.2.2.2.2.2.2.2.2.2.2.2.2.2.2.2.2.2.1 x.2.2.2.2.2.2.2.2.2.2.2.2.2.2.2.2.2.2.1 x.2.2.2.2.2.2.2.2.2.2.2.2.2.2.2.2.2.2.2⟩
theorem SL:SK 36 Sf:=zU .run [.tmp 4] zb zk (gd1 Id za) Tryz.func36 ob0
def D0:ShC:=⟨⟨[.hole,.hole],[],[1,1],[.sl (.cons kZ (.cons kZ (.cons kZ (.cons kZ (.cons kZ (.cons kZ (.cons kZ (.cons kL (.cons kK (.one kL)))))))))),.sl (.cons kZ (.cons kZ (.cons kZ (.cons kZ (.cons kZ (.cons kZ (.cons kZ (.cons kL (.cons kK (.one kL))))))))))]⟩,⟨[.hole],[],[2],[.bool]⟩,1,[],[],false,false,fun (x:(jT×jT))=>wr x.1 x.2⟩
theorem Iv:GD D0 [(36,.gen (yd [Sf]))]:=(gd1 SL za)
def Pn:=wD tb gl Iv D0 Tryz.f9
theorem zcG:VK Pn:=zh zb Iv
def Fc:Un:=lpU 2 [11,12,13,14,17,18,19,20,21,22,23,24,25,26,4,15,16,5] ⟨[0,1,5],⟨[.hole,.hole,.hole],[],[1,1,2],[.sl (.cons kZ (.cons kZ (.cons kZ (.cons kZ (.cons kZ (.cons kZ (.cons kZ (.cons kL (.cons kK (.one kL)))))))))),.sl (.cons kZ (.cons kZ (.cons kZ (.cons kZ (.cons kZ (.cons kZ (.cons kZ (.cons kL (.cons kK (.one kL)))))))))),.int .i64]⟩⟩ [((.exit 0),⟨[],⟨[],[],[],[]⟩⟩),(.ret,⟨[4],⟨[.hole],[],[2],[.bool]⟩⟩)] (lp qU zd)
theorem BL:UK Pn (yx (ze Tryz.f9) [1,1,0,1,0]) Fc:=qB .run zk zcG ob0
theorem CJ:SK 9 D0:=zU (.seq .run (.seq .run (.seq (.seq .run (.block (.unit Fc))) .run))) [.tmp 4] zb zk Iv Tryz.func9 (ob1 BL ob0)
def zbj:ShC:=⟨⟨[],[],[],[]⟩,⟨[(.view 0)],[.seq false],[2],[kM]⟩,1,[],[],false,false,fun (_:Unit)=>ur⟩
theorem Te:SK 39 zbj:=zU .run [.tmp 0] zb zk za Tryz.func39 ob0
def zcL:ShC:=⟨⟨[.hole],[],[1],[.int .i64]⟩,⟨[.hole],[],[2],[.bool]⟩,1,[],[],false,false,fun (x:Int)=>X9 x⟩
theorem SH:SK 160 zcL:=zU .run [.tmp 2] zb zk za Tryz.func160 ob0
def P4:ShC:=⟨⟨[.hole,.hole],[],[1,1],[.int .i64,.int .i64]⟩,⟨[.hole],[],[2],[.bool]⟩,1,[],[],false,false,fun (x:(Int×Int))=>Bb x.1 x.2⟩
theorem Up:SK 156 P4:=zU .run [.tmp 4] zb zk (gd1 SH za) Tryz.func156 ob0
def P2:ShC:=⟨⟨[.hole],[],[1],[.int .i64]⟩,⟨[.hole],[],[2],[.bool]⟩,1,[],[],false,false,fun (x:Int)=>j2 x⟩
theorem Tl:SK 157 P2:=zU .run [.tmp 2] zb zk za Tryz.func157 ob0
def Bk:ShC:=⟨⟨[.hole,.hole],[],[1,1],[kJ,.int .i64]⟩,⟨[.hole,.hole],[],[2,2],[.int .i64,.bool]⟩,2,[],[],false,false,fun (x:(jI×Int))=>si x.1 x.2⟩
theorem GR:GD Bk [(156,.gen (yd [P4])),(157,.gen (yd [P2]))]:=(gd1 Up (gd1 Tl za))
def P1:=wD tb gl GR Bk Tryz.f148
theorem zbW:VK P1:=zh zb GR
def Cc:Un:=lpU 2 [13,14,15,16,17,18,19,20,21,9,22,23,24,25,26,27,28,29,7,30,8] ⟨[0,1,6,7,8],⟨[.hole,.hole,.hole,.hole,.hole],[],[1,2,2,2,2],[kJ,.int .i64,.int .i64,.int .i64,.int .i64]⟩⟩ [((.exit 0),⟨[7],⟨[.hole],[],[2],[.int .i64]⟩⟩)] (lp uh zd)
theorem BY:UK P1 (yx (ze Tryz.f148) [1,1,1,0,0]) Cc:=qB .run zk zbW ob0
theorem UA:SK 148 Bk:=zU (.seq .run (.seq .run (.seq .run (.seq (.block (.unit Cc)) .run)))) [.tmp 4,.tmp 5] zb zk GR Tryz.func148 (ob1 BY ob0)
def Vb:Go.Shelf.Ren:={ f:=fun x=>match x with | 21=>149 | 27=>158 | 28=>159 | 35=>161 | 39=>162 | n=>n,t:=fun x=>match x with | 22=>40 | 3=>3 | 4=>4 | 0=>0 | n=>n,g:=fun x=>x }
theorem QI:Go.Proofs.Lays2.n21 Tryz.prog Vb where
 mixed:=by kernel_rfl
 f21:=Tryz.func149.trans (by kernel_rfl)
 f27:=Tryz.func158.trans (by kernel_rfl)
 f28:=Tryz.func159.trans (by kernel_rfl)
 f35:=Tryz.func161.trans (by kernel_rfl)
 f39:=Tryz.func162.trans (by kernel_rfl)
 t0:=Tryz.underlying0
 a0:=Tryz.isAgg0
 z0:=Tryz.sizeOf0
 v0:=Tryz.zeroValue0
 t3:=Tryz.underlying3
 a3:=Tryz.isAgg3
 z3:=Tryz.sizeOf3
 v3:=Tryz.zeroValue3
 t4:=Tryz.underlying4
 a4:=Tryz.isAgg4
 z4:=Tryz.sizeOf4
 v4:=Tryz.zeroValue4
 t22:=Tryz.underlying40
 a22:=Tryz.isAgg40
 z22:=Tryz.sizeOf40
 v22:=Tryz.zeroValue40
 i3:=by kernel_rfl
def Se:ShC:=insC
theorem Sv:SK 149 Se :=
 Lc (code:=ze Tryz.f149) Tryz.func149 (by kernel_rfl) (by kernel_rfl) QI rfl
def Dr:ShC:=⟨⟨[(.view 0),.hole],[.seq false],[1,1],[kJ,kJ]⟩,⟨[(.view 0)],[.seq false],[0],[kJ]⟩,1,[],[],true,false,fun (x:(jI×jI))=>Yh x.1 x.2⟩
theorem GZ:GD Dr [(107,.gen (yd [zaE])),(148,.gen (yd [Bk])),(149,.gen (yd [Se]))]:=(gd1 IK (gd1 UA (gd1 Sv za)))
def Rz:=wD tb gl GZ Dr Tryz.f127
theorem zdl:VK Rz:=zh zb GZ
def Hj:Un:=lpU 2 [12,13,14,6,15,16,18,19,20,21,17,22,23,7,8,24,25,26,27,28,29,30,31,0,32,11] ⟨[0,9,10,11],⟨[(.view 0),.hole,.hole,.hole],[.seq false],[1,2,2,0],[kJ,.int .i64,.int .i64,kJ]⟩⟩ [((.exit 0),⟨[0],⟨[(.view 0)],[.seq false],[0],[kJ]⟩⟩)] (lp ZO zd)
theorem Ar:UK Rz (yx (ze Tryz.f127) [1,0,1,0]) Hj:=qB .run zk zdl ob0
theorem Uf:SK 127 Dr:=zU (.seq .run (.seq (.seq .run (.block (.unit Hj))) .run)) [.tmp 4] zb zk GZ Tryz.func127 (ob1 Ar ob0)
def E3:ShC:=⟨⟨[.hole,(.agg [.hole,.hole,.hole])],[],[1,1,1,1],[kM,kL,kK,kL]⟩,⟨[(.view 0),.hole],[.seq false],[2,0],[.int .i64,kJ]⟩,2,[],[],true,true,fun (x:(jS×jQ×jR×jQ))=>rN x.1 x.2.1 x.2.2.1 x.2.2.2⟩
theorem G0:GD E3 [(15,.gen (yd [CY])),(113,.gen (yd [Hs])),(127,.gen (yd [Dr]))]:=(gdG Wr (gd1 Pu (gd1 Uf za)))
def Et:=wD tb gl G0 E3 Tryz.f99
theorem Pk:VK Et:=zh zb G0
def Ey:Un:=lpU 2 [35,36,37,10,38,39,40,6,41,34] ⟨[6,32,33,34],⟨[(.view 0),.hole,.hole,.hole],[.seq false],[1,2,2,0],[kK,.int .i64,.int .i64,kJ]⟩⟩ [((.exit 2),⟨[6],⟨[(.view 0)],[.seq false],[0],[kJ]⟩⟩)] (lp ZP zd)
theorem BV:UK Et (yx (ze Tryz.f99) [1,1,1,1,0,1,0]) Ey:=qB .run zk Pk ob0
def Fh:Un:=lpU 2 [23,24,25,8,26,27,28,29,6,30,22] ⟨[3,6,20,21,22],⟨[(.ptr 0 0),(.view 1),.hole,.hole,.hole],[.cells true [.hole,.hole,.hole],.seq false],[0,2,2,1,1,1,0],[kL,.int .i64,.int .i64,kL,kK,kL,kJ]⟩⟩ [((.exit 0),⟨[6],⟨[(.view 0)],[.seq false],[0],[kJ]⟩⟩)] (lp ZN zd)
theorem Ad:UK Et (yx (ze Tryz.f99) [1,1,1,0,1,0]) Fh:=qB .run zk Pk ob0
theorem TO:SK 99 E3:=zU (.seq .run (.seq .run (.seq .run (.seq (.seq .run (.block (.unit Fh))) (.seq (.seq .run (.block (.unit Ey))) .run))))) [.tmp 4,.tmp 5] zb zk G0 Tryz.func99 (ob1 Ad (ob1 BV ob0))
def Dy:ShC:=⟨⟨[.hole,(.ptr 0 0)],[.cells true [.hole]],[1,1],[kJ,.int .i64]⟩,⟨[(.view 0)],[.seq false],[2],[kJ]⟩,1,[],[],false,false,fun (x:(jI×Int))=>vQ x.1 x.2⟩
theorem IV:GD Dy [(105,.gen (yd [On]))]:=(gd1 La za)
def OP:=wD tb gl IV Dy Tryz.f128
theorem za4:VK OP:=zh zb IV
def FS:Un:=lpU 2 [12,13,14,15,5,6,16,17,18,19,20,21,22,23,24,11] ⟨[1,4,9,10,11],⟨[(.ptr 0 0),(.view 1),(.view 1),.hole,.hole],[.cells true [.hole],.seq false],[2,2,2,2],[.int .i64,.int .i64,.int .i64,kJ]⟩⟩ [((.exit 0),⟨[4],⟨[(.view 0)],[.seq false],[2],[kJ]⟩⟩)] (lp sw zd)
theorem Bx:UK OP (yx (ze Tryz.f128) [1,1,0,1,0]) FS:=qB .run zk za4 ob0
theorem Uy:SK 128 Dy:=zU (.seq .run (.seq .run (.seq (.seq .run (.block (.unit FS))) .run))) [.tmp 3] zb zk IV Tryz.func128 (ob1 Bx ob0)
def CM:ShC:=⟨⟨[(.agg [.hole,.hole,.hole]),(.clo 128 [(.ptr 0 0)])],[.cells true [.hole]],[1,1,1,1],[kL,kK,kL,.int .i64]⟩,⟨[(.agg [(.view 0),(.view 1),(.view 2)])],[.seq false,.seq false,.seq false],[2,2,2],[kL,kK,kL]⟩,1,[],[],false,false,fun (x:(jQ×jR×jQ×Int))=>YN x.1 x.2.1 x.2.2.1 x.2.2.2⟩
theorem Dd:GD CM [(128,.gen (yd [Dy]))]:=(gd1 Uy za)
def DW:=wD tb gl Dd CM Tryz.f110
theorem E5:VK DW:=zh zb Dd
def Ht:Un:=lpU 2 [52,53,54,11,55,56,57,58,59,60,61,62,63,64,65,66,67,51] ⟨[1,4,5,49,50,51],⟨[(.clo 128 [(.ptr 0 0)]),(.ptr 1 0),(.ptr 2 0),.hole,.hole,.hole],[.cells true [.hole],.cells true [.nilv,.nilv,.nilv],.cells false [(.view 3),(.view 4),(.view 5)],.seq false,.seq false,.seq false],[1,2,2,2,2,2,2],[kL,.int .i64,.int .i64,.int .i64,kL,kK,kL]⟩⟩ [((.exit 4),⟨[5],⟨[(.ptr 0 0)],[.cells false [(.view 1),(.view 2),(.view 3)],.seq false,.seq false,.seq false],[2,2,2],[kL,kK,kL]⟩⟩)] (lp kV zd)
theorem BM:UK DW (yx (ze Tryz.f110) [1,1,1,1,0,1,0]) Ht:=qB .run zk E5 ob0
def LD:Un:=lpU 2 [36,37,38,9,39,40,41,42,43,44,45,46,47,35] ⟨[1,2,4,5,33,34,35],⟨[(.clo 128 [(.ptr 0 0)]),(.ptr 1 0),(.ptr 2 0),(.ptr 3 0),.hole,.hole,.hole],[.cells true [.hole],.cells true [.hole,.hole,.hole],.cells true [.nilv,.nilv,.nilv],.cells false [(.view 4),(.view 5),.nilv],.seq false,.seq false],[1,2,2,2,1,1,1,2,2],[kK,.int .i64,.int .i64,.int .i64,kL,kK,kL,kL,kK]⟩⟩ [((.exit 2),⟨[5],⟨[(.ptr 0 0)],[.cells false [(.view 1),(.view 2),.nilv],.seq false,.seq false],[2,2],[kL,kK]⟩⟩)] (lp kT zd)
theorem Ae:UK DW (yx (ze Tryz.f110) [1,1,1,0,1,0]) LD:=qB .run zk E5 ob0
def EH:Un:=lpU 2 [16,17,18,7,19,20,21,22,23,24,25,26,27,28,29,30,31,15] ⟨[1,2,4,5,13,14,15],⟨[(.clo 128 [(.ptr 0 0)]),(.ptr 1 0),(.ptr 2 0),(.ptr 3 0),.hole,.hole,.hole],[.cells true [.hole],.cells true [.hole,.hole,.hole],.cells true [.nilv,.nilv,.nilv],.cells false [(.view 4),.nilv,.nilv],.seq false],[1,2,2,2,1,1,1,2],[kL,.int .i64,.int .i64,.int .i64,kL,kK,kL,kL]⟩⟩ [((.exit 0),⟨[5],⟨[(.ptr 0 0)],[.cells false [(.view 1),.nilv,.nilv],.seq false],[2],[kL]⟩⟩)] (lp kP zd)
theorem B4:UK DW (yx (ze Tryz.f110) [1,1,0,1,0]) EH:=qB .run zk E5 ob0
theorem Uu:SK 110 CM:=zU (.seq .run (.seq .run (.seq (.seq .run (.block (.unit EH))) (.seq (.seq .run (.block (.unit LD))) (.seq (.seq .run (.block (.unit Ht))) .run))))) [.cell 4 26] zb zk Dd Tryz.func110 (ob1 B4 (ob1 Ae (ob1 BM ob0)))
def zbB:ShC:=⟨⟨[(.agg [.hole,.hole,.hole]),.hole],[],[1,1,1,1],[kL,kK,kL,.int .i64]⟩,⟨[(.agg [(.view 0),(.view 1),(.view 2)])],[.seq false,.seq false,.seq false],[2,2,2],[kL,kK,kL]⟩,1,[],[],false,false,fun (x:(jQ×jR×jQ×Int))=>u4 x.1 x.2.1 x.2.2.1 x.2.2.2⟩
theorem SD:SK 100 zbB:=zU .run [.cell 4 26] zb zk (gd1 Uu za) Tryz.func100 ob0
def zaH:ShC:=⟨⟨[.hole,(.agg [.hole,.hole,.hole]),(.agg [.hole,.hole,.hole])],[],[1,1,1,1,1,1,1],[kM,kL,kK,kL,kL,kK,kL]⟩,⟨[(.agg [(.view 0),(.view 1),(.view 2)]),.hole],[.seq false,.seq false,.seq false],[2,2,2,2],[.bool,kL,kK,kL]⟩,2,[],[],false,true,fun (x:(jS×jQ×jR×jQ×jQ×jR×jQ))=>jg x.1 x.2.1 x.2.2.1 x.2.2.2.1 x.2.2.2.2.1 x.2.2.2.2.2.1 x.2.2.2.2.2.2⟩
theorem SI:SK 62 zaH:=zU .run [.cell 6 26,.tmp 7] zb zk (gdG TO (gd1 SD za)) Tryz.func62 ob0
def zdj:ShC:=⟨⟨[.hole,.hole,.hole],[],[1,1,1],[kM,kJ,kJ]⟩,⟨[.hole],[],[2],[.bool]⟩,1,[],[],false,true,fun (x:(jS×jI×jI))=>W6 x.1 x.2.1 x.2.2⟩
theorem TY:SK 67 zdj:=zU .run [.tmp 6] zb zk (gdG Rc za) Tryz.func67 ob0
def Rr:ShC:=⟨⟨[.nilv,.hole],[],[1],[.int .i64]⟩,⟨[(.view 0)],[.seq false],[2],[kJ]⟩,1,[],[],false,false,fun (x:Int)=>YF x⟩
theorem T7:SK 133 Rr:=zU .run [.tmp 4] zb zk (gd0 1000025 za) Tryz.func133 ob0
def EE:ShC:=⟨⟨[.hole],[],[1],[kK]⟩,⟨[(.view 0)],[.seq false],[2],[kJ]⟩,1,[],[],false,false,fun (x:jR)=>jG x⟩
theorem GW:GD EE [(133,.gen (yd [Rr]))]:=(gd1 T7 za)
def Hv:=wD tb gl GW EE Tryz.f108
theorem P3:VK Hv:=zh zb GW
def H9:Un:=lpU 2 [28,29,30,8,31,32,33,6,34,27] ⟨[6,25,26,27],⟨[(.view 0),.hole,.hole,.hole],[.seq false],[1,2,2,2],[kK,.int .i64,.int .i64,kJ]⟩⟩ [((.exit 2),⟨[6],⟨[(.view 0)],[.seq false],[2],[kJ]⟩⟩)] (lp sJ zd)
theorem Ah:UK Hv (yx (ze Tryz.f108) [1,1,1,1,0,1,0]) H9:=qB .run zk P3 ob0
def C0:Un:=lpU 2 [12,13,14,5,15,16,17,18,3,19,20,21,22,11] ⟨[0,3,9,10,11],⟨[.hole,.hole,.hole,.hole,.hole],[],[1,2,1,2,2],[kK,.int .i64,kK,.int .i64,.int .i64]⟩⟩ [((.exit 0),⟨[3],⟨[.hole],[],[2],[.int .i64]⟩⟩)] (lp sD zd)
theorem Av:UK Hv (yx (ze Tryz.f108) [1,1,0,1,0]) C0:=qB .run zk P3 ob0
theorem Ug:SK 108 EE:=zU (.seq .run (.seq .run (.seq (.seq .run (.block (.unit C0))) (.seq .run (.seq (.seq .run (.block (.unit H9))) .run))))) [.tmp 2] zb zk GW Tryz.func108 (ob1 Av (ob1 Ah ob0))
def zbJ:ShC:=⟨⟨[.hole,.hole,.hole,.hole],[],[1,1,1,1],[kM,kJ,.int .i64,kJ]⟩,⟨[(.view 0)],[.seq false],[2],[kJ]⟩,1,[],[],false,false,fun (x:(jS×jI×Int×jI))=>QS x.1 x.2.1 x.2.2.1 x.2.2.2⟩
theorem TU:SK 68 zbJ:=zU .run [.tmp 8] zb zk (gd1 DI (gd1 Ug za)) Tryz.func68 ob0
def PM:ShC:=⟨⟨[.hole,(.agg [.hole,.hole,.hole]),.hole,.hole,(.agg [.hole,.hole,.hole]),.hole,.hole],[],[1,1,1,1,1,1,1,1,1,1,1],[kM,kL,kK,kL,.int .i64,.int .i64,kL,kK,kL,.int .i64,.int .i64]⟩,⟨[(.agg [.hole,.hole,(.view 0)]),.hole,.hole],[.seq false],[2,2,2,2,2],[kL,kK,.bool,.int .i64,kL]⟩,3,[],[],false,true,fun (x:(jS×jQ×jR×jQ×Int×Int×jQ×jR×jQ×Int×Int))=>YO x.1 x.2.1 x.2.2.1 x.2.2.2.1 x.2.2.2.2.1 x.2.2.2.2.2.1 x.2.2.2.2.2.2.1 x.2.2.2.2.2.2.2.1 x.2.2.2.2.2.2.2.2.1 x.2.2.2.2.2.2.2.2.2.1 x.2.2.2.2.2.2.2.2.2.2⟩
theorem CU:SK 29 PM:=zU .run [.cell 14 26,.tmp 15,.tmp 16] zb zk (gdG SI (gd1 Sk (gd1 DI (gdG P7 (gd1 R3 (gdG TY (gd1 TU (gdG OH (gd1 O8 (gd1 OB za)))))))))) Tryz.func29 ob0
def zcE:ShC:=⟨⟨[.hole,(.agg [.hole,.hole,.hole]),.hole,.hole,(.agg [.hole,.hole,.hole]),.hole,.hole],[],[1,1,1,1,1,1,1,1,1,1,1],[kM,kL,kK,kL,.int .i64,.int .i64,kL,kK,kL,.int .i64,.int .i64]⟩,⟨[(.agg [.hole,.hole,(.view 0)]),.hole,.hole],[.seq false],[2,2,2,2,2],[kL,kK,.bool,.int .i64,kL]⟩,3,[],[],false,true,fun (x:(jS×jQ×jR×jQ×Int×Int×jQ×jR×jQ×Int×Int))=>Xv x.1 x.2.1 x.2.2.1 x.2.2.2.1 x.2.2.2.2.1 x.2.2.2.2.2.1 x.2.2.2.2.2.2.1 x.2.2.2.2.2.2.2.1 x.2.2.2.2.2.2.2.2.1 x.2.2.2.2.2.2.2.2.2.1 x.2.2.2.2.2.2.2.2.2.2⟩
theorem UQ:SK 16 zcE:=zU .run [.cell 14 26,.tmp 15,.tmp 16] zb zk (gdG Wr (gd1 Bg (gdG CU za))) Tryz.func16 ob0
def Hp:ShC:=⟨⟨[.hole,(.ptr 0 0)],[.cells true [.hole,.hole,.hole]],[1,1,1,1],[.int .i64,kL,kK,kL]⟩,⟨[.hole],[],[2],[.bool]⟩,1,[],[],false,false,fun (x:(Int×jQ×jR×jQ))=>Z7 x.1 x.2.1 x.2.2.1 x.2.2.2⟩
theorem CT:SK 27 Hp:=zU .run [.tmp 3] zb zk (gd1 Bg za) Tryz.func27 ob0
def DH:ShC:=⟨⟨[.hole,(.clo 27 [(.ptr 0 0)])],[.cells true [.hole,.hole,.hole]],[1,1,1,1],[kJ,kL,kK,kL]⟩,⟨[.hole],[],[2],[.int .i64]⟩,1,[],[],false,false,fun (x:(jI×jQ×jR×jQ))=>su x.1 x.2.1 x.2.2.1 x.2.2.2⟩
theorem Iw:GD DH [(27,.gen (yd [Hp]))]:=(gd1 CT za)
def O6:=wD tb gl Iw DH Tryz.f61
theorem zbD:VK O6:=zh zb Iw
def Lu:Un:=lpU 2 [9,10,5,11,12,13,14,15,16,17,4,18,8] ⟨[0,1,7,8],⟨[.hole,(.clo 27 [(.ptr 0 0)]),.hole,.hole],[.cells true [.hole,.hole,.hole]],[1,2,2,1,1,1],[kJ,.int .i64,.int .i64,kL,kK,kL]⟩⟩ [((.exit 0),⟨[],⟨[],[],[],[]⟩⟩),(.ret,⟨[4],⟨[.hole],[],[2],[.int .i64]⟩⟩)] (lp u5 zd)
theorem Ai:UK O6 (yx (ze Tryz.f61) [1,0,1,0]) Lu:=qB .run zk zbD ob0
theorem SF:SK 61 DH:=zU (.seq .run (.seq (.seq .run (.block (.unit Lu))) .run)) [.tmp 4] zb zk Iw Tryz.func61 (ob1 Ai ob0)
def Dn:ShC:=⟨⟨[(.view 0),(.clo 27 [(.ptr 1 0)])],[.seq false,.cells true [.hole,.hole,.hole]],[1,1,1,1],[kJ,kL,kK,kL]⟩,⟨[(.view 0)],[.seq false],[0],[kJ]⟩,1,[],[],true,false,fun (x:(jI×jQ×jR×jQ))=>tQ x.1 x.2.1 x.2.2.1 x.2.2.2⟩
theorem G8:GD Dn [(27,.gen (yd [Hp])),(61,.gen (yd [DH])),(1000041,.gen (yd []))]:=(gd1 CT (gd1 SF (gd0 1000041 za)))
def OG:=wD tb gl G8 Dn Tryz.f26
theorem zbP:VK OG:=zh zb G8
def Fv:Un:=lpU 2 [16,17,18,19,22,23,24,25,7,26,27,28,29,30,31,32,33,34,35,5,20,21,6] ⟨[0,1,5,6],⟨[(.view 0),(.clo 27 [(.ptr 1 0)]),.hole,.hole],[.seq false,.cells true [.hole,.hole,.hole]],[2,2,0,1,1,1],[.int .i64,.int .i64,kJ,kL,kK,kL]⟩⟩ [((.exit 0),⟨[0,5],⟨[(.view 0),.hole],[.seq false],[2,0],[.int .i64,kJ]⟩⟩)] (lp um zd)
theorem Az:UK OG (yx (ze Tryz.f26) [1,1,1,0,1,0]) Fv:=qB .run zk zbP ob0
theorem Tp:SK 26 Dn:=zU (.seq .run (.seq .run (.seq .run (.seq (.seq .run (.block (.unit Fv))) .run)))) [.tmp 4] zb zk G8 Tryz.func26 (ob1 Az ob0)
def LE:ShC:=⟨⟨[.hole,(.agg [.hole,.hole,.hole]),.hole,(.agg [.hole,.hole,.hole]),.hole],[],[1,1,1,1,1,1,1,1,1],[kM,kL,kK,kL,.int .i64,kL,kK,kL,.int .i64]⟩,⟨[(.view 0),.hole,.hole],[.seq false],[2,2,2],[.int .i64,.int .i64,.sl (.cons kZ (.cons kZ (.cons kZ (.cons kZ (.cons kZ (.cons kZ (.cons kZ (.cons kL (.cons kK (.one kL))))))))))]⟩,3,[],[],false,true,fun (x:(jS×jQ×jR×jQ×Int×jQ×jR×jQ×Int))=>DO x.1 x.2.1 x.2.2.1 x.2.2.2.1 x.2.2.2.2.1 x.2.2.2.2.2.1 x.2.2.2.2.2.2.1 x.2.2.2.2.2.2.2.1 x.2.2.2.2.2.2.2.2⟩
theorem I5:GD LE [(15,.gen (yd [CY])),(25,.gen (yd [Jq])),(26,.gen (yd [Dn])),(29,.gen (yd [PM])),(30,.gen (yd [FZ]))]:=(gdG Wr (gdG Lh (gd1 Tp (gdG CU (gdG FO za)))))
def Kc:=wD tb gl I5 LE Tryz.f7
theorem DN:VK Kc:=zh zb I5
def Ej:Un:=scU Kc [23,71,72,73,74,75,76,77,78,79,81,82,83,84,85,86,87,88,80,89,90,91,24,25,26,92,93,94,95,96,97,98,99,100,101,102,103,104,23] [(.goto 0,⟨[0,2,4,6,8,15,17,19,20,22,23,56,57,58,62,65,66,67],⟨[.hole,.hole,.hole,(.ptr 0 0),(.ptr 1 0),.hole,(.ptr 2 0),.hole,.hole,.hole,.hole,.hole,.hole,.hole,.hole,.hole,.hole,.hole],[.cells true [.hole,.hole,.hole],.cells true [.hole,.hole,.hole],.cells false [.hole,(.view 3),.hole],.seq false],[1,2,2,2,2,2,2,2,0,2,2,2,2,2,2,1,1,1,1,1,1,0,2,2],[kM,.int .i64,.int .i64,kJ,.int .i64,.int .i64,.int .i64,.int .i64,kJ,.int .i64,.int .i64,.int .i64,kJ,.int .i64,.int .i64,kL,kK,kL,kL,kK,kL,kM,.int .i64,.sl (.cons kZ (.cons kZ (.cons kZ (.cons kZ (.cons kZ (.cons kZ (.cons kZ (.cons kL (.cons kK (.one kL))))))))))]⟩⟩)] [(.normal,⟨[17],⟨[(.ptr 0 0)],[.cells false [.hole,(.view 1),.hole],.seq false],[0,2,2],[kM,.int .i64,.sl (.cons kZ (.cons kZ (.cons kZ (.cons kZ (.cons kZ (.cons kZ (.cons kZ (.cons kL (.cons kK (.one kL))))))))))]⟩⟩)] (DT (yx (ze Tryz.f7) [1,1,1,1,1,1,0,1,0,0,1,1,0,0,1,1,0,0,1,1,0,0,1,1,0,0,1,1,0,0,1])) .run (lp WR zd)
theorem An:UK Kc (yx (ze Tryz.f7) [1,1,1,1,1,1,0,1,0,0,1,1,0,0,1,1,0,0,1,1,0,0,1,1,0,0,1,1,0,0,1]) Ej:=zdD [] zk DN ob0 zdH
def HD:Un:=lpU 2 [68,69,70,22,23,71,72,73,74,75,76,77,78,79,81,82,83,84,85,86,87,88,80,89,90,91,24,25,26,92,93,94,95,96,97,98,99,100,101,102,103,104,23,105,67] ⟨[0,2,4,6,8,15,17,19,20,56,57,58,62,65,66,67],⟨[.hole,.hole,.hole,(.ptr 0 0),(.ptr 1 0),.hole,(.ptr 2 0),.hole,.hole,.hole,.hole,.hole,.hole,.hole,.hole,.hole],[.cells true [.hole,.hole,.hole],.cells true [.hole,.hole,.hole],.cells false [.hole,(.view 3),.hole],.seq false],[1,2,2,2,2,2,0,2,2,2,2,2,2,1,1,1,1,1,1,0,2,2],[kM,.int .i64,.int .i64,kJ,.int .i64,.int .i64,kJ,.int .i64,.int .i64,.int .i64,kJ,.int .i64,.int .i64,kL,kK,kL,kL,kK,kL,kM,.int .i64,.sl (.cons kZ (.cons kZ (.cons kZ (.cons kZ (.cons kZ (.cons kZ (.cons kZ (.cons kL (.cons kK (.one kL))))))))))]⟩⟩ [((.exit 4),⟨[17],⟨[(.ptr 0 0)],[.cells false [.hole,(.view 1),.hole],.seq false],[0,2,2],[kM,.int .i64,.sl (.cons kZ (.cons kZ (.cons kZ (.cons kZ (.cons kZ (.cons kZ (.cons kZ (.cons kL (.cons kK (.one kL))))))))))]⟩⟩)] (lp WP zd)
theorem BP:UK Kc (yx (ze Tryz.f7) [1,1,1,1,1,1,0,1,0,0,1,1,0,0,1,1,0,0,1,1,0,0,1,1,0]) HD:=qB (.seq .run (.seq .run (.seq (.block (.seq .run (.unit Ej))) .run))) zk DN (ob1 An ob0)
def FL:Un:=lpU 2 [63,64,20,65,66,67,68,69,70,22,23,71,72,73,74,75,76,77,78,79,81,82,83,84,85,86,87,88,80,89,90,91,24,25,26,92,93,94,95,96,97,98,99,100,101,102,103,104,23,105,67,106,62] ⟨[0,2,4,6,8,15,17,19,56,57,58,62],⟨[.hole,.hole,.hole,(.ptr 0 0),(.ptr 1 0),.hole,(.ptr 2 0),.hole,.hole,.hole,.hole,.hole],[.cells true [.hole,.hole,.hole],.cells true [.hole,.hole,.hole],.cells false [.hole,(.view 3),.hole],.seq false],[1,2,2,2,2,0,2,2,2,1,1,1,1,1,1,0,2,2],[kM,.int .i64,.int .i64,kJ,.int .i64,kJ,.int .i64,.int .i64,.int .i64,kL,kK,kL,kL,kK,kL,kM,.int .i64,.sl (.cons kZ (.cons kZ (.cons kZ (.cons kZ (.cons kZ (.cons kZ (.cons kZ (.cons kL (.cons kK (.one kL))))))))))]⟩⟩ [((.exit 2),⟨[17],⟨[(.ptr 0 0)],[.cells false [.hole,(.view 1),.hole],.seq false],[0,2,2],[kM,.int .i64,.sl (.cons kZ (.cons kZ (.cons kZ (.cons kZ (.cons kZ (.cons kZ (.cons kZ (.cons kL (.cons kK (.one kL))))))))))]⟩⟩)] (lp WG zd)
theorem B0:UK Kc (yx (ze Tryz.f7) [1,1,1,1,1,1,0,1,0,0,1,1,0,0,1,1,0]) FL:=qB (.seq .run (.seq .run (.seq (.block (.seq .run (.seq .run (.block (.unit HD))))) .run))) zk DN (ob1 BP ob0)
def EO:Un:=lpU 2 [59,60,61,19,62,63,64,20,65,66,67,68,69,70,22,23,71,72,73,74,75,76,77,78,79,81,82,83,84,85,86,87,88,80,89,90,91,24,25,26,92,93,94,95,96,97,98,99,100,101,102,103,104,23,105,67,106,62,107,58] ⟨[0,2,4,6,8,15,17,56,57,58],⟨[.hole,.hole,.hole,(.ptr 0 0),(.ptr 1 0),.hole,(.ptr 2 0),.hole,.hole,.hole],[.cells true [.hole,.hole,.hole],.cells true [.hole,.hole,.hole],.cells false [.hole,(.view 3),.hole],.seq false],[1,2,2,2,0,2,2,1,1,1,1,1,1,0,2,2],[kM,.int .i64,.int .i64,kJ,kJ,.int .i64,.int .i64,kL,kK,kL,kL,kK,kL,kM,.int .i64,.sl (.cons kZ (.cons kZ (.cons kZ (.cons kZ (.cons kZ (.cons kZ (.cons kZ (.cons kL (.cons kK (.one kL))))))))))]⟩⟩ [((.exit 0),⟨[17],⟨[(.ptr 0 0)],[.cells false [.hole,(.view 1),.hole],.seq false],[0,2,2],[kM,.int .i64,.sl (.cons kZ (.cons kZ (.cons kZ (.cons kZ (.cons kZ (.cons kZ (.cons kZ (.cons kL (.cons kK (.one kL))))))))))]⟩⟩)] (lp Wn zd)
theorem B7:UK Kc (yx (ze Tryz.f7) [1,1,1,1,1,1,0,1,0]) EO:=qB (.seq .run (.seq .run (.seq (.block (.seq .run (.seq .run (.block (.unit FL))))) .run))) zk DN (ob1 B0 ob0)
theorem TI:SK 7 LE:=zU (.seq .run (.seq .run (.seq .run (.seq .run (.seq .run (.seq .run (.seq (.seq .run (.block (.unit EO))) .run))))))) [.tmp 10,.tmp 11,.tmp 12] zb zk I5 Tryz.func7 (ob1 B7 ob0)
def RX:ShC:=⟨⟨[],[],[],[]⟩,⟨[.hole],[],[2],[.bool]⟩,1,[],[],false,true,fun (_:Unit)=>ZZ⟩
theorem Tc:SK 13 RX:=zU .run [.tmp 0] zb zk (gdG TI (gd1 CJ (gd1 HJ (gd1 Id (gdG UQ (gdG Rh (gd1 Te za))))))) Tryz.func13 ob0
def Dk:ShC:=⟨⟨[.hole,(.agg [.hole,.hole,.hole]),.hole,.hole],[],[1,1,1,1,1,1],[kM,kL,kK,kL,.int .i64,.int .i64]⟩,⟨[.hole],[],[2],[.bool]⟩,1,[],[],false,true,fun (x:(jS×jQ×jR×jQ×Int×Int))=>yn x.1 x.2.1 x.2.2.1 x.2.2.2.1 x.2.2.2.2.1 x.2.2.2.2.2⟩
theorem IL:GD Dk [(6,.gen (yd [zfr])),(9,.gen (yd [D0])),(10,.gen (yd [PE])),(12,.gen (yd [P5])),(13,.gen (yd [RX])),(18,.gen (yd [zc4])),(19,.gen (yd [Sr])),(20,.gen (yd [Bi])),(21,.gen (yd [D8]))]:=(gd1 ze6 (gd1 CJ (gd1 HJ (gd1 Id (gdG Tc (gdG Rh (gd1 Pl (gdG TH (gd1 UD za)))))))))
def L6:=wD tb gl IL Dk Tryz.f5
theorem zat:VK L6:=zh zb IL
def GH:List (Code×AC):=[((yx (ze Tryz.f5) [1,1,0]),.run),((yx (ze Tryz.f5) [1,1,1,0]),.run),((yx (ze Tryz.f5) [1,1,1,1,0]),.run),((yx (ze Tryz.f5) [1,1,1,1,1,0]),.run),((yx (ze Tryz.f5) [1,1,1,1,1,1,0]),.run)]
def EM:Un:=spU L6 GH [25,26,27,28,24,29,30,31,10,11,12,33,34,35,36,32,37,38,39,13,14,15,41,42,43,44,40,45,46,47,16,17,18,49,50,51,52,48,53,54,55,19,20,21,56,57,58,59,60,61,62,63,64,65,66,67,68,69,70,71,72,73,74,75,76,77,78,79,80,81,82,83,84,85,86,87,8] [88,89,90,91] [(10,.rp (.cons kL (.cons kK (.one kL))) 0),(16,.one (.sl (.cons kZ (.cons kZ (.cons kZ (.cons kZ (.cons kZ (.cons kZ (.cons kZ (.cons kL (.cons kK (.one kL))))))))))))] (yx (ze Tryz.f5) [1,1,1,1,1,1,1,1,1]) .run
theorem zau:wE Tryz.prog 97 [.one kJ] :=
 jP (l:=[]) (code:=ze Tryz.f97) zb Qx Tryz.func97 (by kernel_rfl) (by kernel_rfl) (by kernel_rfl) (by kernel_rfl) (by kernel_rfl)
theorem zeE:wE Tryz.prog 53 [.one kL] :=
 jP (l:=[(97,[.one kJ])]) (code:=ze Tryz.f53) zb (rL zau Qx) Tryz.func53 (by kernel_rfl) (by kernel_rfl) (by kernel_rfl) (by kernel_rfl) (by kernel_rfl)
theorem zeQ:wE Tryz.prog 54 [.one kK] :=
 jP (l:=[(97,[.one kJ])]) (code:=ze Tryz.f54) zb (rL zau Qx) Tryz.func54 (by kernel_rfl) (by kernel_rfl) (by kernel_rfl) (by kernel_rfl) (by kernel_rfl)
theorem zbv:wE Tryz.prog 22 [.agg [kL,kK,kL]] :=
 jP (l:=[(53,[.one kL]),(54,[.one kK])]) (code:=ze Tryz.f22) zb (rL zeE (rL zeQ Qx)) Tryz.func22 (by kernel_rfl) (by kernel_rfl) (by kernel_rfl) (by kernel_rfl) (by kernel_rfl)
theorem ze7:wE Tryz.prog 11 [.one (.sl (.cons kZ (.cons kZ (.cons kZ (.cons kZ (.cons kZ (.cons kZ (.cons kZ (.cons kL (.cons kK (.one kL)))))))))))] :=
 jP (l:=[(22,[.agg [kL,kK,kL]])]) (code:=ze Tryz.f11) zb (rL zbv Qx) Tryz.func11 (by kernel_rfl) (by kernel_rfl) (by kernel_rfl) (by kernel_rfl) (by kernel_rfl)
theorem BS:UK L6 (yx (ze Tryz.f5) [1,1]) EM:=fun X hX =>
 zes zat zk (l:=[(11,[.one (.sl (.cons kZ (.cons kZ (.cons kZ (.cons kZ (.cons kZ (.cons kZ (.cons kZ (.cons kL (.cons kK (.one kL)))))))))))]),(22,[.agg [kL,kK,kL]])]) (rL ze7 (rL zbv Qx)) (cs:=GH) (sps:=[(yx (ze Tryz.f5) [1,1,1,1,1,1,1,0]),(yx (ze Tryz.f5) [1,1,1,1,1,1,1,1,0])]) (by kernel_rfl) (fun X hX=>(YV (by kernel_rfl) (ob0 X hX) (YV (by kernel_rfl) (ob0 X hX) (YV (by kernel_rfl) (ob0 X hX) (YV (by kernel_rfl) (ob0 X hX) (YV (by kernel_rfl) (ob0 X hX) T0)))))) (by kernel_rfl) ob0 (by kernel_rfl) (by kernel_rfl) (by kernel_rfl) hX
theorem US:SK 5 Dk:=zU (.seq .run (.seq .run (.unit EM))) [.tmp 8] zb zk IL Tryz.func5 (ob1 BS ob0)
end
end Go.Abs.Sz6
