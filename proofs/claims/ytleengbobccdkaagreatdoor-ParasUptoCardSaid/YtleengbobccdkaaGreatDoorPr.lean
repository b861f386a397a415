import Derived.Test.YtleengbobccdkaaGreatDoorFc
import Derived.Test.YtleengbobccdkaaGreatDoorQc
import Derived.Test.YtleengbobccdkaaGreatDoorXa
import Derived.Test.YtleengbobccdkaaGreatDoorProg
/-
 The functions make just that.
-/
namespace Go.Abs.Sz5
open Go Go.Abs Go.Abs.Q Go.Proofs
set_option maxRecDepth 100000
noncomputable section
abbrev kK:Ty:=.sl (.one (.sl (.one (.int .i64))))
abbrev kR:Tys:=.one (.sl (.one (.int .i64)))
abbrev kJ:Ty:=.sl (.one (.int .i64))
abbrev kI:Tys:=.one (.int .i64)
abbrev kZ:Ty:=.int .i64
abbrev kL:Ty:=.sl zdL
abbrev kM:Ty:=.sl zpN
def tbl:List (Nat×TD):=[(3,.int .i64),
 (4,.bool),
 (9,.str),
 (22,.sl 136 zpN 40),
 (23,.sl 3 kI 8),
 (24,.sl 69 zdL 32),
 (27,.sl 23 kR 24),
 (29,.st [(24,0),(27,1),(24,2)] 3),
 (50,.sl 73 (.cons kZ (.cons kZ (.cons kZ (.cons kZ (.cons kZ (.cons kZ (.cons kZ (.cons kL (.cons kK (.one kL)))))))))) 128),
 (69,.st [(4,0),(23,1)] 2),
 (73,.st [(3,0),(3,1),(3,2),(3,3),(3,4),(3,5),(3,6),(29,7)] 10),
 (99,.sl 144 (.cons kZ kR) 32),
 (109,.st [(22,0),(50,1),(3,2)] 3),
 (131,.int .u64),
 (136,.st [(9,0),(3,1),(3,2),(3,3)] 4),
 (144,.st [(3,0),(23,1)] 2),
 (156,.arr 23 kR 48),
 (158,.st [(156,0)] 48),
 (178,.arr 3 kI 24),
 (198,.st [(23,0),(3,1)] 2),
 (199,.arr 198 (.cons (.ns kI) kI) 48),
 (201,.st [(22,0),(199,1)] 97),
 (204,.sl 27 (.one kK) 24),
 (206,.sl 24 (.one kL) 24),
 (217,.sl 220 (.cons kJ (.cons kZ (.cons kJ kI))) 64),
 (220,.fa 198 2 2),
 (239,.arr 4 (.one .bool) 48),
 (240,.sl 198 (.cons kJ kI) 32)]
def tb:Tb:=zCU tbl
theorem zc:zcs Tryz.prog tb:=zy1 (by kernel_rfl)
theorem zk:Tryz.prog.follows .mixedOrders=true:=by kernel_rfl
def gl:Gl:=fun q=>cond (Nat.beq q 0) (some ⟨zpN,(([61],0,2,1):zm)⟩) (none)
abbrev SK:=ShOk Tryz.prog gl
abbrev UK:=UnA Tryz.prog
abbrev VK:=VAll Tryz.prog
abbrev GD (c:ShC):=zi4 Tryz.prog (cond c.glob gl fun _=>none)
def zJF:ShC:=⟨⟨[.hole],[],[1],[kJ]⟩,⟨[(.view 0)],[.seq false],[2],[kJ]⟩,1,[],[],false,false,fun (x:jI)=>za0 x⟩
theorem zId:SK 51 zJF:=zV .run [.tmp 2] zc zk za Tryz.func51 ob0
def zKD:ShC:=⟨⟨[.hole],[],[1],[kL]⟩,⟨[(.view 0)],[.seq false],[2],[kL]⟩,1,[],[],false,false,fun (x:jQ)=>zcG x⟩
theorem zFf:GD zKD [(51,.gen (yx [zJF]))]:=(gd1 zId za)
def zK2:=zbo tb gl zFf zKD Tryz.f13
theorem zLi:VK zK2:=zh zc zFf
def zG5:Un:=lpU 2 [5,6,7,8,11,12,13,14,15,16,17,18,19,20,21,22,23,24,25,3,9,10,4] ⟨[0,3,4],⟨[.hole,(.view 0),.hole],[.seq false],[1,2,2],[kL,.int .i64,kL]⟩⟩ [((.exit 0),⟨[3],⟨[(.view 0)],[.seq false],[2],[kL]⟩⟩)] (lp zae zd)
theorem zzI:UK zK2 (yQ (ze Tryz.f13) [1,1,0,1,0]) zG5:=qI .run zk zLi ob0
theorem zJE:SK 13 zKD:=zV (.seq .run (.seq .run (.seq (.seq .run (.block (.unit zG5))) .run))) [.tmp 2] zc zk zFf Tryz.func13 (ob1 zzI ob0)
def zKq:ShC:=⟨⟨[.hole],[],[1],[kK]⟩,⟨[(.view 0)],[.seq false],[2],[kK]⟩,1,[],[],false,false,fun (x:jR)=>zdU x⟩
theorem zDB:GD zKq [(51,.gen (yx [zJF]))]:=(gd1 zId za)
def zK7:=zbo tb gl zDB zKq Tryz.f68
theorem zLp:VK zK7:=zh zc zDB
def zIf:Un:=lpU 2 [5,6,7,8,11,12,13,14,15,16,17,18,3,9,10,4] ⟨[0,3,4],⟨[.hole,(.view 0),.hole],[.seq false],[1,2,2],[kK,.int .i64,kK]⟩⟩ [((.exit 0),⟨[3],⟨[(.view 0)],[.seq false],[2],[kK]⟩⟩)] (lp zap zd)
theorem zzR:UK zK7 (yQ (ze Tryz.f68) [1,1,0,1,0]) zIf:=qI .run zk zLp ob0
theorem zJJ:SK 68 zKq:=zV (.seq .run (.seq .run (.seq (.seq .run (.block (.unit zIf))) .run))) [.tmp 2] zc zk zDB Tryz.func68 (ob1 zzR ob0)
def zK0:ShC:=⟨⟨[(.agg [.hole,.hole,.hole])],[],[1,1,1],[kL,kK,kL]⟩,⟨[(.agg [(.view 0),(.view 1),(.view 2)])],[.seq false,.seq false,.seq false],[2,2,2],[kL,kK,kL]⟩,1,[],[],false,false,fun (x:(jQ×jR×jQ))=>qr x.1 x.2.1 x.2.2⟩
theorem zJG:SK 23 zK0:=zV .run [.cell 2 29] zc zk (gd1 zJE (gd1 zJJ za)) Tryz.func23 ob0
def zK3:ShC:=⟨⟨[.hole],[],[1],[.int .u8]⟩,⟨[.hole],[],[2],[.bool]⟩,1,[],[],false,false,fun (x:Int)=>zd8 x⟩
theorem zJZ:SK 204 zK3:=zV .run [.tmp 2] zc zk za Tryz.func204 ob0
def zJR:ShC:=⟨⟨[.hole],[],[1],[.str]⟩,⟨[.hole],[],[2],[.bool]⟩,1,[],[],false,false,fun (x:Str)=>zfu x⟩
theorem zE5:GD zJR [(204,.gen (yx [zK3]))]:=(gd1 zJZ za)
def zLd:=zbo tb gl zE5 zJR Tryz.f167
theorem zLk:VK zLd:=zh zc zE5
def zIu:Un:=lpU 2 [20,21,3,22,23,24,25,26,27,28,29,30,31,32,33,34,35,36,37,38,2,39,19] ⟨[0,18,19],⟨[.hole,.hole,.hole],[],[2,2,2],[.str,.int .i64,.int .i64]⟩⟩ [((.exit 0),⟨[],⟨[],[],[],[]⟩⟩),(.ret,⟨[2],⟨[.hole],[],[2],[.bool]⟩⟩)] (lp zba zd)
theorem zy6:UK zLd (yQ (ze Tryz.f167) [1,1,0,1,0]) zIu:=qI .run zk zLk ob0
theorem zKd:SK 167 zJR:=zV (.seq .run (.seq .run (.seq (.seq .run (.block (.unit zIu))) .run))) [.tmp 2] zc zk zE5 Tryz.func167 (ob1 zy6 ob0)
def zK8:ShC:=⟨⟨[(.agg [.hole,.hole,.hole,.hole])],[],[1,1,1,1],[.str,.int .i64,.int .i64,.int .i64]⟩,⟨[.hole],[],[2],[.bool]⟩,1,[],[],false,false,fun (x:zm)=>zek x.1 x.2.1 x.2.2.1 x.2.2.2⟩
theorem zJ1:SK 113 zK8:=zV .run [.tmp 2] zc zk (gd1 zKd za) Tryz.func113 ob0
def zJs:ShC:=⟨⟨[.hole,.hole],[],[1,1],[kM,.str]⟩,⟨[.hole],[],[2],[.int .i64]⟩,1,[],[],false,false,fun (x:(jS×Str))=>zg9 x.1 x.2⟩
theorem zFp:GD zJs []:=za
def zLc:=zbo tb gl zFp zJs Tryz.f114
theorem zLq:VK zLc:=zh zc zFp
def zIW:Un:=lpU 2 [9,10,5,11,12,13,14,15,16,17,18,4,19,8] ⟨[0,1,7,8],⟨[.hole,.hole,.hole,.hole],[],[1,2,2,2],[kM,.str,.int .i64,.int .i64]⟩⟩ [((.exit 0),⟨[],⟨[],[],[],[]⟩⟩),(.ret,⟨[4],⟨[.hole],[],[2],[.int .i64]⟩⟩)] (lp zca zd)
theorem zzO:UK zLc (yQ (ze Tryz.f114) [1,0,1,0]) zIW:=qI .run zk zLq ob0
theorem zKU:SK 114 zJs:=zV (.seq .run (.seq (.seq .run (.block (.unit zIW))) .run)) [.tmp 4] zc zk zFp Tryz.func114 (ob1 zzO ob0)
def zGT:ShC:=⟨⟨[.hole],[],[1],[kM]⟩,⟨[.hole],[],[2],[.bool]⟩,1,[],[],false,true,fun (x:jS)=>zhB x⟩
theorem zEP:GD zGT [(113,.gen (yx [zK8])),(114,.gen (yx [zJs]))]:=(gd1 zJ1 (gd1 zKU za))
def zLb:=zbo tb gl zEP zGT Tryz.f52
theorem zLo:VK zLb:=zh zc zEP
def zGr:Un:=lpU 2 [19,20,21,22,25,26,27,28,29,30,31,32,33,34,35,36,37,38,39,40,41,2,23,24,3] ⟨[0,3],⟨[.hole,.hole],[],[1,2],[kM,.int .i64]⟩⟩ [((.exit 0),⟨[],⟨[],[],[],[]⟩⟩),(.ret,⟨[2],⟨[.hole],[],[2],[.bool]⟩⟩)] (lp zbV zd)
theorem zzh:UK zLb (yQ (ze Tryz.f52) [1,1,0,1,0]) zGr:=qI .run zk zLo ob0
theorem zE0:SK 52 zGT:=zV (.seq .run (.seq .run (.seq (.seq .run (.block (.unit zGr))) .run))) [.tmp 2] zc zk zEP Tryz.func52 (ob1 zzh ob0)
def zGS:ShC:=⟨⟨[.hole],[],[1],[.int .i64]⟩,⟨[.hole],[],[2],[.int .i64]⟩,1,[],[],false,false,fun (x:Int)=>zT x⟩
theorem zqR:SK 55 zGS:=zV .run [.tmp 2] zc zk za Tryz.func55 ob0
def zIR:ShC:=⟨⟨[.hole,.hole],[],[1,1],[kM,.int .i64]⟩,⟨[.hole,.hole],[],[2,2],[.int .i64,.bool]⟩,2,[],[],false,false,fun (x:(jS×Int))=>zhg x.1 x.2⟩
theorem zGR:SK 193 zIR:=zV .run [.tmp 4,.tmp 5] zc zk (gd1 zqR za) Tryz.func193 ob0
def zw2:ShC:=⟨⟨[.hole,.hole,.hole],[],[1,1,1],[kM,kJ,.int .i64]⟩,⟨[.hole,.hole],[],[2,2],[.int .i64,.bool]⟩,2,[],[],false,false,fun (x:(jS×jI×Int))=>zcu x.1 x.2.1 x.2.2⟩
theorem zxj:GD zw2 [(193,.gen (yx [zIR]))]:=(gd1 zGR za)
def zFc:=zbo tb gl zxj zw2 Tryz.f151
theorem zJP:VK zFc:=zh zc zxj
def zCA:Un:=scU zFc [8,11,12,13,14,6,7,16,17,18,19,20,21,15,22,23,9,10,24,25,6,7,26,27,2,28,29,30,31,8,32,33,34,6,7] [(.goto 0,⟨[0,1,2,8],⟨[.hole,.hole,.hole,.hole],[],[1,1,2,2],[kM,kJ,.int .i64,.int .i64]⟩⟩)] [(.ret,⟨[6,7],⟨[.hole,.hole],[],[2,2],[.int .i64,.bool]⟩⟩)] (zrH (yQ (ze Tryz.f151) [1])) .run (lp zbv zd)
theorem zvT:UK zFc (yQ (ze Tryz.f151) [1]) zCA:=zJp [] zk zJP ob0 zJk
theorem zsb:SK 151 zw2:=zV (.seq .run (.unit zCA)) [.tmp 6,.tmp 7] zc zk zxj Tryz.func151 (ob1 zvT ob0)
def zEs:ShC:=⟨⟨[.hole,.hole],[],[1,1],[kM,kJ]⟩,⟨[(.view 0),.hole],[.seq false],[2,2],[.bool,kJ]⟩,2,[],[],false,true,fun (x:(jS×jI))=>zc0 x.1 x.2⟩
theorem zxE:GD zEs [(52,.gen (yx [zGT])),(151,.gen (yx [zw2]))]:=(gdG zE0 (gd1 zsb za))
def zEl:=zbo tb gl zxE zEs Tryz.f158
theorem zKx:VK zEl:=zh zc zxE
def zCV:Un:=scU zEl [10,11,12,13,14,15,16,17,4,5,6,7,18,19,20,21,22,4,5,24,25,26,27,23,28,29,8,9,30,31,4,5,32,33,34,35,6,36,7] [(.goto 0,⟨[0,1,6,7],⟨[.hole,.hole,(.view 0),.hole],[.seq false],[1,1,2,2],[kM,kJ,.int .i64,kJ]⟩⟩)] [(.ret,⟨[4,5],⟨[(.view 0),.hole],[.seq false],[2,2],[.bool,kJ]⟩⟩)] (zrH (yQ (ze Tryz.f158) [1])) .run (lp zbQ zd)
theorem ztX:UK zEl (yQ (ze Tryz.f158) [1]) zCV:=zJp [] zk zKx ob0 zJk
theorem zxG:SK 158 zEs:=zV (.seq .run (.unit zCV)) [.tmp 4,.tmp 5] zc zk zxE Tryz.func158 (ob1 ztX ob0)
def zKt:ShC:=⟨⟨[.hole,.hole],[],[1,1],[kM,kJ]⟩,⟨[.hole],[],[2],[.bool]⟩,1,[],[],false,true,fun (x:(jS×jI))=>za2 x.1 x.2⟩
theorem zCx:SK 101 zKt:=zV .run [.tmp 4] zc zk (gdG zxG za) Tryz.func101 ob0
def zJe:ShC:=⟨⟨[.hole,(.agg [.hole,.hole])],[],[1,1,1],[kM,.bool,kJ]⟩,⟨[.hole],[],[2],[.bool]⟩,1,[],[],false,true,fun (x:(jS×Bool×jI))=>zig x.1 x.2.1 x.2.2⟩
theorem zvl:SK 142 zJe:=zV .run [.tmp 4] zc zk (gdG zCx za) Tryz.func142 ob0
def zEw:ShC:=⟨⟨[.hole,.hole],[],[1,1],[kM,kL]⟩,⟨[.hole,.hole],[],[2,2],[.int .i64,.bool]⟩,2,[],[],false,true,fun (x:(jS×jQ))=>zbO x.1 x.2⟩
theorem zuM:GD zEw [(142,.gen (yx [zJe]))]:=(gdG zvl za)
def zHK:=zbo tb gl zuM zEw Tryz.f104
theorem zKk:VK zHK:=zh zc zuM
def zCt:Un:=lpU 2 [12,13,14,8,15,16,17,18,4,5,19,20,21,22,23,6,24,11] ⟨[0,6,9,10,11],⟨[.hole,.hole,.hole,.hole,.hole],[],[1,2,1,2,2],[kM,.int .i64,kL,.int .i64,.int .i64]⟩⟩ [((.exit 0),⟨[6],⟨[.hole],[],[2],[.int .i64]⟩⟩),(.ret,⟨[4,5],⟨[.hole,.hole],[],[2,2],[.int .i64,.bool]⟩⟩)] (lp qT zd)
theorem zvJ:UK zHK (yQ (ze Tryz.f104) [1,1,0,1,0]) zCt:=qI .run zk zKk ob0
theorem zH9:SK 104 zEw:=zV (.seq .run (.seq .run (.seq (.seq .run (.block (.unit zCt))) .run))) [.tmp 4,.tmp 5] zc zk zuM Tryz.func104 (ob1 zvJ ob0)
def zDM:ShC:=⟨⟨[.hole,.hole],[],[1,1],[kM,kJ]⟩,⟨[.hole,.hole],[],[2,2],[.int .i64,.int .i64]⟩,2,[],[],false,true,fun (x:(jS×jI))=>zf0 x.1 x.2⟩
theorem zBb:SK 162 zDM:=zV .run [.tmp 4,.tmp 5] zc zk (gdG zxG za) Tryz.func162 ob0
def zDE:ShC:=⟨⟨[.hole,.hole],[],[1,1],[kM,kK]⟩,⟨[.hole,.hole],[],[2,2],[.int .i64,.bool]⟩,2,[],[],false,true,fun (x:(jS×jR))=>zdl x.1 x.2⟩
theorem zuE:GD zDE [(162,.gen (yx [zDM]))]:=(gdG zBb za)
def zF9:=zbo tb gl zuE zDE Tryz.f105
theorem zJX:VK zF9:=zh zc zuE
def zCB:Un:=lpU 2 [15,16,17,18,8,9,20,21,22,19,23,24,10,11,25,26,27,7,28,29,30,31,32,33,34,4,5,35,36,37,38,6,39,14] ⟨[0,6,7,12,13,14],⟨[.hole,.hole,.hole,.hole,.hole,.hole],[],[1,2,2,1,2,2],[kM,.int .i64,.int .i64,kK,.int .i64,.int .i64]⟩⟩ [((.exit 0),⟨[6],⟨[.hole],[],[2],[.int .i64]⟩⟩),(.ret,⟨[4,5],⟨[.hole,.hole],[],[2,2],[.int .i64,.bool]⟩⟩)] (lp qR zd)
theorem zww:UK zF9 (yQ (ze Tryz.f105) [1,1,0,1,0]) zCB:=qI .run zk zJX ob0
theorem zHb:SK 105 zDE:=zV (.seq .run (.seq .run (.seq (.seq .run (.block (.unit zCB))) .run))) [.tmp 4,.tmp 5] zc zk zuE Tryz.func105 (ob1 zww ob0)
def zzL:ShC:=⟨⟨[.hole,(.agg [.hole,.hole,.hole])],[],[1,1,1,1],[kM,kL,kK,kL]⟩,⟨[.hole],[],[2],[.bool]⟩,1,[],[],false,true,fun (x:(jS×jQ×jR×jQ))=>zaM x.1 x.2.1 x.2.2.1 x.2.2.2⟩
theorem znl:SK 42 zzL:=zV .run [.tmp 4] zc zk (gdG zE0 (gdG zH9 (gdG zHb za))) Tryz.func42 ob0
def zJT:ShC:=⟨⟨[(.agg [.hole,.hole,.hole]),.hole,.hole],[],[1,1,1,1,1],[kL,kK,kL,.int .i64,.bool]⟩,⟨[.hole],[],[2],[.bool]⟩,1,[],[],false,false,fun (x:(jQ×jR×jQ×Int×Bool))=>zbJ x.1 x.2.1 x.2.2.1 x.2.2.2.1 x.2.2.2.2⟩
theorem zvt:SK 89 zJT:=zV .run [.tmp 6] zc zk za Tryz.func89 ob0
def zIw:ShC:=⟨⟨[.nilv,.hole],[],[1],[.int .i64]⟩,⟨[(.view 0)],[.seq false],[2],[kL]⟩,1,[],[],false,false,fun (x:Int)=>zd2 x⟩
theorem zHX:SK 189 zIw:=zV .run [.tmp 4] zc zk (gd0 1000025 za) Tryz.func189 ob0
def zw9:ShC:=⟨⟨[.hole],[],[1],[.sl (.one kL)]⟩,⟨[(.view 0)],[.seq false],[0],[kL]⟩,1,[],[],true,false,fun (x:(List jQ))=>zbs x⟩
theorem zxY:GD zw9 [(189,.gen (yx [zIw]))]:=(gd1 zHX za)
def zEe:=zbo tb gl zxY zw9 Tryz.f140
theorem zGi:VK zEe:=zh zc zxY
def zA6:Un:=lpU 2 [28,29,30,8,31,32,33,6,34,27] ⟨[6,25,26,27],⟨[(.view 0),.hole,.hole,.hole],[.seq false],[1,2,2,0],[.sl (.one kL),.int .i64,.int .i64,kL]⟩⟩ [((.exit 2),⟨[6],⟨[(.view 0)],[.seq false],[0],[kL]⟩⟩)] (lp qF zd)
theorem zwJ:UK zEe (yQ (ze Tryz.f140) [1,1,1,1,0,1,0]) zA6:=qI .run zk zGi ob0
def zAX:Un:=lpU 2 [12,13,14,5,15,16,17,18,3,19,20,21,22,11] ⟨[0,3,9,10,11],⟨[.hole,.hole,.hole,.hole,.hole],[],[1,2,1,2,2],[.sl (.one kL),.int .i64,.sl (.one kL),.int .i64,.int .i64]⟩⟩ [((.exit 0),⟨[3],⟨[.hole],[],[2],[.int .i64]⟩⟩)] (lp qG zd)
theorem zwg:UK zEe (yQ (ze Tryz.f140) [1,1,0,1,0]) zAX:=qI .run zk zGi ob0
theorem zCu:SK 140 zw9:=zV (.seq .run (.seq .run (.seq (.seq .run (.block (.unit zAX))) (.seq .run (.seq (.seq .run (.block (.unit zA6))) .run))))) [.tmp 2] zc zk zxY Tryz.func140 (ob1 zwg (ob1 zwJ ob0))
def zKA:ShC:=⟨⟨[.hole],[],[1],[.int .i64]⟩,⟨[.hole],[],[2],[.bool]⟩,1,[],[],false,false,fun (x:Int)=>ziI x⟩
theorem zGb:SK 228 zKA:=zV .run [.tmp 2] zc zk za Tryz.func228 ob0
def zH8:ShC:=⟨⟨[.hole,.hole],[],[1,1],[.int .i64,.int .i64]⟩,⟨[.hole],[],[2],[.bool]⟩,1,[],[],false,false,fun (x:(Int×Int))=>zkx x.1 x.2⟩
theorem zFT:SK 218 zH8:=zV .run [.tmp 4] zc zk (gd1 zGb za) Tryz.func218 ob0
def zIm:ShC:=⟨⟨[.hole],[],[1],[.int .i64]⟩,⟨[.hole],[],[2],[.bool]⟩,1,[],[],false,false,fun (x:Int)=>zdG x⟩
theorem zG8:SK 219 zIm:=zV .run [.tmp 2] zc zk za Tryz.func219 ob0
def zz7:ShC:=⟨⟨[.hole,.hole],[],[1,1],[kJ,.int .i64]⟩,⟨[.hole,.hole],[],[2,2],[.int .i64,.bool]⟩,2,[],[],false,false,fun (x:(jI×Int))=>q6 x.1 x.2⟩
theorem zuZ:GD zz7 [(218,.gen (yx [zH8])),(219,.gen (yx [zIm]))]:=(gd1 zFT (gd1 zG8 za))
def zF4:=zbo tb gl zuZ zz7 Tryz.f199
theorem zKv:VK zF4:=zh zc zuZ
def zA8:Un:=lpU 2 [13,14,15,16,17,18,19,20,21,9,22,23,24,25,26,27,28,29,7,30,8] ⟨[0,1,6,7,8],⟨[.hole,.hole,.hole,.hole,.hole],[],[1,2,2,2,2],[kJ,.int .i64,.int .i64,.int .i64,.int .i64]⟩⟩ [((.exit 0),⟨[7],⟨[.hole],[],[2],[.int .i64]⟩⟩)] (lp yv zd)
theorem zyp:UK zF4 (yQ (ze Tryz.f199) [1,1,1,0,0]) zA8:=qI .run zk zKv ob0
theorem zHa:SK 199 zz7:=zV (.seq .run (.seq .run (.seq .run (.seq (.block (.unit zA8)) .run)))) [.tmp 4,.tmp 5] zc zk zuZ Tryz.func199 (ob1 zyp ob0)
def zmq:Go.Shelf.Ren:={ f:=fun x=>match x with | 21=>200 | 27=>220 | 28=>221 | 35=>229 | 39=>234 | n=>n,t:=fun x=>match x with | 22=>23 | 3=>3 | 4=>4 | 0=>0 | n=>n,g:=fun x=>x }
theorem zjQ:Go.Proofs.Lays2.n21 Tryz.prog zmq where
 mixed:=by kernel_rfl
 f21:=Tryz.func200.trans (by kernel_rfl)
 f27:=Tryz.func220.trans (by kernel_rfl)
 f28:=Tryz.func221.trans (by kernel_rfl)
 f35:=Tryz.func229.trans (by kernel_rfl)
 f39:=Tryz.func234.trans (by kernel_rfl)
 t0:=Tryz.underlying0
 a0:=Tryz.isAgg0
 z0:=Tryz.sizeOf0
 v0:=Tryz.zeroValue0
 t3:=Tryz.underlying3
 a3:=Tryz.isAgg3
 z3:=Tryz.sizeOf3
 v3:=Tryz.zeroValue3
 t4:=Tryz.underlying4
 a4:=Tryz.isAgg4
 z4:=Tryz.sizeOf4
 v4:=Tryz.zeroValue4
 t22:=Tryz.underlying23
 a22:=Tryz.isAgg23
 z22:=Tryz.sizeOf23
 v22:=Tryz.zeroValue23
 i3:=by kernel_rfl
def zG0:ShC:=insC
theorem zFY:SK 200 zG0 :=
 zwq (code:=ze Tryz.f200) Tryz.func200 (by kernel_rfl) (by kernel_rfl) zjQ rfl
def zy8:ShC:=⟨⟨[(.view 0),.hole],[.seq false],[1,1],[kJ,kJ]⟩,⟨[(.view 0)],[.seq false],[0],[kJ]⟩,1,[],[],true,false,fun (x:(jI×jI))=>zb4 x.1 x.2⟩
theorem zuL:GD zy8 [(55,.gen (yx [zGS])),(199,.gen (yx [zz7])),(200,.gen (yx [zG0]))]:=(gd1 zqR (gd1 zHa (gd1 zFY za)))
def zIi:=zbo tb gl zuL zy8 Tryz.f163
theorem zJu:VK zIi:=zh zc zuL
def zBa:Un:=lpU 2 [12,13,14,6,15,16,18,19,20,21,17,22,23,7,8,24,25,26,27,28,29,30,31,0,32,11] ⟨[0,9,10,11],⟨[(.view 0),.hole,.hole,.hole],[.seq false],[1,2,2,0],[kJ,.int .i64,.int .i64,kJ]⟩⟩ [((.exit 0),⟨[0],⟨[(.view 0)],[.seq false],[0],[kJ]⟩⟩)] (lp zbi zd)
theorem zxU:UK zIi (yQ (ze Tryz.f163) [1,0,1,0]) zBa:=qI .run zk zJu ob0
theorem zGO:SK 163 zy8:=zV (.seq .run (.seq (.seq .run (.block (.unit zBa))) .run)) [.tmp 4] zc zk zuL Tryz.func163 (ob1 zxU ob0)
def zEc:ShC:=⟨⟨[.hole,(.agg [.hole,.hole,.hole])],[],[1,1,1,1],[kM,kL,kK,kL]⟩,⟨[(.view 0),.hole],[.seq false],[2,0],[.int .i64,kJ]⟩,2,[],[],true,true,fun (x:(jS×jQ×jR×jQ))=>yV x.1 x.2.1 x.2.2.1 x.2.2.2⟩
theorem zyf:GD zEc [(42,.gen (yx [zzL])),(140,.gen (yx [zw9])),(163,.gen (yx [zy8]))]:=(gdG znl (gd1 zCu (gd1 zGO za)))
def zDw:=zbo tb gl zyf zEc Tryz.f107
theorem zIV:VK zDw:=zh zc zyf
def zAY:Un:=lpU 2 [35,36,37,10,38,39,40,6,41,34] ⟨[6,32,33,34],⟨[(.view 0),.hole,.hole,.hole],[.seq false],[1,2,2,0],[kK,.int .i64,.int .i64,kJ]⟩⟩ [((.exit 2),⟨[6],⟨[(.view 0)],[.seq false],[0],[kJ]⟩⟩)] (lp zbg zd)
theorem zwt:UK zDw (yQ (ze Tryz.f107) [1,1,1,1,0,1,0]) zAY:=qI .run zk zIV ob0
def zBP:Un:=lpU 2 [23,24,25,8,26,27,28,29,6,30,22] ⟨[3,6,20,21,22],⟨[(.ptr 0 0),(.view 1),.hole,.hole,.hole],[.cells true [.hole,.hole,.hole],.seq false],[0,2,2,1,1,1,0],[kL,.int .i64,.int .i64,kL,kK,kL,kJ]⟩⟩ [((.exit 0),⟨[6],⟨[(.view 0)],[.seq false],[0],[kJ]⟩⟩)] (lp zbc zd)
theorem zu3:UK zDw (yQ (ze Tryz.f107) [1,1,1,0,1,0]) zBP:=qI .run zk zIV ob0
theorem zIr:SK 107 zEc:=zV (.seq .run (.seq .run (.seq .run (.seq (.seq .run (.block (.unit zBP))) (.seq (.seq .run (.block (.unit zAY))) .run))))) [.tmp 4,.tmp 5] zc zk zyf Tryz.func107 (ob1 zu3 (ob1 zwt ob0))
def zKf:ShC:=⟨⟨[.hole],[],[1],[.ns kI]⟩,⟨[(.view 0)],[.seq false],[2],[kJ]⟩,1,[],[],false,false,fun (x:(Option jI))=>zgB x⟩
theorem zGx:SK 115 zKf:=zV .run [.tmp 2] zc zk za Tryz.func115 ob0
def zKI:ShC:=⟨⟨[.nilv],[],[],[]⟩,⟨[(.view 0)],[.seq false],[2],[kJ]⟩,1,[],[],false,false,fun (_:Unit)=>zml⟩
theorem zIe:SK 115 zKI:=zV .run [.tmp 2] zc zk za Tryz.func115 ob0
def zzv:ShC:=⟨⟨[.hole],[],[1],[kJ]⟩,⟨[(.view 0)],[.seq false],[2],[kJ]⟩,1,[],[],false,false,fun (x:jI)=>zbz x⟩
theorem zuy:SK 115 zzv :=
 zH1 zIe zGx fun xs y h=>⟨h,fun e=>by subst e; exact h⟩
def zzg:ShC:=⟨⟨[.hole,(.ptr 0 0)],[.cells true [.hole]],[1,1],[kJ,.int .i64]⟩,⟨[(.view 0)],[.seq false],[2],[kJ]⟩,1,[],[],false,false,fun (x:(jI×Int))=>yY x.1 x.2⟩
theorem zt5:GD zzg [(115,.gen (yx [zzv]))]:=(gd1 zuy za)
def zF3:=zbo tb gl zt5 zzg Tryz.f216
theorem zKi:VK zF3:=zh zc zt5
def zCE:Un:=lpU 2 [12,13,14,15,5,6,16,17,18,19,20,21,22,23,24,11] ⟨[1,4,9,10,11],⟨[(.ptr 0 0),(.view 1),(.view 1),.hole,.hole],[.cells true [.hole],.seq false],[2,2,2,2],[.int .i64,.int .i64,.int .i64,kJ]⟩⟩ [((.exit 0),⟨[4],⟨[(.view 0)],[.seq false],[2],[kJ]⟩⟩)] (lp yZ zd)
theorem zvv:UK zF3 (yQ (ze Tryz.f216) [1,1,0,1,0]) zCE:=qI .run zk zKi ob0
theorem zIK:SK 216 zzg:=zV (.seq .run (.seq .run (.seq (.seq .run (.block (.unit zCE))) .run))) [.tmp 3] zc zk zt5 Tryz.func216 (ob1 zvv ob0)
def zDG:ShC:=⟨⟨[(.agg [.hole,.hole,.hole]),(.clo 216 [(.ptr 0 0)])],[.cells true [.hole]],[1,1,1,1],[kL,kK,kL,.int .i64]⟩,⟨[(.agg [(.view 0),(.view 1),(.view 2)])],[.seq false,.seq false,.seq false],[2,2,2],[kL,kK,kL]⟩,1,[],[],false,false,fun (x:(jQ×jR×jQ×Int))=>zfz x.1 x.2.1 x.2.2.1 x.2.2.2⟩
theorem zwR:GD zDG [(216,.gen (yx [zzg]))]:=(gd1 zIK za)
def zAH:=zbo tb gl zwR zDG Tryz.f170
theorem zFA:VK zAH:=zh zc zwR
def zBY:Un:=lpU 2 [52,53,54,11,55,56,57,58,59,60,61,62,63,64,65,66,67,51] ⟨[1,4,5,49,50,51],⟨[(.clo 216 [(.ptr 0 0)]),(.ptr 1 0),(.ptr 2 0),.hole,.hole,.hole],[.cells true [.hole],.cells true [.nilv,.nilv,.nilv],.cells false [(.view 3),(.view 4),(.view 5)],.seq false,.seq false,.seq false],[1,2,2,2,2,2,2],[kL,.int .i64,.int .i64,.int .i64,kL,kK,kL]⟩⟩ [((.exit 4),⟨[5],⟨[(.ptr 0 0)],[.cells false [(.view 1),(.view 2),(.view 3)],.seq false,.seq false,.seq false],[2,2,2],[kL,kK,kL]⟩⟩)] (lp zaf zd)
theorem zxW:UK zAH (yQ (ze Tryz.f170) [1,1,1,1,0,1,0]) zBY:=qI .run zk zFA ob0
def zBS:Un:=lpU 2 [36,37,38,9,39,40,41,42,43,44,45,46,47,35] ⟨[1,2,4,5,33,34,35],⟨[(.clo 216 [(.ptr 0 0)]),(.ptr 1 0),(.ptr 2 0),(.ptr 3 0),.hole,.hole,.hole],[.cells true [.hole],.cells true [.hole,.hole,.hole],.cells true [.nilv,.nilv,.nilv],.cells false [(.view 4),(.view 5),.nilv],.seq false,.seq false],[1,2,2,2,1,1,1,2,2],[kK,.int .i64,.int .i64,.int .i64,kL,kK,kL,kL,kK]⟩⟩ [((.exit 2),⟨[5],⟨[(.ptr 0 0)],[.cells false [(.view 1),(.view 2),.nilv],.seq false,.seq false],[2,2],[kL,kK]⟩⟩)] (lp zar zd)
theorem zyr:UK zAH (yQ (ze Tryz.f170) [1,1,1,0,1,0]) zBS:=qI .run zk zFA ob0
def zCO:Un:=lpU 2 [16,17,18,7,19,20,21,22,23,24,25,26,27,28,29,30,31,15] ⟨[1,2,4,5,13,14,15],⟨[(.clo 216 [(.ptr 0 0)]),(.ptr 1 0),(.ptr 2 0),(.ptr 3 0),.hole,.hole,.hole],[.cells true [.hole],.cells true [.hole,.hole,.hole],.cells true [.nilv,.nilv,.nilv],.cells false [(.view 4),.nilv,.nilv],.seq false],[1,2,2,2,1,1,1,2],[kL,.int .i64,.int .i64,.int .i64,kL,kK,kL,kL]⟩⟩ [((.exit 0),⟨[5],⟨[(.ptr 0 0)],[.cells false [(.view 1),.nilv,.nilv],.seq false],[2],[kL]⟩⟩)] (lp zaq zd)
theorem zv7:UK zAH (yQ (ze Tryz.f170) [1,1,0,1,0]) zCO:=qI .run zk zFA ob0
theorem zF6:SK 170 zDG:=zV (.seq .run (.seq .run (.seq (.seq .run (.block (.unit zCO))) (.seq (.seq .run (.block (.unit zBS))) (.seq (.seq .run (.block (.unit zBY))) .run))))) [.cell 4 29] zc zk zwR Tryz.func170 (ob1 zv7 (ob1 zyr (ob1 zxW ob0)))
def zKo:ShC:=⟨⟨[(.agg [.hole,.hole,.hole]),.hole],[],[1,1,1,1],[kL,kK,kL,.int .i64]⟩,⟨[(.agg [(.view 0),(.view 1),(.view 2)])],[.seq false,.seq false,.seq false],[2,2,2],[kL,kK,kL]⟩,1,[],[],false,false,fun (x:(jQ×jR×jQ×Int))=>zz x.1 x.2.1 x.2.2.1 x.2.2.2⟩
theorem zIo:SK 192 zKo:=zV .run [.cell 4 29] zc zk (gd1 zF6 za) Tryz.func192 ob0
def zKM:ShC:=⟨⟨[.hole,(.agg [.hole,.hole,.hole]),(.agg [.hole,.hole,.hole])],[],[1,1,1,1,1,1,1],[kM,kL,kK,kL,kL,kK,kL]⟩,⟨[(.agg [(.view 0),(.view 1),(.view 2)]),.hole],[.seq false,.seq false,.seq false],[2,2,2,2],[.bool,kL,kK,kL]⟩,2,[],[],false,true,fun (x:(jS×jQ×jR×jQ×jQ×jR×jQ))=>zcO x.1 x.2.1 x.2.2.1 x.2.2.2.1 x.2.2.2.2.1 x.2.2.2.2.2.1 x.2.2.2.2.2.2⟩
theorem zGY:SK 149 zKM:=zV .run [.cell 6 29,.tmp 7] zc zk (gdG zIr (gd1 zIo za)) Tryz.func149 ob0
def zxC:ShC:=⟨⟨[.hole,.hole],[],[1,1],[kM,kJ]⟩,⟨[(.view 0)],[.seq false],[0],[kK]⟩,1,[],[],true,false,fun (x:(jS×jI))=>za1 x.1 x.2⟩
theorem zv6:GD zxC [(151,.gen (yx [zw2]))]:=(gd1 zsb za)
def zHF:=zbo tb gl zv6 zxC Tryz.f175
theorem zJ8:VK zHF:=zh zc zv6
def zBN:Un:=lpU 2 [9,10,11,12,14,15,16,17,13,18,19,7,8,20,21,22,4,23,24,25,26,27,28,29,5,30,6] ⟨[0,1,5,6],⟨[.hole,.hole,(.view 0),.hole],[.seq false],[1,1,2,0],[kM,kJ,.int .i64,kK]⟩⟩ [((.exit 0),⟨[5],⟨[(.view 0)],[.seq false],[0],[kK]⟩⟩),(.ret,⟨[4],⟨[(.view 0)],[.seq false],[0],[kK]⟩⟩)] (lp zbN zd)
theorem zwu:UK zHF (yQ (ze Tryz.f175) [1,1,0,1,0]) zBN:=qI .run zk zJ8 ob0
theorem zrD:SK 175 zxC:=zV (.seq .run (.seq .run (.seq (.seq .run (.block (.unit zBN))) .run))) [.tmp 4] zc zk zv6 Tryz.func175 (ob1 zwu ob0)
def zKp:ShC:=⟨⟨[.hole,.hole],[],[1,1],[kM,kJ]⟩,⟨[(.view 0)],[.seq false],[0],[kK]⟩,1,[],[],true,false,fun (x:(jS×jI))=>zcK x.1 x.2⟩
theorem zBK:SK 150 zKp:=zV .run [.tmp 4] zc zk (gd1 zrD za) Tryz.func150 ob0
def zAE:ShC:=⟨⟨[(.ptr 0 0),(.view 1),(.agg [.hole,.hole]),(.agg [.hole,.hole])],[.cells true [.hole,.hole],.seq false],[1,1,1,1,1,1,1],[kJ,.int .i64,kJ,.int .i64,kM,.ar (.cons (.ns kI) kI) 48,.sl (.cons kJ (.cons kZ (.cons kJ kI)))]⟩,⟨[(.view 0)],[.seq false],[0],[.sl (.cons kJ (.cons kZ (.cons kJ kI)))]⟩,1,[],[],true,false,fun (x:(jI×Int×jI×Int×jS×(List ((Option jI)×Int))×(List (jI×Int×jI×Int))))=>qi x.1 x.2.1 x.2.2.1 x.2.2.2.1 x.2.2.2.2.1 x.2.2.2.2.2.1 x.2.2.2.2.2.2⟩
theorem zxs:GD zAE [(175,.gen (yx [zxC]))]:=(gd1 zrD za)
def zHB:=zbo tb gl zxs zAE Tryz.f210
theorem zJO:VK zHB:=zh zc zxs
def zAN:Un:=lpU 2 [29,30,11,31,32,33,34,35,36,37,38,39,40,41,42,43,44,45,46,47,48,1,49,28] ⟨[1,6,7,9,10,27,28],⟨[(.view 0),(.ptr 1 0),(.ptr 2 0),.hole,.hole,.hole,.hole],[.seq false,.cells true [.hole,.hole],.cells true [.hole,.hole]],[0,0,2,2,0,1,2,1,2],[kK,kK,.int .i64,.int .i64,.sl (.cons kJ (.cons kZ (.cons kJ kI))),kJ,.int .i64,kJ,.int .i64]⟩⟩ [((.exit 0),⟨[1],⟨[(.view 0)],[.seq false],[0],[.sl (.cons kJ (.cons kZ (.cons kJ kI)))]⟩⟩)] (lp y5 zd)
theorem zuf:UK zHB (yQ (ze Tryz.f210) [1,1,0,1,0]) zAN:=qI .run zk zJO ob0
theorem zGo:SK 210 zAE:=zV (.seq .run (.seq .run (.seq (.seq .run (.block (.unit zAN))) .run))) [.tmp 8] zc zk zxs Tryz.func210 (ob1 zuf ob0)
def zEd:ShC:=⟨⟨[(.agg [.hole,.hole]),.hole],[],[1,1,1],[kJ,.int .i64,.int .i64]⟩,⟨[.hole],[],[2],[.int .i64]⟩,1,[],[],false,false,fun (x:(jI×Int×Int))=>yt x.1 x.2.1 x.2.2⟩
theorem zum:SK 213 zEd:=zV .run [.tmp 4] zc zk (gd1 zqR za) Tryz.func213 ob0
def zz6:ShC:=⟨⟨[(.ptr 0 0),(.agg [.hole,.hole])],[.cells true [.hole,.hole]],[1,1,1,1],[kJ,.int .i64,kM,.ar (.cons (.ns kI) kI) 48]⟩,⟨[(.agg [.hole,.hole])],[],[1,2],[kJ,.int .i64]⟩,1,[],[],true,false,fun (x:(jI×Int×jS×(List ((Option jI)×Int))))=>zaD x.1 x.2.1 x.2.2.1 x.2.2.2⟩
theorem zvC:GD zz6 [(213,.gen (yx [zEd]))]:=(gd1 zum za)
def zHh:=zbo tb gl zvC zz6 Tryz.f211
theorem zKX:VK zHh:=zh zc zvC
def zBZ:Un:=lpU 2 [6,7,8,9,10,11,12,13,14,15,16,17,18,19,20,21,5,22,23,24,25] ⟨[0,3,4],⟨[(.ptr 0 0),(.ptr 1 0),(.ptr 2 0)],[.cells true [.hole,.hole],.cells false [.hole,.hole],.cells true [.nilv,.hole]],[1,1,1,2,2],[kM,.ar (.cons (.ns kI) kI) 48,kJ,.int .i64,.int .i64]⟩⟩ [((.exit 0),⟨[3],⟨[(.ptr 0 0)],[.cells false [.hole,.hole]],[1,2],[kJ,.int .i64]⟩⟩)] (lp zaP zd)
theorem zuG:UK zHh (yQ (ze Tryz.f211) [1,0,0]) zBZ:=qI .run zk zKX ob0
theorem zHl:SK 211 zz6:=zV (.seq .run (.seq (.block (.unit zBZ)) .run)) [.cell 4 198] zc zk zvC Tryz.func211 (ob1 zuG ob0)
def zFw:ShC:=⟨⟨[(.ptr 0 0),.hole,(.agg [.hole,.hole])],[.cells true [.hole,.hole]],[1,1,1,1,1],[.int .i64,kJ,.int .i64,kM,.ar (.cons (.ns kI) kI) 48]⟩,⟨[.hole],[],[2],[.bool]⟩,1,[],[],false,false,fun (x:(Int×jI×Int×jS×(List ((Option jI)×Int))))=>zbU x.1 x.2.1 x.2.2.1 x.2.2.2.1 x.2.2.2.2⟩
theorem zwj:GD zFw [(213,.gen (yx [zEd])),(1000027,.gen (yx []))]:=(gd1 zum (gd0 1000027 za))
def zEv:=zbo tb gl zwj zFw Tryz.f226
theorem zHS:VK zEv:=zh zc zwj
def zC6:Un:=lpU 2 [32,33,34,10,35,36,37,38,39,11,40,41,42,6,43,44,45,46,47,48,49,50,51,52,53,54,55,56,57,58,59,60,61,62,63,64,65,66,67,8,68,31] ⟨[0,1,5,7,8,29,30,31],⟨[(.ptr 0 0),.hole,(.ptr 1 0),(.aptr 2),(.view 3),.hole,.hole,.hole],[.cells true [.hole,.hole],.cells true [.hole,.hole],.seq false,.seq false],[2,0,2,2,1,1,0,2,2,0],[.int .i64,kJ,.int .i64,.int .i64,kM,.ar (.cons (.ns kI) kI) 48,kJ,.int .i64,.sl (.one .bool),.sl (.cons kJ kI)]⟩⟩ [((.exit 2),⟨[7,8],⟨[(.aptr 0),(.view 1)],[.seq false,.seq false],[2,0],[.sl (.one .bool),.sl (.cons kJ kI)]⟩⟩),(.ret,⟨[6],⟨[.hole],[],[2],[.bool]⟩⟩)] (lp qj zd)
theorem zt1:UK zEv (yQ (ze Tryz.f226) [1,1,1,0,0,0,1,0,1,1,1,0]) zC6:=qI .run zk zHS ob0
def zBl:Un:=lpU 2 [14,15,16,17,18,19,20,21,22,23,24,25,26,27,8,28,29,30,31,32,33,34,10,35,36,37,38,39,11,40,41,42,6,43,44,45,46,47,48,49,50,51,52,53,54,55,56,57,58,59,60,61,62,63,64,65,66,67,8,68,31] ⟨[0,1,5,7,8],⟨[(.ptr 0 0),.hole,(.ptr 1 0),(.aptr 2),(.view 3)],[.cells true [.hole,.hole],.cells false [.hole,.hole],.seq false,.seq false],[2,1,1,0,2,2,0],[.int .i64,kM,.ar (.cons (.ns kI) kI) 48,kJ,.int .i64,.sl (.one .bool),.sl (.cons kJ kI)]⟩⟩ [((.exit 0),⟨[],⟨[],[],[],[]⟩⟩),(.ret,⟨[6],⟨[.hole],[],[2],[.bool]⟩⟩)] (lp qU zd)
theorem zwk:UK zEv (yQ (ze Tryz.f226) [1,1,1,0,0]) zBl:=qI (.seq .run (.block (.seq .run (.seq .run (.seq .run (.block (.unit zC6))))))) zk zHS (ob1 zt1 ob0)
theorem zI5:SK 226 zFw:=zV (.seq .run (.seq .run (.seq .run (.seq (.block (.unit zBl)) .run)))) [.tmp 6] zc zk zwj Tryz.func226 (ob1 zwk ob0)
def zHr:ShC:=⟨⟨[(.ptr 0 0),(.agg [.hole,.hole]),(.agg [.hole,.hole])],[.cells false [.hole,.hole]],[1,1,1,1,1,1],[kJ,.int .i64,kJ,.int .i64,kM,.ar (.cons (.ns kI) kI) 48]⟩,⟨[.hole,(.ptr 0 0)],[.cells false [.hole,.hole]],[2,1,0],[.bool,kM,.ar (.cons (.ns kI) kI) 48]⟩,1,[0],[(0,0)],true,false,fun (x:(jI×Int×jI×Int×jS×(List ((Option jI)×Int))))=>y0 x.1 x.2.1 x.2.2.1 x.2.2.2.1 x.2.2.2.2.1 x.2.2.2.2.2⟩
theorem zHp:SK 212 zHr:=zV .run [.tmp 6] zc zk (gd1 zum (gd1 zI5 za)) Tryz.func212 ob0
def zzd:ShC:=⟨⟨[(.ptr 0 0),(.agg [.hole,.hole]),(.agg [.hole,.hole])],[.cells false [.hole,.hole]],[1,1,1,1,1,1],[kJ,.int .i64,kJ,.int .i64,kM,.ar (.cons (.ns kI) kI) 48]⟩,⟨[.hole,(.ptr 0 0)],[.cells false [.hole,.hole]],[2,0,0],[.bool,kM,.ar (.cons (.ns kI) kI) 48]⟩,1,[0],[(0,0)],true,false,fun (x:(jI×Int×jI×Int×jS×(List ((Option jI)×Int))))=>zak x.1 x.2.1 x.2.2.1 x.2.2.2.1 x.2.2.2.2.1 x.2.2.2.2.2⟩
theorem zuO:GD zzd [(210,.gen (yx [zAE])),(211,.gen (yx [zz6])),(212,.gen (yx [zHr])),(1000039,.gen (yx []))]:=(gd1 zGo (gd1 zHl (gd1 zHp (gd0 1000039 za))))
def zEE:=zbo tb gl zuO zzd Tryz.f184
theorem zJy:VK zEE:=zh zc zuO
def zC5:Un:=scU zEE [10,11,12,13,7,14,15,16,6,17,18,19,20,21,22,23,24,25,26,27,28,29,30,31,32,33,34,8,9,35,36,37,38,39,7,41,42,43,44,45,40,46,47,48,49,6,51,52,53,54,55,50,56,57,58,59,6,61,62,63,64,65,66,67,68,69,60,6,70,71,72,73,74,75,76,77,78,79,80,81,82,83,84,7] [(.goto 0,⟨[0,7],⟨[(.ptr 0 0),(.view 1)],[.cells false [.hole,.hole],.seq false],[0,0,0],[kM,.ar (.cons (.ns kI) kI) 48,.sl (.cons kJ (.cons kZ (.cons kJ kI)))]⟩⟩)] [(.ret,⟨[0,6],⟨[(.ptr 0 0),.hole],[.cells false [.hole,.hole]],[2,0,0],[.bool,kM,.ar (.cons (.ns kI) kI) 48]⟩⟩)] (zrH (yQ (ze Tryz.f184) [1])) .run (lp zv zd)
theorem zwp:UK zEE (yQ (ze Tryz.f184) [1]) zC5:=zJp [] zk zJy ob0 zJk
theorem zHP:SK 184 zzd:=zV (.seq .run (.unit zC5)) [.tmp 6] zc zk zuO Tryz.func184 (ob1 zwp ob0)
def zHA:ShC:=⟨⟨[(.agg [.hole,.hole]),.hole],[],[1,1,1],[.ns kI,.int .i64,.int .i64]⟩,⟨[.hole],[],[2],[.int .i64]⟩,1,[],[],false,false,fun (x:((Option jI)×Int×Int))=>qK x.1 x.2.1 x.2.2⟩
theorem zJa:SK 213 zHA:=zV .run [.tmp 4] zc zk (gd1 zqR za) Tryz.func213 ob0
def zpJ (k:Nat):ShC:=⟨⟨[(.ptr 0 0),(.agg [.hole,.hole])],[.cells true [.hole,.hole]],[1,1,1,1],[.ns kI,.int .i64,kM,.ar (.cons (.ns kI) kI) 48]⟩,⟨[.hole],[],[2],[.ns kI]⟩,1,[],[],false,false,(qh k)⟩
def zGd:ShC:=⟨⟨[(.ptr 0 0),(.agg [.hole,.hole])],[.cells true [.hole,.hole]],[1,1,1,1],[.ns kI,.int .i64,kM,.ar (.cons (.ns kI) kI) 48]⟩,⟨[.hole],[],[2],[.ns kI]⟩,1,[],[],false,false,fun (x:((Option jI)×Int×jS×(List ((Option jI)×Int))))=>zer x.1 x.2.1 x.2.2.1 x.2.2.2⟩
def zll (k:Nat):Prop:=SK 185 (zpJ k)
def zI8 (k:Nat):List (Nat×Con):=[(185,.gen (yx [zpJ k])),(213,.gen (yx [zHA]))]
theorem zBp (k:Nat) (h:zll k):GD (zpJ (k+1)) (zI8 k):=(gd1 h (gd1 zJa za))
def zHn (k:Nat):Env:=zgl tb gl (zI8 k) (zpJ (k+1)) Tryz.f185.ntmps
theorem zKw (k:Nat) (h:zll k):VK (zHn k):=zh zc (zBp k h)
def zC9 (k:Nat):Un:=lpU 2 [13,14,15,7,16,17,8,18,19,20,21,22,23,24,25,26,27,28,29,30,31,32,33,34,35,36,37,38,39,40,41,8,42,43,44,45,46,47,48,49,50,51,4,52,53,54,5,55,12] ⟨[0,3,5,10,11,12],⟨[(.ptr 0 0),(.ptr 1 0),(.view 2),.hole,.hole,.hole],[.cells true [.hole,.hole],.cells true [.hole,.hole],.seq false],[1,2,2,1,1,1,2,2],[.ns kI,.int .i64,.int .i64,kM,.ar (.cons (.ns kI) kI) 48,.ns kI,.int .i64,kJ]⟩⟩ [((.exit 0),⟨[5],⟨[(.view 0)],[.seq false],[2],[kJ]⟩⟩),(.ret,⟨[4],⟨[.nilv],[],[],[]⟩⟩)] (lp (yp (qh k)) zd)
theorem zw3 (k:Nat) (h:zll k):UK (zHn k) (yQ (ze Tryz.f185) [1,1,0,1,0]) (zC9 k):=qI .run zk (zKw k h) ob0
theorem zDu (k:Nat) (h:zll k):SK 185 (zpJ (k+1)):=zV (.seq .run (.seq .run (.seq (.seq .run (.block (.unit (zC9 k)))) .run))) [.tmp 4] zc zk (zBp k h) Tryz.func185 (ob1 (zw3 k h) ob0)
theorem zor:∀ k,zll k
 | 0=>zjG (by kernel_rfl) fun _=>rfl
 | k+1=>have h:=zor k; zDu k h
theorem zFZ:SK 185 zGd:=(zor zd)
def zFD:ShC:=⟨⟨[.hole,.hole,.hole],[],[1,1,1],[kM,kJ,kJ]⟩,⟨[(.view 0),.hole,.hole],[.seq false],[2,2,2],[.bool,.int .i64,.sl (.cons kZ kR)]⟩,3,[],[],false,true,fun (x:(jS×jI×jI))=>zcZ x.1 x.2.1 x.2.2⟩
theorem zuA:GD zFD [(115,.gen (yx [zzv])),(162,.gen (yx [zDM])),(184,.gen (yx [zzd])),(185,.gen (yx [zGd]))]:=(gd1 zuy (gdG zBb (gd1 zHP (gd1 zFZ za))))
def zJd:=zbo tb gl zuA zFD Tryz.f135
theorem zKV:VK zJd:=zh zc zuA
def zAT:Un:=lpU 2 [51,52,15,53,54,55,56,57,58,59,60,61,62,63,64,65,66,67,68,16,69,70,6,7,8,71,72,73,74,75,76,77,14,78,50] ⟨[13,14,50],⟨[(.ptr 0 0),(.view 1),.hole],[.cells true [.hole,.hole],.seq false],[2,0,0,2],[.int .i64,kM,.ar (.cons (.ns kI) kI) 48,.sl (.cons kZ kR)]⟩⟩ [((.exit 0),⟨[14],⟨[(.view 0)],[.seq false],[2],[.sl (.cons kZ kR)]⟩⟩),(.ret,⟨[6,7,8],⟨[.nilv,.hole,.hole],[],[2,2],[.bool,.int .i64]⟩⟩)] (lp zax zd)
theorem zuu:UK zJd (yQ (ze Tryz.f135) [1,1,1,1,1,1,1,0,1,0]) zAT:=qI .run zk zKV ob0
theorem zCs:SK 135 zFD:=zV (.seq .run (.seq .run (.seq .run (.seq .run (.seq .run (.seq .run (.seq .run (.seq (.seq .run (.block (.unit zAT))) .run)))))))) [.tmp 6,.tmp 7,.tmp 8] zc zk zuA Tryz.func135 (ob1 zuu ob0)
def zzE:ShC:=⟨⟨[.hole,.hole],[],[1,1],[.sl (.cons kZ kR),.int .i64]⟩,⟨[.hole],[],[0],[.ns kI]⟩,1,[],[],true,false,fun (x:((List (Int×jI))×Int))=>zgx x.1 x.2⟩
theorem zuj:GD zzE []:=za
def zHG:=zbo tb gl zuj zzE Tryz.f194
theorem zJY:VK zHG:=zh zc zuj
def zCM:Un:=lpU 2 [10,11,12,6,13,14,15,16,17,18,4,19,9] ⟨[1,7,8,9],⟨[.hole,.hole,.hole,.hole],[],[2,1,2,2],[.int .i64,.sl (.cons kZ kR),.int .i64,.int .i64]⟩⟩ [((.exit 0),⟨[],⟨[],[],[],[]⟩⟩),(.ret,⟨[4],⟨[.hole],[],[1],[kJ]⟩⟩)] (lp zck zd)
theorem zyB:UK zHG (yQ (ze Tryz.f194) [1,0,1,0]) zCM:=qI .run zk zJY ob0
theorem zHC:SK 194 zzE:=zV (.seq .run (.seq (.seq .run (.block (.unit zCM))) .run)) [.tmp 4] zc zk zuj Tryz.func194 (ob1 zyB ob0)
def zDs:ShC:=⟨⟨[.hole,.hole],[],[1,1],[.sl (.cons kZ kR),kJ]⟩,⟨[(.view 0)],[.seq false],[2],[kJ]⟩,1,[],[],false,false,fun (x:((List (Int×jI))×jI))=>zjt x.1 x.2⟩
theorem zx0:GD zDs [(55,.gen (yx [zGS])),(194,.gen (yx [zzE]))]:=(gd1 zqR (gd1 zHC za))
def zGy:=zbo tb gl zx0 zDs Tryz.f152
theorem zKS:VK zGy:=zh zc zx0
def zBw:Un:=lpU 2 [12,13,14,7,15,16,17,18,8,19,20,21,22,23,24,25,26,27,28,5,29,30,31,5,32,11] ⟨[0,5,9,10,11],⟨[.hole,(.view 0),.hole,.hole,.hole],[.seq false],[1,1,2,2,2],[.sl (.cons kZ kR),kJ,.int .i64,.int .i64,kJ]⟩⟩ [((.exit 0),⟨[5],⟨[(.view 0)],[.seq false],[2],[kJ]⟩⟩)] (lp zd7 zd)
theorem zue:UK zGy (yQ (ze Tryz.f152) [1,1,0,1,0]) zBw:=qI .run zk zKS ob0
theorem zBv:SK 152 zDs:=zV (.seq .run (.seq .run (.seq (.seq .run (.block (.unit zBw))) .run))) [.tmp 4] zc zk zx0 Tryz.func152 (ob1 zue ob0)
def zJS:ShC:=⟨⟨[.hole,.hole],[],[1,1],[kM,kJ]⟩,⟨[.hole],[],[2],[.bool]⟩,1,[],[],false,true,fun (x:(jS×jI))=>zen x.1 x.2⟩
theorem zHH:SK 100 zJS:=zV .run [.tmp 4] zc zk (gdG zxG za) Tryz.func100 ob0
def zzw:ShC:=⟨⟨[.hole,.hole],[],[1,1],[kJ,kJ]⟩,⟨[.hole],[],[2],[.bool]⟩,1,[],[],false,false,fun (x:(jI×jI))=>yq x.1 x.2⟩
theorem zx8:GD zzw []:=za
def zGN:=zbo tb gl zx8 zzw Tryz.f102
theorem zKa:VK zGN:=zh zc zx8
def zCZ:Un:=lpU 2 [14,15,5,16,17,18,19,20,21,22,23,24,4,25,13] ⟨[0,1,12,13],⟨[.hole,.hole,.hole,.hole],[],[1,1,2,2],[kJ,kJ,.int .i64,.int .i64]⟩⟩ [((.exit 0),⟨[],⟨[],[],[],[]⟩⟩),(.ret,⟨[4],⟨[.hole],[],[2],[.bool]⟩⟩)] (lp zaO zd)
theorem zwO:UK zGN (yQ (ze Tryz.f102) [1,1,0,1,0]) zCZ:=qI .run zk zKa ob0
theorem zmN:SK 102 zzw:=zV (.seq .run (.seq .run (.seq (.seq .run (.block (.unit zCZ))) .run))) [.tmp 4] zc zk zx8 Tryz.func102 (ob1 zwO ob0)
def zyR:ShC:=⟨⟨[.hole],[],[1],[kJ]⟩,⟨[.hole],[],[2],[.ar kI 24]⟩,1,[],[],false,false,fun (x:jI)=>zed x⟩
theorem zvA:GD zyR [(55,.gen (yx [zGS]))]:=(gd1 zqR za)
def zGV:=zbo tb gl zvA zyR Tryz.f198
theorem zJ9:VK zGV:=zh zc zvA
def zDd:Un:=lpU 2 [8,9,10,4,11,12,13,14,15,16,17,18,19,7] ⟨[2,5,6,7],⟨[(.aptr 0),.hole,.hole,.hole],[.seq false],[1,2,2,2],[kJ,.int .i64,.int .i64,kJ]⟩⟩ [((.exit 0),⟨[2],⟨[(.aptr 0)],[.seq false],[2],[kJ]⟩⟩)] (lp za8 zd)
theorem zxl:UK zGV (yQ (ze Tryz.f198) [1,0,1,0]) zDd:=qI .run zk zJ9 ob0
theorem zIL:SK 198 zyR:=zV (.seq .run (.seq (.seq .run (.block (.unit zDd))) .run)) [.cell 2 178] zc zk zvA Tryz.func198 (ob1 zxl ob0)
def zAs:ShC:=⟨⟨[.hole,.hole],[],[1,1],[kJ,kJ]⟩,⟨[.hole],[],[2],[.bool]⟩,1,[],[],false,false,fun (x:(jI×jI))=>zeO x.1 x.2⟩
theorem zxX:GD zAs [(198,.gen (yx [zyR]))]:=(gd1 zIL za)
def zIv:=zbo tb gl zxX zAs Tryz.f159
theorem zKN:VK zIv:=zh zc zxX
def zCP:Un:=lpU 2 [13,14,7,15,16,17,18,19,20,21,4,22,12] ⟨[5,6,12],⟨[(.aptr 0),(.aptr 1),.hole],[.seq false,.seq false],[2,2,2],[.int .i64,kJ,kJ]⟩⟩ [((.exit 0),⟨[],⟨[],[],[],[]⟩⟩),(.ret,⟨[4],⟨[.hole],[],[2],[.bool]⟩⟩)] (lp q8 zd)
theorem zws:UK zIv (yQ (ze Tryz.f159) [1,1,0,1,0]) zCP:=qI .run zk zKN ob0
theorem zIC:SK 159 zAs:=zV (.seq .run (.seq .run (.seq (.seq .run (.block (.unit zCP))) .run))) [.tmp 4] zc zk zxX Tryz.func159 (ob1 zws ob0)
def zAt:ShC:=⟨⟨[.hole,.hole],[],[1,1],[kM,kJ]⟩,⟨[.hole],[],[2],[.int .i64]⟩,1,[],[],false,false,fun (x:(jS×jI))=>zfv x.1 x.2⟩
theorem zvm:GD zAt []:=za
def zIp:=zbo tb gl zvm zAt Tryz.f160
theorem zJC:VK zIp:=zh zc zvm
def zCF:Un:=lpU 2 [11,12,13,7,14,15,16,17,5,18,19,20,21,22,23,24,5,25,10] ⟨[0,5,8,9,10],⟨[.hole,.hole,.hole,.hole,.hole],[],[1,2,1,2,2],[kM,.int .i64,kJ,.int .i64,.int .i64]⟩⟩ [((.exit 0),⟨[5],⟨[.hole],[],[2],[.int .i64]⟩⟩)] (lp zc2 zd)
theorem zxV:UK zIp (yQ (ze Tryz.f160) [1,1,0,1,0]) zCF:=qI .run zk zJC ob0
theorem zGG:SK 160 zAt:=zV (.seq .run (.seq .run (.seq (.seq .run (.block (.unit zCF))) .run))) [.tmp 4] zc zk zvm Tryz.func160 (ob1 zxV ob0)
def zzH:ShC:=⟨⟨[.hole,.hole,.hole],[],[1,1,1],[kM,kJ,kJ]⟩,⟨[.hole,.hole],[],[0,0],[kJ,kJ]⟩,2,[],[],true,false,fun (x:(jS×jI×jI))=>zgF x.1 x.2.1 x.2.2⟩
theorem zwL:GD zzH [(102,.gen (yx [zzw])),(175,.gen (yx [zxC]))]:=(gd1 zmN (gd1 zrD za))
def zI0:=zbo tb gl zwL zzH Tryz.f161
theorem zJv:VK zI0:=zh zc zwL
def zAZ:Un:=lpU 2 [19,20,21,22,9,10,23,24,25,26,27,28,29,30,31,32,33,34,35,36,37,38,39,40,6,7,41,18] ⟨[8,16,17,18],⟨[.hole,.hole,.hole,.hole],[],[0,0,2,2],[kK,kK,.int .i64,.int .i64]⟩⟩ [((.exit 0),⟨[],⟨[],[],[],[]⟩⟩),(.ret,⟨[6,7],⟨[.hole,.hole],[],[0,0],[kJ,kJ]⟩⟩)] (lp zaL zd)
theorem zvy:UK zI0 (yQ (ze Tryz.f161) [1,1,0,1,0]) zAZ:=qI .run zk zJv ob0
theorem zG2:SK 161 zzH:=zV (.seq .run (.seq .run (.seq (.seq .run (.block (.unit zAZ))) .run))) [.tmp 6,.tmp 7] zc zk zwL Tryz.func161 (ob1 zvy ob0)
def zEa:ShC:=⟨⟨[.hole,.hole,.hole],[],[1,1,1],[kM,kJ,kJ]⟩,⟨[.hole],[],[2],[.bool]⟩,1,[],[],false,false,fun (x:(jS×jI×jI))=>qS x.1 x.2.1 x.2.2⟩
theorem zyK:GD zEa [(159,.gen (yx [zAs])),(160,.gen (yx [zAt])),(161,.gen (yx [zzH]))]:=(gd1 zIC (gd1 zGG (gd1 zG2 za)))
def zFX:=zbo tb gl zyK zEa Tryz.f103
theorem zKC:VK zFX:=zh zc zyK
def zBF:Un:=lpU 2 [9,10,11,12,13,14,15,16,17,18,19,20,21,7,8,22,23,24,25,26,27,6,28,29,30,31,32,33,34,35,36,37,38,39,40,41,6,43,44,45,46,47,48,42,49,50,1,2] ⟨[0,1,2],⟨[.hole,.hole,.hole],[],[1,0,0],[kM,kJ,kJ]⟩⟩ [((.exit 0),⟨[],⟨[],[],[],[]⟩⟩),(.ret,⟨[6],⟨[.hole],[],[2],[.bool]⟩⟩)] (lp zcE zd)
theorem zx6:UK zFX (yQ (ze Tryz.f103) [1,0,0]) zBF:=qI .run zk zKC ob0
theorem zGc:SK 103 zEa:=zV (.seq .run (.seq (.block (.unit zBF)) .run)) [.tmp 6] zc zk zyK Tryz.func103 (ob1 zx6 ob0)
def zJW:ShC:=⟨⟨[.hole,.hole,.hole],[],[1,1,1],[kM,kJ,kJ]⟩,⟨[.hole,.hole],[],[2,2],[.int .i64,.int .i64]⟩,2,[],[],false,true,fun (x:(jS×jI×jI))=>zbI x.1 x.2.1 x.2.2⟩
theorem zB8:SK 41 zJW:=zV .run [.tmp 6,.tmp 7] zc zk (gdG zHH (gdG zCx (gd1 zmN (gd1 zGc za)))) Tryz.func41 ob0
def zKR:ShC:=⟨⟨[.hole,.hole,.hole],[],[1,1,1],[kM,kJ,kJ]⟩,⟨[.hole],[],[2],[.bool]⟩,1,[],[],false,true,fun (x:(jS×jI×jI))=>zh6 x.1 x.2.1 x.2.2⟩
theorem zIc:SK 153 zKR:=zV .run [.tmp 6] zc zk (gdG zB8 za) Tryz.func153 ob0
def zGh:ShC:=⟨⟨[.nilv,.hole],[],[1],[.int .i64]⟩,⟨[(.view 0)],[.seq false],[2],[kJ]⟩,1,[],[],false,false,fun (x:Int)=>zdW x⟩
theorem zHi:SK 217 zGh:=zV .run [.tmp 4] zc zk (gd0 1000025 za) Tryz.func217 ob0
def zDJ:ShC:=⟨⟨[.hole],[],[1],[kK]⟩,⟨[(.view 0)],[.seq false],[2],[kJ]⟩,1,[],[],false,false,fun (x:jR)=>zcF x⟩
theorem zxP:GD zDJ [(217,.gen (yx [zGh]))]:=(gd1 zHi za)
def zFJ:=zbo tb gl zxP zDJ Tryz.f195
theorem zHz:VK zFJ:=zh zc zxP
def zDi:Un:=lpU 2 [28,29,30,8,31,32,33,6,34,27] ⟨[6,25,26,27],⟨[(.view 0),.hole,.hole,.hole],[.seq false],[1,2,2,2],[kK,.int .i64,.int .i64,kJ]⟩⟩ [((.exit 2),⟨[6],⟨[(.view 0)],[.seq false],[2],[kJ]⟩⟩)] (lp qC zd)
theorem zwc:UK zFJ (yQ (ze Tryz.f195) [1,1,1,1,0,1,0]) zDi:=qI .run zk zHz ob0
def zC1:Un:=lpU 2 [12,13,14,5,15,16,17,18,3,19,20,21,22,11] ⟨[0,3,9,10,11],⟨[.hole,.hole,.hole,.hole,.hole],[],[1,2,1,2,2],[kK,.int .i64,kK,.int .i64,.int .i64]⟩⟩ [((.exit 0),⟨[3],⟨[.hole],[],[2],[.int .i64]⟩⟩)] (lp qE zd)
theorem zwe:UK zFJ (yQ (ze Tryz.f195) [1,1,0,1,0]) zC1:=qI .run zk zHz ob0
theorem zF5:SK 195 zDJ:=zV (.seq .run (.seq .run (.seq (.seq .run (.block (.unit zC1))) (.seq .run (.seq (.seq .run (.block (.unit zDi))) .run))))) [.tmp 2] zc zk zxP Tryz.func195 (ob1 zwe (ob1 zwc ob0))
def zKm:ShC:=⟨⟨[.hole,.hole,.hole,.hole],[],[1,1,1,1],[kM,kJ,.int .i64,kJ]⟩,⟨[(.view 0)],[.seq false],[2],[kJ]⟩,1,[],[],false,false,fun (x:(jS×jI×Int×jI))=>zhh x.1 x.2.1 x.2.2.1 x.2.2.2⟩
theorem zGa:SK 154 zKm:=zV .run [.tmp 8] zc zk (gd1 zsb (gd1 zF5 za)) Tryz.func154 ob0
def zHQ:ShC:=⟨⟨[.nilv,.hole],[],[1],[.int .i64]⟩,⟨[(.view 0)],[.seq false],[2],[kK]⟩,1,[],[],false,false,fun (x:Int)=>zfM x⟩
theorem zHE:SK 188 zHQ:=zV .run [.tmp 4] zc zk (gd0 1000025 za) Tryz.func188 ob0
def zza:ShC:=⟨⟨[.hole],[],[1],[.sl (.one kK)]⟩,⟨[(.view 0)],[.seq false],[0],[kK]⟩,1,[],[],true,false,fun (x:(List jR))=>zd0 x⟩
theorem zyb:GD zza [(188,.gen (yx [zHQ]))]:=(gd1 zHE za)
def zDy:=zbo tb gl zyb zza Tryz.f139
theorem zGg:VK zDy:=zh zc zyb
def zCX:Un:=lpU 2 [28,29,30,8,31,32,33,6,34,27] ⟨[6,25,26,27],⟨[(.view 0),.hole,.hole,.hole],[.seq false],[1,2,2,0],[.sl (.one kK),.int .i64,.int .i64,kK]⟩⟩ [((.exit 2),⟨[6],⟨[(.view 0)],[.seq false],[0],[kK]⟩⟩)] (lp zan zd)
theorem zvW:UK zDy (yQ (ze Tryz.f139) [1,1,1,1,0,1,0]) zCX:=qI .run zk zGg ob0
def zC4:Un:=lpU 2 [12,13,14,5,15,16,17,18,3,19,20,21,22,11] ⟨[0,3,9,10,11],⟨[.hole,.hole,.hole,.hole,.hole],[],[1,2,1,2,2],[.sl (.one kK),.int .i64,.sl (.one kK),.int .i64,.int .i64]⟩⟩ [((.exit 0),⟨[3],⟨[.hole],[],[2],[.int .i64]⟩⟩)] (lp zah zd)
theorem zx3:UK zDy (yQ (ze Tryz.f139) [1,1,0,1,0]) zC4:=qI .run zk zGg ob0
theorem zGz:SK 139 zza:=zV (.seq .run (.seq .run (.seq (.seq .run (.block (.unit zC4))) (.seq .run (.seq (.seq .run (.block (.unit zCX))) .run))))) [.tmp 2] zc zk zyb Tryz.func139 (ob1 zx3 (ob1 zvW ob0))
def zDT:ShC:=⟨⟨[(.agg [.hole,.hole,.hole]),.hole,(.agg [.hole,.hole,.hole]),.hole],[],[1,1,1,1,1,1,1,1],[kL,kK,kL,.int .i64,kL,kK,kL,.int .i64]⟩,⟨[(.agg [(.view 0),.hole,(.view 1)])],[.seq false,.seq false],[0,0,0],[kK,kL,kL]⟩,1,[],[],true,false,fun (x:(jQ×jR×jQ×Int×jQ×jR×jQ×Int))=>zdF x.1 x.2.1 x.2.2.1 x.2.2.2.1 x.2.2.2.2.1 x.2.2.2.2.2.1 x.2.2.2.2.2.2.1 x.2.2.2.2.2.2.2⟩
theorem zyi:GD zDT [(139,.gen (yx [zza])),(140,.gen (yx [zw9]))]:=(gd1 zGz (gd1 zCu za))
def zEq:=zbo tb gl zyi zDT Tryz.f75
theorem zGn:VK zEq:=zh zc zyi
def zB5:Un:=lpU 2 [49,50,51,52,13,12,53,54,55,56,57,58,59,60,61,62,48] ⟨[3,8,9,46,47,48],⟨[.hole,(.ptr 0 0),(.ptr 1 0),.hole,.hole,.hole],[.cells true [.nilv,.nilv,.nilv],.cells false [(.view 2),.hole,(.view 3)],.seq false,.seq false],[2,1,2,2,0,0,0],[.int .i64,kL,.int .i64,.int .i64,kK,kL,kL]⟩⟩ [((.exit 2),⟨[9],⟨[(.ptr 0 0)],[.cells false [(.view 1),.hole,(.view 2)],.seq false,.seq false],[0,0,0],[kK,kL,kL]⟩⟩)] (lp zaI zd)
theorem zxD:UK zEq (yQ (ze Tryz.f75) [1,1,1,0,1,0]) zB5:=qI .run zk zGn ob0
def zBB:Un:=lpU 2 [31,32,33,34,11,10,35,36,37,38,39,40,41,42,43,44,30] ⟨[1,3,6,8,9,28,29,30],⟨[.hole,.hole,(.ptr 0 0),(.ptr 1 0),(.ptr 2 0),.hole,.hole,.hole],[.cells true [.hole,.hole,.hole],.cells true [.nilv,.nilv,.nilv],.cells false [(.view 3),.hole,(.view 4)],.seq false,.seq false],[2,2,1,2,2,1,1,1,0,0,0],[.int .i64,.int .i64,kL,.int .i64,.int .i64,kL,kK,kL,kK,kL,kL]⟩⟩ [((.exit 0),⟨[9],⟨[(.ptr 0 0)],[.cells false [(.view 1),.hole,(.view 2)],.seq false,.seq false],[0,0,0],[kK,kL,kL]⟩⟩)] (lp zaN zd)
theorem zwH:UK zEq (yQ (ze Tryz.f75) [1,1,0,1,0]) zBB:=qI .run zk zGn ob0
theorem zBJ:SK 75 zDT:=zV (.seq .run (.seq .run (.seq (.seq .run (.block (.unit zBB))) (.seq (.seq .run (.block (.unit zB5))) .run)))) [.cell 8 29] zc zk zyi Tryz.func75 (ob1 zwH (ob1 zxD ob0))
def zJg:ShC:=⟨⟨[.hole,(.ptr 0 0)],[.cells true [.hole]],[1,1],[kJ,.sl (.cons kZ kR)]⟩,⟨[(.view 0)],[.seq false],[2],[kJ]⟩,1,[],[],false,false,fun (x:(jI×(List (Int×jI))))=>qQ x.1 x.2⟩
theorem zHY:SK 186 zJg:=zV .run [.tmp 3] zc zk (gd1 zBv za) Tryz.func186 ob0
def zEJ:ShC:=⟨⟨[(.agg [.hole,.hole,.hole]),(.clo 186 [(.ptr 0 0)])],[.cells true [.hole]],[1,1,1,1],[kL,kK,kL,.sl (.cons kZ kR)]⟩,⟨[(.agg [.hole,.hole,(.view 0)])],[.seq false],[2,2,2],[kL,kK,kL]⟩,1,[],[],false,false,fun (x:(jQ×jR×jQ×(List (Int×jI))))=>zia x.1 x.2.1 x.2.2.1 x.2.2.2⟩
theorem zwi:GD zEJ [(186,.gen (yx [zJg]))]:=(gd1 zHY za)
def zzK:=zbo tb gl zwi zEJ Tryz.f170
theorem zE2:VK zzK:=zh zc zwi
def zA5:Un:=lpU 2 [52,53,54,11,55,56,57,58,59,60,61,62,63,64,65,66,67,51] ⟨[1,4,5,49,50,51],⟨[(.clo 186 [(.ptr 0 0)]),(.ptr 1 0),(.ptr 2 0),.hole,.hole,.hole],[.cells true [.hole],.cells true [.nilv,.nilv,.nilv],.cells false [.hole,.hole,(.view 3)],.seq false],[1,2,2,1,2,2,2],[kL,.int .i64,.int .i64,.sl (.cons kZ kR),kL,kK,kL]⟩⟩ [((.exit 4),⟨[5],⟨[(.ptr 0 0)],[.cells false [.hole,.hole,(.view 1)],.seq false],[2,2,2],[kL,kK,kL]⟩⟩)] (lp zbd zd)
theorem zu9:UK zzK (yQ (ze Tryz.f170) [1,1,1,1,0,1,0]) zA5:=qI .run zk zE2 ob0
def zB4:Un:=lpU 2 [36,37,38,9,39,40,41,42,43,44,45,46,47,35] ⟨[1,2,4,5,33,34,35],⟨[(.clo 186 [(.ptr 0 0)]),(.ptr 1 0),(.ptr 2 0),(.ptr 3 0),.hole,.hole,.hole],[.cells true [.hole],.cells true [.hole,.hole,.hole],.cells true [.nilv,.nilv,.nilv],.cells false [.hole,(.view 4),.nilv],.seq false],[1,2,2,1,1,1,1,2,2],[kK,.int .i64,.int .i64,.sl (.cons kZ kR),kL,kK,kL,kL,kK]⟩⟩ [((.exit 2),⟨[5],⟨[(.ptr 0 0)],[.cells false [.hole,(.view 1),.nilv],.seq false],[2,2],[kL,kK]⟩⟩)] (lp zbb zd)
theorem zur:UK zzK (yQ (ze Tryz.f170) [1,1,1,0,1,0]) zB4:=qI .run zk zE2 ob0
def zBh:Un:=lpU 2 [16,17,18,7,19,20,21,22,23,24,25,26,27,28,29,30,31,15] ⟨[1,2,4,5,13,14,15],⟨[(.clo 186 [(.ptr 0 0)]),(.ptr 1 0),(.ptr 2 0),(.ptr 3 0),.hole,.hole,.hole],[.cells true [.hole],.cells true [.hole,.hole,.hole],.cells true [.nilv,.nilv,.nilv],.cells false [(.view 4),.nilv,.nilv],.seq false],[1,2,2,1,1,1,1,2],[kL,.int .i64,.int .i64,.sl (.cons kZ kR),kL,kK,kL,kL]⟩⟩ [((.exit 0),⟨[5],⟨[(.ptr 0 0)],[.cells false [(.view 1),.nilv,.nilv],.seq false],[2],[kL]⟩⟩)] (lp zbl zd)
theorem zxJ:UK zzK (yQ (ze Tryz.f170) [1,1,0,1,0]) zBh:=qI .run zk zE2 ob0
theorem zGC:SK 170 zEJ:=zV (.seq .run (.seq .run (.seq (.seq .run (.block (.unit zBh))) (.seq (.seq .run (.block (.unit zB4))) (.seq (.seq .run (.block (.unit zA5))) .run))))) [.cell 4 29] zc zk zwi Tryz.func170 (ob1 zxJ (ob1 zur (ob1 zu9 ob0)))
def zJK:ShC:=⟨⟨[.hole,(.agg [.hole,.hole,.hole])],[],[1,1,1,1],[.sl (.cons kZ kR),kL,kK,kL]⟩,⟨[(.agg [.hole,.hole,(.view 0)])],[.seq false],[2,2,2],[kL,kK,kL]⟩,1,[],[],false,false,fun (x:((List (Int×jI))×jQ×jR×jQ))=>zft x.1 x.2.1 x.2.2.1 x.2.2.2⟩
theorem zCK:SK 136 zJK:=zV .run [.cell 4 29] zc zk (gd1 zGC za) Tryz.func136 ob0
def zKn:ShC:=⟨⟨[(.agg [.hole,.hole]),(.agg [.hole,.hole])],[],[1,1,1,1],[.bool,kJ,.bool,kJ]⟩,⟨[.hole],[],[2],[.bool]⟩,1,[],[],false,false,fun (x:(Bool×jI×Bool×jI))=>zkw x.1 x.2.1 x.2.2.1 x.2.2.2⟩
theorem zHJ:SK 206 zKn:=zV .run [.tmp 4] zc zk (gd1 zmN za) Tryz.func206 ob0
def zGs:ShC:=⟨⟨[(.agg [.hole,.hole]),(.ptr 0 0)],[.cells true [.hole,.hole]],[1,1,1,1],[.bool,kJ,.bool,kJ]⟩,⟨[.hole],[],[2],[.bool]⟩,1,[],[],false,false,fun (x:(Bool×jI×Bool×jI))=>zdi x.1 x.2.1 x.2.2.1 x.2.2.2⟩
theorem zHM:SK 205 zGs:=zV .run [.tmp 3] zc zk (gd1 zHJ za) Tryz.func205 ob0
def zD8:ShC:=⟨⟨[.hole,(.clo 205 [(.ptr 0 0)])],[.cells true [.hole,.hole]],[1,1,1],[kL,.bool,kJ]⟩,⟨[.hole],[],[2],[.int .i64]⟩,1,[],[],false,false,fun (x:(jQ×Bool×jI))=>zdP x.1 x.2.1 x.2.2⟩
theorem zx5:GD zD8 [(205,.gen (yx [zGs]))]:=(gd1 zHM za)
def zIF:=zbo tb gl zx5 zD8 Tryz.f183
theorem zKz:VK zIF:=zh zc zx5
def zBV:Un:=lpU 2 [9,10,5,11,12,13,14,15,16,17,4,18,8] ⟨[0,1,7,8],⟨[.hole,(.clo 205 [(.ptr 0 0)]),.hole,.hole],[.cells true [.hole,.hole]],[1,2,2,2,1],[kL,.int .i64,.int .i64,.bool,kJ]⟩⟩ [((.exit 0),⟨[],⟨[],[],[],[]⟩⟩),(.ret,⟨[4],⟨[.hole],[],[2],[.int .i64]⟩⟩)] (lp qm zd)
theorem zx4:UK zIF (yQ (ze Tryz.f183) [1,0,1,0]) zBV:=qI .run zk zKz ob0
theorem zIl:SK 183 zD8:=zV (.seq .run (.seq (.seq .run (.block (.unit zBV))) .run)) [.tmp 4] zc zk zx5 Tryz.func183 (ob1 zx4 ob0)
def zIb:ShC:=⟨⟨[.hole,(.clo 205 [(.ptr 0 0)])],[.cells true [.hole,.hole]],[1,1,1],[kL,.bool,kJ]⟩,⟨[.hole],[],[2],[.bool]⟩,1,[],[],false,false,fun (x:(jQ×Bool×jI))=>qZ x.1 x.2.1 x.2.2⟩
theorem zHj:SK 133 zIb:=zV .run [.tmp 4] zc zk (gd1 zIl za) Tryz.func133 ob0
def zAe:ShC:=⟨⟨[.hole],[],[1],[kL]⟩,⟨[(.view 0)],[.seq false],[0],[kL]⟩,1,[],[],true,false,fun (x:jQ)=>zet x⟩
theorem zxT:GD zAe [(133,.gen (yx [zIb]))]:=(gd1 zHj za)
def zI4:=zbo tb gl zxT zAe Tryz.f168
theorem zKO:VK zI4:=zh zc zxT
def zCw:Un:=lpU 2 [9,10,11,5,12,13,14,15,16,17,18,19,3,20,8] ⟨[3,6,7,8],⟨[(.view 0),.hole,.hole,.hole],[.seq false],[1,2,2,0],[kL,.int .i64,.int .i64,kL]⟩⟩ [((.exit 0),⟨[3],⟨[(.view 0)],[.seq false],[0],[kL]⟩⟩)] (lp zbj zd)
theorem zvM:UK zI4 (yQ (ze Tryz.f168) [1,1,0,1,0]) zCw:=qI .run zk zKO ob0
theorem zHx:SK 168 zAe:=zV (.seq .run (.seq .run (.seq (.seq .run (.block (.unit zCw))) .run))) [.tmp 2] zc zk zxT Tryz.func168 (ob1 zvM ob0)
def zHV:ShC:=⟨⟨[.hole,(.ptr 0 0)],[.cells true [.hole]],[1,1],[kJ,kJ]⟩,⟨[.hole],[],[2],[.bool]⟩,1,[],[],false,false,fun (x:(jI×jI))=>zdk x.1 x.2⟩
theorem zG1:SK 169 zHV:=zV .run [.tmp 3] zc zk (gd1 zmN za) Tryz.func169 ob0
def zEZ:ShC:=⟨⟨[.hole,(.clo 169 [(.ptr 0 0)])],[.cells true [.hole]],[1,1],[kK,kJ]⟩,⟨[.hole],[],[2],[.int .i64]⟩,1,[],[],false,false,fun (x:(jR×jI))=>zcI x.1 x.2⟩
theorem zwx:GD zEZ [(169,.gen (yx [zHV]))]:=(gd1 zG1 za)
def zHk:=zbo tb gl zwx zEZ Tryz.f182
theorem zKJ:VK zHk:=zh zc zwx
def zCm:Un:=lpU 2 [9,10,5,11,12,13,14,15,16,17,4,18,8] ⟨[0,1,7,8],⟨[.hole,(.clo 169 [(.ptr 0 0)]),.hole,.hole],[.cells true [.hole]],[1,2,2,1],[kK,.int .i64,.int .i64,kJ]⟩⟩ [((.exit 0),⟨[],⟨[],[],[],[]⟩⟩),(.ret,⟨[4],⟨[.hole],[],[2],[.int .i64]⟩⟩)] (lp yK zd)
theorem zyv:UK zHk (yQ (ze Tryz.f182) [1,0,1,0]) zCm:=qI .run zk zKJ ob0
theorem zIg:SK 182 zEZ:=zV (.seq .run (.seq (.seq .run (.block (.unit zCm))) .run)) [.tmp 4] zc zk zwx Tryz.func182 (ob1 zyv ob0)
def zIk:ShC:=⟨⟨[.hole,(.clo 169 [(.ptr 0 0)])],[.cells true [.hole]],[1,1],[kK,kJ]⟩,⟨[.hole],[],[2],[.bool]⟩,1,[],[],false,false,fun (x:(jR×jI))=>qu x.1 x.2⟩
theorem zHR:SK 132 zIk:=zV .run [.tmp 4] zc zk (gd1 zIg za) Tryz.func132 ob0
def zyV:ShC:=⟨⟨[.hole,(.aptr 0),(.ptr 1 0)],[.seq false,.cells false [.hole]],[1,1,1],[kJ,kJ,.int .i64]⟩,⟨[(.view 0),(.aptr 1),(.ptr 2 0)],[.seq false,.seq false,.cells false [.hole]],[2,0,2],[kJ,kJ,.int .i64]⟩,1,[1,2],[(0,1),(1,2)],true,false,fun (x:(jI×jI×Int))=>yz x.1 x.2.1 x.2.2⟩
theorem zwU:GD zyV [(55,.gen (yx [zGS])),(115,.gen (yx [zzv]))]:=(gd1 zqR (gd1 zuy za))
def zF8:=zbo tb gl zwU zyV Tryz.f171
theorem zJU:VK zF8:=zh zc zwU
def zC3:Un:=lpU 2 [13,14,15,16,6,7,17,18,19,20,21,22,23,24,25,26,27,28,29,30,31,32,33,34,35,36,37,38,12] ⟨[1,2,5,10,11,12],⟨[(.aptr 0),(.ptr 1 0),(.view 2),(.view 2),.hole,.hole],[.seq false,.cells false [.hole],.seq false],[2,2,0,2,2],[.int .i64,.int .i64,kJ,.int .i64,kJ]⟩⟩ [((.exit 0),⟨[1,2,5],⟨[(.aptr 0),(.ptr 1 0),(.view 2)],[.seq false,.cells false [.hole],.seq false],[0,2,2],[kJ,.int .i64,kJ]⟩⟩)] (lp yD zd)
theorem zu5:UK zF8 (yQ (ze Tryz.f171) [1,1,0,1,0]) zC3:=qI .run zk zJU ob0
theorem zIt:SK 171 zyV:=zV (.seq .run (.seq .run (.seq (.seq .run (.block (.unit zC3))) .run))) [.tmp 4] zc zk zwU Tryz.func171 (ob1 zu5 ob0)
def zAv:ShC:=⟨⟨[(.agg [.hole,.hole,.hole]),(.clo 171 [(.aptr 0),(.ptr 1 0)])],[.seq false,.cells false [.hole]],[1,1,1,1,1],[kL,kK,kL,kJ,.int .i64]⟩,⟨[(.agg [.hole,.hole,(.view 0)]),(.clo 171 [(.aptr 1),(.ptr 2 0)])],[.seq false,.seq false,.cells false [.hole]],[2,2,2,0,2],[kL,kK,kL,kJ,.int .i64]⟩,1,[1],[(0,1),(1,2)],true,false,fun (x:(jQ×jR×jQ×jI×Int))=>zfT x.1 x.2.1 x.2.2.1 x.2.2.2.1 x.2.2.2.2⟩
theorem zua:GD zAv [(171,.gen (yx [zyV]))]:=(gd1 zIt za)
def zyT:=zbo tb gl zua zAv Tryz.f170
theorem zDU:VK zyT:=zh zc zua
def zDc:Un:=lpU 2 [52,53,54,11,55,56,57,58,59,60,61,62,63,64,65,66,67,51] ⟨[1,4,5,49,50,51],⟨[(.clo 171 [(.aptr 0),(.ptr 1 0)]),(.ptr 2 0),(.ptr 3 0),.hole,.hole,.hole],[.seq false,.cells false [.hole],.cells true [.nilv,.nilv,.nilv],.cells false [.hole,.hole,(.view 4)],.seq false],[1,2,2,0,2,2,2,2],[kL,.int .i64,.int .i64,kJ,.int .i64,kL,kK,kL]⟩⟩ [((.exit 4),⟨[1,5],⟨[(.clo 171 [(.aptr 0),(.ptr 1 0)]),(.ptr 2 0)],[.seq false,.cells false [.hole],.cells false [.hole,.hole,(.view 3)],.seq false],[0,2,2,2,2],[kJ,.int .i64,kL,kK,kL]⟩⟩)] (lp zam zd)
theorem zvc:UK zyT (yQ (ze Tryz.f170) [1,1,1,1,0,1,0]) zDc:=qI (.seq .run (.seq .run (.seq (.block (.seq .run (.hide [[8,9],[8,9],[8,9],[8,9],[],[],[],[],[],[],[],[],[]]))) .run))) zk zDU ob0
def zB9:Un:=lpU 2 [36,37,38,9,39,40,41,42,43,44,45,46,47,35] ⟨[1,2,4,5,33,34,35],⟨[(.clo 171 [(.aptr 0),(.ptr 1 0)]),(.ptr 2 0),(.ptr 3 0),(.ptr 4 0),.hole,.hole,.hole],[.seq false,.cells false [.hole],.cells true [.hole,.hole,.hole],.cells true [.nilv,.nilv,.nilv],.cells false [.hole,(.view 5),.nilv],.seq false],[1,2,2,0,2,1,1,1,2,2],[kK,.int .i64,.int .i64,kJ,.int .i64,kL,kK,kL,kL,kK]⟩⟩ [((.exit 2),⟨[1,5],⟨[(.clo 171 [(.aptr 0),(.ptr 1 0)]),(.ptr 2 0)],[.seq false,.cells false [.hole],.cells false [.hole,(.view 3),.nilv],.seq false],[0,2,2,2],[kJ,.int .i64,kL,kK]⟩⟩)] (lp zal zd)
theorem zyy:UK zyT (yQ (ze Tryz.f170) [1,1,1,0,1,0]) zB9:=qI (.seq .run (.seq .run (.seq (.block (.seq .run (.hide [[8,9],[8,9],[],[],[],[],[],[],[]]))) .run))) zk zDU ob0
def zDk:Un:=lpU 2 [16,17,18,7,19,20,21,22,23,24,25,26,27,28,29,30,31,15] ⟨[1,2,4,5,13,14,15],⟨[(.clo 171 [(.aptr 0),(.ptr 1 0)]),(.ptr 2 0),(.ptr 3 0),(.ptr 4 0),.hole,.hole,.hole],[.seq false,.cells false [.hole],.cells true [.hole,.hole,.hole],.cells true [.nilv,.nilv,.nilv],.cells false [(.view 5),.nilv,.nilv],.seq false],[1,2,2,0,2,1,1,1,2],[kL,.int .i64,.int .i64,kJ,.int .i64,kL,kK,kL,kL]⟩⟩ [((.exit 0),⟨[1,5],⟨[(.clo 171 [(.aptr 0),(.ptr 1 0)]),(.ptr 2 0)],[.seq false,.cells false [.hole],.cells false [(.view 3),.nilv,.nilv],.seq false],[0,2,2],[kJ,.int .i64,kL]⟩⟩)] (lp zao zd)
theorem zwN:UK zyT (yQ (ze Tryz.f170) [1,1,0,1,0]) zDk:=qI (.seq .run (.seq .run (.seq (.block (.seq .run (.hide [[8,9],[8,9],[8,9],[8,9],[],[],[],[],[],[],[],[],[]]))) .run))) zk zDU ob0
theorem zGu:SK 170 zAv:=zV (.seq .run (.seq .run (.seq (.seq .run (.block (.unit zDk))) (.seq (.seq .run (.block (.unit zB9))) (.seq (.seq .run (.block (.unit zDc))) .run))))) [.cell 4 29] zc zk zua Tryz.func170 (ob1 zwN (ob1 zyy (ob1 zvc ob0)))
def zEn:ShC:=⟨⟨[(.agg [.hole,.hole,.hole])],[],[1,1,1],[kL,kK,kL]⟩,⟨[(.agg [.hole,.hole,(.view 0)])],[.seq false],[2,2,2],[kL,kK,kL]⟩,1,[],[],false,false,fun (x:(jQ×jR×jQ))=>zfL x.1 x.2.1 x.2.2⟩
theorem zyd:GD zEn [(132,.gen (yx [zIk])),(168,.gen (yx [zAe])),(170,.gen (yx [zAv]))]:=(gd1 zHR (gd1 zHx (gd1 zGu za)))
def zHq:=zbo tb gl zyd zEn Tryz.f116
theorem zKy:VK zHq:=zh zc zyd
def zA9:Un:=lpU 2 [19,20,21,5,22,23,24,25,26,27,28,29,30,31,32,33,18] ⟨[2,3,16,17,18],⟨[(.ptr 0 0),(.ptr 1 0),.hole,.hole,.hole],[.cells true [.nilv,.nilv,.nilv],.cells false [.hole,(.view 2),.hole],.seq false],[1,2,2,0,0,0],[kK,.int .i64,.int .i64,kL,kL,kK]⟩⟩ [((.exit 0),⟨[3],⟨[(.ptr 0 0)],[.cells false [.hole,(.view 1),.hole],.seq false],[0,0,0],[kL,kL,kK]⟩⟩)] (lp zbk zd)
theorem zxO:UK zHq (yQ (ze Tryz.f116) [1,1,0,1,0]) zA9:=qI .run zk zKy ob0
theorem zF0:SK 116 zEn:=zV (.seq .run (.seq .run (.seq (.seq .run (.block (.unit zA9))) .run))) [.cell 2 29] zc zk zyd Tryz.func116 (ob1 zxO ob0)
def zKr:ShC:=⟨⟨[.hole,(.agg [.hole,.hole,.hole])],[],[1,1,1,1],[kM,kL,kK,kL]⟩,⟨[(.agg [.hole,.hole,(.view 0)]),.hole],[.seq false],[2,2,2,2],[kL,kK,.int .i64,kL]⟩,2,[],[],false,true,fun (x:(jS×jQ×jR×jQ))=>zcz x.1 x.2.1 x.2.2.1 x.2.2.2⟩
theorem zBA:SK 56 zKr:=zV .run [.cell 4 29,.tmp 5] zc zk (gdG znl (gd1 zF0 za)) Tryz.func56 ob0
def zG3:ShC:=⟨⟨[.hole,(.agg [.hole,.hole,.hole]),.hole,.hole,(.agg [.hole,.hole,.hole]),.hole,.hole],[],[1,1,1,1,1,1,1,1,1,1,1],[kM,kL,kK,kL,.int .i64,.int .i64,kL,kK,kL,.int .i64,.int .i64]⟩,⟨[(.agg [.hole,.hole,(.view 0)]),.hole,.hole],[.seq false],[2,2,2,2,2],[kL,kK,.bool,.int .i64,kL]⟩,3,[],[],false,true,fun (x:(jS×jQ×jR×jQ×Int×Int×jQ×jR×jQ×Int×Int))=>zdm x.1 x.2.1 x.2.2.1 x.2.2.2.1 x.2.2.2.2.1 x.2.2.2.2.2.1 x.2.2.2.2.2.2.1 x.2.2.2.2.2.2.2.1 x.2.2.2.2.2.2.2.2.1 x.2.2.2.2.2.2.2.2.2.1 x.2.2.2.2.2.2.2.2.2.2⟩
theorem zBX:SK 90 zG3:=zV .run [.cell 14 29,.tmp 15,.tmp 16] zc zk (gdG zBA (gd1 zBJ (gdG zCs (gd1 zCK (gdG zGY (gd1 zBK (gd1 zsb (gd1 zBv (gdG zIc (gd1 zGa za)))))))))) Tryz.func90 ob0
def zIG:ShC:=⟨⟨[.hole,(.agg [.hole,.hole,.hole]),.hole,.hole,(.agg [.hole,.hole,.hole]),.hole,.hole],[],[1,1,1,1,1,1,1,1,1,1,1],[kM,kL,kK,kL,.int .i64,.int .i64,kL,kK,kL,.int .i64,.int .i64]⟩,⟨[(.agg [.hole,.hole,(.view 0)]),.hole,.hole],[.seq false],[2,2,2,2,2],[kL,kK,.bool,.int .i64,kL]⟩,3,[],[],false,true,fun (x:(jS×jQ×jR×jQ×Int×Int×jQ×jR×jQ×Int×Int))=>zeB x.1 x.2.1 x.2.2.1 x.2.2.2.1 x.2.2.2.2.1 x.2.2.2.2.2.1 x.2.2.2.2.2.2.1 x.2.2.2.2.2.2.2.1 x.2.2.2.2.2.2.2.2.1 x.2.2.2.2.2.2.2.2.2.1 x.2.2.2.2.2.2.2.2.2.2⟩
theorem zBC:SK 36 zIG:=zV .run [.cell 14 29,.tmp 15,.tmp 16] zc zk (gdG znl (gd1 zvt (gdG zBX za))) Tryz.func36 ob0
def zGF:ShC:=⟨⟨[.hole],[],[1],[.int .u8]⟩,⟨[.hole],[],[2],[.bool]⟩,1,[],[],false,false,fun (x:Int)=>ze7 x⟩
theorem zGU:SK 172 zGF:=zV .run [.tmp 2] zc zk za Tryz.func172 ob0
def zy5:ShC:=⟨⟨[(.agg [.hole,.hole,.hole,.hole])],[],[1,1,1,1],[.str,.int .i64,.int .i64,.int .i64]⟩,⟨[.hole],[],[2],[.bool]⟩,1,[],[],false,false,fun (x:zm)=>zeg x.1 x.2.1 x.2.2.1 x.2.2.2⟩
theorem zuT:GD zy5 [(172,.gen (yx [zGF]))]:=(gd1 zGU za)
def zIh:=zbo tb gl zuT zy5 Tryz.f117
theorem zKl:VK zIh:=zh zc zuT
def zBd:Un:=lpU 2 [21,22,23,24,25,28,29,30,31,32,33,34,35,36,37,38,39,40,41,42,43,44,45,46,47,2,26,27,3] ⟨[1,3],⟨[(.ptr 0 0),.hole],[.cells true [.hole,.hole,.hole,.hole]],[2,2,2,2,2],[.int .i64,.str,.int .i64,.int .i64,.int .i64]⟩⟩ [((.exit 0),⟨[],⟨[],[],[],[]⟩⟩),(.ret,⟨[2],⟨[.hole],[],[2],[.bool]⟩⟩)] (lp zbe zd)
theorem zuF:UK zIh (yQ (ze Tryz.f117) [1,1,0,1,0]) zBd:=qI .run zk zKl ob0
theorem zF7:SK 117 zy5:=zV (.seq .run (.seq .run (.seq (.seq .run (.block (.unit zBd))) .run))) [.tmp 2] zc zk zuT Tryz.func117 (ob1 zuF ob0)
def zAj:ShC:=⟨⟨[.hole,.hole],[],[1,1],[kM,.str]⟩,⟨[.hole],[],[2],[.int .i64]⟩,1,[],[],false,false,fun (x:(jS×Str))=>zgA x.1 x.2⟩
theorem zuR:GD zAj []:=za
def zHv:=zbo tb gl zuR zAj Tryz.f118
theorem zKe:VK zHv:=zh zc zuR
def zAS:Un:=lpU 2 [6,7,8,9,12,13,14,15,16,17,18,19,4,10,11,5] ⟨[0,1,5],⟨[.hole,.hole,.hole],[],[1,2,2],[kM,.str,.int .i64]⟩⟩ [((.exit 0),⟨[],⟨[],[],[],[]⟩⟩),(.ret,⟨[4],⟨[.hole],[],[2],[.int .i64]⟩⟩)] (lp zcg zd)
theorem zxu:UK zHv (yQ (ze Tryz.f118) [1,0,1,0]) zAS:=qI .run zk zKe ob0
theorem zHs:SK 118 zAj:=zV (.seq .run (.seq (.seq .run (.block (.unit zAS))) .run)) [.tmp 4] zc zk zuR Tryz.func118 (ob1 zxu ob0)
def zAG:ShC:=⟨⟨[.hole],[],[1],[kM]⟩,⟨[.hole],[],[2],[.bool]⟩,1,[],[],false,false,fun (x:jS)=>zdw x⟩
theorem zv4:GD zAG [(117,.gen (yx [zy5])),(118,.gen (yx [zAj]))]:=(gd1 zF7 (gd1 zHs za))
def zGt:=zbo tb gl zv4 zAG Tryz.f57
theorem zJ2:VK zGt:=zh zc zv4
def zCN:Un:=lpU 2 [19,20,21,22,25,26,27,28,29,30,31,32,33,34,35,36,37,38,39,40,41,2,23,24,3] ⟨[0,3],⟨[.hole,.hole],[],[1,2],[kM,.int .i64]⟩⟩ [((.exit 0),⟨[],⟨[],[],[],[]⟩⟩),(.ret,⟨[2],⟨[.hole],[],[2],[.bool]⟩⟩)] (lp q7 zd)
theorem zwA:UK zGt (yQ (ze Tryz.f57) [1,1,0,1,0]) zCN:=qI .run zk zJ2 ob0
theorem zBq:SK 57 zAG:=zV (.seq .run (.seq .run (.seq (.seq .run (.block (.unit zCN))) .run))) [.tmp 2] zc zk zv4 Tryz.func57 (ob1 zwA ob0)
def zzB:ShC:=⟨⟨[.hole,.hole,.hole],[],[1,1,1],[kM,kJ,.int .i64]⟩,⟨[.hole],[],[2],[.int .i64]⟩,1,[],[],false,false,fun (x:(jS×jI×Int))=>zfY x.1 x.2.1 x.2.2⟩
theorem zxK:GD zzB []:=za
def zHW:=zbo tb gl zxK zzB Tryz.f93
theorem zKF:VK zHW:=zh zc zxK
def zDe:Un:=lpU 2 [10,11,12,13,14,15,16,17,18,19,20,21,22,23,24,25,26,27,28,29,30,31,6,32,33,7,34,35,36,37,38,39,40,41,42,43,44,45,46,47,6,48,49,50,51,52,53,54,55,56,57,7,58,59,8] ⟨[0,1,7,8],⟨[.hole,.hole,.hole,.hole],[],[1,1,2,2],[kM,kJ,.int .i64,.int .i64]⟩⟩ [((.exit 0),⟨[8],⟨[.hole],[],[2],[.int .i64]⟩⟩),(.ret,⟨[6],⟨[.hole],[],[2],[.int .i64]⟩⟩)] (lp zbZ zd)
theorem zwa:UK zHW (yQ (ze Tryz.f93) [1,1,0,0]) zDe:=qI .run zk zKF ob0
theorem zB2:SK 93 zzB:=zV (.seq .run (.seq .run (.seq (.block (.unit zDe)) .run))) [.tmp 6] zc zk zxK Tryz.func93 (ob1 zwa ob0)
def zyS:ShC:=⟨⟨[.hole,.hole],[],[1,1],[kM,kJ]⟩,⟨[.hole],[],[2],[.int .i64]⟩,1,[],[],false,false,fun (x:(jS×jI))=>zcm x.1 x.2⟩
theorem zwb:GD zyS [(93,.gen (yx [zzB]))]:=(gd1 zB2 za)
def zGq:=zbo tb gl zwb zyS Tryz.f120
theorem zJQ:VK zGq:=zh zc zwb
def zCC:Un:=lpU 2 [10,11,12,13,14,15,16,17,6,18,19,4,20,21,5] ⟨[0,1,5,6],⟨[.hole,.hole,.hole,.hole],[],[1,1,2,2],[kM,kJ,.int .i64,.int .i64]⟩⟩ [((.exit 0),⟨[5],⟨[.hole],[],[2],[.int .i64]⟩⟩),(.ret,⟨[4],⟨[.hole],[],[2],[.int .i64]⟩⟩)] (lp zcA zd)
theorem zxv:UK zGq (yQ (ze Tryz.f120) [1,1,1,0,0]) zCC:=qI .run zk zJQ ob0
theorem zCo:SK 120 zyS:=zV (.seq .run (.seq .run (.seq .run (.seq (.block (.unit zCC)) .run)))) [.tmp 4] zc zk zwb Tryz.func120 (ob1 zxv ob0)
def zKH:ShC:=⟨⟨[.hole,.hole],[],[1,1],[kM,kJ]⟩,⟨[.hole],[],[2],[.bool]⟩,1,[],[],false,false,fun (x:(jS×jI))=>zfG x.1 x.2⟩
theorem zID:SK 173 zKH:=zV .run [.tmp 4] zc zk (gd1 zCo za) Tryz.func173 ob0
def zJf:ShC:=⟨⟨[.hole,(.agg [.hole,.hole])],[],[1,1,1],[kM,.bool,kJ]⟩,⟨[.hole],[],[2],[.bool]⟩,1,[],[],false,false,fun (x:(jS×Bool×jI))=>zb3 x.1 x.2.1 x.2.2⟩
theorem zGB:SK 119 zJf:=zV .run [.tmp 4] zc zk (gd1 zBq (gd1 zID za)) Tryz.func119 ob0
def zso:ShC:=⟨⟨[(.agg [.hole,.hole,.hole])],[],[1,1,1],[kL,kK,kL]⟩,⟨[(.view 0)],[.seq false],[0],[kK]⟩,1,[],[],true,false,fun (x:(jQ×jR×jQ))=>zfb x.1 x.2.1 x.2.2⟩
theorem zup:GD zso []:=za
def zzt:=zbo tb gl zup zso Tryz.f121
theorem zFk:VK zzt:=zh zc zup
def zCD:Un:=lpU 2 [38,39,40,41,42,45,46,47,48,49,50,51,52,53,3,43,44,6] ⟨[1,3,6],⟨[(.ptr 0 0),(.view 1),.hole],[.cells true [.hole,.hole,.hole],.seq false],[2,1,1,1,0],[.int .i64,kL,kK,kL,kK]⟩⟩ [((.exit 4),⟨[3],⟨[(.view 0)],[.seq false],[0],[kK]⟩⟩)] (lp zb7 zd)
theorem zuI:UK zzt (yQ (ze Tryz.f121) [1,1,1,1,0,1,0]) zCD:=qI .run zk zFk ob0
def zDl:Un:=lpU 2 [23,24,25,26,27,30,31,32,33,34,35,36,37,3,28,29,5] ⟨[1,3,5],⟨[(.ptr 0 0),(.view 1),.hole],[.cells true [.hole,.hole,.hole],.seq false],[2,1,1,1,0],[.int .i64,kL,kK,kL,kK]⟩⟩ [((.exit 2),⟨[3],⟨[(.view 0)],[.seq false],[0],[kK]⟩⟩)] (lp zcj zd)
theorem zu1:UK zzt (yQ (ze Tryz.f121) [1,1,1,0,1,0]) zDl:=qI .run zk zFk ob0
def zB3:Un:=lpU 2 [7,8,9,10,11,14,15,16,17,18,19,20,21,22,3,12,13,4] ⟨[1,3,4],⟨[(.ptr 0 0),(.view 1),.hole],[.cells true [.hole,.hole,.hole],.seq false],[2,1,1,1,0],[.int .i64,kL,kK,kL,kK]⟩⟩ [((.exit 0),⟨[3],⟨[(.view 0)],[.seq false],[0],[kK]⟩⟩)] (lp zci zd)
theorem zuo:UK zzt (yQ (ze Tryz.f121) [1,1,0,1,0]) zB3:=qI .run zk zFk ob0
theorem zwZ:SK 121 zso:=zV (.seq .run (.seq .run (.seq (.seq .run (.block (.unit zB3))) (.seq (.seq .run (.block (.unit zDl))) (.seq (.seq .run (.block (.unit zCD))) .run))))) [.tmp 2] zc zk zup Tryz.func121 (ob1 zuo (ob1 zu1 (ob1 zuI ob0)))
def zFa:ShC:=⟨⟨[.hole,(.agg [.hole,.hole,.hole])],[],[1,1,1,1],[kM,kL,kK,kL]⟩,⟨[.hole],[],[2],[.bool]⟩,1,[],[],false,false,fun (x:(jS×jQ×jR×jQ))=>zhm x.1 x.2.1 x.2.2.1 x.2.2.2⟩
theorem zym:GD zFa [(57,.gen (yx [zAG])),(119,.gen (yx [zJf])),(120,.gen (yx [zyS])),(121,.gen (yx [zso]))]:=(gd1 zBq (gd1 zGB (gd1 zCo (gd1 zwZ za))))
def zwy:=zbo tb gl zym zFa Tryz.f60
theorem zzT:VK zwy:=zh zc zym
def zCz:Un:=lpU 2 [91,92,93,94,97,98,99,100,101,102,103,10,95,96,11] ⟨[9,10,11],⟨[.hole,.hole,.hole],[],[0,2,2],[kK,.int .i64,.int .i64]⟩⟩ [((.exit 6),⟨[10],⟨[.hole],[],[2],[.int .i64]⟩⟩)] (lp zc1 zd)
theorem ztY:UK zwy (yQ (ze Tryz.f60) [1,1,1,1,1,1,1,0,1,0]) zCz:=qI .run zk zzT ob0
def zCi:Un:=lpU 2 [63,64,65,66,67,70,71,72,73,74,75,76,8,77,78,79,80,81,82,83,84,85,86,87,88,4,68,69,7] ⟨[0,3,7],⟨[.hole,(.ptr 0 0),.hole],[.cells true [.hole,.hole,.hole]],[1,2,1,1,1],[kM,.int .i64,kL,kK,kL]⟩⟩ [((.exit 4),⟨[],⟨[],[],[],[]⟩⟩),(.ret,⟨[4],⟨[.hole],[],[2],[.bool]⟩⟩)] (lp zcY zd)
theorem zuz:UK zwy (yQ (ze Tryz.f60) [1,1,1,1,0,1,0]) zCi:=qI .run zk zzT ob0
def zBR:Un:=lpU 2 [48,49,50,51,52,55,56,57,58,59,60,61,62,4,53,54,6] ⟨[0,3,6],⟨[.hole,(.ptr 0 0),.hole],[.cells true [.hole,.hole,.hole]],[1,2,1,1,1],[kM,.int .i64,kL,kK,kL]⟩⟩ [((.exit 2),⟨[],⟨[],[],[],[]⟩⟩),(.ret,⟨[4],⟨[.hole],[],[2],[.bool]⟩⟩)] (lp zc4 zd)
theorem zx2:UK zwy (yQ (ze Tryz.f60) [1,1,1,0,1,0]) zBR:=qI .run zk zzT ob0
def zDp:Un:=lpU 2 [33,34,35,36,37,40,41,42,43,44,45,46,47,4,38,39,5] ⟨[0,3,5],⟨[.hole,(.ptr 0 0),.hole],[.cells true [.hole,.hole,.hole]],[1,2,1,1,1],[kM,.int .i64,kL,kK,kL]⟩⟩ [((.exit 0),⟨[],⟨[],[],[],[]⟩⟩),(.ret,⟨[4],⟨[.hole],[],[2],[.bool]⟩⟩)] (lp zc9 zd)
theorem zwC:UK zwy (yQ (ze Tryz.f60) [1,1,0,1,0]) zDp:=qI .run zk zzT ob0
theorem zBH:SK 60 zFa:=zV (.seq .run (.seq .run (.seq (.seq .run (.block (.unit zDp))) (.seq (.seq .run (.block (.unit zBR))) (.seq (.seq .run (.block (.unit zCi))) (.seq .run (.seq .run (.seq (.seq .run (.block (.unit zCz))) .run)))))))) [.tmp 4] zc zk zym Tryz.func60 (ob1 zwC (ob1 zx2 (ob1 zuz (ob1 ztY ob0))))
def zJ5:ShC:=⟨⟨[(.agg [.hole,.hole,.hole]),.hole],[],[1,1,1,1],[kL,kK,kL,.int .i64]⟩,⟨[.hole],[],[2],[.bool]⟩,1,[],[],false,false,fun (x:(jQ×jR×jQ×Int))=>zee x.1 x.2.1 x.2.2.1 x.2.2.2⟩
theorem zCh:SK 71 zJ5:=zV .run [.tmp 4] zc zk za Tryz.func71 ob0
def zKj:ShC:=⟨⟨[(.agg [.hole,.hole,.hole]),.hole],[],[1,1,1,1],[kL,kK,kL,.int .i64]⟩,⟨[.hole],[],[2],[.bool]⟩,1,[],[],false,false,fun (x:(jQ×jR×jQ×Int))=>zbT x.1 x.2.1 x.2.2.1 x.2.2.2⟩
theorem zI9:SK 91 zKj:=zV .run [.tmp 4] zc zk (gd1 zCh za) Tryz.func91 ob0
def zAl:ShC:=⟨⟨[.hole,.hole],[],[1,1],[kJ,.int .i64]⟩,⟨[.hole],[],[2],[.bool]⟩,1,[],[],false,false,fun (x:(jI×Int))=>znL x.1 x.2⟩
theorem zt8:GD zAl []:=za
def zGl:=zbo tb gl zt8 zAl Tryz.f58
theorem zKP:VK zGl:=zh zc zt8
def zCb:Un:=lpU 2 [6,7,8,9,12,13,14,15,16,17,18,4,10,11,5] ⟨[0,1,5],⟨[.hole,.hole,.hole],[],[1,2,2],[kJ,.int .i64,.int .i64]⟩⟩ [((.exit 0),⟨[],⟨[],[],[],[]⟩⟩),(.ret,⟨[4],⟨[.hole],[],[2],[.bool]⟩⟩)] (lp zeb zd)
theorem ztU:UK zGl (yQ (ze Tryz.f58) [1,0,1,0]) zCb:=qI .run zk zKP ob0
theorem zGZ:SK 58 zAl:=zV (.seq .run (.seq (.seq .run (.block (.unit zCb))) .run)) [.tmp 4] zc zk zt8 Tryz.func58 (ob1 ztU ob0)
def zzA:ShC:=⟨⟨[.hole],[],[1],[kJ]⟩,⟨[(.view 0)],[.seq false],[2],[kJ]⟩,1,[],[],false,false,fun (x:jI)=>zhT x⟩
theorem zvK:GD zzA [(58,.gen (yx [zAl]))]:=(gd1 zGZ za)
def zHD:=zbo tb gl zvK zzA Tryz.f164
theorem zKb:VK zHD:=zh zc zvK
def zBI:Un:=lpU 2 [5,6,9,10,11,12,13,14,15,3,7,8,4] ⟨[0,3,4],⟨[.hole,(.view 0),.hole],[.seq false],[1,2,2],[kJ,.int .i64,kJ]⟩⟩ [((.exit 0),⟨[3],⟨[(.view 0)],[.seq false],[2],[kJ]⟩⟩)] (lp zaz zd)
theorem zt2:UK zHD (yQ (ze Tryz.f164) [1,1,0,1,0]) zBI:=qI .run zk zKb ob0
theorem zHO:SK 164 zzA:=zV (.seq .run (.seq .run (.seq (.seq .run (.block (.unit zBI))) .run))) [.tmp 2] zc zk zvK Tryz.func164 (ob1 zt2 ob0)
def zzr:ShC:=⟨⟨[(.agg [.hole,.hole,.hole])],[],[1,1,1],[kL,kK,kL]⟩,⟨[(.view 0)],[.seq false],[2],[kJ]⟩,1,[],[],false,false,fun (x:(jQ×jR×jQ))=>zdc x.1 x.2.1 x.2.2⟩
theorem zw8:GD zzr [(121,.gen (yx [zso])),(164,.gen (yx [zzA]))]:=(gd1 zwZ (gd1 zHO za))
def zIN:=zbo tb gl zw8 zzr Tryz.f109
theorem zKL:VK zIN:=zh zc zw8
def zBy:Un:=lpU 2 [8,9,10,11,14,15,16,17,18,19,3,12,13,5] ⟨[3,4,5],⟨[(.view 0),.hole,.hole],[.seq false],[0,2,2],[kK,.int .i64,kJ]⟩⟩ [((.exit 0),⟨[3],⟨[(.view 0)],[.seq false],[2],[kJ]⟩⟩)] (lp za9 zd)
theorem zt6:UK zIN (yQ (ze Tryz.f109) [1,1,1,0,1,0]) zBy:=qI .run zk zKL ob0
theorem zGP:SK 109 zzr:=zV (.seq .run (.seq .run (.seq .run (.seq (.seq .run (.block (.unit zBy))) .run)))) [.tmp 2] zc zk zw8 Tryz.func109 (ob1 zt6 ob0)
def zwf:ShC:=⟨⟨[.hole,.hole],[],[1,1],[.sl (.cons kZ kR),.int .i64]⟩,⟨[.hole],[],[2],[.int .i64]⟩,1,[],[],false,false,fun (x:((List (Int×jI))×Int))=>zij x.1 x.2⟩
theorem zt3:GD zwf []:=za
def zHL:=zbo tb gl zt3 zwf Tryz.f124
theorem zJA:VK zHL:=zh zc zt3
def zDn:Un:=lpU 2 [6,7,8,9,12,13,14,15,16,17,18,19,4,10,11,5] ⟨[0,1,5],⟨[.hole,.hole,.hole],[],[1,2,2],[.sl (.cons kZ kR),.int .i64,.int .i64]⟩⟩ [((.exit 0),⟨[],⟨[],[],[],[]⟩⟩),(.ret,⟨[4],⟨[.hole],[],[2],[.int .i64]⟩⟩)] (lp zd9 zd)
theorem zvs:UK zHL (yQ (ze Tryz.f124) [1,0,1,0]) zDn:=qI .run zk zJA ob0
theorem zA2:SK 124 zwf:=zV (.seq .run (.seq (.seq .run (.block (.unit zDn))) .run)) [.tmp 4] zc zk zt3 Tryz.func124 (ob1 zvs ob0)
def zzG:ShC:=⟨⟨[.hole,.hole],[],[1,1],[.sl (.cons kZ kR),kJ]⟩,⟨[(.view 0)],[.seq false],[2],[kJ]⟩,1,[],[],false,false,fun (x:((List (Int×jI))×jI))=>zbC x.1 x.2⟩
theorem zuU:GD zzG [(124,.gen (yx [zwf]))]:=(gd1 zA2 za)
def zIM:=zbo tb gl zuU zzG Tryz.f94
theorem zKT:VK zIM:=zh zc zuU
def zCJ:Un:=lpU 2 [8,9,10,11,7,14,15,16,17,18,19,20,21,22,23,24,25,7,26,27,28,29,30,31,32,33,34,5,35,36,37,38,39,40,41,5,12,13,6] ⟨[0,1,5,6],⟨[.hole,.hole,(.view 0),.hole],[.seq false],[1,1,2,2],[.sl (.cons kZ kR),kJ,.int .i64,kJ]⟩⟩ [((.exit 0),⟨[5],⟨[(.view 0)],[.seq false],[2],[kJ]⟩⟩)] (lp zda zd)
theorem zyw:UK zIM (yQ (ze Tryz.f94) [1,1,0,1,0]) zCJ:=qI .run zk zKT ob0
theorem zCq:SK 94 zzG:=zV (.seq .run (.seq .run (.seq (.seq .run (.block (.unit zCJ))) .run))) [.tmp 4] zc zk zuU Tryz.func94 (ob1 zyw ob0)
def zyG:ShC:=⟨⟨[.hole,(.agg [.hole,.hole,.hole])],[],[1,1,1,1],[.sl (.cons kZ kR),kL,kK,kL]⟩,⟨[(.agg [.hole,.hole,(.view 0)])],[.seq false],[2,2,2],[kL,kK,kL]⟩,1,[],[],false,false,fun (x:((List (Int×jI))×jQ×jR×jQ))=>zcv x.1 x.2.1 x.2.2.1 x.2.2.2⟩
theorem zw1:GD zyG [(94,.gen (yx [zzG]))]:=(gd1 zCq za)
def zAg:=zbo tb gl zw1 zyG Tryz.f125
theorem zEV:VK zAg:=zh zc zw1
def zBG:Un:=lpU 2 [55,56,57,58,59,62,63,64,65,66,67,68,69,70,71,72,73,74,75,76,77,78,79,80,81,60,61,8] ⟨[0,3,4,5,8],⟨[.hole,(.ptr 0 0),(.ptr 1 0),(.ptr 2 0),.hole],[.cells true [.hole,.hole,.hole],.cells true [.nilv,.nilv,.nilv],.cells false [.hole,.hole,(.view 3)],.seq false],[1,2,1,1,1,2,2,2],[.sl (.cons kZ kR),.int .i64,kL,kK,kL,kL,kK,kL]⟩⟩ [((.exit 4),⟨[5],⟨[(.ptr 0 0)],[.cells false [.hole,.hole,(.view 1)],.seq false],[2,2,2],[kL,kK,kL]⟩⟩)] (lp zb8 zd)
theorem zwm:UK zAg (yQ (ze Tryz.f125) [1,1,1,1,0,1,0]) zBG:=qI .run zk zEV ob0
def zC8:Un:=lpU 2 [36,37,38,39,40,43,44,45,46,47,48,49,50,51,52,53,54,41,42,7] ⟨[0,3,4,5,7],⟨[.hole,(.ptr 0 0),(.ptr 1 0),(.ptr 2 0),.hole],[.cells true [.hole,.hole,.hole],.cells true [.nilv,.nilv,.nilv],.cells false [.hole,(.view 3),.nilv],.seq false],[1,2,1,1,1,2,2],[.sl (.cons kZ kR),.int .i64,kL,kK,kL,kL,kK]⟩⟩ [((.exit 2),⟨[5],⟨[(.ptr 0 0)],[.cells false [.hole,(.view 1),.nilv],.seq false],[2,2],[kL,kK]⟩⟩)] (lp zb6 zd)
theorem zuQ:UK zAg (yQ (ze Tryz.f125) [1,1,1,0,1,0]) zC8:=qI .run zk zEV ob0
def zBx:Un:=lpU 2 [9,10,11,12,13,16,17,18,19,20,21,22,23,24,25,26,27,28,29,30,31,32,33,34,35,14,15,6] ⟨[0,3,4,5,6],⟨[.hole,(.ptr 0 0),(.ptr 1 0),(.ptr 2 0),.hole],[.cells true [.hole,.hole,.hole],.cells true [.nilv,.nilv,.nilv],.cells false [(.view 3),.nilv,.nilv],.seq false],[1,2,1,1,1,2],[.sl (.cons kZ kR),.int .i64,kL,kK,kL,kL]⟩⟩ [((.exit 0),⟨[5],⟨[(.ptr 0 0)],[.cells false [(.view 1),.nilv,.nilv],.seq false],[2],[kL]⟩⟩)] (lp zco zd)
theorem zvI:UK zAg (yQ (ze Tryz.f125) [1,1,0,1,0]) zBx:=qI .run zk zEV ob0
theorem zvh:SK 125 zyG:=zV (.seq .run (.seq .run (.seq (.seq .run (.block (.unit zBx))) (.seq (.seq .run (.block (.unit zC8))) (.seq (.seq .run (.block (.unit zBG))) .run))))) [.cell 4 29] zc zk zw1 Tryz.func125 (ob1 zvI (ob1 zuQ (ob1 zwm ob0)))
def zEh:ShC:=⟨⟨[(.agg [.hole,.hole,.hole]),(.agg [.hole,.hole,.hole])],[],[1,1,1,1,1,1],[kL,kK,kL,kL,kK,kL]⟩,⟨[(.agg [.hole,.hole,(.view 0)]),.hole],[.seq false],[2,2,2,2],[kL,kK,.bool,kL]⟩,2,[],[],false,false,fun (x:(jQ×jR×jQ×jQ×jR×jQ))=>zc7 x.1 x.2.1 x.2.2.1 x.2.2.2.1 x.2.2.2.2.1 x.2.2.2.2.2⟩
theorem zuh:GD zEh [(109,.gen (yx [zzr])),(125,.gen (yx [zyG]))]:=(gd1 zGP (gd1 zvh za))
def zGK:=zbo tb gl zuh zEh Tryz.f85
theorem zJD:VK zGK:=zh zc zuh
def zBm:Un:=lpU 2 [25,26,27,28,31,32,33,34,35,36,37,38,5,39,40,41,42,43,44,45,46,47,48,49,50,51,52,53,54,8,29,30,10] ⟨[3,4,7,8,9,10],⟨[(.ptr 0 0),(.ptr 1 0),.hole,(.view 2),.hole,.hole],[.cells true [.hole,.hole,.hole],.cells false [.nilv,.nilv,.nilv],.seq false],[2,2,2,1,1,1,2],[.int .i64,kJ,.int .i64,kL,kK,kL,.sl (.cons kZ kR)]⟩⟩ [((.exit 0),⟨[4,8],⟨[(.ptr 0 0),(.view 1)],[.cells false [.nilv,.nilv,.nilv],.seq false],[2],[.sl (.cons kZ kR)]⟩⟩),(.ret,⟨[4,5],⟨[(.ptr 0 0),.hole],[.cells false [.nilv,.nilv,.nilv]],[2],[.bool]⟩⟩)] (lp qN zd)
theorem ztV:UK zGK (yQ (ze Tryz.f85) [1,1,1,1,1,1,0,1,0]) zBm:=qI .run zk zJD ob0
theorem zGW:SK 85 zEh:=zV (.seq .run (.seq .run (.seq .run (.seq .run (.seq .run (.seq .run (.seq (.seq .run (.block (.unit zBm))) .run))))))) [.cell 4 29,.tmp 5] zc zk zuh Tryz.func85 (ob1 ztV ob0)
def zr9:ShC:=⟨⟨[.hole,.hole,.hole],[],[1,1,1],[kM,kJ,.int .i64]⟩,⟨[.hole],[],[2],[.int .i64]⟩,1,[],[],false,false,fun (x:(jS×jI×Int))=>zfC x.1 x.2.1 x.2.2⟩
theorem zq4:GD zr9 []:=za
def zB6:=zbo tb gl zq4 zr9 Tryz.f155
theorem zIZ:VK zB6:=zh zc zq4
def zvV:Un:=lpU 2 [10,11,12,13,7,14,15,16,17,18,19,20,21,22,23,24,25,26,27,28,7,29,30,8] ⟨[0,1,7,8],⟨[.hole,.hole,.hole,.hole],[],[1,1,2,2],[kM,kJ,.int .i64,.int .i64]⟩⟩ [((.exit 0),⟨[8],⟨[.hole],[],[2],[.int .i64]⟩⟩)] (lp zaB zd)
theorem zsv:UK zB6 (yQ (ze Tryz.f155) [1,1,0,0]) zvV:=qI .run zk zIZ ob0
theorem zFH:SK 155 zr9:=zV (.seq .run (.seq .run (.seq (.block (.unit zvV)) .run))) [.tmp 6] zc zk zq4 Tryz.func155 (ob1 zsv ob0)
def zoB:ShC:=⟨⟨[.hole,.hole],[],[1,1],[kM,kJ]⟩,⟨[(.view 0)],[.seq false],[0],[kK]⟩,1,[],[],true,false,fun (x:(jS×jI))=>zR x.1 x.2⟩
theorem zpU:GD zoB [(155,.gen (yx [zr9]))]:=(gd1 zFH za)
def zCl:=zbo tb gl zpU zoB Tryz.f92
theorem zFU:VK zCl:=zh zc zpU
def zwD:Un:=lpU 2 [8,9,10,11,12,13,14,15,7,16,17,18,19,20,21,22,5,23,6] ⟨[0,1,5,6],⟨[.hole,.hole,(.view 0),.hole],[.seq false],[1,1,2,0],[kM,kJ,.int .i64,kK]⟩⟩ [((.exit 0),⟨[5],⟨[(.view 0)],[.seq false],[0],[kK]⟩⟩)] (lp zcJ zd)
theorem ztc:UK zCl (yQ (ze Tryz.f92) [1,1,1,0,0]) zwD:=qI .run zk zFU ob0
theorem znA:SK 92 zoB:=zV (.seq .run (.seq .run (.seq .run (.seq (.block (.unit zwD)) .run)))) [.tmp 4] zc zk zpU Tryz.func92 (ob1 ztc ob0)
def zvG:ShC:=⟨⟨[(.ptr 0 0),.hole],[.cells true [.hole]],[1,1],[kJ,.ar kR 48]⟩,⟨[.hole],[],[1],[kJ]⟩,1,[],[],true,false,fun (x:(jI×jR))=>zbx x.1 x.2⟩
theorem zpW:GD zvG []:=za
def zBo:=zbo tb gl zpW zvG Tryz.f214
theorem zIy:VK zBo:=zh zc zpW
def ztZ:Un:=lpU 2 [5,6,7,8,9,10,11,12,13,14,15,16,17,18,19,20,21,22,23,24,25,26,27,28,29,30,31,32,33,34,35,1] ⟨[0,1],⟨[(.ptr 0 0),.hole],[.cells true [.hole]],[1,1],[kJ,.ar kR 48]⟩⟩ [((.exit 0),⟨[1],⟨[.hole],[],[1],[kJ]⟩⟩)] (lp zau zd)
theorem ztD:UK zBo (yQ (ze Tryz.f214) [1,0,0]) ztZ:=qI .run zk zIy ob0
theorem zFe:SK 214 zvG:=zV (.seq .run (.seq (.block (.unit ztZ)) .run)) [.tmp 4] zc zk zpW Tryz.func214 (ob1 ztD ob0)
def zpE:ShC:=⟨⟨[.hole,.hole],[],[1,1],[kJ,kJ]⟩,⟨[.hole],[],[2],[.bool]⟩,1,[],[],false,false,fun (x:(jI×jI))=>zbP x.1 x.2⟩
theorem zqK:GD zpE []:=za
def zBe:=zbo tb gl zqK zpE Tryz.f123
theorem zIE:VK zBe:=zh zc zqK
def zyx:Un:=lpU 2 [11,12,13,14,17,18,19,20,21,22,23,24,25,4,15,16,5] ⟨[0,1,5],⟨[.hole,.hole,.hole],[],[1,1,2],[kJ,kJ,.int .i64]⟩⟩ [((.exit 0),⟨[],⟨[],[],[],[]⟩⟩),(.ret,⟨[4],⟨[.hole],[],[2],[.bool]⟩⟩)] (lp zcn zd)
theorem zsl:UK zBe (yQ (ze Tryz.f123) [1,1,0,1,0]) zyx:=qI .run zk zIE ob0
theorem zlE:SK 123 zpE:=zV (.seq .run (.seq .run (.seq (.seq .run (.block (.unit zyx))) .run))) [.tmp 4] zc zk zqK Tryz.func123 (ob1 zsl ob0)
def zmc (k:Nat):ShC:=⟨⟨[(.ptr 0 0),.hole,.hole],[.cells true [.hole]],[1,1,1],[.int .i64,kJ,.ar kR 48]⟩,⟨[.hole],[],[2],[.bool]⟩,1,[],[],false,false,(yG k)⟩
def zI3:ShC:=⟨⟨[(.ptr 0 0),.hole,.hole],[.cells true [.hole]],[1,1,1],[.int .i64,kJ,.ar kR 48]⟩,⟨[.hole],[],[2],[.bool]⟩,1,[],[],false,false,fun (x:(Int×jI×jR))=>zc8 x.1 x.2.1 x.2.2⟩
def zjb (k:Nat):Prop:=SK 227 (zmc k)
def zC0 (k:Nat):List (Nat×Con):=[(227,.gen (yx [zmc k]))]
theorem zuB (k:Nat) (h:zjb k):GD (zmc (k+1)) (zC0 k):=(gd1 h za)
def zCG (k:Nat):Env:=zgl tb gl (zC0 k) (zmc (k+1)) Tryz.f227.ntmps
theorem zHw (k:Nat) (h:zjb k):VK (zCG k):=zh zc (zuB k h)
def zyq (k:Nat):Un:=lpU 2 [9,10,11,12,15,16,17,18,19,20,21,22,23,24,8,25,26,27,28,29,30,31,32,33,34,35,36,37,38,39,40,41,42,43,44,45,46,47,48,6,13,14,7] ⟨[0,1,2,7],⟨[(.ptr 0 0),.hole,.hole,.hole],[.cells true [.hole]],[2,1,2,1],[.int .i64,kJ,.int .i64,.ar kR 48]⟩⟩ [((.exit 0),⟨[],⟨[],[],[],[]⟩⟩),(.ret,⟨[6],⟨[.hole],[],[2],[.bool]⟩⟩)] (lp (qa (yG k)) zd)
theorem zst (k:Nat) (h:zjb k):UK (zCG k) (yQ (ze Tryz.f227) [1,0,1,0]) (zyq k):=qI .run zk (zHw k h) ob0
theorem zAL (k:Nat) (h:zjb k):SK 227 (zmc (k+1)):=zV (.seq .run (.seq (.seq .run (.block (.unit (zyq k)))) .run)) [.tmp 6] zc zk (zuB k h) Tryz.func227 (ob1 (zst k h) ob0)
theorem zmG:∀ k,zjb k
 | 0=>zjG (by kernel_rfl) fun _=>rfl
 | k+1=>have h:=zmG k; zAL k h
theorem zEN:SK 227 zI3:=(zmG zd)
def zFV:ShC:=⟨⟨[(.ptr 0 0),.hole,.hole,.hole],[.cells false [.hole]],[1,1,1,1],[kJ,kJ,.bool,.ar kR 48]⟩,⟨[.hole,(.ptr 0 0)],[.cells false [.hole]],[2,1],[.bool,.ar kR 48]⟩,1,[0],[(0,0)],true,false,fun (x:(jI×jI×Bool×jR))=>zu x.1 x.2.1 x.2.2.1 x.2.2.2⟩
theorem zDQ:SK 215 zFV:=zV .run [.tmp 8] zc zk (gd1 zEN za) Tryz.func215 ob0
def zqP (k:Nat):ShC:=⟨⟨[(.ptr 0 0),.hole,.hole,.hole],[.cells false [.hole]],[1,1,1,1],[kM,kJ,kJ,.ar kR 48]⟩,⟨[.hole,(.ptr 0 0)],[.cells false [.hole]],[2,0],[.bool,.ar kR 48]⟩,1,[0],[(0,0)],true,false,(zA k).1⟩
def zJc:ShC:=⟨⟨[(.ptr 0 0),.hole,.hole,.hole],[.cells false [.hole]],[1,1,1,1],[kM,kJ,kJ,.ar kR 48]⟩,⟨[.hole,(.ptr 0 0)],[.cells false [.hole]],[2,0],[.bool,.ar kR 48]⟩,1,[0],[(0,0)],true,false,fun (x:(jS×jI×jI×jR))=>zjN x.1 x.2.1 x.2.2.1 x.2.2.2⟩
def zn3 (k:Nat):ShC:=⟨⟨[(.ptr 0 0),.hole,.hole,.hole],[.cells false [.hole]],[1,1,1,1],[kM,kK,kK,.ar kR 48]⟩,⟨[.hole,(.ptr 0 0)],[.cells false [.hole]],[2,0],[.bool,.ar kR 48]⟩,1,[0],[(0,0)],true,false,(zA k).2⟩
def zAV:ShC:=⟨⟨[(.ptr 0 0),.hole,.hole,.hole],[.cells false [.hole]],[1,1,1,1],[kM,kK,kK,.ar kR 48]⟩,⟨[.hole,(.ptr 0 0)],[.cells false [.hole]],[2,0],[.bool,.ar kR 48]⟩,1,[0],[(0,0)],true,false,fun (x:(jS×jR×jR×jR))=>zdQ x.1 x.2.1 x.2.2.1 x.2.2.2⟩
def zhn (k:Nat):Prop:=SK 187 (zqP k)∧SK 137 (zn3 k)
theorem zzD (k:Nat) (h:zhn k):SK 187 (zqP (k+1)):=zV .run [.tmp 8] zc zk (gd1 znA (gd1 zlE (gd1 h.2 (gd1 zFe (gd1 zDQ za))))) Tryz.func187 ob0
def zA0 (k:Nat):List (Nat×Con):=[(187,.gen (yx [zqP k]))]
theorem zvY (k:Nat) (h:zhn k):GD (zn3 (k+1)) (zA0 k):=(gd1 h.1 za)
def zDo (k:Nat):Env:=zgl tb gl (zA0 k) (zn3 (k+1)) Tryz.f137.ntmps
theorem zIP (k:Nat) (h:zhn k):VK (zDo k):=zh zc (zvY k h)
def zwn (k:Nat):Un:=lpU 2 [10,11,12,13,16,17,18,19,20,21,22,23,24,25,26,27,8,14,15,9] ⟨[0,1,2,3,9],⟨[(.ptr 0 0),.hole,.hole,.hole,.hole],[.cells false [.hole]],[1,1,1,2,0],[kM,kK,kK,.int .i64,.ar kR 48]⟩⟩ [((.exit 0),⟨[0],⟨[(.ptr 0 0)],[.cells false [.hole]],[0],[.ar kR 48]⟩⟩),(.ret,⟨[0,8],⟨[(.ptr 0 0),.hole],[.cells false [.hole]],[2,0],[.bool,.ar kR 48]⟩⟩)] (lp (ql (zA k)) zd)
theorem zsK (k:Nat) (h:zhn k):UK (zDo k) (yQ (ze Tryz.f137) [1,0,1,0]) (zwn k):=qI .run zk (zIP k h) ob0
theorem zzJ (k:Nat) (h:zhn k):SK 137 (zn3 (k+1)):=zV (.seq .run (.seq (.seq .run (.block (.unit (zwn k)))) .run)) [.tmp 8] zc zk (zvY k h) Tryz.func137 (ob1 (zsK k h) ob0)
theorem zjC:∀ k,zhn k
 | 0=>⟨(zjG (by kernel_rfl) fun _=>rfl),(zjG (by kernel_rfl) fun _=>rfl)⟩
 | k+1=>have h:=zjC k; ⟨zzD k h,zzJ k h⟩
theorem zKh:SK 187 zJc:=(zjC zd).1
theorem zD6:SK 137 zAV:=(zjC zd).2
def zk9 (k:Nat):ShC:=⟨⟨[(.ptr 0 0),(.view 1),.hole],[.cells true [.hole],.seq false],[1,1,1],[kJ,.ar kR 48,kJ]⟩,⟨[(.view 0)],[.seq false],[0],[kJ]⟩,1,[],[],true,false,(yg k)⟩
def zDg:ShC:=⟨⟨[(.ptr 0 0),(.view 1),.hole],[.cells true [.hole],.seq false],[1,1,1],[kJ,.ar kR 48,kJ]⟩,⟨[(.view 0)],[.seq false],[0],[kJ]⟩,1,[],[],true,false,fun (x:(jI×jR×jI))=>zbH x.1 x.2.1 x.2.2⟩
def ziO (k:Nat):Prop:=SK 138 (zk9 k)
def zA7 (k:Nat):List (Nat×Con):=[(138,.gen (yx [zk9 k]))]
theorem zut (k:Nat) (h:ziO k):GD (zk9 (k+1)) (zA7 k):=(gd1 h za)
def zAO (k:Nat):Env:=zgl tb gl (zA7 k) (zk9 (k+1)) Tryz.f138.ntmps
theorem zHc (k:Nat) (h:ziO k):VK (zAO k):=zh zc (zut k h)
def zyh (k:Nat):Un:=lpU 2 [8,9,10,11,12,13,14,15,16,19,20,21,22,23,24,25,26,27,28,29,30,31,32,33,34,35,36,37,38,39,40,41,42,43,44,45,46,47,48,49,50,1,51,52,53,54,55,56,57,1,17,18,7] ⟨[0,1,2,7],⟨[(.ptr 0 0),(.view 1),.hole,.hole],[.cells true [.hole],.seq false],[1,2,1,0],[kJ,.int .i64,.ar kR 48,kJ]⟩⟩ [((.exit 0),⟨[1],⟨[(.view 0)],[.seq false],[0],[kJ]⟩⟩)] (lp (y9 (yg k)) zd)
theorem zsE (k:Nat) (h:ziO k):UK (zAO k) (yQ (ze Tryz.f138) [1,0,1,0]) (zyh k):=qI .run zk (zHc k h) ob0
theorem zAJ (k:Nat) (h:ziO k):SK 138 (zk9 (k+1)):=zV (.seq .run (.seq (.seq .run (.block (.unit (zyh k)))) .run)) [.tmp 6] zc zk (zut k h) Tryz.func138 (ob1 (zsE k h) ob0)
theorem zm0:∀ k,ziO k
 | 0=>zjG (by kernel_rfl) fun _=>rfl
 | k+1=>have h:=zm0 k; zAJ k h
theorem zEF:SK 138 zDg:=(zm0 zd)
def zxn:ShC:=⟨⟨[.hole,.hole,.hole],[],[1,1,1],[kM,kJ,kJ]⟩,⟨[(.view 0),.hole,.hole],[.seq false],[2,2,0],[.bool,.bool,.sl (.cons kZ kR)]⟩,3,[],[],true,false,fun (x:(jS×jI×jI))=>zbD x.1 x.2.1 x.2.2⟩
theorem zqA:GD zxn [(92,.gen (yx [zoB])),(137,.gen (yx [zAV])),(138,.gen (yx [zDg]))]:=(gd1 znA (gd1 zD6 (gd1 zEF za)))
def zA1:=zbo tb gl zqA zxn Tryz.f72
theorem zJb:VK zA1:=zh zc zqA
def zxM:Un:=lpU 2 [36,37,40,41,42,43,44,45,46,47,48,49,50,51,52,53,54,55,14,56,57,58,6,7,8,59,60,61,62,63,64,12,38,39,13] ⟨[11,12,13],⟨[(.ptr 0 0),(.view 1),.hole],[.cells true [.hole],.seq false],[2,0,0],[.int .i64,.ar kR 48,.sl (.cons kZ kR)]⟩⟩ [((.exit 0),⟨[12],⟨[(.view 0)],[.seq false],[0],[.sl (.cons kZ kR)]⟩⟩),(.ret,⟨[6,7,8],⟨[.nilv,.hole,.hole],[],[2,2],[.bool,.bool]⟩⟩)] (lp qJ zd)
theorem ztj:UK zA1 (yQ (ze Tryz.f72) [1,1,1,1,1,0,1,0]) zxM:=qI .run zk zJb ob0
theorem zD0:SK 72 zxn:=zV (.seq .run (.seq .run (.seq .run (.seq .run (.seq .run (.seq (.seq .run (.block (.unit zxM))) .run)))))) [.tmp 6,.tmp 7,.tmp 8] zc zk zqA Tryz.func72 (ob1 ztj ob0)
def zrU:ShC:=⟨⟨[.hole,.hole],[],[1,1],[kM,kJ]⟩,⟨[.hole],[],[2],[.int .i64]⟩,1,[],[],false,false,fun (x:(jS×jI))=>ze6 x.1 x.2⟩
theorem zqF:GD zrU []:=za
def zA3:=zbo tb gl zqF zrU Tryz.f196
theorem zGf:VK zA3:=zh zc zqF
def zxt:Un:=lpU 2 [7,8,9,10,13,14,15,16,17,18,19,5,20,21,22,23,24,25,26,27,28,29,5,11,12,6] ⟨[0,1,5,6],⟨[.hole,.hole,.hole,.hole],[],[1,1,2,2],[kM,kJ,.int .i64,.int .i64]⟩⟩ [((.exit 0),⟨[5],⟨[.hole],[],[2],[.int .i64]⟩⟩)] (lp zbA zd)
theorem zsX:UK zA3 (yQ (ze Tryz.f196) [1,1,0,1,0]) zxt:=qI .run zk zGf ob0
theorem zEt:SK 196 zrU:=zV (.seq .run (.seq .run (.seq (.seq .run (.block (.unit zxt))) .run))) [.tmp 4] zc zk zqF Tryz.func196 (ob1 zsX ob0)
def zrS:ShC:=⟨⟨[.hole,.hole],[],[1,1],[kJ,kJ]⟩,⟨[.hole],[],[2],[.bool]⟩,1,[],[],false,false,fun (x:(jI×jI))=>zht x.1 x.2⟩
theorem zqI:GD zrS []:=za
def zrI:=zbo tb gl zqI zrS Tryz.f197
theorem zu4:VK zrI:=zh zc zqI
def zu8:Un:=lpU 2 [28,29,30,31,34,35,36,37,38,39,40,41,42,6,32,33,8] ⟨[0,1,5,6,8],⟨[.hole,.hole,.hole,.hole,.hole],[],[1,1,2,2,2],[kJ,kJ,.int .i64,.int .i64,.int .i64]⟩⟩ [((.exit 4),⟨[6],⟨[.hole],[],[2],[.int .i64]⟩⟩)] (lp zby zd)
theorem ztH:UK zrI (yQ (ze Tryz.f197) [1,0,1,0,0,1,0,0,1,1,0,1,0]) zu8:=qI .run zk zu4 ob0
def zu6:Un:=lpU 2 [13,14,15,16,19,20,21,22,23,24,25,26,27,6,17,18,7] ⟨[0,1,5,6,7],⟨[.hole,.hole,.hole,.hole,.hole],[],[1,1,2,2,2],[kJ,kJ,.int .i64,.int .i64,.int .i64]⟩⟩ [((.exit 2),⟨[6],⟨[.hole],[],[2],[.int .i64]⟩⟩)] (lp zbB zd)
theorem ztd:UK zrI (yQ (ze Tryz.f197) [1,0,1,0,0,1,0,0,1,0,1,0]) zu6:=qI .run zk zu4 ob0
def zwM:Un:=lpU 2 [9,10,6,7,13,14,15,16,19,20,21,22,23,24,25,26,27,6,17,18,7,8,28,29,30,31,34,35,36,37,38,39,40,41,42,6,32,33,8,43,44,4,11,12,5] ⟨[0,1,5],⟨[.hole,.hole,.hole],[],[1,1,2],[kJ,kJ,.int .i64]⟩⟩ [((.exit 0),⟨[],⟨[],[],[],[]⟩⟩),(.ret,⟨[4],⟨[.hole],[],[2],[.bool]⟩⟩)] (lp zaU zd)
theorem zsy:UK zrI (yQ (ze Tryz.f197) [1,0,1,0]) zwM:=qI (.seq .run (.seq (.block (.seq .run (.seq (.seq .run (.block (.unit zu6))) (.seq (.seq .run (.block (.unit zu8))) .run)))) .run)) zk zu4 (ob1 ztd (ob1 ztH ob0))
theorem zEW:SK 197 zrS:=zV (.seq .run (.seq (.seq .run (.block (.unit zwM))) .run)) [.tmp 4] zc zk zqI Tryz.func197 (ob1 zsy ob0)
def zlQ (k:Nat):ShC:=⟨⟨[.hole,.hole,.hole],[],[1,1,1],[kM,kJ,kJ]⟩,⟨[.hole],[],[2],[.bool]⟩,1,[],[],false,false,(zeq k)⟩
def zF2:ShC:=⟨⟨[.hole,.hole,.hole],[],[1,1,1],[kM,kJ,kJ]⟩,⟨[.hole],[],[2],[.bool]⟩,1,[],[],false,false,fun (x:(jS×jI×jI))=>ziz x.1 x.2.1 x.2.2⟩
def ziW (k:Nat):Prop:=SK 156 (zlQ k)
def zCQ (k:Nat):List (Nat×Con):=[(92,.gen (yx [zoB])),(123,.gen (yx [zpE])),(156,.gen (yx [zlQ k])),(196,.gen (yx [zrU])),(197,.gen (yx [zrS]))]
theorem zxA (k:Nat) (h:ziW k):GD (zlQ (k+1)) (zCQ k):=(gd1 znA (gd1 zlE (gd1 h (gd1 zEt (gd1 zEW za)))))
def zCW (k:Nat):Env:=zgl tb gl (zCQ k) (zlQ (k+1)) Tryz.f156.ntmps
theorem zHy (k:Nat) (h:ziW k):VK (zCW k):=zh zc (zxA k h)
def zvO (k:Nat):Un:=lpU 2 [59,60,61,62,65,66,67,68,69,70,71,72,73,74,75,76,77,78,79,80,81,82,83,84,6,63,64,11] ⟨[0,9,10,11],⟨[.hole,.hole,.hole,.hole],[],[1,0,0,2],[kM,kK,kK,.int .i64]⟩⟩ [((.exit 0),⟨[],⟨[],[],[],[]⟩⟩),(.ret,⟨[6],⟨[.hole],[],[2],[.bool]⟩⟩)] (lp (zcf (zeq k)) zd)
theorem ztE (k:Nat) (h:ziW k):UK (zCW k) (yQ (ze Tryz.f156) [1,1,1,1,1,0,1,0]) (zvO k):=qI .run zk (zHy k h) ob0
theorem zy2 (k:Nat) (h:ziW k):SK 156 (zlQ (k+1)):=zV (.seq .run (.seq .run (.seq .run (.seq .run (.seq .run (.seq (.seq .run (.block (.unit (zvO k)))) .run)))))) [.tmp 6] zc zk (zxA k h) Tryz.func156 (ob1 (ztE k h) ob0)
theorem znc:∀ k,ziW k
 | 0=>zjG (by kernel_rfl) fun _=>rfl
 | k+1=>have h:=znc k; zy2 k h
theorem zFz:SK 156 zF2:=(znc zd)
def zGI:ShC:=⟨⟨[.hole,.hole,.hole],[],[1,1,1],[kM,kJ,kJ]⟩,⟨[.hole],[],[2],[.int .i64]⟩,1,[],[],false,false,fun (x:(jS×jI×jI))=>zcX x.1 x.2.1 x.2.2⟩
theorem zFl:SK 95 zGI:=zV .run [.tmp 6] zc zk (gd1 zlE (gd1 zFz za)) Tryz.func95 ob0
def zGM:ShC:=⟨⟨[.hole,.hole],[],[1,1],[kL,.int .i64]⟩,⟨[(.view 0)],[.seq false],[0],[kL]⟩,1,[],[],true,false,fun (x:(jQ×Int))=>zcM x.1 x.2⟩
theorem zFx:SK 74 zGM:=zV .run [.tmp 4] zc zk za Tryz.func74 ob0
def zIz:ShC:=⟨⟨[.hole,.hole,.hole,.hole],[],[1,1,1,1],[kJ,.int .i64,.int .i64,kJ]⟩,⟨[(.view 0)],[.seq false],[2],[kJ]⟩,1,[],[],false,false,fun (x:(jI×Int×Int×jI))=>zd4 x.1 x.2.1 x.2.2.1 x.2.2.2⟩
theorem zES:SK 96 zIz:=zV .run [.tmp 8] zc zk za Tryz.func96 ob0
def zG4:ShC:=⟨⟨[.hole,(.agg [.hole,.hole,.hole]),(.agg [.hole,.hole,.hole])],[],[1,1,1,1,1,1,1],[kL,kL,kK,kL,kL,kK,kL]⟩,⟨[(.agg [.hole,(.view 0),(.view 1)])],[.seq false,.seq false],[1,1,1],[kL,kK,kL]⟩,1,[],[],true,false,fun (x:(jQ×jQ×jR×jQ×jQ×jR×jQ))=>zhz x.1 x.2.1 x.2.2.1 x.2.2.2.1 x.2.2.2.2.1 x.2.2.2.2.2.1 x.2.2.2.2.2.2⟩
theorem zFm:SK 86 zG4:=zV .run [.cell 6 29] zc zk za Tryz.func86 ob0
def zCc:ShC:=⟨⟨[(.agg [.hole,.hole]),(.agg [.hole,.hole])],[],[1,1,1,1],[.bool,kJ,.bool,kJ]⟩,⟨[.hole],[],[2],[.bool]⟩,1,[],[],false,false,fun (x:(Bool×jI×Bool×jI))=>zdE x.1 x.2.1 x.2.2.1 x.2.2.2⟩
theorem zE8:SK 174 zCc:=zV .run [.tmp 4] zc zk (gd1 zlE za) Tryz.func174 ob0
def zrF:ShC:=⟨⟨[.hole],[],[1],[kL]⟩,⟨[(.view 0)],[.seq false],[0],[kL]⟩,1,[],[],true,false,fun (x:jQ)=>zgY x⟩
theorem zq2:GD zrF [(174,.gen (yx [zCc]))]:=(gd1 zE8 za)
def zyj:=zbo tb gl zq2 zrF Tryz.f122
theorem zCk:VK zyj:=zh zc zq2
def zx1:Un:=lpU 2 [13,14,15,16,19,20,21,22,23,24,25,26,27,28,29,30,5,17,18,6] ⟨[0,3,4,5,6],⟨[.hole,(.view 0),.hole,.hole,.hole],[.seq false],[1,2,2,2,0],[kL,.int .i64,.bool,.int .i64,kL]⟩⟩ [((.exit 2),⟨[3,5],⟨[(.view 0),.hole],[.seq false],[2,0],[.bool,kL]⟩⟩)] (lp zbr zd)
theorem zs0:UK zyj (yQ (ze Tryz.f122) [1,1,0,1,0,0,1,0,0,1,0,1,0]) zx1:=qI .run zk zCk ob0
def zyu:Un:=lpU 2 [7,8,9,10,5,6,13,14,15,16,19,20,21,22,23,24,25,26,27,28,29,30,5,17,18,6,31,32,33,34,35,36,37,38,39,3,11,12,4] ⟨[0,3,4],⟨[.hole,(.view 0),.hole],[.seq false],[1,2,0],[kL,.int .i64,kL]⟩⟩ [((.exit 0),⟨[3],⟨[(.view 0)],[.seq false],[0],[kL]⟩⟩)] (lp zcb zd)
theorem zs4:UK zyj (yQ (ze Tryz.f122) [1,1,0,1,0]) zyu:=qI (.seq .run (.seq (.block (.seq .run (.seq (.seq .run (.block (.unit zx1))) .run))) .run)) zk zCk (ob1 zs0 ob0)
theorem zD3:SK 122 zrF:=zV (.seq .run (.seq .run (.seq (.seq .run (.block (.unit zyu))) .run))) [.tmp 2] zc zk zq2 Tryz.func122 (ob1 zs4 ob0)
def zvZ:ShC:=⟨⟨[(.agg [.hole,.hole,.hole])],[],[1,1,1],[kL,kK,kL]⟩,⟨[(.agg [.hole,.hole,(.view 0)])],[.seq false],[2,2,2],[kL,kK,kL]⟩,1,[],[],false,false,fun (x:(jQ×jR×jQ))=>ziJ x.1 x.2.1 x.2.2⟩
theorem zqp:GD zvZ [(121,.gen (yx [zso])),(122,.gen (yx [zrF])),(123,.gen (yx [zpE])),(124,.gen (yx [zwf])),(125,.gen (yx [zyG]))]:=(gd1 zwZ (gd1 zD3 (gd1 zlE (gd1 zA2 (gd1 zvh za)))))
def zoA:=zbo tb gl zqp zvZ Tryz.f61
theorem zrj:VK zoA:=zh zc zqp
def zvN:Un:=lpU 2 [67,68,69,70,71,72,73,76,77,78,79,80,81,82,11,83,84,85,86,87,88,89,90,91,92,93,94,95,96,97,98,99,100,101,7,74,75,10] ⟨[2,3,7,8,9,10],⟨[(.ptr 0 0),(.ptr 1 0),(.view 2),.hole,.hole,.hole],[.cells true [.nilv,.nilv,.nilv],.cells true [.hole,.hole,.hole],.seq false],[0,2,2,0,0,0,2],[kK,.int .i64,.int .i64,kL,kK,kL,.sl (.cons kZ kR)]⟩⟩ [((.exit 6),⟨[7],⟨[(.view 0)],[.seq false],[2],[.sl (.cons kZ kR)]⟩⟩)] (lp zaT zd)
theorem zsR:UK zoA (yQ (ze Tryz.f61) [1,1,1,1,1,0,1,0,0,1,0,0,1,0]) zvN:=qI .run zk zrj ob0
def zvB:Un:=lpU 2 [26,27,28,29,30,33,34,35,36,37,38,39,40,41,42,43,44,45,46,5,31,32,6] ⟨[1,2,3,4,5,6],⟨[(.ptr 0 0),(.ptr 1 0),(.ptr 2 0),.hole,.hole,.hole],[.cells true [.hole,.hole,.hole],.cells true [.nilv,.nilv,.nilv],.cells false [.hole,(.view 3),.hole],.seq false],[2,2,2,1,1,1,0,0,0],[.int .i64,.bool,.int .i64,kL,kK,kL,kL,kL,kK]⟩⟩ [((.exit 2),⟨[3,5],⟨[(.ptr 0 0),.hole],[.cells false [.hole,(.view 1),.hole],.seq false],[2,0,0,0],[.bool,kL,kL,kK]⟩⟩)] (lp zbt zd)
theorem ztB:UK zoA (yQ (ze Tryz.f61) [1,1,0,1,0,0,1,0,0,1,0,1,0]) zvB:=qI .run zk zrj ob0
def zvL:Un:=lpU 2 [61,62,63,64,10,67,68,69,70,71,72,73,76,77,78,79,80,81,82,11,83,84,85,86,87,88,89,90,91,92,93,94,95,96,97,98,99,100,101,7,74,75,10,65,66,9] ⟨[2,3,7,8,9],⟨[(.ptr 0 0),(.ptr 1 0),(.view 2),.hole,.hole],[.cells true [.nilv,.nilv,.nilv],.cells true [.hole,.hole,.hole],.seq false],[0,2,0,0,0,2],[kK,.int .i64,kL,kK,kL,.sl (.cons kZ kR)]⟩⟩ [((.exit 4),⟨[7],⟨[(.view 0)],[.seq false],[2],[.sl (.cons kZ kR)]⟩⟩)] (lp zcl zd)
theorem zsI:UK zoA (yQ (ze Tryz.f61) [1,1,1,1,1,0,1,0]) zvL:=qI (.seq .run (.seq (.block (.seq .run (.block (.unit zvN)))) .run)) zk zrj (ob1 zsR ob0)
def zxR:Un:=lpU 2 [19,20,21,22,23,5,6,26,27,28,29,30,33,34,35,36,37,38,39,40,41,42,43,44,45,46,5,31,32,6,47,48,49,50,51,52,53,54,55,56,57,58,24,25,4] ⟨[1,2,3,4],⟨[(.ptr 0 0),(.ptr 1 0),(.ptr 2 0),.hole],[.cells true [.hole,.hole,.hole],.cells true [.nilv,.nilv,.nilv],.cells false [.hole,(.view 3),.hole],.seq false],[2,1,1,1,0,0,0],[.int .i64,kL,kK,kL,kL,kL,kK]⟩⟩ [((.exit 0),⟨[3],⟨[(.ptr 0 0)],[.cells false [.hole,(.view 1),.hole],.seq false],[0,0,0],[kL,kL,kK]⟩⟩)] (lp zcd zd)
theorem zsV:UK zoA (yQ (ze Tryz.f61) [1,1,0,1,0]) zxR:=qI (.seq .run (.seq (.block (.seq .run (.seq (.seq .run (.block (.unit zvB))) .run))) .run)) zk zrj (ob1 ztB ob0)
theorem zEI:SK 61 zvZ:=zV (.seq .run (.seq .run (.seq (.seq .run (.block (.unit zxR))) (.seq .run (.seq .run (.seq (.seq .run (.block (.unit zvL))) .run)))))) [.cell 2 29] zc zk zqp Tryz.func61 (ob1 zsV (ob1 zsI ob0))
def zHd:ShC:=⟨⟨[.hole,.hole,(.agg [.hole,.hole,.hole])],[],[1,1,1,1,1],[kM,.sl (.cons kZ kR),kL,kK,kL]⟩,⟨[(.agg [.hole,.hole,(.view 0)]),.hole],[.seq false],[2,2,2,2],[kL,kK,.bool,kL]⟩,2,[],[],false,false,fun (x:(jS×(List (Int×jI))×jQ×jR×jQ))=>ze8 x.1 x.2.1 x.2.2.1 x.2.2.2.1 x.2.2.2.2⟩
theorem zEu:SK 73 zHd:=zV .run [.cell 6 29,.tmp 7] zc zk (gd1 zBH (gd1 zEI (gd1 zvh za))) Tryz.func73 ob0
def zBL:ShC:=⟨⟨[.hole,(.agg [.hole,.hole,.hole]),.hole,.hole,(.agg [.hole,.hole,.hole]),.hole,.hole],[],[1,1,1,1,1,1,1,1,1,1,1],[kM,kL,kK,kL,.int .i64,.int .i64,kL,kK,kL,.int .i64,.int .i64]⟩,⟨[(.agg [.hole,.hole,(.view 0)]),.hole,.hole],[.seq false],[2,2,2,2,2],[kL,kK,.bool,.int .i64,kL]⟩,3,[],[],false,false,fun (x:(jS×jQ×jR×jQ×Int×Int×jQ×jR×jQ×Int×Int))=>yl x.1 x.2.1 x.2.2.1 x.2.2.2.1 x.2.2.2.2.1 x.2.2.2.2.2.1 x.2.2.2.2.2.2.1 x.2.2.2.2.2.2.2.1 x.2.2.2.2.2.2.2.2.1 x.2.2.2.2.2.2.2.2.2.1 x.2.2.2.2.2.2.2.2.2.2⟩
theorem zED:SK 37 zBL:=zV .run [.cell 14 29,.tmp 15,.tmp 16] zc zk (gd1 zBH (gd1 zCh (gd1 zD0 (gd1 zEu (gd1 zFx (gd1 zGW (gd1 zFm (gd1 zI9 (gd1 znA (gd1 zB2 (gd1 zCq (gd1 zFl (gd1 zES za))))))))))))) Tryz.func37 ob0
def zoZ:ShC:=⟨⟨[.hole,.hole],[],[1,1],[kJ,kJ]⟩,⟨[.hole],[],[2],[.bool]⟩,1,[],[],false,false,fun (x:(jI×jI))=>zaV x.1 x.2⟩
theorem zqB:GD zoZ []:=za
def zBU:=zbo tb gl zqB zoZ Tryz.f43
theorem zIJ:VK zBU:=zh zc zqB
def zxe:Un:=lpU 2 [11,12,13,14,17,18,19,20,21,22,23,24,25,4,15,16,5] ⟨[0,1,5],⟨[.hole,.hole,.hole],[],[1,1,2],[kJ,kJ,.int .i64]⟩⟩ [((.exit 0),⟨[],⟨[],[],[],[]⟩⟩),(.ret,⟨[4],⟨[.hole],[],[2],[.bool]⟩⟩)] (lp zag zd)
theorem zsw:UK zBU (yQ (ze Tryz.f43) [1,1,0,1,0]) zxe:=qI .run zk zIJ ob0
theorem zxF:SK 43 zoZ:=zV (.seq .run (.seq .run (.seq (.seq .run (.block (.unit zxe))) .run))) [.tmp 4] zc zk zqB Tryz.func43 (ob1 zsw ob0)
def zuC:ShC:=⟨⟨[.hole,.hole],[],[1,1],[kL,kL]⟩,⟨[.hole],[],[2],[.bool]⟩,1,[],[],false,false,fun (x:(jQ×jQ))=>zcN x.1 x.2⟩
theorem zp4:GD zuC [(43,.gen (yx [zoZ]))]:=(gd1 zxF za)
def zDf:=zbo tb gl zp4 zuC Tryz.f20
theorem zGQ:VK zDf:=zh zc zp4
def zvn:Un:=lpU 2 [11,12,13,14,17,18,19,20,21,22,23,24,25,26,27,28,29,30,31,32,33,34,35,36,37,38,39,40,41,4,15,16,5] ⟨[0,1,5],⟨[.hole,.hole,.hole],[],[1,1,2],[kL,kL,.int .i64]⟩⟩ [((.exit 0),⟨[],⟨[],[],[],[]⟩⟩),(.ret,⟨[4],⟨[.hole],[],[2],[.bool]⟩⟩)] (lp zai zd)
theorem zsN:UK zDf (yQ (ze Tryz.f20) [1,1,0,1,0]) zvn:=qI .run zk zGQ ob0
theorem zER:SK 20 zuC:=zV (.seq .run (.seq .run (.seq (.seq .run (.block (.unit zvn))) .run))) [.tmp 4] zc zk zp4 Tryz.func20 (ob1 zsN ob0)
def zyg:ShC:=⟨⟨[.hole,.hole],[],[1,1],[kK,kK]⟩,⟨[.hole],[],[2],[.bool]⟩,1,[],[],false,false,fun (x:(jR×jR))=>zd3 x.1 x.2⟩
theorem zpR:GD zyg [(43,.gen (yx [zoZ]))]:=(gd1 zxF za)
def zBQ:=zbo tb gl zpR zyg Tryz.f62
theorem zII:VK zBQ:=zh zc zpR
def ztW:Un:=lpU 2 [11,12,13,14,17,18,19,20,21,22,23,24,25,26,4,15,16,5] ⟨[0,1,5],⟨[.hole,.hole,.hole],[],[1,1,2],[kK,kK,.int .i64]⟩⟩ [((.exit 0),⟨[],⟨[],[],[],[]⟩⟩),(.ret,⟨[4],⟨[.hole],[],[2],[.bool]⟩⟩)] (lp zaj zd)
theorem zsD:UK zBQ (yQ (ze Tryz.f62) [1,1,0,1,0]) ztW:=qI .run zk zII ob0
theorem zDr:SK 62 zyg:=zV (.seq .run (.seq .run (.seq (.seq .run (.block (.unit ztW))) .run))) [.tmp 4] zc zk zpR Tryz.func62 (ob1 zsD ob0)
def zCH:ShC:=⟨⟨[(.agg [.hole,.hole,.hole]),(.agg [.hole,.hole,.hole])],[],[1,1,1,1,1,1],[kL,kK,kL,kL,kK,kL]⟩,⟨[.hole],[],[2],[.bool]⟩,1,[],[],false,false,fun (x:(jQ×jR×jQ×jQ×jR×jQ))=>zZ x.1 x.2.1 x.2.2.1 x.2.2.2.1 x.2.2.2.2.1 x.2.2.2.2.2⟩
theorem zqW:SK 17 zCH:=zV .run [.tmp 4] zc zk (gd1 zER (gd1 zDr za)) Tryz.func17 ob0
def zCY:ShC:=⟨⟨[.hole],[],[1],[.int .i64]⟩,⟨[.hole],[],[2],[.int .i64]⟩,1,[],[],false,false,fun (x:Int)=>zeJ x⟩
theorem zvP:SK 18 zCY:=zV .run [.tmp 2] zc zk za Tryz.func18 ob0
def zGj:ShC:=⟨⟨[],[],[],[]⟩,⟨[(.view 0)],[.seq false],[2],[kM]⟩,1,[],[],false,false,fun (_:Unit)=>zcW⟩
theorem zEH:SK 97 zGj:=zV .run [.tmp 0] zc zk za Tryz.func97 ob0
def zHo:ShC:=⟨⟨[.hole,(.agg [.hole,.hole,.hole]),.hole],[],[1,1,1,1,1],[kM,kL,kK,kL,.int .i64]⟩,⟨[(.agg [.hole,.hole,(.view 0)]),.hole,.hole],[.seq false],[2,2,2,2,2],[kL,kK,.bool,.int .i64,kL]⟩,3,[],[],false,true,fun (x:(jS×jQ×jR×jQ×Int))=>zl6 x.1 x.2.1 x.2.2.1 x.2.2.2.1 x.2.2.2.2⟩
theorem zD4:SK 106 zHo:=zV .run [.cell 6 29,.tmp 7,.tmp 8] zc zk (gdG zBA (gd1 zBJ (gdG zCs (gd1 zCK (gd1 zBK za))))) Tryz.func106 ob0
def zIs:ShC:=⟨⟨[.hole,(.agg [.hole,.hole,.hole]),.hole],[],[1,1,1,1,1],[kM,kL,kK,kL,.int .i64]⟩,⟨[(.agg [.hole,.hole,(.view 0)]),.hole,.hole],[.seq false],[2,2,2,2,2],[kL,kK,.bool,.int .i64,kL]⟩,3,[],[],false,true,fun (x:(jS×jQ×jR×jQ×Int))=>zh0 x.1 x.2.1 x.2.2.1 x.2.2.2.1 x.2.2.2.2⟩
theorem zFb:SK 44 zIs:=zV .run [.cell 6 29,.tmp 7,.tmp 8] zc zk (gdG znl (gd1 zvt (gdG zD4 za))) Tryz.func44 ob0
def zCv:ShC:=⟨⟨[(.agg [.hole,.hole]),(.ptr 0 0)],[.cells true [.hole]],[1,1,1],[.bool,kJ,kM]⟩,⟨[.hole],[],[2],[.bool]⟩,1,[],[],false,true,fun (x:(Bool×jI×jS))=>zkQ x.1 x.2.1 x.2.2⟩
theorem zDV:SK 141 zCv:=zV .run [.tmp 3] zc zk (gdG zvl za) Tryz.func141 ob0
def zxk:ShC:=⟨⟨[.hole,(.clo 141 [(.ptr 0 0)])],[.cells true [.hole]],[1,1],[kL,kM]⟩,⟨[.hole],[],[2],[.int .i64]⟩,1,[],[],false,true,fun (x:(jQ×jS))=>zeF x.1 x.2⟩
theorem zqb:GD zxk [(141,.gen (yx [zCv]))]:=(gdG zDV za)
def zBO:=zbo tb gl zqb zxk Tryz.f183
theorem zGJ:VK zBO:=zh zc zqb
def zux:Un:=lpU 2 [9,10,5,11,12,13,14,15,16,17,4,18,8] ⟨[0,1,7,8],⟨[.hole,(.clo 141 [(.ptr 0 0)]),.hole,.hole],[.cells true [.hole]],[1,2,2,1],[kL,.int .i64,.int .i64,kM]⟩⟩ [((.exit 0),⟨[],⟨[],[],[],[]⟩⟩),(.ret,⟨[4],⟨[.hole],[],[2],[.int .i64]⟩⟩)] (lp zdq zd)
theorem zsB:UK zBO (yQ (ze Tryz.f183) [1,0,1,0]) zux:=qI .run zk zGJ ob0
theorem zEB:SK 183 zxk:=zV (.seq .run (.seq (.seq .run (.block (.unit zux))) .run)) [.tmp 4] zc zk zqb Tryz.func183 (ob1 zsB ob0)
def zBk:ShC:=⟨⟨[.hole,(.clo 141 [(.ptr 0 0)])],[.cells true [.hole]],[1,1],[kL,kM]⟩,⟨[.hole],[],[2],[.bool]⟩,1,[],[],false,true,fun (x:(jQ×jS))=>zdt x.1 x.2⟩
theorem zEL:SK 133 zBk:=zV .run [.tmp 4] zc zk (gdG zEB za) Tryz.func133 ob0
def zGm:ShC:=⟨⟨[.hole,(.agg [.hole,.hole]),(.agg [.hole,.hole])],[],[1,1,1,1,1],[kM,.bool,kJ,.bool,kJ]⟩,⟨[.hole,.hole],[],[2,2],[.int .i64,.int .i64]⟩,2,[],[],false,true,fun (x:(jS×Bool×jI×Bool×jI))=>zlr x.1 x.2.1 x.2.2.1 x.2.2.2.1 x.2.2.2.2⟩
theorem zDz:SK 144 zGm:=zV .run [.tmp 6,.tmp 7] zc zk (gdG zB8 (gdG zvl za)) Tryz.func144 ob0
def zBM:ShC:=⟨⟨[(.agg [.hole,.hole]),(.ptr 0 0),(.ptr 1 0)],[.cells true [.hole],.cells true [.hole,.hole]],[1,1,1,1,1],[.bool,kJ,kM,.bool,kJ]⟩,⟨[.hole],[],[2],[.bool]⟩,1,[],[],false,true,fun (x:(Bool×jI×jS×Bool×jI))=>zkZ x.1 x.2.1 x.2.2.1 x.2.2.2.1 x.2.2.2.2⟩
theorem zDD:SK 143 zBM:=zV .run [.tmp 4] zc zk (gdG zDz za) Tryz.func143 ob0
def zvR:ShC:=⟨⟨[.hole,(.clo 143 [(.ptr 0 0),(.ptr 1 0)])],[.cells true [.hole],.cells true [.hole,.hole]],[1,1,1,1],[kL,kM,.bool,kJ]⟩,⟨[.hole],[],[2],[.int .i64]⟩,1,[],[],false,true,fun (x:(jQ×jS×Bool×jI))=>zeH x.1 x.2.1 x.2.2.1 x.2.2.2⟩
theorem zpZ:GD zvR [(143,.gen (yx [zBM]))]:=(gdG zDD za)
def zCa:=zbo tb gl zpZ zvR Tryz.f183
theorem zGw:VK zCa:=zh zc zpZ
def zuN:Un:=lpU 2 [9,10,5,11,12,13,14,15,16,17,4,18,8] ⟨[0,1,7,8],⟨[.hole,(.clo 143 [(.ptr 0 0),(.ptr 1 0)]),.hole,.hole],[.cells true [.hole],.cells true [.hole,.hole]],[1,2,2,1,2,1],[kL,.int .i64,.int .i64,kM,.bool,kJ]⟩⟩ [((.exit 0),⟨[],⟨[],[],[],[]⟩⟩),(.ret,⟨[4],⟨[.hole],[],[2],[.int .i64]⟩⟩)] (lp zdB zd)
theorem zti:UK zCa (yQ (ze Tryz.f183) [1,0,1,0]) zuN:=qI .run zk zGw ob0
theorem zDt:SK 183 zvR:=zV (.seq .run (.seq (.seq .run (.block (.unit zuN))) .run)) [.tmp 4] zc zk zpZ Tryz.func183 (ob1 zti ob0)
def zB1:ShC:=⟨⟨[.hole,(.clo 143 [(.ptr 0 0),(.ptr 1 0)])],[.cells true [.hole],.cells true [.hole,.hole]],[1,1,1,1],[kL,kM,.bool,kJ]⟩,⟨[.hole],[],[2],[.bool]⟩,1,[],[],false,true,fun (x:(jQ×jS×Bool×jI))=>zdA x.1 x.2.1 x.2.2.1 x.2.2.2⟩
theorem zEp:SK 133 zB1:=zV .run [.tmp 4] zc zk (gdG zDt za) Tryz.func133 ob0
def zrw:ShC:=⟨⟨[.hole,.hole],[],[1,1],[kM,kL]⟩,⟨[(.view 0),.hole],[.seq false],[2,2],[.int .i64,kJ]⟩,2,[],[],false,true,fun (x:(jS×jQ))=>znJ x.1 x.2⟩
theorem zqd:GD zrw [(52,.gen (yx [zGT])),(133,.gen (yx [zBk,zB1]))]:=(gdG zE0 (zhy (zky (ziK zEL (ziK zEp zkE))) za))
def zDa:=zbo tb gl zqd zrw Tryz.f77
theorem zFW:VK zDa:=zh zc zqd
def zv1:Un:=lpU 2 [20,21,22,23,8,7,24,25,26,27,28,29,30,31,6,32,19] ⟨[1,2,6,17,18,19],⟨[.hole,(.ptr 0 0),(.view 1),.hole,.hole,.hole],[.cells true [.hole],.seq false],[1,1,2,2,1,2],[kL,kL,.int .i64,.int .i64,kM,kJ]⟩⟩ [((.exit 0),⟨[6],⟨[(.view 0)],[.seq false],[2],[kJ]⟩⟩)] (lp zlF zd)
theorem ztG:UK zDa (yQ (ze Tryz.f77) [1,1,1,0,1,0]) zv1:=qI .run zk zFW ob0
theorem zE3:SK 77 zrw:=zV (.seq .run (.seq .run (.seq .run (.seq (.seq .run (.block (.unit zv1))) .run)))) [.tmp 4,.tmp 5] zc zk zqd Tryz.func77 (ob1 ztG ob0)
def zxz:ShC:=⟨⟨[.hole,(.ptr 0 0)],[.cells true [.hole,.hole,.hole]],[1,1,1,1],[.int .i64,kL,kK,kL]⟩,⟨[.hole],[],[2],[.bool]⟩,1,[],[],false,false,fun (x:(Int×jQ×jR×jQ))=>zik x.1 x.2.1 x.2.2.1 x.2.2.2⟩
theorem zuX:SK 99 zxz:=zV .run [.tmp 3] zc zk (gd1 zvt za) Tryz.func99 ob0
def zrk:ShC:=⟨⟨[.hole,(.clo 99 [(.ptr 0 0)])],[.cells true [.hole,.hole,.hole]],[1,1,1,1],[kJ,kL,kK,kL]⟩,⟨[.hole],[],[2],[.int .i64]⟩,1,[],[],false,false,fun (x:(jI×jQ×jR×jQ))=>zez x.1 x.2.1 x.2.2.1 x.2.2.2⟩
theorem zqL:GD zrk [(99,.gen (yx [zxz]))]:=(gd1 zuX za)
def zBi:=zbo tb gl zqL zrk Tryz.f157
theorem zIB:VK zBi:=zh zc zqL
def zuK:Un:=lpU 2 [9,10,5,11,12,13,14,15,16,17,4,18,8] ⟨[0,1,7,8],⟨[.hole,(.clo 99 [(.ptr 0 0)]),.hole,.hole],[.cells true [.hole,.hole,.hole]],[1,2,2,1,1,1],[kJ,.int .i64,.int .i64,kL,kK,kL]⟩⟩ [((.exit 0),⟨[],⟨[],[],[],[]⟩⟩),(.ret,⟨[4],⟨[.hole],[],[2],[.int .i64]⟩⟩)] (lp zdD zd)
theorem zto:UK zBi (yQ (ze Tryz.f157) [1,0,1,0]) zuK:=qI .run zk zIB ob0
theorem zEz:SK 157 zrk:=zV (.seq .run (.seq (.seq .run (.block (.unit zuK))) .run)) [.tmp 4] zc zk zqL Tryz.func157 (ob1 zto ob0)
def zsj:ShC:=⟨⟨[(.view 0),(.clo 99 [(.ptr 1 0)])],[.seq false,.cells true [.hole,.hole,.hole]],[1,1,1,1],[kJ,kL,kK,kL]⟩,⟨[(.view 0)],[.seq false],[0],[kJ]⟩,1,[],[],true,false,fun (x:(jI×jQ×jR×jQ))=>zec x.1 x.2.1 x.2.2.1 x.2.2.2⟩
theorem zqU:GD zsj [(99,.gen (yx [zxz])),(157,.gen (yx [zrk])),(1000041,.gen (yx []))]:=(gd1 zuX (gd1 zEz (gd0 1000041 za)))
def zBz:=zbo tb gl zqU zsj Tryz.f98
theorem zIA:VK zBz:=zh zc zqU
def zw7:Un:=lpU 2 [16,17,18,19,22,23,24,25,7,26,27,28,29,30,31,32,33,34,35,5,20,21,6] ⟨[0,1,5,6],⟨[(.view 0),(.clo 99 [(.ptr 1 0)]),.hole,.hole],[.seq false,.cells true [.hole,.hole,.hole]],[2,2,0,1,1,1],[.int .i64,.int .i64,kJ,kL,kK,kL]⟩⟩ [((.exit 0),⟨[0,5],⟨[(.view 0),.hole],[.seq false],[2,0],[.int .i64,kJ]⟩⟩)] (lp zcT zd)
theorem zsZ:UK zBz (yQ (ze Tryz.f98) [1,1,1,0,1,0]) zw7:=qI .run zk zIA ob0
theorem zEk:SK 98 zsj:=zV (.seq .run (.seq .run (.seq .run (.seq (.seq .run (.block (.unit zw7))) .run)))) [.tmp 4] zc zk zqU Tryz.func98 (ob1 zsZ ob0)
def zBf:ShC:=⟨⟨[.hole,(.agg [.hole,.hole])],[],[1,1,1],[kM,.bool,kJ]⟩,⟨[.hole],[],[2],[.bool]⟩,1,[],[],false,false,fun (x:(jS×Bool×jI))=>zgw x.1 x.2.1 x.2.2⟩
theorem zEo:SK 190 zBf:=zV .run [.tmp 4] zc zk (gd1 zmN (gd1 zrD za)) Tryz.func190 ob0
def zBs:ShC:=⟨⟨[(.agg [.hole,.hole]),(.ptr 0 0)],[.cells true [.hole,.hole]],[1,1,1,1],[.bool,kJ,.bool,kJ]⟩,⟨[.hole],[],[2],[.bool]⟩,1,[],[],false,false,fun (x:(Bool×jI×Bool×jI))=>ze4 x.1 x.2.1 x.2.2.1 x.2.2.2⟩
theorem zEr:SK 191 zBs:=zV .run [.tmp 3] zc zk (gd1 zmN za) Tryz.func191 ob0
def zuS:ShC:=⟨⟨[.hole,(.clo 191 [(.ptr 0 0)])],[.cells true [.hole,.hole]],[1,1,1],[kL,.bool,kJ]⟩,⟨[.hole],[],[2],[.int .i64]⟩,1,[],[],false,false,fun (x:(jQ×Bool×jI))=>zeI x.1 x.2.1 x.2.2⟩
theorem zp5:GD zuS [(191,.gen (yx [zBs]))]:=(gd1 zEr za)
def zCL:=zbo tb gl zp5 zuS Tryz.f183
theorem zHN:VK zCL:=zh zc zp5
def zuJ:Un:=lpU 2 [9,10,5,11,12,13,14,15,16,17,4,18,8] ⟨[0,1,7,8],⟨[.hole,(.clo 191 [(.ptr 0 0)]),.hole,.hole],[.cells true [.hole,.hole]],[1,2,2,2,1],[kL,.int .i64,.int .i64,.bool,kJ]⟩⟩ [((.exit 0),⟨[],⟨[],[],[],[]⟩⟩),(.ret,⟨[4],⟨[.hole],[],[2],[.int .i64]⟩⟩)] (lp zdp zd)
theorem zsP:UK zCL (yQ (ze Tryz.f183) [1,0,1,0]) zuJ:=qI .run zk zHN ob0
theorem zFj:SK 183 zuS:=zV (.seq .run (.seq (.seq .run (.block (.unit zuJ))) .run)) [.tmp 4] zc zk zp5 Tryz.func183 (ob1 zsP ob0)
def zCr:ShC:=⟨⟨[.hole,(.clo 191 [(.ptr 0 0)])],[.cells true [.hole,.hole]],[1,1,1],[kL,.bool,kJ]⟩,⟨[.hole],[],[2],[.bool]⟩,1,[],[],false,false,fun (x:(jQ×Bool×jI))=>zdu x.1 x.2.1 x.2.2⟩
theorem zFr:SK 133 zCr:=zV .run [.tmp 4] zc zk (gd1 zFj za) Tryz.func133 ob0
def zu0:ShC:=⟨⟨[.hole,(.agg [.hole,.hole,.hole])],[],[1,1,1,1],[kM,kL,kK,kL]⟩,⟨[.hole,.hole],[],[2,2],[.bool,.int .i64]⟩,2,[],[],false,true,fun (x:(jS×jQ×jR×jQ))=>zhQ x.1 x.2.1 x.2.2.1 x.2.2.2⟩
theorem zqs:GD zu0 [(42,.gen (yx [zzL])),(133,.gen (yx [zCr])),(190,.gen (yx [zBf]))]:=(gdG znl (gd1 zFr (gd1 zEo za)))
def zCg:=zbo tb gl zqs zu0 Tryz.f146
theorem zHZ:VK zCg:=zh zc zqs
def zyL:Un:=lpU 2 [16,17,18,7,19,20,21,22,23,24,25,26,27,4,5,28,15] ⟨[0,3,13,14,15],⟨[.hole,(.ptr 0 0),.hole,.hole,.hole],[.cells true [.hole,.hole,.hole]],[1,1,2,2,1,1,1],[kM,kL,.int .i64,.int .i64,kL,kK,kL]⟩⟩ [((.exit 0),⟨[],⟨[],[],[],[]⟩⟩),(.ret,⟨[4,5],⟨[.hole,.hole],[],[2,2],[.bool,.int .i64]⟩⟩)] (lp ze9 zd)
theorem zs5:UK zCg (yQ (ze Tryz.f146) [1,1,0,1,0]) zyL:=qI .run zk zHZ ob0
theorem zDR:SK 146 zu0:=zV (.seq .run (.seq .run (.seq (.seq .run (.block (.unit zyL))) .run))) [.tmp 4,.tmp 5] zc zk zqs Tryz.func146 (ob1 zs5 ob0)
def zCT:ShC:=⟨⟨[(.ptr 0 0),(.agg [.hole,.hole,.hole,.hole,.hole,.hole,.hole,.hole,.hole,.hole]),(.agg [.hole,.hole,.hole]),.hole,.hole],[.cells false [.hole,(.view 1),.hole],.seq false],[1,1,1,1,1,1,1,2,2,2,2,2,2,1,1,1,1,2],[.int .i64,.int .i64,.int .i64,.int .i64,.int .i64,.int .i64,.int .i64,kL,kK,kL,kL,kK,kL,.bool,.int .i64,kM,.int .i64,.sl (.cons kZ (.cons kZ (.cons kZ (.cons kZ (.cons kZ (.cons kZ (.cons kZ (.cons kL (.cons kK (.one kL))))))))))]⟩,⟨[(.ptr 0 0)],[.cells false [.hole,(.view 1),.hole],.seq false],[1,2,2],[kM,.int .i64,.sl (.cons kZ (.cons kZ (.cons kZ (.cons kZ (.cons kZ (.cons kZ (.cons kZ (.cons kL (.cons kK (.one kL))))))))))]⟩,0,[0],[(0,0)],true,true,fun (x:(Int×Int×Int×Int×Int×Int×Int×jQ×jR×jQ×jQ×jR×jQ×Bool×Int×jS×Int×jT))=>zcP x.1 x.2.1 x.2.2.1 x.2.2.2.1 x.2.2.2.2.1 x.2.2.2.2.2.1 x.2.2.2.2.2.2.1 x.2.2.2.2.2.2.2.1 x.2.2.2.2.2.2.2.2.1 x.2.2.2.2.2.2.2.2.2.1 x.2.2.2.2.2.2.2.2.2.2.1 x.2.2.2.2.2.2.2.2.2.2.2.1 x.2.2.2.2.2.2.2.2.2.2.2.2.1 x.2.2.2.2.2.2.2.2.2.2.2.2.2.1 x.2.2.2.2.2.2.2.2.2.2.2.2.2.2.1 x.2.2.2.2.2.2.2.2.2.2.2.2.2.2.2.1 x.2.2.2.2.2.2.2.2.2.2.2.2.2.2.2.2.1 x.2.2.2.2.2.2.2.2.2.2.2.2.2.2.2.2.2⟩
theorem zFL:SK 79 zCT:=zV (.seq .run (.seq .run (.seq .run (.seq .run (.hide [[9],[],[],[],[],[],[],[],[],[],[]]))))) [] zc zk (gdG zDR za) Tryz.func79 ob0
def zxB:ShC:=⟨⟨[.hole,(.agg [.hole,.hole,.hole]),.hole,(.agg [.hole,.hole,.hole]),.hole],[],[1,1,1,1,1,1,1,1,1],[kM,kL,kK,kL,.int .i64,kL,kK,kL,.int .i64]⟩,⟨[(.view 0),.hole,.hole],[.seq false],[2,2,2],[.int .i64,.int .i64,.sl (.cons kZ (.cons kZ (.cons kZ (.cons kZ (.cons kZ (.cons kZ (.cons kZ (.cons kL (.cons kK (.one kL))))))))))]⟩,3,[],[],false,true,fun (x:(jS×jQ×jR×jQ×Int×jQ×jR×jQ×Int))=>zrG x.1 x.2.1 x.2.2.1 x.2.2.2.1 x.2.2.2.2.1 x.2.2.2.2.2.1 x.2.2.2.2.2.2.1 x.2.2.2.2.2.2.2.1 x.2.2.2.2.2.2.2.2⟩
theorem zpT:GD zxB [(42,.gen (yx [zzL])),(77,.gen (yx [zrw])),(79,.gen (yx [zCT])),(90,.gen (yx [zG3])),(98,.gen (yx [zsj]))]:=(gdG znl (gdG zE3 (gdG zFL (gdG zBX (gd1 zEk za)))))
def zng:=zbo tb gl zpT zxB Tryz.f39
theorem zrz:VK zng:=zh zc zpT
def zxm:Un:=scU zng [23,71,72,73,74,75,76,77,78,79,81,82,83,84,85,86,87,88,80,89,90,91,24,25,26,92,93,94,95,96,97,98,99,100,101,102,103,104,23] [(.goto 0,⟨[0,2,4,6,8,15,17,19,20,22,23,56,57,58,62,65,66,67],⟨[.hole,.hole,.hole,(.ptr 0 0),(.ptr 1 0),.hole,(.ptr 2 0),.hole,.hole,.hole,.hole,.hole,.hole,.hole,.hole,.hole,.hole,.hole],[.cells true [.hole,.hole,.hole],.cells true [.hole,.hole,.hole],.cells false [.hole,(.view 3),.hole],.seq false],[1,2,2,2,2,2,2,2,0,2,2,2,2,2,2,1,1,1,1,1,1,0,2,2],[kM,.int .i64,.int .i64,kJ,.int .i64,.int .i64,.int .i64,.int .i64,kJ,.int .i64,.int .i64,.int .i64,kJ,.int .i64,.int .i64,kL,kK,kL,kL,kK,kL,kM,.int .i64,.sl (.cons kZ (.cons kZ (.cons kZ (.cons kZ (.cons kZ (.cons kZ (.cons kZ (.cons kL (.cons kK (.one kL))))))))))]⟩⟩)] [(.normal,⟨[17],⟨[(.ptr 0 0)],[.cells false [.hole,(.view 1),.hole],.seq false],[0,2,2],[kM,.int .i64,.sl (.cons kZ (.cons kZ (.cons kZ (.cons kZ (.cons kZ (.cons kZ (.cons kZ (.cons kL (.cons kK (.one kL))))))))))]⟩⟩)] (zrH (yQ (ze Tryz.f39) [1,1,1,1,1,1,0,1,0,0,1,1,0,0,1,1,0,0,1,1,0,0,1,1,0,0,1,1,0,0,1])) .run (lp zk1 zd)
theorem ztl:UK zng (yQ (ze Tryz.f39) [1,1,1,1,1,1,0,1,0,0,1,1,0,0,1,1,0,0,1,1,0,0,1,1,0,0,1,1,0,0,1]) zxm:=zJp [] zk zrz ob0 zJk
def ztS:Un:=lpU 2 [68,69,70,22,23,71,72,73,74,75,76,77,78,79,81,82,83,84,85,86,87,88,80,89,90,91,24,25,26,92,93,94,95,96,97,98,99,100,101,102,103,104,23,105,67] ⟨[0,2,4,6,8,15,17,19,20,56,57,58,62,65,66,67],⟨[.hole,.hole,.hole,(.ptr 0 0),(.ptr 1 0),.hole,(.ptr 2 0),.hole,.hole,.hole,.hole,.hole,.hole,.hole,.hole,.hole],[.cells true [.hole,.hole,.hole],.cells true [.hole,.hole,.hole],.cells false [.hole,(.view 3),.hole],.seq false],[1,2,2,2,2,2,0,2,2,2,2,2,2,1,1,1,1,1,1,0,2,2],[kM,.int .i64,.int .i64,kJ,.int .i64,.int .i64,kJ,.int .i64,.int .i64,.int .i64,kJ,.int .i64,.int .i64,kL,kK,kL,kL,kK,kL,kM,.int .i64,.sl (.cons kZ (.cons kZ (.cons kZ (.cons kZ (.cons kZ (.cons kZ (.cons kZ (.cons kL (.cons kK (.one kL))))))))))]⟩⟩ [((.exit 4),⟨[17],⟨[(.ptr 0 0)],[.cells false [.hole,(.view 1),.hole],.seq false],[0,2,2],[kM,.int .i64,.sl (.cons kZ (.cons kZ (.cons kZ (.cons kZ (.cons kZ (.cons kZ (.cons kZ (.cons kL (.cons kK (.one kL))))))))))]⟩⟩)] (lp zlG zd)
theorem ztI:UK zng (yQ (ze Tryz.f39) [1,1,1,1,1,1,0,1,0,0,1,1,0,0,1,1,0,0,1,1,0,0,1,1,0]) ztS:=qI (.seq .run (.seq .run (.seq (.block (.seq .run (.unit zxm))) .run))) zk zrz (ob1 ztl ob0)
def zwT:Un:=lpU 2 [63,64,20,65,66,67,68,69,70,22,23,71,72,73,74,75,76,77,78,79,81,82,83,84,85,86,87,88,80,89,90,91,24,25,26,92,93,94,95,96,97,98,99,100,101,102,103,104,23,105,67,106,62] ⟨[0,2,4,6,8,15,17,19,56,57,58,62],⟨[.hole,.hole,.hole,(.ptr 0 0),(.ptr 1 0),.hole,(.ptr 2 0),.hole,.hole,.hole,.hole,.hole],[.cells true [.hole,.hole,.hole],.cells true [.hole,.hole,.hole],.cells false [.hole,(.view 3),.hole],.seq false],[1,2,2,2,2,0,2,2,2,1,1,1,1,1,1,0,2,2],[kM,.int .i64,.int .i64,kJ,.int .i64,kJ,.int .i64,.int .i64,.int .i64,kL,kK,kL,kL,kK,kL,kM,.int .i64,.sl (.cons kZ (.cons kZ (.cons kZ (.cons kZ (.cons kZ (.cons kZ (.cons kZ (.cons kL (.cons kK (.one kL))))))))))]⟩⟩ [((.exit 2),⟨[17],⟨[(.ptr 0 0)],[.cells false [.hole,(.view 1),.hole],.seq false],[0,2,2],[kM,.int .i64,.sl (.cons kZ (.cons kZ (.cons kZ (.cons kZ (.cons kZ (.cons kZ (.cons kZ (.cons kL (.cons kK (.one kL))))))))))]⟩⟩)] (lp zlV zd)
theorem ztC:UK zng (yQ (ze Tryz.f39) [1,1,1,1,1,1,0,1,0,0,1,1,0,0,1,1,0]) zwT:=qI (.seq .run (.seq .run (.seq (.block (.seq .run (.seq .run (.block (.unit ztS))))) .run))) zk zrz (ob1 ztI ob0)
def zyn:Un:=lpU 2 [59,60,61,19,62,63,64,20,65,66,67,68,69,70,22,23,71,72,73,74,75,76,77,78,79,81,82,83,84,85,86,87,88,80,89,90,91,24,25,26,92,93,94,95,96,97,98,99,100,101,102,103,104,23,105,67,106,62,107,58] ⟨[0,2,4,6,8,15,17,56,57,58],⟨[.hole,.hole,.hole,(.ptr 0 0),(.ptr 1 0),.hole,(.ptr 2 0),.hole,.hole,.hole],[.cells true [.hole,.hole,.hole],.cells true [.hole,.hole,.hole],.cells false [.hole,(.view 3),.hole],.seq false],[1,2,2,2,0,2,2,1,1,1,1,1,1,0,2,2],[kM,.int .i64,.int .i64,kJ,kJ,.int .i64,.int .i64,kL,kK,kL,kL,kK,kL,kM,.int .i64,.sl (.cons kZ (.cons kZ (.cons kZ (.cons kZ (.cons kZ (.cons kZ (.cons kZ (.cons kL (.cons kK (.one kL))))))))))]⟩⟩ [((.exit 0),⟨[17],⟨[(.ptr 0 0)],[.cells false [.hole,(.view 1),.hole],.seq false],[0,2,2],[kM,.int .i64,.sl (.cons kZ (.cons kZ (.cons kZ (.cons kZ (.cons kZ (.cons kZ (.cons kZ (.cons kL (.cons kK (.one kL))))))))))]⟩⟩)] (lp zlg zd)
theorem zsY:UK zng (yQ (ze Tryz.f39) [1,1,1,1,1,1,0,1,0]) zyn:=qI (.seq .run (.seq .run (.seq (.block (.seq .run (.seq .run (.block (.unit zwT))))) .run))) zk zrz (ob1 ztC ob0)
theorem zE9:SK 39 zxB:=zV (.seq .run (.seq .run (.seq .run (.seq .run (.seq .run (.seq .run (.seq (.seq .run (.block (.unit zyn))) .run))))))) [.tmp 10,.tmp 11,.tmp 12] zc zk zpT Tryz.func39 (ob1 zsY ob0)
def zC7:ShC:=⟨⟨[(.agg [.hole,.hole,.hole,.hole,.hole,.hole,.hole,.hole,.hole,.hole]),(.agg [.hole,.hole,.hole,.hole,.hole,.hole,.hole,.hole,.hole,.hole])],[],[1,1,1,1,1,1,1,1,1,1,1,1,1,1,1,1,1,1,1,1],[.int .i64,.int .i64,.int .i64,.int .i64,.int .i64,.int .i64,.int .i64,kL,kK,kL,.int .i64,.int .i64,.int .i64,.int .i64,.int .i64,.int .i64,.int .i64,kL,kK,kL]⟩,⟨[.hole],[],[2],[.bool]⟩,1,[],[],false,false,fun (x:(Int×Int×Int×Int×Int×Int×Int×jQ×jR×jQ×Int×Int×Int×Int×Int×Int×Int×jQ×jR×jQ))=>zjh x.1 x.2.1 x.2.2.1 x.2.2.2.1 x.2.2.2.2.1 x.2.2.2.2.2.1 x.2.2.2.2.2.2.1 x.2.2.2.2.2.2.2.1 x.2.2.2.2.2.2.2.2.1 x.2.2.2.2.2.2.2.2.2.1 x.2.2.2.2.2.2.2.2.2.2.1 x.2.2.2.2.2.2.2.2.2.2.2.1 x.2.2.2.2.2.2.2.2.2.2.2.2.1 x.2.2.2.2.2.2.2.2.2.2.2.2.2.1 x.2.2.2.2.2.2.2.2.2.2.2.2.2.2.1 x.2.2.2.2.2.2.2.2.2.2.2.2.2.2.2.1 x.2.2.2.2.2.2.2.2.2.2.2.2.2.2.2.2.1 x.2.2.2.2.2.2.2.2.2.2.2.2.2.2.2.2.2.1 x.2.2.2.2.2.2.2.2.2.2.2.2.2.2.2.2.2.2.1 x.2.2.2.2.2.2.2.2.2.2.2.2.2.2.2.2.2.2.2⟩
theorem zEY:SK 82 zC7:=zV .run [.tmp 4] zc zk (gd1 zqW za) Tryz.func82 ob0
def zvd:ShC:=⟨⟨[.hole,.hole],[],[1,1],[.sl (.cons kZ (.cons kZ (.cons kZ (.cons kZ (.cons kZ (.cons kZ (.cons kZ (.cons kL (.cons kK (.one kL)))))))))),.sl (.cons kZ (.cons kZ (.cons kZ (.cons kZ (.cons kZ (.cons kZ (.cons kZ (.cons kL (.cons kK (.one kL))))))))))]⟩,⟨[.hole],[],[2],[.bool]⟩,1,[],[],false,false,fun (x:(jT×jT))=>zhO x.1 x.2⟩
theorem zqx:GD zvd [(82,.gen (yx [zC7]))]:=(gd1 zEY za)
def zCn:=zbo tb gl zqx zvd Tryz.f31
theorem zGL:VK zCn:=zh zc zqx
def zxL:Un:=lpU 2 [11,12,13,14,17,18,19,20,21,22,23,24,25,26,4,15,16,5] ⟨[0,1,5],⟨[.hole,.hole,.hole],[],[1,1,2],[.sl (.cons kZ (.cons kZ (.cons kZ (.cons kZ (.cons kZ (.cons kZ (.cons kZ (.cons kL (.cons kK (.one kL)))))))))),.sl (.cons kZ (.cons kZ (.cons kZ (.cons kZ (.cons kZ (.cons kZ (.cons kZ (.cons kL (.cons kK (.one kL)))))))))),.int .i64]⟩⟩ [((.exit 0),⟨[],⟨[],[],[],[]⟩⟩),(.ret,⟨[4],⟨[.hole],[],[2],[.bool]⟩⟩)] (lp zff zd)
theorem zsT:UK zCn (yQ (ze Tryz.f31) [1,1,0,1,0]) zxL:=qI .run zk zGL ob0
theorem zDW:SK 31 zvd:=zV (.seq .run (.seq .run (.seq (.seq .run (.block (.unit zxL))) .run))) [.tmp 4] zc zk zqx Tryz.func31 (ob1 zsT ob0)
def zAW:ShC:=⟨⟨[],[],[],[]⟩,⟨[.hole],[],[2],[.bool]⟩,1,[],[],false,true,fun (_:Unit)=>zhV⟩
theorem zFq:SK 38 zAW:=zV .run [.tmp 0] zc zk (gd1 zqW (gd1 zvP (gd1 zDW (gdG zBC (gdG zE9 (gdG zFb (gd1 zEH za))))))) Tryz.func38 ob0
def zr0:ShC:=⟨⟨[.hole,(.agg [.hole,.hole,.hole]),.hole,.hole,(.agg [.hole,.hole,.hole]),.hole,.hole],[],[1,1,1,1,1,1,1,1,1,1,1],[kM,kL,kK,kL,.int .i64,.int .i64,kL,kK,kL,.int .i64,.int .i64]⟩,⟨[.hole],[],[2],[.bool]⟩,1,[],[],false,true,fun (x:(jS×jQ×jR×jQ×Int×Int×jQ×jR×jQ×Int×Int))=>zbq x.1 x.2.1 x.2.2.1 x.2.2.2.1 x.2.2.2.2.1 x.2.2.2.2.2.1 x.2.2.2.2.2.2.1 x.2.2.2.2.2.2.2.1 x.2.2.2.2.2.2.2.2.1 x.2.2.2.2.2.2.2.2.2.1 x.2.2.2.2.2.2.2.2.2.2⟩
theorem zqk:GD zr0 [(17,.gen (yx [zCH])),(18,.gen (yx [zCY])),(23,.gen (yx [zK0])),(36,.gen (yx [zIG])),(37,.gen (yx [zBL])),(38,.gen (yx [zAW]))]:=(gd1 zqW (gd1 zvP (gd1 zJG (gdG zBC (gd1 zED (gdG zFq za))))))
def zwV:=zbo tb gl zqk zr0 Tryz.f7
theorem zIS:VK zwV:=zh zc zqk
def zpi:List (Code×AC):=[((yQ (ze Tryz.f7) [1,1,0]),.run),((yQ (ze Tryz.f7) [1,1,1,0]),.run),((yQ (ze Tryz.f7) [1,1,1,1,0]),.run)]
def zyM:Un:=spU zwV zpi [28,29,30,31,32,33,34,35,27,36,37,38,17,18,19,40,41,42,43,44,45,46,47,39,48,49,50,20,21,22,51,52,53,54,55,56,57,58,59,60,61,62,63,64,65,14] [66,67] [(17,.rp (.cons kL (.cons kK (.one kL))) 0)] (yQ (ze Tryz.f7) [1,1,1,1,1,1]) .run
theorem zBr:zbu Tryz.prog 126 [.one kJ] :=
 ziZ (l:=[]) (code:=ze Tryz.f126) zc zlZ Tryz.func126 (by kernel_rfl) (by kernel_rfl) (by kernel_rfl) (by kernel_rfl) (by kernel_rfl)
theorem zKs:zbu Tryz.prog 63 [.one kL] :=
 ziZ (l:=[(126,[.one kJ])]) (code:=ze Tryz.f63) zc (ziM zBr zlZ) Tryz.func63 (by kernel_rfl) (by kernel_rfl) (by kernel_rfl) (by kernel_rfl) (by kernel_rfl)
theorem zJ6:zbu Tryz.prog 64 [.one kK] :=
 ziZ (l:=[(126,[.one kJ])]) (code:=ze Tryz.f64) zc (ziM zBr zlZ) Tryz.func64 (by kernel_rfl) (by kernel_rfl) (by kernel_rfl) (by kernel_rfl) (by kernel_rfl)
theorem zJM:zbu Tryz.prog 19 [.agg [kL,kK,kL]] :=
 ziZ (l:=[(63,[.one kL]),(64,[.one kK])]) (code:=ze Tryz.f19) zc (ziM zKs (ziM zJ6 zlZ)) Tryz.func19 (by kernel_rfl) (by kernel_rfl) (by kernel_rfl) (by kernel_rfl) (by kernel_rfl)
theorem ztm:UK zwV (yQ (ze Tryz.f7) [1,1]) zyM:=fun X hX =>
 zKG zIS zk (l:=[(19,[.agg [kL,kK,kL]])]) (ziM zJM zlZ) (cs:=zpi) (sps:=[(yQ (ze Tryz.f7) [1,1,1,1,1,0])]) (by kernel_rfl) (fun X hX=>(znH (by kernel_rfl) (ob0 X hX) (znH (by kernel_rfl) (ob0 X hX) (znH (by kernel_rfl) (ob0 X hX) zFd)))) (by kernel_rfl) ob0 (by kernel_rfl) (by kernel_rfl) (by kernel_rfl) hX
theorem zFt:SK 7 zr0:=zV (.seq .run (.seq .run (.unit zyM))) [.tmp 14] zc zk zqk Tryz.func7 (ob1 ztm ob0)
end
end Go.Abs.Sz5
