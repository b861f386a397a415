import Derived.Test.YtleengbobccdkaaGreatDoorFc
import Derived.Test.YtleengbobccdkaaGreatDoorQd
import Derived.Test.YtleengbobccdkaaGreatDoorXa
import Derived.Test.YtleengbobccdkaaGreatDoorProg
/-
 The functions make just that.
-/
namespace Go.Abs.Sz5
open Go Go.Abs Go.Abs.Q Go.Proofs
set_option maxRecDepth 100000
noncomputable section
abbrev kK:Ty:=.sl (.one (.sl (.one (.int .i64))))
abbrev kR:Tys:=.one (.sl (.one (.int .i64)))
abbrev kJ:Ty:=.sl (.one (.int .i64))
abbrev kI:Tys:=.one (.int .i64)
abbrev kZ:Ty:=.int .i64
abbrev kL:Ty:=.sl znw
abbrev kM:Ty:=.sl zzp
def tbl:List (Nat×TD):=[(3,.int .i64),
 (4,.bool),
 (9,.str),
 (22,.sl 136 zzp 40),
 (23,.sl 3 kI 8),
 (24,.sl 69 znw 32),
 (27,.sl 23 kR 24),
 (29,.st [(24,0),(27,1),(24,2)] 3),
 (50,.sl 73 (.cons kZ (.cons kZ (.cons kZ (.cons kZ (.cons kZ (.cons kZ (.cons kZ (.cons kL (.cons kK (.one kL)))))))))) 128),
 (69,.st [(4,0),(23,1)] 2),
 (73,.st [(3,0),(3,1),(3,2),(3,3),(3,4),(3,5),(3,6),(29,7)] 10),
 (78,.sl 29 (.cons kL (.cons kK (.one kL))) 72),
 (80,.st [(3,0),(23,1)] 2),
 (99,.sl 144 (.cons kZ kR) 32),
 (109,.st [(22,0),(50,1),(3,2)] 3),
 (131,.int .u64),
 (136,.st [(9,0),(3,1),(3,2),(3,3)] 4),
 (144,.st [(3,0),(23,1)] 2),
 (178,.arr 3 kI 24),
 (198,.st [(23,0),(3,1)] 2),
 (199,.arr 198 (.cons (.ns kI) kI) 48),
 (201,.st [(22,0),(199,1)] 97),
 (204,.sl 27 (.one kK) 24),
 (206,.sl 24 (.one kL) 24),
 (217,.sl 220 (.cons kJ (.cons kZ (.cons kJ kI))) 64),
 (220,.fa 198 2 2),
 (239,.arr 4 (.one .bool) 48),
 (240,.sl 198 (.cons kJ kI) 32)]
def tb:Tb:=zBK tbl
theorem zg:zfM Tryz.prog tb:=zzV (by kernel_rfl)
theorem zy:Tryz.prog.follows .mixedOrders=true:=by kernel_rfl
def gl:Gl:=fun q=>cond (Nat.beq q 0) (some ⟨zzp,(([61],0,2,1):zi)⟩) (none)
abbrev SK:=ShOk Tryz.prog gl
abbrev UK:=UnA Tryz.prog
abbrev VK:=VAll Tryz.prog
abbrev GD (c:ShC):=zkk Tryz.prog (cond c.glob gl fun _=>none)
def zJT:ShC:=⟨⟨[],[],[],[]⟩,⟨[(.view 0)],[.seq false],[2],[kM]⟩,1,[],[],false,false,fun (_:Unit)=>zd6⟩
theorem zI5:SK 97 zJT:=qg .run [.tmp 0] zg zy zb Tryz.func97 ob0
def zJE:ShC:=⟨⟨[.hole],[],[1],[.int .u8]⟩,⟨[.hole],[],[2],[.bool]⟩,1,[],[],false,false,fun (x:Int)=>zfi x⟩
theorem zJe:SK 204 zJE:=qg .run [.tmp 2] zg zy zb Tryz.func204 ob0
def zJn:ShC:=⟨⟨[.hole],[],[1],[.str]⟩,⟨[.hole],[],[2],[.bool]⟩,1,[],[],false,false,fun (x:Str)=>zhi x⟩
theorem zDX:GD zJn [(204,.gen (qw [zJE]))]:=(gd1 zJe zb)
def zJK:=zdn tb gl zDX zJn Tryz.f167
theorem zJR:VK zJK:=zr zg zDX
def zGq:Un:=lpU 2 [20,21,3,22,23,24,25,26,27,28,29,30,31,32,33,34,35,36,37,38,2,39,19] ⟨[0,18,19],⟨[.hole,.hole,.hole],[],[2,2,2],[.str,.int .i64,.int .i64]⟩⟩ [((.exit 0),⟨[],⟨[],[],[],[]⟩⟩),(.ret,⟨[2],⟨[.hole],[],[2],[.bool]⟩⟩)] (lp zcf zd)
theorem zzY:UK zJK (zaS (zo Tryz.f167) [1,1,0,1,0]) zGq:=zbQ .run zy zJR ob0
theorem zIy:SK 167 zJn:=qg (.seq .run (.seq .run (.seq (.seq .run (.block (.unit zGq))) .run))) [.tmp 2] zg zy zDX Tryz.func167 (ob1 zzY ob0)
def zJI:ShC:=⟨⟨[(.agg [.hole,.hole,.hole,.hole])],[],[1,1,1,1],[.str,.int .i64,.int .i64,.int .i64]⟩,⟨[.hole],[],[2],[.bool]⟩,1,[],[],false,false,fun (x:zi)=>zfD x.1 x.2.1 x.2.2.1 x.2.2.2⟩
theorem zIX:SK 113 zJI:=qg .run [.tmp 2] zg zy (gd1 zIy zb) Tryz.func113 ob0
def zIh:ShC:=⟨⟨[.hole,.hole],[],[1,1],[kM,.str]⟩,⟨[.hole],[],[2],[.int .i64]⟩,1,[],[],false,false,fun (x:(jS×Str))=>zid x.1 x.2⟩
theorem zEM:GD zIh []:=zb
def zJH:=zdn tb gl zEM zIh Tryz.f114
theorem zJP:VK zJH:=zr zg zEM
def zHA:Un:=lpU 2 [9,10,5,11,12,13,14,15,16,17,18,4,19,8] ⟨[0,1,7,8],⟨[.hole,.hole,.hole,.hole],[],[1,2,2,2],[kM,.str,.int .i64,.int .i64]⟩⟩ [((.exit 0),⟨[],⟨[],[],[],[]⟩⟩),(.ret,⟨[4],⟨[.hole],[],[2],[.int .i64]⟩⟩)] (lp zdd zd)
theorem zzq:UK zJH (zaS (zo Tryz.f114) [1,0,1,0]) zHA:=zbQ .run zy zJP ob0
theorem zI4:SK 114 zIh:=qg (.seq .run (.seq (.seq .run (.block (.unit zHA))) .run)) [.tmp 4] zg zy zEM Tryz.func114 (ob1 zzq ob0)
def zGZ:ShC:=⟨⟨[.hole],[],[1],[kM]⟩,⟨[.hole],[],[2],[.bool]⟩,1,[],[],false,true,fun (x:jS)=>ziM x⟩
theorem zDw:GD zGZ [(113,.gen (qw [zJI])),(114,.gen (qw [zIh]))]:=(gd1 zIX (gd1 zI4 zb))
def zJD:=zdn tb gl zDw zGZ Tryz.f52
theorem zJX:VK zJD:=zr zg zDw
def zIb:Un:=lpU 2 [19,20,21,22,25,26,27,28,29,30,31,32,33,34,35,36,37,38,39,40,41,2,23,24,3] ⟨[0,3],⟨[.hole,.hole],[],[1,2],[kM,.int .i64]⟩⟩ [((.exit 0),⟨[],⟨[],[],[],[]⟩⟩),(.ret,⟨[2],⟨[.hole],[],[2],[.bool]⟩⟩)] (lp zc8 zd)
theorem zAD:UK zJD (zaS (zo Tryz.f52) [1,1,0,1,0]) zIb:=zbQ .run zy zJX ob0
theorem zDB:SK 52 zGZ:=qg (.seq .run (.seq .run (.seq (.seq .run (.block (.unit zIb))) .run))) [.tmp 2] zg zy zDw Tryz.func52 (ob1 zAD ob0)
def zHD:ShC:=⟨⟨[.hole],[],[1],[.int .i64]⟩,⟨[.hole],[],[2],[.int .i64]⟩,1,[],[],false,false,fun (x:Int)=>ye x⟩
theorem zrU:SK 55 zHD:=qg .run [.tmp 2] zg zy zb Tryz.func55 ob0
def zJF:ShC:=⟨⟨[.hole,.hole],[],[1,1],[kM,.int .i64]⟩,⟨[.hole,.hole],[],[2,2],[.int .i64,.bool]⟩,2,[],[],false,false,fun (x:(jS×Int))=>ziu x.1 x.2⟩
theorem zIz:SK 193 zJF:=qg .run [.tmp 4,.tmp 5] zg zy (gd1 zrU zb) Tryz.func193 ob0
def zGx:ShC:=⟨⟨[.hole,.hole,.hole],[],[1,1,1],[kM,kJ,.int .i64]⟩,⟨[.hole,.hole],[],[2,2],[.int .i64,.bool]⟩,2,[],[],false,false,fun (x:(jS×jI×Int))=>zdK x.1 x.2.1 x.2.2⟩
theorem zEh:GD zGx [(193,.gen (qw [zJF]))]:=(gd1 zIz zb)
def zI9:=zdn tb gl zEh zGx Tryz.f151
theorem zJU:VK zI9:=zr zg zEh
def zFc:Un:=scU zI9 [8,11,12,13,14,6,7,16,17,18,19,20,21,15,22,23,9,10,24,25,6,7,26,27,2,28,29,30,31,8,32,33,34,6,7] [(.goto 0,⟨[0,1,2,8],⟨[.hole,.hole,.hole,.hole],[],[1,1,2,2],[kM,kJ,.int .i64,.int .i64]⟩⟩)] [(.ret,⟨[6,7],⟨[.hole,.hole],[],[2,2],[.int .i64,.bool]⟩⟩)] (ztk (zaS (zo Tryz.f151) [1])) .run (lp zcB zd)
theorem zzZ:UK zI9 (zaS (zo Tryz.f151) [1]) zFc:=zIj [] zy zJU ob0 zIm
theorem zAI:SK 151 zGx:=qg (.seq .run (.unit zFc)) [.tmp 6,.tmp 7] zg zy zEh Tryz.func151 (ob1 zzZ ob0)
def zJh:ShC:=⟨⟨[.hole,.hole],[],[1,1],[kM,kJ]⟩,⟨[(.view 0),.hole],[.seq false],[2,2],[.bool,kJ]⟩,2,[],[],false,true,fun (x:(jS×jI))=>zd7 x.1 x.2⟩
theorem zEw:GD zJh [(52,.gen (qw [zGZ])),(151,.gen (qw [zGx]))]:=(gdG zDB (gd1 zAI zb))
def zJf:=zdn tb gl zEw zJh Tryz.f158
theorem zJS:VK zJf:=zr zg zEw
def zFd:Un:=scU zJf [10,11,12,13,14,15,16,17,4,5,6,7,18,19,20,21,22,4,5,24,25,26,27,23,28,29,8,9,30,31,4,5,32,33,34,35,6,36,7] [(.goto 0,⟨[0,1,6,7],⟨[.hole,.hole,(.view 0),.hole],[.seq false],[1,1,2,2],[kM,kJ,.int .i64,kJ]⟩⟩)] [(.ret,⟨[4,5],⟨[(.view 0),.hole],[.seq false],[2,2],[.bool,kJ]⟩⟩)] (ztk (zaS (zo Tryz.f158) [1])) .run (lp zcP zd)
theorem zzU:UK zJf (zaS (zo Tryz.f158) [1]) zFd:=zIj [] zy zJS ob0 zIm
theorem zEH:SK 158 zJh:=qg (.seq .run (.unit zFd)) [.tmp 4,.tmp 5] zg zy zEw Tryz.func158 (ob1 zzU ob0)
def zI7:ShC:=⟨⟨[.hole,.hole],[],[1,1],[kM,kJ]⟩,⟨[.hole],[],[2],[.bool]⟩,1,[],[],false,true,fun (x:(jS×jI))=>zbV x.1 x.2⟩
theorem zB3:SK 101 zI7:=qg .run [.tmp 4] zg zy (gdG zEH zb) Tryz.func101 ob0
def zFC:ShC:=⟨⟨[.hole,(.agg [.hole,.hole])],[],[1,1,1],[kM,.bool,kJ]⟩,⟨[.hole],[],[2],[.bool]⟩,1,[],[],false,true,fun (x:(jS×Bool×jI))=>zg3 x.1 x.2.1 x.2.2⟩
theorem zyn:SK 142 zFC:=qg .run [.tmp 4] zg zy (gdG zB3 zb) Tryz.func142 ob0
def zEY:ShC:=⟨⟨[.hole,.hole],[],[1,1],[kM,kL]⟩,⟨[.hole,.hole],[],[2,2],[.int .i64,.bool]⟩,2,[],[],false,true,fun (x:(jS×jQ))=>zcS x.1 x.2⟩
theorem zxa:GD zEY [(142,.gen (qw [zFC]))]:=(gdG zyn zb)
def zFZ:=zdn tb gl zxa zEY Tryz.f104
theorem zIT:VK zFZ:=zr zg zxa
def zB9:Un:=lpU 2 [12,13,14,8,15,16,17,18,4,5,19,20,21,22,23,6,24,11] ⟨[0,6,9,10,11],⟨[.hole,.hole,.hole,.hole,.hole],[],[1,2,1,2,2],[kM,.int .i64,kL,.int .i64,.int .i64]⟩⟩ [((.exit 0),⟨[6],⟨[.hole],[],[2],[.int .i64]⟩⟩),(.ret,⟨[4,5],⟨[.hole,.hole],[],[2,2],[.int .i64,.bool]⟩⟩)] (lp zaB zd)
theorem zxs:UK zFZ (zaS (zo Tryz.f104) [1,1,0,1,0]) zB9:=zbQ .run zy zIT ob0
theorem zG4:SK 104 zEY:=qg (.seq .run (.seq .run (.seq (.seq .run (.block (.unit zB9))) .run))) [.tmp 4,.tmp 5] zg zy zxa Tryz.func104 (ob1 zxs ob0)
def zEB:ShC:=⟨⟨[.hole,.hole],[],[1,1],[kM,kJ]⟩,⟨[.hole,.hole],[],[2,2],[.int .i64,.int .i64]⟩,2,[],[],false,true,fun (x:(jS×jI))=>zhr x.1 x.2⟩
theorem zCQ:SK 162 zEB:=qg .run [.tmp 4,.tmp 5] zg zy (gdG zEH zb) Tryz.func162 ob0
def zDm:ShC:=⟨⟨[.hole,.hole],[],[1,1],[kM,kK]⟩,⟨[.hole,.hole],[],[2,2],[.int .i64,.bool]⟩,2,[],[],false,true,fun (x:(jS×jR))=>zed x.1 x.2⟩
theorem zzd:GD zDm [(162,.gen (qw [zEB]))]:=(gdG zCQ zb)
def zFe:=zdn tb gl zzd zDm Tryz.f105
theorem zJs:VK zFe:=zr zg zzd
def zBY:Un:=lpU 2 [15,16,17,18,8,9,20,21,22,19,23,24,10,11,25,26,27,7,28,29,30,31,32,33,34,4,5,35,36,37,38,6,39,14] ⟨[0,6,7,12,13,14],⟨[.hole,.hole,.hole,.hole,.hole,.hole],[],[1,2,2,1,2,2],[kM,.int .i64,.int .i64,kK,.int .i64,.int .i64]⟩⟩ [((.exit 0),⟨[6],⟨[.hole],[],[2],[.int .i64]⟩⟩),(.ret,⟨[4,5],⟨[.hole,.hole],[],[2,2],[.int .i64,.bool]⟩⟩)] (lp zax zd)
theorem zv3:UK zFe (zaS (zo Tryz.f105) [1,1,0,1,0]) zBY:=zbQ .run zy zJs ob0
theorem zHt:SK 105 zDm:=qg (.seq .run (.seq .run (.seq (.seq .run (.block (.unit zBY))) .run))) [.tmp 4,.tmp 5] zg zy zzd Tryz.func105 (ob1 zv3 ob0)
def zuj:ShC:=⟨⟨[.hole,(.agg [.hole,.hole,.hole])],[],[1,1,1,1],[kM,kL,kK,kL]⟩,⟨[.hole],[],[2],[.bool]⟩,1,[],[],false,true,fun (x:(jS×jQ×jR×jQ))=>zaf x.1 x.2.1 x.2.2.1 x.2.2.2⟩
theorem zlp:SK 42 zuj:=qg .run [.tmp 4] zg zy (gdG zDB (gdG zG4 (gdG zHt zb))) Tryz.func42 ob0
def zHP:ShC:=⟨⟨[(.agg [.hole,.hole,.hole]),.hole,.hole],[],[1,1,1,1,1],[kL,kK,kL,.int .i64,.bool]⟩,⟨[.hole],[],[2],[.bool]⟩,1,[],[],false,false,fun (x:(jQ×jR×jQ×Int×Bool))=>zbO x.1 x.2.1 x.2.2.1 x.2.2.2.1 x.2.2.2.2⟩
theorem ztA:SK 89 zHP:=qg .run [.tmp 6] zg zy zb Tryz.func89 ob0
def zHc:ShC:=⟨⟨[.nilv,.hole],[],[1],[.int .i64]⟩,⟨[(.view 0)],[.seq false],[2],[kL]⟩,1,[],[],false,false,fun (x:Int)=>ze3 x⟩
theorem zGe:SK 189 zHc:=qg .run [.tmp 4] zg zy (gd0 1000025 zb) Tryz.func189 ob0
def zxI:ShC:=⟨⟨[.hole],[],[1],[.sl (.one kL)]⟩,⟨[(.view 0)],[.seq false],[0],[kL]⟩,1,[],[],true,false,fun (x:(List jQ))=>zcw x⟩
theorem zwu:GD zxI [(189,.gen (qw [zHc]))]:=(gd1 zGe zb)
def zD5:=zdn tb gl zwu zxI Tryz.f140
theorem zG3:VK zD5:=zr zg zwu
def zBm:Un:=lpU 2 [28,29,30,8,31,32,33,6,34,27] ⟨[6,25,26,27],⟨[(.view 0),.hole,.hole,.hole],[.seq false],[1,2,2,0],[.sl (.one kL),.int .i64,.int .i64,kL]⟩⟩ [((.exit 2),⟨[6],⟨[(.view 0)],[.seq false],[0],[kL]⟩⟩)] (lp q9 zd)
theorem zvW:UK zD5 (zaS (zo Tryz.f140) [1,1,1,1,0,1,0]) zBm:=zbQ .run zy zG3 ob0
def zBc:Un:=lpU 2 [12,13,14,5,15,16,17,18,3,19,20,21,22,11] ⟨[0,3,9,10,11],⟨[.hole,.hole,.hole,.hole,.hole],[],[1,2,1,2,2],[.sl (.one kL),.int .i64,.sl (.one kL),.int .i64,.int .i64]⟩⟩ [((.exit 0),⟨[3],⟨[.hole],[],[2],[.int .i64]⟩⟩)] (lp zae zd)
theorem zw4:UK zD5 (zaS (zo Tryz.f140) [1,1,0,1,0]) zBc:=zbQ .run zy zG3 ob0
theorem zBP:SK 140 zxI:=qg (.seq .run (.seq .run (.seq (.seq .run (.block (.unit zBc))) (.seq .run (.seq (.seq .run (.block (.unit zBm))) .run))))) [.tmp 2] zg zy zwu Tryz.func140 (ob1 zw4 (ob1 zvW ob0))
def zJl:ShC:=⟨⟨[.hole],[],[1],[.int .i64]⟩,⟨[.hole],[],[2],[.bool]⟩,1,[],[],false,false,fun (x:Int)=>zjY x⟩
theorem zFy:SK 228 zJl:=qg .run [.tmp 2] zg zy zb Tryz.func228 ob0
def zG9:ShC:=⟨⟨[.hole,.hole],[],[1,1],[.int .i64,.int .i64]⟩,⟨[.hole],[],[2],[.bool]⟩,1,[],[],false,false,fun (x:(Int×Int))=>zl7 x.1 x.2⟩
theorem zFM:SK 218 zG9:=qg .run [.tmp 4] zg zy (gd1 zFy zb) Tryz.func218 ob0
def zHz:ShC:=⟨⟨[.hole],[],[1],[.int .i64]⟩,⟨[.hole],[],[2],[.bool]⟩,1,[],[],false,false,fun (x:Int)=>zeD x⟩
theorem zGR:SK 219 zHz:=qg .run [.tmp 2] zg zy zb Tryz.func219 ob0
def zAk:ShC:=⟨⟨[.hole,.hole],[],[1,1],[kJ,.int .i64]⟩,⟨[.hole,.hole],[],[2,2],[.int .i64,.bool]⟩,2,[],[],false,false,fun (x:(jI×Int))=>zaG x.1 x.2⟩
theorem zvA:GD zAk [(218,.gen (qw [zG9])),(219,.gen (qw [zHz]))]:=(gd1 zFM (gd1 zGR zb))
def zHl:=zdn tb gl zvA zAk Tryz.f199
theorem zIv:VK zHl:=zr zg zvA
def zCM:Un:=lpU 2 [13,14,15,16,17,18,19,20,21,9,22,23,24,25,26,27,28,29,7,30,8] ⟨[0,1,6,7,8],⟨[.hole,.hole,.hole,.hole,.hole],[],[1,2,2,2,2],[kJ,.int .i64,.int .i64,.int .i64,.int .i64]⟩⟩ [((.exit 0),⟨[7],⟨[.hole],[],[2],[.int .i64]⟩⟩)] (lp yK zd)
theorem zwN:UK zHl (zaS (zo Tryz.f199) [1,1,1,0,0]) zCM:=zbQ .run zy zIv ob0
theorem zGt:SK 199 zAk:=qg (.seq .run (.seq .run (.seq .run (.seq (.block (.unit zCM)) .run)))) [.tmp 4,.tmp 5] zg zy zvA Tryz.func199 (ob1 zwN ob0)
def znJ:Go.Shelf.Ren:={ f:=fun x=>match x with | 21=>200 | 27=>220 | 28=>221 | 35=>229 | 39=>234 | n=>n,t:=fun x=>match x with | 22=>23 | 3=>3 | 4=>4 | 0=>0 | n=>n,g:=fun x=>x }
theorem zkQ:Go.Proofs.Lays2.n21 Tryz.prog znJ where
 mixed:=by kernel_rfl
 f21:=Tryz.func200.trans (by kernel_rfl)
 f27:=Tryz.func220.trans (by kernel_rfl)
 f28:=Tryz.func221.trans (by kernel_rfl)
 f35:=Tryz.func229.trans (by kernel_rfl)
 f39:=Tryz.func234.trans (by kernel_rfl)
 t0:=Tryz.underlying0
 a0:=Tryz.isAgg0
 z0:=Tryz.sizeOf0
 v0:=Tryz.zeroValue0
 t3:=Tryz.underlying3
 a3:=Tryz.isAgg3
 z3:=Tryz.sizeOf3
 v3:=Tryz.zeroValue3
 t4:=Tryz.underlying4
 a4:=Tryz.isAgg4
 z4:=Tryz.sizeOf4
 v4:=Tryz.zeroValue4
 t22:=Tryz.underlying23
 a22:=Tryz.isAgg23
 z22:=Tryz.sizeOf23
 v22:=Tryz.zeroValue23
 i3:=by kernel_rfl
def zHF:ShC:=insC
theorem zGc:SK 200 zHF :=
 zvR (code:=zo Tryz.f200) Tryz.func200 (by kernel_rfl) (by kernel_rfl) zkQ rfl
def zzN:ShC:=⟨⟨[(.view 0),.hole],[.seq false],[1,1],[kJ,kJ]⟩,⟨[(.view 0)],[.seq false],[0],[kJ]⟩,1,[],[],true,false,fun (x:(jI×jI))=>zc7 x.1 x.2⟩
theorem zxP:GD zzN [(55,.gen (qw [zHD])),(199,.gen (qw [zAk])),(200,.gen (qw [zHF]))]:=(gd1 zrU (gd1 zGt (gd1 zGc zb)))
def zHj:=zdn tb gl zxP zzN Tryz.f163
theorem zJB:VK zHj:=zr zg zxP
def zBC:Un:=lpU 2 [12,13,14,6,15,16,18,19,20,21,17,22,23,7,8,24,25,26,27,28,29,30,31,0,32,11] ⟨[0,9,10,11],⟨[(.view 0),.hole,.hole,.hole],[.seq false],[1,2,2,0],[kJ,.int .i64,.int .i64,kJ]⟩⟩ [((.exit 0),⟨[0],⟨[(.view 0)],[.seq false],[0],[kJ]⟩⟩)] (lp zcj zd)
theorem zwg:UK zHj (zaS (zo Tryz.f163) [1,0,1,0]) zBC:=zbQ .run zy zJB ob0
theorem zF5:SK 163 zzN:=qg (.seq .run (.seq (.seq .run (.block (.unit zBC))) .run)) [.tmp 4] zg zy zxP Tryz.func163 (ob1 zwg ob0)
def zzD:ShC:=⟨⟨[.hole,(.agg [.hole,.hole,.hole])],[],[1,1,1,1],[kM,kL,kK,kL]⟩,⟨[(.view 0),.hole],[.seq false],[2,0],[.int .i64,kJ]⟩,2,[],[],true,true,fun (x:(jS×jQ×jR×jQ))=>yn x.1 x.2.1 x.2.2.1 x.2.2.2⟩
theorem zwI:GD zzD [(42,.gen (qw [zuj])),(140,.gen (qw [zxI])),(163,.gen (qw [zzN]))]:=(gdG zlp (gd1 zBP (gd1 zF5 zb)))
def zEr:=zdn tb gl zwI zzD Tryz.f107
theorem zGs:VK zEr:=zr zg zwI
def zCA:Un:=lpU 2 [35,36,37,10,38,39,40,6,41,34] ⟨[6,32,33,34],⟨[(.view 0),.hole,.hole,.hole],[.seq false],[1,2,2,0],[kK,.int .i64,.int .i64,kJ]⟩⟩ [((.exit 2),⟨[6],⟨[(.view 0)],[.seq false],[0],[kJ]⟩⟩)] (lp zcd zd)
theorem zw0:UK zEr (zaS (zo Tryz.f107) [1,1,1,1,0,1,0]) zCA:=zbQ .run zy zGs ob0
def zCG:Un:=lpU 2 [23,24,25,8,26,27,28,29,6,30,22] ⟨[3,6,20,21,22],⟨[(.ptr 0 0),(.view 1),.hole,.hole,.hole],[.cells true [.hole,.hole,.hole],.seq false],[0,2,2,1,1,1,0],[kL,.int .i64,.int .i64,kL,kK,kL,kJ]⟩⟩ [((.exit 0),⟨[6],⟨[(.view 0)],[.seq false],[0],[kJ]⟩⟩)] (lp zb8 zd)
theorem zzk:UK zEr (zaS (zo Tryz.f107) [1,1,1,0,1,0]) zCG:=zbQ .run zy zGs ob0
theorem zBh:SK 107 zzD:=qg (.seq .run (.seq .run (.seq .run (.seq (.seq .run (.block (.unit zCG))) (.seq (.seq .run (.block (.unit zCA))) .run))))) [.tmp 4,.tmp 5] zg zy zwI Tryz.func107 (ob1 zzk (ob1 zw0 ob0))
def zJy:ShC:=⟨⟨[.hole],[],[1],[.ns kI]⟩,⟨[(.view 0)],[.seq false],[2],[kJ]⟩,1,[],[],false,false,fun (x:(Option jI))=>zhX x⟩
theorem zHL:SK 115 zJy:=qg .run [.tmp 2] zg zy zb Tryz.func115 ob0
def zIn:ShC:=⟨⟨[.nilv],[],[],[]⟩,⟨[(.view 0)],[.seq false],[2],[kJ]⟩,1,[],[],false,false,fun (_:Unit)=>znL⟩
theorem zGM:SK 115 zIn:=qg .run [.tmp 2] zg zy zb Tryz.func115 ob0
def zzQ:ShC:=⟨⟨[.hole],[],[1],[kJ]⟩,⟨[(.view 0)],[.seq false],[2],[kJ]⟩,1,[],[],false,false,fun (x:jI)=>zcH x⟩
theorem zys:SK 115 zzQ :=
 zFH zGM zHL fun xs y h=>⟨h,fun e=>by subst e; exact h⟩
def zAJ:ShC:=⟨⟨[.hole,(.ptr 0 0)],[.cells true [.hole]],[1,1],[kJ,.int .i64]⟩,⟨[(.view 0)],[.seq false],[2],[kJ]⟩,1,[],[],false,false,fun (x:(jI×Int))=>ql x.1 x.2⟩
theorem zvB:GD zAJ [(115,.gen (qw [zzQ]))]:=(gd1 zys zb)
def zGJ:=zdn tb gl zvB zAJ Tryz.f216
theorem zI2:VK zGJ:=zr zg zvB
def zBx:Un:=lpU 2 [12,13,14,15,5,6,16,17,18,19,20,21,22,23,24,11] ⟨[1,4,9,10,11],⟨[(.ptr 0 0),(.view 1),(.view 1),.hole,.hole],[.cells true [.hole],.seq false],[2,2,2,2],[.int .i64,.int .i64,.int .i64,kJ]⟩⟩ [((.exit 0),⟨[4],⟨[(.view 0)],[.seq false],[2],[kJ]⟩⟩)] (lp qt zd)
theorem zyo:UK zGJ (zaS (zo Tryz.f216) [1,1,0,1,0]) zBx:=zbQ .run zy zI2 ob0
theorem zFF:SK 216 zAJ:=qg (.seq .run (.seq .run (.seq (.seq .run (.block (.unit zBx))) .run))) [.tmp 3] zg zy zvB Tryz.func216 (ob1 zyo ob0)
def zDQ:ShC:=⟨⟨[(.agg [.hole,.hole,.hole]),(.clo 216 [(.ptr 0 0)])],[.cells true [.hole]],[1,1,1,1],[kL,kK,kL,.int .i64]⟩,⟨[(.agg [(.view 0),(.view 1),(.view 2)])],[.seq false,.seq false,.seq false],[2,2,2],[kL,kK,kL]⟩,1,[],[],false,false,fun (x:(jQ×jR×jQ×Int))=>zgZ x.1 x.2.1 x.2.2.1 x.2.2.2⟩
theorem zxX:GD zDQ [(216,.gen (qw [zAJ]))]:=(gd1 zFF zb)
def zzO:=zdn tb gl zxX zDQ Tryz.f170
theorem zEI:VK zzO:=zr zg zxX
def zC6:Un:=lpU 2 [52,53,54,11,55,56,57,58,59,60,61,62,63,64,65,66,67,51] ⟨[1,4,5,49,50,51],⟨[(.clo 216 [(.ptr 0 0)]),(.ptr 1 0),(.ptr 2 0),.hole,.hole,.hole],[.cells true [.hole],.cells true [.nilv,.nilv,.nilv],.cells false [(.view 3),(.view 4),(.view 5)],.seq false,.seq false,.seq false],[1,2,2,2,2,2,2],[kL,.int .i64,.int .i64,.int .i64,kL,kK,kL]⟩⟩ [((.exit 4),⟨[5],⟨[(.ptr 0 0)],[.cells false [(.view 1),(.view 2),(.view 3)],.seq false,.seq false,.seq false],[2,2,2],[kL,kK,kL]⟩⟩)] (lp za4 zd)
theorem zyt:UK zzO (zaS (zo Tryz.f170) [1,1,1,1,0,1,0]) zC6:=zbQ .run zy zEI ob0
def zCV:Un:=lpU 2 [36,37,38,9,39,40,41,42,43,44,45,46,47,35] ⟨[1,2,4,5,33,34,35],⟨[(.clo 216 [(.ptr 0 0)]),(.ptr 1 0),(.ptr 2 0),(.ptr 3 0),.hole,.hole,.hole],[.cells true [.hole],.cells true [.hole,.hole,.hole],.cells true [.nilv,.nilv,.nilv],.cells false [(.view 4),(.view 5),.nilv],.seq false,.seq false],[1,2,2,2,1,1,1,2,2],[kK,.int .i64,.int .i64,.int .i64,kL,kK,kL,kL,kK]⟩⟩ [((.exit 2),⟨[5],⟨[(.ptr 0 0)],[.cells false [(.view 1),(.view 2),.nilv],.seq false,.seq false],[2,2],[kL,kK]⟩⟩)] (lp zaX zd)
theorem zv8:UK zzO (zaS (zo Tryz.f170) [1,1,1,0,1,0]) zCV:=zbQ .run zy zEI ob0
def zBN:Un:=lpU 2 [16,17,18,7,19,20,21,22,23,24,25,26,27,28,29,30,31,15] ⟨[1,2,4,5,13,14,15],⟨[(.clo 216 [(.ptr 0 0)]),(.ptr 1 0),(.ptr 2 0),(.ptr 3 0),.hole,.hole,.hole],[.cells true [.hole],.cells true [.hole,.hole,.hole],.cells true [.nilv,.nilv,.nilv],.cells false [(.view 4),.nilv,.nilv],.seq false],[1,2,2,2,1,1,1,2],[kL,.int .i64,.int .i64,.int .i64,kL,kK,kL,kL]⟩⟩ [((.exit 0),⟨[5],⟨[(.ptr 0 0)],[.cells false [(.view 1),.nilv,.nilv],.seq false],[2],[kL]⟩⟩)] (lp za5 zd)
theorem zw1:UK zzO (zaS (zo Tryz.f170) [1,1,0,1,0]) zBN:=zbQ .run zy zEI ob0
theorem zGj:SK 170 zDQ:=qg (.seq .run (.seq .run (.seq (.seq .run (.block (.unit zBN))) (.seq (.seq .run (.block (.unit zCV))) (.seq (.seq .run (.block (.unit zC6))) .run))))) [.cell 4 29] zg zy zxX Tryz.func170 (ob1 zw1 (ob1 zv8 (ob1 zyt ob0)))
def zJx:ShC:=⟨⟨[(.agg [.hole,.hole,.hole]),.hole],[],[1,1,1,1],[kL,kK,kL,.int .i64]⟩,⟨[(.agg [(.view 0),(.view 1),(.view 2)])],[.seq false,.seq false,.seq false],[2,2,2],[kL,kK,kL]⟩,1,[],[],false,false,fun (x:(jQ×jR×jQ×Int))=>zF x.1 x.2.1 x.2.2.1 x.2.2.2⟩
theorem zFk:SK 192 zJx:=qg .run [.cell 4 29] zg zy (gd1 zGj zb) Tryz.func192 ob0
def zIt:ShC:=⟨⟨[.hole,(.agg [.hole,.hole,.hole]),(.agg [.hole,.hole,.hole])],[],[1,1,1,1,1,1,1],[kM,kL,kK,kL,kL,kK,kL]⟩,⟨[(.agg [(.view 0),(.view 1),(.view 2)]),.hole],[.seq false,.seq false,.seq false],[2,2,2,2],[.bool,kL,kK,kL]⟩,2,[],[],false,true,fun (x:(jS×jQ×jR×jQ×jQ×jR×jQ))=>zdH x.1 x.2.1 x.2.2.1 x.2.2.2.1 x.2.2.2.2.1 x.2.2.2.2.2.1 x.2.2.2.2.2.2⟩
theorem zHk:SK 149 zIt:=qg .run [.cell 6 29,.tmp 7] zg zy (gdG zBh (gd1 zFk zb)) Tryz.func149 ob0
def zyV:ShC:=⟨⟨[.hole,.hole],[],[1,1],[kM,kJ]⟩,⟨[(.view 0)],[.seq false],[0],[kK]⟩,1,[],[],true,false,fun (x:(jS×jI))=>zbN x.1 x.2⟩
theorem zvt:GD zyV [(151,.gen (qw [zGx]))]:=(gd1 zAI zb)
def zGY:=zdn tb gl zvt zyV Tryz.f175
theorem zJa:VK zGY:=zr zg zvt
def zBf:Un:=lpU 2 [9,10,11,12,14,15,16,17,13,18,19,7,8,20,21,22,4,23,24,25,26,27,28,29,5,30,6] ⟨[0,1,5,6],⟨[.hole,.hole,(.view 0),.hole],[.seq false],[1,1,2,0],[kM,kJ,.int .i64,kK]⟩⟩ [((.exit 0),⟨[5],⟨[(.view 0)],[.seq false],[0],[kK]⟩⟩),(.ret,⟨[4],⟨[(.view 0)],[.seq false],[0],[kK]⟩⟩)] (lp zcO zd)
theorem zvb:UK zGY (zaS (zo Tryz.f175) [1,1,0,1,0]) zBf:=zbQ .run zy zJa ob0
theorem zsE:SK 175 zyV:=qg (.seq .run (.seq .run (.seq (.seq .run (.block (.unit zBf))) .run))) [.tmp 4] zg zy zvt Tryz.func175 (ob1 zvb ob0)
def zIq:ShC:=⟨⟨[.hole,.hole],[],[1,1],[kM,kJ]⟩,⟨[(.view 0)],[.seq false],[0],[kK]⟩,1,[],[],true,false,fun (x:(jS×jI))=>zdM x.1 x.2⟩
theorem zBp:SK 150 zIq:=qg .run [.tmp 4] zg zy (gd1 zsE zb) Tryz.func150 ob0
def zzw:ShC:=⟨⟨[(.ptr 0 0),(.view 1),(.agg [.hole,.hole]),(.agg [.hole,.hole])],[.cells true [.hole,.hole],.seq false],[1,1,1,1,1,1,1],[kJ,.int .i64,kJ,.int .i64,kM,.ar (.cons (.ns kI) kI) 48,.sl (.cons kJ (.cons kZ (.cons kJ kI)))]⟩,⟨[(.view 0)],[.seq false],[0],[.sl (.cons kJ (.cons kZ (.cons kJ kI)))]⟩,1,[],[],true,false,fun (x:(jI×Int×jI×Int×jS×(List ((Option jI)×Int))×(List (jI×Int×jI×Int))))=>qC x.1 x.2.1 x.2.2.1 x.2.2.2.1 x.2.2.2.2.1 x.2.2.2.2.2.1 x.2.2.2.2.2.2⟩
theorem zxS:GD zzw [(175,.gen (qw [zyV]))]:=(gd1 zsE zb)
def zHQ:=zdn tb gl zxS zzw Tryz.f210
theorem zIE:VK zHQ:=zr zg zxS
def zCH:Un:=lpU 2 [29,30,11,31,32,33,34,35,36,37,38,39,40,41,42,43,44,45,46,47,48,1,49,28] ⟨[1,6,7,9,10,27,28],⟨[(.view 0),(.ptr 1 0),(.ptr 2 0),.hole,.hole,.hole,.hole],[.seq false,.cells true [.hole,.hole],.cells true [.hole,.hole]],[0,0,2,2,0,1,2,1,2],[kK,kK,.int .i64,.int .i64,.sl (.cons kJ (.cons kZ (.cons kJ kI))),kJ,.int .i64,kJ,.int .i64]⟩⟩ [((.exit 0),⟨[1],⟨[(.view 0)],[.seq false],[0],[.sl (.cons kJ (.cons kZ (.cons kJ kI)))]⟩⟩)] (lp qv zd)
theorem zw3:UK zHQ (zaS (zo Tryz.f210) [1,1,0,1,0]) zCH:=zbQ .run zy zIE ob0
theorem zFX:SK 210 zzw:=qg (.seq .run (.seq .run (.seq (.seq .run (.block (.unit zCH))) .run))) [.tmp 8] zg zy zxS Tryz.func210 (ob1 zw3 ob0)
def zDx:ShC:=⟨⟨[(.agg [.hole,.hole]),.hole],[],[1,1,1],[kJ,.int .i64,.int .i64]⟩,⟨[.hole],[],[2],[.int .i64]⟩,1,[],[],false,false,fun (x:(jI×Int×Int))=>yJ x.1 x.2.1 x.2.2⟩
theorem zvS:SK 213 zDx:=qg .run [.tmp 4] zg zy (gd1 zrU zb) Tryz.func213 ob0
def zzK:ShC:=⟨⟨[(.ptr 0 0),(.agg [.hole,.hole])],[.cells true [.hole,.hole]],[1,1,1,1],[kJ,.int .i64,kM,.ar (.cons (.ns kI) kI) 48]⟩,⟨[(.agg [.hole,.hole])],[],[1,2],[kJ,.int .i64]⟩,1,[],[],true,false,fun (x:(jI×Int×jS×(List ((Option jI)×Int))))=>zbq x.1 x.2.1 x.2.2.1 x.2.2.2⟩
theorem zve:GD zzK [(213,.gen (qw [zDx]))]:=(gd1 zvS zb)
def zHC:=zdn tb gl zve zzK Tryz.f211
theorem zIM:VK zHC:=zr zg zve
def zCk:Un:=lpU 2 [6,7,8,9,10,11,12,13,14,15,16,17,18,19,20,21,5,22,23,24,25] ⟨[0,3,4],⟨[(.ptr 0 0),(.ptr 1 0),(.ptr 2 0)],[.cells true [.hole,.hole],.cells false [.hole,.hole],.cells true [.nilv,.hole]],[1,1,1,2,2],[kM,.ar (.cons (.ns kI) kI) 48,kJ,.int .i64,.int .i64]⟩⟩ [((.exit 0),⟨[3],⟨[(.ptr 0 0)],[.cells false [.hole,.hole]],[1,2],[kJ,.int .i64]⟩⟩)] (lp zbv zd)
theorem zvU:UK zHC (zaS (zo Tryz.f211) [1,0,0]) zCk:=zbQ .run zy zIM ob0
theorem zH9:SK 211 zzK:=qg (.seq .run (.seq (.block (.unit zCk)) .run)) [.cell 4 198] zg zy zve Tryz.func211 (ob1 zvU ob0)
def zEt:ShC:=⟨⟨[(.ptr 0 0),.hole,(.agg [.hole,.hole])],[.cells true [.hole,.hole]],[1,1,1,1,1],[.int .i64,kJ,.int .i64,kM,.ar (.cons (.ns kI) kI) 48]⟩,⟨[.hole],[],[2],[.bool]⟩,1,[],[],false,false,fun (x:(Int×jI×Int×jS×(List ((Option jI)×Int))))=>zcW x.1 x.2.1 x.2.2.1 x.2.2.2.1 x.2.2.2.2⟩
theorem zwi:GD zEt [(213,.gen (qw [zDx])),(1000027,.gen (qw []))]:=(gd1 zvS (gd0 1000027 zb))
def zDn:=zdn tb gl zwi zEt Tryz.f226
theorem zHr:VK zDn:=zr zg zwi
def zCN:Un:=lpU 2 [32,33,34,10,35,36,37,38,39,11,40,41,42,6,43,44,45,46,47,48,49,50,51,52,53,54,55,56,57,58,59,60,61,62,63,64,65,66,67,8,68,31] ⟨[0,1,5,7,8,29,30,31],⟨[(.ptr 0 0),.hole,(.ptr 1 0),(.aptr 2),(.view 3),.hole,.hole,.hole],[.cells true [.hole,.hole],.cells true [.hole,.hole],.seq false,.seq false],[2,0,2,2,1,1,0,2,2,0],[.int .i64,kJ,.int .i64,.int .i64,kM,.ar (.cons (.ns kI) kI) 48,kJ,.int .i64,.sl (.one .bool),.sl (.cons kJ kI)]⟩⟩ [((.exit 2),⟨[7,8],⟨[(.aptr 0),(.view 1)],[.seq false,.seq false],[2,0],[.sl (.one .bool),.sl (.cons kJ kI)]⟩⟩),(.ret,⟨[6],⟨[.hole],[],[2],[.bool]⟩⟩)] (lp qE zd)
theorem zvE:UK zDn (zaS (zo Tryz.f226) [1,1,1,0,0,0,1,0,1,1,1,0]) zCN:=zbQ .run zy zHr ob0
def zCE:Un:=lpU 2 [14,15,16,17,18,19,20,21,22,23,24,25,26,27,8,28,29,30,31,32,33,34,10,35,36,37,38,39,11,40,41,42,6,43,44,45,46,47,48,49,50,51,52,53,54,55,56,57,58,59,60,61,62,63,64,65,66,67,8,68,31] ⟨[0,1,5,7,8],⟨[(.ptr 0 0),.hole,(.ptr 1 0),(.aptr 2),(.view 3)],[.cells true [.hole,.hole],.cells false [.hole,.hole],.seq false,.seq false],[2,1,1,0,2,2,0],[.int .i64,kM,.ar (.cons (.ns kI) kI) 48,kJ,.int .i64,.sl (.one .bool),.sl (.cons kJ kI)]⟩⟩ [((.exit 0),⟨[],⟨[],[],[],[]⟩⟩),(.ret,⟨[6],⟨[.hole],[],[2],[.bool]⟩⟩)] (lp zaI zd)
theorem zy5:UK zDn (zaS (zo Tryz.f226) [1,1,1,0,0]) zCE:=zbQ (.seq .run (.block (.seq .run (.seq .run (.seq .run (.block (.unit zCN))))))) zy zHr (ob1 zvE ob0)
theorem zGE:SK 226 zEt:=qg (.seq .run (.seq .run (.seq .run (.seq (.block (.unit zCE)) .run)))) [.tmp 6] zg zy zwi Tryz.func226 (ob1 zy5 ob0)
def zFo:ShC:=⟨⟨[(.ptr 0 0),(.agg [.hole,.hole]),(.agg [.hole,.hole])],[.cells false [.hole,.hole]],[1,1,1,1,1,1],[kJ,.int .i64,kJ,.int .i64,kM,.ar (.cons (.ns kI) kI) 48]⟩,⟨[.hole,(.ptr 0 0)],[.cells false [.hole,.hole]],[2,1,0],[.bool,kM,.ar (.cons (.ns kI) kI) 48]⟩,1,[0],[(0,0)],true,false,fun (x:(jI×Int×jI×Int×jS×(List ((Option jI)×Int))))=>qj x.1 x.2.1 x.2.2.1 x.2.2.2.1 x.2.2.2.2.1 x.2.2.2.2.2⟩
theorem zG0:SK 212 zFo:=qg .run [.tmp 6] zg zy (gd1 zvS (gd1 zGE zb)) Tryz.func212 ob0
def zAt:ShC:=⟨⟨[(.ptr 0 0),(.agg [.hole,.hole]),(.agg [.hole,.hole])],[.cells false [.hole,.hole]],[1,1,1,1,1,1],[kJ,.int .i64,kJ,.int .i64,kM,.ar (.cons (.ns kI) kI) 48]⟩,⟨[.hole,(.ptr 0 0)],[.cells false [.hole,.hole]],[2,0,0],[.bool,kM,.ar (.cons (.ns kI) kI) 48]⟩,1,[0],[(0,0)],true,false,fun (x:(jI×Int×jI×Int×jS×(List ((Option jI)×Int))))=>za6 x.1 x.2.1 x.2.2.1 x.2.2.2.1 x.2.2.2.2.1 x.2.2.2.2.2⟩
theorem zy0:GD zAt [(210,.gen (qw [zzw])),(211,.gen (qw [zzK])),(212,.gen (qw [zFo])),(1000039,.gen (qw []))]:=(gd1 zFX (gd1 zH9 (gd1 zG0 (gd0 1000039 zb))))
def zDF:=zdn tb gl zy0 zAt Tryz.f184
theorem zIS:VK zDF:=zr zg zy0
def zBt:Un:=scU zDF [10,11,12,13,7,14,15,16,6,17,18,19,20,21,22,23,24,25,26,27,28,29,30,31,32,33,34,8,9,35,36,37,38,39,7,41,42,43,44,45,40,46,47,48,49,6,51,52,53,54,55,50,56,57,58,59,6,61,62,63,64,65,66,67,68,69,60,6,70,71,72,73,74,75,76,77,78,79,80,81,82,83,84,7] [(.goto 0,⟨[0,7],⟨[(.ptr 0 0),(.view 1)],[.cells false [.hole,.hole],.seq false],[0,0,0],[kM,.ar (.cons (.ns kI) kI) 48,.sl (.cons kJ (.cons kZ (.cons kJ kI)))]⟩⟩)] [(.ret,⟨[0,6],⟨[(.ptr 0 0),.hole],[.cells false [.hole,.hole]],[2,0,0],[.bool,kM,.ar (.cons (.ns kI) kI) 48]⟩⟩)] (ztk (zaS (zo Tryz.f184) [1])) .run (lp zw zd)
theorem zxR:UK zDF (zaS (zo Tryz.f184) [1]) zBt:=zIj [] zy zIS ob0 zIm
theorem zH6:SK 184 zAt:=qg (.seq .run (.unit zBt)) [.tmp 6] zg zy zy0 Tryz.func184 (ob1 zxR ob0)
def zGa:ShC:=⟨⟨[(.agg [.hole,.hole]),.hole],[],[1,1,1],[.ns kI,.int .i64,.int .i64]⟩,⟨[.hole],[],[2],[.int .i64]⟩,1,[],[],false,false,fun (x:((Option jI)×Int×Int))=>zal x.1 x.2.1 x.2.2⟩
theorem zFx:SK 213 zGa:=qg .run [.tmp 4] zg zy (gd1 zrU zb) Tryz.func213 ob0
def zpM (k:Nat):ShC:=⟨⟨[(.ptr 0 0),(.agg [.hole,.hole])],[.cells true [.hole,.hole]],[1,1,1,1],[.ns kI,.int .i64,kM,.ar (.cons (.ns kI) kI) 48]⟩,⟨[.hole],[],[2],[.ns kI]⟩,1,[],[],false,false,(qF k)⟩
def zH4:ShC:=⟨⟨[(.ptr 0 0),(.agg [.hole,.hole])],[.cells true [.hole,.hole]],[1,1,1,1],[.ns kI,.int .i64,kM,.ar (.cons (.ns kI) kI) 48]⟩,⟨[.hole],[],[2],[.ns kI]⟩,1,[],[],false,false,fun (x:((Option jI)×Int×jS×(List ((Option jI)×Int))))=>zfF x.1 x.2.1 x.2.2.1 x.2.2.2⟩
def zmh (k:Nat):Prop:=SK 185 (zpM k)
def zH0 (k:Nat):List (Nat×Con):=[(185,.gen (qw [zpM k])),(213,.gen (qw [zGa]))]
theorem zCn (k:Nat) (h:zmh k):GD (zpM (k+1)) (zH0 k):=(gd1 h (gd1 zFx zb))
def zHG (k:Nat):Env:=zjp tb gl (zH0 k) (zpM (k+1)) Tryz.f185.ntmps
theorem zIs (k:Nat) (h:zmh k):VK (zHG k):=zr zg (zCn k h)
def zBz (k:Nat):Un:=lpU 2 [13,14,15,7,16,17,8,18,19,20,21,22,23,24,25,26,27,28,29,30,31,32,33,34,35,36,37,38,39,40,41,8,42,43,44,45,46,47,48,49,50,51,4,52,53,54,5,55,12] ⟨[0,3,5,10,11,12],⟨[(.ptr 0 0),(.ptr 1 0),(.view 2),.hole,.hole,.hole],[.cells true [.hole,.hole],.cells true [.hole,.hole],.seq false],[1,2,2,1,1,1,2,2],[.ns kI,.int .i64,.int .i64,kM,.ar (.cons (.ns kI) kI) 48,.ns kI,.int .i64,kJ]⟩⟩ [((.exit 0),⟨[5],⟨[(.view 0)],[.seq false],[2],[kJ]⟩⟩),(.ret,⟨[4],⟨[.nilv],[],[],[]⟩⟩)] (lp (yI (qF k)) zd)
theorem zxz (k:Nat) (h:zmh k):UK (zHG k) (zaS (zo Tryz.f185) [1,1,0,1,0]) (zBz k):=zbQ .run zy (zIs k h) ob0
theorem zDg (k:Nat) (h:zmh k):SK 185 (zpM (k+1)):=qg (.seq .run (.seq .run (.seq (.seq .run (.block (.unit (zBz k)))) .run))) [.tmp 4] zg zy (zCn k h) Tryz.func185 (ob1 (zxz k h) ob0)
theorem zqe:∀ k,zmh k
 | 0=>zyB (by kernel_rfl) fun _=>rfl
 | k+1=>have h:=zqe k; zDg k h
theorem zFG:SK 185 zH4:=(zqe zd)
def zEm:ShC:=⟨⟨[.hole,.hole,.hole],[],[1,1,1],[kM,kJ,kJ]⟩,⟨[(.view 0),.hole,.hole],[.seq false],[2,2,2],[.bool,.int .i64,.sl (.cons kZ kR)]⟩,3,[],[],false,true,fun (x:(jS×jI×jI))=>zdZ x.1 x.2.1 x.2.2⟩
theorem zwh:GD zEm [(115,.gen (qw [zzQ])),(162,.gen (qw [zEB])),(184,.gen (qw [zAt])),(185,.gen (qw [zH4]))]:=(gd1 zys (gdG zCQ (gd1 zH6 (gd1 zFG zb))))
def zIc:=zdn tb gl zwh zEm Tryz.f135
theorem zIJ:VK zIc:=zr zg zwh
def zBZ:Un:=lpU 2 [51,52,15,53,54,55,56,57,58,59,60,61,62,63,64,65,66,67,68,16,69,70,6,7,8,71,72,73,74,75,76,77,14,78,50] ⟨[13,14,50],⟨[(.ptr 0 0),(.view 1),.hole],[.cells true [.hole,.hole],.seq false],[2,0,0,2],[.int .i64,kM,.ar (.cons (.ns kI) kI) 48,.sl (.cons kZ kR)]⟩⟩ [((.exit 0),⟨[14],⟨[(.view 0)],[.seq false],[2],[.sl (.cons kZ kR)]⟩⟩),(.ret,⟨[6,7,8],⟨[.nilv,.hole,.hole],[],[2,2],[.bool,.int .i64]⟩⟩)] (lp zbr zd)
theorem zwt:UK zIc (zaS (zo Tryz.f135) [1,1,1,1,1,1,1,0,1,0]) zBZ:=zbQ .run zy zIJ ob0
theorem zBr:SK 135 zEm:=qg (.seq .run (.seq .run (.seq .run (.seq .run (.seq .run (.seq .run (.seq .run (.seq (.seq .run (.block (.unit zBZ))) .run)))))))) [.tmp 6,.tmp 7,.tmp 8] zg zy zwh Tryz.func135 (ob1 zwt ob0)
def zz7:ShC:=⟨⟨[.hole,.hole],[],[1,1],[.sl (.cons kZ kR),.int .i64]⟩,⟨[.hole],[],[0],[.ns kI]⟩,1,[],[],true,false,fun (x:((List (Int×jI))×Int))=>zh3 x.1 x.2⟩
theorem zwJ:GD zz7 []:=zb
def zHh:=zdn tb gl zwJ zz7 Tryz.f194
theorem zIp:VK zHh:=zr zg zwJ
def zBb:Un:=lpU 2 [10,11,12,6,13,14,15,16,17,18,4,19,9] ⟨[1,7,8,9],⟨[.hole,.hole,.hole,.hole],[],[2,1,2,2],[.int .i64,.sl (.cons kZ kR),.int .i64,.int .i64]⟩⟩ [((.exit 0),⟨[],⟨[],[],[],[]⟩⟩),(.ret,⟨[4],⟨[.hole],[],[1],[kJ]⟩⟩)] (lp zdf zd)
theorem zyZ:UK zHh (zaS (zo Tryz.f194) [1,0,1,0]) zBb:=zbQ .run zy zIp ob0
theorem zFn:SK 194 zz7:=qg (.seq .run (.seq (.seq .run (.block (.unit zBb))) .run)) [.tmp 4] zg zy zwJ Tryz.func194 (ob1 zyZ ob0)
def zDP:ShC:=⟨⟨[.hole,.hole],[],[1,1],[.sl (.cons kZ kR),kJ]⟩,⟨[(.view 0)],[.seq false],[2],[kJ]⟩,1,[],[],false,false,fun (x:((List (Int×jI))×jI))=>zkN x.1 x.2⟩
theorem zvZ:GD zDP [(55,.gen (qw [zHD])),(194,.gen (qw [zz7]))]:=(gd1 zrU (gd1 zFn zb))
def zIf:=zdn tb gl zvZ zDP Tryz.f152
theorem zJu:VK zIf:=zr zg zvZ
def zBO:Un:=lpU 2 [12,13,14,7,15,16,17,18,8,19,20,21,22,23,24,25,26,27,28,5,29,30,31,5,32,11] ⟨[0,5,9,10,11],⟨[.hole,(.view 0),.hole,.hole,.hole],[.seq false],[1,1,2,2,2],[.sl (.cons kZ kR),kJ,.int .i64,.int .i64,kJ]⟩⟩ [((.exit 0),⟨[5],⟨[(.view 0)],[.seq false],[2],[kJ]⟩⟩)] (lp zfe zd)
theorem zxq:UK zIf (zaS (zo Tryz.f152) [1,1,0,1,0]) zBO:=zbQ .run zy zJu ob0
theorem zBv:SK 152 zDP:=qg (.seq .run (.seq .run (.seq (.seq .run (.block (.unit zBO))) .run))) [.tmp 4] zg zy zvZ Tryz.func152 (ob1 zxq ob0)
def zIB:ShC:=⟨⟨[.hole,.hole],[],[1,1],[kM,kJ]⟩,⟨[.hole],[],[2],[.bool]⟩,1,[],[],false,true,fun (x:(jS×jI))=>zc0 x.1 x.2⟩
theorem zGO:SK 100 zIB:=qg .run [.tmp 4] zg zy (gdG zEH zb) Tryz.func100 ob0
def zzr:ShC:=⟨⟨[.hole,.hole],[],[1,1],[kJ,kJ]⟩,⟨[.hole],[],[2],[.bool]⟩,1,[],[],false,false,fun (x:(jI×jI))=>yj x.1 x.2⟩
theorem zyA:GD zzr []:=zb
def zE9:=zdn tb gl zyA zzr Tryz.f102
theorem zIN:VK zE9:=zr zg zyA
def zCB:Un:=lpU 2 [14,15,5,16,17,18,19,20,21,22,23,24,4,25,13] ⟨[0,1,12,13],⟨[.hole,.hole,.hole,.hole],[],[1,1,2,2],[kJ,kJ,.int .i64,.int .i64]⟩⟩ [((.exit 0),⟨[],⟨[],[],[],[]⟩⟩),(.ret,⟨[4],⟨[.hole],[],[2],[.bool]⟩⟩)] (lp zbx zd)
theorem zxh:UK zE9 (zaS (zo Tryz.f102) [1,1,0,1,0]) zCB:=zbQ .run zy zIN ob0
theorem zoq:SK 102 zzr:=qg (.seq .run (.seq .run (.seq (.seq .run (.block (.unit zCB))) .run))) [.tmp 4] zg zy zyA Tryz.func102 (ob1 zxh ob0)
def zAx:ShC:=⟨⟨[.hole],[],[1],[kJ]⟩,⟨[.hole],[],[2],[.ar kI 24]⟩,1,[],[],false,false,fun (x:jI)=>zfy x⟩
theorem zy3:GD zAx [(55,.gen (qw [zHD]))]:=(gd1 zrU zb)
def zHR:=zdn tb gl zy3 zAx Tryz.f198
theorem zIU:VK zHR:=zr zg zy3
def zBe:Un:=lpU 2 [8,9,10,4,11,12,13,14,15,16,17,18,19,7] ⟨[2,5,6,7],⟨[(.aptr 0),.hole,.hole,.hole],[.seq false],[1,2,2,2],[kJ,.int .i64,.int .i64,kJ]⟩⟩ [((.exit 0),⟨[2],⟨[(.aptr 0)],[.seq false],[2],[kJ]⟩⟩)] (lp zce zd)
theorem zvN:UK zHR (zaS (zo Tryz.f198) [1,0,1,0]) zBe:=zbQ .run zy zIU ob0
theorem zGu:SK 198 zAx:=qg (.seq .run (.seq (.seq .run (.block (.unit zBe))) .run)) [.cell 2 178] zg zy zy3 Tryz.func198 (ob1 zvN ob0)
def zAs:ShC:=⟨⟨[.hole,.hole],[],[1,1],[kJ,kJ]⟩,⟨[.hole],[],[2],[.bool]⟩,1,[],[],false,false,fun (x:(jI×jI))=>zf2 x.1 x.2⟩
theorem zwl:GD zAs [(198,.gen (qw [zAx]))]:=(gd1 zGu zb)
def zHi:=zdn tb gl zwl zAs Tryz.f159
theorem zIC:VK zHi:=zr zg zwl
def zCI:Un:=lpU 2 [13,14,7,15,16,17,18,19,20,21,4,22,12] ⟨[5,6,12],⟨[(.aptr 0),(.aptr 1),.hole],[.seq false,.seq false],[2,2,2],[.int .i64,kJ,kJ]⟩⟩ [((.exit 0),⟨[],⟨[],[],[],[]⟩⟩),(.ret,⟨[4],⟨[.hole],[],[2],[.bool]⟩⟩)] (lp zaK zd)
theorem zvJ:UK zHi (zaS (zo Tryz.f159) [1,1,0,1,0]) zCI:=zbQ .run zy zIC ob0
theorem zGP:SK 159 zAs:=qg (.seq .run (.seq .run (.seq (.seq .run (.block (.unit zCI))) .run))) [.tmp 4] zg zy zwl Tryz.func159 (ob1 zvJ ob0)
def zz3:ShC:=⟨⟨[.hole,.hole],[],[1,1],[kM,kJ]⟩,⟨[.hole],[],[2],[.int .i64]⟩,1,[],[],false,false,fun (x:(jS×jI))=>zgX x.1 x.2⟩
theorem zv0:GD zz3 []:=zb
def zFT:=zdn tb gl zv0 zz3 Tryz.f160
theorem zJc:VK zFT:=zr zg zv0
def zB5:Un:=lpU 2 [11,12,13,7,14,15,16,17,5,18,19,20,21,22,23,24,5,25,10] ⟨[0,5,8,9,10],⟨[.hole,.hole,.hole,.hole,.hole],[],[1,2,1,2,2],[kM,.int .i64,kJ,.int .i64,.int .i64]⟩⟩ [((.exit 0),⟨[5],⟨[.hole],[],[2],[.int .i64]⟩⟩)] (lp zdV zd)
theorem zx9:UK zFT (zaS (zo Tryz.f160) [1,1,0,1,0]) zB5:=zbQ .run zy zJc ob0
theorem zFu:SK 160 zz3:=qg (.seq .run (.seq .run (.seq (.seq .run (.block (.unit zB5))) .run))) [.tmp 4] zg zy zv0 Tryz.func160 (ob1 zx9 ob0)
def zAr:ShC:=⟨⟨[.hole,.hole,.hole],[],[1,1,1],[kM,kJ,kJ]⟩,⟨[.hole,.hole],[],[0,0],[kJ,kJ]⟩,2,[],[],true,false,fun (x:(jS×jI×jI))=>zh5 x.1 x.2.1 x.2.2⟩
theorem zvj:GD zAr [(102,.gen (qw [zzr])),(175,.gen (qw [zyV]))]:=(gd1 zoq (gd1 zsE zb))
def zG7:=zdn tb gl zvj zAr Tryz.f161
theorem zJp:VK zG7:=zr zg zvj
def zCD:Un:=lpU 2 [19,20,21,22,9,10,23,24,25,26,27,28,29,30,31,32,33,34,35,36,37,38,39,40,6,7,41,18] ⟨[8,16,17,18],⟨[.hole,.hole,.hole,.hole],[],[0,0,2,2],[kK,kK,.int .i64,.int .i64]⟩⟩ [((.exit 0),⟨[],⟨[],[],[],[]⟩⟩),(.ret,⟨[6,7],⟨[.hole,.hole],[],[0,0],[kJ,kJ]⟩⟩)] (lp zbK zd)
theorem zzi:UK zG7 (zaS (zo Tryz.f161) [1,1,0,1,0]) zCD:=zbQ .run zy zJp ob0
theorem zHK:SK 161 zAr:=qg (.seq .run (.seq .run (.seq (.seq .run (.block (.unit zCD))) .run))) [.tmp 6,.tmp 7] zg zy zvj Tryz.func161 (ob1 zzi ob0)
def zC9:ShC:=⟨⟨[.hole,.hole,.hole],[],[1,1,1],[kM,kJ,kJ]⟩,⟨[.hole],[],[2],[.bool]⟩,1,[],[],false,false,fun (x:(jS×jI×jI))=>zaz x.1 x.2.1 x.2.2⟩
theorem zwO:GD zC9 [(159,.gen (qw [zAs])),(160,.gen (qw [zz3])),(161,.gen (qw [zAr]))]:=(gd1 zGP (gd1 zFu (gd1 zHK zb)))
def zF3:=zdn tb gl zwO zC9 Tryz.f103
theorem zI6:VK zF3:=zr zg zwO
def zBR:Un:=lpU 2 [9,10,11,12,13,14,15,16,17,18,19,20,21,7,8,22,23,24,25,26,27,6,28,29,30,31,32,33,34,35,36,37,38,39,40,41,6,43,44,45,46,47,48,42,49,50,1,2] ⟨[0,1,2],⟨[.hole,.hole,.hole],[],[1,0,0],[kM,kJ,kJ]⟩⟩ [((.exit 0),⟨[],⟨[],[],[],[]⟩⟩),(.ret,⟨[6],⟨[.hole],[],[2],[.bool]⟩⟩)] (lp zdP zd)
theorem zyp:UK zF3 (zaS (zo Tryz.f103) [1,0,0]) zBR:=zbQ .run zy zI6 ob0
theorem zGT:SK 103 zC9:=qg (.seq .run (.seq (.block (.unit zBR)) .run)) [.tmp 6] zg zy zwO Tryz.func103 (ob1 zyp ob0)
def zJq:ShC:=⟨⟨[.hole,.hole,.hole],[],[1,1,1],[kM,kJ,kJ]⟩,⟨[.hole,.hole],[],[2,2],[.int .i64,.int .i64]⟩,2,[],[],false,true,fun (x:(jS×jI×jI))=>zba x.1 x.2.1 x.2.2⟩
theorem zBV:SK 41 zJq:=qg .run [.tmp 6,.tmp 7] zg zy (gdG zGO (gdG zB3 (gd1 zoq (gd1 zGT zb)))) Tryz.func41 ob0
def zJt:ShC:=⟨⟨[.hole,.hole,.hole],[],[1,1,1],[kM,kJ,kJ]⟩,⟨[.hole],[],[2],[.bool]⟩,1,[],[],false,true,fun (x:(jS×jI×jI))=>zjd x.1 x.2.1 x.2.2⟩
theorem zHE:SK 153 zJt:=qg .run [.tmp 6] zg zy (gdG zBV zb) Tryz.func153 ob0
def zHI:ShC:=⟨⟨[.nilv,.hole],[],[1],[.int .i64]⟩,⟨[(.view 0)],[.seq false],[2],[kJ]⟩,1,[],[],false,false,fun (x:Int)=>ze6 x⟩
theorem zGX:SK 217 zHI:=qg .run [.tmp 4] zg zy (gd0 1000025 zb) Tryz.func217 ob0
def zEV:ShC:=⟨⟨[.hole],[],[1],[kK]⟩,⟨[(.view 0)],[.seq false],[2],[kJ]⟩,1,[],[],false,false,fun (x:jR)=>zdz x⟩
theorem zwr:GD zEV [(217,.gen (qw [zHI]))]:=(gd1 zGX zb)
def zDY:=zdn tb gl zwr zEV Tryz.f195
theorem zFE:VK zDY:=zr zg zwr
def zC5:Un:=lpU 2 [28,29,30,8,31,32,33,6,34,27] ⟨[6,25,26,27],⟨[(.view 0),.hole,.hole,.hole],[.seq false],[1,2,2,2],[kK,.int .i64,.int .i64,kJ]⟩⟩ [((.exit 2),⟨[6],⟨[(.view 0)],[.seq false],[2],[kJ]⟩⟩)] (lp zab zd)
theorem zww:UK zDY (zaS (zo Tryz.f195) [1,1,1,1,0,1,0]) zC5:=zbQ .run zy zFE ob0
def zBk:Un:=lpU 2 [12,13,14,5,15,16,17,18,3,19,20,21,22,11] ⟨[0,3,9,10,11],⟨[.hole,.hole,.hole,.hole,.hole],[],[1,2,1,2,2],[kK,.int .i64,kK,.int .i64,.int .i64]⟩⟩ [((.exit 0),⟨[3],⟨[.hole],[],[2],[.int .i64]⟩⟩)] (lp zaa zd)
theorem zv6:UK zDY (zaS (zo Tryz.f195) [1,1,0,1,0]) zBk:=zbQ .run zy zFE ob0
theorem zFR:SK 195 zEV:=qg (.seq .run (.seq .run (.seq (.seq .run (.block (.unit zBk))) (.seq .run (.seq (.seq .run (.block (.unit zC5))) .run))))) [.tmp 2] zg zy zwr Tryz.func195 (ob1 zv6 (ob1 zww ob0))
def zIR:ShC:=⟨⟨[.hole,.hole,.hole,.hole],[],[1,1,1,1],[kM,kJ,.int .i64,kJ]⟩,⟨[(.view 0)],[.seq false],[2],[kJ]⟩,1,[],[],false,false,fun (x:(jS×jI×Int×jI))=>ziA x.1 x.2.1 x.2.2.1 x.2.2.2⟩
theorem zFI:SK 154 zIR:=qg .run [.tmp 8] zg zy (gd1 zAI (gd1 zFR zb)) Tryz.func154 ob0
def zF0:ShC:=⟨⟨[.nilv,.hole],[],[1],[.int .i64]⟩,⟨[(.view 0)],[.seq false],[2],[kK]⟩,1,[],[],false,false,fun (x:Int)=>zhd x⟩
theorem zHZ:SK 188 zF0:=qg .run [.tmp 4] zg zy (gd0 1000025 zb) Tryz.func188 ob0
def zAo:ShC:=⟨⟨[.hole],[],[1],[.sl (.one kK)]⟩,⟨[(.view 0)],[.seq false],[0],[kK]⟩,1,[],[],true,false,fun (x:(List jR))=>ze5 x⟩
theorem zxp:GD zAo [(188,.gen (qw [zF0]))]:=(gd1 zHZ zb)
def zEW:=zdn tb gl zxp zAo Tryz.f139
theorem zHX:VK zEW:=zr zg zxp
def zBQ:Un:=lpU 2 [28,29,30,8,31,32,33,6,34,27] ⟨[6,25,26,27],⟨[(.view 0),.hole,.hole,.hole],[.seq false],[1,2,2,0],[.sl (.one kK),.int .i64,.int .i64,kK]⟩⟩ [((.exit 2),⟨[6],⟨[(.view 0)],[.seq false],[0],[kK]⟩⟩)] (lp za2 zd)
theorem zxo:UK zEW (zaS (zo Tryz.f139) [1,1,1,1,0,1,0]) zBQ:=zbQ .run zy zHX ob0
def zCx:Un:=lpU 2 [12,13,14,5,15,16,17,18,3,19,20,21,22,11] ⟨[0,3,9,10,11],⟨[.hole,.hole,.hole,.hole,.hole],[],[1,2,1,2,2],[.sl (.one kK),.int .i64,.sl (.one kK),.int .i64,.int .i64]⟩⟩ [((.exit 0),⟨[3],⟨[.hole],[],[2],[.int .i64]⟩⟩)] (lp za8 zd)
theorem zwR:UK zEW (zaS (zo Tryz.f139) [1,1,0,1,0]) zCx:=zbQ .run zy zHX ob0
theorem zGr:SK 139 zAo:=qg (.seq .run (.seq .run (.seq (.seq .run (.block (.unit zCx))) (.seq .run (.seq (.seq .run (.block (.unit zBQ))) .run))))) [.tmp 2] zg zy zxp Tryz.func139 (ob1 zwR (ob1 zxo ob0))
def zDc:ShC:=⟨⟨[(.agg [.hole,.hole,.hole]),.hole,(.agg [.hole,.hole,.hole]),.hole],[],[1,1,1,1,1,1,1,1],[kL,kK,kL,.int .i64,kL,kK,kL,.int .i64]⟩,⟨[(.agg [(.view 0),.hole,(.view 1)])],[.seq false,.seq false],[0,0,0],[kK,kL,kL]⟩,1,[],[],true,false,fun (x:(jQ×jR×jQ×Int×jQ×jR×jQ×Int))=>zez x.1 x.2.1 x.2.2.1 x.2.2.2.1 x.2.2.2.2.1 x.2.2.2.2.2.1 x.2.2.2.2.2.2.1 x.2.2.2.2.2.2.2⟩
theorem zyC:GD zDc [(139,.gen (qw [zAo])),(140,.gen (qw [zxI]))]:=(gd1 zGr (gd1 zBP zb))
def zDl:=zdn tb gl zyC zDc Tryz.f75
theorem zGV:VK zDl:=zr zg zyC
def zBq:Un:=lpU 2 [49,50,51,52,13,12,53,54,55,56,57,58,59,60,61,62,48] ⟨[3,8,9,46,47,48],⟨[.hole,(.ptr 0 0),(.ptr 1 0),.hole,.hole,.hole],[.cells true [.nilv,.nilv,.nilv],.cells false [(.view 2),.hole,(.view 3)],.seq false,.seq false],[2,1,2,2,0,0,0],[.int .i64,kL,.int .i64,.int .i64,kK,kL,kL]⟩⟩ [((.exit 2),⟨[9],⟨[(.ptr 0 0)],[.cells false [(.view 1),.hole,(.view 2)],.seq false,.seq false],[0,0,0],[kK,kL,kL]⟩⟩)] (lp zby zd)
theorem zwT:UK zDl (zaS (zo Tryz.f75) [1,1,1,0,1,0]) zBq:=zbQ .run zy zGV ob0
def zBW:Un:=lpU 2 [31,32,33,34,11,10,35,36,37,38,39,40,41,42,43,44,30] ⟨[1,3,6,8,9,28,29,30],⟨[.hole,.hole,(.ptr 0 0),(.ptr 1 0),(.ptr 2 0),.hole,.hole,.hole],[.cells true [.hole,.hole,.hole],.cells true [.nilv,.nilv,.nilv],.cells false [(.view 3),.hole,(.view 4)],.seq false,.seq false],[2,2,1,2,2,1,1,1,0,0,0],[.int .i64,.int .i64,kL,.int .i64,.int .i64,kL,kK,kL,kK,kL,kL]⟩⟩ [((.exit 0),⟨[9],⟨[(.ptr 0 0)],[.cells false [(.view 1),.hole,(.view 2)],.seq false,.seq false],[0,0,0],[kK,kL,kL]⟩⟩)] (lp zbB zd)
theorem zwx:UK zDl (zaS (zo Tryz.f75) [1,1,0,1,0]) zBW:=zbQ .run zy zGV ob0
theorem zA5:SK 75 zDc:=qg (.seq .run (.seq .run (.seq (.seq .run (.block (.unit zBW))) (.seq (.seq .run (.block (.unit zBq))) .run)))) [.cell 8 29] zg zy zyC Tryz.func75 (ob1 zwx (ob1 zwT ob0))
def zGd:ShC:=⟨⟨[.hole,(.ptr 0 0)],[.cells true [.hole]],[1,1],[kJ,.sl (.cons kZ kR)]⟩,⟨[(.view 0)],[.seq false],[2],[kJ]⟩,1,[],[],false,false,fun (x:(jI×(List (Int×jI))))=>zaw x.1 x.2⟩
theorem zG2:SK 186 zGd:=qg .run [.tmp 3] zg zy (gd1 zBv zb) Tryz.func186 ob0
def zD3:ShC:=⟨⟨[(.agg [.hole,.hole,.hole]),(.clo 186 [(.ptr 0 0)])],[.cells true [.hole]],[1,1,1,1],[kL,kK,kL,.sl (.cons kZ kR)]⟩,⟨[(.agg [.hole,.hole,(.view 0)])],[.seq false],[2,2,2],[kL,kK,kL]⟩,1,[],[],false,false,fun (x:(jQ×jR×jQ×(List (Int×jI))))=>zjc x.1 x.2.1 x.2.2.1 x.2.2.2⟩
theorem zwX:GD zD3 [(186,.gen (qw [zGd]))]:=(gd1 zG2 zb)
def zAq:=zdn tb gl zwX zD3 Tryz.f170
theorem zDt:VK zAq:=zr zg zwX
def zCY:Un:=lpU 2 [52,53,54,11,55,56,57,58,59,60,61,62,63,64,65,66,67,51] ⟨[1,4,5,49,50,51],⟨[(.clo 186 [(.ptr 0 0)]),(.ptr 1 0),(.ptr 2 0),.hole,.hole,.hole],[.cells true [.hole],.cells true [.nilv,.nilv,.nilv],.cells false [.hole,.hole,(.view 3)],.seq false],[1,2,2,1,2,2,2],[kL,.int .i64,.int .i64,.sl (.cons kZ kR),kL,kK,kL]⟩⟩ [((.exit 4),⟨[5],⟨[(.ptr 0 0)],[.cells false [.hole,.hole,(.view 1)],.seq false],[2,2,2],[kL,kK,kL]⟩⟩)] (lp zca zd)
theorem zvF:UK zAq (zaS (zo Tryz.f170) [1,1,1,1,0,1,0]) zCY:=zbQ .run zy zDt ob0
def zA6:Un:=lpU 2 [36,37,38,9,39,40,41,42,43,44,45,46,47,35] ⟨[1,2,4,5,33,34,35],⟨[(.clo 186 [(.ptr 0 0)]),(.ptr 1 0),(.ptr 2 0),(.ptr 3 0),.hole,.hole,.hole],[.cells true [.hole],.cells true [.hole,.hole,.hole],.cells true [.nilv,.nilv,.nilv],.cells false [.hole,(.view 4),.nilv],.seq false],[1,2,2,1,1,1,1,2,2],[kK,.int .i64,.int .i64,.sl (.cons kZ kR),kL,kK,kL,kL,kK]⟩⟩ [((.exit 2),⟨[5],⟨[(.ptr 0 0)],[.cells false [.hole,(.view 1),.nilv],.seq false],[2,2],[kL,kK]⟩⟩)] (lp zcn zd)
theorem zwQ:UK zAq (zaS (zo Tryz.f170) [1,1,1,0,1,0]) zA6:=zbQ .run zy zDt ob0
def zA9:Un:=lpU 2 [16,17,18,7,19,20,21,22,23,24,25,26,27,28,29,30,31,15] ⟨[1,2,4,5,13,14,15],⟨[(.clo 186 [(.ptr 0 0)]),(.ptr 1 0),(.ptr 2 0),(.ptr 3 0),.hole,.hole,.hole],[.cells true [.hole],.cells true [.hole,.hole,.hole],.cells true [.nilv,.nilv,.nilv],.cells false [(.view 4),.nilv,.nilv],.seq false],[1,2,2,1,1,1,1,2],[kL,.int .i64,.int .i64,.sl (.cons kZ kR),kL,kK,kL,kL]⟩⟩ [((.exit 0),⟨[5],⟨[(.ptr 0 0)],[.cells false [(.view 1),.nilv,.nilv],.seq false],[2],[kL]⟩⟩)] (lp zcg zd)
theorem zwY:UK zAq (zaS (zo Tryz.f170) [1,1,0,1,0]) zA9:=zbQ .run zy zDt ob0
theorem zFP:SK 170 zD3:=qg (.seq .run (.seq .run (.seq (.seq .run (.block (.unit zA9))) (.seq (.seq .run (.block (.unit zA6))) (.seq (.seq .run (.block (.unit zCY))) .run))))) [.cell 4 29] zg zy zwX Tryz.func170 (ob1 zwY (ob1 zwQ (ob1 zvF ob0)))
def zIA:ShC:=⟨⟨[.hole,(.agg [.hole,.hole,.hole])],[],[1,1,1,1],[.sl (.cons kZ kR),kL,kK,kL]⟩,⟨[(.agg [.hole,.hole,(.view 0)])],[.seq false],[2,2,2],[kL,kK,kL]⟩,1,[],[],false,false,fun (x:((List (Int×jI))×jQ×jR×jQ))=>zgu x.1 x.2.1 x.2.2.1 x.2.2.2⟩
theorem zCC:SK 136 zIA:=qg .run [.cell 4 29] zg zy (gd1 zFP zb) Tryz.func136 ob0
def zIW:ShC:=⟨⟨[(.agg [.hole,.hole]),(.agg [.hole,.hole])],[],[1,1,1,1],[.bool,kJ,.bool,kJ]⟩,⟨[.hole],[],[2],[.bool]⟩,1,[],[],false,false,fun (x:(Bool×jI×Bool×jI))=>zlS x.1 x.2.1 x.2.2.1 x.2.2.2⟩
theorem zHw:SK 206 zIW:=qg .run [.tmp 4] zg zy (gd1 zoq zb) Tryz.func206 ob0
def zHm:ShC:=⟨⟨[(.agg [.hole,.hole]),(.ptr 0 0)],[.cells true [.hole,.hole]],[1,1,1,1],[.bool,kJ,.bool,kJ]⟩,⟨[.hole],[],[2],[.bool]⟩,1,[],[],false,false,fun (x:(Bool×jI×Bool×jI))=>zef x.1 x.2.1 x.2.2.1 x.2.2.2⟩
theorem zGF:SK 205 zHm:=qg .run [.tmp 3] zg zy (gd1 zHw zb) Tryz.func205 ob0
def zDL:ShC:=⟨⟨[.hole,(.clo 205 [(.ptr 0 0)])],[.cells true [.hole,.hole]],[1,1,1],[kL,.bool,kJ]⟩,⟨[.hole],[],[2],[.int .i64]⟩,1,[],[],false,false,fun (x:(jQ×Bool×jI))=>zeP x.1 x.2.1 x.2.2⟩
theorem zwS:GD zDL [(205,.gen (qw [zHm]))]:=(gd1 zGF zb)
def zGl:=zdn tb gl zwS zDL Tryz.f183
theorem zJo:VK zGl:=zr zg zwS
def zCU:Un:=lpU 2 [9,10,5,11,12,13,14,15,16,17,4,18,8] ⟨[0,1,7,8],⟨[.hole,(.clo 205 [(.ptr 0 0)]),.hole,.hole],[.cells true [.hole,.hole]],[1,2,2,2,1],[kL,.int .i64,.int .i64,.bool,kJ]⟩⟩ [((.exit 0),⟨[],⟨[],[],[],[]⟩⟩),(.ret,⟨[4],⟨[.hole],[],[2],[.int .i64]⟩⟩)] (lp qG zd)
theorem zxl:UK zGl (zaS (zo Tryz.f183) [1,0,1,0]) zCU:=zbQ .run zy zJo ob0
theorem zHv:SK 183 zDL:=qg (.seq .run (.seq (.seq .run (.block (.unit zCU))) .run)) [.tmp 4] zg zy zwS Tryz.func183 (ob1 zxl ob0)
def zHS:ShC:=⟨⟨[.hole,(.clo 205 [(.ptr 0 0)])],[.cells true [.hole,.hole]],[1,1,1],[kL,.bool,kJ]⟩,⟨[.hole],[],[2],[.bool]⟩,1,[],[],false,false,fun (x:(jQ×Bool×jI))=>zaL x.1 x.2.1 x.2.2⟩
theorem zFi:SK 133 zHS:=qg .run [.tmp 4] zg zy (gd1 zHv zb) Tryz.func133 ob0
def zA3:ShC:=⟨⟨[.hole],[],[1],[kL]⟩,⟨[(.view 0)],[.seq false],[0],[kL]⟩,1,[],[],true,false,fun (x:jQ)=>zfK x⟩
theorem zw7:GD zA3 [(133,.gen (qw [zHS]))]:=(gd1 zFi zb)
def zH1:=zdn tb gl zw7 zA3 Tryz.f168
theorem zI8:VK zH1:=zr zg zw7
def zB4:Un:=lpU 2 [9,10,11,5,12,13,14,15,16,17,18,19,3,20,8] ⟨[3,6,7,8],⟨[(.view 0),.hole,.hole,.hole],[.seq false],[1,2,2,0],[kL,.int .i64,.int .i64,kL]⟩⟩ [((.exit 0),⟨[3],⟨[(.view 0)],[.seq false],[0],[kL]⟩⟩)] (lp zcl zd)
theorem zw8:UK zH1 (zaS (zo Tryz.f168) [1,1,0,1,0]) zB4:=zbQ .run zy zI8 ob0
theorem zGD:SK 168 zA3:=qg (.seq .run (.seq .run (.seq (.seq .run (.block (.unit zB4))) .run))) [.tmp 2] zg zy zw7 Tryz.func168 (ob1 zw8 ob0)
def zFh:ShC:=⟨⟨[.hole,(.ptr 0 0)],[.cells true [.hole]],[1,1],[kJ,kJ]⟩,⟨[.hole],[],[2],[.bool]⟩,1,[],[],false,false,fun (x:(jI×jI))=>zeh x.1 x.2⟩
theorem zFN:SK 169 zFh:=qg .run [.tmp 3] zg zy (gd1 zoq zb) Tryz.func169 ob0
def zDA:ShC:=⟨⟨[.hole,(.clo 169 [(.ptr 0 0)])],[.cells true [.hole]],[1,1],[kK,kJ]⟩,⟨[.hole],[],[2],[.int .i64]⟩,1,[],[],false,false,fun (x:(jR×jI))=>zdv x.1 x.2⟩
theorem zx3:GD zDA [(169,.gen (qw [zFh]))]:=(gd1 zFN zb)
def zGW:=zdn tb gl zx3 zDA Tryz.f182
theorem zIu:VK zGW:=zr zg zx3
def zCy:Un:=lpU 2 [9,10,5,11,12,13,14,15,16,17,4,18,8] ⟨[0,1,7,8],⟨[.hole,(.clo 169 [(.ptr 0 0)]),.hole,.hole],[.cells true [.hole]],[1,2,2,1],[kK,.int .i64,.int .i64,kJ]⟩⟩ [((.exit 0),⟨[],⟨[],[],[],[]⟩⟩),(.ret,⟨[4],⟨[.hole],[],[2],[.int .i64]⟩⟩)] (lp qe zd)
theorem zvK:UK zGW (zaS (zo Tryz.f182) [1,0,1,0]) zCy:=zbQ .run zy zIu ob0
theorem zGL:SK 182 zDA:=qg (.seq .run (.seq (.seq .run (.block (.unit zCy))) .run)) [.tmp 4] zg zy zx3 Tryz.func182 (ob1 zvK ob0)
def zFK:ShC:=⟨⟨[.hole,(.clo 169 [(.ptr 0 0)])],[.cells true [.hole]],[1,1],[kK,kJ]⟩,⟨[.hole],[],[2],[.bool]⟩,1,[],[],false,false,fun (x:(jR×jI))=>qP x.1 x.2⟩
theorem zHV:SK 132 zFK:=qg .run [.tmp 4] zg zy (gd1 zGL zb) Tryz.func132 ob0
def zAh:ShC:=⟨⟨[.hole,(.aptr 0),(.ptr 1 0)],[.seq false,.cells false [.hole]],[1,1,1],[kJ,kJ,.int .i64]⟩,⟨[(.view 0),(.aptr 1),(.ptr 2 0)],[.seq false,.seq false,.cells false [.hole]],[2,0,2],[kJ,kJ,.int .i64]⟩,1,[1,2],[(0,1),(1,2)],true,false,fun (x:(jI×jI×Int))=>yP x.1 x.2.1 x.2.2⟩
theorem zvf:GD zAh [(55,.gen (qw [zHD])),(115,.gen (qw [zzQ]))]:=(gd1 zrU (gd1 zys zb))
def zHn:=zdn tb gl zvf zAh Tryz.f171
theorem zJj:VK zHn:=zr zg zvf
def zCW:Un:=lpU 2 [13,14,15,16,6,7,17,18,19,20,21,22,23,24,25,26,27,28,29,30,31,32,33,34,35,36,37,38,12] ⟨[1,2,5,10,11,12],⟨[(.aptr 0),(.ptr 1 0),(.view 2),(.view 2),.hole,.hole],[.seq false,.cells false [.hole],.seq false],[2,2,0,2,2],[.int .i64,.int .i64,kJ,.int .i64,kJ]⟩⟩ [((.exit 0),⟨[1,2,5],⟨[(.aptr 0),(.ptr 1 0),(.view 2)],[.seq false,.cells false [.hole],.seq false],[0,2,2],[kJ,.int .i64,kJ]⟩⟩)] (lp yV zd)
theorem zvk:UK zHn (zaS (zo Tryz.f171) [1,1,0,1,0]) zCW:=zbQ .run zy zJj ob0
theorem zFq:SK 171 zAh:=qg (.seq .run (.seq .run (.seq (.seq .run (.block (.unit zCW))) .run))) [.tmp 4] zg zy zvf Tryz.func171 (ob1 zvk ob0)
def zzt:ShC:=⟨⟨[(.agg [.hole,.hole,.hole]),(.clo 171 [(.aptr 0),(.ptr 1 0)])],[.seq false,.cells false [.hole]],[1,1,1,1,1],[kL,kK,kL,kJ,.int .i64]⟩,⟨[(.agg [.hole,.hole,(.view 0)]),(.clo 171 [(.aptr 1),(.ptr 2 0)])],[.seq false,.seq false,.cells false [.hole]],[2,2,2,0,2],[kL,kK,kL,kJ,.int .i64]⟩,1,[1],[(0,1),(1,2)],true,false,fun (x:(jQ×jR×jQ×jI×Int))=>zhw x.1 x.2.1 x.2.2.1 x.2.2.2.1 x.2.2.2.2⟩
theorem zxe:GD zzt [(171,.gen (qw [zAh]))]:=(gd1 zFq zb)
def zAK:=zdn tb gl zxe zzt Tryz.f170
theorem zEi:VK zAK:=zr zg zxe
def zCO:Un:=lpU 2 [52,53,54,11,55,56,57,58,59,60,61,62,63,64,65,66,67,51] ⟨[1,4,5,49,50,51],⟨[(.clo 171 [(.aptr 0),(.ptr 1 0)]),(.ptr 2 0),(.ptr 3 0),.hole,.hole,.hole],[.seq false,.cells false [.hole],.cells true [.nilv,.nilv,.nilv],.cells false [.hole,.hole,(.view 4)],.seq false],[1,2,2,0,2,2,2,2],[kL,.int .i64,.int .i64,kJ,.int .i64,kL,kK,kL]⟩⟩ [((.exit 4),⟨[1,5],⟨[(.clo 171 [(.aptr 0),(.ptr 1 0)]),(.ptr 2 0)],[.seq false,.cells false [.hole],.cells false [.hole,.hole,(.view 3)],.seq false],[0,2,2,2,2],[kJ,.int .i64,kL,kK,kL]⟩⟩)] (lp za0 zd)
theorem zwU:UK zAK (zaS (zo Tryz.f170) [1,1,1,1,0,1,0]) zCO:=zbQ (.seq .run (.seq .run (.seq (.block (.seq .run (.hide [[8,9],[8,9],[8,9],[8,9],[],[],[],[],[],[],[],[],[]]))) .run))) zy zEi ob0
def zBE:Un:=lpU 2 [36,37,38,9,39,40,41,42,43,44,45,46,47,35] ⟨[1,2,4,5,33,34,35],⟨[(.clo 171 [(.aptr 0),(.ptr 1 0)]),(.ptr 2 0),(.ptr 3 0),(.ptr 4 0),.hole,.hole,.hole],[.seq false,.cells false [.hole],.cells true [.hole,.hole,.hole],.cells true [.nilv,.nilv,.nilv],.cells false [.hole,(.view 5),.nilv],.seq false],[1,2,2,0,2,1,1,1,2,2],[kK,.int .i64,.int .i64,kJ,.int .i64,kL,kK,kL,kL,kK]⟩⟩ [((.exit 2),⟨[1,5],⟨[(.clo 171 [(.aptr 0),(.ptr 1 0)]),(.ptr 2 0)],[.seq false,.cells false [.hole],.cells false [.hole,(.view 3),.nilv],.seq false],[0,2,2,2],[kJ,.int .i64,kL,kK]⟩⟩)] (lp za7 zd)
theorem zw9:UK zAK (zaS (zo Tryz.f170) [1,1,1,0,1,0]) zBE:=zbQ (.seq .run (.seq .run (.seq (.block (.seq .run (.hide [[8,9],[8,9],[],[],[],[],[],[],[]]))) .run))) zy zEi ob0
def zCj:Un:=lpU 2 [16,17,18,7,19,20,21,22,23,24,25,26,27,28,29,30,31,15] ⟨[1,2,4,5,13,14,15],⟨[(.clo 171 [(.aptr 0),(.ptr 1 0)]),(.ptr 2 0),(.ptr 3 0),(.ptr 4 0),.hole,.hole,.hole],[.seq false,.cells false [.hole],.cells true [.hole,.hole,.hole],.cells true [.nilv,.nilv,.nilv],.cells false [(.view 5),.nilv,.nilv],.seq false],[1,2,2,0,2,1,1,1,2],[kL,.int .i64,.int .i64,kJ,.int .i64,kL,kK,kL,kL]⟩⟩ [((.exit 0),⟨[1,5],⟨[(.clo 171 [(.aptr 0),(.ptr 1 0)]),(.ptr 2 0)],[.seq false,.cells false [.hole],.cells false [(.view 3),.nilv,.nilv],.seq false],[0,2,2],[kJ,.int .i64,kL]⟩⟩)] (lp za1 zd)
theorem zyv:UK zAK (zaS (zo Tryz.f170) [1,1,0,1,0]) zCj:=zbQ (.seq .run (.seq .run (.seq (.block (.seq .run (.hide [[8,9],[8,9],[8,9],[8,9],[],[],[],[],[],[],[],[],[]]))) .run))) zy zEi ob0
theorem zGb:SK 170 zzt:=qg (.seq .run (.seq .run (.seq (.seq .run (.block (.unit zCj))) (.seq (.seq .run (.block (.unit zBE))) (.seq (.seq .run (.block (.unit zCO))) .run))))) [.cell 4 29] zg zy zxe Tryz.func170 (ob1 zyv (ob1 zw9 (ob1 zwU ob0)))
def zDZ:ShC:=⟨⟨[(.agg [.hole,.hole,.hole])],[],[1,1,1],[kL,kK,kL]⟩,⟨[(.agg [.hole,.hole,(.view 0)])],[.seq false],[2,2,2],[kL,kK,kL]⟩,1,[],[],false,false,fun (x:(jQ×jR×jQ))=>zhu x.1 x.2.1 x.2.2⟩
theorem zv4:GD zDZ [(132,.gen (qw [zFK])),(168,.gen (qw [zA3])),(170,.gen (qw [zzt]))]:=(gd1 zHV (gd1 zGD (gd1 zGb zb)))
def zH5:=zdn tb gl zv4 zDZ Tryz.f116
theorem zJi:VK zH5:=zr zg zv4
def zB0:Un:=lpU 2 [19,20,21,5,22,23,24,25,26,27,28,29,30,31,32,33,18] ⟨[2,3,16,17,18],⟨[(.ptr 0 0),(.ptr 1 0),.hole,.hole,.hole],[.cells true [.nilv,.nilv,.nilv],.cells false [.hole,(.view 2),.hole],.seq false],[1,2,2,0,0,0],[kK,.int .i64,.int .i64,kL,kL,kK]⟩⟩ [((.exit 0),⟨[3],⟨[(.ptr 0 0)],[.cells false [.hole,(.view 1),.hole],.seq false],[0,0,0],[kL,kL,kK]⟩⟩)] (lp zcm zd)
theorem zyX:UK zH5 (zaS (zo Tryz.f116) [1,1,0,1,0]) zB0:=zbQ .run zy zJi ob0
theorem zFv:SK 116 zDZ:=qg (.seq .run (.seq .run (.seq (.seq .run (.block (.unit zB0))) .run))) [.cell 2 29] zg zy zv4 Tryz.func116 (ob1 zyX ob0)
def zJw:ShC:=⟨⟨[.hole,(.agg [.hole,.hole,.hole])],[],[1,1,1,1],[kM,kL,kK,kL]⟩,⟨[(.agg [.hole,.hole,(.view 0)]),.hole],[.seq false],[2,2,2,2],[kL,kK,.int .i64,kL]⟩,2,[],[],false,true,fun (x:(jS×jQ×jR×jQ))=>zdt x.1 x.2.1 x.2.2.1 x.2.2.2⟩
theorem zBM:SK 56 zJw:=qg .run [.cell 4 29,.tmp 5] zg zy (gdG zlp (gd1 zFv zb)) Tryz.func56 ob0
def zGg:ShC:=⟨⟨[.hole,(.agg [.hole,.hole,.hole]),.hole,.hole,(.agg [.hole,.hole,.hole]),.hole,.hole],[],[1,1,1,1,1,1,1,1,1,1,1],[kM,kL,kK,kL,.int .i64,.int .i64,kL,kK,kL,.int .i64,.int .i64]⟩,⟨[(.agg [.hole,.hole,(.view 0)]),.hole,.hole],[.seq false],[2,2,2,2,2],[kL,kK,.bool,.int .i64,kL]⟩,3,[],[],false,true,fun (x:(jS×jQ×jR×jQ×Int×Int×jQ×jR×jQ×Int×Int))=>zbt x.1 x.2.1 x.2.2.1 x.2.2.2.1 x.2.2.2.2.1 x.2.2.2.2.2.1 x.2.2.2.2.2.2.1 x.2.2.2.2.2.2.2.1 x.2.2.2.2.2.2.2.2.1 x.2.2.2.2.2.2.2.2.2.1 x.2.2.2.2.2.2.2.2.2.2⟩
theorem zBg:SK 90 zGg:=qg .run [.cell 14 29,.tmp 15,.tmp 16] zg zy (gdG zBM (gd1 zA5 (gdG zBr (gd1 zCC (gdG zHk (gd1 zBp (gd1 zAI (gd1 zBv (gdG zHE (gd1 zFI zb)))))))))) Tryz.func90 ob0
def zJz:ShC:=⟨⟨[.hole,(.agg [.hole,.hole,.hole]),.hole,.hole,(.agg [.hole,.hole,.hole]),.hole,.hole],[],[1,1,1,1,1,1,1,1,1,1,1],[kM,kL,kK,kL,.int .i64,.int .i64,kL,kK,kL,.int .i64,.int .i64]⟩,⟨[(.agg [.hole,.hole,(.view 0)]),.hole,.hole],[.seq false],[2,2,2,2,2],[kL,kK,.bool,.int .i64,kL]⟩,3,[],[],false,true,fun (x:(jS×jQ×jR×jQ×Int×Int×jQ×jR×jQ×Int×Int))=>zdx x.1 x.2.1 x.2.2.1 x.2.2.2.1 x.2.2.2.2.1 x.2.2.2.2.2.1 x.2.2.2.2.2.2.1 x.2.2.2.2.2.2.2.1 x.2.2.2.2.2.2.2.2.1 x.2.2.2.2.2.2.2.2.2.1 x.2.2.2.2.2.2.2.2.2.2⟩
theorem zG1:SK 36 zJz:=qg .run [.cell 14 29,.tmp 15,.tmp 16] zg zy (gdG zlp (gd1 ztA (gdG zBg zb))) Tryz.func36 ob0
def zF6:ShC:=⟨⟨[.hole,(.agg [.hole,.hole,.hole]),.hole],[],[1,1,1,1,1],[kM,kL,kK,kL,.int .i64]⟩,⟨[(.agg [.hole,.hole,(.view 0)]),.hole,.hole],[.seq false],[2,2,2,2,2],[kL,kK,.bool,.int .i64,kL]⟩,3,[],[],false,true,fun (x:(jS×jQ×jR×jQ×Int))=>zaP x.1 x.2.1 x.2.2.1 x.2.2.2.1 x.2.2.2.2⟩
theorem zCS:SK 106 zF6:=qg .run [.cell 6 29,.tmp 7,.tmp 8] zg zy (gdG zBM (gd1 zA5 (gdG zBr (gd1 zCC (gd1 zBp zb))))) Tryz.func106 ob0
def zID:ShC:=⟨⟨[.hole,(.agg [.hole,.hole,.hole]),.hole],[],[1,1,1,1,1],[kM,kL,kK,kL,.int .i64]⟩,⟨[(.agg [.hole,.hole,(.view 0)]),.hole,.hole],[.seq false],[2,2,2,2,2],[kL,kK,.bool,.int .i64,kL]⟩,3,[],[],false,true,fun (x:(jS×jQ×jR×jQ×Int))=>zjT x.1 x.2.1 x.2.2.1 x.2.2.2.1 x.2.2.2.2⟩
theorem zGA:SK 44 zID:=qg .run [.cell 6 29,.tmp 7,.tmp 8] zg zy (gdG zlp (gd1 ztA (gdG zCS zb))) Tryz.func44 ob0
def zHY:ShC:=⟨⟨[(.agg [.hole,.hole]),(.ptr 0 0)],[.cells true [.hole]],[1,1,1],[.bool,kJ,kM]⟩,⟨[.hole],[],[2],[.bool]⟩,1,[],[],false,true,fun (x:(Bool×jI×jS))=>zhb x.1 x.2.1 x.2.2⟩
theorem zId:SK 141 zHY:=qg .run [.tmp 3] zg zy (gdG zyn zb) Tryz.func141 ob0
def zEs:ShC:=⟨⟨[.hole,(.clo 141 [(.ptr 0 0)])],[.cells true [.hole]],[1,1],[kL,kM]⟩,⟨[.hole],[],[2],[.int .i64]⟩,1,[],[],false,true,fun (x:(jQ×jS))=>zdr x.1 x.2⟩
theorem zv1:GD zEs [(141,.gen (qw [zHY]))]:=(gdG zId zb)
def zGf:=zdn tb gl zv1 zEs Tryz.f183
theorem zIF:VK zGf:=zr zg zv1
def zCF:Un:=lpU 2 [9,10,5,11,12,13,14,15,16,17,4,18,8] ⟨[0,1,7,8],⟨[.hole,(.clo 141 [(.ptr 0 0)]),.hole,.hole],[.cells true [.hole]],[1,2,2,1],[kL,.int .i64,.int .i64,kM]⟩⟩ [((.exit 0),⟨[],⟨[],[],[],[]⟩⟩),(.ret,⟨[4],⟨[.hole],[],[2],[.int .i64]⟩⟩)] (lp qc zd)
theorem zvr:UK zGf (zaS (zo Tryz.f183) [1,0,1,0]) zCF:=zbQ .run zy zIF ob0
theorem zHb:SK 183 zEs:=qg (.seq .run (.seq (.seq .run (.block (.unit zCF))) .run)) [.tmp 4] zg zy zv1 Tryz.func183 (ob1 zvr ob0)
def zHd:ShC:=⟨⟨[.hole,(.clo 141 [(.ptr 0 0)])],[.cells true [.hole]],[1,1],[kL,kM]⟩,⟨[.hole],[],[2],[.bool]⟩,1,[],[],false,true,fun (x:(jQ×jS))=>zcx x.1 x.2⟩
theorem zHN:SK 133 zHd:=qg .run [.tmp 4] zg zy (gdG zHb zb) Tryz.func133 ob0
def zJA:ShC:=⟨⟨[.hole,(.agg [.hole,.hole]),(.agg [.hole,.hole])],[],[1,1,1,1,1],[kM,.bool,kJ,.bool,kJ]⟩,⟨[.hole,.hole],[],[2,2],[.int .i64,.int .i64]⟩,2,[],[],false,true,fun (x:(jS×Bool×jI×Bool×jI))=>zg7 x.1 x.2.1 x.2.2.1 x.2.2.2.1 x.2.2.2.2⟩
theorem zFW:SK 144 zJA:=qg .run [.tmp 6,.tmp 7] zg zy (gdG zBV (gdG zyn zb)) Tryz.func144 ob0
def zHO:ShC:=⟨⟨[(.agg [.hole,.hole]),(.ptr 0 0),(.ptr 1 0)],[.cells true [.hole],.cells true [.hole,.hole]],[1,1,1,1,1],[.bool,kJ,kM,.bool,kJ]⟩,⟨[.hole],[],[2],[.bool]⟩,1,[],[],false,true,fun (x:(Bool×jI×jS×Bool×jI))=>zg9 x.1 x.2.1 x.2.2.1 x.2.2.2.1 x.2.2.2.2⟩
theorem zHo:SK 143 zHO:=qg .run [.tmp 4] zg zy (gdG zFW zb) Tryz.func143 ob0
def zDa:ShC:=⟨⟨[.hole,(.clo 143 [(.ptr 0 0),(.ptr 1 0)])],[.cells true [.hole],.cells true [.hole,.hole]],[1,1,1,1],[kL,kM,.bool,kJ]⟩,⟨[.hole],[],[2],[.int .i64]⟩,1,[],[],false,true,fun (x:(jQ×jS×Bool×jI))=>zdw x.1 x.2.1 x.2.2.1 x.2.2.2⟩
theorem zy8:GD zDa [(143,.gen (qw [zHO]))]:=(gdG zHo zb)
def zHq:=zdn tb gl zy8 zDa Tryz.f183
theorem zI3:VK zHq:=zr zg zy8
def zC3:Un:=lpU 2 [9,10,5,11,12,13,14,15,16,17,4,18,8] ⟨[0,1,7,8],⟨[.hole,(.clo 143 [(.ptr 0 0),(.ptr 1 0)]),.hole,.hole],[.cells true [.hole],.cells true [.hole,.hole]],[1,2,2,1,2,1],[kL,.int .i64,.int .i64,kM,.bool,kJ]⟩⟩ [((.exit 0),⟨[],⟨[],[],[],[]⟩⟩),(.ret,⟨[4],⟨[.hole],[],[2],[.int .i64]⟩⟩)] (lp y8 zd)
theorem zyY:UK zHq (zaS (zo Tryz.f183) [1,0,1,0]) zC3:=zbQ .run zy zI3 ob0
theorem zFl:SK 183 zDa:=qg (.seq .run (.seq (.seq .run (.block (.unit zC3))) .run)) [.tmp 4] zg zy zy8 Tryz.func183 (ob1 zyY ob0)
def zFV:ShC:=⟨⟨[.hole,(.clo 143 [(.ptr 0 0),(.ptr 1 0)])],[.cells true [.hole],.cells true [.hole,.hole]],[1,1,1,1],[kL,kM,.bool,kJ]⟩,⟨[.hole],[],[2],[.bool]⟩,1,[],[],false,true,fun (x:(jQ×jS×Bool×jI))=>qX x.1 x.2.1 x.2.2.1 x.2.2.2⟩
theorem zFB:SK 133 zFV:=qg .run [.tmp 4] zg zy (gdG zFl zb) Tryz.func133 ob0
def zxj:ShC:=⟨⟨[.hole,.hole],[],[1,1],[kM,kL]⟩,⟨[(.view 0),.hole],[.seq false],[2,2],[.int .i64,kJ]⟩,2,[],[],false,true,fun (x:(jS×jQ))=>ziG x.1 x.2⟩
theorem zyl:GD zxj [(52,.gen (qw [zGZ])),(133,.gen (qw [zHd,zFV]))]:=(gdG zDB (ziN (zlX (zkd zHN (zkd zFB zl0))) zb))
def zIa:=zdn tb gl zyl zxj Tryz.f77
theorem zIP:VK zIa:=zr zg zyl
def zBF:Un:=lpU 2 [20,21,22,23,8,7,24,25,26,27,28,29,30,31,6,32,19] ⟨[1,2,6,17,18,19],⟨[.hole,(.ptr 0 0),(.view 1),.hole,.hole,.hole],[.cells true [.hole],.seq false],[1,1,2,2,1,2],[kL,kL,.int .i64,.int .i64,kM,kJ]⟩⟩ [((.exit 0),⟨[6],⟨[(.view 0)],[.seq false],[2],[kJ]⟩⟩)] (lp zdY zd)
theorem zxN:UK zIa (zaS (zo Tryz.f77) [1,1,1,0,1,0]) zBF:=zbQ .run zy zIP ob0
theorem zBU:SK 77 zxj:=qg (.seq .run (.seq .run (.seq .run (.seq (.seq .run (.block (.unit zBF))) .run)))) [.tmp 4,.tmp 5] zg zy zyl Tryz.func77 (ob1 zxN ob0)
def zEL:ShC:=⟨⟨[.hole,(.ptr 0 0)],[.cells true [.hole,.hole,.hole]],[1,1,1,1],[.int .i64,kL,kK,kL]⟩,⟨[.hole],[],[2],[.bool]⟩,1,[],[],false,false,fun (x:(Int×jQ×jR×jQ))=>zfq x.1 x.2.1 x.2.2.1 x.2.2.2⟩
theorem zCz:SK 99 zEL:=qg .run [.tmp 3] zg zy (gd1 ztA zb) Tryz.func99 ob0
def zAR:ShC:=⟨⟨[.hole,(.clo 99 [(.ptr 0 0)])],[.cells true [.hole,.hole,.hole]],[1,1,1,1],[kJ,kL,kK,kL]⟩,⟨[.hole],[],[2],[.int .i64]⟩,1,[],[],false,false,fun (x:(jI×jQ×jR×jQ))=>zdu x.1 x.2.1 x.2.2.1 x.2.2.2⟩
theorem zzb:GD zAR [(99,.gen (qw [zEL]))]:=(gd1 zCz zb)
def zGU:=zdn tb gl zzb zAR Tryz.f157
theorem zJv:VK zGU:=zr zg zzb
def zBH:Un:=lpU 2 [9,10,5,11,12,13,14,15,16,17,4,18,8] ⟨[0,1,7,8],⟨[.hole,(.clo 99 [(.ptr 0 0)]),.hole,.hole],[.cells true [.hole,.hole,.hole]],[1,2,2,1,1,1],[kJ,.int .i64,.int .i64,kL,kK,kL]⟩⟩ [((.exit 0),⟨[],⟨[],[],[],[]⟩⟩),(.ret,⟨[4],⟨[.hole],[],[2],[.int .i64]⟩⟩)] (lp zX zd)
theorem zxG:UK zGU (zaS (zo Tryz.f157) [1,0,1,0]) zBH:=zbQ .run zy zJv ob0
theorem zGi:SK 157 zAR:=qg (.seq .run (.seq (.seq .run (.block (.unit zBH))) .run)) [.tmp 4] zg zy zzb Tryz.func157 (ob1 zxG ob0)
def zAH:ShC:=⟨⟨[(.view 0),(.clo 99 [(.ptr 1 0)])],[.seq false,.cells true [.hole,.hole,.hole]],[1,1,1,1],[kJ,kL,kK,kL]⟩,⟨[(.view 0)],[.seq false],[0],[kJ]⟩,1,[],[],true,false,fun (x:(jI×jQ×jR×jQ))=>zbU x.1 x.2.1 x.2.2.1 x.2.2.2⟩
theorem zxg:GD zAH [(99,.gen (qw [zEL])),(157,.gen (qw [zAR])),(1000041,.gen (qw []))]:=(gd1 zCz (gd1 zGi (gd0 1000041 zb)))
def zGN:=zdn tb gl zxg zAH Tryz.f98
theorem zIL:VK zGN:=zr zg zxg
def zBi:Un:=lpU 2 [16,17,18,19,22,23,24,25,7,26,27,28,29,30,31,32,33,34,35,5,20,21,6] ⟨[0,1,5,6],⟨[(.view 0),(.clo 99 [(.ptr 1 0)]),.hole,.hole],[.seq false,.cells true [.hole,.hole,.hole]],[2,2,0,1,1,1],[.int .i64,.int .i64,kJ,kL,kK,kL]⟩⟩ [((.exit 0),⟨[0,5],⟨[(.view 0),.hole],[.seq false],[2,0],[.int .i64,kJ]⟩⟩)] (lp yc zd)
theorem zwj:UK zGN (zaS (zo Tryz.f98) [1,1,1,0,1,0]) zBi:=zbQ .run zy zIL ob0
theorem zE8:SK 98 zAH:=qg (.seq .run (.seq .run (.seq .run (.seq (.seq .run (.block (.unit zBi))) .run)))) [.tmp 4] zg zy zxg Tryz.func98 (ob1 zwj ob0)
def zGC:ShC:=⟨⟨[.hole,(.agg [.hole,.hole])],[],[1,1,1],[kM,.bool,kJ]⟩,⟨[.hole],[],[2],[.bool]⟩,1,[],[],false,false,fun (x:(jS×Bool×jI))=>zbI x.1 x.2.1 x.2.2⟩
theorem zFQ:SK 190 zGC:=qg .run [.tmp 4] zg zy (gd1 zoq (gd1 zsE zb)) Tryz.func190 ob0
def zHs:ShC:=⟨⟨[(.agg [.hole,.hole]),(.ptr 0 0)],[.cells true [.hole,.hole]],[1,1,1,1],[.bool,kJ,.bool,kJ]⟩,⟨[.hole],[],[2],[.bool]⟩,1,[],[],false,false,fun (x:(Bool×jI×Bool×jI))=>zcG x.1 x.2.1 x.2.2.1 x.2.2.2⟩
theorem zH8:SK 191 zHs:=qg .run [.tmp 3] zg zy (gd1 zoq zb) Tryz.func191 ob0
def zDf:ShC:=⟨⟨[.hole,(.clo 191 [(.ptr 0 0)])],[.cells true [.hole,.hole]],[1,1,1],[kL,.bool,kJ]⟩,⟨[.hole],[],[2],[.int .i64]⟩,1,[],[],false,false,fun (x:(jQ×Bool×jI))=>zdC x.1 x.2.1 x.2.2⟩
theorem zwy:GD zDf [(191,.gen (qw [zHs]))]:=(gd1 zH8 zb)
def zH3:=zdn tb gl zwy zDf Tryz.f183
theorem zIV:VK zH3:=zr zg zwy
def zCT:Un:=lpU 2 [9,10,5,11,12,13,14,15,16,17,4,18,8] ⟨[0,1,7,8],⟨[.hole,(.clo 191 [(.ptr 0 0)]),.hole,.hole],[.cells true [.hole,.hole]],[1,2,2,2,1],[kL,.int .i64,.int .i64,.bool,kJ]⟩⟩ [((.exit 0),⟨[],⟨[],[],[],[]⟩⟩),(.ret,⟨[4],⟨[.hole],[],[2],[.int .i64]⟩⟩)] (lp y0 zd)
theorem zxL:UK zH3 (zaS (zo Tryz.f183) [1,0,1,0]) zCT:=zbQ .run zy zIV ob0
theorem zFr:SK 183 zDf:=qg (.seq .run (.seq (.seq .run (.block (.unit zCT))) .run)) [.tmp 4] zg zy zwy Tryz.func183 (ob1 zxL ob0)
def zHf:ShC:=⟨⟨[.hole,(.clo 191 [(.ptr 0 0)])],[.cells true [.hole,.hole]],[1,1,1],[kL,.bool,kJ]⟩,⟨[.hole],[],[2],[.bool]⟩,1,[],[],false,false,fun (x:(jQ×Bool×jI))=>qM x.1 x.2.1 x.2.2⟩
theorem zFb:SK 133 zHf:=qg .run [.tmp 4] zg zy (gd1 zFr zb) Tryz.func133 ob0
def zEE:ShC:=⟨⟨[.hole,(.agg [.hole,.hole,.hole])],[],[1,1,1,1],[kM,kL,kK,kL]⟩,⟨[.hole,.hole],[],[2,2],[.bool,.int .i64]⟩,2,[],[],false,true,fun (x:(jS×jQ×jR×jQ))=>zcc x.1 x.2.1 x.2.2.1 x.2.2.2⟩
theorem zwz:GD zEE [(42,.gen (qw [zuj])),(133,.gen (qw [zHf])),(190,.gen (qw [zGC]))]:=(gdG zlp (gd1 zFb (gd1 zFQ zb)))
def zFJ:=zdn tb gl zwz zEE Tryz.f146
theorem zIx:VK zFJ:=zr zg zwz
def zB1:Un:=lpU 2 [16,17,18,7,19,20,21,22,23,24,25,26,27,4,5,28,15] ⟨[0,3,13,14,15],⟨[.hole,(.ptr 0 0),.hole,.hole,.hole],[.cells true [.hole,.hole,.hole]],[1,1,2,2,1,1,1],[kM,kL,.int .i64,.int .i64,kL,kK,kL]⟩⟩ [((.exit 0),⟨[],⟨[],[],[],[]⟩⟩),(.ret,⟨[4,5],⟨[.hole,.hole],[],[2,2],[.bool,.int .i64]⟩⟩)] (lp zaA zd)
theorem zwW:UK zFJ (zaS (zo Tryz.f146) [1,1,0,1,0]) zB1:=zbQ .run zy zIx ob0
theorem zHg:SK 146 zEE:=qg (.seq .run (.seq .run (.seq (.seq .run (.block (.unit zB1))) .run))) [.tmp 4,.tmp 5] zg zy zwz Tryz.func146 (ob1 zwW ob0)
def zER:ShC:=⟨⟨[(.ptr 0 0),(.agg [.hole,.hole,.hole,.hole,.hole,.hole,.hole,.hole,.hole,.hole]),(.agg [.hole,.hole,.hole]),.hole,.hole],[.cells false [.hole,(.view 1),.hole],.seq false],[1,1,1,1,1,1,1,2,2,2,2,2,2,1,1,1,1,2],[.int .i64,.int .i64,.int .i64,.int .i64,.int .i64,.int .i64,.int .i64,kL,kK,kL,kL,kK,kL,.bool,.int .i64,kM,.int .i64,.sl (.cons kZ (.cons kZ (.cons kZ (.cons kZ (.cons kZ (.cons kZ (.cons kZ (.cons kL (.cons kK (.one kL))))))))))]⟩,⟨[(.ptr 0 0)],[.cells false [.hole,(.view 1),.hole],.seq false],[1,2,2],[kM,.int .i64,.sl (.cons kZ (.cons kZ (.cons kZ (.cons kZ (.cons kZ (.cons kZ (.cons kZ (.cons kL (.cons kK (.one kL))))))))))]⟩,0,[0],[(0,0)],true,true,fun (x:(Int×Int×Int×Int×Int×Int×Int×jQ×jR×jQ×jQ×jR×jQ×Bool×Int×jS×Int×jT))=>zM x.1 x.2.1 x.2.2.1 x.2.2.2.1 x.2.2.2.2.1 x.2.2.2.2.2.1 x.2.2.2.2.2.2.1 x.2.2.2.2.2.2.2.1 x.2.2.2.2.2.2.2.2.1 x.2.2.2.2.2.2.2.2.2.1 x.2.2.2.2.2.2.2.2.2.2.1 x.2.2.2.2.2.2.2.2.2.2.2.1 x.2.2.2.2.2.2.2.2.2.2.2.2.1 x.2.2.2.2.2.2.2.2.2.2.2.2.2.1 x.2.2.2.2.2.2.2.2.2.2.2.2.2.2.1 x.2.2.2.2.2.2.2.2.2.2.2.2.2.2.2.1 x.2.2.2.2.2.2.2.2.2.2.2.2.2.2.2.2.1 x.2.2.2.2.2.2.2.2.2.2.2.2.2.2.2.2.2⟩
theorem zA7:SK 79 zER:=qg (.seq .run (.seq .run (.seq .run (.seq .run (.hide [[9],[],[],[],[],[],[],[],[],[],[]]))))) [] zg zy (gdG zHg zb) Tryz.func79 ob0
def zA2:ShC:=⟨⟨[.hole,(.agg [.hole,.hole,.hole]),.hole,(.agg [.hole,.hole,.hole]),.hole],[],[1,1,1,1,1,1,1,1,1],[kM,kL,kK,kL,.int .i64,kL,kK,kL,.int .i64]⟩,⟨[(.view 0),.hole,.hole],[.seq false],[2,2,2],[.int .i64,.int .i64,.sl (.cons kZ (.cons kZ (.cons kZ (.cons kZ (.cons kZ (.cons kZ (.cons kZ (.cons kL (.cons kK (.one kL))))))))))]⟩,3,[],[],false,true,fun (x:(jS×jQ×jR×jQ×Int×jQ×jR×jQ×Int))=>zeZ x.1 x.2.1 x.2.2.1 x.2.2.2.1 x.2.2.2.2.1 x.2.2.2.2.2.1 x.2.2.2.2.2.2.1 x.2.2.2.2.2.2.2.1 x.2.2.2.2.2.2.2.2⟩
theorem zvu:GD zA2 [(42,.gen (qw [zuj])),(77,.gen (qw [zxj])),(79,.gen (qw [zER])),(90,.gen (qw [zGg])),(98,.gen (qw [zAH]))]:=(gdG zlp (gdG zBU (gdG zA7 (gdG zBg (gd1 zE8 zb)))))
def ztY:=zdn tb gl zvu zA2 Tryz.f39
theorem zAf:VK ztY:=zr zg zvu
def zC4:Un:=scU ztY [23,71,72,73,74,75,76,77,78,79,81,82,83,84,85,86,87,88,80,89,90,91,24,25,26,92,93,94,95,96,97,98,99,100,101,102,103,104,23] [(.goto 0,⟨[0,2,4,6,8,15,17,19,20,22,23,56,57,58,62,65,66,67],⟨[.hole,.hole,.hole,(.ptr 0 0),(.ptr 1 0),.hole,(.ptr 2 0),.hole,.hole,.hole,.hole,.hole,.hole,.hole,.hole,.hole,.hole,.hole],[.cells true [.hole,.hole,.hole],.cells true [.hole,.hole,.hole],.cells false [.hole,(.view 3),.hole],.seq false],[1,2,2,2,2,2,2,2,0,2,2,2,2,2,2,1,1,1,1,1,1,0,2,2],[kM,.int .i64,.int .i64,kJ,.int .i64,.int .i64,.int .i64,.int .i64,kJ,.int .i64,.int .i64,.int .i64,kJ,.int .i64,.int .i64,kL,kK,kL,kL,kK,kL,kM,.int .i64,.sl (.cons kZ (.cons kZ (.cons kZ (.cons kZ (.cons kZ (.cons kZ (.cons kZ (.cons kL (.cons kK (.one kL))))))))))]⟩⟩)] [(.normal,⟨[17],⟨[(.ptr 0 0)],[.cells false [.hole,(.view 1),.hole],.seq false],[0,2,2],[kM,.int .i64,.sl (.cons kZ (.cons kZ (.cons kZ (.cons kZ (.cons kZ (.cons kZ (.cons kZ (.cons kL (.cons kK (.one kL))))))))))]⟩⟩)] (ztk (zaS (zo Tryz.f39) [1,1,1,1,1,1,0,1,0,0,1,1,0,0,1,1,0,0,1,1,0,0,1,1,0,0,1,1,0,0,1])) .run (lp zfm zd)
theorem zwn:UK ztY (zaS (zo Tryz.f39) [1,1,1,1,1,1,0,1,0,0,1,1,0,0,1,1,0,0,1,1,0,0,1,1,0,0,1,1,0,0,1]) zC4:=zIj [] zy zAf ob0 zIm
def zB2:Un:=lpU 2 [68,69,70,22,23,71,72,73,74,75,76,77,78,79,81,82,83,84,85,86,87,88,80,89,90,91,24,25,26,92,93,94,95,96,97,98,99,100,101,102,103,104,23,105,67] ⟨[0,2,4,6,8,15,17,19,20,56,57,58,62,65,66,67],⟨[.hole,.hole,.hole,(.ptr 0 0),(.ptr 1 0),.hole,(.ptr 2 0),.hole,.hole,.hole,.hole,.hole,.hole,.hole,.hole,.hole],[.cells true [.hole,.hole,.hole],.cells true [.hole,.hole,.hole],.cells false [.hole,(.view 3),.hole],.seq false],[1,2,2,2,2,2,0,2,2,2,2,2,2,1,1,1,1,1,1,0,2,2],[kM,.int .i64,.int .i64,kJ,.int .i64,.int .i64,kJ,.int .i64,.int .i64,.int .i64,kJ,.int .i64,.int .i64,kL,kK,kL,kL,kK,kL,kM,.int .i64,.sl (.cons kZ (.cons kZ (.cons kZ (.cons kZ (.cons kZ (.cons kZ (.cons kZ (.cons kL (.cons kK (.one kL))))))))))]⟩⟩ [((.exit 4),⟨[17],⟨[(.ptr 0 0)],[.cells false [.hole,(.view 1),.hole],.seq false],[0,2,2],[kM,.int .i64,.sl (.cons kZ (.cons kZ (.cons kZ (.cons kZ (.cons kZ (.cons kZ (.cons kZ (.cons kL (.cons kK (.one kL))))))))))]⟩⟩)] (lp zc5 zd)
theorem zxV:UK ztY (zaS (zo Tryz.f39) [1,1,1,1,1,1,0,1,0,0,1,1,0,0,1,1,0,0,1,1,0,0,1,1,0]) zB2:=zbQ (.seq .run (.seq .run (.seq (.block (.seq .run (.unit zC4))) .run))) zy zAf (ob1 zwn ob0)
def zBd:Un:=lpU 2 [63,64,20,65,66,67,68,69,70,22,23,71,72,73,74,75,76,77,78,79,81,82,83,84,85,86,87,88,80,89,90,91,24,25,26,92,93,94,95,96,97,98,99,100,101,102,103,104,23,105,67,106,62] ⟨[0,2,4,6,8,15,17,19,56,57,58,62],⟨[.hole,.hole,.hole,(.ptr 0 0),(.ptr 1 0),.hole,(.ptr 2 0),.hole,.hole,.hole,.hole,.hole],[.cells true [.hole,.hole,.hole],.cells true [.hole,.hole,.hole],.cells false [.hole,(.view 3),.hole],.seq false],[1,2,2,2,2,0,2,2,2,1,1,1,1,1,1,0,2,2],[kM,.int .i64,.int .i64,kJ,.int .i64,kJ,.int .i64,.int .i64,.int .i64,kL,kK,kL,kL,kK,kL,kM,.int .i64,.sl (.cons kZ (.cons kZ (.cons kZ (.cons kZ (.cons kZ (.cons kZ (.cons kZ (.cons kL (.cons kK (.one kL))))))))))]⟩⟩ [((.exit 2),⟨[17],⟨[(.ptr 0 0)],[.cells false [.hole,(.view 1),.hole],.seq false],[0,2,2],[kM,.int .i64,.sl (.cons kZ (.cons kZ (.cons kZ (.cons kZ (.cons kZ (.cons kZ (.cons kZ (.cons kL (.cons kK (.one kL))))))))))]⟩⟩)] (lp zfl zd)
theorem zwC:UK ztY (zaS (zo Tryz.f39) [1,1,1,1,1,1,0,1,0,0,1,1,0,0,1,1,0]) zBd:=zbQ (.seq .run (.seq .run (.seq (.block (.seq .run (.seq .run (.block (.unit zB2))))) .run))) zy zAf (ob1 zxV ob0)
def zCi:Un:=lpU 2 [59,60,61,19,62,63,64,20,65,66,67,68,69,70,22,23,71,72,73,74,75,76,77,78,79,81,82,83,84,85,86,87,88,80,89,90,91,24,25,26,92,93,94,95,96,97,98,99,100,101,102,103,104,23,105,67,106,62,107,58] ⟨[0,2,4,6,8,15,17,56,57,58],⟨[.hole,.hole,.hole,(.ptr 0 0),(.ptr 1 0),.hole,(.ptr 2 0),.hole,.hole,.hole],[.cells true [.hole,.hole,.hole],.cells true [.hole,.hole,.hole],.cells false [.hole,(.view 3),.hole],.seq false],[1,2,2,2,0,2,2,1,1,1,1,1,1,0,2,2],[kM,.int .i64,.int .i64,kJ,kJ,.int .i64,.int .i64,kL,kK,kL,kL,kK,kL,kM,.int .i64,.sl (.cons kZ (.cons kZ (.cons kZ (.cons kZ (.cons kZ (.cons kZ (.cons kZ (.cons kL (.cons kK (.one kL))))))))))]⟩⟩ [((.exit 0),⟨[17],⟨[(.ptr 0 0)],[.cells false [.hole,(.view 1),.hole],.seq false],[0,2,2],[kM,.int .i64,.sl (.cons kZ (.cons kZ (.cons kZ (.cons kZ (.cons kZ (.cons kZ (.cons kZ (.cons kL (.cons kK (.one kL))))))))))]⟩⟩)] (lp zcY zd)
theorem zxC:UK ztY (zaS (zo Tryz.f39) [1,1,1,1,1,1,0,1,0]) zCi:=zbQ (.seq .run (.seq .run (.seq (.block (.seq .run (.seq .run (.block (.unit zBd))))) .run))) zy zAf (ob1 zwC ob0)
theorem zBJ:SK 39 zA2:=qg (.seq .run (.seq .run (.seq .run (.seq .run (.seq .run (.seq .run (.seq (.seq .run (.block (.unit zCi))) .run))))))) [.tmp 10,.tmp 11,.tmp 12] zg zy zvu Tryz.func39 (ob1 zxC ob0)
def zEk:ShC:=⟨⟨[.hole],[],[1],[.int .i64]⟩,⟨[.hole],[],[2],[.int .i64]⟩,1,[],[],false,false,fun (x:Int)=>zdq x⟩
theorem zv7:SK 18 zEk:=qg .run [.tmp 2] zg zy zb Tryz.func18 ob0
def zxk:ShC:=⟨⟨[.hole,.hole],[],[1,1],[kJ,kJ]⟩,⟨[.hole],[],[2],[.bool]⟩,1,[],[],false,false,fun (x:(jI×jI))=>zbR x.1 x.2⟩
theorem zwB:GD zxk []:=zb
def zF8:=zdn tb gl zwB zxk Tryz.f43
theorem zIQ:VK zF8:=zr zg zwB
def zCb:Un:=lpU 2 [11,12,13,14,17,18,19,20,21,22,23,24,25,4,15,16,5] ⟨[0,1,5],⟨[.hole,.hole,.hole],[],[1,1,2],[kJ,kJ,.int .i64]⟩⟩ [((.exit 0),⟨[],⟨[],[],[],[]⟩⟩),(.ret,⟨[4],⟨[.hole],[],[2],[.bool]⟩⟩)] (lp za3 zd)
theorem zvd:UK zF8 (zaS (zo Tryz.f43) [1,1,0,1,0]) zCb:=zbQ .run zy zIQ ob0
theorem zBj:SK 43 zxk:=qg (.seq .run (.seq .run (.seq (.seq .run (.block (.unit zCb))) .run))) [.tmp 4] zg zy zwB Tryz.func43 (ob1 zvd ob0)
def zw5:ShC:=⟨⟨[.hole,.hole],[],[1,1],[kL,kL]⟩,⟨[.hole],[],[2],[.bool]⟩,1,[],[],false,false,fun (x:(jQ×jQ))=>zdD x.1 x.2⟩
theorem zrG:GD zw5 [(43,.gen (qw [zxk]))]:=(gd1 zBj zb)
def zBn:=zdn tb gl zrG zw5 Tryz.f20
theorem zHW:VK zBn:=zr zg zrG
def zy6:Un:=lpU 2 [11,12,13,14,17,18,19,20,21,22,23,24,25,26,27,28,29,30,31,32,33,34,35,36,37,38,39,40,41,4,15,16,5] ⟨[0,1,5],⟨[.hole,.hole,.hole],[],[1,1,2],[kL,kL,.int .i64]⟩⟩ [((.exit 0),⟨[],⟨[],[],[],[]⟩⟩),(.ret,⟨[4],⟨[.hole],[],[2],[.bool]⟩⟩)] (lp zaY zd)
theorem zuW:UK zBn (zaS (zo Tryz.f20) [1,1,0,1,0]) zy6:=zbQ .run zy zHW ob0
theorem zD0:SK 20 zw5:=qg (.seq .run (.seq .run (.seq (.seq .run (.block (.unit zy6))) .run))) [.tmp 4] zg zy zrG Tryz.func20 (ob1 zuW ob0)
def zwF:ShC:=⟨⟨[.hole,.hole],[],[1,1],[kK,kK]⟩,⟨[.hole],[],[2],[.bool]⟩,1,[],[],false,false,fun (x:(jR×jR))=>zeY x.1 x.2⟩
theorem zr2:GD zwF [(43,.gen (qw [zxk]))]:=(gd1 zBj zb)
def zCw:=zdn tb gl zr2 zwF Tryz.f62
theorem zFz:VK zCw:=zr zg zr2
def zvM:Un:=lpU 2 [11,12,13,14,17,18,19,20,21,22,23,24,25,26,4,15,16,5] ⟨[0,1,5],⟨[.hole,.hole,.hole],[],[1,1,2],[kK,kK,.int .i64]⟩⟩ [((.exit 0),⟨[],⟨[],[],[],[]⟩⟩),(.ret,⟨[4],⟨[.hole],[],[2],[.bool]⟩⟩)] (lp zaW zd)
theorem zu0:UK zCw (zaS (zo Tryz.f62) [1,1,0,1,0]) zvM:=zbQ .run zy zFz ob0
theorem zDe:SK 62 zwF:=qg (.seq .run (.seq .run (.seq (.seq .run (.block (.unit zvM))) .run))) [.tmp 4] zg zy zr2 Tryz.func62 (ob1 zu0 ob0)
def zHH:ShC:=⟨⟨[(.agg [.hole,.hole,.hole]),(.agg [.hole,.hole,.hole])],[],[1,1,1,1,1,1],[kL,kK,kL,kL,kK,kL]⟩,⟨[.hole],[],[2],[.bool]⟩,1,[],[],false,false,fun (x:(jQ×jR×jQ×jQ×jR×jQ))=>qZ x.1 x.2.1 x.2.2.1 x.2.2.2.1 x.2.2.2.2.1 x.2.2.2.2.2⟩
theorem zyW:SK 17 zHH:=qg .run [.tmp 4] zg zy (gd1 zD0 (gd1 zDe zb)) Tryz.func17 ob0
def zCg:ShC:=⟨⟨[(.agg [.hole,.hole,.hole,.hole,.hole,.hole,.hole,.hole,.hole,.hole]),(.agg [.hole,.hole,.hole,.hole,.hole,.hole,.hole,.hole,.hole,.hole])],[],[1,1,1,1,1,1,1,1,1,1,1,1,1,1,1,1,1,1,1,1],[.int .i64,.int .i64,.int .i64,.int .i64,.int .i64,.int .i64,.int .i64,kL,kK,kL,.int .i64,.int .i64,.int .i64,.int .i64,.int .i64,.int .i64,.int .i64,kL,kK,kL]⟩,⟨[.hole],[],[2],[.bool]⟩,1,[],[],false,false,fun (x:(Int×Int×Int×Int×Int×Int×Int×jQ×jR×jQ×Int×Int×Int×Int×Int×Int×Int×jQ×jR×jQ))=>zkz x.1 x.2.1 x.2.2.1 x.2.2.2.1 x.2.2.2.2.1 x.2.2.2.2.2.1 x.2.2.2.2.2.2.1 x.2.2.2.2.2.2.2.1 x.2.2.2.2.2.2.2.2.1 x.2.2.2.2.2.2.2.2.2.1 x.2.2.2.2.2.2.2.2.2.2.1 x.2.2.2.2.2.2.2.2.2.2.2.1 x.2.2.2.2.2.2.2.2.2.2.2.2.1 x.2.2.2.2.2.2.2.2.2.2.2.2.2.1 x.2.2.2.2.2.2.2.2.2.2.2.2.2.2.1 x.2.2.2.2.2.2.2.2.2.2.2.2.2.2.2.1 x.2.2.2.2.2.2.2.2.2.2.2.2.2.2.2.2.1 x.2.2.2.2.2.2.2.2.2.2.2.2.2.2.2.2.2.1 x.2.2.2.2.2.2.2.2.2.2.2.2.2.2.2.2.2.2.1 x.2.2.2.2.2.2.2.2.2.2.2.2.2.2.2.2.2.2.2⟩
theorem zEc:SK 82 zCg:=qg .run [.tmp 4] zg zy (gd1 zyW zb) Tryz.func82 ob0
def zxc:ShC:=⟨⟨[.hole,.hole],[],[1,1],[.sl (.cons kZ (.cons kZ (.cons kZ (.cons kZ (.cons kZ (.cons kZ (.cons kZ (.cons kL (.cons kK (.one kL)))))))))),.sl (.cons kZ (.cons kZ (.cons kZ (.cons kZ (.cons kZ (.cons kZ (.cons kZ (.cons kL (.cons kK (.one kL))))))))))]⟩,⟨[.hole],[],[2],[.bool]⟩,1,[],[],false,false,fun (x:(jT×jT))=>zi8 x.1 x.2⟩
theorem zsb:GD zxc [(82,.gen (qw [zCg]))]:=(gd1 zEc zb)
def zC0:=zdn tb gl zsb zxc Tryz.f31
theorem zFL:VK zC0:=zr zg zsb
def zyM:Un:=lpU 2 [11,12,13,14,17,18,19,20,21,22,23,24,25,26,4,15,16,5] ⟨[0,1,5],⟨[.hole,.hole,.hole],[],[1,1,2],[.sl (.cons kZ (.cons kZ (.cons kZ (.cons kZ (.cons kZ (.cons kZ (.cons kZ (.cons kL (.cons kK (.one kL)))))))))),.sl (.cons kZ (.cons kZ (.cons kZ (.cons kZ (.cons kZ (.cons kZ (.cons kZ (.cons kL (.cons kK (.one kL)))))))))),.int .i64]⟩⟩ [((.exit 0),⟨[],⟨[],[],[],[]⟩⟩),(.ret,⟨[4],⟨[.hole],[],[2],[.bool]⟩⟩)] (lp zgy zd)
theorem ztS:UK zC0 (zaS (zo Tryz.f31) [1,1,0,1,0]) zyM:=zbQ .run zy zFL ob0
theorem zDz:SK 31 zxc:=qg (.seq .run (.seq .run (.seq (.seq .run (.block (.unit zyM))) .run))) [.tmp 4] zg zy zsb Tryz.func31 (ob1 ztS ob0)
def zBI:ShC:=⟨⟨[],[],[],[]⟩,⟨[.hole],[],[2],[.bool]⟩,1,[],[],false,true,fun (_:Unit)=>zjg⟩
theorem zC7:SK 38 zBI:=qg .run [.tmp 0] zg zy (gd1 zyW (gd1 zv7 (gd1 zDz (gdG zG1 (gdG zBJ (gdG zGA (gd1 zI5 zb))))))) Tryz.func38 ob0
def zsU:ShC:=⟨⟨[.hole,(.agg [.hole,.hole,.hole]),.hole],[],[1,1,1,1,1],[kM,kL,kK,kL,.int .i64]⟩,⟨[(.view 0),.hole,.hole],[.seq false],[2,2,2],[.int .i64,.int .i64,.sl (.cons kZ (.cons kZ (.cons kZ (.cons kZ (.cons kZ (.cons kZ (.cons kZ (.cons kL (.cons kK (.one kL))))))))))]⟩,3,[],[],false,true,fun (x:(jS×jQ×jR×jQ×Int))=>zar x.1 x.2.1 x.2.2.1 x.2.2.2.1 x.2.2.2.2⟩
theorem zsm:GD zsU [(42,.gen (qw [zuj])),(77,.gen (qw [zxj])),(79,.gen (qw [zER])),(89,.gen (qw [zHP])),(106,.gen (qw [zF6]))]:=(gdG zlp (gdG zBU (gdG zA7 (gd1 ztA (gdG zCS zb)))))
def zCr:=zdn tb gl zsm zsU Tryz.f46
theorem zH2:VK zCr:=zr zg zsm
def zyq:Un:=lpU 2 [33,34,35,13,36,37,38,40,41,42,43,39,44,45,46,14,15,16,47,48,49,50,51,52,53,54,32] ⟨[0,2,4,11,30,31,32],⟨[.hole,.hole,(.ptr 0 0),(.ptr 1 0),.hole,.hole,.hole],[.cells true [.hole,.hole,.hole],.cells false [.hole,(.view 2),.hole],.seq false],[1,2,2,2,2,1,1,1,0,2,2],[kM,.int .i64,kJ,.int .i64,.int .i64,kL,kK,kL,kM,.int .i64,.sl (.cons kZ (.cons kZ (.cons kZ (.cons kZ (.cons kZ (.cons kZ (.cons kZ (.cons kL (.cons kK (.one kL))))))))))]⟩⟩ [((.exit 0),⟨[11],⟨[(.ptr 0 0)],[.cells false [.hole,(.view 1),.hole],.seq false],[0,2,2],[kM,.int .i64,.sl (.cons kZ (.cons kZ (.cons kZ (.cons kZ (.cons kZ (.cons kZ (.cons kZ (.cons kL (.cons kK (.one kL))))))))))]⟩⟩)] (lp zak zd)
theorem zuN:UK zCr (zaS (zo Tryz.f46) [1,1,1,1,0,1,0]) zyq:=zbQ .run zy zH2 ob0
theorem zD6:SK 46 zsU:=qg (.seq .run (.seq .run (.seq .run (.seq .run (.seq (.seq .run (.block (.unit zyq))) .run))))) [.tmp 6,.tmp 7,.tmp 8] zg zy zsm Tryz.func46 (ob1 zuN ob0)
def zCh:ShC:=⟨⟨[.hole],[],[1],[kJ]⟩,⟨[.hole],[],[2],[.bool]⟩,1,[],[],false,false,fun (x:jI)=>zsZ x⟩
theorem zEP:SK 108 zCh:=qg .run [.tmp 2] zg zy zb Tryz.func108 ob0
def zs4:ShC:=⟨⟨[.hole,.hole],[],[1,1],[kM,.sl (.cons kL (.cons kK (.one kL)))]⟩,⟨[.hole],[],[2],[.bool]⟩,1,[],[],false,true,fun (x:(jS×(List (jQ×jR×jQ))))=>zij x.1 x.2⟩
theorem zrJ:GD zs4 [(18,.gen (qw [zEk])),(107,.gen (qw [zzD])),(108,.gen (qw [zCh]))]:=(gd1 zv7 (gdG zBh (gd1 zEP zb)))
def zCc:=zdn tb gl zrJ zs4 Tryz.f48
theorem zFa:VK zCc:=zr zg zrJ
def zxy:Un:=lpU 2 [8,9,10,11,15,16,17,18,19,20,14,21,22,6,7,23,24,25,26,27,28,29,30,4,12,13,5] ⟨[0,1,5],⟨[.hole,.hole,.hole],[],[1,1,2],[kM,.sl (.cons kL (.cons kK (.one kL))),.int .i64]⟩⟩ [((.exit 0),⟨[],⟨[],[],[],[]⟩⟩),(.ret,⟨[4],⟨[.hole],[],[2],[.bool]⟩⟩)] (lp zct zd)
theorem zuQ:UK zCc (zaS (zo Tryz.f48) [1,0,1,0]) zxy:=zbQ .run zy zFa ob0
theorem zDN:SK 48 zs4:=qg (.seq .run (.seq (.seq .run (.block (.unit zxy))) .run)) [.tmp 4] zg zy zrJ Tryz.func48 (ob1 zuQ ob0)
def zBu:ShC:=⟨⟨[.hole,.hole],[],[1,1],[.int .i64,kJ]⟩,⟨[(.agg [.hole,.hole])],[],[2,1],[.int .i64,kJ]⟩,1,[],[],true,false,fun (x:(Int×jI))=>zl2 x.1 x.2⟩
theorem zDd:SK 49 zBu:=qg .run [.cell 4 80] zg zy zb Tryz.func49 ob0
def ztx:ShC:=⟨⟨[(.agg [.hole,.hole,.hole])],[],[1,1,1],[kL,kK,kL]⟩,⟨[(.view 0)],[.seq false],[0],[kK]⟩,1,[],[],true,false,fun (x:(jQ×jR×jQ))=>zgI x.1 x.2.1 x.2.2⟩
theorem zsf:GD ztx []:=zb
def zsJ:=zdn tb gl zsf ztx Tryz.f121
theorem zyb:VK zsJ:=zr zg zsf
def zyE:Un:=lpU 2 [38,39,40,41,42,45,46,47,48,49,50,51,52,53,3,43,44,6] ⟨[1,3,6],⟨[(.ptr 0 0),(.view 1),.hole],[.cells true [.hole,.hole,.hole],.seq false],[2,1,1,1,0],[.int .i64,kL,kK,kL,kK]⟩⟩ [((.exit 4),⟨[3],⟨[(.view 0)],[.seq false],[0],[kK]⟩⟩)] (lp zdj zd)
theorem zuo:UK zsJ (zaS (zo Tryz.f121) [1,1,1,1,0,1,0]) zyE:=zbQ .run zy zyb ob0
def zwp:Un:=lpU 2 [23,24,25,26,27,30,31,32,33,34,35,36,37,3,28,29,5] ⟨[1,3,5],⟨[(.ptr 0 0),(.view 1),.hole],[.cells true [.hole,.hole,.hole],.seq false],[2,1,1,1,0],[.int .i64,kL,kK,kL,kK]⟩⟩ [((.exit 2),⟨[3],⟨[(.view 0)],[.seq false],[0],[kK]⟩⟩)] (lp zdl zd)
theorem zuV:UK zsJ (zaS (zo Tryz.f121) [1,1,1,0,1,0]) zwp:=zbQ .run zy zyb ob0
def zwk:Un:=lpU 2 [7,8,9,10,11,14,15,16,17,18,19,20,21,22,3,12,13,4] ⟨[1,3,4],⟨[(.ptr 0 0),(.view 1),.hole],[.cells true [.hole,.hole,.hole],.seq false],[2,1,1,1,0],[.int .i64,kL,kK,kL,kK]⟩⟩ [((.exit 0),⟨[3],⟨[(.view 0)],[.seq false],[0],[kK]⟩⟩)] (lp zdc zd)
theorem zur:UK zsJ (zaS (zo Tryz.f121) [1,1,0,1,0]) zwk:=zbQ .run zy zyb ob0
theorem zDD:SK 121 ztx:=qg (.seq .run (.seq .run (.seq (.seq .run (.block (.unit zwk))) (.seq (.seq .run (.block (.unit zwp))) (.seq (.seq .run (.block (.unit zyE))) .run))))) [.tmp 2] zg zy zsf Tryz.func121 (ob1 zur (ob1 zuV (ob1 zuo ob0)))
def ztc:ShC:=⟨⟨[.hole,.hole],[],[1,1],[kJ,.int .i64]⟩,⟨[.hole],[],[2],[.bool]⟩,1,[],[],false,false,fun (x:(jI×Int))=>zoV x.1 x.2⟩
theorem zrX:GD ztc []:=zb
def zC1:=zdn tb gl zrX ztc Tryz.f58
theorem zF7:VK zC1:=zr zg zrX
def zvX:Un:=lpU 2 [6,7,8,9,12,13,14,15,16,17,18,4,10,11,5] ⟨[0,1,5],⟨[.hole,.hole,.hole],[],[1,2,2],[kJ,.int .i64,.int .i64]⟩⟩ [((.exit 0),⟨[],⟨[],[],[],[]⟩⟩),(.ret,⟨[4],⟨[.hole],[],[2],[.bool]⟩⟩)] (lp zfg zd)
theorem zt8:UK zC1 (zaS (zo Tryz.f58) [1,0,1,0]) zvX:=zbQ .run zy zF7 ob0
theorem zDp:SK 58 ztc:=qg (.seq .run (.seq (.seq .run (.block (.unit zvX))) .run)) [.tmp 4] zg zy zrX Tryz.func58 (ob1 zt8 ob0)
def zsW:ShC:=⟨⟨[.hole],[],[1],[kJ]⟩,⟨[(.view 0)],[.seq false],[2],[kJ]⟩,1,[],[],false,false,fun (x:jI)=>zjt x⟩
theorem zrW:GD zsW [(58,.gen (qw [ztc]))]:=(gd1 zDp zb)
def zBy:=zdn tb gl zrW zsW Tryz.f164
theorem zF2:VK zBy:=zr zg zrW
def zxb:Un:=lpU 2 [5,6,9,10,11,12,13,14,15,3,7,8,4] ⟨[0,3,4],⟨[.hole,(.view 0),.hole],[.seq false],[1,2,2],[kJ,.int .i64,kJ]⟩⟩ [((.exit 0),⟨[3],⟨[(.view 0)],[.seq false],[2],[kJ]⟩⟩)] (lp zbi zd)
theorem zuC:UK zBy (zaS (zo Tryz.f164) [1,1,0,1,0]) zxb:=zbQ .run zy zF2 ob0
theorem zDK:SK 164 zsW:=qg (.seq .run (.seq .run (.seq (.seq .run (.block (.unit zxb))) .run))) [.tmp 2] zg zy zrW Tryz.func164 (ob1 zuC ob0)
def zsF:ShC:=⟨⟨[(.agg [.hole,.hole,.hole])],[],[1,1,1],[kL,kK,kL]⟩,⟨[(.view 0)],[.seq false],[2],[kJ]⟩,1,[],[],false,false,fun (x:(jQ×jR×jQ))=>zc3 x.1 x.2.1 x.2.2⟩
theorem zr4:GD zsF [(121,.gen (qw [ztx])),(164,.gen (qw [zsW]))]:=(gd1 zDD (gd1 zDK zb))
def zBT:=zdn tb gl zr4 zsF Tryz.f109
theorem zHB:VK zBT:=zr zg zr4
def zwe:Un:=lpU 2 [8,9,10,11,14,15,16,17,18,19,3,12,13,5] ⟨[3,4,5],⟨[(.view 0),.hole,.hole],[.seq false],[0,2,2],[kK,.int .i64,kJ]⟩⟩ [((.exit 0),⟨[3],⟨[(.view 0)],[.seq false],[2],[kJ]⟩⟩)] (lp zb6 zd)
theorem zt0:UK zBT (zaS (zo Tryz.f109) [1,1,1,0,1,0]) zwe:=zbQ .run zy zHB ob0
theorem zDM:SK 109 zsF:=qg (.seq .run (.seq .run (.seq .run (.seq (.seq .run (.block (.unit zwe))) .run)))) [.tmp 2] zg zy zr4 Tryz.func109 (ob1 zt0 ob0)
def zBB:ShC:=⟨⟨[],[],[],[]⟩,⟨[(.view 0)],[.seq false],[2],[kJ]⟩,1,[],[],false,false,fun (_:Unit)=>zph⟩
theorem zD8:SK 110 zBB:=qg .run [.tmp 0] zg zy zb Tryz.func110 ob0
def ztD:ShC:=⟨⟨[(.agg [.hole,.hole]),.hole,.hole],[],[1,1,1,1],[.int .i64,kJ,.int .i64,kJ]⟩,⟨[.hole],[],[2],[.int .i64]⟩,1,[],[],false,false,fun (x:(Int×jI×Int×jI))=>qR x.1 x.2.1 x.2.2.1 x.2.2.2⟩
theorem zrj:GD ztD []:=zb
def zCX:=zdn tb gl zrj ztD Tryz.f202
theorem zGv:VK zCX:=zr zg zrj
def zya:Un:=lpU 2 [17,18,19,20,23,24,25,26,27,28,29,30,31,7,21,22,8] ⟨[2,3,7,8],⟨[.hole,(.ptr 0 0),.hole,.hole],[.cells true [.hole,.hole]],[1,2,2,2,1],[kJ,.int .u64,.int .i64,.int .i64,kJ]⟩⟩ [((.exit 0),⟨[7],⟨[.hole],[],[2],[.int .u64]⟩⟩)] (lp zaj zd)
theorem zun:UK zCX (zaS (zo Tryz.f202) [1,1,1,0,1,0]) zya:=zbQ .run zy zGv ob0
theorem zsi:SK 202 ztD:=qg (.seq .run (.seq .run (.seq .run (.seq (.seq .run (.block (.unit zya))) .run)))) [.tmp 6] zg zy zrj Tryz.func202 (ob1 zun ob0)
def zm2 (k:Nat):ShC:=⟨⟨[(.agg [.hole,.hole]),.hole,.hole,.hole,.hole],[],[1,1,1,1,1,1],[.int .i64,kJ,kM,kJ,.int .i64,kJ]⟩,⟨[.hole,.hole],[],[2,2],[.int .i64,.int .i64]⟩,2,[],[],false,false,(zac k)⟩
def zB6:ShC:=⟨⟨[(.agg [.hole,.hole]),.hole,.hole,.hole,.hole],[],[1,1,1,1,1,1],[.int .i64,kJ,kM,kJ,.int .i64,kJ]⟩,⟨[.hole,.hole],[],[2,2],[.int .i64,.int .i64]⟩,2,[],[],false,false,fun (x:(Int×jI×jS×jI×Int×jI))=>zeM x.1 x.2.1 x.2.2.1 x.2.2.2.1 x.2.2.2.2.1 x.2.2.2.2.2⟩
def zka (k:Nat):Prop:=SK 222 (zm2 k)
def zBs (k:Nat):List (Nat×Con):=[(202,.gen (qw [ztD])),(222,.gen (qw [zm2 k]))]
theorem zvC (k:Nat) (h:zka k):GD (zm2 (k+1)) (zBs k):=(gd1 zsi (gd1 h zb))
def zBS (k:Nat):Env:=zjp tb gl (zBs k) (zm2 (k+1)) Tryz.f222.ntmps
theorem zGK (k:Nat) (h:zka k):VK (zBS k):=zr zg (zvC k h)
def zvI (k:Nat):Un:=lpU 2 [32,33,34,35,36,37,38,42,43,44,45,46,47,41,48,49,15,16,50,51,52,53,13,54,3,39,40,14] ⟨[1,2,3,4,5,12,13,14],⟨[.hole,.hole,.hole,.hole,(.ptr 0 0),.hole,(.view 1),.hole],[.cells true [.hole,.hole],.seq false],[1,1,2,1,2,2,2,1,2],[kM,kJ,.int .i64,kJ,.int .i64,.int .i64,.int .i64,kJ,kJ]⟩⟩ [((.exit 0),⟨[3,13],⟨[.hole,(.view 0)],[.seq false],[2,2],[.int .i64,kJ]⟩⟩)] (lp (yS (zac k)) zd)
theorem zt3 (k:Nat) (h:zka k):UK (zBS k) (zaS (zo Tryz.f222) [1,1,1,1,1,0,1,0]) (zvI k):=zbQ .run zy (zGK k h) ob0
theorem zAz (k:Nat) (h:zka k):SK 222 (zm2 (k+1)):=qg (.seq .run (.seq .run (.seq .run (.seq .run (.seq .run (.seq (.seq .run (.block (.unit (zvI k)))) .run)))))) [.tmp 10,.tmp 11] zg zy (zvC k h) Tryz.func222 (ob1 (zt3 k h) ob0)
theorem zop:∀ k,zka k
 | 0=>zyB (by kernel_rfl) fun _=>rfl
 | k+1=>have h:=zop k; zAz k h
theorem zEC:SK 222 zB6:=(zop zd)
def zyc:ShC:=⟨⟨[(.agg [.hole,.hole]),.hole,.hole,.hole],[],[1,1,1,1,1],[.int .i64,kJ,kM,kJ,kJ]⟩,⟨[(.view 0)],[.seq false],[2],[kJ]⟩,1,[],[],false,false,fun (x:(Int×jI×jS×jI×jI))=>zbE x.1 x.2.1 x.2.2.1 x.2.2.2.1 x.2.2.2.2⟩
theorem zsh:GD zyc [(222,.gen (qw [zB6]))]:=(gd1 zEC zb)
def zBa:=zdn tb gl zsh zyc Tryz.f203
theorem zFt:VK zBa:=zr zg zsh
def zvq:Un:=lpU 2 [13,14,15,16,18,19,20,21,22,23,17,24,25,11,12,26,27,28,29,9,30,10] ⟨[1,2,3,4,9,10],⟨[.hole,.hole,.hole,(.ptr 0 0),(.view 1),.hole],[.cells true [.hole,.hole],.seq false],[1,1,1,2,2,1,2],[kM,kJ,kJ,.int .i64,.int .i64,kJ,kJ]⟩⟩ [((.exit 0),⟨[9],⟨[(.view 0)],[.seq false],[2],[kJ]⟩⟩)] (lp yD zd)
theorem zuP:UK zBa (zaS (zo Tryz.f203) [1,1,1,0,0]) zvq:=zbQ .run zy zFt ob0
theorem zyO:SK 203 zyc:=qg (.seq .run (.seq .run (.seq .run (.seq (.block (.unit zvq)) .run)))) [.tmp 8] zg zy zsh Tryz.func203 (ob1 zuP ob0)
def zGy:ShC:=⟨⟨[(.agg [.hole,.hole]),.hole,.hole,.hole],[],[1,1,1,1,1],[.int .i64,kJ,kM,kJ,kJ]⟩,⟨[.hole],[],[2],[.bool]⟩,1,[],[],false,false,fun (x:(Int×jI×jS×jI×jI))=>zcC x.1 x.2.1 x.2.2.1 x.2.2.2.1 x.2.2.2.2⟩
theorem zDO:SK 201 zGy:=qg .run [.tmp 8] zg zy (gd1 zsi (gd1 zyO zb)) Tryz.func201 ob0
def zB7:ShC:=⟨⟨[(.agg [.hole,.hole]),.hole,(.agg [.hole,.hole]),.hole],[],[1,1,1,1,1,1],[.int .i64,kJ,kM,.bool,kJ,kJ]⟩,⟨[.hole],[],[2],[.bool]⟩,1,[],[],false,false,fun (x:(Int×jI×jS×Bool×jI×jI))=>zbm x.1 x.2.1 x.2.2.1 x.2.2.2.1 x.2.2.2.2.1 x.2.2.2.2.2⟩
theorem zEZ:SK 165 zB7:=qg .run [.tmp 8] zg zy (gd1 zDO zb) Tryz.func165 ob0
def zCd:ShC:=⟨⟨[(.agg [.hole,.hole]),.hole,.hole,.hole],[],[1,1,1,1,1],[.int .i64,kJ,kM,kJ,kJ]⟩,⟨[.hole],[],[2],[.bool]⟩,1,[],[],false,false,fun (x:(Int×jI×jS×jI×jI))=>zb3 x.1 x.2.1 x.2.2.1 x.2.2.2.1 x.2.2.2.2⟩
theorem zEb:SK 166 zCd:=qg .run [.tmp 8] zg zy (gd1 zsi (gd1 zyO zb)) Tryz.func166 ob0
def zsM:ShC:=⟨⟨[(.agg [.hole,.hole]),.hole,(.agg [.hole,.hole,.hole]),.hole],[],[1,1,1,1,1,1,1],[.int .i64,kJ,kM,kL,kK,kL,kJ]⟩,⟨[.hole],[],[2],[.bool]⟩,1,[],[],false,false,fun (x:(Int×jI×jS×jQ×jR×jQ×jI))=>zcv x.1 x.2.1 x.2.2.1 x.2.2.2.1 x.2.2.2.2.1 x.2.2.2.2.2.1 x.2.2.2.2.2.2⟩
theorem zrL:GD zsM [(165,.gen (qw [zB7])),(166,.gen (qw [zCd]))]:=(gd1 zEZ (gd1 zEb zb))
def ztF:=zdn tb gl zrL zsM Tryz.f111
theorem zyJ:VK ztF:=zr zg zrL
def zu8:Un:=lpU 2 [45,46,47,48,49,52,53,54,55,56,57,58,59,60,8,50,51,11] ⟨[1,3,4,6,11],⟨[.hole,.hole,(.ptr 0 0),(.ptr 1 0),.hole],[.cells true [.hole,.hole],.cells true [.hole,.hole,.hole]],[1,1,2,2,1,1,1,1],[kM,kJ,.int .i64,.int .i64,kJ,kL,kK,kL]⟩⟩ [((.exit 4),⟨[],⟨[],[],[],[]⟩⟩),(.ret,⟨[8],⟨[.hole],[],[2],[.bool]⟩⟩)] (lp zag zd)
theorem zuD:UK ztF (zaS (zo Tryz.f111) [1,1,1,0,1,0]) zu8:=zbQ .run zy zyJ ob0
def zx7:Un:=lpU 2 [29,30,31,32,33,36,37,38,39,40,41,42,43,44,8,34,35,10] ⟨[1,3,4,6,10],⟨[.hole,.hole,(.ptr 0 0),(.ptr 1 0),.hole],[.cells true [.hole,.hole],.cells true [.hole,.hole,.hole]],[1,1,2,2,1,1,1,1],[kM,kJ,.int .i64,.int .i64,kJ,kL,kK,kL]⟩⟩ [((.exit 2),⟨[],⟨[],[],[],[]⟩⟩),(.ret,⟨[8],⟨[.hole],[],[2],[.bool]⟩⟩)] (lp zah zd)
theorem zu1:UK ztF (zaS (zo Tryz.f111) [1,1,0,1,0]) zx7:=zbQ .run zy zyJ ob0
def zyS:Un:=lpU 2 [12,13,14,15,16,19,20,21,22,23,24,25,26,27,28,8,17,18,9] ⟨[1,3,4,6,9],⟨[.hole,.hole,(.ptr 0 0),(.ptr 1 0),.hole],[.cells true [.hole,.hole],.cells true [.hole,.hole,.hole]],[1,1,2,2,1,1,1,1],[kM,kJ,.int .i64,.int .i64,kJ,kL,kK,kL]⟩⟩ [((.exit 0),⟨[],⟨[],[],[],[]⟩⟩),(.ret,⟨[8],⟨[.hole],[],[2],[.bool]⟩⟩)] (lp q7 zd)
theorem zuh:UK ztF (zaS (zo Tryz.f111) [1,0,1,0]) zyS:=zbQ .run zy zyJ ob0
theorem zEy:SK 111 zsM:=qg (.seq .run (.seq (.seq .run (.block (.unit zyS))) (.seq (.seq .run (.block (.unit zx7))) (.seq (.seq .run (.block (.unit zu8))) .run)))) [.tmp 8] zg zy zrL Tryz.func111 (ob1 zuh (ob1 zu1 (ob1 zuD ob0)))
def zti:ShC:=⟨⟨[(.agg [.hole,.hole]),(.view 0),.hole],[.seq false],[1,1,1,1],[.int .i64,kJ,kJ,kJ]⟩,⟨[.hole,(.view 0)],[.seq false],[2,0],[.bool,kJ]⟩,1,[1],[(0,0)],true,false,fun (x:(Int×jI×jI×jI))=>zcE x.1 x.2.1 x.2.2.1 x.2.2.2⟩
theorem zri:GD zti []:=zb
def zCf:=zdn tb gl zri zti Tryz.f112
theorem zFf:VK zCf:=zr zg zri
def zwa:Un:=lpU 2 [8,9,10,11,14,15,16,17,18,19,20,21,22,23,24,25,26,27,28,29,30,31,32,6,33,34,35,36,37,38,12,13,7] ⟨[1,2,3,7],⟨[(.view 0),.hole,(.ptr 1 0),.hole],[.seq false,.cells true [.hole,.hole]],[1,2,0,2,1],[kJ,.int .i64,kJ,.int .i64,kJ]⟩⟩ [((.exit 0),⟨[1],⟨[(.view 0)],[.seq false],[0],[kJ]⟩⟩),(.ret,⟨[1,6],⟨[(.view 0),.hole],[.seq false],[2,0],[.bool,kJ]⟩⟩)] (lp zad zd)
theorem zul:UK zCf (zaS (zo Tryz.f112) [1,0,1,0]) zwa:=zbQ .run zy zFf ob0
theorem zD9:SK 112 zti:=qg (.seq .run (.seq (.seq .run (.block (.unit zwa))) .run)) [.tmp 6] zg zy zri Tryz.func112 (ob1 zul ob0)
def ztm:ShC:=⟨⟨[(.agg [.hole,.hole]),.hole,(.agg [.hole,.hole,.hole])],[],[1,1,1,1,1,1],[.int .i64,kJ,kM,kL,kK,kL]⟩,⟨[.hole],[],[2],[.bool]⟩,1,[],[],false,false,fun (x:(Int×jI×jS×jQ×jR×jQ))=>zH x.1 x.2.1 x.2.2.1 x.2.2.2.1 x.2.2.2.2.1 x.2.2.2.2.2⟩
theorem zss:GD ztm [(109,.gen (qw [zsF])),(110,.gen (qw [zBB])),(111,.gen (qw [zsM])),(112,.gen (qw [zti]))]:=(gd1 zDM (gd1 zD8 (gd1 zEy (gd1 zD9 zb))))
def zBD:=zdn tb gl zss ztm Tryz.f50
theorem zGS:VK zBD:=zr zg zss
def zyT:Un:=lpU 2 [12,13,14,15,16,17,6,18,19,20,21,22,6] ⟨[1,3,5,7,8],⟨[.hole,(.ptr 0 0),(.ptr 1 0),.hole,(.view 2)],[.cells true [.hole,.hole],.cells true [.hole,.hole,.hole],.seq false],[1,2,2,1,1,1,1,0],[kM,kJ,.int .i64,kJ,kL,kK,kL,kJ]⟩⟩ [(.ret,⟨[6],⟨[.hole],[],[2],[.bool]⟩⟩)] (lp zan zd)
theorem zuS:UK zBD (zaS (zo Tryz.f50) [1,1,1,0]) zyT:=zbQ .run zy zGS ob0
theorem zDi:SK 50 ztm:=qg (.seq .run (.seq .run (.seq .run (.block (.unit zyT))))) [.tmp 6] zg zy zss Tryz.func50 (ob1 zuS ob0)
def ztL:ShC:=⟨⟨[.hole,(.agg [.hole,.hole,.hole]),(.agg [.hole,.hole,.hole]),.hole,.hole],[],[1,1,1,1,1,1,1,1,1],[kM,kL,kK,kL,kL,kK,kL,.int .i64,kJ]⟩,⟨[.hole],[],[2],[.bool]⟩,1,[],[],false,true,fun (x:(jS×jQ×jR×jQ×jQ×jR×jQ×Int×jI))=>zaO x.1 x.2.1 x.2.2.1 x.2.2.2.1 x.2.2.2.2.1 x.2.2.2.2.2.1 x.2.2.2.2.2.2.1 x.2.2.2.2.2.2.2.1 x.2.2.2.2.2.2.2.2⟩
theorem zrC:GD ztL [(18,.gen (qw [zEk])),(38,.gen (qw [zBI])),(39,.gen (qw [zA2])),(42,.gen (qw [zuj])),(46,.gen (qw [zsU])),(48,.gen (qw [zs4])),(49,.gen (qw [zBu])),(50,.gen (qw [ztm]))]:=(gd1 zv7 (gdG zC7 (gdG zBJ (gdG zlp (gdG zD6 (gdG zDN (gd1 zDd (gd1 zDi zb))))))))
def zxU:=zdn tb gl zrC ztL Tryz.f12
theorem zCa:VK zxU:=zr zg zrC
def zvh:Un:=lpU 2 [102,103,104,105,106,107,108,109,112,113,114,115,116,117,118,119,120,121,122,123,124,125,126,127,128,129,130,131,132,133,134,135,136,137,138,139,140,10,110,111,19] ⟨[0,11,17,19],⟨[.hole,.hole,(.ptr 0 0),.hole],[.cells true [.hole,.hole]],[1,2,2,2,0],[kM,.sl (.cons kZ (.cons kZ (.cons kZ (.cons kZ (.cons kZ (.cons kZ (.cons kZ (.cons kL (.cons kK (.one kL)))))))))),.int .i64,.int .i64,kJ]⟩⟩ [((.exit 2),⟨[],⟨[],[],[],[]⟩⟩),(.ret,⟨[10],⟨[.hole],[],[2],[.bool]⟩⟩)] (lp qu zd)
theorem zuq:UK zxU (zaS (zo Tryz.f12) [1,1,1,1,1,1,1,1,1,0,1,0]) zvh:=zbQ .run zy zCa ob0
def zx4:Un:=lpU 2 [72,73,74,75,78,79,80,81,82,83,84,85,86,87,88,89,90,91,92,93,94,95,96,10,76,77,18] ⟨[0,6,14,17,18],⟨[.hole,(.ptr 0 0),.hole,(.ptr 1 0),.hole],[.cells true [.hole,.hole,.hole],.cells true [.hole,.hole]],[1,2,2,1,1,1,2,0],[kM,.sl (.cons kZ (.cons kZ (.cons kZ (.cons kZ (.cons kZ (.cons kZ (.cons kZ (.cons kL (.cons kK (.one kL)))))))))),.int .i64,kL,kK,kL,.int .i64,kJ]⟩⟩ [((.exit 0),⟨[],⟨[],[],[],[]⟩⟩),(.ret,⟨[10],⟨[.hole],[],[2],[.bool]⟩⟩)] (lp qk zd)
theorem zuG:UK zxU (zaS (zo Tryz.f12) [1,1,1,1,1,1,1,0,1,0]) zx4:=zbQ .run zy zCa ob0
theorem zEX:SK 12 ztL:=qg (.seq .run (.seq .run (.seq .run (.seq .run (.seq .run (.seq .run (.seq .run (.seq (.seq .run (.block (.unit zx4))) (.seq .run (.seq (.seq .run (.block (.unit zvh))) .run)))))))))) [.tmp 10] zg zy zrC Tryz.func12 (ob1 zuG (ob1 zuq ob0))
end
end Go.Abs.Sz5
