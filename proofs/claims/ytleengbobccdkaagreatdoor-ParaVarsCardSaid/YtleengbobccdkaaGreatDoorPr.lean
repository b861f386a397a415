import Derived.Test.YtleengbobccdkaaGreatDoorFc
import Derived.Test.YtleengbobccdkaaGreatDoorQc
import Derived.Test.YtleengbobccdkaaGreatDoorXa
import Derived.Test.YtleengbobccdkaaGreatDoorProg
/-
 The functions make just that.
-/
namespace Go.Abs.Sz5
open Go Go.Abs Go.Abs.Q Go.Proofs
set_option maxRecDepth 100000
noncomputable section
abbrev kK:Ty:=.sl (.one (.sl (.one (.int .i64))))
abbrev kR:Tys:=.one (.sl (.one (.int .i64)))
abbrev kJ:Ty:=.sl (.one (.int .i64))
abbrev kI:Tys:=.one (.int .i64)
abbrev kZ:Ty:=.int .i64
abbrev kL:Ty:=.sl zmd
abbrev kM:Ty:=.sl zwm
def tbl:List (Nat×TD):=[(3,.int .i64),
 (4,.bool),
 (9,.str),
 (22,.sl 136 zwm 40),
 (23,.sl 3 kI 8),
 (24,.sl 69 zmd 32),
 (27,.sl 23 kR 24),
 (29,.st [(24,0),(27,1),(24,2)] 3),
 (50,.sl 73 (.cons kZ (.cons kZ (.cons kZ (.cons kZ (.cons kZ (.cons kZ (.cons kZ (.cons kL (.cons kK (.one kL)))))))))) 128),
 (69,.st [(4,0),(23,1)] 2),
 (73,.st [(3,0),(3,1),(3,2),(3,3),(3,4),(3,5),(3,6),(29,7)] 10),
 (99,.sl 144 (.cons kZ kR) 32),
 (109,.st [(22,0),(50,1),(3,2)] 3),
 (131,.int .u64),
 (136,.st [(9,0),(3,1),(3,2),(3,3)] 4),
 (144,.st [(3,0),(23,1)] 2),
 (178,.arr 3 kI 24),
 (198,.st [(23,0),(3,1)] 2),
 (199,.arr 198 (.cons (.ns kI) kI) 48),
 (201,.st [(22,0),(199,1)] 97),
 (204,.sl 27 (.one kK) 24),
 (206,.sl 24 (.one kL) 24),
 (217,.sl 220 (.cons kJ (.cons kZ (.cons kJ kI))) 64),
 (220,.fa 198 2 2),
 (239,.arr 4 (.one .bool) 48),
 (240,.sl 198 (.cons kJ kI) 32)]
def tb:Tb:=zyJ tbl
theorem zg:zeZ Tryz.prog tb:=zxn (by kernel_rfl)
theorem zB:Tryz.prog.follows .mixedOrders=true:=by kernel_rfl
def gl:Gl:=fun q=>cond (Nat.beq q 0) (some ⟨zwm,(([61],0,2,1):zi)⟩) (none)
abbrev SK:=ShOk Tryz.prog gl
abbrev UK:=UnA Tryz.prog
abbrev VK:=VAll Tryz.prog
abbrev GD (c:ShC):=zi1 Tryz.prog (cond c.glob gl fun _=>none)
def zGj:ShC:=⟨⟨[],[],[],[]⟩,⟨[(.view 0)],[.seq false],[2],[kM]⟩,1,[],[],false,false,fun (x:Unit)=>zda⟩
theorem zFp:SK 97 zGj:=qO .run [.tmp 0] zg zB za Tryz.func97 ob0
def zF3:ShC:=⟨⟨[.hole],[],[1],[.int .u8]⟩,⟨[.hole],[],[2],[.bool]⟩,1,[],[],false,false,fun (x:Int)=>zeu x⟩
theorem zFe:SK 204 zF3:=qO .run [.tmp 2] zg zB za Tryz.func204 ob0
def zEM:ShC:=⟨⟨[.hole],[],[1],[.str]⟩,⟨[.hole],[],[2],[.bool]⟩,1,[],[],false,false,fun (x:Str)=>zf0 x⟩
theorem zz3:GD zEM [(204,.gen (zan [zF3]))]:=(gd1 zFe za)
def zF4:=zd8 tb gl zz3 zEM Tryz.f167
theorem zF9:VK zF4:=zy zg zz3
def zBC:Un:=lpU 2 [20,21,3,22,23,24,25,26,27,28,29,30,31,32,33,34,35,36,37,38,2,39,19] ⟨[0,18,19],⟨[.hole,.hole,.hole],[],[2,2,2],[.str,.int .i64,.int .i64]⟩⟩ [((.exit 0),⟨[],⟨[],[],[],[]⟩⟩),(.ret,⟨[2],⟨[.hole],[],[2],[.bool]⟩⟩)] (lp zbH zd)
theorem zwG:UK zF4 (zbp (zu Tryz.f167) [1,1,0,1,0]) zBC:=zcw .run zB zF9 ob0
theorem zFz:SK 167 zEM:=qO (.seq .run (.seq .run (.seq (.seq .run (.block (.unit zBC))) .run))) [.tmp 2] zg zB zz3 Tryz.func167 (ob1 zwG ob0)
def zF1:ShC:=⟨⟨[(.agg [.hole,.hole,.hole,.hole])],[],[1,1,1,1],[.str,.int .i64,.int .i64,.int .i64]⟩,⟨[.hole],[],[2],[.bool]⟩,1,[],[],false,false,fun (x:zi)=>zeU x.1 x.2.1 x.2.2.1 x.2.2.2⟩
theorem zEI:SK 113 zF1:=qO .run [.tmp 2] zg zB (gd1 zFz za) Tryz.func113 ob0
def zEy:ShC:=⟨⟨[.hole,.hole],[],[1,1],[kM,.str]⟩,⟨[.hole],[],[2],[.int .i64]⟩,1,[],[],false,false,fun (x:(jS×Str))=>zg6 x.1 x.2⟩
theorem zAU:GD zEy []:=za
def zF6:=zd8 tb gl zAU zEy Tryz.f114
theorem zGf:VK zF6:=zy zg zAU
def zD3:Un:=lpU 2 [9,10,5,11,12,13,14,15,16,17,18,4,19,8] ⟨[0,1,7,8],⟨[.hole,.hole,.hole,.hole],[],[1,2,2,2],[kM,.str,.int .i64,.int .i64]⟩⟩ [((.exit 0),⟨[],⟨[],[],[],[]⟩⟩),(.ret,⟨[4],⟨[.hole],[],[2],[.int .i64]⟩⟩)] (lp zcv zd)
theorem zxZ:UK zF6 (zbp (zu Tryz.f114) [1,0,1,0]) zD3:=zcw .run zB zGf ob0
theorem zFN:SK 114 zEy:=qO (.seq .run (.seq (.seq .run (.block (.unit zD3))) .run)) [.tmp 4] zg zB zAU Tryz.func114 (ob1 zxZ ob0)
def zBV:ShC:=⟨⟨[.hole],[],[1],[kM]⟩,⟨[.hole],[],[2],[.bool]⟩,1,[],[],false,true,fun (x:jS)=>zhy x⟩
theorem zAw:GD zBV [(113,.gen (zan [zF1])),(114,.gen (zan [zEy]))]:=(gd1 zEI (gd1 zFN za))
def zFZ:=zd8 tb gl zAw zBV Tryz.f52
theorem zGg:VK zFZ:=zy zg zAw
def zCX:Un:=lpU 2 [19,20,21,22,25,26,27,28,29,30,31,32,33,34,35,36,37,38,39,40,41,2,23,24,3] ⟨[0,3],⟨[.hole,.hole],[],[1,2],[kM,.int .i64]⟩⟩ [((.exit 0),⟨[],⟨[],[],[],[]⟩⟩),(.ret,⟨[2],⟨[.hole],[],[2],[.bool]⟩⟩)] (lp zci zd)
theorem zxz:UK zFZ (zbp (zu Tryz.f52) [1,1,0,1,0]) zCX:=zcw .run zB zGg ob0
theorem zAh:SK 52 zBV:=qO (.seq .run (.seq .run (.seq (.seq .run (.block (.unit zCX))) .run))) [.tmp 2] zg zB zAw Tryz.func52 (ob1 zxz ob0)
def zDt:ShC:=⟨⟨[.hole],[],[1],[.int .i64]⟩,⟨[.hole],[],[2],[.int .i64]⟩,1,[],[],false,false,fun (x:Int)=>z6 x⟩
theorem zqh:SK 55 zDt:=qO .run [.tmp 2] zg zB za Tryz.func55 ob0
def zFW:ShC:=⟨⟨[.hole,.hole],[],[1,1],[kM,.int .i64]⟩,⟨[.hole,.hole],[],[2,2],[.int .i64,.bool]⟩,2,[],[],false,false,fun (x:(jS×Int))=>zhw x.1 x.2⟩
theorem zFi:SK 193 zFW:=qO .run [.tmp 4,.tmp 5] zg zB (gd1 zqh za) Tryz.func193 ob0
def zCm:ShC:=⟨⟨[.hole,.hole,.hole],[],[1,1,1],[kM,kJ,.int .i64]⟩,⟨[.hole,.hole],[],[2,2],[.int .i64,.bool]⟩,2,[],[],false,false,fun (x:(jS×jI×Int))=>zcF x.1 x.2.1 x.2.2⟩
theorem zAG:GD zCm [(193,.gen (zan [zFW]))]:=(gd1 zFi za)
def zFH:=zd8 tb gl zAG zCm Tryz.f151
theorem zGe:VK zFH:=zy zg zAG
def zDD:Un:=scU zFH [8,11,12,13,14,6,7,16,17,18,19,20,21,15,22,23,9,10,24,25,6,7,26,27,2,28,29,30,31,8,32,33,34,6,7] [(.goto 0,⟨[0,1,2,8],⟨[.hole,.hole,.hole,.hole],[],[1,1,2,2],[kM,kJ,.int .i64,.int .i64]⟩⟩)] [(.ret,⟨[6,7],⟨[.hole,.hole],[],[2,2],[.int .i64,.bool]⟩⟩)] (zq9 (zbp (zu Tryz.f151) [1])) .run (lp zbR zd)
theorem zwP:UK zFH (zbp (zu Tryz.f151) [1]) zDD:=zEz [] zB zGe ob0 zEA
theorem zxA:SK 151 zCm:=qO (.seq .run (.unit zDD)) [.tmp 6,.tmp 7] zg zB zAG Tryz.func151 (ob1 zwP ob0)
def zE6:ShC:=⟨⟨[.hole,.hole],[],[1,1],[kM,kJ]⟩,⟨[(.view 0),.hole],[.seq false],[2,2],[.bool,kJ]⟩,2,[],[],false,true,fun (x:(jS×jI))=>zdf x.1 x.2⟩
theorem zBi:GD zE6 [(52,.gen (zan [zBV])),(151,.gen (zan [zCm]))]:=(gdG zAh (gd1 zxA za))
def zE3:=zd8 tb gl zBi zE6 Tryz.f158
theorem zGb:VK zE3:=zy zg zBi
def zDs:Un:=scU zE3 [10,11,12,13,14,15,16,17,4,5,6,7,18,19,20,21,22,4,5,24,25,26,27,23,28,29,8,9,30,31,4,5,32,33,34,35,6,36,7] [(.goto 0,⟨[0,1,6,7],⟨[.hole,.hole,(.view 0),.hole],[.seq false],[1,1,2,2],[kM,kJ,.int .i64,kJ]⟩⟩)] [(.ret,⟨[4,5],⟨[(.view 0),.hole],[.seq false],[2,2],[.bool,kJ]⟩⟩)] (zq9 (zbp (zu Tryz.f158) [1])) .run (lp zb6 zd)
theorem zxr:UK zE3 (zbp (zu Tryz.f158) [1]) zDs:=zEz [] zB zGb ob0 zEA
theorem zA8:SK 158 zE6:=qO (.seq .run (.unit zDs)) [.tmp 4,.tmp 5] zg zB zBi Tryz.func158 (ob1 zxr ob0)
def zEZ:ShC:=⟨⟨[.hole,.hole],[],[1,1],[kM,kJ]⟩,⟨[.hole],[],[2],[.bool]⟩,1,[],[],false,true,fun (x:(jS×jI))=>zbi x.1 x.2⟩
theorem zy2:SK 101 zEZ:=qO .run [.tmp 4] zg zB (gdG zA8 za) Tryz.func101 ob0
def zBR:ShC:=⟨⟨[.hole,(.agg [.hole,.hole])],[],[1,1,1],[kM,.bool,kJ]⟩,⟨[.hole],[],[2],[.bool]⟩,1,[],[],false,true,fun (x:(jS×Bool×jI))=>zgg x.1 x.2.1 x.2.2⟩
theorem ztR:SK 142 zBR:=qO .run [.tmp 4] zg zB (gdG zy2 za) Tryz.func142 ob0
def zz9:ShC:=⟨⟨[.hole,.hole],[],[1,1],[kM,kL]⟩,⟨[.hole,.hole],[],[2,2],[.int .i64,.bool]⟩,2,[],[],false,true,fun (x:(jS×jQ))=>zb9 x.1 x.2⟩
theorem zvE:GD zz9 [(142,.gen (zan [zBR]))]:=(gdG ztR za)
def zCW:=zd8 tb gl zvE zz9 Tryz.f104
theorem zFr:VK zCW:=zy zg zvE
def zzf:Un:=lpU 2 [12,13,14,8,15,16,17,18,4,5,19,20,21,22,23,6,24,11] ⟨[0,6,9,10,11],⟨[.hole,.hole,.hole,.hole,.hole],[],[1,2,1,2,2],[kM,.int .i64,kL,.int .i64,.int .i64]⟩⟩ [((.exit 0),⟨[6],⟨[.hole],[],[2],[.int .i64]⟩⟩),(.ret,⟨[4,5],⟨[.hole,.hole],[],[2,2],[.int .i64,.bool]⟩⟩)] (lp zaa zd)
theorem zvo:UK zCW (zbp (zu Tryz.f104) [1,1,0,1,0]) zzf:=zcw .run zB zFr ob0
theorem zDA:SK 104 zz9:=qO (.seq .run (.seq .run (.seq (.seq .run (.block (.unit zzf))) .run))) [.tmp 4,.tmp 5] zg zB zvE Tryz.func104 (ob1 zvo ob0)
def zBk:ShC:=⟨⟨[.hole,.hole],[],[1,1],[kM,kJ]⟩,⟨[.hole,.hole],[],[2,2],[.int .i64,.int .i64]⟩,2,[],[],false,true,fun (x:(jS×jI))=>zgu x.1 x.2⟩
theorem zzJ:SK 162 zBk:=qO .run [.tmp 4,.tmp 5] zg zB (gdG zA8 za) Tryz.func162 ob0
def zAH:ShC:=⟨⟨[.hole,.hole],[],[1,1],[kM,kK]⟩,⟨[.hole,.hole],[],[2,2],[.int .i64,.bool]⟩,2,[],[],false,true,fun (x:(jS×jR))=>zdz x.1 x.2⟩
theorem ztC:GD zAH [(162,.gen (zan [zBk]))]:=(gdG zzJ za)
def zCh:=zd8 tb gl ztC zAH Tryz.f105
theorem zFx:VK zCh:=zy zg ztC
def zye:Un:=lpU 2 [15,16,17,18,8,9,20,21,22,19,23,24,10,11,25,26,27,7,28,29,30,31,32,33,34,4,5,35,36,37,38,6,39,14] ⟨[0,6,7,12,13,14],⟨[.hole,.hole,.hole,.hole,.hole,.hole],[],[1,2,2,1,2,2],[kM,.int .i64,.int .i64,kK,.int .i64,.int .i64]⟩⟩ [((.exit 0),⟨[6],⟨[.hole],[],[2],[.int .i64]⟩⟩),(.ret,⟨[4,5],⟨[.hole,.hole],[],[2,2],[.int .i64,.bool]⟩⟩)] (lp q9 zd)
theorem zur:UK zCh (zbp (zu Tryz.f105) [1,1,0,1,0]) zye:=zcw .run zB zFx ob0
theorem zDL:SK 105 zAH:=qO (.seq .run (.seq .run (.seq (.seq .run (.block (.unit zye))) .run))) [.tmp 4,.tmp 5] zg zB ztC Tryz.func105 (ob1 zur ob0)
def zw5:ShC:=⟨⟨[.hole,(.agg [.hole,.hole,.hole])],[],[1,1,1,1],[kM,kL,kK,kL]⟩,⟨[.hole],[],[2],[.bool]⟩,1,[],[],false,true,fun (x:(jS×jQ×jR×jQ))=>za0 x.1 x.2.1 x.2.2.1 x.2.2.2⟩
theorem znd:SK 42 zw5:=qO .run [.tmp 4] zg zB (gdG zAh (gdG zDA (gdG zDL za))) Tryz.func42 ob0
def zER:ShC:=⟨⟨[(.agg [.hole,.hole,.hole]),.hole,.hole],[],[1,1,1,1,1],[kL,kK,kL,.int .i64,.bool]⟩,⟨[.hole],[],[2],[.bool]⟩,1,[],[],false,false,fun (x:(jQ×jR×jQ×Int×Bool))=>zbX x.1 x.2.1 x.2.2.1 x.2.2.2.1 x.2.2.2.2⟩
theorem zvM:SK 89 zER:=qO .run [.tmp 6] zg zB za Tryz.func89 ob0
def zCK:ShC:=⟨⟨[.nilv,.hole],[],[1],[.int .i64]⟩,⟨[(.view 0)],[.seq false],[2],[kL]⟩,1,[],[],false,false,fun (x:Int)=>zek x⟩
theorem zCS:SK 189 zCK:=qO .run [.tmp 4] zg zB (gd0 1000025 za) Tryz.func189 ob0
def zvv:ShC:=⟨⟨[.hole],[],[1],[.sl (.one kL)]⟩,⟨[(.view 0)],[.seq false],[0],[kL]⟩,1,[],[],true,false,fun (x:(List jQ))=>zbM x⟩
theorem zsM:GD zvv [(189,.gen (zan [zCK]))]:=(gd1 zCS za)
def zAM:=zd8 tb gl zsM zvv Tryz.f140
theorem zDT:VK zAM:=zy zg zsM
def zyR:Un:=lpU 2 [28,29,30,8,31,32,33,6,34,27] ⟨[6,25,26,27],⟨[(.view 0),.hole,.hole,.hole],[.seq false],[1,2,2,0],[.sl (.one kL),.int .i64,.int .i64,kL]⟩⟩ [((.exit 2),⟨[6],⟨[(.view 0)],[.seq false],[0],[kL]⟩⟩)] (lp qQ zd)
theorem ztz:UK zAM (zbp (zu Tryz.f140) [1,1,1,1,0,1,0]) zyR:=zcw .run zB zDT ob0
def zya:Un:=lpU 2 [12,13,14,5,15,16,17,18,3,19,20,21,22,11] ⟨[0,3,9,10,11],⟨[.hole,.hole,.hole,.hole,.hole],[],[1,2,1,2,2],[.sl (.one kL),.int .i64,.sl (.one kL),.int .i64,.int .i64]⟩⟩ [((.exit 0),⟨[3],⟨[.hole],[],[2],[.int .i64]⟩⟩)] (lp qT zd)
theorem ztV:UK zAM (zbp (zu Tryz.f140) [1,1,0,1,0]) zya:=zcw .run zB zDT ob0
theorem zyN:SK 140 zvv:=qO (.seq .run (.seq .run (.seq (.seq .run (.block (.unit zya))) (.seq .run (.seq (.seq .run (.block (.unit zyR))) .run))))) [.tmp 2] zg zB zsM Tryz.func140 (ob1 ztV (ob1 ztz ob0))
def zFh:ShC:=⟨⟨[.hole],[],[1],[.int .i64]⟩,⟨[.hole],[],[2],[.bool]⟩,1,[],[],false,false,fun (x:Int)=>ziR x⟩
theorem zDj:SK 228 zFh:=qO .run [.tmp 2] zg zB za Tryz.func228 ob0
def zDg:ShC:=⟨⟨[.hole,.hole],[],[1,1],[.int .i64,.int .i64]⟩,⟨[.hole],[],[2],[.bool]⟩,1,[],[],false,false,fun (x:(Int×Int))=>zkz x.1 x.2⟩
theorem zD7:SK 218 zDg:=qO .run [.tmp 4] zg zB (gd1 zDj za) Tryz.func218 ob0
def zEq:ShC:=⟨⟨[.hole],[],[1],[.int .i64]⟩,⟨[.hole],[],[2],[.bool]⟩,1,[],[],false,false,fun (x:Int)=>zdS x⟩
theorem zB0:SK 219 zEq:=qO .run [.tmp 2] zg zB za Tryz.func219 ob0
def zxl:ShC:=⟨⟨[.hole,.hole],[],[1,1],[kJ,.int .i64]⟩,⟨[.hole,.hole],[],[2,2],[.int .i64,.bool]⟩,2,[],[],false,false,fun (x:(jI×Int))=>zah x.1 x.2⟩
theorem zuP:GD zxl [(218,.gen (zan [zDg])),(219,.gen (zan [zEq]))]:=(gd1 zD7 (gd1 zB0 za))
def zDc:=zd8 tb gl zuP zxl Tryz.f199
theorem zFv:VK zDc:=zy zg zuP
def zzF:Un:=lpU 2 [13,14,15,16,17,18,19,20,21,9,22,23,24,25,26,27,28,29,7,30,8] ⟨[0,1,6,7,8],⟨[.hole,.hole,.hole,.hole,.hole],[],[1,2,2,2,2],[kJ,.int .i64,.int .i64,.int .i64,.int .i64]⟩⟩ [((.exit 0),⟨[7],⟨[.hole],[],[2],[.int .i64]⟩⟩)] (lp yz zd)
theorem zuH:UK zDc (zbp (zu Tryz.f199) [1,1,1,0,0]) zzF:=zcw .run zB zFv ob0
theorem zB7:SK 199 zxl:=qO (.seq .run (.seq .run (.seq .run (.seq (.block (.unit zzF)) .run)))) [.tmp 4,.tmp 5] zg zB zuP Tryz.func199 (ob1 zuH ob0)
def zmk:Go.Shelf.Ren:={ f:=fun x=>match x with | 21=>200 | 27=>220 | 28=>221 | 35=>229 | 39=>234 | n=>n,t:=fun x=>match x with | 22=>23 | 3=>3 | 4=>4 | 0=>0 | n=>n,g:=fun x=>x }
theorem zjW:Go.Proofs.Lays2.n21 Tryz.prog zmk where
 mixed:=by kernel_rfl
 f21:=Tryz.func200.trans (by kernel_rfl)
 f27:=Tryz.func220.trans (by kernel_rfl)
 f28:=Tryz.func221.trans (by kernel_rfl)
 f35:=Tryz.func229.trans (by kernel_rfl)
 f39:=Tryz.func234.trans (by kernel_rfl)
 t0:=Tryz.underlying0
 a0:=Tryz.isAgg0
 z0:=Tryz.sizeOf0
 v0:=Tryz.zeroValue0
 t3:=Tryz.underlying3
 a3:=Tryz.isAgg3
 z3:=Tryz.sizeOf3
 v3:=Tryz.zeroValue3
 t4:=Tryz.underlying4
 a4:=Tryz.isAgg4
 z4:=Tryz.sizeOf4
 v4:=Tryz.zeroValue4
 t22:=Tryz.underlying23
 a22:=Tryz.isAgg23
 z22:=Tryz.sizeOf23
 v22:=Tryz.zeroValue23
 i3:=by kernel_rfl
def zDi:ShC:=insC
theorem zEi:SK 200 zDi :=
 zuj (code:=zu Tryz.f200) Tryz.func200 (by kernel_rfl) (by kernel_rfl) zjW rfl
def zwV:ShC:=⟨⟨[(.view 0),.hole],[.seq false],[1,1],[kJ,kJ]⟩,⟨[(.view 0)],[.seq false],[0],[kJ]⟩,1,[],[],true,false,fun (x:(jI×jI))=>zcl x.1 x.2⟩
theorem zsK:GD zwV [(55,.gen (zan [zDt])),(199,.gen (zan [zxl])),(200,.gen (zan [zDi]))]:=(gd1 zqh (gd1 zB7 (gd1 zEi za)))
def zCY:=zd8 tb gl zsK zwV Tryz.f163
theorem zFa:VK zCY:=zy zg zsK
def zzL:Un:=lpU 2 [12,13,14,6,15,16,18,19,20,21,17,22,23,7,8,24,25,26,27,28,29,30,31,0,32,11] ⟨[0,9,10,11],⟨[(.view 0),.hole,.hole,.hole],[.seq false],[1,2,2,0],[kJ,.int .i64,.int .i64,kJ]⟩⟩ [((.exit 0),⟨[0],⟨[(.view 0)],[.seq false],[0],[kJ]⟩⟩)] (lp zbF zd)
theorem zsT:UK zCY (zbp (zu Tryz.f163) [1,0,1,0]) zzL:=zcw .run zB zFa ob0
theorem zDR:SK 163 zwV:=qO (.seq .run (.seq (.seq .run (.block (.unit zzL))) .run)) [.tmp 4] zg zB zsK Tryz.func163 (ob1 zsT ob0)
def zA6:ShC:=⟨⟨[.hole,(.agg [.hole,.hole,.hole])],[],[1,1,1,1],[kM,kL,kK,kL]⟩,⟨[(.view 0),.hole],[.seq false],[2,0],[.int .i64,kJ]⟩,2,[],[],true,true,fun (x:(jS×jQ×jR×jQ))=>qe x.1 x.2.1 x.2.2.1 x.2.2.2⟩
theorem zuX:GD zA6 [(42,.gen (zan [zw5])),(140,.gen (zan [zvv])),(163,.gen (zan [zwV]))]:=(gdG znd (gd1 zyN (gd1 zDR za)))
def zAq:=zd8 tb gl zuX zA6 Tryz.f107
theorem zCT:VK zAq:=zy zg zuX
def zzy:Un:=lpU 2 [35,36,37,10,38,39,40,6,41,34] ⟨[6,32,33,34],⟨[(.view 0),.hole,.hole,.hole],[.seq false],[1,2,2,0],[kK,.int .i64,.int .i64,kJ]⟩⟩ [((.exit 2),⟨[6],⟨[(.view 0)],[.seq false],[0],[kJ]⟩⟩)] (lp zbG zd)
theorem zvB:UK zAq (zbp (zu Tryz.f107) [1,1,1,1,0,1,0]) zzy:=zcw .run zB zCT ob0
def zza:Un:=lpU 2 [23,24,25,8,26,27,28,29,6,30,22] ⟨[3,6,20,21,22],⟨[(.ptr 0 0),(.view 1),.hole,.hole,.hole],[.cells true [.hole,.hole,.hole],.seq false],[0,2,2,1,1,1,0],[kL,.int .i64,.int .i64,kL,kK,kL,kJ]⟩⟩ [((.exit 0),⟨[6],⟨[(.view 0)],[.seq false],[0],[kJ]⟩⟩)] (lp zbD zd)
theorem zsI:UK zAq (zbp (zu Tryz.f107) [1,1,1,0,1,0]) zza:=zcw .run zB zCT ob0
theorem zEh:SK 107 zA6:=qO (.seq .run (.seq .run (.seq .run (.seq (.seq .run (.block (.unit zza))) (.seq (.seq .run (.block (.unit zzy))) .run))))) [.tmp 4,.tmp 5] zg zB zuX Tryz.func107 (ob1 zsI (ob1 zvB ob0))
def zE0:ShC:=⟨⟨[.hole],[],[1],[.ns kI]⟩,⟨[(.view 0)],[.seq false],[2],[kJ]⟩,1,[],[],false,false,fun (x:(Option jI))=>zhq x⟩
theorem zDZ:SK 115 zE0:=qO .run [.tmp 2] zg zB za Tryz.func115 ob0
def zFm:ShC:=⟨⟨[.nilv],[],[],[]⟩,⟨[(.view 0)],[.seq false],[2],[kJ]⟩,1,[],[],false,false,fun (x:Unit)=>zms⟩
theorem zC2:SK 115 zFm:=qO .run [.tmp 2] zg zB za Tryz.func115 ob0
def zxp:ShC:=⟨⟨[.hole],[],[1],[kJ]⟩,⟨[(.view 0)],[.seq false],[2],[kJ]⟩,1,[],[],false,false,fun (x:jI)=>zbZ x⟩
theorem zsR:SK 115 zxp :=
 zCw zC2 zDZ fun xs y h=>⟨h,fun e=>by subst e; exact h⟩
def zxW:ShC:=⟨⟨[.hole,(.ptr 0 0)],[.cells true [.hole]],[1,1],[kJ,.int .i64]⟩,⟨[(.view 0)],[.seq false],[2],[kJ]⟩,1,[],[],false,false,fun (x:(jI×Int))=>qb x.1 x.2⟩
theorem zwe:GD zxW [(115,.gen (zan [zxp]))]:=(gd1 zsR za)
def zCR:=zd8 tb gl zwe zxW Tryz.f216
theorem zFy:VK zCR:=zy zg zwe
def zyW:Un:=lpU 2 [12,13,14,15,5,6,16,17,18,19,20,21,22,23,24,11] ⟨[1,4,9,10,11],⟨[(.ptr 0 0),(.view 1),(.view 1),.hole,.hole],[.cells true [.hole],.seq false],[2,2,2,2],[.int .i64,.int .i64,.int .i64,kJ]⟩⟩ [((.exit 0),⟨[4],⟨[(.view 0)],[.seq false],[2],[kJ]⟩⟩)] (lp y9 zd)
theorem zvG:UK zCR (zbp (zu Tryz.f216) [1,1,0,1,0]) zyW:=zcw .run zB zFy ob0
theorem zCc:SK 216 zxW:=qO (.seq .run (.seq .run (.seq (.seq .run (.block (.unit zyW))) .run))) [.tmp 3] zg zB zwe Tryz.func216 (ob1 zvG ob0)
def zAd:ShC:=⟨⟨[(.agg [.hole,.hole,.hole]),(.clo 216 [(.ptr 0 0)])],[.cells true [.hole]],[1,1,1,1],[kL,kK,kL,.int .i64]⟩,⟨[(.agg [(.view 0),(.view 1),(.view 2)])],[.seq false,.seq false,.seq false],[2,2,2],[kL,kK,kL]⟩,1,[],[],false,false,fun (x:(jQ×jR×jQ×Int))=>zge x.1 x.2.1 x.2.2.1 x.2.2.2⟩
theorem zub:GD zAd [(216,.gen (zan [zxW]))]:=(gd1 zCc za)
def zxN:=zd8 tb gl zub zAd Tryz.f170
theorem zAV:VK zxN:=zy zg zub
def zze:Un:=lpU 2 [52,53,54,11,55,56,57,58,59,60,61,62,63,64,65,66,67,51] ⟨[1,4,5,49,50,51],⟨[(.clo 216 [(.ptr 0 0)]),(.ptr 1 0),(.ptr 2 0),.hole,.hole,.hole],[.cells true [.hole],.cells true [.nilv,.nilv,.nilv],.cells false [(.view 3),(.view 4),(.view 5)],.seq false,.seq false,.seq false],[1,2,2,2,2,2,2],[kL,.int .i64,.int .i64,.int .i64,kL,kK,kL]⟩⟩ [((.exit 4),⟨[5],⟨[(.ptr 0 0)],[.cells false [(.view 1),(.view 2),(.view 3)],.seq false,.seq false,.seq false],[2,2,2],[kL,kK,kL]⟩⟩)] (lp zar zd)
theorem zu2:UK zxN (zbp (zu Tryz.f170) [1,1,1,1,0,1,0]) zze:=zcw .run zB zAV ob0
def zzx:Un:=lpU 2 [36,37,38,9,39,40,41,42,43,44,45,46,47,35] ⟨[1,2,4,5,33,34,35],⟨[(.clo 216 [(.ptr 0 0)]),(.ptr 1 0),(.ptr 2 0),(.ptr 3 0),.hole,.hole,.hole],[.cells true [.hole],.cells true [.hole,.hole,.hole],.cells true [.nilv,.nilv,.nilv],.cells false [(.view 4),(.view 5),.nilv],.seq false,.seq false],[1,2,2,2,1,1,1,2,2],[kK,.int .i64,.int .i64,.int .i64,kL,kK,kL,kL,kK]⟩⟩ [((.exit 2),⟨[5],⟨[(.ptr 0 0)],[.cells false [(.view 1),(.view 2),.nilv],.seq false,.seq false],[2,2],[kL,kK]⟩⟩)] (lp zaz zd)
theorem zuY:UK zxN (zbp (zu Tryz.f170) [1,1,1,0,1,0]) zzx:=zcw .run zB zAV ob0
def zzK:Un:=lpU 2 [16,17,18,7,19,20,21,22,23,24,25,26,27,28,29,30,31,15] ⟨[1,2,4,5,13,14,15],⟨[(.clo 216 [(.ptr 0 0)]),(.ptr 1 0),(.ptr 2 0),(.ptr 3 0),.hole,.hole,.hole],[.cells true [.hole],.cells true [.hole,.hole,.hole],.cells true [.nilv,.nilv,.nilv],.cells false [(.view 4),.nilv,.nilv],.seq false],[1,2,2,2,1,1,1,2],[kL,.int .i64,.int .i64,.int .i64,kL,kK,kL,kL]⟩⟩ [((.exit 0),⟨[5],⟨[(.ptr 0 0)],[.cells false [(.view 1),.nilv,.nilv],.seq false],[2],[kL]⟩⟩)] (lp zaC zd)
theorem zsO:UK zxN (zbp (zu Tryz.f170) [1,1,0,1,0]) zzK:=zcw .run zB zAV ob0
theorem zCi:SK 170 zAd:=qO (.seq .run (.seq .run (.seq (.seq .run (.block (.unit zzK))) (.seq (.seq .run (.block (.unit zzx))) (.seq (.seq .run (.block (.unit zze))) .run))))) [.cell 4 29] zg zB zub Tryz.func170 (ob1 zsO (ob1 zuY (ob1 zu2 ob0)))
def zFt:ShC:=⟨⟨[(.agg [.hole,.hole,.hole]),.hole],[],[1,1,1,1],[kL,kK,kL,.int .i64]⟩,⟨[(.agg [(.view 0),(.view 1),(.view 2)])],[.seq false,.seq false,.seq false],[2,2,2],[kL,kK,kL]⟩,1,[],[],false,false,fun (x:(jQ×jR×jQ×Int))=>zC x.1 x.2.1 x.2.2.1 x.2.2.2⟩
theorem zCx:SK 192 zFt:=qO .run [.cell 4 29] zg zB (gd1 zCi za) Tryz.func192 ob0
def zFT:ShC:=⟨⟨[.hole,(.agg [.hole,.hole,.hole]),(.agg [.hole,.hole,.hole])],[],[1,1,1,1,1,1,1],[kM,kL,kK,kL,kL,kK,kL]⟩,⟨[(.agg [(.view 0),(.view 1),(.view 2)]),.hole],[.seq false,.seq false,.seq false],[2,2,2,2],[.bool,kL,kK,kL]⟩,2,[],[],false,true,fun (x:(jS×jQ×jR×jQ×jQ×jR×jQ))=>zcM x.1 x.2.1 x.2.2.1 x.2.2.2.1 x.2.2.2.2.1 x.2.2.2.2.2.1 x.2.2.2.2.2.2⟩
theorem zEm:SK 149 zFT:=qO .run [.cell 6 29,.tmp 7] zg zB (gdG zEh (gd1 zCx za)) Tryz.func149 ob0
def zuU:ShC:=⟨⟨[.hole,.hole],[],[1,1],[kM,kJ]⟩,⟨[(.view 0)],[.seq false],[0],[kK]⟩,1,[],[],true,false,fun (x:(jS×jI))=>zbe x.1 x.2⟩
theorem zvt:GD zuU [(151,.gen (zan [zCm]))]:=(gd1 zxA za)
def zDF:=zd8 tb gl zvt zuU Tryz.f175
theorem zE2:VK zDF:=zy zg zvt
def zzk:Un:=lpU 2 [9,10,11,12,14,15,16,17,13,18,19,7,8,20,21,22,4,23,24,25,26,27,28,29,5,30,6] ⟨[0,1,5,6],⟨[.hole,.hole,(.view 0),.hole],[.seq false],[1,1,2,0],[kM,kJ,.int .i64,kK]⟩⟩ [((.exit 0),⟨[5],⟨[(.view 0)],[.seq false],[0],[kK]⟩⟩),(.ret,⟨[4],⟨[(.view 0)],[.seq false],[0],[kK]⟩⟩)] (lp zb4 zd)
theorem ztX:UK zDF (zbp (zu Tryz.f175) [1,1,0,1,0]) zzk:=zcw .run zB zE2 ob0
theorem zru:SK 175 zuU:=qO (.seq .run (.seq .run (.seq (.seq .run (.block (.unit zzk))) .run))) [.tmp 4] zg zB zvt Tryz.func175 (ob1 ztX ob0)
def zFV:ShC:=⟨⟨[.hole,.hole],[],[1,1],[kM,kJ]⟩,⟨[(.view 0)],[.seq false],[0],[kK]⟩,1,[],[],true,false,fun (x:(jS×jI))=>zcJ x.1 x.2⟩
theorem zzI:SK 150 zFV:=qO .run [.tmp 4] zg zB (gd1 zru za) Tryz.func150 ob0
def zxY:ShC:=⟨⟨[(.ptr 0 0),(.view 1),(.agg [.hole,.hole]),(.agg [.hole,.hole])],[.cells true [.hole,.hole],.seq false],[1,1,1,1,1,1,1],[kJ,.int .i64,kJ,.int .i64,kM,.ar (.cons (.ns kI) kI) 48,.sl (.cons kJ (.cons kZ (.cons kJ kI)))]⟩,⟨[(.view 0)],[.seq false],[0],[.sl (.cons kJ (.cons kZ (.cons kJ kI)))]⟩,1,[],[],true,false,fun (x:(jI×Int×jI×Int×jS×(List ((Option jI)×Int))×(List (jI×Int×jI×Int))))=>qn x.1 x.2.1 x.2.2.1 x.2.2.2.1 x.2.2.2.2.1 x.2.2.2.2.2.1 x.2.2.2.2.2.2⟩
theorem ztk:GD zxY [(175,.gen (zan [zuU]))]:=(gd1 zru za)
def zDo:=zd8 tb gl ztk zxY Tryz.f210
theorem zE7:VK zDo:=zy zg ztk
def zyA:Un:=lpU 2 [29,30,11,31,32,33,34,35,36,37,38,39,40,41,42,43,44,45,46,47,48,1,49,28] ⟨[1,6,7,9,10,27,28],⟨[(.view 0),(.ptr 1 0),(.ptr 2 0),.hole,.hole,.hole,.hole],[.seq false,.cells true [.hole,.hole],.cells true [.hole,.hole]],[0,0,2,2,0,1,2,1,2],[kK,kK,.int .i64,.int .i64,.sl (.cons kJ (.cons kZ (.cons kJ kI))),kJ,.int .i64,kJ,.int .i64]⟩⟩ [((.exit 0),⟨[1],⟨[(.view 0)],[.seq false],[0],[.sl (.cons kJ (.cons kZ (.cons kJ kI)))]⟩⟩)] (lp qj zd)
theorem zv5:UK zDo (zbp (zu Tryz.f210) [1,1,0,1,0]) zyA:=zcw .run zB zE7 ob0
theorem zDJ:SK 210 zxY:=qO (.seq .run (.seq .run (.seq (.seq .run (.block (.unit zyA))) .run))) [.tmp 8] zg zB ztk Tryz.func210 (ob1 zv5 ob0)
def zzZ:ShC:=⟨⟨[(.agg [.hole,.hole]),.hole],[],[1,1,1],[kJ,.int .i64,.int .i64]⟩,⟨[.hole],[],[2],[.int .i64]⟩,1,[],[],false,false,fun (x:(jI×Int×Int))=>yy x.1 x.2.1 x.2.2⟩
theorem ztQ:SK 213 zzZ:=qO .run [.tmp 4] zg zB (gd1 zqh za) Tryz.func213 ob0
def zwW:ShC:=⟨⟨[(.ptr 0 0),(.agg [.hole,.hole])],[.cells true [.hole,.hole]],[1,1,1,1],[kJ,.int .i64,kM,.ar (.cons (.ns kI) kI) 48]⟩,⟨[(.agg [.hole,.hole])],[],[1,2],[kJ,.int .i64]⟩,1,[],[],true,false,fun (x:(jI×Int×jS×(List ((Option jI)×Int))))=>zaR x.1 x.2.1 x.2.2.1 x.2.2.2⟩
theorem zu6:GD zwW [(213,.gen (zan [zzZ]))]:=(gd1 ztQ za)
def zDk:=zd8 tb gl zu6 zwW Tryz.f211
theorem zFR:VK zDk:=zy zg zu6
def zyk:Un:=lpU 2 [6,7,8,9,10,11,12,13,14,15,16,17,18,19,20,21,5,22,23,24,25] ⟨[0,3,4],⟨[(.ptr 0 0),(.ptr 1 0),(.ptr 2 0)],[.cells true [.hole,.hole],.cells false [.hole,.hole],.cells true [.nilv,.hole]],[1,1,1,2,2],[kM,.ar (.cons (.ns kI) kI) 48,kJ,.int .i64,.int .i64]⟩⟩ [((.exit 0),⟨[3],⟨[(.ptr 0 0)],[.cells false [.hole,.hole]],[1,2],[kJ,.int .i64]⟩⟩)] (lp za3 zd)
theorem zsQ:UK zDk (zbp (zu Tryz.f211) [1,0,0]) zyk:=zcw .run zB zFR ob0
theorem zDx:SK 211 zwW:=qO (.seq .run (.seq (.block (.unit zyk)) .run)) [.cell 4 198] zg zB zu6 Tryz.func211 (ob1 zsQ ob0)
def zAA:ShC:=⟨⟨[(.ptr 0 0),.hole,(.agg [.hole,.hole])],[.cells true [.hole,.hole]],[1,1,1,1,1],[.int .i64,kJ,.int .i64,kM,.ar (.cons (.ns kI) kI) 48]⟩,⟨[.hole],[],[2],[.bool]⟩,1,[],[],false,false,fun (x:(Int×jI×Int×jS×(List ((Option jI)×Int))))=>zce x.1 x.2.1 x.2.2.1 x.2.2.2.1 x.2.2.2.2⟩
theorem ztq:GD zAA [(213,.gen (zan [zzZ])),(1000027,.gen (zan []))]:=(gd1 ztQ (gd0 1000027 za))
def zz7:=zd8 tb gl ztq zAA Tryz.f226
theorem zCy:VK zz7:=zy zg ztq
def zyy:Un:=lpU 2 [32,33,34,10,35,36,37,38,39,11,40,41,42,6,43,44,45,46,47,48,49,50,51,52,53,54,55,56,57,58,59,60,61,62,63,64,65,66,67,8,68,31] ⟨[0,1,5,7,8,29,30,31],⟨[(.ptr 0 0),.hole,(.ptr 1 0),(.aptr 2),(.view 3),.hole,.hole,.hole],[.cells true [.hole,.hole],.cells true [.hole,.hole],.seq false,.seq false],[2,0,2,2,1,1,0,2,2,0],[.int .i64,kJ,.int .i64,.int .i64,kM,.ar (.cons (.ns kI) kI) 48,kJ,.int .i64,.sl (.one .bool),.sl (.cons kJ kI)]⟩⟩ [((.exit 2),⟨[7,8],⟨[(.aptr 0),(.view 1)],[.seq false,.seq false],[2,0],[.sl (.one .bool),.sl (.cons kJ kI)]⟩⟩),(.ret,⟨[6],⟨[.hole],[],[2],[.bool]⟩⟩)] (lp qv zd)
theorem zvH:UK zz7 (zbp (zu Tryz.f226) [1,1,1,0,0,0,1,0,1,1,1,0]) zyy:=zcw .run zB zCy ob0
def zy9:Un:=lpU 2 [14,15,16,17,18,19,20,21,22,23,24,25,26,27,8,28,29,30,31,32,33,34,10,35,36,37,38,39,11,40,41,42,6,43,44,45,46,47,48,49,50,51,52,53,54,55,56,57,58,59,60,61,62,63,64,65,66,67,8,68,31] ⟨[0,1,5,7,8],⟨[(.ptr 0 0),.hole,(.ptr 1 0),(.aptr 2),(.view 3)],[.cells true [.hole,.hole],.cells false [.hole,.hole],.seq false,.seq false],[2,1,1,0,2,2,0],[.int .i64,kM,.ar (.cons (.ns kI) kI) 48,kJ,.int .i64,.sl (.one .bool),.sl (.cons kJ kI)]⟩⟩ [((.exit 0),⟨[],⟨[],[],[],[]⟩⟩),(.ret,⟨[6],⟨[.hole],[],[2],[.bool]⟩⟩)] (lp zac zd)
theorem ztI:UK zz7 (zbp (zu Tryz.f226) [1,1,1,0,0]) zy9:=zcw (.seq .run (.block (.seq .run (.seq .run (.seq .run (.block (.unit zyy))))))) zB zCy (ob1 zvH ob0)
theorem zDX:SK 226 zAA:=qO (.seq .run (.seq .run (.seq .run (.seq (.block (.unit zy9)) .run)))) [.tmp 6] zg zB ztq Tryz.func226 (ob1 ztI ob0)
def zBK:ShC:=⟨⟨[(.ptr 0 0),(.agg [.hole,.hole]),(.agg [.hole,.hole])],[.cells false [.hole,.hole]],[1,1,1,1,1,1],[kJ,.int .i64,kJ,.int .i64,kM,.ar (.cons (.ns kI) kI) 48]⟩,⟨[.hole,(.ptr 0 0)],[.cells false [.hole,.hole]],[2,1,0],[.bool,kM,.ar (.cons (.ns kI) kI) 48]⟩,1,[0],[(0,0)],true,false,fun (x:(jI×Int×jI×Int×jS×(List ((Option jI)×Int))))=>qc x.1 x.2.1 x.2.2.1 x.2.2.2.1 x.2.2.2.2.1 x.2.2.2.2.2⟩
theorem zD6:SK 212 zBK:=qO .run [.tmp 6] zg zB (gd1 ztQ (gd1 zDX za)) Tryz.func212 ob0
def zwD:ShC:=⟨⟨[(.ptr 0 0),(.agg [.hole,.hole]),(.agg [.hole,.hole])],[.cells false [.hole,.hole]],[1,1,1,1,1,1],[kJ,.int .i64,kJ,.int .i64,kM,.ar (.cons (.ns kI) kI) 48]⟩,⟨[.hole,(.ptr 0 0)],[.cells false [.hole,.hole]],[2,0,0],[.bool,kM,.ar (.cons (.ns kI) kI) 48]⟩,1,[0],[(0,0)],true,false,fun (x:(jI×Int×jI×Int×jS×(List ((Option jI)×Int))))=>zay x.1 x.2.1 x.2.2.1 x.2.2.2.1 x.2.2.2.2.1 x.2.2.2.2.2⟩
theorem zvJ:GD zwD [(210,.gen (zan [zxY])),(211,.gen (zan [zwW])),(212,.gen (zan [zBK])),(1000039,.gen (zan []))]:=(gd1 zDJ (gd1 zDx (gd1 zD6 (gd0 1000039 za))))
def zzQ:=zd8 tb gl zvJ zwD Tryz.f184
theorem zFF:VK zzQ:=zy zg zvJ
def zzb:Un:=scU zzQ [10,11,12,13,7,14,15,16,6,17,18,19,20,21,22,23,24,25,26,27,28,29,30,31,32,33,34,8,9,35,36,37,38,39,7,41,42,43,44,45,40,46,47,48,49,6,51,52,53,54,55,50,56,57,58,59,6,61,62,63,64,65,66,67,68,69,60,6,70,71,72,73,74,75,76,77,78,79,80,81,82,83,84,7] [(.goto 0,⟨[0,7],⟨[(.ptr 0 0),(.view 1)],[.cells false [.hole,.hole],.seq false],[0,0,0],[kM,.ar (.cons (.ns kI) kI) 48,.sl (.cons kJ (.cons kZ (.cons kJ kI)))]⟩⟩)] [(.ret,⟨[0,6],⟨[(.ptr 0 0),.hole],[.cells false [.hole,.hole]],[2,0,0],[.bool,kM,.ar (.cons (.ns kI) kI) 48]⟩⟩)] (zq9 (zbp (zu Tryz.f184) [1])) .run (lp zq zd)
theorem zvi:UK zzQ (zbp (zu Tryz.f184) [1]) zzb:=zEz [] zB zFF ob0 zEA
theorem zC3:SK 184 zwD:=qO (.seq .run (.unit zzb)) [.tmp 6] zg zB zvJ Tryz.func184 (ob1 zvi ob0)
def zDO:ShC:=⟨⟨[(.agg [.hole,.hole]),.hole],[],[1,1,1],[.ns kI,.int .i64,.int .i64]⟩,⟨[.hole],[],[2],[.int .i64]⟩,1,[],[],false,false,fun (x:((Option jI)×Int×Int))=>qW x.1 x.2.1 x.2.2⟩
theorem zBJ:SK 213 zDO:=qO .run [.tmp 4] zg zB (gd1 zqh za) Tryz.func213 ob0
def zpn (k:Nat):ShC:=⟨⟨[(.ptr 0 0),(.agg [.hole,.hole])],[.cells true [.hole,.hole]],[1,1,1,1],[.ns kI,.int .i64,kM,.ar (.cons (.ns kI) kI) 48]⟩,⟨[.hole],[],[2],[.ns kI]⟩,1,[],[],false,false,(qr k)⟩
def zBE:ShC:=⟨⟨[(.ptr 0 0),(.agg [.hole,.hole])],[.cells true [.hole,.hole]],[1,1,1,1],[.ns kI,.int .i64,kM,.ar (.cons (.ns kI) kI) 48]⟩,⟨[.hole],[],[2],[.ns kI]⟩,1,[],[],false,false,fun (x:((Option jI)×Int×jS×(List ((Option jI)×Int))))=>zeA x.1 x.2.1 x.2.2.1 x.2.2.2⟩
def zla (k:Nat):Prop:=SK 185 (zpn k)
def zCf (k:Nat):List (Nat×Con):=[(185,.gen (zan [zpn k])),(213,.gen (zan [zDO]))]
theorem zyq (k:Nat) (h:zla k):GD (zpn (k+1)) (zCf k):=(gd1 h (gd1 zBJ za))
def zDU (k:Nat):Env:=zi8 tb gl (zCf k) (zpn (k+1)) Tryz.f185.ntmps
theorem zEG (k:Nat) (h:zla k):VK (zDU k):=zy zg (zyq k h)
def zyZ (k:Nat):Un:=lpU 2 [13,14,15,7,16,17,8,18,19,20,21,22,23,24,25,26,27,28,29,30,31,32,33,34,35,36,37,38,39,40,41,8,42,43,44,45,46,47,48,49,50,51,4,52,53,54,5,55,12] ⟨[0,3,5,10,11,12],⟨[(.ptr 0 0),(.ptr 1 0),(.view 2),.hole,.hole,.hole],[.cells true [.hole,.hole],.cells true [.hole,.hole],.seq false],[1,2,2,1,1,1,2,2],[.ns kI,.int .i64,.int .i64,kM,.ar (.cons (.ns kI) kI) 48,.ns kI,.int .i64,kJ]⟩⟩ [((.exit 0),⟨[5],⟨[(.view 0)],[.seq false],[2],[kJ]⟩⟩),(.ret,⟨[4],⟨[.nilv],[],[],[]⟩⟩)] (lp (yw (qr k)) zd)
theorem ztu (k:Nat) (h:zla k):UK (zDU k) (zbp (zu Tryz.f185) [1,1,0,1,0]) (zyZ k):=zcw .run zB (zEG k h) ob0
theorem zAR (k:Nat) (h:zla k):SK 185 (zpn (k+1)):=qO (.seq .run (.seq .run (.seq (.seq .run (.block (.unit (zyZ k)))) .run))) [.tmp 4] zg zB (zyq k h) Tryz.func185 (ob1 (ztu k h) ob0)
theorem zoQ:∀ k,zla k
 | 0=>zz1 (by kernel_rfl) fun _=>rfl
 | k+1=>have h:=zoQ k; zAR k h
theorem zCz:SK 185 zBE:=(zoQ zd)
def zAg:ShC:=⟨⟨[.hole,.hole,.hole],[],[1,1,1],[kM,kJ,kJ]⟩,⟨[(.view 0),.hole,.hole],[.seq false],[2,2,2],[.bool,.int .i64,.sl (.cons kZ kR)]⟩,3,[],[],false,true,fun (x:(jS×jI×jI))=>zdr x.1 x.2.1 x.2.2⟩
theorem zvR:GD zAg [(115,.gen (zan [zxp])),(162,.gen (zan [zBk])),(184,.gen (zan [zwD])),(185,.gen (zan [zBE]))]:=(gd1 zsR (gdG zzJ (gd1 zC3 (gd1 zCz za))))
def zD1:=zd8 tb gl zvR zAg Tryz.f135
theorem zFu:VK zD1:=zy zg zvR
def zzs:Un:=lpU 2 [51,52,15,53,54,55,56,57,58,59,60,61,62,63,64,65,66,67,68,16,69,70,6,7,8,71,72,73,74,75,76,77,14,78,50] ⟨[13,14,50],⟨[(.ptr 0 0),(.view 1),.hole],[.cells true [.hole,.hole],.seq false],[2,0,0,2],[.int .i64,kM,.ar (.cons (.ns kI) kI) 48,.sl (.cons kZ kR)]⟩⟩ [((.exit 0),⟨[14],⟨[(.view 0)],[.seq false],[2],[.sl (.cons kZ kR)]⟩⟩),(.ret,⟨[6,7,8],⟨[.nilv,.hole,.hole],[],[2,2],[.bool,.int .i64]⟩⟩)] (lp zaP zd)
theorem zt2:UK zD1 (zbp (zu Tryz.f135) [1,1,1,1,1,1,1,0,1,0]) zzs:=zcw .run zB zFu ob0
theorem zyg:SK 135 zAg:=qO (.seq .run (.seq .run (.seq .run (.seq .run (.seq .run (.seq .run (.seq .run (.seq (.seq .run (.block (.unit zzs))) .run)))))))) [.tmp 6,.tmp 7,.tmp 8] zg zB zvR Tryz.func135 (ob1 zt2 ob0)
def zwu:ShC:=⟨⟨[.hole,.hole],[],[1,1],[.sl (.cons kZ kR),.int .i64]⟩,⟨[.hole],[],[0],[.ns kI]⟩,1,[],[],true,false,fun (x:((List (Int×jI))×Int))=>zhh x.1 x.2⟩
theorem ztS:GD zwu []:=za
def zCZ:=zd8 tb gl ztS zwu Tryz.f194
theorem zFg:VK zCZ:=zy zg ztS
def zyt:Un:=lpU 2 [10,11,12,6,13,14,15,16,17,18,4,19,9] ⟨[1,7,8,9],⟨[.hole,.hole,.hole,.hole],[],[2,1,2,2],[.int .i64,.sl (.cons kZ kR),.int .i64,.int .i64]⟩⟩ [((.exit 0),⟨[],⟨[],[],[],[]⟩⟩),(.ret,⟨[4],⟨[.hole],[],[1],[kJ]⟩⟩)] (lp zcy zd)
theorem zv7:UK zCZ (zbp (zu Tryz.f194) [1,0,1,0]) zyt:=zcw .run zB zFg ob0
theorem zB1:SK 194 zwu:=qO (.seq .run (.seq (.seq .run (.block (.unit zyt))) .run)) [.tmp 4] zg zB ztS Tryz.func194 (ob1 zv7 ob0)
def zAJ:ShC:=⟨⟨[.hole,.hole],[],[1,1],[.sl (.cons kZ kR),kJ]⟩,⟨[(.view 0)],[.seq false],[2],[kJ]⟩,1,[],[],false,false,fun (x:((List (Int×jI))×jI))=>zjK x.1 x.2⟩
theorem zsS:GD zAJ [(55,.gen (zan [zDt])),(194,.gen (zan [zwu]))]:=(gd1 zqh (gd1 zB1 za))
def zEj:=zd8 tb gl zsS zAJ Tryz.f152
theorem zEJ:VK zEj:=zy zg zsS
def zzp:Un:=lpU 2 [12,13,14,7,15,16,17,18,8,19,20,21,22,23,24,25,26,27,28,5,29,30,31,5,32,11] ⟨[0,5,9,10,11],⟨[.hole,(.view 0),.hole,.hole,.hole],[.seq false],[1,1,2,2,2],[.sl (.cons kZ kR),kJ,.int .i64,.int .i64,kJ]⟩⟩ [((.exit 0),⟨[5],⟨[(.view 0)],[.seq false],[2],[kJ]⟩⟩)] (lp zet zd)
theorem zvU:UK zEj (zbp (zu Tryz.f152) [1,1,0,1,0]) zzp:=zcw .run zB zEJ ob0
theorem zzj:SK 152 zAJ:=qO (.seq .run (.seq .run (.seq (.seq .run (.block (.unit zzp))) .run))) [.tmp 4] zg zB zsS Tryz.func152 (ob1 zvU ob0)
def zFA:ShC:=⟨⟨[.hole,.hole],[],[1,1],[kM,kJ]⟩,⟨[.hole],[],[2],[.bool]⟩,1,[],[],false,true,fun (x:(jS×jI))=>zco x.1 x.2⟩
theorem zCL:SK 100 zFA:=qO .run [.tmp 4] zg zB (gdG zA8 za) Tryz.func100 ob0
def zwM:ShC:=⟨⟨[.hole,.hole],[],[1,1],[kJ,kJ]⟩,⟨[.hole],[],[2],[.bool]⟩,1,[],[],false,false,fun (x:(jI×jI))=>ym x.1 x.2⟩
theorem ztP:GD zwM []:=za
def zCN:=zd8 tb gl ztP zwM Tryz.f102
theorem zFO:VK zCN:=zy zg ztP
def zyV:Un:=lpU 2 [14,15,5,16,17,18,19,20,21,22,23,24,4,25,13] ⟨[0,1,12,13],⟨[.hole,.hole,.hole,.hole],[],[1,1,2,2],[kJ,kJ,.int .i64,.int .i64]⟩⟩ [((.exit 0),⟨[],⟨[],[],[],[]⟩⟩),(.ret,⟨[4],⟨[.hole],[],[2],[.bool]⟩⟩)] (lp za2 zd)
theorem zs2:UK zCN (zbp (zu Tryz.f102) [1,1,0,1,0]) zyV:=zcw .run zB zFO ob0
theorem zm7:SK 102 zwM:=qO (.seq .run (.seq .run (.seq (.seq .run (.block (.unit zyV))) .run))) [.tmp 4] zg zB ztP Tryz.func102 (ob1 zs2 ob0)
def zxF:ShC:=⟨⟨[.hole],[],[1],[kJ]⟩,⟨[.hole],[],[2],[.ar kI 24]⟩,1,[],[],false,false,fun (x:jI)=>zeG x⟩
theorem ztH:GD zxF [(55,.gen (zan [zDt]))]:=(gd1 zqh za)
def zBF:=zd8 tb gl ztH zxF Tryz.f198
theorem zEQ:VK zBF:=zy zg ztH
def zzO:Un:=lpU 2 [8,9,10,4,11,12,13,14,15,16,17,18,19,7] ⟨[2,5,6,7],⟨[(.aptr 0),.hole,.hole,.hole],[.seq false],[1,2,2,2],[kJ,.int .i64,.int .i64,kJ]⟩⟩ [((.exit 0),⟨[2],⟨[(.aptr 0)],[.seq false],[2],[kJ]⟩⟩)] (lp zbC zd)
theorem zuF:UK zBF (zbp (zu Tryz.f198) [1,0,1,0]) zzO:=zcw .run zB zEQ ob0
theorem zCE:SK 198 zxF:=qO (.seq .run (.seq (.seq .run (.block (.unit zzO))) .run)) [.cell 2 178] zg zB ztH Tryz.func198 (ob1 zuF ob0)
def zxg:ShC:=⟨⟨[.hole,.hole],[],[1,1],[kJ,kJ]⟩,⟨[.hole],[],[2],[.bool]⟩,1,[],[],false,false,fun (x:(jI×jI))=>zfc x.1 x.2⟩
theorem zsU:GD zxg [(198,.gen (zan [zxF]))]:=(gd1 zCE za)
def zCj:=zd8 tb gl zsU zxg Tryz.f159
theorem zEW:VK zCj:=zy zg zsU
def zyI:Un:=lpU 2 [13,14,7,15,16,17,18,19,20,21,4,22,12] ⟨[5,6,12],⟨[(.aptr 0),(.aptr 1),.hole],[.seq false,.seq false],[2,2,2],[.int .i64,kJ,kJ]⟩⟩ [((.exit 0),⟨[],⟨[],[],[],[]⟩⟩),(.ret,⟨[4],⟨[.hole],[],[2],[.bool]⟩⟩)] (lp zak zd)
theorem ztD:UK zCj (zbp (zu Tryz.f159) [1,1,0,1,0]) zyI:=zcw .run zB zEW ob0
theorem zDf:SK 159 zxg:=qO (.seq .run (.seq .run (.seq (.seq .run (.block (.unit zyI))) .run))) [.tmp 4] zg zB zsU Tryz.func159 (ob1 ztD ob0)
def zw9:ShC:=⟨⟨[.hole,.hole],[],[1,1],[kM,kJ]⟩,⟨[.hole],[],[2],[.int .i64]⟩,1,[],[],false,false,fun (x:(jS×jI))=>zgt x.1 x.2⟩
theorem zwh:GD zw9 []:=za
def zDz:=zd8 tb gl zwh zw9 Tryz.f160
theorem zEH:VK zDz:=zy zg zwh
def zyh:Un:=lpU 2 [11,12,13,7,14,15,16,17,5,18,19,20,21,22,23,24,5,25,10] ⟨[0,5,8,9,10],⟨[.hole,.hole,.hole,.hole,.hole],[],[1,2,1,2,2],[kM,.int .i64,kJ,.int .i64,.int .i64]⟩⟩ [((.exit 0),⟨[5],⟨[.hole],[],[2],[.int .i64]⟩⟩)] (lp zdg zd)
theorem zuw:UK zDz (zbp (zu Tryz.f160) [1,1,0,1,0]) zyh:=zcw .run zB zEH ob0
theorem zBB:SK 160 zw9:=qO (.seq .run (.seq .run (.seq (.seq .run (.block (.unit zyh))) .run))) [.tmp 4] zg zB zwh Tryz.func160 (ob1 zuw ob0)
def zwz:ShC:=⟨⟨[.hole,.hole,.hole],[],[1,1,1],[kM,kJ,kJ]⟩,⟨[.hole,.hole],[],[0,0],[kJ,kJ]⟩,2,[],[],true,false,fun (x:(jS×jI×jI))=>zhs x.1 x.2.1 x.2.2⟩
theorem zvd:GD zwz [(102,.gen (zan [zwM])),(175,.gen (zan [zuU]))]:=(gd1 zm7 (gd1 zru za))
def zEg:=zd8 tb gl zvd zwz Tryz.f161
theorem zEY:VK zEg:=zy zg zvd
def zx7:Un:=lpU 2 [19,20,21,22,9,10,23,24,25,26,27,28,29,30,31,32,33,34,35,36,37,38,39,40,6,7,41,18] ⟨[8,16,17,18],⟨[.hole,.hole,.hole,.hole],[],[0,0,2,2],[kK,kK,.int .i64,.int .i64]⟩⟩ [((.exit 0),⟨[],⟨[],[],[],[]⟩⟩),(.ret,⟨[6,7],⟨[.hole,.hole],[],[0,0],[kJ,kJ]⟩⟩)] (lp zaY zd)
theorem ztx:UK zEg (zbp (zu Tryz.f161) [1,1,0,1,0]) zx7:=zcw .run zB zEY ob0
theorem zBH:SK 161 zwz:=qO (.seq .run (.seq .run (.seq (.seq .run (.block (.unit zx7))) .run))) [.tmp 6,.tmp 7] zg zB zvd Tryz.func161 (ob1 ztx ob0)
def zAv:ShC:=⟨⟨[.hole,.hole,.hole],[],[1,1,1],[kM,kJ,kJ]⟩,⟨[.hole],[],[2],[.bool]⟩,1,[],[],false,false,fun (x:(jS×jI×jI))=>zab x.1 x.2.1 x.2.2⟩
theorem zvw:GD zAv [(159,.gen (zan [zxg])),(160,.gen (zan [zw9])),(161,.gen (zan [zwz]))]:=(gd1 zDf (gd1 zBB (gd1 zBH za)))
def zCb:=zd8 tb gl zvw zAv Tryz.f103
theorem zFL:VK zCb:=zy zg zvw
def zyT:Un:=lpU 2 [9,10,11,12,13,14,15,16,17,18,19,20,21,7,8,22,23,24,25,26,27,6,28,29,30,31,32,33,34,35,36,37,38,39,40,41,6,43,44,45,46,47,48,42,49,50,1,2] ⟨[0,1,2],⟨[.hole,.hole,.hole],[],[1,0,0],[kM,kJ,kJ]⟩⟩ [((.exit 0),⟨[],⟨[],[],[],[]⟩⟩),(.ret,⟨[6],⟨[.hole],[],[2],[.bool]⟩⟩)] (lp zc1 zd)
theorem zt8:UK zCb (zbp (zu Tryz.f103) [1,0,0]) zyT:=zcw .run zB zFL ob0
theorem zCr:SK 103 zAv:=qO (.seq .run (.seq (.block (.unit zyT)) .run)) [.tmp 6] zg zB zvw Tryz.func103 (ob1 zt8 ob0)
def zEP:ShC:=⟨⟨[.hole,.hole,.hole],[],[1,1,1],[kM,kJ,kJ]⟩,⟨[.hole,.hole],[],[2,2],[.int .i64,.int .i64]⟩,2,[],[],false,true,fun (x:(jS×jI×jI))=>zaG x.1 x.2.1 x.2.2⟩
theorem zyU:SK 41 zEP:=qO .run [.tmp 6,.tmp 7] zg zB (gdG zCL (gdG zy2 (gd1 zm7 (gd1 zCr za)))) Tryz.func41 ob0
def zFI:ShC:=⟨⟨[.hole,.hole,.hole],[],[1,1,1],[kM,kJ,kJ]⟩,⟨[.hole],[],[2],[.bool]⟩,1,[],[],false,true,fun (x:(jS×jI×jI))=>zit x.1 x.2.1 x.2.2⟩
theorem zD9:SK 153 zFI:=qO .run [.tmp 6] zg zB (gdG zyU za) Tryz.func153 ob0
def zCd:ShC:=⟨⟨[.nilv,.hole],[],[1],[.int .i64]⟩,⟨[(.view 0)],[.seq false],[2],[kJ]⟩,1,[],[],false,false,fun (x:Int)=>zec x⟩
theorem zCe:SK 217 zCd:=qO .run [.tmp 4] zg zB (gd0 1000025 za) Tryz.func217 ob0
def zBc:ShC:=⟨⟨[.hole],[],[1],[kK]⟩,⟨[(.view 0)],[.seq false],[2],[kJ]⟩,1,[],[],false,false,fun (x:jR)=>zc0 x⟩
theorem zsP:GD zBc [(217,.gen (zan [zCd]))]:=(gd1 zCe za)
def zAO:=zd8 tb gl zsP zBc Tryz.f195
theorem zCq:VK zAO:=zy zg zsP
def zyu:Un:=lpU 2 [28,29,30,8,31,32,33,6,34,27] ⟨[6,25,26,27],⟨[(.view 0),.hole,.hole,.hole],[.seq false],[1,2,2,2],[kK,.int .i64,.int .i64,kJ]⟩⟩ [((.exit 2),⟨[6],⟨[(.view 0)],[.seq false],[2],[kJ]⟩⟩)] (lp qR zd)
theorem zvA:UK zAO (zbp (zu Tryz.f195) [1,1,1,1,0,1,0]) zyu:=zcw .run zB zCq ob0
def zy6:Un:=lpU 2 [12,13,14,5,15,16,17,18,3,19,20,21,22,11] ⟨[0,3,9,10,11],⟨[.hole,.hole,.hole,.hole,.hole],[],[1,2,1,2,2],[kK,.int .i64,kK,.int .i64,.int .i64]⟩⟩ [((.exit 0),⟨[3],⟨[.hole],[],[2],[.int .i64]⟩⟩)] (lp qS zd)
theorem ztT:UK zAO (zbp (zu Tryz.f195) [1,1,0,1,0]) zy6:=zcw .run zB zCq ob0
theorem zDQ:SK 195 zBc:=qO (.seq .run (.seq .run (.seq (.seq .run (.block (.unit zy6))) (.seq .run (.seq (.seq .run (.block (.unit zyu))) .run))))) [.tmp 2] zg zB zsP Tryz.func195 (ob1 ztT (ob1 zvA ob0))
def zFQ:ShC:=⟨⟨[.hole,.hole,.hole,.hole],[],[1,1,1,1],[kM,kJ,.int .i64,kJ]⟩,⟨[(.view 0)],[.seq false],[2],[kJ]⟩,1,[],[],false,false,fun (x:(jS×jI×Int×jI))=>zhj x.1 x.2.1 x.2.2.1 x.2.2.2⟩
theorem zB9:SK 154 zFQ:=qO .run [.tmp 8] zg zB (gd1 zxA (gd1 zDQ za)) Tryz.func154 ob0
def zDn:ShC:=⟨⟨[.nilv,.hole],[],[1],[.int .i64]⟩,⟨[(.view 0)],[.seq false],[2],[kK]⟩,1,[],[],false,false,fun (x:Int)=>zgn x⟩
theorem zDw:SK 188 zDn:=qO .run [.tmp 4] zg zB (gd0 1000025 za) Tryz.func188 ob0
def zx2:ShC:=⟨⟨[.hole],[],[1],[.sl (.one kK)]⟩,⟨[(.view 0)],[.seq false],[0],[kK]⟩,1,[],[],true,false,fun (x:(List jR))=>zee x⟩
theorem zuC:GD zx2 [(188,.gen (zan [zDn]))]:=(gd1 zDw za)
def zAL:=zd8 tb gl zuC zx2 Tryz.f139
theorem zDP:VK zAL:=zy zg zuC
def zy0:Un:=lpU 2 [28,29,30,8,31,32,33,6,34,27] ⟨[6,25,26,27],⟨[(.view 0),.hole,.hole,.hole],[.seq false],[1,2,2,0],[.sl (.one kK),.int .i64,.int .i64,kK]⟩⟩ [((.exit 2),⟨[6],⟨[(.view 0)],[.seq false],[0],[kK]⟩⟩)] (lp zat zd)
theorem zuu:UK zAL (zbp (zu Tryz.f139) [1,1,1,1,0,1,0]) zy0:=zcw .run zB zDP ob0
def zyD:Un:=lpU 2 [12,13,14,5,15,16,17,18,3,19,20,21,22,11] ⟨[0,3,9,10,11],⟨[.hole,.hole,.hole,.hole,.hole],[],[1,2,1,2,2],[.sl (.one kK),.int .i64,.sl (.one kK),.int .i64,.int .i64]⟩⟩ [((.exit 0),⟨[3],⟨[.hole],[],[2],[.int .i64]⟩⟩)] (lp zas zd)
theorem zvq:UK zAL (zbp (zu Tryz.f139) [1,1,0,1,0]) zyD:=zcw .run zB zDP ob0
theorem zB8:SK 139 zx2:=qO (.seq .run (.seq .run (.seq (.seq .run (.block (.unit zyD))) (.seq .run (.seq (.seq .run (.block (.unit zy0))) .run))))) [.tmp 2] zg zB zuC Tryz.func139 (ob1 zvq (ob1 zuu ob0))
def zBj:ShC:=⟨⟨[(.agg [.hole,.hole,.hole]),.hole,(.agg [.hole,.hole,.hole]),.hole],[],[1,1,1,1,1,1,1,1],[kL,kK,kL,.int .i64,kL,kK,kL,.int .i64]⟩,⟨[(.agg [(.view 0),.hole,(.view 1)])],[.seq false,.seq false],[0,0,0],[kK,kL,kL]⟩,1,[],[],true,false,fun (x:(jQ×jR×jQ×Int×jQ×jR×jQ×Int))=>zdN x.1 x.2.1 x.2.2.1 x.2.2.2.1 x.2.2.2.2.1 x.2.2.2.2.2.1 x.2.2.2.2.2.2.1 x.2.2.2.2.2.2.2⟩
theorem zt6:GD zBj [(139,.gen (zan [zx2])),(140,.gen (zan [zvv]))]:=(gd1 zB8 (gd1 zyN za))
def zAz:=zd8 tb gl zt6 zBj Tryz.f75
theorem zBO:VK zAz:=zy zg zt6
def zzt:Un:=lpU 2 [49,50,51,52,13,12,53,54,55,56,57,58,59,60,61,62,48] ⟨[3,8,9,46,47,48],⟨[.hole,(.ptr 0 0),(.ptr 1 0),.hole,.hole,.hole],[.cells true [.nilv,.nilv,.nilv],.cells false [(.view 2),.hole,(.view 3)],.seq false,.seq false],[2,1,2,2,0,0,0],[.int .i64,kL,.int .i64,.int .i64,kK,kL,kL]⟩⟩ [((.exit 2),⟨[9],⟨[(.ptr 0 0)],[.cells false [(.view 1),.hole,(.view 2)],.seq false,.seq false],[0,0,0],[kK,kL,kL]⟩⟩)] (lp zaX zd)
theorem zvl:UK zAz (zbp (zu Tryz.f75) [1,1,1,0,1,0]) zzt:=zcw .run zB zBO ob0
def zzm:Un:=lpU 2 [31,32,33,34,11,10,35,36,37,38,39,40,41,42,43,44,30] ⟨[1,3,6,8,9,28,29,30],⟨[.hole,.hole,(.ptr 0 0),(.ptr 1 0),(.ptr 2 0),.hole,.hole,.hole],[.cells true [.hole,.hole,.hole],.cells true [.nilv,.nilv,.nilv],.cells false [(.view 3),.hole,(.view 4)],.seq false,.seq false],[2,2,1,2,2,1,1,1,0,0,0],[.int .i64,.int .i64,kL,.int .i64,.int .i64,kL,kK,kL,kK,kL,kL]⟩⟩ [((.exit 0),⟨[9],⟨[(.ptr 0 0)],[.cells false [(.view 1),.hole,(.view 2)],.seq false,.seq false],[0,0,0],[kK,kL,kL]⟩⟩)] (lp za6 zd)
theorem ztd:UK zAz (zbp (zu Tryz.f75) [1,1,0,1,0]) zzm:=zcw .run zB zBO ob0
theorem zzg:SK 75 zBj:=qO (.seq .run (.seq .run (.seq (.seq .run (.block (.unit zzm))) (.seq (.seq .run (.block (.unit zzt))) .run)))) [.cell 8 29] zg zB zt6 Tryz.func75 (ob1 ztd (ob1 zvl ob0))
def zDS:ShC:=⟨⟨[.hole,(.ptr 0 0)],[.cells true [.hole]],[1,1],[kJ,.sl (.cons kZ kR)]⟩,⟨[(.view 0)],[.seq false],[2],[kJ]⟩,1,[],[],false,false,fun (x:(jI×(List (Int×jI))))=>q4 x.1 x.2⟩
theorem zDr:SK 186 zDS:=qO .run [.tmp 3] zg zB (gd1 zzj za) Tryz.func186 ob0
def zAK:ShC:=⟨⟨[(.agg [.hole,.hole,.hole]),(.clo 186 [(.ptr 0 0)])],[.cells true [.hole]],[1,1,1,1],[kL,kK,kL,.sl (.cons kZ kR)]⟩,⟨[(.agg [.hole,.hole,(.view 0)])],[.seq false],[2,2,2],[kL,kK,kL]⟩,1,[],[],false,false,fun (x:(jQ×jR×jQ×(List (Int×jI))))=>ziu x.1 x.2.1 x.2.2.1 x.2.2.2⟩
theorem zt1:GD zAK [(186,.gen (zan [zDS]))]:=(gd1 zDr za)
def zxv:=zd8 tb gl zt1 zAK Tryz.f170
theorem zAT:VK zxv:=zy zg zt1
def zzz:Un:=lpU 2 [52,53,54,11,55,56,57,58,59,60,61,62,63,64,65,66,67,51] ⟨[1,4,5,49,50,51],⟨[(.clo 186 [(.ptr 0 0)]),(.ptr 1 0),(.ptr 2 0),.hole,.hole,.hole],[.cells true [.hole],.cells true [.nilv,.nilv,.nilv],.cells false [.hole,.hole,(.view 3)],.seq false],[1,2,2,1,2,2,2],[kL,.int .i64,.int .i64,.sl (.cons kZ kR),kL,kK,kL]⟩⟩ [((.exit 4),⟨[5],⟨[(.ptr 0 0)],[.cells false [.hole,.hole,(.view 1)],.seq false],[2,2,2],[kL,kK,kL]⟩⟩)] (lp zbA zd)
theorem zs1:UK zxv (zbp (zu Tryz.f170) [1,1,1,1,0,1,0]) zzz:=zcw .run zB zAT ob0
def zyp:Un:=lpU 2 [36,37,38,9,39,40,41,42,43,44,45,46,47,35] ⟨[1,2,4,5,33,34,35],⟨[(.clo 186 [(.ptr 0 0)]),(.ptr 1 0),(.ptr 2 0),(.ptr 3 0),.hole,.hole,.hole],[.cells true [.hole],.cells true [.hole,.hole,.hole],.cells true [.nilv,.nilv,.nilv],.cells false [.hole,(.view 4),.nilv],.seq false],[1,2,2,1,1,1,1,2,2],[kK,.int .i64,.int .i64,.sl (.cons kZ kR),kL,kK,kL,kL,kK]⟩⟩ [((.exit 2),⟨[5],⟨[(.ptr 0 0)],[.cells false [.hole,(.view 1),.nilv],.seq false],[2,2],[kL,kK]⟩⟩)] (lp zbx zd)
theorem ztc:UK zxv (zbp (zu Tryz.f170) [1,1,1,0,1,0]) zyp:=zcw .run zB zAT ob0
def zzC:Un:=lpU 2 [16,17,18,7,19,20,21,22,23,24,25,26,27,28,29,30,31,15] ⟨[1,2,4,5,13,14,15],⟨[(.clo 186 [(.ptr 0 0)]),(.ptr 1 0),(.ptr 2 0),(.ptr 3 0),.hole,.hole,.hole],[.cells true [.hole],.cells true [.hole,.hole,.hole],.cells true [.nilv,.nilv,.nilv],.cells false [(.view 4),.nilv,.nilv],.seq false],[1,2,2,1,1,1,1,2],[kL,.int .i64,.int .i64,.sl (.cons kZ kR),kL,kK,kL,kL]⟩⟩ [((.exit 0),⟨[5],⟨[(.ptr 0 0)],[.cells false [(.view 1),.nilv,.nilv],.seq false],[2],[kL]⟩⟩)] (lp zbs zd)
theorem zvP:UK zxv (zbp (zu Tryz.f170) [1,1,0,1,0]) zzC:=zcw .run zB zAT ob0
theorem zD2:SK 170 zAK:=qO (.seq .run (.seq .run (.seq (.seq .run (.block (.unit zzC))) (.seq (.seq .run (.block (.unit zyp))) (.seq (.seq .run (.block (.unit zzz))) .run))))) [.cell 4 29] zg zB zt1 Tryz.func170 (ob1 zvP (ob1 ztc (ob1 zs1 ob0)))
def zEX:ShC:=⟨⟨[.hole,(.agg [.hole,.hole,.hole])],[],[1,1,1,1],[.sl (.cons kZ kR),kL,kK,kL]⟩,⟨[(.agg [.hole,.hole,(.view 0)])],[.seq false],[2,2,2],[kL,kK,kL]⟩,1,[],[],false,false,fun (x:((List (Int×jI))×jQ×jR×jQ))=>zfw x.1 x.2.1 x.2.2.1 x.2.2.2⟩
theorem zx8:SK 136 zEX:=qO .run [.cell 4 29] zg zB (gd1 zD2 za) Tryz.func136 ob0
def zFU:ShC:=⟨⟨[(.agg [.hole,.hole]),(.agg [.hole,.hole])],[],[1,1,1,1],[.bool,kJ,.bool,kJ]⟩,⟨[.hole],[],[2],[.bool]⟩,1,[],[],false,false,fun (x:(Bool×jI×Bool×jI))=>zkB x.1 x.2.1 x.2.2.1 x.2.2.2⟩
theorem zBv:SK 206 zFU:=qO .run [.tmp 4] zg zB (gd1 zm7 za) Tryz.func206 ob0
def zCC:ShC:=⟨⟨[(.agg [.hole,.hole]),(.ptr 0 0)],[.cells true [.hole,.hole]],[1,1,1,1],[.bool,kJ,.bool,kJ]⟩,⟨[.hole],[],[2],[.bool]⟩,1,[],[],false,false,fun (x:(Bool×jI×Bool×jI))=>zdx x.1 x.2.1 x.2.2.1 x.2.2.2⟩
theorem zCD:SK 205 zCC:=qO .run [.tmp 3] zg zB (gd1 zBv za) Tryz.func205 ob0
def zBl:ShC:=⟨⟨[.hole,(.clo 205 [(.ptr 0 0)])],[.cells true [.hole,.hole]],[1,1,1],[kL,.bool,kJ]⟩,⟨[.hole],[],[2],[.int .i64]⟩,1,[],[],false,false,fun (x:(jQ×Bool×jI))=>zd2 x.1 x.2.1 x.2.2⟩
theorem zte:GD zBl [(205,.gen (zan [zCC]))]:=(gd1 zCD za)
def zBD:=zd8 tb gl zte zBl Tryz.f183
theorem zEK:VK zBD:=zy zg zte
def zyM:Un:=lpU 2 [9,10,5,11,12,13,14,15,16,17,4,18,8] ⟨[0,1,7,8],⟨[.hole,(.clo 205 [(.ptr 0 0)]),.hole,.hole],[.cells true [.hole,.hole]],[1,2,2,2,1],[kL,.int .i64,.int .i64,.bool,kJ]⟩⟩ [((.exit 0),⟨[],⟨[],[],[],[]⟩⟩),(.ret,⟨[4],⟨[.hole],[],[2],[.int .i64]⟩⟩)] (lp qu zd)
theorem zwg:UK zBD (zbp (zu Tryz.f183) [1,0,1,0]) zyM:=zcw .run zB zEK ob0
theorem zDN:SK 183 zBl:=qO (.seq .run (.seq (.seq .run (.block (.unit zyM))) .run)) [.tmp 4] zg zB zte Tryz.func183 (ob1 zwg ob0)
def zEc:ShC:=⟨⟨[.hole,(.clo 205 [(.ptr 0 0)])],[.cells true [.hole,.hole]],[1,1,1],[kL,.bool,kJ]⟩,⟨[.hole],[],[2],[.bool]⟩,1,[],[],false,false,fun (x:(jQ×Bool×jI))=>zai x.1 x.2.1 x.2.2⟩
theorem zDy:SK 133 zEc:=qO .run [.tmp 4] zg zB (gd1 zDN za) Tryz.func133 ob0
def zxM:ShC:=⟨⟨[.hole],[],[1],[kL]⟩,⟨[(.view 0)],[.seq false],[0],[kL]⟩,1,[],[],true,false,fun (x:jQ)=>zeL x⟩
theorem zth:GD zxM [(133,.gen (zan [zEc]))]:=(gd1 zDy za)
def zEu:=zd8 tb gl zth zxM Tryz.f168
theorem zFD:VK zEu:=zy zg zth
def zy5:Un:=lpU 2 [9,10,11,5,12,13,14,15,16,17,18,19,3,20,8] ⟨[3,6,7,8],⟨[(.view 0),.hole,.hole,.hole],[.seq false],[1,2,2,0],[kL,.int .i64,.int .i64,kL]⟩⟩ [((.exit 0),⟨[3],⟨[(.view 0)],[.seq false],[0],[kL]⟩⟩)] (lp zbw zd)
theorem zwf:UK zEu (zbp (zu Tryz.f168) [1,1,0,1,0]) zy5:=zcw .run zB zFD ob0
theorem zBy:SK 168 zxM:=qO (.seq .run (.seq .run (.seq (.seq .run (.block (.unit zy5))) .run))) [.tmp 2] zg zB zth Tryz.func168 (ob1 zwf ob0)
def zBT:ShC:=⟨⟨[.hole,(.ptr 0 0)],[.cells true [.hole]],[1,1],[kJ,kJ]⟩,⟨[.hole],[],[2],[.bool]⟩,1,[],[],false,false,fun (x:(jI×jI))=>zdw x.1 x.2⟩
theorem zBQ:SK 169 zBT:=qO .run [.tmp 3] zg zB (gd1 zm7 za) Tryz.func169 ob0
def zAl:ShC:=⟨⟨[.hole,(.clo 169 [(.ptr 0 0)])],[.cells true [.hole]],[1,1],[kK,kJ]⟩,⟨[.hole],[],[2],[.int .i64]⟩,1,[],[],false,false,fun (x:(jR×jI))=>zcS x.1 x.2⟩
theorem zvO:GD zAl [(169,.gen (zan [zBT]))]:=(gd1 zBQ za)
def zD5:=zd8 tb gl zvO zAl Tryz.f182
theorem zFf:VK zD5:=zy zg zvO
def zym:Un:=lpU 2 [9,10,5,11,12,13,14,15,16,17,4,18,8] ⟨[0,1,7,8],⟨[.hole,(.clo 169 [(.ptr 0 0)]),.hole,.hole],[.cells true [.hole]],[1,2,2,1],[kK,.int .i64,.int .i64,kJ]⟩⟩ [((.exit 0),⟨[],⟨[],[],[],[]⟩⟩),(.ret,⟨[4],⟨[.hole],[],[2],[.int .i64]⟩⟩)] (lp yM zd)
theorem zs8:UK zD5 (zbp (zu Tryz.f182) [1,0,1,0]) zym:=zcw .run zB zFf ob0
theorem zEo:SK 182 zAl:=qO (.seq .run (.seq (.seq .run (.block (.unit zym))) .run)) [.tmp 4] zg zB zvO Tryz.func182 (ob1 zs8 ob0)
def zEt:ShC:=⟨⟨[.hole,(.clo 169 [(.ptr 0 0)])],[.cells true [.hole]],[1,1],[kK,kJ]⟩,⟨[.hole],[],[2],[.bool]⟩,1,[],[],false,false,fun (x:(jR×jI))=>qL x.1 x.2⟩
theorem zCP:SK 132 zEt:=qO .run [.tmp 4] zg zB (gd1 zEo za) Tryz.func132 ob0
def zxR:ShC:=⟨⟨[.hole,(.aptr 0),(.ptr 1 0)],[.seq false,.cells false [.hole]],[1,1,1],[kJ,kJ,.int .i64]⟩,⟨[(.view 0),(.aptr 1),(.ptr 2 0)],[.seq false,.seq false,.cells false [.hole]],[2,0,2],[kJ,kJ,.int .i64]⟩,1,[1,2],[(0,1),(1,2)],true,false,fun (x:(jI×jI×Int))=>yE x.1 x.2.1 x.2.2⟩
theorem zvZ:GD zxR [(55,.gen (zan [zDt])),(115,.gen (zan [zxp]))]:=(gd1 zqh (gd1 zsR za))
def zCt:=zd8 tb gl zvZ zxR Tryz.f171
theorem zFG:VK zCt:=zy zg zvZ
def zyz:Un:=lpU 2 [13,14,15,16,6,7,17,18,19,20,21,22,23,24,25,26,27,28,29,30,31,32,33,34,35,36,37,38,12] ⟨[1,2,5,10,11,12],⟨[(.aptr 0),(.ptr 1 0),(.view 2),(.view 2),.hole,.hole],[.seq false,.cells false [.hole],.seq false],[2,2,0,2,2],[.int .i64,.int .i64,kJ,.int .i64,kJ]⟩⟩ [((.exit 0),⟨[1,2,5],⟨[(.aptr 0),(.ptr 1 0),(.view 2)],[.seq false,.cells false [.hole],.seq false],[0,2,2],[kJ,.int .i64,kJ]⟩⟩)] (lp yJ zd)
theorem zvz:UK zCt (zbp (zu Tryz.f171) [1,1,0,1,0]) zyz:=zcw .run zB zFG ob0
theorem zDV:SK 171 zxR:=qO (.seq .run (.seq .run (.seq (.seq .run (.block (.unit zyz))) .run))) [.tmp 4] zg zB zvZ Tryz.func171 (ob1 zvz ob0)
def zx1:ShC:=⟨⟨[(.agg [.hole,.hole,.hole]),(.clo 171 [(.aptr 0),(.ptr 1 0)])],[.seq false,.cells false [.hole]],[1,1,1,1,1],[kL,kK,kL,kJ,.int .i64]⟩,⟨[(.agg [.hole,.hole,(.view 0)]),(.clo 171 [(.aptr 1),(.ptr 2 0)])],[.seq false,.seq false,.cells false [.hole]],[2,2,2,0,2],[kL,kK,kL,kJ,.int .i64]⟩,1,[1],[(0,1),(1,2)],true,false,fun (x:(jQ×jR×jQ×jI×Int))=>zgv x.1 x.2.1 x.2.2.1 x.2.2.2.1 x.2.2.2.2⟩
theorem zvS:GD zx1 [(171,.gen (zan [zxR]))]:=(gd1 zDV za)
def zxG:=zd8 tb gl zvS zx1 Tryz.f170
theorem zBm:VK zxG:=zy zg zvS
def zy1:Un:=lpU 2 [52,53,54,11,55,56,57,58,59,60,61,62,63,64,65,66,67,51] ⟨[1,4,5,49,50,51],⟨[(.clo 171 [(.aptr 0),(.ptr 1 0)]),(.ptr 2 0),(.ptr 3 0),.hole,.hole,.hole],[.seq false,.cells false [.hole],.cells true [.nilv,.nilv,.nilv],.cells false [.hole,.hole,(.view 4)],.seq false],[1,2,2,0,2,2,2,2],[kL,.int .i64,.int .i64,kJ,.int .i64,kL,kK,kL]⟩⟩ [((.exit 4),⟨[1,5],⟨[(.clo 171 [(.aptr 0),(.ptr 1 0)]),(.ptr 2 0)],[.seq false,.cells false [.hole],.cells false [.hole,.hole,(.view 3)],.seq false],[0,2,2,2,2],[kJ,.int .i64,kL,kK,kL]⟩⟩)] (lp zaw zd)
theorem zv9:UK zxG (zbp (zu Tryz.f170) [1,1,1,1,0,1,0]) zy1:=zcw (.seq .run (.seq .run (.seq (.block (.seq .run (.hide [[8,9],[8,9],[8,9],[8,9],[],[],[],[],[],[],[],[],[]]))) .run))) zB zBm ob0
def zzh:Un:=lpU 2 [36,37,38,9,39,40,41,42,43,44,45,46,47,35] ⟨[1,2,4,5,33,34,35],⟨[(.clo 171 [(.aptr 0),(.ptr 1 0)]),(.ptr 2 0),(.ptr 3 0),(.ptr 4 0),.hole,.hole,.hole],[.seq false,.cells false [.hole],.cells true [.hole,.hole,.hole],.cells true [.nilv,.nilv,.nilv],.cells false [.hole,(.view 5),.nilv],.seq false],[1,2,2,0,2,1,1,1,2,2],[kK,.int .i64,.int .i64,kJ,.int .i64,kL,kK,kL,kL,kK]⟩⟩ [((.exit 2),⟨[1,5],⟨[(.clo 171 [(.aptr 0),(.ptr 1 0)]),(.ptr 2 0)],[.seq false,.cells false [.hole],.cells false [.hole,(.view 3),.nilv],.seq false],[0,2,2,2],[kJ,.int .i64,kL,kK]⟩⟩)] (lp zaq zd)
theorem zsZ:UK zxG (zbp (zu Tryz.f170) [1,1,1,0,1,0]) zzh:=zcw (.seq .run (.seq .run (.seq (.block (.seq .run (.hide [[8,9],[8,9],[],[],[],[],[],[],[]]))) .run))) zB zBm ob0
def zyv:Un:=lpU 2 [16,17,18,7,19,20,21,22,23,24,25,26,27,28,29,30,31,15] ⟨[1,2,4,5,13,14,15],⟨[(.clo 171 [(.aptr 0),(.ptr 1 0)]),(.ptr 2 0),(.ptr 3 0),(.ptr 4 0),.hole,.hole,.hole],[.seq false,.cells false [.hole],.cells true [.hole,.hole,.hole],.cells true [.nilv,.nilv,.nilv],.cells false [(.view 5),.nilv,.nilv],.seq false],[1,2,2,0,2,1,1,1,2],[kL,.int .i64,.int .i64,kJ,.int .i64,kL,kK,kL,kL]⟩⟩ [((.exit 0),⟨[1,5],⟨[(.clo 171 [(.aptr 0),(.ptr 1 0)]),(.ptr 2 0)],[.seq false,.cells false [.hole],.cells false [(.view 3),.nilv,.nilv],.seq false],[0,2,2],[kJ,.int .i64,kL]⟩⟩)] (lp zau zd)
theorem zty:UK zxG (zbp (zu Tryz.f170) [1,1,0,1,0]) zyv:=zcw (.seq .run (.seq .run (.seq (.block (.seq .run (.hide [[8,9],[8,9],[8,9],[8,9],[],[],[],[],[],[],[],[],[]]))) .run))) zB zBm ob0
theorem zC9:SK 170 zx1:=qO (.seq .run (.seq .run (.seq (.seq .run (.block (.unit zyv))) (.seq (.seq .run (.block (.unit zzh))) (.seq (.seq .run (.block (.unit zy1))) .run))))) [.cell 4 29] zg zB zvS Tryz.func170 (ob1 zty (ob1 zsZ (ob1 zv9 ob0)))
def zAr:ShC:=⟨⟨[(.agg [.hole,.hole,.hole])],[],[1,1,1],[kL,kK,kL]⟩,⟨[(.agg [.hole,.hole,(.view 0)])],[.seq false],[2,2,2],[kL,kK,kL]⟩,1,[],[],false,false,fun (x:(jQ×jR×jQ))=>zfW x.1 x.2.1 x.2.2⟩
theorem zvn:GD zAr [(132,.gen (zan [zEt])),(168,.gen (zan [zxM])),(170,.gen (zan [zx1]))]:=(gd1 zCP (gd1 zBy (gd1 zC9 za)))
def zBX:=zd8 tb gl zvn zAr Tryz.f116
theorem zFB:VK zBX:=zy zg zvn
def zzH:Un:=lpU 2 [19,20,21,5,22,23,24,25,26,27,28,29,30,31,32,33,18] ⟨[2,3,16,17,18],⟨[(.ptr 0 0),(.ptr 1 0),.hole,.hole,.hole],[.cells true [.nilv,.nilv,.nilv],.cells false [.hole,(.view 2),.hole],.seq false],[1,2,2,0,0,0],[kK,.int .i64,.int .i64,kL,kL,kK]⟩⟩ [((.exit 0),⟨[3],⟨[(.ptr 0 0)],[.cells false [.hole,(.view 1),.hole],.seq false],[0,0,0],[kL,kL,kK]⟩⟩)] (lp zbu zd)
theorem zvr:UK zBX (zbp (zu Tryz.f116) [1,1,0,1,0]) zzH:=zcw .run zB zFB ob0
theorem zEr:SK 116 zAr:=qO (.seq .run (.seq .run (.seq (.seq .run (.block (.unit zzH))) .run))) [.cell 2 29] zg zB zvn Tryz.func116 (ob1 zvr ob0)
def zFJ:ShC:=⟨⟨[.hole,(.agg [.hole,.hole,.hole])],[],[1,1,1,1],[kM,kL,kK,kL]⟩,⟨[(.agg [.hole,.hole,(.view 0)]),.hole],[.seq false],[2,2,2,2],[kL,kK,.int .i64,kL]⟩,2,[],[],false,true,fun (x:(jS×jQ×jR×jQ))=>zcG x.1 x.2.1 x.2.2.1 x.2.2.2⟩
theorem zzA:SK 56 zFJ:=qO .run [.cell 4 29,.tmp 5] zg zB (gdG znd (gd1 zEr za)) Tryz.func56 ob0
def zDG:ShC:=⟨⟨[.hole,(.agg [.hole,.hole,.hole]),.hole,.hole,(.agg [.hole,.hole,.hole]),.hole,.hole],[],[1,1,1,1,1,1,1,1,1,1,1],[kM,kL,kK,kL,.int .i64,.int .i64,kL,kK,kL,.int .i64,.int .i64]⟩,⟨[(.agg [.hole,.hole,(.view 0)]),.hole,.hole],[.seq false],[2,2,2,2,2],[kL,kK,.bool,.int .i64,kL]⟩,3,[],[],false,true,fun (x:(jS×jQ×jR×jQ×Int×Int×jQ×jR×jQ×Int×Int))=>zaW x.1 x.2.1 x.2.2.1 x.2.2.2.1 x.2.2.2.2.1 x.2.2.2.2.2.1 x.2.2.2.2.2.2.1 x.2.2.2.2.2.2.2.1 x.2.2.2.2.2.2.2.2.1 x.2.2.2.2.2.2.2.2.2.1 x.2.2.2.2.2.2.2.2.2.2⟩
theorem zyj:SK 90 zDG:=qO .run [.cell 14 29,.tmp 15,.tmp 16] zg zB (gdG zzA (gd1 zzg (gdG zyg (gd1 zx8 (gdG zEm (gd1 zzI (gd1 zxA (gd1 zzj (gdG zD9 (gd1 zB9 za)))))))))) Tryz.func90 ob0
def zFS:ShC:=⟨⟨[.hole,(.agg [.hole,.hole,.hole]),.hole,.hole,(.agg [.hole,.hole,.hole]),.hole,.hole],[],[1,1,1,1,1,1,1,1,1,1,1],[kM,kL,kK,kL,.int .i64,.int .i64,kL,kK,kL,.int .i64,.int .i64]⟩,⟨[(.agg [.hole,.hole,(.view 0)]),.hole,.hole],[.seq false],[2,2,2,2,2],[kL,kK,.bool,.int .i64,kL]⟩,3,[],[],false,true,fun (x:(jS×jQ×jR×jQ×Int×Int×jQ×jR×jQ×Int×Int))=>zdt x.1 x.2.1 x.2.2.1 x.2.2.2.1 x.2.2.2.2.1 x.2.2.2.2.2.1 x.2.2.2.2.2.2.1 x.2.2.2.2.2.2.2.1 x.2.2.2.2.2.2.2.2.1 x.2.2.2.2.2.2.2.2.2.1 x.2.2.2.2.2.2.2.2.2.2⟩
theorem zDa:SK 36 zFS:=qO .run [.cell 14 29,.tmp 15,.tmp 16] zg zB (gdG znd (gd1 zvM (gdG zyj za))) Tryz.func36 ob0
def zFE:ShC:=⟨⟨[.hole,(.agg [.hole,.hole,.hole]),.hole],[],[1,1,1,1,1],[kM,kL,kK,kL,.int .i64]⟩,⟨[(.agg [.hole,.hole,(.view 0)]),.hole,.hole],[.seq false],[2,2,2,2,2],[kL,kK,.bool,.int .i64,kL]⟩,3,[],[],false,true,fun (x:(jS×jQ×jR×jQ×Int))=>zk0 x.1 x.2.1 x.2.2.1 x.2.2.2.1 x.2.2.2.2⟩
theorem zEd:SK 106 zFE:=qO .run [.cell 6 29,.tmp 7,.tmp 8] zg zB (gdG zzA (gd1 zzg (gdG zyg (gd1 zx8 (gd1 zzI za))))) Tryz.func106 ob0
def zET:ShC:=⟨⟨[.hole,(.agg [.hole,.hole,.hole]),.hole],[],[1,1,1,1,1],[kM,kL,kK,kL,.int .i64]⟩,⟨[(.agg [.hole,.hole,(.view 0)]),.hole,.hole],[.seq false],[2,2,2,2,2],[kL,kK,.bool,.int .i64,kL]⟩,3,[],[],false,true,fun (x:(jS×jQ×jR×jQ×Int))=>ziq x.1 x.2.1 x.2.2.1 x.2.2.2.1 x.2.2.2.2⟩
theorem zCv:SK 44 zET:=qO .run [.cell 6 29,.tmp 7,.tmp 8] zg zB (gdG znd (gd1 zvM (gdG zEd za))) Tryz.func44 ob0
def zEl:ShC:=⟨⟨[(.agg [.hole,.hole]),(.ptr 0 0)],[.cells true [.hole]],[1,1,1],[.bool,kJ,kM]⟩,⟨[.hole],[],[2],[.bool]⟩,1,[],[],false,true,fun (x:(Bool×jI×jS))=>zf9 x.1 x.2.1 x.2.2⟩
theorem zCF:SK 141 zEl:=qO .run [.tmp 3] zg zB (gdG ztR za) Tryz.func141 ob0
def zAb:ShC:=⟨⟨[.hole,(.clo 141 [(.ptr 0 0)])],[.cells true [.hole]],[1,1],[kL,kM]⟩,⟨[.hole],[],[2],[.int .i64]⟩,1,[],[],false,true,fun (x:(jQ×jS))=>zcT x.1 x.2⟩
theorem ztp:GD zAb [(141,.gen (zan [zEl]))]:=(gdG zCF za)
def zEp:=zd8 tb gl ztp zAb Tryz.f183
theorem zFo:VK zEp:=zy zg ztp
def zzd:Un:=lpU 2 [9,10,5,11,12,13,14,15,16,17,4,18,8] ⟨[0,1,7,8],⟨[.hole,(.clo 141 [(.ptr 0 0)]),.hole,.hole],[.cells true [.hole]],[1,2,2,1],[kL,.int .i64,.int .i64,kM]⟩⟩ [((.exit 0),⟨[],⟨[],[],[],[]⟩⟩),(.ret,⟨[4],⟨[.hole],[],[2],[.int .i64]⟩⟩)] (lp yV zd)
theorem zvI:UK zEp (zbp (zu Tryz.f183) [1,0,1,0]) zzd:=zcw .run zB zFo ob0
theorem zC0:SK 183 zAb:=qO (.seq .run (.seq (.seq .run (.block (.unit zzd))) .run)) [.tmp 4] zg zB ztp Tryz.func183 (ob1 zvI ob0)
def zEk:ShC:=⟨⟨[.hole,(.clo 141 [(.ptr 0 0)])],[.cells true [.hole]],[1,1],[kL,kM]⟩,⟨[.hole],[],[2],[.bool]⟩,1,[],[],false,true,fun (x:(jQ×jS))=>zbS x.1 x.2⟩
theorem zEn:SK 133 zEk:=qO .run [.tmp 4] zg zB (gdG zC0 za) Tryz.func133 ob0
def zES:ShC:=⟨⟨[.hole,(.agg [.hole,.hole]),(.agg [.hole,.hole])],[],[1,1,1,1,1],[kM,.bool,kJ,.bool,kJ]⟩,⟨[.hole,.hole],[],[2,2],[.int .i64,.int .i64]⟩,2,[],[],false,true,fun (x:(jS×Bool×jI×Bool×jI))=>zgw x.1 x.2.1 x.2.2.1 x.2.2.2.1 x.2.2.2.2⟩
theorem zEf:SK 144 zES:=qO .run [.tmp 6,.tmp 7] zg zB (gdG zyU (gdG ztR za)) Tryz.func144 ob0
def zDW:ShC:=⟨⟨[(.agg [.hole,.hole]),(.ptr 0 0),(.ptr 1 0)],[.cells true [.hole],.cells true [.hole,.hole]],[1,1,1,1,1],[.bool,kJ,kM,.bool,kJ]⟩,⟨[.hole],[],[2],[.bool]⟩,1,[],[],false,true,fun (x:(Bool×jI×jS×Bool×jI))=>zgq x.1 x.2.1 x.2.2.1 x.2.2.2.1 x.2.2.2.2⟩
theorem zBP:SK 143 zDW:=qO .run [.tmp 4] zg zB (gdG zEf za) Tryz.func143 ob0
def zAB:ShC:=⟨⟨[.hole,(.clo 143 [(.ptr 0 0),(.ptr 1 0)])],[.cells true [.hole],.cells true [.hole,.hole]],[1,1,1,1],[kL,kM,.bool,kJ]⟩,⟨[.hole],[],[2],[.int .i64]⟩,1,[],[],false,true,fun (x:(jQ×jS×Bool×jI))=>zcU x.1 x.2.1 x.2.2.1 x.2.2.2⟩
theorem ztW:GD zAB [(143,.gen (zan [zDW]))]:=(gdG zBP za)
def zBG:=zd8 tb gl ztW zAB Tryz.f183
theorem zFP:VK zBG:=zy zg ztW
def zyG:Un:=lpU 2 [9,10,5,11,12,13,14,15,16,17,4,18,8] ⟨[0,1,7,8],⟨[.hole,(.clo 143 [(.ptr 0 0),(.ptr 1 0)]),.hole,.hole],[.cells true [.hole],.cells true [.hole,.hole]],[1,2,2,1,2,1],[kL,.int .i64,.int .i64,kM,.bool,kJ]⟩⟩ [((.exit 0),⟨[],⟨[],[],[],[]⟩⟩),(.ret,⟨[4],⟨[.hole],[],[2],[.int .i64]⟩⟩)] (lp yU zd)
theorem zs0:UK zBG (zbp (zu Tryz.f183) [1,0,1,0]) zyG:=zcw .run zB zFP ob0
theorem zC1:SK 183 zAB:=qO (.seq .run (.seq (.seq .run (.block (.unit zyG))) .run)) [.tmp 4] zg zB ztW Tryz.func183 (ob1 zs0 ob0)
def zCl:ShC:=⟨⟨[.hole,(.clo 143 [(.ptr 0 0),(.ptr 1 0)])],[.cells true [.hole],.cells true [.hole,.hole]],[1,1,1,1],[kL,kM,.bool,kJ]⟩,⟨[.hole],[],[2],[.bool]⟩,1,[],[],false,true,fun (x:(jQ×jS×Bool×jI))=>qM x.1 x.2.1 x.2.2.1 x.2.2.2⟩
theorem zB4:SK 133 zCl:=qO .run [.tmp 4] zg zB (gdG zC1 za) Tryz.func133 ob0
def zwA:ShC:=⟨⟨[.hole,.hole],[],[1,1],[kM,kL]⟩,⟨[(.view 0),.hole],[.seq false],[2,2],[.int .i64,kJ]⟩,2,[],[],false,true,fun (x:(jS×jQ))=>ziP x.1 x.2⟩
theorem zuM:GD zwA [(52,.gen (zan [zBV])),(133,.gen (zan [zEk,zCl]))]:=(gdG zAh (zhA (zkI (ziQ zEn (ziQ zB4 zkJ))) za))
def zBN:=zd8 tb gl zuM zwA Tryz.f77
theorem zE4:VK zBN:=zy zg zuM
def zyS:Un:=lpU 2 [20,21,22,23,8,7,24,25,26,27,28,29,30,31,6,32,19] ⟨[1,2,6,17,18,19],⟨[.hole,(.ptr 0 0),(.view 1),.hole,.hole,.hole],[.cells true [.hole],.seq false],[1,1,2,2,1,2],[kL,kL,.int .i64,.int .i64,kM,kJ]⟩⟩ [((.exit 0),⟨[6],⟨[(.view 0)],[.seq false],[2],[kJ]⟩⟩)] (lp zdi zd)
theorem zux:UK zBN (zbp (zu Tryz.f77) [1,1,1,0,1,0]) zyS:=zcw .run zB zE4 ob0
theorem zCp:SK 77 zwA:=qO (.seq .run (.seq .run (.seq .run (.seq (.seq .run (.block (.unit zyS))) .run)))) [.tmp 4,.tmp 5] zg zB zuM Tryz.func77 (ob1 zux ob0)
def zz4:ShC:=⟨⟨[.hole,(.ptr 0 0)],[.cells true [.hole,.hole,.hole]],[1,1,1,1],[.int .i64,kL,kK,kL]⟩,⟨[.hole],[],[2],[.bool]⟩,1,[],[],false,false,fun (x:(Int×jQ×jR×jQ))=>zeR x.1 x.2.1 x.2.2.1 x.2.2.2⟩
theorem zzN:SK 99 zz4:=qO .run [.tmp 3] zg zB (gd1 zvM za) Tryz.func99 ob0
def zxH:ShC:=⟨⟨[.hole,(.clo 99 [(.ptr 0 0)])],[.cells true [.hole,.hole,.hole]],[1,1,1,1],[kJ,kL,kK,kL]⟩,⟨[.hole],[],[2],[.int .i64]⟩,1,[],[],false,false,fun (x:(jI×jQ×jR×jQ))=>zcY x.1 x.2.1 x.2.2.1 x.2.2.2⟩
theorem zuI:GD zxH [(99,.gen (zan [zz4]))]:=(gd1 zzN za)
def zCo:=zd8 tb gl zuI zxH Tryz.f157
theorem zFd:VK zCo:=zy zg zuI
def zzi:Un:=lpU 2 [9,10,5,11,12,13,14,15,16,17,4,18,8] ⟨[0,1,7,8],⟨[.hole,(.clo 99 [(.ptr 0 0)]),.hole,.hole],[.cells true [.hole,.hole,.hole]],[1,2,2,1,1,1],[kJ,.int .i64,.int .i64,kL,kK,kL]⟩⟩ [((.exit 0),⟨[],⟨[],[],[],[]⟩⟩),(.ret,⟨[4],⟨[.hole],[],[2],[.int .i64]⟩⟩)] (lp zS zd)
theorem zv6:UK zCo (zbp (zu Tryz.f157) [1,0,1,0]) zzi:=zcw .run zB zFd ob0
theorem zBU:SK 157 zxH:=qO (.seq .run (.seq (.seq .run (.block (.unit zzi))) .run)) [.tmp 4] zg zB zuI Tryz.func157 (ob1 zv6 ob0)
def zxm:ShC:=⟨⟨[(.view 0),(.clo 99 [(.ptr 1 0)])],[.seq false,.cells true [.hole,.hole,.hole]],[1,1,1,1],[kJ,kL,kK,kL]⟩,⟨[(.view 0)],[.seq false],[0],[kJ]⟩,1,[],[],true,false,fun (x:(jI×jQ×jR×jQ))=>zbk x.1 x.2.1 x.2.2.1 x.2.2.2⟩
theorem zu1:GD zxm [(99,.gen (zan [zz4])),(157,.gen (zan [zxH])),(1000041,.gen (zan []))]:=(gd1 zzN (gd1 zBU (gd0 1000041 za)))
def zDu:=zd8 tb gl zu1 zxm Tryz.f98
theorem zEF:VK zDu:=zy zg zu1
def zyf:Un:=lpU 2 [16,17,18,19,22,23,24,25,7,26,27,28,29,30,31,32,33,34,35,5,20,21,6] ⟨[0,1,5,6],⟨[(.view 0),(.clo 99 [(.ptr 1 0)]),.hole,.hole],[.seq false,.cells true [.hole,.hole,.hole]],[2,2,0,1,1,1],[.int .i64,.int .i64,kJ,kL,kK,kL]⟩⟩ [((.exit 0),⟨[0,5],⟨[(.view 0),.hole],[.seq false],[2,0],[.int .i64,kJ]⟩⟩)] (lp z5 zd)
theorem zuQ:UK zDu (zbp (zu Tryz.f98) [1,1,1,0,1,0]) zyf:=zcw .run zB zEF ob0
theorem zB6:SK 98 zxm:=qO (.seq .run (.seq .run (.seq .run (.seq (.seq .run (.block (.unit zyf))) .run)))) [.tmp 4] zg zB zu1 Tryz.func98 (ob1 zuQ ob0)
def zC6:ShC:=⟨⟨[.hole,(.agg [.hole,.hole])],[],[1,1,1],[kM,.bool,kJ]⟩,⟨[.hole],[],[2],[.bool]⟩,1,[],[],false,false,fun (x:(jS×Bool×jI))=>za4 x.1 x.2.1 x.2.2⟩
theorem zCg:SK 190 zC6:=qO .run [.tmp 4] zg zB (gd1 zm7 (gd1 zru za)) Tryz.func190 ob0
def zDH:ShC:=⟨⟨[(.agg [.hole,.hole]),(.ptr 0 0)],[.cells true [.hole,.hole]],[1,1,1,1],[.bool,kJ,.bool,kJ]⟩,⟨[.hole],[],[2],[.bool]⟩,1,[],[],false,false,fun (x:(Bool×jI×Bool×jI))=>zbW x.1 x.2.1 x.2.2.1 x.2.2.2⟩
theorem zC8:SK 191 zDH:=qO .run [.tmp 3] zg zB (gd1 zm7 za) Tryz.func191 ob0
def zzY:ShC:=⟨⟨[.hole,(.clo 191 [(.ptr 0 0)])],[.cells true [.hole,.hole]],[1,1,1],[kL,.bool,kJ]⟩,⟨[.hole],[],[2],[.int .i64]⟩,1,[],[],false,false,fun (x:(jQ×Bool×jI))=>zcZ x.1 x.2.1 x.2.2⟩
theorem zuz:GD zzY [(191,.gen (zan [zDH]))]:=(gd1 zC8 za)
def zCI:=zd8 tb gl zuz zzY Tryz.f183
theorem zEL:VK zCI:=zy zg zuz
def zyF:Un:=lpU 2 [9,10,5,11,12,13,14,15,16,17,4,18,8] ⟨[0,1,7,8],⟨[.hole,(.clo 191 [(.ptr 0 0)]),.hole,.hole],[.cells true [.hole,.hole]],[1,2,2,2,1],[kL,.int .i64,.int .i64,.bool,kJ]⟩⟩ [((.exit 0),⟨[],⟨[],[],[],[]⟩⟩),(.ret,⟨[4],⟨[.hole],[],[2],[.int .i64]⟩⟩)] (lp yO zd)
theorem ztL:UK zCI (zbp (zu Tryz.f183) [1,0,1,0]) zyF:=zcw .run zB zEL ob0
theorem zDb:SK 183 zzY:=qO (.seq .run (.seq (.seq .run (.block (.unit zyF))) .run)) [.tmp 4] zg zB zuz Tryz.func183 (ob1 ztL ob0)
def zBw:ShC:=⟨⟨[.hole,(.clo 191 [(.ptr 0 0)])],[.cells true [.hole,.hole]],[1,1,1],[kL,.bool,kJ]⟩,⟨[.hole],[],[2],[.bool]⟩,1,[],[],false,false,fun (x:(jQ×Bool×jI))=>qA x.1 x.2.1 x.2.2⟩
theorem zDp:SK 133 zBw:=qO .run [.tmp 4] zg zB (gd1 zDb za) Tryz.func133 ob0
def zA3:ShC:=⟨⟨[.hole,(.agg [.hole,.hole,.hole])],[],[1,1,1,1],[kM,kL,kK,kL]⟩,⟨[.hole,.hole],[],[2,2],[.bool,.int .i64]⟩,2,[],[],false,true,fun (x:(jS×jQ×jR×jQ))=>zbz x.1 x.2.1 x.2.2.1 x.2.2.2⟩
theorem zvj:GD zA3 [(42,.gen (zan [zw5])),(133,.gen (zan [zBw])),(190,.gen (zan [zC6]))]:=(gdG znd (gd1 zDp (gd1 zCg za)))
def zC4:=zd8 tb gl zvj zA3 Tryz.f146
theorem zE8:VK zC4:=zy zg zvj
def zy7:Un:=lpU 2 [16,17,18,7,19,20,21,22,23,24,25,26,27,4,5,28,15] ⟨[0,3,13,14,15],⟨[.hole,(.ptr 0 0),.hole,.hole,.hole],[.cells true [.hole,.hole,.hole]],[1,1,2,2,1,1,1],[kM,kL,.int .i64,.int .i64,kL,kK,kL]⟩⟩ [((.exit 0),⟨[],⟨[],[],[],[]⟩⟩),(.ret,⟨[4,5],⟨[.hole,.hole],[],[2,2],[.bool,.int .i64]⟩⟩)] (lp q8 zd)
theorem zuq:UK zC4 (zbp (zu Tryz.f146) [1,1,0,1,0]) zy7:=zcw .run zB zE8 ob0
theorem zB2:SK 146 zA3:=qO (.seq .run (.seq .run (.seq (.seq .run (.block (.unit zy7))) .run))) [.tmp 4,.tmp 5] zg zB zvj Tryz.func146 (ob1 zuq ob0)
def zCA:ShC:=⟨⟨[(.ptr 0 0),(.agg [.hole,.hole,.hole,.hole,.hole,.hole,.hole,.hole,.hole,.hole]),(.agg [.hole,.hole,.hole]),.hole,.hole],[.cells false [.hole,(.view 1),.hole],.seq false],[1,1,1,1,1,1,1,2,2,2,2,2,2,1,1,1,1,2],[.int .i64,.int .i64,.int .i64,.int .i64,.int .i64,.int .i64,.int .i64,kL,kK,kL,kL,kK,kL,.bool,.int .i64,kM,.int .i64,.sl (.cons kZ (.cons kZ (.cons kZ (.cons kZ (.cons kZ (.cons kZ (.cons kZ (.cons kL (.cons kK (.one kL))))))))))]⟩,⟨[(.ptr 0 0)],[.cells false [.hole,(.view 1),.hole],.seq false],[1,2,2],[kM,.int .i64,.sl (.cons kZ (.cons kZ (.cons kZ (.cons kZ (.cons kZ (.cons kZ (.cons kZ (.cons kL (.cons kK (.one kL))))))))))]⟩,0,[0],[(0,0)],true,true,fun (x:(Int×Int×Int×Int×Int×Int×Int×jQ×jR×jQ×jQ×jR×jQ×Bool×Int×jS×Int×jT))=>zQ x.1 x.2.1 x.2.2.1 x.2.2.2.1 x.2.2.2.2.1 x.2.2.2.2.2.1 x.2.2.2.2.2.2.1 x.2.2.2.2.2.2.2.1 x.2.2.2.2.2.2.2.2.1 x.2.2.2.2.2.2.2.2.2.1 x.2.2.2.2.2.2.2.2.2.2.1 x.2.2.2.2.2.2.2.2.2.2.2.1 x.2.2.2.2.2.2.2.2.2.2.2.2.1 x.2.2.2.2.2.2.2.2.2.2.2.2.2.1 x.2.2.2.2.2.2.2.2.2.2.2.2.2.2.1 x.2.2.2.2.2.2.2.2.2.2.2.2.2.2.2.1 x.2.2.2.2.2.2.2.2.2.2.2.2.2.2.2.2.1 x.2.2.2.2.2.2.2.2.2.2.2.2.2.2.2.2.2⟩
theorem zDC:SK 79 zCA:=qO (.seq .run (.seq .run (.seq .run (.seq .run (.hide [[9],[],[],[],[],[],[],[],[],[],[]]))))) [] zg zB (gdG zB2 za) Tryz.func79 ob0
def zwZ:ShC:=⟨⟨[.hole,(.agg [.hole,.hole,.hole]),.hole,(.agg [.hole,.hole,.hole]),.hole],[],[1,1,1,1,1,1,1,1,1],[kM,kL,kK,kL,.int .i64,kL,kK,kL,.int .i64]⟩,⟨[(.view 0),.hole,.hole],[.seq false],[2,2,2],[.int .i64,.int .i64,.sl (.cons kZ (.cons kZ (.cons kZ (.cons kZ (.cons kZ (.cons kZ (.cons kZ (.cons kL (.cons kK (.one kL))))))))))]⟩,3,[],[],false,true,fun (x:(jS×jQ×jR×jQ×Int×jQ×jR×jQ×Int))=>zen x.1 x.2.1 x.2.2.1 x.2.2.2.1 x.2.2.2.2.1 x.2.2.2.2.2.1 x.2.2.2.2.2.2.1 x.2.2.2.2.2.2.2.1 x.2.2.2.2.2.2.2.2⟩
theorem zuK:GD zwZ [(42,.gen (zan [zw5])),(77,.gen (zan [zwA])),(79,.gen (zan [zCA])),(90,.gen (zan [zDG])),(98,.gen (zan [zxm]))]:=(gdG znd (gdG zCp (gdG zDC (gdG zyj (gd1 zB6 za)))))
def zr9:=zd8 tb gl zuK zwZ Tryz.f39
theorem zwF:VK zr9:=zy zg zuK
def zyY:Un:=scU zr9 [23,71,72,73,74,75,76,77,78,79,81,82,83,84,85,86,87,88,80,89,90,91,24,25,26,92,93,94,95,96,97,98,99,100,101,102,103,104,23] [(.goto 0,⟨[0,2,4,6,8,15,17,19,20,22,23,56,57,58,62,65,66,67],⟨[.hole,.hole,.hole,(.ptr 0 0),(.ptr 1 0),.hole,(.ptr 2 0),.hole,.hole,.hole,.hole,.hole,.hole,.hole,.hole,.hole,.hole,.hole],[.cells true [.hole,.hole,.hole],.cells true [.hole,.hole,.hole],.cells false [.hole,(.view 3),.hole],.seq false],[1,2,2,2,2,2,2,2,0,2,2,2,2,2,2,1,1,1,1,1,1,0,2,2],[kM,.int .i64,.int .i64,kJ,.int .i64,.int .i64,.int .i64,.int .i64,kJ,.int .i64,.int .i64,.int .i64,kJ,.int .i64,.int .i64,kL,kK,kL,kL,kK,kL,kM,.int .i64,.sl (.cons kZ (.cons kZ (.cons kZ (.cons kZ (.cons kZ (.cons kZ (.cons kZ (.cons kL (.cons kK (.one kL))))))))))]⟩⟩)] [(.normal,⟨[17],⟨[(.ptr 0 0)],[.cells false [.hole,(.view 1),.hole],.seq false],[0,2,2],[kM,.int .i64,.sl (.cons kZ (.cons kZ (.cons kZ (.cons kZ (.cons kZ (.cons kZ (.cons kZ (.cons kL (.cons kK (.one kL))))))))))]⟩⟩)] (zq9 (zbp (zu Tryz.f39) [1,1,1,1,1,1,0,1,0,0,1,1,0,0,1,1,0,0,1,1,0,0,1,1,0,0,1,1,0,0,1])) .run (lp zey zd)
theorem zud:UK zr9 (zbp (zu Tryz.f39) [1,1,1,1,1,1,0,1,0,0,1,1,0,0,1,1,0,0,1,1,0,0,1,1,0,0,1,1,0,0,1]) zyY:=zEz [] zB zwF ob0 zEA
def zzD:Un:=lpU 2 [68,69,70,22,23,71,72,73,74,75,76,77,78,79,81,82,83,84,85,86,87,88,80,89,90,91,24,25,26,92,93,94,95,96,97,98,99,100,101,102,103,104,23,105,67] ⟨[0,2,4,6,8,15,17,19,20,56,57,58,62,65,66,67],⟨[.hole,.hole,.hole,(.ptr 0 0),(.ptr 1 0),.hole,(.ptr 2 0),.hole,.hole,.hole,.hole,.hole,.hole,.hole,.hole,.hole],[.cells true [.hole,.hole,.hole],.cells true [.hole,.hole,.hole],.cells false [.hole,(.view 3),.hole],.seq false],[1,2,2,2,2,2,0,2,2,2,2,2,2,1,1,1,1,1,1,0,2,2],[kM,.int .i64,.int .i64,kJ,.int .i64,.int .i64,kJ,.int .i64,.int .i64,.int .i64,kJ,.int .i64,.int .i64,kL,kK,kL,kL,kK,kL,kM,.int .i64,.sl (.cons kZ (.cons kZ (.cons kZ (.cons kZ (.cons kZ (.cons kZ (.cons kZ (.cons kL (.cons kK (.one kL))))))))))]⟩⟩ [((.exit 4),⟨[17],⟨[(.ptr 0 0)],[.cells false [.hole,(.view 1),.hole],.seq false],[0,2,2],[kM,.int .i64,.sl (.cons kZ (.cons kZ (.cons kZ (.cons kZ (.cons kZ (.cons kZ (.cons kZ (.cons kL (.cons kK (.one kL))))))))))]⟩⟩)] (lp zcm zd)
theorem zs7:UK zr9 (zbp (zu Tryz.f39) [1,1,1,1,1,1,0,1,0,0,1,1,0,0,1,1,0,0,1,1,0,0,1,1,0]) zzD:=zcw (.seq .run (.seq .run (.seq (.block (.seq .run (.unit zyY))) .run))) zB zwF (ob1 zud ob0)
def zzc:Un:=lpU 2 [63,64,20,65,66,67,68,69,70,22,23,71,72,73,74,75,76,77,78,79,81,82,83,84,85,86,87,88,80,89,90,91,24,25,26,92,93,94,95,96,97,98,99,100,101,102,103,104,23,105,67,106,62] ⟨[0,2,4,6,8,15,17,19,56,57,58,62],⟨[.hole,.hole,.hole,(.ptr 0 0),(.ptr 1 0),.hole,(.ptr 2 0),.hole,.hole,.hole,.hole,.hole],[.cells true [.hole,.hole,.hole],.cells true [.hole,.hole,.hole],.cells false [.hole,(.view 3),.hole],.seq false],[1,2,2,2,2,0,2,2,2,1,1,1,1,1,1,0,2,2],[kM,.int .i64,.int .i64,kJ,.int .i64,kJ,.int .i64,.int .i64,.int .i64,kL,kK,kL,kL,kK,kL,kM,.int .i64,.sl (.cons kZ (.cons kZ (.cons kZ (.cons kZ (.cons kZ (.cons kZ (.cons kZ (.cons kL (.cons kK (.one kL))))))))))]⟩⟩ [((.exit 2),⟨[17],⟨[(.ptr 0 0)],[.cells false [.hole,(.view 1),.hole],.seq false],[0,2,2],[kM,.int .i64,.sl (.cons kZ (.cons kZ (.cons kZ (.cons kZ (.cons kZ (.cons kZ (.cons kZ (.cons kL (.cons kK (.one kL))))))))))]⟩⟩)] (lp zeK zd)
theorem ztY:UK zr9 (zbp (zu Tryz.f39) [1,1,1,1,1,1,0,1,0,0,1,1,0,0,1,1,0]) zzc:=zcw (.seq .run (.seq .run (.seq (.block (.seq .run (.seq .run (.block (.unit zzD))))) .run))) zB zwF (ob1 zs7 ob0)
def zzn:Un:=lpU 2 [59,60,61,19,62,63,64,20,65,66,67,68,69,70,22,23,71,72,73,74,75,76,77,78,79,81,82,83,84,85,86,87,88,80,89,90,91,24,25,26,92,93,94,95,96,97,98,99,100,101,102,103,104,23,105,67,106,62,107,58] ⟨[0,2,4,6,8,15,17,56,57,58],⟨[.hole,.hole,.hole,(.ptr 0 0),(.ptr 1 0),.hole,(.ptr 2 0),.hole,.hole,.hole],[.cells true [.hole,.hole,.hole],.cells true [.hole,.hole,.hole],.cells false [.hole,(.view 3),.hole],.seq false],[1,2,2,2,0,2,2,1,1,1,1,1,1,0,2,2],[kM,.int .i64,.int .i64,kJ,kJ,.int .i64,.int .i64,kL,kK,kL,kL,kK,kL,kM,.int .i64,.sl (.cons kZ (.cons kZ (.cons kZ (.cons kZ (.cons kZ (.cons kZ (.cons kZ (.cons kL (.cons kK (.one kL))))))))))]⟩⟩ [((.exit 0),⟨[17],⟨[(.ptr 0 0)],[.cells false [.hole,(.view 1),.hole],.seq false],[0,2,2],[kM,.int .i64,.sl (.cons kZ (.cons kZ (.cons kZ (.cons kZ (.cons kZ (.cons kZ (.cons kZ (.cons kL (.cons kK (.one kL))))))))))]⟩⟩)] (lp zcj zd)
theorem zvX:UK zr9 (zbp (zu Tryz.f39) [1,1,1,1,1,1,0,1,0]) zzn:=zcw (.seq .run (.seq .run (.seq (.block (.seq .run (.seq .run (.block (.unit zzc))))) .run))) zB zwF (ob1 ztY ob0)
theorem zzG:SK 39 zwZ:=qO (.seq .run (.seq .run (.seq .run (.seq .run (.seq .run (.seq .run (.seq (.seq .run (.block (.unit zzn))) .run))))))) [.tmp 10,.tmp 11,.tmp 12] zg zB zuK Tryz.func39 (ob1 zvX ob0)
def zBM:ShC:=⟨⟨[.hole],[],[1],[.int .i64]⟩,⟨[.hole],[],[2],[.int .i64]⟩,1,[],[],false,false,fun (x:Int)=>zej x⟩
theorem zzw:SK 18 zBM:=qO .run [.tmp 2] zg zB za Tryz.func18 ob0
def zvW:ShC:=⟨⟨[.hole,.hole],[],[1,1],[kJ,kJ]⟩,⟨[.hole],[],[2],[.bool]⟩,1,[],[],false,false,fun (x:(jI×jI))=>zbj x.1 x.2⟩
theorem zug:GD zvW []:=za
def zB3:=zd8 tb gl zug zvW Tryz.f43
theorem zEE:VK zB3:=zy zg zug
def zyE:Un:=lpU 2 [11,12,13,14,17,18,19,20,21,22,23,24,25,4,15,16,5] ⟨[0,1,5],⟨[.hole,.hole,.hole],[],[1,1,2],[kJ,kJ,.int .i64]⟩⟩ [((.exit 0),⟨[],⟨[],[],[],[]⟩⟩),(.ret,⟨[4],⟨[.hole],[],[2],[.bool]⟩⟩)] (lp zax zd)
theorem zsV:UK zB3 (zbp (zu Tryz.f43) [1,1,0,1,0]) zyE:=zcw .run zB zEE ob0
theorem zyX:SK 43 zvW:=qO (.seq .run (.seq .run (.seq (.seq .run (.block (.unit zyE))) .run))) [.tmp 4] zg zB zug Tryz.func43 (ob1 zsV ob0)
def zwc:ShC:=⟨⟨[.hole,.hole],[],[1,1],[kL,kL]⟩,⟨[.hole],[],[2],[.bool]⟩,1,[],[],false,false,fun (x:(jQ×jQ))=>zcI x.1 x.2⟩
theorem zqx:GD zwc [(43,.gen (zan [zvW]))]:=(gd1 zyX za)
def zyQ:=zd8 tb gl zqx zwc Tryz.f20
theorem zCV:VK zyQ:=zy zg zqx
def zsY:Un:=lpU 2 [11,12,13,14,17,18,19,20,21,22,23,24,25,26,27,28,29,30,31,32,33,34,35,36,37,38,39,40,41,4,15,16,5] ⟨[0,1,5],⟨[.hole,.hole,.hole],[],[1,1,2],[kL,kL,.int .i64]⟩⟩ [((.exit 0),⟨[],⟨[],[],[],[]⟩⟩),(.ret,⟨[4],⟨[.hole],[],[2],[.bool]⟩⟩)] (lp zaB zd)
theorem zso:UK zyQ (zbp (zu Tryz.f20) [1,1,0,1,0]) zsY:=zcw .run zB zCV ob0
theorem zzT:SK 20 zwc:=qO (.seq .run (.seq .run (.seq (.seq .run (.block (.unit zsY))) .run))) [.tmp 4] zg zB zqx Tryz.func20 (ob1 zso ob0)
def ztK:ShC:=⟨⟨[.hole,.hole],[],[1,1],[kK,kK]⟩,⟨[.hole],[],[2],[.bool]⟩,1,[],[],false,false,fun (x:(jR×jR))=>zeo x.1 x.2⟩
theorem zqv:GD ztK [(43,.gen (zan [zvW]))]:=(gd1 zyX za)
def zyH:=zd8 tb gl zqv ztK Tryz.f62
theorem zDe:VK zyH:=zy zg zqv
def ztj:Un:=lpU 2 [11,12,13,14,17,18,19,20,21,22,23,24,25,26,4,15,16,5] ⟨[0,1,5],⟨[.hole,.hole,.hole],[],[1,1,2],[kK,kK,.int .i64]⟩⟩ [((.exit 0),⟨[],⟨[],[],[],[]⟩⟩),(.ret,⟨[4],⟨[.hole],[],[2],[.bool]⟩⟩)] (lp zav zd)
theorem zsu:UK zyH (zbp (zu Tryz.f62) [1,1,0,1,0]) ztj:=zcw .run zB zDe ob0
theorem zAc:SK 62 ztK:=qO (.seq .run (.seq .run (.seq (.seq .run (.block (.unit ztj))) .run))) [.tmp 4] zg zB zqv Tryz.func62 (ob1 zsu ob0)
def zC7:ShC:=⟨⟨[(.agg [.hole,.hole,.hole]),(.agg [.hole,.hole,.hole])],[],[1,1,1,1,1,1],[kL,kK,kL,kL,kK,kL]⟩,⟨[.hole],[],[2],[.bool]⟩,1,[],[],false,false,fun (x:(jQ×jR×jQ×jQ×jR×jQ))=>qE x.1 x.2.1 x.2.2.1 x.2.2.2.1 x.2.2.2.2.1 x.2.2.2.2.2⟩
theorem zuh:SK 17 zC7:=qO .run [.tmp 4] zg zB (gd1 zzT (gd1 zAc za)) Tryz.func17 ob0
def zzr:ShC:=⟨⟨[(.agg [.hole,.hole,.hole,.hole,.hole,.hole,.hole,.hole,.hole,.hole]),(.agg [.hole,.hole,.hole,.hole,.hole,.hole,.hole,.hole,.hole,.hole])],[],[1,1,1,1,1,1,1,1,1,1,1,1,1,1,1,1,1,1,1,1],[.int .i64,.int .i64,.int .i64,.int .i64,.int .i64,.int .i64,.int .i64,kL,kK,kL,.int .i64,.int .i64,.int .i64,.int .i64,.int .i64,.int .i64,.int .i64,kL,kK,kL]⟩,⟨[.hole],[],[2],[.bool]⟩,1,[],[],false,false,fun (x:(Int×Int×Int×Int×Int×Int×Int×jQ×jR×jQ×Int×Int×Int×Int×Int×Int×Int×jQ×jR×jQ))=>zjk x.1 x.2.1 x.2.2.1 x.2.2.2.1 x.2.2.2.2.1 x.2.2.2.2.2.1 x.2.2.2.2.2.2.1 x.2.2.2.2.2.2.2.1 x.2.2.2.2.2.2.2.2.1 x.2.2.2.2.2.2.2.2.2.1 x.2.2.2.2.2.2.2.2.2.2.1 x.2.2.2.2.2.2.2.2.2.2.2.1 x.2.2.2.2.2.2.2.2.2.2.2.2.1 x.2.2.2.2.2.2.2.2.2.2.2.2.2.1 x.2.2.2.2.2.2.2.2.2.2.2.2.2.2.1 x.2.2.2.2.2.2.2.2.2.2.2.2.2.2.2.1 x.2.2.2.2.2.2.2.2.2.2.2.2.2.2.2.2.1 x.2.2.2.2.2.2.2.2.2.2.2.2.2.2.2.2.2.1 x.2.2.2.2.2.2.2.2.2.2.2.2.2.2.2.2.2.2.1 x.2.2.2.2.2.2.2.2.2.2.2.2.2.2.2.2.2.2.2⟩
theorem zz2:SK 82 zzr:=qO .run [.tmp 4] zg zB (gd1 zuh za) Tryz.func82 ob0
def ztU:ShC:=⟨⟨[.hole,.hole],[],[1,1],[.sl (.cons kZ (.cons kZ (.cons kZ (.cons kZ (.cons kZ (.cons kZ (.cons kZ (.cons kL (.cons kK (.one kL)))))))))),.sl (.cons kZ (.cons kZ (.cons kZ (.cons kZ (.cons kZ (.cons kZ (.cons kZ (.cons kL (.cons kK (.one kL))))))))))]⟩,⟨[.hole],[],[2],[.bool]⟩,1,[],[],false,false,fun (x:(jT×jT))=>zhZ x.1 x.2⟩
theorem zp4:GD ztU [(82,.gen (zan [zzr]))]:=(gd1 zz2 za)
def zy4:=zd8 tb gl zp4 ztU Tryz.f31
theorem zBA:VK zy4:=zy zg zp4
def zsW:Un:=lpU 2 [11,12,13,14,17,18,19,20,21,22,23,24,25,26,4,15,16,5] ⟨[0,1,5],⟨[.hole,.hole,.hole],[],[1,1,2],[.sl (.cons kZ (.cons kZ (.cons kZ (.cons kZ (.cons kZ (.cons kZ (.cons kZ (.cons kL (.cons kK (.one kL)))))))))),.sl (.cons kZ (.cons kZ (.cons kZ (.cons kZ (.cons kZ (.cons kZ (.cons kZ (.cons kL (.cons kK (.one kL)))))))))),.int .i64]⟩⟩ [((.exit 0),⟨[],⟨[],[],[],[]⟩⟩),(.ret,⟨[4],⟨[.hole],[],[2],[.bool]⟩⟩)] (lp zfF zd)
theorem zrK:UK zy4 (zbp (zu Tryz.f31) [1,1,0,1,0]) zsW:=zcw .run zB zBA ob0
theorem zzU:SK 31 ztU:=qO (.seq .run (.seq .run (.seq (.seq .run (.block (.unit zsW))) .run))) [.tmp 4] zg zB zp4 Tryz.func31 (ob1 zrK ob0)
def zyi:ShC:=⟨⟨[],[],[],[]⟩,⟨[.hole],[],[2],[.bool]⟩,1,[],[],false,true,fun (x:Unit)=>zih⟩
theorem zBg:SK 38 zyi:=qO .run [.tmp 0] zg zB (gd1 zuh (gd1 zzw (gd1 zzU (gdG zDa (gdG zzG (gdG zCv (gd1 zFp za))))))) Tryz.func38 ob0
def zqR:ShC:=⟨⟨[.hole,(.agg [.hole,.hole,.hole]),(.agg [.hole,.hole,.hole])],[],[1,1,1,1,1,1,1],[kM,kL,kK,kL,kL,kK,kL]⟩,⟨[.hole],[],[2],[.bool]⟩,1,[],[],false,true,fun (x:(jS×jQ×jR×jQ×jQ×jR×jQ))=>zaM x.1 x.2.1 x.2.2.1 x.2.2.2.1 x.2.2.2.2.1 x.2.2.2.2.2.1 x.2.2.2.2.2.2⟩
theorem zqz:GD zqR [(18,.gen (zan [zBM])),(38,.gen (zan [zyi])),(39,.gen (zan [zwZ]))]:=(gd1 zzw (gdG zBg (gdG zzG za)))
def zzv:=zd8 tb gl zqz zqR Tryz.f10
theorem zDv:VK zzv:=zy zg zqz
def zuD:Un:=lpU 2 [33,34,35,36,39,40,41,42,43,11,44,45,46,47,48,49,50,51,52,53,54,55,56,57,58,59,60,61,62,63,64,65,66,67,68,69,70,71,72,73,74,75,76,77,78,79,80,81,82,83,84,85,86,87,88,89,90,91,6,92,93,94,95,96,12,97,98,99,100,101,102,103,104,105,106,107,108,109,110,111,112,113,114,115,116,117,118,119,120,121,122,123,124,125,126,127,128,129,130,131,132,133,134,6,37,38,10] ⟨[4,5,7,10],⟨[(.ptr 0 0),(.ptr 1 0),.hole,.hole],[.cells true [.hole,.hole,.hole],.cells true [.hole,.hole,.hole]],[2,2,1,1,1,1,1,1],[.sl (.cons kZ (.cons kZ (.cons kZ (.cons kZ (.cons kZ (.cons kZ (.cons kZ (.cons kL (.cons kK (.one kL)))))))))),.int .i64,kL,kK,kL,kL,kK,kL]⟩⟩ [((.exit 0),⟨[],⟨[],[],[],[]⟩⟩),(.ret,⟨[6],⟨[.hole],[],[2],[.bool]⟩⟩)] (lp yT zd)
theorem zsd:UK zzv (zbp (zu Tryz.f10) [1,1,1,1,0,1,0]) zuD:=zcw .run zB zDv ob0
theorem zBa:SK 10 zqR:=qO (.seq .run (.seq .run (.seq .run (.seq .run (.seq (.seq .run (.block (.unit zuD))) .run))))) [.tmp 6] zg zB zqz Tryz.func10 (ob1 zsd ob0)
end
end Go.Abs.Sz5
