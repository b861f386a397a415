import Derived.Test.YtgjajclncfhidaaGreatDoorFc
import Derived.Test.YtgjajclncfhidaaGreatDoorQd
import Derived.Test.YtgjajclncfhidaaGreatDoorXa
import Derived.Test.YtgjajclncfhidaaGreatDoorProg
/-
 The functions make just that.
-/
namespace Go.Abs.Sc
open Go Go.Abs Go.Abs.Q Go.Proofs
set_option maxRecDepth 100000
noncomputable section
abbrev kK:Ty:=.sl (.one (.sl (.one (.int .i64))))
abbrev kR:Tys:=.one (.sl (.one (.int .i64)))
abbrev kJ:Ty:=.sl (.one (.int .i64))
abbrev kI:Tys:=.one (.int .i64)
abbrev kZ:Ty:=.int .i64
abbrev kL:Ty:=.sl HO
abbrev kM:Ty:=.sl PK
def tbl:List (Nat×TD):=[(3,.int .i64),
 (4,.bool),
 (9,.str),
 (22,.sl 114 PK 40),
 (23,.sl 55 (.cons kZ (.cons kZ (.cons kZ (.cons kZ (.cons kZ (.cons kZ (.cons kZ (.cons kL (.cons kK (.one kL)))))))))) 128),
 (25,.sl 61 HO 32),
 (26,.sl 38 kR 24),
 (28,.st [(25,0),(26,1),(25,2)] 3),
 (38,.sl 3 kI 8),
 (55,.st [(3,0),(3,1),(3,2),(3,3),(3,4),(3,5),(3,6),(28,7)] 10),
 (59,.int .u64),
 (61,.st [(4,0),(38,1)] 2),
 (70,.sl 4 (.one .bool) 1),
 (90,.st [(22,0),(23,1),(3,2)] 3),
 (114,.st [(9,0),(3,1),(3,2),(3,3)] 4),
 (115,.sl 25 (.one kL) 24),
 (131,.sl 188 (.cons kZ kR) 32),
 (160,.st [(38,0),(38,1)] 2),
 (181,.st [(38,0),(3,1)] 2),
 (182,.arr 181 (.cons (.ns kI) kI) 48),
 (184,.st [(22,0),(182,1)] 97),
 (188,.st [(3,0),(38,1)] 2),
 (213,.sl 216 (.cons kJ (.cons kZ (.cons kJ kI))) 64),
 (216,.fa 181 2 2),
 (218,.arr 3 kI 24),
 (220,.sl 26 (.one kK) 24),
 (225,.arr 38 (.one (.ns kI)) 24),
 (237,.arr 4 (.one .bool) 48),
 (238,.sl 181 (.cons kJ kI) 32)]
def tb:Tb:=UJ tbl
theorem zd:jx Tryz.prog tb:=Rr (by kernel_rfl)
theorem zt:Tryz.prog.follows .mixedOrders=true:=by kernel_rfl
def gl:Gl:=fun q=>cond (Nat.beq q 0) (some ⟨PK,(([61],0,2,1):zg)⟩) (none)
abbrev SK:=ShOk Tryz.prog gl
abbrev UK:=UnA Tryz.prog
abbrev VK:=VAll Tryz.prog
abbrev GD (c:ShC):=Wv Tryz.prog (cond c.glob gl fun _=>none)
def zho:ShC:=⟨⟨[],[],[],[]⟩,⟨[(.view 0)],[.seq false],[2],[kM]⟩,1,[],[],false,false,fun (_:Unit)=>sX⟩
theorem zgX:SK 41 zho:=yh .run [.tmp 0] zd zt zb Tryz.func41 ob0
def zhn:ShC:=⟨⟨[],[],[],[]⟩,⟨[(.view 0)],[.seq false],[2],[.sl (.cons kZ (.cons kZ (.cons kZ (.cons kZ (.cons kZ (.cons kZ (.cons kZ (.cons kL (.cons kK (.one kL))))))))))]⟩,1,[],[],false,false,fun (_:Unit)=>Zp⟩
theorem zg0:SK 42 zhn:=yh .run [.tmp 0] zd zt zb Tryz.func42 ob0
def zg6:ShC:=⟨⟨[.hole],[],[1],[.int .u8]⟩,⟨[.hole],[],[2],[.bool]⟩,1,[],[],false,false,fun (x:Int)=>kD x⟩
theorem zgQ:SK 184 zg6:=yh .run [.tmp 2] zd zt zb Tryz.func184 ob0
def zgb:ShC:=⟨⟨[.hole],[],[1],[.str]⟩,⟨[.hole],[],[2],[.bool]⟩,1,[],[],false,false,fun (x:Str)=>YF x⟩
theorem zbo:GD zgb [(184,.gen (qg [zg6]))]:=(gd1 zgQ zb)
def zg5:=te tb gl zbo zgb Tryz.f143
theorem zhj:VK zg5:=zq zd zbo
def zdT:Un:=lpU 2 [20,21,3,22,23,24,25,26,27,28,29,30,31,32,33,34,35,36,37,38,2,39,19] ⟨[0,18,19],⟨[.hole,.hole,.hole],[],[2,2,2],[.str,.int .i64,.int .i64]⟩⟩ [((.exit 0),⟨[],⟨[],[],[],[]⟩⟩),(.ret,⟨[2],⟨[.hole],[],[2],[.bool]⟩⟩)] (lp uA ze)
theorem Rh:UK zg5 (xY (zo Tryz.f143) [1,1,0,1,0]) zdT:=vQ .run zt zhj ob0
theorem zfN:SK 143 zgb:=yh (.seq .run (.seq .run (.seq (.seq .run (.block (.unit zdT))) .run))) [.tmp 2] zd zt zbo Tryz.func143 (ob1 Rh ob0)
def zg4:ShC:=⟨⟨[(.agg [.hole,.hole,.hole,.hole])],[],[1,1,1,1],[.str,.int .i64,.int .i64,.int .i64]⟩,⟨[.hole],[],[2],[.bool]⟩,1,[],[],false,false,fun (x:zg)=>jo x.1 x.2.1 x.2.2.1 x.2.2.2⟩
theorem zgW:SK 89 zg4:=yh .run [.tmp 2] zd zt (gd1 zfN zb) Tryz.func89 ob0
def zfD:ShC:=⟨⟨[.hole,.hole],[],[1,1],[kM,.str]⟩,⟨[.hole],[],[2],[.int .i64]⟩,1,[],[],false,false,fun (x:(jS×Str))=>QT x.1 x.2⟩
theorem za3:GD zfD []:=zb
def zg9:=te tb gl za3 zfD Tryz.f90
theorem zhf:VK zg9:=zq zd za3
def zft:Un:=lpU 2 [9,10,5,11,12,13,14,15,16,17,18,4,19,8] ⟨[0,1,7,8],⟨[.hole,.hole,.hole,.hole],[],[1,2,2,2],[kM,.str,.int .i64,.int .i64]⟩⟩ [((.exit 0),⟨[],⟨[],[],[],[]⟩⟩),(.ret,⟨[4],⟨[.hole],[],[2],[.int .i64]⟩⟩)] (lp tS ze)
theorem Sv:UK zg9 (xY (zo Tryz.f90) [1,0,1,0]) zft:=vQ .run zt zhf ob0
theorem zgk:SK 90 zfD:=yh (.seq .run (.seq (.seq .run (.block (.unit zft))) .run)) [.tmp 4] zd zt za3 Tryz.func90 (ob1 Sv ob0)
def zeD:ShC:=⟨⟨[.hole],[],[1],[kM]⟩,⟨[.hole],[],[2],[.bool]⟩,1,[],[],false,true,fun (x:jS)=>YH x⟩
theorem zbA:GD zeD [(89,.gen (qg [zg4])),(90,.gen (qg [zfD]))]:=(gd1 zgW (gd1 zgk zb))
def zg7:=te tb gl zbA zeD Tryz.f49
theorem zhl:VK zg7:=zq zd zbA
def zeT:Un:=lpU 2 [19,20,21,22,25,26,27,28,29,30,31,32,33,34,35,36,37,38,39,40,41,2,23,24,3] ⟨[0,3],⟨[.hole,.hole],[],[1,2],[kM,.int .i64]⟩⟩ [((.exit 0),⟨[],⟨[],[],[],[]⟩⟩),(.ret,⟨[2],⟨[.hole],[],[2],[.bool]⟩⟩)] (lp tJ ze)
theorem PR:UK zg7 (xY (zo Tryz.f49) [1,1,0,1,0]) zeT:=vQ .run zt zhl ob0
theorem RG:SK 49 zeD:=yh (.seq .run (.seq .run (.seq (.seq .run (.block (.unit zeT))) .run))) [.tmp 2] zd zt zbA Tryz.func49 (ob1 PR ob0)
def zhq:ShC:=⟨⟨[.hole,.hole,.hole],[],[1,1,1],[.int .i64,.int .i64,.int .i64]⟩,⟨[.hole],[],[2],[.bool]⟩,1,[],[],false,false,fun (x:(Int×Int×Int))=>vm x.1 x.2.1 x.2.2⟩
theorem zgs:SK 157 zhq:=yh .run [.tmp 6] zd zt zb Tryz.func157 ob0
def zhe:ShC:=⟨⟨[(.agg [.hole,.hole,.hole,.hole,.hole,.hole,.hole,.hole,.hole,.hole])],[],[1,1,1,1,1,1,1,1,1,1],[.int .i64,.int .i64,.int .i64,.int .i64,.int .i64,.int .i64,.int .i64,kL,kK,kL]⟩,⟨[.hole],[],[2],[.bool]⟩,1,[],[],false,false,fun (x:jU)=>sq x.1 x.2.1 x.2.2.1 x.2.2.2.1 x.2.2.2.2.1 x.2.2.2.2.2.1 x.2.2.2.2.2.2.1 x.2.2.2.2.2.2.2.1 x.2.2.2.2.2.2.2.2.1 x.2.2.2.2.2.2.2.2.2⟩
theorem zfQ:SK 106 zhe:=yh .run [.tmp 2] zd zt (gd1 zgs zb) Tryz.func106 ob0
def zbw:ShC:=⟨⟨[.hole],[],[1],[.int .i64]⟩,⟨[.hole],[],[2],[.int .i64]⟩,1,[],[],false,false,fun (x:Int)=>zP x⟩
theorem Iq:SK 84 zbw:=yh .run [.tmp 2] zd zt zb Tryz.func84 ob0
def zcZ:ShC:=⟨⟨[.hole,.hole],[],[1,1],[kM,.int .i64]⟩,⟨[.hole,.hole],[],[2,2],[.int .i64,.bool]⟩,2,[],[],false,false,fun (x:(jS×Int))=>Qp x.1 x.2⟩
theorem zev:SK 217 zcZ:=yh .run [.tmp 4,.tmp 5] zd zt (gd1 Iq zb) Tryz.func217 ob0
def A4:ShC:=⟨⟨[.hole,.hole,.hole],[],[1,1,1],[kM,kJ,.int .i64]⟩,⟨[.hole,.hole],[],[2,2],[.int .i64,.bool]⟩,2,[],[],false,false,fun (x:(jS×jI×Int))=>wu x.1 x.2.1 x.2.2⟩
theorem Mt:GD A4 [(217,.gen (qg [zcZ]))]:=(gd1 zev zb)
def zai:=te tb gl Mt A4 Tryz.f185
theorem zgz:VK zai:=zq zd Mt
def Td:Un:=scU zai [8,11,12,13,14,6,7,16,17,18,19,20,21,15,22,23,9,10,24,25,6,7,26,27,2,28,29,30,31,8,32,33,34,6,7] [(.goto 0,⟨[0,1,2,8],⟨[.hole,.hole,.hole,.hole],[],[1,1,2,2],[kM,kJ,.int .i64,.int .i64]⟩⟩)] [(.ret,⟨[6,7],⟨[.hole,.hole],[],[2,2],[.int .i64,.bool]⟩⟩)] (Ca (xY (zo Tryz.f185) [1])) .run (lp uN ze)
theorem LU:UK zai (xY (zo Tryz.f185) [1]) Td:=zfs [] zt zgz ob0 zcC
theorem GX:SK 185 A4:=yh (.seq .run (.unit Td)) [.tmp 6,.tmp 7] zd zt Mt Tryz.func185 (ob1 LU ob0)
def zaF:ShC:=⟨⟨[.hole,.hole],[],[1,1],[kM,kJ]⟩,⟨[(.view 0),.hole],[.seq false],[2,2],[.bool,kJ]⟩,2,[],[],false,true,fun (x:(jS×jI))=>re x.1 x.2⟩
theorem Mj:GD zaF [(49,.gen (qg [zeD])),(185,.gen (qg [A4]))]:=(gdG RG (gd1 GX zb))
def zbR:=te tb gl Mj zaF Tryz.f145
theorem zgy:VK zbR:=zq zd Mj
def Tl:Un:=scU zbR [10,11,12,13,14,15,16,17,4,5,6,7,18,19,20,21,22,4,5,24,25,26,27,23,28,29,8,9,30,31,4,5,32,33,34,35,6,36,7] [(.goto 0,⟨[0,1,6,7],⟨[.hole,.hole,(.view 0),.hole],[.seq false],[1,1,2,2],[kM,kJ,.int .i64,kJ]⟩⟩)] [(.ret,⟨[4,5],⟨[(.view 0),.hole],[.seq false],[2,2],[.bool,kJ]⟩⟩)] (Ca (xY (zo Tryz.f145) [1])) .run (lp tl ze)
theorem MN:UK zbR (xY (zo Tryz.f145) [1]) Tl:=zfs [] zt zgy ob0 zcC
theorem Pj:SK 145 zaF:=yh (.seq .run (.unit Tl)) [.tmp 4,.tmp 5] zd zt Mj Tryz.func145 (ob1 MN ob0)
def zgP:ShC:=⟨⟨[.hole,.hole],[],[1,1],[kM,kJ]⟩,⟨[.hole],[],[2],[.bool]⟩,1,[],[],false,true,fun (x:(jS×jI))=>v5 x.1 x.2⟩
theorem SZ:SK 144 zgP:=yh .run [.tmp 4] zd zt (gdG Pj zb) Tryz.func144 ob0
def zcT:ShC:=⟨⟨[.hole,(.agg [.hole,.hole])],[],[1,1,1],[kM,.bool,kJ]⟩,⟨[.hole],[],[2],[.bool]⟩,1,[],[],false,true,fun (x:(jS×Bool×jI))=>sY x.1 x.2.1 x.2.2⟩
theorem EG:SK 91 zcT:=yh .run [.tmp 4] zd zt (gdG SZ zb) Tryz.func91 ob0
def zbN:ShC:=⟨⟨[.hole,.hole],[],[1,1],[kM,kL]⟩,⟨[.hole,.hole],[],[2,2],[.int .i64,.bool]⟩,2,[],[],false,true,fun (x:(jS×jQ))=>tf x.1 x.2⟩
theorem MG:GD zbN [(91,.gen (qg [zcT]))]:=(gdG EG zb)
def zdx:=te tb gl MG zbN Tryz.f50
theorem zfW:VK zdx:=zq zd MG
def SE:Un:=lpU 2 [12,13,14,8,15,16,17,18,4,5,19,20,21,22,23,6,24,11] ⟨[0,6,9,10,11],⟨[.hole,.hole,.hole,.hole,.hole],[],[1,2,1,2,2],[kM,.int .i64,kL,.int .i64,.int .i64]⟩⟩ [((.exit 0),⟨[6],⟨[.hole],[],[2],[.int .i64]⟩⟩),(.ret,⟨[4,5],⟨[.hole,.hole],[],[2,2],[.int .i64,.bool]⟩⟩)] (lp wi ze)
theorem PB:UK zdx (xY (zo Tryz.f50) [1,1,0,1,0]) SE:=vQ .run zt zfW ob0
theorem zes:SK 50 zbN:=yh (.seq .run (.seq .run (.seq (.seq .run (.block (.unit SE))) .run))) [.tmp 4,.tmp 5] zd zt MG Tryz.func50 (ob1 PB ob0)
def zak:ShC:=⟨⟨[.hole,.hole],[],[1,1],[kM,kJ]⟩,⟨[.hole,.hole],[],[2,2],[.int .i64,.int .i64]⟩,2,[],[],false,true,fun (x:(jS×jI))=>ZO x.1 x.2⟩
theorem TJ:SK 92 zak:=yh .run [.tmp 4,.tmp 5] zd zt (gdG Pj zb) Tryz.func92 ob0
def zbW:ShC:=⟨⟨[.hole,.hole],[],[1,1],[kM,kK]⟩,⟨[.hole,.hole],[],[2,2],[.int .i64,.bool]⟩,2,[],[],false,true,fun (x:(jS×jR))=>rj x.1 x.2⟩
theorem LO:GD zbW [(92,.gen (qg [zak]))]:=(gdG TJ zb)
def zeX:=te tb gl LO zbW Tryz.f51
theorem zfV:VK zeX:=zq zd LO
def U9:Un:=lpU 2 [15,16,17,18,8,9,20,21,22,19,23,24,10,11,25,26,27,7,28,29,30,31,32,33,34,4,5,35,36,37,38,6,39,14] ⟨[0,6,7,12,13,14],⟨[.hole,.hole,.hole,.hole,.hole,.hole],[],[1,2,2,1,2,2],[kM,.int .i64,.int .i64,kK,.int .i64,.int .i64]⟩⟩ [((.exit 0),⟨[6],⟨[.hole],[],[2],[.int .i64]⟩⟩),(.ret,⟨[4,5],⟨[.hole,.hole],[],[2,2],[.int .i64,.bool]⟩⟩)] (lp wb ze)
theorem Nl:UK zeX (xY (zo Tryz.f51) [1,1,0,1,0]) U9:=vQ .run zt zfV ob0
theorem zcO:SK 51 zbW:=yh (.seq .run (.seq .run (.seq (.seq .run (.block (.unit U9))) .run))) [.tmp 4,.tmp 5] zd zt LO Tryz.func51 (ob1 Nl ob0)
def Ck:ShC:=⟨⟨[.hole,(.agg [.hole,.hole,.hole])],[],[1,1,1,1],[kM,kL,kK,kL]⟩,⟨[.hole],[],[2],[.bool]⟩,1,[],[],false,true,fun (x:(jS×jQ×jR×jQ))=>yq x.1 x.2.1 x.2.2.1 x.2.2.2⟩
theorem jM:SK 25 Ck:=yh .run [.tmp 4] zd zt (gdG RG (gdG zes (gdG zcO zb))) Tryz.func25 ob0
def zf1:ShC:=⟨⟨[.hole,(.agg [.hole,.hole,.hole,.hole,.hole,.hole,.hole,.hole,.hole,.hole])],[],[1,1,1,1,1,1,1,1,1,1,1],[kM,.int .i64,.int .i64,.int .i64,.int .i64,.int .i64,.int .i64,.int .i64,kL,kK,kL]⟩,⟨[.hole],[],[2],[.bool]⟩,1,[],[],false,true,fun (x:(jS×Int×Int×Int×Int×Int×Int×Int×jQ×jR×jQ))=>V7 x.1 x.2.1 x.2.2.1 x.2.2.2.1 x.2.2.2.2.1 x.2.2.2.2.2.1 x.2.2.2.2.2.2.1 x.2.2.2.2.2.2.2.1 x.2.2.2.2.2.2.2.2.1 x.2.2.2.2.2.2.2.2.2.1 x.2.2.2.2.2.2.2.2.2.2⟩
theorem zcz:SK 61 zf1:=yh .run [.tmp 4] zd zt (gdG jM (gd1 zfQ zb)) Tryz.func61 ob0
def zfc:ShC:=⟨⟨[(.agg [.hole,.hole,.hole,.hole,.hole,.hole,.hole,.hole,.hole,.hole]),(.ptr 0 0)],[.cells true [.hole]],[1,1,1,1,1,1,1,1,1,1,1],[.int .i64,.int .i64,.int .i64,.int .i64,.int .i64,.int .i64,.int .i64,kL,kK,kL,kM]⟩,⟨[.hole],[],[2],[.bool]⟩,1,[],[],false,true,fun (x:(Int×Int×Int×Int×Int×Int×Int×jQ×jR×jQ×jS))=>t7 x.1 x.2.1 x.2.2.1 x.2.2.2.1 x.2.2.2.2.1 x.2.2.2.2.2.1 x.2.2.2.2.2.2.1 x.2.2.2.2.2.2.2.1 x.2.2.2.2.2.2.2.2.1 x.2.2.2.2.2.2.2.2.2.1 x.2.2.2.2.2.2.2.2.2.2⟩
theorem zcK:SK 60 zfc:=yh .run [.tmp 3] zd zt (gdG zcz zb) Tryz.func60 ob0
def zb9:ShC:=⟨⟨[.hole,(.clo 60 [(.ptr 0 0)])],[.cells true [.hole]],[1,1],[.sl (.cons kZ (.cons kZ (.cons kZ (.cons kZ (.cons kZ (.cons kZ (.cons kZ (.cons kL (.cons kK (.one kL)))))))))),kM]⟩,⟨[.hole],[],[2],[.int .i64]⟩,1,[],[],false,true,fun (x:(jT×jS))=>tB x.1 x.2⟩
theorem MP:GD zb9 [(60,.gen (qg [zfc]))]:=(gdG zcK zb)
def ze0:=te tb gl MP zb9 Tryz.f105
theorem zgD:VK ze0:=zq zd MP
def SD:Un:=lpU 2 [9,10,5,11,12,13,14,15,16,17,4,18,8] ⟨[0,1,7,8],⟨[.hole,(.clo 60 [(.ptr 0 0)]),.hole,.hole],[.cells true [.hole]],[1,2,2,1],[.sl (.cons kZ (.cons kZ (.cons kZ (.cons kZ (.cons kZ (.cons kZ (.cons kZ (.cons kL (.cons kK (.one kL)))))))))),.int .i64,.int .i64,kM]⟩⟩ [((.exit 0),⟨[],⟨[],[],[],[]⟩⟩),(.ret,⟨[4],⟨[.hole],[],[2],[.int .i64]⟩⟩)] (lp yY ze)
theorem HT:UK ze0 (xY (zo Tryz.f105) [1,0,1,0]) SD:=vQ .run zt zgD ob0
theorem zfi:SK 105 zb9:=yh (.seq .run (.seq (.seq .run (.block (.unit SD))) .run)) [.tmp 4] zd zt MP Tryz.func105 (ob1 HT ob0)
def zgu:ShC:=⟨⟨[.hole,(.clo 60 [(.ptr 0 0)])],[.cells true [.hole]],[1,1],[.sl (.cons kZ (.cons kZ (.cons kZ (.cons kZ (.cons kZ (.cons kZ (.cons kZ (.cons kL (.cons kK (.one kL)))))))))),kM]⟩,⟨[.hole],[],[2],[.bool]⟩,1,[],[],false,true,fun (x:(jT×jS))=>uK x.1 x.2⟩
theorem zeB:SK 59 zgu:=yh .run [.tmp 4] zd zt (gdG zfi zb) Tryz.func59 ob0
def zbI:ShC:=⟨⟨[.hole,.hole],[],[1,1],[kM,.sl (.cons kZ (.cons kZ (.cons kZ (.cons kZ (.cons kZ (.cons kZ (.cons kZ (.cons kL (.cons kK (.one kL))))))))))]⟩,⟨[.hole],[],[2],[.bool]⟩,1,[],[],false,true,fun (x:(jS×jT))=>tU x.1 x.2⟩
theorem Pu:SK 29 zbI:=yh .run [.tmp 4] zd zt (gdG RG (gdG zeB zb)) Tryz.func29 ob0
def zfU:ShC:=⟨⟨[(.agg [.hole,.hole,.hole,.hole,.hole,.hole,.hole,.hole,.hole,.hole])],[],[1,1,1,1,1,1,1,1,1,1],[.int .i64,.int .i64,.int .i64,.int .i64,.int .i64,.int .i64,.int .i64,kL,kK,kL]⟩,⟨[(.agg [.hole,.hole,.hole,.hole,.hole,.hole,.hole,.nilv,.nilv,.nilv])],[],[2,2,2,2,2,2,2],[.int .i64,.int .i64,.int .i64,.int .i64,.int .i64,.int .i64,.int .i64]⟩,1,[],[],false,false,fun (x:jU)=>Yz x.1 x.2.1 x.2.2.1 x.2.2.2.1 x.2.2.2.2.1 x.2.2.2.2.2.1 x.2.2.2.2.2.2.1 x.2.2.2.2.2.2.2.1 x.2.2.2.2.2.2.2.2.1 x.2.2.2.2.2.2.2.2.2⟩
theorem zdH:SK 62 zfU:=yh (.seq .run (.seq .run (.seq (.seq .run (.block (.seq .run (.cond .run (.seq .run (.cond (.hide [[],[],[64],[64],[64],[64],[],[],[],[],[],[]]) (.seq .run (.cond (.hide [[],[],[64],[64],[],[],[],[]]) (.seq .run (.cond (.hide [[],[],[64],[64],[64],[64],[64],[64],[64],[64],[],[],[],[],[],[],[],[],[],[]]) .run)))))))))) .run))) [.cell 2 55] zd zt zb Tryz.func62 ob0
def zgB:ShC:=⟨⟨[(.agg [.hole,.hole,.hole,.hole,.hole,.hole,.hole,.hole,.hole,.hole]),(.agg [.hole,.hole,.hole,.hole,.hole,.hole,.hole,.hole,.hole,.hole])],[],[1,1,1,1,1,1,1,1,1,1,1,1,1,1,1,1,1,1,1,1],[.int .i64,.int .i64,.int .i64,.int .i64,.int .i64,.int .i64,.int .i64,kL,kK,kL,.int .i64,.int .i64,.int .i64,.int .i64,.int .i64,.int .i64,.int .i64,kL,kK,kL]⟩,⟨[.hole],[],[2],[.bool]⟩,1,[],[],false,false,fun (x:(Int×Int×Int×Int×Int×Int×Int×jQ×jR×jQ×Int×Int×Int×Int×Int×Int×Int×jQ×jR×jQ))=>vE x.1 x.2.1 x.2.2.1 x.2.2.2.1 x.2.2.2.2.1 x.2.2.2.2.2.1 x.2.2.2.2.2.2.1 x.2.2.2.2.2.2.2.1 x.2.2.2.2.2.2.2.2.1 x.2.2.2.2.2.2.2.2.2.1 x.2.2.2.2.2.2.2.2.2.2.1 x.2.2.2.2.2.2.2.2.2.2.2.1 x.2.2.2.2.2.2.2.2.2.2.2.2.1 x.2.2.2.2.2.2.2.2.2.2.2.2.2.1 x.2.2.2.2.2.2.2.2.2.2.2.2.2.2.1 x.2.2.2.2.2.2.2.2.2.2.2.2.2.2.2.1 x.2.2.2.2.2.2.2.2.2.2.2.2.2.2.2.2.1 x.2.2.2.2.2.2.2.2.2.2.2.2.2.2.2.2.2.1 x.2.2.2.2.2.2.2.2.2.2.2.2.2.2.2.2.2.2.1 x.2.2.2.2.2.2.2.2.2.2.2.2.2.2.2.2.2.2.2⟩
theorem zeP:SK 63 zgB:=yh .run [.tmp 4] zd zt zb Tryz.func63 ob0
def zgK:ShC:=⟨⟨[.hole],[],[1],[.ns kI]⟩,⟨[(.view 0)],[.seq false],[2],[kJ]⟩,1,[],[],false,false,fun (x:(Option jI))=>QG x⟩
theorem zfn:SK 108 zgK:=yh .run [.tmp 2] zd zt zb Tryz.func108 ob0
def zf8:ShC:=⟨⟨[.nilv],[],[],[]⟩,⟨[(.view 0)],[.seq false],[2],[kJ]⟩,1,[],[],false,false,fun (_:Unit)=>Ga⟩
theorem zfz:SK 108 zf8:=yh .run [.tmp 2] zd zt zb Tryz.func108 ob0
def DG:ShC:=⟨⟨[.hole],[],[1],[kJ]⟩,⟨[(.view 0)],[.seq false],[2],[kJ]⟩,1,[],[],false,false,fun (x:jI)=>zC x⟩
theorem Vy:SK 108 DG :=
 zeE zfz zfn fun xs y h=>⟨h,fun e=>by subst e; exact h⟩
def zbQ:ShC:=⟨⟨[(.agg [.hole,.hole,.hole]),(.clo 108 [])],[],[1,1,1],[kL,kK,kL]⟩,⟨[(.agg [(.view 0),(.view 1),(.view 2)])],[.seq false,.seq false,.seq false],[2,2,2],[kL,kK,kL]⟩,1,[],[],false,false,fun (x:(jQ×jR×jQ))=>Yl x.1 x.2.1 x.2.2⟩
theorem N9:GD zbQ [(108,.gen (qg [DG]))]:=(gd1 Vy zb)
def RJ:=te tb gl N9 zbQ Tryz.f107
theorem zbc:VK RJ:=zq zd N9
def T5:Un:=lpU 2 [52,53,54,11,55,56,57,58,59,60,61,62,63,64,65,66,67,51] ⟨[1,4,5,49,50,51],⟨[(.clo 108 []),(.ptr 0 0),(.ptr 1 0),.hole,.hole,.hole],[.cells true [.nilv,.nilv,.nilv],.cells false [(.view 2),(.view 3),(.view 4)],.seq false,.seq false,.seq false],[1,2,2,2,2,2],[kL,.int .i64,.int .i64,kL,kK,kL]⟩⟩ [((.exit 4),⟨[5],⟨[(.ptr 0 0)],[.cells false [(.view 1),(.view 2),(.view 3)],.seq false,.seq false,.seq false],[2,2,2],[kL,kK,kL]⟩⟩)] (lp wX ze)
theorem Lx:UK RJ (xY (zo Tryz.f107) [1,1,1,1,0,1,0]) T5:=vQ .run zt zbc ob0
def T3:Un:=lpU 2 [36,37,38,9,39,40,41,42,43,44,45,46,47,35] ⟨[1,2,4,5,33,34,35],⟨[(.clo 108 []),(.ptr 0 0),(.ptr 1 0),(.ptr 2 0),.hole,.hole,.hole],[.cells true [.hole,.hole,.hole],.cells true [.nilv,.nilv,.nilv],.cells false [(.view 3),(.view 4),.nilv],.seq false,.seq false],[1,2,2,1,1,1,2,2],[kK,.int .i64,.int .i64,kL,kK,kL,kL,kK]⟩⟩ [((.exit 2),⟨[5],⟨[(.ptr 0 0)],[.cells false [(.view 1),(.view 2),.nilv],.seq false,.seq false],[2,2],[kL,kK]⟩⟩)] (lp wU ze)
theorem Pa:UK RJ (xY (zo Tryz.f107) [1,1,1,0,1,0]) T3:=vQ .run zt zbc ob0
def Tp:Un:=lpU 2 [16,17,18,7,19,20,21,22,23,24,25,26,27,28,29,30,31,15] ⟨[1,2,4,5,13,14,15],⟨[(.clo 108 []),(.ptr 0 0),(.ptr 1 0),(.ptr 2 0),.hole,.hole,.hole],[.cells true [.hole,.hole,.hole],.cells true [.nilv,.nilv,.nilv],.cells false [(.view 3),.nilv,.nilv],.seq false],[1,2,2,1,1,1,2],[kL,.int .i64,.int .i64,kL,kK,kL,kL]⟩⟩ [((.exit 0),⟨[5],⟨[(.ptr 0 0)],[.cells false [(.view 1),.nilv,.nilv],.seq false],[2],[kL]⟩⟩)] (lp wQ ze)
theorem PC:UK RJ (xY (zo Tryz.f107) [1,1,0,1,0]) Tp:=vQ .run zt zbc ob0
theorem zc4:SK 107 zbQ:=yh (.seq .run (.seq .run (.seq (.seq .run (.block (.unit Tp))) (.seq (.seq .run (.block (.unit T3))) (.seq (.seq .run (.block (.unit T5))) .run))))) [.cell 4 28] zd zt N9 Tryz.func107 (ob1 PC (ob1 Pa (ob1 Lx ob0)))
def zc2:ShC:=⟨⟨[(.agg [.hole,.hole,.hole])],[],[1,1,1],[kL,kK,kL]⟩,⟨[(.agg [(.view 0),(.view 1),(.view 2)])],[.seq false,.seq false,.seq false],[2,2,2],[kL,kK,kL]⟩,1,[],[],false,false,fun (x:(jQ×jR×jQ))=>tE x.1 x.2.1 x.2.2⟩
theorem Mi:SK 64 zc2:=yh .run [.cell 2 28] zd zt (gd1 zc4 zb) Tryz.func64 ob0
def zf6:ShC:=⟨⟨[(.agg [.hole,.hole,.hole]),.hole],[],[1,1,1,1],[kL,kK,kL,.int .i64]⟩,⟨[.hole],[],[2],[.bool]⟩,1,[],[],false,false,fun (x:(jQ×jR×jQ×Int))=>sd x.1 x.2.1 x.2.2.1 x.2.2.2⟩
theorem zdX:SK 158 zf6:=yh .run [.tmp 4] zd zt zb Tryz.func158 ob0
def ze3:ShC:=⟨⟨[.nilv,.hole],[],[1],[.int .i64]⟩,⟨[(.view 0)],[.seq false],[2],[kL]⟩,1,[],[],false,false,fun (x:Int)=>kh x⟩
theorem zdc:SK 82 ze3:=yh .run [.tmp 4] zd zt (gd0 1000025 zb) Tryz.func82 ob0
def M3:ShC:=⟨⟨[.hole],[],[1],[.sl (.one kL)]⟩,⟨[(.view 0)],[.seq false],[0],[kL]⟩,1,[],[],true,false,fun (x:(List jQ))=>uR x⟩
theorem Nh:GD M3 [(82,.gen (qg [ze3]))]:=(gd1 zdc zb)
def zca:=te tb gl Nh M3 Tryz.f43
theorem zcx:VK zca:=zq zd Nh
def Ug:Un:=lpU 2 [28,29,30,8,31,32,33,6,34,27] ⟨[6,25,26,27],⟨[(.view 0),.hole,.hole,.hole],[.seq false],[1,2,2,0],[.sl (.one kL),.int .i64,.int .i64,kL]⟩⟩ [((.exit 2),⟨[6],⟨[(.view 0)],[.seq false],[0],[kL]⟩⟩)] (lp xB ze)
theorem Ph:UK zca (xY (zo Tryz.f43) [1,1,1,1,0,1,0]) Ug:=vQ .run zt zcx ob0
def TM:Un:=lpU 2 [12,13,14,5,15,16,17,18,3,19,20,21,22,11] ⟨[0,3,9,10,11],⟨[.hole,.hole,.hole,.hole,.hole],[],[1,2,1,2,2],[.sl (.one kL),.int .i64,.sl (.one kL),.int .i64,.int .i64]⟩⟩ [((.exit 0),⟨[3],⟨[.hole],[],[2],[.int .i64]⟩⟩)] (lp xG ze)
theorem NK:UK zca (xY (zo Tryz.f43) [1,1,0,1,0]) TM:=vQ .run zt zcx ob0
theorem Ul:SK 43 M3:=yh (.seq .run (.seq .run (.seq (.seq .run (.block (.unit TM))) (.seq .run (.seq (.seq .run (.block (.unit Ug))) .run))))) [.tmp 2] zd zt Nh Tryz.func43 (ob1 NK (ob1 Ph ob0))
def zf7:ShC:=⟨⟨[.hole],[],[1],[.int .i64]⟩,⟨[.hole],[],[2],[.bool]⟩,1,[],[],false,false,fun (x:Int)=>Wn x⟩
theorem zd2:SK 181 zf7:=yh .run [.tmp 2] zd zt zb Tryz.func181 ob0
def zcA:ShC:=⟨⟨[.hole,.hole],[],[1,1],[.int .i64,.int .i64]⟩,⟨[.hole],[],[2],[.bool]⟩,1,[],[],false,false,fun (x:(Int×Int))=>Kg x.1 x.2⟩
theorem zct:SK 135 zcA:=yh .run [.tmp 4] zd zt (gd1 zd2 zb) Tryz.func135 ob0
def zdz:ShC:=⟨⟨[.hole],[],[1],[.int .i64]⟩,⟨[.hole],[],[2],[.bool]⟩,1,[],[],false,false,fun (x:Int)=>rC x⟩
theorem zet:SK 136 zdz:=yh .run [.tmp 2] zd zt zb Tryz.func136 ob0
def Sf:ShC:=⟨⟨[.hole,.hole],[],[1,1],[kJ,.int .i64]⟩,⟨[.hole,.hole],[],[2,2],[.int .i64,.bool]⟩,2,[],[],false,false,fun (x:(jI×Int))=>wx x.1 x.2⟩
theorem LZ:GD Sf [(135,.gen (qg [zcA])),(136,.gen (qg [zdz]))]:=(gd1 zct (gd1 zet zb))
def zcH:=te tb gl LZ Sf Tryz.f83
theorem zgA:VK zcH:=zq zd LZ
def TZ:Un:=lpU 2 [13,14,15,16,17,18,19,20,21,9,22,23,24,25,26,27,28,29,7,30,8] ⟨[0,1,6,7,8],⟨[.hole,.hole,.hole,.hole,.hole],[],[1,2,2,2,2],[kJ,.int .i64,.int .i64,.int .i64,.int .i64]⟩⟩ [((.exit 0),⟨[7],⟨[.hole],[],[2],[.int .i64]⟩⟩)] (lp yZ ze)
theorem N3:UK zcH (xY (zo Tryz.f83) [1,1,1,0,0]) TZ:=vQ .run zt zgA ob0
theorem zc6:SK 83 Sf:=yh (.seq .run (.seq .run (.seq .run (.seq (.block (.unit TZ)) .run)))) [.tmp 4,.tmp 5] zd zt LZ Tryz.func83 (ob1 N3 ob0)
def J9:Go.Shelf.Ren:={ f:=fun x=>match x with | 21=>85 | 27=>137 | 28=>138 | 35=>182 | 39=>35 | n=>n,t:=fun x=>match x with | 22=>38 | 3=>3 | 4=>4 | 0=>0 | n=>n,g:=fun x=>x }
theorem W3:Go.Proofs.Lays2.n21 Tryz.prog J9 where
 mixed:=by kernel_rfl
 f21:=Tryz.func85.trans (by kernel_rfl)
 f27:=Tryz.func137.trans (by kernel_rfl)
 f28:=Tryz.func138.trans (by kernel_rfl)
 f35:=Tryz.func182.trans (by kernel_rfl)
 f39:=Tryz.func35.trans (by kernel_rfl)
 t0:=Tryz.underlying0
 a0:=Tryz.isAgg0
 z0:=Tryz.sizeOf0
 v0:=Tryz.zeroValue0
 t3:=Tryz.underlying3
 a3:=Tryz.isAgg3
 z3:=Tryz.sizeOf3
 v3:=Tryz.zeroValue3
 t4:=Tryz.underlying4
 a4:=Tryz.isAgg4
 z4:=Tryz.sizeOf4
 v4:=Tryz.zeroValue4
 t22:=Tryz.underlying38
 a22:=Tryz.isAgg38
 z22:=Tryz.sizeOf38
 v22:=Tryz.zeroValue38
 i3:=by kernel_rfl
def zfk:ShC:=insC
theorem zdA:SK 85 zfk :=
 Ml (code:=zo Tryz.f85) Tryz.func85 (by kernel_rfl) (by kernel_rfl) W3 rfl
def Ru:ShC:=⟨⟨[(.view 0),.hole],[.seq false],[1,1],[kJ,kJ]⟩,⟨[(.view 0)],[.seq false],[0],[kJ]⟩,1,[],[],true,false,fun (x:(jI×jI))=>tH x.1 x.2⟩
theorem NQ:GD Ru [(83,.gen (qg [Sf])),(84,.gen (qg [zbw])),(85,.gen (qg [zfk]))]:=(gd1 zc6 (gd1 Iq (gd1 zdA zb)))
def zeb:=te tb gl NQ Ru Tryz.f44
theorem zgU:VK zeb:=zq zd NQ
def UF:Un:=lpU 2 [12,13,14,6,15,16,18,19,20,21,17,22,23,7,8,24,25,26,27,28,29,30,31,0,32,11] ⟨[0,9,10,11],⟨[(.view 0),.hole,.hole,.hole],[.seq false],[1,2,2,0],[kJ,.int .i64,.int .i64,kJ]⟩⟩ [((.exit 0),⟨[0],⟨[(.view 0)],[.seq false],[0],[kJ]⟩⟩)] (lp uD ze)
theorem LX:UK zeb (xY (zo Tryz.f44) [1,0,1,0]) UF:=vQ .run zt zgU ob0
theorem zdk:SK 44 Ru:=yh (.seq .run (.seq (.seq .run (.block (.unit UF))) .run)) [.tmp 4] zd zt NQ Tryz.func44 (ob1 LX ob0)
def zag:ShC:=⟨⟨[.hole,(.agg [.hole,.hole,.hole])],[],[1,1,1,1],[kM,kL,kK,kL]⟩,⟨[(.view 0),.hole],[.seq false],[2,0],[.int .i64,kJ]⟩,2,[],[],true,true,fun (x:(jS×jQ×jR×jQ))=>qH x.1 x.2.1 x.2.2.1 x.2.2.2⟩
theorem Ol:GD zag [(25,.gen (qg [Ck])),(43,.gen (qg [M3])),(44,.gen (qg [Ru]))]:=(gdG jM (gd1 Ul (gd1 zdk zb)))
def za5:=te tb gl Ol zag Tryz.f22
theorem ze9:VK za5:=zq zd Ol
def TP:Un:=lpU 2 [35,36,37,10,38,39,40,6,41,34] ⟨[6,32,33,34],⟨[(.view 0),.hole,.hole,.hole],[.seq false],[1,2,2,0],[kK,.int .i64,.int .i64,kJ]⟩⟩ [((.exit 2),⟨[6],⟨[(.view 0)],[.seq false],[0],[kJ]⟩⟩)] (lp ux ze)
theorem MQ:UK za5 (xY (zo Tryz.f22) [1,1,1,1,0,1,0]) TP:=vQ .run zt ze9 ob0
def Uv:Un:=lpU 2 [23,24,25,8,26,27,28,29,6,30,22] ⟨[3,6,20,21,22],⟨[(.ptr 0 0),(.view 1),.hole,.hole,.hole],[.cells true [.hole,.hole,.hole],.seq false],[0,2,2,1,1,1,0],[kL,.int .i64,.int .i64,kL,kK,kL,kJ]⟩⟩ [((.exit 0),⟨[6],⟨[(.view 0)],[.seq false],[0],[kJ]⟩⟩)] (lp un ze)
theorem MD:UK za5 (xY (zo Tryz.f22) [1,1,1,0,1,0]) Uv:=vQ .run zt ze9 ob0
theorem Uc:SK 22 zag:=yh (.seq .run (.seq .run (.seq .run (.seq (.seq .run (.block (.unit Uv))) (.seq (.seq .run (.block (.unit TP))) .run))))) [.tmp 4,.tmp 5] zd zt Ol Tryz.func22 (ob1 MD (ob1 MQ ob0))
def RY:ShC:=⟨⟨[.hole,(.ptr 0 0)],[.cells true [.hole]],[1,1],[kJ,.int .i64]⟩,⟨[(.view 0)],[.seq false],[2],[kJ]⟩,1,[],[],false,false,fun (x:(jI×Int))=>qI x.1 x.2⟩
theorem Nd:GD RY [(108,.gen (qg [DG]))]:=(gd1 Vy zb)
def zdP:=te tb gl Nd RY Tryz.f188
theorem zgL:VK zdP:=zq zd Nd
def SP:Un:=lpU 2 [12,13,14,15,5,6,16,17,18,19,20,21,22,23,24,11] ⟨[1,4,9,10,11],⟨[(.ptr 0 0),(.view 1),(.view 1),.hole,.hole],[.cells true [.hole],.seq false],[2,2,2,2],[.int .i64,.int .i64,.int .i64,kJ]⟩⟩ [((.exit 0),⟨[4],⟨[(.view 0)],[.seq false],[2],[kJ]⟩⟩)] (lp qK ze)
theorem LE:UK zdP (xY (zo Tryz.f188) [1,1,0,1,0]) SP:=vQ .run zt zgL ob0
theorem zep:SK 188 RY:=yh (.seq .run (.seq .run (.seq (.seq .run (.block (.unit SP))) .run))) [.tmp 3] zd zt Nd Tryz.func188 (ob1 LE ob0)
def zbM:ShC:=⟨⟨[(.agg [.hole,.hole,.hole]),(.clo 188 [(.ptr 0 0)])],[.cells true [.hole]],[1,1,1,1],[kL,kK,kL,.int .i64]⟩,⟨[(.agg [(.view 0),(.view 1),(.view 2)])],[.seq false,.seq false,.seq false],[2,2,2],[kL,kK,kL]⟩,1,[],[],false,false,fun (x:(jQ×jR×jQ×Int))=>YI x.1 x.2.1 x.2.2.1 x.2.2.2⟩
theorem PA:GD zbM [(188,.gen (qg [RY]))]:=(gd1 zep zb)
def Sk:=te tb gl PA zbM Tryz.f107
theorem zam:VK Sk:=zq zd PA
def S9:Un:=lpU 2 [52,53,54,11,55,56,57,58,59,60,61,62,63,64,65,66,67,51] ⟨[1,4,5,49,50,51],⟨[(.clo 188 [(.ptr 0 0)]),(.ptr 1 0),(.ptr 2 0),.hole,.hole,.hole],[.cells true [.hole],.cells true [.nilv,.nilv,.nilv],.cells false [(.view 3),(.view 4),(.view 5)],.seq false,.seq false,.seq false],[1,2,2,2,2,2,2],[kL,.int .i64,.int .i64,.int .i64,kL,kK,kL]⟩⟩ [((.exit 4),⟨[5],⟨[(.ptr 0 0)],[.cells false [(.view 1),(.view 2),(.view 3)],.seq false,.seq false,.seq false],[2,2,2],[kL,kK,kL]⟩⟩)] (lp wP ze)
theorem LI:UK Sk (xY (zo Tryz.f107) [1,1,1,1,0,1,0]) S9:=vQ .run zt zam ob0
def Ux:Un:=lpU 2 [36,37,38,9,39,40,41,42,43,44,45,46,47,35] ⟨[1,2,4,5,33,34,35],⟨[(.clo 188 [(.ptr 0 0)]),(.ptr 1 0),(.ptr 2 0),(.ptr 3 0),.hole,.hole,.hole],[.cells true [.hole],.cells true [.hole,.hole,.hole],.cells true [.nilv,.nilv,.nilv],.cells false [(.view 4),(.view 5),.nilv],.seq false,.seq false],[1,2,2,2,1,1,1,2,2],[kK,.int .i64,.int .i64,.int .i64,kL,kK,kL,kL,kK]⟩⟩ [((.exit 2),⟨[5],⟨[(.ptr 0 0)],[.cells false [(.view 1),(.view 2),.nilv],.seq false,.seq false],[2,2],[kL,kK]⟩⟩)] (lp wS ze)
theorem NN:UK Sk (xY (zo Tryz.f107) [1,1,1,0,1,0]) Ux:=vQ .run zt zam ob0
def Te:Un:=lpU 2 [16,17,18,7,19,20,21,22,23,24,25,26,27,28,29,30,31,15] ⟨[1,2,4,5,13,14,15],⟨[(.clo 188 [(.ptr 0 0)]),(.ptr 1 0),(.ptr 2 0),(.ptr 3 0),.hole,.hole,.hole],[.cells true [.hole],.cells true [.hole,.hole,.hole],.cells true [.nilv,.nilv,.nilv],.cells false [(.view 4),.nilv,.nilv],.seq false],[1,2,2,2,1,1,1,2],[kL,.int .i64,.int .i64,.int .i64,kL,kK,kL,kL]⟩⟩ [((.exit 0),⟨[5],⟨[(.ptr 0 0)],[.cells false [(.view 1),.nilv,.nilv],.seq false],[2],[kL]⟩⟩)] (lp wM ze)
theorem OA:UK Sk (xY (zo Tryz.f107) [1,1,0,1,0]) Te:=vQ .run zt zam ob0
theorem zej:SK 107 zbM:=yh (.seq .run (.seq .run (.seq (.seq .run (.block (.unit Te))) (.seq (.seq .run (.block (.unit Ux))) (.seq (.seq .run (.block (.unit S9))) .run))))) [.cell 4 28] zd zt PA Tryz.func107 (ob1 OA (ob1 NN (ob1 LI ob0)))
def zfI:ShC:=⟨⟨[(.agg [.hole,.hole,.hole]),.hole],[],[1,1,1,1],[kL,kK,kL,.int .i64]⟩,⟨[(.agg [(.view 0),(.view 1),(.view 2)])],[.seq false,.seq false,.seq false],[2,2,2],[kL,kK,kL]⟩,1,[],[],false,false,fun (x:(jQ×jR×jQ×Int))=>zH x.1 x.2.1 x.2.2.1 x.2.2.2⟩
theorem Ub:SK 148 zfI:=yh .run [.cell 4 28] zd zt (gd1 zej zb) Tryz.func148 ob0
def zgV:ShC:=⟨⟨[.hole,(.agg [.hole,.hole,.hole]),(.agg [.hole,.hole,.hole])],[],[1,1,1,1,1,1,1],[kM,kL,kK,kL,kL,kK,kL]⟩,⟨[(.agg [.hole,.hole,(.view 0)]),.hole],[.seq false],[2,2,2,2],[kL,kK,.bool,kL]⟩,2,[],[],false,true,fun (x:(jS×jQ×jR×jQ×jQ×jR×jQ))=>vV x.1 x.2.1 x.2.2.1 x.2.2.2.1 x.2.2.2.2.1 x.2.2.2.2.2.1 x.2.2.2.2.2.2⟩
theorem zfu:SK 97 zgV:=yh .run [.cell 6 28,.tmp 7] zd zt (gdG Uc (gd1 Ub zb)) Tryz.func97 ob0
def LW:ShC:=⟨⟨[.hole,.hole],[],[1,1],[kM,kJ]⟩,⟨[(.view 0)],[.seq false],[0],[kK]⟩,1,[],[],true,false,fun (x:(jS×jI))=>v9 x.1 x.2⟩
theorem Oz:GD LW [(185,.gen (qg [A4]))]:=(gd1 GX zb)
def zdY:=te tb gl Oz LW Tryz.f199
theorem zgH:VK zdY:=zq zd Oz
def UH:Un:=lpU 2 [9,10,11,12,14,15,16,17,13,18,19,7,8,20,21,22,4,23,24,25,26,27,28,29,5,30,6] ⟨[0,1,5,6],⟨[.hole,.hole,(.view 0),.hole],[.seq false],[1,1,2,0],[kM,kJ,.int .i64,kK]⟩⟩ [((.exit 0),⟨[5],⟨[(.view 0)],[.seq false],[0],[kK]⟩⟩),(.ret,⟨[4],⟨[(.view 0)],[.seq false],[0],[kK]⟩⟩)] (lp th ze)
theorem OB:UK zdY (xY (zo Tryz.f199) [1,1,0,1,0]) UH:=vQ .run zt zgH ob0
theorem EX:SK 199 LW:=yh (.seq .run (.seq .run (.seq (.seq .run (.block (.unit UH))) .run))) [.tmp 4] zd zt Oz Tryz.func199 (ob1 OB ob0)
def P0:ShC:=⟨⟨[(.ptr 0 0),(.view 1),(.agg [.hole,.hole]),(.agg [.hole,.hole])],[.cells true [.hole,.hole],.seq false],[1,1,1,1,1,1,1],[kJ,.int .i64,kJ,.int .i64,kM,.ar (.cons (.ns kI) kI) 48,.sl (.cons kJ (.cons kZ (.cons kJ kI)))]⟩,⟨[(.view 0)],[.seq false],[0],[.sl (.cons kJ (.cons kZ (.cons kJ kI)))]⟩,1,[],[],true,false,fun (x:(jI×Int×jI×Int×jS×(List ((Option jI)×Int))×(List (jI×Int×jI×Int))))=>q9 x.1 x.2.1 x.2.2.1 x.2.2.2.1 x.2.2.2.2.1 x.2.2.2.2.2.1 x.2.2.2.2.2.2⟩
theorem Li:GD P0 [(199,.gen (qg [LW]))]:=(gd1 EX zb)
def zdO:=te tb gl Li P0 Tryz.f189
theorem zf4:VK zdO:=zq zd Li
def U4:Un:=lpU 2 [29,30,11,31,32,33,34,35,36,37,38,39,40,41,42,43,44,45,46,47,48,1,49,28] ⟨[1,6,7,9,10,27,28],⟨[(.view 0),(.ptr 1 0),(.ptr 2 0),.hole,.hole,.hole,.hole],[.seq false,.cells true [.hole,.hole],.cells true [.hole,.hole]],[0,0,2,2,0,1,2,1,2],[kK,kK,.int .i64,.int .i64,.sl (.cons kJ (.cons kZ (.cons kJ kI))),kJ,.int .i64,kJ,.int .i64]⟩⟩ [((.exit 0),⟨[1],⟨[(.view 0)],[.seq false],[0],[.sl (.cons kJ (.cons kZ (.cons kJ kI)))]⟩⟩)] (lp qM ze)
theorem NW:UK zdO (xY (zo Tryz.f189) [1,1,0,1,0]) U4:=vQ .run zt zf4 ob0
theorem zem:SK 189 P0:=yh (.seq .run (.seq .run (.seq (.seq .run (.block (.unit U4))) .run))) [.tmp 8] zd zt Li Tryz.func189 (ob1 NW ob0)
def zbg:ShC:=⟨⟨[(.agg [.hole,.hole]),.hole],[],[1,1,1],[kJ,.int .i64,.int .i64]⟩,⟨[.hole],[],[2],[.int .i64]⟩,1,[],[],false,false,fun (x:(jI×Int×Int))=>yT x.1 x.2.1 x.2.2⟩
theorem Pz:SK 192 zbg:=yh .run [.tmp 4] zd zt (gd1 Iq zb) Tryz.func192 ob0
def Sd:ShC:=⟨⟨[(.ptr 0 0),(.agg [.hole,.hole])],[.cells true [.hole,.hole]],[1,1,1,1],[kJ,.int .i64,kM,.ar (.cons (.ns kI) kI) 48]⟩,⟨[(.agg [.hole,.hole])],[],[1,2],[kJ,.int .i64]⟩,1,[],[],true,false,fun (x:(jI×Int×jS×(List ((Option jI)×Int))))=>vl x.1 x.2.1 x.2.2.1 x.2.2.2⟩
theorem N7:GD Sd [(192,.gen (qg [zbg]))]:=(gd1 Pz zb)
def zda:=te tb gl N7 Sd Tryz.f190
theorem zgY:VK zda:=zq zd N7
def Tg:Un:=lpU 2 [6,7,8,9,10,11,12,13,14,15,16,17,18,19,20,21,5,22,23,24,25] ⟨[0,3,4],⟨[(.ptr 0 0),(.ptr 1 0),(.ptr 2 0)],[.cells true [.hole,.hole],.cells false [.hole,.hole],.cells true [.nilv,.hole]],[1,1,1,2,2],[kM,.ar (.cons (.ns kI) kI) 48,kJ,.int .i64,.int .i64]⟩⟩ [((.exit 0),⟨[3],⟨[(.ptr 0 0)],[.cells false [.hole,.hole]],[1,2],[kJ,.int .i64]⟩⟩)] (lp vH ze)
theorem Nq:UK zda (xY (zo Tryz.f190) [1,0,0]) Tg:=vQ .run zt zgY ob0
theorem zeW:SK 190 Sd:=yh (.seq .run (.seq (.block (.unit Tg)) .run)) [.cell 4 181] zd zt N7 Tryz.func190 (ob1 Nq ob0)
def zaQ:ShC:=⟨⟨[(.ptr 0 0),.hole,(.agg [.hole,.hole])],[.cells true [.hole,.hole]],[1,1,1,1,1],[.int .i64,kJ,.int .i64,kM,.ar (.cons (.ns kI) kI) 48]⟩,⟨[.hole],[],[2],[.bool]⟩,1,[],[],false,false,fun (x:(Int×jI×Int×jS×(List ((Option jI)×Int))))=>tu x.1 x.2.1 x.2.2.1 x.2.2.2.1 x.2.2.2.2⟩
theorem Pm:GD zaQ [(192,.gen (qg [zbg])),(1000027,.gen (qg []))]:=(gd1 Pz (gd0 1000027 zb))
def zaC:=te tb gl Pm zaQ Tryz.f221
theorem zfw:VK zaC:=zq zd Pm
def Tq:Un:=lpU 2 [32,33,34,10,35,36,37,38,39,11,40,41,42,6,43,44,45,46,47,48,49,50,51,52,53,54,55,56,57,58,59,60,61,62,63,64,65,66,67,8,68,31] ⟨[0,1,5,7,8,29,30,31],⟨[(.ptr 0 0),.hole,(.ptr 1 0),(.aptr 2),(.view 3),.hole,.hole,.hole],[.cells true [.hole,.hole],.cells true [.hole,.hole],.seq false,.seq false],[2,0,2,2,1,1,0,2,2,0],[.int .i64,kJ,.int .i64,.int .i64,kM,.ar (.cons (.ns kI) kI) 48,kJ,.int .i64,.sl (.one .bool),.sl (.cons kJ kI)]⟩⟩ [((.exit 2),⟨[7,8],⟨[(.aptr 0),(.view 1)],[.seq false,.seq false],[2,0],[.sl (.one .bool),.sl (.cons kJ kI)]⟩⟩),(.ret,⟨[6],⟨[.hole],[],[2],[.bool]⟩⟩)] (lp xa ze)
theorem MX:UK zaC (xY (zo Tryz.f221) [1,1,1,0,0,0,1,0,1,1,1,0]) Tq:=vQ .run zt zfw ob0
def U7:Un:=lpU 2 [14,15,16,17,18,19,20,21,22,23,24,25,26,27,8,28,29,30,31,32,33,34,10,35,36,37,38,39,11,40,41,42,6,43,44,45,46,47,48,49,50,51,52,53,54,55,56,57,58,59,60,61,62,63,64,65,66,67,8,68,31] ⟨[0,1,5,7,8],⟨[(.ptr 0 0),.hole,(.ptr 1 0),(.aptr 2),(.view 3)],[.cells true [.hole,.hole],.cells false [.hole,.hole],.seq false,.seq false],[2,1,1,0,2,2,0],[.int .i64,kM,.ar (.cons (.ns kI) kI) 48,kJ,.int .i64,.sl (.one .bool),.sl (.cons kJ kI)]⟩⟩ [((.exit 0),⟨[],⟨[],[],[],[]⟩⟩),(.ret,⟨[6],⟨[.hole],[],[2],[.bool]⟩⟩)] (lp wn ze)
theorem Mo:UK zaC (xY (zo Tryz.f221) [1,1,1,0,0]) U7:=vQ (.seq .run (.block (.seq .run (.seq .run (.seq .run (.block (.unit Tq))))))) zt zfw (ob1 MX ob0)
theorem zdN:SK 221 zaQ:=yh (.seq .run (.seq .run (.seq .run (.seq (.block (.unit U7)) .run)))) [.tmp 6] zd zt Pm Tryz.func221 (ob1 Mo ob0)
def zcP:ShC:=⟨⟨[(.ptr 0 0),(.agg [.hole,.hole]),(.agg [.hole,.hole])],[.cells false [.hole,.hole]],[1,1,1,1,1,1],[kJ,.int .i64,kJ,.int .i64,kM,.ar (.cons (.ns kI) kI) 48]⟩,⟨[.hole,(.ptr 0 0)],[.cells false [.hole,.hole]],[2,1,0],[.bool,kM,.ar (.cons (.ns kI) kI) 48]⟩,1,[0],[(0,0)],true,false,fun (x:(jI×Int×jI×Int×jS×(List ((Option jI)×Int))))=>qF x.1 x.2.1 x.2.2.1 x.2.2.2.1 x.2.2.2.2.1 x.2.2.2.2.2⟩
theorem zfa:SK 191 zcP:=yh .run [.tmp 6] zd zt (gd1 Pz (gd1 zdN zb)) Tryz.func191 ob0
def P4:ShC:=⟨⟨[(.ptr 0 0),(.agg [.hole,.hole]),(.agg [.hole,.hole])],[.cells false [.hole,.hole]],[1,1,1,1,1,1],[kJ,.int .i64,kJ,.int .i64,kM,.ar (.cons (.ns kI) kI) 48]⟩,⟨[.hole,(.ptr 0 0)],[.cells false [.hole,.hole]],[2,0,0],[.bool,kM,.ar (.cons (.ns kI) kI) 48]⟩,1,[0],[(0,0)],true,false,fun (x:(jI×Int×jI×Int×jS×(List ((Option jI)×Int))))=>wY x.1 x.2.1 x.2.2.1 x.2.2.2.1 x.2.2.2.2.1 x.2.2.2.2.2⟩
theorem OG:GD P4 [(189,.gen (qg [P0])),(190,.gen (qg [Sd])),(191,.gen (qg [zcP])),(1000039,.gen (qg []))]:=(gd1 zem (gd1 zeW (gd1 zfa (gd0 1000039 zb))))
def zcf:=te tb gl OG P4 Tryz.f149
theorem zgw:VK zcf:=zq zd OG
def TS:Un:=scU zcf [10,11,12,13,7,14,15,16,6,17,18,19,20,21,22,23,24,25,26,27,28,29,30,31,32,33,34,8,9,35,36,37,38,39,7,41,42,43,44,45,40,46,47,48,49,6,51,52,53,54,55,50,56,57,58,59,6,61,62,63,64,65,66,67,68,69,60,6,70,71,72,73,74,75,76,77,78,79,80,81,82,83,84,7] [(.goto 0,⟨[0,7],⟨[(.ptr 0 0),(.view 1)],[.cells false [.hole,.hole],.seq false],[0,0,0],[kM,.ar (.cons (.ns kI) kI) 48,.sl (.cons kJ (.cons kZ (.cons kJ kI)))]⟩⟩)] [(.ret,⟨[0,6],⟨[(.ptr 0 0),.hole],[.cells false [.hole,.hole]],[2,0,0],[.bool,kM,.ar (.cons (.ns kI) kI) 48]⟩⟩)] (Ca (xY (zo Tryz.f149) [1])) .run (lp zy ze)
theorem Ns:UK zcf (xY (zo Tryz.f149) [1]) TS:=zfs [] zt zgw ob0 zcC
theorem zcy:SK 149 P4:=yh (.seq .run (.unit TS)) [.tmp 6] zd zt OG Tryz.func149 (ob1 Ns ob0)
def zcU:ShC:=⟨⟨[(.agg [.hole,.hole]),.hole],[],[1,1,1],[.ns kI,.int .i64,.int .i64]⟩,⟨[.hole],[],[2],[.int .i64]⟩,1,[],[],false,false,fun (x:((Option jI)×Int×Int))=>xO x.1 x.2.1 x.2.2⟩
theorem zeF:SK 192 zcU:=yh .run [.tmp 4] zd zt (gd1 Iq zb) Tryz.func192 ob0
def Dz (k:Nat):ShC:=⟨⟨[(.ptr 0 0),(.agg [.hole,.hole])],[.cells true [.hole,.hole]],[1,1,1,1],[.ns kI,.int .i64,kM,.ar (.cons (.ns kI) kI) 48]⟩,⟨[.hole],[],[2],[.ns kI]⟩,1,[],[],false,false,(xb k)⟩
def zd7:ShC:=⟨⟨[(.ptr 0 0),(.agg [.hole,.hole])],[.cells true [.hole,.hole]],[1,1,1,1],[.ns kI,.int .i64,kM,.ar (.cons (.ns kI) kI) 48]⟩,⟨[.hole],[],[2],[.ns kI]⟩,1,[],[],false,false,fun (x:((Option jI)×Int×jS×(List ((Option jI)×Int))))=>jr x.1 x.2.1 x.2.2.1 x.2.2.2⟩
def JS (k:Nat):Prop:=SK 150 (Dz k)
def zc3 (k:Nat):List (Nat×Con):=[(150,.gen (qg [Dz k])),(192,.gen (qg [zcU]))]
theorem S7 (k:Nat) (h:JS k):GD (Dz (k+1)) (zc3 k):=(gd1 h (gd1 zeF zb))
def zeK (k:Nat):Env:=WH tb gl (zc3 k) (Dz (k+1)) Tryz.f150.ntmps
theorem zga (k:Nat) (h:JS k):VK (zeK k):=zq zd (S7 k h)
def SX (k:Nat):Un:=lpU 2 [13,14,15,7,16,17,8,18,19,20,21,22,23,24,25,26,27,28,29,30,31,32,33,34,35,36,37,38,39,40,41,8,42,43,44,45,46,47,48,49,50,51,4,52,53,54,5,55,12] ⟨[0,3,5,10,11,12],⟨[(.ptr 0 0),(.ptr 1 0),(.view 2),.hole,.hole,.hole],[.cells true [.hole,.hole],.cells true [.hole,.hole],.seq false],[1,2,2,1,1,1,2,2],[.ns kI,.int .i64,.int .i64,kM,.ar (.cons (.ns kI) kI) 48,.ns kI,.int .i64,kJ]⟩⟩ [((.exit 0),⟨[5],⟨[(.view 0)],[.seq false],[2],[kJ]⟩⟩),(.ret,⟨[4],⟨[.nilv],[],[],[]⟩⟩)] (lp (yS (xb k)) ze)
theorem Lu (k:Nat) (h:JS k):UK (zeK k) (xY (zo Tryz.f150) [1,1,0,1,0]) (SX k):=vQ .run zt (zga k h) ob0
theorem zbS (k:Nat) (h:JS k):SK 150 (Dz (k+1)):=yh (.seq .run (.seq .run (.seq (.seq .run (.block (.unit (SX k)))) .run))) [.tmp 4] zd zt (S7 k h) Tryz.func150 (ob1 (Lu k h) ob0)
theorem BH:∀ k,JS k
 | 0=>zaV (by kernel_rfl) fun _=>rfl
 | k+1=>have h:=BH k; zbS k h
theorem zcY:SK 150 zd7:=(BH ze)
def zbu:ShC:=⟨⟨[.hole,.hole,.hole],[],[1,1,1],[kM,kJ,kJ]⟩,⟨[(.view 0),.hole,.hole],[.seq false],[2,2,2],[.bool,.int .i64,.sl (.cons kZ kR)]⟩,3,[],[],false,true,fun (x:(jS×jI×jI))=>uO x.1 x.2.1 x.2.2⟩
theorem NY:GD zbu [(92,.gen (qg [zak])),(108,.gen (qg [DG])),(149,.gen (qg [P4])),(150,.gen (qg [zd7]))]:=(gdG TJ (gd1 Vy (gd1 zcy (gd1 zcY zb))))
def zdM:=te tb gl NY zbu Tryz.f98
theorem zfY:VK zdM:=zq zd NY
def TE:Un:=lpU 2 [51,52,15,53,54,55,56,57,58,59,60,61,62,63,64,65,66,67,68,16,69,70,6,7,8,71,72,73,74,75,76,77,14,78,50] ⟨[13,14,50],⟨[(.ptr 0 0),(.view 1),.hole],[.cells true [.hole,.hole],.seq false],[2,0,0,2],[.int .i64,kM,.ar (.cons (.ns kI) kI) 48,.sl (.cons kZ kR)]⟩⟩ [((.exit 0),⟨[14],⟨[(.view 0)],[.seq false],[2],[.sl (.cons kZ kR)]⟩⟩),(.ret,⟨[6,7,8],⟨[.nilv,.hole,.hole],[],[2,2],[.bool,.int .i64]⟩⟩)] (lp vh ze)
theorem Pk:UK zdM (xY (zo Tryz.f98) [1,1,1,1,1,1,1,0,1,0]) TE:=vQ .run zt zfY ob0
theorem EQ:SK 98 zbu:=yh (.seq .run (.seq .run (.seq .run (.seq .run (.seq .run (.seq .run (.seq .run (.seq (.seq .run (.block (.unit TE))) .run)))))))) [.tmp 6,.tmp 7,.tmp 8] zd zt NY Tryz.func98 (ob1 Pk ob0)
def zcX:ShC:=⟨⟨[.nilv,.hole],[],[1],[.int .i64]⟩,⟨[(.view 0)],[.seq false],[2],[kK]⟩,1,[],[],false,false,fun (x:Int)=>YD x⟩
theorem zcJ:SK 198 zcX:=yh .run [.tmp 4] zd zt (gd0 1000025 zb) Tryz.func198 ob0
def R1:ShC:=⟨⟨[.hole],[],[1],[.sl (.one kK)]⟩,⟨[(.view 0)],[.seq false],[0],[kK]⟩,1,[],[],true,false,fun (x:(List jR))=>ko x⟩
theorem LS:GD R1 [(198,.gen (qg [zcX]))]:=(gd1 zcJ zb)
def zaZ:=te tb gl LS R1 Tryz.f154
theorem zdW:VK zaZ:=zq zd LS
def Um:Un:=lpU 2 [28,29,30,8,31,32,33,6,34,27] ⟨[6,25,26,27],⟨[(.view 0),.hole,.hole,.hole],[.seq false],[1,2,2,0],[.sl (.one kK),.int .i64,.int .i64,kK]⟩⟩ [((.exit 2),⟨[6],⟨[(.view 0)],[.seq false],[0],[kK]⟩⟩)] (lp wE ze)
theorem Nc:UK zaZ (xY (zo Tryz.f154) [1,1,1,1,0,1,0]) Um:=vQ .run zt zdW ob0
def Uq:Un:=lpU 2 [12,13,14,5,15,16,17,18,3,19,20,21,22,11] ⟨[0,3,9,10,11],⟨[.hole,.hole,.hole,.hole,.hole],[],[1,2,1,2,2],[.sl (.one kK),.int .i64,.sl (.one kK),.int .i64,.int .i64]⟩⟩ [((.exit 0),⟨[3],⟨[.hole],[],[2],[.int .i64]⟩⟩)] (lp wV ze)
theorem Np:UK zaZ (xY (zo Tryz.f154) [1,1,0,1,0]) Uq:=vQ .run zt zdW ob0
theorem zd3:SK 154 R1:=yh (.seq .run (.seq .run (.seq (.seq .run (.block (.unit Uq))) (.seq .run (.seq (.seq .run (.block (.unit Um))) .run))))) [.tmp 2] zd zt LS Tryz.func154 (ob1 Np (ob1 Nc ob0))
def zaO:ShC:=⟨⟨[(.agg [.hole,.hole,.hole]),.hole,(.agg [.hole,.hole,.hole]),.hole],[],[1,1,1,1,1,1,1,1],[kL,kK,kL,.int .i64,kL,kK,kL,.int .i64]⟩,⟨[(.agg [(.view 0),.hole,(.view 1)])],[.seq false,.seq false],[0,0,0],[kK,kL,kL]⟩,1,[],[],true,false,fun (x:(jQ×jR×jQ×Int×jQ×jR×jQ×Int))=>vP x.1 x.2.1 x.2.2.1 x.2.2.2.1 x.2.2.2.2.1 x.2.2.2.2.2.1 x.2.2.2.2.2.2.1 x.2.2.2.2.2.2.2⟩
theorem H7:GD zaO [(43,.gen (qg [M3])),(154,.gen (qg [R1]))]:=(gd1 Ul (gd1 zd3 zb))
def zaH:=te tb gl H7 zaO Tryz.f101
theorem zdS:VK zaH:=zq zd H7
def Tn:Un:=lpU 2 [49,50,51,52,13,12,53,54,55,56,57,58,59,60,61,62,48] ⟨[3,8,9,46,47,48],⟨[.hole,(.ptr 0 0),(.ptr 1 0),.hole,.hole,.hole],[.cells true [.nilv,.nilv,.nilv],.cells false [(.view 2),.hole,(.view 3)],.seq false,.seq false],[2,1,2,2,0,0,0],[.int .i64,kL,.int .i64,.int .i64,kK,kL,kL]⟩⟩ [((.exit 2),⟨[9],⟨[(.ptr 0 0)],[.cells false [(.view 1),.hole,(.view 2)],.seq false,.seq false],[0,0,0],[kK,kL,kL]⟩⟩)] (lp vF ze)
theorem LL:UK zaH (xY (zo Tryz.f101) [1,1,1,0,1,0]) Tn:=vQ .run zt zdS ob0
def UN:Un:=lpU 2 [31,32,33,34,11,10,35,36,37,38,39,40,41,42,43,44,30] ⟨[1,3,6,8,9,28,29,30],⟨[.hole,.hole,(.ptr 0 0),(.ptr 1 0),(.ptr 2 0),.hole,.hole,.hole],[.cells true [.hole,.hole,.hole],.cells true [.nilv,.nilv,.nilv],.cells false [(.view 3),.hole,(.view 4)],.seq false,.seq false],[2,2,1,2,2,1,1,1,0,0,0],[.int .i64,.int .i64,kL,.int .i64,.int .i64,kL,kK,kL,kK,kL,kL]⟩⟩ [((.exit 0),⟨[9],⟨[(.ptr 0 0)],[.cells false [(.view 1),.hole,(.view 2)],.seq false,.seq false],[0,0,0],[kK,kL,kL]⟩⟩)] (lp vG ze)
theorem Pl:UK zaH (xY (zo Tryz.f101) [1,1,0,1,0]) UN:=vQ .run zt zdS ob0
theorem DA:SK 101 zaO:=yh (.seq .run (.seq .run (.seq (.seq .run (.block (.unit UN))) (.seq (.seq .run (.block (.unit Tn))) .run)))) [.cell 8 28] zd zt H7 Tryz.func101 (ob1 Pl (ob1 LL ob0))
def R0:ShC:=⟨⟨[.hole,.hole],[],[1,1],[.sl (.cons kZ kR),.int .i64]⟩,⟨[.hole],[],[0],[.ns kI]⟩,1,[],[],true,false,fun (x:((List (Int×jI))×Int))=>QK x.1 x.2⟩
theorem Lg:GD R0 []:=zb
def zdF:=te tb gl Lg R0 Tryz.f197
theorem zgo:VK zdF:=zq zd Lg
def TK:Un:=lpU 2 [10,11,12,6,13,14,15,16,17,18,4,19,9] ⟨[1,7,8,9],⟨[.hole,.hole,.hole,.hole],[],[2,1,2,2],[.int .i64,.sl (.cons kZ kR),.int .i64,.int .i64]⟩⟩ [((.exit 0),⟨[],⟨[],[],[],[]⟩⟩),(.ret,⟨[4],⟨[.hole],[],[1],[kJ]⟩⟩)] (lp tT ze)
theorem MZ:UK zdF (xY (zo Tryz.f197) [1,0,1,0]) TK:=vQ .run zt zgo ob0
theorem zeO:SK 197 R0:=yh (.seq .run (.seq (.seq .run (.block (.unit TK))) .run)) [.tmp 4] zd zt Lg Tryz.func197 (ob1 MZ ob0)
def RZ:ShC:=⟨⟨[.hole,.hole],[],[1,1],[.sl (.cons kZ kR),kJ]⟩,⟨[(.view 0)],[.seq false],[2],[kJ]⟩,1,[],[],false,false,fun (x:((List (Int×jI))×jI))=>Yr x.1 x.2⟩
theorem MR:GD RZ [(84,.gen (qg [zbw])),(197,.gen (qg [R0]))]:=(gd1 Iq (gd1 zeO zb))
def ze6:=te tb gl MR RZ Tryz.f153
theorem zgC:VK ze6:=zq zd MR
def Ti:Un:=lpU 2 [12,13,14,7,15,16,17,18,8,19,20,21,22,23,24,25,26,27,28,5,29,30,31,5,32,11] ⟨[0,5,9,10,11],⟨[.hole,(.view 0),.hole,.hole,.hole],[.seq false],[1,1,2,2,2],[.sl (.cons kZ kR),kJ,.int .i64,.int .i64,kJ]⟩⟩ [((.exit 0),⟨[5],⟨[(.view 0)],[.seq false],[2],[kJ]⟩⟩)] (lp kO ze)
theorem NT:UK ze6 (xY (zo Tryz.f153) [1,1,0,1,0]) Ti:=vQ .run zt zgC ob0
theorem O5:SK 153 RZ:=yh (.seq .run (.seq .run (.seq (.seq .run (.block (.unit Ti))) .run))) [.tmp 4] zd zt MR Tryz.func153 (ob1 NT ob0)
def zeH:ShC:=⟨⟨[.hole,(.ptr 0 0)],[.cells true [.hole]],[1,1],[kJ,.sl (.cons kZ kR)]⟩,⟨[(.view 0)],[.seq false],[2],[kJ]⟩,1,[],[],false,false,fun (x:(jI×(List (Int×jI))))=>xW x.1 x.2⟩
theorem ze8:SK 152 zeH:=yh .run [.tmp 3] zd zt (gd1 O5 zb) Tryz.func152 ob0
def zbq:ShC:=⟨⟨[(.agg [.hole,.hole,.hole]),(.clo 152 [(.ptr 0 0)])],[.cells true [.hole]],[1,1,1,1],[kL,kK,kL,.sl (.cons kZ kR)]⟩,⟨[(.agg [.hole,.hole,(.view 0)])],[.seq false],[2,2,2],[kL,kK,kL]⟩,1,[],[],false,false,fun (x:(jQ×jR×jQ×(List (Int×jI))))=>XI x.1 x.2.1 x.2.2.1 x.2.2.2⟩
theorem Mp:GD zbq [(152,.gen (qg [zeH]))]:=(gd1 ze8 zb)
def RU:=te tb gl Mp zbq Tryz.f107
theorem zcg:VK RU:=zq zd Mp
def SL:Un:=lpU 2 [52,53,54,11,55,56,57,58,59,60,61,62,63,64,65,66,67,51] ⟨[1,4,5,49,50,51],⟨[(.clo 152 [(.ptr 0 0)]),(.ptr 1 0),(.ptr 2 0),.hole,.hole,.hole],[.cells true [.hole],.cells true [.nilv,.nilv,.nilv],.cells false [.hole,.hole,(.view 3)],.seq false],[1,2,2,1,2,2,2],[kL,.int .i64,.int .i64,.sl (.cons kZ kR),kL,kK,kL]⟩⟩ [((.exit 4),⟨[5],⟨[(.ptr 0 0)],[.cells false [.hole,.hole,(.view 1)],.seq false],[2,2,2],[kL,kK,kL]⟩⟩)] (lp uz ze)
theorem OH:UK RU (xY (zo Tryz.f107) [1,1,1,1,0,1,0]) SL:=vQ .run zt zcg ob0
def SR:Un:=lpU 2 [36,37,38,9,39,40,41,42,43,44,45,46,47,35] ⟨[1,2,4,5,33,34,35],⟨[(.clo 152 [(.ptr 0 0)]),(.ptr 1 0),(.ptr 2 0),(.ptr 3 0),.hole,.hole,.hole],[.cells true [.hole],.cells true [.hole,.hole,.hole],.cells true [.nilv,.nilv,.nilv],.cells false [.hole,(.view 4),.nilv],.seq false],[1,2,2,1,1,1,1,2,2],[kK,.int .i64,.int .i64,.sl (.cons kZ kR),kL,kK,kL,kL,kK]⟩⟩ [((.exit 2),⟨[5],⟨[(.ptr 0 0)],[.cells false [.hole,(.view 1),.nilv],.seq false],[2,2],[kL,kK]⟩⟩)] (lp uE ze)
theorem OP:UK RU (xY (zo Tryz.f107) [1,1,1,0,1,0]) SR:=vQ .run zt zcg ob0
def SY:Un:=lpU 2 [16,17,18,7,19,20,21,22,23,24,25,26,27,28,29,30,31,15] ⟨[1,2,4,5,13,14,15],⟨[(.clo 152 [(.ptr 0 0)]),(.ptr 1 0),(.ptr 2 0),(.ptr 3 0),.hole,.hole,.hole],[.cells true [.hole],.cells true [.hole,.hole,.hole],.cells true [.nilv,.nilv,.nilv],.cells false [(.view 4),.nilv,.nilv],.seq false],[1,2,2,1,1,1,1,2],[kL,.int .i64,.int .i64,.sl (.cons kZ kR),kL,kK,kL,kL]⟩⟩ [((.exit 0),⟨[5],⟨[(.ptr 0 0)],[.cells false [(.view 1),.nilv,.nilv],.seq false],[2],[kL]⟩⟩)] (lp uk ze)
theorem OY:UK RU (xY (zo Tryz.f107) [1,1,0,1,0]) SY:=vQ .run zt zcg ob0
theorem zdG:SK 107 zbq:=yh (.seq .run (.seq .run (.seq (.seq .run (.block (.unit SY))) (.seq (.seq .run (.block (.unit SR))) (.seq (.seq .run (.block (.unit SL))) .run))))) [.cell 4 28] zd zt Mp Tryz.func107 (ob1 OY (ob1 OP (ob1 OH ob0)))
def zfL:ShC:=⟨⟨[.hole,(.agg [.hole,.hole,.hole])],[],[1,1,1,1],[.sl (.cons kZ kR),kL,kK,kL]⟩,⟨[(.agg [.hole,.hole,(.view 0)])],[.seq false],[2,2,2],[kL,kK,kL]⟩,1,[],[],false,false,fun (x:((List (Int×jI))×jQ×jR×jQ))=>rU x.1 x.2.1 x.2.2.1 x.2.2.2⟩
theorem ET:SK 100 zfL:=yh .run [.cell 4 28] zd zt (gd1 zdG zb) Tryz.func100 ob0
def Mq:ShC:=⟨⟨[.hole,.hole],[],[1,1],[kJ,kJ]⟩,⟨[.hole],[],[2],[.bool]⟩,1,[],[],false,false,fun (x:(jI×jI))=>yb x.1 x.2⟩
theorem Ng:GD Mq []:=zb
def zdy:=te tb gl Ng Mq Tryz.f78
theorem zf5:VK zdy:=zq zd Ng
def Uf:Un:=lpU 2 [14,15,5,16,17,18,19,20,21,22,23,24,4,25,13] ⟨[0,1,12,13],⟨[.hole,.hole,.hole,.hole],[],[1,1,2,2],[kJ,kJ,.int .i64,.int .i64]⟩⟩ [((.exit 0),⟨[],⟨[],[],[],[]⟩⟩),(.ret,⟨[4],⟨[.hole],[],[2],[.bool]⟩⟩)] (lp vA ze)
theorem Ni:UK zdy (xY (zo Tryz.f78) [1,1,0,1,0]) Uf:=vQ .run zt zf5 ob0
theorem JA:SK 78 Mq:=yh (.seq .run (.seq .run (.seq (.seq .run (.block (.unit Uf))) .run))) [.tmp 4] zd zt Ng Tryz.func78 (ob1 Ni ob0)
def zc7:ShC:=⟨⟨[(.agg [.hole,.hole]),(.agg [.hole,.hole])],[],[1,1,1,1],[.bool,kJ,.bool,kJ]⟩,⟨[.hole],[],[2],[.bool]⟩,1,[],[],false,false,fun (x:(Bool×jI×Bool×jI))=>Q3 x.1 x.2.1 x.2.2.1 x.2.2.2⟩
theorem SA:SK 76 zc7:=yh .run [.tmp 4] zd zt (gd1 JA zb) Tryz.func76 ob0
def zd5:ShC:=⟨⟨[(.agg [.hole,.hole]),(.ptr 0 0)],[.cells true [.hole,.hole]],[1,1,1,1],[.bool,kJ,.bool,kJ]⟩,⟨[.hole],[],[2],[.bool]⟩,1,[],[],false,false,fun (x:(Bool×jI×Bool×jI))=>rk x.1 x.2.1 x.2.2.1 x.2.2.2⟩
theorem zdm:SK 222 zd5:=yh .run [.tmp 3] zd zt (gd1 SA zb) Tryz.func222 ob0
def zaz:ShC:=⟨⟨[.hole,(.clo 222 [(.ptr 0 0)])],[.cells true [.hole,.hole]],[1,1,1],[kL,.bool,kJ]⟩,⟨[.hole],[],[2],[.int .i64]⟩,1,[],[],false,false,fun (x:(jQ×Bool×jI))=>kg x.1 x.2.1 x.2.2⟩
theorem Om:GD zaz [(222,.gen (qg [zd5]))]:=(gd1 zdm zb)
def zee:=te tb gl Om zaz Tryz.f146
theorem zgj:VK zee:=zq zd Om
def UD:Un:=lpU 2 [9,10,5,11,12,13,14,15,16,17,4,18,8] ⟨[0,1,7,8],⟨[.hole,(.clo 222 [(.ptr 0 0)]),.hole,.hole],[.cells true [.hole,.hole]],[1,2,2,2,1],[kL,.int .i64,.int .i64,.bool,kJ]⟩⟩ [((.exit 0),⟨[],⟨[],[],[],[]⟩⟩),(.ret,⟨[4],⟨[.hole],[],[2],[.int .i64]⟩⟩)] (lp xd ze)
theorem OT:UK zee (xY (zo Tryz.f146) [1,0,1,0]) UD:=vQ .run zt zgj ob0
theorem zek:SK 146 zaz:=yh (.seq .run (.seq (.seq .run (.block (.unit UD))) .run)) [.tmp 4] zd zt Om Tryz.func146 (ob1 OT ob0)
def zdQ:ShC:=⟨⟨[.hole,(.clo 222 [(.ptr 0 0)])],[.cells true [.hole,.hole]],[1,1,1],[kL,.bool,kJ]⟩,⟨[.hole],[],[2],[.bool]⟩,1,[],[],false,false,fun (x:(jQ×Bool×jI))=>wv x.1 x.2.1 x.2.2⟩
theorem zey:SK 93 zdQ:=yh .run [.tmp 4] zd zt (gd1 zek zb) Tryz.func93 ob0
def P5:ShC:=⟨⟨[.hole],[],[1],[kL]⟩,⟨[(.view 0)],[.seq false],[0],[kL]⟩,1,[],[],true,false,fun (x:jQ)=>jf x⟩
theorem Mn:GD P5 [(93,.gen (qg [zdQ]))]:=(gd1 zey zb)
def zer:=te tb gl Mn P5 Tryz.f193
theorem zgl:VK zer:=zq zd Mn
def U6:Un:=lpU 2 [9,10,11,5,12,13,14,15,16,17,18,19,3,20,8] ⟨[3,6,7,8],⟨[(.view 0),.hole,.hole,.hole],[.seq false],[1,2,2,0],[kL,.int .i64,.int .i64,kL]⟩⟩ [((.exit 0),⟨[3],⟨[(.view 0)],[.seq false],[0],[kL]⟩⟩)] (lp ul ze)
theorem ML:UK zer (xY (zo Tryz.f193) [1,1,0,1,0]) U6:=vQ .run zt zgl ob0
theorem ze1:SK 193 P5:=yh (.seq .run (.seq .run (.seq (.seq .run (.block (.unit U6))) .run))) [.tmp 2] zd zt Mn Tryz.func193 (ob1 ML ob0)
def zcu:ShC:=⟨⟨[.hole,(.ptr 0 0)],[.cells true [.hole]],[1,1],[kJ,kJ]⟩,⟨[.hole],[],[2],[.bool]⟩,1,[],[],false,false,fun (x:(jI×jI))=>rm x.1 x.2⟩
theorem zeI:SK 195 zcu:=yh .run [.tmp 3] zd zt (gd1 JA zb) Tryz.func195 ob0
def zbv:ShC:=⟨⟨[.hole,(.clo 195 [(.ptr 0 0)])],[.cells true [.hole]],[1,1],[kK,kJ]⟩,⟨[.hole],[],[2],[.int .i64]⟩,1,[],[],false,false,fun (x:(jR×jI))=>sy x.1 x.2⟩
theorem Ld:GD zbv [(195,.gen (qg [zcu]))]:=(gd1 zeI zb)
def zdu:=te tb gl Ld zbv Tryz.f223
theorem zgm:VK zdu:=zq zd Ld
def SN:Un:=lpU 2 [9,10,5,11,12,13,14,15,16,17,4,18,8] ⟨[0,1,7,8],⟨[.hole,(.clo 195 [(.ptr 0 0)]),.hole,.hole],[.cells true [.hole]],[1,2,2,1],[kK,.int .i64,.int .i64,kJ]⟩⟩ [((.exit 0),⟨[],⟨[],[],[],[]⟩⟩),(.ret,⟨[4],⟨[.hole],[],[2],[.int .i64]⟩⟩)] (lp ql ze)
theorem M4:UK zdu (xY (zo Tryz.f223) [1,0,1,0]) SN:=vQ .run zt zgm ob0
theorem zdR:SK 223 zbv:=yh (.seq .run (.seq (.seq .run (.block (.unit SN))) .run)) [.tmp 4] zd zt Ld Tryz.func223 (ob1 M4 ob0)
def zei:ShC:=⟨⟨[.hole,(.clo 195 [(.ptr 0 0)])],[.cells true [.hole]],[1,1],[kK,kJ]⟩,⟨[.hole],[],[2],[.bool]⟩,1,[],[],false,false,fun (x:(jR×jI))=>xn x.1 x.2⟩
theorem zcR:SK 194 zei:=yh .run [.tmp 4] zd zt (gd1 zdR zb) Tryz.func194 ob0
def R8:ShC:=⟨⟨[.hole,(.aptr 0),(.ptr 1 0)],[.seq false,.cells false [.hole]],[1,1,1],[kJ,kJ,.int .i64]⟩,⟨[(.view 0),(.aptr 1),(.ptr 2 0)],[.seq false,.seq false,.cells false [.hole]],[2,0,2],[kJ,kJ,.int .i64]⟩,1,[1,2],[(0,1),(1,2)],true,false,fun (x:(jI×jI×Int))=>y5 x.1 x.2.1 x.2.2⟩
theorem Mh:GD R8 [(84,.gen (qg [zbw])),(108,.gen (qg [DG]))]:=(gd1 Iq (gd1 Vy zb))
def zdU:=te tb gl Mh R8 Tryz.f196
theorem zfZ:VK zdU:=zq zd Mh
def Uz:Un:=lpU 2 [13,14,15,16,6,7,17,18,19,20,21,22,23,24,25,26,27,28,29,30,31,32,33,34,35,36,37,38,12] ⟨[1,2,5,10,11,12],⟨[(.aptr 0),(.ptr 1 0),(.view 2),(.view 2),.hole,.hole],[.seq false,.cells false [.hole],.seq false],[2,2,0,2,2],[.int .i64,.int .i64,kJ,.int .i64,kJ]⟩⟩ [((.exit 0),⟨[1,2,5],⟨[(.aptr 0),(.ptr 1 0),(.view 2)],[.seq false,.cells false [.hole],.seq false],[0,2,2],[kJ,.int .i64,kJ]⟩⟩)] (lp qb ze)
theorem Ov:UK zdU (xY (zo Tryz.f196) [1,1,0,1,0]) Uz:=vQ .run zt zfZ ob0
theorem zdt:SK 196 R8:=yh (.seq .run (.seq .run (.seq (.seq .run (.block (.unit Uz))) .run))) [.tmp 4] zd zt Mh Tryz.func196 (ob1 Ov ob0)
def Ro:ShC:=⟨⟨[(.agg [.hole,.hole,.hole]),(.clo 196 [(.aptr 0),(.ptr 1 0)])],[.seq false,.cells false [.hole]],[1,1,1,1,1],[kL,kK,kL,kJ,.int .i64]⟩,⟨[(.agg [.hole,.hole,(.view 0)]),(.clo 196 [(.aptr 1),(.ptr 2 0)])],[.seq false,.seq false,.cells false [.hole]],[2,2,2,0,2],[kL,kK,kL,kJ,.int .i64]⟩,1,[1],[(0,1),(1,2)],true,false,fun (x:(jQ×jR×jQ×jI×Int))=>Yn x.1 x.2.1 x.2.2.1 x.2.2.2.1 x.2.2.2.2⟩
theorem Oc:GD Ro [(196,.gen (qg [R8]))]:=(gd1 zdt zb)
def Rt:=te tb gl Oc Ro Tryz.f107
theorem zbX:VK Rt:=zq zd Oc
def SB:Un:=lpU 2 [52,53,54,11,55,56,57,58,59,60,61,62,63,64,65,66,67,51] ⟨[1,4,5,49,50,51],⟨[(.clo 196 [(.aptr 0),(.ptr 1 0)]),(.ptr 2 0),(.ptr 3 0),.hole,.hole,.hole],[.seq false,.cells false [.hole],.cells true [.nilv,.nilv,.nilv],.cells false [.hole,.hole,(.view 4)],.seq false],[1,2,2,0,2,2,2,2],[kL,.int .i64,.int .i64,kJ,.int .i64,kL,kK,kL]⟩⟩ [((.exit 4),⟨[1,5],⟨[(.clo 196 [(.aptr 0),(.ptr 1 0)]),(.ptr 2 0)],[.seq false,.cells false [.hole],.cells false [.hole,.hole,(.view 3)],.seq false],[0,2,2,2,2],[kJ,.int .i64,kL,kK,kL]⟩⟩)] (lp wF ze)
theorem MC:UK Rt (xY (zo Tryz.f107) [1,1,1,1,0,1,0]) SB:=vQ (.seq .run (.seq .run (.seq (.block (.seq .run (.hide [[8,9],[8,9],[8,9],[8,9],[],[],[],[],[],[],[],[],[]]))) .run))) zt zbX ob0
def Sz:Un:=lpU 2 [36,37,38,9,39,40,41,42,43,44,45,46,47,35] ⟨[1,2,4,5,33,34,35],⟨[(.clo 196 [(.aptr 0),(.ptr 1 0)]),(.ptr 2 0),(.ptr 3 0),(.ptr 4 0),.hole,.hole,.hole],[.seq false,.cells false [.hole],.cells true [.hole,.hole,.hole],.cells true [.nilv,.nilv,.nilv],.cells false [.hole,(.view 5),.nilv],.seq false],[1,2,2,0,2,1,1,1,2,2],[kK,.int .i64,.int .i64,kJ,.int .i64,kL,kK,kL,kL,kK]⟩⟩ [((.exit 2),⟨[1,5],⟨[(.clo 196 [(.aptr 0),(.ptr 1 0)]),(.ptr 2 0)],[.seq false,.cells false [.hole],.cells false [.hole,(.view 3),.nilv],.seq false],[0,2,2,2],[kJ,.int .i64,kL,kK]⟩⟩)] (lp wN ze)
theorem NH:UK Rt (xY (zo Tryz.f107) [1,1,1,0,1,0]) Sz:=vQ (.seq .run (.seq .run (.seq (.block (.seq .run (.hide [[8,9],[8,9],[],[],[],[],[],[],[]]))) .run))) zt zbX ob0
def T6:Un:=lpU 2 [16,17,18,7,19,20,21,22,23,24,25,26,27,28,29,30,31,15] ⟨[1,2,4,5,13,14,15],⟨[(.clo 196 [(.aptr 0),(.ptr 1 0)]),(.ptr 2 0),(.ptr 3 0),(.ptr 4 0),.hole,.hole,.hole],[.seq false,.cells false [.hole],.cells true [.hole,.hole,.hole],.cells true [.nilv,.nilv,.nilv],.cells false [(.view 5),.nilv,.nilv],.seq false],[1,2,2,0,2,1,1,1,2],[kL,.int .i64,.int .i64,kJ,.int .i64,kL,kK,kL,kL]⟩⟩ [((.exit 0),⟨[1,5],⟨[(.clo 196 [(.aptr 0),(.ptr 1 0)]),(.ptr 2 0)],[.seq false,.cells false [.hole],.cells false [(.view 3),.nilv,.nilv],.seq false],[0,2,2],[kJ,.int .i64,kL]⟩⟩)] (lp wR ze)
theorem NS:UK Rt (xY (zo Tryz.f107) [1,1,0,1,0]) T6:=vQ (.seq .run (.seq .run (.seq (.block (.seq .run (.hide [[8,9],[8,9],[8,9],[8,9],[],[],[],[],[],[],[],[],[]]))) .run))) zt zbX ob0
theorem zfx:SK 107 Ro:=yh (.seq .run (.seq .run (.seq (.seq .run (.block (.unit T6))) (.seq (.seq .run (.block (.unit Sz))) (.seq (.seq .run (.block (.unit SB))) .run))))) [.cell 4 28] zd zt Oc Tryz.func107 (ob1 NS (ob1 NH (ob1 MC ob0)))
def zbe:ShC:=⟨⟨[(.agg [.hole,.hole,.hole])],[],[1,1,1],[kL,kK,kL]⟩,⟨[(.agg [.hole,.hole,(.view 0)])],[.seq false],[2,2,2],[kL,kK,kL]⟩,1,[],[],false,false,fun (x:(jQ×jR×jQ))=>Yf x.1 x.2.1 x.2.2⟩
theorem M6:GD zbe [(107,.gen (qg [Ro])),(193,.gen (qg [P5])),(194,.gen (qg [zei]))]:=(gd1 zfx (gd1 ze1 (gd1 zcR zb)))
def zc0:=te tb gl M6 zbe Tryz.f151
theorem zgF:VK zc0:=zq zd M6
def To:Un:=lpU 2 [19,20,21,5,22,23,24,25,26,27,28,29,30,31,32,33,18] ⟨[2,3,16,17,18],⟨[(.ptr 0 0),(.ptr 1 0),.hole,.hole,.hole],[.cells true [.nilv,.nilv,.nilv],.cells false [.hole,(.view 2),.hole],.seq false],[1,2,2,0,0,0],[kK,.int .i64,.int .i64,kL,kL,kK]⟩⟩ [((.exit 0),⟨[3],⟨[(.ptr 0 0)],[.cells false [.hole,(.view 1),.hole],.seq false],[0,0,0],[kL,kL,kK]⟩⟩)] (lp ut ze)
theorem Nw:UK zc0 (xY (zo Tryz.f151) [1,1,0,1,0]) To:=vQ .run zt zgF ob0
theorem zcL:SK 151 zbe:=yh (.seq .run (.seq .run (.seq (.seq .run (.block (.unit To))) .run))) [.cell 2 28] zd zt M6 Tryz.func151 (ob1 Nw ob0)
def zdl:ShC:=⟨⟨[.hole,(.agg [.hole,.hole,.hole])],[],[1,1,1,1],[kM,kL,kK,kL]⟩,⟨[(.agg [.hole,.hole,(.view 0)]),.hole],[.seq false],[2,2,2,2],[kL,kK,.int .i64,kL]⟩,2,[],[],false,true,fun (x:(jS×jQ×jR×jQ))=>xi x.1 x.2.1 x.2.2.1 x.2.2.2⟩
theorem Kr:SK 99 zdl:=yh .run [.cell 4 28,.tmp 5] zd zt (gdG jM (gd1 zcL zb)) Tryz.func99 ob0
def zen:ShC:=⟨⟨[.hole,(.agg [.hole,.hole,.hole]),.hole,(.agg [.hole,.hole,.hole]),.hole],[],[1,1,1,1,1,1,1,1,1],[kM,kL,kK,kL,.int .i64,kL,kK,kL,.int .i64]⟩,⟨[(.agg [.hole,.hole,(.view 0)]),.hole,.hole],[.seq false],[2,2,2,2,2],[kL,kK,.bool,.int .i64,kL]⟩,3,[],[],false,true,fun (x:(jS×jQ×jR×jQ×Int×jQ×jR×jQ×Int))=>xI x.1 x.2.1 x.2.2.1 x.2.2.2.1 x.2.2.2.2.1 x.2.2.2.2.2.1 x.2.2.2.2.2.2.1 x.2.2.2.2.2.2.2.1 x.2.2.2.2.2.2.2.2⟩
theorem Tz:SK 53 zen:=yh .run [.cell 10 28,.tmp 11,.tmp 12] zd zt (gdG zfu (gdG EQ (gdG Kr (gd1 ET (gd1 DA zb))))) Tryz.func53 ob0
def zf2:ShC:=⟨⟨[.hole,(.agg [.hole,.hole,.hole]),.hole,(.agg [.hole,.hole,.hole]),.hole],[],[1,1,1,1,1,1,1,1,1],[kM,kL,kK,kL,.int .i64,kL,kK,kL,.int .i64]⟩,⟨[(.agg [.hole,.hole,(.view 0)]),.hole,.hole],[.seq false],[2,2,2,2,2],[kL,kK,.bool,.int .i64,kL]⟩,3,[],[],false,true,fun (x:(jS×jQ×jR×jQ×Int×jQ×jR×jQ×Int))=>sP x.1 x.2.1 x.2.2.1 x.2.2.2.1 x.2.2.2.2.1 x.2.2.2.2.2.1 x.2.2.2.2.2.2.1 x.2.2.2.2.2.2.2.1 x.2.2.2.2.2.2.2.2⟩
theorem zdj:SK 109 zf2:=yh .run [.cell 10 28,.tmp 11,.tmp 12] zd zt (gdG jM (gdG Tz (gd1 zdX zb))) Tryz.func109 ob0
def zgx:ShC:=⟨⟨[(.agg [.hole,.hole,.hole]),.hole],[],[1,1,1,1],[kL,kK,kL,.int .i64]⟩,⟨[.hole],[],[2],[.bool]⟩,1,[],[],false,false,fun (x:(jQ×jR×jQ×Int))=>tM x.1 x.2.1 x.2.2.1 x.2.2.2⟩
theorem T9:SK 159 zgx:=yh .run [.tmp 4] zd zt zb Tryz.func159 ob0
def zc1:ShC:=⟨⟨[.hole,(.agg [.hole,.hole,.hole]),.hole,.hole],[],[1,1,1,1,1,1],[kM,kL,kK,kL,.int .i64,.int .i64]⟩,⟨[(.agg [.hole,.hole,(.view 0)]),.hole,.hole],[.seq false],[2,2,2,2,2],[kL,kK,.bool,.int .i64,kL]⟩,3,[],[],false,true,fun (x:(jS×jQ×jR×jQ×Int×Int))=>uF x.1 x.2.1 x.2.2.1 x.2.2.2.1 x.2.2.2.2.1 x.2.2.2.2.2⟩
theorem TU:SK 56 zc1:=yh .run [.cell 8 28,.tmp 9,.tmp 10] zd zt (gdG EQ (gdG Kr (gd1 ET (gd1 DA zb)))) Tryz.func56 ob0
def zgc:ShC:=⟨⟨[.hole,(.agg [.hole,.hole,.hole]),.hole,.hole],[],[1,1,1,1,1,1],[kM,kL,kK,kL,.int .i64,.int .i64]⟩,⟨[(.agg [.hole,.hole,(.view 0)]),.hole,.hole],[.seq false],[2,2,2,2,2],[kL,kK,.bool,.int .i64,kL]⟩,3,[],[],false,true,fun (x:(jS×jQ×jR×jQ×Int×Int))=>wd x.1 x.2.1 x.2.2.1 x.2.2.2.1 x.2.2.2.2.1 x.2.2.2.2.2⟩
theorem zeA:SK 110 zgc:=yh .run [.cell 8 28,.tmp 9,.tmp 10] zd zt (gdG jM (gdG TU (gd1 T9 zb))) Tryz.func110 ob0
def zfK:ShC:=⟨⟨[(.agg [.hole,.hole,.hole]),.hole,.hole],[],[1,1,1,1,1],[kL,kK,kL,.int .i64,.bool]⟩,⟨[.hole],[],[2],[.bool]⟩,1,[],[],false,false,fun (x:(jQ×jR×jQ×Int×Bool))=>sB x.1 x.2.1 x.2.2.1 x.2.2.2.1 x.2.2.2.2⟩
theorem TT:SK 160 zfK:=yh .run [.tmp 6] zd zt zb Tryz.func160 ob0
def zgT:ShC:=⟨⟨[.hole,(.agg [.hole,.hole,.hole]),(.agg [.hole,.hole,.hole])],[],[1,1,1,1,1,1,1],[kM,kL,kK,kL,kL,kK,kL]⟩,⟨[(.agg [(.view 0),(.view 1),(.view 2)]),.hole],[.seq false,.seq false,.seq false],[2,2,2,2],[.bool,kL,kK,kL]⟩,2,[],[],false,true,fun (x:(jS×jQ×jR×jQ×jQ×jR×jQ))=>su x.1 x.2.1 x.2.2.1 x.2.2.2.1 x.2.2.2.2.1 x.2.2.2.2.2.1 x.2.2.2.2.2.2⟩
theorem zdh:SK 97 zgT:=yh .run [.cell 6 28,.tmp 7] zd zt (gdG Uc (gd1 Ub zb)) Tryz.func97 ob0
def zeM:ShC:=⟨⟨[.hole,.hole],[],[1,1],[kM,kJ]⟩,⟨[(.view 0)],[.seq false],[0],[kK]⟩,1,[],[],true,false,fun (x:(jS×jI))=>u7 x.1 x.2⟩
theorem Ox:SK 200 zeM:=yh .run [.tmp 4] zd zt (gd1 EX zb) Tryz.func200 ob0
def zfO:ShC:=⟨⟨[.hole,.hole],[],[1,1],[kM,kJ]⟩,⟨[.hole],[],[2],[.bool]⟩,1,[],[],false,true,fun (x:(jS×jI))=>v8 x.1 x.2⟩
theorem TY:SK 186 zfO:=yh .run [.tmp 4] zd zt (gdG Pj zb) Tryz.func186 ob0
def RO:ShC:=⟨⟨[.hole],[],[1],[kJ]⟩,⟨[.hole],[],[2],[.ar kI 24]⟩,1,[],[],false,false,fun (x:jI)=>jj x⟩
theorem PE:GD RO [(84,.gen (qg [zbw]))]:=(gd1 Iq zb)
def zdn:=te tb gl PE RO Tryz.f228
theorem zgh:VK zdn:=zq zd PE
def UG:Un:=lpU 2 [8,9,10,4,11,12,13,14,15,16,17,18,19,7] ⟨[2,5,6,7],⟨[(.aptr 0),.hole,.hole,.hole],[.seq false],[1,2,2,2],[kJ,.int .i64,.int .i64,kJ]⟩⟩ [((.exit 0),⟨[2],⟨[(.aptr 0)],[.seq false],[2],[kJ]⟩⟩)] (lp uy ze)
theorem Pd:UK zdn (xY (zo Tryz.f228) [1,0,1,0]) UG:=vQ .run zt zgh ob0
theorem zds:SK 228 RO:=yh (.seq .run (.seq (.seq .run (.block (.unit UG))) .run)) [.cell 2 218] zd zt PE Tryz.func228 (ob1 Pd ob0)
def Ry:ShC:=⟨⟨[.hole,.hole],[],[1,1],[kJ,kJ]⟩,⟨[.hole],[],[2],[.bool]⟩,1,[],[],false,false,fun (x:(jI×jI))=>jC x.1 x.2⟩
theorem MS:GD Ry [(228,.gen (qg [RO]))]:=(gd1 zds zb)
def zcW:=te tb gl MS Ry Tryz.f218
theorem zgO:VK zcW:=zq zd MS
def SC:Un:=lpU 2 [13,14,7,15,16,17,18,19,20,21,4,22,12] ⟨[5,6,12],⟨[(.aptr 0),(.aptr 1),.hole],[.seq false,.seq false],[2,2,2],[.int .i64,kJ,kJ]⟩⟩ [((.exit 0),⟨[],⟨[],[],[],[]⟩⟩),(.ret,⟨[4],⟨[.hole],[],[2],[.bool]⟩⟩)] (lp wl ze)
theorem L5:UK zcW (xY (zo Tryz.f218) [1,1,0,1,0]) SC:=vQ .run zt zgO ob0
theorem ze7:SK 218 Ry:=yh (.seq .run (.seq .run (.seq (.seq .run (.block (.unit SC))) .run))) [.tmp 4] zd zt MS Tryz.func218 (ob1 L5 ob0)
def P1:ShC:=⟨⟨[.hole,.hole],[],[1,1],[kM,kJ]⟩,⟨[.hole],[],[2],[.int .i64]⟩,1,[],[],false,false,fun (x:(jS×jI))=>Z0 x.1 x.2⟩
theorem Mw:GD P1 []:=zb
def zdr:=te tb gl Mw P1 Tryz.f219
theorem zf0:VK zdr:=zq zd Mw
def T8:Un:=lpU 2 [11,12,13,7,14,15,16,17,5,18,19,20,21,22,23,24,5,25,10] ⟨[0,5,8,9,10],⟨[.hole,.hole,.hole,.hole,.hole],[],[1,2,1,2,2],[kM,.int .i64,kJ,.int .i64,.int .i64]⟩⟩ [((.exit 0),⟨[5],⟨[.hole],[],[2],[.int .i64]⟩⟩)] (lp sU ze)
theorem NG:UK zdr (xY (zo Tryz.f219) [1,1,0,1,0]) T8:=vQ .run zt zf0 ob0
theorem zeY:SK 219 P1:=yh (.seq .run (.seq .run (.seq (.seq .run (.block (.unit T8))) .run))) [.tmp 4] zd zt Mw Tryz.func219 (ob1 NG ob0)
def RP:ShC:=⟨⟨[.hole,.hole,.hole],[],[1,1,1],[kM,kJ,kJ]⟩,⟨[.hole,.hole],[],[0,0],[kJ,kJ]⟩,2,[],[],true,false,fun (x:(jS×jI×jI))=>QH x.1 x.2.1 x.2.2⟩
theorem Lb:GD RP [(78,.gen (qg [Mq])),(199,.gen (qg [LW]))]:=(gd1 JA (gd1 EX zb))
def zfr:=te tb gl Lb RP Tryz.f220
theorem zgq:VK zfr:=zq zd Lb
def TL:Un:=lpU 2 [19,20,21,22,9,10,23,24,25,26,27,28,29,30,31,32,33,34,35,36,37,38,39,40,6,7,41,18] ⟨[8,16,17,18],⟨[.hole,.hole,.hole,.hole],[],[0,0,2,2],[kK,kK,.int .i64,.int .i64]⟩⟩ [((.exit 0),⟨[],⟨[],[],[],[]⟩⟩),(.ret,⟨[6,7],⟨[.hole,.hole],[],[0,0],[kJ,kJ]⟩⟩)] (lp vB ze)
theorem PH:UK zfr (xY (zo Tryz.f220) [1,1,0,1,0]) TL:=vQ .run zt zgq ob0
theorem zdK:SK 220 RP:=yh (.seq .run (.seq .run (.seq (.seq .run (.block (.unit TL))) .run))) [.tmp 6,.tmp 7] zd zt Lb Tryz.func220 (ob1 PH ob0)
def zbJ:ShC:=⟨⟨[.hole,.hole,.hole],[],[1,1,1],[kM,kJ,kJ]⟩,⟨[.hole],[],[2],[.bool]⟩,1,[],[],false,false,fun (x:(jS×jI×jI))=>we x.1 x.2.1 x.2.2⟩
theorem MF:GD zbJ [(218,.gen (qg [Ry])),(219,.gen (qg [P1])),(220,.gen (qg [RP]))]:=(gd1 ze7 (gd1 zeY (gd1 zdK zb)))
def zfy:=te tb gl MF zbJ Tryz.f187
theorem zfT:VK zfy:=zq zd MF
def Us:Un:=lpU 2 [9,10,11,12,13,14,15,16,17,18,19,20,21,7,8,22,23,24,25,26,27,6,28,29,30,31,32,33,34,35,36,37,38,39,40,41,6,43,44,45,46,47,48,42,49,50,1,2] ⟨[0,1,2],⟨[.hole,.hole,.hole],[],[1,0,0],[kM,kJ,kJ]⟩⟩ [((.exit 0),⟨[],⟨[],[],[],[]⟩⟩),(.ret,⟨[6],⟨[.hole],[],[2],[.bool]⟩⟩)] (lp se ze)
theorem O4:UK zfy (xY (zo Tryz.f187) [1,0,0]) Us:=vQ .run zt zfT ob0
theorem zeu:SK 187 zbJ:=yh (.seq .run (.seq (.block (.unit Us)) .run)) [.tmp 6] zd zt MF Tryz.func187 (ob1 O4 ob0)
def zgI:ShC:=⟨⟨[.hole,.hole,.hole],[],[1,1,1],[kM,kJ,kJ]⟩,⟨[.hole,.hole],[],[2,2],[.int .i64,.int .i64]⟩,2,[],[],false,true,fun (x:(jS×jI×jI))=>xV x.1 x.2.1 x.2.2⟩
theorem HY:SK 147 zgI:=yh .run [.tmp 6,.tmp 7] zd zt (gd1 JA (gdG SZ (gdG TY (gd1 zeu zb)))) Tryz.func147 ob0
def zgf:ShC:=⟨⟨[.hole,.hole,.hole],[],[1,1,1],[kM,kJ,kJ]⟩,⟨[.hole],[],[2],[.bool]⟩,1,[],[],false,true,fun (x:(jS×jI×jI))=>XZ x.1 x.2.1 x.2.2⟩
theorem zeV:SK 201 zgf:=yh .run [.tmp 6] zd zt (gdG HY zb) Tryz.func201 ob0
def zcE:ShC:=⟨⟨[.nilv,.hole],[],[1],[.int .i64]⟩,⟨[(.view 0)],[.seq false],[2],[kJ]⟩,1,[],[],false,false,fun (x:Int)=>kj x⟩
theorem zeG:SK 229 zcE:=yh .run [.tmp 4] zd zt (gd0 1000025 zb) Tryz.func229 ob0
def Rb:ShC:=⟨⟨[.hole],[],[1],[kK]⟩,⟨[(.view 0)],[.seq false],[2],[kJ]⟩,1,[],[],false,false,fun (x:jR)=>vD x⟩
theorem Mb:GD Rb [(229,.gen (qg [zcE]))]:=(gd1 zeG zb)
def zan:=te tb gl Mb Rb Tryz.f224
theorem zeL:VK zan:=zq zd Mb
def SQ:Un:=lpU 2 [28,29,30,8,31,32,33,6,34,27] ⟨[6,25,26,27],⟨[(.view 0),.hole,.hole,.hole],[.seq false],[1,2,2,2],[kK,.int .i64,.int .i64,kJ]⟩⟩ [((.exit 2),⟨[6],⟨[(.view 0)],[.seq false],[2],[kJ]⟩⟩)] (lp xF ze)
theorem L9:UK zan (xY (zo Tryz.f224) [1,1,1,1,0,1,0]) SQ:=vQ .run zt zeL ob0
def T4:Un:=lpU 2 [12,13,14,5,15,16,17,18,3,19,20,21,22,11] ⟨[0,3,9,10,11],⟨[.hole,.hole,.hole,.hole,.hole],[],[1,2,1,2,2],[kK,.int .i64,kK,.int .i64,.int .i64]⟩⟩ [((.exit 0),⟨[3],⟨[.hole],[],[2],[.int .i64]⟩⟩)] (lp xE ze)
theorem MW:UK zan (xY (zo Tryz.f224) [1,1,0,1,0]) T4:=vQ .run zt zeL ob0
theorem Uy:SK 224 Rb:=yh (.seq .run (.seq .run (.seq (.seq .run (.block (.unit T4))) (.seq .run (.seq (.seq .run (.block (.unit SQ))) .run))))) [.tmp 2] zd zt Mb Tryz.func224 (ob1 MW (ob1 L9 ob0))
def zgt:ShC:=⟨⟨[.hole,.hole,.hole,.hole],[],[1,1,1,1],[kM,kJ,.int .i64,kJ]⟩,⟨[(.view 0)],[.seq false],[2],[kJ]⟩,1,[],[],false,false,fun (x:(jS×jI×Int×jI))=>Y9 x.1 x.2.1 x.2.2.1 x.2.2.2⟩
theorem zdD:SK 202 zgt:=yh .run [.tmp 8] zd zt (gd1 GX (gd1 Uy zb)) Tryz.func202 ob0
def zfS:ShC:=⟨⟨[.hole,(.agg [.hole,.hole,.hole]),.hole,.hole,(.agg [.hole,.hole,.hole]),.hole,.hole],[],[1,1,1,1,1,1,1,1,1,1,1],[kM,kL,kK,kL,.int .i64,.int .i64,kL,kK,kL,.int .i64,.int .i64]⟩,⟨[(.agg [.hole,.hole,(.view 0)]),.hole,.hole],[.seq false],[2,2,2,2,2],[kL,kK,.bool,.int .i64,kL]⟩,3,[],[],false,true,fun (x:(jS×jQ×jR×jQ×Int×Int×jQ×jR×jQ×Int×Int))=>jV x.1 x.2.1 x.2.2.1 x.2.2.2.1 x.2.2.2.2.1 x.2.2.2.2.2.1 x.2.2.2.2.2.2.1 x.2.2.2.2.2.2.2.1 x.2.2.2.2.2.2.2.2.1 x.2.2.2.2.2.2.2.2.2.1 x.2.2.2.2.2.2.2.2.2.2⟩
theorem zdq:SK 161 zfS:=yh .run [.cell 14 28,.tmp 15,.tmp 16] zd zt (gdG zdh (gdG EQ (gdG Kr (gd1 ET (gd1 DA (gd1 O5 (gd1 GX (gd1 Ox (gdG zeV (gd1 zdD zb)))))))))) Tryz.func161 ob0
def zge:ShC:=⟨⟨[.hole,(.agg [.hole,.hole,.hole]),.hole,.hole,(.agg [.hole,.hole,.hole]),.hole,.hole],[],[1,1,1,1,1,1,1,1,1,1,1],[kM,kL,kK,kL,.int .i64,.int .i64,kL,kK,kL,.int .i64,.int .i64]⟩,⟨[(.agg [.hole,.hole,(.view 0)]),.hole,.hole],[.seq false],[2,2,2,2,2],[kL,kK,.bool,.int .i64,kL]⟩,3,[],[],false,true,fun (x:(jS×jQ×jR×jQ×Int×Int×jQ×jR×jQ×Int×Int))=>QZ x.1 x.2.1 x.2.2.1 x.2.2.2.1 x.2.2.2.2.1 x.2.2.2.2.2.1 x.2.2.2.2.2.2.1 x.2.2.2.2.2.2.2.1 x.2.2.2.2.2.2.2.2.1 x.2.2.2.2.2.2.2.2.2.1 x.2.2.2.2.2.2.2.2.2.2⟩
theorem ze4:SK 111 zge:=yh .run [.cell 14 28,.tmp 15,.tmp 16] zd zt (gdG jM (gd1 TT (gdG zdq zb))) Tryz.func111 ob0
def zgS:ShC:=⟨⟨[.hole,(.agg [.hole,.hole,.hole]),.hole],[],[1,1,1,1,1],[kM,kL,kK,kL,.int .i64]⟩,⟨[(.agg [.hole,.hole,(.view 0)]),.hole,.hole],[.seq false],[2,2,2,2,2],[kL,kK,.bool,.int .i64,kL]⟩,3,[],[],false,true,fun (x:(jS×jQ×jR×jQ×Int))=>rg x.1 x.2.1 x.2.2.1 x.2.2.2.1 x.2.2.2.2⟩
theorem zfA:SK 162 zgS:=yh .run [.cell 6 28,.tmp 7,.tmp 8] zd zt (gdG EQ (gdG Kr (gd1 ET (gd1 DA (gd1 Ox zb))))) Tryz.func162 ob0
def zgZ:ShC:=⟨⟨[.hole,(.agg [.hole,.hole,.hole]),.hole],[],[1,1,1,1,1],[kM,kL,kK,kL,.int .i64]⟩,⟨[(.agg [.hole,.hole,(.view 0)]),.hole,.hole],[.seq false],[2,2,2,2,2],[kL,kK,.bool,.int .i64,kL]⟩,3,[],[],false,true,fun (x:(jS×jQ×jR×jQ×Int))=>kS x.1 x.2.1 x.2.2.1 x.2.2.2.1 x.2.2.2.2⟩
theorem zfh:SK 112 zgZ:=yh .run [.cell 6 28,.tmp 7,.tmp 8] zd zt (gdG jM (gd1 TT (gdG zfA zb))) Tryz.func112 ob0
def zfj:ShC:=⟨⟨[(.agg [.hole,.hole,.hole])],[],[1,1,1],[kL,kK,kL]⟩,⟨[.hole],[],[2],[.bool]⟩,1,[],[],false,false,fun (x:(jQ×jR×jQ))=>jk x.1 x.2.1 x.2.2⟩
theorem Ue:SK 163 zfj:=yh .run [.tmp 2] zd zt zb Tryz.func163 ob0
def EE:ShC:=⟨⟨[.hole,.hole],[],[1,1],[.ns kI,kJ]⟩,⟨[.hole],[],[2],[.bool]⟩,1,[],[],false,false,fun (x:((Option jI)×jI))=>vi x.1 x.2⟩
theorem As:GD EE []:=zb
def UX:=te tb gl As EE Tryz.f78
theorem zew:VK UX:=zq zd As
def NZ:Un:=lpU 2 [14,15,5,16,17,18,19,20,21,22,23,24,4,25,13] ⟨[0,1,12,13],⟨[.hole,.hole,.hole,.hole],[],[1,1,2,2],[.ns kI,kJ,.int .i64,.int .i64]⟩⟩ [((.exit 0),⟨[],⟨[],[],[],[]⟩⟩),(.ret,⟨[4],⟨[.hole],[],[2],[.bool]⟩⟩)] (lp wa ze)
theorem HL:UK UX (xY (zo Tryz.f78) [1,1,0,1,0]) NZ:=vQ .run zt zew ob0
theorem zb7:SK 78 EE:=yh (.seq .run (.seq .run (.seq (.seq .run (.block (.unit NZ))) .run))) [.tmp 4] zd zt As Tryz.func78 (ob1 HL ob0)
def EH:ShC:=⟨⟨[(.aptr 0),.hole,.hole,.hole],[.seq false],[1,1,1,1],[kM,kJ,kJ,.sl (.one (.ns kI))]⟩,⟨[.hole,(.aptr 0)],[.seq false],[2,1],[.bool,.sl (.one (.ns kI))]⟩,1,[0],[(0,0)],true,false,fun (x:(jS×jI×jI×(List (Option jI))))=>qQ x.1 x.2.1 x.2.2.1 x.2.2.2⟩
theorem AT:GD EH [(78,.gen (qg [EE])),(84,.gen (qg [zbw])),(185,.gen (qg [A4]))]:=(gd1 zb7 (gd1 Iq (gd1 GX zb)))
def SO:=te tb gl AT EH Tryz.f205
theorem zeg:VK SO:=zq zd AT
def H3:Un:=lpU 2 [19,20,21,11,22,23,24,25,8,26,27,28,29,30,31,32,33,8,34,35,9,37,38,39,40,36,41,42,12,13,43,44,8,45,46,47,48,49,50,14,15,51,52,53,54,55,56,57,58,59,60,61,62,63,64,65,66,67,68,69,8,70,9,71,18] ⟨[0,1,3,9,16,17,18],⟨[(.aptr 0),.hole,.hole,.hole,.hole,.hole,.hole],[.seq false],[1,1,2,1,2,2,1],[kM,kJ,.int .i64,kJ,.int .i64,.int .i64,.sl (.one (.ns kI))]⟩⟩ [((.exit 0),⟨[0,9],⟨[(.aptr 0),.hole],[.seq false],[2,1],[.int .i64,.sl (.one (.ns kI))]⟩⟩),(.ret,⟨[0,8],⟨[(.aptr 0),.hole],[.seq false],[2,1],[.bool,.sl (.one (.ns kI))]⟩⟩)] (lp q6 ze)
theorem HB:UK SO (xY (zo Tryz.f205) [1,1,0,1,0]) H3:=vQ .run zt zeg ob0
theorem OU:SK 205 EH:=yh (.seq .run (.seq .run (.seq (.seq .run (.block (.unit H3))) .run))) [.tmp 8] zd zt AT Tryz.func205 (ob1 HB ob0)
def Lv:ShC:=⟨⟨[(.agg [.hole,.hole]),(.ptr 0 0),(.ptr 1 0)],[.cells true [.hole,.hole],.cells true [.hole]],[1,1,1,1,1],[.bool,kJ,.bool,kJ,kM]⟩,⟨[.hole],[],[2],[.bool]⟩,1,[],[],false,false,fun (x:(Bool×jI×Bool×jI×jS))=>xM x.1 x.2.1 x.2.2.1 x.2.2.2.1 x.2.2.2.2⟩
theorem On:SK 204 Lv:=yh .run [.tmp 4] zd zt (gd1 OU zb) Tryz.func204 ob0
def Eb:ShC:=⟨⟨[.hole,(.clo 204 [(.ptr 0 0),(.ptr 1 0)])],[.cells true [.hole,.hole],.cells true [.hole]],[1,1,1,1],[kL,.bool,kJ,kM]⟩,⟨[.hole],[],[2],[.int .i64]⟩,1,[],[],false,false,fun (x:(jQ×Bool×jI×jS))=>tA x.1 x.2.1 x.2.2.1 x.2.2.2⟩
theorem Ak:GD Eb [(204,.gen (qg [Lv]))]:=(gd1 On zb)
def T0:=te tb gl Ak Eb Tryz.f146
theorem zff:VK T0:=zq zd Ak
def OV:Un:=lpU 2 [9,10,5,11,12,13,14,15,16,17,4,18,8] ⟨[0,1,7,8],⟨[.hole,(.clo 204 [(.ptr 0 0),(.ptr 1 0)]),.hole,.hole],[.cells true [.hole,.hole],.cells true [.hole]],[1,2,2,2,1,1],[kL,.int .i64,.int .i64,.bool,kJ,kM]⟩⟩ [((.exit 0),⟨[],⟨[],[],[],[]⟩⟩),(.ret,⟨[4],⟨[.hole],[],[2],[.int .i64]⟩⟩)] (lp yW ze)
theorem FW:UK T0 (xY (zo Tryz.f146) [1,0,1,0]) OV:=vQ .run zt zff ob0
theorem zbP:SK 146 Eb:=yh (.seq .run (.seq (.seq .run (.block (.unit OV))) .run)) [.tmp 4] zd zt Ak Tryz.func146 (ob1 FW ob0)
def Oh:ShC:=⟨⟨[(.view 0),(.clo 204 [(.ptr 1 0),(.ptr 2 0)])],[.seq false,.cells true [.hole,.hole],.cells true [.hole]],[1,1,1,1],[kL,.bool,kJ,kM]⟩,⟨[(.view 0)],[.seq false],[0],[kL]⟩,1,[],[],true,false,fun (x:(jQ×Bool×jI×jS))=>vX x.1 x.2.1 x.2.2.1 x.2.2.2⟩
theorem Cj:GD Oh [(146,.gen (qg [Eb])),(204,.gen (qg [Lv])),(1000041,.gen (qg []))]:=(gd1 zbP (gd1 On (gd0 1000041 zb)))
def SU:=te tb gl Cj Oh Tryz.f203
theorem zdf:VK SU:=zq zd Cj
def NC:Un:=lpU 2 [16,17,18,19,22,23,24,25,7,26,27,28,29,30,31,32,33,34,35,5,20,21,6] ⟨[0,1,5,6],⟨[(.view 0),(.clo 204 [(.ptr 1 0),(.ptr 2 0)]),.hole,.hole],[.seq false,.cells true [.hole,.hole],.cells true [.hole]],[2,2,0,2,1,1],[.int .i64,.int .i64,kL,.bool,kJ,kM]⟩⟩ [((.exit 0),⟨[0,5],⟨[(.view 0),.hole],[.seq false],[2,0],[.int .i64,kL]⟩⟩)] (lp yk ze)
theorem F6:UK SU (xY (zo Tryz.f203) [1,1,1,0,1,0]) NC:=vQ .run zt zdf ob0
theorem zbK:SK 203 Oh:=yh (.seq .run (.seq .run (.seq .run (.seq (.seq .run (.block (.unit NC))) .run)))) [.tmp 4] zd zt Cj Tryz.func203 (ob1 F6 ob0)
def zfq:ShC:=⟨⟨[.hole,(.agg [.hole,.hole]),(.agg [.hole,.hole,.hole])],[],[1,1,1,1,1,1],[kM,.bool,kJ,kL,kK,kL]⟩,⟨[(.agg [.hole,.hole,(.view 0)]),.hole,.hole],[.seq false],[2,2,2,2,2],[kL,kK,.int .i64,.int .i64,kL]⟩,3,[],[],false,true,fun (x:(jS×Bool×jI×jQ×jR×jQ))=>Ka x.1 x.2.1 x.2.2.1 x.2.2.2.1 x.2.2.2.2.1 x.2.2.2.2.2⟩
theorem zaJ:SK 164 zfq:=yh (.seq .run (.seq .run (.seq .run (.seq .run (.seq .run (.seq (.hide [[],[32],[32],[32],[32],[32],[32],[32],[],[],[]]) .run)))))) [.cell 6 28,.tmp 7,.tmp 8] zd zt (gdG jM (gd1 Mi (gdG EG (gdG Kr (gd1 zbK zb))))) Tryz.func164 ob0
def U5:ShC:=⟨⟨[.hole,.hole,.hole],[],[1,1,1],[kM,kJ,kJ]⟩,⟨[.hole],[],[2],[.bool]⟩,1,[],[],false,true,fun (x:(jS×jI×jI))=>rF x.1 x.2.1 x.2.2⟩
theorem Nu:SK 206 U5:=yh .run [.tmp 6] zd zt (gdG HY zb) Tryz.func206 ob0
def HU:ShC:=⟨⟨[.hole,(.agg [.hole,.hole,.hole])],[],[1,1,1,1],[kM,kL,kK,kL]⟩,⟨[(.agg [(.view 0),(.view 1)]),.hole,.hole],[.seq false,.seq false],[2,2,2,2],[.bool,.int .i64,kJ,kJ]⟩,3,[],[],false,true,fun (x:(jS×jQ×jR×jQ))=>Wd x.1 x.2.1 x.2.2.1 x.2.2.2⟩
theorem Cv:GD HU [(25,.gen (qg [Ck])),(108,.gen (qg [DG])),(163,.gen (qg [zfj])),(200,.gen (qg [zeM])),(206,.gen (qg [U5]))]:=(gdG jM (gd1 Vy (gd1 Ue (gd1 Ox (gdG Nu zb)))))
def S4:=te tb gl Cv HU Tryz.f165
theorem zdB:VK S4:=zq zd Cv
def Ly:Un:=lpU 2 [45,46,8,47,48,49,50,51,52,53,54,55,56,57,58,59,60,61,62,63,64,65,66,67,68,69,5,6,70,44] ⟨[0,4,7,43,44],⟨[.hole,(.ptr 0 0),.hole,.hole,.hole],[.cells false [.nilv,.nilv]],[1,0,2,2],[kM,kK,.int .i64,.int .i64]⟩⟩ [((.exit 0),⟨[4],⟨[(.ptr 0 0)],[.cells false [.nilv,.nilv]],[],[]⟩⟩),(.ret,⟨[4,5,6],⟨[(.ptr 0 0),.hole,.hole],[.cells false [(.view 1),(.view 2)],.seq false,.seq false],[2,2,2,2],[.bool,.int .i64,kJ,kJ]⟩⟩)] (lp rE ze)
theorem Hn:UK S4 (xY (zo Tryz.f165) [1,1,1,1,0,1,0]) Ly:=vQ .run zt zdB ob0
theorem zaT:SK 165 HU:=yh (.seq .run (.seq .run (.seq .run (.seq .run (.seq (.seq .run (.block (.unit Ly))) .run))))) [.cell 4 160,.tmp 5,.tmp 6] zd zt Cv Tryz.func165 (ob1 Hn ob0)
def UV:ShC:=⟨⟨[.hole,(.agg [.hole,.hole])],[],[1,1,1],[kM,kJ,kJ]⟩,⟨[.hole],[],[2],[.bool]⟩,1,[],[],false,true,fun (x:(jS×jI×jI))=>uT x.1 x.2.1 x.2.2⟩
theorem zaG:SK 207 UV:=yh .run [.tmp 4] zd zt (gdG TY (gdG Nu zb)) Tryz.func207 ob0
def Eg:ShC:=⟨⟨[(.aptr 0)],[.seq false],[1],[.sl (.one (.ns kI))]⟩,⟨[(.view 0),(.aptr 1)],[.seq false,.seq false],[2,1],[.sl (.cons kZ kR),.sl (.one (.ns kI))]⟩,1,[0],[(0,1)],true,false,fun (x:(List (Option jI)))=>ub x⟩
theorem CQ:GD Eg [(84,.gen (qg [zbw])),(108,.gen (qg [DG]))]:=(gd1 Iq (gd1 Vy zb))
def TA:=te tb gl CQ Eg Tryz.f225
theorem zd0:VK TA:=zq zd CQ
def Oi:Un:=lpU 2 [9,10,11,12,13,4,5,14,15,16,17,18,19,20,21,22,23,24,25,26,27,28,29,30,31,32,33,34,35,3,36,8] ⟨[0,3,6,8],⟨[(.aptr 0),(.view 1),(.aptr 0),.hole],[.seq false,.seq false],[2,1,2],[.int .i64,.sl (.one (.ns kI)),.sl (.cons kZ kR)]⟩⟩ [((.exit 0),⟨[0,3],⟨[(.aptr 0),(.view 1)],[.seq false,.seq false],[1,2],[.sl (.one (.ns kI)),.sl (.cons kZ kR)]⟩⟩)] (lp q7 ze)
theorem FS:UK TA (xY (zo Tryz.f225) [1,1,0,1,0]) Oi:=vQ .run zt zd0 ob0
theorem zby:SK 225 Eg:=yh (.seq .run (.seq .run (.seq (.seq .run (.block (.unit Oi))) .run))) [.tmp 2] zd zt CQ Tryz.func225 (ob1 FS ob0)
def ES:ShC:=⟨⟨[.hole,(.agg [.hole,.hole]),.hole],[],[1,1,1,1],[kM,kJ,kJ,kJ]⟩,⟨[.hole,.hole,.hole],[],[2,2,2],[kJ,.int .i64,.bool]⟩,3,[],[],false,false,fun (x:(jS×jI×jI×jI))=>jW x.1 x.2.1 x.2.2.1 x.2.2.2⟩
theorem Cw:GD ES [(108,.gen (qg [DG])),(153,.gen (qg [RZ])),(185,.gen (qg [A4])),(205,.gen (qg [EH])),(224,.gen (qg [Rb])),(225,.gen (qg [Eg]))]:=(gd1 Vy (gd1 O5 (gd1 GX (gd1 OU (gd1 Uy (gd1 zby zb))))))
def Lw:=te tb gl Cw ES Tryz.f208
theorem zdv:VK Lw:=zq zd Cw
def M7:Un:=scU Lw [15,16,9,10,11,17,18,19,20,21,22,6,7,8,24,25,26,27,23,28,29,12,13,14,30,31,32,33,34,35,36,37,38,39,40,11,41,42,6,7,8,43,44,45,46,47,48,49,50,51,52,53,54,9,55,56,57,6,7,8,58,59,10,11] [(.goto 0,⟨[0,4,9,10,11],⟨[.hole,(.ptr 0 0),.hole,.hole,.hole],[.cells true [.hole,.hole]],[1,2,2,2,1,1],[kM,kJ,.int .i64,.int .i64,kJ,kJ]⟩⟩)] [(.ret,⟨[6,7,8],⟨[.hole,.hole,.hole],[],[2,2,2],[kJ,.int .i64,.bool]⟩⟩)] (Ca (xY (zo Tryz.f208) [1])) (.seq .run (.seq .run (.seq .run (.seq .run (.seq .run (.seq .run (.seq .run (.seq .run (.seq (.hide [[184],[184],[184],[],[184],[184],[],[184],[184],[184],[],[],[]]) .run))))))))) (lp zJ ze)
theorem Hx:UK Lw (xY (zo Tryz.f208) [1]) M7:=zfs [(0,(.seq .run (.seq .run (.seq .run (.seq .run (.seq .run (.seq .run (.seq (.hide [[113],[113],[113],[],[113],[113],[],[113],[113],[113],[],[],[]]) .run))))))))] zt zdv ob0 (zhb ob0 zcC)
theorem zbm:SK 208 ES:=yh (.seq .run (.unit M7)) [.tmp 6,.tmp 7,.tmp 8] zd zt Cw Tryz.func208 (ob1 Hx ob0)
def Ps:ShC:=⟨⟨[.hole,(.agg [.hole,.hole]),(.agg [.hole,.hole,.hole])],[],[1,1,1,1,1,1],[kM,kJ,kJ,kL,kK,kL]⟩,⟨[(.agg [.hole,.hole,(.view 0)]),.hole,.hole],[.seq false],[2,2,2,2,2],[kL,kK,.int .i64,.int .i64,kL]⟩,3,[],[],false,true,fun (x:(jS×jI×jI×jQ×jR×jQ))=>ZN x.1 x.2.1 x.2.2.1 x.2.2.2.1 x.2.2.2.2.1 x.2.2.2.2.2⟩
theorem Ax:GD Ps [(25,.gen (qg [Ck])),(64,.gen (qg [zc2])),(99,.gen (qg [zdl])),(207,.gen (qg [UV])),(208,.gen (qg [ES]))]:=(gdG jM (gd1 Mi (gdG Kr (gdG zaG (gd1 zbm zb)))))
def Uw:=te tb gl Ax Ps Tryz.f166
theorem zd1:VK Uw:=zq zd Ax
def Ms:Un:=lpU 2 [35,36,37,38,12,11,40,41,42,43,44,45,39,46,47,48,13,14,15,49,50,51,7,8,52,53,54,55,56,57,58,59,60,61,62,63,64,65,66,10,67,34] ⟨[0,4,6,9,10,32,33,34],⟨[.hole,(.ptr 0 0),(.ptr 1 0),(.ptr 2 0),.hole,(.view 3),.hole,.hole],[.cells true [.hole,.hole],.cells false [.nilv,.nilv,.nilv],.cells false [(.view 3),.hole,.hole],.seq false],[1,2,2,2,1,1,2,2,2],[kM,.int .i64,.int .i64,.int .i64,kJ,kJ,kK,kL,kL]⟩⟩ [((.exit 0),⟨[6,9,10],⟨[(.ptr 0 0),(.ptr 1 0),.hole],[.cells false [.nilv,.nilv,.nilv],.cells false [(.view 2),.hole,.hole],.seq false],[2,2,2,2],[.int .i64,kK,kL,kL]⟩⟩),(.ret,⟨[6,7,8],⟨[(.ptr 0 0),.hole,.hole],[.cells false [.nilv,.nilv,.nilv]],[2,2],[.int .i64,.int .i64]⟩⟩)] (lp vj ze)
theorem Fk:UK Uw (xY (zo Tryz.f166) [1,1,1,0,1,0]) Ms:=vQ .run zt zd1 ob0
theorem zbx:SK 166 Ps:=yh (.seq .run (.seq .run (.seq .run (.seq (.seq .run (.block (.unit Ms))) .run)))) [.cell 6 28,.tmp 7,.tmp 8] zd zt Ax Tryz.func166 (ob1 Fk ob0)
def zdC:ShC:=⟨⟨[.hole,.hole,(.agg [.hole,.hole,.hole]),(.agg [.hole,.hole,.hole])],[],[1,1,1,1,1,1,1,1],[kM,.int .i64,kL,kK,kL,kL,kK,kL]⟩,⟨[(.agg [.hole,.hole,(.view 0)]),.hole],[.seq false],[2,2,2,2],[kL,kK,.bool,kL]⟩,2,[],[],false,true,fun (x:(jS×Int×jQ×jR×jQ×jQ×jR×jQ))=>sx x.1 x.2.1 x.2.2.1 x.2.2.2.1 x.2.2.2.2.1 x.2.2.2.2.2.1 x.2.2.2.2.2.2.1 x.2.2.2.2.2.2.2⟩
theorem zal:SK 113 zdC:=yh (.seq .run (.seq .run (.seq .run (.seq .run (.seq (.seq .run (.cond (.seq .run (.hide [[],[],[],[],[],[],[],[],[],[40],[40],[],[],[]])) .run)) .run))))) [.cell 8 28,.tmp 9] zd zt (gd1 Ue (gdG zaJ (gdG zaT (gdG zbx zb)))) Tryz.func113 ob0
def zfd:ShC:=⟨⟨[(.agg [.hole,.hole])],[],[1,1],[.bool,kJ]⟩,⟨[(.agg [.hole,(.view 0)])],[.seq false],[2,2],[.bool,kJ]⟩,1,[],[],false,false,fun (x:zc)=>Qw x.1 x.2⟩
theorem zb6:SK 167 zfd:=yh .run [.cell 2 61] zd zt (gd1 Vy zb) Tryz.func167 ob0
def zd8:ShC:=⟨⟨[.hole,(.agg [.hole,.hole,.hole]),.hole],[],[1,1,1,1,1],[kM,kL,kK,kL,.int .i64]⟩,⟨[(.agg [.hole,.hole,(.view 0)]),.hole],[.seq false],[2,2,2,2],[kL,kK,.int .i64,kL]⟩,2,[],[],false,true,fun (x:(jS×jQ×jR×jQ×Int))=>vT x.1 x.2.1 x.2.2.1 x.2.2.2.1 x.2.2.2.2⟩
theorem zaN:SK 114 zd8:=yh .run [.cell 6 28,.tmp 7] zd zt (gdG jM (gdG Kr (gd1 DA (gd1 T9 (gd1 zb6 zb))))) Tryz.func114 ob0
def zfe:ShC:=⟨⟨[.hole,(.agg [.hole,.hole,.hole,.hole,.hole,.hole,.hole,.hole,.hole,.hole]),(.agg [.hole,.hole,.hole]),(.agg [.hole,.hole,.hole])],[],[1,1,1,1,1,1,1,1,1,1,1,1,1,1,1,1,1],[kM,.int .i64,.int .i64,.int .i64,.int .i64,.int .i64,.int .i64,.int .i64,kL,kK,kL,kL,kK,kL,kL,kK,kL]⟩,⟨[(.agg [.hole,.hole,(.view 0)]),.hole],[.seq false],[2,2,2,2],[kL,kK,.bool,kL]⟩,2,[],[],false,true,fun (x:(jS×Int×Int×Int×Int×Int×Int×Int×jQ×jR×jQ×jQ×jR×jQ×jQ×jR×jQ))=>wh x.1 x.2.1 x.2.2.1 x.2.2.2.1 x.2.2.2.2.1 x.2.2.2.2.2.1 x.2.2.2.2.2.2.1 x.2.2.2.2.2.2.2.1 x.2.2.2.2.2.2.2.2.1 x.2.2.2.2.2.2.2.2.2.1 x.2.2.2.2.2.2.2.2.2.2.1 x.2.2.2.2.2.2.2.2.2.2.2.1 x.2.2.2.2.2.2.2.2.2.2.2.2.1 x.2.2.2.2.2.2.2.2.2.2.2.2.2.1 x.2.2.2.2.2.2.2.2.2.2.2.2.2.2.1 x.2.2.2.2.2.2.2.2.2.2.2.2.2.2.2.1 x.2.2.2.2.2.2.2.2.2.2.2.2.2.2.2.2⟩
theorem zaM:SK 65 zfe:=yh .run [.cell 8 28,.tmp 9] zd zt (gdG zdj (gdG zeA (gdG ze4 (gdG zfh (gdG zal (gdG zaN zb)))))) Tryz.func65 ob0
def UM:ShC:=⟨⟨[.hole,.hole,.hole],[],[1,1,1],[kM,.sl (.cons kZ (.cons kZ (.cons kZ (.cons kZ (.cons kZ (.cons kZ (.cons kZ (.cons kL (.cons kK (.one kL)))))))))),.int .i64]⟩,⟨[(.agg [.hole,.hole,(.view 0)]),.hole],[.seq false],[2,2,2,2],[kL,kK,.bool,kL]⟩,2,[],[],false,true,fun (x:(jS×jT×Int))=>kB x.1 x.2.1 x.2.2⟩
theorem Pf:SK 30 UM:=yh .run [.cell 6 28,.tmp 7] zd zt (gd1 zdH (gd1 zeP (gd1 Mi (gdG zaM zb)))) Tryz.func30 ob0
def zfl:ShC:=⟨⟨[.hole,.hole,.hole],[],[1,1,1],[kM,.sl (.cons kZ (.cons kZ (.cons kZ (.cons kZ (.cons kZ (.cons kZ (.cons kZ (.cons kL (.cons kK (.one kL)))))))))),.int .i64]⟩,⟨[(.agg [.hole,.hole,(.view 0)]),.hole,.hole],[.seq false],[2,2,2,2,2],[kL,kK,.bool,.int .i64,kL]⟩,3,[],[],false,true,fun (x:(jS×jT×Int))=>WV x.1 x.2.1 x.2.2⟩
theorem zbs:SK 9 zfl:=yh .run [.cell 6 28,.tmp 7,.tmp 8] zd zt (gdG Pu (gdG Pf zb)) Tryz.func9 ob0
def NO:ShC:=⟨⟨[.hole,.hole,(.clo 76 [])],[],[1,1],[kL,kL]⟩,⟨[.hole],[],[2],[.bool]⟩,1,[],[],false,false,fun (x:(jQ×jQ))=>uj x.1 x.2⟩
theorem AS:GD NO [(76,.gen (qg [zc7]))]:=(gd1 SA zb)
def TN:=te tb gl AS NO Tryz.f75
theorem zc8:VK TN:=zq zd AS
def Px:Un:=lpU 2 [18,19,20,21,8,7,22,23,24,25,9,26,27,28,29,30,6,31,17] ⟨[1,2,15,16,17],⟨[.hole,(.clo 76 []),.hole,.hole,.hole],[],[1,1,2,2],[kL,kL,.int .i64,.int .i64]⟩⟩ [((.exit 0),⟨[],⟨[],[],[],[]⟩⟩),(.ret,⟨[6],⟨[.hole],[],[2],[.bool]⟩⟩)] (lp q8 ze)
theorem Ff:UK TN (xY (zo Tryz.f75) [1,1,0,1,0]) Px:=vQ .run zt zc8 ob0
theorem zbH:SK 75 NO:=yh (.seq .run (.seq .run (.seq (.seq .run (.block (.unit Px))) .run))) [.tmp 6] zd zt AS Tryz.func75 (ob1 Ff ob0)
def Od:ShC:=⟨⟨[.hole,.hole,(.clo 78 [])],[],[1,1],[kK,kK]⟩,⟨[.hole],[],[2],[.bool]⟩,1,[],[],false,false,fun (x:(jR×jR))=>uI x.1 x.2⟩
theorem AN:GD Od [(78,.gen (qg [Mq]))]:=(gd1 JA zb)
def Ut:=te tb gl AN Od Tryz.f77
theorem zfm:VK Ut:=zq zd AN
def Ob:Un:=lpU 2 [18,19,20,21,7,8,22,23,24,25,9,26,27,28,29,30,6,31,17] ⟨[1,2,15,16,17],⟨[.hole,(.clo 78 []),.hole,.hole,.hole],[],[1,1,2,2],[kK,kK,.int .i64,.int .i64]⟩⟩ [((.exit 0),⟨[],⟨[],[],[],[]⟩⟩),(.ret,⟨[6],⟨[.hole],[],[2],[.bool]⟩⟩)] (lp qv ze)
theorem F9:UK Ut (xY (zo Tryz.f77) [1,1,0,1,0]) Ob:=vQ .run zt zfm ob0
theorem zch:SK 77 Od:=yh (.seq .run (.seq .run (.seq (.seq .run (.block (.unit Ob))) .run))) [.tmp 6] zd zt AN Tryz.func77 (ob1 F9 ob0)
def Uk:ShC:=⟨⟨[(.agg [.hole,.hole,.hole]),(.agg [.hole,.hole,.hole])],[],[1,1,1,1,1,1],[kL,kK,kL,kL,kK,kL]⟩,⟨[.hole],[],[2],[.bool]⟩,1,[],[],false,false,fun (x:(jQ×jR×jQ×jQ×jR×jQ))=>Yg x.1 x.2.1 x.2.2.1 x.2.2.2.1 x.2.2.2.2.1 x.2.2.2.2.2⟩
theorem za6:SK 33 Uk:=yh .run [.tmp 4] zd zt (gd1 zbH (gd1 zch zb)) Tryz.func33 ob0
def Pg:ShC:=⟨⟨[.hole,.hole],[],[1,1],[kM,.sl (.cons kZ (.cons kZ (.cons kZ (.cons kZ (.cons kZ (.cons kZ (.cons kZ (.cons kL (.cons kK (.one kL))))))))))]⟩,⟨[.hole,.hole],[],[2,2],[.int .i64,.int .i64]⟩,2,[],[],false,true,fun (x:(jS×jT))=>wj x.1 x.2⟩
theorem AP:GD Pg [(29,.gen (qg [zbI])),(30,.gen (qg [UM])),(33,.gen (qg [Uk]))]:=(gdG Pu (gdG Pf (gd1 za6 zb)))
def SG:=te tb gl AP Pg Tryz.f11
theorem zdw:VK SG:=zq zd AP
def O6:Un:=lpU 2 [16,17,6,19,20,21,22,18,23,24,7,8,25,26,27,28,29,30,31,32,33,34,35,36,37,4,5,38,15] ⟨[0,1,14,15],⟨[.hole,.hole,.hole,.hole],[],[1,1,2,2],[kM,.sl (.cons kZ (.cons kZ (.cons kZ (.cons kZ (.cons kZ (.cons kZ (.cons kZ (.cons kL (.cons kK (.one kL)))))))))),.int .i64,.int .i64]⟩⟩ [((.exit 0),⟨[],⟨[],[],[],[]⟩⟩),(.ret,⟨[4,5],⟨[.hole,.hole],[],[2,2],[.int .i64,.int .i64]⟩⟩)] (lp x9 ze)
theorem FA:UK SG (xY (zo Tryz.f11) [1,1,0,1,0]) O6:=vQ .run zt zdw ob0
theorem H8:SK 11 Pg:=yh (.seq .run (.seq .run (.seq (.seq .run (.block (.unit O6))) .run))) [.tmp 4,.tmp 5] zd zt AP Tryz.func11 (ob1 FA ob0)
def Eo:ShC:=⟨⟨[(.view 0)],[.seq false],[1],[kJ]⟩,⟨[(.view 0)],[.seq false],[0],[kJ]⟩,0,[0],[(0,0)],true,false,fun (x:jI)=>rp x⟩
theorem Al:GD Eo []:=zb
def UT:=te tb gl Al Eo Tryz.f35
theorem zcv:VK UT:=zq zd Al
def MT:Un:=lpU 2 [7,8,9,14,15,16,17,18,19,20,21,22,23,24,25,26,27,10,11,12,13,2,3] ⟨[0,2,3],⟨[(.view 0),.hole,.hole],[.seq false],[2,2,0],[.int .i64,.int .i64,kJ]⟩⟩ [((.exit 0),⟨[0],⟨[(.view 0)],[.seq false],[0],[kJ]⟩⟩)] (lp ZK ze)
theorem F7:UK UT (xY (zo Tryz.f35) [1,0]) MT:=vQ (.seq .run (.seq (.block (.hide [[],[],[8],[8],[],[],[],[],[],[],[],[],[],[],[],[]])) .run)) zt zcv ob0
theorem zad:SK 35 Eo:=yh (.seq .run (.block (.unit MT))) [] zd zt Al Tryz.func35 (ob1 F7 ob0)
def L8:ShC:=⟨⟨[.hole,.hole,.hole],[],[1,1,1],[kM,.sl (.cons kZ (.cons kZ (.cons kZ (.cons kZ (.cons kZ (.cons kZ (.cons kZ (.cons kL (.cons kK (.one kL)))))))))),.int .i64]⟩,⟨[(.view 0),.hole],[.seq false],[2,2],[.int .i64,kJ]⟩,2,[],[],false,true,fun (x:(jS×jT×Int))=>GT x.1 x.2.1 x.2.2⟩
theorem B5:GD L8 [(29,.gen (qg [zbI])),(35,.gen (qg [Eo]))]:=(gdG Pu (gd1 zad zb))
def By:=te tb gl B5 L8 Tryz.f13
theorem Nk:VK By:=zq zd B5
def MM:Un:=lpU 2 [55,56,57,12,58,59,60,61,62,63,64,65,66,67,68,54] ⟨[1,8,10,52,53,54],⟨[.hole,(.view 0),.hole,.hole,.hole,.hole],[.seq false],[1,2,2,2,2,2],[.sl (.cons kZ (.cons kZ (.cons kZ (.cons kZ (.cons kZ (.cons kZ (.cons kZ (.cons kL (.cons kK (.one kL)))))))))),.int .i64,kJ,.int .i64,.int .i64,.sl (.one .bool)]⟩⟩ [((.exit 0),⟨[8],⟨[(.view 0)],[.seq false],[2],[.sl (.one .bool)]⟩⟩)] (lp WG ze)
theorem FG:UK By (xY (GM (xY (zo Tryz.f13) [1,0]) 0) [1,0,1,0,1,1,0]) MM:=vQ .run zt Nk ob0
def Lc:Un:=lpU 2 [55,56,57,12,58,59,60,61,62,63,64,65,66,67,68,54] ⟨[1,8,10,52,53,54],⟨[.hole,(.view 0),.hole,.hole,.hole,.hole],[.seq false],[1,2,2,2,2,2],[.sl (.cons kZ (.cons kZ (.cons kZ (.cons kZ (.cons kZ (.cons kZ (.cons kZ (.cons kL (.cons kK (.one kL)))))))))),.int .i64,kJ,.int .i64,.int .i64,.sl (.one .bool)]⟩⟩ [((.exit 0),⟨[8],⟨[(.view 0)],[.seq false],[2],[.sl (.one .bool)]⟩⟩)] (lp Wx ze)
theorem Fp:UK By (xY (zo Tryz.f13) [1,0,1,1,1,1,1,1,0,1,0,1,1,0]) Lc:=vQ .run zt Nk ob0
def Nb:Un:=scU By [13,14,15,16,17,18,19,20,21,22,23,24,25,26,6,7,27,28,29,8,30,31,32,9,33,10,34,35,36,37,38,39,40,41,9,42,43,44,45,46,47,48,49,50,51,52,53,54,55,56,57,12,58,59,60,61,62,63,64,65,66,67,68,54,69,70,10,71,72,73,74,75,6,7] [(.goto 0,⟨[1,8,9,10],⟨[.hole,(.view 0),(.view 1),.hole],[.seq false,.seq false],[1,2,2,2],[.sl (.cons kZ (.cons kZ (.cons kZ (.cons kZ (.cons kZ (.cons kZ (.cons kZ (.cons kL (.cons kK (.one kL)))))))))),.int .i64,.sl (.one .bool),kJ]⟩⟩)] [(.ret,⟨[6,7],⟨[(.view 0),.hole],[.seq false],[2,2],[.int .i64,kJ]⟩⟩)] (Ca (xY (zo Tryz.f13) [1])) (.seq .run (.seq .run (.seq .run (.seq .run (.seq .run (.seq .run (.seq (.seq .run (.cond (.seq .run (.seq .run (.block (.unit Lc)))) .run)) .run))))))) (lp Ye ze)
theorem FJ:UK By (xY (zo Tryz.f13) [1]) Nb:=zfs [(0,(.seq .run (.seq (.seq .run (.cond (.seq .run (.seq .run (.block (.unit MM)))) .run)) .run)))] zt Nk (ob1 Fp ob0) (zhb (ob1 FG ob0) zcC)
theorem zcd:SK 13 L8:=yh (.seq .run (.unit Nb)) [.tmp 6,.tmp 7] zd zt B5 Tryz.func13 (ob1 FJ ob0)
def zdV:ShC:=⟨⟨[.hole],[],[1],[.int .i64]⟩,⟨[.hole],[],[2],[.int .i64]⟩,1,[],[],false,false,fun (x:Int)=>tp x⟩
theorem HZ:SK 16 zdV:=yh .run [.tmp 2] zd zt zb Tryz.func16 ob0
def I1:ShC:=⟨⟨[.hole,.hole],[],[1,1],[kJ,kJ]⟩,⟨[.hole],[],[2],[.bool]⟩,1,[],[],false,false,fun (x:(jI×jI))=>va x.1 x.2⟩
theorem AM:GD I1 []:=zb
def Ta:=te tb gl AM I1 Tryz.f17
theorem zeR:VK Ta:=zq zd AM
def Oo:Un:=lpU 2 [11,12,13,14,17,18,19,20,21,22,23,24,25,4,15,16,5] ⟨[0,1,5],⟨[.hole,.hole,.hole],[],[1,1,2],[kJ,kJ,.int .i64]⟩⟩ [((.exit 0),⟨[],⟨[],[],[],[]⟩⟩),(.ret,⟨[4],⟨[.hole],[],[2],[.bool]⟩⟩)] (lp wJ ze)
theorem Hl:UK Ta (xY (zo Tryz.f17) [1,1,0,1,0]) Oo:=vQ .run zt zeR ob0
theorem CE:SK 17 I1:=yh (.seq .run (.seq .run (.seq (.seq .run (.block (.unit Oo))) .run))) [.tmp 4] zd zt AM Tryz.func17 (ob1 Hl ob0)
def Mv:ShC:=⟨⟨[.hole,.hole],[],[1,1],[kL,kL]⟩,⟨[.hole],[],[2],[.bool]⟩,1,[],[],false,false,fun (x:(jQ×jQ))=>sn x.1 x.2⟩
theorem A3:GD Mv [(17,.gen (qg [I1]))]:=(gd1 CE zb)
def SI:=te tb gl A3 Mv Tryz.f36
theorem ze2:VK SI:=zq zd A3
def OE:Un:=lpU 2 [11,12,13,14,17,18,19,20,21,22,23,24,25,26,27,28,29,30,31,32,33,34,35,36,37,38,39,40,41,4,15,16,5] ⟨[0,1,5],⟨[.hole,.hole,.hole],[],[1,1,2],[kL,kL,.int .i64]⟩⟩ [((.exit 0),⟨[],⟨[],[],[],[]⟩⟩),(.ret,⟨[4],⟨[.hole],[],[2],[.bool]⟩⟩)] (lp wW ze)
theorem Ht:UK SI (xY (zo Tryz.f36) [1,1,0,1,0]) OE:=vQ .run zt ze2 ob0
theorem zat:SK 36 Mv:=yh (.seq .run (.seq .run (.seq (.seq .run (.block (.unit OE))) .run))) [.tmp 4] zd zt A3 Tryz.func36 (ob1 Ht ob0)
def Mm:ShC:=⟨⟨[.hole,.hole],[],[1,1],[kK,kK]⟩,⟨[.hole],[],[2],[.bool]⟩,1,[],[],false,false,fun (x:(jR×jR))=>kA x.1 x.2⟩
theorem Ac:GD Mm [(17,.gen (qg [I1]))]:=(gd1 CE zb)
def T7:=te tb gl Ac Mm Tryz.f37
theorem zd6:VK T7:=zq zd Ac
def OS:Un:=lpU 2 [11,12,13,14,17,18,19,20,21,22,23,24,25,26,4,15,16,5] ⟨[0,1,5],⟨[.hole,.hole,.hole],[],[1,1,2],[kK,kK,.int .i64]⟩⟩ [((.exit 0),⟨[],⟨[],[],[],[]⟩⟩),(.ret,⟨[4],⟨[.hole],[],[2],[.bool]⟩⟩)] (lp wI ze)
theorem Fr:UK T7 (xY (zo Tryz.f37) [1,1,0,1,0]) OS:=vQ .run zt zd6 ob0
theorem zaR:SK 37 Mm:=yh (.seq .run (.seq .run (.seq (.seq .run (.block (.unit OS))) .run))) [.tmp 4] zd zt Ac Tryz.func37 (ob1 Fr ob0)
def zdZ:ShC:=⟨⟨[(.agg [.hole,.hole,.hole]),(.agg [.hole,.hole,.hole])],[],[1,1,1,1,1,1],[kL,kK,kL,kL,kK,kL]⟩,⟨[.hole],[],[2],[.bool]⟩,1,[],[],false,false,fun (x:(jQ×jR×jQ×jQ×jR×jQ))=>vu x.1 x.2.1 x.2.2.1 x.2.2.2.1 x.2.2.2.2.1 x.2.2.2.2.2⟩
theorem zaD:SK 15 zdZ:=yh .run [.tmp 4] zd zt (gd1 zat (gd1 zaR zb)) Tryz.func15 ob0
def zeo:ShC:=⟨⟨[],[],[],[]⟩,⟨[.hole],[],[2],[.bool]⟩,1,[],[],false,true,fun (_:Unit)=>XB⟩
theorem zao:SK 20 zeo:=yh .run [.tmp 0] zd zt (gdG zbs (gdG H8 (gdG zcd (gd1 zaD (gd1 HZ (gd1 CE (gd1 zgX (gd1 zg0 zb)))))))) Tryz.func20 ob0
def S8:ShC:=⟨⟨[(.agg [.hole,.hole]),(.ptr 0 0)],[.cells true [.hole]],[1,1,1],[.bool,kJ,kM]⟩,⟨[.hole],[],[2],[.bool]⟩,1,[],[],false,true,fun (x:(Bool×jI×jS))=>ZS x.1 x.2.1 x.2.2⟩
theorem zbV:SK 94 S8:=yh .run [.tmp 3] zd zt (gdG EG zb) Tryz.func94 ob0
def H4:ShC:=⟨⟨[.hole,(.clo 94 [(.ptr 0 0)])],[.cells true [.hole]],[1,1],[kL,kM]⟩,⟨[.hole],[],[2],[.int .i64]⟩,1,[],[],false,true,fun (x:(jQ×jS))=>sF x.1 x.2⟩
theorem Cp:GD H4 [(94,.gen (qg [S8]))]:=(gdG zbV zb)
def TQ:=te tb gl Cp H4 Tryz.f146
theorem zd9:VK TQ:=zq zd Cp
def OM:Un:=lpU 2 [9,10,5,11,12,13,14,15,16,17,4,18,8] ⟨[0,1,7,8],⟨[.hole,(.clo 94 [(.ptr 0 0)]),.hole,.hole],[.cells true [.hole]],[1,2,2,1],[kL,.int .i64,.int .i64,kM]⟩⟩ [((.exit 0),⟨[],⟨[],[],[],[]⟩⟩),(.ret,⟨[4],⟨[.hole],[],[2],[.int .i64]⟩⟩)] (lp qh ze)
theorem Fi:UK TQ (xY (zo Tryz.f146) [1,0,1,0]) OM:=vQ .run zt zd9 ob0
theorem zay:SK 146 H4:=yh (.seq .run (.seq (.seq .run (.block (.unit OM))) .run)) [.tmp 4] zd zt Cp Tryz.func146 (ob1 Fi ob0)
def TO:ShC:=⟨⟨[.hole,(.clo 94 [(.ptr 0 0)])],[.cells true [.hole]],[1,1],[kL,kM]⟩,⟨[.hole],[],[2],[.bool]⟩,1,[],[],false,true,fun (x:(jQ×jS))=>uL x.1 x.2⟩
theorem zbb:SK 93 TO:=yh .run [.tmp 4] zd zt (gdG zay zb) Tryz.func93 ob0
def zdL:ShC:=⟨⟨[.hole,(.agg [.hole,.hole]),(.agg [.hole,.hole])],[],[1,1,1,1,1],[kM,.bool,kJ,.bool,kJ]⟩,⟨[.hole,.hole],[],[2,2],[.int .i64,.int .i64]⟩,2,[],[],false,true,fun (x:(jS×Bool×jI×Bool×jI))=>Z3 x.1 x.2.1 x.2.2.1 x.2.2.2.1 x.2.2.2.2⟩
theorem zbB:SK 96 zdL:=yh .run [.tmp 6,.tmp 7] zd zt (gdG EG (gdG HY zb)) Tryz.func96 ob0
def UZ:ShC:=⟨⟨[(.agg [.hole,.hole]),(.ptr 0 0),(.ptr 1 0)],[.cells true [.hole],.cells true [.hole,.hole]],[1,1,1,1,1],[.bool,kJ,kM,.bool,kJ]⟩,⟨[.hole],[],[2],[.bool]⟩,1,[],[],false,true,fun (x:(Bool×jI×jS×Bool×jI))=>Yx x.1 x.2.1 x.2.2.1 x.2.2.2.1 x.2.2.2.2⟩
theorem zbF:SK 95 UZ:=yh .run [.tmp 4] zd zt (gdG zbB zb) Tryz.func95 ob0
def LN:ShC:=⟨⟨[.hole,(.clo 95 [(.ptr 0 0),(.ptr 1 0)])],[.cells true [.hole],.cells true [.hole,.hole]],[1,1,1,1],[kL,kM,.bool,kJ]⟩,⟨[.hole],[],[2],[.int .i64]⟩,1,[],[],false,true,fun (x:(jQ×jS×Bool×jI))=>so x.1 x.2.1 x.2.2.1 x.2.2.2⟩
theorem Ao:GD LN [(95,.gen (qg [UZ]))]:=(gdG zbF zb)
def TX:=te tb gl Ao LN Tryz.f146
theorem zfo:VK TX:=zq zd Ao
def Ll:Un:=lpU 2 [9,10,5,11,12,13,14,15,16,17,4,18,8] ⟨[0,1,7,8],⟨[.hole,(.clo 95 [(.ptr 0 0),(.ptr 1 0)]),.hole,.hole],[.cells true [.hole],.cells true [.hole,.hole]],[1,2,2,1,2,1],[kL,.int .i64,.int .i64,kM,.bool,kJ]⟩⟩ [((.exit 0),⟨[],⟨[],[],[],[]⟩⟩),(.ret,⟨[4],⟨[.hole],[],[2],[.int .i64]⟩⟩)] (lp qr ze)
theorem FO:UK TX (xY (zo Tryz.f146) [1,0,1,0]) Ll:=vQ .run zt zfo ob0
theorem za7:SK 146 LN:=yh (.seq .run (.seq (.seq .run (.block (.unit Ll))) .run)) [.tmp 4] zd zt Ao Tryz.func146 (ob1 FO ob0)
def SF:ShC:=⟨⟨[.hole,(.clo 95 [(.ptr 0 0),(.ptr 1 0)])],[.cells true [.hole],.cells true [.hole,.hole]],[1,1,1,1],[kL,kM,.bool,kJ]⟩,⟨[.hole],[],[2],[.bool]⟩,1,[],[],false,true,fun (x:(jQ×jS×Bool×jI))=>xv x.1 x.2.1 x.2.2.1 x.2.2.2⟩
theorem zaW:SK 93 SF:=yh .run [.tmp 4] zd zt (gdG za7 zb) Tryz.func93 ob0
def Df:ShC:=⟨⟨[.hole,.hole],[],[1,1],[kM,kL]⟩,⟨[(.view 0),.hole],[.seq false],[2,2],[.int .i64,kJ]⟩,2,[],[],false,true,fun (x:(jS×jQ))=>Xf x.1 x.2⟩
theorem B0:GD Df [(49,.gen (qg [zeD])),(93,.gen (qg [TO,SF]))]:=(gdG RG (Q8 (Kn (WD zbb (WD zaW Kc))) zb))
def Tx:=te tb gl B0 Df Tryz.f52
theorem zdE:VK Tx:=zq zd B0
def Mx:Un:=lpU 2 [20,21,22,23,8,7,24,25,26,27,28,29,30,31,6,32,19] ⟨[1,2,6,17,18,19],⟨[.hole,(.ptr 0 0),(.view 1),.hole,.hole,.hole],[.cells true [.hole],.seq false],[1,1,2,2,1,2],[kL,kL,.int .i64,.int .i64,kM,kJ]⟩⟩ [((.exit 0),⟨[6],⟨[(.view 0)],[.seq false],[2],[kJ]⟩⟩)] (lp sR ze)
theorem FE:UK Tx (xY (zo Tryz.f52) [1,1,1,0,1,0]) Mx:=vQ .run zt zdE ob0
theorem M8:SK 52 Df:=yh (.seq .run (.seq .run (.seq .run (.seq (.seq .run (.block (.unit Mx))) .run)))) [.tmp 4,.tmp 5] zd zt B0 Tryz.func52 (ob1 FE ob0)
def Tf:ShC:=⟨⟨[.hole,(.agg [.hole,.hole])],[],[1,1,1],[kM,.bool,kJ]⟩,⟨[.hole],[],[2],[.bool]⟩,1,[],[],false,false,fun (x:(jS×Bool×jI))=>vJ x.1 x.2.1 x.2.2⟩
theorem zbl:SK 155 Tf:=yh .run [.tmp 4] zd zt (gd1 JA (gd1 EX zb)) Tryz.func155 ob0
def S5:ShC:=⟨⟨[(.agg [.hole,.hole]),(.ptr 0 0)],[.cells true [.hole,.hole]],[1,1,1,1],[.bool,kJ,.bool,kJ]⟩,⟨[.hole],[],[2],[.bool]⟩,1,[],[],false,false,fun (x:(Bool×jI×Bool×jI))=>uU x.1 x.2.1 x.2.2.1 x.2.2.2⟩
theorem zbp:SK 156 S5:=yh .run [.tmp 3] zd zt (gd1 JA zb) Tryz.func156 ob0
def ND:ShC:=⟨⟨[.hole,(.clo 156 [(.ptr 0 0)])],[.cells true [.hole,.hole]],[1,1,1],[kL,.bool,kJ]⟩,⟨[.hole],[],[2],[.int .i64]⟩,1,[],[],false,false,fun (x:(jQ×Bool×jI))=>tY x.1 x.2.1 x.2.2⟩
theorem Cn:GD ND [(156,.gen (qg [S5]))]:=(gd1 zbp zb)
def UW:=te tb gl Cn ND Tryz.f146
theorem zcB:VK UW:=zq zd Cn
def MH:Un:=lpU 2 [9,10,5,11,12,13,14,15,16,17,4,18,8] ⟨[0,1,7,8],⟨[.hole,(.clo 156 [(.ptr 0 0)]),.hole,.hole],[.cells true [.hole,.hole]],[1,2,2,2,1],[kL,.int .i64,.int .i64,.bool,kJ]⟩⟩ [((.exit 0),⟨[],⟨[],[],[],[]⟩⟩),(.ret,⟨[4],⟨[.hole],[],[2],[.int .i64]⟩⟩)] (lp qu ze)
theorem Hy:UK UW (xY (zo Tryz.f146) [1,0,1,0]) MH:=vQ .run zt zcB ob0
theorem zas:SK 146 ND:=yh (.seq .run (.seq (.seq .run (.block (.unit MH))) .run)) [.tmp 4] zd zt Cn Tryz.func146 (ob1 Hy ob0)
def UQ:ShC:=⟨⟨[.hole,(.clo 156 [(.ptr 0 0)])],[.cells true [.hole,.hole]],[1,1,1],[kL,.bool,kJ]⟩,⟨[.hole],[],[2],[.bool]⟩,1,[],[],false,false,fun (x:(jQ×Bool×jI))=>xo x.1 x.2.1 x.2.2⟩
theorem zaB:SK 93 UQ:=yh .run [.tmp 4] zd zt (gd1 zas zb) Tryz.func93 ob0
def NA:ShC:=⟨⟨[.hole,(.agg [.hole,.hole,.hole])],[],[1,1,1,1],[kM,kL,kK,kL]⟩,⟨[.hole,.hole],[],[2,2],[.bool,.int .i64]⟩,2,[],[],false,true,fun (x:(jS×jQ×jR×jQ))=>uq x.1 x.2.1 x.2.2.1 x.2.2.2⟩
theorem Cg:GD NA [(25,.gen (qg [Ck])),(93,.gen (qg [UQ])),(155,.gen (qg [Tf]))]:=(gdG jM (gd1 zaB (gd1 zbl zb)))
def TI:=te tb gl Cg NA Tryz.f102
theorem zdd:VK TI:=zq zd Cg
def Nn:Un:=lpU 2 [16,17,18,7,19,20,21,22,23,24,25,26,27,4,5,28,15] ⟨[0,3,13,14,15],⟨[.hole,(.ptr 0 0),.hole,.hole,.hole],[.cells true [.hole,.hole,.hole]],[1,1,2,2,1,1,1],[kM,kL,.int .i64,.int .i64,kL,kK,kL]⟩⟩ [((.exit 0),⟨[],⟨[],[],[],[]⟩⟩),(.ret,⟨[4,5],⟨[.hole,.hole],[],[2,2],[.bool,.int .i64]⟩⟩)] (lp wc ze)
theorem FK:UK TI (xY (zo Tryz.f102) [1,1,0,1,0]) Nn:=vQ .run zt zdd ob0
theorem zau:SK 102 NA:=yh (.seq .run (.seq .run (.seq (.seq .run (.block (.unit Nn))) .run))) [.tmp 4,.tmp 5] zd zt Cg Tryz.func102 (ob1 FK ob0)
def LJ:ShC:=⟨⟨[(.ptr 0 0),(.agg [.hole,.hole,.hole,.hole,.hole,.hole,.hole,.hole,.hole,.hole]),(.agg [.hole,.hole,.hole]),.hole,.hole],[.cells false [.hole,(.view 1),.hole],.seq false],[1,1,1,1,1,1,1,2,2,2,2,2,2,1,1,1,1,2],[.int .i64,.int .i64,.int .i64,.int .i64,.int .i64,.int .i64,.int .i64,kL,kK,kL,kL,kK,kL,.bool,.int .i64,kM,.int .i64,.sl (.cons kZ (.cons kZ (.cons kZ (.cons kZ (.cons kZ (.cons kZ (.cons kZ (.cons kL (.cons kK (.one kL))))))))))]⟩,⟨[(.ptr 0 0)],[.cells false [.hole,(.view 1),.hole],.seq false],[1,2,2],[kM,.int .i64,.sl (.cons kZ (.cons kZ (.cons kZ (.cons kZ (.cons kZ (.cons kZ (.cons kZ (.cons kL (.cons kK (.one kL))))))))))]⟩,0,[0],[(0,0)],true,true,fun (x:(Int×Int×Int×Int×Int×Int×Int×jQ×jR×jQ×jQ×jR×jQ×Bool×Int×jS×Int×jT))=>yn x.1 x.2.1 x.2.2.1 x.2.2.2.1 x.2.2.2.2.1 x.2.2.2.2.2.1 x.2.2.2.2.2.2.1 x.2.2.2.2.2.2.2.1 x.2.2.2.2.2.2.2.2.1 x.2.2.2.2.2.2.2.2.2.1 x.2.2.2.2.2.2.2.2.2.2.1 x.2.2.2.2.2.2.2.2.2.2.2.1 x.2.2.2.2.2.2.2.2.2.2.2.2.1 x.2.2.2.2.2.2.2.2.2.2.2.2.2.1 x.2.2.2.2.2.2.2.2.2.2.2.2.2.2.1 x.2.2.2.2.2.2.2.2.2.2.2.2.2.2.2.1 x.2.2.2.2.2.2.2.2.2.2.2.2.2.2.2.2.1 x.2.2.2.2.2.2.2.2.2.2.2.2.2.2.2.2.2⟩
theorem NX:SK 54 LJ:=yh (.seq .run (.seq .run (.seq .run (.seq .run (.hide [[9],[],[],[],[],[],[],[],[],[],[]]))))) [] zd zt (gdG zau zb) Tryz.func54 ob0
def LV:ShC:=⟨⟨[.hole,(.agg [.hole,.hole,.hole]),.hole,(.agg [.hole,.hole,.hole]),.hole],[],[1,1,1,1,1,1,1,1,1],[kM,kL,kK,kL,.int .i64,kL,kK,kL,.int .i64]⟩,⟨[(.view 0),.hole,.hole],[.seq false],[2,2,2],[.int .i64,.int .i64,.sl (.cons kZ (.cons kZ (.cons kZ (.cons kZ (.cons kZ (.cons kZ (.cons kZ (.cons kL (.cons kK (.one kL))))))))))]⟩,3,[],[],false,true,fun (x:(jS×jQ×jR×jQ×Int×jQ×jR×jQ×Int))=>Yp x.1 x.2.1 x.2.2.1 x.2.2.2.1 x.2.2.2.2.1 x.2.2.2.2.2.1 x.2.2.2.2.2.2.1 x.2.2.2.2.2.2.2.1 x.2.2.2.2.2.2.2.2⟩
theorem Cf:GD LV [(25,.gen (qg [Ck])),(52,.gen (qg [Df])),(53,.gen (qg [zen])),(54,.gen (qg [LJ]))]:=(gdG jM (gdG M8 (gdG Tz (gdG NX zb))))
def LH:=te tb gl Cf LV Tryz.f26
theorem UY:VK LH:=zq zd Cf
def No:Un:=lpU 2 [60,61,62,21,64,65,66,67,68,69,63,70,71,72,22,23,24,73,74,75,76,77,78,79,80,81,82,59] ⟨[0,2,4,6,8,15,17,19,51,52,53,57,58,59],⟨[.hole,.hole,.hole,(.ptr 0 0),(.ptr 1 0),.hole,(.ptr 2 0),.hole,.hole,.hole,.hole,.hole,.hole,.hole],[.cells true [.hole,.hole,.hole],.cells true [.hole,.hole,.hole],.cells false [.hole,(.view 3),.hole],.seq false],[1,2,2,2,2,2,2,2,2,2,2,1,1,1,1,1,1,0,2,2],[kM,.int .i64,.int .i64,kJ,.int .i64,kJ,.int .i64,.int .i64,kJ,.int .i64,.int .i64,kL,kK,kL,kL,kK,kL,kM,.int .i64,.sl (.cons kZ (.cons kZ (.cons kZ (.cons kZ (.cons kZ (.cons kZ (.cons kZ (.cons kL (.cons kK (.one kL))))))))))]⟩⟩ [((.exit 2),⟨[17],⟨[(.ptr 0 0)],[.cells false [.hole,(.view 1),.hole],.seq false],[0,2,2],[kM,.int .i64,.sl (.cons kZ (.cons kZ (.cons kZ (.cons kZ (.cons kZ (.cons kZ (.cons kZ (.cons kL (.cons kK (.one kL))))))))))]⟩⟩)] (lp vq ze)
theorem HJ:UK LH (xY (zo Tryz.f26) [1,1,1,1,1,0,1,0,0,1,1,0,0,1,1,0]) No:=vQ .run zt UY ob0
def Nx:Un:=lpU 2 [54,55,56,19,57,58,59,60,61,62,21,64,65,66,67,68,69,63,70,71,72,22,23,24,73,74,75,76,77,78,79,80,81,82,59,83,53] ⟨[0,2,4,6,8,15,17,51,52,53],⟨[.hole,.hole,.hole,(.ptr 0 0),(.ptr 1 0),.hole,(.ptr 2 0),.hole,.hole,.hole],[.cells true [.hole,.hole,.hole],.cells true [.hole,.hole,.hole],.cells false [.hole,(.view 3),.hole],.seq false],[1,2,2,2,2,2,2,1,1,1,1,1,1,0,2,2],[kM,.int .i64,.int .i64,kJ,kJ,.int .i64,.int .i64,kL,kK,kL,kL,kK,kL,kM,.int .i64,.sl (.cons kZ (.cons kZ (.cons kZ (.cons kZ (.cons kZ (.cons kZ (.cons kZ (.cons kL (.cons kK (.one kL))))))))))]⟩⟩ [((.exit 0),⟨[17],⟨[(.ptr 0 0)],[.cells false [.hole,(.view 1),.hole],.seq false],[0,2,2],[kM,.int .i64,.sl (.cons kZ (.cons kZ (.cons kZ (.cons kZ (.cons kZ (.cons kZ (.cons kZ (.cons kL (.cons kK (.one kL))))))))))]⟩⟩)] (lp uC ze)
theorem FD:UK LH (xY (zo Tryz.f26) [1,1,1,1,1,0,1,0]) Nx:=vQ (.seq .run (.seq .run (.seq (.block (.seq .run (.seq .run (.block (.unit No))))) .run))) zt UY (ob1 HJ ob0)
theorem zb4:SK 26 LV:=yh (.seq .run (.seq .run (.seq .run (.seq .run (.seq .run (.seq (.seq .run (.block (.unit Nx))) .run)))))) [.tmp 10,.tmp 11,.tmp 12] zd zt Cf Tryz.func26 (ob1 FD ob0)
def Lj:ShC:=⟨⟨[.hole,.hole],[],[1,1],[kJ,.int .i64]⟩,⟨[.hole],[],[2],[.int .i64]⟩,1,[],[],false,false,fun (x:(jI×Int))=>Qr x.1 x.2⟩
theorem Aq:GD Lj []:=zb
def UC:=te tb gl Aq Lj Tryz.f103
theorem zex:VK UC:=zq zd Aq
def O0:Un:=lpU 2 [9,10,5,11,12,13,14,15,16,17,4,18,8] ⟨[0,1,7,8],⟨[.hole,.hole,.hole,.hole],[],[1,2,2,2],[kJ,.int .i64,.int .i64,.int .i64]⟩⟩ [((.exit 0),⟨[],⟨[],[],[],[]⟩⟩),(.ret,⟨[4],⟨[.hole],[],[2],[.int .i64]⟩⟩)] (lp vw ze)
theorem Fd:UK UC (xY (zo Tryz.f103) [1,0,1,0]) O0:=vQ .run zt zex ob0
theorem zax:SK 103 Lj:=yh (.seq .run (.seq (.seq .run (.block (.unit O0))) .run)) [.tmp 4] zd zt Aq Tryz.func103 (ob1 Fd ob0)
def Uj:ShC:=⟨⟨[.hole,.hole],[],[1,1],[kJ,.int .i64]⟩,⟨[.hole],[],[2],[.bool]⟩,1,[],[],false,false,fun (x:(jI×Int))=>vy x.1 x.2⟩
theorem zce:SK 55 Uj:=yh .run [.tmp 4] zd zt (gd1 zax zb) Tryz.func55 ob0
def Mz:ShC:=⟨⟨[.hole,(.agg [.hole,.hole,.hole]),.hole],[],[1,1,1,1,1],[kM,kL,kK,kL,.int .i64]⟩,⟨[(.view 0),.hole,.hole],[.seq false],[2,2,2],[.int .i64,.int .i64,.sl (.cons kZ (.cons kZ (.cons kZ (.cons kZ (.cons kZ (.cons kZ (.cons kZ (.cons kL (.cons kK (.one kL))))))))))]⟩,3,[],[],false,true,fun (x:(jS×jQ×jR×jQ×Int))=>ZI x.1 x.2.1 x.2.2.1 x.2.2.2.1 x.2.2.2.2⟩
theorem CN:GD Mz [(25,.gen (qg [Ck])),(52,.gen (qg [Df])),(54,.gen (qg [LJ])),(55,.gen (qg [Uj])),(56,.gen (qg [zc1]))]:=(gdG jM (gdG M8 (gdG NX (gd1 zce (gdG TU zb)))))
def OR:=te tb gl CN Mz Tryz.f27
theorem SW:VK OR:=zq zd CN
def Og:Un:=lpU 2 [38,39,40,41,42,45,46,47,48,49,50,51,52,54,55,56,57,58,53,59,60,61,14,15,16,62,63,64,65,66,67,68,69,43,44,13] ⟨[0,2,4,9,11,12,13,32,33],⟨[.hole,.hole,(.ptr 0 0),.hole,(.ptr 1 0),.hole,.hole,.hole,.hole],[.cells true [.hole,.hole,.hole],.cells false [.hole,(.view 2),.hole],.seq false],[1,2,2,2,2,2,2,1,1,1,0,2,2],[kM,.int .i64,kJ,.int .i64,.int .i64,.int .i64,.int .i64,kL,kK,kL,kM,.int .i64,.sl (.cons kZ (.cons kZ (.cons kZ (.cons kZ (.cons kZ (.cons kZ (.cons kZ (.cons kL (.cons kK (.one kL))))))))))]⟩⟩ [((.exit 2),⟨[11],⟨[(.ptr 0 0)],[.cells false [.hole,(.view 1),.hole],.seq false],[0,2,2],[kM,.int .i64,.sl (.cons kZ (.cons kZ (.cons kZ (.cons kZ (.cons kZ (.cons kZ (.cons kZ (.cons kL (.cons kK (.one kL))))))))))]⟩⟩)] (lp sw ze)
theorem Fs:UK OR (xY (zo Tryz.f27) [1,1,1,1,0,1,0,0,1,1,0,0,1,1,0]) Og:=vQ .run zt SW ob0
def Ny:Un:=lpU 2 [34,35,12,36,37,13,38,39,40,41,42,45,46,47,48,49,50,51,52,54,55,56,57,58,53,59,60,61,14,15,16,62,63,64,65,66,67,68,69,43,44,13,70,33] ⟨[0,2,4,9,11,32,33],⟨[.hole,.hole,(.ptr 0 0),.hole,(.ptr 1 0),.hole,.hole],[.cells true [.hole,.hole,.hole],.cells false [.hole,(.view 2),.hole],.seq false],[1,2,2,2,2,1,1,1,0,2,2],[kM,.int .i64,kJ,.int .i64,.int .i64,kL,kK,kL,kM,.int .i64,.sl (.cons kZ (.cons kZ (.cons kZ (.cons kZ (.cons kZ (.cons kZ (.cons kZ (.cons kL (.cons kK (.one kL))))))))))]⟩⟩ [((.exit 0),⟨[11],⟨[(.ptr 0 0)],[.cells false [.hole,(.view 1),.hole],.seq false],[0,2,2],[kM,.int .i64,.sl (.cons kZ (.cons kZ (.cons kZ (.cons kZ (.cons kZ (.cons kZ (.cons kZ (.cons kL (.cons kK (.one kL))))))))))]⟩⟩)] (lp t6 ze)
theorem FP:UK OR (xY (zo Tryz.f27) [1,1,1,1,0,1,0]) Ny:=vQ (.seq .run (.seq .run (.seq (.block (.seq .run (.seq .run (.block (.unit Og))))) .run))) zt SW (ob1 Fs ob0)
theorem zbU:SK 27 Mz:=yh (.seq .run (.seq .run (.seq .run (.seq .run (.seq (.seq .run (.block (.unit Ny))) .run))))) [.tmp 6,.tmp 7,.tmp 8] zd zt CN Tryz.func27 (ob1 FP ob0)
def Lk:ShC:=⟨⟨[.hole],[],[1],[kJ]⟩,⟨[(.view 0)],[.seq false],[2],[kJ]⟩,1,[],[],false,false,fun (x:jI)=>vY x⟩
theorem Lz:SK 104 Lk:=yh .run [.tmp 2] zd zt zb Tryz.func104 ob0
def Mf:ShC:=⟨⟨[.hole],[],[1],[kL]⟩,⟨[(.view 0)],[.seq false],[2],[kL]⟩,1,[],[],false,false,fun (x:jQ)=>sc x⟩
theorem A5:GD Mf [(104,.gen (qg [Lk]))]:=(gd1 Lz zb)
def US:=te tb gl A5 Mf Tryz.f57
theorem zez:VK US:=zq zd A5
def Pt:Un:=lpU 2 [5,6,7,8,11,12,13,14,15,16,17,18,19,20,21,22,23,24,25,3,9,10,4] ⟨[0,3,4],⟨[.hole,(.view 0),.hole],[.seq false],[1,2,2],[kL,.int .i64,kL]⟩⟩ [((.exit 0),⟨[3],⟨[(.view 0)],[.seq false],[2],[kL]⟩⟩)] (lp wK ze)
theorem HI:UK US (xY (zo Tryz.f57) [1,1,0,1,0]) Pt:=vQ .run zt zez ob0
theorem zbh:SK 57 Mf:=yh (.seq .run (.seq .run (.seq (.seq .run (.block (.unit Pt))) .run))) [.tmp 2] zd zt A5 Tryz.func57 (ob1 HI ob0)
def HV:ShC:=⟨⟨[.hole],[],[1],[kK]⟩,⟨[(.view 0)],[.seq false],[2],[kK]⟩,1,[],[],false,false,fun (x:jR)=>km x⟩
theorem Ce:GD HV [(104,.gen (qg [Lk]))]:=(gd1 Lz zb)
def Up:=te tb gl Ce HV Tryz.f58
theorem zed:VK Up:=zq zd Ce
def MJ:Un:=lpU 2 [5,6,7,8,11,12,13,14,15,16,17,18,3,9,10,4] ⟨[0,3,4],⟨[.hole,(.view 0),.hole],[.seq false],[1,2,2],[kK,.int .i64,kK]⟩⟩ [((.exit 0),⟨[3],⟨[(.view 0)],[.seq false],[2],[kK]⟩⟩)] (lp wH ze)
theorem HN:UK Up (xY (zo Tryz.f58) [1,1,0,1,0]) MJ:=vQ .run zt zed ob0
theorem zab:SK 58 HV:=yh (.seq .run (.seq .run (.seq (.seq .run (.block (.unit MJ))) .run))) [.tmp 2] zd zt Ce Tryz.func58 (ob1 HN ob0)
def TR:ShC:=⟨⟨[(.agg [.hole,.hole,.hole])],[],[1,1,1],[kL,kK,kL]⟩,⟨[(.agg [(.view 0),(.view 1),(.view 2)])],[.seq false,.seq false,.seq false],[2,2,2],[kL,kK,kL]⟩,1,[],[],false,false,fun (x:(jQ×jR×jQ))=>vK x.1 x.2.1 x.2.2⟩
theorem zaL:SK 28 TR:=yh .run [.cell 2 28] zd zt (gd1 zbh (gd1 zab zb)) Tryz.func28 ob0
def Pw:ShC:=⟨⟨[.hole],[],[1],[.sl (.cons kZ (.cons kZ (.cons kZ (.cons kZ (.cons kZ (.cons kZ (.cons kZ (.cons kL (.cons kK (.one kL))))))))))]⟩,⟨[(.view 0)],[.seq false],[2],[.sl (.cons kZ (.cons kZ (.cons kZ (.cons kZ (.cons kZ (.cons kZ (.cons kZ (.cons kL (.cons kK (.one kL))))))))))]⟩,1,[],[],false,false,fun (x:jT)=>ri x⟩
theorem CC:GD Pw [(28,.gen (qg [TR]))]:=(gd1 zaL zb)
def Ur:=te tb gl CC Pw Tryz.f8
theorem zeh:VK Ur:=zq zd CC
def Na:Un:=lpU 2 [6,7,8,9,12,13,14,15,5,16,17,18,19,20,21,22,23,3,10,11,4] ⟨[0,3,4],⟨[.hole,(.view 0),.hole],[.seq false],[1,2,2],[.sl (.cons kZ (.cons kZ (.cons kZ (.cons kZ (.cons kZ (.cons kZ (.cons kZ (.cons kL (.cons kK (.one kL)))))))))),.int .i64,.sl (.cons kZ (.cons kZ (.cons kZ (.cons kZ (.cons kZ (.cons kZ (.cons kZ (.cons kL (.cons kK (.one kL))))))))))]⟩⟩ [((.exit 0),⟨[3],⟨[(.view 0)],[.seq false],[2],[.sl (.cons kZ (.cons kZ (.cons kZ (.cons kZ (.cons kZ (.cons kZ (.cons kZ (.cons kL (.cons kK (.one kL))))))))))]⟩⟩)] (lp wg ze)
theorem FH:UK Ur (xY (zo Tryz.f8) [1,1,0,1,0]) Na:=vQ .run zt zeh ob0
theorem zaq:SK 8 Pw:=yh (.seq .run (.seq .run (.seq (.seq .run (.block (.unit Na))) .run))) [.tmp 2] zd zt CC Tryz.func8 (ob1 FH ob0)
def Tj:ShC:=⟨⟨[.hole,.hole,.hole,.hole],[],[1,1,1,1],[kM,.sl (.cons kZ (.cons kZ (.cons kZ (.cons kZ (.cons kZ (.cons kZ (.cons kZ (.cons kL (.cons kK (.one kL)))))))))),.int .i64,.int .i64]⟩,⟨[.hole],[],[2],[.bool]⟩,1,[],[],false,true,fun (x:(jS×jT×Int×Int))=>xJ x.1 x.2.1 x.2.2.1 x.2.2.2⟩
theorem zaA:SK 7 Tj:=yh .run [.tmp 8] zd zt (gd1 zaq (gdG H8 (gd1 HZ (gdG zao (gdG zb4 (gdG zbU zb)))))) Tryz.func7 ob0
end
end Go.Abs.Sc
