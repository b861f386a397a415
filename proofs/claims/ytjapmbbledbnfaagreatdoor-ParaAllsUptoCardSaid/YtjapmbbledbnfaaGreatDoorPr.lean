import Derived.Test.YtjapmbbledbnfaaGreatDoorFc
import Derived.Test.YtjapmbbledbnfaaGreatDoorQc
import Derived.Test.YtjapmbbledbnfaaGreatDoorXa
import Derived.Test.YtjapmbbledbnfaaGreatDoorProg
/-
 The functions make just that.
-/
namespace Go.Abs.Sz6
open Go Go.Abs Go.Abs.Q Go.Proofs
set_option maxRecDepth 100000
noncomputable section
abbrev kK:Ty:=.sl (.one (.sl (.one (.int .i64))))
abbrev kR:Tys:=.one (.sl (.one (.int .i64)))
abbrev kJ:Ty:=.sl (.one (.int .i64))
abbrev kI:Tys:=.one (.int .i64)
abbrev kZ:Ty:=.int .i64
abbrev kL:Ty:=.sl sR
abbrev kM:Ty:=.sl Dz
def tbl:List (Nat×TD):=[(3,.int .i64),
 (4,.bool),
 (9,.str),
 (22,.sl 121 Dz 40),
 (23,.sl 44 sR 32),
 (24,.sl 40 kR 24),
 (26,.st [(23,0),(24,1),(23,2)] 3),
 (28,.sl 68 (.cons kZ (.cons kZ (.cons kZ (.cons kZ (.cons kZ (.cons kZ (.cons kZ (.cons kL (.cons kK (.one kL)))))))))) 128),
 (40,.sl 3 kI 8),
 (44,.st [(4,0),(40,1)] 2),
 (65,.st [(22,0),(28,1),(3,2)] 3),
 (68,.st [(3,0),(3,1),(3,2),(3,3),(3,4),(3,5),(3,6),(26,7)] 10),
 (85,.sl 136 (.cons kZ kR) 32),
 (121,.st [(9,0),(3,1),(3,2),(3,3)] 4),
 (130,.arr 40 kR 48),
 (132,.st [(130,0)] 48),
 (136,.st [(3,0),(40,1)] 2),
 (144,.st [(40,0),(3,1)] 2),
 (145,.arr 144 (.cons (.ns kI) kI) 48),
 (147,.st [(22,0),(145,1)] 97),
 (158,.arr 3 kI 24),
 (161,.sl 164 (.cons kJ (.cons kZ (.cons kJ kI))) 64),
 (164,.fa 144 2 2),
 (168,.sl 24 (.one kK) 24),
 (170,.sl 23 (.one kL) 24),
 (180,.int .u64),
 (183,.arr 4 (.one .bool) 48),
 (184,.sl 144 (.cons kJ kI) 32)]
def tb:Tb:=Ts tbl
theorem zc:uW Tryz.prog tb:=RP (by kernel_rfl)
theorem zl:Tryz.prog.follows .mixedOrders=true:=by kernel_rfl
def gl:Gl:=fun q=>cond (Nat.beq q 0) (some ⟨Dz,(([61],0,2,1):zj)⟩) (none)
abbrev SK:=ShOk Tryz.prog gl
abbrev UK:=UnA Tryz.prog
abbrev VK:=VAll Tryz.prog
abbrev GD (c:ShC):=Xh Tryz.prog (cond c.glob gl fun _=>none)
def zgz:ShC:=⟨⟨[.hole],[],[1],[kJ]⟩,⟨[(.view 0)],[.seq false],[2],[kJ]⟩,1,[],[],false,false,fun (x:jI)=>wS x⟩
theorem zc1:SK 55 zgz:=z5 .run [.tmp 2] zc zl za Tryz.func55 ob0
def zgV:ShC:=⟨⟨[.hole],[],[1],[kL]⟩,⟨[(.view 0)],[.seq false],[2],[kL]⟩,1,[],[],false,false,fun (x:jQ)=>tn x⟩
theorem zcp:GD zgV [(55,.gen (yu [zgz]))]:=(gd1 zc1 za)
def zh7:=wZ tb gl zcp zgV Tryz.f23
theorem zii:VK zh7:=zh zc zcp
def zfC:Un:=lpU 2 [5,6,7,8,11,12,13,14,15,16,17,18,19,20,21,22,23,24,25,3,9,10,4] ⟨[0,3,4],⟨[.hole,(.view 0),.hole],[.seq false],[1,2,2],[kL,.int .i64,kL]⟩⟩ [((.exit 0),⟨[3],⟨[(.view 0)],[.seq false],[2],[kL]⟩⟩)] (lp xS ze)
theorem R5:UK zh7 (yL (zg Tryz.f23) [1,1,0,1,0]) zfC:=qI .run zl zii ob0
theorem zhu:SK 23 zgV:=z5 (.seq .run (.seq .run (.seq (.seq .run (.block (.unit zfC))) .run))) [.tmp 2] zc zl zcp Tryz.func23 (ob1 R5 ob0)
def zgT:ShC:=⟨⟨[.hole],[],[1],[kK]⟩,⟨[(.view 0)],[.seq false],[2],[kK]⟩,1,[],[],false,false,fun (x:jR)=>rj x⟩
theorem zag:GD zgT [(55,.gen (yu [zgz]))]:=(gd1 zc1 za)
def zh8:=wZ tb gl zag zgT Tryz.f24
theorem zir:VK zh8:=zh zc zag
def zfX:Un:=lpU 2 [5,6,7,8,11,12,13,14,15,16,17,18,3,9,10,4] ⟨[0,3,4],⟨[.hole,(.view 0),.hole],[.seq false],[1,2,2],[kK,.int .i64,kK]⟩⟩ [((.exit 0),⟨[3],⟨[(.view 0)],[.seq false],[2],[kK]⟩⟩)] (lp xN ze)
theorem PU:UK zh8 (yL (zg Tryz.f24) [1,1,0,1,0]) zfX:=qI .run zl zir ob0
theorem zgH:SK 24 zgT:=z5 (.seq .run (.seq .run (.seq (.seq .run (.block (.unit zfX))) .run))) [.tmp 2] zc zl zag Tryz.func24 (ob1 PU ob0)
def zic:ShC:=⟨⟨[(.agg [.hole,.hole,.hole])],[],[1,1,1],[kL,kK,kL]⟩,⟨[(.agg [(.view 0),(.view 1),(.view 2)])],[.seq false,.seq false,.seq false],[2,2,2],[kL,kK,kL]⟩,1,[],[],false,false,fun (x:(jQ×jR×jQ))=>qZ x.1 x.2.1 x.2.2⟩
theorem zgC:SK 6 zic:=z5 .run [.cell 2 26] zc zl (gd1 zhu (gd1 zgH za)) Tryz.func6 ob0
def zh4:ShC:=⟨⟨[.hole],[],[1],[.int .u8]⟩,⟨[.hole],[],[2],[.bool]⟩,1,[],[],false,false,fun (x:Int)=>rC x⟩
theorem zhh:SK 144 zh4:=z5 .run [.tmp 2] zc zl za Tryz.func144 ob0
def zhg:ShC:=⟨⟨[.hole],[],[1],[.str]⟩,⟨[.hole],[],[2],[.bool]⟩,1,[],[],false,false,fun (x:Str)=>ju x⟩
theorem zaG:GD zhg [(144,.gen (yu [zh4]))]:=(gd1 zhh za)
def zh3:=wZ tb gl zaG zhg Tryz.f124
theorem zif:VK zh3:=zh zc zaG
def ze1:Un:=lpU 2 [20,21,3,22,23,24,25,26,27,28,29,30,31,32,33,34,35,36,37,38,2,39,19] ⟨[0,18,19],⟨[.hole,.hole,.hole],[],[2,2,2],[.str,.int .i64,.int .i64]⟩⟩ [((.exit 0),⟨[],⟨[],[],[],[]⟩⟩),(.ret,⟨[2],⟨[.hole],[],[2],[.bool]⟩⟩)] (lp vl ze)
theorem P4:UK zh3 (yL (zg Tryz.f124) [1,1,0,1,0]) ze1:=qI .run zl zif ob0
theorem zhx:SK 124 zhg:=z5 (.seq .run (.seq .run (.seq (.seq .run (.block (.unit ze1))) .run))) [.tmp 2] zc zl zaG Tryz.func124 (ob1 P4 ob0)
def zh1:ShC:=⟨⟨[(.agg [.hole,.hole,.hole,.hole])],[],[1,1,1,1],[.str,.int .i64,.int .i64,.int .i64]⟩,⟨[.hole],[],[2],[.bool]⟩,1,[],[],false,false,fun (x:zj)=>ke x.1 x.2.1 x.2.2.1 x.2.2.2⟩
theorem zhs:SK 89 zh1:=z5 .run [.tmp 2] zc zl (gd1 zhx za) Tryz.func89 ob0
def zgw:ShC:=⟨⟨[.hole,.hole],[],[1,1],[kM,.str]⟩,⟨[.hole],[],[2],[.int .i64]⟩,1,[],[],false,false,fun (x:(jS×Str))=>ZT x.1 x.2⟩
theorem zaj:GD zgw []:=za
def zid:=wZ tb gl zaj zgw Tryz.f90
theorem zig:VK zid:=zh zc zaj
def zda:Un:=lpU 2 [9,10,5,11,12,13,14,15,16,17,18,4,19,8] ⟨[0,1,7,8],⟨[.hole,.hole,.hole,.hole],[],[1,2,2,2],[kM,.str,.int .i64,.int .i64]⟩⟩ [((.exit 0),⟨[],⟨[],[],[],[]⟩⟩),(.ret,⟨[4],⟨[.hole],[],[2],[.int .i64]⟩⟩)] (lp uK ze)
theorem P0:UK zid (yL (zg Tryz.f90) [1,0,1,0]) zda:=qI .run zl zig ob0
theorem zhR:SK 90 zgw:=z5 (.seq .run (.seq (.seq .run (.block (.unit zda))) .run)) [.tmp 4] zc zl zaj Tryz.func90 (ob1 P0 ob0)
def zgk:ShC:=⟨⟨[.hole],[],[1],[kM]⟩,⟨[.hole],[],[2],[.bool]⟩,1,[],[],false,true,fun (x:jS)=>YD x⟩
theorem zcr:GD zgk [(89,.gen (yu [zh1])),(90,.gen (yu [zgw]))]:=(gd1 zhs (gd1 zhR za))
def zh5:=wZ tb gl zcr zgk Tryz.f44
theorem zim:VK zh5:=zh zc zcr
def ze3:Un:=lpU 2 [19,20,21,22,25,26,27,28,29,30,31,32,33,34,35,36,37,38,39,40,41,2,23,24,3] ⟨[0,3],⟨[.hole,.hole],[],[1,2],[kM,.int .i64]⟩⟩ [((.exit 0),⟨[],⟨[],[],[],[]⟩⟩),(.ret,⟨[2],⟨[.hole],[],[2],[.bool]⟩⟩)] (lp uq ze)
theorem P6:UK zh5 (yL (zg Tryz.f44) [1,1,0,1,0]) ze3:=qI .run zl zim ob0
theorem zaR:SK 44 zgk:=z5 (.seq .run (.seq .run (.seq (.seq .run (.block (.unit ze3))) .run))) [.tmp 2] zc zl zcr Tryz.func44 (ob1 P6 ob0)
def zdX:ShC:=⟨⟨[.hole],[],[1],[.int .i64]⟩,⟨[.hole],[],[2],[.int .i64]⟩,1,[],[],false,false,fun (x:Int)=>yd x⟩
theorem Bp:SK 107 zdX:=z5 .run [.tmp 2] zc zl za Tryz.func107 ob0
def zcP:ShC:=⟨⟨[.hole,.hole],[],[1,1],[kM,.int .i64]⟩,⟨[.hole,.hole],[],[2,2],[.int .i64,.bool]⟩,2,[],[],false,false,fun (x:(jS×Int))=>Yd x.1 x.2⟩
theorem zdC:SK 102 zcP:=z5 .run [.tmp 4,.tmp 5] zc zl (gd1 Bp za) Tryz.func102 ob0
def FX:ShC:=⟨⟨[.hole,.hole,.hole],[],[1,1,1],[kM,kJ,.int .i64]⟩,⟨[.hole,.hole],[],[2,2],[.int .i64,.bool]⟩,2,[],[],false,false,fun (x:(jS×jI×Int))=>tv x.1 x.2.1 x.2.2⟩
theorem NN:GD FX [(102,.gen (yu [zcP]))]:=(gd1 zdC za)
def zcn:=wZ tb gl NN FX Tryz.f64
theorem zhc:VK zcn:=zh zc NN
def UH:Un:=scU zcn [8,11,12,13,14,6,7,16,17,18,19,20,21,15,22,23,9,10,24,25,6,7,26,27,2,28,29,30,31,8,32,33,34,6,7] [(.goto 0,⟨[0,1,2,8],⟨[.hole,.hole,.hole,.hole],[],[1,1,2,2],[kM,kJ,.int .i64,.int .i64]⟩⟩)] [(.ret,⟨[6,7],⟨[.hole,.hole],[],[2,2],[.int .i64,.bool]⟩⟩)] (Ax (yL (zg Tryz.f64) [1])) .run (lp vG ze)
theorem Mk:UK zcn (yL (zg Tryz.f64) [1]) UH:=zgo [] zl zhc ob0 zgu
theorem Ca:SK 64 FX:=z5 (.seq .run (.unit UH)) [.tmp 6,.tmp 7] zc zl NN Tryz.func64 (ob1 Mk ob0)
def zb6:ShC:=⟨⟨[.hole,.hole],[],[1,1],[kM,kJ]⟩,⟨[(.view 0),.hole],[.seq false],[2,2],[.bool,kJ]⟩,2,[],[],false,true,fun (x:(jS×jI))=>tZ x.1 x.2⟩
theorem MI:GD zb6 [(44,.gen (yu [zgk])),(64,.gen (yu [FX]))]:=(gdG zaR (gd1 Ca za))
def zaY:=wZ tb gl MI zb6 Tryz.f85
theorem zgy:VK zaY:=zh zc MI
def Ub:Un:=scU zaY [10,11,12,13,14,15,16,17,4,5,6,7,18,19,20,21,22,4,5,24,25,26,27,23,28,29,8,9,30,31,4,5,32,33,34,35,6,36,7] [(.goto 0,⟨[0,1,6,7],⟨[.hole,.hole,(.view 0),.hole],[.seq false],[1,1,2,2],[kM,kJ,.int .i64,kJ]⟩⟩)] [(.ret,⟨[4,5],⟨[(.view 0),.hole],[.seq false],[2,2],[.bool,kJ]⟩⟩)] (Ax (yL (zg Tryz.f85) [1])) .run (lp v6 ze)
theorem O4:UK zaY (yL (zg Tryz.f85) [1]) Ub:=zgo [] zl zgy ob0 zgu
theorem LV:SK 85 zb6:=z5 (.seq .run (.unit Ub)) [.tmp 4,.tmp 5] zc zl MI Tryz.func85 (ob1 O4 ob0)
def zgQ:ShC:=⟨⟨[.hole,.hole],[],[1,1],[kM,kJ]⟩,⟨[.hole],[],[2],[.bool]⟩,1,[],[],false,true,fun (x:(jS×jI))=>wV x.1 x.2⟩
theorem Up:SK 41 zgQ:=z5 .run [.tmp 4] zc zl (gdG LV za) Tryz.func41 ob0
def zd3:ShC:=⟨⟨[.hole,(.agg [.hole,.hole])],[],[1,1,1],[kM,.bool,kJ]⟩,⟨[.hole],[],[2],[.bool]⟩,1,[],[],false,true,fun (x:(jS×Bool×jI))=>Zm x.1 x.2.1 x.2.2⟩
theorem Hu:SK 58 zd3:=z5 .run [.tmp 4] zc zl (gdG Up za) Tryz.func58 ob0
def zaS:ShC:=⟨⟨[.hole,.hole],[],[1,1],[kM,kL]⟩,⟨[.hole,.hole],[],[2,2],[.int .i64,.bool]⟩,2,[],[],false,true,fun (x:(jS×jQ))=>ub x.1 x.2⟩
theorem Of:GD zaS [(58,.gen (yu [zd3]))]:=(gdG Hu za)
def zf2:=wZ tb gl Of zaS Tryz.f45
theorem zhF:VK zf2:=zh zc Of
def SH:Un:=lpU 2 [12,13,14,8,15,16,17,18,4,5,19,20,21,22,23,6,24,11] ⟨[0,6,9,10,11],⟨[.hole,.hole,.hole,.hole,.hole],[],[1,2,1,2,2],[kM,.int .i64,kL,.int .i64,.int .i64]⟩⟩ [((.exit 0),⟨[6],⟨[.hole],[],[2],[.int .i64]⟩⟩),(.ret,⟨[4,5],⟨[.hole,.hole],[],[2,2],[.int .i64,.bool]⟩⟩)] (lp xl ze)
theorem OG:UK zf2 (yL (zg Tryz.f45) [1,1,0,1,0]) SH:=qI .run zl zhF ob0
theorem zfP:SK 45 zaS:=z5 (.seq .run (.seq .run (.seq (.seq .run (.block (.unit SH))) .run))) [.tmp 4,.tmp 5] zc zl Of Tryz.func45 (ob1 OG ob0)
def zbY:ShC:=⟨⟨[.hole,.hole],[],[1,1],[kM,kJ]⟩,⟨[.hole,.hole],[],[2,2],[.int .i64,.int .i64]⟩,2,[],[],false,true,fun (x:(jS×jI))=>j9 x.1 x.2⟩
theorem UO:SK 91 zbY:=z5 .run [.tmp 4,.tmp 5] zc zl (gdG LV za) Tryz.func91 ob0
def zbZ:ShC:=⟨⟨[.hole,.hole],[],[1,1],[kM,kK]⟩,⟨[.hole,.hole],[],[2,2],[.int .i64,.bool]⟩,2,[],[],false,true,fun (x:(jS×jR))=>su x.1 x.2⟩
theorem M9:GD zbZ [(91,.gen (yu [zbY]))]:=(gdG UO za)
def zdM:=wZ tb gl M9 zbZ Tryz.f46
theorem zgD:VK zdM:=zh zc M9
def SM:Un:=lpU 2 [15,16,17,18,8,9,20,21,22,19,23,24,10,11,25,26,27,7,28,29,30,31,32,33,34,4,5,35,36,37,38,6,39,14] ⟨[0,6,7,12,13,14],⟨[.hole,.hole,.hole,.hole,.hole,.hole],[],[1,2,2,1,2,2],[kM,.int .i64,.int .i64,kK,.int .i64,.int .i64]⟩⟩ [((.exit 0),⟨[6],⟨[.hole],[],[2],[.int .i64]⟩⟩),(.ret,⟨[4,5],⟨[.hole,.hole],[],[2,2],[.int .i64,.bool]⟩⟩)] (lp xn ze)
theorem N7:UK zdM (yL (zg Tryz.f46) [1,1,0,1,0]) SM:=qI .run zl zgD ob0
theorem zgj:SK 46 zbZ:=z5 (.seq .run (.seq .run (.seq (.seq .run (.block (.unit SM))) .run))) [.tmp 4,.tmp 5] zc zl M9 Tryz.func46 (ob1 N7 ob0)
def Rm:ShC:=⟨⟨[.hole,(.agg [.hole,.hole,.hole])],[],[1,1,1,1],[kM,kL,kK,kL]⟩,⟨[.hole],[],[2],[.bool]⟩,1,[],[],false,true,fun (x:(jS×jQ×jR×jQ))=>wG x.1 x.2.1 x.2.2.1 x.2.2.2⟩
theorem Jo:SK 15 Rm:=z5 .run [.tmp 4] zc zl (gdG zaR (gdG zfP (gdG zgj za))) Tryz.func15 ob0
def zdG:ShC:=⟨⟨[(.agg [.hole,.hole]),(.ptr 0 0)],[.cells true [.hole]],[1,1,1],[.bool,kJ,kM]⟩,⟨[.hole],[],[2],[.bool]⟩,1,[],[],false,true,fun (x:(Bool×jI×jS))=>j7 x.1 x.2.1 x.2.2⟩
theorem zcJ:SK 57 zdG:=z5 .run [.tmp 3] zc zl (gdG Hu za) Tryz.func57 ob0
def zck:ShC:=⟨⟨[.hole,(.clo 57 [(.ptr 0 0)])],[.cells true [.hole]],[1,1],[kL,kM]⟩,⟨[.hole],[],[2],[.int .i64]⟩,1,[],[],false,true,fun (x:(jQ×jS))=>tA x.1 x.2⟩
theorem MG:GD zck [(57,.gen (yu [zdG]))]:=(gdG zcJ za)
def zgi:=wZ tb gl MG zck Tryz.f98
theorem zhA:VK zgi:=zh zc MG
def Uw:Un:=lpU 2 [9,10,5,11,12,13,14,15,16,17,4,18,8] ⟨[0,1,7,8],⟨[.hole,(.clo 57 [(.ptr 0 0)]),.hole,.hole],[.cells true [.hole]],[1,2,2,1],[kL,.int .i64,.int .i64,kM]⟩⟩ [((.exit 0),⟨[],⟨[],[],[],[]⟩⟩),(.ret,⟨[4],⟨[.hole],[],[2],[.int .i64]⟩⟩)] (lp y0 ze)
theorem OP:UK zgi (yL (zg Tryz.f98) [1,0,1,0]) Uw:=qI .run zl zhA ob0
theorem zdE:SK 98 zck:=z5 (.seq .run (.seq (.seq .run (.block (.unit Uw))) .run)) [.tmp 4] zc zl MG Tryz.func98 (ob1 OP ob0)
def zdR:ShC:=⟨⟨[.hole,(.clo 57 [(.ptr 0 0)])],[.cells true [.hole]],[1,1],[kL,kM]⟩,⟨[.hole],[],[2],[.bool]⟩,1,[],[],false,true,fun (x:(jQ×jS))=>vz x.1 x.2⟩
theorem ze5:SK 56 zdR:=z5 .run [.tmp 4] zc zl (gdG zdE za) Tryz.func56 ob0
def zgG:ShC:=⟨⟨[.hole,.hole],[],[1,1],[kM,kJ]⟩,⟨[.hole],[],[2],[.bool]⟩,1,[],[],false,true,fun (x:(jS×jI))=>ur x.1 x.2⟩
theorem zc7:SK 40 zgG:=z5 .run [.tmp 4] zc zl (gdG LV za) Tryz.func40 ob0
def R1:ShC:=⟨⟨[.hole,.hole],[],[1,1],[kJ,kJ]⟩,⟨[.hole],[],[2],[.bool]⟩,1,[],[],false,false,fun (x:(jI×jI))=>yk x.1 x.2⟩
theorem HV:GD R1 []:=za
def zfu:=wZ tb gl HV R1 Tryz.f42
theorem zhz:VK zfu:=zh zc HV
def U7:Un:=lpU 2 [14,15,5,16,17,18,19,20,21,22,23,24,4,25,13] ⟨[0,1,12,13],⟨[.hole,.hole,.hole,.hole],[],[1,1,2,2],[kJ,kJ,.int .i64,.int .i64]⟩⟩ [((.exit 0),⟨[],⟨[],[],[],[]⟩⟩),(.ret,⟨[4],⟨[.hole],[],[2],[.bool]⟩⟩)] (lp wJ ze)
theorem FU:UK zfu (yL (zg Tryz.f42) [1,1,0,1,0]) U7:=qI .run zl zhz ob0
theorem Jk:SK 42 R1:=z5 (.seq .run (.seq .run (.seq (.seq .run (.block (.unit U7))) .run))) [.tmp 4] zc zl HV Tryz.func42 (ob1 FU ob0)
def PJ:ShC:=⟨⟨[.hole],[],[1],[kJ]⟩,⟨[.hole],[],[2],[.ar kI 24]⟩,1,[],[],false,false,fun (x:jI)=>rO x⟩
theorem Ha:GD PJ [(107,.gen (yu [zdX]))]:=(gd1 Bp za)
def zdB:=wZ tb gl Ha PJ Tryz.f123
theorem zgU:VK zdB:=zh zc Ha
def Th:Un:=lpU 2 [8,9,10,4,11,12,13,14,15,16,17,18,19,7] ⟨[2,5,6,7],⟨[(.aptr 0),.hole,.hole,.hole],[.seq false],[1,2,2,2],[kJ,.int .i64,.int .i64,kJ]⟩⟩ [((.exit 0),⟨[2],⟨[(.aptr 0)],[.seq false],[2],[kJ]⟩⟩)] (lp vr ze)
theorem NI:UK zdB (yL (zg Tryz.f123) [1,0,1,0]) Th:=qI .run zl zgU ob0
theorem zdF:SK 123 PJ:=z5 (.seq .run (.seq (.seq .run (.block (.unit Th))) .run)) [.cell 2 158] zc zl Ha Tryz.func123 (ob1 NI ob0)
def PY:ShC:=⟨⟨[.hole,.hole],[],[1,1],[kJ,kJ]⟩,⟨[.hole],[],[2],[.bool]⟩,1,[],[],false,false,fun (x:(jI×jI))=>kr x.1 x.2⟩
theorem Oc:GD PY [(123,.gen (yu [PJ]))]:=(gd1 zdF za)
def zdV:=wZ tb gl Oc PY Tryz.f86
theorem zhW:VK zdV:=zh zc Oc
def S8:Un:=lpU 2 [13,14,7,15,16,17,18,19,20,21,4,22,12] ⟨[5,6,12],⟨[(.aptr 0),(.aptr 1),.hole],[.seq false,.seq false],[2,2,2],[.int .i64,kJ,kJ]⟩⟩ [((.exit 0),⟨[],⟨[],[],[],[]⟩⟩),(.ret,⟨[4],⟨[.hole],[],[2],[.bool]⟩⟩)] (lp xF ze)
theorem LW:UK zdV (yL (zg Tryz.f86) [1,1,0,1,0]) S8:=qI .run zl zhW ob0
theorem zgm:SK 86 PY:=z5 (.seq .run (.seq .run (.seq (.seq .run (.block (.unit S8))) .run))) [.tmp 4] zc zl Oc Tryz.func86 (ob1 LW ob0)
def Rc:ShC:=⟨⟨[.hole,.hole],[],[1,1],[kM,kJ]⟩,⟨[.hole],[],[2],[.int .i64]⟩,1,[],[],false,false,fun (x:(jS×jI))=>j4 x.1 x.2⟩
theorem O1:GD Rc []:=za
def zeP:=wZ tb gl O1 Rc Tryz.f87
theorem zgA:VK zeP:=zh zc O1
def TW:Un:=lpU 2 [11,12,13,7,14,15,16,17,5,18,19,20,21,22,23,24,5,25,10] ⟨[0,5,8,9,10],⟨[.hole,.hole,.hole,.hole,.hole],[],[1,2,1,2,2],[kM,.int .i64,kJ,.int .i64,.int .i64]⟩⟩ [((.exit 0),⟨[5],⟨[.hole],[],[2],[.int .i64]⟩⟩)] (lp t7 ze)
theorem FV:UK zeP (yL (zg Tryz.f87) [1,1,0,1,0]) TW:=qI .run zl zgA ob0
theorem zfe:SK 87 Rc:=z5 (.seq .run (.seq .run (.seq (.seq .run (.block (.unit TW))) .run))) [.tmp 4] zc zl O1 Tryz.func87 (ob1 FV ob0)
def Nv:ShC:=⟨⟨[.hole,.hole],[],[1,1],[kM,kJ]⟩,⟨[(.view 0)],[.seq false],[0],[kK]⟩,1,[],[],true,false,fun (x:(jS×jI))=>wN x.1 x.2⟩
theorem OC:GD Nv [(64,.gen (yu [FX]))]:=(gd1 Ca za)
def zfA:=wZ tb gl OC Nv Tryz.f101
theorem zhr:VK zfA:=zh zc OC
def SB:Un:=lpU 2 [9,10,11,12,14,15,16,17,13,18,19,7,8,20,21,22,4,23,24,25,26,27,28,29,5,30,6] ⟨[0,1,5,6],⟨[.hole,.hole,(.view 0),.hole],[.seq false],[1,1,2,0],[kM,kJ,.int .i64,kK]⟩⟩ [((.exit 0),⟨[5],⟨[(.view 0)],[.seq false],[0],[kK]⟩⟩),(.ret,⟨[4],⟨[(.view 0)],[.seq false],[0],[kK]⟩⟩)] (lp v7 ze)
theorem Hn:UK zfA (yL (zg Tryz.f101) [1,1,0,1,0]) SB:=qI .run zl zhr ob0
theorem Ai:SK 101 Nv:=z5 (.seq .run (.seq .run (.seq (.seq .run (.block (.unit SB))) .run))) [.tmp 4] zc zl OC Tryz.func101 (ob1 Hn ob0)
def Sj:ShC:=⟨⟨[.hole,.hole,.hole],[],[1,1,1],[kM,kJ,kJ]⟩,⟨[.hole,.hole],[],[0,0],[kJ,kJ]⟩,2,[],[],true,false,fun (x:(jS×jI×jI))=>Z0 x.1 x.2.1 x.2.2⟩
theorem HZ:GD Sj [(42,.gen (yu [R1])),(101,.gen (yu [Nv]))]:=(gd1 Jk (gd1 Ai za))
def zgb:=wZ tb gl HZ Sj Tryz.f88
theorem zhj:VK zgb:=zh zc HZ
def Ss:Un:=lpU 2 [19,20,21,22,9,10,23,24,25,26,27,28,29,30,31,32,33,34,35,36,37,38,39,40,6,7,41,18] ⟨[8,16,17,18],⟨[.hole,.hole,.hole,.hole],[],[0,0,2,2],[kK,kK,.int .i64,.int .i64]⟩⟩ [((.exit 0),⟨[],⟨[],[],[],[]⟩⟩),(.ret,⟨[6,7],⟨[.hole,.hole],[],[0,0],[kJ,kJ]⟩⟩)] (lp wD ze)
theorem FQ:UK zgb (yL (zg Tryz.f88) [1,1,0,1,0]) Ss:=qI .run zl zhj ob0
theorem ze9:SK 88 Sj:=z5 (.seq .run (.seq .run (.seq (.seq .run (.block (.unit Ss))) .run))) [.tmp 6,.tmp 7] zc zl HZ Tryz.func88 (ob1 FQ ob0)
def za4:ShC:=⟨⟨[.hole,.hole,.hole],[],[1,1,1],[kM,kJ,kJ]⟩,⟨[.hole],[],[2],[.bool]⟩,1,[],[],false,false,fun (x:(jS×jI×jI))=>xo x.1 x.2.1 x.2.2⟩
theorem M6:GD za4 [(86,.gen (yu [PY])),(87,.gen (yu [Rc])),(88,.gen (yu [Sj]))]:=(gd1 zgm (gd1 zfe (gd1 ze9 za)))
def zdZ:=wZ tb gl M6 za4 Tryz.f43
theorem zhp:VK zdZ:=zh zc M6
def UZ:Un:=lpU 2 [9,10,11,12,13,14,15,16,17,18,19,20,21,7,8,22,23,24,25,26,27,6,28,29,30,31,32,33,34,35,36,37,38,39,40,41,6,43,44,45,46,47,48,42,49,50,1,2] ⟨[0,1,2],⟨[.hole,.hole,.hole],[],[1,0,0],[kM,kJ,kJ]⟩⟩ [((.exit 0),⟨[],⟨[],[],[],[]⟩⟩),(.ret,⟨[6],⟨[.hole],[],[2],[.bool]⟩⟩)] (lp tH ze)
theorem HD:UK zdZ (yL (zg Tryz.f43) [1,0,0]) UZ:=qI .run zl zhp ob0
theorem zex:SK 43 za4:=z5 (.seq .run (.seq (.block (.unit UZ)) .run)) [.tmp 6] zc zl M6 Tryz.func43 (ob1 HD ob0)
def zhM:ShC:=⟨⟨[.hole,.hole,.hole],[],[1,1,1],[kM,kJ,kJ]⟩,⟨[.hole,.hole],[],[2,2],[.int .i64,.int .i64]⟩,2,[],[],false,true,fun (x:(jS×jI×jI))=>wc x.1 x.2.1 x.2.2⟩
theorem TR:SK 14 zhM:=z5 .run [.tmp 6,.tmp 7] zc zl (gdG zc7 (gdG Up (gd1 Jk (gd1 zex za)))) Tryz.func14 ob0
def zhb:ShC:=⟨⟨[.hole,(.agg [.hole,.hole]),(.agg [.hole,.hole])],[],[1,1,1,1,1],[kM,.bool,kJ,.bool,kJ]⟩,⟨[.hole,.hole],[],[2,2],[.int .i64,.int .i64]⟩,2,[],[],false,true,fun (x:(jS×Bool×jI×Bool×jI))=>Ze x.1 x.2.1 x.2.2.1 x.2.2.2.1 x.2.2.2.2⟩
theorem zfn:SK 60 zhb:=z5 .run [.tmp 6,.tmp 7] zc zl (gdG TR (gdG Hu za)) Tryz.func60 ob0
def zfJ:ShC:=⟨⟨[(.agg [.hole,.hole]),(.ptr 0 0),(.ptr 1 0)],[.cells true [.hole],.cells true [.hole,.hole]],[1,1,1,1,1],[.bool,kJ,kM,.bool,kJ]⟩,⟨[.hole],[],[2],[.bool]⟩,1,[],[],false,true,fun (x:(Bool×jI×jS×Bool×jI))=>Zl x.1 x.2.1 x.2.2.1 x.2.2.2.1 x.2.2.2.2⟩
theorem zel:SK 59 zfJ:=z5 .run [.tmp 4] zc zl (gdG zfn za) Tryz.func59 ob0
def zbG:ShC:=⟨⟨[.hole,(.clo 59 [(.ptr 0 0),(.ptr 1 0)])],[.cells true [.hole],.cells true [.hole,.hole]],[1,1,1,1],[kL,kM,.bool,kJ]⟩,⟨[.hole],[],[2],[.int .i64]⟩,1,[],[],false,true,fun (x:(jQ×jS×Bool×jI))=>uY x.1 x.2.1 x.2.2.1 x.2.2.2⟩
theorem Ou:GD zbG [(59,.gen (yu [zfJ]))]:=(gdG zel za)
def zeZ:=wZ tb gl Ou zbG Tryz.f98
theorem zhE:VK zeZ:=zh zc Ou
def Td:Un:=lpU 2 [9,10,5,11,12,13,14,15,16,17,4,18,8] ⟨[0,1,7,8],⟨[.hole,(.clo 59 [(.ptr 0 0),(.ptr 1 0)]),.hole,.hole],[.cells true [.hole],.cells true [.hole,.hole]],[1,2,2,1,2,1],[kL,.int .i64,.int .i64,kM,.bool,kJ]⟩⟩ [((.exit 0),⟨[],⟨[],[],[],[]⟩⟩),(.ret,⟨[4],⟨[.hole],[],[2],[.int .i64]⟩⟩)] (lp qb ze)
theorem H9:UK zeZ (yL (zg Tryz.f98) [1,0,1,0]) Td:=qI .run zl zhE ob0
theorem zer:SK 98 zbG:=z5 (.seq .run (.seq (.seq .run (.block (.unit Td))) .run)) [.tmp 4] zc zl Ou Tryz.func98 (ob1 H9 ob0)
def zef:ShC:=⟨⟨[.hole,(.clo 59 [(.ptr 0 0),(.ptr 1 0)])],[.cells true [.hole],.cells true [.hole,.hole]],[1,1,1,1],[kL,kM,.bool,kJ]⟩,⟨[.hole],[],[2],[.bool]⟩,1,[],[],false,true,fun (x:(jQ×jS×Bool×jI))=>qV x.1 x.2.1 x.2.2.1 x.2.2.2⟩
theorem zc3:SK 56 zef:=z5 .run [.tmp 4] zc zl (gdG zer za) Tryz.func56 ob0
def PE:ShC:=⟨⟨[.hole,.hole],[],[1,1],[kM,kL]⟩,⟨[(.view 0),.hole],[.seq false],[2,2],[.int .i64,kJ]⟩,2,[],[],false,true,fun (x:(jS×jQ))=>Xb x.1 x.2⟩
theorem Oj:GD PE [(44,.gen (yu [zgk])),(56,.gen (yu [zdR,zef]))]:=(gdG zaR (YF (W0 (QV ze5 (QV zc3 W5))) za))
def zfI:=wZ tb gl Oj PE Tryz.f25
theorem zg0:VK zfI:=zh zc Oj
def Uf:Un:=lpU 2 [20,21,22,23,8,7,24,25,26,27,28,29,30,31,6,32,19] ⟨[1,2,6,17,18,19],⟨[.hole,(.ptr 0 0),(.view 1),.hole,.hole,.hole],[.cells true [.hole],.seq false],[1,1,2,2,1,2],[kL,kL,.int .i64,.int .i64,kM,kJ]⟩⟩ [((.exit 0),⟨[6],⟨[(.view 0)],[.seq false],[2],[kJ]⟩⟩)] (lp se ze)
theorem O2:UK zfI (yL (zg Tryz.f25) [1,1,1,0,1,0]) Uf:=qI .run zl zg0 ob0
theorem zea:SK 25 PE:=z5 (.seq .run (.seq .run (.seq .run (.seq (.seq .run (.block (.unit Uf))) .run)))) [.tmp 4,.tmp 5] zc zl Oj Tryz.func25 (ob1 O2 ob0)
def zho:ShC:=⟨⟨[(.agg [.hole,.hole,.hole]),.hole,.hole],[],[1,1,1,1,1],[kL,kK,kL,.int .i64,.bool]⟩,⟨[.hole],[],[2],[.bool]⟩,1,[],[],false,false,fun (x:(jQ×jR×jQ×Int×Bool))=>vP x.1 x.2.1 x.2.2.1 x.2.2.2.1 x.2.2.2.2⟩
theorem MV:SK 28 zho:=z5 .run [.tmp 6] zc zl za Tryz.func28 ob0
def zbI:ShC:=⟨⟨[.hole,(.ptr 0 0)],[.cells true [.hole,.hole,.hole]],[1,1,1,1],[.int .i64,kL,kK,kL]⟩,⟨[.hole],[],[2],[.bool]⟩,1,[],[],false,false,fun (x:(Int×jQ×jR×jQ))=>rT x.1 x.2.1 x.2.2.1 x.2.2.2⟩
theorem TQ:SK 27 zbI:=z5 .run [.tmp 3] zc zl (gd1 MV za) Tryz.func27 ob0
def PQ:ShC:=⟨⟨[.hole,(.clo 27 [(.ptr 0 0)])],[.cells true [.hole,.hole,.hole]],[1,1,1,1],[kJ,kL,kK,kL]⟩,⟨[.hole],[],[2],[.int .i64]⟩,1,[],[],false,false,fun (x:(jI×jQ×jR×jQ))=>te x.1 x.2.1 x.2.2.1 x.2.2.2⟩
theorem NL:GD PQ [(27,.gen (yu [zbI]))]:=(gd1 TQ za)
def zdb:=wZ tb gl NL PQ Tryz.f61
theorem zgE:VK zdb:=zh zc NL
def TT:Un:=lpU 2 [9,10,5,11,12,13,14,15,16,17,4,18,8] ⟨[0,1,7,8],⟨[.hole,(.clo 27 [(.ptr 0 0)]),.hole,.hole],[.cells true [.hole,.hole,.hole]],[1,2,2,1,1,1],[kJ,.int .i64,.int .i64,kL,kK,kL]⟩⟩ [((.exit 0),⟨[],⟨[],[],[],[]⟩⟩),(.ret,⟨[4],⟨[.hole],[],[2],[.int .i64]⟩⟩)] (lp zV ze)
theorem MF:UK zdb (yL (zg Tryz.f61) [1,0,1,0]) TT:=qI .run zl zgE ob0
theorem zdv:SK 61 PQ:=z5 (.seq .run (.seq (.seq .run (.block (.unit TT))) .run)) [.tmp 4] zc zl NL Tryz.func61 (ob1 MF ob0)
def Rs:ShC:=⟨⟨[(.view 0),(.clo 27 [(.ptr 1 0)])],[.seq false,.cells true [.hole,.hole,.hole]],[1,1,1,1],[kJ,kL,kK,kL]⟩,⟨[(.view 0)],[.seq false],[0],[kJ]⟩,1,[],[],true,false,fun (x:(jI×jQ×jR×jQ))=>wU x.1 x.2.1 x.2.2.1 x.2.2.2⟩
theorem Mr:GD Rs [(27,.gen (yu [zbI])),(61,.gen (yu [PQ])),(1000041,.gen (yu []))]:=(gd1 TQ (gd1 zdv (gd0 1000041 za)))
def zcT:=wZ tb gl Mr Rs Tryz.f26
theorem zgF:VK zcT:=zh zc Mr
def zaa:Un:=lpU 2 [16,17,18,19,22,23,24,25,7,26,27,28,29,30,31,32,33,34,35,5,20,21,6] ⟨[0,1,5,6],⟨[(.view 0),(.clo 27 [(.ptr 1 0)]),.hole,.hole],[.seq false,.cells true [.hole,.hole,.hole]],[2,2,0,1,1,1],[.int .i64,.int .i64,kJ,kL,kK,kL]⟩⟩ [((.exit 0),⟨[0,5],⟨[(.view 0),.hole],[.seq false],[2,0],[.int .i64,kJ]⟩⟩)] (lp yc ze)
theorem Ll:UK zcT (yL (zg Tryz.f26) [1,1,1,0,1,0]) zaa:=qI .run zl zgF ob0
theorem zgc:SK 26 Rs:=z5 (.seq .run (.seq .run (.seq .run (.seq (.seq .run (.block (.unit zaa))) .run)))) [.tmp 4] zc zl Mr Tryz.func26 (ob1 Ll ob0)
def zcO:ShC:=⟨⟨[.nilv,.hole],[],[1],[.int .i64]⟩,⟨[(.view 0)],[.seq false],[2],[kL]⟩,1,[],[],false,false,fun (x:Int)=>rk x⟩
theorem zeB:SK 139 zcO:=z5 .run [.tmp 4] zc zl (gd0 1000025 za) Tryz.func139 ob0
def MN:ShC:=⟨⟨[.hole],[],[1],[.sl (.one kL)]⟩,⟨[(.view 0)],[.seq false],[0],[kL]⟩,1,[],[],true,false,fun (x:(List jQ))=>vF x⟩
theorem HR:GD MN [(139,.gen (yu [zcO]))]:=(gd1 zeB za)
def zbf:=wZ tb gl HR MN Tryz.f113
theorem zeM:VK zbf:=zh zc HR
def SZ:Un:=lpU 2 [28,29,30,8,31,32,33,6,34,27] ⟨[6,25,26,27],⟨[(.view 0),.hole,.hole,.hole],[.seq false],[1,2,2,0],[.sl (.one kL),.int .i64,.int .i64,kL]⟩⟩ [((.exit 2),⟨[6],⟨[(.view 0)],[.seq false],[0],[kL]⟩⟩)] (lp q8 ze)
theorem MC:UK zbf (yL (zg Tryz.f113) [1,1,1,1,0,1,0]) SZ:=qI .run zl zeM ob0
def Sx:Un:=lpU 2 [12,13,14,5,15,16,17,18,3,19,20,21,22,11] ⟨[0,3,9,10,11],⟨[.hole,.hole,.hole,.hole,.hole],[],[1,2,1,2,2],[.sl (.one kL),.int .i64,.sl (.one kL),.int .i64,.int .i64]⟩⟩ [((.exit 0),⟨[3],⟨[.hole],[],[2],[.int .i64]⟩⟩)] (lp q6 ze)
theorem Nz:UK zbf (yL (zg Tryz.f113) [1,1,0,1,0]) Sx:=qI .run zl zeM ob0
theorem S9:SK 113 MN:=z5 (.seq .run (.seq .run (.seq (.seq .run (.block (.unit Sx))) (.seq .run (.seq (.seq .run (.block (.unit SZ))) .run))))) [.tmp 2] zc zl HR Tryz.func113 (ob1 Nz (ob1 MC ob0))
def zhn:ShC:=⟨⟨[.hole],[],[1],[.int .i64]⟩,⟨[.hole],[],[2],[.bool]⟩,1,[],[],false,false,fun (x:Int)=>Q9 x⟩
theorem zfq:SK 160 zhn:=z5 .run [.tmp 2] zc zl za Tryz.func160 ob0
def zf3:ShC:=⟨⟨[.hole,.hole],[],[1,1],[.int .i64,.int .i64]⟩,⟨[.hole],[],[2],[.bool]⟩,1,[],[],false,false,fun (x:(Int×Int))=>WZ x.1 x.2⟩
theorem zfr:SK 156 zf3:=z5 .run [.tmp 4] zc zl (gd1 zfq za) Tryz.func156 ob0
def zeV:ShC:=⟨⟨[.hole],[],[1],[.int .i64]⟩,⟨[.hole],[],[2],[.bool]⟩,1,[],[],false,false,fun (x:Int)=>sJ x⟩
theorem zfi:SK 157 zeV:=z5 .run [.tmp 2] zc zl za Tryz.func157 ob0
def Sa:ShC:=⟨⟨[.hole,.hole],[],[1,1],[kJ,.int .i64]⟩,⟨[.hole,.hole],[],[2,2],[.int .i64,.bool]⟩,2,[],[],false,false,fun (x:(jI×Int))=>xt x.1 x.2⟩
theorem O8:GD Sa [(156,.gen (yu [zf3])),(157,.gen (yu [zeV]))]:=(gd1 zfr (gd1 zfi za))
def zfY:=wZ tb gl O8 Sa Tryz.f148
theorem zg5:VK zfY:=zh zc O8
def SU:Un:=lpU 2 [13,14,15,16,17,18,19,20,21,9,22,23,24,25,26,27,28,29,7,30,8] ⟨[0,1,6,7,8],⟨[.hole,.hole,.hole,.hole,.hole],[],[1,2,2,2,2],[kJ,.int .i64,.int .i64,.int .i64,.int .i64]⟩⟩ [((.exit 0),⟨[7],⟨[.hole],[],[2],[.int .i64]⟩⟩)] (lp yI ze)
theorem FT:UK zfY (yL (zg Tryz.f148) [1,1,1,0,0]) SU:=qI .run zl zg5 ob0
theorem zeE:SK 148 Sa:=z5 (.seq .run (.seq .run (.seq .run (.seq (.block (.unit SU)) .run)))) [.tmp 4,.tmp 5] zc zl O8 Tryz.func148 (ob1 FT ob0)
def KL:Go.Shelf.Ren:={ f:=fun x=>match x with | 21=>149 | 27=>158 | 28=>159 | 35=>161 | 39=>162 | n=>n,t:=fun x=>match x with | 22=>40 | 3=>3 | 4=>4 | 0=>0 | n=>n,g:=fun x=>x }
theorem XD:Go.Proofs.Lays2.n21 Tryz.prog KL where
 mixed:=by kernel_rfl
 f21:=Tryz.func149.trans (by kernel_rfl)
 f27:=Tryz.func158.trans (by kernel_rfl)
 f28:=Tryz.func159.trans (by kernel_rfl)
 f35:=Tryz.func161.trans (by kernel_rfl)
 f39:=Tryz.func162.trans (by kernel_rfl)
 t0:=Tryz.underlying0
 a0:=Tryz.isAgg0
 z0:=Tryz.sizeOf0
 v0:=Tryz.zeroValue0
 t3:=Tryz.underlying3
 a3:=Tryz.isAgg3
 z3:=Tryz.sizeOf3
 v3:=Tryz.zeroValue3
 t4:=Tryz.underlying4
 a4:=Tryz.isAgg4
 z4:=Tryz.sizeOf4
 v4:=Tryz.zeroValue4
 t22:=Tryz.underlying40
 a22:=Tryz.isAgg40
 z22:=Tryz.sizeOf40
 v22:=Tryz.zeroValue40
 i3:=by kernel_rfl
def zdw:ShC:=insC
theorem zf0:SK 149 zdw :=
 FB (code:=zg Tryz.f149) Tryz.func149 (by kernel_rfl) (by kernel_rfl) XD rfl
def P7:ShC:=⟨⟨[(.view 0),.hole],[.seq false],[1,1],[kJ,kJ]⟩,⟨[(.view 0)],[.seq false],[0],[kJ]⟩,1,[],[],true,false,fun (x:(jI×jI))=>uv x.1 x.2⟩
theorem Oy:GD P7 [(107,.gen (yu [zdX])),(148,.gen (yu [Sa])),(149,.gen (yu [zdw]))]:=(gd1 Bp (gd1 zeE (gd1 zf0 za)))
def zei:=wZ tb gl Oy P7 Tryz.f127
theorem zhf:VK zei:=zh zc Oy
def Uy:Un:=lpU 2 [12,13,14,6,15,16,18,19,20,21,17,22,23,7,8,24,25,26,27,28,29,30,31,0,32,11] ⟨[0,9,10,11],⟨[(.view 0),.hole,.hole,.hole],[.seq false],[1,2,2,0],[kJ,.int .i64,.int .i64,kJ]⟩⟩ [((.exit 0),⟨[0],⟨[(.view 0)],[.seq false],[0],[kJ]⟩⟩)] (lp vf ze)
theorem Ox:UK zei (yL (zg Tryz.f127) [1,0,1,0]) Uy:=qI .run zl zhf ob0
theorem zdk:SK 127 P7:=z5 (.seq .run (.seq (.seq .run (.block (.unit Uy))) .run)) [.tmp 4] zc zl Oy Tryz.func127 (ob1 Ox ob0)
def zbc:ShC:=⟨⟨[.hole,(.agg [.hole,.hole,.hole])],[],[1,1,1,1],[kM,kL,kK,kL]⟩,⟨[(.view 0),.hole],[.seq false],[2,0],[.int .i64,kJ]⟩,2,[],[],true,true,fun (x:(jS×jQ×jR×jQ))=>qn x.1 x.2.1 x.2.2.1 x.2.2.2⟩
theorem OS:GD zbc [(15,.gen (yu [Rm])),(113,.gen (yu [MN])),(127,.gen (yu [P7]))]:=(gdG Jo (gd1 S9 (gd1 zdk za)))
def zbK:=wZ tb gl OS zbc Tryz.f99
theorem zee:VK zbK:=zh zc OS
def SE:Un:=lpU 2 [35,36,37,10,38,39,40,6,41,34] ⟨[6,32,33,34],⟨[(.view 0),.hole,.hole,.hole],[.seq false],[1,2,2,0],[kK,.int .i64,.int .i64,kJ]⟩⟩ [((.exit 2),⟨[6],⟨[(.view 0)],[.seq false],[0],[kJ]⟩⟩)] (lp vh ze)
theorem LY:UK zbK (yL (zg Tryz.f99) [1,1,1,1,0,1,0]) SE:=qI .run zl zee ob0
def UV:Un:=lpU 2 [23,24,25,8,26,27,28,29,6,30,22] ⟨[3,6,20,21,22],⟨[(.ptr 0 0),(.view 1),.hole,.hole,.hole],[.cells true [.hole,.hole,.hole],.seq false],[0,2,2,1,1,1,0],[kL,.int .i64,.int .i64,kL,kK,kL,kJ]⟩⟩ [((.exit 0),⟨[6],⟨[(.view 0)],[.seq false],[0],[kJ]⟩⟩)] (lp vo ze)
theorem Mx:UK zbK (yL (zg Tryz.f99) [1,1,1,0,1,0]) UV:=qI .run zl zee ob0
theorem zfL:SK 99 zbc:=z5 (.seq .run (.seq .run (.seq .run (.seq (.seq .run (.block (.unit UV))) (.seq (.seq .run (.block (.unit SE))) .run))))) [.tmp 4,.tmp 5] zc zl OS Tryz.func99 (ob1 Mx (ob1 LY ob0))
def zhl:ShC:=⟨⟨[.hole],[],[1],[.ns kI]⟩,⟨[(.view 0)],[.seq false],[2],[kJ]⟩,1,[],[],false,false,fun (x:(Option jI))=>Yp x⟩
theorem zeR:SK 105 zhl:=z5 .run [.tmp 2] zc zl za Tryz.func105 ob0
def zgK:ShC:=⟨⟨[.nilv],[],[],[]⟩,⟨[(.view 0)],[.seq false],[2],[kJ]⟩,1,[],[],false,false,fun (_:Unit)=>KX⟩
theorem zfm:SK 105 zgK:=z5 .run [.tmp 2] zc zl za Tryz.func105 ob0
def PW:ShC:=⟨⟨[.hole],[],[1],[kJ]⟩,⟨[(.view 0)],[.seq false],[2],[kJ]⟩,1,[],[],false,false,fun (x:jI)=>vN x⟩
theorem Mm:SK 105 PW :=
 zeh zfm zeR fun xs y h=>⟨h,fun e=>by subst e; exact h⟩
def Pk:ShC:=⟨⟨[.hole,(.ptr 0 0)],[.cells true [.hole]],[1,1],[kJ,.int .i64]⟩,⟨[(.view 0)],[.seq false],[2],[kJ]⟩,1,[],[],false,false,fun (x:(jI×Int))=>qo x.1 x.2⟩
theorem Hd:GD Pk [(105,.gen (yu [PW]))]:=(gd1 Mm za)
def zem:=wZ tb gl Hd Pk Tryz.f128
theorem zhY:VK zem:=zh zc Hd
def UX:Un:=lpU 2 [12,13,14,15,5,6,16,17,18,19,20,21,22,23,24,11] ⟨[1,4,9,10,11],⟨[(.ptr 0 0),(.view 1),(.view 1),.hole,.hole],[.cells true [.hole],.seq false],[2,2,2,2],[.int .i64,.int .i64,.int .i64,kJ]⟩⟩ [((.exit 0),⟨[4],⟨[(.view 0)],[.seq false],[2],[kJ]⟩⟩)] (lp qh ze)
theorem Ow:UK zem (yL (zg Tryz.f128) [1,1,0,1,0]) UX:=qI .run zl zhY ob0
theorem zfU:SK 128 Pk:=z5 (.seq .run (.seq .run (.seq (.seq .run (.block (.unit UX))) .run))) [.tmp 3] zc zl Hd Tryz.func128 (ob1 Ow ob0)
def zaJ:ShC:=⟨⟨[(.agg [.hole,.hole,.hole]),(.clo 128 [(.ptr 0 0)])],[.cells true [.hole]],[1,1,1,1],[kL,kK,kL,.int .i64]⟩,⟨[(.agg [(.view 0),(.view 1),(.view 2)])],[.seq false,.seq false,.seq false],[2,2,2],[kL,kK,kL]⟩,1,[],[],false,false,fun (x:(jQ×jR×jQ×Int))=>jJ x.1 x.2.1 x.2.2.1 x.2.2.2⟩
theorem FY:GD zaJ [(128,.gen (yu [Pk]))]:=(gd1 zfU za)
def Pj:=wZ tb gl FY zaJ Tryz.f110
theorem zaq:VK Pj:=zh zc FY
def SD:Un:=lpU 2 [52,53,54,11,55,56,57,58,59,60,61,62,63,64,65,66,67,51] ⟨[1,4,5,49,50,51],⟨[(.clo 128 [(.ptr 0 0)]),(.ptr 1 0),(.ptr 2 0),.hole,.hole,.hole],[.cells true [.hole],.cells true [.nilv,.nilv,.nilv],.cells false [(.view 3),(.view 4),(.view 5)],.seq false,.seq false,.seq false],[1,2,2,2,2,2,2],[kL,.int .i64,.int .i64,.int .i64,kL,kK,kL]⟩⟩ [((.exit 4),⟨[5],⟨[(.ptr 0 0)],[.cells false [(.view 1),(.view 2),(.view 3)],.seq false,.seq false,.seq false],[2,2,2],[kL,kK,kL]⟩⟩)] (lp xR ze)
theorem M0:UK Pj (yL (zg Tryz.f110) [1,1,1,1,0,1,0]) SD:=qI .run zl zaq ob0
def UT:Un:=lpU 2 [36,37,38,9,39,40,41,42,43,44,45,46,47,35] ⟨[1,2,4,5,33,34,35],⟨[(.clo 128 [(.ptr 0 0)]),(.ptr 1 0),(.ptr 2 0),(.ptr 3 0),.hole,.hole,.hole],[.cells true [.hole],.cells true [.hole,.hole,.hole],.cells true [.nilv,.nilv,.nilv],.cells false [(.view 4),(.view 5),.nilv],.seq false,.seq false],[1,2,2,2,1,1,1,2,2],[kK,.int .i64,.int .i64,.int .i64,kL,kK,kL,kL,kK]⟩⟩ [((.exit 2),⟨[5],⟨[(.ptr 0 0)],[.cells false [(.view 1),(.view 2),.nilv],.seq false,.seq false],[2,2],[kL,kK]⟩⟩)] (lp xX ze)
theorem Np:UK Pj (yL (zg Tryz.f110) [1,1,1,0,1,0]) UT:=qI .run zl zaq ob0
def UJ:Un:=lpU 2 [16,17,18,7,19,20,21,22,23,24,25,26,27,28,29,30,31,15] ⟨[1,2,4,5,13,14,15],⟨[(.clo 128 [(.ptr 0 0)]),(.ptr 1 0),(.ptr 2 0),(.ptr 3 0),.hole,.hole,.hole],[.cells true [.hole],.cells true [.hole,.hole,.hole],.cells true [.nilv,.nilv,.nilv],.cells false [(.view 4),.nilv,.nilv],.seq false],[1,2,2,2,1,1,1,2],[kL,.int .i64,.int .i64,.int .i64,kL,kK,kL,kL]⟩⟩ [((.exit 0),⟨[5],⟨[(.ptr 0 0)],[.cells false [(.view 1),.nilv,.nilv],.seq false],[2],[kL]⟩⟩)] (lp xY ze)
theorem LF:UK Pj (yL (zg Tryz.f110) [1,1,0,1,0]) UJ:=qI .run zl zaq ob0
theorem zfR:SK 110 zaJ:=z5 (.seq .run (.seq .run (.seq (.seq .run (.block (.unit UJ))) (.seq (.seq .run (.block (.unit UT))) (.seq (.seq .run (.block (.unit SD))) .run))))) [.cell 4 26] zc zl FY Tryz.func110 (ob1 LF (ob1 Np (ob1 M0 ob0)))
def zhX:ShC:=⟨⟨[(.agg [.hole,.hole,.hole]),.hole],[],[1,1,1,1],[kL,kK,kL,.int .i64]⟩,⟨[(.agg [(.view 0),(.view 1),(.view 2)])],[.seq false,.seq false,.seq false],[2,2,2],[kL,kK,kL]⟩,1,[],[],false,false,fun (x:(jQ×jR×jQ×Int))=>zC x.1 x.2.1 x.2.2.1 x.2.2.2⟩
theorem zen:SK 100 zhX:=z5 .run [.cell 4 26] zc zl (gd1 zfR za) Tryz.func100 ob0
def zgL:ShC:=⟨⟨[.hole,(.agg [.hole,.hole,.hole]),(.agg [.hole,.hole,.hole])],[],[1,1,1,1,1,1,1],[kM,kL,kK,kL,kL,kK,kL]⟩,⟨[(.agg [(.view 0),(.view 1),(.view 2)]),.hole],[.seq false,.seq false,.seq false],[2,2,2,2],[.bool,kL,kK,kL]⟩,2,[],[],false,true,fun (x:(jS×jQ×jR×jQ×jQ×jR×jQ))=>th x.1 x.2.1 x.2.2.1 x.2.2.2.1 x.2.2.2.2.1 x.2.2.2.2.2.1 x.2.2.2.2.2.2⟩
theorem zf1:SK 62 zgL:=z5 .run [.cell 6 26,.tmp 7] zc zl (gdG zfL (gd1 zen za)) Tryz.func62 ob0
def zhC:ShC:=⟨⟨[.hole,.hole],[],[1,1],[kM,kJ]⟩,⟨[(.view 0)],[.seq false],[0],[kK]⟩,1,[],[],true,false,fun (x:(jS×jI))=>uZ x.1 x.2⟩
theorem Uv:SK 63 zhC:=z5 .run [.tmp 4] zc zl (gd1 Ai za) Tryz.func63 ob0
def Rx:ShC:=⟨⟨[(.ptr 0 0),(.view 1),(.agg [.hole,.hole]),(.agg [.hole,.hole])],[.cells true [.hole,.hole],.seq false],[1,1,1,1,1,1,1],[kJ,.int .i64,kJ,.int .i64,kM,.ar (.cons (.ns kI) kI) 48,.sl (.cons kJ (.cons kZ (.cons kJ kI)))]⟩,⟨[(.view 0)],[.seq false],[0],[.sl (.cons kJ (.cons kZ (.cons kJ kI)))]⟩,1,[],[],true,false,fun (x:(jI×Int×jI×Int×jS×(List ((Option jI)×Int))×(List (jI×Int×jI×Int))))=>qB x.1 x.2.1 x.2.2.1 x.2.2.2.1 x.2.2.2.2.1 x.2.2.2.2.2.1 x.2.2.2.2.2.2⟩
theorem LQ:GD Rx [(101,.gen (yu [Nv]))]:=(gd1 Ai za)
def zd9:=wZ tb gl LQ Rx Tryz.f129
theorem zgS:VK zd9:=zh zc LQ
def TM:Un:=lpU 2 [29,30,11,31,32,33,34,35,36,37,38,39,40,41,42,43,44,45,46,47,48,1,49,28] ⟨[1,6,7,9,10,27,28],⟨[(.view 0),(.ptr 1 0),(.ptr 2 0),.hole,.hole,.hole,.hole],[.seq false,.cells true [.hole,.hole],.cells true [.hole,.hole]],[0,0,2,2,0,1,2,1,2],[kK,kK,.int .i64,.int .i64,.sl (.cons kJ (.cons kZ (.cons kJ kI))),kJ,.int .i64,kJ,.int .i64]⟩⟩ [((.exit 0),⟨[1],⟨[(.view 0)],[.seq false],[0],[.sl (.cons kJ (.cons kZ (.cons kJ kI)))]⟩⟩)] (lp qv ze)
theorem Mp:UK zd9 (yL (zg Tryz.f129) [1,1,0,1,0]) TM:=qI .run zl zgS ob0
theorem ze2:SK 129 Rx:=z5 (.seq .run (.seq .run (.seq (.seq .run (.block (.unit TM))) .run))) [.tmp 8] zc zl LQ Tryz.func129 (ob1 Mp ob0)
def zbp:ShC:=⟨⟨[(.agg [.hole,.hole]),.hole],[],[1,1,1],[kJ,.int .i64,.int .i64]⟩,⟨[.hole],[],[2],[.int .i64]⟩,1,[],[],false,false,fun (x:(jI×Int×Int))=>yF x.1 x.2.1 x.2.2⟩
theorem Mg:SK 132 zbp:=z5 .run [.tmp 4] zc zl (gd1 Bp za) Tryz.func132 ob0
def Ps:ShC:=⟨⟨[(.ptr 0 0),(.agg [.hole,.hole])],[.cells true [.hole,.hole]],[1,1,1,1],[kJ,.int .i64,kM,.ar (.cons (.ns kI) kI) 48]⟩,⟨[(.agg [.hole,.hole])],[],[1,2],[kJ,.int .i64]⟩,1,[],[],true,false,fun (x:(jI×Int×jS×(List ((Option jI)×Int))))=>wi x.1 x.2.1 x.2.2.1 x.2.2.2⟩
theorem Hg:GD Ps [(132,.gen (yu [zbp]))]:=(gd1 Mg za)
def zdg:=wZ tb gl Hg Ps Tryz.f130
theorem zhw:VK zdg:=zh zc Hg
def Ux:Un:=lpU 2 [6,7,8,9,10,11,12,13,14,15,16,17,18,19,20,21,5,22,23,24,25] ⟨[0,3,4],⟨[(.ptr 0 0),(.ptr 1 0),(.ptr 2 0)],[.cells true [.hole,.hole],.cells false [.hole,.hole],.cells true [.nilv,.hole]],[1,1,1,2,2],[kM,.ar (.cons (.ns kI) kI) 48,kJ,.int .i64,.int .i64]⟩⟩ [((.exit 0),⟨[3],⟨[(.ptr 0 0)],[.cells false [.hole,.hole]],[1,2],[kJ,.int .i64]⟩⟩)] (lp wA ze)
theorem MW:UK zdg (yL (zg Tryz.f130) [1,0,0]) Ux:=qI .run zl zhw ob0
theorem zeX:SK 130 Ps:=z5 (.seq .run (.seq (.block (.unit Ux)) .run)) [.cell 4 144] zc zl Hg Tryz.func130 (ob1 MW ob0)
def zb1:ShC:=⟨⟨[(.ptr 0 0),.hole,(.agg [.hole,.hole])],[.cells true [.hole,.hole]],[1,1,1,1,1],[.int .i64,kJ,.int .i64,kM,.ar (.cons (.ns kI) kI) 48]⟩,⟨[.hole],[],[2],[.bool]⟩,1,[],[],false,false,fun (x:(Int×jI×Int×jS×(List ((Option jI)×Int))))=>ue x.1 x.2.1 x.2.2.1 x.2.2.2.1 x.2.2.2.2⟩
theorem Mc:GD zb1 [(132,.gen (yu [zbp])),(1000027,.gen (yu []))]:=(gd1 Mg (gd0 1000027 za))
def zbD:=wZ tb gl Mc zb1 Tryz.f150
theorem zdW:VK zbD:=zh zc Mc
def SX:Un:=lpU 2 [32,33,34,10,35,36,37,38,39,11,40,41,42,6,43,44,45,46,47,48,49,50,51,52,53,54,55,56,57,58,59,60,61,62,63,64,65,66,67,8,68,31] ⟨[0,1,5,7,8,29,30,31],⟨[(.ptr 0 0),.hole,(.ptr 1 0),(.aptr 2),(.view 3),.hole,.hole,.hole],[.cells true [.hole,.hole],.cells true [.hole,.hole],.seq false,.seq false],[2,0,2,2,1,1,0,2,2,0],[.int .i64,kJ,.int .i64,.int .i64,kM,.ar (.cons (.ns kI) kI) 48,kJ,.int .i64,.sl (.one .bool),.sl (.cons kJ kI)]⟩⟩ [((.exit 2),⟨[7,8],⟨[(.aptr 0),(.view 1)],[.seq false,.seq false],[2,0],[.sl (.one .bool),.sl (.cons kJ kI)]⟩⟩),(.ret,⟨[6],⟨[.hole],[],[2],[.bool]⟩⟩)] (lp qD ze)
theorem Ot:UK zbD (yL (zg Tryz.f150) [1,1,1,0,0,0,1,0,1,1,1,0]) SX:=qI .run zl zdW ob0
def Sn:Un:=lpU 2 [14,15,16,17,18,19,20,21,22,23,24,25,26,27,8,28,29,30,31,32,33,34,10,35,36,37,38,39,11,40,41,42,6,43,44,45,46,47,48,49,50,51,52,53,54,55,56,57,58,59,60,61,62,63,64,65,66,67,8,68,31] ⟨[0,1,5,7,8],⟨[(.ptr 0 0),.hole,(.ptr 1 0),(.aptr 2),(.view 3)],[.cells true [.hole,.hole],.cells false [.hole,.hole],.seq false,.seq false],[2,1,1,0,2,2,0],[.int .i64,kM,.ar (.cons (.ns kI) kI) 48,kJ,.int .i64,.sl (.one .bool),.sl (.cons kJ kI)]⟩⟩ [((.exit 0),⟨[],⟨[],[],[],[]⟩⟩),(.ret,⟨[6],⟨[.hole],[],[2],[.bool]⟩⟩)] (lp xB ze)
theorem OZ:UK zbD (yL (zg Tryz.f150) [1,1,1,0,0]) Sn:=qI (.seq .run (.block (.seq .run (.seq .run (.seq .run (.block (.unit SX))))))) zl zdW (ob1 Ot ob0)
theorem zfQ:SK 150 zb1:=z5 (.seq .run (.seq .run (.seq .run (.seq (.block (.unit Sn)) .run)))) [.tmp 6] zc zl Mc Tryz.func150 (ob1 OZ ob0)
def zfS:ShC:=⟨⟨[(.ptr 0 0),(.agg [.hole,.hole]),(.agg [.hole,.hole])],[.cells false [.hole,.hole]],[1,1,1,1,1,1],[kJ,.int .i64,kJ,.int .i64,kM,.ar (.cons (.ns kI) kI) 48]⟩,⟨[.hole,(.ptr 0 0)],[.cells false [.hole,.hole]],[2,1,0],[.bool,kM,.ar (.cons (.ns kI) kI) 48]⟩,1,[0],[(0,0)],true,false,fun (x:(jI×Int×jI×Int×jS×(List ((Option jI)×Int))))=>qp x.1 x.2.1 x.2.2.1 x.2.2.2.1 x.2.2.2.2.1 x.2.2.2.2.2⟩
theorem zeO:SK 131 zfS:=z5 .run [.tmp 6] zc zl (gd1 Mg (gd1 zfQ za)) Tryz.func131 ob0
def RJ:ShC:=⟨⟨[(.ptr 0 0),(.agg [.hole,.hole]),(.agg [.hole,.hole])],[.cells false [.hole,.hole]],[1,1,1,1,1,1],[kJ,.int .i64,kJ,.int .i64,kM,.ar (.cons (.ns kI) kI) 48]⟩,⟨[.hole,(.ptr 0 0)],[.cells false [.hole,.hole]],[2,0,0],[.bool,kM,.ar (.cons (.ns kI) kI) 48]⟩,1,[0],[(0,0)],true,false,fun (x:(jI×Int×jI×Int×jS×(List ((Option jI)×Int))))=>xM x.1 x.2.1 x.2.2.1 x.2.2.2.1 x.2.2.2.2.1 x.2.2.2.2.2⟩
theorem OU:GD RJ [(129,.gen (yu [Rx])),(130,.gen (yu [Ps])),(131,.gen (yu [zfS])),(1000039,.gen (yu []))]:=(gd1 ze2 (gd1 zeX (gd1 zeO (gd0 1000039 za))))
def zaK:=wZ tb gl OU RJ Tryz.f103
theorem zhv:VK zaK:=zh zc OU
def Tk:Un:=scU zaK [10,11,12,13,7,14,15,16,6,17,18,19,20,21,22,23,24,25,26,27,28,29,30,31,32,33,34,8,9,35,36,37,38,39,7,41,42,43,44,45,40,46,47,48,49,6,51,52,53,54,55,50,56,57,58,59,6,61,62,63,64,65,66,67,68,69,60,6,70,71,72,73,74,75,76,77,78,79,80,81,82,83,84,7] [(.goto 0,⟨[0,7],⟨[(.ptr 0 0),(.view 1)],[.cells false [.hole,.hole],.seq false],[0,0,0],[kM,.ar (.cons (.ns kI) kI) 48,.sl (.cons kJ (.cons kZ (.cons kJ kI)))]⟩⟩)] [(.ret,⟨[0,6],⟨[(.ptr 0 0),.hole],[.cells false [.hole,.hole]],[2,0,0],[.bool,kM,.ar (.cons (.ns kI) kI) 48]⟩⟩)] (Ax (yL (zg Tryz.f103) [1])) .run (lp zx ze)
theorem Ml:UK zaK (yL (zg Tryz.f103) [1]) Tk:=zgo [] zl zhv ob0 zgu
theorem zdq:SK 103 RJ:=z5 (.seq .run (.unit Tk)) [.tmp 6] zc zl OU Tryz.func103 (ob1 Ml ob0)
def ze4:ShC:=⟨⟨[(.agg [.hole,.hole]),.hole],[],[1,1,1],[.ns kI,.int .i64,.int .i64]⟩,⟨[.hole],[],[2],[.int .i64]⟩,1,[],[],false,false,fun (x:((Option jI)×Int×Int))=>xb x.1 x.2.1 x.2.2⟩
theorem zcS:SK 132 ze4:=z5 .run [.tmp 4] zc zl (gd1 Bp za) Tryz.func132 ob0
def In (k:Nat):ShC:=⟨⟨[(.ptr 0 0),(.agg [.hole,.hole])],[.cells true [.hole,.hole]],[1,1,1,1],[.ns kI,.int .i64,kM,.ar (.cons (.ns kI) kI) 48]⟩,⟨[.hole],[],[2],[.ns kI]⟩,1,[],[],false,false,(qF k)⟩
def zfg:ShC:=⟨⟨[(.ptr 0 0),(.agg [.hole,.hole])],[.cells true [.hole,.hole]],[1,1,1,1],[.ns kI,.int .i64,kM,.ar (.cons (.ns kI) kI) 48]⟩,⟨[.hole],[],[2],[.ns kI]⟩,1,[],[],false,false,fun (x:((Option jI)×Int×jS×(List ((Option jI)×Int))))=>rR x.1 x.2.1 x.2.2.1 x.2.2.2⟩
def Vm (k:Nat):Prop:=SK 104 (In k)
def zfw (k:Nat):List (Nat×Con):=[(104,.gen (yu [In k])),(132,.gen (yu [ze4]))]
theorem TI (k:Nat) (h:Vm k):GD (In (k+1)) (zfw k):=(gd1 h (gd1 zcS za))
def zes (k:Nat):Env:=ZH tb gl (zfw k) (In (k+1)) Tryz.f104.ntmps
theorem zg8 (k:Nat) (h:Vm k):VK (zes k):=zh zc (TI k h)
def S3 (k:Nat):Un:=lpU 2 [13,14,15,7,16,17,8,18,19,20,21,22,23,24,25,26,27,28,29,30,31,32,33,34,35,36,37,38,39,40,41,8,42,43,44,45,46,47,48,49,50,51,4,52,53,54,5,55,12] ⟨[0,3,5,10,11,12],⟨[(.ptr 0 0),(.ptr 1 0),(.view 2),.hole,.hole,.hole],[.cells true [.hole,.hole],.cells true [.hole,.hole],.seq false],[1,2,2,1,1,1,2,2],[.ns kI,.int .i64,.int .i64,kM,.ar (.cons (.ns kI) kI) 48,.ns kI,.int .i64,kJ]⟩⟩ [((.exit 0),⟨[5],⟨[(.view 0)],[.seq false],[2],[kJ]⟩⟩),(.ret,⟨[4],⟨[.nilv],[],[],[]⟩⟩)] (lp (yG (qF k)) ze)
theorem HI (k:Nat) (h:Vm k):UK (zes k) (yL (zg Tryz.f104) [1,1,0,1,0]) (S3 k):=qI .run zl (zg8 k h) ob0
theorem zay (k:Nat) (h:Vm k):SK 104 (In (k+1)):=z5 (.seq .run (.seq .run (.seq (.seq .run (.block (.unit (S3 k)))) .run))) [.tmp 4] zc zl (TI k h) Tryz.func104 (ob1 (HI k h) ob0)
theorem It:∀ k,Vm k
 | 0=>X7 (by kernel_rfl) fun _=>rfl
 | k+1=>have h:=It k; zay k h
theorem zc2:SK 104 zfg:=(It ze)
def zbj:ShC:=⟨⟨[.hole,.hole,.hole],[],[1,1,1],[kM,kJ,kJ]⟩,⟨[(.view 0),.hole,.hole],[.seq false],[2,2,2],[.bool,.int .i64,.sl (.cons kZ kR)]⟩,3,[],[],false,true,fun (x:(jS×jI×jI))=>tS x.1 x.2.1 x.2.2⟩
theorem La:GD zbj [(91,.gen (yu [zbY])),(103,.gen (yu [RJ])),(104,.gen (yu [zfg])),(105,.gen (yu [PW]))]:=(gdG UO (gd1 zdq (gd1 zc2 (gd1 Mm za))))
def zdt:=wZ tb gl La zbj Tryz.f65
theorem zg9:VK zdt:=zh zc La
def UW:Un:=lpU 2 [51,52,15,53,54,55,56,57,58,59,60,61,62,63,64,65,66,67,68,16,69,70,6,7,8,71,72,73,74,75,76,77,14,78,50] ⟨[13,14,50],⟨[(.ptr 0 0),(.view 1),.hole],[.cells true [.hole,.hole],.seq false],[2,0,0,2],[.int .i64,kM,.ar (.cons (.ns kI) kI) 48,.sl (.cons kZ kR)]⟩⟩ [((.exit 0),⟨[14],⟨[(.view 0)],[.seq false],[2],[.sl (.cons kZ kR)]⟩⟩),(.ret,⟨[6,7,8],⟨[.nilv,.hole,.hole],[],[2,2],[.bool,.int .i64]⟩⟩)] (lp wm ze)
theorem HA:UK zdt (yL (zg Tryz.f65) [1,1,1,1,1,1,1,0,1,0]) UW:=qI .run zl zg9 ob0
theorem Tv:SK 65 zbj:=z5 (.seq .run (.seq .run (.seq .run (.seq .run (.seq .run (.seq .run (.seq .run (.seq (.seq .run (.block (.unit UW))) .run)))))))) [.tmp 6,.tmp 7,.tmp 8] zc zl La Tryz.func65 (ob1 HA ob0)
def P3:ShC:=⟨⟨[.hole,.hole],[],[1,1],[.sl (.cons kZ kR),.int .i64]⟩,⟨[.hole],[],[0],[.ns kI]⟩,1,[],[],true,false,fun (x:((List (Int×jI))×Int))=>Yh x.1 x.2⟩
theorem O7:GD P3 []:=za
def zcV:=wZ tb gl O7 P3 Tryz.f106
theorem zhO:VK zcV:=zh zc O7
def SQ:Un:=lpU 2 [10,11,12,6,13,14,15,16,17,18,4,19,9] ⟨[1,7,8,9],⟨[.hole,.hole,.hole,.hole],[],[2,1,2,2],[.int .i64,.sl (.cons kZ kR),.int .i64,.int .i64]⟩⟩ [((.exit 0),⟨[],⟨[],[],[],[]⟩⟩),(.ret,⟨[4],⟨[.hole],[],[1],[kJ]⟩⟩)] (lp uR ze)
theorem Mf:UK zcV (yL (zg Tryz.f106) [1,0,1,0]) SQ:=qI .run zl zhO ob0
theorem zf7:SK 106 P3:=z5 (.seq .run (.seq (.seq .run (.block (.unit SQ))) .run)) [.tmp 4] zc zl O7 Tryz.func106 (ob1 Mf ob0)
def zaV:ShC:=⟨⟨[.hole,.hole],[],[1,1],[.sl (.cons kZ kR),kJ]⟩,⟨[(.view 0)],[.seq false],[2],[kJ]⟩,1,[],[],false,false,fun (x:((List (Int×jI))×jI))=>X9 x.1 x.2⟩
theorem MX:GD zaV [(106,.gen (yu [P3])),(107,.gen (yu [zdX]))]:=(gd1 zf7 (gd1 Bp za))
def zdI:=wZ tb gl MX zaV Tryz.f66
theorem zgB:VK zdI:=zh zc MX
def zac:Un:=lpU 2 [12,13,14,7,15,16,17,18,8,19,20,21,22,23,24,25,26,27,28,5,29,30,31,5,32,11] ⟨[0,5,9,10,11],⟨[.hole,(.view 0),.hole,.hole,.hole],[.seq false],[1,1,2,2,2],[.sl (.cons kZ kR),kJ,.int .i64,.int .i64,kJ]⟩⟩ [((.exit 0),⟨[5],⟨[(.view 0)],[.seq false],[2],[kJ]⟩⟩)] (lp rB ze)
theorem LG:UK zdI (yL (zg Tryz.f66) [1,1,0,1,0]) zac:=qI .run zl zgB ob0
theorem Ta:SK 66 zaV:=z5 (.seq .run (.seq .run (.seq (.seq .run (.block (.unit zac))) .run))) [.tmp 4] zc zl MX Tryz.func66 (ob1 LG ob0)
def zhB:ShC:=⟨⟨[.hole,.hole,.hole],[],[1,1,1],[kM,kJ,kJ]⟩,⟨[.hole],[],[2],[.bool]⟩,1,[],[],false,true,fun (x:(jS×jI×jI))=>Qz x.1 x.2.1 x.2.2⟩
theorem zfh:SK 67 zhB:=z5 .run [.tmp 6] zc zl (gdG TR za) Tryz.func67 ob0
def ze8:ShC:=⟨⟨[.nilv,.hole],[],[1],[.int .i64]⟩,⟨[(.view 0)],[.seq false],[2],[kJ]⟩,1,[],[],false,false,fun (x:Int)=>rh x⟩
theorem zdT:SK 133 ze8:=z5 .run [.tmp 4] zc zl (gd0 1000025 za) Tryz.func133 ob0
def zae:ShC:=⟨⟨[.hole],[],[1],[kK]⟩,⟨[(.view 0)],[.seq false],[2],[kJ]⟩,1,[],[],false,false,fun (x:jR)=>tt x⟩
theorem Mu:GD zae [(133,.gen (yu [ze8]))]:=(gd1 zdT za)
def zaF:=wZ tb gl Mu zae Tryz.f108
theorem zeL:VK zaF:=zh zc Mu
def Um:Un:=lpU 2 [28,29,30,8,31,32,33,6,34,27] ⟨[6,25,26,27],⟨[(.view 0),.hole,.hole,.hole],[.seq false],[1,2,2,2],[kK,.int .i64,.int .i64,kJ]⟩⟩ [((.exit 2),⟨[6],⟨[(.view 0)],[.seq false],[2],[kJ]⟩⟩)] (lp q7 ze)
theorem NQ:UK zaF (yL (zg Tryz.f108) [1,1,1,1,0,1,0]) Um:=qI .run zl zeL ob0
def TC:Un:=lpU 2 [12,13,14,5,15,16,17,18,3,19,20,21,22,11] ⟨[0,3,9,10,11],⟨[.hole,.hole,.hole,.hole,.hole],[],[1,2,1,2,2],[kK,.int .i64,kK,.int .i64,.int .i64]⟩⟩ [((.exit 0),⟨[3],⟨[.hole],[],[2],[.int .i64]⟩⟩)] (lp q5 ze)
theorem Ma:UK zaF (yL (zg Tryz.f108) [1,1,0,1,0]) TC:=qI .run zl zeL ob0
theorem zeY:SK 108 zae:=z5 (.seq .run (.seq .run (.seq (.seq .run (.block (.unit TC))) (.seq .run (.seq (.seq .run (.block (.unit Um))) .run))))) [.tmp 2] zc zl Mu Tryz.func108 (ob1 Ma (ob1 NQ ob0))
def zhq:ShC:=⟨⟨[.hole,.hole,.hole,.hole],[],[1,1,1,1],[kM,kJ,.int .i64,kJ]⟩,⟨[(.view 0)],[.seq false],[2],[kJ]⟩,1,[],[],false,false,fun (x:(jS×jI×Int×jI))=>Ys x.1 x.2.1 x.2.2.1 x.2.2.2⟩
theorem zeg:SK 68 zhq:=z5 .run [.tmp 8] zc zl (gd1 Ca (gd1 zeY za)) Tryz.func68 ob0
def zet:ShC:=⟨⟨[.nilv,.hole],[],[1],[.int .i64]⟩,⟨[(.view 0)],[.seq false],[2],[kK]⟩,1,[],[],false,false,fun (x:Int)=>jP x⟩
theorem zdi:SK 138 zet:=z5 .run [.tmp 4] zc zl (gd0 1000025 za) Tryz.func138 ob0
def PP:ShC:=⟨⟨[.hole],[],[1],[.sl (.one kK)]⟩,⟨[(.view 0)],[.seq false],[0],[kK]⟩,1,[],[],true,false,fun (x:(List jR))=>rz x⟩
theorem N0:GD PP [(138,.gen (yu [zet]))]:=(gd1 zdi za)
def zbR:=wZ tb gl N0 PP Tryz.f112
theorem zc9:VK zbR:=zh zc N0
def Sw:Un:=lpU 2 [28,29,30,8,31,32,33,6,34,27] ⟨[6,25,26,27],⟨[(.view 0),.hole,.hole,.hole],[.seq false],[1,2,2,0],[.sl (.one kK),.int .i64,.int .i64,kK]⟩⟩ [((.exit 2),⟨[6],⟨[(.view 0)],[.seq false],[0],[kK]⟩⟩)] (lp xK ze)
theorem Oq:UK zbR (yL (zg Tryz.f112) [1,1,1,1,0,1,0]) Sw:=qI .run zl zc9 ob0
def SN:Un:=lpU 2 [12,13,14,5,15,16,17,18,3,19,20,21,22,11] ⟨[0,3,9,10,11],⟨[.hole,.hole,.hole,.hole,.hole],[],[1,2,1,2,2],[.sl (.one kK),.int .i64,.sl (.one kK),.int .i64,.int .i64]⟩⟩ [((.exit 0),⟨[3],⟨[.hole],[],[2],[.int .i64]⟩⟩)] (lp xU ze)
theorem FR:UK zbR (yL (zg Tryz.f112) [1,1,0,1,0]) SN:=qI .run zl zc9 ob0
theorem zdA:SK 112 PP:=z5 (.seq .run (.seq .run (.seq (.seq .run (.block (.unit SN))) (.seq .run (.seq (.seq .run (.block (.unit Sw))) .run))))) [.tmp 2] zc zl N0 Tryz.func112 (ob1 FR (ob1 Oq ob0))
def zaB:ShC:=⟨⟨[(.agg [.hole,.hole,.hole]),.hole,(.agg [.hole,.hole,.hole]),.hole],[],[1,1,1,1,1,1,1,1],[kL,kK,kL,.int .i64,kL,kK,kL,.int .i64]⟩,⟨[(.agg [(.view 0),.hole,(.view 1)])],[.seq false,.seq false],[0,0,0],[kK,kL,kL]⟩,1,[],[],true,false,fun (x:(jQ×jR×jQ×Int×jQ×jR×jQ×Int))=>sG x.1 x.2.1 x.2.2.1 x.2.2.2.1 x.2.2.2.2.1 x.2.2.2.2.2.1 x.2.2.2.2.2.2.1 x.2.2.2.2.2.2.2⟩
theorem MK:GD zaB [(112,.gen (yu [PP])),(113,.gen (yu [MN]))]:=(gd1 zdA (gd1 S9 za))
def zct:=wZ tb gl MK zaB Tryz.f71
theorem zfD:VK zct:=zh zc MK
def Ud:Un:=lpU 2 [49,50,51,52,13,12,53,54,55,56,57,58,59,60,61,62,48] ⟨[3,8,9,46,47,48],⟨[.hole,(.ptr 0 0),(.ptr 1 0),.hole,.hole,.hole],[.cells true [.nilv,.nilv,.nilv],.cells false [(.view 2),.hole,(.view 3)],.seq false,.seq false],[2,1,2,2,0,0,0],[.int .i64,kL,.int .i64,.int .i64,kK,kL,kL]⟩⟩ [((.exit 2),⟨[9],⟨[(.ptr 0 0)],[.cells false [(.view 1),.hole,(.view 2)],.seq false,.seq false],[0,0,0],[kK,kL,kL]⟩⟩)] (lp wy ze)
theorem Ng:UK zct (yL (zg Tryz.f71) [1,1,1,0,1,0]) Ud:=qI .run zl zfD ob0
def UA:Un:=lpU 2 [31,32,33,34,11,10,35,36,37,38,39,40,41,42,43,44,30] ⟨[1,3,6,8,9,28,29,30],⟨[.hole,.hole,(.ptr 0 0),(.ptr 1 0),(.ptr 2 0),.hole,.hole,.hole],[.cells true [.hole,.hole,.hole],.cells true [.nilv,.nilv,.nilv],.cells false [(.view 3),.hole,(.view 4)],.seq false,.seq false],[2,2,1,2,2,1,1,1,0,0,0],[.int .i64,.int .i64,kL,.int .i64,.int .i64,kL,kK,kL,kK,kL,kL]⟩⟩ [((.exit 0),⟨[9],⟨[(.ptr 0 0)],[.cells false [(.view 1),.hole,(.view 2)],.seq false,.seq false],[0,0,0],[kK,kL,kL]⟩⟩)] (lp wx ze)
theorem NK:UK zct (yL (zg Tryz.f71) [1,1,0,1,0]) UA:=qI .run zl zfD ob0
theorem UR:SK 71 zaB:=z5 (.seq .run (.seq .run (.seq (.seq .run (.block (.unit UA))) (.seq (.seq .run (.block (.unit Ud))) .run)))) [.cell 8 26] zc zl MK Tryz.func71 (ob1 NK (ob1 Ng ob0))
def zdf:ShC:=⟨⟨[.hole,(.ptr 0 0)],[.cells true [.hole]],[1,1],[kJ,.sl (.cons kZ kR)]⟩,⟨[(.view 0)],[.seq false],[2],[kJ]⟩,1,[],[],false,false,fun (x:(jI×(List (Int×jI))))=>xh x.1 x.2⟩
theorem zfN:SK 111 zdf:=z5 .run [.tmp 3] zc zl (gd1 Ta za) Tryz.func111 ob0
def zaO:ShC:=⟨⟨[(.agg [.hole,.hole,.hole]),(.clo 111 [(.ptr 0 0)])],[.cells true [.hole]],[1,1,1,1],[kL,kK,kL,.sl (.cons kZ kR)]⟩,⟨[(.agg [.hole,.hole,(.view 0)])],[.seq false],[2,2,2],[kL,kK,kL]⟩,1,[],[],false,false,fun (x:(jQ×jR×jQ×(List (Int×jI))))=>QD x.1 x.2.1 x.2.2.1 x.2.2.2⟩
theorem FM:GD zaO [(111,.gen (yu [zdf]))]:=(gd1 zfN za)
def Ru:=wZ tb gl FM zaO Tryz.f110
theorem zaW:VK Ru:=zh zc FM
def Tw:Un:=lpU 2 [52,53,54,11,55,56,57,58,59,60,61,62,63,64,65,66,67,51] ⟨[1,4,5,49,50,51],⟨[(.clo 111 [(.ptr 0 0)]),(.ptr 1 0),(.ptr 2 0),.hole,.hole,.hole],[.cells true [.hole],.cells true [.nilv,.nilv,.nilv],.cells false [.hole,.hole,(.view 3)],.seq false],[1,2,2,1,2,2,2],[kL,.int .i64,.int .i64,.sl (.cons kZ kR),kL,kK,kL]⟩⟩ [((.exit 4),⟨[5],⟨[(.ptr 0 0)],[.cells false [.hole,.hole,(.view 1)],.seq false],[2,2,2],[kL,kK,kL]⟩⟩)] (lp vk ze)
theorem HL:UK Ru (yL (zg Tryz.f110) [1,1,1,1,0,1,0]) Tw:=qI .run zl zaW ob0
def TK:Un:=lpU 2 [36,37,38,9,39,40,41,42,43,44,45,46,47,35] ⟨[1,2,4,5,33,34,35],⟨[(.clo 111 [(.ptr 0 0)]),(.ptr 1 0),(.ptr 2 0),(.ptr 3 0),.hole,.hole,.hole],[.cells true [.hole],.cells true [.hole,.hole,.hole],.cells true [.nilv,.nilv,.nilv],.cells false [.hole,(.view 4),.nilv],.seq false],[1,2,2,1,1,1,1,2,2],[kK,.int .i64,.int .i64,.sl (.cons kZ kR),kL,kK,kL,kL,kK]⟩⟩ [((.exit 2),⟨[5],⟨[(.ptr 0 0)],[.cells false [.hole,(.view 1),.nilv],.seq false],[2,2],[kL,kK]⟩⟩)] (lp va ze)
theorem MZ:UK Ru (yL (zg Tryz.f110) [1,1,1,0,1,0]) TK:=qI .run zl zaW ob0
def UY:Un:=lpU 2 [16,17,18,7,19,20,21,22,23,24,25,26,27,28,29,30,31,15] ⟨[1,2,4,5,13,14,15],⟨[(.clo 111 [(.ptr 0 0)]),(.ptr 1 0),(.ptr 2 0),(.ptr 3 0),.hole,.hole,.hole],[.cells true [.hole],.cells true [.hole,.hole,.hole],.cells true [.nilv,.nilv,.nilv],.cells false [(.view 4),.nilv,.nilv],.seq false],[1,2,2,1,1,1,1,2],[kL,.int .i64,.int .i64,.sl (.cons kZ kR),kL,kK,kL,kL]⟩⟩ [((.exit 0),⟨[5],⟨[(.ptr 0 0)],[.cells false [(.view 1),.nilv,.nilv],.seq false],[2],[kL]⟩⟩)] (lp vp ze)
theorem Lw:UK Ru (yL (zg Tryz.f110) [1,1,0,1,0]) UY:=qI .run zl zaW ob0
theorem zd7:SK 110 zaO:=z5 (.seq .run (.seq .run (.seq (.seq .run (.block (.unit UY))) (.seq (.seq .run (.block (.unit TK))) (.seq (.seq .run (.block (.unit Tw))) .run))))) [.cell 4 26] zc zl FM Tryz.func110 (ob1 Lw (ob1 MZ (ob1 HL ob0)))
def zhH:ShC:=⟨⟨[.hole,(.agg [.hole,.hole,.hole])],[],[1,1,1,1],[.sl (.cons kZ kR),kL,kK,kL]⟩,⟨[(.agg [.hole,.hole,(.view 0)])],[.seq false],[2,2,2],[kL,kK,kL]⟩,1,[],[],false,false,fun (x:((List (Int×jI))×jQ×jR×jQ))=>jo x.1 x.2.1 x.2.2.1 x.2.2.2⟩
theorem Sq:SK 70 zhH:=z5 .run [.cell 4 26] zc zl (gd1 zd7 za) Tryz.func70 ob0
def zht:ShC:=⟨⟨[(.agg [.hole,.hole]),(.agg [.hole,.hole])],[],[1,1,1,1],[.bool,kJ,.bool,kJ]⟩,⟨[.hole],[],[2],[.bool]⟩,1,[],[],false,false,fun (x:(Bool×jI×Bool×jI))=>WX x.1 x.2.1 x.2.2.1 x.2.2.2⟩
theorem zdu:SK 152 zht:=z5 .run [.tmp 4] zc zl (gd1 Jk za) Tryz.func152 ob0
def zcL:ShC:=⟨⟨[(.agg [.hole,.hole]),(.ptr 0 0)],[.cells true [.hole,.hole]],[1,1,1,1],[.bool,kJ,.bool,kJ]⟩,⟨[.hole],[],[2],[.bool]⟩,1,[],[],false,false,fun (x:(Bool×jI×Bool×jI))=>so x.1 x.2.1 x.2.2.1 x.2.2.2⟩
theorem zdQ:SK 151 zcL:=z5 .run [.tmp 3] zc zl (gd1 zdu za) Tryz.func151 ob0
def zbC:ShC:=⟨⟨[.hole,(.clo 151 [(.ptr 0 0)])],[.cells true [.hole,.hole]],[1,1,1],[kL,.bool,kJ]⟩,⟨[.hole],[],[2],[.int .i64]⟩,1,[],[],false,false,fun (x:(jQ×Bool×jI))=>ra x.1 x.2.1 x.2.2⟩
theorem On:GD zbC [(151,.gen (yu [zcL]))]:=(gd1 zdQ za)
def zdd:=wZ tb gl On zbC Tryz.f98
theorem zg1:VK zdd:=zh zc On
def TS:Un:=lpU 2 [9,10,5,11,12,13,14,15,16,17,4,18,8] ⟨[0,1,7,8],⟨[.hole,(.clo 151 [(.ptr 0 0)]),.hole,.hole],[.cells true [.hole,.hole]],[1,2,2,2,1],[kL,.int .i64,.int .i64,.bool,kJ]⟩⟩ [((.exit 0),⟨[],⟨[],[],[],[]⟩⟩),(.ret,⟨[4],⟨[.hole],[],[2],[.int .i64]⟩⟩)] (lp qA ze)
theorem FL:UK zdd (yL (zg Tryz.f98) [1,0,1,0]) TS:=qI .run zl zg1 ob0
theorem zfz:SK 98 zbC:=z5 (.seq .run (.seq (.seq .run (.block (.unit TS))) .run)) [.tmp 4] zc zl On Tryz.func98 (ob1 FL ob0)
def zfB:ShC:=⟨⟨[.hole,(.clo 151 [(.ptr 0 0)])],[.cells true [.hole,.hole]],[1,1,1],[kL,.bool,kJ]⟩,⟨[.hole],[],[2],[.bool]⟩,1,[],[],false,false,fun (x:(jQ×Bool×jI))=>xq x.1 x.2.1 x.2.2⟩
theorem zdP:SK 56 zfB:=z5 .run [.tmp 4] zc zl (gd1 zfz za) Tryz.func56 ob0
def P9:ShC:=⟨⟨[.hole],[],[1],[kL]⟩,⟨[(.view 0)],[.seq false],[0],[kL]⟩,1,[],[],true,false,fun (x:jQ)=>rQ x⟩
theorem ND:GD P9 [(56,.gen (yu [zfB]))]:=(gd1 zdP za)
def zfp:=wZ tb gl ND P9 Tryz.f134
theorem zhI:VK zfp:=zh zc ND
def Ug:Un:=lpU 2 [9,10,11,5,12,13,14,15,16,17,18,19,3,20,8] ⟨[3,6,7,8],⟨[(.view 0),.hole,.hole,.hole],[.seq false],[1,2,2,0],[kL,.int .i64,.int .i64,kL]⟩⟩ [((.exit 0),⟨[3],⟨[(.view 0)],[.seq false],[0],[kL]⟩⟩)] (lp vu ze)
theorem NT:UK zfp (yL (zg Tryz.f134) [1,1,0,1,0]) Ug:=qI .run zl zhI ob0
theorem zcI:SK 134 P9:=z5 (.seq .run (.seq .run (.seq (.seq .run (.block (.unit Ug))) .run))) [.tmp 2] zc zl ND Tryz.func134 (ob1 NT ob0)
def zgf:ShC:=⟨⟨[.hole,(.ptr 0 0)],[.cells true [.hole]],[1,1],[kJ,kJ]⟩,⟨[.hole],[],[2],[.bool]⟩,1,[],[],false,false,fun (x:(jI×jI))=>sq x.1 x.2⟩
theorem zdY:SK 136 zgf:=z5 .run [.tmp 3] zc zl (gd1 Jk za) Tryz.func136 ob0
def zcu:ShC:=⟨⟨[.hole,(.clo 136 [(.ptr 0 0)])],[.cells true [.hole]],[1,1],[kK,kJ]⟩,⟨[.hole],[],[2],[.int .i64]⟩,1,[],[],false,false,fun (x:(jR×jI))=>tq x.1 x.2⟩
theorem OK:GD zcu [(136,.gen (yu [zgf]))]:=(gd1 zdY za)
def zc0:=wZ tb gl OK zcu Tryz.f153
theorem zgI:VK zc0:=zh zc OK
def TG:Un:=lpU 2 [9,10,5,11,12,13,14,15,16,17,4,18,8] ⟨[0,1,7,8],⟨[.hole,(.clo 136 [(.ptr 0 0)]),.hole,.hole],[.cells true [.hole]],[1,2,2,1],[kK,.int .i64,.int .i64,kJ]⟩⟩ [((.exit 0),⟨[],⟨[],[],[],[]⟩⟩),(.ret,⟨[4],⟨[.hole],[],[2],[.int .i64]⟩⟩)] (lp yW ze)
theorem FJ:UK zc0 (yL (zg Tryz.f153) [1,0,1,0]) TG:=qI .run zl zgI ob0
theorem zd5:SK 153 zcu:=z5 (.seq .run (.seq (.seq .run (.block (.unit TG))) .run)) [.tmp 4] zc zl OK Tryz.func153 (ob1 FJ ob0)
def zdc:ShC:=⟨⟨[.hole,(.clo 136 [(.ptr 0 0)])],[.cells true [.hole]],[1,1],[kK,kJ]⟩,⟨[.hole],[],[2],[.bool]⟩,1,[],[],false,false,fun (x:(jR×jI))=>qM x.1 x.2⟩
theorem zdU:SK 135 zdc:=z5 .run [.tmp 4] zc zl (gd1 zd5 za) Tryz.func135 ob0
def R4:ShC:=⟨⟨[.hole,(.aptr 0),(.ptr 1 0)],[.seq false,.cells false [.hole]],[1,1,1],[kJ,kJ,.int .i64]⟩,⟨[(.view 0),(.aptr 1),(.ptr 2 0)],[.seq false,.seq false,.cells false [.hole]],[2,0,2],[kJ,kJ,.int .i64]⟩,1,[1,2],[(0,1),(1,2)],true,false,fun (x:(jI×jI×Int))=>yP x.1 x.2.1 x.2.2⟩
theorem Ly:GD R4 [(105,.gen (yu [PW])),(107,.gen (yu [zdX]))]:=(gd1 Mm (gd1 Bp za))
def zd8:=wZ tb gl Ly R4 Tryz.f137
theorem zg4:VK zd8:=zh zc Ly
def Tp:Un:=lpU 2 [13,14,15,16,6,7,17,18,19,20,21,22,23,24,25,26,27,28,29,30,31,32,33,34,35,36,37,38,12] ⟨[1,2,5,10,11,12],⟨[(.aptr 0),(.ptr 1 0),(.view 2),(.view 2),.hole,.hole],[.seq false,.cells false [.hole],.seq false],[2,2,0,2,2],[.int .i64,.int .i64,kJ,.int .i64,kJ]⟩⟩ [((.exit 0),⟨[1,2,5],⟨[(.aptr 0),(.ptr 1 0),(.view 2)],[.seq false,.cells false [.hole],.seq false],[0,2,2],[kJ,.int .i64,kJ]⟩⟩)] (lp yQ ze)
theorem NF:UK zd8 (yL (zg Tryz.f137) [1,1,0,1,0]) Tp:=qI .run zl zg4 ob0
theorem zfZ:SK 137 R4:=z5 (.seq .run (.seq .run (.seq (.seq .run (.block (.unit Tp))) .run))) [.tmp 4] zc zl Ly Tryz.func137 (ob1 NF ob0)
def Ri:ShC:=⟨⟨[(.agg [.hole,.hole,.hole]),(.clo 137 [(.aptr 0),(.ptr 1 0)])],[.seq false,.cells false [.hole]],[1,1,1,1,1],[kL,kK,kL,kJ,.int .i64]⟩,⟨[(.agg [.hole,.hole,(.view 0)]),(.clo 137 [(.aptr 1),(.ptr 2 0)])],[.seq false,.seq false,.cells false [.hole]],[2,2,2,0,2],[kL,kK,kL,kJ,.int .i64]⟩,1,[1],[(0,1),(1,2)],true,false,fun (x:(jQ×jR×jQ×jI×Int))=>Zf x.1 x.2.1 x.2.2.1 x.2.2.2.1 x.2.2.2.2⟩
theorem Lj:GD Ri [(137,.gen (yu [R4]))]:=(gd1 zfZ za)
def PX:=wZ tb gl Lj Ri Tryz.f110
theorem zco:VK PX:=zh zc Lj
def Te:Un:=lpU 2 [52,53,54,11,55,56,57,58,59,60,61,62,63,64,65,66,67,51] ⟨[1,4,5,49,50,51],⟨[(.clo 137 [(.aptr 0),(.ptr 1 0)]),(.ptr 2 0),(.ptr 3 0),.hole,.hole,.hole],[.seq false,.cells false [.hole],.cells true [.nilv,.nilv,.nilv],.cells false [.hole,.hole,(.view 4)],.seq false],[1,2,2,0,2,2,2,2],[kL,.int .i64,.int .i64,kJ,.int .i64,kL,kK,kL]⟩⟩ [((.exit 4),⟨[1,5],⟨[(.clo 137 [(.aptr 0),(.ptr 1 0)]),(.ptr 2 0)],[.seq false,.cells false [.hole],.cells false [.hole,.hole,(.view 3)],.seq false],[0,2,2,2,2],[kJ,.int .i64,kL,kK,kL]⟩⟩)] (lp xZ ze)
theorem N5:UK PX (yL (zg Tryz.f110) [1,1,1,1,0,1,0]) Te:=qI (.seq .run (.seq .run (.seq (.block (.seq .run (.hide [[8,9],[8,9],[8,9],[8,9],[],[],[],[],[],[],[],[],[]]))) .run))) zl zco ob0
def SJ:Un:=lpU 2 [36,37,38,9,39,40,41,42,43,44,45,46,47,35] ⟨[1,2,4,5,33,34,35],⟨[(.clo 137 [(.aptr 0),(.ptr 1 0)]),(.ptr 2 0),(.ptr 3 0),(.ptr 4 0),.hole,.hole,.hole],[.seq false,.cells false [.hole],.cells true [.hole,.hole,.hole],.cells true [.nilv,.nilv,.nilv],.cells false [.hole,(.view 5),.nilv],.seq false],[1,2,2,0,2,1,1,1,2,2],[kK,.int .i64,.int .i64,kJ,.int .i64,kL,kK,kL,kL,kK]⟩⟩ [((.exit 2),⟨[1,5],⟨[(.clo 137 [(.aptr 0),(.ptr 1 0)]),(.ptr 2 0)],[.seq false,.cells false [.hole],.cells false [.hole,(.view 3),.nilv],.seq false],[0,2,2,2],[kJ,.int .i64,kL,kK]⟩⟩)] (lp xV ze)
theorem NW:UK PX (yL (zg Tryz.f110) [1,1,1,0,1,0]) SJ:=qI (.seq .run (.seq .run (.seq (.block (.seq .run (.hide [[8,9],[8,9],[],[],[],[],[],[],[]]))) .run))) zl zco ob0
def SP:Un:=lpU 2 [16,17,18,7,19,20,21,22,23,24,25,26,27,28,29,30,31,15] ⟨[1,2,4,5,13,14,15],⟨[(.clo 137 [(.aptr 0),(.ptr 1 0)]),(.ptr 2 0),(.ptr 3 0),(.ptr 4 0),.hole,.hole,.hole],[.seq false,.cells false [.hole],.cells true [.hole,.hole,.hole],.cells true [.nilv,.nilv,.nilv],.cells false [(.view 5),.nilv,.nilv],.seq false],[1,2,2,0,2,1,1,1,2],[kL,.int .i64,.int .i64,kJ,.int .i64,kL,kK,kL,kL]⟩⟩ [((.exit 0),⟨[1,5],⟨[(.clo 137 [(.aptr 0),(.ptr 1 0)]),(.ptr 2 0)],[.seq false,.cells false [.hole],.cells false [(.view 3),.nilv,.nilv],.seq false],[0,2,2],[kJ,.int .i64,kL]⟩⟩)] (lp xP ze)
theorem Om:UK PX (yL (zg Tryz.f110) [1,1,0,1,0]) SP:=qI (.seq .run (.seq .run (.seq (.block (.seq .run (.hide [[8,9],[8,9],[8,9],[8,9],[],[],[],[],[],[],[],[],[]]))) .run))) zl zco ob0
theorem zeH:SK 110 Ri:=z5 (.seq .run (.seq .run (.seq (.seq .run (.block (.unit SP))) (.seq (.seq .run (.block (.unit SJ))) (.seq (.seq .run (.block (.unit Te))) .run))))) [.cell 4 26] zc zl Lj Tryz.func110 (ob1 Om (ob1 NW (ob1 N5 ob0)))
def za1:ShC:=⟨⟨[(.agg [.hole,.hole,.hole])],[],[1,1,1],[kL,kK,kL]⟩,⟨[(.agg [.hole,.hole,(.view 0)])],[.seq false],[2,2,2],[kL,kK,kL]⟩,1,[],[],false,false,fun (x:(jQ×jR×jQ))=>jA x.1 x.2.1 x.2.2⟩
theorem Nh:GD za1 [(110,.gen (yu [Ri])),(134,.gen (yu [P9])),(135,.gen (yu [zdc]))]:=(gd1 zeH (gd1 zcI (gd1 zdU za)))
def zgg:=wZ tb gl Nh za1 Tryz.f109
theorem zhP:VK zgg:=zh zc Nh
def SW:Un:=lpU 2 [19,20,21,5,22,23,24,25,26,27,28,29,30,31,32,33,18] ⟨[2,3,16,17,18],⟨[(.ptr 0 0),(.ptr 1 0),.hole,.hole,.hole],[.cells true [.nilv,.nilv,.nilv],.cells false [.hole,(.view 2),.hole],.seq false],[1,2,2,0,0,0],[kK,.int .i64,.int .i64,kL,kL,kK]⟩⟩ [((.exit 0),⟨[3],⟨[(.ptr 0 0)],[.cells false [.hole,(.view 1),.hole],.seq false],[0,0,0],[kL,kL,kK]⟩⟩)] (lp vd ze)
theorem HP:UK zgg (yL (zg Tryz.f109) [1,1,0,1,0]) SW:=qI .run zl zhP ob0
theorem zfj:SK 109 za1:=z5 (.seq .run (.seq .run (.seq (.seq .run (.block (.unit SW))) .run))) [.cell 2 26] zc zl Nh Tryz.func109 (ob1 HP ob0)
def zg7:ShC:=⟨⟨[.hole,(.agg [.hole,.hole,.hole])],[],[1,1,1,1],[kM,kL,kK,kL]⟩,⟨[(.agg [.hole,.hole,(.view 0)]),.hole],[.seq false],[2,2,2,2],[kL,kK,.int .i64,kL]⟩,2,[],[],false,true,fun (x:(jS×jQ×jR×jQ))=>tx x.1 x.2.1 x.2.2.1 x.2.2.2⟩
theorem S7:SK 69 zg7:=z5 .run [.cell 4 26,.tmp 5] zc zl (gdG Jo (gd1 zfj za)) Tryz.func69 ob0
def zeb:ShC:=⟨⟨[.hole,(.agg [.hole,.hole,.hole]),.hole,.hole,(.agg [.hole,.hole,.hole]),.hole,.hole],[],[1,1,1,1,1,1,1,1,1,1,1],[kM,kL,kK,kL,.int .i64,.int .i64,kL,kK,kL,.int .i64,.int .i64]⟩,⟨[(.agg [.hole,.hole,(.view 0)]),.hole,.hole],[.seq false],[2,2,2,2,2],[kL,kK,.bool,.int .i64,kL]⟩,3,[],[],false,true,fun (x:(jS×jQ×jR×jQ×Int×Int×jQ×jR×jQ×Int×Int))=>wu x.1 x.2.1 x.2.2.1 x.2.2.2.1 x.2.2.2.2.1 x.2.2.2.2.2.1 x.2.2.2.2.2.2.1 x.2.2.2.2.2.2.2.1 x.2.2.2.2.2.2.2.2.1 x.2.2.2.2.2.2.2.2.2.1 x.2.2.2.2.2.2.2.2.2.2⟩
theorem SI:SK 29 zeb:=z5 .run [.cell 14 26,.tmp 15,.tmp 16] zc zl (gdG zf1 (gd1 Uv (gd1 Ca (gdG Tv (gd1 Ta (gdG zfh (gd1 zeg (gdG S7 (gd1 Sq (gd1 UR za)))))))))) Tryz.func29 ob0
def zfc:ShC:=⟨⟨[.hole,(.agg [.hole,.hole])],[],[1,1,1],[kM,.bool,kJ]⟩,⟨[.hole],[],[2],[.bool]⟩,1,[],[],false,false,fun (x:(jS×Bool×jI))=>wz x.1 x.2.1 x.2.2⟩
theorem zd0:SK 114 zfc:=z5 .run [.tmp 4] zc zl (gd1 Jk (gd1 Ai za)) Tryz.func114 ob0
def zez:ShC:=⟨⟨[(.agg [.hole,.hole]),(.ptr 0 0)],[.cells true [.hole,.hole]],[1,1,1,1],[.bool,kJ,.bool,kJ]⟩,⟨[.hole],[],[2],[.bool]⟩,1,[],[],false,false,fun (x:(Bool×jI×Bool×jI))=>vW x.1 x.2.1 x.2.2.1 x.2.2.2⟩
theorem zcU:SK 115 zez:=z5 .run [.tmp 3] zc zl (gd1 Jk za) Tryz.func115 ob0
def zbQ:ShC:=⟨⟨[.hole,(.clo 115 [(.ptr 0 0)])],[.cells true [.hole,.hole]],[1,1,1],[kL,.bool,kJ]⟩,⟨[.hole],[],[2],[.int .i64]⟩,1,[],[],false,false,fun (x:(jQ×Bool×jI))=>uX x.1 x.2.1 x.2.2⟩
theorem Ld:GD zbQ [(115,.gen (yu [zez]))]:=(gd1 zcU za)
def zf9:=wZ tb gl Ld zbQ Tryz.f98
theorem zha:VK zf9:=zh zc Ld
def UM:Un:=lpU 2 [9,10,5,11,12,13,14,15,16,17,4,18,8] ⟨[0,1,7,8],⟨[.hole,(.clo 115 [(.ptr 0 0)]),.hole,.hole],[.cells true [.hole,.hole]],[1,2,2,2,1],[kL,.int .i64,.int .i64,.bool,kJ]⟩⟩ [((.exit 0),⟨[],⟨[],[],[],[]⟩⟩),(.ret,⟨[4],⟨[.hole],[],[2],[.int .i64]⟩⟩)] (lp yV ze)
theorem N4:UK zf9 (yL (zg Tryz.f98) [1,0,1,0]) UM:=qI .run zl zha ob0
theorem zfa:SK 98 zbQ:=z5 (.seq .run (.seq (.seq .run (.block (.unit UM))) .run)) [.tmp 4] zc zl Ld Tryz.func98 (ob1 N4 ob0)
def zd6:ShC:=⟨⟨[.hole,(.clo 115 [(.ptr 0 0)])],[.cells true [.hole,.hole]],[1,1,1],[kL,.bool,kJ]⟩,⟨[.hole],[],[2],[.bool]⟩,1,[],[],false,false,fun (x:(jQ×Bool×jI))=>qT x.1 x.2.1 x.2.2⟩
theorem zd4:SK 56 zd6:=z5 .run [.tmp 4] zc zl (gd1 zfa za) Tryz.func56 ob0
def zbF:ShC:=⟨⟨[.hole,(.agg [.hole,.hole,.hole])],[],[1,1,1,1],[kM,kL,kK,kL]⟩,⟨[.hole,.hole],[],[2,2],[.bool,.int .i64]⟩,2,[],[],false,true,fun (x:(jS×jQ×jR×jQ))=>vt x.1 x.2.1 x.2.2.1 x.2.2.2⟩
theorem FI:GD zbF [(15,.gen (yu [Rm])),(56,.gen (yu [zd6])),(114,.gen (yu [zfc]))]:=(gdG Jo (gd1 zd4 (gd1 zd0 za)))
def zeN:=wZ tb gl FI zbF Tryz.f72
theorem zhN:VK zeN:=zh zc FI
def Uu:Un:=lpU 2 [16,17,18,7,19,20,21,22,23,24,25,26,27,4,5,28,15] ⟨[0,3,13,14,15],⟨[.hole,(.ptr 0 0),.hole,.hole,.hole],[.cells true [.hole,.hole,.hole]],[1,1,2,2,1,1,1],[kM,kL,.int .i64,.int .i64,kL,kK,kL]⟩⟩ [((.exit 0),⟨[],⟨[],[],[],[]⟩⟩),(.ret,⟨[4,5],⟨[.hole,.hole],[],[2,2],[.bool,.int .i64]⟩⟩)] (lp xp ze)
theorem MM:UK zeN (yL (zg Tryz.f72) [1,1,0,1,0]) Uu:=qI .run zl zhN ob0
theorem zcZ:SK 72 zbF:=z5 (.seq .run (.seq .run (.seq (.seq .run (.block (.unit Uu))) .run))) [.tmp 4,.tmp 5] zc zl FI Tryz.func72 (ob1 MM ob0)
def zdJ:ShC:=⟨⟨[(.ptr 0 0),(.agg [.hole,.hole,.hole,.hole,.hole,.hole,.hole,.hole,.hole,.hole]),(.agg [.hole,.hole,.hole]),.hole,.hole],[.cells false [.hole,(.view 1),.hole],.seq false],[1,1,1,1,1,1,1,2,2,2,2,2,2,1,1,1,1,2],[.int .i64,.int .i64,.int .i64,.int .i64,.int .i64,.int .i64,.int .i64,kL,kK,kL,kL,kK,kL,.bool,.int .i64,kM,.int .i64,.sl (.cons kZ (.cons kZ (.cons kZ (.cons kZ (.cons kZ (.cons kZ (.cons kZ (.cons kL (.cons kK (.one kL))))))))))]⟩,⟨[(.ptr 0 0)],[.cells false [.hole,(.view 1),.hole],.seq false],[1,2,2],[kM,.int .i64,.sl (.cons kZ (.cons kZ (.cons kZ (.cons kZ (.cons kZ (.cons kZ (.cons kZ (.cons kL (.cons kK (.one kL))))))))))]⟩,0,[0],[(0,0)],true,true,fun (x:(Int×Int×Int×Int×Int×Int×Int×jQ×jR×jQ×jQ×jR×jQ×Bool×Int×jS×Int×jT))=>zS x.1 x.2.1 x.2.2.1 x.2.2.2.1 x.2.2.2.2.1 x.2.2.2.2.2.1 x.2.2.2.2.2.2.1 x.2.2.2.2.2.2.2.1 x.2.2.2.2.2.2.2.2.1 x.2.2.2.2.2.2.2.2.2.1 x.2.2.2.2.2.2.2.2.2.2.1 x.2.2.2.2.2.2.2.2.2.2.2.1 x.2.2.2.2.2.2.2.2.2.2.2.2.1 x.2.2.2.2.2.2.2.2.2.2.2.2.2.1 x.2.2.2.2.2.2.2.2.2.2.2.2.2.2.1 x.2.2.2.2.2.2.2.2.2.2.2.2.2.2.2.1 x.2.2.2.2.2.2.2.2.2.2.2.2.2.2.2.2.1 x.2.2.2.2.2.2.2.2.2.2.2.2.2.2.2.2.2⟩
theorem zfb:SK 30 zdJ:=z5 (.seq .run (.seq .run (.seq .run (.seq .run (.hide [[9],[],[],[],[],[],[],[],[],[],[]]))))) [] zc zl (gdG zcZ za) Tryz.func30 ob0
def Sd:ShC:=⟨⟨[.hole,(.agg [.hole,.hole,.hole]),.hole,(.agg [.hole,.hole,.hole]),.hole],[],[1,1,1,1,1,1,1,1,1],[kM,kL,kK,kL,.int .i64,kL,kK,kL,.int .i64]⟩,⟨[(.view 0),.hole,.hole],[.seq false],[2,2,2],[.int .i64,.int .i64,.sl (.cons kZ (.cons kZ (.cons kZ (.cons kZ (.cons kZ (.cons kZ (.cons kZ (.cons kL (.cons kK (.one kL))))))))))]⟩,3,[],[],false,true,fun (x:(jS×jQ×jR×jQ×Int×jQ×jR×jQ×Int))=>uc x.1 x.2.1 x.2.2.1 x.2.2.2.1 x.2.2.2.2.1 x.2.2.2.2.2.1 x.2.2.2.2.2.2.1 x.2.2.2.2.2.2.2.1 x.2.2.2.2.2.2.2.2⟩
theorem Mi:GD Sd [(15,.gen (yu [Rm])),(25,.gen (yu [PE])),(26,.gen (yu [Rs])),(29,.gen (yu [zeb])),(30,.gen (yu [zdJ]))]:=(gdG Jo (gdG zea (gd1 zgc (gdG SI (gdG zfb za)))))
def E8:=wZ tb gl Mi Sd Tryz.f7
theorem Ry:VK E8:=zh zc Mi
def Sy:Un:=scU E8 [23,71,72,73,74,75,76,77,78,79,81,82,83,84,85,86,87,88,80,89,90,91,24,25,26,92,93,94,95,96,97,98,99,100,101,102,103,104,23] [(.goto 0,⟨[0,2,4,6,8,15,17,19,20,22,23,56,57,58,62,65,66,67],⟨[.hole,.hole,.hole,(.ptr 0 0),(.ptr 1 0),.hole,(.ptr 2 0),.hole,.hole,.hole,.hole,.hole,.hole,.hole,.hole,.hole,.hole,.hole],[.cells true [.hole,.hole,.hole],.cells true [.hole,.hole,.hole],.cells false [.hole,(.view 3),.hole],.seq false],[1,2,2,2,2,2,2,2,0,2,2,2,2,2,2,1,1,1,1,1,1,0,2,2],[kM,.int .i64,.int .i64,kJ,.int .i64,.int .i64,.int .i64,.int .i64,kJ,.int .i64,.int .i64,.int .i64,kJ,.int .i64,.int .i64,kL,kK,kL,kL,kK,kL,kM,.int .i64,.sl (.cons kZ (.cons kZ (.cons kZ (.cons kZ (.cons kZ (.cons kZ (.cons kZ (.cons kL (.cons kK (.one kL))))))))))]⟩⟩)] [(.normal,⟨[17],⟨[(.ptr 0 0)],[.cells false [.hole,(.view 1),.hole],.seq false],[0,2,2],[kM,.int .i64,.sl (.cons kZ (.cons kZ (.cons kZ (.cons kZ (.cons kZ (.cons kZ (.cons kZ (.cons kL (.cons kK (.one kL))))))))))]⟩⟩)] (Ax (yL (zg Tryz.f7) [1,1,1,1,1,1,0,1,0,0,1,1,0,0,1,1,0,0,1,1,0,0,1,1,0,0,1,1,0,0,1])) .run (lp rL ze)
theorem LX:UK E8 (yL (zg Tryz.f7) [1,1,1,1,1,1,0,1,0,0,1,1,0,0,1,1,0,0,1,1,0,0,1,1,0,0,1,1,0,0,1]) Sy:=zgo [] zl Ry ob0 zgu
def TX:Un:=lpU 2 [68,69,70,22,23,71,72,73,74,75,76,77,78,79,81,82,83,84,85,86,87,88,80,89,90,91,24,25,26,92,93,94,95,96,97,98,99,100,101,102,103,104,23,105,67] ⟨[0,2,4,6,8,15,17,19,20,56,57,58,62,65,66,67],⟨[.hole,.hole,.hole,(.ptr 0 0),(.ptr 1 0),.hole,(.ptr 2 0),.hole,.hole,.hole,.hole,.hole,.hole,.hole,.hole,.hole],[.cells true [.hole,.hole,.hole],.cells true [.hole,.hole,.hole],.cells false [.hole,(.view 3),.hole],.seq false],[1,2,2,2,2,2,0,2,2,2,2,2,2,1,1,1,1,1,1,0,2,2],[kM,.int .i64,.int .i64,kJ,.int .i64,.int .i64,kJ,.int .i64,.int .i64,.int .i64,kJ,.int .i64,.int .i64,kL,kK,kL,kL,kK,kL,kM,.int .i64,.sl (.cons kZ (.cons kZ (.cons kZ (.cons kZ (.cons kZ (.cons kZ (.cons kZ (.cons kL (.cons kK (.one kL))))))))))]⟩⟩ [((.exit 4),⟨[17],⟨[(.ptr 0 0)],[.cells false [.hole,(.view 1),.hole],.seq false],[0,2,2],[kM,.int .i64,.sl (.cons kZ (.cons kZ (.cons kZ (.cons kZ (.cons kZ (.cons kZ (.cons kZ (.cons kL (.cons kK (.one kL))))))))))]⟩⟩)] (lp um ze)
theorem Hc:UK E8 (yL (zg Tryz.f7) [1,1,1,1,1,1,0,1,0,0,1,1,0,0,1,1,0,0,1,1,0,0,1,1,0]) TX:=qI (.seq .run (.seq .run (.seq (.block (.seq .run (.unit Sy))) .run))) zl Ry (ob1 LX ob0)
def UC:Un:=lpU 2 [63,64,20,65,66,67,68,69,70,22,23,71,72,73,74,75,76,77,78,79,81,82,83,84,85,86,87,88,80,89,90,91,24,25,26,92,93,94,95,96,97,98,99,100,101,102,103,104,23,105,67,106,62] ⟨[0,2,4,6,8,15,17,19,56,57,58,62],⟨[.hole,.hole,.hole,(.ptr 0 0),(.ptr 1 0),.hole,(.ptr 2 0),.hole,.hole,.hole,.hole,.hole],[.cells true [.hole,.hole,.hole],.cells true [.hole,.hole,.hole],.cells false [.hole,(.view 3),.hole],.seq false],[1,2,2,2,2,0,2,2,2,1,1,1,1,1,1,0,2,2],[kM,.int .i64,.int .i64,kJ,.int .i64,kJ,.int .i64,.int .i64,.int .i64,kL,kK,kL,kL,kK,kL,kM,.int .i64,.sl (.cons kZ (.cons kZ (.cons kZ (.cons kZ (.cons kZ (.cons kZ (.cons kZ (.cons kL (.cons kK (.one kL))))))))))]⟩⟩ [((.exit 2),⟨[17],⟨[(.ptr 0 0)],[.cells false [.hole,(.view 1),.hole],.seq false],[0,2,2],[kM,.int .i64,.sl (.cons kZ (.cons kZ (.cons kZ (.cons kZ (.cons kZ (.cons kZ (.cons kZ (.cons kL (.cons kK (.one kL))))))))))]⟩⟩)] (lp rY ze)
theorem OV:UK E8 (yL (zg Tryz.f7) [1,1,1,1,1,1,0,1,0,0,1,1,0,0,1,1,0]) UC:=qI (.seq .run (.seq .run (.seq (.block (.seq .run (.seq .run (.block (.unit TX))))) .run))) zl Ry (ob1 Hc ob0)
def Sv:Un:=lpU 2 [59,60,61,19,62,63,64,20,65,66,67,68,69,70,22,23,71,72,73,74,75,76,77,78,79,81,82,83,84,85,86,87,88,80,89,90,91,24,25,26,92,93,94,95,96,97,98,99,100,101,102,103,104,23,105,67,106,62,107,58] ⟨[0,2,4,6,8,15,17,56,57,58],⟨[.hole,.hole,.hole,(.ptr 0 0),(.ptr 1 0),.hole,(.ptr 2 0),.hole,.hole,.hole],[.cells true [.hole,.hole,.hole],.cells true [.hole,.hole,.hole],.cells false [.hole,(.view 3),.hole],.seq false],[1,2,2,2,0,2,2,1,1,1,1,1,1,0,2,2],[kM,.int .i64,.int .i64,kJ,kJ,.int .i64,.int .i64,kL,kK,kL,kL,kK,kL,kM,.int .i64,.sl (.cons kZ (.cons kZ (.cons kZ (.cons kZ (.cons kZ (.cons kZ (.cons kZ (.cons kL (.cons kK (.one kL))))))))))]⟩⟩ [((.exit 0),⟨[17],⟨[(.ptr 0 0)],[.cells false [.hole,(.view 1),.hole],.seq false],[0,2,2],[kM,.int .i64,.sl (.cons kZ (.cons kZ (.cons kZ (.cons kZ (.cons kZ (.cons kZ (.cons kZ (.cons kL (.cons kK (.one kL))))))))))]⟩⟩)] (lp ug ze)
theorem H6:UK E8 (yL (zg Tryz.f7) [1,1,1,1,1,1,0,1,0]) Sv:=qI (.seq .run (.seq .run (.seq (.block (.seq .run (.seq .run (.block (.unit UC))))) .run))) zl Ry (ob1 OV ob0)
theorem TY:SK 7 Sd:=z5 (.seq .run (.seq .run (.seq .run (.seq .run (.seq .run (.seq .run (.seq (.seq .run (.block (.unit Sv))) .run))))))) [.tmp 10,.tmp 11,.tmp 12] zc zl Mi Tryz.func7 (ob1 H6 ob0)
def zfk:ShC:=⟨⟨[.hole],[],[1],[.int .u8]⟩,⟨[.hole],[],[2],[.bool]⟩,1,[],[],false,false,fun (x:Int)=>jq x⟩
theorem zc5:SK 140 zfk:=z5 .run [.tmp 2] zc zl za Tryz.func140 ob0
def Px:ShC:=⟨⟨[(.agg [.hole,.hole,.hole,.hole])],[],[1,1,1,1],[.str,.int .i64,.int .i64,.int .i64]⟩,⟨[.hole],[],[2],[.bool]⟩,1,[],[],false,false,fun (x:zj)=>kf x.1 x.2.1 x.2.2.1 x.2.2.2⟩
theorem MU:GD Px [(140,.gen (yu [zfk]))]:=(gd1 zc5 za)
def zfV:=wZ tb gl MU Px Tryz.f116
theorem zhy:VK zfV:=zh zc MU
def U9:Un:=lpU 2 [21,22,23,24,25,28,29,30,31,32,33,34,35,36,37,38,39,40,41,42,43,44,45,46,47,2,26,27,3] ⟨[1,3],⟨[(.ptr 0 0),.hole],[.cells true [.hole,.hole,.hole,.hole]],[2,2,2,2,2],[.int .i64,.str,.int .i64,.int .i64,.int .i64]⟩⟩ [((.exit 0),⟨[],⟨[],[],[],[]⟩⟩),(.ret,⟨[2],⟨[.hole],[],[2],[.bool]⟩⟩)] (lp vq ze)
theorem Ms:UK zfV (yL (zg Tryz.f116) [1,1,0,1,0]) U9:=qI .run zl zhy ob0
theorem zcR:SK 116 Px:=z5 (.seq .run (.seq .run (.seq (.seq .run (.block (.unit U9))) .run))) [.tmp 2] zc zl MU Tryz.func116 (ob1 Ms ob0)
def A9:ShC:=⟨⟨[.hole,.hole],[],[1,1],[kM,.str]⟩,⟨[.hole],[],[2],[.int .i64]⟩,1,[],[],false,false,fun (x:(jS×Str))=>Yo x.1 x.2⟩
theorem Bb:GD A9 []:=za
def SF:=wZ tb gl Bb A9 Tryz.f117
theorem zdL:VK SF:=zh zc Bb
def OI:Un:=lpU 2 [6,7,8,9,12,13,14,15,16,17,18,19,4,10,11,5] ⟨[0,1,5],⟨[.hole,.hole,.hole],[],[1,2,2],[kM,.str,.int .i64]⟩⟩ [((.exit 0),⟨[],⟨[],[],[],[]⟩⟩),(.ret,⟨[4],⟨[.hole],[],[2],[.int .i64]⟩⟩)] (lp uB ze)
theorem Fk:UK SF (yL (zg Tryz.f117) [1,0,1,0]) OI:=qI .run zl zdL ob0
theorem zby:SK 117 A9:=z5 (.seq .run (.seq (.seq .run (.block (.unit OI))) .run)) [.tmp 4] zc zl Bb Tryz.func117 (ob1 Fk ob0)
def Cw:ShC:=⟨⟨[.hole],[],[1],[kM]⟩,⟨[.hole],[],[2],[.bool]⟩,1,[],[],false,false,fun (x:jS)=>sI x⟩
theorem Ag:GD Cw [(116,.gen (yu [Px])),(117,.gen (yu [A9]))]:=(gd1 zcR (gd1 zby za))
def ST:=wZ tb gl Ag Cw Tryz.f73
theorem zej:VK ST:=zh zc Ag
def Lv:Un:=lpU 2 [19,20,21,22,25,26,27,28,29,30,31,32,33,34,35,36,37,38,39,40,41,2,23,24,3] ⟨[0,3],⟨[.hole,.hole],[],[1,2],[kM,.int .i64]⟩⟩ [((.exit 0),⟨[],⟨[],[],[],[]⟩⟩),(.ret,⟨[2],⟨[.hole],[],[2],[.bool]⟩⟩)] (lp xy ze)
theorem Fj:UK ST (yL (zg Tryz.f73) [1,1,0,1,0]) Lv:=qI .run zl zej ob0
theorem MO:SK 73 Cw:=z5 (.seq .run (.seq .run (.seq (.seq .run (.block (.unit Lv))) .run))) [.tmp 2] zc zl Ag Tryz.func73 (ob1 Fj ob0)
def A8:ShC:=⟨⟨[.hole,.hole,.hole],[],[1,1,1],[kM,kJ,.int .i64]⟩,⟨[.hole],[],[2],[.int .i64]⟩,1,[],[],false,false,fun (x:(jS×jI×Int))=>jG x.1 x.2.1 x.2.2⟩
theorem DY:GD A8 []:=za
def SC:=wZ tb gl DY A8 Tryz.f79
theorem zfM:VK SC:=zh zc DY
def HC:Un:=lpU 2 [10,11,12,13,14,15,16,17,18,19,20,21,22,23,24,25,26,27,28,29,30,31,6,32,33,7,34,35,36,37,38,39,40,41,42,43,44,45,46,47,6,48,49,50,51,52,53,54,55,56,57,7,58,59,8] ⟨[0,1,7,8],⟨[.hole,.hole,.hole,.hole],[],[1,1,2,2],[kM,kJ,.int .i64,.int .i64]⟩⟩ [((.exit 0),⟨[8],⟨[.hole],[],[2],[.int .i64]⟩⟩),(.ret,⟨[6],⟨[.hole],[],[2],[.int .i64]⟩⟩)] (lp un ze)
theorem CG:UK SC (yL (zg Tryz.f79) [1,1,0,0]) HC:=qI .run zl zfM ob0
theorem Li:SK 79 A8:=z5 (.seq .run (.seq .run (.seq (.block (.unit HC)) .run))) [.tmp 6] zc zl DY Tryz.func79 (ob1 CG ob0)
def Az:ShC:=⟨⟨[.hole,.hole],[],[1,1],[kM,kJ]⟩,⟨[.hole],[],[2],[.int .i64]⟩,1,[],[],false,false,fun (x:(jS×jI))=>uG x.1 x.2⟩
theorem DH:GD Az [(79,.gen (yu [A8]))]:=(gd1 Li za)
def SO:=wZ tb gl DH Az Tryz.f75
theorem zep:VK SO:=zh zc DH
def MJ:Un:=lpU 2 [10,11,12,13,14,15,16,17,6,18,19,4,20,21,5] ⟨[0,1,5,6],⟨[.hole,.hole,.hole,.hole],[],[1,1,2,2],[kM,kJ,.int .i64,.int .i64]⟩⟩ [((.exit 0),⟨[5],⟨[.hole],[],[2],[.int .i64]⟩⟩),(.ret,⟨[4],⟨[.hole],[],[2],[.int .i64]⟩⟩)] (lp tw ze)
theorem EC:UK SO (yL (zg Tryz.f75) [1,1,1,0,0]) MJ:=qI .run zl zep ob0
theorem Ok:SK 75 Az:=z5 (.seq .run (.seq .run (.seq .run (.seq (.block (.unit MJ)) .run)))) [.tmp 4] zc zl DH Tryz.func75 (ob1 EC ob0)
def zdh:ShC:=⟨⟨[.hole,.hole],[],[1,1],[kM,kJ]⟩,⟨[.hole],[],[2],[.bool]⟩,1,[],[],false,false,fun (x:(jS×jI))=>j6 x.1 x.2⟩
theorem zau:SK 118 zdh:=z5 .run [.tmp 4] zc zl (gd1 Ok za) Tryz.func118 ob0
def UG:ShC:=⟨⟨[.hole,(.agg [.hole,.hole])],[],[1,1,1],[kM,.bool,kJ]⟩,⟨[.hole],[],[2],[.bool]⟩,1,[],[],false,false,fun (x:(jS×Bool×jI))=>ut x.1 x.2.1 x.2.2⟩
theorem za3:SK 74 UG:=z5 .run [.tmp 4] zc zl (gd1 MO (gd1 zau za)) Tryz.func74 ob0
def Js:ShC:=⟨⟨[(.agg [.hole,.hole,.hole])],[],[1,1,1],[kL,kK,kL]⟩,⟨[(.view 0)],[.seq false],[0],[kK]⟩,1,[],[],true,false,fun (x:(jQ×jR×jQ))=>kV x.1 x.2.1 x.2.2⟩
theorem B4:GD Js []:=za
def Cv:=wZ tb gl B4 Js Tryz.f76
theorem Mq:VK Cv:=zh zc B4
def HW:Un:=lpU 2 [38,39,40,41,42,45,46,47,48,49,50,51,52,53,3,43,44,6] ⟨[1,3,6],⟨[(.ptr 0 0),(.view 1),.hole],[.cells true [.hole,.hole,.hole],.seq false],[2,1,1,1,0],[.int .i64,kL,kK,kL,kK]⟩⟩ [((.exit 4),⟨[3],⟨[(.view 0)],[.seq false],[0],[kK]⟩⟩)] (lp uD ze)
theorem CU:UK Cv (yL (zg Tryz.f76) [1,1,1,1,0,1,0]) HW:=qI .run zl Mq ob0
def LJ:Un:=lpU 2 [23,24,25,26,27,30,31,32,33,34,35,36,37,3,28,29,5] ⟨[1,3,5],⟨[(.ptr 0 0),(.view 1),.hole],[.cells true [.hole,.hole,.hole],.seq false],[2,1,1,1,0],[.int .i64,kL,kK,kL,kK]⟩⟩ [((.exit 2),⟨[3],⟨[(.view 0)],[.seq false],[0],[kK]⟩⟩)] (lp uL ze)
theorem Fb:UK Cv (yL (zg Tryz.f76) [1,1,1,0,1,0]) LJ:=qI .run zl Mq ob0
def Lo:Un:=lpU 2 [7,8,9,10,11,14,15,16,17,18,19,20,21,22,3,12,13,4] ⟨[1,3,4],⟨[(.ptr 0 0),(.view 1),.hole],[.cells true [.hole,.hole,.hole],.seq false],[2,1,1,1,0],[.int .i64,kL,kK,kL,kK]⟩⟩ [((.exit 0),⟨[3],⟨[(.view 0)],[.seq false],[0],[kK]⟩⟩)] (lp uQ ze)
theorem E3:UK Cv (yL (zg Tryz.f76) [1,1,0,1,0]) Lo:=qI .run zl Mq ob0
theorem BQ:SK 76 Js:=z5 (.seq .run (.seq .run (.seq (.seq .run (.block (.unit Lo))) (.seq (.seq .run (.block (.unit LJ))) (.seq (.seq .run (.block (.unit HW))) .run))))) [.tmp 2] zc zl B4 Tryz.func76 (ob1 E3 (ob1 Fb (ob1 CU ob0)))
def Cd:ShC:=⟨⟨[.hole,(.agg [.hole,.hole,.hole])],[],[1,1,1,1],[kM,kL,kK,kL]⟩,⟨[.hole],[],[2],[.bool]⟩,1,[],[],false,false,fun (x:(jS×jQ×jR×jQ))=>kp x.1 x.2.1 x.2.2.1 x.2.2.2⟩
theorem DX:GD Cd [(73,.gen (yu [Cw])),(74,.gen (yu [UG])),(75,.gen (yu [Az])),(76,.gen (yu [Js]))]:=(gd1 MO (gd1 za3 (gd1 Ok (gd1 BQ za))))
def IM:=wZ tb gl DX Cd Tryz.f31
theorem AO:VK IM:=zh zc DX
def Nk:Un:=lpU 2 [91,92,93,94,97,98,99,100,101,102,103,10,95,96,11] ⟨[9,10,11],⟨[.hole,.hole,.hole],[],[0,2,2],[kK,.int .i64,.int .i64]⟩⟩ [((.exit 6),⟨[10],⟨[.hole],[],[2],[.int .i64]⟩⟩)] (lp si ze)
theorem CR:UK IM (yL (zg Tryz.f31) [1,1,1,1,1,1,1,0,1,0]) Nk:=qI .run zl AO ob0
def OM:Un:=lpU 2 [63,64,65,66,67,70,71,72,73,74,75,76,8,77,78,79,80,81,82,83,84,85,86,87,88,4,68,69,7] ⟨[0,3,7],⟨[.hole,(.ptr 0 0),.hole],[.cells true [.hole,.hole,.hole]],[1,2,1,1,1],[kM,.int .i64,kL,kK,kL]⟩⟩ [((.exit 4),⟨[],⟨[],[],[],[]⟩⟩),(.ret,⟨[4],⟨[.hole],[],[2],[.bool]⟩⟩)] (lp tV ze)
theorem CW:UK IM (yL (zg Tryz.f31) [1,1,1,1,0,1,0]) OM:=qI .run zl AO ob0
def HH:Un:=lpU 2 [48,49,50,51,52,55,56,57,58,59,60,61,62,4,53,54,6] ⟨[0,3,6],⟨[.hole,(.ptr 0 0),.hole],[.cells true [.hole,.hole,.hole]],[1,2,1,1,1],[kM,.int .i64,kL,kK,kL]⟩⟩ [((.exit 2),⟨[],⟨[],[],[],[]⟩⟩),(.ret,⟨[4],⟨[.hole],[],[2],[.bool]⟩⟩)] (lp tU ze)
theorem Ff:UK IM (yL (zg Tryz.f31) [1,1,1,0,1,0]) HH:=qI .run zl AO ob0
def Mw:Un:=lpU 2 [33,34,35,36,37,40,41,42,43,44,45,46,47,4,38,39,5] ⟨[0,3,5],⟨[.hole,(.ptr 0 0),.hole],[.cells true [.hole,.hole,.hole]],[1,2,1,1,1],[kM,.int .i64,kL,kK,kL]⟩⟩ [((.exit 0),⟨[],⟨[],[],[],[]⟩⟩),(.ret,⟨[4],⟨[.hole],[],[2],[.bool]⟩⟩)] (lp tP ze)
theorem CI:UK IM (yL (zg Tryz.f31) [1,1,0,1,0]) Mw:=qI .run zl AO ob0
theorem Bf:SK 31 Cd:=z5 (.seq .run (.seq .run (.seq (.seq .run (.block (.unit Mw))) (.seq (.seq .run (.block (.unit HH))) (.seq (.seq .run (.block (.unit OM))) (.seq .run (.seq .run (.seq (.seq .run (.block (.unit Nk))) .run)))))))) [.tmp 4] zc zl DX Tryz.func31 (ob1 CI (ob1 Ff (ob1 CW (ob1 CR ob0))))
def zfH:ShC:=⟨⟨[(.agg [.hole,.hole,.hole]),.hole],[],[1,1,1,1],[kL,kK,kL,.int .i64]⟩,⟨[.hole],[],[2],[.bool]⟩,1,[],[],false,false,fun (x:(jQ×jR×jQ×Int))=>rP x.1 x.2.1 x.2.2.1 x.2.2.2⟩
theorem OJ:SK 48 zfH:=z5 .run [.tmp 4] zc zl za Tryz.func48 ob0
def S6:ShC:=⟨⟨[(.agg [.hole,.hole,.hole]),.hole],[],[1,1,1,1],[kL,kK,kL,.int .i64]⟩,⟨[.hole],[],[2],[.bool]⟩,1,[],[],false,false,fun (x:(jQ×jR×jQ×Int))=>ve x.1 x.2.1 x.2.2.1 x.2.2.2⟩
theorem MA:SK 32 S6:=z5 .run [.tmp 4] zc zl (gd1 OJ za) Tryz.func32 ob0
def K7:ShC:=⟨⟨[.hole,.hole],[],[1,1],[kJ,kJ]⟩,⟨[.hole],[],[2],[.bool]⟩,1,[],[],false,false,fun (x:(jI×jI))=>xA x.1 x.2⟩
theorem BS:GD K7 []:=za
def SL:=wZ tb gl BS K7 Tryz.f121
theorem zdp:VK SL:=zh zc BS
def HJ:Un:=lpU 2 [11,12,13,14,17,18,19,20,21,22,23,24,25,4,15,16,5] ⟨[0,1,5],⟨[.hole,.hole,.hole],[],[1,1,2],[kJ,kJ,.int .i64]⟩⟩ [((.exit 0),⟨[],⟨[],[],[],[]⟩⟩),(.ret,⟨[4],⟨[.hole],[],[2],[.bool]⟩⟩)] (lp uy ze)
theorem Ee:UK SL (yL (zg Tryz.f121) [1,1,0,1,0]) HJ:=qI .run zl zdp ob0
theorem X5:SK 121 K7:=z5 (.seq .run (.seq .run (.seq (.seq .run (.block (.unit HJ))) .run))) [.tmp 4] zc zl BS Tryz.func121 (ob1 Ee ob0)
def AW:ShC:=⟨⟨[.hole,.hole],[],[1,1],[kM,kJ]⟩,⟨[.hole],[],[2],[.int .i64]⟩,1,[],[],false,false,fun (x:(jS×jI))=>ja x.1 x.2⟩
theorem Ac:GD AW []:=za
def Uz:=wZ tb gl Ac AW Tryz.f142
theorem zfG:VK Uz:=zh zc Ac
def LS:Un:=lpU 2 [7,8,9,10,13,14,15,16,17,18,19,5,20,21,22,23,24,25,26,27,28,29,5,11,12,6] ⟨[0,1,5,6],⟨[.hole,.hole,.hole,.hole],[],[1,1,2,2],[kM,kJ,.int .i64,.int .i64]⟩⟩ [((.exit 0),⟨[5],⟨[.hole],[],[2],[.int .i64]⟩⟩)] (lp vI ze)
theorem CO:UK Uz (yL (zg Tryz.f142) [1,1,0,1,0]) LS:=qI .run zl zfG ob0
theorem zbg:SK 142 AW:=z5 (.seq .run (.seq .run (.seq (.seq .run (.block (.unit LS))) .run))) [.tmp 4] zc zl Ac Tryz.func142 (ob1 CO ob0)
def CB:ShC:=⟨⟨[.hole,.hole],[],[1,1],[kJ,kJ]⟩,⟨[.hole],[],[2],[.bool]⟩,1,[],[],false,false,fun (x:(jI×jI))=>YS x.1 x.2⟩
theorem BI:GD CB []:=za
def Am:=wZ tb gl BI CB Tryz.f143
theorem LN:VK Am:=zh zc BI
def FE:Un:=lpU 2 [28,29,30,31,34,35,36,37,38,39,40,41,42,6,32,33,8] ⟨[0,1,5,6,8],⟨[.hole,.hole,.hole,.hole,.hole],[],[1,1,2,2,2],[kJ,kJ,.int .i64,.int .i64,.int .i64]⟩⟩ [((.exit 4),⟨[6],⟨[.hole],[],[2],[.int .i64]⟩⟩)] (lp vV ze)
theorem Fe:UK Am (yL (zg Tryz.f143) [1,0,1,0,0,1,0,0,1,1,0,1,0]) FE:=qI .run zl LN ob0
def Mv:Un:=lpU 2 [13,14,15,16,19,20,21,22,23,24,25,26,27,6,17,18,7] ⟨[0,1,5,6,7],⟨[.hole,.hole,.hole,.hole,.hole],[],[1,1,2,2,2],[kJ,kJ,.int .i64,.int .i64,.int .i64]⟩⟩ [((.exit 2),⟨[6],⟨[.hole],[],[2],[.int .i64]⟩⟩)] (lp vJ ze)
theorem En:UK Am (yL (zg Tryz.f143) [1,0,1,0,0,1,0,0,1,0,1,0]) Mv:=qI .run zl LN ob0
def Ls:Un:=lpU 2 [9,10,6,7,13,14,15,16,19,20,21,22,23,24,25,26,27,6,17,18,7,8,28,29,30,31,34,35,36,37,38,39,40,41,42,6,32,33,8,43,44,4,11,12,5] ⟨[0,1,5],⟨[.hole,.hole,.hole],[],[1,1,2],[kJ,kJ,.int .i64]⟩⟩ [((.exit 0),⟨[],⟨[],[],[],[]⟩⟩),(.ret,⟨[4],⟨[.hole],[],[2],[.bool]⟩⟩)] (lp wP ze)
theorem EB:UK Am (yL (zg Tryz.f143) [1,0,1,0]) Ls:=qI (.seq .run (.seq (.block (.seq .run (.seq (.seq .run (.block (.unit Mv))) (.seq (.seq .run (.block (.unit FE))) .run)))) .run)) zl LN (ob1 En (ob1 Fe ob0))
theorem zai:SK 143 CB:=z5 (.seq .run (.seq (.seq .run (.block (.unit Ls))) .run)) [.tmp 4] zc zl BI Tryz.func143 (ob1 EB ob0)
def Ak:ShC:=⟨⟨[.hole,.hole,.hole],[],[1,1,1],[kM,kJ,.int .i64]⟩,⟨[.hole],[],[2],[.int .i64]⟩,1,[],[],false,false,fun (x:(jS×jI×Int))=>jK x.1 x.2.1 x.2.2⟩
theorem BT:GD Ak []:=za
def S4:=wZ tb gl BT Ak Tryz.f92
theorem zff:VK S4:=zh zc BT
def FD:Un:=lpU 2 [10,11,12,13,7,14,15,16,17,18,19,20,21,22,23,24,25,26,27,28,7,29,30,8] ⟨[0,1,7,8],⟨[.hole,.hole,.hole,.hole],[],[1,1,2,2],[kM,kJ,.int .i64,.int .i64]⟩⟩ [((.exit 0),⟨[8],⟨[.hole],[],[2],[.int .i64]⟩⟩)] (lp wo ze)
theorem EI:UK S4 (yL (zg Tryz.f92) [1,1,0,0]) FD:=qI .run zl zff ob0
theorem zcq:SK 92 Ak:=z5 (.seq .run (.seq .run (.seq (.block (.unit FD)) .run))) [.tmp 6] zc zl BT Tryz.func92 (ob1 EI ob0)
def Jc:ShC:=⟨⟨[.hole,.hole],[],[1,1],[kM,kJ]⟩,⟨[(.view 0)],[.seq false],[0],[kK]⟩,1,[],[],true,false,fun (x:(jS×jI))=>zK x.1 x.2⟩
theorem DD:GD Jc [(92,.gen (yu [Ak]))]:=(gd1 zcq za)
def Ul:=wZ tb gl DD Jc Tryz.f49
theorem zc8:VK Ul:=zh zc DD
def Lq:Un:=lpU 2 [8,9,10,11,12,13,14,15,7,16,17,18,19,20,21,22,5,23,6] ⟨[0,1,5,6],⟨[.hole,.hole,(.view 0),.hole],[.seq false],[1,1,2,0],[kM,kJ,.int .i64,kK]⟩⟩ [((.exit 0),⟨[5],⟨[(.view 0)],[.seq false],[0],[kK]⟩⟩)] (lp tF ze)
theorem C4:UK Ul (yL (zg Tryz.f49) [1,1,1,0,0]) Lq:=qI .run zl zc8 ob0
theorem Vy:SK 49 Jc:=z5 (.seq .run (.seq .run (.seq .run (.seq (.block (.unit Lq)) .run)))) [.tmp 4] zc zl DD Tryz.func49 (ob1 C4 ob0)
def V6 (k:Nat):ShC:=⟨⟨[.hole,.hole,.hole],[],[1,1,1],[kM,kJ,kJ]⟩,⟨[.hole],[],[2],[.bool]⟩,1,[],[],false,false,(rJ k)⟩
def zeI:ShC:=⟨⟨[.hole,.hole,.hole],[],[1,1,1],[kM,kJ,kJ]⟩,⟨[.hole],[],[2],[.bool]⟩,1,[],[],false,false,fun (x:(jS×jI×jI))=>QO x.1 x.2.1 x.2.2⟩
def Xu (k:Nat):Prop:=SK 122 (V6 k)
def T0 (k:Nat):List (Nat×Con):=[(49,.gen (yu [Jc])),(121,.gen (yu [K7])),(122,.gen (yu [V6 k])),(142,.gen (yu [AW])),(143,.gen (yu [CB]))]
theorem HU (k:Nat) (h:Xu k):GD (V6 (k+1)) (T0 k):=(gd1 Vy (gd1 X5 (gd1 h (gd1 zbg (gd1 zai za)))))
def SG (k:Nat):Env:=ZH tb gl (T0 k) (V6 (k+1)) Tryz.f122.ntmps
theorem zey (k:Nat) (h:Xu k):VK (SG k):=zh zc (HU k h)
def Mh (k:Nat):Un:=lpU 2 [59,60,61,62,65,66,67,68,69,70,71,72,73,74,75,76,77,78,79,80,81,82,83,84,6,63,64,11] ⟨[0,9,10,11],⟨[.hole,.hole,.hole,.hole],[],[1,0,0,2],[kM,kK,kK,.int .i64]⟩⟩ [((.exit 0),⟨[],⟨[],[],[],[]⟩⟩),(.ret,⟨[6],⟨[.hole],[],[2],[.bool]⟩⟩)] (lp (uF (rJ k)) ze)
theorem C8 (k:Nat) (h:Xu k):UK (SG k) (yL (zg Tryz.f122) [1,1,1,1,1,0,1,0]) (Mh k):=qI .run zl (zey k h) ob0
theorem PV (k:Nat) (h:Xu k):SK 122 (V6 (k+1)):=z5 (.seq .run (.seq .run (.seq .run (.seq .run (.seq .run (.seq (.seq .run (.block (.unit (Mh k)))) .run)))))) [.tmp 6] zc zl (HU k h) Tryz.func122 (ob1 (C8 k h) ob0)
theorem JB:∀ k,Xu k
 | 0=>X7 (by kernel_rfl) fun _=>rfl
 | k+1=>have h:=JB k; PV k h
theorem zcs:SK 122 zeI:=(JB ze)
def zdn:ShC:=⟨⟨[.hole,.hole,.hole],[],[1,1,1],[kM,kJ,kJ]⟩,⟨[.hole],[],[2],[.int .i64]⟩,1,[],[],false,false,fun (x:(jS×jI×jI))=>vO x.1 x.2.1 x.2.2⟩
theorem FP:SK 81 zdn:=z5 .run [.tmp 6] zc zl (gd1 X5 (gd1 zcs za)) Tryz.func81 ob0
def T9:ShC:=⟨⟨[.hole,(.agg [.hole,.hole]),(.agg [.hole,.hole])],[],[1,1,1,1,1],[kM,.bool,kJ,.bool,kJ]⟩,⟨[.hole],[],[2],[.int .i64]⟩,1,[],[],false,false,fun (x:(jS×Bool×jI×Bool×jI))=>rG x.1 x.2.1 x.2.2.1 x.2.2.2.1 x.2.2.2.2⟩
theorem zam:SK 77 T9:=z5 .run [.tmp 6] zc zl (gd1 FP za) Tryz.func77 ob0
def AU:ShC:=⟨⟨[.hole,.hole,.hole],[],[1,1,1],[kM,kL,.int .i64]⟩,⟨[.hole],[],[2],[.bool]⟩,1,[],[],false,false,fun (x:(jS×jQ×Int))=>jB x.1 x.2.1 x.2.2⟩
theorem BN:GD AU [(77,.gen (yu [T9]))]:=(gd1 zam za)
def Tf:=wZ tb gl BN AU Tryz.f33
theorem zeW:VK Tf:=zh zc BN
def Oh:Un:=lpU 2 [8,9,10,11,14,15,16,17,18,19,20,21,22,23,24,6,12,13,7] ⟨[0,1,2,7],⟨[.hole,.hole,.hole,.hole],[],[1,1,2,2],[kM,kL,.int .i64,.int .i64]⟩⟩ [((.exit 0),⟨[],⟨[],[],[],[]⟩⟩),(.ret,⟨[6],⟨[.hole],[],[2],[.bool]⟩⟩)] (lp tY ze)
theorem EY:UK Tf (yL (zg Tryz.f33) [1,0,1,0]) Oh:=qI .run zl zeW ob0
theorem zaQ:SK 33 AU:=z5 (.seq .run (.seq (.seq .run (.block (.unit Oh))) .run)) [.tmp 6] zc zl BN Tryz.func33 (ob1 EY ob0)
def Ay:ShC:=⟨⟨[.hole,.hole],[],[1,1],[kJ,.int .i64]⟩,⟨[.hole],[],[2],[.bool]⟩,1,[],[],false,false,fun (x:(jI×Int))=>JU x.1 x.2⟩
theorem Br:GD Ay []:=za
def Us:=wZ tb gl Br Ay Tryz.f154
theorem zcM:VK Us:=zh zc Br
def Hz:Un:=lpU 2 [6,7,8,9,12,13,14,15,16,17,18,4,10,11,5] ⟨[0,1,5],⟨[.hole,.hole,.hole],[],[1,2,2],[kJ,.int .i64,.int .i64]⟩⟩ [((.exit 0),⟨[],⟨[],[],[],[]⟩⟩),(.ret,⟨[4],⟨[.hole],[],[2],[.bool]⟩⟩)] (lp rI ze)
theorem EG:UK Us (yL (zg Tryz.f154) [1,0,1,0]) Hz:=qI .run zl zcM ob0
theorem zci:SK 154 Ay:=z5 (.seq .run (.seq (.seq .run (.block (.unit Hz))) .run)) [.tmp 4] zc zl Br Tryz.func154 (ob1 EG ob0)
def AT:ShC:=⟨⟨[.hole],[],[1],[kJ]⟩,⟨[(.view 0)],[.seq false],[2],[kJ]⟩,1,[],[],false,false,fun (x:jI)=>Qm x⟩
theorem Ae:GD AT [(154,.gen (yu [Ay]))]:=(gd1 zci za)
def Ti:=wZ tb gl Ae AT Tryz.f141
theorem zcY:VK Ti:=zh zc Ae
def Ob:Un:=lpU 2 [5,6,9,10,11,12,13,14,15,3,7,8,4] ⟨[0,3,4],⟨[.hole,(.view 0),.hole],[.seq false],[1,2,2],[kJ,.int .i64,kJ]⟩⟩ [((.exit 0),⟨[3],⟨[(.view 0)],[.seq false],[2],[kJ]⟩⟩)] (lp wj ze)
theorem E6:UK Ti (yL (zg Tryz.f141) [1,1,0,1,0]) Ob:=qI .run zl zcY ob0
theorem zaT:SK 141 AT:=z5 (.seq .run (.seq .run (.seq (.seq .run (.block (.unit Ob))) .run))) [.tmp 2] zc zl Ae Tryz.func141 (ob1 E6 ob0)
def AZ:ShC:=⟨⟨[(.agg [.hole,.hole,.hole])],[],[1,1,1],[kL,kK,kL]⟩,⟨[(.view 0)],[.seq false],[2],[kJ]⟩,1,[],[],false,false,fun (x:(jQ×jR×jQ))=>sf x.1 x.2.1 x.2.2⟩
theorem B5:GD AZ [(76,.gen (yu [Js])),(141,.gen (yu [AT]))]:=(gd1 BQ (gd1 zaT za))
def Tj:=wZ tb gl B5 AZ Tryz.f119
theorem zdr:VK Tj:=zh zc B5
def Nw:Un:=lpU 2 [8,9,10,11,14,15,16,17,18,19,3,12,13,5] ⟨[3,4,5],⟨[(.view 0),.hole,.hole],[.seq false],[0,2,2],[kK,.int .i64,kJ]⟩⟩ [((.exit 0),⟨[3],⟨[(.view 0)],[.seq false],[2],[kJ]⟩⟩)] (lp vg ze)
theorem Eb:UK Tj (yL (zg Tryz.f119) [1,1,1,0,1,0]) Nw:=qI .run zl zdr ob0
theorem zak:SK 119 AZ:=z5 (.seq .run (.seq .run (.seq .run (.seq (.seq .run (.block (.unit Nw))) .run)))) [.tmp 2] zc zl B5 Tryz.func119 (ob1 Eb ob0)
def Ir:ShC:=⟨⟨[.hole,.hole],[],[1,1],[.sl (.cons kZ kR),.int .i64]⟩,⟨[.hole],[],[2],[.int .i64]⟩,1,[],[],false,false,fun (x:((List (Int×jI))×Int))=>Qj x.1 x.2⟩
theorem B3:GD Ir []:=za
def Ur:=wZ tb gl B3 Ir Tryz.f120
theorem zcW:VK Ur:=zh zc B3
def Lp:Un:=lpU 2 [6,7,8,9,12,13,14,15,16,17,18,19,4,10,11,5] ⟨[0,1,5],⟨[.hole,.hole,.hole],[],[1,2,2],[.sl (.cons kZ kR),.int .i64,.int .i64]⟩⟩ [((.exit 0),⟨[],⟨[],[],[],[]⟩⟩),(.ret,⟨[4],⟨[.hole],[],[2],[.int .i64]⟩⟩)] (lp rE ze)
theorem E0:UK Ur (yL (zg Tryz.f120) [1,0,1,0]) Lp:=qI .run zl zcW ob0
theorem FH:SK 120 Ir:=z5 (.seq .run (.seq (.seq .run (.block (.unit Lp))) .run)) [.tmp 4] zc zl B3 Tryz.func120 (ob1 E0 ob0)
def CC:ShC:=⟨⟨[.hole,.hole],[],[1,1],[.sl (.cons kZ kR),kJ]⟩,⟨[(.view 0)],[.seq false],[2],[kJ]⟩,1,[],[],false,false,fun (x:((List (Int×jI))×jI))=>vT x.1 x.2⟩
theorem BM:GD CC [(120,.gen (yu [Ir]))]:=(gd1 FH za)
def Uc:=wZ tb gl BM CC Tryz.f80
theorem zeF:VK Uc:=zh zc BM
def Hv:Un:=lpU 2 [8,9,10,11,7,14,15,16,17,18,19,20,21,22,23,24,25,7,26,27,28,29,30,31,32,33,34,5,35,36,37,38,39,40,41,5,12,13,6] ⟨[0,1,5,6],⟨[.hole,.hole,(.view 0),.hole],[.seq false],[1,1,2,2],[.sl (.cons kZ kR),kJ,.int .i64,kJ]⟩⟩ [((.exit 0),⟨[5],⟨[(.view 0)],[.seq false],[2],[kJ]⟩⟩)] (lp tQ ze)
theorem Ea:UK Uc (yL (zg Tryz.f80) [1,1,0,1,0]) Hv:=qI .run zl zeF ob0
theorem H7:SK 80 CC:=z5 (.seq .run (.seq .run (.seq (.seq .run (.block (.unit Hv))) .run))) [.tmp 4] zc zl BM Tryz.func80 (ob1 Ea ob0)
def IG:ShC:=⟨⟨[.hole,(.agg [.hole,.hole,.hole])],[],[1,1,1,1],[.sl (.cons kZ kR),kL,kK,kL]⟩,⟨[(.agg [.hole,.hole,(.view 0)])],[.seq false],[2,2,2],[kL,kK,kL]⟩,1,[],[],false,false,fun (x:((List (Int×jI))×jQ×jR×jQ))=>tu x.1 x.2.1 x.2.2.1 x.2.2.2⟩
theorem BE:GD IG [(80,.gen (yu [CC]))]:=(gd1 H7 za)
def Cr:=wZ tb gl BE IG Tryz.f95
theorem F0:VK Cr:=zh zc BE
def HT:Un:=lpU 2 [55,56,57,58,59,62,63,64,65,66,67,68,69,70,71,72,73,74,75,76,77,78,79,80,81,60,61,8] ⟨[0,3,4,5,8],⟨[.hole,(.ptr 0 0),(.ptr 1 0),(.ptr 2 0),.hole],[.cells true [.hole,.hole,.hole],.cells true [.nilv,.nilv,.nilv],.cells false [.hole,.hole,(.view 3)],.seq false],[1,2,1,1,1,2,2,2],[.sl (.cons kZ kR),.int .i64,kL,kK,kL,kL,kK,kL]⟩⟩ [((.exit 4),⟨[5],⟨[(.ptr 0 0)],[.cells false [.hole,.hole,(.view 1)],.seq false],[2,2,2],[kL,kK,kL]⟩⟩)] (lp uz ze)
theorem CH:UK Cr (yL (zg Tryz.f95) [1,1,1,1,0,1,0]) HT:=qI .run zl F0 ob0
def N8:Un:=lpU 2 [36,37,38,39,40,43,44,45,46,47,48,49,50,51,52,53,54,41,42,7] ⟨[0,3,4,5,7],⟨[.hole,(.ptr 0 0),(.ptr 1 0),(.ptr 2 0),.hole],[.cells true [.hole,.hole,.hole],.cells true [.nilv,.nilv,.nilv],.cells false [.hole,(.view 3),.nilv],.seq false],[1,2,1,1,1,2,2],[.sl (.cons kZ kR),.int .i64,kL,kK,kL,kL,kK]⟩⟩ [((.exit 2),⟨[5],⟨[(.ptr 0 0)],[.cells false [.hole,(.view 1),.nilv],.seq false],[2,2],[kL,kK]⟩⟩)] (lp uP ze)
theorem Ew:UK Cr (yL (zg Tryz.f95) [1,1,1,0,1,0]) N8:=qI .run zl F0 ob0
def Lk:Un:=lpU 2 [9,10,11,12,13,16,17,18,19,20,21,22,23,24,25,26,27,28,29,30,31,32,33,34,35,14,15,6] ⟨[0,3,4,5,6],⟨[.hole,(.ptr 0 0),(.ptr 1 0),(.ptr 2 0),.hole],[.cells true [.hole,.hole,.hole],.cells true [.nilv,.nilv,.nilv],.cells false [(.view 3),.nilv,.nilv],.seq false],[1,2,1,1,1,2],[.sl (.cons kZ kR),.int .i64,kL,kK,kL,kL]⟩⟩ [((.exit 0),⟨[5],⟨[(.ptr 0 0)],[.cells false [(.view 1),.nilv,.nilv],.seq false],[2],[kL]⟩⟩)] (lp uI ze)
theorem C5:UK Cr (yL (zg Tryz.f95) [1,1,0,1,0]) Lk:=qI .run zl F0 ob0
theorem DQ:SK 95 IG:=z5 (.seq .run (.seq .run (.seq (.seq .run (.block (.unit Lk))) (.seq (.seq .run (.block (.unit N8))) (.seq (.seq .run (.block (.unit HT))) .run))))) [.cell 4 26] zc zl BE Tryz.func95 (ob1 C5 (ob1 Ew (ob1 CH ob0)))
def OT:ShC:=⟨⟨[(.agg [.hole,.hole,.hole]),(.agg [.hole,.hole,.hole])],[],[1,1,1,1,1,1],[kL,kK,kL,kL,kK,kL]⟩,⟨[(.agg [.hole,.hole,(.view 0)]),.hole],[.seq false],[2,2,2,2],[kL,kK,.bool,kL]⟩,2,[],[],false,false,fun (x:(jQ×jR×jQ×jQ×jR×jQ))=>t5 x.1 x.2.1 x.2.2.1 x.2.2.2.1 x.2.2.2.2.1 x.2.2.2.2.2⟩
theorem Aa:GD OT [(95,.gen (yu [IG])),(119,.gen (yu [AZ]))]:=(gd1 DQ (gd1 zak za))
def UL:=wZ tb gl Aa OT Tryz.f78
theorem zek:VK UL:=zh zc Aa
def Me:Un:=lpU 2 [25,26,27,28,31,32,33,34,35,36,37,38,5,39,40,41,42,43,44,45,46,47,48,49,50,51,52,53,54,8,29,30,10] ⟨[3,4,7,8,9,10],⟨[(.ptr 0 0),(.ptr 1 0),.hole,(.view 2),.hole,.hole],[.cells true [.hole,.hole,.hole],.cells false [.nilv,.nilv,.nilv],.seq false],[2,2,2,1,1,1,2],[.int .i64,kJ,.int .i64,kL,kK,kL,.sl (.cons kZ kR)]⟩⟩ [((.exit 0),⟨[4,8],⟨[(.ptr 0 0),(.view 1)],[.cells false [.nilv,.nilv,.nilv],.seq false],[2],[.sl (.cons kZ kR)]⟩⟩),(.ret,⟨[4,5],⟨[(.ptr 0 0),.hole],[.cells false [.nilv,.nilv,.nilv]],[2],[.bool]⟩⟩)] (lp xj ze)
theorem EH:UK UL (yL (zg Tryz.f78) [1,1,1,1,1,1,0,1,0]) Me:=qI .run zl zek ob0
theorem zaI:SK 78 OT:=z5 (.seq .run (.seq .run (.seq .run (.seq .run (.seq .run (.seq .run (.seq (.seq .run (.block (.unit Me))) .run))))))) [.cell 4 26,.tmp 5] zc zl Aa Tryz.func78 (ob1 EH ob0)
def NE:ShC:=⟨⟨[(.ptr 0 0),.hole],[.cells true [.hole]],[1,1],[kJ,.ar kR 48]⟩,⟨[.hole],[],[1],[kJ]⟩,1,[],[],true,false,fun (x:(jI×jR))=>vD x.1 x.2⟩
theorem Bv:GD NE []:=za
def Uh:=wZ tb gl Bv NE Tryz.f145
theorem zcH:VK Uh:=zh zc Bv
def FG:Un:=lpU 2 [5,6,7,8,9,10,11,12,13,14,15,16,17,18,19,20,21,22,23,24,25,26,27,28,29,30,31,32,33,34,35,1] ⟨[0,1],⟨[(.ptr 0 0),.hole],[.cells true [.hole]],[1,1],[kJ,.ar kR 48]⟩⟩ [((.exit 0),⟨[1],⟨[.hole],[],[1],[kJ]⟩⟩)] (lp x9 ze)
theorem Es:UK Uh (yL (zg Tryz.f145) [1,0,0]) FG:=qI .run zl zcH ob0
theorem zbV:SK 145 NE:=z5 (.seq .run (.seq (.block (.unit FG)) .run)) [.tmp 4] zc zl Bv Tryz.func145 (ob1 Es ob0)
def VI (k:Nat):ShC:=⟨⟨[(.ptr 0 0),.hole,.hole],[.cells true [.hole]],[1,1,1],[.int .i64,kJ,.ar kR 48]⟩,⟨[.hole],[],[2],[.bool]⟩,1,[],[],false,false,(yR k)⟩
def zfE:ShC:=⟨⟨[(.ptr 0 0),.hole,.hole],[.cells true [.hole]],[1,1,1],[.int .i64,kJ,.ar kR 48]⟩,⟨[.hole],[],[2],[.bool]⟩,1,[],[],false,false,fun (x:(Int×jI×jR))=>t6 x.1 x.2.1 x.2.2⟩
def QY (k:Nat):Prop:=SK 155 (VI k)
def Ua (k:Nat):List (Nat×Con):=[(155,.gen (yu [VI k]))]
theorem ME (k:Nat) (h:QY k):GD (VI (k+1)) (Ua k):=(gd1 h za)
def US (k:Nat):Env:=ZH tb gl (Ua k) (VI (k+1)) Tryz.f155.ntmps
theorem zcN (k:Nat) (h:QY k):VK (US k):=zh zc (ME k h)
def Lb (k:Nat):Un:=lpU 2 [9,10,11,12,15,16,17,18,19,20,21,22,23,24,8,25,26,27,28,29,30,31,32,33,34,35,36,37,38,39,40,41,42,43,44,45,46,47,48,6,13,14,7] ⟨[0,1,2,7],⟨[(.ptr 0 0),.hole,.hole,.hole],[.cells true [.hole]],[2,1,2,1],[.int .i64,kJ,.int .i64,.ar kR 48]⟩⟩ [((.exit 0),⟨[],⟨[],[],[],[]⟩⟩),(.ret,⟨[6],⟨[.hole],[],[2],[.bool]⟩⟩)] (lp (qt (yR k)) ze)
theorem E9 (k:Nat) (h:QY k):UK (US k) (yL (zg Tryz.f155) [1,0,1,0]) (Lb k):=qI .run zl (zcN k h) ob0
theorem P8 (k:Nat) (h:QY k):SK 155 (VI (k+1)):=z5 (.seq .run (.seq (.seq .run (.block (.unit (Lb k)))) .run)) [.tmp 6] zc zl (ME k h) Tryz.func155 (ob1 (E9 k h) ob0)
theorem Jn:∀ k,QY k
 | 0=>X7 (by kernel_rfl) fun _=>rfl
 | k+1=>have h:=Jn k; P8 k h
theorem zbT:SK 155 zfE:=(Jn ze)
def zeQ:ShC:=⟨⟨[(.ptr 0 0),.hole,.hole,.hole],[.cells false [.hole]],[1,1,1,1],[kJ,kJ,.bool,.ar kR 48]⟩,⟨[.hole,(.ptr 0 0)],[.cells false [.hole]],[2,1],[.bool,.ar kR 48]⟩,1,[0],[(0,0)],true,false,fun (x:(jI×jI×Bool×jR))=>zy x.1 x.2.1 x.2.2.1 x.2.2.2⟩
theorem za7:SK 146 zeQ:=z5 .run [.tmp 8] zc zl (gd1 zbT za) Tryz.func146 ob0
def Bt (k:Nat):ShC:=⟨⟨[(.ptr 0 0),.hole,.hole,.hole],[.cells false [.hole]],[1,1,1,1],[kM,kJ,kJ,.ar kR 48]⟩,⟨[.hole,(.ptr 0 0)],[.cells false [.hole]],[2,0],[.bool,.ar kR 48]⟩,1,[0],[(0,0)],true,false,(zD k).1⟩
def zdD:ShC:=⟨⟨[(.ptr 0 0),.hole,.hole,.hole],[.cells false [.hole]],[1,1,1,1],[kM,kJ,kJ,.ar kR 48]⟩,⟨[.hole,(.ptr 0 0)],[.cells false [.hole]],[2,0],[.bool,.ar kR 48]⟩,1,[0],[(0,0)],true,false,fun (x:(jS×jI×jI×jR))=>XX x.1 x.2.1 x.2.2.1 x.2.2.2⟩
def Gc (k:Nat):ShC:=⟨⟨[(.ptr 0 0),.hole,.hole,.hole],[.cells false [.hole]],[1,1,1,1],[kM,kK,kK,.ar kR 48]⟩,⟨[.hole,(.ptr 0 0)],[.cells false [.hole]],[2,0],[.bool,.ar kR 48]⟩,1,[0],[(0,0)],true,false,(zD k).2⟩
def SY:ShC:=⟨⟨[(.ptr 0 0),.hole,.hole,.hole],[.cells false [.hole]],[1,1,1,1],[kM,kK,kK,.ar kR 48]⟩,⟨[.hole,(.ptr 0 0)],[.cells false [.hole]],[2,0],[.bool,.ar kR 48]⟩,1,[0],[(0,0)],true,false,fun (x:(jS×jR×jR×jR))=>rb x.1 x.2.1 x.2.2.1 x.2.2.2⟩
def YK (k:Nat):Prop:=SK 125 (Bt k)∧SK 93 (Gc k)
theorem RQ (k:Nat) (h:YK k):SK 125 (Bt (k+1)):=z5 .run [.tmp 8] zc zl (gd1 Vy (gd1 h.2 (gd1 X5 (gd1 zbV (gd1 za7 za))))) Tryz.func125 ob0
def Ue (k:Nat):List (Nat×Con):=[(125,.gen (yu [Bt k]))]
theorem Lh (k:Nat) (h:YK k):GD (Gc (k+1)) (Ue k):=(gd1 h.1 za)
def Tc (k:Nat):Env:=ZH tb gl (Ue k) (Gc (k+1)) Tryz.f93.ntmps
theorem zdj (k:Nat) (h:YK k):VK (Tc k):=zh zc (Lh k h)
def Nf (k:Nat):Un:=lpU 2 [10,11,12,13,16,17,18,19,20,21,22,23,24,25,26,27,8,14,15,9] ⟨[0,1,2,3,9],⟨[(.ptr 0 0),.hole,.hole,.hole,.hole],[.cells false [.hole]],[1,1,1,2,0],[kM,kK,kK,.int .i64,.ar kR 48]⟩⟩ [((.exit 0),⟨[0],⟨[(.ptr 0 0)],[.cells false [.hole]],[0],[.ar kR 48]⟩⟩),(.ret,⟨[0,8],⟨[(.ptr 0 0),.hole],[.cells false [.hole]],[2,0],[.bool,.ar kR 48]⟩⟩)] (lp (qH (zD k)) ze)
theorem Ek (k:Nat) (h:YK k):UK (Tc k) (yL (zg Tryz.f93) [1,0,1,0]) (Nf k):=qI .run zl (zdj k h) ob0
theorem Sl (k:Nat) (h:YK k):SK 93 (Gc (k+1)):=z5 (.seq .run (.seq (.seq .run (.block (.unit (Nf k)))) .run)) [.tmp 8] zc zl (Lh k h) Tryz.func93 (ob1 (Ek k h) ob0)
theorem X8:∀ k,YK k
 | 0=>⟨(X7 (by kernel_rfl) fun _=>rfl),(X7 (by kernel_rfl) fun _=>rfl)⟩
 | k+1=>have h:=X8 k; ⟨RQ k h,Sl k h⟩
theorem zg6:SK 125 zdD:=(X8 ze).1
theorem zb3:SK 93 SY:=(X8 ze).2
def VT (k:Nat):ShC:=⟨⟨[(.ptr 0 0),(.view 1),.hole],[.cells true [.hole],.seq false],[1,1,1],[kJ,.ar kR 48,kJ]⟩,⟨[(.view 0)],[.seq false],[0],[kJ]⟩,1,[],[],true,false,(yq k)⟩
def TN:ShC:=⟨⟨[(.ptr 0 0),(.view 1),.hole],[.cells true [.hole],.seq false],[1,1,1],[kJ,.ar kR 48,kJ]⟩,⟨[(.view 0)],[.seq false],[0],[kJ]⟩,1,[],[],true,false,fun (x:(jI×jR×jI))=>vR x.1 x.2.1 x.2.2⟩
def QZ (k:Nat):Prop:=SK 94 (VT k)
def TJ (k:Nat):List (Nat×Con):=[(94,.gen (yu [VT k]))]
theorem HS (k:Nat) (h:QZ k):GD (VT (k+1)) (TJ k):=(gd1 h za)
def S5 (k:Nat):Env:=ZH tb gl (TJ k) (VT (k+1)) Tryz.f94.ntmps
theorem zc4 (k:Nat) (h:QZ k):VK (S5 k):=zh zc (HS k h)
def HK (k:Nat):Un:=lpU 2 [8,9,10,11,12,13,14,15,16,19,20,21,22,23,24,25,26,27,28,29,30,31,32,33,34,35,36,37,38,39,40,41,42,43,44,45,46,47,48,49,50,1,51,52,53,54,55,56,57,1,17,18,7] ⟨[0,1,2,7],⟨[(.ptr 0 0),(.view 1),.hole,.hole],[.cells true [.hole],.seq false],[1,2,1,0],[kJ,.int .i64,.ar kR 48,kJ]⟩⟩ [((.exit 0),⟨[1],⟨[(.view 0)],[.seq false],[0],[kJ]⟩⟩)] (lp (qu (yq k)) ze)
theorem CS (k:Nat) (h:QZ k):UK (S5 k) (yL (zg Tryz.f94) [1,0,1,0]) (HK k):=qI .run zl (zc4 k h) ob0
theorem RM (k:Nat) (h:QZ k):SK 94 (VT (k+1)):=z5 (.seq .run (.seq (.seq .run (.block (.unit (HK k)))) .run)) [.tmp 6] zc zl (HS k h) Tryz.func94 (ob1 (CS k h) ob0)
theorem Jg:∀ k,QZ k
 | 0=>X7 (by kernel_rfl) fun _=>rfl
 | k+1=>have h:=Jg k; RM k h
theorem zcw:SK 94 TN:=(Jg ze)
def Nr:ShC:=⟨⟨[.hole,.hole,.hole],[],[1,1,1],[kM,kJ,kJ]⟩,⟨[(.view 0),.hole,.hole],[.seq false],[2,2,0],[.bool,.bool,.sl (.cons kZ kR)]⟩,3,[],[],true,false,fun (x:(jS×jI×jI))=>vM x.1 x.2.1 x.2.2⟩
theorem Bk:GD Nr [(49,.gen (yu [Jc])),(93,.gen (yu [SY])),(94,.gen (yu [TN]))]:=(gd1 Vy (gd1 zb3 (gd1 zcw za)))
def Sr:=wZ tb gl Bk Nr Tryz.f50
theorem zfs:VK Sr:=zh zc Bk
def OE:Un:=lpU 2 [36,37,40,41,42,43,44,45,46,47,48,49,50,51,52,53,54,55,14,56,57,58,6,7,8,59,60,61,62,63,64,12,38,39,13] ⟨[11,12,13],⟨[(.ptr 0 0),(.view 1),.hole],[.cells true [.hole],.seq false],[2,0,0],[.int .i64,.ar kR 48,.sl (.cons kZ kR)]⟩⟩ [((.exit 0),⟨[12],⟨[(.view 0)],[.seq false],[0],[.sl (.cons kZ kR)]⟩⟩),(.ret,⟨[6,7,8],⟨[.nilv,.hole,.hole],[],[2,2],[.bool,.bool]⟩⟩)] (lp xa ze)
theorem E5:UK Sr (yL (zg Tryz.f50) [1,1,1,1,1,0,1,0]) OE:=qI .run zl zfs ob0
theorem zca:SK 50 Nr:=z5 (.seq .run (.seq .run (.seq .run (.seq .run (.seq .run (.seq (.seq .run (.block (.unit OE))) .run)))))) [.tmp 6,.tmp 7,.tmp 8] zc zl Bk Tryz.func50 (ob1 E5 ob0)
def zeD:ShC:=⟨⟨[.hole,.hole],[],[1,1],[kL,.int .i64]⟩,⟨[(.view 0)],[.seq false],[0],[kL]⟩,1,[],[],true,false,fun (x:(jQ×Int))=>tC x.1 x.2⟩
theorem zbe:SK 52 zeD:=z5 .run [.tmp 4] zc zl za Tryz.func52 ob0
def zeA:ShC:=⟨⟨[.hole,.hole,.hole,.hole],[],[1,1,1,1],[kJ,.int .i64,.int .i64,kJ]⟩,⟨[(.view 0)],[.seq false],[2],[kJ]⟩,1,[],[],false,false,fun (x:(jI×Int×Int×jI))=>ru x.1 x.2.1 x.2.2.1 x.2.2.2⟩
theorem zbk:SK 82 zeA:=z5 .run [.tmp 8] zc zl za Tryz.func82 ob0
def zfo:ShC:=⟨⟨[.hole,(.agg [.hole,.hole,.hole]),(.agg [.hole,.hole,.hole])],[],[1,1,1,1,1,1,1],[kL,kL,kK,kL,kL,kK,kL]⟩,⟨[(.agg [.hole,(.view 0),(.view 1)])],[.seq false,.seq false],[1,1,1],[kL,kK,kL]⟩,1,[],[],true,false,fun (x:(jQ×jQ×jR×jQ×jQ×jR×jQ))=>YG x.1 x.2.1 x.2.2.1 x.2.2.2.1 x.2.2.2.2.1 x.2.2.2.2.2.1 x.2.2.2.2.2.2⟩
theorem zao:SK 83 zfo:=z5 .run [.cell 6 26] zc zl za Tryz.func83 ob0
def SR:ShC:=⟨⟨[(.agg [.hole,.hole]),(.agg [.hole,.hole])],[],[1,1,1,1],[.bool,kJ,.bool,kJ]⟩,⟨[.hole],[],[2],[.bool]⟩,1,[],[],false,false,fun (x:(Bool×jI×Bool×jI))=>sD x.1 x.2.1 x.2.2.1 x.2.2.2⟩
theorem zce:SK 147 SR:=z5 .run [.tmp 4] zc zl (gd1 X5 za) Tryz.func147 ob0
def AB:ShC:=⟨⟨[.hole],[],[1],[kL]⟩,⟨[(.view 0)],[.seq false],[0],[kL]⟩,1,[],[],true,false,fun (x:jQ)=>Yu x⟩
theorem Bw:GD AB [(147,.gen (yu [SR]))]:=(gd1 zce za)
def Hk:=wZ tb gl Bw AB Tryz.f126
theorem U4:VK Hk:=zh zc Bw
def Nm:Un:=lpU 2 [13,14,15,16,19,20,21,22,23,24,25,26,27,28,29,30,5,17,18,6] ⟨[0,3,4,5,6],⟨[.hole,(.view 0),.hole,.hole,.hole],[.seq false],[1,2,2,2,0],[kL,.int .i64,.bool,.int .i64,kL]⟩⟩ [((.exit 2),⟨[3,5],⟨[(.view 0),.hole],[.seq false],[2,0],[.bool,kL]⟩⟩)] (lp vC ze)
theorem C3:UK Hk (yL (zg Tryz.f126) [1,1,0,1,0,0,1,0,0,1,0,1,0]) Nm:=qI .run zl U4 ob0
def Hw:Un:=lpU 2 [7,8,9,10,5,6,13,14,15,16,19,20,21,22,23,24,25,26,27,28,29,30,5,17,18,6,31,32,33,34,35,36,37,38,39,3,11,12,4] ⟨[0,3,4],⟨[.hole,(.view 0),.hole],[.seq false],[1,2,0],[kL,.int .i64,kL]⟩⟩ [((.exit 0),⟨[3],⟨[(.view 0)],[.seq false],[0],[kL]⟩⟩)] (lp uH ze)
theorem Ev:UK Hk (yL (zg Tryz.f126) [1,1,0,1,0]) Hw:=qI (.seq .run (.seq (.block (.seq .run (.seq (.seq .run (.block (.unit Nm))) .run))) .run)) zl U4 (ob1 C3 ob0)
theorem zaH:SK 126 AB:=z5 (.seq .run (.seq .run (.seq (.seq .run (.block (.unit Hw))) .run))) [.tmp 2] zc zl Bw Tryz.func126 (ob1 Ev ob0)
def H3:ShC:=⟨⟨[(.agg [.hole,.hole,.hole])],[],[1,1,1],[kL,kK,kL]⟩,⟨[(.agg [.hole,.hole,(.view 0)])],[.seq false],[2,2,2],[kL,kK,kL]⟩,1,[],[],false,false,fun (x:(jQ×jR×jQ))=>QM x.1 x.2.1 x.2.2⟩
theorem BZ:GD H3 [(76,.gen (yu [Js])),(95,.gen (yu [IG])),(120,.gen (yu [Ir])),(121,.gen (yu [K7])),(126,.gen (yu [AB]))]:=(gd1 BQ (gd1 DQ (gd1 FH (gd1 X5 (gd1 zaH za)))))
def Iy:=wZ tb gl BZ H3 Tryz.f96
theorem Ar:VK Iy:=zh zc BZ
def LA:Un:=lpU 2 [67,68,69,70,71,72,73,76,77,78,79,80,81,82,11,83,84,85,86,87,88,89,90,91,92,93,94,95,96,97,98,99,100,101,7,74,75,10] ⟨[2,3,7,8,9,10],⟨[(.ptr 0 0),(.ptr 1 0),(.view 2),.hole,.hole,.hole],[.cells true [.nilv,.nilv,.nilv],.cells true [.hole,.hole,.hole],.seq false],[0,2,2,0,0,0,2],[kK,.int .i64,.int .i64,kL,kK,kL,.sl (.cons kZ kR)]⟩⟩ [((.exit 6),⟨[7],⟨[(.view 0)],[.seq false],[2],[.sl (.cons kZ kR)]⟩⟩)] (lp wM ze)
theorem Ey:UK Iy (yL (zg Tryz.f96) [1,1,1,1,1,0,1,0,0,1,0,0,1,0]) LA:=qI .run zl Ar ob0
def O6:Un:=lpU 2 [26,27,28,29,30,33,34,35,36,37,38,39,40,41,42,43,44,45,46,5,31,32,6] ⟨[1,2,3,4,5,6],⟨[(.ptr 0 0),(.ptr 1 0),(.ptr 2 0),.hole,.hole,.hole],[.cells true [.hole,.hole,.hole],.cells true [.nilv,.nilv,.nilv],.cells false [.hole,(.view 3),.hole],.seq false],[2,2,2,1,1,1,0,0,0],[.int .i64,.bool,.int .i64,kL,kK,kL,kL,kL,kK]⟩⟩ [((.exit 2),⟨[3,5],⟨[(.ptr 0 0),.hole],[.cells false [.hole,(.view 1),.hole],.seq false],[2,0,0,0],[.bool,kL,kL,kK]⟩⟩)] (lp vB ze)
theorem EA:UK Iy (yL (zg Tryz.f96) [1,1,0,1,0,0,1,0,0,1,0,1,0]) O6:=qI .run zl Ar ob0
def Nc:Un:=lpU 2 [61,62,63,64,10,67,68,69,70,71,72,73,76,77,78,79,80,81,82,11,83,84,85,86,87,88,89,90,91,92,93,94,95,96,97,98,99,100,101,7,74,75,10,65,66,9] ⟨[2,3,7,8,9],⟨[(.ptr 0 0),(.ptr 1 0),(.view 2),.hole,.hole],[.cells true [.nilv,.nilv,.nilv],.cells true [.hole,.hole,.hole],.seq false],[0,2,0,0,0,2],[kK,.int .i64,kL,kK,kL,.sl (.cons kZ kR)]⟩⟩ [((.exit 4),⟨[7],⟨[(.view 0)],[.seq false],[2],[.sl (.cons kZ kR)]⟩⟩)] (lp uC ze)
theorem EE:UK Iy (yL (zg Tryz.f96) [1,1,1,1,1,0,1,0]) Nc:=qI (.seq .run (.seq (.block (.seq .run (.block (.unit LA)))) .run)) zl Ar (ob1 Ey ob0)
def Mz:Un:=lpU 2 [19,20,21,22,23,5,6,26,27,28,29,30,33,34,35,36,37,38,39,40,41,42,43,44,45,46,5,31,32,6,47,48,49,50,51,52,53,54,55,56,57,58,24,25,4] ⟨[1,2,3,4],⟨[(.ptr 0 0),(.ptr 1 0),(.ptr 2 0),.hole],[.cells true [.hole,.hole,.hole],.cells true [.nilv,.nilv,.nilv],.cells false [.hole,(.view 3),.hole],.seq false],[2,1,1,1,0,0,0],[.int .i64,kL,kK,kL,kL,kL,kK]⟩⟩ [((.exit 0),⟨[3],⟨[(.ptr 0 0)],[.cells false [.hole,(.view 1),.hole],.seq false],[0,0,0],[kL,kL,kK]⟩⟩)] (lp uM ze)
theorem EF:UK Iy (yL (zg Tryz.f96) [1,1,0,1,0]) Mz:=qI (.seq .run (.seq (.block (.seq .run (.seq (.seq .run (.block (.unit O6))) .run))) .run)) zl Ar (ob1 EA ob0)
theorem za2:SK 96 H3:=z5 (.seq .run (.seq .run (.seq (.seq .run (.block (.unit Mz))) (.seq .run (.seq .run (.seq (.seq .run (.block (.unit Nc))) .run)))))) [.cell 2 26] zc zl BZ Tryz.func96 (ob1 EF (ob1 EE ob0))
def zfT:ShC:=⟨⟨[.hole,.hole,(.agg [.hole,.hole,.hole])],[],[1,1,1,1,1],[kM,.sl (.cons kZ kR),kL,kK,kL]⟩,⟨[(.agg [.hole,.hole,(.view 0)]),.hole],[.seq false],[2,2,2,2],[kL,kK,.bool,kL]⟩,2,[],[],false,false,fun (x:(jS×(List (Int×jI))×jQ×jR×jQ))=>kU x.1 x.2.1 x.2.2.1 x.2.2.2.1 x.2.2.2.2⟩
theorem zbx:SK 51 zfT:=z5 .run [.cell 6 26,.tmp 7] zc zl (gd1 Bf (gd1 DQ (gd1 za2 za))) Tryz.func51 ob0
def TP:ShC:=⟨⟨[.hole,(.agg [.hole,.hole,.hole]),.hole,.hole,(.agg [.hole,.hole,.hole]),.hole,.hole],[],[1,1,1,1,1,1,1,1,1,1,1],[kM,kL,kK,kL,.int .i64,.int .i64,kL,kK,kL,.int .i64,.int .i64]⟩,⟨[(.agg [.hole,.hole,(.view 0)]),.hole,.hole],[.seq false],[2,2,2,2,2],[kL,kK,.bool,.int .i64,kL]⟩,3,[],[],false,false,fun (x:(jS×jQ×jR×jQ×Int×Int×jQ×jR×jQ×Int×Int))=>yz x.1 x.2.1 x.2.2.1 x.2.2.2.1 x.2.2.2.2.1 x.2.2.2.2.2.1 x.2.2.2.2.2.2.1 x.2.2.2.2.2.2.2.1 x.2.2.2.2.2.2.2.2.1 x.2.2.2.2.2.2.2.2.2.1 x.2.2.2.2.2.2.2.2.2.2⟩
theorem zaw:SK 34 TP:=z5 .run [.cell 14 26,.tmp 15,.tmp 16] zc zl (gd1 Bf (gd1 MA (gd1 OJ (gd1 Vy (gd1 zca (gd1 zbx (gd1 zbe (gd1 zaI (gd1 Li (gd1 H7 (gd1 FP (gd1 zbk (gd1 zao za))))))))))))) Tryz.func34 ob0
def OX:ShC:=⟨⟨[.hole,(.agg [.hole,.hole,.hole])],[],[1,1,1,1],[kM,kL,kK,kL]⟩,⟨[.hole],[],[2],[.bool]⟩,1,[],[],false,false,fun (x:(jS×jQ×jR×jQ))=>Xk x.1 x.2.1 x.2.2.1 x.2.2.2⟩
theorem BY:GD OX [(49,.gen (yu [Jc])),(121,.gen (yu [K7]))]:=(gd1 Vy (gd1 X5 za))
def Na:=wZ tb gl BY OX Tryz.f84
theorem zad:VK Na:=zh zc BY
def HQ:Un:=lpU 2 [46,47,48,51,52,53,54,55,56,57,58,59,60,61,62,63,64,65,66,67,68,69,70,71,72,73,4,49,50,8] ⟨[0,3,5,6,8],⟨[.hole,(.ptr 0 0),.hole,.hole,.hole],[.cells true [.hole,.hole,.hole]],[1,2,1,2,1,1,1],[kM,.int .i64,kJ,.int .i64,kL,kK,kL]⟩⟩ [((.exit 2),⟨[],⟨[],[],[],[]⟩⟩),(.ret,⟨[4],⟨[.hole],[],[2],[.bool]⟩⟩)] (lp qy ze)
theorem Eh:UK Na (yL (zg Tryz.f84) [1,0,1,0,0,1,0,0,1,1,1,0]) HQ:=qI .run zl zad ob0
def F8:Un:=lpU 2 [9,10,11,12,13,16,17,18,19,20,21,6,22,23,24,25,26,27,28,29,30,31,32,33,34,35,36,37,38,7,39,40,41,42,43,44,45,4,8,46,47,48,51,52,53,54,55,56,57,58,59,60,61,62,63,64,65,66,67,68,69,70,71,72,73,4,49,50,8,14,15,5] ⟨[0,3,5],⟨[.hole,(.ptr 0 0),.hole],[.cells true [.hole,.hole,.hole]],[1,2,1,1,1],[kM,.int .i64,kL,kK,kL]⟩⟩ [((.exit 0),⟨[],⟨[],[],[],[]⟩⟩),(.ret,⟨[4],⟨[.hole],[],[2],[.bool]⟩⟩)] (lp uA ze)
theorem CQ:UK Na (yL (zg Tryz.f84) [1,0,1,0]) F8:=qI (.seq .run (.seq (.block (.seq .run (.seq .run (.seq .run (.block (.unit HQ)))))) .run)) zl zad (ob1 Eh ob0)
theorem zb8:SK 84 OX:=z5 (.seq .run (.seq (.seq .run (.block (.unit F8))) .run)) [.tmp 4] zc zl BY Tryz.func84 (ob1 CQ ob0)
def UB:ShC:=⟨⟨[.hole,(.view 0),.hole,(.agg [.hole,.hole,.hole,.hole,.hole,.hole,.hole,.hole,.hole,.hole]),.hole,.hole],[.seq false],[1,1,1,1,1,1,1,1,1,1,1,1,1,1,1],[kM,.int .i64,.int .i64,.int .i64,.int .i64,.int .i64,.int .i64,.int .i64,.int .i64,kL,kK,kL,.bool,.int .i64,.sl (.cons kZ (.cons kZ (.cons kZ (.cons kZ (.cons kZ (.cons kZ (.cons kZ (.cons kL (.cons kK (.one kL))))))))))]⟩,⟨[(.view 0),.hole],[.seq false],[2,0],[.int .i64,.sl (.cons kZ (.cons kZ (.cons kZ (.cons kZ (.cons kZ (.cons kZ (.cons kZ (.cons kL (.cons kK (.one kL))))))))))]⟩,2,[],[],true,false,fun (x:(jS×Int×Int×Int×Int×Int×Int×Int×Int×jQ×jR×jQ×Bool×Int×jT))=>vA x.1 x.2.1 x.2.2.1 x.2.2.2.1 x.2.2.2.2.1 x.2.2.2.2.2.1 x.2.2.2.2.2.2.1 x.2.2.2.2.2.2.2.1 x.2.2.2.2.2.2.2.2.1 x.2.2.2.2.2.2.2.2.2.1 x.2.2.2.2.2.2.2.2.2.2.1 x.2.2.2.2.2.2.2.2.2.2.2.1 x.2.2.2.2.2.2.2.2.2.2.2.2.1 x.2.2.2.2.2.2.2.2.2.2.2.2.2.1 x.2.2.2.2.2.2.2.2.2.2.2.2.2.2⟩
theorem zba:SK 35 UB:=z5 .run [.tmp 12,.tmp 13] zc zl (gd1 zb8 za) Tryz.func35 ob0
def Co:ShC:=⟨⟨[.hole,(.agg [.hole,.hole,.hole]),.hole,(.agg [.hole,.hole,.hole]),.hole],[],[1,1,1,1,1,1,1,1,1],[kM,kL,kK,kL,.int .i64,kL,kK,kL,.int .i64]⟩,⟨[(.view 0),.hole,.hole],[.seq false],[2,2,0],[.int .i64,.int .i64,.sl (.cons kZ (.cons kZ (.cons kZ (.cons kZ (.cons kZ (.cons kZ (.cons kZ (.cons kL (.cons kK (.one kL))))))))))]⟩,3,[],[],true,false,fun (x:(jS×jQ×jR×jQ×Int×jQ×jR×jQ×Int))=>ul x.1 x.2.1 x.2.2.1 x.2.2.2.1 x.2.2.2.2.1 x.2.2.2.2.2.1 x.2.2.2.2.2.2.1 x.2.2.2.2.2.2.2.1 x.2.2.2.2.2.2.2.2⟩
theorem Af:GD Co [(31,.gen (yu [Cd])),(32,.gen (yu [S6])),(33,.gen (yu [AU])),(34,.gen (yu [TP])),(35,.gen (yu [UB]))]:=(gd1 Bf (gd1 MA (gd1 zaQ (gd1 zaw (gd1 zba za)))))
def GQ:=wZ tb gl Af Co Tryz.f8
theorem AM:VK GQ:=zh zc Af
def M4:Un:=lpU 2 [62,63,64,65,66,67,68,69,70,71,72,73,74,75,76,77,81,82,83,84,85,86,87,88,80,89,90,91,19,20,21,93,94,95,96,97,98,99,100,101,102,103,104,105,106,92,107,108,13,14,78,79,18] ⟨[0,2,4,6,8,13,14,15,16,17,18],⟨[.hole,.hole,.hole,(.ptr 0 0),(.ptr 1 0),(.view 2),.hole,.hole,.hole,.hole,.hole],[.cells true [.hole,.hole,.hole],.cells true [.hole,.hole,.hole],.seq false],[1,2,2,2,2,2,2,2,1,1,1,1,1,1,0],[kM,.int .i64,.int .i64,.int .i64,.int .i64,.int .i64,.int .i64,.int .i64,kL,kK,kL,kL,kK,kL,.sl (.cons kZ (.cons kZ (.cons kZ (.cons kZ (.cons kZ (.cons kZ (.cons kZ (.cons kL (.cons kK (.one kL))))))))))]⟩⟩ [((.exit 6),⟨[13,14],⟨[(.view 0),.hole],[.seq false],[2,0],[.int .i64,.sl (.cons kZ (.cons kZ (.cons kZ (.cons kZ (.cons kZ (.cons kZ (.cons kZ (.cons kL (.cons kK (.one kL))))))))))]⟩⟩)] (lp xf ze)
theorem ES:UK GQ (yL (zg Tryz.f8) [1,1,1,1,0,1,0,0,1,0,0,1,1,0,0,1,0,0,1,0,0,1,0,0,1,0]) M4:=qI .run zl AM ob0
def LB:Un:=lpU 2 [55,56,57,58,59,18,62,63,64,65,66,67,68,69,70,71,72,73,74,75,76,77,81,82,83,84,85,86,87,88,80,89,90,91,19,20,21,93,94,95,96,97,98,99,100,101,102,103,104,105,106,92,107,108,13,14,78,79,18,60,61,17] ⟨[0,2,4,6,8,13,14,15,16,17],⟨[.hole,.hole,.hole,(.ptr 0 0),(.ptr 1 0),(.view 2),.hole,.hole,.hole,.hole],[.cells true [.hole,.hole,.hole],.cells true [.hole,.hole,.hole],.seq false],[1,2,2,2,2,2,2,1,1,1,1,1,1,0],[kM,.int .i64,.int .i64,.int .i64,.int .i64,.int .i64,.int .i64,kL,kK,kL,kL,kK,kL,.sl (.cons kZ (.cons kZ (.cons kZ (.cons kZ (.cons kZ (.cons kZ (.cons kZ (.cons kL (.cons kK (.one kL))))))))))]⟩⟩ [((.exit 4),⟨[13,14],⟨[(.view 0),.hole],[.seq false],[2,0],[.int .i64,.sl (.cons kZ (.cons kZ (.cons kZ (.cons kZ (.cons kZ (.cons kZ (.cons kZ (.cons kL (.cons kK (.one kL))))))))))]⟩⟩)] (lp wn ze)
theorem CP:UK GQ (yL (zg Tryz.f8) [1,1,1,1,0,1,0,0,1,0,0,1,1,0,0,1,0,0,1,0]) LB:=qI (.seq .run (.seq (.block (.seq .run (.block (.unit M4)))) .run)) zl AM (ob1 ES ob0)
def NO:Un:=lpU 2 [51,52,17,55,56,57,58,59,18,62,63,64,65,66,67,68,69,70,71,72,73,74,75,76,77,81,82,83,84,85,86,87,88,80,89,90,91,19,20,21,93,94,95,96,97,98,99,100,101,102,103,104,105,106,92,107,108,13,14,78,79,18,60,61,17,53,54,16] ⟨[0,2,4,6,8,13,14,15,16],⟨[.hole,.hole,.hole,(.ptr 0 0),(.ptr 1 0),(.view 2),.hole,.hole,.hole],[.cells true [.hole,.hole,.hole],.cells true [.hole,.hole,.hole],.seq false],[1,2,2,2,2,2,1,1,1,1,1,1,0],[kM,.int .i64,.int .i64,.int .i64,.int .i64,.int .i64,kL,kK,kL,kL,kK,kL,.sl (.cons kZ (.cons kZ (.cons kZ (.cons kZ (.cons kZ (.cons kZ (.cons kZ (.cons kL (.cons kK (.one kL))))))))))]⟩⟩ [((.exit 2),⟨[13,14],⟨[(.view 0),.hole],[.seq false],[2,0],[.int .i64,.sl (.cons kZ (.cons kZ (.cons kZ (.cons kZ (.cons kZ (.cons kZ (.cons kZ (.cons kL (.cons kK (.one kL))))))))))]⟩⟩)] (lp v8 ze)
theorem Fh:UK GQ (yL (zg Tryz.f8) [1,1,1,1,0,1,0,0,1,0,0,1,1,0]) NO:=qI (.seq .run (.seq (.block (.seq .run (.block (.unit LB)))) .run)) zl AM (ob1 CP ob0)
def NZ:Un:=lpU 2 [32,33,34,35,36,39,40,41,42,43,44,45,46,47,48,49,50,16,51,52,17,55,56,57,58,59,18,62,63,64,65,66,67,68,69,70,71,72,73,74,75,76,77,81,82,83,84,85,86,87,88,80,89,90,91,19,20,21,93,94,95,96,97,98,99,100,101,102,103,104,105,106,92,107,108,13,14,78,79,18,60,61,17,53,54,16,37,38,15] ⟨[0,2,4,6,8,13,14,15],⟨[.hole,.hole,.hole,(.ptr 0 0),(.ptr 1 0),(.view 2),.hole,.hole],[.cells true [.hole,.hole,.hole],.cells true [.hole,.hole,.hole],.seq false],[1,2,2,2,2,1,1,1,1,1,1,0],[kM,.int .i64,.int .i64,.int .i64,.int .i64,kL,kK,kL,kL,kK,kL,.sl (.cons kZ (.cons kZ (.cons kZ (.cons kZ (.cons kZ (.cons kZ (.cons kZ (.cons kL (.cons kK (.one kL))))))))))]⟩⟩ [((.exit 0),⟨[13,14],⟨[(.view 0),.hole],[.seq false],[2,0],[.int .i64,.sl (.cons kZ (.cons kZ (.cons kZ (.cons kZ (.cons kZ (.cons kZ (.cons kZ (.cons kL (.cons kK (.one kL))))))))))]⟩⟩)] (lp wg ze)
theorem EJ:UK GQ (yL (zg Tryz.f8) [1,1,1,1,0,1,0]) NZ:=qI (.seq .run (.seq (.block (.seq .run (.seq .run (.block (.unit NO))))) .run)) zl AM (ob1 Fh ob0)
theorem zcb:SK 8 Co:=z5 (.seq .run (.seq .run (.seq .run (.seq .run (.seq (.seq .run (.block (.unit NZ))) .run))))) [.tmp 10,.tmp 11,.tmp 12] zc zl Af Tryz.func8 (ob1 EJ ob0)
def GT:ShC:=⟨⟨[.hole,.hole],[],[1,1],[kJ,kJ]⟩,⟨[.hole],[],[2],[.bool]⟩,1,[],[],false,false,fun (x:(jI×jI))=>wR x.1 x.2⟩
theorem BC:GD GT []:=za
def To:=wZ tb gl BC GT Tryz.f17
theorem zfW:VK To:=zh zc BC
def Ny:Un:=lpU 2 [11,12,13,14,17,18,19,20,21,22,23,24,25,4,15,16,5] ⟨[0,1,5],⟨[.hole,.hole,.hole],[],[1,1,2],[kJ,kJ,.int .i64]⟩⟩ [((.exit 0),⟨[],⟨[],[],[],[]⟩⟩),(.ret,⟨[4],⟨[.hole],[],[2],[.bool]⟩⟩)] (lp xO ze)
theorem ER:UK To (yL (zg Tryz.f17) [1,1,0,1,0]) Ny:=qI .run zl zfW ob0
theorem O0:SK 17 GT:=z5 (.seq .run (.seq .run (.seq (.seq .run (.block (.unit Ny))) .run))) [.tmp 4] zc zl BC Tryz.func17 (ob1 ER ob0)
def Nx:ShC:=⟨⟨[.hole,.hole],[],[1,1],[kL,kL]⟩,⟨[.hole],[],[2],[.bool]⟩,1,[],[],false,false,fun (x:(jQ×jQ))=>tf x.1 x.2⟩
theorem DT:GD Nx [(17,.gen (yu [GT]))]:=(gd1 O0 za)
def Tg:=wZ tb gl DT Nx Tryz.f37
theorem zdS:VK Tg:=zh zc DT
def Ns:Un:=lpU 2 [11,12,13,14,17,18,19,20,21,22,23,24,25,26,27,28,29,30,31,32,33,34,35,36,37,38,39,40,41,4,15,16,5] ⟨[0,1,5],⟨[.hole,.hole,.hole],[],[1,1,2],[kL,kL,.int .i64]⟩⟩ [((.exit 0),⟨[],⟨[],[],[],[]⟩⟩),(.ret,⟨[4],⟨[.hole],[],[2],[.bool]⟩⟩)] (lp xW ze)
theorem Em:UK Tg (yL (zg Tryz.f37) [1,1,0,1,0]) Ns:=qI .run zl zdS ob0
theorem zbX:SK 37 Nx:=z5 (.seq .run (.seq .run (.seq (.seq .run (.block (.unit Ns))) .run))) [.tmp 4] zc zl DT Tryz.func37 (ob1 Em ob0)
def F9:ShC:=⟨⟨[.hole,.hole],[],[1,1],[kK,kK]⟩,⟨[.hole],[],[2],[.bool]⟩,1,[],[],false,false,fun (x:(jR×jR))=>rA x.1 x.2⟩
theorem D7:GD F9 [(17,.gen (yu [GT]))]:=(gd1 O0 za)
def Uk:=wZ tb gl D7 F9 Tryz.f38
theorem zeU:VK Uk:=zh zc D7
def Hh:Un:=lpU 2 [11,12,13,14,17,18,19,20,21,22,23,24,25,26,4,15,16,5] ⟨[0,1,5],⟨[.hole,.hole,.hole],[],[1,1,2],[kK,kK,.int .i64]⟩⟩ [((.exit 0),⟨[],⟨[],[],[],[]⟩⟩),(.ret,⟨[4],⟨[.hole],[],[2],[.bool]⟩⟩)] (lp xQ ze)
theorem Fi:UK Uk (yL (zg Tryz.f38) [1,1,0,1,0]) Hh:=qI .run zl zeU ob0
theorem zaZ:SK 38 F9:=z5 (.seq .run (.seq .run (.seq (.seq .run (.block (.unit Hh))) .run))) [.tmp 4] zc zl D7 Tryz.func38 (ob1 Fi ob0)
def TF:ShC:=⟨⟨[(.agg [.hole,.hole,.hole]),(.agg [.hole,.hole,.hole])],[],[1,1,1,1,1,1],[kL,kK,kL,kL,kK,kL]⟩,⟨[.hole],[],[2],[.bool]⟩,1,[],[],false,false,fun (x:(jQ×jR×jQ×jQ×jR×jQ))=>yJ x.1 x.2.1 x.2.2.1 x.2.2.2.1 x.2.2.2.2.1 x.2.2.2.2.2⟩
theorem D9:SK 12 TF:=z5 .run [.tmp 4] zc zl (gd1 zbX (gd1 zaZ za)) Tryz.func12 ob0
def TO:ShC:=⟨⟨[(.agg [.hole,.hole,.hole,.hole,.hole,.hole,.hole,.hole,.hole,.hole]),(.agg [.hole,.hole,.hole,.hole,.hole,.hole,.hole,.hole,.hole,.hole])],[],[1,1,1,1,1,1,1,1,1,1,1,1,1,1,1,1,1,1,1,1],[.int .i64,.int .i64,.int .i64,.int .i64,.int .i64,.int .i64,.int .i64,kL,kK,kL,.int .i64,.int .i64,.int .i64,.int .i64,.int .i64,.int .i64,.int .i64,kL,kK,kL]⟩,⟨[.hole],[],[2],[.bool]⟩,1,[],[],false,false,fun (x:(Int×Int×Int×Int×Int×Int×Int×jQ×jR×jQ×Int×Int×Int×Int×Int×Int×Int×jQ×jR×jQ))=>tG x.1 x.2.1 x.2.2.1 x.2.2.2.1 x.2.2.2.2.1 x.2.2.2.2.2.1 x.2.2.2.2.2.2.1 x.2.2.2.2.2.2.2.1 x.2.2.2.2.2.2.2.2.1 x.2.2.2.2.2.2.2.2.2.1 x.2.2.2.2.2.2.2.2.2.2.1 x.2.2.2.2.2.2.2.2.2.2.2.1 x.2.2.2.2.2.2.2.2.2.2.2.2.1 x.2.2.2.2.2.2.2.2.2.2.2.2.2.1 x.2.2.2.2.2.2.2.2.2.2.2.2.2.2.1 x.2.2.2.2.2.2.2.2.2.2.2.2.2.2.2.1 x.2.2.2.2.2.2.2.2.2.2.2.2.2.2.2.2.1 x.2.2.2.2.2.2.2.2.2.2.2.2.2.2.2.2.2.1 x.2.2.2.2.2.2.2.2.2.2.2.2.2.2.2.2.2.2.1 x.2.2.2.2.2.2.2.2.2.2.2.2.2.2.2.2.2.2.2⟩
theorem zav:SK 36 TO:=z5 .run [.tmp 4] zc zl (gd1 D9 za) Tryz.func36 ob0
def Av:ShC:=⟨⟨[.hole,.hole],[],[1,1],[.sl (.cons kZ (.cons kZ (.cons kZ (.cons kZ (.cons kZ (.cons kZ (.cons kZ (.cons kL (.cons kK (.one kL)))))))))),.sl (.cons kZ (.cons kZ (.cons kZ (.cons kZ (.cons kZ (.cons kZ (.cons kZ (.cons kL (.cons kK (.one kL))))))))))]⟩,⟨[.hole],[],[2],[.bool]⟩,1,[],[],false,false,fun (x:(jT×jT))=>vi x.1 x.2⟩
theorem DM:GD Av [(36,.gen (yu [TO]))]:=(gd1 zav za)
def TE:=wZ tb gl DM Av Tryz.f9
theorem zeJ:VK TE:=zh zc DM
def Mb:Un:=lpU 2 [11,12,13,14,17,18,19,20,21,22,23,24,25,26,4,15,16,5] ⟨[0,1,5],⟨[.hole,.hole,.hole],[],[1,1,2],[.sl (.cons kZ (.cons kZ (.cons kZ (.cons kZ (.cons kZ (.cons kZ (.cons kZ (.cons kL (.cons kK (.one kL)))))))))),.sl (.cons kZ (.cons kZ (.cons kZ (.cons kZ (.cons kZ (.cons kZ (.cons kZ (.cons kL (.cons kK (.one kL)))))))))),.int .i64]⟩⟩ [((.exit 0),⟨[],⟨[],[],[],[]⟩⟩),(.ret,⟨[4],⟨[.hole],[],[2],[.bool]⟩⟩)] (lp xm ze)
theorem EM:UK TE (yL (zg Tryz.f9) [1,1,0,1,0]) Mb:=qI .run zl zeJ ob0
theorem FF:SK 9 Av:=z5 (.seq .run (.seq .run (.seq (.seq .run (.block (.unit Mb))) .run))) [.tmp 4] zc zl DM Tryz.func9 (ob1 EM ob0)
def TZ:ShC:=⟨⟨[.hole],[],[1],[.int .i64]⟩,⟨[.hole],[],[2],[.int .i64]⟩,1,[],[],false,false,fun (x:Int)=>ku x⟩
theorem LH:SK 10 TZ:=z5 .run [.tmp 2] zc zl za Tryz.func10 ob0
def zf4:ShC:=⟨⟨[],[],[],[]⟩,⟨[(.view 0)],[.seq false],[2],[kM]⟩,1,[],[],false,false,fun (_:Unit)=>tR⟩
theorem zat:SK 39 zf4:=z5 .run [.tmp 0] zc zl za Tryz.func39 ob0
def zft:ShC:=⟨⟨[.hole,(.agg [.hole,.hole,.hole]),.hole,.hole,(.agg [.hole,.hole,.hole]),.hole,.hole],[],[1,1,1,1,1,1,1,1,1,1,1],[kM,kL,kK,kL,.int .i64,.int .i64,kL,kK,kL,.int .i64,.int .i64]⟩,⟨[(.agg [.hole,.hole,(.view 0)]),.hole,.hole],[.seq false],[2,2,2,2,2],[kL,kK,.bool,.int .i64,kL]⟩,3,[],[],false,true,fun (x:(jS×jQ×jR×jQ×Int×Int×jQ×jR×jQ×Int×Int))=>sy x.1 x.2.1 x.2.2.1 x.2.2.2.1 x.2.2.2.2.1 x.2.2.2.2.2.1 x.2.2.2.2.2.2.1 x.2.2.2.2.2.2.2.1 x.2.2.2.2.2.2.2.2.1 x.2.2.2.2.2.2.2.2.2.1 x.2.2.2.2.2.2.2.2.2.2⟩
theorem zcf:SK 16 zft:=z5 .run [.cell 14 26,.tmp 15,.tmp 16] zc zl (gdG Jo (gd1 MV (gdG SI za))) Tryz.func16 ob0
def ze0:ShC:=⟨⟨[.hole,(.agg [.hole,.hole,.hole]),.hole],[],[1,1,1,1,1],[kM,kL,kK,kL,.int .i64]⟩,⟨[(.agg [.hole,.hole,(.view 0)]),.hole,.hole],[.seq false],[2,2,2,2,2],[kL,kK,.bool,.int .i64,kL]⟩,3,[],[],false,true,fun (x:(jS×jQ×jR×jQ×Int))=>Kv x.1 x.2.1 x.2.2.1 x.2.2.2.1 x.2.2.2.2⟩
theorem zaU:SK 47 ze0:=z5 .run [.cell 6 26,.tmp 7,.tmp 8] zc zl (gd1 Uv (gdG Tv (gdG S7 (gd1 Sq (gd1 UR za))))) Tryz.func47 ob0
def zeC:ShC:=⟨⟨[.hole,(.agg [.hole,.hole,.hole]),.hole],[],[1,1,1,1,1],[kM,kL,kK,kL,.int .i64]⟩,⟨[(.agg [.hole,.hole,(.view 0)]),.hole,.hole],[.seq false],[2,2,2,2,2],[kL,kK,.bool,.int .i64,kL]⟩,3,[],[],false,true,fun (x:(jS×jQ×jR×jQ×Int))=>QF x.1 x.2.1 x.2.2.1 x.2.2.2.1 x.2.2.2.2⟩
theorem zaX:SK 18 zeC:=z5 .run [.cell 6 26,.tmp 7,.tmp 8] zc zl (gdG Jo (gd1 MV (gdG zaU za))) Tryz.func18 ob0
def T8:ShC:=⟨⟨[],[],[],[]⟩,⟨[.hole],[],[2],[.bool]⟩,1,[],[],false,true,fun (_:Unit)=>Qg⟩
theorem zaz:SK 13 T8:=z5 .run [.tmp 0] zc zl (gdG TY (gd1 FF (gd1 LH (gd1 D9 (gdG zcf (gdG zaX (gd1 zat za))))))) Tryz.func13 ob0
def Cc:ShC:=⟨⟨[.hole,(.agg [.hole,.hole,.hole]),.hole,(.agg [.hole,.hole,.hole]),.hole],[],[1,1,1,1,1,1,1,1,1],[kM,kL,kK,kL,.int .i64,kL,kK,kL,.int .i64]⟩,⟨[.hole],[],[2],[.bool]⟩,1,[],[],false,true,fun (x:(jS×jQ×jR×jQ×Int×jQ×jR×jQ×Int))=>xd x.1 x.2.1 x.2.2.1 x.2.2.2.1 x.2.2.2.2.1 x.2.2.2.2.2.1 x.2.2.2.2.2.2.1 x.2.2.2.2.2.2.2.1 x.2.2.2.2.2.2.2.2⟩
theorem BU:GD Cc [(6,.gen (yu [zic])),(7,.gen (yu [Sd])),(8,.gen (yu [Co])),(9,.gen (yu [Av])),(10,.gen (yu [TZ])),(12,.gen (yu [TF])),(13,.gen (yu [T8]))]:=(gd1 zgC (gdG TY (gd1 zcb (gd1 FF (gd1 LH (gd1 D9 (gdG zaz za)))))))
def Hx:=wZ tb gl BU Cc Tryz.f3
theorem zds:VK Hx:=zh zc BU
def Dq:List (Code×AC):=[((yL (zg Tryz.f3) [1,1,0]),.run),((yL (zg Tryz.f3) [1,1,1,0]),.run),((yL (zg Tryz.f3) [1,1,1,1,0]),.run)]
def NP:Un:=spU Hx Dq [24,25,26,27,28,29,23,30,31,32,13,14,15,34,35,36,37,38,39,33,40,41,42,16,17,18,43,44,45,46,47,48,49,50,51,52,53,54,55,56,57,10] [58,59] [(13,.one (.sl (.cons kZ (.cons kZ (.cons kZ (.cons kZ (.cons kZ (.cons kZ (.cons kZ (.cons kL (.cons kK (.one kL))))))))))))] (yL (zg Tryz.f3) [1,1,1,1,1,1]) .run
theorem zgh:vw Tryz.prog 97 [.one kJ] :=
 ZY (l:=[]) (code:=zg Tryz.f97) zc XA Tryz.func97 (by kernel_rfl) (by kernel_rfl) (by kernel_rfl) (by kernel_rfl) (by kernel_rfl)
theorem zhK:vw Tryz.prog 53 [.one kL] :=
 ZY (l:=[(97,[.one kJ])]) (code:=zg Tryz.f53) zc (YU zgh XA) Tryz.func53 (by kernel_rfl) (by kernel_rfl) (by kernel_rfl) (by kernel_rfl) (by kernel_rfl)
theorem zgR:vw Tryz.prog 54 [.one kK] :=
 ZY (l:=[(97,[.one kJ])]) (code:=zg Tryz.f54) zc (YU zgh XA) Tryz.func54 (by kernel_rfl) (by kernel_rfl) (by kernel_rfl) (by kernel_rfl) (by kernel_rfl)
theorem zgX:vw Tryz.prog 22 [.agg [kL,kK,kL]] :=
 ZY (l:=[(53,[.one kL]),(54,[.one kK])]) (code:=zg Tryz.f22) zc (YU zhK (YU zgR XA)) Tryz.func22 (by kernel_rfl) (by kernel_rfl) (by kernel_rfl) (by kernel_rfl) (by kernel_rfl)
theorem zg3:vw Tryz.prog 11 [.one (.sl (.cons kZ (.cons kZ (.cons kZ (.cons kZ (.cons kZ (.cons kZ (.cons kZ (.cons kL (.cons kK (.one kL)))))))))))] :=
 ZY (l:=[(22,[.agg [kL,kK,kL]])]) (code:=zg Tryz.f11) zc (YU zgX XA) Tryz.func11 (by kernel_rfl) (by kernel_rfl) (by kernel_rfl) (by kernel_rfl) (by kernel_rfl)
theorem ET:UK Hx (yL (zg Tryz.f3) [1,1]) NP:=fun X hX =>
 zhD zds zl (l:=[(11,[.one (.sl (.cons kZ (.cons kZ (.cons kZ (.cons kZ (.cons kZ (.cons kZ (.cons kZ (.cons kL (.cons kK (.one kL)))))))))))])]) (YU zg3 XA) (cs:=Dq) (sps:=[(yL (zg Tryz.f3) [1,1,1,1,1,0])]) (by kernel_rfl) (fun X hX=>(J1 (by kernel_rfl) (ob0 X hX) (J1 (by kernel_rfl) (ob0 X hX) (J1 (by kernel_rfl) (ob0 X hX) zbv)))) (by kernel_rfl) ob0 (by kernel_rfl) (by kernel_rfl) (by kernel_rfl) hX
theorem zbq:SK 3 Cc:=z5 (.seq .run (.seq .run (.unit NP))) [.tmp 10] zc zl BU Tryz.func3 (ob1 ET ob0)
end
end Go.Abs.Sz6
