import Derived.Test.YtleengbobccdkaaGreatDoorFc
import Derived.Test.YtleengbobccdkaaGreatDoorQc
import Derived.Test.YtleengbobccdkaaGreatDoorProg
/-
 The functions make just that.
-/
namespace Go.Abs.Sz5
open Go Go.Abs Go.Abs.Q Go.Proofs
set_option maxRecDepth 100000
noncomputable section
abbrev kK:Ty:=.sl (.one (.sl (.one (.int .i64))))
abbrev kR:Tys:=.one (.sl (.one (.int .i64)))
abbrev kJ:Ty:=.sl (.one (.int .i64))
abbrev kI:Tys:=.one (.int .i64)
abbrev kZ:Ty:=.int .i64
abbrev kL:Ty:=.sl zjY
abbrev kM:Ty:=.sl zrC
def tbl:List (Nat×TD):=[(3,.int .i64),
 (4,.bool),
 (9,.str),
 (22,.sl 136 zrC 40),
 (23,.sl 3 kI 8),
 (24,.sl 69 zjY 32),
 (27,.sl 23 kR 24),
 (29,.st [(24,0),(27,1),(24,2)] 3),
 (50,.sl 73 (.cons kZ (.cons kZ (.cons kZ (.cons kZ (.cons kZ (.cons kZ (.cons kZ (.cons kL (.cons kK (.one kL)))))))))) 128),
 (69,.st [(4,0),(23,1)] 2),
 (73,.st [(3,0),(3,1),(3,2),(3,3),(3,4),(3,5),(3,6),(29,7)] 10),
 (99,.sl 144 (.cons kZ kR) 32),
 (109,.st [(22,0),(50,1),(3,2)] 3),
 (136,.st [(9,0),(3,1),(3,2),(3,3)] 4),
 (144,.st [(3,0),(23,1)] 2),
 (156,.arr 23 kR 48),
 (158,.st [(156,0)] 48),
 (178,.arr 3 kI 24),
 (198,.st [(23,0),(3,1)] 2),
 (199,.arr 198 (.cons (.ns kI) kI) 48),
 (201,.st [(22,0),(199,1)] 97),
 (204,.sl 27 (.one kK) 24),
 (206,.sl 24 (.one kL) 24),
 (217,.sl 220 (.cons kJ (.cons kZ (.cons kJ kI))) 64),
 (220,.fa 198 2 2),
 (239,.arr 4 (.one .bool) 48),
 (240,.sl 198 (.cons kJ kI) 32)]
def tb:Tb:=zCm tbl
theorem zj:zc3 Tryz.prog tb:=zBh (by kernel_rfl)
theorem zw:Tryz.prog.follows .mixedOrders=true:=by kernel_rfl
def gl:Gl:=fun q=>cond (Nat.beq q 0) (some ⟨zrC,(([61],0,2,1):zq)⟩) (none)
def zKE:ShC:=⟨⟨[.hole],[],[1],[kJ]⟩,⟨[(.view 0)],[.seq false],[2],[kJ]⟩,1,[],[],false,false,fun (x:jI)=>zbJ x⟩
-- quaerelaw0.CopyInts
theorem zIw:ShOk Tryz.prog gl 51 zKE:=yL .run [.tmp 2] zj zw zd Tryz.func51 ob0
def w1_c:ShC:=⟨⟨[.hole],[],[1],[kL]⟩,⟨[(.view 0)],[.seq false],[2],[kL]⟩,1,[],[],false,false,fun (x:jQ)=>zdr x⟩
-- quaerelaw0.CopyLits
theorem zFt:zL Tryz.prog (cond w1_c.glob gl fun _=>none) [(51,.gen (qv [zKE]))]:=(gd1 zIw zd)
def zK3:=zcD tb gl zFt w1_c Tryz.f13
theorem zLf:VAll Tryz.prog zK3:=zu zj zFt
def zGP:Un:=lpU 2 [5,6,7,8,11,12,13,14,15,16,17,18,19,20,21,22,23,24,25,3,9,10,4] ⟨[0,3,4],⟨[.hole,(.view 0),.hole],[.seq false],[1,2,2],[kL,.int .i64,kL]⟩⟩ [((.exit 0),⟨[3],⟨[(.view 0)],[.seq false],[2],[kL]⟩⟩)] (lp qO zi)
theorem zAL:UnA Tryz.prog zK3 (qT (zm Tryz.f13) [1,1,0,1,0]) zGP:=zaT .run zw zLf ob0
theorem zJM:ShOk Tryz.prog gl 13 w1_c:=yL (.seq .run (.seq .run (.seq (.seq .run (.block (.unit zGP))) .run))) [.tmp 2] zj zw zFt Tryz.func13 (ob1 zAL ob0)
def w2_c:ShC:=⟨⟨[.hole],[],[1],[kK]⟩,⟨[(.view 0)],[.seq false],[2],[kK]⟩,1,[],[],false,false,fun (x:jR)=>zek x⟩
-- quaerelaw0.CopyRows
theorem zFh:zL Tryz.prog (cond w2_c.glob gl fun _=>none) [(51,.gen (qv [zKE]))]:=(gd1 zIw zd)
def zKV:=zcD tb gl zFh w2_c Tryz.f68
theorem zLd:VAll Tryz.prog zKV:=zu zj zFh
def zG3:Un:=lpU 2 [5,6,7,8,11,12,13,14,15,16,17,18,3,9,10,4] ⟨[0,3,4],⟨[.hole,(.view 0),.hole],[.seq false],[1,2,2],[kK,.int .i64,kK]⟩⟩ [((.exit 0),⟨[3],⟨[(.view 0)],[.seq false],[2],[kK]⟩⟩)] (lp qE zi)
theorem zAZ:UnA Tryz.prog zKV (qT (zm Tryz.f68) [1,1,0,1,0]) zG3:=zaT .run zw zLd ob0
theorem zJ5:ShOk Tryz.prog gl 68 w2_c:=yL (.seq .run (.seq .run (.seq (.seq .run (.block (.unit zG3))) .run))) [.tmp 2] zj zw zFh Tryz.func68 (ob1 zAZ ob0)
def zK9:ShC:=⟨⟨[(.agg [.hole,.hole,.hole])],[],[1,1,1],[kL,kK,kL]⟩,⟨[(.agg [(.view 0),(.view 1),(.view 2)])],[.seq false,.seq false,.seq false],[2,2,2],[kL,kK,kL]⟩,1,[],[],false,false,fun (x:(jQ×jR×jQ))=>zbl x.1 x.2.1 x.2.2⟩
-- quaerelaw0.CopyClause
theorem zJG:ShOk Tryz.prog gl 23 zK9:=yL .run [.cell 2 29] zj zw (gd1 zJM (gd1 zJ5 zd)) Tryz.func23 ob0
def zKR:ShC:=⟨⟨[.hole],[],[1],[.int .u8]⟩,⟨[.hole],[],[2],[.bool]⟩,1,[],[],false,false,fun (x:Int)=>zeu x⟩
-- sign.small
theorem zKK:ShOk Tryz.prog gl 204 zKR:=yL .run [.tmp 2] zj zw zd Tryz.func204 ob0
def w5_c:ShC:=⟨⟨[.hole],[],[1],[.str]⟩,⟨[.hole],[],[2],[.bool]⟩,1,[],[],false,false,fun (x:Str)=>zgM x⟩
-- sign.called
theorem zES:zL Tryz.prog (cond w5_c.glob gl fun _=>none) [(204,.gen (qv [zKR]))]:=(gd1 zKK zd)
def zK1:=zcD tb gl zES w5_c Tryz.f167
theorem zLe:VAll Tryz.prog zK1:=zu zj zES
def zG6:Un:=lpU 2 [20,21,3,22,23,24,25,26,27,28,29,30,31,32,33,34,35,36,37,38,2,39,19] ⟨[0,18,19],⟨[.hole,.hole,.hole],[],[2,2,2],[.str,.int .i64,.int .i64]⟩⟩ [((.exit 0),⟨[],⟨[],[],[],[]⟩⟩),(.ret,⟨[2],⟨[.hole],[],[2],[.bool]⟩⟩)] (lp zaw zi)
theorem zAh:UnA Tryz.prog zK1 (qT (zm Tryz.f167) [1,1,0,1,0]) zG6:=zaT .run zw zLe ob0
theorem zKv:ShOk Tryz.prog gl 167 w5_c:=yL (.seq .run (.seq .run (.seq (.seq .run (.block (.unit zG6))) .run))) [.tmp 2] zj zw zES Tryz.func167 (ob1 zAh ob0)
def zKZ:ShC:=⟨⟨[(.agg [.hole,.hole,.hole,.hole])],[],[1,1,1,1],[.str,.int .i64,.int .i64,.int .i64]⟩,⟨[.hole],[],[2],[.bool]⟩,1,[],[],false,false,fun (x:zq)=>zeB x.1 x.2.1 x.2.2.1 x.2.2.2⟩
-- sign.SymMay
theorem zJy:ShOk Tryz.prog gl 113 zKZ:=yL .run [.tmp 2] zj zw (gd1 zKv zd) Tryz.func113 ob0
def w7_c:ShC:=⟨⟨[.hole,.hole],[],[1,1],[kM,.str]⟩,⟨[.hole],[],[2],[.int .i64]⟩,1,[],[],false,false,fun (x:(jS×Str))=>zf2 x.1 x.2⟩
-- sign.find
theorem zEa:zL Tryz.prog (cond w7_c.glob gl fun _=>none) []:=zd
def zK4:=zcD tb gl zEa w7_c Tryz.f114
theorem zLb:VAll Tryz.prog zK4:=zu zj zEa
def zGx:Un:=lpU 2 [9,10,5,11,12,13,14,15,16,17,18,4,19,8] ⟨[0,1,7,8],⟨[.hole,.hole,.hole,.hole],[],[1,2,2,2],[kM,.str,.int .i64,.int .i64]⟩⟩ [((.exit 0),⟨[],⟨[],[],[],[]⟩⟩),(.ret,⟨[4],⟨[.hole],[],[2],[.int .i64]⟩⟩)] (lp zbD zi)
theorem zAQ:UnA Tryz.prog zK4 (qT (zm Tryz.f114) [1,0,1,0]) zGx:=zaT .run zw zLb ob0
theorem zKB:ShOk Tryz.prog gl 114 w7_c:=yL (.seq .run (.seq (.seq .run (.block (.unit zGx))) .run)) [.tmp 4] zj zw zEa Tryz.func114 (ob1 zAQ ob0)
def w8_c:ShC:=⟨⟨[.hole],[],[1],[kM]⟩,⟨[.hole],[],[2],[.bool]⟩,1,[],[],false,true,fun (x:jS)=>zgF x⟩
-- sign.May
theorem zEy:zL Tryz.prog (cond w8_c.glob gl fun _=>none) [(113,.gen (qv [zKZ])),(114,.gen (qv [w7_c]))]:=(gd1 zJy (gd1 zKB zd))
def zKU:=zcD tb gl zEy w8_c Tryz.f52
theorem zLh:VAll Tryz.prog zKU:=zu zj zEy
def zHL:Un:=lpU 2 [19,20,21,22,25,26,27,28,29,30,31,32,33,34,35,36,37,38,39,40,41,2,23,24,3] ⟨[0,3],⟨[.hole,.hole],[],[1,2],[kM,.int .i64]⟩⟩ [((.exit 0),⟨[],⟨[],[],[],[]⟩⟩),(.ret,⟨[2],⟨[.hole],[],[2],[.bool]⟩⟩)] (lp zcP zi)
theorem zAz:UnA Tryz.prog zKU (qT (zm Tryz.f52) [1,1,0,1,0]) zHL:=zaT .run zw zLh ob0
theorem zFq:ShOk Tryz.prog gl 52 w8_c:=yL (.seq .run (.seq .run (.seq (.seq .run (.block (.unit zHL))) .run))) [.tmp 2] zj zw zEy Tryz.func52 (ob1 zAz ob0)
def zJc:ShC:=⟨⟨[.hole],[],[1],[.int .i64]⟩,⟨[.hole],[],[2],[.int .i64]⟩,1,[],[],false,false,fun (x:Int)=>yU x⟩
-- term.Number
theorem zuA:ShOk Tryz.prog gl 55 zJc:=yL .run [.tmp 2] zj zw zd Tryz.func55 ob0
def zHX:ShC:=⟨⟨[.hole,.hole],[],[1,1],[kM,.int .i64]⟩,⟨[.hole,.hole],[],[2,2],[.int .i64,.bool]⟩,2,[],[],false,false,fun (x:(jS×Int))=>zhW x.1 x.2⟩
-- term.args
theorem zGb:ShOk Tryz.prog gl 193 zHX:=yL .run [.tmp 4,.tmp 5] zj zw (gd1 zuA zd) Tryz.func193 ob0
def w11_c:ShC:=⟨⟨[.hole,.hole,.hole],[],[1,1,1],[kM,kJ,.int .i64]⟩,⟨[.hole,.hole],[],[2,2],[.int .i64,.bool]⟩,2,[],[],false,false,fun (x:(jS×jI×Int))=>zfy x.1 x.2.1 x.2.2⟩
-- term.Skip
theorem zyw:zL Tryz.prog (cond w11_c.glob gl fun _=>none) [(193,.gen (qv [zHX]))]:=(gd1 zGb zd)
def zEp:=zcD tb gl zyw w11_c Tryz.f151
theorem zKd:VAll Tryz.prog zEp:=zu zj zyw
def zDe:Un:=scU zEp [8,11,12,13,14,6,7,16,17,18,19,20,21,15,22,23,9,10,24,25,6,7,26,27,2,28,29,30,31,8,32,33,34,6,7] [(.goto 0,⟨[0,1,2,8],⟨[.hole,.hole,.hole,.hole],[],[1,1,2,2],[kM,kJ,.int .i64,.int .i64]⟩⟩)] [(.ret,⟨[6,7],⟨[.hole,.hole],[],[2,2],[.int .i64,.bool]⟩⟩)] (zuC (qT (zm Tryz.f151) [1])) .run (lp zcf zi)
theorem zx5:UnA Tryz.prog zEp (qT (zm Tryz.f151) [1]) zDe:=zKn [] zw zKd ob0 zKG
theorem zDw:ShOk Tryz.prog gl 151 w11_c:=yL (.seq .run (.unit zDe)) [.tmp 6,.tmp 7] zj zw zyw Tryz.func151 (ob1 zx5 ob0)
def w12_c:ShC:=⟨⟨[.hole,.hole],[],[1,1],[kM,kJ]⟩,⟨[(.view 0),.hole],[.seq false],[2,2],[.bool,kJ]⟩,2,[],[],false,true,fun (x:(jS×jI))=>zdy x.1 x.2⟩
-- term.begins
theorem zwN:zL Tryz.prog (cond w12_c.glob gl fun _=>none) [(52,.gen (qv [w8_c])),(151,.gen (qv [w11_c]))]:=(gdG zFq (gd1 zDw zd))
def zEI:=zcD tb gl zwN w12_c Tryz.f158
theorem zKL:VAll Tryz.prog zEI:=zu zj zwN
def zCZ:Un:=scU zEI [10,11,12,13,14,15,16,17,4,5,6,7,18,19,20,21,22,4,5,24,25,26,27,23,28,29,8,9,30,31,4,5,32,33,34,35,6,36,7] [(.goto 0,⟨[0,1,6,7],⟨[.hole,.hole,(.view 0),.hole],[.seq false],[1,1,2,2],[kM,kJ,.int .i64,kJ]⟩⟩)] [(.ret,⟨[4,5],⟨[(.view 0),.hole],[.seq false],[2,2],[.bool,kJ]⟩⟩)] (zuC (qT (zm Tryz.f158) [1])) .run (lp zcG zi)
theorem zx4:UnA Tryz.prog zEI (qT (zm Tryz.f158) [1]) zCZ:=zKn [] zw zKL ob0 zKG
theorem zxj:ShOk Tryz.prog gl 158 w12_c:=yL (.seq .run (.unit zCZ)) [.tmp 4,.tmp 5] zj zw zwN Tryz.func158 (ob1 zx4 ob0)
def zKj:ShC:=⟨⟨[.hole,.hole],[],[1,1],[kM,kJ]⟩,⟨[.hole],[],[2],[.bool]⟩,1,[],[],false,true,fun (x:(jS×jI))=>zck x.1 x.2⟩
-- term.IsAtom
theorem zCN:ShOk Tryz.prog gl 101 zKj:=yL .run [.tmp 4] zj zw (gdG zxj zd) Tryz.func101 ob0
def zIY:ShC:=⟨⟨[.hole,(.agg [.hole,.hole])],[],[1,1,1],[kM,.bool,kJ]⟩,⟨[.hole],[],[2],[.bool]⟩,1,[],[],false,true,fun (x:(jS×Bool×jI))=>zgd x.1 x.2.1 x.2.2⟩
-- lit.May
theorem zvt:ShOk Tryz.prog gl 142 zIY:=yL .run [.tmp 4] zj zw (gdG zCN zd) Tryz.func142 ob0
def w15_c:ShC:=⟨⟨[.hole,.hole],[],[1,1],[kM,kL]⟩,⟨[.hole,.hole],[],[2,2],[.int .i64,.bool]⟩,2,[],[],false,true,fun (x:(jS×jQ))=>zcI x.1 x.2⟩
-- clause.litsMay
theorem zxI:zL Tryz.prog (cond w15_c.glob gl fun _=>none) [(142,.gen (qv [zIY]))]:=(gdG zvt zd)
def zGJ:=zcD tb gl zxI w15_c Tryz.f104
theorem zKy:VAll Tryz.prog zGJ:=zu zj zxI
def zCX:Un:=lpU 2 [12,13,14,8,15,16,17,18,4,5,19,20,21,22,23,6,24,11] ⟨[0,6,9,10,11],⟨[.hole,.hole,.hole,.hole,.hole],[],[1,2,1,2,2],[kM,.int .i64,kL,.int .i64,.int .i64]⟩⟩ [((.exit 0),⟨[6],⟨[.hole],[],[2],[.int .i64]⟩⟩),(.ret,⟨[4,5],⟨[.hole,.hole],[],[2,2],[.int .i64,.bool]⟩⟩)] (lp qb zi)
theorem zwi:UnA Tryz.prog zGJ (qT (zm Tryz.f104) [1,1,0,1,0]) zCX:=zaT .run zw zKy ob0
theorem zIM:ShOk Tryz.prog gl 104 w15_c:=yL (.seq .run (.seq .run (.seq (.seq .run (.block (.unit zCX))) .run))) [.tmp 4,.tmp 5] zj zw zxI Tryz.func104 (ob1 zwi ob0)
def zEz:ShC:=⟨⟨[.hole,.hole],[],[1,1],[kM,kJ]⟩,⟨[.hole,.hole],[],[2,2],[.int .i64,.int .i64]⟩,2,[],[],false,true,fun (x:(jS×jI))=>zgq x.1 x.2⟩
-- term.Row
theorem zB6:ShOk Tryz.prog gl 162 zEz:=yL .run [.tmp 4,.tmp 5] zj zw (gdG zxj zd) Tryz.func162 ob0
def w17_c:ShC:=⟨⟨[.hole,.hole],[],[1,1],[kM,kK]⟩,⟨[.hole,.hole],[],[2,2],[.int .i64,.bool]⟩,2,[],[],false,true,fun (x:(jS×jR))=>zdO x.1 x.2⟩
-- clause.rowsMay
theorem zwb:zL Tryz.prog (cond w17_c.glob gl fun _=>none) [(162,.gen (qv [zEz]))]:=(gdG zB6 zd)
def zHq:=zcD tb gl zwb w17_c Tryz.f105
theorem zJk:VAll Tryz.prog zHq:=zu zj zwb
def zDg:Un:=lpU 2 [15,16,17,18,8,9,20,21,22,19,23,24,10,11,25,26,27,7,28,29,30,31,32,33,34,4,5,35,36,37,38,6,39,14] ⟨[0,6,7,12,13,14],⟨[.hole,.hole,.hole,.hole,.hole,.hole],[],[1,2,2,1,2,2],[kM,.int .i64,.int .i64,kK,.int .i64,.int .i64]⟩⟩ [((.exit 0),⟨[6],⟨[.hole],[],[2],[.int .i64]⟩⟩),(.ret,⟨[4,5],⟨[.hole,.hole],[],[2,2],[.int .i64,.bool]⟩⟩)] (lp qc zi)
theorem zzG:UnA Tryz.prog zHq (qT (zm Tryz.f105) [1,1,0,1,0]) zDg:=zaT .run zw zJk ob0
theorem zGh:ShOk Tryz.prog gl 105 w17_c:=yL (.seq .run (.seq .run (.seq (.seq .run (.block (.unit zDg))) .run))) [.tmp 4,.tmp 5] zj zw zwb Tryz.func105 (ob1 zzG ob0)
def zD8:ShC:=⟨⟨[.hole,(.agg [.hole,.hole,.hole])],[],[1,1,1,1],[kM,kL,kK,kL]⟩,⟨[.hole],[],[2],[.bool]⟩,1,[],[],false,true,fun (x:(jS×jQ×jR×jQ))=>zcV x.1 x.2.1 x.2.2.1 x.2.2.2⟩
-- clause.May
theorem zqo:ShOk Tryz.prog gl 42 zD8:=yL .run [.tmp 4] zj zw (gdG zFq (gdG zIM (gdG zGh zd))) Tryz.func42 ob0
def zGs:ShC:=⟨⟨[(.agg [.hole,.hole]),(.ptr 0 0)],[.cells true [.hole]],[1,1,1],[.bool,kJ,kM]⟩,⟨[.hole],[],[2],[.bool]⟩,1,[],[],false,true,fun (x:(Bool×jI×jS))=>zgv x.1 x.2.1 x.2.2⟩
-- lit.Tops$1
theorem zGA:ShOk Tryz.prog gl 141 zGs:=yL .run [.tmp 3] zj zw (gdG zvt zd) Tryz.func141 ob0
def w20_c:ShC:=⟨⟨[.hole,(.clo 141 [(.ptr 0 0)])],[.cells true [.hole]],[1,1],[kL,kM]⟩,⟨[.hole],[],[2],[.int .i64]⟩,1,[],[],false,true,fun (x:(jQ×jS))=>zc7 x.1 x.2⟩
-- slices.IndexFunc[[]api.Lit,api.Lit]
theorem zyX:zL Tryz.prog (cond w20_c.glob gl fun _=>none) [(141,.gen (qv [zGs]))]:=(gdG zGA zd)
def zGv:=zcD tb gl zyX w20_c Tryz.f183
theorem zJU:VAll Tryz.prog zGv:=zu zj zyX
def zCd:Un:=lpU 2 [9,10,5,11,12,13,14,15,16,17,4,18,8] ⟨[0,1,7,8],⟨[.hole,(.clo 141 [(.ptr 0 0)]),.hole,.hole],[.cells true [.hole]],[1,2,2,1],[kL,.int .i64,.int .i64,kM]⟩⟩ [((.exit 0),⟨[],⟨[],[],[],[]⟩⟩),(.ret,⟨[4],⟨[.hole],[],[2],[.int .i64]⟩⟩)] (lp zY zi)
theorem zzY:UnA Tryz.prog zGv (qT (zm Tryz.f183) [1,0,1,0]) zCd:=zaT .run zw zJU ob0
theorem zIS:ShOk Tryz.prog gl 183 w20_c:=yL (.seq .run (.seq (.seq .run (.block (.unit zCd))) .run)) [.tmp 4] zj zw zyX Tryz.func183 (ob1 zzY ob0)
def zFS:ShC:=⟨⟨[.hole,(.clo 141 [(.ptr 0 0)])],[.cells true [.hole]],[1,1],[kL,kM]⟩,⟨[.hole],[],[2],[.bool]⟩,1,[],[],false,true,fun (x:(jQ×jS))=>zcb x.1 x.2⟩
-- slices.ContainsFunc[[]api.Lit,api.Lit]
theorem zIy:ShOk Tryz.prog gl 133 zFS:=yL .run [.tmp 4] zj zw (gdG zIS zd) Tryz.func133 ob0
def zKc:ShC:=⟨⟨[.hole,.hole],[],[1,1],[kM,kJ]⟩,⟨[.hole],[],[2],[.bool]⟩,1,[],[],false,true,fun (x:(jS×jI))=>zeK x.1 x.2⟩
-- term.IsTerm
theorem zHP:ShOk Tryz.prog gl 100 zKc:=yL .run [.tmp 4] zj zw (gdG zxj zd) Tryz.func100 ob0
def w23_c:ShC:=⟨⟨[.hole,.hole],[],[1,1],[kJ,kJ]⟩,⟨[.hole],[],[2],[.bool]⟩,1,[],[],false,false,fun (x:(jI×jI))=>yk x.1 x.2⟩
-- slices.Equal[[]int,int]
theorem zz7:zL Tryz.prog (cond w23_c.glob gl fun _=>none) []:=zd
def zIp:=zcD tb gl zz7 w23_c Tryz.f102
theorem zJQ:VAll Tryz.prog zIp:=zu zj zz7
def zBZ:Un:=lpU 2 [14,15,5,16,17,18,19,20,21,22,23,24,4,25,13] ⟨[0,1,12,13],⟨[.hole,.hole,.hole,.hole],[],[1,1,2,2],[kJ,kJ,.int .i64,.int .i64]⟩⟩ [((.exit 0),⟨[],⟨[],[],[],[]⟩⟩),(.ret,⟨[4],⟨[.hole],[],[2],[.bool]⟩⟩)] (lp q7 zi)
theorem zw6:UnA Tryz.prog zIp (qT (zm Tryz.f102) [1,1,0,1,0]) zBZ:=zaT .run zw zJQ ob0
theorem zoZ:ShOk Tryz.prog gl 102 w23_c:=yL (.seq .run (.seq .run (.seq (.seq .run (.block (.unit zBZ))) .run))) [.tmp 4] zj zw zz7 Tryz.func102 (ob1 zw6 ob0)
def w24_c:ShC:=⟨⟨[.hole],[],[1],[kJ]⟩,⟨[.hole],[],[2],[.ar kI 24]⟩,1,[],[],false,false,fun (x:jI)=>zex x⟩
-- order.often
theorem zzN:zL Tryz.prog (cond w24_c.glob gl fun _=>none) [(55,.gen (qv [zJc]))]:=(gd1 zuA zd)
def zHI:=zcD tb gl zzN w24_c Tryz.f198
theorem zKz:VAll Tryz.prog zHI:=zu zj zzN
def zDl:Un:=lpU 2 [8,9,10,4,11,12,13,14,15,16,17,18,19,7] ⟨[2,5,6,7],⟨[(.aptr 0),.hole,.hole,.hole],[.seq false],[1,2,2,2],[kJ,.int .i64,.int .i64,kJ]⟩⟩ [((.exit 0),⟨[2],⟨[(.aptr 0)],[.seq false],[2],[kJ]⟩⟩)] (lp zaB zi)
theorem zwc:UnA Tryz.prog zHI (qT (zm Tryz.f198) [1,0,1,0]) zDl:=zaT .run zw zKz ob0
theorem zIW:ShOk Tryz.prog gl 198 w24_c:=yL (.seq .run (.seq (.seq .run (.block (.unit zDl))) .run)) [.cell 2 178] zj zw zzN Tryz.func198 (ob1 zwc ob0)
def w25_c:ShC:=⟨⟨[.hole,.hole],[],[1,1],[kJ,kJ]⟩,⟨[.hole],[],[2],[.bool]⟩,1,[],[],false,false,fun (x:(jI×jI))=>zfa x.1 x.2⟩
-- order.covers
theorem zvH:zL Tryz.prog (cond w25_c.glob gl fun _=>none) [(198,.gen (qv [w24_c]))]:=(gd1 zIW zd)
def zGF:=zcD tb gl zvH w25_c Tryz.f159
theorem zJT:VAll Tryz.prog zGF:=zu zj zvH
def zCS:Un:=lpU 2 [13,14,7,15,16,17,18,19,20,21,4,22,12] ⟨[5,6,12],⟨[(.aptr 0),(.aptr 1),.hole],[.seq false,.seq false],[2,2,2],[.int .i64,kJ,kJ]⟩⟩ [((.exit 0),⟨[],⟨[],[],[],[]⟩⟩),(.ret,⟨[4],⟨[.hole],[],[2],[.bool]⟩⟩)] (lp zaJ zi)
theorem zvB:UnA Tryz.prog zGF (qT (zm Tryz.f159) [1,1,0,1,0]) zCS:=zaT .run zw zJT ob0
theorem zFX:ShOk Tryz.prog gl 159 w25_c:=yL (.seq .run (.seq .run (.seq (.seq .run (.block (.unit zCS))) .run))) [.tmp 4] zj zw zvH Tryz.func159 (ob1 zvB ob0)
def w26_c:ShC:=⟨⟨[.hole,.hole],[],[1,1],[kM,kJ]⟩,⟨[.hole],[],[2],[.int .i64]⟩,1,[],[],false,false,fun (x:(jS×jI))=>zgT x.1 x.2⟩
-- term.Sum
theorem zwv:zL Tryz.prog (cond w26_c.glob gl fun _=>none) []:=zd
def zI0:=zcD tb gl zwv w26_c Tryz.f160
theorem zKf:VAll Tryz.prog zI0:=zu zj zwv
def zDH:Un:=lpU 2 [11,12,13,7,14,15,16,17,5,18,19,20,21,22,23,24,5,25,10] ⟨[0,5,8,9,10],⟨[.hole,.hole,.hole,.hole,.hole],[],[1,2,1,2,2],[kM,.int .i64,kJ,.int .i64,.int .i64]⟩⟩ [((.exit 0),⟨[5],⟨[.hole],[],[2],[.int .i64]⟩⟩)] (lp zcc zi)
theorem zwr:UnA Tryz.prog zI0 (qT (zm Tryz.f160) [1,1,0,1,0]) zDH:=zaT .run zw zKf ob0
theorem zHM:ShOk Tryz.prog gl 160 w26_c:=yL (.seq .run (.seq .run (.seq (.seq .run (.block (.unit zDH))) .run))) [.tmp 4] zj zw zwv Tryz.func160 (ob1 zwr ob0)
def w27_c:ShC:=⟨⟨[.hole,.hole],[],[1,1],[kM,kJ]⟩,⟨[(.view 0)],[.seq false],[0],[kK]⟩,1,[],[],true,false,fun (x:(jS×jI))=>zch x.1 x.2⟩
-- term.Pieces
theorem zxE:zL Tryz.prog (cond w27_c.glob gl fun _=>none) [(151,.gen (qv [w11_c]))]:=(gd1 zDw zd)
def zHg:=zcD tb gl zxE w27_c Tryz.f175
theorem zJs:VAll Tryz.prog zHg:=zu zj zxE
def zCi:Un:=lpU 2 [9,10,11,12,14,15,16,17,13,18,19,7,8,20,21,22,4,23,24,25,26,27,28,29,5,30,6] ⟨[0,1,5,6],⟨[.hole,.hole,(.view 0),.hole],[.seq false],[1,1,2,0],[kM,kJ,.int .i64,kK]⟩⟩ [((.exit 0),⟨[5],⟨[(.view 0)],[.seq false],[0],[kK]⟩⟩),(.ret,⟨[4],⟨[(.view 0)],[.seq false],[0],[kK]⟩⟩)] (lp zcH zi)
theorem zxi:UnA Tryz.prog zHg (qT (zm Tryz.f175) [1,1,0,1,0]) zCi:=zaT .run zw zJs ob0
theorem zxP:ShOk Tryz.prog gl 175 w27_c:=yL (.seq .run (.seq .run (.seq (.seq .run (.block (.unit zCi))) .run))) [.tmp 4] zj zw zxE Tryz.func175 (ob1 zxi ob0)
def w28_c:ShC:=⟨⟨[.hole,.hole,.hole],[],[1,1,1],[kM,kJ,kJ]⟩,⟨[.hole,.hole],[],[0,0],[kJ,kJ]⟩,2,[],[],true,false,fun (x:(jS×jI×jI))=>zh1 x.1 x.2.1 x.2.2⟩
-- order.unlike
theorem zy4:zL Tryz.prog (cond w28_c.glob gl fun _=>none) [(102,.gen (qv [w23_c])),(175,.gen (qv [w27_c]))]:=(gd1 zoZ (gd1 zxP zd))
def zIc:=zcD tb gl zy4 w28_c Tryz.f161
theorem zJ9:VAll Tryz.prog zIc:=zu zj zy4
def zDp:Un:=lpU 2 [19,20,21,22,9,10,23,24,25,26,27,28,29,30,31,32,33,34,35,36,37,38,39,40,6,7,41,18] ⟨[8,16,17,18],⟨[.hole,.hole,.hole,.hole],[],[0,0,2,2],[kK,kK,.int .i64,.int .i64]⟩⟩ [((.exit 0),⟨[],⟨[],[],[],[]⟩⟩),(.ret,⟨[6,7],⟨[.hole,.hole],[],[0,0],[kJ,kJ]⟩⟩)] (lp zae zi)
theorem zxz:UnA Tryz.prog zIc (qT (zm Tryz.f161) [1,1,0,1,0]) zDp:=zaT .run zw zJ9 ob0
theorem zHN:ShOk Tryz.prog gl 161 w28_c:=yL (.seq .run (.seq .run (.seq (.seq .run (.block (.unit zDp))) .run))) [.tmp 6,.tmp 7] zj zw zy4 Tryz.func161 (ob1 zxz ob0)
def w29_c:ShC:=⟨⟨[.hole,.hole,.hole],[],[1,1,1],[kM,kJ,kJ]⟩,⟨[.hole],[],[2],[.bool]⟩,1,[],[],false,false,fun (x:(jS×jI×jI))=>zaE x.1 x.2.1 x.2.2⟩
-- order.more
theorem zvZ:zL Tryz.prog (cond w29_c.glob gl fun _=>none) [(159,.gen (qv [w25_c])),(160,.gen (qv [w26_c])),(161,.gen (qv [w28_c]))]:=(gd1 zFX (gd1 zHM (gd1 zHN zd)))
def zIZ:=zcD tb gl zvZ w29_c Tryz.f103
theorem zJF:VAll Tryz.prog zIZ:=zu zj zvZ
def zBz:Un:=lpU 2 [9,10,11,12,13,14,15,16,17,18,19,20,21,7,8,22,23,24,25,26,27,6,28,29,30,31,32,33,34,35,36,37,38,39,40,41,6,43,44,45,46,47,48,42,49,50,1,2] ⟨[0,1,2],⟨[.hole,.hole,.hole],[],[1,0,0],[kM,kJ,kJ]⟩⟩ [((.exit 0),⟨[],⟨[],[],[],[]⟩⟩),(.ret,⟨[6],⟨[.hole],[],[2],[.bool]⟩⟩)] (lp zc8 zi)
theorem zzP:UnA Tryz.prog zIZ (qT (zm Tryz.f103) [1,0,0]) zBz:=zaT .run zw zJF ob0
theorem zIi:ShOk Tryz.prog gl 103 w29_c:=yL (.seq .run (.seq (.block (.unit zBz)) .run)) [.tmp 6] zj zw zvZ Tryz.func103 (ob1 zzP ob0)
def zKt:ShC:=⟨⟨[.hole,.hole,.hole],[],[1,1,1],[kM,kJ,kJ]⟩,⟨[.hole,.hole],[],[2,2],[.int .i64,.int .i64]⟩,2,[],[],false,true,fun (x:(jS×jI×jI))=>zen x.1 x.2.1 x.2.2⟩
-- order.Compare
theorem zHi:ShOk Tryz.prog gl 41 zKt:=yL .run [.tmp 6,.tmp 7] zj zw (gdG zHP (gdG zCN (gd1 zoZ (gd1 zIi zd)))) Tryz.func41 ob0
def zJu:ShC:=⟨⟨[.hole,(.agg [.hole,.hole]),(.agg [.hole,.hole])],[],[1,1,1,1,1],[kM,.bool,kJ,.bool,kJ]⟩,⟨[.hole,.hole],[],[2,2],[.int .i64,.int .i64]⟩,2,[],[],false,true,fun (x:(jS×Bool×jI×Bool×jI))=>zgi x.1 x.2.1 x.2.2.1 x.2.2.2.1 x.2.2.2.2⟩
-- lit.Compare
theorem zIq:ShOk Tryz.prog gl 144 zJu:=yL .run [.tmp 6,.tmp 7] zj zw (gdG zHi (gdG zvt zd)) Tryz.func144 ob0
def zGp:ShC:=⟨⟨[(.agg [.hole,.hole]),(.ptr 0 0),(.ptr 1 0)],[.cells true [.hole],.cells true [.hole,.hole]],[1,1,1,1,1],[.bool,kJ,kM,.bool,kJ]⟩,⟨[.hole],[],[2],[.bool]⟩,1,[],[],false,true,fun (x:(Bool×jI×jS×Bool×jI))=>zgn x.1 x.2.1 x.2.2.1 x.2.2.2.1 x.2.2.2.2⟩
-- lit.Tops$2
theorem zGT:ShOk Tryz.prog gl 143 zGp:=yL .run [.tmp 4] zj zw (gdG zIq zd) Tryz.func143 ob0
def w33_c:ShC:=⟨⟨[.hole,(.clo 143 [(.ptr 0 0),(.ptr 1 0)])],[.cells true [.hole],.cells true [.hole,.hole]],[1,1,1,1],[kL,kM,.bool,kJ]⟩,⟨[.hole],[],[2],[.int .i64]⟩,1,[],[],false,true,fun (x:(jQ×jS×Bool×jI))=>zdi x.1 x.2.1 x.2.2.1 x.2.2.2⟩
-- slices.IndexFunc[[]api.Lit,api.Lit]
theorem zwd:zL Tryz.prog (cond w33_c.glob gl fun _=>none) [(143,.gen (qv [zGp]))]:=(gdG zGT zd)
def zIO:=zcD tb gl zwd w33_c Tryz.f183
theorem zJt:VAll Tryz.prog zIO:=zu zj zwd
def zDI:Un:=lpU 2 [9,10,5,11,12,13,14,15,16,17,4,18,8] ⟨[0,1,7,8],⟨[.hole,(.clo 143 [(.ptr 0 0),(.ptr 1 0)]),.hole,.hole],[.cells true [.hole],.cells true [.hole,.hole]],[1,2,2,1,2,1],[kL,.int .i64,.int .i64,kM,.bool,kJ]⟩⟩ [((.exit 0),⟨[],⟨[],[],[],[]⟩⟩),(.ret,⟨[4],⟨[.hole],[],[2],[.int .i64]⟩⟩)] (lp zU zi)
theorem zzS:UnA Tryz.prog zIO (qT (zm Tryz.f183) [1,0,1,0]) zDI:=zaT .run zw zJt ob0
theorem zFR:ShOk Tryz.prog gl 183 w33_c:=yL (.seq .run (.seq (.seq .run (.block (.unit zDI))) .run)) [.tmp 4] zj zw zwd Tryz.func183 (ob1 zzS ob0)
def zIj:ShC:=⟨⟨[.hole,(.clo 143 [(.ptr 0 0),(.ptr 1 0)])],[.cells true [.hole],.cells true [.hole,.hole]],[1,1,1,1],[kL,kM,.bool,kJ]⟩,⟨[.hole],[],[2],[.bool]⟩,1,[],[],false,true,fun (x:(jQ×jS×Bool×jI))=>q5 x.1 x.2.1 x.2.2.1 x.2.2.2⟩
-- slices.ContainsFunc[[]api.Lit,api.Lit]
theorem zIL:ShOk Tryz.prog gl 133 zIj:=yL .run [.tmp 4] zj zw (gdG zFR zd) Tryz.func133 ob0
def w35_c:ShC:=⟨⟨[.hole,.hole],[],[1,1],[kM,kL]⟩,⟨[(.view 0),.hole],[.seq false],[2,2],[.int .i64,kJ]⟩,2,[],[],false,true,fun (x:(jS×jQ))=>zmt x.1 x.2⟩
-- lit.Tops
theorem zws:zL Tryz.prog (cond w35_c.glob gl fun _=>none) [(52,.gen (qv [w8_c])),(133,.gen (qv [zFS,zIj]))]:=(gdG zFq (ziE (zmn (zkH zIy (zkH zIL zml))) zd))
def zFL:=zcD tb gl zws w35_c Tryz.f77
theorem zJz:VAll Tryz.prog zFL:=zu zj zws
def zCO:Un:=lpU 2 [20,21,22,23,8,7,24,25,26,27,28,29,30,31,6,32,19] ⟨[1,2,6,17,18,19],⟨[.hole,(.ptr 0 0),(.view 1),.hole,.hole,.hole],[.cells true [.hole],.seq false],[1,1,2,2,1,2],[kL,kL,.int .i64,.int .i64,kM,kJ]⟩⟩ [((.exit 0),⟨[6],⟨[(.view 0)],[.seq false],[2],[kJ]⟩⟩)] (lp zce zi)
theorem zzU:UnA Tryz.prog zFL (qT (zm Tryz.f77) [1,1,1,0,1,0]) zCO:=zaT .run zw zJz ob0
theorem zHt:ShOk Tryz.prog gl 77 w35_c:=yL (.seq .run (.seq .run (.seq .run (.seq (.seq .run (.block (.unit zCO))) .run)))) [.tmp 4,.tmp 5] zj zw zws Tryz.func77 (ob1 zzU ob0)
def w36_c:ShC:=⟨⟨[.hole,.hole],[],[1,1],[kJ,.int .i64]⟩,⟨[.hole],[],[2],[.int .i64]⟩,1,[],[],false,false,fun (x:(jI×Int))=>zif x.1 x.2⟩
-- slices.Index[[]int,int]
theorem zv4:zL Tryz.prog (cond w36_c.glob gl fun _=>none) []:=zd
def zHV:=zcD tb gl zv4 w36_c Tryz.f145
theorem zJl:VAll Tryz.prog zHV:=zu zj zv4
def zCq:Un:=lpU 2 [9,10,5,11,12,13,14,15,16,17,4,18,8] ⟨[0,1,7,8],⟨[.hole,.hole,.hole,.hole],[],[1,2,2,2],[kJ,.int .i64,.int .i64,.int .i64]⟩⟩ [((.exit 0),⟨[],⟨[],[],[],[]⟩⟩),(.ret,⟨[4],⟨[.hole],[],[2],[.int .i64]⟩⟩)] (lp zaa zi)
theorem zxU:UnA Tryz.prog zHV (qT (zm Tryz.f145) [1,0,1,0]) zCq:=zaT .run zw zJl ob0
theorem zGa:ShOk Tryz.prog gl 145 w36_c:=yL (.seq .run (.seq (.seq .run (.block (.unit zCq))) .run)) [.tmp 4] zj zw zv4 Tryz.func145 (ob1 zxU ob0)
def zG4:ShC:=⟨⟨[.hole,.hole],[],[1,1],[kJ,.int .i64]⟩,⟨[.hole],[],[2],[.bool]⟩,1,[],[],false,false,fun (x:(jI×Int))=>zbn x.1 x.2⟩
-- slices.Contains[[]int,int]
theorem zId:ShOk Tryz.prog gl 78 zG4:=yL .run [.tmp 4] zj zw (gd1 zGa zd) Tryz.func78 ob0
def w38_c:ShC:=⟨⟨[(.ptr 0 0),(.view 1),(.agg [.hole,.hole]),(.agg [.hole,.hole])],[.cells true [.hole,.hole],.seq false],[1,1,1,1,1,1,1],[kJ,.int .i64,kJ,.int .i64,kM,.ar (.cons (.ns kI) kI) 48,.sl (.cons kJ (.cons kZ (.cons kJ kI)))]⟩,⟨[(.view 0)],[.seq false],[0],[.sl (.cons kJ (.cons kZ (.cons kJ kI)))]⟩,1,[],[],true,false,fun (x:(jI×Int×jI×Int×jS×(List ((Option jI)×Int))×(List (jI×Int×jI×Int))))=>qV x.1 x.2.1 x.2.2.1 x.2.2.2.1 x.2.2.2.2.1 x.2.2.2.2.2.1 x.2.2.2.2.2.2⟩
-- (*unify.run).pairs
theorem zxB:zL Tryz.prog (cond w38_c.glob gl fun _=>none) [(175,.gen (qv [w27_c]))]:=(gd1 zxP zd)
def zHn:=zcD tb gl zxB w38_c Tryz.f210
theorem zKl:VAll Tryz.prog zHn:=zu zj zxB
def zCP:Un:=lpU 2 [29,30,11,31,32,33,34,35,36,37,38,39,40,41,42,43,44,45,46,47,48,1,49,28] ⟨[1,6,7,9,10,27,28],⟨[(.view 0),(.ptr 1 0),(.ptr 2 0),.hole,.hole,.hole,.hole],[.seq false,.cells true [.hole,.hole],.cells true [.hole,.hole]],[0,0,2,2,0,1,2,1,2],[kK,kK,.int .i64,.int .i64,.sl (.cons kJ (.cons kZ (.cons kJ kI))),kJ,.int .i64,kJ,.int .i64]⟩⟩ [((.exit 0),⟨[1],⟨[(.view 0)],[.seq false],[0],[.sl (.cons kJ (.cons kZ (.cons kJ kI)))]⟩⟩)] (lp yc zi)
theorem zyE:UnA Tryz.prog zHn (qT (zm Tryz.f210) [1,1,0,1,0]) zCP:=zaT .run zw zKl ob0
theorem zGH:ShOk Tryz.prog gl 210 w38_c:=yL (.seq .run (.seq .run (.seq (.seq .run (.block (.unit zCP))) .run))) [.tmp 8] zj zw zxB Tryz.func210 (ob1 zyE ob0)
def zEA:ShC:=⟨⟨[(.agg [.hole,.hole]),.hole],[],[1,1,1],[kJ,.int .i64,.int .i64]⟩,⟨[.hole],[],[2],[.int .i64]⟩,1,[],[],false,false,fun (x:(jI×Int×Int))=>yF x.1 x.2.1 x.2.2⟩
-- (unify.piece).number
theorem zzv:ShOk Tryz.prog gl 213 zEA:=yL .run [.tmp 4] zj zw (gd1 zuA zd) Tryz.func213 ob0
def w40_c:ShC:=⟨⟨[(.ptr 0 0),(.agg [.hole,.hole])],[.cells true [.hole,.hole]],[1,1,1,1],[kJ,.int .i64,kM,.ar (.cons (.ns kI) kI) 48]⟩,⟨[(.agg [.hole,.hole])],[],[1,2],[kJ,.int .i64]⟩,1,[],[],true,false,fun (x:(jI×Int×jS×(List ((Option jI)×Int))))=>zbe x.1 x.2.1 x.2.2.1 x.2.2.2⟩
-- (*unify.run).what
theorem zv1:zL Tryz.prog (cond w40_c.glob gl fun _=>none) [(213,.gen (qv [zEA]))]:=(gd1 zzv zd)
def zGM:=zcD tb gl zv1 w40_c Tryz.f211
theorem zJS:VAll Tryz.prog zGM:=zu zj zv1
def zCc:Un:=lpU 2 [6,7,8,9,10,11,12,13,14,15,16,17,18,19,20,21,5,22,23,24,25] ⟨[0,3,4],⟨[(.ptr 0 0),(.ptr 1 0),(.ptr 2 0)],[.cells true [.hole,.hole],.cells false [.hole,.hole],.cells true [.nilv,.hole]],[1,1,1,2,2],[kM,.ar (.cons (.ns kI) kI) 48,kJ,.int .i64,.int .i64]⟩⟩ [((.exit 0),⟨[3],⟨[(.ptr 0 0)],[.cells false [.hole,.hole]],[1,2],[kJ,.int .i64]⟩⟩)] (lp zbi zi)
theorem zzL:UnA Tryz.prog zGM (qT (zm Tryz.f211) [1,0,0]) zCc:=zaT .run zw zJS ob0
theorem zIb:ShOk Tryz.prog gl 211 w40_c:=yL (.seq .run (.seq (.block (.unit zCc)) .run)) [.cell 4 198] zj zw zv1 Tryz.func211 (ob1 zzL ob0)
def w41_c:ShC:=⟨⟨[(.ptr 0 0),.hole,(.agg [.hole,.hole])],[.cells true [.hole,.hole]],[1,1,1,1,1],[.int .i64,kJ,.int .i64,kM,.ar (.cons (.ns kI) kI) 48]⟩,⟨[.hole],[],[2],[.bool]⟩,1,[],[],false,false,fun (x:(Int×jI×Int×jS×(List ((Option jI)×Int))))=>zcL x.1 x.2.1 x.2.2.1 x.2.2.2.1 x.2.2.2.2⟩
-- (*unify.run).within
theorem zwj:zL Tryz.prog (cond w41_c.glob gl fun _=>none) [(213,.gen (qv [zEA])),(1000027,.gen (qv []))]:=(gd1 zzv (gd0 1000027 zd))
def zD4:=zcD tb gl zwj w41_c Tryz.f226
theorem zF2:VAll Tryz.prog zD4:=zu zj zwj
def zCG:Un:=lpU 2 [32,33,34,10,35,36,37,38,39,11,40,41,42,6,43,44,45,46,47,48,49,50,51,52,53,54,55,56,57,58,59,60,61,62,63,64,65,66,67,8,68,31] ⟨[0,1,5,7,8,29,30,31],⟨[(.ptr 0 0),.hole,(.ptr 1 0),(.aptr 2),(.view 3),.hole,.hole,.hole],[.cells true [.hole,.hole],.cells true [.hole,.hole],.seq false,.seq false],[2,0,2,2,1,1,0,2,2,0],[.int .i64,kJ,.int .i64,.int .i64,kM,.ar (.cons (.ns kI) kI) 48,kJ,.int .i64,.sl (.one .bool),.sl (.cons kJ kI)]⟩⟩ [((.exit 2),⟨[7,8],⟨[(.aptr 0),(.view 1)],[.seq false,.seq false],[2,0],[.sl (.one .bool),.sl (.cons kJ kI)]⟩⟩),(.ret,⟨[6],⟨[.hole],[],[2],[.bool]⟩⟩)] (lp yt zi)
theorem zzX:UnA Tryz.prog zD4 (qT (zm Tryz.f226) [1,1,1,0,0,0,1,0,1,1,1,0]) zCG:=zaT .run zw zF2 ob0
def zDF:Un:=lpU 2 [14,15,16,17,18,19,20,21,22,23,24,25,26,27,8,28,29,30,31,32,33,34,10,35,36,37,38,39,11,40,41,42,6,43,44,45,46,47,48,49,50,51,52,53,54,55,56,57,58,59,60,61,62,63,64,65,66,67,8,68,31] ⟨[0,1,5,7,8],⟨[(.ptr 0 0),.hole,(.ptr 1 0),(.aptr 2),(.view 3)],[.cells true [.hole,.hole],.cells false [.hole,.hole],.seq false,.seq false],[2,1,1,0,2,2,0],[.int .i64,kM,.ar (.cons (.ns kI) kI) 48,kJ,.int .i64,.sl (.one .bool),.sl (.cons kJ kI)]⟩⟩ [((.exit 0),⟨[],⟨[],[],[],[]⟩⟩),(.ret,⟨[6],⟨[.hole],[],[2],[.bool]⟩⟩)] (lp zaI zi)
theorem zx1:UnA Tryz.prog zD4 (qT (zm Tryz.f226) [1,1,1,0,0]) zDF:=zaT (.seq .run (.block (.seq .run (.seq .run (.seq .run (.block (.unit zCG))))))) zw zF2 (ob1 zzX ob0)
theorem zIQ:ShOk Tryz.prog gl 226 w41_c:=yL (.seq .run (.seq .run (.seq .run (.seq (.block (.unit zDF)) .run)))) [.tmp 6] zj zw zwj Tryz.func226 (ob1 zx1 ob0)
def zIg:ShC:=⟨⟨[(.ptr 0 0),(.agg [.hole,.hole]),(.agg [.hole,.hole])],[.cells false [.hole,.hole]],[1,1,1,1,1,1],[kJ,.int .i64,kJ,.int .i64,kM,.ar (.cons (.ns kI) kI) 48]⟩,⟨[.hole,(.ptr 0 0)],[.cells false [.hole,.hole]],[2,1,0],[.bool,kM,.ar (.cons (.ns kI) kI) 48]⟩,1,[0],[(0,0)],true,false,fun (x:(jI×Int×jI×Int×jS×(List ((Option jI)×Int))))=>qn x.1 x.2.1 x.2.2.1 x.2.2.2.1 x.2.2.2.2.1 x.2.2.2.2.2⟩
-- (*unify.run).put
theorem zGW:ShOk Tryz.prog gl 212 zIg:=yL .run [.tmp 6] zj zw (gd1 zzv (gd1 zIQ zd)) Tryz.func212 ob0
def w43_c:ShC:=⟨⟨[(.ptr 0 0),(.agg [.hole,.hole]),(.agg [.hole,.hole])],[.cells false [.hole,.hole]],[1,1,1,1,1,1],[kJ,.int .i64,kJ,.int .i64,kM,.ar (.cons (.ns kI) kI) 48]⟩,⟨[.hole,(.ptr 0 0)],[.cells false [.hole,.hole]],[2,0,0],[.bool,kM,.ar (.cons (.ns kI) kI) 48]⟩,1,[0],[(0,0)],true,false,fun (x:(jI×Int×jI×Int×jS×(List ((Option jI)×Int))))=>zaV x.1 x.2.1 x.2.2.1 x.2.2.2.1 x.2.2.2.2.1 x.2.2.2.2.2⟩
-- (*unify.run).same
theorem zxR:zL Tryz.prog (cond w43_c.glob gl fun _=>none) [(210,.gen (qv [w38_c])),(211,.gen (qv [w40_c])),(212,.gen (qv [zIg])),(1000039,.gen (qv []))]:=(gd1 zGH (gd1 zIb (gd1 zGW (gd0 1000039 zd))))
def zD7:=zcD tb gl zxR w43_c Tryz.f184
theorem zJV:VAll Tryz.prog zD7:=zu zj zxR
def zCy:Un:=scU zD7 [10,11,12,13,7,14,15,16,6,17,18,19,20,21,22,23,24,25,26,27,28,29,30,31,32,33,34,8,9,35,36,37,38,39,7,41,42,43,44,45,40,46,47,48,49,6,51,52,53,54,55,50,56,57,58,59,6,61,62,63,64,65,66,67,68,69,60,6,70,71,72,73,74,75,76,77,78,79,80,81,82,83,84,7] [(.goto 0,⟨[0,7],⟨[(.ptr 0 0),(.view 1)],[.cells false [.hole,.hole],.seq false],[0,0,0],[kM,.ar (.cons (.ns kI) kI) 48,.sl (.cons kJ (.cons kZ (.cons kJ kI)))]⟩⟩)] [(.ret,⟨[0,6],⟨[(.ptr 0 0),.hole],[.cells false [.hole,.hole]],[2,0,0],[.bool,kM,.ar (.cons (.ns kI) kI) 48]⟩⟩)] (zuC (qT (zm Tryz.f184) [1])) .run (lp zz zi)
theorem zxf:UnA Tryz.prog zD7 (qT (zm Tryz.f184) [1]) zCy:=zKn [] zw zJV ob0 zKG
theorem zIa:ShOk Tryz.prog gl 184 w43_c:=yL (.seq .run (.unit zCy)) [.tmp 6] zj zw zxR Tryz.func184 (ob1 zxf ob0)
def zHs:ShC:=⟨⟨[(.agg [.hole,.hole]),.hole],[],[1,1,1],[.ns kI,.int .i64,.int .i64]⟩,⟨[.hole],[],[2],[.int .i64]⟩,1,[],[],false,false,fun (x:((Option jI)×Int×Int))=>zas x.1 x.2.1 x.2.2⟩
-- (unify.piece).number
theorem zIX:ShOk Tryz.prog gl 213 zHs:=yL .run [.tmp 4] zj zw (gd1 zuA zd) Tryz.func213 ob0
def zqH (k:Nat):ShC:=⟨⟨[(.ptr 0 0),(.agg [.hole,.hole])],[.cells true [.hole,.hole]],[1,1,1,1],[.ns kI,.int .i64,kM,.ar (.cons (.ns kI) kI) 48]⟩,⟨[.hole],[],[2],[.ns kI]⟩,1,[],[],false,false,(qU k)⟩
def zF7:ShC:=⟨⟨[(.ptr 0 0),(.agg [.hole,.hole])],[.cells true [.hole,.hole]],[1,1,1,1],[.ns kI,.int .i64,kM,.ar (.cons (.ns kI) kI) 48]⟩,⟨[.hole],[],[2],[.ns kI]⟩,1,[],[],false,false,fun (x:((Option jI)×Int×jS×(List ((Option jI)×Int))))=>zeQ x.1 x.2.1 x.2.2.1 x.2.2.2⟩
def znp (k:Nat):Prop:=ShOk Tryz.prog gl 185 (zqH k)
-- (*unify.run).whole
def zFT (k:Nat):List (Nat×Con):=[(185,.gen (qv [zqH k])),(213,.gen (qv [zHs]))]
theorem zCn (k:Nat) (h:znp k):zL Tryz.prog (cond (zqH (k+1)).glob gl fun _=>none) (zFT k):=(gd1 h (gd1 zIX zd))
def zHp (k:Nat):Env:=zhi tb gl (zFT k) (zqH (k+1)) Tryz.f185.ntmps
theorem zKJ (k:Nat) (h:znp k):VAll Tryz.prog (zHp k):=zu zj (zCn k h)
def zDs (k:Nat):Un:=lpU 2 [13,14,15,7,16,17,8,18,19,20,21,22,23,24,25,26,27,28,29,30,31,32,33,34,35,36,37,38,39,40,41,8,42,43,44,45,46,47,48,49,50,51,4,52,53,54,5,55,12] ⟨[0,3,5,10,11,12],⟨[(.ptr 0 0),(.ptr 1 0),(.view 2),.hole,.hole,.hole],[.cells true [.hole,.hole],.cells true [.hole,.hole],.seq false],[1,2,2,1,1,1,2,2],[.ns kI,.int .i64,.int .i64,kM,.ar (.cons (.ns kI) kI) 48,.ns kI,.int .i64,kJ]⟩⟩ [((.exit 0),⟨[5],⟨[(.view 0)],[.seq false],[2],[kJ]⟩⟩),(.ret,⟨[4],⟨[.nilv],[],[],[]⟩⟩)] (lp (yI (qU k)) zi)
theorem zy8 (k:Nat) (h:znp k):UnA Tryz.prog (zHp k) (qT (zm Tryz.f185) [1,1,0,1,0]) (zDs k):=zaT .run zw (zKJ k h) ob0
theorem zEr (k:Nat) (h:znp k):ShOk Tryz.prog gl 185 (zqH (k+1)):=yL (.seq .run (.seq .run (.seq (.seq .run (.block (.unit (zDs k)))) .run))) [.tmp 4] zj zw (zCn k h) Tryz.func185 (ob1 (zy8 k h) ob0)
theorem zqJ:∀ k,znp k
 | 0=>zlH (by kernel_rfl) fun _=>rfl
 | k+1=>have h:=zqJ k; zEr k h
theorem zID:ShOk Tryz.prog gl 185 zF7:=(zqJ zi)
def zKs:ShC:=⟨⟨[.hole],[],[1],[.ns kI]⟩,⟨[(.view 0)],[.seq false],[2],[kJ]⟩,1,[],[],false,false,fun (x:(Option jI))=>zik x⟩
-- slices.Clone[[]int,int]
theorem zHx:ShOk Tryz.prog gl 115 zKs:=yL .run [.tmp 2] zj zw zd Tryz.func115 ob0
def zKD:ShC:=⟨⟨[.nilv],[],[],[]⟩,⟨[(.view 0)],[.seq false],[2],[kJ]⟩,1,[],[],false,false,fun (x:Unit)=>znZ⟩
-- slices.Clone[[]int,int]
theorem zHu:ShOk Tryz.prog gl 115 zKD:=yL .run [.tmp 2] zj zw zd Tryz.func115 ob0
def zER:ShC:=⟨⟨[.hole],[],[1],[kJ]⟩,⟨[(.view 0)],[.seq false],[2],[kJ]⟩,1,[],[],false,false,fun (x:jI)=>zcr x⟩
-- slices.Clone[[]int,int]
theorem zv8:ShOk Tryz.prog gl 115 zER :=
 zI6 zHu zHx fun xs y h=>⟨h,fun e=>by subst e; exact h⟩
def w49_c:ShC:=⟨⟨[.hole,.hole,.hole],[],[1,1,1],[kM,kJ,kJ]⟩,⟨[(.view 0),.hole,.hole],[.seq false],[2,2,2],[.bool,.int .i64,.sl (.cons kZ kR)]⟩,3,[],[],false,true,fun (x:(jS×jI×jI))=>zeN x.1 x.2.1 x.2.2⟩
-- unify.Unify
theorem zyH:zL Tryz.prog (cond w49_c.glob gl fun _=>none) [(115,.gen (qv [zER])),(162,.gen (qv [zEz])),(184,.gen (qv [w43_c])),(185,.gen (qv [zF7]))]:=(gd1 zv8 (gdG zB6 (gd1 zIa (gd1 zID zd))))
def zIU:=zcD tb gl zyH w49_c Tryz.f135
theorem zJ6:VAll Tryz.prog zIU:=zu zj zyH
def zCY:Un:=lpU 2 [51,52,15,53,54,55,56,57,58,59,60,61,62,63,64,65,66,67,68,16,69,70,6,7,8,71,72,73,74,75,76,77,14,78,50] ⟨[13,14,50],⟨[(.ptr 0 0),(.view 1),.hole],[.cells true [.hole,.hole],.seq false],[2,0,0,2],[.int .i64,kM,.ar (.cons (.ns kI) kI) 48,.sl (.cons kZ kR)]⟩⟩ [((.exit 0),⟨[14],⟨[(.view 0)],[.seq false],[2],[.sl (.cons kZ kR)]⟩⟩),(.ret,⟨[6,7,8],⟨[.nilv,.hole,.hole],[],[2,2],[.bool,.int .i64]⟩⟩)] (lp zbb zi)
theorem zwV:UnA Tryz.prog zIU (qT (zm Tryz.f135) [1,1,1,1,1,1,1,0,1,0]) zCY:=zaT .run zw zJ6 ob0
theorem zHZ:ShOk Tryz.prog gl 135 w49_c:=yL (.seq .run (.seq .run (.seq .run (.seq .run (.seq .run (.seq .run (.seq .run (.seq (.seq .run (.block (.unit zCY))) .run)))))))) [.tmp 6,.tmp 7,.tmp 8] zj zw zyH Tryz.func135 (ob1 zwV ob0)
def zGI:ShC:=⟨⟨[.nilv,.hole],[],[1],[.int .i64]⟩,⟨[(.view 0)],[.seq false],[2],[kK]⟩,1,[],[],false,false,fun (x:Int)=>zgb x⟩
-- slices.Grow[[][]int,[]int]
theorem zHC:ShOk Tryz.prog gl 188 zGI:=yL .run [.tmp 4] zj zw (gd0 1000025 zd) Tryz.func188 ob0
def w51_c:ShC:=⟨⟨[.hole],[],[1],[.sl (.one kK)]⟩,⟨[(.view 0)],[.seq false],[0],[kK]⟩,1,[],[],true,false,fun (x:(List jR))=>zeq x⟩
-- slices.Concat[[][]int,[]int]
theorem zv0:zL Tryz.prog (cond w51_c.glob gl fun _=>none) [(188,.gen (qv [zGI]))]:=(gd1 zHC zd)
def zEW:=zcD tb gl zv0 w51_c Tryz.f139
theorem zIK:VAll Tryz.prog zEW:=zu zj zv0
def zCv:Un:=lpU 2 [28,29,30,8,31,32,33,6,34,27] ⟨[6,25,26,27],⟨[(.view 0),.hole,.hole,.hole],[.seq false],[1,2,2,0],[.sl (.one kK),.int .i64,.int .i64,kK]⟩⟩ [((.exit 2),⟨[6],⟨[(.view 0)],[.seq false],[0],[kK]⟩⟩)] (lp qK zi)
theorem zy5:UnA Tryz.prog zEW (qT (zm Tryz.f139) [1,1,1,1,0,1,0]) zCv:=zaT .run zw zIK ob0
def zCa:Un:=lpU 2 [12,13,14,5,15,16,17,18,3,19,20,21,22,11] ⟨[0,3,9,10,11],⟨[.hole,.hole,.hole,.hole,.hole],[],[1,2,1,2,2],[.sl (.one kK),.int .i64,.sl (.one kK),.int .i64,.int .i64]⟩⟩ [((.exit 0),⟨[3],⟨[.hole],[],[2],[.int .i64]⟩⟩)] (lp qC zi)
theorem zvK:UnA Tryz.prog zEW (qT (zm Tryz.f139) [1,1,0,1,0]) zCa:=zaT .run zw zIK ob0
theorem zFO:ShOk Tryz.prog gl 139 w51_c:=yL (.seq .run (.seq .run (.seq (.seq .run (.block (.unit zCa))) (.seq .run (.seq (.seq .run (.block (.unit zCv))) .run))))) [.tmp 2] zj zw zv0 Tryz.func139 (ob1 zvK (ob1 zy5 ob0))
def zGU:ShC:=⟨⟨[.nilv,.hole],[],[1],[.int .i64]⟩,⟨[(.view 0)],[.seq false],[2],[kL]⟩,1,[],[],false,false,fun (x:Int)=>zeg x⟩
-- slices.Grow[[]api.Lit,api.Lit]
theorem zHS:ShOk Tryz.prog gl 189 zGU:=yL .run [.tmp 4] zj zw (gd0 1000025 zd) Tryz.func189 ob0
def w53_c:ShC:=⟨⟨[.hole],[],[1],[.sl (.one kL)]⟩,⟨[(.view 0)],[.seq false],[0],[kL]⟩,1,[],[],true,false,fun (x:(List jQ))=>zdq x⟩
-- slices.Concat[[]api.Lit,api.Lit]
theorem zyj:zL Tryz.prog (cond w53_c.glob gl fun _=>none) [(189,.gen (qv [zGU]))]:=(gd1 zHS zd)
def zEB:=zcD tb gl zyj w53_c Tryz.f140
theorem zHA:VAll Tryz.prog zEB:=zu zj zyj
def zCp:Un:=lpU 2 [28,29,30,8,31,32,33,6,34,27] ⟨[6,25,26,27],⟨[(.view 0),.hole,.hole,.hole],[.seq false],[1,2,2,0],[.sl (.one kL),.int .i64,.int .i64,kL]⟩⟩ [((.exit 2),⟨[6],⟨[(.view 0)],[.seq false],[0],[kL]⟩⟩)] (lp yG zi)
theorem zvu:UnA Tryz.prog zEB (qT (zm Tryz.f140) [1,1,1,1,0,1,0]) zCp:=zaT .run zw zHA ob0
def zBV:Un:=lpU 2 [12,13,14,5,15,16,17,18,3,19,20,21,22,11] ⟨[0,3,9,10,11],⟨[.hole,.hole,.hole,.hole,.hole],[],[1,2,1,2,2],[.sl (.one kL),.int .i64,.sl (.one kL),.int .i64,.int .i64]⟩⟩ [((.exit 0),⟨[3],⟨[.hole],[],[2],[.int .i64]⟩⟩)] (lp yJ zi)
theorem zyC:UnA Tryz.prog zEB (qT (zm Tryz.f140) [1,1,0,1,0]) zBV:=zaT .run zw zHA ob0
theorem zGG:ShOk Tryz.prog gl 140 w53_c:=yL (.seq .run (.seq .run (.seq (.seq .run (.block (.unit zBV))) (.seq .run (.seq (.seq .run (.block (.unit zCp))) .run))))) [.tmp 2] zj zw zyj Tryz.func140 (ob1 zyC (ob1 zvu ob0))
def w54_c:ShC:=⟨⟨[(.agg [.hole,.hole,.hole]),.hole,(.agg [.hole,.hole,.hole]),.hole],[],[1,1,1,1,1,1,1,1],[kL,kK,kL,.int .i64,kL,kK,kL,.int .i64]⟩,⟨[(.agg [(.view 0),.hole,(.view 1)])],[.seq false,.seq false],[0,0,0],[kK,kL,kL]⟩,1,[],[],true,false,fun (x:(jQ×jR×jQ×Int×jQ×jR×jQ×Int))=>zd0 x.1 x.2.1 x.2.2.1 x.2.2.2.1 x.2.2.2.2.1 x.2.2.2.2.2.1 x.2.2.2.2.2.2.1 x.2.2.2.2.2.2.2⟩
-- resolve.Both
theorem zxH:zL Tryz.prog (cond w54_c.glob gl fun _=>none) [(139,.gen (qv [w51_c])),(140,.gen (qv [w53_c]))]:=(gd1 zFO (gd1 zGG zd))
def zEU:=zcD tb gl zxH w54_c Tryz.f75
theorem zIG:VAll Tryz.prog zEU:=zu zj zxH
def zCH:Un:=lpU 2 [49,50,51,52,13,12,53,54,55,56,57,58,59,60,61,62,48] ⟨[3,8,9,46,47,48],⟨[.hole,(.ptr 0 0),(.ptr 1 0),.hole,.hole,.hole],[.cells true [.nilv,.nilv,.nilv],.cells false [(.view 2),.hole,(.view 3)],.seq false,.seq false],[2,1,2,2,0,0,0],[.int .i64,kL,.int .i64,.int .i64,kK,kL,kL]⟩⟩ [((.exit 2),⟨[9],⟨[(.ptr 0 0)],[.cells false [(.view 1),.hole,(.view 2)],.seq false,.seq false],[0,0,0],[kK,kL,kL]⟩⟩)] (lp q8 zi)
theorem zvz:UnA Tryz.prog zEU (qT (zm Tryz.f75) [1,1,1,0,1,0]) zCH:=zaT .run zw zIG ob0
def zCA:Un:=lpU 2 [31,32,33,34,11,10,35,36,37,38,39,40,41,42,43,44,30] ⟨[1,3,6,8,9,28,29,30],⟨[.hole,.hole,(.ptr 0 0),(.ptr 1 0),(.ptr 2 0),.hole,.hole,.hole],[.cells true [.hole,.hole,.hole],.cells true [.nilv,.nilv,.nilv],.cells false [(.view 3),.hole,(.view 4)],.seq false,.seq false],[2,2,1,2,2,1,1,1,0,0,0],[.int .i64,.int .i64,kL,.int .i64,.int .i64,kL,kK,kL,kK,kL,kL]⟩⟩ [((.exit 0),⟨[9],⟨[(.ptr 0 0)],[.cells false [(.view 1),.hole,(.view 2)],.seq false,.seq false],[0,0,0],[kK,kL,kL]⟩⟩)] (lp q4 zi)
theorem zyv:UnA Tryz.prog zEU (qT (zm Tryz.f75) [1,1,0,1,0]) zCA:=zaT .run zw zIG ob0
theorem zC6:ShOk Tryz.prog gl 75 w54_c:=yL (.seq .run (.seq .run (.seq (.seq .run (.block (.unit zCA))) (.seq (.seq .run (.block (.unit zCH))) .run)))) [.cell 8 29] zj zw zxH Tryz.func75 (ob1 zyv (ob1 zvz ob0))
def w55_c:ShC:=⟨⟨[.hole,.hole],[],[1,1],[.sl (.cons kZ kR),.int .i64]⟩,⟨[.hole],[],[0],[.ns kI]⟩,1,[],[],true,false,fun (x:((List (Int×jI))×Int))=>zij x.1 x.2⟩
-- bind.find
theorem zvo:zL Tryz.prog (cond w55_c.glob gl fun _=>none) []:=zd
def zIu:=zcD tb gl zvo w55_c Tryz.f194
theorem zJo:VAll Tryz.prog zIu:=zu zj zvo
def zDh:Un:=lpU 2 [10,11,12,6,13,14,15,16,17,18,4,19,9] ⟨[1,7,8,9],⟨[.hole,.hole,.hole,.hole],[],[2,1,2,2],[.int .i64,.sl (.cons kZ kR),.int .i64,.int .i64]⟩⟩ [((.exit 0),⟨[],⟨[],[],[],[]⟩⟩),(.ret,⟨[4],⟨[.hole],[],[1],[kJ]⟩⟩)] (lp zbz zi)
theorem zxA:UnA Tryz.prog zIu (qT (zm Tryz.f194) [1,0,1,0]) zDh:=zaT .run zw zJo ob0
theorem zG8:ShOk Tryz.prog gl 194 w55_c:=yL (.seq .run (.seq (.seq .run (.block (.unit zDh))) .run)) [.tmp 4] zj zw zvo Tryz.func194 (ob1 zxA ob0)
def w56_c:ShC:=⟨⟨[.hole,.hole],[],[1,1],[.sl (.cons kZ kR),kJ]⟩,⟨[(.view 0)],[.seq false],[2],[kJ]⟩,1,[],[],false,false,fun (x:((List (Int×jI))×jI))=>zpR x.1 x.2⟩
-- bind.On
theorem zzk:zL Tryz.prog (cond w56_c.glob gl fun _=>none) [(55,.gen (qv [zJc])),(194,.gen (qv [w55_c]))]:=(gd1 zuA (gd1 zG8 zd))
def zH4:=zcD tb gl zzk w56_c Tryz.f152
theorem zKw:VAll Tryz.prog zH4:=zu zj zzk
def zB7:Un:=lpU 2 [12,13,14,7,15,16,17,18,8,19,20,21,22,23,24,25,26,27,28,5,29,30,31,5,32,11] ⟨[0,5,9,10,11],⟨[.hole,(.view 0),.hole,.hole,.hole],[.seq false],[1,1,2,2,2],[.sl (.cons kZ kR),kJ,.int .i64,.int .i64,kJ]⟩⟩ [((.exit 0),⟨[5],⟨[(.view 0)],[.seq false],[2],[kJ]⟩⟩)] (lp zcU zi)
theorem zvE:UnA Tryz.prog zH4 (qT (zm Tryz.f152) [1,1,0,1,0]) zB7:=zaT .run zw zKw ob0
theorem zHv:ShOk Tryz.prog gl 152 w56_c:=yL (.seq .run (.seq .run (.seq (.seq .run (.block (.unit zB7))) .run))) [.tmp 4] zj zw zzk Tryz.func152 (ob1 zvE ob0)
def zHF:ShC:=⟨⟨[.hole,(.ptr 0 0)],[.cells true [.hole]],[1,1],[kJ,.sl (.cons kZ kR)]⟩,⟨[(.view 0)],[.seq false],[2],[kJ]⟩,1,[],[],false,false,fun (x:(jI×(List (Int×jI))))=>zaC x.1 x.2⟩
-- clause.On$1
theorem zHW:ShOk Tryz.prog gl 186 zHF:=yL .run [.tmp 3] zj zw (gd1 zHv zd) Tryz.func186 ob0
def w58_c:ShC:=⟨⟨[(.agg [.hole,.hole,.hole]),(.clo 186 [(.ptr 0 0)])],[.cells true [.hole]],[1,1,1,1],[kL,kK,kL,.sl (.cons kZ kR)]⟩,⟨[(.agg [.hole,.hole,(.view 0)])],[.seq false],[2,2,2],[kL,kK,kL]⟩,1,[],[],false,false,fun (x:(jQ×jR×jQ×(List (Int×jI))))=>zjo x.1 x.2.1 x.2.2.1 x.2.2.2⟩
-- clause.each
theorem zwT:zL Tryz.prog (cond w58_c.glob gl fun _=>none) [(186,.gen (qv [zHF]))]:=(gd1 zHW zd)
def zA8:=zcD tb gl zwT w58_c Tryz.f170
theorem zFm:VAll Tryz.prog zA8:=zu zj zwT
def zCF:Un:=lpU 2 [52,53,54,11,55,56,57,58,59,60,61,62,63,64,65,66,67,51] ⟨[1,4,5,49,50,51],⟨[(.clo 186 [(.ptr 0 0)]),(.ptr 1 0),(.ptr 2 0),.hole,.hole,.hole],[.cells true [.hole],.cells true [.nilv,.nilv,.nilv],.cells false [.hole,.hole,(.view 3)],.seq false],[1,2,2,1,2,2,2],[kL,.int .i64,.int .i64,.sl (.cons kZ kR),kL,kK,kL]⟩⟩ [((.exit 4),⟨[5],⟨[(.ptr 0 0)],[.cells false [.hole,.hole,(.view 1)],.seq false],[2,2,2],[kL,kK,kL]⟩⟩)] (lp zaD zi)
theorem zzR:UnA Tryz.prog zA8 (qT (zm Tryz.f170) [1,1,1,1,0,1,0]) zCF:=zaT .run zw zFm ob0
def zDx:Un:=lpU 2 [36,37,38,9,39,40,41,42,43,44,45,46,47,35] ⟨[1,2,4,5,33,34,35],⟨[(.clo 186 [(.ptr 0 0)]),(.ptr 1 0),(.ptr 2 0),(.ptr 3 0),.hole,.hole,.hole],[.cells true [.hole],.cells true [.hole,.hole,.hole],.cells true [.nilv,.nilv,.nilv],.cells false [.hole,(.view 4),.nilv],.seq false],[1,2,2,1,1,1,1,2,2],[kK,.int .i64,.int .i64,.sl (.cons kZ kR),kL,kK,kL,kL,kK]⟩⟩ [((.exit 2),⟨[5],⟨[(.ptr 0 0)],[.cells false [.hole,(.view 1),.nilv],.seq false],[2,2],[kL,kK]⟩⟩)] (lp zay zi)
theorem zzu:UnA Tryz.prog zA8 (qT (zm Tryz.f170) [1,1,1,0,1,0]) zDx:=zaT .run zw zFm ob0
def zBD:Un:=lpU 2 [16,17,18,7,19,20,21,22,23,24,25,26,27,28,29,30,31,15] ⟨[1,2,4,5,13,14,15],⟨[(.clo 186 [(.ptr 0 0)]),(.ptr 1 0),(.ptr 2 0),(.ptr 3 0),.hole,.hole,.hole],[.cells true [.hole],.cells true [.hole,.hole,.hole],.cells true [.nilv,.nilv,.nilv],.cells false [(.view 4),.nilv,.nilv],.seq false],[1,2,2,1,1,1,1,2],[kL,.int .i64,.int .i64,.sl (.cons kZ kR),kL,kK,kL,kL]⟩⟩ [((.exit 0),⟨[5],⟨[(.ptr 0 0)],[.cells false [(.view 1),.nilv,.nilv],.seq false],[2],[kL]⟩⟩)] (lp zav zi)
theorem zy9:UnA Tryz.prog zA8 (qT (zm Tryz.f170) [1,1,0,1,0]) zBD:=zaT .run zw zFm ob0
theorem zFM:ShOk Tryz.prog gl 170 w58_c:=yL (.seq .run (.seq .run (.seq (.seq .run (.block (.unit zBD))) (.seq (.seq .run (.block (.unit zDx))) (.seq (.seq .run (.block (.unit zCF))) .run))))) [.cell 4 29] zj zw zwT Tryz.func170 (ob1 zy9 (ob1 zzu (ob1 zzR ob0)))
def zKk:ShC:=⟨⟨[.hole,(.agg [.hole,.hole,.hole])],[],[1,1,1,1],[.sl (.cons kZ kR),kL,kK,kL]⟩,⟨[(.agg [.hole,.hole,(.view 0)])],[.seq false],[2,2,2],[kL,kK,kL]⟩,1,[],[],false,false,fun (x:((List (Int×jI))×jQ×jR×jQ))=>zhQ x.1 x.2.1 x.2.2.1 x.2.2.2⟩
-- clause.On
theorem zI5:ShOk Tryz.prog gl 136 zKk:=yL .run [.cell 4 29] zj zw (gd1 zFM zd) Tryz.func136 ob0
def zJm:ShC:=⟨⟨[(.agg [.hole,.hole]),(.agg [.hole,.hole])],[],[1,1,1,1],[.bool,kJ,.bool,kJ]⟩,⟨[.hole],[],[2],[.bool]⟩,1,[],[],false,false,fun (x:(Bool×jI×Bool×jI))=>zmB x.1 x.2.1 x.2.2.1 x.2.2.2⟩
-- lit.Same
theorem zH3:ShOk Tryz.prog gl 206 zJm:=yL .run [.tmp 4] zj zw (gd1 zoZ zd) Tryz.func206 ob0
def zIo:ShC:=⟨⟨[(.agg [.hole,.hole]),(.ptr 0 0)],[.cells true [.hole,.hole]],[1,1,1,1],[.bool,kJ,.bool,kJ]⟩,⟨[.hole],[],[2],[.bool]⟩,1,[],[],false,false,fun (x:(Bool×jI×Bool×jI))=>zdJ x.1 x.2.1 x.2.2.1 x.2.2.2⟩
-- clause.once$1
theorem zGw:ShOk Tryz.prog gl 205 zIo:=yL .run [.tmp 3] zj zw (gd1 zH3 zd) Tryz.func205 ob0
def w62_c:ShC:=⟨⟨[.hole,(.clo 205 [(.ptr 0 0)])],[.cells true [.hole,.hole]],[1,1,1],[kL,.bool,kJ]⟩,⟨[.hole],[],[2],[.int .i64]⟩,1,[],[],false,false,fun (x:(jQ×Bool×jI))=>zd4 x.1 x.2.1 x.2.2⟩
-- slices.IndexFunc[[]api.Lit,api.Lit]
theorem zyx:zL Tryz.prog (cond w62_c.glob gl fun _=>none) [(205,.gen (qv [zIo]))]:=(gd1 zGw zd)
def zHU:=zcD tb gl zyx w62_c Tryz.f183
theorem zKA:VAll Tryz.prog zHU:=zu zj zyx
def zCu:Un:=lpU 2 [9,10,5,11,12,13,14,15,16,17,4,18,8] ⟨[0,1,7,8],⟨[.hole,(.clo 205 [(.ptr 0 0)]),.hole,.hole],[.cells true [.hole,.hole]],[1,2,2,2,1],[kL,.int .i64,.int .i64,.bool,kJ]⟩⟩ [((.exit 0),⟨[],⟨[],[],[],[]⟩⟩),(.ret,⟨[4],⟨[.hole],[],[2],[.int .i64]⟩⟩)] (lp yl zi)
theorem zvJ:UnA Tryz.prog zHU (qT (zm Tryz.f183) [1,0,1,0]) zCu:=zaT .run zw zKA ob0
theorem zIn:ShOk Tryz.prog gl 183 w62_c:=yL (.seq .run (.seq (.seq .run (.block (.unit zCu))) .run)) [.tmp 4] zj zw zyx Tryz.func183 (ob1 zvJ ob0)
def zGQ:ShC:=⟨⟨[.hole,(.clo 205 [(.ptr 0 0)])],[.cells true [.hole,.hole]],[1,1,1],[kL,.bool,kJ]⟩,⟨[.hole],[],[2],[.bool]⟩,1,[],[],false,false,fun (x:(jQ×Bool×jI))=>zaQ x.1 x.2.1 x.2.2⟩
-- slices.ContainsFunc[[]api.Lit,api.Lit]
theorem zG5:ShOk Tryz.prog gl 133 zGQ:=yL .run [.tmp 4] zj zw (gd1 zIn zd) Tryz.func133 ob0
def w64_c:ShC:=⟨⟨[.hole],[],[1],[kL]⟩,⟨[(.view 0)],[.seq false],[0],[kL]⟩,1,[],[],true,false,fun (x:jQ)=>zev x⟩
-- clause.once
theorem zxF:zL Tryz.prog (cond w64_c.glob gl fun _=>none) [(133,.gen (qv [zGQ]))]:=(gd1 zG5 zd)
def zGe:=zcD tb gl zxF w64_c Tryz.f168
theorem zJv:VAll Tryz.prog zGe:=zu zj zxF
def zBR:Un:=lpU 2 [9,10,11,5,12,13,14,15,16,17,18,19,3,20,8] ⟨[3,6,7,8],⟨[(.view 0),.hole,.hole,.hole],[.seq false],[1,2,2,0],[kL,.int .i64,.int .i64,kL]⟩⟩ [((.exit 0),⟨[3],⟨[(.view 0)],[.seq false],[0],[kL]⟩⟩)] (lp zat zi)
theorem zwY:UnA Tryz.prog zGe (qT (zm Tryz.f168) [1,1,0,1,0]) zBR:=zaT .run zw zJv ob0
theorem zGN:ShOk Tryz.prog gl 168 w64_c:=yL (.seq .run (.seq .run (.seq (.seq .run (.block (.unit zBR))) .run))) [.tmp 2] zj zw zxF Tryz.func168 (ob1 zwY ob0)
def zGK:ShC:=⟨⟨[.hole,(.ptr 0 0)],[.cells true [.hole]],[1,1],[kJ,kJ]⟩,⟨[.hole],[],[2],[.bool]⟩,1,[],[],false,false,fun (x:(jI×jI))=>zdI x.1 x.2⟩
-- clause.anew$1
theorem zGf:ShOk Tryz.prog gl 169 zGK:=yL .run [.tmp 3] zj zw (gd1 zoZ zd) Tryz.func169 ob0
def w66_c:ShC:=⟨⟨[.hole,(.clo 169 [(.ptr 0 0)])],[.cells true [.hole]],[1,1],[kK,kJ]⟩,⟨[.hole],[],[2],[.int .i64]⟩,1,[],[],false,false,fun (x:(jR×jI))=>zdo x.1 x.2⟩
-- slices.IndexFunc[[][]int,[]int]
theorem zxS:zL Tryz.prog (cond w66_c.glob gl fun _=>none) [(169,.gen (qv [zGK]))]:=(gd1 zGf zd)
def zGS:=zcD tb gl zxS w66_c Tryz.f182
theorem zJI:VAll Tryz.prog zGS:=zu zj zxS
def zDy:Un:=lpU 2 [9,10,5,11,12,13,14,15,16,17,4,18,8] ⟨[0,1,7,8],⟨[.hole,(.clo 169 [(.ptr 0 0)]),.hole,.hole],[.cells true [.hole]],[1,2,2,1],[kK,.int .i64,.int .i64,kJ]⟩⟩ [((.exit 0),⟨[],⟨[],[],[],[]⟩⟩),(.ret,⟨[4],⟨[.hole],[],[2],[.int .i64]⟩⟩)] (lp zW zi)
theorem zv7:UnA Tryz.prog zGS (qT (zm Tryz.f182) [1,0,1,0]) zDy:=zaT .run zw zJI ob0
theorem zHH:ShOk Tryz.prog gl 182 w66_c:=yL (.seq .run (.seq (.seq .run (.block (.unit zDy))) .run)) [.tmp 4] zj zw zxS Tryz.func182 (ob1 zv7 ob0)
def zGq:ShC:=⟨⟨[.hole,(.clo 169 [(.ptr 0 0)])],[.cells true [.hole]],[1,1],[kK,kJ]⟩,⟨[.hole],[],[2],[.bool]⟩,1,[],[],false,false,fun (x:(jR×jI))=>zaj x.1 x.2⟩
-- slices.ContainsFunc[[][]int,[]int]
theorem zGr:ShOk Tryz.prog gl 132 zGq:=yL .run [.tmp 4] zj zw (gd1 zHH zd) Tryz.func132 ob0
def w68_c:ShC:=⟨⟨[.hole,(.aptr 0),(.ptr 1 0)],[.seq false,.cells false [.hole]],[1,1,1],[kJ,kJ,.int .i64]⟩,⟨[(.view 0),(.aptr 1),(.ptr 2 0)],[.seq false,.seq false,.cells false [.hole]],[2,0,2],[kJ,kJ,.int .i64]⟩,1,[1,2],[(0,1),(1,2)],true,false,fun (x:(jI×jI×Int))=>yO x.1 x.2.1 x.2.2⟩
-- clause.anew$2
theorem zwx:zL Tryz.prog (cond w68_c.glob gl fun _=>none) [(55,.gen (qv [zJc])),(115,.gen (qv [zER]))]:=(gd1 zuA (gd1 zv8 zd))
def zIE:=zcD tb gl zwx w68_c Tryz.f171
theorem zJx:VAll Tryz.prog zIE:=zu zj zwx
def zCx:Un:=lpU 2 [13,14,15,16,6,7,17,18,19,20,21,22,23,24,25,26,27,28,29,30,31,32,33,34,35,36,37,38,12] ⟨[1,2,5,10,11,12],⟨[(.aptr 0),(.ptr 1 0),(.view 2),(.view 2),.hole,.hole],[.seq false,.cells false [.hole],.seq false],[2,2,0,2,2],[.int .i64,.int .i64,kJ,.int .i64,kJ]⟩⟩ [((.exit 0),⟨[1,2,5],⟨[(.aptr 0),(.ptr 1 0),(.view 2)],[.seq false,.cells false [.hole],.seq false],[0,2,2],[kJ,.int .i64,kJ]⟩⟩)] (lp yS zi)
theorem zyL:UnA Tryz.prog zIE (qT (zm Tryz.f171) [1,1,0,1,0]) zCx:=zaT .run zw zJx ob0
theorem zIz:ShOk Tryz.prog gl 171 w68_c:=yL (.seq .run (.seq .run (.seq (.seq .run (.block (.unit zCx))) .run))) [.tmp 4] zj zw zwx Tryz.func171 (ob1 zyL ob0)
def w69_c:ShC:=⟨⟨[(.agg [.hole,.hole,.hole]),(.clo 171 [(.aptr 0),(.ptr 1 0)])],[.seq false,.cells false [.hole]],[1,1,1,1,1],[kL,kK,kL,kJ,.int .i64]⟩,⟨[(.agg [.hole,.hole,(.view 0)]),(.clo 171 [(.aptr 1),(.ptr 2 0)])],[.seq false,.seq false,.cells false [.hole]],[2,2,2,0,2],[kL,kK,kL,kJ,.int .i64]⟩,1,[1],[(0,1),(1,2)],true,false,fun (x:(jQ×jR×jQ×jI×Int))=>zgz x.1 x.2.1 x.2.2.1 x.2.2.2.1 x.2.2.2.2⟩
-- clause.each
theorem zzJ:zL Tryz.prog (cond w69_c.glob gl fun _=>none) [(171,.gen (qv [w68_c]))]:=(gd1 zIz zd)
def zAE:=zcD tb gl zzJ w69_c Tryz.f170
theorem zFc:VAll Tryz.prog zAE:=zu zj zzJ
def zCt:Un:=lpU 2 [52,53,54,11,55,56,57,58,59,60,61,62,63,64,65,66,67,51] ⟨[1,4,5,49,50,51],⟨[(.clo 171 [(.aptr 0),(.ptr 1 0)]),(.ptr 2 0),(.ptr 3 0),.hole,.hole,.hole],[.seq false,.cells false [.hole],.cells true [.nilv,.nilv,.nilv],.cells false [.hole,.hole,(.view 4)],.seq false],[1,2,2,0,2,2,2,2],[kL,.int .i64,.int .i64,kJ,.int .i64,kL,kK,kL]⟩⟩ [((.exit 4),⟨[1,5],⟨[(.clo 171 [(.aptr 0),(.ptr 1 0)]),(.ptr 2 0)],[.seq false,.cells false [.hole],.cells false [.hole,.hole,(.view 3)],.seq false],[0,2,2,2,2],[kJ,.int .i64,kL,kK,kL]⟩⟩)] (lp qI zi)
theorem zxh:UnA Tryz.prog zAE (qT (zm Tryz.f170) [1,1,1,1,0,1,0]) zCt:=zaT (.seq .run (.seq .run (.seq (.block (.seq .run (.hide [[8,9],[8,9],[8,9],[8,9],[],[],[],[],[],[],[],[],[]]))) .run))) zw zFc ob0
def zCo:Un:=lpU 2 [36,37,38,9,39,40,41,42,43,44,45,46,47,35] ⟨[1,2,4,5,33,34,35],⟨[(.clo 171 [(.aptr 0),(.ptr 1 0)]),(.ptr 2 0),(.ptr 3 0),(.ptr 4 0),.hole,.hole,.hole],[.seq false,.cells false [.hole],.cells true [.hole,.hole,.hole],.cells true [.nilv,.nilv,.nilv],.cells false [.hole,(.view 5),.nilv],.seq false],[1,2,2,0,2,1,1,1,2,2],[kK,.int .i64,.int .i64,kJ,.int .i64,kL,kK,kL,kL,kK]⟩⟩ [((.exit 2),⟨[1,5],⟨[(.clo 171 [(.aptr 0),(.ptr 1 0)]),(.ptr 2 0)],[.seq false,.cells false [.hole],.cells false [.hole,(.view 3),.nilv],.seq false],[0,2,2,2],[kJ,.int .i64,kL,kK]⟩⟩)] (lp qH zi)
theorem zyA:UnA Tryz.prog zAE (qT (zm Tryz.f170) [1,1,1,0,1,0]) zCo:=zaT (.seq .run (.seq .run (.seq (.block (.seq .run (.hide [[8,9],[8,9],[],[],[],[],[],[],[]]))) .run))) zw zFc ob0
def zC5:Un:=lpU 2 [16,17,18,7,19,20,21,22,23,24,25,26,27,28,29,30,31,15] ⟨[1,2,4,5,13,14,15],⟨[(.clo 171 [(.aptr 0),(.ptr 1 0)]),(.ptr 2 0),(.ptr 3 0),(.ptr 4 0),.hole,.hole,.hole],[.seq false,.cells false [.hole],.cells true [.hole,.hole,.hole],.cells true [.nilv,.nilv,.nilv],.cells false [(.view 5),.nilv,.nilv],.seq false],[1,2,2,0,2,1,1,1,2],[kL,.int .i64,.int .i64,kJ,.int .i64,kL,kK,kL,kL]⟩⟩ [((.exit 0),⟨[1,5],⟨[(.clo 171 [(.aptr 0),(.ptr 1 0)]),(.ptr 2 0)],[.seq false,.cells false [.hole],.cells false [(.view 3),.nilv,.nilv],.seq false],[0,2,2],[kJ,.int .i64,kL]⟩⟩)] (lp qN zi)
theorem zxY:UnA Tryz.prog zAE (qT (zm Tryz.f170) [1,1,0,1,0]) zC5:=zaT (.seq .run (.seq .run (.seq (.block (.seq .run (.hide [[8,9],[8,9],[8,9],[8,9],[],[],[],[],[],[],[],[],[]]))) .run))) zw zFc ob0
theorem zGn:ShOk Tryz.prog gl 170 w69_c:=yL (.seq .run (.seq .run (.seq (.seq .run (.block (.unit zC5))) (.seq (.seq .run (.block (.unit zCo))) (.seq (.seq .run (.block (.unit zCt))) .run))))) [.cell 4 29] zj zw zzJ Tryz.func170 (ob1 zxY (ob1 zyA (ob1 zxh ob0)))
def w70_c:ShC:=⟨⟨[(.agg [.hole,.hole,.hole])],[],[1,1,1],[kL,kK,kL]⟩,⟨[(.agg [.hole,.hole,(.view 0)])],[.seq false],[2,2,2],[kL,kK,kL]⟩,1,[],[],false,false,fun (x:(jQ×jR×jQ))=>zgY x.1 x.2.1 x.2.2⟩
-- clause.anew
theorem zzd:zL Tryz.prog (cond w70_c.glob gl fun _=>none) [(132,.gen (qv [zGq])),(168,.gen (qv [w64_c])),(170,.gen (qv [w69_c]))]:=(gd1 zGr (gd1 zGN (gd1 zGn zd)))
def zF5:=zcD tb gl zzd w70_c Tryz.f116
theorem zJ7:VAll Tryz.prog zF5:=zu zj zzd
def zBK:Un:=lpU 2 [19,20,21,5,22,23,24,25,26,27,28,29,30,31,32,33,18] ⟨[2,3,16,17,18],⟨[(.ptr 0 0),(.ptr 1 0),.hole,.hole,.hole],[.cells true [.nilv,.nilv,.nilv],.cells false [.hole,(.view 2),.hole],.seq false],[1,2,2,0,0,0],[kK,.int .i64,.int .i64,kL,kL,kK]⟩⟩ [((.exit 0),⟨[3],⟨[(.ptr 0 0)],[.cells false [.hole,(.view 1),.hole],.seq false],[0,0,0],[kL,kL,kK]⟩⟩)] (lp zaA zi)
theorem zvY:UnA Tryz.prog zF5 (qT (zm Tryz.f116) [1,1,0,1,0]) zBK:=zaT .run zw zJ7 ob0
theorem zIA:ShOk Tryz.prog gl 116 w70_c:=yL (.seq .run (.seq .run (.seq (.seq .run (.block (.unit zBK))) .run))) [.cell 2 29] zj zw zzd Tryz.func116 (ob1 zvY ob0)
def zKp:ShC:=⟨⟨[.hole,(.agg [.hole,.hole,.hole])],[],[1,1,1,1],[kM,kL,kK,kL]⟩,⟨[(.agg [.hole,.hole,(.view 0)]),.hole],[.seq false],[2,2,2,2],[kL,kK,.int .i64,kL]⟩,2,[],[],false,true,fun (x:(jS×jQ×jR×jQ))=>zc6 x.1 x.2.1 x.2.2.1 x.2.2.2⟩
-- clause.Normal
theorem zC0:ShOk Tryz.prog gl 56 zKp:=yL .run [.cell 4 29,.tmp 5] zj zw (gdG zqo (gd1 zIA zd)) Tryz.func56 ob0
def zI3:ShC:=⟨⟨[.hole,(.agg [.hole,.hole,.hole]),.hole,.hole],[],[1,1,1,1,1,1],[kM,kL,kK,kL,.int .i64,.int .i64]⟩,⟨[(.agg [.hole,.hole,(.view 0)]),.hole,.hole],[.seq false],[2,2,2,2,2],[kL,kK,.bool,.int .i64,kL]⟩,3,[],[],false,true,fun (x:(jS×jQ×jR×jQ×Int×Int))=>zbX x.1 x.2.1 x.2.2.1 x.2.2.2.1 x.2.2.2.2.1 x.2.2.2.2.2⟩
-- factor.one
theorem zBH:ShOk Tryz.prog gl 70 zI3:=yL .run [.cell 8 29,.tmp 9,.tmp 10] zj zw (gdG zC0 (gd1 zC6 (gdG zHZ (gd1 zI5 zd)))) Tryz.func70 ob0
def zIT:ShC:=⟨⟨[.hole,(.agg [.hole,.hole])],[],[1,1,1],[kM,.bool,kJ]⟩,⟨[.hole],[],[2],[.bool]⟩,1,[],[],false,false,fun (x:(jS×Bool×jI))=>zbq x.1 x.2.1 x.2.2⟩
-- clause.selfSame
theorem zIB:ShOk Tryz.prog gl 190 zIT:=yL .run [.tmp 4] zj zw (gd1 zoZ (gd1 zxP zd)) Tryz.func190 ob0
def zHB:ShC:=⟨⟨[(.agg [.hole,.hole]),(.ptr 0 0)],[.cells true [.hole,.hole]],[1,1,1,1],[.bool,kJ,.bool,kJ]⟩,⟨[.hole],[],[2],[.bool]⟩,1,[],[],false,false,fun (x:(Bool×jI×Bool×jI))=>zcz x.1 x.2.1 x.2.2.1 x.2.2.2⟩
-- clause.Trivial$1
theorem zFZ:ShOk Tryz.prog gl 191 zHB:=yL .run [.tmp 3] zj zw (gd1 zoZ zd) Tryz.func191 ob0
def w75_c:ShC:=⟨⟨[.hole,(.clo 191 [(.ptr 0 0)])],[.cells true [.hole,.hole]],[1,1,1],[kL,.bool,kJ]⟩,⟨[.hole],[],[2],[.int .i64]⟩,1,[],[],false,false,fun (x:(jQ×Bool×jI))=>zdd x.1 x.2.1 x.2.2⟩
-- slices.IndexFunc[[]api.Lit,api.Lit]
theorem zxq:zL Tryz.prog (cond w75_c.glob gl fun _=>none) [(191,.gen (qv [zHB]))]:=(gd1 zFZ zd)
def zI1:=zcD tb gl zxq w75_c Tryz.f183
theorem zJ3:VAll Tryz.prog zI1:=zu zj zxq
def zB5:Un:=lpU 2 [9,10,5,11,12,13,14,15,16,17,4,18,8] ⟨[0,1,7,8],⟨[.hole,(.clo 191 [(.ptr 0 0)]),.hole,.hole],[.cells true [.hole,.hole]],[1,2,2,2,1],[kL,.int .i64,.int .i64,.bool,kJ]⟩⟩ [((.exit 0),⟨[],⟨[],[],[],[]⟩⟩),(.ret,⟨[4],⟨[.hole],[],[2],[.int .i64]⟩⟩)] (lp zZ zi)
theorem zzr:UnA Tryz.prog zI1 (qT (zm Tryz.f183) [1,0,1,0]) zB5:=zaT .run zw zJ3 ob0
theorem zH1:ShOk Tryz.prog gl 183 w75_c:=yL (.seq .run (.seq (.seq .run (.block (.unit zB5))) .run)) [.tmp 4] zj zw zxq Tryz.func183 (ob1 zzr ob0)
def zHR:ShC:=⟨⟨[.hole,(.clo 191 [(.ptr 0 0)])],[.cells true [.hole,.hole]],[1,1,1],[kL,.bool,kJ]⟩,⟨[.hole],[],[2],[.bool]⟩,1,[],[],false,false,fun (x:(jQ×Bool×jI))=>zal x.1 x.2.1 x.2.2⟩
-- slices.ContainsFunc[[]api.Lit,api.Lit]
theorem zIk:ShOk Tryz.prog gl 133 zHR:=yL .run [.tmp 4] zj zw (gd1 zH1 zd) Tryz.func133 ob0
def w77_c:ShC:=⟨⟨[.hole,(.agg [.hole,.hole,.hole])],[],[1,1,1,1],[kM,kL,kK,kL]⟩,⟨[.hole,.hole],[],[2,2],[.bool,.int .i64]⟩,2,[],[],false,true,fun (x:(jS×jQ×jR×jQ))=>zbZ x.1 x.2.1 x.2.2.1 x.2.2.2⟩
-- clause.Trivial
theorem zww:zL Tryz.prog (cond w77_c.glob gl fun _=>none) [(42,.gen (qv [zD8])),(133,.gen (qv [zHR])),(190,.gen (qv [zIT]))]:=(gdG zqo (gd1 zIk (gd1 zIB zd)))
def zHj:=zcD tb gl zww w77_c Tryz.f146
theorem zKF:VAll Tryz.prog zHj:=zu zj zww
def zBL:Un:=lpU 2 [16,17,18,7,19,20,21,22,23,24,25,26,27,4,5,28,15] ⟨[0,3,13,14,15],⟨[.hole,(.ptr 0 0),.hole,.hole,.hole],[.cells true [.hole,.hole,.hole]],[1,1,2,2,1,1,1],[kM,kL,.int .i64,.int .i64,kL,kK,kL]⟩⟩ [((.exit 0),⟨[],⟨[],[],[],[]⟩⟩),(.ret,⟨[4,5],⟨[.hole,.hole],[],[2,2],[.bool,.int .i64]⟩⟩)] (lp qd zi)
theorem zyk:UnA Tryz.prog zHj (qT (zm Tryz.f146) [1,1,0,1,0]) zBL:=zaT .run zw zKF ob0
theorem zGZ:ShOk Tryz.prog gl 146 w77_c:=yL (.seq .run (.seq .run (.seq (.seq .run (.block (.unit zBL))) .run))) [.tmp 4,.tmp 5] zj zw zww Tryz.func146 (ob1 zyk ob0)
def zF4:ShC:=⟨⟨[(.ptr 0 0),(.agg [.hole,.hole,.hole,.hole,.hole,.hole,.hole,.hole,.hole,.hole]),(.agg [.hole,.hole,.hole]),.hole,.hole],[.cells false [.hole,(.view 1),.hole],.seq false],[1,1,1,1,1,1,1,2,2,2,2,2,2,1,1,1,1,2],[.int .i64,.int .i64,.int .i64,.int .i64,.int .i64,.int .i64,.int .i64,kL,kK,kL,kL,kK,kL,.bool,.int .i64,kM,.int .i64,.sl (.cons kZ (.cons kZ (.cons kZ (.cons kZ (.cons kZ (.cons kZ (.cons kZ (.cons kL (.cons kK (.one kL))))))))))]⟩,⟨[(.ptr 0 0)],[.cells false [.hole,(.view 1),.hole],.seq false],[1,2,2],[kM,.int .i64,.sl (.cons kZ (.cons kZ (.cons kZ (.cons kZ (.cons kZ (.cons kZ (.cons kZ (.cons kL (.cons kK (.one kL))))))))))]⟩,0,[0],[(0,0)],true,true,fun (x:(Int×Int×Int×Int×Int×Int×Int×jQ×jR×jQ×jQ×jR×jQ×Bool×Int×jS×Int×jT))=>qz x.1 x.2.1 x.2.2.1 x.2.2.2.1 x.2.2.2.2.1 x.2.2.2.2.2.1 x.2.2.2.2.2.2.1 x.2.2.2.2.2.2.2.1 x.2.2.2.2.2.2.2.2.1 x.2.2.2.2.2.2.2.2.2.1 x.2.2.2.2.2.2.2.2.2.2.1 x.2.2.2.2.2.2.2.2.2.2.2.1 x.2.2.2.2.2.2.2.2.2.2.2.2.1 x.2.2.2.2.2.2.2.2.2.2.2.2.2.1 x.2.2.2.2.2.2.2.2.2.2.2.2.2.2.1 x.2.2.2.2.2.2.2.2.2.2.2.2.2.2.2.1 x.2.2.2.2.2.2.2.2.2.2.2.2.2.2.2.2.1 x.2.2.2.2.2.2.2.2.2.2.2.2.2.2.2.2.2⟩
-- (*resolve.Kids).Add
theorem zIl:ShOk Tryz.prog gl 79 zF4:=yL (.seq .run (.seq .run (.seq .run (.seq .run (.hide [[9],[],[],[],[],[],[],[],[],[],[]]))))) [] zj zw (gdG zGZ zd) Tryz.func79 ob0
def w79_c:ShC:=⟨⟨[.hole,(.agg [.hole,.hole,.hole]),.hole],[],[1,1,1,1,1],[kM,kL,kK,kL,.int .i64]⟩,⟨[(.view 0),.hole,.hole],[.seq false],[2,2,2],[.int .i64,.int .i64,.sl (.cons kZ (.cons kZ (.cons kZ (.cons kZ (.cons kZ (.cons kZ (.cons kZ (.cons kL (.cons kK (.one kL))))))))))]⟩,3,[],[],false,true,fun (x:(jS×jQ×jR×jQ×Int))=>zfM x.1 x.2.1 x.2.2.1 x.2.2.2.1 x.2.2.2.2⟩
-- factor.All
theorem zwe:zL Tryz.prog (cond w79_c.glob gl fun _=>none) [(42,.gen (qv [zD8])),(70,.gen (qv [zI3])),(77,.gen (qv [w35_c])),(78,.gen (qv [zG4])),(79,.gen (qv [zF4]))]:=(gdG zqo (gdG zBH (gdG zHt (gd1 zId (gdG zIl zd)))))
def zEC:=zcD tb gl zwe w79_c Tryz.f29
theorem zI2:VAll Tryz.prog zEC:=zu zj zwe
def zCC:Un:=lpU 2 [38,39,40,41,42,45,46,47,48,49,50,51,52,54,55,56,57,58,53,59,60,61,14,15,16,62,63,64,65,66,67,68,69,43,44,13] ⟨[0,2,4,9,11,12,13,32,33],⟨[.hole,.hole,(.ptr 0 0),.hole,(.ptr 1 0),.hole,.hole,.hole,.hole],[.cells true [.hole,.hole,.hole],.cells false [.hole,(.view 2),.hole],.seq false],[1,2,2,2,2,2,2,1,1,1,0,2,2],[kM,.int .i64,kJ,.int .i64,.int .i64,.int .i64,.int .i64,kL,kK,kL,kM,.int .i64,.sl (.cons kZ (.cons kZ (.cons kZ (.cons kZ (.cons kZ (.cons kZ (.cons kZ (.cons kL (.cons kK (.one kL))))))))))]⟩⟩ [((.exit 2),⟨[11],⟨[(.ptr 0 0)],[.cells false [.hole,(.view 1),.hole],.seq false],[0,2,2],[kM,.int .i64,.sl (.cons kZ (.cons kZ (.cons kZ (.cons kZ (.cons kZ (.cons kZ (.cons kZ (.cons kL (.cons kK (.one kL))))))))))]⟩⟩)] (lp zdj zi)
theorem zwm:UnA Tryz.prog zEC (qT (zm Tryz.f29) [1,1,1,1,0,1,0,0,1,1,0,0,1,1,0]) zCC:=zaT .run zw zI2 ob0
def zBQ:Un:=lpU 2 [34,35,12,36,37,13,38,39,40,41,42,45,46,47,48,49,50,51,52,54,55,56,57,58,53,59,60,61,14,15,16,62,63,64,65,66,67,68,69,43,44,13,70,33] ⟨[0,2,4,9,11,32,33],⟨[.hole,.hole,(.ptr 0 0),.hole,(.ptr 1 0),.hole,.hole],[.cells true [.hole,.hole,.hole],.cells false [.hole,(.view 2),.hole],.seq false],[1,2,2,2,2,1,1,1,0,2,2],[kM,.int .i64,kJ,.int .i64,.int .i64,kL,kK,kL,kM,.int .i64,.sl (.cons kZ (.cons kZ (.cons kZ (.cons kZ (.cons kZ (.cons kZ (.cons kZ (.cons kL (.cons kK (.one kL))))))))))]⟩⟩ [((.exit 0),⟨[11],⟨[(.ptr 0 0)],[.cells false [.hole,(.view 1),.hole],.seq false],[0,2,2],[kM,.int .i64,.sl (.cons kZ (.cons kZ (.cons kZ (.cons kZ (.cons kZ (.cons kZ (.cons kZ (.cons kL (.cons kK (.one kL))))))))))]⟩⟩)] (lp zc5 zi)
theorem zyf:UnA Tryz.prog zEC (qT (zm Tryz.f29) [1,1,1,1,0,1,0]) zBQ:=zaT (.seq .run (.seq .run (.seq (.block (.seq .run (.seq .run (.block (.unit zCC))))) .run))) zw zI2 (ob1 zwm ob0)
theorem zDE:ShOk Tryz.prog gl 29 w79_c:=yL (.seq .run (.seq .run (.seq .run (.seq .run (.seq (.seq .run (.block (.unit zBQ))) .run))))) [.tmp 6,.tmp 7,.tmp 8] zj zw zwe Tryz.func29 (ob1 zyf ob0)
def zH7:ShC:=⟨⟨[.hole],[],[1],[.int .u8]⟩,⟨[.hole],[],[2],[.bool]⟩,1,[],[],false,false,fun (x:Int)=>zfx x⟩
-- quaereref1.small
theorem zH5:ShOk Tryz.prog gl 172 zH7:=yL .run [.tmp 2] zj zw zd Tryz.func172 ob0
def w81_c:ShC:=⟨⟨[(.agg [.hole,.hole,.hole,.hole])],[],[1,1,1,1],[.str,.int .i64,.int .i64,.int .i64]⟩,⟨[.hole],[],[2],[.bool]⟩,1,[],[],false,false,fun (x:zq)=>zez x.1 x.2.1 x.2.2.1 x.2.2.2⟩
-- quaereref1.SymMay
theorem zxt:zL Tryz.prog (cond w81_c.glob gl fun _=>none) [(172,.gen (qv [zH7]))]:=(gd1 zH5 zd)
def zIr:=zcD tb gl zxt w81_c Tryz.f117
theorem zKm:VAll Tryz.prog zIr:=zu zj zxt
def zBU:Un:=lpU 2 [21,22,23,24,25,28,29,30,31,32,33,34,35,36,37,38,39,40,41,42,43,44,45,46,47,2,26,27,3] ⟨[1,3],⟨[(.ptr 0 0),.hole],[.cells true [.hole,.hole,.hole,.hole]],[2,2,2,2,2],[.int .i64,.str,.int .i64,.int .i64,.int .i64]⟩⟩ [((.exit 0),⟨[],⟨[],[],[],[]⟩⟩),(.ret,⟨[2],⟨[.hole],[],[2],[.bool]⟩⟩)] (lp zau zi)
theorem zyd:UnA Tryz.prog zIr (qT (zm Tryz.f117) [1,1,0,1,0]) zBU:=zaT .run zw zKm ob0
theorem zGd:ShOk Tryz.prog gl 117 w81_c:=yL (.seq .run (.seq .run (.seq (.seq .run (.block (.unit zBU))) .run))) [.tmp 2] zj zw zxt Tryz.func117 (ob1 zyd ob0)
def w82_c:ShC:=⟨⟨[.hole,.hole],[],[1,1],[kM,.str]⟩,⟨[.hole],[],[2],[.int .i64]⟩,1,[],[],false,false,fun (x:(jS×Str))=>zig x.1 x.2⟩
-- quaereref1.Code
theorem zwI:zL Tryz.prog (cond w82_c.glob gl fun _=>none) []:=zd
def zIH:=zcD tb gl zwI w82_c Tryz.f118
theorem zKP:VAll Tryz.prog zIH:=zu zj zwI
def zC1:Un:=lpU 2 [6,7,8,9,12,13,14,15,16,17,18,19,4,10,11,5] ⟨[0,1,5],⟨[.hole,.hole,.hole],[],[1,2,2],[kM,.str,.int .i64]⟩⟩ [((.exit 0),⟨[],⟨[],[],[],[]⟩⟩),(.ret,⟨[4],⟨[.hole],[],[2],[.int .i64]⟩⟩)] (lp zbI zi)
theorem zz2:UnA Tryz.prog zIH (qT (zm Tryz.f118) [1,0,1,0]) zC1:=zaT .run zw zKP ob0
theorem zGi:ShOk Tryz.prog gl 118 w82_c:=yL (.seq .run (.seq (.seq .run (.block (.unit zC1))) .run)) [.tmp 4] zj zw zwI Tryz.func118 (ob1 zz2 ob0)
def w83_c:ShC:=⟨⟨[.hole],[],[1],[kM]⟩,⟨[.hole],[],[2],[.bool]⟩,1,[],[],false,false,fun (x:jS)=>zdT x⟩
-- quaereref1.SignMay
theorem zzK:zL Tryz.prog (cond w83_c.glob gl fun _=>none) [(117,.gen (qv [w81_c])),(118,.gen (qv [w82_c]))]:=(gd1 zGd (gd1 zGi zd))
def zH0:=zcD tb gl zzK w83_c Tryz.f57
theorem zJi:VAll Tryz.prog zH0:=zu zj zzK
def zCb:Un:=lpU 2 [19,20,21,22,25,26,27,28,29,30,31,32,33,34,35,36,37,38,39,40,41,2,23,24,3] ⟨[0,3],⟨[.hole,.hole],[],[1,2],[kM,.int .i64]⟩⟩ [((.exit 0),⟨[],⟨[],[],[],[]⟩⟩),(.ret,⟨[2],⟨[.hole],[],[2],[.bool]⟩⟩)] (lp zaM zi)
theorem zvq:UnA Tryz.prog zH0 (qT (zm Tryz.f57) [1,1,0,1,0]) zCb:=zaT .run zw zJi ob0
theorem zDd:ShOk Tryz.prog gl 57 w83_c:=yL (.seq .run (.seq .run (.seq (.seq .run (.block (.unit zCb))) .run))) [.tmp 2] zj zw zzK Tryz.func57 (ob1 zvq ob0)
def w84_c:ShC:=⟨⟨[.hole,.hole,.hole],[],[1,1,1],[kM,kJ,.int .i64]⟩,⟨[.hole],[],[2],[.int .i64]⟩,1,[],[],false,false,fun (x:(jS×jI×Int))=>zmv x.1 x.2.1 x.2.2⟩
-- quaereref1.End
theorem zyt:zL Tryz.prog (cond w84_c.glob gl fun _=>none) []:=zd
def zIN:=zcD tb gl zyt w84_c Tryz.f93
theorem zKg:VAll Tryz.prog zIN:=zu zj zyt
def zBN:Un:=lpU 2 [10,11,12,13,14,15,16,17,18,19,20,21,22,23,24,25,26,27,28,29,30,31,6,32,33,7,34,35,36,37,38,39,40,41,42,43,44,45,46,47,6,48,49,50,51,52,53,54,55,56,57,7,58,59,8] ⟨[0,1,7,8],⟨[.hole,.hole,.hole,.hole],[],[1,1,2,2],[kM,kJ,.int .i64,.int .i64]⟩⟩ [((.exit 0),⟨[8],⟨[.hole],[],[2],[.int .i64]⟩⟩),(.ret,⟨[6],⟨[.hole],[],[2],[.int .i64]⟩⟩)] (lp zcQ zi)
theorem zwZ:UnA Tryz.prog zIN (qT (zm Tryz.f93) [1,1,0,0]) zBN:=zaT .run zw zKg ob0
theorem zHh:ShOk Tryz.prog gl 93 w84_c:=yL (.seq .run (.seq .run (.seq (.block (.unit zBN)) .run))) [.tmp 6] zj zw zyt Tryz.func93 (ob1 zwZ ob0)
def w85_c:ShC:=⟨⟨[.hole,.hole],[],[1,1],[kM,kJ]⟩,⟨[.hole],[],[2],[.int .i64]⟩,1,[],[],false,false,fun (x:(jS×jI))=>zcX x.1 x.2⟩
-- quaereref1.Terms
theorem zxo:zL Tryz.prog (cond w85_c.glob gl fun _=>none) [(93,.gen (qv [w84_c]))]:=(gd1 zHh zd)
def zHd:=zcD tb gl zxo w85_c Tryz.f120
theorem zKN:VAll Tryz.prog zHd:=zu zj zxo
def zDu:Un:=lpU 2 [10,11,12,13,14,15,16,17,6,18,19,4,20,21,5] ⟨[0,1,5,6],⟨[.hole,.hole,.hole,.hole],[],[1,1,2,2],[kM,kJ,.int .i64,.int .i64]⟩⟩ [((.exit 0),⟨[5],⟨[.hole],[],[2],[.int .i64]⟩⟩),(.ret,⟨[4],⟨[.hole],[],[2],[.int .i64]⟩⟩)] (lp zdc zi)
theorem zwC:UnA Tryz.prog zHd (qT (zm Tryz.f120) [1,1,1,0,0]) zDu:=zaT .run zw zKN ob0
theorem zCl:ShOk Tryz.prog gl 120 w85_c:=yL (.seq .run (.seq .run (.seq .run (.seq (.block (.unit zDu)) .run)))) [.tmp 4] zj zw zxo Tryz.func120 (ob1 zwC ob0)
def zJn:ShC:=⟨⟨[.hole,.hole],[],[1,1],[kM,kJ]⟩,⟨[.hole],[],[2],[.bool]⟩,1,[],[],false,false,fun (x:(jS×jI))=>zgS x.1 x.2⟩
-- quaereref1.IsAtom
theorem zGo:ShOk Tryz.prog gl 173 zJn:=yL .run [.tmp 4] zj zw (gd1 zCl zd) Tryz.func173 ob0
def zGO:ShC:=⟨⟨[.hole,(.agg [.hole,.hole])],[],[1,1,1],[kM,.bool,kJ]⟩,⟨[.hole],[],[2],[.bool]⟩,1,[],[],false,false,fun (x:(jS×Bool×jI))=>zcN x.1 x.2.1 x.2.2⟩
-- quaereref8.LitMay
theorem zII:ShOk Tryz.prog gl 119 zGO:=yL .run [.tmp 4] zj zw (gd1 zDd (gd1 zGo zd)) Tryz.func119 ob0
def w88_c:ShC:=⟨⟨[(.agg [.hole,.hole,.hole])],[],[1,1,1],[kL,kK,kL]⟩,⟨[(.view 0)],[.seq false],[0],[kK]⟩,1,[],[],true,false,fun (x:(jQ×jR×jQ))=>zf6 x.1 x.2.1 x.2.2⟩
-- quaereref8.rows
theorem zxy:zL Tryz.prog (cond w88_c.glob gl fun _=>none) []:=zd
def zBa:=zcD tb gl zxy w88_c Tryz.f121
theorem zE5:VAll Tryz.prog zBa:=zu zj zxy
def zDt:Un:=lpU 2 [38,39,40,41,42,45,46,47,48,49,50,51,52,53,3,43,44,6] ⟨[1,3,6],⟨[(.ptr 0 0),(.view 1),.hole],[.cells true [.hole,.hole,.hole],.seq false],[2,1,1,1,0],[.int .i64,kL,kK,kL,kK]⟩⟩ [((.exit 4),⟨[3],⟨[(.view 0)],[.seq false],[0],[kK]⟩⟩)] (lp zbB zi)
theorem zxv:UnA Tryz.prog zBa (qT (zm Tryz.f121) [1,1,1,1,0,1,0]) zDt:=zaT .run zw zE5 ob0
def zBO:Un:=lpU 2 [23,24,25,26,27,30,31,32,33,34,35,36,37,3,28,29,5] ⟨[1,3,5],⟨[(.ptr 0 0),(.view 1),.hole],[.cells true [.hole,.hole,.hole],.seq false],[2,1,1,1,0],[.int .i64,kL,kK,kL,kK]⟩⟩ [((.exit 2),⟨[3],⟨[(.view 0)],[.seq false],[0],[kK]⟩⟩)] (lp zbv zi)
theorem zwS:UnA Tryz.prog zBa (qT (zm Tryz.f121) [1,1,1,0,1,0]) zBO:=zaT .run zw zE5 ob0
def zDz:Un:=lpU 2 [7,8,9,10,11,14,15,16,17,18,19,20,21,22,3,12,13,4] ⟨[1,3,4],⟨[(.ptr 0 0),(.view 1),.hole],[.cells true [.hole,.hole,.hole],.seq false],[2,1,1,1,0],[.int .i64,kL,kK,kL,kK]⟩⟩ [((.exit 0),⟨[3],⟨[(.view 0)],[.seq false],[0],[kK]⟩⟩)] (lp zbu zi)
theorem zzb:UnA Tryz.prog zBa (qT (zm Tryz.f121) [1,1,0,1,0]) zDz:=zaT .run zw zE5 ob0
theorem zC7:ShOk Tryz.prog gl 121 w88_c:=yL (.seq .run (.seq .run (.seq (.seq .run (.block (.unit zDz))) (.seq (.seq .run (.block (.unit zBO))) (.seq (.seq .run (.block (.unit zDt))) .run))))) [.tmp 2] zj zw zxy Tryz.func121 (ob1 zzb (ob1 zwS (ob1 zxv ob0)))
def w89_c:ShC:=⟨⟨[.hole,(.agg [.hole,.hole,.hole])],[],[1,1,1,1],[kM,kL,kK,kL]⟩,⟨[.hole],[],[2],[.bool]⟩,1,[],[],false,false,fun (x:(jS×jQ×jR×jQ))=>ziG x.1 x.2.1 x.2.2.1 x.2.2.2⟩
-- quaereref8.May
theorem zzo:zL Tryz.prog (cond w89_c.glob gl fun _=>none) [(57,.gen (qv [w83_c])),(119,.gen (qv [zGO])),(120,.gen (qv [w85_c])),(121,.gen (qv [w88_c]))]:=(gd1 zDd (gd1 zII (gd1 zCl (gd1 zC7 zd))))
def zyJ:=zcD tb gl zzo w89_c Tryz.f60
theorem zBm:VAll Tryz.prog zyJ:=zu zj zzo
def zCM:Un:=lpU 2 [91,92,93,94,97,98,99,100,101,102,103,10,95,96,11] ⟨[9,10,11],⟨[.hole,.hole,.hole],[],[0,2,2],[kK,.int .i64,.int .i64]⟩⟩ [((.exit 6),⟨[10],⟨[.hole],[],[2],[.int .i64]⟩⟩)] (lp zcl zi)
theorem zxe:UnA Tryz.prog zyJ (qT (zm Tryz.f60) [1,1,1,1,1,1,1,0,1,0]) zCM:=zaT .run zw zBm ob0
def zB3:Un:=lpU 2 [63,64,65,66,67,70,71,72,73,74,75,76,8,77,78,79,80,81,82,83,84,85,86,87,88,4,68,69,7] ⟨[0,3,7],⟨[.hole,(.ptr 0 0),.hole],[.cells true [.hole,.hole,.hole]],[1,2,1,1,1],[kM,.int .i64,kL,kK,kL]⟩⟩ [((.exit 4),⟨[],⟨[],[],[],[]⟩⟩),(.ret,⟨[4],⟨[.hole],[],[2],[.bool]⟩⟩)] (lp zca zi)
theorem zwQ:UnA Tryz.prog zyJ (qT (zm Tryz.f60) [1,1,1,1,0,1,0]) zB3:=zaT .run zw zBm ob0
def zDq:Un:=lpU 2 [48,49,50,51,52,55,56,57,58,59,60,61,62,4,53,54,6] ⟨[0,3,6],⟨[.hole,(.ptr 0 0),.hole],[.cells true [.hole,.hole,.hole]],[1,2,1,1,1],[kM,.int .i64,kL,kK,kL]⟩⟩ [((.exit 2),⟨[],⟨[],[],[],[]⟩⟩),(.ret,⟨[4],⟨[.hole],[],[2],[.bool]⟩⟩)] (lp zcd zi)
theorem zyg:UnA Tryz.prog zyJ (qT (zm Tryz.f60) [1,1,1,0,1,0]) zDq:=zaT .run zw zBm ob0
def zDb:Un:=lpU 2 [33,34,35,36,37,40,41,42,43,44,45,46,47,4,38,39,5] ⟨[0,3,5],⟨[.hole,(.ptr 0 0),.hole],[.cells true [.hole,.hole,.hole]],[1,2,1,1,1],[kM,.int .i64,kL,kK,kL]⟩⟩ [((.exit 0),⟨[],⟨[],[],[],[]⟩⟩),(.ret,⟨[4],⟨[.hole],[],[2],[.bool]⟩⟩)] (lp zci zi)
theorem zwL:UnA Tryz.prog zyJ (qT (zm Tryz.f60) [1,1,0,1,0]) zDb:=zaT .run zw zBm ob0
theorem zzQ:ShOk Tryz.prog gl 60 w89_c:=yL (.seq .run (.seq .run (.seq (.seq .run (.block (.unit zDb))) (.seq (.seq .run (.block (.unit zDq))) (.seq (.seq .run (.block (.unit zB3))) (.seq .run (.seq .run (.seq (.seq .run (.block (.unit zCM))) .run)))))))) [.tmp 4] zj zw zzo Tryz.func60 (ob1 zwL (ob1 zyg (ob1 zwQ (ob1 zxe ob0))))
def w90_c:ShC:=⟨⟨[.hole,.hole],[],[1,1],[kJ,kJ]⟩,⟨[.hole],[],[2],[.bool]⟩,1,[],[],false,false,fun (x:(jI×jI))=>zaL x.1 x.2⟩
-- quaereref1.Same
theorem zv6:zL Tryz.prog (cond w90_c.glob gl fun _=>none) []:=zd
def zG9:=zcD tb gl zv6 w90_c Tryz.f123
theorem zKu:VAll Tryz.prog zG9:=zu zj zv6
def zB9:Un:=lpU 2 [11,12,13,14,17,18,19,20,21,22,23,24,25,4,15,16,5] ⟨[0,1,5],⟨[.hole,.hole,.hole],[],[1,1,2],[kJ,kJ,.int .i64]⟩⟩ [((.exit 0),⟨[],⟨[],[],[],[]⟩⟩),(.ret,⟨[4],⟨[.hole],[],[2],[.bool]⟩⟩)] (lp zby zi)
theorem zvP:UnA Tryz.prog zG9 (qT (zm Tryz.f123) [1,1,0,1,0]) zB9:=zaT .run zw zKu ob0
theorem zon:ShOk Tryz.prog gl 123 w90_c:=yL (.seq .run (.seq .run (.seq (.seq .run (.block (.unit zB9))) .run))) [.tmp 4] zj zw zv6 Tryz.func123 (ob1 zvP ob0)
def w91_c:ShC:=⟨⟨[.hole,.hole],[],[1,1],[kM,kJ]⟩,⟨[.hole],[],[2],[.int .i64]⟩,1,[],[],false,false,fun (x:(jS×jI))=>zfz x.1 x.2⟩
-- quaereref1.Heavy
theorem zxs:zL Tryz.prog (cond w91_c.glob gl fun _=>none) []:=zd
def zIm:=zcD tb gl zxs w91_c Tryz.f196
theorem zJ0:VAll Tryz.prog zIm:=zu zj zxs
def zCe:Un:=lpU 2 [7,8,9,10,13,14,15,16,17,18,19,5,20,21,22,23,24,25,26,27,28,29,5,11,12,6] ⟨[0,1,5,6],⟨[.hole,.hole,.hole,.hole],[],[1,1,2,2],[kM,kJ,.int .i64,.int .i64]⟩⟩ [((.exit 0),⟨[5],⟨[.hole],[],[2],[.int .i64]⟩⟩)] (lp za5 zi)
theorem zwB:UnA Tryz.prog zIm (qT (zm Tryz.f196) [1,1,0,1,0]) zCe:=zaT .run zw zJ0 ob0
theorem zF0:ShOk Tryz.prog gl 196 w91_c:=yL (.seq .run (.seq .run (.seq (.seq .run (.block (.unit zCe))) .run))) [.tmp 4] zj zw zxs Tryz.func196 (ob1 zwB ob0)
def w92_c:ShC:=⟨⟨[.hole,.hole],[],[1,1],[kJ,kJ]⟩,⟨[.hole],[],[2],[.bool]⟩,1,[],[],false,false,fun (x:(jI×jI))=>ziI x.1 x.2⟩
-- quaereref1.often
theorem zzp:zL Tryz.prog (cond w92_c.glob gl fun _=>none) []:=zd
def zA4:=zcD tb gl zzp w92_c Tryz.f197
theorem zEM:VAll Tryz.prog zA4:=zu zj zzp
def zDo:Un:=lpU 2 [28,29,30,31,34,35,36,37,38,39,40,41,42,6,32,33,8] ⟨[0,1,5,6,8],⟨[.hole,.hole,.hole,.hole,.hole],[],[1,1,2,2,2],[kJ,kJ,.int .i64,.int .i64,.int .i64]⟩⟩ [((.exit 4),⟨[6],⟨[.hole],[],[2],[.int .i64]⟩⟩)] (lp zaX zi)
theorem zzn:UnA Tryz.prog zA4 (qT (zm Tryz.f197) [1,0,1,0,0,1,0,0,1,1,0,1,0]) zDo:=zaT .run zw zEM ob0
def zDA:Un:=lpU 2 [13,14,15,16,19,20,21,22,23,24,25,26,27,6,17,18,7] ⟨[0,1,5,6,7],⟨[.hole,.hole,.hole,.hole,.hole],[],[1,1,2,2,2],[kJ,kJ,.int .i64,.int .i64,.int .i64]⟩⟩ [((.exit 2),⟨[6],⟨[.hole],[],[2],[.int .i64]⟩⟩)] (lp zaY zi)
theorem zx2:UnA Tryz.prog zA4 (qT (zm Tryz.f197) [1,0,1,0,0,1,0,0,1,0,1,0]) zDA:=zaT .run zw zEM ob0
def zBC:Un:=lpU 2 [9,10,6,7,13,14,15,16,19,20,21,22,23,24,25,26,27,6,17,18,7,8,28,29,30,31,34,35,36,37,38,39,40,41,42,6,32,33,8,43,44,4,11,12,5] ⟨[0,1,5],⟨[.hole,.hole,.hole],[],[1,1,2],[kJ,kJ,.int .i64]⟩⟩ [((.exit 0),⟨[],⟨[],[],[],[]⟩⟩),(.ret,⟨[4],⟨[.hole],[],[2],[.bool]⟩⟩)] (lp zbM zi)
theorem zxk:UnA Tryz.prog zA4 (qT (zm Tryz.f197) [1,0,1,0]) zBC:=zaT (.seq .run (.seq (.block (.seq .run (.seq (.seq .run (.block (.unit zDA))) (.seq (.seq .run (.block (.unit zDo))) .run)))) .run)) zw zEM (ob1 zx2 (ob1 zzn ob0))
theorem zHy:ShOk Tryz.prog gl 197 w92_c:=yL (.seq .run (.seq (.seq .run (.block (.unit zBC))) .run)) [.tmp 4] zj zw zzp Tryz.func197 (ob1 zxk ob0)
def w93_c:ShC:=⟨⟨[.hole,.hole,.hole],[],[1,1,1],[kM,kJ,.int .i64]⟩,⟨[.hole],[],[2],[.int .i64]⟩,1,[],[],false,false,fun (x:(jS×jI×Int))=>zgW x.1 x.2.1 x.2.2⟩
-- quaereref1.behind
theorem zy3:zL Tryz.prog (cond w93_c.glob gl fun _=>none) []:=zd
def zH2:=zcD tb gl zy3 w93_c Tryz.f155
theorem zJH:VAll Tryz.prog zH2:=zu zj zy3
def zDL:Un:=lpU 2 [10,11,12,13,7,14,15,16,17,18,19,20,21,22,23,24,25,26,27,28,7,29,30,8] ⟨[0,1,7,8],⟨[.hole,.hole,.hole,.hole],[],[1,1,2,2],[kM,kJ,.int .i64,.int .i64]⟩⟩ [((.exit 0),⟨[8],⟨[.hole],[],[2],[.int .i64]⟩⟩)] (lp zba zi)
theorem zwt:UnA Tryz.prog zH2 (qT (zm Tryz.f155) [1,1,0,0]) zDL:=zaT .run zw zJH ob0
theorem zIP:ShOk Tryz.prog gl 155 w93_c:=yL (.seq .run (.seq .run (.seq (.block (.unit zDL)) .run))) [.tmp 6] zj zw zy3 Tryz.func155 (ob1 zwt ob0)
def w94_c:ShC:=⟨⟨[.hole,.hole],[],[1,1],[kM,kJ]⟩,⟨[(.view 0)],[.seq false],[0],[kK]⟩,1,[],[],true,false,fun (x:(jS×jI))=>z1 x.1 x.2⟩
-- quaereref1.Parts
theorem zyz:zL Tryz.prog (cond w94_c.glob gl fun _=>none) [(155,.gen (qv [w93_c]))]:=(gd1 zIP zd)
def zFW:=zcD tb gl zyz w94_c Tryz.f92
theorem zKQ:VAll Tryz.prog zFW:=zu zj zyz
def zBI:Un:=lpU 2 [8,9,10,11,12,13,14,15,7,16,17,18,19,20,21,22,5,23,6] ⟨[0,1,5,6],⟨[.hole,.hole,(.view 0),.hole],[.seq false],[1,1,2,0],[kM,kJ,.int .i64,kK]⟩⟩ [((.exit 0),⟨[5],⟨[(.view 0)],[.seq false],[0],[kK]⟩⟩)] (lp zdl zi)
theorem zwg:UnA Tryz.prog zFW (qT (zm Tryz.f92) [1,1,1,0,0]) zBI:=zaT .run zw zKQ ob0
theorem zts:ShOk Tryz.prog gl 92 w94_c:=yL (.seq .run (.seq .run (.seq .run (.seq (.block (.unit zBI)) .run)))) [.tmp 4] zj zw zyz Tryz.func92 (ob1 zwg ob0)
def zqi (k:Nat):ShC:=⟨⟨[.hole,.hole,.hole],[],[1,1,1],[kM,kJ,kJ]⟩,⟨[.hole],[],[2],[.bool]⟩,1,[],[],false,false,(zeE k)⟩
def zJj:ShC:=⟨⟨[.hole,.hole,.hole],[],[1,1,1],[kM,kJ,kJ]⟩,⟨[.hole],[],[2],[.bool]⟩,1,[],[],false,false,fun (x:(jS×jI×jI))=>zkD x.1 x.2.1 x.2.2⟩
def zmS (k:Nat):Prop:=ShOk Tryz.prog gl 156 (zqi k)
-- quaereref1.More
def zH6 (k:Nat):List (Nat×Con):=[(92,.gen (qv [w94_c])),(123,.gen (qv [w90_c])),(156,.gen (qv [zqi k])),(196,.gen (qv [w91_c])),(197,.gen (qv [w92_c]))]
theorem zCI (k:Nat) (h:zmS k):zL Tryz.prog (cond (zqi (k+1)).glob gl fun _=>none) (zH6 k):=(gd1 zts (gd1 zon (gd1 h (gd1 zF0 (gd1 zHy zd)))))
def zHY (k:Nat):Env:=zhi tb gl (zH6 k) (zqi (k+1)) Tryz.f156.ntmps
theorem zJR (k:Nat) (h:zmS k):VAll Tryz.prog (zHY k):=zu zj (zCI k h)
def zC8 (k:Nat):Un:=lpU 2 [59,60,61,62,65,66,67,68,69,70,71,72,73,74,75,76,77,78,79,80,81,82,83,84,6,63,64,11] ⟨[0,9,10,11],⟨[.hole,.hole,.hole,.hole],[],[1,0,0,2],[kM,kK,kK,.int .i64]⟩⟩ [((.exit 0),⟨[],⟨[],[],[],[]⟩⟩),(.ret,⟨[6],⟨[.hole],[],[2],[.bool]⟩⟩)] (lp (zbt (zeE k)) zi)
theorem zzD (k:Nat) (h:zmS k):UnA Tryz.prog (zHY k) (qT (zm Tryz.f156) [1,1,1,1,1,0,1,0]) (zC8 k):=zaT .run zw (zJR k h) ob0
theorem zDS (k:Nat) (h:zmS k):ShOk Tryz.prog gl 156 (zqi (k+1)):=yL (.seq .run (.seq .run (.seq .run (.seq .run (.seq .run (.seq (.seq .run (.block (.unit (zC8 k)))) .run)))))) [.tmp 6] zj zw (zCI k h) Tryz.func156 (ob1 (zzD k h) ob0)
theorem zrj:∀ k,zmS k
 | 0=>zlH (by kernel_rfl) fun _=>rfl
 | k+1=>have h:=zrj k; zDS k h
theorem zG7:ShOk Tryz.prog gl 156 zJj:=(zrj zi)
def zJK:ShC:=⟨⟨[.hole,.hole,.hole],[],[1,1,1],[kM,kJ,kJ]⟩,⟨[.hole],[],[2],[.int .i64]⟩,1,[],[],false,false,fun (x:(jS×jI×jI))=>zfB x.1 x.2.1 x.2.2⟩
-- quaereref1.Which
theorem zHc:ShOk Tryz.prog gl 95 zJK:=yL .run [.tmp 6] zj zw (gd1 zon (gd1 zG7 zd)) Tryz.func95 ob0
def zF1:ShC:=⟨⟨[.hole,(.agg [.hole,.hole]),(.agg [.hole,.hole])],[],[1,1,1,1,1],[kM,.bool,kJ,.bool,kJ]⟩,⟨[.hole],[],[2],[.int .i64]⟩,1,[],[],false,false,fun (x:(jS×Bool×jI×Bool×jI))=>zet x.1 x.2.1 x.2.2.1 x.2.2.2.1 x.2.2.2.2⟩
-- quaereref8.which
theorem zGB:ShOk Tryz.prog gl 147 zF1:=yL .run [.tmp 6] zj zw (gd1 zHc zd) Tryz.func147 ob0
def w98_c:ShC:=⟨⟨[.hole,.hole,.hole],[],[1,1,1],[kM,kL,.int .i64]⟩,⟨[.hole],[],[2],[.bool]⟩,1,[],[],false,false,fun (x:(jS×jQ×Int))=>ziP x.1 x.2.1 x.2.2⟩
-- quaereref8.Top
theorem zyh:zL Tryz.prog (cond w98_c.glob gl fun _=>none) [(147,.gen (qv [zF1]))]:=(gd1 zGB zd)
def zGu:=zcD tb gl zyh w98_c Tryz.f80
theorem zKM:VAll Tryz.prog zGu:=zu zj zyh
def zBT:Un:=lpU 2 [8,9,10,11,14,15,16,17,18,19,20,21,22,23,24,6,12,13,7] ⟨[0,1,2,7],⟨[.hole,.hole,.hole,.hole],[],[1,1,2,2],[kM,kL,.int .i64,.int .i64]⟩⟩ [((.exit 0),⟨[],⟨[],[],[],[]⟩⟩),(.ret,⟨[6],⟨[.hole],[],[2],[.bool]⟩⟩)] (lp zcn zi)
theorem zwz:UnA Tryz.prog zGu (qT (zm Tryz.f80) [1,0,1,0]) zBT:=zaT .run zw zKM ob0
theorem zGj:ShOk Tryz.prog gl 80 w98_c:=yL (.seq .run (.seq (.seq .run (.block (.unit zBT))) .run)) [.tmp 6] zj zw zyh Tryz.func80 (ob1 zwz ob0)
def zJr:ShC:=⟨⟨[(.agg [.hole,.hole,.hole]),.hole],[],[1,1,1,1],[kL,kK,kL,.int .i64]⟩,⟨[.hole],[],[2],[.bool]⟩,1,[],[],false,false,fun (x:(jQ×jR×jQ×Int))=>zeI x.1 x.2.1 x.2.2.1 x.2.2.2⟩
-- quaereref13.there
theorem zGL:ShOk Tryz.prog gl 71 zJr:=yL .run [.tmp 4] zj zw zd Tryz.func71 ob0
def w100_c:ShC:=⟨⟨[(.ptr 0 0),.hole],[.cells true [.hole]],[1,1],[kJ,.ar kR 48]⟩,⟨[.hole],[],[1],[kJ]⟩,1,[],[],true,false,fun (x:(jI×jR))=>zco x.1 x.2⟩
-- (*quaereref1.store).walk
theorem zrI:zL Tryz.prog (cond w100_c.glob gl fun _=>none) []:=zd
def zCR:=zcD tb gl zrI w100_c Tryz.f214
theorem zGE:VAll Tryz.prog zCR:=zu zj zrI
def zxr:Un:=lpU 2 [5,6,7,8,9,10,11,12,13,14,15,16,17,18,19,20,21,22,23,24,25,26,27,28,29,30,31,32,33,34,35,1] ⟨[0,1],⟨[(.ptr 0 0),.hole],[.cells true [.hole]],[1,1],[kJ,.ar kR 48]⟩⟩ [((.exit 0),⟨[1],⟨[.hole],[],[1],[kJ]⟩⟩)] (lp za2 zi)
theorem zuf:UnA Tryz.prog zCR (qT (zm Tryz.f214) [1,0,0]) zxr:=zaT .run zw zGE ob0
theorem zEw:ShOk Tryz.prog gl 214 w100_c:=yL (.seq .run (.seq (.block (.unit zxr)) .run)) [.tmp 4] zj zw zrI Tryz.func214 (ob1 zuf ob0)
def zng (k:Nat):ShC:=⟨⟨[(.ptr 0 0),.hole,.hole],[.cells true [.hole]],[1,1,1],[.int .i64,kJ,.ar kR 48]⟩,⟨[.hole],[],[2],[.bool]⟩,1,[],[],false,false,(yT k)⟩
def zIh:ShC:=⟨⟨[(.ptr 0 0),.hole,.hole],[.cells true [.hole]],[1,1,1],[.int .i64,kJ,.ar kR 48]⟩,⟨[.hole],[],[2],[.bool]⟩,1,[],[],false,false,fun (x:(Int×jI×jR))=>zdD x.1 x.2.1 x.2.2⟩
def zk0 (k:Nat):Prop:=ShOk Tryz.prog gl 227 (zng k)
-- (*quaereref1.store).inside
def zCr (k:Nat):List (Nat×Con):=[(227,.gen (qv [zng k]))]
theorem zv5 (k:Nat) (h:zk0 k):zL Tryz.prog (cond (zng (k+1)).glob gl fun _=>none) (zCr k):=(gd1 h zd)
def zDc (k:Nat):Env:=zhi tb gl (zCr k) (zng (k+1)) Tryz.f227.ntmps
theorem zFN (k:Nat) (h:zk0 k):VAll Tryz.prog (zDc k):=zu zj (zv5 k h)
def zxM (k:Nat):Un:=lpU 2 [9,10,11,12,15,16,17,18,19,20,21,22,23,24,8,25,26,27,28,29,30,31,32,33,34,35,36,37,38,39,40,41,42,43,44,45,46,47,48,6,13,14,7] ⟨[0,1,2,7],⟨[(.ptr 0 0),.hole,.hole,.hole],[.cells true [.hole]],[2,1,2,1],[.int .i64,kJ,.int .i64,.ar kR 48]⟩⟩ [((.exit 0),⟨[],⟨[],[],[],[]⟩⟩),(.ret,⟨[6],⟨[.hole],[],[2],[.bool]⟩⟩)] (lp (yb (yT k)) zi)
theorem ztY (k:Nat) (h:zk0 k):UnA Tryz.prog (zDc k) (qT (zm Tryz.f227) [1,0,1,0]) (zxM k):=zaT .run zw (zFN k h) ob0
theorem zAU (k:Nat) (h:zk0 k):ShOk Tryz.prog gl 227 (zng (k+1)):=yL (.seq .run (.seq (.seq .run (.block (.unit (zxM k)))) .run)) [.tmp 6] zj zw (zv5 k h) Tryz.func227 (ob1 (ztY k h) ob0)
theorem zoK:∀ k,zk0 k
 | 0=>zlH (by kernel_rfl) fun _=>rfl
 | k+1=>have h:=zoK k; zAU k h
theorem zEV:ShOk Tryz.prog gl 227 zIh:=(zoK zi)
def zHQ:ShC:=⟨⟨[(.ptr 0 0),.hole,.hole,.hole],[.cells false [.hole]],[1,1,1,1],[kJ,kJ,.bool,.ar kR 48]⟩,⟨[.hole,(.ptr 0 0)],[.cells false [.hole]],[2,1],[.bool,.ar kR 48]⟩,1,[0],[(0,0)],true,false,fun (x:(jI×jI×Bool×jR))=>zA x.1 x.2.1 x.2.2.1 x.2.2.2⟩
-- (*quaereref1.store).pair1
theorem zE2:ShOk Tryz.prog gl 215 zHQ:=yL .run [.tmp 8] zj zw (gd1 zEV zd) Tryz.func215 ob0
def zr1 (k:Nat):ShC:=⟨⟨[(.ptr 0 0),.hole,.hole,.hole],[.cells false [.hole]],[1,1,1,1],[kM,kJ,kJ,.ar kR 48]⟩,⟨[.hole,(.ptr 0 0)],[.cells false [.hole]],[2,0],[.bool,.ar kR 48]⟩,1,[0],[(0,0)],true,false,(zG k).1⟩
def zI4:ShC:=⟨⟨[(.ptr 0 0),.hole,.hole,.hole],[.cells false [.hole]],[1,1,1,1],[kM,kJ,kJ,.ar kR 48]⟩,⟨[.hole,(.ptr 0 0)],[.cells false [.hole]],[2,0],[.bool,.ar kR 48]⟩,1,[0],[(0,0)],true,false,fun (x:(jS×jI×jI×jR))=>zlG x.1 x.2.1 x.2.2.1 x.2.2.2⟩
def zpw (k:Nat):ShC:=⟨⟨[(.ptr 0 0),.hole,.hole,.hole],[.cells false [.hole]],[1,1,1,1],[kM,kK,kK,.ar kR 48]⟩,⟨[.hole,(.ptr 0 0)],[.cells false [.hole]],[2,0],[.bool,.ar kR 48]⟩,1,[0],[(0,0)],true,false,(zG k).2⟩
def zBA:ShC:=⟨⟨[(.ptr 0 0),.hole,.hole,.hole],[.cells false [.hole]],[1,1,1,1],[kM,kK,kK,.ar kR 48]⟩,⟨[.hole,(.ptr 0 0)],[.cells false [.hole]],[2,0],[.bool,.ar kR 48]⟩,1,[0],[(0,0)],true,false,fun (x:(jS×jR×jR×jR))=>zd8 x.1 x.2.1 x.2.2.1 x.2.2.2⟩
def ziS (k:Nat):Prop:=ShOk Tryz.prog gl 187 (zr1 k)∧ShOk Tryz.prog gl 137 (zpw k)
-- (*quaereref1.store).pair
theorem zAv (k:Nat) (h:ziS k):ShOk Tryz.prog gl 187 (zr1 (k+1)):=yL .run [.tmp 8] zj zw (gd1 zts (gd1 zon (gd1 h.2 (gd1 zEw (gd1 zE2 zd))))) Tryz.func187 ob0
-- (*quaereref1.store).all
def zDa (k:Nat):List (Nat×Con):=[(187,.gen (qv [zr1 k]))]
theorem zvr (k:Nat) (h:ziS k):zL Tryz.prog (cond (zpw (k+1)).glob gl fun _=>none) (zDa k):=(gd1 h.1 zd)
def zCg (k:Nat):Env:=zhi tb gl (zDa k) (zpw (k+1)) Tryz.f137.ntmps
theorem zHE (k:Nat) (h:ziS k):VAll Tryz.prog (zCg k):=zu zj (zvr k h)
def zzc (k:Nat):Un:=lpU 2 [10,11,12,13,16,17,18,19,20,21,22,23,24,25,26,27,8,14,15,9] ⟨[0,1,2,3,9],⟨[(.ptr 0 0),.hole,.hole,.hole,.hole],[.cells false [.hole]],[1,1,1,2,0],[kM,kK,kK,.int .i64,.ar kR 48]⟩⟩ [((.exit 0),⟨[0],⟨[(.ptr 0 0)],[.cells false [.hole]],[0],[.ar kR 48]⟩⟩),(.ret,⟨[0,8],⟨[(.ptr 0 0),.hole],[.cells false [.hole]],[2,0],[.bool,.ar kR 48]⟩⟩)] (lp (yx (zG k)) zi)
theorem zt0 (k:Nat) (h:ziS k):UnA Tryz.prog (zCg k) (qT (zm Tryz.f137) [1,0,1,0]) (zzc k):=zaT .run zw (zHE k h) ob0
theorem zAI (k:Nat) (h:ziS k):ShOk Tryz.prog gl 137 (zpw (k+1)):=yL (.seq .run (.seq (.seq .run (.block (.unit (zzc k)))) .run)) [.tmp 8] zj zw (zvr k h) Tryz.func137 (ob1 (zt0 k h) ob0)
theorem zlx:∀ k,ziS k
 | 0=>⟨(zlH (by kernel_rfl) fun _=>rfl),(zlH (by kernel_rfl) fun _=>rfl)⟩
 | k+1=>have h:=zlx k; ⟨zAv k h,zAI k h⟩
theorem zKh:ShOk Tryz.prog gl 187 zI4:=(zlx zi).1
theorem zEZ:ShOk Tryz.prog gl 137 zBA:=(zlx zi).2
def zmR (k:Nat):ShC:=⟨⟨[(.ptr 0 0),(.view 1),.hole],[.cells true [.hole],.seq false],[1,1,1],[kJ,.ar kR 48,kJ]⟩,⟨[(.view 0)],[.seq false],[0],[kJ]⟩,1,[],[],true,false,(yu k)⟩
def zCs:ShC:=⟨⟨[(.ptr 0 0),(.view 1),.hole],[.cells true [.hole],.seq false],[1,1,1],[kJ,.ar kR 48,kJ]⟩,⟨[(.view 0)],[.seq false],[0],[kJ]⟩,1,[],[],true,false,fun (x:(jI×jR×jI))=>zct x.1 x.2.1 x.2.2⟩
def zkd (k:Nat):Prop:=ShOk Tryz.prog gl 138 (zmR k)
-- (*quaereref1.store).full
def zBX (k:Nat):List (Nat×Con):=[(138,.gen (qv [zmR k]))]
theorem zxX (k:Nat) (h:zkd k):zL Tryz.prog (cond (zmR (k+1)).glob gl fun _=>none) (zBX k):=(gd1 h zd)
def zDK (k:Nat):Env:=zhi tb gl (zBX k) (zmR (k+1)) Tryz.f138.ntmps
theorem zGm (k:Nat) (h:zkd k):VAll Tryz.prog (zDK k):=zu zj (zxX k h)
def zwl (k:Nat):Un:=lpU 2 [8,9,10,11,12,13,14,15,16,19,20,21,22,23,24,25,26,27,28,29,30,31,32,33,34,35,36,37,38,39,40,41,42,43,44,45,46,47,48,49,50,1,51,52,53,54,55,56,57,1,17,18,7] ⟨[0,1,2,7],⟨[(.ptr 0 0),(.view 1),.hole,.hole],[.cells true [.hole],.seq false],[1,2,1,0],[kJ,.int .i64,.ar kR 48,kJ]⟩⟩ [((.exit 0),⟨[1],⟨[(.view 0)],[.seq false],[0],[kJ]⟩⟩)] (lp (ya (yu k)) zi)
theorem zuo (k:Nat) (h:zkd k):UnA Tryz.prog (zDK k) (qT (zm Tryz.f138) [1,0,1,0]) (zwl k):=zaT .run zw (zGm k h) ob0
theorem zAC (k:Nat) (h:zkd k):ShOk Tryz.prog gl 138 (zmR (k+1)):=yL (.seq .run (.seq (.seq .run (.block (.unit (zwl k)))) .run)) [.tmp 6] zj zw (zxX k h) Tryz.func138 (ob1 (zuo k h) ob0)
theorem zou:∀ k,zkd k
 | 0=>zlH (by kernel_rfl) fun _=>rfl
 | k+1=>have h:=zou k; zAC k h
theorem zE8:ShOk Tryz.prog gl 138 zCs:=(zou zi)
def w106_c:ShC:=⟨⟨[.hole,.hole,.hole],[],[1,1,1],[kM,kJ,kJ]⟩,⟨[(.view 0),.hole,.hole],[.seq false],[2,2,0],[.bool,.bool,.sl (.cons kZ kR)]⟩,3,[],[],true,false,fun (x:(jS×jI×jI))=>zc9 x.1 x.2.1 x.2.2⟩
-- quaereref1.Together
theorem zsw:zL Tryz.prog (cond w106_c.glob gl fun _=>none) [(92,.gen (qv [w94_c])),(137,.gen (qv [zBA])),(138,.gen (qv [zCs]))]:=(gd1 zts (gd1 zEZ (gd1 zE8 zd)))
def zBJ:=zcD tb gl zsw w106_c Tryz.f72
theorem zHe:VAll Tryz.prog zBJ:=zu zj zsw
def zvC:Un:=lpU 2 [36,37,40,41,42,43,44,45,46,47,48,49,50,51,52,53,54,55,14,56,57,58,6,7,8,59,60,61,62,63,64,12,38,39,13] ⟨[11,12,13],⟨[(.ptr 0 0),(.view 1),.hole],[.cells true [.hole],.seq false],[2,0,0],[.int .i64,.ar kR 48,.sl (.cons kZ kR)]⟩⟩ [((.exit 0),⟨[12],⟨[(.view 0)],[.seq false],[0],[.sl (.cons kZ kR)]⟩⟩),(.ret,⟨[6,7,8],⟨[.nilv,.hole,.hole],[],[2,2],[.bool,.bool]⟩⟩)] (lp zaq zi)
theorem zu8:UnA Tryz.prog zBJ (qT (zm Tryz.f72) [1,1,1,1,1,0,1,0]) zvC:=zaT .run zw zHe ob0
theorem zFB:ShOk Tryz.prog gl 72 w106_c:=yL (.seq .run (.seq .run (.seq .run (.seq .run (.seq .run (.seq (.seq .run (.block (.unit zvC))) .run)))))) [.tmp 6,.tmp 7,.tmp 8] zj zw zsw Tryz.func72 (ob1 zu8 ob0)
def zF6:ShC:=⟨⟨[.hole,.hole],[],[1,1],[kL,.int .i64]⟩,⟨[(.view 0)],[.seq false],[0],[kL]⟩,1,[],[],true,false,fun (x:(jQ×Int))=>zer x.1 x.2⟩
-- quaereref13.without
theorem zEs:ShOk Tryz.prog gl 74 zF6:=yL .run [.tmp 4] zj zw zd Tryz.func74 ob0
def w108_c:ShC:=⟨⟨[.hole,.hole],[],[1,1],[.sl (.cons kZ kR),.int .i64]⟩,⟨[.hole],[],[2],[.int .i64]⟩,1,[],[],false,false,fun (x:((List (Int×jI))×Int))=>zjm x.1 x.2⟩
-- quaereref1.Of
theorem zsC:zL Tryz.prog (cond w108_c.glob gl fun _=>none) []:=zd
def zCw:=zcD tb gl zsC w108_c Tryz.f124
theorem zGt:VAll Tryz.prog zCw:=zu zj zsC
def zyZ:Un:=lpU 2 [6,7,8,9,12,13,14,15,16,17,18,19,4,10,11,5] ⟨[0,1,5],⟨[.hole,.hole,.hole],[],[1,2,2],[.sl (.cons kZ kR),.int .i64,.int .i64]⟩⟩ [((.exit 0),⟨[],⟨[],[],[],[]⟩⟩),(.ret,⟨[4],⟨[.hole],[],[2],[.int .i64]⟩⟩)] (lp zc0 zi)
theorem zu7:UnA Tryz.prog zCw (qT (zm Tryz.f124) [1,0,1,0]) zyZ:=zaT .run zw zGt ob0
theorem zw3:ShOk Tryz.prog gl 124 w108_c:=yL (.seq .run (.seq (.seq .run (.block (.unit zyZ))) .run)) [.tmp 4] zj zw zsC Tryz.func124 (ob1 zu7 ob0)
def w109_c:ShC:=⟨⟨[.hole,.hole],[],[1,1],[.sl (.cons kZ kR),kJ]⟩,⟨[(.view 0)],[.seq false],[2],[kJ]⟩,1,[],[],false,false,fun (x:((List (Int×jI))×jI))=>zef x.1 x.2⟩
-- quaereref1.Put
theorem zr4:zL Tryz.prog (cond w109_c.glob gl fun _=>none) [(124,.gen (qv [w108_c]))]:=(gd1 zw3 zd)
def zBY:=zcD tb gl zr4 w109_c Tryz.f94
theorem zHT:VAll Tryz.prog zBY:=zu zj zr4
def zv3:Un:=lpU 2 [8,9,10,11,7,14,15,16,17,18,19,20,21,22,23,24,25,7,26,27,28,29,30,31,32,33,34,5,35,36,37,38,39,40,41,5,12,13,6] ⟨[0,1,5,6],⟨[.hole,.hole,(.view 0),.hole],[.seq false],[1,1,2,2],[.sl (.cons kZ kR),kJ,.int .i64,kJ]⟩⟩ [((.exit 0),⟨[5],⟨[(.view 0)],[.seq false],[2],[kJ]⟩⟩)] (lp zb9 zi)
theorem zvf:UnA Tryz.prog zBY (qT (zm Tryz.f94) [1,1,0,1,0]) zv3:=zaT .run zw zHT ob0
theorem zFC:ShOk Tryz.prog gl 94 w109_c:=yL (.seq .run (.seq .run (.seq (.seq .run (.block (.unit zv3))) .run))) [.tmp 4] zj zw zr4 Tryz.func94 (ob1 zvf ob0)
def w110_c:ShC:=⟨⟨[.hole,(.agg [.hole,.hole,.hole])],[],[1,1,1,1],[.sl (.cons kZ kR),kL,kK,kL]⟩,⟨[(.agg [.hole,.hole,(.view 0)])],[.seq false],[2,2,2],[kL,kK,kL]⟩,1,[],[],false,false,fun (x:((List (Int×jI))×jQ×jR×jQ))=>zf0 x.1 x.2.1 x.2.2.1 x.2.2.2⟩
-- quaereref8.Copy
theorem zsi:zL Tryz.prog (cond w110_c.glob gl fun _=>none) [(94,.gen (qv [w109_c]))]:=(gd1 zFC zd)
def zs2:=zcD tb gl zsi w110_c Tryz.f125
theorem zz8:VAll Tryz.prog zs2:=zu zj zsi
def zy1:Un:=lpU 2 [55,56,57,58,59,62,63,64,65,66,67,68,69,70,71,72,73,74,75,76,77,78,79,80,81,60,61,8] ⟨[0,3,4,5,8],⟨[.hole,(.ptr 0 0),(.ptr 1 0),(.ptr 2 0),.hole],[.cells true [.hole,.hole,.hole],.cells true [.nilv,.nilv,.nilv],.cells false [.hole,.hole,(.view 3)],.seq false],[1,2,1,1,1,2,2,2],[.sl (.cons kZ kR),.int .i64,kL,kK,kL,kL,kK,kL]⟩⟩ [((.exit 4),⟨[5],⟨[(.ptr 0 0)],[.cells false [.hole,.hole,(.view 1)],.seq false],[2,2,2],[kL,kK,kL]⟩⟩)] (lp zbH zi)
theorem zuV:UnA Tryz.prog zs2 (qT (zm Tryz.f125) [1,1,1,1,0,1,0]) zy1:=zaT .run zw zz8 ob0
def zzm:Un:=lpU 2 [36,37,38,39,40,43,44,45,46,47,48,49,50,51,52,53,54,41,42,7] ⟨[0,3,4,5,7],⟨[.hole,(.ptr 0 0),(.ptr 1 0),(.ptr 2 0),.hole],[.cells true [.hole,.hole,.hole],.cells true [.nilv,.nilv,.nilv],.cells false [.hole,(.view 3),.nilv],.seq false],[1,2,1,1,1,2,2],[.sl (.cons kZ kR),.int .i64,kL,kK,kL,kL,kK]⟩⟩ [((.exit 2),⟨[5],⟨[(.ptr 0 0)],[.cells false [.hole,(.view 1),.nilv],.seq false],[2,2],[kL,kK]⟩⟩)] (lp zbx zi)
theorem zuY:UnA Tryz.prog zs2 (qT (zm Tryz.f125) [1,1,1,0,1,0]) zzm:=zaT .run zw zz8 ob0
def zzf:Un:=lpU 2 [9,10,11,12,13,16,17,18,19,20,21,22,23,24,25,26,27,28,29,30,31,32,33,34,35,14,15,6] ⟨[0,3,4,5,6],⟨[.hole,(.ptr 0 0),(.ptr 1 0),(.ptr 2 0),.hole],[.cells true [.hole,.hole,.hole],.cells true [.nilv,.nilv,.nilv],.cells false [(.view 3),.nilv,.nilv],.seq false],[1,2,1,1,1,2],[.sl (.cons kZ kR),.int .i64,kL,kK,kL,kL]⟩⟩ [((.exit 0),⟨[5],⟨[(.ptr 0 0)],[.cells false [(.view 1),.nilv,.nilv],.seq false],[2],[kL]⟩⟩)] (lp zbw zi)
theorem zuN:UnA Tryz.prog zs2 (qT (zm Tryz.f125) [1,1,0,1,0]) zzf:=zaT .run zw zz8 ob0
theorem zwq:ShOk Tryz.prog gl 125 w110_c:=yL (.seq .run (.seq .run (.seq (.seq .run (.block (.unit zzf))) (.seq (.seq .run (.block (.unit zzm))) (.seq (.seq .run (.block (.unit zy1))) .run))))) [.cell 4 29] zj zw zsi Tryz.func125 (ob1 zuN (ob1 zuY (ob1 zuV ob0)))
def zCU:ShC:=⟨⟨[(.agg [.hole,.hole]),(.agg [.hole,.hole])],[],[1,1,1,1],[.bool,kJ,.bool,kJ]⟩,⟨[.hole],[],[2],[.bool]⟩,1,[],[],false,false,fun (x:(Bool×jI×Bool×jI))=>zdR x.1 x.2.1 x.2.2.1 x.2.2.2⟩
-- quaereref8.SameLit
theorem zFe:ShOk Tryz.prog gl 174 zCU:=yL .run [.tmp 4] zj zw (gd1 zon zd) Tryz.func174 ob0
def w112_c:ShC:=⟨⟨[.hole],[],[1],[kL]⟩,⟨[(.view 0)],[.seq false],[0],[kL]⟩,1,[],[],true,false,fun (x:jQ)=>zhZ x⟩
-- quaereref8.lits
theorem zrV:zL Tryz.prog (cond w112_c.glob gl fun _=>none) [(174,.gen (qv [zCU]))]:=(gd1 zFe zd)
def zxx:=zcD tb gl zrV w112_c Tryz.f122
theorem zDi:VAll Tryz.prog zxx:=zu zj zrV
def zxL:Un:=lpU 2 [13,14,15,16,19,20,21,22,23,24,25,26,27,28,29,30,5,17,18,6] ⟨[0,3,4,5,6],⟨[.hole,(.view 0),.hole,.hole,.hole],[.seq false],[1,2,2,2,0],[kL,.int .i64,.bool,.int .i64,kL]⟩⟩ [((.exit 2),⟨[3,5],⟨[(.view 0),.hole],[.seq false],[2,0],[.bool,kL]⟩⟩)] (lp za4 zi)
theorem zuR:UnA Tryz.prog zxx (qT (zm Tryz.f122) [1,1,0,1,0,0,1,0,0,1,0,1,0]) zxL:=zaT .run zw zDi ob0
def zyr:Un:=lpU 2 [7,8,9,10,5,6,13,14,15,16,19,20,21,22,23,24,25,26,27,28,29,30,5,17,18,6,31,32,33,34,35,36,37,38,39,3,11,12,4] ⟨[0,3,4],⟨[.hole,(.view 0),.hole],[.seq false],[1,2,0],[kL,.int .i64,kL]⟩⟩ [((.exit 0),⟨[3],⟨[(.view 0)],[.seq false],[0],[kL]⟩⟩)] (lp zbG zi)
theorem zue:UnA Tryz.prog zxx (qT (zm Tryz.f122) [1,1,0,1,0]) zyr:=zaT (.seq .run (.seq (.block (.seq .run (.seq (.seq .run (.block (.unit zxL))) .run))) .run)) zw zDi (ob1 zuR ob0)
theorem zDY:ShOk Tryz.prog gl 122 w112_c:=yL (.seq .run (.seq .run (.seq (.seq .run (.block (.unit zyr))) .run))) [.tmp 2] zj zw zrV Tryz.func122 (ob1 zue ob0)
def w113_c:ShC:=⟨⟨[(.agg [.hole,.hole,.hole])],[],[1,1,1],[kL,kK,kL]⟩,⟨[(.agg [.hole,.hole,(.view 0)])],[.seq false],[2,2,2],[kL,kK,kL]⟩,1,[],[],false,false,fun (x:(jQ×jR×jQ))=>zkg x.1 x.2.1 x.2.2⟩
-- quaereref8.Norm
theorem zsT:zL Tryz.prog (cond w113_c.glob gl fun _=>none) [(121,.gen (qv [w88_c])),(122,.gen (qv [w112_c])),(123,.gen (qv [w90_c])),(124,.gen (qv [w108_c])),(125,.gen (qv [w110_c]))]:=(gd1 zC7 (gd1 zDY (gd1 zon (gd1 zw3 (gd1 zwq zd)))))
def zqk:=zcD tb gl zsT w113_c Tryz.f61
theorem zs8:VAll Tryz.prog zqk:=zu zj zsT
def zzO:Un:=lpU 2 [67,68,69,70,71,72,73,76,77,78,79,80,81,82,11,83,84,85,86,87,88,89,90,91,92,93,94,95,96,97,98,99,100,101,7,74,75,10] ⟨[2,3,7,8,9,10],⟨[(.ptr 0 0),(.ptr 1 0),(.view 2),.hole,.hole,.hole],[.cells true [.nilv,.nilv,.nilv],.cells true [.hole,.hole,.hole],.seq false],[0,2,2,0,0,0,2],[kK,.int .i64,.int .i64,kL,kK,kL,.sl (.cons kZ kR)]⟩⟩ [((.exit 6),⟨[7],⟨[(.view 0)],[.seq false],[2],[.sl (.cons kZ kR)]⟩⟩)] (lp zbs zi)
theorem zuM:UnA Tryz.prog zqk (qT (zm Tryz.f61) [1,1,1,1,1,0,1,0,0,1,0,0,1,0]) zzO:=zaT .run zw zs8 ob0
def zzg:Un:=lpU 2 [26,27,28,29,30,33,34,35,36,37,38,39,40,41,42,43,44,45,46,5,31,32,6] ⟨[1,2,3,4,5,6],⟨[(.ptr 0 0),(.ptr 1 0),(.ptr 2 0),.hole,.hole,.hole],[.cells true [.hole,.hole,.hole],.cells true [.nilv,.nilv,.nilv],.cells false [.hole,(.view 3),.hole],.seq false],[2,2,2,1,1,1,0,0,0],[.int .i64,.bool,.int .i64,kL,kK,kL,kL,kL,kK]⟩⟩ [((.exit 2),⟨[3,5],⟨[(.ptr 0 0),.hole],[.cells false [.hole,(.view 1),.hole],.seq false],[2,0,0,0],[.bool,kL,kL,kK]⟩⟩)] (lp zaZ zi)
theorem zuv:UnA Tryz.prog zqk (qT (zm Tryz.f61) [1,1,0,1,0,0,1,0,0,1,0,1,0]) zzg:=zaT .run zw zs8 ob0
def zvA:Un:=lpU 2 [61,62,63,64,10,67,68,69,70,71,72,73,76,77,78,79,80,81,82,11,83,84,85,86,87,88,89,90,91,92,93,94,95,96,97,98,99,100,101,7,74,75,10,65,66,9] ⟨[2,3,7,8,9],⟨[(.ptr 0 0),(.ptr 1 0),(.view 2),.hole,.hole],[.cells true [.nilv,.nilv,.nilv],.cells true [.hole,.hole,.hole],.seq false],[0,2,0,0,0,2],[kK,.int .i64,kL,kK,kL,.sl (.cons kZ kR)]⟩⟩ [((.exit 4),⟨[7],⟨[(.view 0)],[.seq false],[2],[.sl (.cons kZ kR)]⟩⟩)] (lp zbE zi)
theorem zuy:UnA Tryz.prog zqk (qT (zm Tryz.f61) [1,1,1,1,1,0,1,0]) zvA:=zaT (.seq .run (.seq (.block (.seq .run (.block (.unit zzO)))) .run)) zw zs8 (ob1 zuM ob0)
def zzj:Un:=lpU 2 [19,20,21,22,23,5,6,26,27,28,29,30,33,34,35,36,37,38,39,40,41,42,43,44,45,46,5,31,32,6,47,48,49,50,51,52,53,54,55,56,57,58,24,25,4] ⟨[1,2,3,4],⟨[(.ptr 0 0),(.ptr 1 0),(.ptr 2 0),.hole],[.cells true [.hole,.hole,.hole],.cells true [.nilv,.nilv,.nilv],.cells false [.hole,(.view 3),.hole],.seq false],[2,1,1,1,0,0,0],[.int .i64,kL,kK,kL,kL,kL,kK]⟩⟩ [((.exit 0),⟨[3],⟨[(.ptr 0 0)],[.cells false [.hole,(.view 1),.hole],.seq false],[0,0,0],[kL,kL,kK]⟩⟩)] (lp zbA zi)
theorem zuK:UnA Tryz.prog zqk (qT (zm Tryz.f61) [1,1,0,1,0]) zzj:=zaT (.seq .run (.seq (.block (.seq .run (.seq (.seq .run (.block (.unit zzg))) .run))) .run)) zw zs8 (ob1 zuv ob0)
theorem zEX:ShOk Tryz.prog gl 61 w113_c:=yL (.seq .run (.seq .run (.seq (.seq .run (.block (.unit zzj))) (.seq .run (.seq .run (.seq (.seq .run (.block (.unit zvA))) .run)))))) [.cell 2 29] zj zw zsT Tryz.func61 (ob1 zuK (ob1 zuy ob0))
def zIR:ShC:=⟨⟨[.hole,.hole,(.agg [.hole,.hole,.hole])],[],[1,1,1,1,1],[kM,.sl (.cons kZ kR),kL,kK,kL]⟩,⟨[(.agg [.hole,.hole,(.view 0)]),.hole],[.seq false],[2,2,2,2],[kL,kK,.bool,kL]⟩,2,[],[],false,false,fun (x:(jS×(List (Int×jI))×jQ×jR×jQ))=>ziC x.1 x.2.1 x.2.2.1 x.2.2.2.1 x.2.2.2.2⟩
-- quaereref13.done
theorem zEx:ShOk Tryz.prog gl 73 zIR:=yL .run [.cell 6 29,.tmp 7] zj zw (gd1 zzQ (gd1 zEX (gd1 zwq zd))) Tryz.func73 ob0
def zB8:ShC:=⟨⟨[.hole,(.agg [.hole,.hole,.hole]),.hole,.hole],[],[1,1,1,1,1,1],[kM,kL,kK,kL,.int .i64,.int .i64]⟩,⟨[(.agg [.hole,.hole,(.view 0)]),.hole,.hole],[.seq false],[2,2,2,2,2],[kL,kK,.bool,.int .i64,kL]⟩,3,[],[],false,false,fun (x:(jS×jQ×jR×jQ×Int×Int))=>zbF x.1 x.2.1 x.2.2.1 x.2.2.2.1 x.2.2.2.2.1 x.2.2.2.2.2⟩
-- quaereref13.Factor
theorem zDN:ShOk Tryz.prog gl 25 zB8:=yL .run [.cell 8 29,.tmp 9,.tmp 10] zj zw (gd1 zzQ (gd1 zGL (gd1 zFB (gd1 zEx (gd1 zEs zd))))) Tryz.func25 ob0
def w116_c:ShC:=⟨⟨[.hole,(.agg [.hole,.hole,.hole])],[],[1,1,1,1],[kM,kL,kK,kL]⟩,⟨[.hole],[],[2],[.bool]⟩,1,[],[],false,false,fun (x:(jS×jQ×jR×jQ))=>zkA x.1 x.2.1 x.2.2.1 x.2.2.2⟩
-- quaereref8.Dull
theorem zsK:zL Tryz.prog (cond w116_c.glob gl fun _=>none) [(92,.gen (qv [w94_c])),(123,.gen (qv [w90_c]))]:=(gd1 zts (gd1 zon zd))
def zw7:=zcD tb gl zsK w116_c Tryz.f148
theorem zBW:VAll Tryz.prog zw7:=zu zj zsK
def zvv:Un:=lpU 2 [46,47,48,51,52,53,54,55,56,57,58,59,60,61,62,63,64,65,66,67,68,69,70,71,72,73,4,49,50,8] ⟨[0,3,5,6,8],⟨[.hole,(.ptr 0 0),.hole,.hole,.hole],[.cells true [.hole,.hole,.hole]],[1,2,1,2,1,1,1],[kM,.int .i64,kJ,.int .i64,kL,kK,kL]⟩⟩ [((.exit 2),⟨[],⟨[],[],[],[]⟩⟩),(.ret,⟨[4],⟨[.hole],[],[2],[.bool]⟩⟩)] (lp qG zi)
theorem zvb:UnA Tryz.prog zw7 (qT (zm Tryz.f148) [1,0,1,0,0,1,0,0,1,1,1,0]) zvv:=zaT .run zw zBW ob0
def zvX:Un:=lpU 2 [9,10,11,12,13,16,17,18,19,20,21,6,22,23,24,25,26,27,28,29,30,31,32,33,34,35,36,37,38,7,39,40,41,42,43,44,45,4,8,46,47,48,51,52,53,54,55,56,57,58,59,60,61,62,63,64,65,66,67,68,69,70,71,72,73,4,49,50,8,14,15,5] ⟨[0,3,5],⟨[.hole,(.ptr 0 0),.hole],[.cells true [.hole,.hole,.hole]],[1,2,1,1,1],[kM,.int .i64,kL,kK,kL]⟩⟩ [((.exit 0),⟨[],⟨[],[],[],[]⟩⟩),(.ret,⟨[4],⟨[.hole],[],[2],[.bool]⟩⟩)] (lp zbC zi)
theorem zt5:UnA Tryz.prog zw7 (qT (zm Tryz.f148) [1,0,1,0]) zvX:=zaT (.seq .run (.seq (.block (.seq .run (.seq .run (.seq .run (.block (.unit zvv)))))) .run)) zw zBW (ob1 zvb ob0)
theorem zE1:ShOk Tryz.prog gl 148 w116_c:=yL (.seq .run (.seq (.seq .run (.block (.unit zvX))) .run)) [.tmp 4] zj zw zsK Tryz.func148 (ob1 zt5 ob0)
def zC9:ShC:=⟨⟨[.hole,(.view 0),.hole,(.agg [.hole,.hole,.hole,.hole,.hole,.hole,.hole,.hole,.hole,.hole]),.hole,.hole],[.seq false],[1,1,1,1,1,1,1,1,1,1,1,1,1,1,1],[kM,.int .i64,.int .i64,.int .i64,.int .i64,.int .i64,.int .i64,.int .i64,.int .i64,kL,kK,kL,.bool,.int .i64,.sl (.cons kZ (.cons kZ (.cons kZ (.cons kZ (.cons kZ (.cons kZ (.cons kZ (.cons kL (.cons kK (.one kL))))))))))]⟩,⟨[(.view 0),.hole],[.seq false],[2,0],[.int .i64,.sl (.cons kZ (.cons kZ (.cons kZ (.cons kZ (.cons kZ (.cons kZ (.cons kZ (.cons kL (.cons kK (.one kL))))))))))]⟩,2,[],[],true,false,fun (x:(jS×Int×Int×Int×Int×Int×Int×Int×Int×jQ×jR×jQ×Bool×Int×jT))=>qZ x.1 x.2.1 x.2.2.1 x.2.2.2.1 x.2.2.2.2.1 x.2.2.2.2.2.1 x.2.2.2.2.2.2.1 x.2.2.2.2.2.2.2.1 x.2.2.2.2.2.2.2.2.1 x.2.2.2.2.2.2.2.2.2.1 x.2.2.2.2.2.2.2.2.2.2.1 x.2.2.2.2.2.2.2.2.2.2.2.1 x.2.2.2.2.2.2.2.2.2.2.2.2.1 x.2.2.2.2.2.2.2.2.2.2.2.2.2.1 x.2.2.2.2.2.2.2.2.2.2.2.2.2.2⟩
-- quaereref13.kept
theorem zDZ:ShOk Tryz.prog gl 81 zC9:=yL .run [.tmp 12,.tmp 13] zj zw (gd1 zE1 zd) Tryz.func81 ob0
def w118_c:ShC:=⟨⟨[.hole,(.agg [.hole,.hole,.hole]),.hole],[],[1,1,1,1,1],[kM,kL,kK,kL,.int .i64]⟩,⟨[(.view 0),.hole,.hole],[.seq false],[2,2,0],[.int .i64,.int .i64,.sl (.cons kZ (.cons kZ (.cons kZ (.cons kZ (.cons kZ (.cons kZ (.cons kZ (.cons kL (.cons kK (.one kL))))))))))]⟩,3,[],[],true,false,fun (x:(jS×jQ×jR×jQ×Int))=>zcB x.1 x.2.1 x.2.2.1 x.2.2.2.1 x.2.2.2.2⟩
-- quaereref13.Factors
theorem zr0:zL Tryz.prog (cond w118_c.glob gl fun _=>none) [(25,.gen (qv [zB8])),(60,.gen (qv [w89_c])),(80,.gen (qv [w98_c])),(81,.gen (qv [zC9]))]:=(gd1 zDN (gd1 zzQ (gd1 zGj (gd1 zDZ zd))))
def zvS:=zcD tb gl zr0 w118_c Tryz.f30
theorem zDr:VAll Tryz.prog zvS:=zu zj zr0
def zwu:Un:=lpU 2 [29,30,31,32,33,36,37,38,39,40,41,42,43,44,45,46,47,49,50,51,52,53,48,54,55,56,13,14,15,58,59,60,61,62,63,64,65,66,67,68,57,69,70,9,10,34,35,12] ⟨[0,2,4,9,10,11,12],⟨[.hole,.hole,(.ptr 0 0),(.view 1),.hole,.hole,.hole],[.cells true [.hole,.hole,.hole],.seq false],[1,2,2,2,2,1,1,1,0],[kM,.int .i64,.int .i64,.int .i64,.int .i64,kL,kK,kL,.sl (.cons kZ (.cons kZ (.cons kZ (.cons kZ (.cons kZ (.cons kZ (.cons kZ (.cons kL (.cons kK (.one kL))))))))))]⟩⟩ [((.exit 2),⟨[9,10],⟨[(.view 0),.hole],[.seq false],[2,0],[.int .i64,.sl (.cons kZ (.cons kZ (.cons kZ (.cons kZ (.cons kZ (.cons kZ (.cons kZ (.cons kL (.cons kK (.one kL))))))))))]⟩⟩)] (lp yQ zi)
theorem zuP:UnA Tryz.prog zvS (qT (zm Tryz.f30) [1,1,1,1,0,1,0,0,1,0,0,1,0]) zwu:=zaT .run zw zDr ob0
def zvx:Un:=lpU 2 [20,21,22,23,24,27,28,12,29,30,31,32,33,36,37,38,39,40,41,42,43,44,45,46,47,49,50,51,52,53,48,54,55,56,13,14,15,58,59,60,61,62,63,64,65,66,67,68,57,69,70,9,10,34,35,12,25,26,11] ⟨[0,2,4,9,10,11],⟨[.hole,.hole,(.ptr 0 0),(.view 1),.hole,.hole],[.cells true [.hole,.hole,.hole],.seq false],[1,2,2,2,1,1,1,0],[kM,.int .i64,.int .i64,.int .i64,kL,kK,kL,.sl (.cons kZ (.cons kZ (.cons kZ (.cons kZ (.cons kZ (.cons kZ (.cons kZ (.cons kL (.cons kK (.one kL))))))))))]⟩⟩ [((.exit 0),⟨[9,10],⟨[(.view 0),.hole],[.seq false],[2,0],[.int .i64,.sl (.cons kZ (.cons kZ (.cons kZ (.cons kZ (.cons kZ (.cons kZ (.cons kZ (.cons kL (.cons kK (.one kL))))))))))]⟩⟩)] (lp yP zi)
theorem zuT:UnA Tryz.prog zvS (qT (zm Tryz.f30) [1,1,1,1,0,1,0]) zvx:=zaT (.seq .run (.seq (.block (.seq .run (.block (.unit zwu)))) .run)) zw zDr (ob1 zuP ob0)
theorem zDO:ShOk Tryz.prog gl 30 w118_c:=yL (.seq .run (.seq .run (.seq .run (.seq .run (.seq (.seq .run (.block (.unit zvx))) .run))))) [.tmp 6,.tmp 7,.tmp 8] zj zw zr0 Tryz.func30 (ob1 zuT ob0)
def w119_c:ShC:=⟨⟨[.hole,.hole],[],[1,1],[kJ,kJ]⟩,⟨[.hole],[],[2],[.bool]⟩,1,[],[],false,false,fun (x:(jI×jI))=>zbN x.1 x.2⟩
-- quaerelaw0.SameInts
theorem zrS:zL Tryz.prog (cond w119_c.glob gl fun _=>none) []:=zd
def zB4:=zcD tb gl zrS w119_c Tryz.f43
theorem zFP:VAll Tryz.prog zB4:=zu zj zrS
def zv9:Un:=lpU 2 [11,12,13,14,17,18,19,20,21,22,23,24,25,4,15,16,5] ⟨[0,1,5],⟨[.hole,.hole,.hole],[],[1,1,2],[kJ,kJ,.int .i64]⟩⟩ [((.exit 0),⟨[],⟨[],[],[],[]⟩⟩),(.ret,⟨[4],⟨[.hole],[],[2],[.bool]⟩⟩)] (lp qL zi)
theorem zuc:UnA Tryz.prog zB4 (qT (zm Tryz.f43) [1,1,0,1,0]) zv9:=zaT .run zw zFP ob0
theorem zvI:ShOk Tryz.prog gl 43 w119_c:=yL (.seq .run (.seq .run (.seq (.seq .run (.block (.unit zv9))) .run))) [.tmp 4] zj zw zrS Tryz.func43 (ob1 zuc ob0)
def w120_c:ShC:=⟨⟨[.hole,.hole],[],[1,1],[kL,kL]⟩,⟨[.hole],[],[2],[.bool]⟩,1,[],[],false,false,fun (x:(jQ×jQ))=>zc4 x.1 x.2⟩
-- quaerelaw0.SameLits
theorem zsD:zL Tryz.prog (cond w120_c.glob gl fun _=>none) [(43,.gen (qv [w119_c]))]:=(gd1 zvI zd)
def zCB:=zcD tb gl zsD w120_c Tryz.f20
theorem zHG:VAll Tryz.prog zCB:=zu zj zsD
def zys:Un:=lpU 2 [11,12,13,14,17,18,19,20,21,22,23,24,25,26,27,28,29,30,31,32,33,34,35,36,37,38,39,40,41,4,15,16,5] ⟨[0,1,5],⟨[.hole,.hole,.hole],[],[1,1,2],[kL,kL,.int .i64]⟩⟩ [((.exit 0),⟨[],⟨[],[],[],[]⟩⟩),(.ret,⟨[4],⟨[.hole],[],[2],[.bool]⟩⟩)] (lp qF zi)
theorem zuH:UnA Tryz.prog zCB (qT (zm Tryz.f20) [1,1,0,1,0]) zys:=zaT .run zw zHG ob0
theorem zEu:ShOk Tryz.prog gl 20 w120_c:=yL (.seq .run (.seq .run (.seq (.seq .run (.block (.unit zys))) .run))) [.tmp 4] zj zw zsD Tryz.func20 (ob1 zuH ob0)
def w121_c:ShC:=⟨⟨[.hole,.hole],[],[1,1],[kK,kK]⟩,⟨[.hole],[],[2],[.bool]⟩,1,[],[],false,false,fun (x:(jR×jR))=>zej x.1 x.2⟩
-- quaerelaw0.SameRows
theorem zr5:zL Tryz.prog (cond w121_c.glob gl fun _=>none) [(43,.gen (qv [w119_c]))]:=(gd1 zvI zd)
def zBF:=zcD tb gl zr5 w121_c Tryz.f62
theorem zIt:VAll Tryz.prog zBF:=zu zj zr5
def zzt:Un:=lpU 2 [11,12,13,14,17,18,19,20,21,22,23,24,25,26,4,15,16,5] ⟨[0,1,5],⟨[.hole,.hole,.hole],[],[1,1,2],[kK,kK,.int .i64]⟩⟩ [((.exit 0),⟨[],⟨[],[],[],[]⟩⟩),(.ret,⟨[4],⟨[.hole],[],[2],[.bool]⟩⟩)] (lp qD zi)
theorem zu1:UnA Tryz.prog zBF (qT (zm Tryz.f62) [1,1,0,1,0]) zzt:=zaT .run zw zIt ob0
theorem zFk:ShOk Tryz.prog gl 62 w121_c:=yL (.seq .run (.seq .run (.seq (.seq .run (.block (.unit zzt))) .run))) [.tmp 4] zj zw zr5 Tryz.func62 (ob1 zu1 ob0)
def zDn:ShC:=⟨⟨[(.agg [.hole,.hole,.hole]),(.agg [.hole,.hole,.hole])],[],[1,1,1,1,1,1],[kL,kK,kL,kL,kK,kL]⟩,⟨[.hole],[],[2],[.bool]⟩,1,[],[],false,false,fun (x:(jQ×jR×jQ×jQ×jR×jQ))=>qo x.1 x.2.1 x.2.2.1 x.2.2.2.1 x.2.2.2.2.1 x.2.2.2.2.2⟩
-- quaerelaw0.SameClause
theorem zsO:ShOk Tryz.prog gl 17 zDn:=yL .run [.tmp 4] zj zw (gd1 zEu (gd1 zFk zd)) Tryz.func17 ob0
def zCk:ShC:=⟨⟨[(.agg [.hole,.hole,.hole,.hole,.hole,.hole,.hole,.hole,.hole,.hole]),(.agg [.hole,.hole,.hole,.hole,.hole,.hole,.hole,.hole,.hole,.hole])],[],[1,1,1,1,1,1,1,1,1,1,1,1,1,1,1,1,1,1,1,1],[.int .i64,.int .i64,.int .i64,.int .i64,.int .i64,.int .i64,.int .i64,kL,kK,kL,.int .i64,.int .i64,.int .i64,.int .i64,.int .i64,.int .i64,.int .i64,kL,kK,kL]⟩,⟨[.hole],[],[2],[.bool]⟩,1,[],[],false,false,fun (x:(Int×Int×Int×Int×Int×Int×Int×jQ×jR×jQ×Int×Int×Int×Int×Int×Int×Int×jQ×jR×jQ))=>zdm x.1 x.2.1 x.2.2.1 x.2.2.2.1 x.2.2.2.2.1 x.2.2.2.2.2.1 x.2.2.2.2.2.2.1 x.2.2.2.2.2.2.2.1 x.2.2.2.2.2.2.2.2.1 x.2.2.2.2.2.2.2.2.2.1 x.2.2.2.2.2.2.2.2.2.2.1 x.2.2.2.2.2.2.2.2.2.2.2.1 x.2.2.2.2.2.2.2.2.2.2.2.2.1 x.2.2.2.2.2.2.2.2.2.2.2.2.2.1 x.2.2.2.2.2.2.2.2.2.2.2.2.2.2.1 x.2.2.2.2.2.2.2.2.2.2.2.2.2.2.2.1 x.2.2.2.2.2.2.2.2.2.2.2.2.2.2.2.2.1 x.2.2.2.2.2.2.2.2.2.2.2.2.2.2.2.2.2.1 x.2.2.2.2.2.2.2.2.2.2.2.2.2.2.2.2.2.2.1 x.2.2.2.2.2.2.2.2.2.2.2.2.2.2.2.2.2.2.2⟩
-- quaerelaw0.SameStep
theorem zFw:ShOk Tryz.prog gl 82 zCk:=yL .run [.tmp 4] zj zw (gd1 zsO zd) Tryz.func82 ob0
def w124_c:ShC:=⟨⟨[.hole,.hole],[],[1,1],[.sl (.cons kZ (.cons kZ (.cons kZ (.cons kZ (.cons kZ (.cons kZ (.cons kZ (.cons kL (.cons kK (.one kL)))))))))),.sl (.cons kZ (.cons kZ (.cons kZ (.cons kZ (.cons kZ (.cons kZ (.cons kZ (.cons kL (.cons kK (.one kL))))))))))]⟩,⟨[.hole],[],[2],[.bool]⟩,1,[],[],false,false,fun (x:(jT×jT))=>zbW x.1 x.2⟩
-- quaerelaw0.SameSteps
theorem zsW:zL Tryz.prog (cond w124_c.glob gl fun _=>none) [(82,.gen (qv [zCk]))]:=(gd1 zFw zd)
def zDv:=zcD tb gl zsW w124_c Tryz.f31
theorem zGc:VAll Tryz.prog zDv:=zu zj zsW
def zzl:Un:=lpU 2 [11,12,13,14,17,18,19,20,21,22,23,24,25,26,4,15,16,5] ⟨[0,1,5],⟨[.hole,.hole,.hole],[],[1,1,2],[.sl (.cons kZ (.cons kZ (.cons kZ (.cons kZ (.cons kZ (.cons kZ (.cons kZ (.cons kL (.cons kK (.one kL)))))))))),.sl (.cons kZ (.cons kZ (.cons kZ (.cons kZ (.cons kZ (.cons kZ (.cons kZ (.cons kL (.cons kK (.one kL)))))))))),.int .i64]⟩⟩ [((.exit 0),⟨[],⟨[],[],[],[]⟩⟩),(.ret,⟨[4],⟨[.hole],[],[2],[.bool]⟩⟩)] (lp y7 zi)
theorem zuU:UnA Tryz.prog zDv (qT (zm Tryz.f31) [1,1,0,1,0]) zzl:=zaT .run zw zGc ob0
theorem zzx:ShOk Tryz.prog gl 31 w124_c:=yL (.seq .run (.seq .run (.seq (.seq .run (.block (.unit zzl))) .run))) [.tmp 4] zj zw zsW Tryz.func31 (ob1 zuU ob0)
def zDD:ShC:=⟨⟨[.hole],[],[1],[.int .i64]⟩,⟨[.hole],[],[2],[.int .i64]⟩,1,[],[],false,false,fun (x:Int)=>zgB x⟩
-- quaerelaw0.Num
theorem zym:ShOk Tryz.prog gl 18 zDD:=yL .run [.tmp 2] zj zw zd Tryz.func18 ob0
def zHa:ShC:=⟨⟨[],[],[],[]⟩,⟨[(.view 0)],[.seq false],[2],[kM]⟩,1,[],[],false,false,fun (x:Unit)=>zeC⟩
-- quaerelaw14.words
theorem zEv:ShOk Tryz.prog gl 76 zHa:=yL .run [.tmp 0] zj zw zd Tryz.func76 ob0
def zHD:ShC:=⟨⟨[(.agg [.hole,.hole,.hole]),.hole],[],[1,1,1,1],[kL,kK,kL,.int .i64]⟩,⟨[.hole],[],[2],[.bool]⟩,1,[],[],false,false,fun (x:(jQ×jR×jQ×Int))=>zcZ x.1 x.2.1 x.2.2.1 x.2.2.2⟩
-- factor.place
theorem zyU:ShOk Tryz.prog gl 69 zHD:=yL .run [.tmp 4] zj zw zd Tryz.func69 ob0
def zGD:ShC:=⟨⟨[.hole,(.agg [.hole,.hole,.hole]),.hole,.hole],[],[1,1,1,1,1,1],[kM,kL,kK,kL,.int .i64,.int .i64]⟩,⟨[(.agg [.hole,.hole,(.view 0)]),.hole,.hole],[.seq false],[2,2,2,2,2],[kL,kK,.bool,.int .i64,kL]⟩,3,[],[],false,true,fun (x:(jS×jQ×jR×jQ×Int×Int))=>qR x.1 x.2.1 x.2.2.1 x.2.2.2.1 x.2.2.2.2.1 x.2.2.2.2.2⟩
-- factor.One
theorem zD5:ShOk Tryz.prog gl 24 zGD:=yL .run [.cell 8 29,.tmp 9,.tmp 10] zj zw (gdG zqo (gd1 zyU (gdG zBH zd))) Tryz.func24 ob0
def zGR:ShC:=⟨⟨[(.agg [.hole,.hole])],[],[1,1],[.bool,kJ]⟩,⟨[(.agg [.hole,(.view 0)])],[.seq false],[2,2],[.bool,kJ]⟩,1,[],[],false,false,fun (x:zl)=>zl7 x.1 x.2⟩
-- lit.Opposite
theorem zFa:ShOk Tryz.prog gl 54 zGR:=yL .run [.cell 2 69] zj zw (gd1 zv8 zd) Tryz.func54 ob0
def zHO:ShC:=⟨⟨[.hole,(.agg [.hole,.hole,.hole]),.hole],[],[1,1,1,1,1],[kM,kL,kK,kL,.int .i64]⟩,⟨[(.agg [.hole,.hole,(.view 0)]),.hole],[.seq false],[2,2,2,2],[kL,kK,.int .i64,kL]⟩,2,[],[],false,true,fun (x:(jS×jQ×jR×jQ×Int))=>zkY x.1 x.2.1 x.2.2.1 x.2.2.2.1 x.2.2.2.2⟩
-- factor.Assume
theorem zET:ShOk Tryz.prog gl 26 zHO:=yL .run [.cell 6 29,.tmp 7] zj zw (gdG zqo (gd1 zFa (gdG zC0 (gd1 zyU (gd1 zC6 zd))))) Tryz.func26 ob0
def zCT:ShC:=⟨⟨[],[],[],[]⟩,⟨[.hole],[],[2],[.bool]⟩,1,[],[],false,true,fun (x:Unit)=>zjP⟩
-- quaerelaw14.awake
theorem zFy:ShOk Tryz.prog gl 28 zCT:=yL .run [.tmp 0] zj zw (gd1 zsO (gd1 zym (gdG zD5 (gdG zET (gdG zDE (gd1 zzx (gd1 zEv zd))))))) Tryz.func28 ob0
def w132_c:ShC:=⟨⟨[.hole,(.agg [.hole,.hole,.hole]),.hole],[],[1,1,1,1,1],[kM,kL,kK,kL,.int .i64]⟩,⟨[.hole],[],[2],[.bool]⟩,1,[],[],false,true,fun (x:(jS×jQ×jR×jQ×Int))=>qM x.1 x.2.1 x.2.2.1 x.2.2.2.1 x.2.2.2.2⟩
-- quaerelaw14.FactorAlls
theorem zsh:zL Tryz.prog (cond w132_c.glob gl fun _=>none) [(17,.gen (qv [zDn])),(18,.gen (qv [zDD])),(23,.gen (qv [zK9])),(28,.gen (qv [zCT])),(29,.gen (qv [w79_c])),(30,.gen (qv [w118_c])),(31,.gen (qv [w124_c]))]:=(gd1 zsO (gd1 zym (gd1 zJG (gdG zFy (gdG zDE (gd1 zDO (gd1 zzx zd)))))))
def zvV:=zcD tb gl zsh w132_c Tryz.f5
theorem zFU:VAll Tryz.prog zvV:=zu zj zsh
def zrm:List (Code×AC):=[((qT (zm Tryz.f5) [1,1,0]),.run),((qT (zm Tryz.f5) [1,1,1,0]),.run),((qT (zm Tryz.f5) [1,1,1,1,0]),.run)]
def zyO:Un:=spU zvV zrm [17,18,19,20,16,21,22,23,8,9,10,25,26,27,28,24,29,30,31,11,12,13,32,33,34,35,36,37,38,39,40,41,42,43,44,45,46,6] [47,48] [(8,.one (.sl (.cons kZ (.cons kZ (.cons kZ (.cons kZ (.cons kZ (.cons kZ (.cons kZ (.cons kL (.cons kK (.one kL))))))))))))] (qT (zm Tryz.f5) [1,1,1,1,1,1]) .run
-- quaerelaw0.SpoilInts
theorem zDJ:zb6 Tryz.prog 126 [.one kJ] :=
 zhC (l:=[]) (code:=zm Tryz.f126) zj zlh Tryz.func126 (by kernel_rfl) (by kernel_rfl) (by kernel_rfl) (by kernel_rfl) (by kernel_rfl)
-- quaerelaw0.SpoilLits
theorem zKI:zb6 Tryz.prog 63 [.one kL] :=
 zhC (l:=[(126,[.one kJ])]) (code:=zm Tryz.f63) zj (ziN zDJ zlh) Tryz.func63 (by kernel_rfl) (by kernel_rfl) (by kernel_rfl) (by kernel_rfl) (by kernel_rfl)
-- quaerelaw0.SpoilRows
theorem zJW:zb6 Tryz.prog 64 [.one kK] :=
 zhC (l:=[(126,[.one kJ])]) (code:=zm Tryz.f64) zj (ziN zDJ zlh) Tryz.func64 (by kernel_rfl) (by kernel_rfl) (by kernel_rfl) (by kernel_rfl) (by kernel_rfl)
-- quaerelaw0.SpoilClause
theorem zJY:zb6 Tryz.prog 19 [.agg [kL,kK,kL]] :=
 zhC (l:=[(63,[.one kL]),(64,[.one kK])]) (code:=zm Tryz.f19) zj (ziN zKI (ziN zJW zlh)) Tryz.func19 (by kernel_rfl) (by kernel_rfl) (by kernel_rfl) (by kernel_rfl) (by kernel_rfl)
-- quaerelaw0.SpoilSteps
theorem zJJ:zb6 Tryz.prog 32 [.one (.sl (.cons kZ (.cons kZ (.cons kZ (.cons kZ (.cons kZ (.cons kZ (.cons kZ (.cons kL (.cons kK (.one kL)))))))))))] :=
 zhC (l:=[(19,[.agg [kL,kK,kL]])]) (code:=zm Tryz.f32) zj (ziN zJY zlh) Tryz.func32 (by kernel_rfl) (by kernel_rfl) (by kernel_rfl) (by kernel_rfl) (by kernel_rfl)
theorem zt7:UnA Tryz.prog zvV (qT (zm Tryz.f5) [1,1]) zyO:=fun X hX =>
 zJD zFU zw (l:=[(32,[.one (.sl (.cons kZ (.cons kZ (.cons kZ (.cons kZ (.cons kZ (.cons kZ (.cons kZ (.cons kL (.cons kK (.one kL)))))))))))])]) (ziN zJJ zlh) (cs:=zrm) (sps:=[(qT (zm Tryz.f5) [1,1,1,1,1,0])]) (by kernel_rfl) (fun X hX=>(zpI (by kernel_rfl) (ob0 X hX) (zpI (by kernel_rfl) (ob0 X hX) (zpI (by kernel_rfl) (ob0 X hX) zDM)))) (by kernel_rfl) ob0 (by kernel_rfl) (by kernel_rfl) (by kernel_rfl) hX
theorem zED:ShOk Tryz.prog gl 5 w132_c:=yL (.seq .run (.seq .run (.unit zyO))) [.tmp 6] zj zw zsh Tryz.func5 (ob1 zt7 ob0)
end
end Go.Abs.Sz5
