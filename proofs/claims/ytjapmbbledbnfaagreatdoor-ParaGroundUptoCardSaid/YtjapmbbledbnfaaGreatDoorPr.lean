import Derived.Test.YtjapmbbledbnfaaGreatDoorFc
import Derived.Test.YtjapmbbledbnfaaGreatDoorQc
import Derived.Test.YtjapmbbledbnfaaGreatDoorXa
import Derived.Test.YtjapmbbledbnfaaGreatDoorProg
/-
 The functions make just that.
-/
namespace Go.Abs.Sz6
open Go Go.Abs Go.Abs.Q Go.Proofs
set_option maxRecDepth 100000
noncomputable section
def tbl:List (Nat×TD):=[(3,.int .i64),
 (4,.bool),
 (9,.str),
 (22,.sl 121 tSym 40),
 (23,.sl 44 tLit 32),
 (24,.sl 40 (.one (.sl (.one (.int .i64)))) 24),
 (26,.st [(23,0),(24,1),(23,2)] 3),
 (28,.sl 68 (.cons (.int .i64) (.cons (.int .i64) (.cons (.int .i64) (.cons (.int .i64) (.cons (.int .i64) (.cons (.int .i64) (.cons (.int .i64) (.cons (.sl tLit) (.cons (.sl (.one (.sl (.one (.int .i64))))) (.one (.sl tLit))))))))))) 128),
 (40,.sl 3 (.one (.int .i64)) 8),
 (44,.st [(4,0),(40,1)] 2),
 (65,.st [(22,0),(28,1),(3,2)] 3),
 (68,.st [(3,0),(3,1),(3,2),(3,3),(3,4),(3,5),(3,6),(26,7)] 10),
 (85,.sl 136 (.cons (.int .i64) (.one (.sl (.one (.int .i64))))) 32),
 (121,.st [(9,0),(3,1),(3,2),(3,3)] 4),
 (136,.st [(3,0),(40,1)] 2),
 (144,.st [(40,0),(3,1)] 2),
 (145,.arr 144 (.cons (.ns (.one (.int .i64))) (.one (.int .i64))) 48),
 (147,.st [(22,0),(145,1)] 97),
 (158,.arr 3 (.one (.int .i64)) 24),
 (161,.sl 164 (.cons (.sl (.one (.int .i64))) (.cons (.int .i64) (.cons (.sl (.one (.int .i64))) (.one (.int .i64))))) 64),
 (164,.fa 144 2 2),
 (168,.sl 24 (.one (.sl (.one (.sl (.one (.int .i64)))))) 24),
 (170,.sl 23 (.one (.sl tLit)) 24),
 (180,.int .u64),
 (183,.arr 4 (.one .bool) 48),
 (184,.sl 144 (.cons (.sl (.one (.int .i64))) (.one (.int .i64))) 32)]
def tb:Tb:=tbOf tbl
theorem tb_ok:TbOk Tryz.prog tb:=tb_check (by kernel_rfl)
theorem hord:Tryz.prog.follows .mixedOrders=true:=by kernel_rfl
def gl:Gl:=fun q=>cond (Nat.beq q 0) (some ⟨tSym,(([61],0,2,1):QSym)⟩) (none)
abbrev SK:=ShOk Tryz.prog gl
abbrev UK:=UnA Tryz.prog
abbrev VK:=VAll Tryz.prog
abbrev GD (c:ShC):=Goods Tryz.prog (cond c.glob gl fun _=>none)
def w0_c:ShC:=⟨⟨[],[],[],[]⟩,⟨[(.view 0)],[.seq false],[2],[.sl tSym]⟩,1,[],[],false,false,fun (_:Unit)=>law15_words⟩
theorem w0_ok:SK 39 w0_c:=fn_k .run [.tmp 0] tb_ok hord goods_nil Tryz.func39 ob0
def w1_c:ShC:=⟨⟨[.hole],[],[1],[.int .u8]⟩,⟨[.hole],[],[2],[.bool]⟩,1,[],[],false,false,fun (x:Int)=>sign_small x⟩
theorem w1_ok:SK 144 w1_c:=fn_k .run [.tmp 2] tb_ok hord goods_nil Tryz.func144 ob0
def w2_c:ShC:=⟨⟨[.hole],[],[1],[.str]⟩,⟨[.hole],[],[2],[.bool]⟩,1,[],[],false,false,fun (x:Str)=>sign_called x⟩
theorem w2_gs:GD w2_c [(144,.gen (altE [w1_c]))]:=(gd1 w1_ok goods_nil)
def w2_v:=envG tb gl w2_gs w2_c Tryz.f124
theorem w2_A:VK w2_v:=env_all tb_ok w2_gs
def w2_u0:Un:=lpU 2 [20,21,3,22,23,24,25,26,27,28,29,30,31,32,33,34,35,36,37,38,2,39,19] ⟨[0,18,19],⟨[.hole,.hole,.hole],[],[2,2,2],[.str,.int .i64,.int .i64]⟩⟩ [((.exit 0),⟨[],⟨[],[],[],[]⟩⟩),(.ret,⟨[2],⟨[.hole],[],[2],[.bool]⟩⟩)] (lp sign_called_L0 fuel)
theorem w2_u0_ok:UK w2_v (subC (bodyOf Tryz.f124) [1,1,0,1,0]) w2_u0:=lp_k .run hord w2_A ob0
theorem w2_ok:SK 124 w2_c:=fn_k (.seq .run (.seq .run (.seq (.seq .run (.block (.unit w2_u0))) .run))) [.tmp 2] tb_ok hord w2_gs Tryz.func124 (ob1 w2_u0_ok ob0)
def w3_c:ShC:=⟨⟨[(.agg [.hole,.hole,.hole,.hole])],[],[1,1,1,1],[.str,.int .i64,.int .i64,.int .i64]⟩,⟨[.hole],[],[2],[.bool]⟩,1,[],[],false,false,fun (x:QSym)=>sign_SymMay x.1 x.2.1 x.2.2.1 x.2.2.2⟩
theorem w3_ok:SK 89 w3_c:=fn_k .run [.tmp 2] tb_ok hord (gd1 w2_ok goods_nil) Tryz.func89 ob0
def w4_c:ShC:=⟨⟨[.hole,.hole],[],[1,1],[.sl tSym,.str]⟩,⟨[.hole],[],[2],[.int .i64]⟩,1,[],[],false,false,fun (x:((List QSym)×Str))=>sign_find x.1 x.2⟩
theorem w4_gs:GD w4_c []:=goods_nil
def w4_v:=envG tb gl w4_gs w4_c Tryz.f90
theorem w4_A:VK w4_v:=env_all tb_ok w4_gs
def w4_u0:Un:=lpU 2 [9,10,5,11,12,13,14,15,16,17,18,4,19,8] ⟨[0,1,7,8],⟨[.hole,.hole,.hole,.hole],[],[1,2,2,2],[.sl tSym,.str,.int .i64,.int .i64]⟩⟩ [((.exit 0),⟨[],⟨[],[],[],[]⟩⟩),(.ret,⟨[4],⟨[.hole],[],[2],[.int .i64]⟩⟩)] (lp sign_find_L0 fuel)
theorem w4_u0_ok:UK w4_v (subC (bodyOf Tryz.f90) [1,0,1,0]) w4_u0:=lp_k .run hord w4_A ob0
theorem w4_ok:SK 90 w4_c:=fn_k (.seq .run (.seq (.seq .run (.block (.unit w4_u0))) .run)) [.tmp 4] tb_ok hord w4_gs Tryz.func90 (ob1 w4_u0_ok ob0)
def w5_c:ShC:=⟨⟨[.hole],[],[1],[.sl tSym]⟩,⟨[.hole],[],[2],[.bool]⟩,1,[],[],false,true,fun (x:(List QSym))=>sign_May x⟩
theorem w5_gs:GD w5_c [(89,.gen (altE [w3_c])),(90,.gen (altE [w4_c]))]:=(gd1 w3_ok (gd1 w4_ok goods_nil))
def w5_v:=envG tb gl w5_gs w5_c Tryz.f44
theorem w5_A:VK w5_v:=env_all tb_ok w5_gs
def w5_u0:Un:=lpU 2 [19,20,21,22,25,26,27,28,29,30,31,32,33,34,35,36,37,38,39,40,41,2,23,24,3] ⟨[0,3],⟨[.hole,.hole],[],[1,2],[.sl tSym,.int .i64]⟩⟩ [((.exit 0),⟨[],⟨[],[],[],[]⟩⟩),(.ret,⟨[2],⟨[.hole],[],[2],[.bool]⟩⟩)] (lp sign_May_L0 fuel)
theorem w5_u0_ok:UK w5_v (subC (bodyOf Tryz.f44) [1,1,0,1,0]) w5_u0:=lp_k .run hord w5_A ob0
theorem w5_ok:SK 44 w5_c:=fn_k (.seq .run (.seq .run (.seq (.seq .run (.block (.unit w5_u0))) .run))) [.tmp 2] tb_ok hord w5_gs Tryz.func44 (ob1 w5_u0_ok ob0)
def w6_c:ShC:=⟨⟨[.hole],[],[1],[.int .i64]⟩,⟨[.hole],[],[2],[.int .i64]⟩,1,[],[],false,false,fun (x:Int)=>term_Number x⟩
theorem w6_ok:SK 107 w6_c:=fn_k .run [.tmp 2] tb_ok hord goods_nil Tryz.func107 ob0
def w7_c:ShC:=⟨⟨[.hole,.hole],[],[1,1],[.sl tSym,.int .i64]⟩,⟨[.hole,.hole],[],[2,2],[.int .i64,.bool]⟩,2,[],[],false,false,fun (x:((List QSym)×Int))=>term_args x.1 x.2⟩
theorem w7_ok:SK 102 w7_c:=fn_k .run [.tmp 4,.tmp 5] tb_ok hord (gd1 w6_ok goods_nil) Tryz.func102 ob0
def w8_c:ShC:=⟨⟨[.hole,.hole,.hole],[],[1,1,1],[.sl tSym,.sl (.one (.int .i64)),.int .i64]⟩,⟨[.hole,.hole],[],[2,2],[.int .i64,.bool]⟩,2,[],[],false,false,fun (x:((List QSym)×(List Int)×Int))=>term_Skip x.1 x.2.1 x.2.2⟩
theorem w8_gs:GD w8_c [(102,.gen (altE [w7_c]))]:=(gd1 w7_ok goods_nil)
def w8_v:=envG tb gl w8_gs w8_c Tryz.f64
theorem w8_A:VK w8_v:=env_all tb_ok w8_gs
def w8_u0:Un:=scU w8_v [8,11,12,13,14,6,7,16,17,18,19,20,21,15,22,23,9,10,24,25,6,7,26,27,2,28,29,30,31,8,32,33,34,6,7] [(.goto 0,⟨[0,1,2,8],⟨[.hole,.hole,.hole,.hole],[],[1,1,2,2],[.sl tSym,.sl (.one (.int .i64)),.int .i64,.int .i64]⟩⟩)] [(.ret,⟨[6,7],⟨[.hole,.hole],[],[2,2],[.int .i64,.bool]⟩⟩)] (innC (subC (bodyOf Tryz.f64) [1])) .run (lp term_Skip_L0 fuel)
theorem w8_u0_ok:UK w8_v (subC (bodyOf Tryz.f64) [1]) w8_u0:=sc_k [] hord w8_A ob0 acl0
theorem w8_ok:SK 64 w8_c:=fn_k (.seq .run (.unit w8_u0)) [.tmp 6,.tmp 7] tb_ok hord w8_gs Tryz.func64 (ob1 w8_u0_ok ob0)
def w9_c:ShC:=⟨⟨[.hole,.hole],[],[1,1],[.sl tSym,.sl (.one (.int .i64))]⟩,⟨[(.view 0),.hole],[.seq false],[2,2],[.bool,.sl (.one (.int .i64))]⟩,2,[],[],false,true,fun (x:((List QSym)×(List Int)))=>term_begins x.1 x.2⟩
theorem w9_gs:GD w9_c [(44,.gen (altE [w5_c])),(64,.gen (altE [w8_c]))]:=(gdG w5_ok (gd1 w8_ok goods_nil))
def w9_v:=envG tb gl w9_gs w9_c Tryz.f85
theorem w9_A:VK w9_v:=env_all tb_ok w9_gs
def w9_u0:Un:=scU w9_v [10,11,12,13,14,15,16,17,4,5,6,7,18,19,20,21,22,4,5,24,25,26,27,23,28,29,8,9,30,31,4,5,32,33,34,35,6,36,7] [(.goto 0,⟨[0,1,6,7],⟨[.hole,.hole,(.view 0),.hole],[.seq false],[1,1,2,2],[.sl tSym,.sl (.one (.int .i64)),.int .i64,.sl (.one (.int .i64))]⟩⟩)] [(.ret,⟨[4,5],⟨[(.view 0),.hole],[.seq false],[2,2],[.bool,.sl (.one (.int .i64))]⟩⟩)] (innC (subC (bodyOf Tryz.f85) [1])) .run (lp term_begins_L0 fuel)
theorem w9_u0_ok:UK w9_v (subC (bodyOf Tryz.f85) [1]) w9_u0:=sc_k [] hord w9_A ob0 acl0
theorem w9_ok:SK 85 w9_c:=fn_k (.seq .run (.unit w9_u0)) [.tmp 4,.tmp 5] tb_ok hord w9_gs Tryz.func85 (ob1 w9_u0_ok ob0)
def w10_c:ShC:=⟨⟨[.hole,.hole],[],[1,1],[.sl tSym,.sl (.one (.int .i64))]⟩,⟨[.hole],[],[2],[.bool]⟩,1,[],[],false,true,fun (x:((List QSym)×(List Int)))=>term_IsAtom x.1 x.2⟩
theorem w10_ok:SK 41 w10_c:=fn_k .run [.tmp 4] tb_ok hord (gdG w9_ok goods_nil) Tryz.func41 ob0
def w11_c:ShC:=⟨⟨[.hole,(.agg [.hole,.hole])],[],[1,1,1],[.sl tSym,.bool,.sl (.one (.int .i64))]⟩,⟨[.hole],[],[2],[.bool]⟩,1,[],[],false,true,fun (x:((List QSym)×Bool×(List Int)))=>lit_May x.1 x.2.1 x.2.2⟩
theorem w11_ok:SK 58 w11_c:=fn_k .run [.tmp 4] tb_ok hord (gdG w10_ok goods_nil) Tryz.func58 ob0
def w12_c:ShC:=⟨⟨[.hole,.hole],[],[1,1],[.sl tSym,.sl tLit]⟩,⟨[.hole,.hole],[],[2,2],[.int .i64,.bool]⟩,2,[],[],false,true,fun (x:((List QSym)×(List QLit)))=>clause_litsMay x.1 x.2⟩
theorem w12_gs:GD w12_c [(58,.gen (altE [w11_c]))]:=(gdG w11_ok goods_nil)
def w12_v:=envG tb gl w12_gs w12_c Tryz.f45
theorem w12_A:VK w12_v:=env_all tb_ok w12_gs
def w12_u0:Un:=lpU 2 [12,13,14,8,15,16,17,18,4,5,19,20,21,22,23,6,24,11] ⟨[0,6,9,10,11],⟨[.hole,.hole,.hole,.hole,.hole],[],[1,2,1,2,2],[.sl tSym,.int .i64,.sl tLit,.int .i64,.int .i64]⟩⟩ [((.exit 0),⟨[6],⟨[.hole],[],[2],[.int .i64]⟩⟩),(.ret,⟨[4,5],⟨[.hole,.hole],[],[2,2],[.int .i64,.bool]⟩⟩)] (lp clause_litsMay_L0 fuel)
theorem w12_u0_ok:UK w12_v (subC (bodyOf Tryz.f45) [1,1,0,1,0]) w12_u0:=lp_k .run hord w12_A ob0
theorem w12_ok:SK 45 w12_c:=fn_k (.seq .run (.seq .run (.seq (.seq .run (.block (.unit w12_u0))) .run))) [.tmp 4,.tmp 5] tb_ok hord w12_gs Tryz.func45 (ob1 w12_u0_ok ob0)
def w13_c:ShC:=⟨⟨[.hole,.hole],[],[1,1],[.sl tSym,.sl (.one (.int .i64))]⟩,⟨[.hole,.hole],[],[2,2],[.int .i64,.int .i64]⟩,2,[],[],false,true,fun (x:((List QSym)×(List Int)))=>term_Row x.1 x.2⟩
theorem w13_ok:SK 91 w13_c:=fn_k .run [.tmp 4,.tmp 5] tb_ok hord (gdG w9_ok goods_nil) Tryz.func91 ob0
def w14_c:ShC:=⟨⟨[.hole,.hole],[],[1,1],[.sl tSym,.sl (.one (.sl (.one (.int .i64))))]⟩,⟨[.hole,.hole],[],[2,2],[.int .i64,.bool]⟩,2,[],[],false,true,fun (x:((List QSym)×(List (List Int))))=>clause_rowsMay x.1 x.2⟩
theorem w14_gs:GD w14_c [(91,.gen (altE [w13_c]))]:=(gdG w13_ok goods_nil)
def w14_v:=envG tb gl w14_gs w14_c Tryz.f46
theorem w14_A:VK w14_v:=env_all tb_ok w14_gs
def w14_u0:Un:=lpU 2 [15,16,17,18,8,9,20,21,22,19,23,24,10,11,25,26,27,7,28,29,30,31,32,33,34,4,5,35,36,37,38,6,39,14] ⟨[0,6,7,12,13,14],⟨[.hole,.hole,.hole,.hole,.hole,.hole],[],[1,2,2,1,2,2],[.sl tSym,.int .i64,.int .i64,.sl (.one (.sl (.one (.int .i64)))),.int .i64,.int .i64]⟩⟩ [((.exit 0),⟨[6],⟨[.hole],[],[2],[.int .i64]⟩⟩),(.ret,⟨[4,5],⟨[.hole,.hole],[],[2,2],[.int .i64,.bool]⟩⟩)] (lp clause_rowsMay_L0 fuel)
theorem w14_u0_ok:UK w14_v (subC (bodyOf Tryz.f46) [1,1,0,1,0]) w14_u0:=lp_k .run hord w14_A ob0
theorem w14_ok:SK 46 w14_c:=fn_k (.seq .run (.seq .run (.seq (.seq .run (.block (.unit w14_u0))) .run))) [.tmp 4,.tmp 5] tb_ok hord w14_gs Tryz.func46 (ob1 w14_u0_ok ob0)
def w15_c:ShC:=⟨⟨[.hole,(.agg [.hole,.hole,.hole])],[],[1,1,1,1],[.sl tSym,.sl tLit,.sl (.one (.sl (.one (.int .i64)))),.sl tLit]⟩,⟨[.hole],[],[2],[.bool]⟩,1,[],[],false,true,fun (x:((List QSym)×(List QLit)×(List (List Int))×(List QLit)))=>clause_May x.1 x.2.1 x.2.2.1 x.2.2.2⟩
theorem w15_ok:SK 15 w15_c:=fn_k .run [.tmp 4] tb_ok hord (gdG w5_ok (gdG w12_ok (gdG w14_ok goods_nil))) Tryz.func15 ob0
def w16_c:ShC:=⟨⟨[(.agg [.hole,.hole,.hole]),.hole,.hole],[],[1,1,1,1,1],[.sl tLit,.sl (.one (.sl (.one (.int .i64)))),.sl tLit,.int .i64,.bool]⟩,⟨[.hole],[],[2],[.bool]⟩,1,[],[],false,false,fun (x:((List QLit)×(List (List Int))×(List QLit)×Int×Bool))=>para_equation x.1 x.2.1 x.2.2.1 x.2.2.2.1 x.2.2.2.2⟩
theorem w16_ok:SK 28 w16_c:=fn_k .run [.tmp 6] tb_ok hord goods_nil Tryz.func28 ob0
def w17_c:ShC:=⟨⟨[.nilv,.hole],[],[1],[.int .i64]⟩,⟨[(.view 0)],[.seq false],[2],[.sl tLit]⟩,1,[],[],false,false,fun (x:Int)=>slices_Grow_1 x⟩
theorem w17_ok:SK 139 w17_c:=fn_k .run [.tmp 4] tb_ok hord (gd0 1000025 goods_nil) Tryz.func139 ob0
def w18_c:ShC:=⟨⟨[.hole],[],[1],[.sl (.one (.sl tLit))]⟩,⟨[(.view 0)],[.seq false],[0],[.sl tLit]⟩,1,[],[],true,false,fun (x:(List (List QLit)))=>slices_Concat_1 x⟩
theorem w18_gs:GD w18_c [(139,.gen (altE [w17_c]))]:=(gd1 w17_ok goods_nil)
def w18_v:=envG tb gl w18_gs w18_c Tryz.f113
theorem w18_A:VK w18_v:=env_all tb_ok w18_gs
def w18_u1:Un:=lpU 2 [28,29,30,8,31,32,33,6,34,27] ⟨[6,25,26,27],⟨[(.view 0),.hole,.hole,.hole],[.seq false],[1,2,2,0],[.sl (.one (.sl tLit)),.int .i64,.int .i64,.sl tLit]⟩⟩ [((.exit 2),⟨[6],⟨[(.view 0)],[.seq false],[0],[.sl tLit]⟩⟩)] (lp slices_Concat_1_L1 fuel)
theorem w18_u1_ok:UK w18_v (subC (bodyOf Tryz.f113) [1,1,1,1,0,1,0]) w18_u1:=lp_k .run hord w18_A ob0
def w18_u0:Un:=lpU 2 [12,13,14,5,15,16,17,18,3,19,20,21,22,11] ⟨[0,3,9,10,11],⟨[.hole,.hole,.hole,.hole,.hole],[],[1,2,1,2,2],[.sl (.one (.sl tLit)),.int .i64,.sl (.one (.sl tLit)),.int .i64,.int .i64]⟩⟩ [((.exit 0),⟨[3],⟨[.hole],[],[2],[.int .i64]⟩⟩)] (lp slices_Concat_1_L0 fuel)
theorem w18_u0_ok:UK w18_v (subC (bodyOf Tryz.f113) [1,1,0,1,0]) w18_u0:=lp_k .run hord w18_A ob0
theorem w18_ok:SK 113 w18_c:=fn_k (.seq .run (.seq .run (.seq (.seq .run (.block (.unit w18_u0))) (.seq .run (.seq (.seq .run (.block (.unit w18_u1))) .run))))) [.tmp 2] tb_ok hord w18_gs Tryz.func113 (ob1 w18_u0_ok (ob1 w18_u1_ok ob0))
def w19_c:ShC:=⟨⟨[.hole],[],[1],[.int .i64]⟩,⟨[.hole],[],[2],[.bool]⟩,1,[],[],false,false,fun (x:Int)=>cmp_isNaN x⟩
theorem w19_ok:SK 160 w19_c:=fn_k .run [.tmp 2] tb_ok hord goods_nil Tryz.func160 ob0
def w20_c:ShC:=⟨⟨[.hole,.hole],[],[1,1],[.int .i64,.int .i64]⟩,⟨[.hole],[],[2],[.bool]⟩,1,[],[],false,false,fun (x:(Int×Int))=>cmp_Less x.1 x.2⟩
theorem w20_ok:SK 156 w20_c:=fn_k .run [.tmp 4] tb_ok hord (gd1 w19_ok goods_nil) Tryz.func156 ob0
def w21_c:ShC:=⟨⟨[.hole],[],[1],[.int .i64]⟩,⟨[.hole],[],[2],[.bool]⟩,1,[],[],false,false,fun (x:Int)=>slices_isNaN x⟩
theorem w21_ok:SK 157 w21_c:=fn_k .run [.tmp 2] tb_ok hord goods_nil Tryz.func157 ob0
def w22_c:ShC:=⟨⟨[.hole,.hole],[],[1,1],[.sl (.one (.int .i64)),.int .i64]⟩,⟨[.hole,.hole],[],[2,2],[.int .i64,.bool]⟩,2,[],[],false,false,fun (x:((List Int)×Int))=>slices_BinarySearch x.1 x.2⟩
theorem w22_gs:GD w22_c [(156,.gen (altE [w20_c])),(157,.gen (altE [w21_c]))]:=(gd1 w20_ok (gd1 w21_ok goods_nil))
def w22_v:=envG tb gl w22_gs w22_c Tryz.f148
theorem w22_A:VK w22_v:=env_all tb_ok w22_gs
def w22_u0:Un:=lpU 2 [13,14,15,16,17,18,19,20,21,9,22,23,24,25,26,27,28,29,7,30,8] ⟨[0,1,6,7,8],⟨[.hole,.hole,.hole,.hole,.hole],[],[1,2,2,2,2],[.sl (.one (.int .i64)),.int .i64,.int .i64,.int .i64,.int .i64]⟩⟩ [((.exit 0),⟨[7],⟨[.hole],[],[2],[.int .i64]⟩⟩)] (lp slices_BinarySearch_L0 fuel)
theorem w22_u0_ok:UK w22_v (subC (bodyOf Tryz.f148) [1,1,1,0,0]) w22_u0:=lp_k .run hord w22_A ob0
theorem w22_ok:SK 148 w22_c:=fn_k (.seq .run (.seq .run (.seq .run (.seq (.block (.unit w22_u0)) .run)))) [.tmp 4,.tmp 5] tb_ok hord w22_gs Tryz.func148 (ob1 w22_u0_ok ob0)
def lays_Lays2_n21:Go.Shelf.Ren:={ f:=fun x=>match x with | 21=>149 | 27=>158 | 28=>159 | 35=>161 | 39=>162 | n=>n,t:=fun x=>match x with | 22=>40 | 3=>3 | 4=>4 | 0=>0 | n=>n,g:=fun x=>x }
theorem lays_Lays2_n21_ok:Go.Proofs.Lays2.n21 Tryz.prog lays_Lays2_n21 where
 mixed:=by kernel_rfl
 f21:=Tryz.func149.trans (by kernel_rfl)
 f27:=Tryz.func158.trans (by kernel_rfl)
 f28:=Tryz.func159.trans (by kernel_rfl)
 f35:=Tryz.func161.trans (by kernel_rfl)
 f39:=Tryz.func162.trans (by kernel_rfl)
 t0:=Tryz.underlying0
 a0:=Tryz.isAgg0
 z0:=Tryz.sizeOf0
 v0:=Tryz.zeroValue0
 t3:=Tryz.underlying3
 a3:=Tryz.isAgg3
 z3:=Tryz.sizeOf3
 v3:=Tryz.zeroValue3
 t4:=Tryz.underlying4
 a4:=Tryz.isAgg4
 z4:=Tryz.sizeOf4
 v4:=Tryz.zeroValue4
 t22:=Tryz.underlying40
 a22:=Tryz.isAgg40
 z22:=Tryz.sizeOf40
 v22:=Tryz.zeroValue40
 i3:=by kernel_rfl
def w23_c:ShC:=insC
theorem w23_ok:SK 149 w23_c :=
 insert_ok (code:=bodyOf Tryz.f149) Tryz.func149 (by kernel_rfl) (by kernel_rfl) lays_Lays2_n21_ok rfl
def w24_c:ShC:=⟨⟨[(.view 0),.hole],[.seq false],[1,1],[.sl (.one (.int .i64)),.sl (.one (.int .i64))]⟩,⟨[(.view 0)],[.seq false],[0],[.sl (.one (.int .i64))]⟩,1,[],[],true,false,fun (x:((List Int)×(List Int)))=>term_Seen_1 x.1 x.2⟩
theorem w24_gs:GD w24_c [(107,.gen (altE [w6_c])),(148,.gen (altE [w22_c])),(149,.gen (altE [w23_c]))]:=(gd1 w6_ok (gd1 w22_ok (gd1 w23_ok goods_nil)))
def w24_v:=envG tb gl w24_gs w24_c Tryz.f127
theorem w24_A:VK w24_v:=env_all tb_ok w24_gs
def w24_u0:Un:=lpU 2 [12,13,14,6,15,16,18,19,20,21,17,22,23,7,8,24,25,26,27,28,29,30,31,0,32,11] ⟨[0,9,10,11],⟨[(.view 0),.hole,.hole,.hole],[.seq false],[1,2,2,0],[.sl (.one (.int .i64)),.int .i64,.int .i64,.sl (.one (.int .i64))]⟩⟩ [((.exit 0),⟨[0],⟨[(.view 0)],[.seq false],[0],[.sl (.one (.int .i64))]⟩⟩)] (lp term_Seen_1_L0 fuel)
theorem w24_u0_ok:UK w24_v (subC (bodyOf Tryz.f127) [1,0,1,0]) w24_u0:=lp_k .run hord w24_A ob0
theorem w24_ok:SK 127 w24_c:=fn_k (.seq .run (.seq (.seq .run (.block (.unit w24_u0))) .run)) [.tmp 4] tb_ok hord w24_gs Tryz.func127 (ob1 w24_u0_ok ob0)
def w25_c:ShC:=⟨⟨[.hole,(.agg [.hole,.hole,.hole])],[],[1,1,1,1],[.sl tSym,.sl tLit,.sl (.one (.sl (.one (.int .i64)))),.sl tLit]⟩,⟨[(.view 0),.hole],[.seq false],[2,0],[.int .i64,.sl (.one (.int .i64))]⟩,2,[],[],true,true,fun (x:((List QSym)×(List QLit)×(List (List Int))×(List QLit)))=>clause_Vars x.1 x.2.1 x.2.2.1 x.2.2.2⟩
theorem w25_gs:GD w25_c [(15,.gen (altE [w15_c])),(113,.gen (altE [w18_c])),(127,.gen (altE [w24_c]))]:=(gdG w15_ok (gd1 w18_ok (gd1 w24_ok goods_nil)))
def w25_v:=envG tb gl w25_gs w25_c Tryz.f99
theorem w25_A:VK w25_v:=env_all tb_ok w25_gs
def w25_u1:Un:=lpU 2 [35,36,37,10,38,39,40,6,41,34] ⟨[6,32,33,34],⟨[(.view 0),.hole,.hole,.hole],[.seq false],[1,2,2,0],[.sl (.one (.sl (.one (.int .i64)))),.int .i64,.int .i64,.sl (.one (.int .i64))]⟩⟩ [((.exit 2),⟨[6],⟨[(.view 0)],[.seq false],[0],[.sl (.one (.int .i64))]⟩⟩)] (lp clause_Vars_L1 fuel)
theorem w25_u1_ok:UK w25_v (subC (bodyOf Tryz.f99) [1,1,1,1,0,1,0]) w25_u1:=lp_k .run hord w25_A ob0
def w25_u0:Un:=lpU 2 [23,24,25,8,26,27,28,29,6,30,22] ⟨[3,6,20,21,22],⟨[(.ptr 0 0),(.view 1),.hole,.hole,.hole],[.cells true [.hole,.hole,.hole],.seq false],[0,2,2,1,1,1,0],[.sl tLit,.int .i64,.int .i64,.sl tLit,.sl (.one (.sl (.one (.int .i64)))),.sl tLit,.sl (.one (.int .i64))]⟩⟩ [((.exit 0),⟨[6],⟨[(.view 0)],[.seq false],[0],[.sl (.one (.int .i64))]⟩⟩)] (lp clause_Vars_L0 fuel)
theorem w25_u0_ok:UK w25_v (subC (bodyOf Tryz.f99) [1,1,1,0,1,0]) w25_u0:=lp_k .run hord w25_A ob0
theorem w25_ok:SK 99 w25_c:=fn_k (.seq .run (.seq .run (.seq .run (.seq (.seq .run (.block (.unit w25_u0))) (.seq (.seq .run (.block (.unit w25_u1))) .run))))) [.tmp 4,.tmp 5] tb_ok hord w25_gs Tryz.func99 (ob1 w25_u0_ok (ob1 w25_u1_ok ob0))
def w26_c:ShC:=⟨⟨[.hole],[],[1],[.ns (.one (.int .i64))]⟩,⟨[(.view 0)],[.seq false],[2],[.sl (.one (.int .i64))]⟩,1,[],[],false,false,fun (x:(Option (List Int)))=>slices_Clone x⟩
theorem w26_ok:SK 105 w26_c:=fn_k .run [.tmp 2] tb_ok hord goods_nil Tryz.func105 ob0
def w27_c:ShC:=⟨⟨[.nilv],[],[],[]⟩,⟨[(.view 0)],[.seq false],[2],[.sl (.one (.int .i64))]⟩,1,[],[],false,false,fun (_:Unit)=>slices_Clone_1⟩
theorem w27_ok:SK 105 w27_c:=fn_k .run [.tmp 2] tb_ok hord goods_nil Tryz.func105 ob0
def w28_c:ShC:=⟨⟨[.hole],[],[1],[.sl (.one (.int .i64))]⟩,⟨[(.view 0)],[.seq false],[2],[.sl (.one (.int .i64))]⟩,1,[],[],false,false,fun (x:(List Int))=>slices_CloneN x⟩
theorem w28_ok:SK 105 w28_c :=
 sh_nil w27_ok w26_ok fun xs y h=>⟨h,fun e=>by subst e; exact h⟩
def w29_c:ShC:=⟨⟨[.hole,(.ptr 0 0)],[.cells true [.hole]],[1,1],[.sl (.one (.int .i64)),.int .i64]⟩,⟨[(.view 0)],[.seq false],[2],[.sl (.one (.int .i64))]⟩,1,[],[],false,false,fun (x:((List Int)×Int))=>clause_Shift_c1 x.1 x.2⟩
theorem w29_gs:GD w29_c [(105,.gen (altE [w28_c]))]:=(gd1 w28_ok goods_nil)
def w29_v:=envG tb gl w29_gs w29_c Tryz.f128
theorem w29_A:VK w29_v:=env_all tb_ok w29_gs
def w29_u0:Un:=lpU 2 [12,13,14,15,5,6,16,17,18,19,20,21,22,23,24,11] ⟨[1,4,9,10,11],⟨[(.ptr 0 0),(.view 1),(.view 1),.hole,.hole],[.cells true [.hole],.seq false],[2,2,2,2],[.int .i64,.int .i64,.int .i64,.sl (.one (.int .i64))]⟩⟩ [((.exit 0),⟨[4],⟨[(.view 0)],[.seq false],[2],[.sl (.one (.int .i64))]⟩⟩)] (lp clause_Shift_c1_L0 fuel)
theorem w29_u0_ok:UK w29_v (subC (bodyOf Tryz.f128) [1,1,0,1,0]) w29_u0:=lp_k .run hord w29_A ob0
theorem w29_ok:SK 128 w29_c:=fn_k (.seq .run (.seq .run (.seq (.seq .run (.block (.unit w29_u0))) .run))) [.tmp 3] tb_ok hord w29_gs Tryz.func128 (ob1 w29_u0_ok ob0)
def w30_c:ShC:=⟨⟨[(.agg [.hole,.hole,.hole]),(.clo 128 [(.ptr 0 0)])],[.cells true [.hole]],[1,1,1,1],[.sl tLit,.sl (.one (.sl (.one (.int .i64)))),.sl tLit,.int .i64]⟩,⟨[(.agg [(.view 0),(.view 1),(.view 2)])],[.seq false,.seq false,.seq false],[2,2,2],[.sl tLit,.sl (.one (.sl (.one (.int .i64)))),.sl tLit]⟩,1,[],[],false,false,fun (x:((List QLit)×(List (List Int))×(List QLit)×Int))=>clause_each_2 x.1 x.2.1 x.2.2.1 x.2.2.2⟩
theorem w30_gs:GD w30_c [(128,.gen (altE [w29_c]))]:=(gd1 w29_ok goods_nil)
def w30_v:=envG tb gl w30_gs w30_c Tryz.f110
theorem w30_A:VK w30_v:=env_all tb_ok w30_gs
def w30_u2:Un:=lpU 2 [52,53,54,11,55,56,57,58,59,60,61,62,63,64,65,66,67,51] ⟨[1,4,5,49,50,51],⟨[(.clo 128 [(.ptr 0 0)]),(.ptr 1 0),(.ptr 2 0),.hole,.hole,.hole],[.cells true [.hole],.cells true [.nilv,.nilv,.nilv],.cells false [(.view 3),(.view 4),(.view 5)],.seq false,.seq false,.seq false],[1,2,2,2,2,2,2],[.sl tLit,.int .i64,.int .i64,.int .i64,.sl tLit,.sl (.one (.sl (.one (.int .i64)))),.sl tLit]⟩⟩ [((.exit 4),⟨[5],⟨[(.ptr 0 0)],[.cells false [(.view 1),(.view 2),(.view 3)],.seq false,.seq false,.seq false],[2,2,2],[.sl tLit,.sl (.one (.sl (.one (.int .i64)))),.sl tLit]⟩⟩)] (lp clause_each_2_L2 fuel)
theorem w30_u2_ok:UK w30_v (subC (bodyOf Tryz.f110) [1,1,1,1,0,1,0]) w30_u2:=lp_k .run hord w30_A ob0
def w30_u1:Un:=lpU 2 [36,37,38,9,39,40,41,42,43,44,45,46,47,35] ⟨[1,2,4,5,33,34,35],⟨[(.clo 128 [(.ptr 0 0)]),(.ptr 1 0),(.ptr 2 0),(.ptr 3 0),.hole,.hole,.hole],[.cells true [.hole],.cells true [.hole,.hole,.hole],.cells true [.nilv,.nilv,.nilv],.cells false [(.view 4),(.view 5),.nilv],.seq false,.seq false],[1,2,2,2,1,1,1,2,2],[.sl (.one (.sl (.one (.int .i64)))),.int .i64,.int .i64,.int .i64,.sl tLit,.sl (.one (.sl (.one (.int .i64)))),.sl tLit,.sl tLit,.sl (.one (.sl (.one (.int .i64))))]⟩⟩ [((.exit 2),⟨[5],⟨[(.ptr 0 0)],[.cells false [(.view 1),(.view 2),.nilv],.seq false,.seq false],[2,2],[.sl tLit,.sl (.one (.sl (.one (.int .i64))))]⟩⟩)] (lp clause_each_2_L1 fuel)
theorem w30_u1_ok:UK w30_v (subC (bodyOf Tryz.f110) [1,1,1,0,1,0]) w30_u1:=lp_k .run hord w30_A ob0
def w30_u0:Un:=lpU 2 [16,17,18,7,19,20,21,22,23,24,25,26,27,28,29,30,31,15] ⟨[1,2,4,5,13,14,15],⟨[(.clo 128 [(.ptr 0 0)]),(.ptr 1 0),(.ptr 2 0),(.ptr 3 0),.hole,.hole,.hole],[.cells true [.hole],.cells true [.hole,.hole,.hole],.cells true [.nilv,.nilv,.nilv],.cells false [(.view 4),.nilv,.nilv],.seq false],[1,2,2,2,1,1,1,2],[.sl tLit,.int .i64,.int .i64,.int .i64,.sl tLit,.sl (.one (.sl (.one (.int .i64)))),.sl tLit,.sl tLit]⟩⟩ [((.exit 0),⟨[5],⟨[(.ptr 0 0)],[.cells false [(.view 1),.nilv,.nilv],.seq false],[2],[.sl tLit]⟩⟩)] (lp clause_each_2_L0 fuel)
theorem w30_u0_ok:UK w30_v (subC (bodyOf Tryz.f110) [1,1,0,1,0]) w30_u0:=lp_k .run hord w30_A ob0
theorem w30_ok:SK 110 w30_c:=fn_k (.seq .run (.seq .run (.seq (.seq .run (.block (.unit w30_u0))) (.seq (.seq .run (.block (.unit w30_u1))) (.seq (.seq .run (.block (.unit w30_u2))) .run))))) [.cell 4 26] tb_ok hord w30_gs Tryz.func110 (ob1 w30_u0_ok (ob1 w30_u1_ok (ob1 w30_u2_ok ob0)))
def w31_c:ShC:=⟨⟨[(.agg [.hole,.hole,.hole]),.hole],[],[1,1,1,1],[.sl tLit,.sl (.one (.sl (.one (.int .i64)))),.sl tLit,.int .i64]⟩,⟨[(.agg [(.view 0),(.view 1),(.view 2)])],[.seq false,.seq false,.seq false],[2,2,2],[.sl tLit,.sl (.one (.sl (.one (.int .i64)))),.sl tLit]⟩,1,[],[],false,false,fun (x:((List QLit)×(List (List Int))×(List QLit)×Int))=>clause_Shift x.1 x.2.1 x.2.2.1 x.2.2.2⟩
theorem w31_ok:SK 100 w31_c:=fn_k .run [.cell 4 26] tb_ok hord (gd1 w30_ok goods_nil) Tryz.func100 ob0
def w32_c:ShC:=⟨⟨[.hole,(.agg [.hole,.hole,.hole]),(.agg [.hole,.hole,.hole])],[],[1,1,1,1,1,1,1],[.sl tSym,.sl tLit,.sl (.one (.sl (.one (.int .i64)))),.sl tLit,.sl tLit,.sl (.one (.sl (.one (.int .i64)))),.sl tLit]⟩,⟨[(.agg [(.view 0),(.view 1),(.view 2)]),.hole],[.seq false,.seq false,.seq false],[2,2,2,2],[.bool,.sl tLit,.sl (.one (.sl (.one (.int .i64)))),.sl tLit]⟩,2,[],[],false,true,fun (x:((List QSym)×(List QLit)×(List (List Int))×(List QLit)×(List QLit)×(List (List Int))×(List QLit)))=>resolve_Apart_1 x.1 x.2.1 x.2.2.1 x.2.2.2.1 x.2.2.2.2.1 x.2.2.2.2.2.1 x.2.2.2.2.2.2⟩
theorem w32_ok:SK 62 w32_c:=fn_k .run [.cell 6 26,.tmp 7] tb_ok hord (gdG w25_ok (gd1 w31_ok goods_nil)) Tryz.func62 ob0
def w33_c:ShC:=⟨⟨[.hole,.hole],[],[1,1],[.sl tSym,.sl (.one (.int .i64))]⟩,⟨[(.view 0)],[.seq false],[0],[.sl (.one (.sl (.one (.int .i64))))]⟩,1,[],[],true,false,fun (x:((List QSym)×(List Int)))=>term_Pieces x.1 x.2⟩
theorem w33_gs:GD w33_c [(64,.gen (altE [w8_c]))]:=(gd1 w8_ok goods_nil)
def w33_v:=envG tb gl w33_gs w33_c Tryz.f101
theorem w33_A:VK w33_v:=env_all tb_ok w33_gs
def w33_u0:Un:=lpU 2 [9,10,11,12,14,15,16,17,13,18,19,7,8,20,21,22,4,23,24,25,26,27,28,29,5,30,6] ⟨[0,1,5,6],⟨[.hole,.hole,(.view 0),.hole],[.seq false],[1,1,2,0],[.sl tSym,.sl (.one (.int .i64)),.int .i64,.sl (.one (.sl (.one (.int .i64))))]⟩⟩ [((.exit 0),⟨[5],⟨[(.view 0)],[.seq false],[0],[.sl (.one (.sl (.one (.int .i64))))]⟩⟩),(.ret,⟨[4],⟨[(.view 0)],[.seq false],[0],[.sl (.one (.sl (.one (.int .i64))))]⟩⟩)] (lp term_Pieces_L0 fuel)
theorem w33_u0_ok:UK w33_v (subC (bodyOf Tryz.f101) [1,1,0,1,0]) w33_u0:=lp_k .run hord w33_A ob0
theorem w33_ok:SK 101 w33_c:=fn_k (.seq .run (.seq .run (.seq (.seq .run (.block (.unit w33_u0))) .run))) [.tmp 4] tb_ok hord w33_gs Tryz.func101 (ob1 w33_u0_ok ob0)
def w34_c:ShC:=⟨⟨[.hole,.hole],[],[1,1],[.sl tSym,.sl (.one (.int .i64))]⟩,⟨[(.view 0)],[.seq false],[0],[.sl (.one (.sl (.one (.int .i64))))]⟩,1,[],[],true,false,fun (x:((List QSym)×(List Int)))=>resolve_Sides x.1 x.2⟩
theorem w34_ok:SK 63 w34_c:=fn_k .run [.tmp 4] tb_ok hord (gd1 w33_ok goods_nil) Tryz.func63 ob0
def w35_c:ShC:=⟨⟨[(.ptr 0 0),(.view 1),(.agg [.hole,.hole]),(.agg [.hole,.hole])],[.cells true [.hole,.hole],.seq false],[1,1,1,1,1,1,1],[.sl (.one (.int .i64)),.int .i64,.sl (.one (.int .i64)),.int .i64,.sl tSym,.ar (.cons (.ns (.one (.int .i64))) (.one (.int .i64))) 48,.sl (.cons (.sl (.one (.int .i64))) (.cons (.int .i64) (.cons (.sl (.one (.int .i64))) (.one (.int .i64)))))]⟩,⟨[(.view 0)],[.seq false],[0],[.sl (.cons (.sl (.one (.int .i64))) (.cons (.int .i64) (.cons (.sl (.one (.int .i64))) (.one (.int .i64)))))]⟩,1,[],[],true,false,fun (x:((List Int)×Int×(List Int)×Int×(List QSym)×(List ((Option (List Int))×Int))×(List ((List Int)×Int×(List Int)×Int))))=>unify_run_pairs_1 x.1 x.2.1 x.2.2.1 x.2.2.2.1 x.2.2.2.2.1 x.2.2.2.2.2.1 x.2.2.2.2.2.2⟩
theorem w35_gs:GD w35_c [(101,.gen (altE [w33_c]))]:=(gd1 w33_ok goods_nil)
def w35_v:=envG tb gl w35_gs w35_c Tryz.f129
theorem w35_A:VK w35_v:=env_all tb_ok w35_gs
def w35_u0:Un:=lpU 2 [29,30,11,31,32,33,34,35,36,37,38,39,40,41,42,43,44,45,46,47,48,1,49,28] ⟨[1,6,7,9,10,27,28],⟨[(.view 0),(.ptr 1 0),(.ptr 2 0),.hole,.hole,.hole,.hole],[.seq false,.cells true [.hole,.hole],.cells true [.hole,.hole]],[0,0,2,2,0,1,2,1,2],[.sl (.one (.sl (.one (.int .i64)))),.sl (.one (.sl (.one (.int .i64)))),.int .i64,.int .i64,.sl (.cons (.sl (.one (.int .i64))) (.cons (.int .i64) (.cons (.sl (.one (.int .i64))) (.one (.int .i64))))),.sl (.one (.int .i64)),.int .i64,.sl (.one (.int .i64)),.int .i64]⟩⟩ [((.exit 0),⟨[1],⟨[(.view 0)],[.seq false],[0],[.sl (.cons (.sl (.one (.int .i64))) (.cons (.int .i64) (.cons (.sl (.one (.int .i64))) (.one (.int .i64)))))]⟩⟩)] (lp unify_run_pairs_1_L0 fuel)
theorem w35_u0_ok:UK w35_v (subC (bodyOf Tryz.f129) [1,1,0,1,0]) w35_u0:=lp_k .run hord w35_A ob0
theorem w35_ok:SK 129 w35_c:=fn_k (.seq .run (.seq .run (.seq (.seq .run (.block (.unit w35_u0))) .run))) [.tmp 8] tb_ok hord w35_gs Tryz.func129 (ob1 w35_u0_ok ob0)
def w36_c:ShC:=⟨⟨[(.agg [.hole,.hole]),.hole],[],[1,1,1],[.sl (.one (.int .i64)),.int .i64,.int .i64]⟩,⟨[.hole],[],[2],[.int .i64]⟩,1,[],[],false,false,fun (x:((List Int)×Int×Int))=>unify_piece_number x.1 x.2.1 x.2.2⟩
theorem w36_ok:SK 132 w36_c:=fn_k .run [.tmp 4] tb_ok hord (gd1 w6_ok goods_nil) Tryz.func132 ob0
def w37_c:ShC:=⟨⟨[(.ptr 0 0),(.agg [.hole,.hole])],[.cells true [.hole,.hole]],[1,1,1,1],[.sl (.one (.int .i64)),.int .i64,.sl tSym,.ar (.cons (.ns (.one (.int .i64))) (.one (.int .i64))) 48]⟩,⟨[(.agg [.hole,.hole])],[],[1,2],[.sl (.one (.int .i64)),.int .i64]⟩,1,[],[],true,false,fun (x:((List Int)×Int×(List QSym)×(List ((Option (List Int))×Int))))=>unify_run_what x.1 x.2.1 x.2.2.1 x.2.2.2⟩
theorem w37_gs:GD w37_c [(132,.gen (altE [w36_c]))]:=(gd1 w36_ok goods_nil)
def w37_v:=envG tb gl w37_gs w37_c Tryz.f130
theorem w37_A:VK w37_v:=env_all tb_ok w37_gs
def w37_u0:Un:=lpU 2 [6,7,8,9,10,11,12,13,14,15,16,17,18,19,20,21,5,22,23,24,25] ⟨[0,3,4],⟨[(.ptr 0 0),(.ptr 1 0),(.ptr 2 0)],[.cells true [.hole,.hole],.cells false [.hole,.hole],.cells true [.nilv,.hole]],[1,1,1,2,2],[.sl tSym,.ar (.cons (.ns (.one (.int .i64))) (.one (.int .i64))) 48,.sl (.one (.int .i64)),.int .i64,.int .i64]⟩⟩ [((.exit 0),⟨[3],⟨[(.ptr 0 0)],[.cells false [.hole,.hole]],[1,2],[.sl (.one (.int .i64)),.int .i64]⟩⟩)] (lp unify_run_what_L0 fuel)
theorem w37_u0_ok:UK w37_v (subC (bodyOf Tryz.f130) [1,0,0]) w37_u0:=lp_k .run hord w37_A ob0
theorem w37_ok:SK 130 w37_c:=fn_k (.seq .run (.seq (.block (.unit w37_u0)) .run)) [.cell 4 144] tb_ok hord w37_gs Tryz.func130 (ob1 w37_u0_ok ob0)
def w38_c:ShC:=⟨⟨[(.ptr 0 0),.hole,(.agg [.hole,.hole])],[.cells true [.hole,.hole]],[1,1,1,1,1],[.int .i64,.sl (.one (.int .i64)),.int .i64,.sl tSym,.ar (.cons (.ns (.one (.int .i64))) (.one (.int .i64))) 48]⟩,⟨[.hole],[],[2],[.bool]⟩,1,[],[],false,false,fun (x:(Int×(List Int)×Int×(List QSym)×(List ((Option (List Int))×Int))))=>unify_run_within x.1 x.2.1 x.2.2.1 x.2.2.2.1 x.2.2.2.2⟩
theorem w38_gs:GD w38_c [(132,.gen (altE [w36_c])),(1000027,.gen (altE []))]:=(gd1 w36_ok (gd0 1000027 goods_nil))
def w38_v:=envG tb gl w38_gs w38_c Tryz.f150
theorem w38_A:VK w38_v:=env_all tb_ok w38_gs
def w38_u0:Un:=lpU 2 [32,33,34,10,35,36,37,38,39,11,40,41,42,6,43,44,45,46,47,48,49,50,51,52,53,54,55,56,57,58,59,60,61,62,63,64,65,66,67,8,68,31] ⟨[0,1,5,7,8,29,30,31],⟨[(.ptr 0 0),.hole,(.ptr 1 0),(.aptr 2),(.view 3),.hole,.hole,.hole],[.cells true [.hole,.hole],.cells true [.hole,.hole],.seq false,.seq false],[2,0,2,2,1,1,0,2,2,0],[.int .i64,.sl (.one (.int .i64)),.int .i64,.int .i64,.sl tSym,.ar (.cons (.ns (.one (.int .i64))) (.one (.int .i64))) 48,.sl (.one (.int .i64)),.int .i64,.sl (.one .bool),.sl (.cons (.sl (.one (.int .i64))) (.one (.int .i64)))]⟩⟩ [((.exit 2),⟨[7,8],⟨[(.aptr 0),(.view 1)],[.seq false,.seq false],[2,0],[.sl (.one .bool),.sl (.cons (.sl (.one (.int .i64))) (.one (.int .i64)))]⟩⟩),(.ret,⟨[6],⟨[.hole],[],[2],[.bool]⟩⟩)] (lp unify_run_within_L0 fuel)
theorem w38_u0_ok:UK w38_v (subC (bodyOf Tryz.f150) [1,1,1,0,0,0,1,0,1,1,1,0]) w38_u0:=lp_k .run hord w38_A ob0
def w38_u1:Un:=lpU 2 [14,15,16,17,18,19,20,21,22,23,24,25,26,27,8,28,29,30,31,32,33,34,10,35,36,37,38,39,11,40,41,42,6,43,44,45,46,47,48,49,50,51,52,53,54,55,56,57,58,59,60,61,62,63,64,65,66,67,8,68,31] ⟨[0,1,5,7,8],⟨[(.ptr 0 0),.hole,(.ptr 1 0),(.aptr 2),(.view 3)],[.cells true [.hole,.hole],.cells false [.hole,.hole],.seq false,.seq false],[2,1,1,0,2,2,0],[.int .i64,.sl tSym,.ar (.cons (.ns (.one (.int .i64))) (.one (.int .i64))) 48,.sl (.one (.int .i64)),.int .i64,.sl (.one .bool),.sl (.cons (.sl (.one (.int .i64))) (.one (.int .i64)))]⟩⟩ [((.exit 0),⟨[],⟨[],[],[],[]⟩⟩),(.ret,⟨[6],⟨[.hole],[],[2],[.bool]⟩⟩)] (lp unify_run_within_L1 fuel)
theorem w38_u1_ok:UK w38_v (subC (bodyOf Tryz.f150) [1,1,1,0,0]) w38_u1:=lp_k (.seq .run (.block (.seq .run (.seq .run (.seq .run (.block (.unit w38_u0))))))) hord w38_A (ob1 w38_u0_ok ob0)
theorem w38_ok:SK 150 w38_c:=fn_k (.seq .run (.seq .run (.seq .run (.seq (.block (.unit w38_u1)) .run)))) [.tmp 6] tb_ok hord w38_gs Tryz.func150 (ob1 w38_u1_ok ob0)
def w39_c:ShC:=⟨⟨[(.ptr 0 0),(.agg [.hole,.hole]),(.agg [.hole,.hole])],[.cells false [.hole,.hole]],[1,1,1,1,1,1],[.sl (.one (.int .i64)),.int .i64,.sl (.one (.int .i64)),.int .i64,.sl tSym,.ar (.cons (.ns (.one (.int .i64))) (.one (.int .i64))) 48]⟩,⟨[.hole,(.ptr 0 0)],[.cells false [.hole,.hole]],[2,1,0],[.bool,.sl tSym,.ar (.cons (.ns (.one (.int .i64))) (.one (.int .i64))) 48]⟩,1,[0],[(0,0)],true,false,fun (x:((List Int)×Int×(List Int)×Int×(List QSym)×(List ((Option (List Int))×Int))))=>unify_run_put_1 x.1 x.2.1 x.2.2.1 x.2.2.2.1 x.2.2.2.2.1 x.2.2.2.2.2⟩
theorem w39_ok:SK 131 w39_c:=fn_k .run [.tmp 6] tb_ok hord (gd1 w36_ok (gd1 w38_ok goods_nil)) Tryz.func131 ob0
def w40_c:ShC:=⟨⟨[(.ptr 0 0),(.agg [.hole,.hole]),(.agg [.hole,.hole])],[.cells false [.hole,.hole]],[1,1,1,1,1,1],[.sl (.one (.int .i64)),.int .i64,.sl (.one (.int .i64)),.int .i64,.sl tSym,.ar (.cons (.ns (.one (.int .i64))) (.one (.int .i64))) 48]⟩,⟨[.hole,(.ptr 0 0)],[.cells false [.hole,.hole]],[2,0,0],[.bool,.sl tSym,.ar (.cons (.ns (.one (.int .i64))) (.one (.int .i64))) 48]⟩,1,[0],[(0,0)],true,false,fun (x:((List Int)×Int×(List Int)×Int×(List QSym)×(List ((Option (List Int))×Int))))=>unify_run_same_1 x.1 x.2.1 x.2.2.1 x.2.2.2.1 x.2.2.2.2.1 x.2.2.2.2.2⟩
theorem w40_gs:GD w40_c [(129,.gen (altE [w35_c])),(130,.gen (altE [w37_c])),(131,.gen (altE [w39_c])),(1000039,.gen (altE []))]:=(gd1 w35_ok (gd1 w37_ok (gd1 w39_ok (gd0 1000039 goods_nil))))
def w40_v:=envG tb gl w40_gs w40_c Tryz.f103
theorem w40_A:VK w40_v:=env_all tb_ok w40_gs
def w40_u0:Un:=scU w40_v [10,11,12,13,7,14,15,16,6,17,18,19,20,21,22,23,24,25,26,27,28,29,30,31,32,33,34,8,9,35,36,37,38,39,7,41,42,43,44,45,40,46,47,48,49,6,51,52,53,54,55,50,56,57,58,59,6,61,62,63,64,65,66,67,68,69,60,6,70,71,72,73,74,75,76,77,78,79,80,81,82,83,84,7] [(.goto 0,⟨[0,7],⟨[(.ptr 0 0),(.view 1)],[.cells false [.hole,.hole],.seq false],[0,0,0],[.sl tSym,.ar (.cons (.ns (.one (.int .i64))) (.one (.int .i64))) 48,.sl (.cons (.sl (.one (.int .i64))) (.cons (.int .i64) (.cons (.sl (.one (.int .i64))) (.one (.int .i64)))))]⟩⟩)] [(.ret,⟨[0,6],⟨[(.ptr 0 0),.hole],[.cells false [.hole,.hole]],[2,0,0],[.bool,.sl tSym,.ar (.cons (.ns (.one (.int .i64))) (.one (.int .i64))) 48]⟩⟩)] (innC (subC (bodyOf Tryz.f103) [1])) .run (lp unify_run_same_1_L0 fuel)
theorem w40_u0_ok:UK w40_v (subC (bodyOf Tryz.f103) [1]) w40_u0:=sc_k [] hord w40_A ob0 acl0
theorem w40_ok:SK 103 w40_c:=fn_k (.seq .run (.unit w40_u0)) [.tmp 6] tb_ok hord w40_gs Tryz.func103 (ob1 w40_u0_ok ob0)
def w41_c:ShC:=⟨⟨[(.agg [.hole,.hole]),.hole],[],[1,1,1],[.ns (.one (.int .i64)),.int .i64,.int .i64]⟩,⟨[.hole],[],[2],[.int .i64]⟩,1,[],[],false,false,fun (x:((Option (List Int))×Int×Int))=>unify_piece_number_1 x.1 x.2.1 x.2.2⟩
theorem w41_ok:SK 132 w41_c:=fn_k .run [.tmp 4] tb_ok hord (gd1 w6_ok goods_nil) Tryz.func132 ob0
def w42_ck (k:Nat):ShC:=⟨⟨[(.ptr 0 0),(.agg [.hole,.hole])],[.cells true [.hole,.hole]],[1,1,1,1],[.ns (.one (.int .i64)),.int .i64,.sl tSym,.ar (.cons (.ns (.one (.int .i64))) (.one (.int .i64))) 48]⟩,⟨[.hole],[],[2],[.ns (.one (.int .i64))]⟩,1,[],[],false,false,(unify_run_whole_R k)⟩
def w42_c:ShC:=⟨⟨[(.ptr 0 0),(.agg [.hole,.hole])],[.cells true [.hole,.hole]],[1,1,1,1],[.ns (.one (.int .i64)),.int .i64,.sl tSym,.ar (.cons (.ns (.one (.int .i64))) (.one (.int .i64))) 48]⟩,⟨[.hole],[],[2],[.ns (.one (.int .i64))]⟩,1,[],[],false,false,fun (x:((Option (List Int))×Int×(List QSym)×(List ((Option (List Int))×Int))))=>unify_run_whole x.1 x.2.1 x.2.2.1 x.2.2.2⟩
def w42_R_H (k:Nat):Prop:=SK 104 (w42_ck k)
def w42_g (k:Nat):List (Nat×Con):=[(104,.gen (altE [w42_ck k])),(132,.gen (altE [w41_c]))]
theorem w42_gs (k:Nat) (h:w42_R_H k):GD (w42_ck (k+1)) (w42_g k):=(gd1 h (gd1 w41_ok goods_nil))
def w42_v (k:Nat):Env:=envOf tb gl (w42_g k) (w42_ck (k+1)) Tryz.f104.ntmps
theorem w42_A (k:Nat) (h:w42_R_H k):VK (w42_v k):=env_all tb_ok (w42_gs k h)
def w42_u0 (k:Nat):Un:=lpU 2 [13,14,15,7,16,17,8,18,19,20,21,22,23,24,25,26,27,28,29,30,31,32,33,34,35,36,37,38,39,40,41,8,42,43,44,45,46,47,48,49,50,51,4,52,53,54,5,55,12] ⟨[0,3,5,10,11,12],⟨[(.ptr 0 0),(.ptr 1 0),(.view 2),.hole,.hole,.hole],[.cells true [.hole,.hole],.cells true [.hole,.hole],.seq false],[1,2,2,1,1,1,2,2],[.ns (.one (.int .i64)),.int .i64,.int .i64,.sl tSym,.ar (.cons (.ns (.one (.int .i64))) (.one (.int .i64))) 48,.ns (.one (.int .i64)),.int .i64,.sl (.one (.int .i64))]⟩⟩ [((.exit 0),⟨[5],⟨[(.view 0)],[.seq false],[2],[.sl (.one (.int .i64))]⟩⟩),(.ret,⟨[4],⟨[.nilv],[],[],[]⟩⟩)] (lp (unify_run_whole_L0 (unify_run_whole_R k)) fuel)
theorem w42_u0_ok (k:Nat) (h:w42_R_H k):UK (w42_v k) (subC (bodyOf Tryz.f104) [1,1,0,1,0]) (w42_u0 k):=lp_k .run hord (w42_A k h) ob0
theorem w42_ok1 (k:Nat) (h:w42_R_H k):SK 104 (w42_ck (k+1)):=fn_k (.seq .run (.seq .run (.seq (.seq .run (.block (.unit (w42_u0 k)))) .run))) [.tmp 4] tb_ok hord (w42_gs k h) Tryz.func104 (ob1 (w42_u0_ok k h) ob0)
theorem w42_R_all:∀ k,w42_R_H k
 | 0=>sh_base (by kernel_rfl) fun _=>rfl
 | k+1=>have h:=w42_R_all k; w42_ok1 k h
theorem w42_ok:SK 104 w42_c:=(w42_R_all fuel)
def w43_c:ShC:=⟨⟨[.hole,.hole,.hole],[],[1,1,1],[.sl tSym,.sl (.one (.int .i64)),.sl (.one (.int .i64))]⟩,⟨[(.view 0),.hole,.hole],[.seq false],[2,2,2],[.bool,.int .i64,.sl (.cons (.int .i64) (.one (.sl (.one (.int .i64)))))]⟩,3,[],[],false,true,fun (x:((List QSym)×(List Int)×(List Int)))=>unify_Unify x.1 x.2.1 x.2.2⟩
theorem w43_gs:GD w43_c [(91,.gen (altE [w13_c])),(103,.gen (altE [w40_c])),(104,.gen (altE [w42_c])),(105,.gen (altE [w28_c]))]:=(gdG w13_ok (gd1 w40_ok (gd1 w42_ok (gd1 w28_ok goods_nil))))
def w43_v:=envG tb gl w43_gs w43_c Tryz.f65
theorem w43_A:VK w43_v:=env_all tb_ok w43_gs
def w43_u0:Un:=lpU 2 [51,52,15,53,54,55,56,57,58,59,60,61,62,63,64,65,66,67,68,16,69,70,6,7,8,71,72,73,74,75,76,77,14,78,50] ⟨[13,14,50],⟨[(.ptr 0 0),(.view 1),.hole],[.cells true [.hole,.hole],.seq false],[2,0,0,2],[.int .i64,.sl tSym,.ar (.cons (.ns (.one (.int .i64))) (.one (.int .i64))) 48,.sl (.cons (.int .i64) (.one (.sl (.one (.int .i64)))))]⟩⟩ [((.exit 0),⟨[14],⟨[(.view 0)],[.seq false],[2],[.sl (.cons (.int .i64) (.one (.sl (.one (.int .i64)))))]⟩⟩),(.ret,⟨[6,7,8],⟨[.nilv,.hole,.hole],[],[2,2],[.bool,.int .i64]⟩⟩)] (lp unify_Unify_L0 fuel)
theorem w43_u0_ok:UK w43_v (subC (bodyOf Tryz.f65) [1,1,1,1,1,1,1,0,1,0]) w43_u0:=lp_k .run hord w43_A ob0
theorem w43_ok:SK 65 w43_c:=fn_k (.seq .run (.seq .run (.seq .run (.seq .run (.seq .run (.seq .run (.seq .run (.seq (.seq .run (.block (.unit w43_u0))) .run)))))))) [.tmp 6,.tmp 7,.tmp 8] tb_ok hord w43_gs Tryz.func65 (ob1 w43_u0_ok ob0)
def w44_c:ShC:=⟨⟨[.hole,.hole],[],[1,1],[.sl (.cons (.int .i64) (.one (.sl (.one (.int .i64))))),.int .i64]⟩,⟨[.hole],[],[0],[.ns (.one (.int .i64))]⟩,1,[],[],true,false,fun (x:((List (Int×(List Int)))×Int))=>bind_find x.1 x.2⟩
theorem w44_gs:GD w44_c []:=goods_nil
def w44_v:=envG tb gl w44_gs w44_c Tryz.f106
theorem w44_A:VK w44_v:=env_all tb_ok w44_gs
def w44_u0:Un:=lpU 2 [10,11,12,6,13,14,15,16,17,18,4,19,9] ⟨[1,7,8,9],⟨[.hole,.hole,.hole,.hole],[],[2,1,2,2],[.int .i64,.sl (.cons (.int .i64) (.one (.sl (.one (.int .i64))))),.int .i64,.int .i64]⟩⟩ [((.exit 0),⟨[],⟨[],[],[],[]⟩⟩),(.ret,⟨[4],⟨[.hole],[],[1],[.sl (.one (.int .i64))]⟩⟩)] (lp bind_find_L0 fuel)
theorem w44_u0_ok:UK w44_v (subC (bodyOf Tryz.f106) [1,0,1,0]) w44_u0:=lp_k .run hord w44_A ob0
theorem w44_ok:SK 106 w44_c:=fn_k (.seq .run (.seq (.seq .run (.block (.unit w44_u0))) .run)) [.tmp 4] tb_ok hord w44_gs Tryz.func106 (ob1 w44_u0_ok ob0)
def w45_c:ShC:=⟨⟨[.hole,.hole],[],[1,1],[.sl (.cons (.int .i64) (.one (.sl (.one (.int .i64))))),.sl (.one (.int .i64))]⟩,⟨[(.view 0)],[.seq false],[2],[.sl (.one (.int .i64))]⟩,1,[],[],false,false,fun (x:((List (Int×(List Int)))×(List Int)))=>bind_On x.1 x.2⟩
theorem w45_gs:GD w45_c [(106,.gen (altE [w44_c])),(107,.gen (altE [w6_c]))]:=(gd1 w44_ok (gd1 w6_ok goods_nil))
def w45_v:=envG tb gl w45_gs w45_c Tryz.f66
theorem w45_A:VK w45_v:=env_all tb_ok w45_gs
def w45_u0:Un:=lpU 2 [12,13,14,7,15,16,17,18,8,19,20,21,22,23,24,25,26,27,28,5,29,30,31,5,32,11] ⟨[0,5,9,10,11],⟨[.hole,(.view 0),.hole,.hole,.hole],[.seq false],[1,1,2,2,2],[.sl (.cons (.int .i64) (.one (.sl (.one (.int .i64))))),.sl (.one (.int .i64)),.int .i64,.int .i64,.sl (.one (.int .i64))]⟩⟩ [((.exit 0),⟨[5],⟨[(.view 0)],[.seq false],[2],[.sl (.one (.int .i64))]⟩⟩)] (lp bind_On_L0 fuel)
theorem w45_u0_ok:UK w45_v (subC (bodyOf Tryz.f66) [1,1,0,1,0]) w45_u0:=lp_k .run hord w45_A ob0
theorem w45_ok:SK 66 w45_c:=fn_k (.seq .run (.seq .run (.seq (.seq .run (.block (.unit w45_u0))) .run))) [.tmp 4] tb_ok hord w45_gs Tryz.func66 (ob1 w45_u0_ok ob0)
def w46_c:ShC:=⟨⟨[.hole,.hole],[],[1,1],[.sl tSym,.sl (.one (.int .i64))]⟩,⟨[.hole],[],[2],[.bool]⟩,1,[],[],false,true,fun (x:((List QSym)×(List Int)))=>term_IsTerm x.1 x.2⟩
theorem w46_ok:SK 40 w46_c:=fn_k .run [.tmp 4] tb_ok hord (gdG w9_ok goods_nil) Tryz.func40 ob0
def w47_c:ShC:=⟨⟨[.hole,.hole],[],[1,1],[.sl (.one (.int .i64)),.sl (.one (.int .i64))]⟩,⟨[.hole],[],[2],[.bool]⟩,1,[],[],false,false,fun (x:((List Int)×(List Int)))=>slices_Equal x.1 x.2⟩
theorem w47_gs:GD w47_c []:=goods_nil
def w47_v:=envG tb gl w47_gs w47_c Tryz.f42
theorem w47_A:VK w47_v:=env_all tb_ok w47_gs
def w47_u0:Un:=lpU 2 [14,15,5,16,17,18,19,20,21,22,23,24,4,25,13] ⟨[0,1,12,13],⟨[.hole,.hole,.hole,.hole],[],[1,1,2,2],[.sl (.one (.int .i64)),.sl (.one (.int .i64)),.int .i64,.int .i64]⟩⟩ [((.exit 0),⟨[],⟨[],[],[],[]⟩⟩),(.ret,⟨[4],⟨[.hole],[],[2],[.bool]⟩⟩)] (lp slices_Equal_L0 fuel)
theorem w47_u0_ok:UK w47_v (subC (bodyOf Tryz.f42) [1,1,0,1,0]) w47_u0:=lp_k .run hord w47_A ob0
theorem w47_ok:SK 42 w47_c:=fn_k (.seq .run (.seq .run (.seq (.seq .run (.block (.unit w47_u0))) .run))) [.tmp 4] tb_ok hord w47_gs Tryz.func42 (ob1 w47_u0_ok ob0)
def w48_c:ShC:=⟨⟨[.hole],[],[1],[.sl (.one (.int .i64))]⟩,⟨[.hole],[],[2],[.ar (.one (.int .i64)) 24]⟩,1,[],[],false,false,fun (x:(List Int))=>order_often x⟩
theorem w48_gs:GD w48_c [(107,.gen (altE [w6_c]))]:=(gd1 w6_ok goods_nil)
def w48_v:=envG tb gl w48_gs w48_c Tryz.f123
theorem w48_A:VK w48_v:=env_all tb_ok w48_gs
def w48_u0:Un:=lpU 2 [8,9,10,4,11,12,13,14,15,16,17,18,19,7] ⟨[2,5,6,7],⟨[(.aptr 0),.hole,.hole,.hole],[.seq false],[1,2,2,2],[.sl (.one (.int .i64)),.int .i64,.int .i64,.sl (.one (.int .i64))]⟩⟩ [((.exit 0),⟨[2],⟨[(.aptr 0)],[.seq false],[2],[.sl (.one (.int .i64))]⟩⟩)] (lp order_often_L0 fuel)
theorem w48_u0_ok:UK w48_v (subC (bodyOf Tryz.f123) [1,0,1,0]) w48_u0:=lp_k .run hord w48_A ob0
theorem w48_ok:SK 123 w48_c:=fn_k (.seq .run (.seq (.seq .run (.block (.unit w48_u0))) .run)) [.cell 2 158] tb_ok hord w48_gs Tryz.func123 (ob1 w48_u0_ok ob0)
def w49_c:ShC:=⟨⟨[.hole,.hole],[],[1,1],[.sl (.one (.int .i64)),.sl (.one (.int .i64))]⟩,⟨[.hole],[],[2],[.bool]⟩,1,[],[],false,false,fun (x:((List Int)×(List Int)))=>order_covers x.1 x.2⟩
theorem w49_gs:GD w49_c [(123,.gen (altE [w48_c]))]:=(gd1 w48_ok goods_nil)
def w49_v:=envG tb gl w49_gs w49_c Tryz.f86
theorem w49_A:VK w49_v:=env_all tb_ok w49_gs
def w49_u0:Un:=lpU 2 [13,14,7,15,16,17,18,19,20,21,4,22,12] ⟨[5,6,12],⟨[(.aptr 0),(.aptr 1),.hole],[.seq false,.seq false],[2,2,2],[.int .i64,.sl (.one (.int .i64)),.sl (.one (.int .i64))]⟩⟩ [((.exit 0),⟨[],⟨[],[],[],[]⟩⟩),(.ret,⟨[4],⟨[.hole],[],[2],[.bool]⟩⟩)] (lp order_covers_L0 fuel)
theorem w49_u0_ok:UK w49_v (subC (bodyOf Tryz.f86) [1,1,0,1,0]) w49_u0:=lp_k .run hord w49_A ob0
theorem w49_ok:SK 86 w49_c:=fn_k (.seq .run (.seq .run (.seq (.seq .run (.block (.unit w49_u0))) .run))) [.tmp 4] tb_ok hord w49_gs Tryz.func86 (ob1 w49_u0_ok ob0)
def w50_c:ShC:=⟨⟨[.hole,.hole],[],[1,1],[.sl tSym,.sl (.one (.int .i64))]⟩,⟨[.hole],[],[2],[.int .i64]⟩,1,[],[],false,false,fun (x:((List QSym)×(List Int)))=>term_Sum x.1 x.2⟩
theorem w50_gs:GD w50_c []:=goods_nil
def w50_v:=envG tb gl w50_gs w50_c Tryz.f87
theorem w50_A:VK w50_v:=env_all tb_ok w50_gs
def w50_u0:Un:=lpU 2 [11,12,13,7,14,15,16,17,5,18,19,20,21,22,23,24,5,25,10] ⟨[0,5,8,9,10],⟨[.hole,.hole,.hole,.hole,.hole],[],[1,2,1,2,2],[.sl tSym,.int .i64,.sl (.one (.int .i64)),.int .i64,.int .i64]⟩⟩ [((.exit 0),⟨[5],⟨[.hole],[],[2],[.int .i64]⟩⟩)] (lp term_Sum_L0 fuel)
theorem w50_u0_ok:UK w50_v (subC (bodyOf Tryz.f87) [1,1,0,1,0]) w50_u0:=lp_k .run hord w50_A ob0
theorem w50_ok:SK 87 w50_c:=fn_k (.seq .run (.seq .run (.seq (.seq .run (.block (.unit w50_u0))) .run))) [.tmp 4] tb_ok hord w50_gs Tryz.func87 (ob1 w50_u0_ok ob0)
def w51_c:ShC:=⟨⟨[.hole,.hole,.hole],[],[1,1,1],[.sl tSym,.sl (.one (.int .i64)),.sl (.one (.int .i64))]⟩,⟨[.hole,.hole],[],[0,0],[.sl (.one (.int .i64)),.sl (.one (.int .i64))]⟩,2,[],[],true,false,fun (x:((List QSym)×(List Int)×(List Int)))=>order_unlike x.1 x.2.1 x.2.2⟩
theorem w51_gs:GD w51_c [(42,.gen (altE [w47_c])),(101,.gen (altE [w33_c]))]:=(gd1 w47_ok (gd1 w33_ok goods_nil))
def w51_v:=envG tb gl w51_gs w51_c Tryz.f88
theorem w51_A:VK w51_v:=env_all tb_ok w51_gs
def w51_u0:Un:=lpU 2 [19,20,21,22,9,10,23,24,25,26,27,28,29,30,31,32,33,34,35,36,37,38,39,40,6,7,41,18] ⟨[8,16,17,18],⟨[.hole,.hole,.hole,.hole],[],[0,0,2,2],[.sl (.one (.sl (.one (.int .i64)))),.sl (.one (.sl (.one (.int .i64)))),.int .i64,.int .i64]⟩⟩ [((.exit 0),⟨[],⟨[],[],[],[]⟩⟩),(.ret,⟨[6,7],⟨[.hole,.hole],[],[0,0],[.sl (.one (.int .i64)),.sl (.one (.int .i64))]⟩⟩)] (lp order_unlike_L0 fuel)
theorem w51_u0_ok:UK w51_v (subC (bodyOf Tryz.f88) [1,1,0,1,0]) w51_u0:=lp_k .run hord w51_A ob0
theorem w51_ok:SK 88 w51_c:=fn_k (.seq .run (.seq .run (.seq (.seq .run (.block (.unit w51_u0))) .run))) [.tmp 6,.tmp 7] tb_ok hord w51_gs Tryz.func88 (ob1 w51_u0_ok ob0)
def w52_c:ShC:=⟨⟨[.hole,.hole,.hole],[],[1,1,1],[.sl tSym,.sl (.one (.int .i64)),.sl (.one (.int .i64))]⟩,⟨[.hole],[],[2],[.bool]⟩,1,[],[],false,false,fun (x:((List QSym)×(List Int)×(List Int)))=>order_more x.1 x.2.1 x.2.2⟩
theorem w52_gs:GD w52_c [(86,.gen (altE [w49_c])),(87,.gen (altE [w50_c])),(88,.gen (altE [w51_c]))]:=(gd1 w49_ok (gd1 w50_ok (gd1 w51_ok goods_nil)))
def w52_v:=envG tb gl w52_gs w52_c Tryz.f43
theorem w52_A:VK w52_v:=env_all tb_ok w52_gs
def w52_u0:Un:=lpU 2 [9,10,11,12,13,14,15,16,17,18,19,20,21,7,8,22,23,24,25,26,27,6,28,29,30,31,32,33,34,35,36,37,38,39,40,41,6,43,44,45,46,47,48,42,49,50,1,2] ⟨[0,1,2],⟨[.hole,.hole,.hole],[],[1,0,0],[.sl tSym,.sl (.one (.int .i64)),.sl (.one (.int .i64))]⟩⟩ [((.exit 0),⟨[],⟨[],[],[],[]⟩⟩),(.ret,⟨[6],⟨[.hole],[],[2],[.bool]⟩⟩)] (lp order_more_L0 fuel)
theorem w52_u0_ok:UK w52_v (subC (bodyOf Tryz.f43) [1,0,0]) w52_u0:=lp_k .run hord w52_A ob0
theorem w52_ok:SK 43 w52_c:=fn_k (.seq .run (.seq (.block (.unit w52_u0)) .run)) [.tmp 6] tb_ok hord w52_gs Tryz.func43 (ob1 w52_u0_ok ob0)
def w53_c:ShC:=⟨⟨[.hole,.hole,.hole],[],[1,1,1],[.sl tSym,.sl (.one (.int .i64)),.sl (.one (.int .i64))]⟩,⟨[.hole,.hole],[],[2,2],[.int .i64,.int .i64]⟩,2,[],[],false,true,fun (x:((List QSym)×(List Int)×(List Int)))=>order_Compare x.1 x.2.1 x.2.2⟩
theorem w53_ok:SK 14 w53_c:=fn_k .run [.tmp 6,.tmp 7] tb_ok hord (gdG w46_ok (gdG w10_ok (gd1 w47_ok (gd1 w52_ok goods_nil)))) Tryz.func14 ob0
def w54_c:ShC:=⟨⟨[.hole,.hole,.hole],[],[1,1,1],[.sl tSym,.sl (.one (.int .i64)),.sl (.one (.int .i64))]⟩,⟨[.hole],[],[2],[.bool]⟩,1,[],[],false,true,fun (x:((List QSym)×(List Int)×(List Int)))=>para_before x.1 x.2.1 x.2.2⟩
theorem w54_ok:SK 67 w54_c:=fn_k .run [.tmp 6] tb_ok hord (gdG w53_ok goods_nil) Tryz.func67 ob0
def w55_c:ShC:=⟨⟨[.nilv,.hole],[],[1],[.int .i64]⟩,⟨[(.view 0)],[.seq false],[2],[.sl (.one (.int .i64))]⟩,1,[],[],false,false,fun (x:Int)=>slices_Grow_2 x⟩
theorem w55_ok:SK 133 w55_c:=fn_k .run [.tmp 4] tb_ok hord (gd0 1000025 goods_nil) Tryz.func133 ob0
def w56_c:ShC:=⟨⟨[.hole],[],[1],[.sl (.one (.sl (.one (.int .i64))))]⟩,⟨[(.view 0)],[.seq false],[2],[.sl (.one (.int .i64))]⟩,1,[],[],false,false,fun (x:(List (List Int)))=>slices_Concat_2 x⟩
theorem w56_gs:GD w56_c [(133,.gen (altE [w55_c]))]:=(gd1 w55_ok goods_nil)
def w56_v:=envG tb gl w56_gs w56_c Tryz.f108
theorem w56_A:VK w56_v:=env_all tb_ok w56_gs
def w56_u1:Un:=lpU 2 [28,29,30,8,31,32,33,6,34,27] ⟨[6,25,26,27],⟨[(.view 0),.hole,.hole,.hole],[.seq false],[1,2,2,2],[.sl (.one (.sl (.one (.int .i64)))),.int .i64,.int .i64,.sl (.one (.int .i64))]⟩⟩ [((.exit 2),⟨[6],⟨[(.view 0)],[.seq false],[2],[.sl (.one (.int .i64))]⟩⟩)] (lp slices_Concat_2_L1 fuel)
theorem w56_u1_ok:UK w56_v (subC (bodyOf Tryz.f108) [1,1,1,1,0,1,0]) w56_u1:=lp_k .run hord w56_A ob0
def w56_u0:Un:=lpU 2 [12,13,14,5,15,16,17,18,3,19,20,21,22,11] ⟨[0,3,9,10,11],⟨[.hole,.hole,.hole,.hole,.hole],[],[1,2,1,2,2],[.sl (.one (.sl (.one (.int .i64)))),.int .i64,.sl (.one (.sl (.one (.int .i64)))),.int .i64,.int .i64]⟩⟩ [((.exit 0),⟨[3],⟨[.hole],[],[2],[.int .i64]⟩⟩)] (lp slices_Concat_2_L0 fuel)
theorem w56_u0_ok:UK w56_v (subC (bodyOf Tryz.f108) [1,1,0,1,0]) w56_u0:=lp_k .run hord w56_A ob0
theorem w56_ok:SK 108 w56_c:=fn_k (.seq .run (.seq .run (.seq (.seq .run (.block (.unit w56_u0))) (.seq .run (.seq (.seq .run (.block (.unit w56_u1))) .run))))) [.tmp 2] tb_ok hord w56_gs Tryz.func108 (ob1 w56_u0_ok (ob1 w56_u1_ok ob0))
def w57_c:ShC:=⟨⟨[.hole,.hole,.hole,.hole],[],[1,1,1,1],[.sl tSym,.sl (.one (.int .i64)),.int .i64,.sl (.one (.int .i64))]⟩,⟨[(.view 0)],[.seq false],[2],[.sl (.one (.int .i64))]⟩,1,[],[],false,false,fun (x:((List QSym)×(List Int)×Int×(List Int)))=>para_changed x.1 x.2.1 x.2.2.1 x.2.2.2⟩
theorem w57_ok:SK 68 w57_c:=fn_k .run [.tmp 8] tb_ok hord (gd1 w8_ok (gd1 w56_ok goods_nil)) Tryz.func68 ob0
def w58_c:ShC:=⟨⟨[.nilv,.hole],[],[1],[.int .i64]⟩,⟨[(.view 0)],[.seq false],[2],[.sl (.one (.sl (.one (.int .i64))))]⟩,1,[],[],false,false,fun (x:Int)=>slices_Grow x⟩
theorem w58_ok:SK 138 w58_c:=fn_k .run [.tmp 4] tb_ok hord (gd0 1000025 goods_nil) Tryz.func138 ob0
def w59_c:ShC:=⟨⟨[.hole],[],[1],[.sl (.one (.sl (.one (.sl (.one (.int .i64))))))]⟩,⟨[(.view 0)],[.seq false],[0],[.sl (.one (.sl (.one (.int .i64))))]⟩,1,[],[],true,false,fun (x:(List (List (List Int))))=>slices_Concat x⟩
theorem w59_gs:GD w59_c [(138,.gen (altE [w58_c]))]:=(gd1 w58_ok goods_nil)
def w59_v:=envG tb gl w59_gs w59_c Tryz.f112
theorem w59_A:VK w59_v:=env_all tb_ok w59_gs
def w59_u1:Un:=lpU 2 [28,29,30,8,31,32,33,6,34,27] ⟨[6,25,26,27],⟨[(.view 0),.hole,.hole,.hole],[.seq false],[1,2,2,0],[.sl (.one (.sl (.one (.sl (.one (.int .i64)))))),.int .i64,.int .i64,.sl (.one (.sl (.one (.int .i64))))]⟩⟩ [((.exit 2),⟨[6],⟨[(.view 0)],[.seq false],[0],[.sl (.one (.sl (.one (.int .i64))))]⟩⟩)] (lp slices_Concat_L1 fuel)
theorem w59_u1_ok:UK w59_v (subC (bodyOf Tryz.f112) [1,1,1,1,0,1,0]) w59_u1:=lp_k .run hord w59_A ob0
def w59_u0:Un:=lpU 2 [12,13,14,5,15,16,17,18,3,19,20,21,22,11] ⟨[0,3,9,10,11],⟨[.hole,.hole,.hole,.hole,.hole],[],[1,2,1,2,2],[.sl (.one (.sl (.one (.sl (.one (.int .i64)))))),.int .i64,.sl (.one (.sl (.one (.sl (.one (.int .i64)))))),.int .i64,.int .i64]⟩⟩ [((.exit 0),⟨[3],⟨[.hole],[],[2],[.int .i64]⟩⟩)] (lp slices_Concat_L0 fuel)
theorem w59_u0_ok:UK w59_v (subC (bodyOf Tryz.f112) [1,1,0,1,0]) w59_u0:=lp_k .run hord w59_A ob0
theorem w59_ok:SK 112 w59_c:=fn_k (.seq .run (.seq .run (.seq (.seq .run (.block (.unit w59_u0))) (.seq .run (.seq (.seq .run (.block (.unit w59_u1))) .run))))) [.tmp 2] tb_ok hord w59_gs Tryz.func112 (ob1 w59_u0_ok (ob1 w59_u1_ok ob0))
def w60_c:ShC:=⟨⟨[(.agg [.hole,.hole,.hole]),.hole,(.agg [.hole,.hole,.hole]),.hole],[],[1,1,1,1,1,1,1,1],[.sl tLit,.sl (.one (.sl (.one (.int .i64)))),.sl tLit,.int .i64,.sl tLit,.sl (.one (.sl (.one (.int .i64)))),.sl tLit,.int .i64]⟩,⟨[(.agg [(.view 0),.hole,(.view 1)])],[.seq false,.seq false],[0,0,0],[.sl (.one (.sl (.one (.int .i64)))),.sl tLit,.sl tLit]⟩,1,[],[],true,false,fun (x:((List QLit)×(List (List Int))×(List QLit)×Int×(List QLit)×(List (List Int))×(List QLit)×Int))=>resolve_Both x.1 x.2.1 x.2.2.1 x.2.2.2.1 x.2.2.2.2.1 x.2.2.2.2.2.1 x.2.2.2.2.2.2.1 x.2.2.2.2.2.2.2⟩
theorem w60_gs:GD w60_c [(112,.gen (altE [w59_c])),(113,.gen (altE [w18_c]))]:=(gd1 w59_ok (gd1 w18_ok goods_nil))
def w60_v:=envG tb gl w60_gs w60_c Tryz.f71
theorem w60_A:VK w60_v:=env_all tb_ok w60_gs
def w60_u1:Un:=lpU 2 [49,50,51,52,13,12,53,54,55,56,57,58,59,60,61,62,48] ⟨[3,8,9,46,47,48],⟨[.hole,(.ptr 0 0),(.ptr 1 0),.hole,.hole,.hole],[.cells true [.nilv,.nilv,.nilv],.cells false [(.view 2),.hole,(.view 3)],.seq false,.seq false],[2,1,2,2,0,0,0],[.int .i64,.sl tLit,.int .i64,.int .i64,.sl (.one (.sl (.one (.int .i64)))),.sl tLit,.sl tLit]⟩⟩ [((.exit 2),⟨[9],⟨[(.ptr 0 0)],[.cells false [(.view 1),.hole,(.view 2)],.seq false,.seq false],[0,0,0],[.sl (.one (.sl (.one (.int .i64)))),.sl tLit,.sl tLit]⟩⟩)] (lp resolve_Both_L1 fuel)
theorem w60_u1_ok:UK w60_v (subC (bodyOf Tryz.f71) [1,1,1,0,1,0]) w60_u1:=lp_k .run hord w60_A ob0
def w60_u0:Un:=lpU 2 [31,32,33,34,11,10,35,36,37,38,39,40,41,42,43,44,30] ⟨[1,3,6,8,9,28,29,30],⟨[.hole,.hole,(.ptr 0 0),(.ptr 1 0),(.ptr 2 0),.hole,.hole,.hole],[.cells true [.hole,.hole,.hole],.cells true [.nilv,.nilv,.nilv],.cells false [(.view 3),.hole,(.view 4)],.seq false,.seq false],[2,2,1,2,2,1,1,1,0,0,0],[.int .i64,.int .i64,.sl tLit,.int .i64,.int .i64,.sl tLit,.sl (.one (.sl (.one (.int .i64)))),.sl tLit,.sl (.one (.sl (.one (.int .i64)))),.sl tLit,.sl tLit]⟩⟩ [((.exit 0),⟨[9],⟨[(.ptr 0 0)],[.cells false [(.view 1),.hole,(.view 2)],.seq false,.seq false],[0,0,0],[.sl (.one (.sl (.one (.int .i64)))),.sl tLit,.sl tLit]⟩⟩)] (lp resolve_Both_L0 fuel)
theorem w60_u0_ok:UK w60_v (subC (bodyOf Tryz.f71) [1,1,0,1,0]) w60_u0:=lp_k .run hord w60_A ob0
theorem w60_ok:SK 71 w60_c:=fn_k (.seq .run (.seq .run (.seq (.seq .run (.block (.unit w60_u0))) (.seq (.seq .run (.block (.unit w60_u1))) .run)))) [.cell 8 26] tb_ok hord w60_gs Tryz.func71 (ob1 w60_u0_ok (ob1 w60_u1_ok ob0))
def w61_c:ShC:=⟨⟨[.hole,(.ptr 0 0)],[.cells true [.hole]],[1,1],[.sl (.one (.int .i64)),.sl (.cons (.int .i64) (.one (.sl (.one (.int .i64)))))]⟩,⟨[(.view 0)],[.seq false],[2],[.sl (.one (.int .i64))]⟩,1,[],[],false,false,fun (x:((List Int)×(List (Int×(List Int)))))=>clause_On_c1 x.1 x.2⟩
theorem w61_ok:SK 111 w61_c:=fn_k .run [.tmp 3] tb_ok hord (gd1 w45_ok goods_nil) Tryz.func111 ob0
def w62_c:ShC:=⟨⟨[(.agg [.hole,.hole,.hole]),(.clo 111 [(.ptr 0 0)])],[.cells true [.hole]],[1,1,1,1],[.sl tLit,.sl (.one (.sl (.one (.int .i64)))),.sl tLit,.sl (.cons (.int .i64) (.one (.sl (.one (.int .i64)))))]⟩,⟨[(.agg [.hole,.hole,(.view 0)])],[.seq false],[2,2,2],[.sl tLit,.sl (.one (.sl (.one (.int .i64)))),.sl tLit]⟩,1,[],[],false,false,fun (x:((List QLit)×(List (List Int))×(List QLit)×(List (Int×(List Int)))))=>clause_each x.1 x.2.1 x.2.2.1 x.2.2.2⟩
theorem w62_gs:GD w62_c [(111,.gen (altE [w61_c]))]:=(gd1 w61_ok goods_nil)
def w62_v:=envG tb gl w62_gs w62_c Tryz.f110
theorem w62_A:VK w62_v:=env_all tb_ok w62_gs
def w62_u2:Un:=lpU 2 [52,53,54,11,55,56,57,58,59,60,61,62,63,64,65,66,67,51] ⟨[1,4,5,49,50,51],⟨[(.clo 111 [(.ptr 0 0)]),(.ptr 1 0),(.ptr 2 0),.hole,.hole,.hole],[.cells true [.hole],.cells true [.nilv,.nilv,.nilv],.cells false [.hole,.hole,(.view 3)],.seq false],[1,2,2,1,2,2,2],[.sl tLit,.int .i64,.int .i64,.sl (.cons (.int .i64) (.one (.sl (.one (.int .i64))))),.sl tLit,.sl (.one (.sl (.one (.int .i64)))),.sl tLit]⟩⟩ [((.exit 4),⟨[5],⟨[(.ptr 0 0)],[.cells false [.hole,.hole,(.view 1)],.seq false],[2,2,2],[.sl tLit,.sl (.one (.sl (.one (.int .i64)))),.sl tLit]⟩⟩)] (lp clause_each_L2 fuel)
theorem w62_u2_ok:UK w62_v (subC (bodyOf Tryz.f110) [1,1,1,1,0,1,0]) w62_u2:=lp_k .run hord w62_A ob0
def w62_u1:Un:=lpU 2 [36,37,38,9,39,40,41,42,43,44,45,46,47,35] ⟨[1,2,4,5,33,34,35],⟨[(.clo 111 [(.ptr 0 0)]),(.ptr 1 0),(.ptr 2 0),(.ptr 3 0),.hole,.hole,.hole],[.cells true [.hole],.cells true [.hole,.hole,.hole],.cells true [.nilv,.nilv,.nilv],.cells false [.hole,(.view 4),.nilv],.seq false],[1,2,2,1,1,1,1,2,2],[.sl (.one (.sl (.one (.int .i64)))),.int .i64,.int .i64,.sl (.cons (.int .i64) (.one (.sl (.one (.int .i64))))),.sl tLit,.sl (.one (.sl (.one (.int .i64)))),.sl tLit,.sl tLit,.sl (.one (.sl (.one (.int .i64))))]⟩⟩ [((.exit 2),⟨[5],⟨[(.ptr 0 0)],[.cells false [.hole,(.view 1),.nilv],.seq false],[2,2],[.sl tLit,.sl (.one (.sl (.one (.int .i64))))]⟩⟩)] (lp clause_each_L1 fuel)
theorem w62_u1_ok:UK w62_v (subC (bodyOf Tryz.f110) [1,1,1,0,1,0]) w62_u1:=lp_k .run hord w62_A ob0
def w62_u0:Un:=lpU 2 [16,17,18,7,19,20,21,22,23,24,25,26,27,28,29,30,31,15] ⟨[1,2,4,5,13,14,15],⟨[(.clo 111 [(.ptr 0 0)]),(.ptr 1 0),(.ptr 2 0),(.ptr 3 0),.hole,.hole,.hole],[.cells true [.hole],.cells true [.hole,.hole,.hole],.cells true [.nilv,.nilv,.nilv],.cells false [(.view 4),.nilv,.nilv],.seq false],[1,2,2,1,1,1,1,2],[.sl tLit,.int .i64,.int .i64,.sl (.cons (.int .i64) (.one (.sl (.one (.int .i64))))),.sl tLit,.sl (.one (.sl (.one (.int .i64)))),.sl tLit,.sl tLit]⟩⟩ [((.exit 0),⟨[5],⟨[(.ptr 0 0)],[.cells false [(.view 1),.nilv,.nilv],.seq false],[2],[.sl tLit]⟩⟩)] (lp clause_each_L0 fuel)
theorem w62_u0_ok:UK w62_v (subC (bodyOf Tryz.f110) [1,1,0,1,0]) w62_u0:=lp_k .run hord w62_A ob0
theorem w62_ok:SK 110 w62_c:=fn_k (.seq .run (.seq .run (.seq (.seq .run (.block (.unit w62_u0))) (.seq (.seq .run (.block (.unit w62_u1))) (.seq (.seq .run (.block (.unit w62_u2))) .run))))) [.cell 4 26] tb_ok hord w62_gs Tryz.func110 (ob1 w62_u0_ok (ob1 w62_u1_ok (ob1 w62_u2_ok ob0)))
def w63_c:ShC:=⟨⟨[.hole,(.agg [.hole,.hole,.hole])],[],[1,1,1,1],[.sl (.cons (.int .i64) (.one (.sl (.one (.int .i64))))),.sl tLit,.sl (.one (.sl (.one (.int .i64)))),.sl tLit]⟩,⟨[(.agg [.hole,.hole,(.view 0)])],[.seq false],[2,2,2],[.sl tLit,.sl (.one (.sl (.one (.int .i64)))),.sl tLit]⟩,1,[],[],false,false,fun (x:((List (Int×(List Int)))×(List QLit)×(List (List Int))×(List QLit)))=>clause_On x.1 x.2.1 x.2.2.1 x.2.2.2⟩
theorem w63_ok:SK 70 w63_c:=fn_k .run [.cell 4 26] tb_ok hord (gd1 w62_ok goods_nil) Tryz.func70 ob0
def w64_c:ShC:=⟨⟨[(.agg [.hole,.hole]),(.agg [.hole,.hole])],[],[1,1,1,1],[.bool,.sl (.one (.int .i64)),.bool,.sl (.one (.int .i64))]⟩,⟨[.hole],[],[2],[.bool]⟩,1,[],[],false,false,fun (x:(Bool×(List Int)×Bool×(List Int)))=>lit_Same x.1 x.2.1 x.2.2.1 x.2.2.2⟩
theorem w64_ok:SK 152 w64_c:=fn_k .run [.tmp 4] tb_ok hord (gd1 w47_ok goods_nil) Tryz.func152 ob0
def w65_c:ShC:=⟨⟨[(.agg [.hole,.hole]),(.ptr 0 0)],[.cells true [.hole,.hole]],[1,1,1,1],[.bool,.sl (.one (.int .i64)),.bool,.sl (.one (.int .i64))]⟩,⟨[.hole],[],[2],[.bool]⟩,1,[],[],false,false,fun (x:(Bool×(List Int)×Bool×(List Int)))=>clause_once_c1 x.1 x.2.1 x.2.2.1 x.2.2.2⟩
theorem w65_ok:SK 151 w65_c:=fn_k .run [.tmp 3] tb_ok hord (gd1 w64_ok goods_nil) Tryz.func151 ob0
def w66_c:ShC:=⟨⟨[.hole,(.clo 151 [(.ptr 0 0)])],[.cells true [.hole,.hole]],[1,1,1],[.sl tLit,.bool,.sl (.one (.int .i64))]⟩,⟨[.hole],[],[2],[.int .i64]⟩,1,[],[],false,false,fun (x:((List QLit)×Bool×(List Int)))=>slices_IndexFunc x.1 x.2.1 x.2.2⟩
theorem w66_gs:GD w66_c [(151,.gen (altE [w65_c]))]:=(gd1 w65_ok goods_nil)
def w66_v:=envG tb gl w66_gs w66_c Tryz.f98
theorem w66_A:VK w66_v:=env_all tb_ok w66_gs
def w66_u0:Un:=lpU 2 [9,10,5,11,12,13,14,15,16,17,4,18,8] ⟨[0,1,7,8],⟨[.hole,(.clo 151 [(.ptr 0 0)]),.hole,.hole],[.cells true [.hole,.hole]],[1,2,2,2,1],[.sl tLit,.int .i64,.int .i64,.bool,.sl (.one (.int .i64))]⟩⟩ [((.exit 0),⟨[],⟨[],[],[],[]⟩⟩),(.ret,⟨[4],⟨[.hole],[],[2],[.int .i64]⟩⟩)] (lp slices_IndexFunc_L0 fuel)
theorem w66_u0_ok:UK w66_v (subC (bodyOf Tryz.f98) [1,0,1,0]) w66_u0:=lp_k .run hord w66_A ob0
theorem w66_ok:SK 98 w66_c:=fn_k (.seq .run (.seq (.seq .run (.block (.unit w66_u0))) .run)) [.tmp 4] tb_ok hord w66_gs Tryz.func98 (ob1 w66_u0_ok ob0)
def w67_c:ShC:=⟨⟨[.hole,(.clo 151 [(.ptr 0 0)])],[.cells true [.hole,.hole]],[1,1,1],[.sl tLit,.bool,.sl (.one (.int .i64))]⟩,⟨[.hole],[],[2],[.bool]⟩,1,[],[],false,false,fun (x:((List QLit)×Bool×(List Int)))=>slices_ContainsFunc x.1 x.2.1 x.2.2⟩
theorem w67_ok:SK 56 w67_c:=fn_k .run [.tmp 4] tb_ok hord (gd1 w66_ok goods_nil) Tryz.func56 ob0
def w68_c:ShC:=⟨⟨[.hole],[],[1],[.sl tLit]⟩,⟨[(.view 0)],[.seq false],[0],[.sl tLit]⟩,1,[],[],true,false,fun (x:(List QLit))=>clause_once x⟩
theorem w68_gs:GD w68_c [(56,.gen (altE [w67_c]))]:=(gd1 w67_ok goods_nil)
def w68_v:=envG tb gl w68_gs w68_c Tryz.f134
theorem w68_A:VK w68_v:=env_all tb_ok w68_gs
def w68_u0:Un:=lpU 2 [9,10,11,5,12,13,14,15,16,17,18,19,3,20,8] ⟨[3,6,7,8],⟨[(.view 0),.hole,.hole,.hole],[.seq false],[1,2,2,0],[.sl tLit,.int .i64,.int .i64,.sl tLit]⟩⟩ [((.exit 0),⟨[3],⟨[(.view 0)],[.seq false],[0],[.sl tLit]⟩⟩)] (lp clause_once_L0 fuel)
theorem w68_u0_ok:UK w68_v (subC (bodyOf Tryz.f134) [1,1,0,1,0]) w68_u0:=lp_k .run hord w68_A ob0
theorem w68_ok:SK 134 w68_c:=fn_k (.seq .run (.seq .run (.seq (.seq .run (.block (.unit w68_u0))) .run))) [.tmp 2] tb_ok hord w68_gs Tryz.func134 (ob1 w68_u0_ok ob0)
def w69_c:ShC:=⟨⟨[.hole,(.ptr 0 0)],[.cells true [.hole]],[1,1],[.sl (.one (.int .i64)),.sl (.one (.int .i64))]⟩,⟨[.hole],[],[2],[.bool]⟩,1,[],[],false,false,fun (x:((List Int)×(List Int)))=>clause_anew_c1 x.1 x.2⟩
theorem w69_ok:SK 136 w69_c:=fn_k .run [.tmp 3] tb_ok hord (gd1 w47_ok goods_nil) Tryz.func136 ob0
def w70_c:ShC:=⟨⟨[.hole,(.clo 136 [(.ptr 0 0)])],[.cells true [.hole]],[1,1],[.sl (.one (.sl (.one (.int .i64)))),.sl (.one (.int .i64))]⟩,⟨[.hole],[],[2],[.int .i64]⟩,1,[],[],false,false,fun (x:((List (List Int))×(List Int)))=>slices_IndexFunc_1 x.1 x.2⟩
theorem w70_gs:GD w70_c [(136,.gen (altE [w69_c]))]:=(gd1 w69_ok goods_nil)
def w70_v:=envG tb gl w70_gs w70_c Tryz.f153
theorem w70_A:VK w70_v:=env_all tb_ok w70_gs
def w70_u0:Un:=lpU 2 [9,10,5,11,12,13,14,15,16,17,4,18,8] ⟨[0,1,7,8],⟨[.hole,(.clo 136 [(.ptr 0 0)]),.hole,.hole],[.cells true [.hole]],[1,2,2,1],[.sl (.one (.sl (.one (.int .i64)))),.int .i64,.int .i64,.sl (.one (.int .i64))]⟩⟩ [((.exit 0),⟨[],⟨[],[],[],[]⟩⟩),(.ret,⟨[4],⟨[.hole],[],[2],[.int .i64]⟩⟩)] (lp slices_IndexFunc_1_L0 fuel)
theorem w70_u0_ok:UK w70_v (subC (bodyOf Tryz.f153) [1,0,1,0]) w70_u0:=lp_k .run hord w70_A ob0
theorem w70_ok:SK 153 w70_c:=fn_k (.seq .run (.seq (.seq .run (.block (.unit w70_u0))) .run)) [.tmp 4] tb_ok hord w70_gs Tryz.func153 (ob1 w70_u0_ok ob0)
def w71_c:ShC:=⟨⟨[.hole,(.clo 136 [(.ptr 0 0)])],[.cells true [.hole]],[1,1],[.sl (.one (.sl (.one (.int .i64)))),.sl (.one (.int .i64))]⟩,⟨[.hole],[],[2],[.bool]⟩,1,[],[],false,false,fun (x:((List (List Int))×(List Int)))=>slices_ContainsFunc_1 x.1 x.2⟩
theorem w71_ok:SK 135 w71_c:=fn_k .run [.tmp 4] tb_ok hord (gd1 w70_ok goods_nil) Tryz.func135 ob0
def w72_c:ShC:=⟨⟨[.hole,(.aptr 0),(.ptr 1 0)],[.seq false,.cells false [.hole]],[1,1,1],[.sl (.one (.int .i64)),.sl (.one (.int .i64)),.int .i64]⟩,⟨[(.view 0),(.aptr 1),(.ptr 2 0)],[.seq false,.seq false,.cells false [.hole]],[2,0,2],[.sl (.one (.int .i64)),.sl (.one (.int .i64)),.int .i64]⟩,1,[1,2],[(0,1),(1,2)],true,false,fun (x:((List Int)×(List Int)×Int))=>clause_anew_c2_1 x.1 x.2.1 x.2.2⟩
theorem w72_gs:GD w72_c [(105,.gen (altE [w28_c])),(107,.gen (altE [w6_c]))]:=(gd1 w28_ok (gd1 w6_ok goods_nil))
def w72_v:=envG tb gl w72_gs w72_c Tryz.f137
theorem w72_A:VK w72_v:=env_all tb_ok w72_gs
def w72_u0:Un:=lpU 2 [13,14,15,16,6,7,17,18,19,20,21,22,23,24,25,26,27,28,29,30,31,32,33,34,35,36,37,38,12] ⟨[1,2,5,10,11,12],⟨[(.aptr 0),(.ptr 1 0),(.view 2),(.view 2),.hole,.hole],[.seq false,.cells false [.hole],.seq false],[2,2,0,2,2],[.int .i64,.int .i64,.sl (.one (.int .i64)),.int .i64,.sl (.one (.int .i64))]⟩⟩ [((.exit 0),⟨[1,2,5],⟨[(.aptr 0),(.ptr 1 0),(.view 2)],[.seq false,.cells false [.hole],.seq false],[0,2,2],[.sl (.one (.int .i64)),.int .i64,.sl (.one (.int .i64))]⟩⟩)] (lp clause_anew_c2_1_L0 fuel)
theorem w72_u0_ok:UK w72_v (subC (bodyOf Tryz.f137) [1,1,0,1,0]) w72_u0:=lp_k .run hord w72_A ob0
theorem w72_ok:SK 137 w72_c:=fn_k (.seq .run (.seq .run (.seq (.seq .run (.block (.unit w72_u0))) .run))) [.tmp 4] tb_ok hord w72_gs Tryz.func137 (ob1 w72_u0_ok ob0)
def w73_c:ShC:=⟨⟨[(.agg [.hole,.hole,.hole]),(.clo 137 [(.aptr 0),(.ptr 1 0)])],[.seq false,.cells false [.hole]],[1,1,1,1,1],[.sl tLit,.sl (.one (.sl (.one (.int .i64)))),.sl tLit,.sl (.one (.int .i64)),.int .i64]⟩,⟨[(.agg [.hole,.hole,(.view 0)]),(.clo 137 [(.aptr 1),(.ptr 2 0)])],[.seq false,.seq false,.cells false [.hole]],[2,2,2,0,2],[.sl tLit,.sl (.one (.sl (.one (.int .i64)))),.sl tLit,.sl (.one (.int .i64)),.int .i64]⟩,1,[1],[(0,1),(1,2)],true,false,fun (x:((List QLit)×(List (List Int))×(List QLit)×(List Int)×Int))=>clause_each_1 x.1 x.2.1 x.2.2.1 x.2.2.2.1 x.2.2.2.2⟩
theorem w73_gs:GD w73_c [(137,.gen (altE [w72_c]))]:=(gd1 w72_ok goods_nil)
def w73_v:=envG tb gl w73_gs w73_c Tryz.f110
theorem w73_A:VK w73_v:=env_all tb_ok w73_gs
def w73_u2:Un:=lpU 2 [52,53,54,11,55,56,57,58,59,60,61,62,63,64,65,66,67,51] ⟨[1,4,5,49,50,51],⟨[(.clo 137 [(.aptr 0),(.ptr 1 0)]),(.ptr 2 0),(.ptr 3 0),.hole,.hole,.hole],[.seq false,.cells false [.hole],.cells true [.nilv,.nilv,.nilv],.cells false [.hole,.hole,(.view 4)],.seq false],[1,2,2,0,2,2,2,2],[.sl tLit,.int .i64,.int .i64,.sl (.one (.int .i64)),.int .i64,.sl tLit,.sl (.one (.sl (.one (.int .i64)))),.sl tLit]⟩⟩ [((.exit 4),⟨[1,5],⟨[(.clo 137 [(.aptr 0),(.ptr 1 0)]),(.ptr 2 0)],[.seq false,.cells false [.hole],.cells false [.hole,.hole,(.view 3)],.seq false],[0,2,2,2,2],[.sl (.one (.int .i64)),.int .i64,.sl tLit,.sl (.one (.sl (.one (.int .i64)))),.sl tLit]⟩⟩)] (lp clause_each_1_L2 fuel)
theorem w73_u2_ok:UK w73_v (subC (bodyOf Tryz.f110) [1,1,1,1,0,1,0]) w73_u2:=lp_k (.seq .run (.seq .run (.seq (.block (.seq .run (.hide [[8,9],[8,9],[8,9],[8,9],[],[],[],[],[],[],[],[],[]]))) .run))) hord w73_A ob0
def w73_u1:Un:=lpU 2 [36,37,38,9,39,40,41,42,43,44,45,46,47,35] ⟨[1,2,4,5,33,34,35],⟨[(.clo 137 [(.aptr 0),(.ptr 1 0)]),(.ptr 2 0),(.ptr 3 0),(.ptr 4 0),.hole,.hole,.hole],[.seq false,.cells false [.hole],.cells true [.hole,.hole,.hole],.cells true [.nilv,.nilv,.nilv],.cells false [.hole,(.view 5),.nilv],.seq false],[1,2,2,0,2,1,1,1,2,2],[.sl (.one (.sl (.one (.int .i64)))),.int .i64,.int .i64,.sl (.one (.int .i64)),.int .i64,.sl tLit,.sl (.one (.sl (.one (.int .i64)))),.sl tLit,.sl tLit,.sl (.one (.sl (.one (.int .i64))))]⟩⟩ [((.exit 2),⟨[1,5],⟨[(.clo 137 [(.aptr 0),(.ptr 1 0)]),(.ptr 2 0)],[.seq false,.cells false [.hole],.cells false [.hole,(.view 3),.nilv],.seq false],[0,2,2,2],[.sl (.one (.int .i64)),.int .i64,.sl tLit,.sl (.one (.sl (.one (.int .i64))))]⟩⟩)] (lp clause_each_1_L1 fuel)
theorem w73_u1_ok:UK w73_v (subC (bodyOf Tryz.f110) [1,1,1,0,1,0]) w73_u1:=lp_k (.seq .run (.seq .run (.seq (.block (.seq .run (.hide [[8,9],[8,9],[],[],[],[],[],[],[]]))) .run))) hord w73_A ob0
def w73_u0:Un:=lpU 2 [16,17,18,7,19,20,21,22,23,24,25,26,27,28,29,30,31,15] ⟨[1,2,4,5,13,14,15],⟨[(.clo 137 [(.aptr 0),(.ptr 1 0)]),(.ptr 2 0),(.ptr 3 0),(.ptr 4 0),.hole,.hole,.hole],[.seq false,.cells false [.hole],.cells true [.hole,.hole,.hole],.cells true [.nilv,.nilv,.nilv],.cells false [(.view 5),.nilv,.nilv],.seq false],[1,2,2,0,2,1,1,1,2],[.sl tLit,.int .i64,.int .i64,.sl (.one (.int .i64)),.int .i64,.sl tLit,.sl (.one (.sl (.one (.int .i64)))),.sl tLit,.sl tLit]⟩⟩ [((.exit 0),⟨[1,5],⟨[(.clo 137 [(.aptr 0),(.ptr 1 0)]),(.ptr 2 0)],[.seq false,.cells false [.hole],.cells false [(.view 3),.nilv,.nilv],.seq false],[0,2,2],[.sl (.one (.int .i64)),.int .i64,.sl tLit]⟩⟩)] (lp clause_each_1_L0 fuel)
theorem w73_u0_ok:UK w73_v (subC (bodyOf Tryz.f110) [1,1,0,1,0]) w73_u0:=lp_k (.seq .run (.seq .run (.seq (.block (.seq .run (.hide [[8,9],[8,9],[8,9],[8,9],[],[],[],[],[],[],[],[],[]]))) .run))) hord w73_A ob0
theorem w73_ok:SK 110 w73_c:=fn_k (.seq .run (.seq .run (.seq (.seq .run (.block (.unit w73_u0))) (.seq (.seq .run (.block (.unit w73_u1))) (.seq (.seq .run (.block (.unit w73_u2))) .run))))) [.cell 4 26] tb_ok hord w73_gs Tryz.func110 (ob1 w73_u0_ok (ob1 w73_u1_ok (ob1 w73_u2_ok ob0)))
def w74_c:ShC:=⟨⟨[(.agg [.hole,.hole,.hole])],[],[1,1,1],[.sl tLit,.sl (.one (.sl (.one (.int .i64)))),.sl tLit]⟩,⟨[(.agg [.hole,.hole,(.view 0)])],[.seq false],[2,2,2],[.sl tLit,.sl (.one (.sl (.one (.int .i64)))),.sl tLit]⟩,1,[],[],false,false,fun (x:((List QLit)×(List (List Int))×(List QLit)))=>clause_anew x.1 x.2.1 x.2.2⟩
theorem w74_gs:GD w74_c [(110,.gen (altE [w73_c])),(134,.gen (altE [w68_c])),(135,.gen (altE [w71_c]))]:=(gd1 w73_ok (gd1 w68_ok (gd1 w71_ok goods_nil)))
def w74_v:=envG tb gl w74_gs w74_c Tryz.f109
theorem w74_A:VK w74_v:=env_all tb_ok w74_gs
def w74_u0:Un:=lpU 2 [19,20,21,5,22,23,24,25,26,27,28,29,30,31,32,33,18] ⟨[2,3,16,17,18],⟨[(.ptr 0 0),(.ptr 1 0),.hole,.hole,.hole],[.cells true [.nilv,.nilv,.nilv],.cells false [.hole,(.view 2),.hole],.seq false],[1,2,2,0,0,0],[.sl (.one (.sl (.one (.int .i64)))),.int .i64,.int .i64,.sl tLit,.sl tLit,.sl (.one (.sl (.one (.int .i64))))]⟩⟩ [((.exit 0),⟨[3],⟨[(.ptr 0 0)],[.cells false [.hole,(.view 1),.hole],.seq false],[0,0,0],[.sl tLit,.sl tLit,.sl (.one (.sl (.one (.int .i64))))]⟩⟩)] (lp clause_anew_L0 fuel)
theorem w74_u0_ok:UK w74_v (subC (bodyOf Tryz.f109) [1,1,0,1,0]) w74_u0:=lp_k .run hord w74_A ob0
theorem w74_ok:SK 109 w74_c:=fn_k (.seq .run (.seq .run (.seq (.seq .run (.block (.unit w74_u0))) .run))) [.cell 2 26] tb_ok hord w74_gs Tryz.func109 (ob1 w74_u0_ok ob0)
def w75_c:ShC:=⟨⟨[.hole,(.agg [.hole,.hole,.hole])],[],[1,1,1,1],[.sl tSym,.sl tLit,.sl (.one (.sl (.one (.int .i64)))),.sl tLit]⟩,⟨[(.agg [.hole,.hole,(.view 0)]),.hole],[.seq false],[2,2,2,2],[.sl tLit,.sl (.one (.sl (.one (.int .i64)))),.int .i64,.sl tLit]⟩,2,[],[],false,true,fun (x:((List QSym)×(List QLit)×(List (List Int))×(List QLit)))=>clause_Normal x.1 x.2.1 x.2.2.1 x.2.2.2⟩
theorem w75_ok:SK 69 w75_c:=fn_k .run [.cell 4 26,.tmp 5] tb_ok hord (gdG w15_ok (gd1 w74_ok goods_nil)) Tryz.func69 ob0
def w76_c:ShC:=⟨⟨[.hole,(.agg [.hole,.hole,.hole]),.hole,.hole,(.agg [.hole,.hole,.hole]),.hole,.hole],[],[1,1,1,1,1,1,1,1,1,1,1],[.sl tSym,.sl tLit,.sl (.one (.sl (.one (.int .i64)))),.sl tLit,.int .i64,.int .i64,.sl tLit,.sl (.one (.sl (.one (.int .i64)))),.sl tLit,.int .i64,.int .i64]⟩,⟨[(.agg [.hole,.hole,(.view 0)]),.hole,.hole],[.seq false],[2,2,2,2,2],[.sl tLit,.sl (.one (.sl (.one (.int .i64)))),.bool,.int .i64,.sl tLit]⟩,3,[],[],false,true,fun (x:((List QSym)×(List QLit)×(List (List Int))×(List QLit)×Int×Int×(List QLit)×(List (List Int))×(List QLit)×Int×Int))=>para_one x.1 x.2.1 x.2.2.1 x.2.2.2.1 x.2.2.2.2.1 x.2.2.2.2.2.1 x.2.2.2.2.2.2.1 x.2.2.2.2.2.2.2.1 x.2.2.2.2.2.2.2.2.1 x.2.2.2.2.2.2.2.2.2.1 x.2.2.2.2.2.2.2.2.2.2⟩
theorem w76_ok:SK 29 w76_c:=fn_k .run [.cell 14 26,.tmp 15,.tmp 16] tb_ok hord (gdG w32_ok (gd1 w34_ok (gd1 w8_ok (gdG w43_ok (gd1 w45_ok (gdG w54_ok (gd1 w57_ok (gdG w75_ok (gd1 w63_ok (gd1 w60_ok goods_nil)))))))))) Tryz.func29 ob0
def w77_c:ShC:=⟨⟨[.hole,(.agg [.hole,.hole,.hole]),.hole,.hole,(.agg [.hole,.hole,.hole]),.hole,.hole],[],[1,1,1,1,1,1,1,1,1,1,1],[.sl tSym,.sl tLit,.sl (.one (.sl (.one (.int .i64)))),.sl tLit,.int .i64,.int .i64,.sl tLit,.sl (.one (.sl (.one (.int .i64)))),.sl tLit,.int .i64,.int .i64]⟩,⟨[(.agg [.hole,.hole,(.view 0)]),.hole,.hole],[.seq false],[2,2,2,2,2],[.sl tLit,.sl (.one (.sl (.one (.int .i64)))),.bool,.int .i64,.sl tLit]⟩,3,[],[],false,true,fun (x:((List QSym)×(List QLit)×(List (List Int))×(List QLit)×Int×Int×(List QLit)×(List (List Int))×(List QLit)×Int×Int))=>para_One x.1 x.2.1 x.2.2.1 x.2.2.2.1 x.2.2.2.2.1 x.2.2.2.2.2.1 x.2.2.2.2.2.2.1 x.2.2.2.2.2.2.2.1 x.2.2.2.2.2.2.2.2.1 x.2.2.2.2.2.2.2.2.2.1 x.2.2.2.2.2.2.2.2.2.2⟩
theorem w77_ok:SK 16 w77_c:=fn_k .run [.cell 14 26,.tmp 15,.tmp 16] tb_ok hord (gdG w15_ok (gd1 w16_ok (gdG w76_ok goods_nil))) Tryz.func16 ob0
def w78_c:ShC:=⟨⟨[.hole,(.agg [.hole,.hole,.hole]),.hole],[],[1,1,1,1,1],[.sl tSym,.sl tLit,.sl (.one (.sl (.one (.int .i64)))),.sl tLit,.int .i64]⟩,⟨[(.agg [.hole,.hole,(.view 0)]),.hole,.hole],[.seq false],[2,2,2,2,2],[.sl tLit,.sl (.one (.sl (.one (.int .i64)))),.bool,.int .i64,.sl tLit]⟩,3,[],[],false,true,fun (x:((List QSym)×(List QLit)×(List (List Int))×(List QLit)×Int))=>para_reflex x.1 x.2.1 x.2.2.1 x.2.2.2.1 x.2.2.2.2⟩
theorem w78_ok:SK 47 w78_c:=fn_k .run [.cell 6 26,.tmp 7,.tmp 8] tb_ok hord (gd1 w34_ok (gdG w43_ok (gdG w75_ok (gd1 w63_ok (gd1 w60_ok goods_nil))))) Tryz.func47 ob0
def w79_c:ShC:=⟨⟨[.hole,(.agg [.hole,.hole,.hole]),.hole],[],[1,1,1,1,1],[.sl tSym,.sl tLit,.sl (.one (.sl (.one (.int .i64)))),.sl tLit,.int .i64]⟩,⟨[(.agg [.hole,.hole,(.view 0)]),.hole,.hole],[.seq false],[2,2,2,2,2],[.sl tLit,.sl (.one (.sl (.one (.int .i64)))),.bool,.int .i64,.sl tLit]⟩,3,[],[],false,true,fun (x:((List QSym)×(List QLit)×(List (List Int))×(List QLit)×Int))=>para_Reflex x.1 x.2.1 x.2.2.1 x.2.2.2.1 x.2.2.2.2⟩
theorem w79_ok:SK 18 w79_c:=fn_k .run [.cell 6 26,.tmp 7,.tmp 8] tb_ok hord (gdG w15_ok (gd1 w16_ok (gdG w78_ok goods_nil))) Tryz.func18 ob0
def w80_c:ShC:=⟨⟨[(.agg [.hole,.hole]),(.ptr 0 0)],[.cells true [.hole]],[1,1,1],[.bool,.sl (.one (.int .i64)),.sl tSym]⟩,⟨[.hole],[],[2],[.bool]⟩,1,[],[],false,true,fun (x:(Bool×(List Int)×(List QSym)))=>lit_Tops_c1 x.1 x.2.1 x.2.2⟩
theorem w80_ok:SK 57 w80_c:=fn_k .run [.tmp 3] tb_ok hord (gdG w11_ok goods_nil) Tryz.func57 ob0
def w81_c:ShC:=⟨⟨[.hole,(.clo 57 [(.ptr 0 0)])],[.cells true [.hole]],[1,1],[.sl tLit,.sl tSym]⟩,⟨[.hole],[],[2],[.int .i64]⟩,1,[],[],false,true,fun (x:((List QLit)×(List QSym)))=>slices_IndexFunc_6 x.1 x.2⟩
theorem w81_gs:GD w81_c [(57,.gen (altE [w80_c]))]:=(gdG w80_ok goods_nil)
def w81_v:=envG tb gl w81_gs w81_c Tryz.f98
theorem w81_A:VK w81_v:=env_all tb_ok w81_gs
def w81_u0:Un:=lpU 2 [9,10,5,11,12,13,14,15,16,17,4,18,8] ⟨[0,1,7,8],⟨[.hole,(.clo 57 [(.ptr 0 0)]),.hole,.hole],[.cells true [.hole]],[1,2,2,1],[.sl tLit,.int .i64,.int .i64,.sl tSym]⟩⟩ [((.exit 0),⟨[],⟨[],[],[],[]⟩⟩),(.ret,⟨[4],⟨[.hole],[],[2],[.int .i64]⟩⟩)] (lp slices_IndexFunc_6_L0 fuel)
theorem w81_u0_ok:UK w81_v (subC (bodyOf Tryz.f98) [1,0,1,0]) w81_u0:=lp_k .run hord w81_A ob0
theorem w81_ok:SK 98 w81_c:=fn_k (.seq .run (.seq (.seq .run (.block (.unit w81_u0))) .run)) [.tmp 4] tb_ok hord w81_gs Tryz.func98 (ob1 w81_u0_ok ob0)
def w82_c:ShC:=⟨⟨[.hole,(.clo 57 [(.ptr 0 0)])],[.cells true [.hole]],[1,1],[.sl tLit,.sl tSym]⟩,⟨[.hole],[],[2],[.bool]⟩,1,[],[],false,true,fun (x:((List QLit)×(List QSym)))=>slices_ContainsFunc_6 x.1 x.2⟩
theorem w82_ok:SK 56 w82_c:=fn_k .run [.tmp 4] tb_ok hord (gdG w81_ok goods_nil) Tryz.func56 ob0
def w83_c:ShC:=⟨⟨[.hole,(.agg [.hole,.hole]),(.agg [.hole,.hole])],[],[1,1,1,1,1],[.sl tSym,.bool,.sl (.one (.int .i64)),.bool,.sl (.one (.int .i64))]⟩,⟨[.hole,.hole],[],[2,2],[.int .i64,.int .i64]⟩,2,[],[],false,true,fun (x:((List QSym)×Bool×(List Int)×Bool×(List Int)))=>lit_Compare x.1 x.2.1 x.2.2.1 x.2.2.2.1 x.2.2.2.2⟩
theorem w83_ok:SK 60 w83_c:=fn_k .run [.tmp 6,.tmp 7] tb_ok hord (gdG w53_ok (gdG w11_ok goods_nil)) Tryz.func60 ob0
def w84_c:ShC:=⟨⟨[(.agg [.hole,.hole]),(.ptr 0 0),(.ptr 1 0)],[.cells true [.hole],.cells true [.hole,.hole]],[1,1,1,1,1],[.bool,.sl (.one (.int .i64)),.sl tSym,.bool,.sl (.one (.int .i64))]⟩,⟨[.hole],[],[2],[.bool]⟩,1,[],[],false,true,fun (x:(Bool×(List Int)×(List QSym)×Bool×(List Int)))=>lit_Tops_c2 x.1 x.2.1 x.2.2.1 x.2.2.2.1 x.2.2.2.2⟩
theorem w84_ok:SK 59 w84_c:=fn_k .run [.tmp 4] tb_ok hord (gdG w83_ok goods_nil) Tryz.func59 ob0
def w85_c:ShC:=⟨⟨[.hole,(.clo 59 [(.ptr 0 0),(.ptr 1 0)])],[.cells true [.hole],.cells true [.hole,.hole]],[1,1,1,1],[.sl tLit,.sl tSym,.bool,.sl (.one (.int .i64))]⟩,⟨[.hole],[],[2],[.int .i64]⟩,1,[],[],false,true,fun (x:((List QLit)×(List QSym)×Bool×(List Int)))=>slices_IndexFunc_7 x.1 x.2.1 x.2.2.1 x.2.2.2⟩
theorem w85_gs:GD w85_c [(59,.gen (altE [w84_c]))]:=(gdG w84_ok goods_nil)
def w85_v:=envG tb gl w85_gs w85_c Tryz.f98
theorem w85_A:VK w85_v:=env_all tb_ok w85_gs
def w85_u0:Un:=lpU 2 [9,10,5,11,12,13,14,15,16,17,4,18,8] ⟨[0,1,7,8],⟨[.hole,(.clo 59 [(.ptr 0 0),(.ptr 1 0)]),.hole,.hole],[.cells true [.hole],.cells true [.hole,.hole]],[1,2,2,1,2,1],[.sl tLit,.int .i64,.int .i64,.sl tSym,.bool,.sl (.one (.int .i64))]⟩⟩ [((.exit 0),⟨[],⟨[],[],[],[]⟩⟩),(.ret,⟨[4],⟨[.hole],[],[2],[.int .i64]⟩⟩)] (lp slices_IndexFunc_7_L0 fuel)
theorem w85_u0_ok:UK w85_v (subC (bodyOf Tryz.f98) [1,0,1,0]) w85_u0:=lp_k .run hord w85_A ob0
theorem w85_ok:SK 98 w85_c:=fn_k (.seq .run (.seq (.seq .run (.block (.unit w85_u0))) .run)) [.tmp 4] tb_ok hord w85_gs Tryz.func98 (ob1 w85_u0_ok ob0)
def w86_c:ShC:=⟨⟨[.hole,(.clo 59 [(.ptr 0 0),(.ptr 1 0)])],[.cells true [.hole],.cells true [.hole,.hole]],[1,1,1,1],[.sl tLit,.sl tSym,.bool,.sl (.one (.int .i64))]⟩,⟨[.hole],[],[2],[.bool]⟩,1,[],[],false,true,fun (x:((List QLit)×(List QSym)×Bool×(List Int)))=>slices_ContainsFunc_7 x.1 x.2.1 x.2.2.1 x.2.2.2⟩
theorem w86_ok:SK 56 w86_c:=fn_k .run [.tmp 4] tb_ok hord (gdG w85_ok goods_nil) Tryz.func56 ob0
def w87_c:ShC:=⟨⟨[.hole,.hole],[],[1,1],[.sl tSym,.sl tLit]⟩,⟨[(.view 0),.hole],[.seq false],[2,2],[.int .i64,.sl (.one (.int .i64))]⟩,2,[],[],false,true,fun (x:((List QSym)×(List QLit)))=>lit_Tops x.1 x.2⟩
theorem w87_gs:GD w87_c [(44,.gen (altE [w5_c])),(56,.gen (altE [w82_c,w86_c]))]:=(gdG w5_ok (goods_cons (good_alt (alls_cons w82_ok (alls_cons w86_ok alls_nil))) goods_nil))
def w87_v:=envG tb gl w87_gs w87_c Tryz.f25
theorem w87_A:VK w87_v:=env_all tb_ok w87_gs
def w87_u0:Un:=lpU 2 [20,21,22,23,8,7,24,25,26,27,28,29,30,31,6,32,19] ⟨[1,2,6,17,18,19],⟨[.hole,(.ptr 0 0),(.view 1),.hole,.hole,.hole],[.cells true [.hole],.seq false],[1,1,2,2,1,2],[.sl tLit,.sl tLit,.int .i64,.int .i64,.sl tSym,.sl (.one (.int .i64))]⟩⟩ [((.exit 0),⟨[6],⟨[(.view 0)],[.seq false],[2],[.sl (.one (.int .i64))]⟩⟩)] (lp lit_Tops_L0 fuel)
theorem w87_u0_ok:UK w87_v (subC (bodyOf Tryz.f25) [1,1,1,0,1,0]) w87_u0:=lp_k .run hord w87_A ob0
theorem w87_ok:SK 25 w87_c:=fn_k (.seq .run (.seq .run (.seq .run (.seq (.seq .run (.block (.unit w87_u0))) .run)))) [.tmp 4,.tmp 5] tb_ok hord w87_gs Tryz.func25 (ob1 w87_u0_ok ob0)
def w88_c:ShC:=⟨⟨[.hole,(.ptr 0 0)],[.cells true [.hole,.hole,.hole]],[1,1,1,1],[.int .i64,.sl tLit,.sl (.one (.sl (.one (.int .i64)))),.sl tLit]⟩,⟨[.hole],[],[2],[.bool]⟩,1,[],[],false,false,fun (x:(Int×(List QLit)×(List (List Int))×(List QLit)))=>para_All_c1 x.1 x.2.1 x.2.2.1 x.2.2.2⟩
theorem w88_ok:SK 27 w88_c:=fn_k .run [.tmp 3] tb_ok hord (gd1 w16_ok goods_nil) Tryz.func27 ob0
def w89_c:ShC:=⟨⟨[.hole,(.clo 27 [(.ptr 0 0)])],[.cells true [.hole,.hole,.hole]],[1,1,1,1],[.sl (.one (.int .i64)),.sl tLit,.sl (.one (.sl (.one (.int .i64)))),.sl tLit]⟩,⟨[.hole],[],[2],[.int .i64]⟩,1,[],[],false,false,fun (x:((List Int)×(List QLit)×(List (List Int))×(List QLit)))=>slices_IndexFunc_9 x.1 x.2.1 x.2.2.1 x.2.2.2⟩
theorem w89_gs:GD w89_c [(27,.gen (altE [w88_c]))]:=(gd1 w88_ok goods_nil)
def w89_v:=envG tb gl w89_gs w89_c Tryz.f61
theorem w89_A:VK w89_v:=env_all tb_ok w89_gs
def w89_u0:Un:=lpU 2 [9,10,5,11,12,13,14,15,16,17,4,18,8] ⟨[0,1,7,8],⟨[.hole,(.clo 27 [(.ptr 0 0)]),.hole,.hole],[.cells true [.hole,.hole,.hole]],[1,2,2,1,1,1],[.sl (.one (.int .i64)),.int .i64,.int .i64,.sl tLit,.sl (.one (.sl (.one (.int .i64)))),.sl tLit]⟩⟩ [((.exit 0),⟨[],⟨[],[],[],[]⟩⟩),(.ret,⟨[4],⟨[.hole],[],[2],[.int .i64]⟩⟩)] (lp slices_IndexFunc_9_L0 fuel)
theorem w89_u0_ok:UK w89_v (subC (bodyOf Tryz.f61) [1,0,1,0]) w89_u0:=lp_k .run hord w89_A ob0
theorem w89_ok:SK 61 w89_c:=fn_k (.seq .run (.seq (.seq .run (.block (.unit w89_u0))) .run)) [.tmp 4] tb_ok hord w89_gs Tryz.func61 (ob1 w89_u0_ok ob0)
def w90_c:ShC:=⟨⟨[(.view 0),(.clo 27 [(.ptr 1 0)])],[.seq false,.cells true [.hole,.hole,.hole]],[1,1,1,1],[.sl (.one (.int .i64)),.sl tLit,.sl (.one (.sl (.one (.int .i64)))),.sl tLit]⟩,⟨[(.view 0)],[.seq false],[0],[.sl (.one (.int .i64))]⟩,1,[],[],true,false,fun (x:((List Int)×(List QLit)×(List (List Int))×(List QLit)))=>slices_DeleteFunc_1 x.1 x.2.1 x.2.2.1 x.2.2.2⟩
theorem w90_gs:GD w90_c [(27,.gen (altE [w88_c])),(61,.gen (altE [w89_c])),(1000041,.gen (altE []))]:=(gd1 w88_ok (gd1 w89_ok (gd0 1000041 goods_nil)))
def w90_v:=envG tb gl w90_gs w90_c Tryz.f26
theorem w90_A:VK w90_v:=env_all tb_ok w90_gs
def w90_u0:Un:=lpU 2 [16,17,18,19,22,23,24,25,7,26,27,28,29,30,31,32,33,34,35,5,20,21,6] ⟨[0,1,5,6],⟨[(.view 0),(.clo 27 [(.ptr 1 0)]),.hole,.hole],[.seq false,.cells true [.hole,.hole,.hole]],[2,2,0,1,1,1],[.int .i64,.int .i64,.sl (.one (.int .i64)),.sl tLit,.sl (.one (.sl (.one (.int .i64)))),.sl tLit]⟩⟩ [((.exit 0),⟨[0,5],⟨[(.view 0),.hole],[.seq false],[2,0],[.int .i64,.sl (.one (.int .i64))]⟩⟩)] (lp slices_DeleteFunc_1_L0 fuel)
theorem w90_u0_ok:UK w90_v (subC (bodyOf Tryz.f26) [1,1,1,0,1,0]) w90_u0:=lp_k .run hord w90_A ob0
theorem w90_ok:SK 26 w90_c:=fn_k (.seq .run (.seq .run (.seq .run (.seq (.seq .run (.block (.unit w90_u0))) .run)))) [.tmp 4] tb_ok hord w90_gs Tryz.func26 (ob1 w90_u0_ok ob0)
def w91_c:ShC:=⟨⟨[.hole,(.agg [.hole,.hole])],[],[1,1,1],[.sl tSym,.bool,.sl (.one (.int .i64))]⟩,⟨[.hole],[],[2],[.bool]⟩,1,[],[],false,false,fun (x:((List QSym)×Bool×(List Int)))=>clause_selfSame x.1 x.2.1 x.2.2⟩
theorem w91_ok:SK 114 w91_c:=fn_k .run [.tmp 4] tb_ok hord (gd1 w47_ok (gd1 w33_ok goods_nil)) Tryz.func114 ob0
def w92_c:ShC:=⟨⟨[(.agg [.hole,.hole]),(.ptr 0 0)],[.cells true [.hole,.hole]],[1,1,1,1],[.bool,.sl (.one (.int .i64)),.bool,.sl (.one (.int .i64))]⟩,⟨[.hole],[],[2],[.bool]⟩,1,[],[],false,false,fun (x:(Bool×(List Int)×Bool×(List Int)))=>clause_Trivial_c1 x.1 x.2.1 x.2.2.1 x.2.2.2⟩
theorem w92_ok:SK 115 w92_c:=fn_k .run [.tmp 3] tb_ok hord (gd1 w47_ok goods_nil) Tryz.func115 ob0
def w93_c:ShC:=⟨⟨[.hole,(.clo 115 [(.ptr 0 0)])],[.cells true [.hole,.hole]],[1,1,1],[.sl tLit,.bool,.sl (.one (.int .i64))]⟩,⟨[.hole],[],[2],[.int .i64]⟩,1,[],[],false,false,fun (x:((List QLit)×Bool×(List Int)))=>slices_IndexFunc_8 x.1 x.2.1 x.2.2⟩
theorem w93_gs:GD w93_c [(115,.gen (altE [w92_c]))]:=(gd1 w92_ok goods_nil)
def w93_v:=envG tb gl w93_gs w93_c Tryz.f98
theorem w93_A:VK w93_v:=env_all tb_ok w93_gs
def w93_u0:Un:=lpU 2 [9,10,5,11,12,13,14,15,16,17,4,18,8] ⟨[0,1,7,8],⟨[.hole,(.clo 115 [(.ptr 0 0)]),.hole,.hole],[.cells true [.hole,.hole]],[1,2,2,2,1],[.sl tLit,.int .i64,.int .i64,.bool,.sl (.one (.int .i64))]⟩⟩ [((.exit 0),⟨[],⟨[],[],[],[]⟩⟩),(.ret,⟨[4],⟨[.hole],[],[2],[.int .i64]⟩⟩)] (lp slices_IndexFunc_8_L0 fuel)
theorem w93_u0_ok:UK w93_v (subC (bodyOf Tryz.f98) [1,0,1,0]) w93_u0:=lp_k .run hord w93_A ob0
theorem w93_ok:SK 98 w93_c:=fn_k (.seq .run (.seq (.seq .run (.block (.unit w93_u0))) .run)) [.tmp 4] tb_ok hord w93_gs Tryz.func98 (ob1 w93_u0_ok ob0)
def w94_c:ShC:=⟨⟨[.hole,(.clo 115 [(.ptr 0 0)])],[.cells true [.hole,.hole]],[1,1,1],[.sl tLit,.bool,.sl (.one (.int .i64))]⟩,⟨[.hole],[],[2],[.bool]⟩,1,[],[],false,false,fun (x:((List QLit)×Bool×(List Int)))=>slices_ContainsFunc_8 x.1 x.2.1 x.2.2⟩
theorem w94_ok:SK 56 w94_c:=fn_k .run [.tmp 4] tb_ok hord (gd1 w93_ok goods_nil) Tryz.func56 ob0
def w95_c:ShC:=⟨⟨[.hole,(.agg [.hole,.hole,.hole])],[],[1,1,1,1],[.sl tSym,.sl tLit,.sl (.one (.sl (.one (.int .i64)))),.sl tLit]⟩,⟨[.hole,.hole],[],[2,2],[.bool,.int .i64]⟩,2,[],[],false,true,fun (x:((List QSym)×(List QLit)×(List (List Int))×(List QLit)))=>clause_Trivial x.1 x.2.1 x.2.2.1 x.2.2.2⟩
theorem w95_gs:GD w95_c [(15,.gen (altE [w15_c])),(56,.gen (altE [w94_c])),(114,.gen (altE [w91_c]))]:=(gdG w15_ok (gd1 w94_ok (gd1 w91_ok goods_nil)))
def w95_v:=envG tb gl w95_gs w95_c Tryz.f72
theorem w95_A:VK w95_v:=env_all tb_ok w95_gs
def w95_u0:Un:=lpU 2 [16,17,18,7,19,20,21,22,23,24,25,26,27,4,5,28,15] ⟨[0,3,13,14,15],⟨[.hole,(.ptr 0 0),.hole,.hole,.hole],[.cells true [.hole,.hole,.hole]],[1,1,2,2,1,1,1],[.sl tSym,.sl tLit,.int .i64,.int .i64,.sl tLit,.sl (.one (.sl (.one (.int .i64)))),.sl tLit]⟩⟩ [((.exit 0),⟨[],⟨[],[],[],[]⟩⟩),(.ret,⟨[4,5],⟨[.hole,.hole],[],[2,2],[.bool,.int .i64]⟩⟩)] (lp clause_Trivial_L0 fuel)
theorem w95_u0_ok:UK w95_v (subC (bodyOf Tryz.f72) [1,1,0,1,0]) w95_u0:=lp_k .run hord w95_A ob0
theorem w95_ok:SK 72 w95_c:=fn_k (.seq .run (.seq .run (.seq (.seq .run (.block (.unit w95_u0))) .run))) [.tmp 4,.tmp 5] tb_ok hord w95_gs Tryz.func72 (ob1 w95_u0_ok ob0)
def w96_c:ShC:=⟨⟨[(.ptr 0 0),(.agg [.hole,.hole,.hole,.hole,.hole,.hole,.hole,.hole,.hole,.hole]),(.agg [.hole,.hole,.hole]),.hole,.hole],[.cells false [.hole,(.view 1),.hole],.seq false],[1,1,1,1,1,1,1,2,2,2,2,2,2,1,1,1,1,2],[.int .i64,.int .i64,.int .i64,.int .i64,.int .i64,.int .i64,.int .i64,.sl tLit,.sl (.one (.sl (.one (.int .i64)))),.sl tLit,.sl tLit,.sl (.one (.sl (.one (.int .i64)))),.sl tLit,.bool,.int .i64,.sl tSym,.int .i64,.sl (.cons (.int .i64) (.cons (.int .i64) (.cons (.int .i64) (.cons (.int .i64) (.cons (.int .i64) (.cons (.int .i64) (.cons (.int .i64) (.cons (.sl tLit) (.cons (.sl (.one (.sl (.one (.int .i64))))) (.one (.sl tLit)))))))))))]⟩,⟨[(.ptr 0 0)],[.cells false [.hole,(.view 1),.hole],.seq false],[1,2,2],[.sl tSym,.int .i64,.sl (.cons (.int .i64) (.cons (.int .i64) (.cons (.int .i64) (.cons (.int .i64) (.cons (.int .i64) (.cons (.int .i64) (.cons (.int .i64) (.cons (.sl tLit) (.cons (.sl (.one (.sl (.one (.int .i64))))) (.one (.sl tLit)))))))))))]⟩,0,[0],[(0,0)],true,true,fun (x:(Int×Int×Int×Int×Int×Int×Int×(List QLit)×(List (List Int))×(List QLit)×(List QLit)×(List (List Int))×(List QLit)×Bool×Int×(List QSym)×Int×(List (Int×Int×Int×Int×Int×Int×Int×(List QLit)×(List (List Int))×(List QLit)))))=>resolve_Kids_Add_2 x.1 x.2.1 x.2.2.1 x.2.2.2.1 x.2.2.2.2.1 x.2.2.2.2.2.1 x.2.2.2.2.2.2.1 x.2.2.2.2.2.2.2.1 x.2.2.2.2.2.2.2.2.1 x.2.2.2.2.2.2.2.2.2.1 x.2.2.2.2.2.2.2.2.2.2.1 x.2.2.2.2.2.2.2.2.2.2.2.1 x.2.2.2.2.2.2.2.2.2.2.2.2.1 x.2.2.2.2.2.2.2.2.2.2.2.2.2.1 x.2.2.2.2.2.2.2.2.2.2.2.2.2.2.1 x.2.2.2.2.2.2.2.2.2.2.2.2.2.2.2.1 x.2.2.2.2.2.2.2.2.2.2.2.2.2.2.2.2.1 x.2.2.2.2.2.2.2.2.2.2.2.2.2.2.2.2.2⟩
theorem w96_ok:SK 30 w96_c:=fn_k (.seq .run (.seq .run (.seq .run (.seq .run (.hide [[9],[],[],[],[],[],[],[],[],[],[]]))))) [] tb_ok hord (gdG w95_ok goods_nil) Tryz.func30 ob0
def w97_c:ShC:=⟨⟨[.hole,(.agg [.hole,.hole,.hole]),.hole,(.agg [.hole,.hole,.hole]),.hole],[],[1,1,1,1,1,1,1,1,1],[.sl tSym,.sl tLit,.sl (.one (.sl (.one (.int .i64)))),.sl tLit,.int .i64,.sl tLit,.sl (.one (.sl (.one (.int .i64)))),.sl tLit,.int .i64]⟩,⟨[(.view 0),.hole,.hole],[.seq false],[2,2,2],[.int .i64,.int .i64,.sl (.cons (.int .i64) (.cons (.int .i64) (.cons (.int .i64) (.cons (.int .i64) (.cons (.int .i64) (.cons (.int .i64) (.cons (.int .i64) (.cons (.sl tLit) (.cons (.sl (.one (.sl (.one (.int .i64))))) (.one (.sl tLit)))))))))))]⟩,3,[],[],false,true,fun (x:((List QSym)×(List QLit)×(List (List Int))×(List QLit)×Int×(List QLit)×(List (List Int))×(List QLit)×Int))=>para_All x.1 x.2.1 x.2.2.1 x.2.2.2.1 x.2.2.2.2.1 x.2.2.2.2.2.1 x.2.2.2.2.2.2.1 x.2.2.2.2.2.2.2.1 x.2.2.2.2.2.2.2.2⟩
theorem w97_gs:GD w97_c [(15,.gen (altE [w15_c])),(25,.gen (altE [w87_c])),(26,.gen (altE [w90_c])),(29,.gen (altE [w76_c])),(30,.gen (altE [w96_c]))]:=(gdG w15_ok (gdG w87_ok (gd1 w90_ok (gdG w76_ok (gdG w96_ok goods_nil)))))
def w97_v:=envG tb gl w97_gs w97_c Tryz.f7
theorem w97_A:VK w97_v:=env_all tb_ok w97_gs
def w97_u0:Un:=scU w97_v [23,71,72,73,74,75,76,77,78,79,81,82,83,84,85,86,87,88,80,89,90,91,24,25,26,92,93,94,95,96,97,98,99,100,101,102,103,104,23] [(.goto 0,⟨[0,2,4,6,8,15,17,19,20,22,23,56,57,58,62,65,66,67],⟨[.hole,.hole,.hole,(.ptr 0 0),(.ptr 1 0),.hole,(.ptr 2 0),.hole,.hole,.hole,.hole,.hole,.hole,.hole,.hole,.hole,.hole,.hole],[.cells true [.hole,.hole,.hole],.cells true [.hole,.hole,.hole],.cells false [.hole,(.view 3),.hole],.seq false],[1,2,2,2,2,2,2,2,0,2,2,2,2,2,2,1,1,1,1,1,1,0,2,2],[.sl tSym,.int .i64,.int .i64,.sl (.one (.int .i64)),.int .i64,.int .i64,.int .i64,.int .i64,.sl (.one (.int .i64)),.int .i64,.int .i64,.int .i64,.sl (.one (.int .i64)),.int .i64,.int .i64,.sl tLit,.sl (.one (.sl (.one (.int .i64)))),.sl tLit,.sl tLit,.sl (.one (.sl (.one (.int .i64)))),.sl tLit,.sl tSym,.int .i64,.sl (.cons (.int .i64) (.cons (.int .i64) (.cons (.int .i64) (.cons (.int .i64) (.cons (.int .i64) (.cons (.int .i64) (.cons (.int .i64) (.cons (.sl tLit) (.cons (.sl (.one (.sl (.one (.int .i64))))) (.one (.sl tLit)))))))))))]⟩⟩)] [(.normal,⟨[17],⟨[(.ptr 0 0)],[.cells false [.hole,(.view 1),.hole],.seq false],[0,2,2],[.sl tSym,.int .i64,.sl (.cons (.int .i64) (.cons (.int .i64) (.cons (.int .i64) (.cons (.int .i64) (.cons (.int .i64) (.cons (.int .i64) (.cons (.int .i64) (.cons (.sl tLit) (.cons (.sl (.one (.sl (.one (.int .i64))))) (.one (.sl tLit)))))))))))]⟩⟩)] (innC (subC (bodyOf Tryz.f7) [1,1,1,1,1,1,0,1,0,0,1,1,0,0,1,1,0,0,1,1,0,0,1,1,0,0,1,1,0,0,1])) .run (lp para_All_L0 fuel)
theorem w97_u0_ok:UK w97_v (subC (bodyOf Tryz.f7) [1,1,1,1,1,1,0,1,0,0,1,1,0,0,1,1,0,0,1,1,0,0,1,1,0,0,1,1,0,0,1]) w97_u0:=sc_k [] hord w97_A ob0 acl0
def w97_u1:Un:=lpU 2 [68,69,70,22,23,71,72,73,74,75,76,77,78,79,81,82,83,84,85,86,87,88,80,89,90,91,24,25,26,92,93,94,95,96,97,98,99,100,101,102,103,104,23,105,67] ⟨[0,2,4,6,8,15,17,19,20,56,57,58,62,65,66,67],⟨[.hole,.hole,.hole,(.ptr 0 0),(.ptr 1 0),.hole,(.ptr 2 0),.hole,.hole,.hole,.hole,.hole,.hole,.hole,.hole,.hole],[.cells true [.hole,.hole,.hole],.cells true [.hole,.hole,.hole],.cells false [.hole,(.view 3),.hole],.seq false],[1,2,2,2,2,2,0,2,2,2,2,2,2,1,1,1,1,1,1,0,2,2],[.sl tSym,.int .i64,.int .i64,.sl (.one (.int .i64)),.int .i64,.int .i64,.sl (.one (.int .i64)),.int .i64,.int .i64,.int .i64,.sl (.one (.int .i64)),.int .i64,.int .i64,.sl tLit,.sl (.one (.sl (.one (.int .i64)))),.sl tLit,.sl tLit,.sl (.one (.sl (.one (.int .i64)))),.sl tLit,.sl tSym,.int .i64,.sl (.cons (.int .i64) (.cons (.int .i64) (.cons (.int .i64) (.cons (.int .i64) (.cons (.int .i64) (.cons (.int .i64) (.cons (.int .i64) (.cons (.sl tLit) (.cons (.sl (.one (.sl (.one (.int .i64))))) (.one (.sl tLit)))))))))))]⟩⟩ [((.exit 4),⟨[17],⟨[(.ptr 0 0)],[.cells false [.hole,(.view 1),.hole],.seq false],[0,2,2],[.sl tSym,.int .i64,.sl (.cons (.int .i64) (.cons (.int .i64) (.cons (.int .i64) (.cons (.int .i64) (.cons (.int .i64) (.cons (.int .i64) (.cons (.int .i64) (.cons (.sl tLit) (.cons (.sl (.one (.sl (.one (.int .i64))))) (.one (.sl tLit)))))))))))]⟩⟩)] (lp para_All_L1 fuel)
theorem w97_u1_ok:UK w97_v (subC (bodyOf Tryz.f7) [1,1,1,1,1,1,0,1,0,0,1,1,0,0,1,1,0,0,1,1,0,0,1,1,0]) w97_u1:=lp_k (.seq .run (.seq .run (.seq (.block (.seq .run (.unit w97_u0))) .run))) hord w97_A (ob1 w97_u0_ok ob0)
def w97_u2:Un:=lpU 2 [63,64,20,65,66,67,68,69,70,22,23,71,72,73,74,75,76,77,78,79,81,82,83,84,85,86,87,88,80,89,90,91,24,25,26,92,93,94,95,96,97,98,99,100,101,102,103,104,23,105,67,106,62] ⟨[0,2,4,6,8,15,17,19,56,57,58,62],⟨[.hole,.hole,.hole,(.ptr 0 0),(.ptr 1 0),.hole,(.ptr 2 0),.hole,.hole,.hole,.hole,.hole],[.cells true [.hole,.hole,.hole],.cells true [.hole,.hole,.hole],.cells false [.hole,(.view 3),.hole],.seq false],[1,2,2,2,2,0,2,2,2,1,1,1,1,1,1,0,2,2],[.sl tSym,.int .i64,.int .i64,.sl (.one (.int .i64)),.int .i64,.sl (.one (.int .i64)),.int .i64,.int .i64,.int .i64,.sl tLit,.sl (.one (.sl (.one (.int .i64)))),.sl tLit,.sl tLit,.sl (.one (.sl (.one (.int .i64)))),.sl tLit,.sl tSym,.int .i64,.sl (.cons (.int .i64) (.cons (.int .i64) (.cons (.int .i64) (.cons (.int .i64) (.cons (.int .i64) (.cons (.int .i64) (.cons (.int .i64) (.cons (.sl tLit) (.cons (.sl (.one (.sl (.one (.int .i64))))) (.one (.sl tLit)))))))))))]⟩⟩ [((.exit 2),⟨[17],⟨[(.ptr 0 0)],[.cells false [.hole,(.view 1),.hole],.seq false],[0,2,2],[.sl tSym,.int .i64,.sl (.cons (.int .i64) (.cons (.int .i64) (.cons (.int .i64) (.cons (.int .i64) (.cons (.int .i64) (.cons (.int .i64) (.cons (.int .i64) (.cons (.sl tLit) (.cons (.sl (.one (.sl (.one (.int .i64))))) (.one (.sl tLit)))))))))))]⟩⟩)] (lp para_All_L2 fuel)
theorem w97_u2_ok:UK w97_v (subC (bodyOf Tryz.f7) [1,1,1,1,1,1,0,1,0,0,1,1,0,0,1,1,0]) w97_u2:=lp_k (.seq .run (.seq .run (.seq (.block (.seq .run (.seq .run (.block (.unit w97_u1))))) .run))) hord w97_A (ob1 w97_u1_ok ob0)
def w97_u3:Un:=lpU 2 [59,60,61,19,62,63,64,20,65,66,67,68,69,70,22,23,71,72,73,74,75,76,77,78,79,81,82,83,84,85,86,87,88,80,89,90,91,24,25,26,92,93,94,95,96,97,98,99,100,101,102,103,104,23,105,67,106,62,107,58] ⟨[0,2,4,6,8,15,17,56,57,58],⟨[.hole,.hole,.hole,(.ptr 0 0),(.ptr 1 0),.hole,(.ptr 2 0),.hole,.hole,.hole],[.cells true [.hole,.hole,.hole],.cells true [.hole,.hole,.hole],.cells false [.hole,(.view 3),.hole],.seq false],[1,2,2,2,0,2,2,1,1,1,1,1,1,0,2,2],[.sl tSym,.int .i64,.int .i64,.sl (.one (.int .i64)),.sl (.one (.int .i64)),.int .i64,.int .i64,.sl tLit,.sl (.one (.sl (.one (.int .i64)))),.sl tLit,.sl tLit,.sl (.one (.sl (.one (.int .i64)))),.sl tLit,.sl tSym,.int .i64,.sl (.cons (.int .i64) (.cons (.int .i64) (.cons (.int .i64) (.cons (.int .i64) (.cons (.int .i64) (.cons (.int .i64) (.cons (.int .i64) (.cons (.sl tLit) (.cons (.sl (.one (.sl (.one (.int .i64))))) (.one (.sl tLit)))))))))))]⟩⟩ [((.exit 0),⟨[17],⟨[(.ptr 0 0)],[.cells false [.hole,(.view 1),.hole],.seq false],[0,2,2],[.sl tSym,.int .i64,.sl (.cons (.int .i64) (.cons (.int .i64) (.cons (.int .i64) (.cons (.int .i64) (.cons (.int .i64) (.cons (.int .i64) (.cons (.int .i64) (.cons (.sl tLit) (.cons (.sl (.one (.sl (.one (.int .i64))))) (.one (.sl tLit)))))))))))]⟩⟩)] (lp para_All_L3 fuel)
theorem w97_u3_ok:UK w97_v (subC (bodyOf Tryz.f7) [1,1,1,1,1,1,0,1,0]) w97_u3:=lp_k (.seq .run (.seq .run (.seq (.block (.seq .run (.seq .run (.block (.unit w97_u2))))) .run))) hord w97_A (ob1 w97_u2_ok ob0)
theorem w97_ok:SK 7 w97_c:=fn_k (.seq .run (.seq .run (.seq .run (.seq .run (.seq .run (.seq .run (.seq (.seq .run (.block (.unit w97_u3))) .run))))))) [.tmp 10,.tmp 11,.tmp 12] tb_ok hord w97_gs Tryz.func7 (ob1 w97_u3_ok ob0)
def w98_c:ShC:=⟨⟨[.hole],[],[1],[.int .i64]⟩,⟨[.hole],[],[2],[.int .i64]⟩,1,[],[],false,false,fun (x:Int)=>law0_Num x⟩
theorem w98_ok:SK 10 w98_c:=fn_k .run [.tmp 2] tb_ok hord goods_nil Tryz.func10 ob0
def w99_c:ShC:=⟨⟨[.hole,.hole],[],[1,1],[.sl (.one (.int .i64)),.sl (.one (.int .i64))]⟩,⟨[.hole],[],[2],[.bool]⟩,1,[],[],false,false,fun (x:((List Int)×(List Int)))=>law0_SameInts x.1 x.2⟩
theorem w99_gs:GD w99_c []:=goods_nil
def w99_v:=envG tb gl w99_gs w99_c Tryz.f17
theorem w99_A:VK w99_v:=env_all tb_ok w99_gs
def w99_u0:Un:=lpU 2 [11,12,13,14,17,18,19,20,21,22,23,24,25,4,15,16,5] ⟨[0,1,5],⟨[.hole,.hole,.hole],[],[1,1,2],[.sl (.one (.int .i64)),.sl (.one (.int .i64)),.int .i64]⟩⟩ [((.exit 0),⟨[],⟨[],[],[],[]⟩⟩),(.ret,⟨[4],⟨[.hole],[],[2],[.bool]⟩⟩)] (lp law0_SameInts_L0 fuel)
theorem w99_u0_ok:UK w99_v (subC (bodyOf Tryz.f17) [1,1,0,1,0]) w99_u0:=lp_k .run hord w99_A ob0
theorem w99_ok:SK 17 w99_c:=fn_k (.seq .run (.seq .run (.seq (.seq .run (.block (.unit w99_u0))) .run))) [.tmp 4] tb_ok hord w99_gs Tryz.func17 (ob1 w99_u0_ok ob0)
def w100_c:ShC:=⟨⟨[.hole,.hole],[],[1,1],[.sl tLit,.sl tLit]⟩,⟨[.hole],[],[2],[.bool]⟩,1,[],[],false,false,fun (x:((List QLit)×(List QLit)))=>law0_SameLits x.1 x.2⟩
theorem w100_gs:GD w100_c [(17,.gen (altE [w99_c]))]:=(gd1 w99_ok goods_nil)
def w100_v:=envG tb gl w100_gs w100_c Tryz.f37
theorem w100_A:VK w100_v:=env_all tb_ok w100_gs
def w100_u0:Un:=lpU 2 [11,12,13,14,17,18,19,20,21,22,23,24,25,26,27,28,29,30,31,32,33,34,35,36,37,38,39,40,41,4,15,16,5] ⟨[0,1,5],⟨[.hole,.hole,.hole],[],[1,1,2],[.sl tLit,.sl tLit,.int .i64]⟩⟩ [((.exit 0),⟨[],⟨[],[],[],[]⟩⟩),(.ret,⟨[4],⟨[.hole],[],[2],[.bool]⟩⟩)] (lp law0_SameLits_L0 fuel)
theorem w100_u0_ok:UK w100_v (subC (bodyOf Tryz.f37) [1,1,0,1,0]) w100_u0:=lp_k .run hord w100_A ob0
theorem w100_ok:SK 37 w100_c:=fn_k (.seq .run (.seq .run (.seq (.seq .run (.block (.unit w100_u0))) .run))) [.tmp 4] tb_ok hord w100_gs Tryz.func37 (ob1 w100_u0_ok ob0)
def w101_c:ShC:=⟨⟨[.hole,.hole],[],[1,1],[.sl (.one (.sl (.one (.int .i64)))),.sl (.one (.sl (.one (.int .i64))))]⟩,⟨[.hole],[],[2],[.bool]⟩,1,[],[],false,false,fun (x:((List (List Int))×(List (List Int))))=>law0_SameRows x.1 x.2⟩
theorem w101_gs:GD w101_c [(17,.gen (altE [w99_c]))]:=(gd1 w99_ok goods_nil)
def w101_v:=envG tb gl w101_gs w101_c Tryz.f38
theorem w101_A:VK w101_v:=env_all tb_ok w101_gs
def w101_u0:Un:=lpU 2 [11,12,13,14,17,18,19,20,21,22,23,24,25,26,4,15,16,5] ⟨[0,1,5],⟨[.hole,.hole,.hole],[],[1,1,2],[.sl (.one (.sl (.one (.int .i64)))),.sl (.one (.sl (.one (.int .i64)))),.int .i64]⟩⟩ [((.exit 0),⟨[],⟨[],[],[],[]⟩⟩),(.ret,⟨[4],⟨[.hole],[],[2],[.bool]⟩⟩)] (lp law0_SameRows_L0 fuel)
theorem w101_u0_ok:UK w101_v (subC (bodyOf Tryz.f38) [1,1,0,1,0]) w101_u0:=lp_k .run hord w101_A ob0
theorem w101_ok:SK 38 w101_c:=fn_k (.seq .run (.seq .run (.seq (.seq .run (.block (.unit w101_u0))) .run))) [.tmp 4] tb_ok hord w101_gs Tryz.func38 (ob1 w101_u0_ok ob0)
def w102_c:ShC:=⟨⟨[(.agg [.hole,.hole,.hole]),(.agg [.hole,.hole,.hole])],[],[1,1,1,1,1,1],[.sl tLit,.sl (.one (.sl (.one (.int .i64)))),.sl tLit,.sl tLit,.sl (.one (.sl (.one (.int .i64)))),.sl tLit]⟩,⟨[.hole],[],[2],[.bool]⟩,1,[],[],false,false,fun (x:((List QLit)×(List (List Int))×(List QLit)×(List QLit)×(List (List Int))×(List QLit)))=>law0_SameClause x.1 x.2.1 x.2.2.1 x.2.2.2.1 x.2.2.2.2.1 x.2.2.2.2.2⟩
theorem w102_ok:SK 12 w102_c:=fn_k .run [.tmp 4] tb_ok hord (gd1 w100_ok (gd1 w101_ok goods_nil)) Tryz.func12 ob0
def w103_c:ShC:=⟨⟨[(.agg [.hole,.hole,.hole,.hole,.hole,.hole,.hole,.hole,.hole,.hole]),(.agg [.hole,.hole,.hole,.hole,.hole,.hole,.hole,.hole,.hole,.hole])],[],[1,1,1,1,1,1,1,1,1,1,1,1,1,1,1,1,1,1,1,1],[.int .i64,.int .i64,.int .i64,.int .i64,.int .i64,.int .i64,.int .i64,.sl tLit,.sl (.one (.sl (.one (.int .i64)))),.sl tLit,.int .i64,.int .i64,.int .i64,.int .i64,.int .i64,.int .i64,.int .i64,.sl tLit,.sl (.one (.sl (.one (.int .i64)))),.sl tLit]⟩,⟨[.hole],[],[2],[.bool]⟩,1,[],[],false,false,fun (x:(Int×Int×Int×Int×Int×Int×Int×(List QLit)×(List (List Int))×(List QLit)×Int×Int×Int×Int×Int×Int×Int×(List QLit)×(List (List Int))×(List QLit)))=>law0_SameStep x.1 x.2.1 x.2.2.1 x.2.2.2.1 x.2.2.2.2.1 x.2.2.2.2.2.1 x.2.2.2.2.2.2.1 x.2.2.2.2.2.2.2.1 x.2.2.2.2.2.2.2.2.1 x.2.2.2.2.2.2.2.2.2.1 x.2.2.2.2.2.2.2.2.2.2.1 x.2.2.2.2.2.2.2.2.2.2.2.1 x.2.2.2.2.2.2.2.2.2.2.2.2.1 x.2.2.2.2.2.2.2.2.2.2.2.2.2.1 x.2.2.2.2.2.2.2.2.2.2.2.2.2.2.1 x.2.2.2.2.2.2.2.2.2.2.2.2.2.2.2.1 x.2.2.2.2.2.2.2.2.2.2.2.2.2.2.2.2.1 x.2.2.2.2.2.2.2.2.2.2.2.2.2.2.2.2.2.1 x.2.2.2.2.2.2.2.2.2.2.2.2.2.2.2.2.2.2.1 x.2.2.2.2.2.2.2.2.2.2.2.2.2.2.2.2.2.2.2⟩
theorem w103_ok:SK 36 w103_c:=fn_k .run [.tmp 4] tb_ok hord (gd1 w102_ok goods_nil) Tryz.func36 ob0
def w104_c:ShC:=⟨⟨[.hole,.hole],[],[1,1],[.sl (.cons (.int .i64) (.cons (.int .i64) (.cons (.int .i64) (.cons (.int .i64) (.cons (.int .i64) (.cons (.int .i64) (.cons (.int .i64) (.cons (.sl tLit) (.cons (.sl (.one (.sl (.one (.int .i64))))) (.one (.sl tLit))))))))))),.sl (.cons (.int .i64) (.cons (.int .i64) (.cons (.int .i64) (.cons (.int .i64) (.cons (.int .i64) (.cons (.int .i64) (.cons (.int .i64) (.cons (.sl tLit) (.cons (.sl (.one (.sl (.one (.int .i64))))) (.one (.sl tLit)))))))))))]⟩,⟨[.hole],[],[2],[.bool]⟩,1,[],[],false,false,fun (x:((List (Int×Int×Int×Int×Int×Int×Int×(List QLit)×(List (List Int))×(List QLit)))×(List (Int×Int×Int×Int×Int×Int×Int×(List QLit)×(List (List Int))×(List QLit)))))=>law0_SameSteps x.1 x.2⟩
theorem w104_gs:GD w104_c [(36,.gen (altE [w103_c]))]:=(gd1 w103_ok goods_nil)
def w104_v:=envG tb gl w104_gs w104_c Tryz.f9
theorem w104_A:VK w104_v:=env_all tb_ok w104_gs
def w104_u0:Un:=lpU 2 [11,12,13,14,17,18,19,20,21,22,23,24,25,26,4,15,16,5] ⟨[0,1,5],⟨[.hole,.hole,.hole],[],[1,1,2],[.sl (.cons (.int .i64) (.cons (.int .i64) (.cons (.int .i64) (.cons (.int .i64) (.cons (.int .i64) (.cons (.int .i64) (.cons (.int .i64) (.cons (.sl tLit) (.cons (.sl (.one (.sl (.one (.int .i64))))) (.one (.sl tLit))))))))))),.sl (.cons (.int .i64) (.cons (.int .i64) (.cons (.int .i64) (.cons (.int .i64) (.cons (.int .i64) (.cons (.int .i64) (.cons (.int .i64) (.cons (.sl tLit) (.cons (.sl (.one (.sl (.one (.int .i64))))) (.one (.sl tLit))))))))))),.int .i64]⟩⟩ [((.exit 0),⟨[],⟨[],[],[],[]⟩⟩),(.ret,⟨[4],⟨[.hole],[],[2],[.bool]⟩⟩)] (lp law0_SameSteps_L0 fuel)
theorem w104_u0_ok:UK w104_v (subC (bodyOf Tryz.f9) [1,1,0,1,0]) w104_u0:=lp_k .run hord w104_A ob0
theorem w104_ok:SK 9 w104_c:=fn_k (.seq .run (.seq .run (.seq (.seq .run (.block (.unit w104_u0))) .run))) [.tmp 4] tb_ok hord w104_gs Tryz.func9 (ob1 w104_u0_ok ob0)
def w105_c:ShC:=⟨⟨[],[],[],[]⟩,⟨[.hole],[],[2],[.bool]⟩,1,[],[],false,true,fun (_:Unit)=>law15_awake⟩
theorem w105_ok:SK 13 w105_c:=fn_k .run [.tmp 0] tb_ok hord (gdG w97_ok (gd1 w104_ok (gd1 w98_ok (gd1 w102_ok (gdG w77_ok (gdG w79_ok (gd1 w0_ok goods_nil))))))) Tryz.func13 ob0
def w106_c:ShC:=⟨⟨[.hole,.hole,.hole,.hole,.hole],[],[1,1,1,1,1],[.sl tSym,.sl (.one (.int .i64)),.sl (.one (.int .i64)),.sl (.one (.int .i64)),.int .i64]⟩,⟨[.hole],[],[2],[.bool]⟩,1,[],[],false,true,fun (x:((List QSym)×(List Int)×(List Int)×(List Int)×Int))=>law15_ParaGround x.1 x.2.1 x.2.2.1 x.2.2.2.1 x.2.2.2.2⟩
theorem w106_gs:GD w106_c [(10,.gen (altE [w98_c])),(13,.gen (altE [w105_c])),(14,.gen (altE [w53_c])),(15,.gen (altE [w15_c])),(16,.gen (altE [w77_c])),(17,.gen (altE [w99_c]))]:=(gd1 w98_ok (gdG w105_ok (gdG w53_ok (gdG w15_ok (gdG w77_ok (gd1 w99_ok goods_nil))))))
def w106_v:=envG tb gl w106_gs w106_c Tryz.f4
theorem w106_A:VK w106_v:=env_all tb_ok w106_gs
def w106_u1:Un:=lpU 2 [100,101,102,103,106,107,108,109,110,10,104,105,20] ⟨[0,2,3,11,17,18,20],⟨[.hole,.hole,.hole,.hole,(.ptr 0 0),(.ptr 1 0),.hole],[.cells true [.hole,.nilv,.nilv],.cells true [.hole,.nilv,.nilv]],[1,1,1,2,2,2,2],[.sl tSym,.sl (.one (.int .i64)),.sl (.one (.int .i64)),.int .i64,.int .i64,.sl tLit,.sl tLit]⟩⟩ [((.exit 2),⟨[],⟨[],[],[],[]⟩⟩),(.ret,⟨[10],⟨[.hole],[],[2],[.bool]⟩⟩)] (lp law15_ParaGround_L1 fuel)
theorem w106_u1_ok:UK w106_v (subC (bodyOf Tryz.f4) [1,1,1,1,1,1,1,1,1,1,1,1,0,1,0]) w106_u1:=lp_k .run hord w106_A ob0
def w106_u0:Un:=lpU 2 [89,90,91,92,95,96,97,98,99,10,93,94,19] ⟨[0,2,3,11,15,17,18,19],⟨[.hole,.hole,.hole,.hole,.hole,(.ptr 0 0),(.ptr 1 0),.hole],[.cells true [.hole,.nilv,.nilv],.cells true [.hole,.nilv,.nilv]],[1,1,1,2,2,2,2,2],[.sl tSym,.sl (.one (.int .i64)),.sl (.one (.int .i64)),.int .i64,.sl (.one (.int .i64)),.int .i64,.sl tLit,.sl tLit]⟩⟩ [((.exit 0),⟨[],⟨[],[],[],[]⟩⟩),(.ret,⟨[10],⟨[.hole],[],[2],[.bool]⟩⟩)] (lp law15_ParaGround_L0 fuel)
theorem w106_u0_ok:UK w106_v (subC (bodyOf Tryz.f4) [1,1,1,1,1,1,1,1,1,1,1,0,1,0]) w106_u0:=lp_k .run hord w106_A ob0
theorem w106_ok:SK 4 w106_c:=fn_k (.seq .run (.seq .run (.seq .run (.seq .run (.seq .run (.seq .run (.seq .run (.seq .run (.seq .run (.seq .run (.seq .run (.seq (.seq .run (.block (.unit w106_u0))) (.seq (.seq .run (.block (.unit w106_u1))) .run))))))))))))) [.tmp 10] tb_ok hord w106_gs Tryz.func4 (ob1 w106_u0_ok (ob1 w106_u1_ok ob0))
end
end Go.Abs.Sz6
