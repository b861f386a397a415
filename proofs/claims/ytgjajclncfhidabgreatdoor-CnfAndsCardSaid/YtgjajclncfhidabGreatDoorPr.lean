import Derived.Test.YtgjajclncfhidabGreatDoorFc
import Derived.Test.YtgjajclncfhidabGreatDoorQb
import Derived.Test.YtgjajclncfhidabGreatDoorXa
import Derived.Test.YtgjajclncfhidabGreatDoorProg
import Derived.Test.YtgjajclncfhidabGreatDoorSh
/-
 The functions make just that.
-/
namespace Go.Abs.Sn
open Go Go.Abs Go.Abs.Q Go.Proofs
set_option maxRecDepth 100000
noncomputable section
def tbl:List (Nat×TD):=[(3,.int .i64),
 (4,.bool),
 (5,.int .u8),
 (9,.str),
 (22,.sl 49 tSym 40),
 (23,.sl 45 (.cons (.int .i64) (.cons (.int .i64) (.one (.sl (.one (.int .i64)))))) 40),
 (26,.sl 39 (.cons (.sl tLit) (.cons (.sl (.one (.sl (.one (.int .i64))))) (.one (.sl tLit)))) 72),
 (36,.sl 95 tLit 32),
 (37,.sl 43 (.one (.sl (.one (.int .i64)))) 24),
 (39,.st [(36,0),(37,1),(36,2)] 3),
 (43,.sl 3 (.one (.int .i64)) 8),
 (45,.st [(3,0),(3,1),(43,2)] 3),
 (49,.st [(9,0),(3,1),(3,2),(3,3)] 4),
 (67,.st [(22,0),(23,1),(3,2)] 3),
 (68,.arr 43 (.one (.sl (.one (.int .i64)))) 24),
 (70,.st [(68,0),(43,24)] 25),
 (73,.arr 4 (.one .bool) 24),
 (95,.st [(4,0),(43,1)] 2),
 (101,.int .u64),
 (130,.sl 166 (.cons (.int .i64) (.one .str)) 24),
 (138,.arr 3 (.one (.int .i64)) 24),
 (141,.sl 36 (.one (.sl tLit)) 24),
 (166,.st [(3,0),(9,1)] 2),
 (169,.st [(22,0),(130,1),(4,2)] 3),
 (181,.sl 26 (.one (.sl (.cons (.sl tLit) (.cons (.sl (.one (.sl (.one (.int .i64))))) (.one (.sl tLit)))))) 24),
 (187,.sl 192 (.cons (.int .i64) (.one .bool)) 16),
 (192,.st [(3,0),(4,1)] 2),
 (201,.sl 9 (.one .str) 16)]
def tb:Tb:=tbOf tbl
theorem tb_ok:TbOk Tryz.prog tb:=tb_check (by kernel_rfl)
theorem hord:Tryz.prog.follows .mixedOrders=true:=by kernel_rfl
def gl:Gl:=fun q=>cond (Nat.beq q 0) (some ⟨tSym,(([61],0,2,1):QSym)⟩) (none)
abbrev SK:=ShOk Tryz.prog gl
abbrev UK:=UnA Tryz.prog
abbrev VK:=VAll Tryz.prog
abbrev GD (c:ShC):=Goods Tryz.prog (cond c.glob gl fun _=>none)
def w0_c:ShC:=⟨⟨[],[],[],[]⟩,⟨[(.view 0)],[.seq false],[2],[.sl tSym]⟩,1,[],[],false,false,fun (_:Unit)=>law23_words⟩
theorem w0_ok:SK 44 w0_c:=fn_k .run [.tmp 0] tb_ok hord goods_nil Tryz.func44 ob0
def w1_c:ShC:=⟨⟨[.hole],[],[1],[.int .u8]⟩,⟨[.hole],[],[2],[.bool]⟩,1,[],[],false,false,fun (x:Int)=>lex_small x⟩
theorem w1_ok:SK 127 w1_c:=fn_k .run [.tmp 2] tb_ok hord goods_nil Tryz.func127 ob0
def w2_c:ShC:=⟨⟨[.hole],[],[1],[.int .u8]⟩,⟨[.hole],[],[2],[.bool]⟩,1,[],[],false,false,fun (x:Int)=>lex_digit x⟩
theorem w2_ok:SK 128 w2_c:=fn_k .run [.tmp 2] tb_ok hord goods_nil Tryz.func128 ob0
def w3_c:ShC:=⟨⟨[.hole,.hole,.hole],[],[1,1,1],[.str,.int .i64,.bool]⟩,⟨[.hole],[],[2],[.int .i64]⟩,1,[],[],false,false,fun (x:(Str×Int×Bool))=>lex_run x.1 x.2.1 x.2.2⟩
theorem w3_gs:GD w3_c [(127,.gen (altE [w1_c])),(128,.gen (altE [w2_c]))]:=(gd1 w1_ok (gd1 w2_ok goods_nil))
def w3_v:=envG tb gl w3_gs w3_c Tryz.f131
theorem w3_A:VK w3_v:=env_all tb_ok w3_gs
def w3_u0:Un:=lpU 2 [7,8,9,10,11,12,13,14,15,16,17,18,19,20,21,22,23,24,25,26,27,1] ⟨[0,1,2],⟨[.hole,.hole,.hole],[],[2,2,2],[.str,.int .i64,.bool]⟩⟩ [((.exit 0),⟨[1],⟨[.hole],[],[2],[.int .i64]⟩⟩)] (lp lex_run_L0 fuel)
theorem w3_u0_ok:UK w3_v (subC (bodyOf Tryz.f131) [1,0,0]) w3_u0:=lp_k .run hord w3_A ob0
theorem w3_ok:SK 131 w3_c:=fn_k (.seq .run (.seq (.block (.unit w3_u0)) .run)) [.tmp 6] tb_ok hord w3_gs Tryz.func131 (ob1 w3_u0_ok ob0)
def w4_c:ShC:=⟨⟨[.hole,.hole],[],[1,1],[.str,.str]⟩,⟨[.hole],[],[2],[.bool]⟩,1,[],[],false,false,fun (x:(Str×Str))=>internal_stringslite_HasPrefix x.1 x.2⟩
theorem w4_ok:SK 155 w4_c:=fn_k .run [.tmp 4] tb_ok hord goods_nil Tryz.func155 ob0
def w5_c:ShC:=⟨⟨[.hole,.hole],[],[1,1],[.str,.str]⟩,⟨[.hole],[],[2],[.bool]⟩,1,[],[],false,false,fun (x:(Str×Str))=>strings_HasPrefix x.1 x.2⟩
theorem w5_ok:SK 129 w5_c:=fn_k .run [.tmp 4] tb_ok hord (gd1 w4_ok goods_nil) Tryz.func129 ob0
def w6_c:ShC:=containsC
theorem w6_ok:SK 130 w6_c :=
 contains_ok (code:=bodyOf Tryz.f130) Tryz.func130 (by kernel_rfl) (by kernel_rfl) (Nat.le_of_ble_eq_true (by kernel_rfl)) fun s c w=>Tryz.strings_Contains_one s c w
def w7_c:ShC:=⟨⟨[.hole,.hole],[],[1,1],[.str,.int .i64]⟩,⟨[.hole],[],[2],[.bool]⟩,1,[],[],false,false,fun (x:(Str×Int))=>lex_number x.1 x.2⟩
theorem w7_ok:SK 132 w7_c:=fn_k .run [.tmp 4] tb_ok hord goods_nil Tryz.func132 ob0
def w8_c:ShC:=⟨⟨[.hole],[],[1],[.str]⟩,⟨[.hole],[],[2],[.int .i64]⟩,1,[],[],false,false,fun (x:Str)=>lex_Number x⟩
theorem w8_gs:GD w8_c []:=goods_nil
def w8_v:=envG tb gl w8_gs w8_c Tryz.f133
theorem w8_A:VK w8_v:=env_all tb_ok w8_gs
def w8_u0:Un:=lpU 2 [8,9,4,10,11,12,13,14,15,16,17,3,18,7] ⟨[0,3,6,7],⟨[.hole,.hole,.hole,.hole],[],[2,2,2,2],[.str,.int .i64,.int .i64,.int .i64]⟩⟩ [((.exit 0),⟨[3],⟨[.hole],[],[2],[.int .i64]⟩⟩)] (lp lex_Number_L0 fuel)
theorem w8_u0_ok:UK w8_v (subC (bodyOf Tryz.f133) [1,1,0,1,0]) w8_u0:=lp_k .run hord w8_A ob0
theorem w8_ok:SK 133 w8_c:=fn_k (.seq .run (.seq .run (.seq (.seq .run (.block (.unit w8_u0))) .run))) [.tmp 2] tb_ok hord w8_gs Tryz.func133 (ob1 w8_u0_ok ob0)
def w9_c:ShC:=⟨⟨[.hole],[],[1],[.str]⟩,⟨[(.view 0),.hole],[.seq false],[2,2],[.int .i64,.sl (.cons (.int .i64) (.one .str))]⟩,2,[],[],false,false,fun (x:Str)=>lex_Lex x⟩
theorem w9_gs:GD w9_c [(127,.gen (altE [w1_c])),(128,.gen (altE [w2_c])),(129,.gen (altE [w5_c])),(130,.gen (altE [w6_c])),(131,.gen (altE [w3_c])),(132,.gen (altE [w7_c])),(133,.gen (altE [w8_c]))]:=(gd1 w1_ok (gd1 w2_ok (gd1 w5_ok (gd1 w6_ok (gd1 w3_ok (gd1 w7_ok (gd1 w8_ok goods_nil)))))))
def w9_v:=envG tb gl w9_gs w9_c Tryz.f88
theorem w9_A:VK w9_v:=env_all tb_ok w9_gs
def w9_u2:Un:=lpU 2 [11,12,13,14,15,16,17,18,19,20,21,22,5] ⟨[0,5],⟨[.hole,.hole],[],[2,2],[.str,.int .i64]⟩⟩ [((.exit 0),⟨[5],⟨[.hole],[],[2],[.int .i64]⟩⟩)] (lp lex_Lex_L2 fuel)
theorem w9_u2_ok:UK w9_v (subC (restOf (subC (bodyOf Tryz.f88) [1,0]) 1) [1,0,0]) w9_u2:=lp_k .run hord w9_A ob0
def w9_u1:Un:=lpU 2 [11,12,13,14,15,16,17,18,19,20,21,22,5] ⟨[0,4,5],⟨[.hole,.nilv,.hole],[],[2,2],[.str,.int .i64]⟩⟩ [((.exit 0),⟨[5],⟨[.hole],[],[2],[.int .i64]⟩⟩)] (lp lex_Lex_L1 fuel)
theorem w9_u1_ok:UK w9_v (subC (bodyOf Tryz.f88) [1,0,1,1,1,1,0,0]) w9_u1:=lp_k .run hord w9_A ob0
def w9_u0:Un:=scU w9_v [4,5,6,7,8,9,10,11,12,13,14,15,16,17,18,19,20,21,22,5,24,25,26,27,23,28,2,3,30,31,32,33,29,35,36,37,38,34,40,41,42,43,39,44,45,7,6,46,47,48,49,50,51,6,52,53,54,55,56,57,58,59,60,7,6,61,62,63,64,65,66,67,68,7,6,69,70,71,72,73,74,75,76,77,78,79,80,81,82,83,84,85,86,87,7,6,88,89,90,91,92,93,94,95,96,97,98,99,100,101,102,4,103,5,2,3] [(.goto 0,⟨[],⟨[],[],[],[]⟩⟩),(.goto 1,⟨[0,4,5],⟨[.hole,(.view 0),.hole],[.seq false],[2,2,2],[.str,.int .i64,.sl (.cons (.int .i64) (.one .str))]⟩⟩),(.goto 2,⟨[0,4,5],⟨[.hole,(.view 0),.hole],[.seq false],[2,2,2],[.str,.int .i64,.sl (.cons (.int .i64) (.one .str))]⟩⟩),(.goto 3,⟨[0,4,5],⟨[.hole,(.view 0),.hole],[.seq false],[2,2,2],[.str,.int .i64,.sl (.cons (.int .i64) (.one .str))]⟩⟩),(.goto 4,⟨[0,4,5],⟨[.hole,(.view 0),.hole],[.seq false],[2,2,2],[.str,.int .i64,.sl (.cons (.int .i64) (.one .str))]⟩⟩),(.goto 5,⟨[0,4,5,6,7],⟨[.hole,(.view 0),.hole,.hole,.hole],[.seq false],[2,2,2,2,2],[.str,.int .i64,.int .i64,.int .i64,.sl (.cons (.int .i64) (.one .str))]⟩⟩)] [(.ret,⟨[2,3],⟨[(.view 0),.hole],[.seq false],[2,2],[.int .i64,.sl (.cons (.int .i64) (.one .str))]⟩⟩)] (innC (subC (bodyOf Tryz.f88) [1])) (.seq .run (.seq .run (.seq .run (.seq .run (.seq (.block (.unit w9_u1)) .run))))) (lp lex_Lex_L0 fuel)
theorem w9_u0_ok:UK w9_v (subC (bodyOf Tryz.f88) [1]) w9_u0:=sc_k [(1,(.seq .run (.seq (.block (.unit w9_u2)) .run)))] hord w9_A (ob1 w9_u1_ok ob0) (acl1 (ob1 w9_u2_ok ob0) acl0)
theorem w9_ok:SK 88 w9_c:=fn_k (.seq .run (.unit w9_u0)) [.tmp 2,.tmp 3] tb_ok hord w9_gs Tryz.func88 (ob1 w9_u0_ok ob0)
def w10_c:ShC:=⟨⟨[.hole],[],[1],[.int .u8]⟩,⟨[.hole],[],[2],[.bool]⟩,1,[],[],false,false,fun (x:Int)=>sign_small x⟩
theorem w10_ok:SK 173 w10_c:=fn_k .run [.tmp 2] tb_ok hord goods_nil Tryz.func173 ob0
def w11_c:ShC:=⟨⟨[.hole],[],[1],[.str]⟩,⟨[.hole],[],[2],[.bool]⟩,1,[],[],false,false,fun (x:Str)=>sign_called x⟩
theorem w11_gs:GD w11_c [(173,.gen (altE [w10_c]))]:=(gd1 w10_ok goods_nil)
def w11_v:=envG tb gl w11_gs w11_c Tryz.f161
theorem w11_A:VK w11_v:=env_all tb_ok w11_gs
def w11_u0:Un:=lpU 2 [20,21,3,22,23,24,25,26,27,28,29,30,31,32,33,34,35,36,37,38,2,39,19] ⟨[0,18,19],⟨[.hole,.hole,.hole],[],[2,2,2],[.str,.int .i64,.int .i64]⟩⟩ [((.exit 0),⟨[],⟨[],[],[],[]⟩⟩),(.ret,⟨[2],⟨[.hole],[],[2],[.bool]⟩⟩)] (lp sign_called_L0 fuel)
theorem w11_u0_ok:UK w11_v (subC (bodyOf Tryz.f161) [1,1,0,1,0]) w11_u0:=lp_k .run hord w11_A ob0
theorem w11_ok:SK 161 w11_c:=fn_k (.seq .run (.seq .run (.seq (.seq .run (.block (.unit w11_u0))) .run))) [.tmp 2] tb_ok hord w11_gs Tryz.func161 (ob1 w11_u0_ok ob0)
def w12_c:ShC:=⟨⟨[(.agg [.hole,.hole,.hole,.hole])],[],[1,1,1,1],[.str,.int .i64,.int .i64,.int .i64]⟩,⟨[.hole],[],[2],[.bool]⟩,1,[],[],false,false,fun (x:QSym)=>sign_SymMay x.1 x.2.1 x.2.2.1 x.2.2.2⟩
theorem w12_ok:SK 135 w12_c:=fn_k .run [.tmp 2] tb_ok hord (gd1 w11_ok goods_nil) Tryz.func135 ob0
def w13_c:ShC:=⟨⟨[.hole,.hole],[],[1,1],[.sl tSym,.str]⟩,⟨[.hole],[],[2],[.int .i64]⟩,1,[],[],false,false,fun (x:((List QSym)×Str))=>sign_find x.1 x.2⟩
theorem w13_gs:GD w13_c []:=goods_nil
def w13_v:=envG tb gl w13_gs w13_c Tryz.f136
theorem w13_A:VK w13_v:=env_all tb_ok w13_gs
def w13_u0:Un:=lpU 2 [9,10,5,11,12,13,14,15,16,17,18,4,19,8] ⟨[0,1,7,8],⟨[.hole,.hole,.hole,.hole],[],[1,2,2,2],[.sl tSym,.str,.int .i64,.int .i64]⟩⟩ [((.exit 0),⟨[],⟨[],[],[],[]⟩⟩),(.ret,⟨[4],⟨[.hole],[],[2],[.int .i64]⟩⟩)] (lp sign_find_L0 fuel)
theorem w13_u0_ok:UK w13_v (subC (bodyOf Tryz.f136) [1,0,1,0]) w13_u0:=lp_k .run hord w13_A ob0
theorem w13_ok:SK 136 w13_c:=fn_k (.seq .run (.seq (.seq .run (.block (.unit w13_u0))) .run)) [.tmp 4] tb_ok hord w13_gs Tryz.func136 (ob1 w13_u0_ok ob0)
def w14_c:ShC:=⟨⟨[.hole],[],[1],[.sl tSym]⟩,⟨[.hole],[],[2],[.bool]⟩,1,[],[],false,true,fun (x:(List QSym))=>sign_May x⟩
theorem w14_gs:GD w14_c [(135,.gen (altE [w12_c])),(136,.gen (altE [w13_c]))]:=(gd1 w12_ok (gd1 w13_ok goods_nil))
def w14_v:=envG tb gl w14_gs w14_c Tryz.f92
theorem w14_A:VK w14_v:=env_all tb_ok w14_gs
def w14_u0:Un:=lpU 2 [19,20,21,22,25,26,27,28,29,30,31,32,33,34,35,36,37,38,39,40,41,2,23,24,3] ⟨[0,3],⟨[.hole,.hole],[],[1,2],[.sl tSym,.int .i64]⟩⟩ [((.exit 0),⟨[],⟨[],[],[],[]⟩⟩),(.ret,⟨[2],⟨[.hole],[],[2],[.bool]⟩⟩)] (lp sign_May_L0 fuel)
theorem w14_u0_ok:UK w14_v (subC (bodyOf Tryz.f92) [1,1,0,1,0]) w14_u0:=lp_k .run hord w14_A ob0
theorem w14_ok:SK 92 w14_c:=fn_k (.seq .run (.seq .run (.seq (.seq .run (.block (.unit w14_u0))) .run))) [.tmp 2] tb_ok hord w14_gs Tryz.func92 (ob1 w14_u0_ok ob0)
def w15_c:ShC:=⟨⟨[(.agg [.hole,.hole,.hole,.hole])],[],[1,1,1,1],[.str,.int .i64,.int .i64,.int .i64]⟩,⟨[.hole],[],[2],[.bool]⟩,1,[],[],false,false,fun (x:QSym)=>formula_SigMay_c1 x.1 x.2.1 x.2.2.1 x.2.2.2⟩
theorem w15_ok:SK 108 w15_c:=fn_k .run [.tmp 2] tb_ok hord goods_nil Tryz.func108 ob0
def w16_c:ShC:=⟨⟨[.hole,(.clo 108 [])],[],[1],[.sl tSym]⟩,⟨[.hole],[],[2],[.int .i64]⟩,1,[],[],false,false,fun (x:(List QSym))=>slices_IndexFunc_5 x⟩
theorem w16_gs:GD w16_c [(108,.gen (altE [w15_c]))]:=(gd1 w15_ok goods_nil)
def w16_v:=envG tb gl w16_gs w16_c Tryz.f145
theorem w16_A:VK w16_v:=env_all tb_ok w16_gs
def w16_u0:Un:=lpU 2 [9,10,5,11,12,13,14,15,16,17,4,18,8] ⟨[0,1,7,8],⟨[.hole,(.clo 108 []),.hole,.hole],[],[1,2,2],[.sl tSym,.int .i64,.int .i64]⟩⟩ [((.exit 0),⟨[],⟨[],[],[],[]⟩⟩),(.ret,⟨[4],⟨[.hole],[],[2],[.int .i64]⟩⟩)] (lp slices_IndexFunc_5_L0 fuel)
theorem w16_u0_ok:UK w16_v (subC (bodyOf Tryz.f145) [1,0,1,0]) w16_u0:=lp_k .run hord w16_A ob0
theorem w16_ok:SK 145 w16_c:=fn_k (.seq .run (.seq (.seq .run (.block (.unit w16_u0))) .run)) [.tmp 4] tb_ok hord w16_gs Tryz.func145 (ob1 w16_u0_ok ob0)
def w17_c:ShC:=⟨⟨[.hole,(.clo 108 [])],[],[1],[.sl tSym]⟩,⟨[.hole],[],[2],[.bool]⟩,1,[],[],false,false,fun (x:(List QSym))=>slices_ContainsFunc_5 x⟩
theorem w17_ok:SK 107 w17_c:=fn_k .run [.tmp 4] tb_ok hord (gd1 w16_ok goods_nil) Tryz.func107 ob0
def w18_c:ShC:=⟨⟨[.hole],[],[1],[.sl tSym]⟩,⟨[.hole],[],[2],[.bool]⟩,1,[],[],false,true,fun (x:(List QSym))=>formula_SigMay x⟩
theorem w18_ok:SK 61 w18_c:=fn_k .run [.tmp 2] tb_ok hord (gdG w14_ok (gd1 w17_ok goods_nil)) Tryz.func61 ob0
def w19_c:ShC:=⟨⟨[(.ptr 0 0),.hole],[.cells false [.hole,.hole,.hole]],[1,1,1,1],[.str,.sl tSym,.sl (.cons (.int .i64) (.one .str)),.bool]⟩,⟨[.hole,(.ptr 0 0)],[.cells false [.hole,.hole,.hole]],[2,1,1,2],[.bool,.sl tSym,.sl (.cons (.int .i64) (.one .str)),.bool]⟩,1,[0],[(0,0)],true,false,fun (x:(Str×(List QSym)×(List (Int×Str))×Bool))=>formula_Reader_Is_1 x.1 x.2.1 x.2.2.1 x.2.2.2⟩
theorem w19_ok:SK 157 w19_c:=fn_k .run [.tmp 4] tb_ok hord goods_nil Tryz.func157 ob0
def w20_c:ShC:=⟨⟨[(.ptr 0 0)],[.cells false [.hole,.hole,.hole]],[1,1,1],[.sl tSym,.sl (.cons (.int .i64) (.one .str)),.bool]⟩,⟨[(.agg [.hole,.hole,.nilv]),.hole,(.ptr 0 0)],[.cells false [.hole,.hole,.hole]],[2,2,2,1,1,2],[.int .i64,.int .i64,.bool,.sl tSym,.sl (.cons (.int .i64) (.one .str)),.bool]⟩,2,[0],[(0,0)],true,false,fun (x:((List QSym)×(List (Int×Str))×Bool))=>formula_Reader_binder_1 x.1 x.2.1 x.2.2⟩
theorem w20_ok:SK 158 w20_c:=fn_k .run [.cell 2 45,.tmp 3] tb_ok hord (gd1 w8_ok goods_nil) Tryz.func158 ob0
def w21_c:ShC:=⟨⟨[.hole,.hole],[],[1,1],[.sl tSym,.str]⟩,⟨[.hole,.hole],[],[2,2],[.int .i64,.int .i64]⟩,2,[],[],false,true,fun (x:((List QSym)×Str))=>sign_Find x.1 x.2⟩
theorem w21_ok:SK 151 w21_c:=fn_k .run [.tmp 4,.tmp 5] tb_ok hord (gdG w14_ok (gd1 w13_ok goods_nil)) Tryz.func151 ob0
def w22_c:ShC:=⟨⟨[(.ptr 0 0)],[.cells false [.hole,.hole,.hole]],[1,1,1],[.sl tSym,.sl (.cons (.int .i64) (.one .str)),.bool]⟩,⟨[.hole,.hole,(.ptr 0 0)],[.cells false [.hole,.hole,.hole]],[2,2,1,1,2],[.int .i64,.bool,.sl tSym,.sl (.cons (.int .i64) (.one .str)),.bool]⟩,2,[0],[(0,0)],true,true,fun (x:((List QSym)×(List (Int×Str))×Bool))=>formula_Reader_symbol_1 x.1 x.2.1 x.2.2⟩
theorem w22_ok:SK 169 w22_c:=fn_k .run [.tmp 2,.tmp 3] tb_ok hord (gdG w21_ok goods_nil) Tryz.func169 ob0
def w23_c:ShC:=⟨⟨[(.ptr 0 0)],[.cells false [.hole,.hole,.hole]],[1,1,1],[.sl tSym,.sl (.cons (.int .i64) (.one .str)),.bool]⟩,⟨[.hole,.hole,(.ptr 0 0)],[.cells false [.hole,.hole,.hole]],[2,2,1,1,2],[.int .i64,.bool,.sl tSym,.sl (.cons (.int .i64) (.one .str)),.bool]⟩,2,[0],[(0,0)],true,false,fun (x:((List QSym)×(List (Int×Str))×Bool))=>formula_Reader_Var_1 x.1 x.2.1 x.2.2⟩
theorem w23_ok:SK 179 w23_c:=fn_k .run [.tmp 2,.tmp 3] tb_ok hord (gd1 w8_ok goods_nil) Tryz.func179 ob0
def w24_c:ShC:=⟨⟨[.hole],[],[1],[.int .i64]⟩,⟨[.hole],[],[2],[.int .i64]⟩,1,[],[],false,false,fun (x:Int)=>term_Number x⟩
theorem w24_ok:SK 66 w24_c:=fn_k .run [.tmp 2] tb_ok hord goods_nil Tryz.func66 ob0
def w25_ck (k:Nat):ShC:=⟨⟨[(.ptr 0 0)],[.cells false [.hole,.hole,.hole]],[1,1,1],[.sl tSym,.sl (.cons (.int .i64) (.one .str)),.bool]⟩,⟨[(.view 0),.hole,(.ptr 1 0)],[.seq false,.cells false [.hole,.hole,.hole]],[2,2,0,0,2],[.bool,.sl (.one (.int .i64)),.sl tSym,.sl (.cons (.int .i64) (.one .str)),.bool]⟩,2,[0],[(0,1)],true,true,(formula_Reader_behind_1_R k).1⟩
def w25_c:ShC:=⟨⟨[(.ptr 0 0)],[.cells false [.hole,.hole,.hole]],[1,1,1],[.sl tSym,.sl (.cons (.int .i64) (.one .str)),.bool]⟩,⟨[(.view 0),.hole,(.ptr 1 0)],[.seq false,.cells false [.hole,.hole,.hole]],[2,2,0,0,2],[.bool,.sl (.one (.int .i64)),.sl tSym,.sl (.cons (.int .i64) (.one .str)),.bool]⟩,2,[0],[(0,1)],true,true,fun (x:((List QSym)×(List (Int×Str))×Bool))=>formula_Reader_term_1 x.1 x.2.1 x.2.2⟩
def w26_ck (k:Nat):ShC:=⟨⟨[(.ptr 0 0),.hole],[.cells false [.hole,.hole,.hole]],[1,1,1,1],[.int .i64,.sl tSym,.sl (.cons (.int .i64) (.one .str)),.bool]⟩,⟨[(.view 0),.hole,(.ptr 1 0)],[.seq false,.cells false [.hole,.hole,.hole]],[2,2,0,0,2],[.bool,.sl (.one (.int .i64)),.sl tSym,.sl (.cons (.int .i64) (.one .str)),.bool]⟩,2,[0],[(0,1)],true,true,(formula_Reader_behind_1_R k).2⟩
def w26_c:ShC:=⟨⟨[(.ptr 0 0),.hole],[.cells false [.hole,.hole,.hole]],[1,1,1,1],[.int .i64,.sl tSym,.sl (.cons (.int .i64) (.one .str)),.bool]⟩,⟨[(.view 0),.hole,(.ptr 1 0)],[.seq false,.cells false [.hole,.hole,.hole]],[2,2,0,0,2],[.bool,.sl (.one (.int .i64)),.sl tSym,.sl (.cons (.int .i64) (.one .str)),.bool]⟩,2,[0],[(0,1)],true,true,fun (x:(Int×(List QSym)×(List (Int×Str))×Bool))=>formula_Reader_behind_1 x.1 x.2.1 x.2.2.1 x.2.2.2⟩
def w26_R_H (k:Nat):Prop:=SK 171 (w25_ck k)∧SK 170 (w26_ck k)
theorem w25_ok1 (k:Nat) (h:w26_R_H k):SK 171 (w25_ck (k+1)):=fn_k .run [.tmp 2,.tmp 3] tb_ok hord (gd1 w24_ok (gdG w22_ok (gdG h.2 (gd1 w23_ok goods_nil)))) Tryz.func171 ob0
def w26_g (k:Nat):List (Nat×Con):=[(157,.gen (altE [w19_c])),(171,.gen (altE [w25_ck k]))]
theorem w26_gs (k:Nat) (h:w26_R_H k):GD (w26_ck (k+1)) (w26_g k):=(gd1 w19_ok (gdG h.1 goods_nil))
def w26_v (k:Nat):Env:=envOf tb gl (w26_g k) (w26_ck (k+1)) Tryz.f170.ntmps
theorem w26_A (k:Nat) (h:w26_R_H k):VK (w26_v k):=env_all tb_ok (w26_gs k h)
def w26_u0 (k:Nat):Un:=lpU 2 [22,23,7,8,24,25,8,26,27,28,29,4,5,31,32,30,33,34,9,10,35,36,4,5,37,38,39,6,40,21] ⟨[0,1,6,20,21],⟨[(.ptr 0 0),.hole,(.view 1),.hole,.hole],[.cells false [.hole,.hole,.hole],.seq false],[2,2,2,0,0,2,2],[.int .i64,.int .i64,.int .i64,.sl tSym,.sl (.cons (.int .i64) (.one .str)),.bool,.sl (.one (.int .i64))]⟩⟩ [((.exit 0),⟨[0,6],⟨[(.ptr 0 0),(.view 1)],[.cells false [.hole,.hole,.hole],.seq false],[0,0,2,2],[.sl tSym,.sl (.cons (.int .i64) (.one .str)),.bool,.sl (.one (.int .i64))]⟩⟩),(.ret,⟨[0,4,5],⟨[(.ptr 0 0),.nilv,.hole],[.cells false [.hole,.hole,.hole]],[2,0,0,2],[.bool,.sl tSym,.sl (.cons (.int .i64) (.one .str)),.bool]⟩⟩)] (lp (formula_Reader_behind_1_L0 (formula_Reader_behind_1_R k)) fuel)
theorem w26_u0_ok (k:Nat) (h:w26_R_H k):UK (w26_v k) (subC (bodyOf Tryz.f170) [1,1,0,1,0]) (w26_u0 k):=lp_k .run hord (w26_A k h) ob0
theorem w26_ok1 (k:Nat) (h:w26_R_H k):SK 170 (w26_ck (k+1)):=fn_k (.seq .run (.seq .run (.seq (.seq .run (.block (.unit (w26_u0 k)))) .run))) [.tmp 4,.tmp 5] tb_ok hord (w26_gs k h) Tryz.func170 (ob1 (w26_u0_ok k h) ob0)
theorem w26_R_all:∀ k,w26_R_H k
 | 0=>⟨(sh_base (by kernel_rfl) fun _=>rfl),(sh_base (by kernel_rfl) fun _=>rfl)⟩
 | k+1=>have h:=w26_R_all k; ⟨w25_ok1 k h,w26_ok1 k h⟩
theorem w25_ok:SK 171 w25_c:=(w26_R_all fuel).1
theorem w26_ok:SK 170 w26_c:=(w26_R_all fuel).2
def w27_c:ShC:=⟨⟨[.nilv,.hole],[],[1],[.int .i64]⟩,⟨[(.view 0)],[.seq false],[2],[.sl (.one (.int .i64))]⟩,1,[],[],false,false,fun (x:Int)=>slices_Grow_2 x⟩
theorem w27_ok:SK 180 w27_c:=fn_k .run [.tmp 4] tb_ok hord (gd0 1000025 goods_nil) Tryz.func180 ob0
def w28_c:ShC:=⟨⟨[.hole],[],[1],[.sl (.one (.sl (.one (.int .i64))))]⟩,⟨[(.view 0)],[.seq false],[2],[.sl (.one (.int .i64))]⟩,1,[],[],false,false,fun (x:(List (List Int)))=>slices_Concat_2 x⟩
theorem w28_gs:GD w28_c [(180,.gen (altE [w27_c]))]:=(gd1 w27_ok goods_nil)
def w28_v:=envG tb gl w28_gs w28_c Tryz.f172
theorem w28_A:VK w28_v:=env_all tb_ok w28_gs
def w28_u1:Un:=lpU 2 [28,29,30,8,31,32,33,6,34,27] ⟨[6,25,26,27],⟨[(.view 0),.hole,.hole,.hole],[.seq false],[1,2,2,2],[.sl (.one (.sl (.one (.int .i64)))),.int .i64,.int .i64,.sl (.one (.int .i64))]⟩⟩ [((.exit 2),⟨[6],⟨[(.view 0)],[.seq false],[2],[.sl (.one (.int .i64))]⟩⟩)] (lp slices_Concat_2_L1 fuel)
theorem w28_u1_ok:UK w28_v (subC (bodyOf Tryz.f172) [1,1,1,1,0,1,0]) w28_u1:=lp_k .run hord w28_A ob0
def w28_u0:Un:=lpU 2 [12,13,14,5,15,16,17,18,3,19,20,21,22,11] ⟨[0,3,9,10,11],⟨[.hole,.hole,.hole,.hole,.hole],[],[1,2,1,2,2],[.sl (.one (.sl (.one (.int .i64)))),.int .i64,.sl (.one (.sl (.one (.int .i64)))),.int .i64,.int .i64]⟩⟩ [((.exit 0),⟨[3],⟨[.hole],[],[2],[.int .i64]⟩⟩)] (lp slices_Concat_2_L0 fuel)
theorem w28_u0_ok:UK w28_v (subC (bodyOf Tryz.f172) [1,1,0,1,0]) w28_u0:=lp_k .run hord w28_A ob0
theorem w28_ok:SK 172 w28_c:=fn_k (.seq .run (.seq .run (.seq (.seq .run (.block (.unit w28_u0))) (.seq .run (.seq (.seq .run (.block (.unit w28_u1))) .run))))) [.tmp 2] tb_ok hord w28_gs Tryz.func172 (ob1 w28_u0_ok (ob1 w28_u1_ok ob0))
def w29_c:ShC:=⟨⟨[(.ptr 0 0)],[.cells false [.hole,.hole,.hole]],[1,1,1],[.sl tSym,.sl (.cons (.int .i64) (.one .str)),.bool]⟩,⟨[(.view 0),.hole,(.ptr 1 0)],[.seq false,.cells false [.hole,.hole,.hole]],[2,2,0,0,2],[.bool,.sl (.one (.int .i64)),.sl tSym,.sl (.cons (.int .i64) (.one .str)),.bool]⟩,2,[0],[(0,1)],true,true,fun (x:((List QSym)×(List (Int×Str))×Bool))=>formula_Reader_Atom_1 x.1 x.2.1 x.2.2⟩
theorem w29_ok:SK 159 w29_c:=fn_k .run [.tmp 2,.tmp 3] tb_ok hord (gd1 w19_ok (gdG w22_ok (gdG w26_ok (gdG w25_ok (gd1 w28_ok goods_nil))))) Tryz.func159 ob0
def w30_c:ShC:=⟨⟨[(.ptr 0 0)],[.cells false [.hole,.hole,.hole]],[1,1,1],[.sl tSym,.sl (.cons (.int .i64) (.one .str)),.bool]⟩,⟨[.hole,.hole,(.ptr 0 0)],[.cells false [.hole,.hole,.hole]],[2,2,0,0,2],[.int .i64,.bool,.sl tSym,.sl (.cons (.int .i64) (.one .str)),.bool]⟩,2,[0],[(0,0)],true,false,fun (x:((List QSym)×(List (Int×Str))×Bool))=>formula_Reader_joint_1 x.1 x.2.1 x.2.2⟩
theorem w30_gs:GD w30_c [(157,.gen (altE [w19_c]))]:=(gd1 w19_ok goods_nil)
def w30_v:=envG tb gl w30_gs w30_c Tryz.f160
theorem w30_A:VK w30_v:=env_all tb_ok w30_gs
def w30_u0:Un:=lpU 2 [9,10,11,12,4,5,13,14,15,16,17,2,3,18,8] ⟨[0,6,7,8],⟨[(.ptr 0 0),.hole,.hole,.hole],[.cells false [.hole,.hole,.hole]],[2,2,2,0,0,2],[.sl (.one .str),.int .i64,.int .i64,.sl tSym,.sl (.cons (.int .i64) (.one .str)),.bool]⟩⟩ [((.exit 0),⟨[0],⟨[(.ptr 0 0)],[.cells false [.hole,.hole,.hole]],[0,0,2],[.sl tSym,.sl (.cons (.int .i64) (.one .str)),.bool]⟩⟩),(.ret,⟨[0,2,3],⟨[(.ptr 0 0),.hole,.hole],[.cells false [.hole,.hole,.hole]],[2,2,0,0,2],[.int .i64,.bool,.sl tSym,.sl (.cons (.int .i64) (.one .str)),.bool]⟩⟩)] (lp formula_Reader_joint_1_L0 fuel)
theorem w30_u0_ok:UK w30_v (subC (bodyOf Tryz.f160) [1,0,1,0]) w30_u0:=lp_k .run hord w30_A ob0
theorem w30_ok:SK 160 w30_c:=fn_k (.seq .run (.seq (.seq .run (.block (.unit w30_u0))) .run)) [.tmp 2,.tmp 3] tb_ok hord w30_gs Tryz.func160 (ob1 w30_u0_ok ob0)
def w31_c:ShC:=⟨⟨[(.ptr 0 0)],[.cells false [.hole,.hole,.hole]],[1,1,1],[.sl tSym,.sl (.cons (.int .i64) (.one .str)),.bool]⟩,⟨[(.view 0),.hole,(.ptr 1 0)],[.seq false,.cells false [.hole,.hole,.hole]],[2,2,0,0,2],[.bool,.sl (.cons (.int .i64) (.cons (.int .i64) (.one (.sl (.one (.int .i64)))))),.sl tSym,.sl (.cons (.int .i64) (.one .str)),.bool]⟩,2,[0],[(0,1)],true,true,fun (x:((List QSym)×(List (Int×Str))×Bool))=>formula_Reader_formula_1 x.1 x.2.1 x.2.2⟩
theorem w31_gs:GD w31_c [(157,.gen (altE [w19_c])),(158,.gen (altE [w20_c])),(159,.gen (altE [w29_c])),(160,.gen (altE [w30_c])),(1000102,.gen (altE []))]:=(gd1 w19_ok (gd1 w20_ok (gdG w29_ok (gd1 w30_ok (gd0 1000102 goods_nil)))))
def w31_v:=envG tb gl w31_gs w31_c Tryz.f134
theorem w31_A:VK w31_v:=env_all tb_ok w31_gs
def w31_u0:Un:=scU w31_v [4,5,13,14,15,16,17,18,4,20,21,19,22,23,6,7,24,25,26,27,28,4,29,30,31,32,33,34,35,36,5,37,38,39,40,4,42,43,41,44,45,8,9,46,47,48,49,50,51,4,2,3,52,53,54,55,2,3,56,57,58,59,60,10,62,63,61,64,65,11,12,66,67,68,69,70,71,72,73,74,75,76,77,78,79,80,81,82,83,84,85,86,87,88,89,90,91,92,93,94,95,96,97,2,3,98,99,100,101,102,5] [(.goto 0,⟨[0,4,5],⟨[(.ptr 0 0),(.view 1),(.view 2)],[.cells false [.hole,.hole,.hole],.seq false,.seq false],[0,0,2,2,2],[.sl tSym,.sl (.cons (.int .i64) (.one .str)),.bool,.sl (.cons (.int .i64) (.cons (.int .i64) (.one (.sl (.one (.int .i64)))))),.sl (.cons (.int .i64) (.one .bool))]⟩⟩),(.goto 1,⟨[0,4,5],⟨[(.ptr 0 0),(.view 1),(.view 2)],[.cells false [.hole,.hole,.hole],.seq false,.seq false],[0,0,2,2,2],[.sl tSym,.sl (.cons (.int .i64) (.one .str)),.bool,.sl (.cons (.int .i64) (.cons (.int .i64) (.one (.sl (.one (.int .i64)))))),.sl (.cons (.int .i64) (.one .bool))]⟩⟩)] [(.ret,⟨[0,2,3],⟨[(.ptr 0 0),(.view 1),.hole],[.cells false [.hole,.hole,.hole],.seq false],[2,0,0,2,2],[.bool,.sl tSym,.sl (.cons (.int .i64) (.one .str)),.bool,.sl (.cons (.int .i64) (.cons (.int .i64) (.one (.sl (.one (.int .i64))))))]⟩⟩)] (innC (subC (bodyOf Tryz.f134) [1])) .run (lp formula_Reader_formula_1_L0 fuel)
theorem w31_u0_ok:UK w31_v (subC (bodyOf Tryz.f134) [1]) w31_u0:=sc_k [] hord w31_A ob0 acl0
theorem w31_ok:SK 134 w31_c:=fn_k (.seq .run (.unit w31_u0)) [.tmp 2,.tmp 3] tb_ok hord w31_gs Tryz.func134 (ob1 w31_u0_ok ob0)
def w32_c:ShC:=⟨⟨[.hole,.hole],[],[1,1],[.sl tSym,.sl (.cons (.int .i64) (.one .str))]⟩,⟨[(.view 0),.hole],[.seq false],[2,2],[.int .i64,.sl (.cons (.int .i64) (.cons (.int .i64) (.one (.sl (.one (.int .i64))))))]⟩,2,[],[],false,true,fun (x:((List QSym)×(List (Int×Str))))=>formula_Read x.1 x.2⟩
theorem w32_ok:SK 89 w32_c:=fn_k .run [.tmp 4,.tmp 5] tb_ok hord (gdG w18_ok (gdG w31_ok goods_nil)) Tryz.func89 ob0
def w33_c:ShC:=⟨⟨[.hole,.hole],[],[1,1],[.sl tSym,.str]⟩,⟨[(.view 0),.hole],[.seq false],[2,2],[.int .i64,.sl (.cons (.int .i64) (.cons (.int .i64) (.one (.sl (.one (.int .i64))))))]⟩,2,[],[],false,true,fun (x:((List QSym)×Str))=>formula_Parse x.1 x.2⟩
theorem w33_ok:SK 43 w33_c:=fn_k .run [.tmp 4,.tmp 5] tb_ok hord (gd1 w9_ok (gdG w32_ok goods_nil)) Tryz.func43 ob0
def w34_c:ShC:=⟨⟨[.hole],[],[1],[.int .i64]⟩,⟨[.hole],[],[2],[.int .i64]⟩,1,[],[],false,false,fun (x:Int)=>formula_parts x⟩
theorem w34_ok:SK 62 w34_c:=fn_k .run [.tmp 2] tb_ok hord goods_nil Tryz.func62 ob0
def w35_c:ShC:=⟨⟨[.hole,.hole],[],[1,1],[.sl tSym,.int .i64]⟩,⟨[.hole,.hole],[],[2,2],[.int .i64,.bool]⟩,2,[],[],false,false,fun (x:((List QSym)×Int))=>term_args x.1 x.2⟩
theorem w35_ok:SK 162 w35_c:=fn_k .run [.tmp 4,.tmp 5] tb_ok hord (gd1 w24_ok goods_nil) Tryz.func162 ob0
def w36_c:ShC:=⟨⟨[.hole,.hole,.hole],[],[1,1,1],[.sl tSym,.sl (.one (.int .i64)),.int .i64]⟩,⟨[.hole,.hole],[],[2,2],[.int .i64,.bool]⟩,2,[],[],false,false,fun (x:((List QSym)×(List Int)×Int))=>term_Skip x.1 x.2.1 x.2.2⟩
theorem w36_gs:GD w36_c [(162,.gen (altE [w35_c]))]:=(gd1 w35_ok goods_nil)
def w36_v:=envG tb gl w36_gs w36_c Tryz.f142
theorem w36_A:VK w36_v:=env_all tb_ok w36_gs
def w36_u0:Un:=scU w36_v [8,11,12,13,14,6,7,16,17,18,19,20,21,15,22,23,9,10,24,25,6,7,26,27,2,28,29,30,31,8,32,33,34,6,7] [(.goto 0,⟨[0,1,2,8],⟨[.hole,.hole,.hole,.hole],[],[1,1,2,2],[.sl tSym,.sl (.one (.int .i64)),.int .i64,.int .i64]⟩⟩)] [(.ret,⟨[6,7],⟨[.hole,.hole],[],[2,2],[.int .i64,.bool]⟩⟩)] (innC (subC (bodyOf Tryz.f142) [1])) .run (lp term_Skip_L0 fuel)
theorem w36_u0_ok:UK w36_v (subC (bodyOf Tryz.f142) [1]) w36_u0:=sc_k [] hord w36_A ob0 acl0
theorem w36_ok:SK 142 w36_c:=fn_k (.seq .run (.unit w36_u0)) [.tmp 6,.tmp 7] tb_ok hord w36_gs Tryz.func142 (ob1 w36_u0_ok ob0)
def w37_c:ShC:=⟨⟨[.hole,.hole],[],[1,1],[.sl tSym,.sl (.one (.int .i64))]⟩,⟨[(.view 0),.hole],[.seq false],[2,2],[.bool,.sl (.one (.int .i64))]⟩,2,[],[],false,true,fun (x:((List QSym)×(List Int)))=>term_begins x.1 x.2⟩
theorem w37_gs:GD w37_c [(92,.gen (altE [w14_c])),(142,.gen (altE [w36_c]))]:=(gdG w14_ok (gd1 w36_ok goods_nil))
def w37_v:=envG tb gl w37_gs w37_c Tryz.f146
theorem w37_A:VK w37_v:=env_all tb_ok w37_gs
def w37_u0:Un:=scU w37_v [10,11,12,13,14,15,16,17,4,5,6,7,18,19,20,21,22,4,5,24,25,26,27,23,28,29,8,9,30,31,4,5,32,33,34,35,6,36,7] [(.goto 0,⟨[0,1,6,7],⟨[.hole,.hole,(.view 0),.hole],[.seq false],[1,1,2,2],[.sl tSym,.sl (.one (.int .i64)),.int .i64,.sl (.one (.int .i64))]⟩⟩)] [(.ret,⟨[4,5],⟨[(.view 0),.hole],[.seq false],[2,2],[.bool,.sl (.one (.int .i64))]⟩⟩)] (innC (subC (bodyOf Tryz.f146) [1])) .run (lp term_begins_L0 fuel)
theorem w37_u0_ok:UK w37_v (subC (bodyOf Tryz.f146) [1]) w37_u0:=sc_k [] hord w37_A ob0 acl0
theorem w37_ok:SK 146 w37_c:=fn_k (.seq .run (.unit w37_u0)) [.tmp 4,.tmp 5] tb_ok hord w37_gs Tryz.func146 (ob1 w37_u0_ok ob0)
def w38_c:ShC:=⟨⟨[.hole,.hole],[],[1,1],[.sl tSym,.sl (.one (.int .i64))]⟩,⟨[.hole],[],[2],[.bool]⟩,1,[],[],false,true,fun (x:((List QSym)×(List Int)))=>term_IsAtom x.1 x.2⟩
theorem w38_ok:SK 109 w38_c:=fn_k .run [.tmp 4] tb_ok hord (gdG w37_ok goods_nil) Tryz.func109 ob0
def w39_c:ShC:=⟨⟨[.hole,(.agg [.hole,.hole,.hole])],[],[1,1,1,1],[.sl tSym,.int .i64,.int .i64,.sl (.one (.int .i64))]⟩,⟨[.hole],[],[2],[.bool]⟩,1,[],[],false,true,fun (x:((List QSym)×Int×Int×(List Int)))=>formula_nodeMay x.1 x.2.1 x.2.2.1 x.2.2.2⟩
theorem w39_ok:SK 63 w39_c:=fn_k .run [.tmp 4] tb_ok hord (gdG w38_ok goods_nil) Tryz.func63 ob0
def w40_c:ShC:=⟨⟨[.hole,.hole],[],[1,1],[.sl tSym,.sl (.cons (.int .i64) (.cons (.int .i64) (.one (.sl (.one (.int .i64))))))]⟩,⟨[.hole],[],[2],[.bool]⟩,1,[],[],false,true,fun (x:((List QSym)×(List (Int×Int×(List Int)))))=>formula_May x.1 x.2⟩
theorem w40_gs:GD w40_c [(61,.gen (altE [w18_c])),(62,.gen (altE [w34_c])),(63,.gen (altE [w39_c]))]:=(gdG w18_ok (gd1 w34_ok (gdG w39_ok goods_nil)))
def w40_v:=envG tb gl w40_gs w40_c Tryz.f29
theorem w40_A:VK w40_v:=env_all tb_ok w40_gs
def w40_u0:Un:=lpU 2 [25,26,27,7,28,29,30,8,31,32,33,34,35,36,37,38,39,40,41,42,4,43,44,45,46,5,47,24] ⟨[0,5,22,23,24],⟨[.hole,.hole,.hole,.hole,.hole],[],[1,2,1,2,2],[.sl tSym,.int .i64,.sl (.cons (.int .i64) (.cons (.int .i64) (.one (.sl (.one (.int .i64)))))),.int .i64,.int .i64]⟩⟩ [((.exit 0),⟨[5],⟨[.hole],[],[2],[.int .i64]⟩⟩),(.ret,⟨[4],⟨[.hole],[],[2],[.bool]⟩⟩)] (lp formula_May_L0 fuel)
theorem w40_u0_ok:UK w40_v (subC (bodyOf Tryz.f29) [1,1,1,0,1,0]) w40_u0:=lp_k .run hord w40_A ob0
theorem w40_ok:SK 29 w40_c:=fn_k (.seq .run (.seq .run (.seq .run (.seq (.seq .run (.block (.unit w40_u0))) .run)))) [.tmp 4] tb_ok hord w40_gs Tryz.func29 (ob1 w40_u0_ok ob0)
def w41_c:ShC:=⟨⟨[.hole],[],[1],[.ns tSym]⟩,⟨[(.view 0)],[.seq false],[2],[.sl tSym]⟩,1,[],[],false,false,fun (x:(Option (List QSym)))=>slices_Clone_2 x⟩
theorem w41_ok:SK 30 w41_c:=fn_k .run [.tmp 2] tb_ok hord goods_nil Tryz.func30 ob0
def w42_c:ShC:=⟨⟨[.nilv],[],[],[]⟩,⟨[(.view 0)],[.seq false],[2],[.sl tSym]⟩,1,[],[],false,false,fun (_:Unit)=>slices_Clone_3⟩
theorem w42_ok:SK 30 w42_c:=fn_k .run [.tmp 2] tb_ok hord goods_nil Tryz.func30 ob0
def w43_c:ShC:=⟨⟨[.hole],[],[1],[.sl tSym]⟩,⟨[(.view 0)],[.seq false],[2],[.sl tSym]⟩,1,[],[],false,false,fun (x:(List QSym))=>slices_Clone_2N x⟩
theorem w43_ok:SK 30 w43_c :=
 sh_nil w42_ok w41_ok fun xs y h=>⟨h,fun e=>by subst e; exact h⟩
def w44_c:ShC:=⟨⟨[.hole],[],[1],[.int .i64]⟩,⟨[.hole],[],[2],[.bool]⟩,1,[],[],false,false,fun (x:Int)=>cmp_isNaN x⟩
theorem w44_ok:SK 147 w44_c:=fn_k .run [.tmp 2] tb_ok hord goods_nil Tryz.func147 ob0
def w45_c:ShC:=⟨⟨[.hole,.hole],[],[1,1],[.int .i64,.int .i64]⟩,⟨[.hole],[],[2],[.bool]⟩,1,[],[],false,false,fun (x:(Int×Int))=>cmp_Less x.1 x.2⟩
theorem w45_ok:SK 110 w45_c:=fn_k .run [.tmp 4] tb_ok hord (gd1 w44_ok goods_nil) Tryz.func110 ob0
def w46_c:ShC:=⟨⟨[.hole],[],[1],[.int .i64]⟩,⟨[.hole],[],[2],[.bool]⟩,1,[],[],false,false,fun (x:Int)=>slices_isNaN x⟩
theorem w46_ok:SK 111 w46_c:=fn_k .run [.tmp 2] tb_ok hord goods_nil Tryz.func111 ob0
def w47_c:ShC:=⟨⟨[.hole,.hole],[],[1,1],[.sl (.one (.int .i64)),.int .i64]⟩,⟨[.hole,.hole],[],[2,2],[.int .i64,.bool]⟩,2,[],[],false,false,fun (x:((List Int)×Int))=>slices_BinarySearch x.1 x.2⟩
theorem w47_gs:GD w47_c [(110,.gen (altE [w45_c])),(111,.gen (altE [w46_c]))]:=(gd1 w45_ok (gd1 w46_ok goods_nil))
def w47_v:=envG tb gl w47_gs w47_c Tryz.f64
theorem w47_A:VK w47_v:=env_all tb_ok w47_gs
def w47_u0:Un:=lpU 2 [13,14,15,16,17,18,19,20,21,9,22,23,24,25,26,27,28,29,7,30,8] ⟨[0,1,6,7,8],⟨[.hole,.hole,.hole,.hole,.hole],[],[1,2,2,2,2],[.sl (.one (.int .i64)),.int .i64,.int .i64,.int .i64,.int .i64]⟩⟩ [((.exit 0),⟨[7],⟨[.hole],[],[2],[.int .i64]⟩⟩)] (lp slices_BinarySearch_L0 fuel)
theorem w47_u0_ok:UK w47_v (subC (bodyOf Tryz.f64) [1,1,1,0,0]) w47_u0:=lp_k .run hord w47_A ob0
theorem w47_ok:SK 64 w47_c:=fn_k (.seq .run (.seq .run (.seq .run (.seq (.block (.unit w47_u0)) .run)))) [.tmp 4,.tmp 5] tb_ok hord w47_gs Tryz.func64 (ob1 w47_u0_ok ob0)
def lays_Lays2_n21:Go.Shelf.Ren:={ f:=fun x=>match x with | 21=>65 | 27=>112 | 28=>113 | 35=>148 | 39=>164 | n=>n,t:=fun x=>match x with | 22=>43 | 3=>3 | 4=>4 | 0=>0 | n=>n,g:=fun x=>x }
theorem lays_Lays2_n21_ok:Go.Proofs.Lays2.n21 Tryz.prog lays_Lays2_n21 where
 mixed:=by kernel_rfl
 f21:=Tryz.func65.trans (by kernel_rfl)
 f27:=Tryz.func112.trans (by kernel_rfl)
 f28:=Tryz.func113.trans (by kernel_rfl)
 f35:=Tryz.func148.trans (by kernel_rfl)
 f39:=Tryz.func164.trans (by kernel_rfl)
 t0:=Tryz.underlying0
 a0:=Tryz.isAgg0
 z0:=Tryz.sizeOf0
 v0:=Tryz.zeroValue0
 t3:=Tryz.underlying3
 a3:=Tryz.isAgg3
 z3:=Tryz.sizeOf3
 v3:=Tryz.zeroValue3
 t4:=Tryz.underlying4
 a4:=Tryz.isAgg4
 z4:=Tryz.sizeOf4
 v4:=Tryz.zeroValue4
 t22:=Tryz.underlying43
 a22:=Tryz.isAgg43
 z22:=Tryz.sizeOf43
 v22:=Tryz.zeroValue43
 i3:=by kernel_rfl
def w48_c:ShC:=insC
theorem w48_ok:SK 65 w48_c :=
 insert_ok (code:=bodyOf Tryz.f65) Tryz.func65 (by kernel_rfl) (by kernel_rfl) lays_Lays2_n21_ok rfl
def w49_c:ShC:=⟨⟨[(.view 0),.hole],[.seq false],[1,1],[.sl (.one (.int .i64)),.sl (.one (.int .i64))]⟩,⟨[(.view 0)],[.seq false],[0],[.sl (.one (.int .i64))]⟩,1,[],[],true,false,fun (x:((List Int)×(List Int)))=>term_Seen_1 x.1 x.2⟩
theorem w49_gs:GD w49_c [(64,.gen (altE [w47_c])),(65,.gen (altE [w48_c])),(66,.gen (altE [w24_c]))]:=(gd1 w47_ok (gd1 w48_ok (gd1 w24_ok goods_nil)))
def w49_v:=envG tb gl w49_gs w49_c Tryz.f55
theorem w49_A:VK w49_v:=env_all tb_ok w49_gs
def w49_u0:Un:=lpU 2 [12,13,14,6,15,16,18,19,20,21,17,22,23,7,8,24,25,26,27,28,29,30,31,0,32,11] ⟨[0,9,10,11],⟨[(.view 0),.hole,.hole,.hole],[.seq false],[1,2,2,0],[.sl (.one (.int .i64)),.int .i64,.int .i64,.sl (.one (.int .i64))]⟩⟩ [((.exit 0),⟨[0],⟨[(.view 0)],[.seq false],[0],[.sl (.one (.int .i64))]⟩⟩)] (lp term_Seen_1_L0 fuel)
theorem w49_u0_ok:UK w49_v (subC (bodyOf Tryz.f55) [1,0,1,0]) w49_u0:=lp_k .run hord w49_A ob0
theorem w49_ok:SK 55 w49_c:=fn_k (.seq .run (.seq (.seq .run (.block (.unit w49_u0))) .run)) [.tmp 4] tb_ok hord w49_gs Tryz.func55 (ob1 w49_u0_ok ob0)
def w50_ck (k:Nat):ShC:=⟨⟨[.hole,.hole,(.view 0)],[.seq false],[1,1,1],[.sl (.cons (.int .i64) (.cons (.int .i64) (.one (.sl (.one (.int .i64)))))),.ar (.one .bool) 24,.sl (.one (.int .i64))]⟩,⟨[(.view 0),.hole],[.seq false],[0,0],[.sl (.cons (.int .i64) (.cons (.int .i64) (.one (.sl (.one (.int .i64)))))),.sl (.one (.int .i64))]⟩,2,[],[],true,false,(cnf_free_1_R k)⟩
def w50_c:ShC:=⟨⟨[.hole,.hole,(.view 0)],[.seq false],[1,1,1],[.sl (.cons (.int .i64) (.cons (.int .i64) (.one (.sl (.one (.int .i64)))))),.ar (.one .bool) 24,.sl (.one (.int .i64))]⟩,⟨[(.view 0),.hole],[.seq false],[0,0],[.sl (.cons (.int .i64) (.cons (.int .i64) (.one (.sl (.one (.int .i64)))))),.sl (.one (.int .i64))]⟩,2,[],[],true,false,fun (x:((List (Int×Int×(List Int)))×(List Bool)×(List Int)))=>cnf_free_1 x.1 x.2.1 x.2.2⟩
def w50_R_H (k:Nat):Prop:=SK 31 (w50_ck k)
def w50_g (k:Nat):List (Nat×Con):=[(31,.gen (altE [w50_ck k])),(55,.gen (altE [w49_c])),(64,.gen (altE [w47_c])),(65,.gen (altE [w48_c]))]
theorem w50_gs (k:Nat) (h:w50_R_H k):GD (w50_ck (k+1)) (w50_g k):=(gd1 h (gd1 w49_ok (gd1 w47_ok (gd1 w48_ok goods_nil))))
def w50_v (k:Nat):Env:=envOf tb gl (w50_g k) (w50_ck (k+1)) Tryz.f31.ntmps
theorem w50_A (k:Nat) (h:w50_R_H k):VK (w50_v k):=env_all tb_ok (w50_gs k h)
def w50_u0 (k:Nat):Un:=lpU 2 [28,29,30,11,32,33,34,31,35,36,12,13,37,38,39,40,41,42,43,44,45,46,47,48,49,2,50,27] ⟨[2,4,9,25,26,27],⟨[(.view 0),(.aptr 1),.hole,.hole,.hole,.hole],[.seq false,.seq false],[1,0,2,2,0,1],[.sl (.cons (.int .i64) (.cons (.int .i64) (.one (.sl (.one (.int .i64)))))),.sl (.one (.int .i64)),.int .i64,.int .i64,.sl (.one (.int .i64)),.sl (.one .bool)]⟩⟩ [((.exit 1),⟨[2],⟨[(.view 0)],[.seq false],[0],[.sl (.one (.int .i64))]⟩⟩)] (lp (cnf_free_1_L0 (cnf_free_1_R k)) fuel)
theorem w50_u0_ok (k:Nat) (h:w50_R_H k):UK (w50_v k) (subC (bodyOf Tryz.f31) [1,1,0,1,0,1,0,0,1,0]) (w50_u0 k):=lp_k .run hord (w50_A k h) ob0
theorem w50_ok1 (k:Nat) (h:w50_R_H k):SK 31 (w50_ck (k+1)):=fn_k (.seq .run (.seq .run (.seq (.seq .run (.block (.seq .run (.cond (.seq (.seq .run (.block (.unit (w50_u0 k)))) .run) .run)))) .run))) [.tmp 6,.tmp 7] tb_ok hord (w50_gs k h) Tryz.func31 (ob1 (w50_u0_ok k h) ob0)
theorem w50_R_all:∀ k,w50_R_H k
 | 0=>sh_base (by kernel_rfl) fun _=>rfl
 | k+1=>have h:=w50_R_all k; w50_ok1 k h
theorem w50_ok:SK 31 w50_c:=(w50_R_all fuel)
def w51_c:ShC:=⟨⟨[.hole],[],[1],[.ns (.one (.int .i64))]⟩,⟨[(.view 0)],[.seq false],[2],[.sl (.one (.int .i64))]⟩,1,[],[],false,false,fun (x:(Option (List Int)))=>slices_Clone x⟩
theorem w51_ok:SK 67 w51_c:=fn_k .run [.tmp 2] tb_ok hord goods_nil Tryz.func67 ob0
def w52_c:ShC:=⟨⟨[.nilv],[],[],[]⟩,⟨[(.view 0)],[.seq false],[2],[.sl (.one (.int .i64))]⟩,1,[],[],false,false,fun (_:Unit)=>slices_Clone_1⟩
theorem w52_ok:SK 67 w52_c:=fn_k .run [.tmp 2] tb_ok hord goods_nil Tryz.func67 ob0
def w53_c:ShC:=⟨⟨[.hole],[],[1],[.sl (.one (.int .i64))]⟩,⟨[(.view 0)],[.seq false],[2],[.sl (.one (.int .i64))]⟩,1,[],[],false,false,fun (x:(List Int))=>slices_CloneN x⟩
theorem w53_ok:SK 67 w53_c :=
 sh_nil w52_ok w51_ok fun xs y h=>⟨h,fun e=>by subst e; exact h⟩
def w54_c:ShC:=⟨⟨[(.agg [.hole,.hole]),.hole,.hole],[],[1,1,1,1],[.ar (.one (.sl (.one (.int .i64)))) 24,.sl (.one (.int .i64)),.int .i64,.sl (.one (.int .i64))]⟩,⟨[(.agg [.hole,.hole])],[],[1,1],[.ar (.one (.sl (.one (.int .i64)))) 24,.sl (.one (.int .i64))]⟩,1,[],[],true,false,fun (x:((List (List Int))×(List Int)×Int×(List Int)))=>cnf_scope_with x.1 x.2.1 x.2.2.1 x.2.2.2⟩
theorem w54_ok:SK 68 w54_c:=fn_k .run [.cell 6 70] tb_ok hord goods_nil Tryz.func68 ob0
def w55_c:ShC:=⟨⟨[(.ptr 0 0),.hole,(.agg [.hole,.hole])],[.cells false [(.view 1),.hole,.hole],.seq false],[1,1,1,1,1,1],[.int .i64,.ar (.one (.sl (.one (.int .i64)))) 24,.sl (.one (.int .i64)),.sl (.cons (.int .i64) (.cons (.int .i64) (.one (.sl (.one (.int .i64)))))),.int .i64,.sl tSym]⟩,⟨[(.agg [.hole,.hole]),.hole,(.ptr 0 0)],[.cells false [(.view 1),.hole,.hole],.seq false],[0,0,2,1,2,1],[.ar (.one (.sl (.one (.int .i64)))) 24,.sl (.one (.int .i64)),.int .i64,.sl (.cons (.int .i64) (.cons (.int .i64) (.one (.sl (.one (.int .i64)))))),.int .i64,.sl tSym]⟩,2,[0],[(0,0)],true,false,fun (x:(Int×(List (List Int))×(List Int)×(List (Int×Int×(List Int)))×Int×(List QSym)))=>cnf_maker_universal x.1 x.2.1 x.2.2.1 x.2.2.2.1 x.2.2.2.2.1 x.2.2.2.2.2⟩
theorem w55_ok:SK 32 w55_c:=fn_k .run [.cell 6 70,.tmp 7] tb_ok hord (gd1 w24_ok (gd1 w53_ok (gd1 w54_ok goods_nil))) Tryz.func32 ob0
def w56_c:ShC:=⟨⟨[(.ptr 0 0),.hole,.hole,(.agg [.hole,.hole])],[.cells false [(.view 1),.hole,.hole],.seq false],[1,1,1,1,1,1,1],[.sl (.one (.int .i64)),.bool,.ar (.one (.sl (.one (.int .i64)))) 24,.sl (.one (.int .i64)),.sl (.cons (.int .i64) (.cons (.int .i64) (.one (.sl (.one (.int .i64)))))),.int .i64,.sl tSym]⟩,⟨[(.view 0),.hole,(.ptr 1 0)],[.seq false,.cells false [(.view 2),.hole,.hole],.seq false],[2,2,1,2,1],[.int .i64,.sl (.cons (.sl tLit) (.cons (.sl (.one (.sl (.one (.int .i64))))) (.one (.sl tLit)))),.sl (.cons (.int .i64) (.cons (.int .i64) (.one (.sl (.one (.int .i64)))))),.int .i64,.sl tSym]⟩,2,[0],[(0,1)],true,false,fun (x:((List Int)×Bool×(List (List Int))×(List Int)×(List (Int×Int×(List Int)))×Int×(List QSym)))=>cnf_maker_atom x.1 x.2.1 x.2.2.1 x.2.2.2.1 x.2.2.2.2.1 x.2.2.2.2.2.1 x.2.2.2.2.2.2⟩
theorem w56_gs:GD w56_c [(66,.gen (altE [w24_c]))]:=(gd1 w24_ok goods_nil)
def w56_v:=envG tb gl w56_gs w56_c Tryz.f69
theorem w56_A:VK w56_v:=env_all tb_ok w56_gs
def w56_u0:Un:=lpU 2 [21,22,23,12,24,25,26,27,28,29,10,30,31,32,33,34,35,36,10,37,20] ⟨[2,7,10,18,19,20],⟨[.hole,(.ptr 0 0),(.view 1),.hole,.hole,.hole],[.cells true [.hole,.hole],.seq false],[2,1,2,2,1,1,2],[.bool,.sl (.one (.int .i64)),.int .i64,.int .i64,.ar (.one (.sl (.one (.int .i64)))) 24,.sl (.one (.int .i64)),.sl (.one (.int .i64))]⟩⟩ [((.exit 0),⟨[10],⟨[(.view 0)],[.seq false],[2],[.sl (.one (.int .i64))]⟩⟩)] (lp cnf_maker_atom_L0 fuel)
theorem w56_u0_ok:UK w56_v (subC (bodyOf Tryz.f69) [1,1,0,1,0]) w56_u0:=lp_k .run hord w56_A ob0
theorem w56_ok:SK 69 w56_c:=fn_k (.seq .run (.seq .run (.seq (.seq .run (.block (.unit w56_u0))) .run))) [.tmp 8,.tmp 9] tb_ok hord w56_gs Tryz.func69 (ob1 w56_u0_ok ob0)
def w57_c:ShC:=⟨⟨[.nilv,.hole],[],[1],[.int .i64]⟩,⟨[(.view 0)],[.seq false],[2],[.sl tLit]⟩,1,[],[],false,false,fun (x:Int)=>slices_Grow_1 x⟩
theorem w57_ok:SK 102 w57_c:=fn_k .run [.tmp 4] tb_ok hord (gd0 1000025 goods_nil) Tryz.func102 ob0
def w58_c:ShC:=⟨⟨[.hole],[],[1],[.sl (.one (.sl tLit))]⟩,⟨[(.view 0)],[.seq false],[0],[.sl tLit]⟩,1,[],[],true,false,fun (x:(List (List QLit)))=>slices_Concat_1 x⟩
theorem w58_gs:GD w58_c [(102,.gen (altE [w57_c]))]:=(gd1 w57_ok goods_nil)
def w58_v:=envG tb gl w58_gs w58_c Tryz.f54
theorem w58_A:VK w58_v:=env_all tb_ok w58_gs
def w58_u1:Un:=lpU 2 [28,29,30,8,31,32,33,6,34,27] ⟨[6,25,26,27],⟨[(.view 0),.hole,.hole,.hole],[.seq false],[1,2,2,0],[.sl (.one (.sl tLit)),.int .i64,.int .i64,.sl tLit]⟩⟩ [((.exit 2),⟨[6],⟨[(.view 0)],[.seq false],[0],[.sl tLit]⟩⟩)] (lp slices_Concat_1_L1 fuel)
theorem w58_u1_ok:UK w58_v (subC (bodyOf Tryz.f54) [1,1,1,1,0,1,0]) w58_u1:=lp_k .run hord w58_A ob0
def w58_u0:Un:=lpU 2 [12,13,14,5,15,16,17,18,3,19,20,21,22,11] ⟨[0,3,9,10,11],⟨[.hole,.hole,.hole,.hole,.hole],[],[1,2,1,2,2],[.sl (.one (.sl tLit)),.int .i64,.sl (.one (.sl tLit)),.int .i64,.int .i64]⟩⟩ [((.exit 0),⟨[3],⟨[.hole],[],[2],[.int .i64]⟩⟩)] (lp slices_Concat_1_L0 fuel)
theorem w58_u0_ok:UK w58_v (subC (bodyOf Tryz.f54) [1,1,0,1,0]) w58_u0:=lp_k .run hord w58_A ob0
theorem w58_ok:SK 54 w58_c:=fn_k (.seq .run (.seq .run (.seq (.seq .run (.block (.unit w58_u0))) (.seq .run (.seq (.seq .run (.block (.unit w58_u1))) .run))))) [.tmp 2] tb_ok hord w58_gs Tryz.func54 (ob1 w58_u0_ok (ob1 w58_u1_ok ob0))
def w59_c:ShC:=⟨⟨[.hole,(.agg [.hole,.hole])],[],[1,1,1],[.sl tSym,.bool,.sl (.one (.int .i64))]⟩,⟨[.hole],[],[2],[.bool]⟩,1,[],[],false,true,fun (x:((List QSym)×Bool×(List Int)))=>lit_May x.1 x.2.1 x.2.2⟩
theorem w59_ok:SK 137 w59_c:=fn_k .run [.tmp 4] tb_ok hord (gdG w38_ok goods_nil) Tryz.func137 ob0
def w60_c:ShC:=⟨⟨[.hole,.hole],[],[1,1],[.sl tSym,.sl tLit]⟩,⟨[.hole,.hole],[],[2,2],[.int .i64,.bool]⟩,2,[],[],false,true,fun (x:((List QSym)×(List QLit)))=>clause_litsMay x.1 x.2⟩
theorem w60_gs:GD w60_c [(137,.gen (altE [w59_c]))]:=(gdG w59_ok goods_nil)
def w60_v:=envG tb gl w60_gs w60_c Tryz.f93
theorem w60_A:VK w60_v:=env_all tb_ok w60_gs
def w60_u0:Un:=lpU 2 [12,13,14,8,15,16,17,18,4,5,19,20,21,22,23,6,24,11] ⟨[0,6,9,10,11],⟨[.hole,.hole,.hole,.hole,.hole],[],[1,2,1,2,2],[.sl tSym,.int .i64,.sl tLit,.int .i64,.int .i64]⟩⟩ [((.exit 0),⟨[6],⟨[.hole],[],[2],[.int .i64]⟩⟩),(.ret,⟨[4,5],⟨[.hole,.hole],[],[2,2],[.int .i64,.bool]⟩⟩)] (lp clause_litsMay_L0 fuel)
theorem w60_u0_ok:UK w60_v (subC (bodyOf Tryz.f93) [1,1,0,1,0]) w60_u0:=lp_k .run hord w60_A ob0
theorem w60_ok:SK 93 w60_c:=fn_k (.seq .run (.seq .run (.seq (.seq .run (.block (.unit w60_u0))) .run))) [.tmp 4,.tmp 5] tb_ok hord w60_gs Tryz.func93 (ob1 w60_u0_ok ob0)
def w61_c:ShC:=⟨⟨[.hole,.hole],[],[1,1],[.sl tSym,.sl (.one (.int .i64))]⟩,⟨[.hole,.hole],[],[2,2],[.int .i64,.int .i64]⟩,2,[],[],false,true,fun (x:((List QSym)×(List Int)))=>term_Row x.1 x.2⟩
theorem w61_ok:SK 138 w61_c:=fn_k .run [.tmp 4,.tmp 5] tb_ok hord (gdG w37_ok goods_nil) Tryz.func138 ob0
def w62_c:ShC:=⟨⟨[.hole,.hole],[],[1,1],[.sl tSym,.sl (.one (.sl (.one (.int .i64))))]⟩,⟨[.hole,.hole],[],[2,2],[.int .i64,.bool]⟩,2,[],[],false,true,fun (x:((List QSym)×(List (List Int))))=>clause_rowsMay x.1 x.2⟩
theorem w62_gs:GD w62_c [(138,.gen (altE [w61_c]))]:=(gdG w61_ok goods_nil)
def w62_v:=envG tb gl w62_gs w62_c Tryz.f94
theorem w62_A:VK w62_v:=env_all tb_ok w62_gs
def w62_u0:Un:=lpU 2 [15,16,17,18,8,9,20,21,22,19,23,24,10,11,25,26,27,7,28,29,30,31,32,33,34,4,5,35,36,37,38,6,39,14] ⟨[0,6,7,12,13,14],⟨[.hole,.hole,.hole,.hole,.hole,.hole],[],[1,2,2,1,2,2],[.sl tSym,.int .i64,.int .i64,.sl (.one (.sl (.one (.int .i64)))),.int .i64,.int .i64]⟩⟩ [((.exit 0),⟨[6],⟨[.hole],[],[2],[.int .i64]⟩⟩),(.ret,⟨[4,5],⟨[.hole,.hole],[],[2,2],[.int .i64,.bool]⟩⟩)] (lp clause_rowsMay_L0 fuel)
theorem w62_u0_ok:UK w62_v (subC (bodyOf Tryz.f94) [1,1,0,1,0]) w62_u0:=lp_k .run hord w62_A ob0
theorem w62_ok:SK 94 w62_c:=fn_k (.seq .run (.seq .run (.seq (.seq .run (.block (.unit w62_u0))) .run))) [.tmp 4,.tmp 5] tb_ok hord w62_gs Tryz.func94 (ob1 w62_u0_ok ob0)
def w63_c:ShC:=⟨⟨[.hole,(.agg [.hole,.hole,.hole])],[],[1,1,1,1],[.sl tSym,.sl tLit,.sl (.one (.sl (.one (.int .i64)))),.sl tLit]⟩,⟨[.hole],[],[2],[.bool]⟩,1,[],[],false,true,fun (x:((List QSym)×(List QLit)×(List (List Int))×(List QLit)))=>clause_May x.1 x.2.1 x.2.2.1 x.2.2.2⟩
theorem w63_ok:SK 46 w63_c:=fn_k .run [.tmp 4] tb_ok hord (gdG w14_ok (gdG w60_ok (gdG w62_ok goods_nil))) Tryz.func46 ob0
def w64_c:ShC:=⟨⟨[(.ptr 0 0),.hole,.hole],[.cells false [(.view 1),.hole,.hole],.seq false],[1,1,1,1,1],[.sl (.cons (.sl tLit) (.cons (.sl (.one (.sl (.one (.int .i64))))) (.one (.sl tLit)))),.sl (.cons (.sl tLit) (.cons (.sl (.one (.sl (.one (.int .i64))))) (.one (.sl tLit)))),.sl (.cons (.int .i64) (.cons (.int .i64) (.one (.sl (.one (.int .i64)))))),.int .i64,.sl tSym]⟩,⟨[(.view 0),.hole,(.ptr 1 0)],[.seq false,.cells false [(.view 2),.hole,.hole],.seq false],[2,0,1,2,1],[.int .i64,.sl (.cons (.sl tLit) (.cons (.sl (.one (.sl (.one (.int .i64))))) (.one (.sl tLit)))),.sl (.cons (.int .i64) (.cons (.int .i64) (.one (.sl (.one (.int .i64)))))),.int .i64,.sl tSym]⟩,2,[0],[(0,1)],true,true,fun (x:((List ((List QLit)×(List (List Int))×(List QLit)))×(List ((List QLit)×(List (List Int))×(List QLit)))×(List (Int×Int×(List Int)))×Int×(List QSym)))=>cnf_maker_either x.1 x.2.1 x.2.2.1 x.2.2.2.1 x.2.2.2.2⟩
theorem w64_gs:GD w64_c [(46,.gen (altE [w63_c])),(54,.gen (altE [w58_c]))]:=(gdG w63_ok (gd1 w58_ok goods_nil))
def w64_v:=envG tb gl w64_gs w64_c Tryz.f114
theorem w64_A:VK w64_v:=env_all tb_ok w64_gs
def w64_u0:Un:=lpU 2 [23,24,25,12,26,27,28,29,30,31,32,13,33,34,35,36,37,38,39,40,41,42,43,44,6,7,45,46,47,48,8,49,22] ⟨[0,2,8,10,14,15,16,20,21,22],⟨[(.ptr 0 0),.hole,(.view 1),(.ptr 2 0),.hole,.hole,.hole,.hole,.hole,.hole],[.cells false [(.view 3),.hole,.hole],.seq false,.cells true [.hole,.hole,.hole],.seq false],[1,1,2,2,1,2,2,1,2,0,1,1,1,1],[.sl (.cons (.sl tLit) (.cons (.sl (.one (.sl (.one (.int .i64))))) (.one (.sl tLit)))),.sl (.cons (.sl tLit) (.cons (.sl (.one (.sl (.one (.int .i64))))) (.one (.sl tLit)))),.int .i64,.int .i64,.sl (.cons (.sl tLit) (.cons (.sl (.one (.sl (.one (.int .i64))))) (.one (.sl tLit)))),.int .i64,.int .i64,.sl (.cons (.int .i64) (.cons (.int .i64) (.one (.sl (.one (.int .i64)))))),.int .i64,.sl (.cons (.sl tLit) (.cons (.sl (.one (.sl (.one (.int .i64))))) (.one (.sl tLit)))),.sl tLit,.sl (.one (.sl (.one (.int .i64)))),.sl tLit,.sl tSym]⟩⟩ [((.exit 2),⟨[0,8],⟨[(.ptr 0 0),(.view 1)],[.cells false [(.view 2),.hole,.hole],.seq false,.seq false],[1,2,0,1],[.sl (.cons (.int .i64) (.cons (.int .i64) (.one (.sl (.one (.int .i64)))))),.int .i64,.sl (.cons (.sl tLit) (.cons (.sl (.one (.sl (.one (.int .i64))))) (.one (.sl tLit)))),.sl tSym]⟩⟩),(.ret,⟨[0,6,7],⟨[(.ptr 0 0),.nilv,.hole],[.cells false [(.view 1),.hole,.hole],.seq false],[2,1,2,1],[.int .i64,.sl (.cons (.int .i64) (.cons (.int .i64) (.one (.sl (.one (.int .i64)))))),.int .i64,.sl tSym]⟩⟩)] (lp cnf_maker_either_L0 fuel)
theorem w64_u0_ok:UK w64_v (subC (bodyOf Tryz.f114) [1,1,0,1,0,0,1,1,0,0,1,1,0]) w64_u0:=lp_k .run hord w64_A ob0
def w64_u1:Un:=lpU 2 [17,18,19,10,20,21,22,23,24,25,12,26,27,28,29,30,31,32,13,33,34,35,36,37,38,39,40,41,42,43,44,6,7,45,46,47,48,8,49,22,50,16] ⟨[0,2,8,14,15,16],⟨[(.ptr 0 0),.hole,(.view 1),.hole,.hole,.hole],[.cells false [(.view 2),.hole,.hole],.seq false,.seq false],[1,1,2,2,1,2,0,1],[.sl (.cons (.sl tLit) (.cons (.sl (.one (.sl (.one (.int .i64))))) (.one (.sl tLit)))),.sl (.cons (.sl tLit) (.cons (.sl (.one (.sl (.one (.int .i64))))) (.one (.sl tLit)))),.int .i64,.int .i64,.sl (.cons (.int .i64) (.cons (.int .i64) (.one (.sl (.one (.int .i64)))))),.int .i64,.sl (.cons (.sl tLit) (.cons (.sl (.one (.sl (.one (.int .i64))))) (.one (.sl tLit)))),.sl tSym]⟩⟩ [((.exit 0),⟨[0,8],⟨[(.ptr 0 0),(.view 1)],[.cells false [(.view 2),.hole,.hole],.seq false,.seq false],[1,2,0,1],[.sl (.cons (.int .i64) (.cons (.int .i64) (.one (.sl (.one (.int .i64)))))),.int .i64,.sl (.cons (.sl tLit) (.cons (.sl (.one (.sl (.one (.int .i64))))) (.one (.sl tLit)))),.sl tSym]⟩⟩),(.ret,⟨[0,6,7],⟨[(.ptr 0 0),.nilv,.hole],[.cells false [(.view 1),.hole,.hole],.seq false],[2,1,2,1],[.int .i64,.sl (.cons (.int .i64) (.cons (.int .i64) (.one (.sl (.one (.int .i64)))))),.int .i64,.sl tSym]⟩⟩)] (lp cnf_maker_either_L1 fuel)
theorem w64_u1_ok:UK w64_v (subC (bodyOf Tryz.f114) [1,1,0,1,0]) w64_u1:=lp_k (.seq .run (.seq .run (.seq (.block (.seq .run (.seq .run (.block (.unit w64_u0))))) .run))) hord w64_A (ob1 w64_u0_ok ob0)
theorem w64_ok:SK 114 w64_c:=fn_k (.seq .run (.seq .run (.seq (.seq .run (.block (.unit w64_u1))) .run))) [.tmp 6,.tmp 7] tb_ok hord w64_gs Tryz.func114 (ob1 w64_u1_ok ob0)
def w65_c:ShC:=⟨⟨[.nilv,.hole],[],[1],[.int .i64]⟩,⟨[(.view 0)],[.seq false],[2],[.sl (.cons (.sl tLit) (.cons (.sl (.one (.sl (.one (.int .i64))))) (.one (.sl tLit))))]⟩,1,[],[],false,false,fun (x:Int)=>slices_Grow_3 x⟩
theorem w65_ok:SK 149 w65_c:=fn_k .run [.tmp 4] tb_ok hord (gd0 1000025 goods_nil) Tryz.func149 ob0
def w66_c:ShC:=⟨⟨[.hole],[],[1],[.sl (.one (.sl (.cons (.sl tLit) (.cons (.sl (.one (.sl (.one (.int .i64))))) (.one (.sl tLit))))))]⟩,⟨[(.view 0)],[.seq false],[0],[.sl (.cons (.sl tLit) (.cons (.sl (.one (.sl (.one (.int .i64))))) (.one (.sl tLit))))]⟩,1,[],[],true,false,fun (x:(List (List ((List QLit)×(List (List Int))×(List QLit)))))=>slices_Concat_3 x⟩
theorem w66_gs:GD w66_c [(149,.gen (altE [w65_c]))]:=(gd1 w65_ok goods_nil)
def w66_v:=envG tb gl w66_gs w66_c Tryz.f115
theorem w66_A:VK w66_v:=env_all tb_ok w66_gs
def w66_u1:Un:=lpU 2 [28,29,30,8,31,32,33,6,34,27] ⟨[6,25,26,27],⟨[(.view 0),.hole,.hole,.hole],[.seq false],[1,2,2,0],[.sl (.one (.sl (.cons (.sl tLit) (.cons (.sl (.one (.sl (.one (.int .i64))))) (.one (.sl tLit)))))),.int .i64,.int .i64,.sl (.cons (.sl tLit) (.cons (.sl (.one (.sl (.one (.int .i64))))) (.one (.sl tLit))))]⟩⟩ [((.exit 2),⟨[6],⟨[(.view 0)],[.seq false],[0],[.sl (.cons (.sl tLit) (.cons (.sl (.one (.sl (.one (.int .i64))))) (.one (.sl tLit))))]⟩⟩)] (lp slices_Concat_3_L1 fuel)
theorem w66_u1_ok:UK w66_v (subC (bodyOf Tryz.f115) [1,1,1,1,0,1,0]) w66_u1:=lp_k .run hord w66_A ob0
def w66_u0:Un:=lpU 2 [12,13,14,5,15,16,17,18,3,19,20,21,22,11] ⟨[0,3,9,10,11],⟨[.hole,.hole,.hole,.hole,.hole],[],[1,2,1,2,2],[.sl (.one (.sl (.cons (.sl tLit) (.cons (.sl (.one (.sl (.one (.int .i64))))) (.one (.sl tLit)))))),.int .i64,.sl (.one (.sl (.cons (.sl tLit) (.cons (.sl (.one (.sl (.one (.int .i64))))) (.one (.sl tLit)))))),.int .i64,.int .i64]⟩⟩ [((.exit 0),⟨[3],⟨[.hole],[],[2],[.int .i64]⟩⟩)] (lp slices_Concat_3_L0 fuel)
theorem w66_u0_ok:UK w66_v (subC (bodyOf Tryz.f115) [1,1,0,1,0]) w66_u0:=lp_k .run hord w66_A ob0
theorem w66_ok:SK 115 w66_c:=fn_k (.seq .run (.seq .run (.seq (.seq .run (.block (.unit w66_u0))) (.seq .run (.seq (.seq .run (.block (.unit w66_u1))) .run))))) [.tmp 2] tb_ok hord w66_gs Tryz.func115 (ob1 w66_u0_ok (ob1 w66_u1_ok ob0))
def w67_c:ShC:=itoaC
theorem w67_ok:SK 150 w67_c :=
 itoa_ok (code:=bodyOf Tryz.f150) Tryz.func150 (by kernel_rfl) (by kernel_rfl) (Nat.le_of_ble_eq_true (by kernel_rfl)) fun i hi w=>Tryz.strconv_Itoa_small i hi w
def w68_c:ShC:=⟨⟨[(.ptr 0 0)],[.cells true [.hole,.hole,.hole]],[1,1,1],[.sl tSym,.sl (.cons (.int .i64) (.cons (.int .i64) (.one (.sl (.one (.int .i64)))))),.int .i64]⟩,⟨[.hole],[],[2],[.str]⟩,1,[],[],false,true,fun (x:((List QSym)×(List (Int×Int×(List Int)))×Int))=>cnf_maker_name x.1 x.2.1 x.2.2⟩
theorem w68_gs:GD w68_c [(150,.gen (altE [w67_c])),(151,.gen (altE [w21_c]))]:=(gd1 w67_ok (gdG w21_ok goods_nil))
def w68_v:=envG tb gl w68_gs w68_c Tryz.f116
theorem w68_A:VK w68_v:=env_all tb_ok w68_gs
def w68_u0:Un:=lpU 2 [9,10,11,4,13,14,15,16,17,18,12,19,20,5,6,21,22,23,2,7,8,3] ⟨[0,3],⟨[(.ptr 0 0),.hole],[.cells true [.hole,.hole,.hole]],[2,1,1,2],[.int .i64,.sl tSym,.sl (.cons (.int .i64) (.cons (.int .i64) (.one (.sl (.one (.int .i64)))))),.int .i64]⟩⟩ [(.ret,⟨[2],⟨[.hole],[],[2],[.str]⟩⟩)] (lp cnf_maker_name_L0 fuel)
theorem w68_u0_ok:UK w68_v (subC (bodyOf Tryz.f116) [1,1,0]) w68_u0:=lp_k .run hord w68_A ob0
theorem w68_ok:SK 116 w68_c:=fn_k (.seq .run (.seq .run (.block (.unit w68_u0)))) [.tmp 2] tb_ok hord w68_gs Tryz.func116 (ob1 w68_u0_ok ob0)
def w69_c:ShC:=⟨⟨[(.ptr 0 0),.hole,(.agg [.hole,.hole])],[.cells false [(.view 1),.hole,.hole],.seq false],[1,1,1,1,1,1],[.int .i64,.ar (.one (.sl (.one (.int .i64)))) 24,.sl (.one (.int .i64)),.sl (.cons (.int .i64) (.cons (.int .i64) (.one (.sl (.one (.int .i64)))))),.int .i64,.sl tSym]⟩,⟨[(.agg [.hole,.hole]),.hole,(.ptr 0 0)],[.cells false [(.view 1),.hole,.hole],.seq false],[0,0,2,1,2,0],[.ar (.one (.sl (.one (.int .i64)))) 24,.sl (.one (.int .i64)),.int .i64,.sl (.cons (.int .i64) (.cons (.int .i64) (.one (.sl (.one (.int .i64)))))),.int .i64,.sl tSym]⟩,2,[0],[(0,0)],true,true,fun (x:(Int×(List (List Int))×(List Int)×(List (Int×Int×(List Int)))×Int×(List QSym)))=>cnf_maker_skolem x.1 x.2.1 x.2.2.1 x.2.2.2.1 x.2.2.2.2.1 x.2.2.2.2.2⟩
theorem w69_ok:SK 71 w69_c:=fn_k (.seq .run (.seq .run (.seq .run (.seq (.hide [[9],[],[],[],[],[],[],[],[],[],[],[],[],[],[],[]]) .run)))) [.cell 6 70,.tmp 7] tb_ok hord (gd1 w54_ok (gdG w68_ok goods_nil)) Tryz.func71 ob0
def w70_ck (k:Nat):ShC:=⟨⟨[(.ptr 0 0),.hole,.hole,(.agg [.hole,.hole])],[.cells false [(.view 1),.hole,.hole],.seq false],[1,1,1,1,1,1,1],[.int .i64,.bool,.ar (.one (.sl (.one (.int .i64)))) 24,.sl (.one (.int .i64)),.sl (.cons (.int .i64) (.cons (.int .i64) (.one (.sl (.one (.int .i64)))))),.int .i64,.sl tSym]⟩,⟨[(.view 0),.hole,(.ptr 1 0)],[.seq false,.cells false [(.view 2),.hole,.hole],.seq false],[2,0,0,2,0],[.int .i64,.sl (.cons (.sl tLit) (.cons (.sl (.one (.sl (.one (.int .i64))))) (.one (.sl tLit)))),.sl (.cons (.int .i64) (.cons (.int .i64) (.one (.sl (.one (.int .i64)))))),.int .i64,.sl tSym]⟩,2,[0],[(0,1)],true,true,(cnf_maker_part_R k).1⟩
def w70_c:ShC:=⟨⟨[(.ptr 0 0),.hole,.hole,(.agg [.hole,.hole])],[.cells false [(.view 1),.hole,.hole],.seq false],[1,1,1,1,1,1,1],[.int .i64,.bool,.ar (.one (.sl (.one (.int .i64)))) 24,.sl (.one (.int .i64)),.sl (.cons (.int .i64) (.cons (.int .i64) (.one (.sl (.one (.int .i64)))))),.int .i64,.sl tSym]⟩,⟨[(.view 0),.hole,(.ptr 1 0)],[.seq false,.cells false [(.view 2),.hole,.hole],.seq false],[2,0,0,2,0],[.int .i64,.sl (.cons (.sl tLit) (.cons (.sl (.one (.sl (.one (.int .i64))))) (.one (.sl tLit)))),.sl (.cons (.int .i64) (.cons (.int .i64) (.one (.sl (.one (.int .i64)))))),.int .i64,.sl tSym]⟩,2,[0],[(0,1)],true,true,fun (x:(Int×Bool×(List (List Int))×(List Int)×(List (Int×Int×(List Int)))×Int×(List QSym)))=>cnf_maker_two x.1 x.2.1 x.2.2.1 x.2.2.2.1 x.2.2.2.2.1 x.2.2.2.2.2.1 x.2.2.2.2.2.2⟩
def w71_ck (k:Nat):ShC:=⟨⟨[(.ptr 0 0),.hole,(.agg [.hole,.hole])],[.cells false [(.view 1),.hole,.hole],.seq false],[1,1,1,1,1,1],[.bool,.ar (.one (.sl (.one (.int .i64)))) 24,.sl (.one (.int .i64)),.sl (.cons (.int .i64) (.cons (.int .i64) (.one (.sl (.one (.int .i64)))))),.int .i64,.sl tSym]⟩,⟨[(.view 0),.hole,(.ptr 1 0)],[.seq false,.cells false [(.view 2),.hole,.hole],.seq false],[2,0,0,2,0],[.int .i64,.sl (.cons (.sl tLit) (.cons (.sl (.one (.sl (.one (.int .i64))))) (.one (.sl tLit)))),.sl (.cons (.int .i64) (.cons (.int .i64) (.one (.sl (.one (.int .i64)))))),.int .i64,.sl tSym]⟩,2,[0],[(0,1)],true,true,(cnf_maker_part_R k).2⟩
def w71_c:ShC:=⟨⟨[(.ptr 0 0),.hole,(.agg [.hole,.hole])],[.cells false [(.view 1),.hole,.hole],.seq false],[1,1,1,1,1,1],[.bool,.ar (.one (.sl (.one (.int .i64)))) 24,.sl (.one (.int .i64)),.sl (.cons (.int .i64) (.cons (.int .i64) (.one (.sl (.one (.int .i64)))))),.int .i64,.sl tSym]⟩,⟨[(.view 0),.hole,(.ptr 1 0)],[.seq false,.cells false [(.view 2),.hole,.hole],.seq false],[2,0,0,2,0],[.int .i64,.sl (.cons (.sl tLit) (.cons (.sl (.one (.sl (.one (.int .i64))))) (.one (.sl tLit)))),.sl (.cons (.int .i64) (.cons (.int .i64) (.one (.sl (.one (.int .i64)))))),.int .i64,.sl tSym]⟩,2,[0],[(0,1)],true,true,fun (x:(Bool×(List (List Int))×(List Int)×(List (Int×Int×(List Int)))×Int×(List QSym)))=>cnf_maker_part x.1 x.2.1 x.2.2.1 x.2.2.2.1 x.2.2.2.2.1 x.2.2.2.2.2⟩
def w71_R_H (k:Nat):Prop:=SK 70 (w70_ck k)∧SK 33 (w71_ck k)
theorem w70_ok1 (k:Nat) (h:w71_R_H k):SK 70 (w70_ck (k+1)):=fn_k .run [.tmp 8,.tmp 9] tb_ok hord (gdG h.2 (gdG w64_ok (gd1 w66_ok goods_nil))) Tryz.func70 ob0
theorem w71_ok1 (k:Nat) (h:w71_R_H k):SK 33 (w71_ck (k+1)):=fn_k .run [.tmp 6,.tmp 7] tb_ok hord (gd1 w55_ok (gdG h.2 (gd1 w56_ok (gdG h.1 (gdG w69_ok goods_nil))))) Tryz.func33 ob0
theorem w71_R_all:∀ k,w71_R_H k
 | 0=>⟨(sh_base (by kernel_rfl) fun _=>rfl),(sh_base (by kernel_rfl) fun _=>rfl)⟩
 | k+1=>have h:=w71_R_all k; ⟨w70_ok1 k h,w71_ok1 k h⟩
theorem w70_ok:SK 70 w70_c:=(w71_R_all fuel).1
theorem w71_ok:SK 33 w71_c:=(w71_R_all fuel).2
def w72_c:ShC:=⟨⟨[.hole,.hole],[],[1,1],[.sl tSym,.sl (.one (.int .i64))]⟩,⟨[(.view 0)],[.seq false],[0],[.sl (.one (.sl (.one (.int .i64))))]⟩,1,[],[],true,false,fun (x:((List QSym)×(List Int)))=>term_Pieces x.1 x.2⟩
theorem w72_gs:GD w72_c [(142,.gen (altE [w36_c]))]:=(gd1 w36_ok goods_nil)
def w72_v:=envG tb gl w72_gs w72_c Tryz.f100
theorem w72_A:VK w72_v:=env_all tb_ok w72_gs
def w72_u0:Un:=lpU 2 [9,10,11,12,14,15,16,17,13,18,19,7,8,20,21,22,4,23,24,25,26,27,28,29,5,30,6] ⟨[0,1,5,6],⟨[.hole,.hole,(.view 0),.hole],[.seq false],[1,1,2,0],[.sl tSym,.sl (.one (.int .i64)),.int .i64,.sl (.one (.sl (.one (.int .i64))))]⟩⟩ [((.exit 0),⟨[5],⟨[(.view 0)],[.seq false],[0],[.sl (.one (.sl (.one (.int .i64))))]⟩⟩),(.ret,⟨[4],⟨[(.view 0)],[.seq false],[0],[.sl (.one (.sl (.one (.int .i64))))]⟩⟩)] (lp term_Pieces_L0 fuel)
theorem w72_u0_ok:UK w72_v (subC (bodyOf Tryz.f100) [1,1,0,1,0]) w72_u0:=lp_k .run hord w72_A ob0
theorem w72_ok:SK 100 w72_c:=fn_k (.seq .run (.seq .run (.seq (.seq .run (.block (.unit w72_u0))) .run))) [.tmp 4] tb_ok hord w72_gs Tryz.func100 (ob1 w72_u0_ok ob0)
def w73_c:ShC:=⟨⟨[.hole,.hole],[],[1,1],[.sl (.one (.int .i64)),.sl (.one (.int .i64))]⟩,⟨[.hole],[],[2],[.bool]⟩,1,[],[],false,false,fun (x:((List Int)×(List Int)))=>slices_Equal x.1 x.2⟩
theorem w73_gs:GD w73_c []:=goods_nil
def w73_v:=envG tb gl w73_gs w73_c Tryz.f51
theorem w73_A:VK w73_v:=env_all tb_ok w73_gs
def w73_u0:Un:=lpU 2 [14,15,5,16,17,18,19,20,21,22,23,24,4,25,13] ⟨[0,1,12,13],⟨[.hole,.hole,.hole,.hole],[],[1,1,2,2],[.sl (.one (.int .i64)),.sl (.one (.int .i64)),.int .i64,.int .i64]⟩⟩ [((.exit 0),⟨[],⟨[],[],[],[]⟩⟩),(.ret,⟨[4],⟨[.hole],[],[2],[.bool]⟩⟩)] (lp slices_Equal_L0 fuel)
theorem w73_u0_ok:UK w73_v (subC (bodyOf Tryz.f51) [1,1,0,1,0]) w73_u0:=lp_k .run hord w73_A ob0
theorem w73_ok:SK 51 w73_c:=fn_k (.seq .run (.seq .run (.seq (.seq .run (.block (.unit w73_u0))) .run))) [.tmp 4] tb_ok hord w73_gs Tryz.func51 (ob1 w73_u0_ok ob0)
def w74_c:ShC:=⟨⟨[.hole,(.agg [.hole,.hole])],[],[1,1,1],[.sl tSym,.bool,.sl (.one (.int .i64))]⟩,⟨[.hole],[],[2],[.bool]⟩,1,[],[],false,false,fun (x:((List QSym)×Bool×(List Int)))=>clause_selfSame x.1 x.2.1 x.2.2⟩
theorem w74_ok:SK 48 w74_c:=fn_k .run [.tmp 4] tb_ok hord (gd1 w73_ok (gd1 w72_ok goods_nil)) Tryz.func48 ob0
def w75_c:ShC:=⟨⟨[(.agg [.hole,.hole]),(.ptr 0 0)],[.cells true [.hole,.hole]],[1,1,1,1],[.bool,.sl (.one (.int .i64)),.bool,.sl (.one (.int .i64))]⟩,⟨[.hole],[],[2],[.bool]⟩,1,[],[],false,false,fun (x:(Bool×(List Int)×Bool×(List Int)))=>clause_Trivial_c1 x.1 x.2.1 x.2.2.1 x.2.2.2⟩
theorem w75_ok:SK 50 w75_c:=fn_k .run [.tmp 3] tb_ok hord (gd1 w73_ok goods_nil) Tryz.func50 ob0
def w76_c:ShC:=⟨⟨[.hole,(.clo 50 [(.ptr 0 0)])],[.cells true [.hole,.hole]],[1,1,1],[.sl tLit,.bool,.sl (.one (.int .i64))]⟩,⟨[.hole],[],[2],[.int .i64]⟩,1,[],[],false,false,fun (x:((List QLit)×Bool×(List Int)))=>slices_IndexFunc_8 x.1 x.2.1 x.2.2⟩
theorem w76_gs:GD w76_c [(50,.gen (altE [w75_c]))]:=(gd1 w75_ok goods_nil)
def w76_v:=envG tb gl w76_gs w76_c Tryz.f101
theorem w76_A:VK w76_v:=env_all tb_ok w76_gs
def w76_u0:Un:=lpU 2 [9,10,5,11,12,13,14,15,16,17,4,18,8] ⟨[0,1,7,8],⟨[.hole,(.clo 50 [(.ptr 0 0)]),.hole,.hole],[.cells true [.hole,.hole]],[1,2,2,2,1],[.sl tLit,.int .i64,.int .i64,.bool,.sl (.one (.int .i64))]⟩⟩ [((.exit 0),⟨[],⟨[],[],[],[]⟩⟩),(.ret,⟨[4],⟨[.hole],[],[2],[.int .i64]⟩⟩)] (lp slices_IndexFunc_8_L0 fuel)
theorem w76_u0_ok:UK w76_v (subC (bodyOf Tryz.f101) [1,0,1,0]) w76_u0:=lp_k .run hord w76_A ob0
theorem w76_ok:SK 101 w76_c:=fn_k (.seq .run (.seq (.seq .run (.block (.unit w76_u0))) .run)) [.tmp 4] tb_ok hord w76_gs Tryz.func101 (ob1 w76_u0_ok ob0)
def w77_c:ShC:=⟨⟨[.hole,(.clo 50 [(.ptr 0 0)])],[.cells true [.hole,.hole]],[1,1,1],[.sl tLit,.bool,.sl (.one (.int .i64))]⟩,⟨[.hole],[],[2],[.bool]⟩,1,[],[],false,false,fun (x:((List QLit)×Bool×(List Int)))=>slices_ContainsFunc_8 x.1 x.2.1 x.2.2⟩
theorem w77_ok:SK 49 w77_c:=fn_k .run [.tmp 4] tb_ok hord (gd1 w76_ok goods_nil) Tryz.func49 ob0
def w78_c:ShC:=⟨⟨[.hole,(.agg [.hole,.hole,.hole])],[],[1,1,1,1],[.sl tSym,.sl tLit,.sl (.one (.sl (.one (.int .i64)))),.sl tLit]⟩,⟨[.hole,.hole],[],[2,2],[.bool,.int .i64]⟩,2,[],[],false,true,fun (x:((List QSym)×(List QLit)×(List (List Int))×(List QLit)))=>clause_Trivial x.1 x.2.1 x.2.2.1 x.2.2.2⟩
theorem w78_gs:GD w78_c [(46,.gen (altE [w63_c])),(48,.gen (altE [w74_c])),(49,.gen (altE [w77_c]))]:=(gdG w63_ok (gd1 w74_ok (gd1 w77_ok goods_nil)))
def w78_v:=envG tb gl w78_gs w78_c Tryz.f20
theorem w78_A:VK w78_v:=env_all tb_ok w78_gs
def w78_u0:Un:=lpU 2 [16,17,18,7,19,20,21,22,23,24,25,26,27,4,5,28,15] ⟨[0,3,13,14,15],⟨[.hole,(.ptr 0 0),.hole,.hole,.hole],[.cells true [.hole,.hole,.hole]],[1,1,2,2,1,1,1],[.sl tSym,.sl tLit,.int .i64,.int .i64,.sl tLit,.sl (.one (.sl (.one (.int .i64)))),.sl tLit]⟩⟩ [((.exit 0),⟨[],⟨[],[],[],[]⟩⟩),(.ret,⟨[4,5],⟨[.hole,.hole],[],[2,2],[.bool,.int .i64]⟩⟩)] (lp clause_Trivial_L0 fuel)
theorem w78_u0_ok:UK w78_v (subC (bodyOf Tryz.f20) [1,1,0,1,0]) w78_u0:=lp_k .run hord w78_A ob0
theorem w78_ok:SK 20 w78_c:=fn_k (.seq .run (.seq .run (.seq (.seq .run (.block (.unit w78_u0))) .run))) [.tmp 4,.tmp 5] tb_ok hord w78_gs Tryz.func20 (ob1 w78_u0_ok ob0)
def w79_c:ShC:=⟨⟨[(.agg [.hole,.hole]),(.agg [.hole,.hole])],[],[1,1,1,1],[.bool,.sl (.one (.int .i64)),.bool,.sl (.one (.int .i64))]⟩,⟨[.hole],[],[2],[.bool]⟩,1,[],[],false,false,fun (x:(Bool×(List Int)×Bool×(List Int)))=>lit_Same x.1 x.2.1 x.2.2.1 x.2.2.2⟩
theorem w79_ok:SK 140 w79_c:=fn_k .run [.tmp 4] tb_ok hord (gd1 w73_ok goods_nil) Tryz.func140 ob0
def w80_c:ShC:=⟨⟨[(.agg [.hole,.hole]),(.ptr 0 0)],[.cells true [.hole,.hole]],[1,1,1,1],[.bool,.sl (.one (.int .i64)),.bool,.sl (.one (.int .i64))]⟩,⟨[.hole],[],[2],[.bool]⟩,1,[],[],false,false,fun (x:(Bool×(List Int)×Bool×(List Int)))=>clause_once_c1 x.1 x.2.1 x.2.2.1 x.2.2.2⟩
theorem w80_ok:SK 139 w80_c:=fn_k .run [.tmp 3] tb_ok hord (gd1 w79_ok goods_nil) Tryz.func139 ob0
def w81_c:ShC:=⟨⟨[.hole,(.clo 139 [(.ptr 0 0)])],[.cells true [.hole,.hole]],[1,1,1],[.sl tLit,.bool,.sl (.one (.int .i64))]⟩,⟨[.hole],[],[2],[.int .i64]⟩,1,[],[],false,false,fun (x:((List QLit)×Bool×(List Int)))=>slices_IndexFunc x.1 x.2.1 x.2.2⟩
theorem w81_gs:GD w81_c [(139,.gen (altE [w80_c]))]:=(gd1 w80_ok goods_nil)
def w81_v:=envG tb gl w81_gs w81_c Tryz.f101
theorem w81_A:VK w81_v:=env_all tb_ok w81_gs
def w81_u0:Un:=lpU 2 [9,10,5,11,12,13,14,15,16,17,4,18,8] ⟨[0,1,7,8],⟨[.hole,(.clo 139 [(.ptr 0 0)]),.hole,.hole],[.cells true [.hole,.hole]],[1,2,2,2,1],[.sl tLit,.int .i64,.int .i64,.bool,.sl (.one (.int .i64))]⟩⟩ [((.exit 0),⟨[],⟨[],[],[],[]⟩⟩),(.ret,⟨[4],⟨[.hole],[],[2],[.int .i64]⟩⟩)] (lp slices_IndexFunc_L0 fuel)
theorem w81_u0_ok:UK w81_v (subC (bodyOf Tryz.f101) [1,0,1,0]) w81_u0:=lp_k .run hord w81_A ob0
theorem w81_ok:SK 101 w81_c:=fn_k (.seq .run (.seq (.seq .run (.block (.unit w81_u0))) .run)) [.tmp 4] tb_ok hord w81_gs Tryz.func101 (ob1 w81_u0_ok ob0)
def w82_c:ShC:=⟨⟨[.hole,(.clo 139 [(.ptr 0 0)])],[.cells true [.hole,.hole]],[1,1,1],[.sl tLit,.bool,.sl (.one (.int .i64))]⟩,⟨[.hole],[],[2],[.bool]⟩,1,[],[],false,false,fun (x:((List QLit)×Bool×(List Int)))=>slices_ContainsFunc x.1 x.2.1 x.2.2⟩
theorem w82_ok:SK 49 w82_c:=fn_k .run [.tmp 4] tb_ok hord (gd1 w81_ok goods_nil) Tryz.func49 ob0
def w83_c:ShC:=⟨⟨[.hole],[],[1],[.sl tLit]⟩,⟨[(.view 0)],[.seq false],[0],[.sl tLit]⟩,1,[],[],true,false,fun (x:(List QLit))=>clause_once x⟩
theorem w83_gs:GD w83_c [(49,.gen (altE [w82_c]))]:=(gd1 w82_ok goods_nil)
def w83_v:=envG tb gl w83_gs w83_c Tryz.f95
theorem w83_A:VK w83_v:=env_all tb_ok w83_gs
def w83_u0:Un:=lpU 2 [9,10,11,5,12,13,14,15,16,17,18,19,3,20,8] ⟨[3,6,7,8],⟨[(.view 0),.hole,.hole,.hole],[.seq false],[1,2,2,0],[.sl tLit,.int .i64,.int .i64,.sl tLit]⟩⟩ [((.exit 0),⟨[3],⟨[(.view 0)],[.seq false],[0],[.sl tLit]⟩⟩)] (lp clause_once_L0 fuel)
theorem w83_u0_ok:UK w83_v (subC (bodyOf Tryz.f95) [1,1,0,1,0]) w83_u0:=lp_k .run hord w83_A ob0
theorem w83_ok:SK 95 w83_c:=fn_k (.seq .run (.seq .run (.seq (.seq .run (.block (.unit w83_u0))) .run))) [.tmp 2] tb_ok hord w83_gs Tryz.func95 (ob1 w83_u0_ok ob0)
def w84_c:ShC:=⟨⟨[.hole,(.ptr 0 0)],[.cells true [.hole]],[1,1],[.sl (.one (.int .i64)),.sl (.one (.int .i64))]⟩,⟨[.hole],[],[2],[.bool]⟩,1,[],[],false,false,fun (x:((List Int)×(List Int)))=>clause_anew_c1 x.1 x.2⟩
theorem w84_ok:SK 97 w84_c:=fn_k .run [.tmp 3] tb_ok hord (gd1 w73_ok goods_nil) Tryz.func97 ob0
def w85_c:ShC:=⟨⟨[.hole,(.clo 97 [(.ptr 0 0)])],[.cells true [.hole]],[1,1],[.sl (.one (.sl (.one (.int .i64)))),.sl (.one (.int .i64))]⟩,⟨[.hole],[],[2],[.int .i64]⟩,1,[],[],false,false,fun (x:((List (List Int))×(List Int)))=>slices_IndexFunc_1 x.1 x.2⟩
theorem w85_gs:GD w85_c [(97,.gen (altE [w84_c]))]:=(gd1 w84_ok goods_nil)
def w85_v:=envG tb gl w85_gs w85_c Tryz.f141
theorem w85_A:VK w85_v:=env_all tb_ok w85_gs
def w85_u0:Un:=lpU 2 [9,10,5,11,12,13,14,15,16,17,4,18,8] ⟨[0,1,7,8],⟨[.hole,(.clo 97 [(.ptr 0 0)]),.hole,.hole],[.cells true [.hole]],[1,2,2,1],[.sl (.one (.sl (.one (.int .i64)))),.int .i64,.int .i64,.sl (.one (.int .i64))]⟩⟩ [((.exit 0),⟨[],⟨[],[],[],[]⟩⟩),(.ret,⟨[4],⟨[.hole],[],[2],[.int .i64]⟩⟩)] (lp slices_IndexFunc_1_L0 fuel)
theorem w85_u0_ok:UK w85_v (subC (bodyOf Tryz.f141) [1,0,1,0]) w85_u0:=lp_k .run hord w85_A ob0
theorem w85_ok:SK 141 w85_c:=fn_k (.seq .run (.seq (.seq .run (.block (.unit w85_u0))) .run)) [.tmp 4] tb_ok hord w85_gs Tryz.func141 (ob1 w85_u0_ok ob0)
def w86_c:ShC:=⟨⟨[.hole,(.clo 97 [(.ptr 0 0)])],[.cells true [.hole]],[1,1],[.sl (.one (.sl (.one (.int .i64)))),.sl (.one (.int .i64))]⟩,⟨[.hole],[],[2],[.bool]⟩,1,[],[],false,false,fun (x:((List (List Int))×(List Int)))=>slices_ContainsFunc_1 x.1 x.2⟩
theorem w86_ok:SK 96 w86_c:=fn_k .run [.tmp 4] tb_ok hord (gd1 w85_ok goods_nil) Tryz.func96 ob0
def w87_c:ShC:=⟨⟨[.hole,(.aptr 0),(.ptr 1 0)],[.seq false,.cells false [.hole]],[1,1,1],[.sl (.one (.int .i64)),.sl (.one (.int .i64)),.int .i64]⟩,⟨[(.view 0),(.aptr 1),(.ptr 2 0)],[.seq false,.seq false,.cells false [.hole]],[2,0,2],[.sl (.one (.int .i64)),.sl (.one (.int .i64)),.int .i64]⟩,1,[1,2],[(0,1),(1,2)],true,false,fun (x:((List Int)×(List Int)×Int))=>clause_anew_c2_1 x.1 x.2.1 x.2.2⟩
theorem w87_gs:GD w87_c [(66,.gen (altE [w24_c])),(67,.gen (altE [w53_c]))]:=(gd1 w24_ok (gd1 w53_ok goods_nil))
def w87_v:=envG tb gl w87_gs w87_c Tryz.f99
theorem w87_A:VK w87_v:=env_all tb_ok w87_gs
def w87_u0:Un:=lpU 2 [13,14,15,16,6,7,17,18,19,20,21,22,23,24,25,26,27,28,29,30,31,32,33,34,35,36,37,38,12] ⟨[1,2,5,10,11,12],⟨[(.aptr 0),(.ptr 1 0),(.view 2),(.view 2),.hole,.hole],[.seq false,.cells false [.hole],.seq false],[2,2,0,2,2],[.int .i64,.int .i64,.sl (.one (.int .i64)),.int .i64,.sl (.one (.int .i64))]⟩⟩ [((.exit 0),⟨[1,2,5],⟨[(.aptr 0),(.ptr 1 0),(.view 2)],[.seq false,.cells false [.hole],.seq false],[0,2,2],[.sl (.one (.int .i64)),.int .i64,.sl (.one (.int .i64))]⟩⟩)] (lp clause_anew_c2_1_L0 fuel)
theorem w87_u0_ok:UK w87_v (subC (bodyOf Tryz.f99) [1,1,0,1,0]) w87_u0:=lp_k .run hord w87_A ob0
theorem w87_ok:SK 99 w87_c:=fn_k (.seq .run (.seq .run (.seq (.seq .run (.block (.unit w87_u0))) .run))) [.tmp 4] tb_ok hord w87_gs Tryz.func99 (ob1 w87_u0_ok ob0)
def w88_c:ShC:=⟨⟨[(.agg [.hole,.hole,.hole]),(.clo 99 [(.aptr 0),(.ptr 1 0)])],[.seq false,.cells false [.hole]],[1,1,1,1,1],[.sl tLit,.sl (.one (.sl (.one (.int .i64)))),.sl tLit,.sl (.one (.int .i64)),.int .i64]⟩,⟨[(.agg [.hole,.hole,(.view 0)]),(.clo 99 [(.aptr 1),(.ptr 2 0)])],[.seq false,.seq false,.cells false [.hole]],[2,2,2,0,2],[.sl tLit,.sl (.one (.sl (.one (.int .i64)))),.sl tLit,.sl (.one (.int .i64)),.int .i64]⟩,1,[1],[(0,1),(1,2)],true,false,fun (x:((List QLit)×(List (List Int))×(List QLit)×(List Int)×Int))=>clause_each_1 x.1 x.2.1 x.2.2.1 x.2.2.2.1 x.2.2.2.2⟩
theorem w88_gs:GD w88_c [(99,.gen (altE [w87_c]))]:=(gd1 w87_ok goods_nil)
def w88_v:=envG tb gl w88_gs w88_c Tryz.f98
theorem w88_A:VK w88_v:=env_all tb_ok w88_gs
def w88_u2:Un:=lpU 2 [52,53,54,11,55,56,57,58,59,60,61,62,63,64,65,66,67,51] ⟨[1,4,5,49,50,51],⟨[(.clo 99 [(.aptr 0),(.ptr 1 0)]),(.ptr 2 0),(.ptr 3 0),.hole,.hole,.hole],[.seq false,.cells false [.hole],.cells true [.nilv,.nilv,.nilv],.cells false [.hole,.hole,(.view 4)],.seq false],[1,2,2,0,2,2,2,2],[.sl tLit,.int .i64,.int .i64,.sl (.one (.int .i64)),.int .i64,.sl tLit,.sl (.one (.sl (.one (.int .i64)))),.sl tLit]⟩⟩ [((.exit 4),⟨[1,5],⟨[(.clo 99 [(.aptr 0),(.ptr 1 0)]),(.ptr 2 0)],[.seq false,.cells false [.hole],.cells false [.hole,.hole,(.view 3)],.seq false],[0,2,2,2,2],[.sl (.one (.int .i64)),.int .i64,.sl tLit,.sl (.one (.sl (.one (.int .i64)))),.sl tLit]⟩⟩)] (lp clause_each_1_L2 fuel)
theorem w88_u2_ok:UK w88_v (subC (bodyOf Tryz.f98) [1,1,1,1,0,1,0]) w88_u2:=lp_k (.seq .run (.seq .run (.seq (.block (.seq .run (.hide [[8,9],[8,9],[8,9],[8,9],[],[],[],[],[],[],[],[],[]]))) .run))) hord w88_A ob0
def w88_u1:Un:=lpU 2 [36,37,38,9,39,40,41,42,43,44,45,46,47,35] ⟨[1,2,4,5,33,34,35],⟨[(.clo 99 [(.aptr 0),(.ptr 1 0)]),(.ptr 2 0),(.ptr 3 0),(.ptr 4 0),.hole,.hole,.hole],[.seq false,.cells false [.hole],.cells true [.hole,.hole,.hole],.cells true [.nilv,.nilv,.nilv],.cells false [.hole,(.view 5),.nilv],.seq false],[1,2,2,0,2,1,1,1,2,2],[.sl (.one (.sl (.one (.int .i64)))),.int .i64,.int .i64,.sl (.one (.int .i64)),.int .i64,.sl tLit,.sl (.one (.sl (.one (.int .i64)))),.sl tLit,.sl tLit,.sl (.one (.sl (.one (.int .i64))))]⟩⟩ [((.exit 2),⟨[1,5],⟨[(.clo 99 [(.aptr 0),(.ptr 1 0)]),(.ptr 2 0)],[.seq false,.cells false [.hole],.cells false [.hole,(.view 3),.nilv],.seq false],[0,2,2,2],[.sl (.one (.int .i64)),.int .i64,.sl tLit,.sl (.one (.sl (.one (.int .i64))))]⟩⟩)] (lp clause_each_1_L1 fuel)
theorem w88_u1_ok:UK w88_v (subC (bodyOf Tryz.f98) [1,1,1,0,1,0]) w88_u1:=lp_k (.seq .run (.seq .run (.seq (.block (.seq .run (.hide [[8,9],[8,9],[],[],[],[],[],[],[]]))) .run))) hord w88_A ob0
def w88_u0:Un:=lpU 2 [16,17,18,7,19,20,21,22,23,24,25,26,27,28,29,30,31,15] ⟨[1,2,4,5,13,14,15],⟨[(.clo 99 [(.aptr 0),(.ptr 1 0)]),(.ptr 2 0),(.ptr 3 0),(.ptr 4 0),.hole,.hole,.hole],[.seq false,.cells false [.hole],.cells true [.hole,.hole,.hole],.cells true [.nilv,.nilv,.nilv],.cells false [(.view 5),.nilv,.nilv],.seq false],[1,2,2,0,2,1,1,1,2],[.sl tLit,.int .i64,.int .i64,.sl (.one (.int .i64)),.int .i64,.sl tLit,.sl (.one (.sl (.one (.int .i64)))),.sl tLit,.sl tLit]⟩⟩ [((.exit 0),⟨[1,5],⟨[(.clo 99 [(.aptr 0),(.ptr 1 0)]),(.ptr 2 0)],[.seq false,.cells false [.hole],.cells false [(.view 3),.nilv,.nilv],.seq false],[0,2,2],[.sl (.one (.int .i64)),.int .i64,.sl tLit]⟩⟩)] (lp clause_each_1_L0 fuel)
theorem w88_u0_ok:UK w88_v (subC (bodyOf Tryz.f98) [1,1,0,1,0]) w88_u0:=lp_k (.seq .run (.seq .run (.seq (.block (.seq .run (.hide [[8,9],[8,9],[8,9],[8,9],[],[],[],[],[],[],[],[],[]]))) .run))) hord w88_A ob0
theorem w88_ok:SK 98 w88_c:=fn_k (.seq .run (.seq .run (.seq (.seq .run (.block (.unit w88_u0))) (.seq (.seq .run (.block (.unit w88_u1))) (.seq (.seq .run (.block (.unit w88_u2))) .run))))) [.cell 4 39] tb_ok hord w88_gs Tryz.func98 (ob1 w88_u0_ok (ob1 w88_u1_ok (ob1 w88_u2_ok ob0)))
def w89_c:ShC:=⟨⟨[(.agg [.hole,.hole,.hole])],[],[1,1,1],[.sl tLit,.sl (.one (.sl (.one (.int .i64)))),.sl tLit]⟩,⟨[(.agg [.hole,.hole,(.view 0)])],[.seq false],[2,2,2],[.sl tLit,.sl (.one (.sl (.one (.int .i64)))),.sl tLit]⟩,1,[],[],false,false,fun (x:((List QLit)×(List (List Int))×(List QLit)))=>clause_anew x.1 x.2.1 x.2.2⟩
theorem w89_gs:GD w89_c [(95,.gen (altE [w83_c])),(96,.gen (altE [w86_c])),(98,.gen (altE [w88_c]))]:=(gd1 w83_ok (gd1 w86_ok (gd1 w88_ok goods_nil)))
def w89_v:=envG tb gl w89_gs w89_c Tryz.f47
theorem w89_A:VK w89_v:=env_all tb_ok w89_gs
def w89_u0:Un:=lpU 2 [19,20,21,5,22,23,24,25,26,27,28,29,30,31,32,33,18] ⟨[2,3,16,17,18],⟨[(.ptr 0 0),(.ptr 1 0),.hole,.hole,.hole],[.cells true [.nilv,.nilv,.nilv],.cells false [.hole,(.view 2),.hole],.seq false],[1,2,2,0,0,0],[.sl (.one (.sl (.one (.int .i64)))),.int .i64,.int .i64,.sl tLit,.sl tLit,.sl (.one (.sl (.one (.int .i64))))]⟩⟩ [((.exit 0),⟨[3],⟨[(.ptr 0 0)],[.cells false [.hole,(.view 1),.hole],.seq false],[0,0,0],[.sl tLit,.sl tLit,.sl (.one (.sl (.one (.int .i64))))]⟩⟩)] (lp clause_anew_L0 fuel)
theorem w89_u0_ok:UK w89_v (subC (bodyOf Tryz.f47) [1,1,0,1,0]) w89_u0:=lp_k .run hord w89_A ob0
theorem w89_ok:SK 47 w89_c:=fn_k (.seq .run (.seq .run (.seq (.seq .run (.block (.unit w89_u0))) .run))) [.cell 2 39] tb_ok hord w89_gs Tryz.func47 (ob1 w89_u0_ok ob0)
def w90_c:ShC:=⟨⟨[.hole,(.agg [.hole,.hole,.hole])],[],[1,1,1,1],[.sl tSym,.sl tLit,.sl (.one (.sl (.one (.int .i64)))),.sl tLit]⟩,⟨[(.agg [.hole,.hole,(.view 0)]),.hole],[.seq false],[2,2,2,2],[.sl tLit,.sl (.one (.sl (.one (.int .i64)))),.int .i64,.sl tLit]⟩,2,[],[],false,true,fun (x:((List QSym)×(List QLit)×(List (List Int))×(List QLit)))=>clause_Normal x.1 x.2.1 x.2.2.1 x.2.2.2⟩
theorem w90_ok:SK 19 w90_c:=fn_k .run [.cell 4 39,.tmp 5] tb_ok hord (gdG w63_ok (gd1 w89_ok goods_nil)) Tryz.func19 ob0
def w91_c:ShC:=⟨⟨[.hole,.hole],[],[1,1],[.sl tSym,.sl (.cons (.int .i64) (.cons (.int .i64) (.one (.sl (.one (.int .i64))))))]⟩,⟨[.hole,(.view 0),.hole],[.seq false],[0,2,2],[.sl tSym,.int .i64,.sl (.cons (.sl tLit) (.cons (.sl (.one (.sl (.one (.int .i64))))) (.one (.sl tLit))))]⟩,3,[],[],true,true,fun (x:((List QSym)×(List (Int×Int×(List Int)))))=>cnf_Clauses x.1 x.2⟩
theorem w91_gs:GD w91_c [(19,.gen (altE [w90_c])),(20,.gen (altE [w78_c])),(29,.gen (altE [w40_c])),(30,.gen (altE [w43_c])),(31,.gen (altE [w50_c])),(32,.gen (altE [w55_c])),(33,.gen (altE [w71_c]))]:=(gdG w90_ok (gdG w78_ok (gdG w40_ok (gd1 w43_ok (gd1 w50_ok (gd1 w55_ok (gdG w71_ok goods_nil)))))))
def w91_v:=envG tb gl w91_gs w91_c Tryz.f10
theorem w91_A:VK w91_v:=env_all tb_ok w91_gs
def w91_u1:Un:=lpU 2 [63,64,65,17,67,68,69,70,71,72,66,73,74,18,19,75,76,78,79,80,81,82,83,77,84,85,20,21,86,87,88,89,15,90,62] ⟨[7,15,60,61,62],⟨[(.ptr 0 0),(.view 1),.hole,.hole,.hole],[.cells true [.hole,.hole,.hole],.seq false],[0,2,2,0,0,2,2],[.sl (.cons (.sl tLit) (.cons (.sl (.one (.sl (.one (.int .i64))))) (.one (.sl tLit)))),.int .i64,.int .i64,.sl tSym,.sl (.cons (.int .i64) (.cons (.int .i64) (.one (.sl (.one (.int .i64)))))),.int .i64,.sl (.cons (.sl tLit) (.cons (.sl (.one (.sl (.one (.int .i64))))) (.one (.sl tLit))))]⟩⟩ [((.exit 2),⟨[15],⟨[(.view 0)],[.seq false],[2],[.sl (.cons (.sl tLit) (.cons (.sl (.one (.sl (.one (.int .i64))))) (.one (.sl tLit))))]⟩⟩)] (lp cnf_Clauses_L1 fuel)
theorem w91_u1_ok:UK w91_v (subC (bodyOf Tryz.f10) [1,1,1,1,1,1,1,1,1,0,1,0]) w91_u1:=lp_k .run hord w91_A ob0
def w91_u0:Un:=lpU 2 [40,41,42,12,44,45,46,47,43,48,49,50,39] ⟨[7,8,37,38,39],⟨[(.ptr 0 0),(.ptr 1 0),.hole,.hole,.hole],[.cells false [(.view 2),.hole,.hole],.cells false [.hole,.hole],.seq false],[0,2,2,0,2,0,0,0],[.sl (.one (.int .i64)),.int .i64,.int .i64,.sl (.cons (.int .i64) (.cons (.int .i64) (.one (.sl (.one (.int .i64)))))),.int .i64,.ar (.one (.sl (.one (.int .i64)))) 24,.sl (.one (.int .i64)),.sl tSym]⟩⟩ [((.exit 0),⟨[7,8],⟨[(.ptr 0 0),(.ptr 1 0)],[.cells false [(.view 2),.hole,.hole],.cells false [.hole,.hole],.seq false],[0,2,0,0,0],[.sl (.cons (.int .i64) (.cons (.int .i64) (.one (.sl (.one (.int .i64)))))),.int .i64,.ar (.one (.sl (.one (.int .i64)))) 24,.sl (.one (.int .i64)),.sl tSym]⟩⟩)] (lp cnf_Clauses_L0 fuel)
theorem w91_u0_ok:UK w91_v (subC (bodyOf Tryz.f10) [1,1,1,1,1,0,1,0]) w91_u0:=lp_k .run hord w91_A ob0
theorem w91_ok:SK 10 w91_c:=fn_k (.seq .run (.seq .run (.seq .run (.seq .run (.seq .run (.seq (.seq .run (.block (.unit w91_u0))) (.seq .run (.seq .run (.seq .run (.seq (.seq .run (.block (.unit w91_u1))) .run)))))))))) [.tmp 4,.tmp 5,.tmp 6] tb_ok hord w91_gs Tryz.func10 (ob1 w91_u0_ok (ob1 w91_u1_ok ob0))
def w92_c:ShC:=⟨⟨[.hole],[],[1],[.int .i64]⟩,⟨[.hole],[],[2],[.int .i64]⟩,1,[],[],false,false,fun (x:Int)=>law0_Num x⟩
theorem w92_ok:SK 14 w92_c:=fn_k .run [.tmp 2] tb_ok hord goods_nil Tryz.func14 ob0
def w93_c:ShC:=⟨⟨[.hole,.hole],[],[1,1],[.sl (.one (.int .i64)),.sl (.one (.int .i64))]⟩,⟨[.hole],[],[2],[.bool]⟩,1,[],[],false,false,fun (x:((List Int)×(List Int)))=>law0_SameInts x.1 x.2⟩
theorem w93_gs:GD w93_c []:=goods_nil
def w93_v:=envG tb gl w93_gs w93_c Tryz.f42
theorem w93_A:VK w93_v:=env_all tb_ok w93_gs
def w93_u0:Un:=lpU 2 [11,12,13,14,17,18,19,20,21,22,23,24,25,4,15,16,5] ⟨[0,1,5],⟨[.hole,.hole,.hole],[],[1,1,2],[.sl (.one (.int .i64)),.sl (.one (.int .i64)),.int .i64]⟩⟩ [((.exit 0),⟨[],⟨[],[],[],[]⟩⟩),(.ret,⟨[4],⟨[.hole],[],[2],[.bool]⟩⟩)] (lp law0_SameInts_L0 fuel)
theorem w93_u0_ok:UK w93_v (subC (bodyOf Tryz.f42) [1,1,0,1,0]) w93_u0:=lp_k .run hord w93_A ob0
theorem w93_ok:SK 42 w93_c:=fn_k (.seq .run (.seq .run (.seq (.seq .run (.block (.unit w93_u0))) .run))) [.tmp 4] tb_ok hord w93_gs Tryz.func42 (ob1 w93_u0_ok ob0)
def w94_c:ShC:=⟨⟨[.hole,.hole],[],[1,1],[.sl tLit,.sl tLit]⟩,⟨[.hole],[],[2],[.bool]⟩,1,[],[],false,false,fun (x:((List QLit)×(List QLit)))=>law0_SameLits x.1 x.2⟩
theorem w94_gs:GD w94_c [(42,.gen (altE [w93_c]))]:=(gd1 w93_ok goods_nil)
def w94_v:=envG tb gl w94_gs w94_c Tryz.f52
theorem w94_A:VK w94_v:=env_all tb_ok w94_gs
def w94_u0:Un:=lpU 2 [11,12,13,14,17,18,19,20,21,22,23,24,25,26,27,28,29,30,31,32,33,34,35,36,37,38,39,40,41,4,15,16,5] ⟨[0,1,5],⟨[.hole,.hole,.hole],[],[1,1,2],[.sl tLit,.sl tLit,.int .i64]⟩⟩ [((.exit 0),⟨[],⟨[],[],[],[]⟩⟩),(.ret,⟨[4],⟨[.hole],[],[2],[.bool]⟩⟩)] (lp law0_SameLits_L0 fuel)
theorem w94_u0_ok:UK w94_v (subC (bodyOf Tryz.f52) [1,1,0,1,0]) w94_u0:=lp_k .run hord w94_A ob0
theorem w94_ok:SK 52 w94_c:=fn_k (.seq .run (.seq .run (.seq (.seq .run (.block (.unit w94_u0))) .run))) [.tmp 4] tb_ok hord w94_gs Tryz.func52 (ob1 w94_u0_ok ob0)
def w95_c:ShC:=⟨⟨[.hole,.hole],[],[1,1],[.sl (.one (.sl (.one (.int .i64)))),.sl (.one (.sl (.one (.int .i64))))]⟩,⟨[.hole],[],[2],[.bool]⟩,1,[],[],false,false,fun (x:((List (List Int))×(List (List Int))))=>law0_SameRows x.1 x.2⟩
theorem w95_gs:GD w95_c [(42,.gen (altE [w93_c]))]:=(gd1 w93_ok goods_nil)
def w95_v:=envG tb gl w95_gs w95_c Tryz.f53
theorem w95_A:VK w95_v:=env_all tb_ok w95_gs
def w95_u0:Un:=lpU 2 [11,12,13,14,17,18,19,20,21,22,23,24,25,26,4,15,16,5] ⟨[0,1,5],⟨[.hole,.hole,.hole],[],[1,1,2],[.sl (.one (.sl (.one (.int .i64)))),.sl (.one (.sl (.one (.int .i64)))),.int .i64]⟩⟩ [((.exit 0),⟨[],⟨[],[],[],[]⟩⟩),(.ret,⟨[4],⟨[.hole],[],[2],[.bool]⟩⟩)] (lp law0_SameRows_L0 fuel)
theorem w95_u0_ok:UK w95_v (subC (bodyOf Tryz.f53) [1,1,0,1,0]) w95_u0:=lp_k .run hord w95_A ob0
theorem w95_ok:SK 53 w95_c:=fn_k (.seq .run (.seq .run (.seq (.seq .run (.block (.unit w95_u0))) .run))) [.tmp 4] tb_ok hord w95_gs Tryz.func53 (ob1 w95_u0_ok ob0)
def w96_c:ShC:=⟨⟨[(.agg [.hole,.hole,.hole]),(.agg [.hole,.hole,.hole])],[],[1,1,1,1,1,1],[.sl tLit,.sl (.one (.sl (.one (.int .i64)))),.sl tLit,.sl tLit,.sl (.one (.sl (.one (.int .i64)))),.sl tLit]⟩,⟨[.hole],[],[2],[.bool]⟩,1,[],[],false,false,fun (x:((List QLit)×(List (List Int))×(List QLit)×(List QLit)×(List (List Int))×(List QLit)))=>law0_SameClause x.1 x.2.1 x.2.2.1 x.2.2.2.1 x.2.2.2.2.1 x.2.2.2.2.2⟩
theorem w96_ok:SK 21 w96_c:=fn_k .run [.tmp 4] tb_ok hord (gd1 w94_ok (gd1 w95_ok goods_nil)) Tryz.func21 ob0
def w97_c:ShC:=⟨⟨[.hole,.hole],[],[1,1],[.sl (.cons (.sl tLit) (.cons (.sl (.one (.sl (.one (.int .i64))))) (.one (.sl tLit)))),.sl (.cons (.sl tLit) (.cons (.sl (.one (.sl (.one (.int .i64))))) (.one (.sl tLit))))]⟩,⟨[.hole],[],[2],[.bool]⟩,1,[],[],false,false,fun (x:((List ((List QLit)×(List (List Int))×(List QLit)))×(List ((List QLit)×(List (List Int))×(List QLit)))))=>law0_SameClauses x.1 x.2⟩
theorem w97_gs:GD w97_c [(21,.gen (altE [w96_c]))]:=(gd1 w96_ok goods_nil)
def w97_v:=envG tb gl w97_gs w97_c Tryz.f13
theorem w97_A:VK w97_v:=env_all tb_ok w97_gs
def w97_u0:Un:=lpU 2 [11,12,13,14,17,18,19,20,21,22,23,24,25,26,4,15,16,5] ⟨[0,1,5],⟨[.hole,.hole,.hole],[],[1,1,2],[.sl (.cons (.sl tLit) (.cons (.sl (.one (.sl (.one (.int .i64))))) (.one (.sl tLit)))),.sl (.cons (.sl tLit) (.cons (.sl (.one (.sl (.one (.int .i64))))) (.one (.sl tLit)))),.int .i64]⟩⟩ [((.exit 0),⟨[],⟨[],[],[],[]⟩⟩),(.ret,⟨[4],⟨[.hole],[],[2],[.bool]⟩⟩)] (lp law0_SameClauses_L0 fuel)
theorem w97_u0_ok:UK w97_v (subC (bodyOf Tryz.f13) [1,1,0,1,0]) w97_u0:=lp_k .run hord w97_A ob0
theorem w97_ok:SK 13 w97_c:=fn_k (.seq .run (.seq .run (.seq (.seq .run (.block (.unit w97_u0))) .run))) [.tmp 4] tb_ok hord w97_gs Tryz.func13 (ob1 w97_u0_ok ob0)
def w98_c:ShC:=⟨⟨[],[],[],[]⟩,⟨[.hole],[],[2],[.bool]⟩,1,[],[],false,true,fun (_:Unit)=>law23_awake⟩
theorem w98_ok:SK 17 w98_c:=fn_k .run [.tmp 0] tb_ok hord (gdG w91_ok (gd1 w97_ok (gd1 w92_ok (gdG w33_ok (gd1 w0_ok goods_nil))))) Tryz.func17 ob0
def w99_c:ShC:=⟨⟨[.hole],[],[1],[.sl (.one (.int .i64))]⟩,⟨[(.view 0)],[.seq false],[2],[.sl (.one (.int .i64))]⟩,1,[],[],false,false,fun (x:(List Int))=>law0_CopyInts x⟩
theorem w99_ok:SK 28 w99_c:=fn_k .run [.tmp 2] tb_ok hord goods_nil Tryz.func28 ob0
def w100_c:ShC:=⟨⟨[.hole],[],[1],[.sl tLit]⟩,⟨[(.view 0)],[.seq false],[2],[.sl tLit]⟩,1,[],[],false,false,fun (x:(List QLit))=>law0_CopyLits x⟩
theorem w100_gs:GD w100_c [(28,.gen (altE [w99_c]))]:=(gd1 w99_ok goods_nil)
def w100_v:=envG tb gl w100_gs w100_c Tryz.f90
theorem w100_A:VK w100_v:=env_all tb_ok w100_gs
def w100_u0:Un:=lpU 2 [5,6,7,8,11,12,13,14,15,16,17,18,19,20,21,22,23,24,25,3,9,10,4] ⟨[0,3,4],⟨[.hole,(.view 0),.hole],[.seq false],[1,2,2],[.sl tLit,.int .i64,.sl tLit]⟩⟩ [((.exit 0),⟨[3],⟨[(.view 0)],[.seq false],[2],[.sl tLit]⟩⟩)] (lp law0_CopyLits_L0 fuel)
theorem w100_u0_ok:UK w100_v (subC (bodyOf Tryz.f90) [1,1,0,1,0]) w100_u0:=lp_k .run hord w100_A ob0
theorem w100_ok:SK 90 w100_c:=fn_k (.seq .run (.seq .run (.seq (.seq .run (.block (.unit w100_u0))) .run))) [.tmp 2] tb_ok hord w100_gs Tryz.func90 (ob1 w100_u0_ok ob0)
def w101_c:ShC:=⟨⟨[.hole],[],[1],[.sl (.one (.sl (.one (.int .i64))))]⟩,⟨[(.view 0)],[.seq false],[2],[.sl (.one (.sl (.one (.int .i64))))]⟩,1,[],[],false,false,fun (x:(List (List Int)))=>law0_CopyRows x⟩
theorem w101_gs:GD w101_c [(28,.gen (altE [w99_c]))]:=(gd1 w99_ok goods_nil)
def w101_v:=envG tb gl w101_gs w101_c Tryz.f91
theorem w101_A:VK w101_v:=env_all tb_ok w101_gs
def w101_u0:Un:=lpU 2 [5,6,7,8,11,12,13,14,15,16,17,18,3,9,10,4] ⟨[0,3,4],⟨[.hole,(.view 0),.hole],[.seq false],[1,2,2],[.sl (.one (.sl (.one (.int .i64)))),.int .i64,.sl (.one (.sl (.one (.int .i64))))]⟩⟩ [((.exit 0),⟨[3],⟨[(.view 0)],[.seq false],[2],[.sl (.one (.sl (.one (.int .i64))))]⟩⟩)] (lp law0_CopyRows_L0 fuel)
theorem w101_u0_ok:UK w101_v (subC (bodyOf Tryz.f91) [1,1,0,1,0]) w101_u0:=lp_k .run hord w101_A ob0
theorem w101_ok:SK 91 w101_c:=fn_k (.seq .run (.seq .run (.seq (.seq .run (.block (.unit w101_u0))) .run))) [.tmp 2] tb_ok hord w101_gs Tryz.func91 (ob1 w101_u0_ok ob0)
def w102_c:ShC:=⟨⟨[(.agg [.hole,.hole,.hole])],[],[1,1,1],[.sl tLit,.sl (.one (.sl (.one (.int .i64)))),.sl tLit]⟩,⟨[(.agg [(.view 0),(.view 1),(.view 2)])],[.seq false,.seq false,.seq false],[2,2,2],[.sl tLit,.sl (.one (.sl (.one (.int .i64)))),.sl tLit]⟩,1,[],[],false,false,fun (x:((List QLit)×(List (List Int))×(List QLit)))=>law0_CopyClause x.1 x.2.1 x.2.2⟩
theorem w102_ok:SK 45 w102_c:=fn_k .run [.cell 2 39] tb_ok hord (gd1 w100_ok (gd1 w101_ok goods_nil)) Tryz.func45 ob0
def w103_c:ShC:=⟨⟨[.hole],[],[1],[.sl (.cons (.sl tLit) (.cons (.sl (.one (.sl (.one (.int .i64))))) (.one (.sl tLit))))]⟩,⟨[(.view 0)],[.seq false],[2],[.sl (.cons (.sl tLit) (.cons (.sl (.one (.sl (.one (.int .i64))))) (.one (.sl tLit))))]⟩,1,[],[],false,false,fun (x:(List ((List QLit)×(List (List Int))×(List QLit))))=>law0_CopyClauses x⟩
theorem w103_gs:GD w103_c [(45,.gen (altE [w102_c]))]:=(gd1 w102_ok goods_nil)
def w103_v:=envG tb gl w103_gs w103_c Tryz.f18
theorem w103_A:VK w103_v:=env_all tb_ok w103_gs
def w103_u0:Un:=lpU 2 [5,6,7,8,11,12,13,14,15,16,17,18,3,9,10,4] ⟨[0,3,4],⟨[.hole,(.view 0),.hole],[.seq false],[1,2,2],[.sl (.cons (.sl tLit) (.cons (.sl (.one (.sl (.one (.int .i64))))) (.one (.sl tLit)))),.int .i64,.sl (.cons (.sl tLit) (.cons (.sl (.one (.sl (.one (.int .i64))))) (.one (.sl tLit))))]⟩⟩ [((.exit 0),⟨[3],⟨[(.view 0)],[.seq false],[2],[.sl (.cons (.sl tLit) (.cons (.sl (.one (.sl (.one (.int .i64))))) (.one (.sl tLit))))]⟩⟩)] (lp law0_CopyClauses_L0 fuel)
theorem w103_u0_ok:UK w103_v (subC (bodyOf Tryz.f18) [1,1,0,1,0]) w103_u0:=lp_k .run hord w103_A ob0
theorem w103_ok:SK 18 w103_c:=fn_k (.seq .run (.seq .run (.seq (.seq .run (.block (.unit w103_u0))) .run))) [.tmp 2] tb_ok hord w103_gs Tryz.func18 (ob1 w103_u0_ok ob0)
def w104_c:ShC:=⟨⟨[.hole,.hole,.hole],[],[1,1,1],[.sl tSym,.sl (.cons (.int .i64) (.cons (.int .i64) (.one (.sl (.one (.int .i64)))))),.sl (.cons (.int .i64) (.cons (.int .i64) (.one (.sl (.one (.int .i64))))))]⟩,⟨[.hole],[],[2],[.bool]⟩,1,[],[],false,true,fun (x:((List QSym)×(List (Int×Int×(List Int)))×(List (Int×Int×(List Int)))))=>law23_CnfAnds x.1 x.2.1 x.2.2⟩
theorem w104_gs:GD w104_c [(10,.gen (altE [w91_c])),(13,.gen (altE [w97_c])),(14,.gen (altE [w92_c])),(17,.gen (altE [w98_c])),(18,.gen (altE [w103_c]))]:=(gdG w91_ok (gd1 w97_ok (gd1 w92_ok (gdG w98_ok (gd1 w103_ok goods_nil)))))
def w104_v:=envG tb gl w104_gs w104_c Tryz.f5
theorem w104_A:VK w104_v:=env_all tb_ok w104_gs
def w104_u0:Un:=lpU 2 [78,79,80,81,82,83,84,85,88,89,90,91,92,93,94,95,96,6,86,87,15] ⟨[0,13,14,15],⟨[.hole,.hole,.hole,.hole],[],[1,0,2,2],[.sl tSym,.sl (.cons (.int .i64) (.cons (.int .i64) (.one (.sl (.one (.int .i64)))))),.int .i64,.int .i64]⟩⟩ [((.exit 2),⟨[],⟨[],[],[],[]⟩⟩),(.ret,⟨[6],⟨[.hole],[],[2],[.bool]⟩⟩)] (lp law23_CnfAnds_L0 fuel)
theorem w104_u0_ok:UK w104_v (subC (bodyOf Tryz.f5) [1,1,1,1,1,1,1,0,1,0,0,1,0,0,1,1,0]) w104_u0:=lp_k .run hord w104_A ob0
def w104_u1:Un:=lpU 2 [58,59,60,61,64,65,66,67,68,69,70,71,72,73,74,75,76,77,6,15,78,79,80,81,82,83,84,85,88,89,90,91,92,93,94,95,96,6,86,87,15,62,63,14] ⟨[0,13,14],⟨[.hole,.hole,.hole],[],[1,0,2],[.sl tSym,.sl (.cons (.int .i64) (.cons (.int .i64) (.one (.sl (.one (.int .i64)))))),.int .i64]⟩⟩ [((.exit 0),⟨[],⟨[],[],[],[]⟩⟩),(.ret,⟨[6],⟨[.hole],[],[2],[.bool]⟩⟩)] (lp law23_CnfAnds_L1 fuel)
theorem w104_u1_ok:UK w104_v (subC (bodyOf Tryz.f5) [1,1,1,1,1,1,1,0,1,0]) w104_u1:=lp_k (.seq .run (.seq (.block (.seq .run (.seq .run (.block (.unit w104_u0))))) .run)) hord w104_A (ob1 w104_u0_ok ob0)
theorem w104_ok:SK 5 w104_c:=fn_k (.seq .run (.seq .run (.seq .run (.seq .run (.seq .run (.seq .run (.seq .run (.seq (.seq .run (.block (.unit w104_u1))) .run)))))))) [.tmp 6] tb_ok hord w104_gs Tryz.func5 (ob1 w104_u1_ok ob0)
end
end Go.Abs.Sn
