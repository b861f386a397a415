import Derived.Test.YtbgkkdmmddkdbaaGreatDoorFc
import Derived.Test.YtbgkkdmmddkdbaaGreatDoorQb
import Derived.Test.YtbgkkdmmddkdbaaGreatDoorXa
import Derived.Test.YtbgkkdmmddkdbaaGreatDoorProg
/-
 The functions make just that.
-/
namespace Go.Abs.Szg
open Go Go.Abs Go.Abs.Q Go.Proofs
set_option maxRecDepth 100000
noncomputable section
def tbl : List (Nat × TD) := [(3, .int .i64),
 (4, .bool),
 (9, .str),
 (22, .sl 104 tSym 40),
 (23, .sl 3 (.one (.int .i64)) 8),
 (24, .sl 43 tLit 32),
 (26, .sl 23 (.one (.sl (.one (.int .i64)))) 24),
 (28, .st [(24, 0), (26, 1), (24, 2)] 3),
 (38, .st [(3, 0), (23, 1)] 2),
 (43, .st [(4, 0), (23, 1)] 2),
 (59, .sl 28 (.cons (.sl tLit) (.cons (.sl (.one (.sl (.one (.int .i64))))) (.one (.sl tLit)))) 72),
 (75, .int .u64),
 (80, .sl 85 (.cons (.int .i64) (.cons (.int .i64) (.cons (.int .i64) (.cons (.int .i64) (.cons (.int .i64) (.cons (.int .i64) (.cons (.int .i64) (.cons (.sl tLit) (.cons (.sl (.one (.sl (.one (.int .i64))))) (.one (.sl tLit))))))))))) 128),
 (85, .st [(3, 0), (3, 1), (3, 2), (3, 3), (3, 4), (3, 5), (3, 6), (28, 7)] 10),
 (92, .sl 137 (.cons (.int .i64) (.one (.sl (.one (.int .i64))))) 32),
 (104, .st [(9, 0), (3, 1), (3, 2), (3, 3)] 4),
 (119, .sl 24 (.one (.sl tLit)) 24),
 (127, .st [(22, 0), (80, 1), (3, 2)] 3),
 (137, .st [(3, 0), (23, 1)] 2),
 (162, .arr 3 (.one (.int .i64)) 24),
 (172, .st [(23, 0), (3, 1)] 2),
 (173, .arr 172 (.cons (.ns (.one (.int .i64))) (.one (.int .i64))) 48),
 (175, .st [(22, 0), (173, 1)] 97),
 (179, .sl 26 (.one (.sl (.one (.sl (.one (.int .i64)))))) 24),
 (190, .sl 193 (.cons (.sl (.one (.int .i64))) (.cons (.int .i64) (.cons (.sl (.one (.int .i64))) (.one (.int .i64))))) 64),
 (193, .fa 172 2 2),
 (211, .arr 4 (.one .bool) 48),
 (212, .sl 172 (.cons (.sl (.one (.int .i64))) (.one (.int .i64))) 32)]
def tb : Tb := tbOf tbl
theorem tb_ok : TbOk Tryz.prog tb := tb_check (by kernel_rfl)
theorem hord : Tryz.prog.follows .mixedOrders = true := by kernel_rfl
def gl : Gl := fun q => cond (Nat.beq q 0) (some ⟨tSym, (([61], 0, 2, 1) : QSym)⟩) (none)
def w0_c : ShC := { inp := ⟨[], [], [], []⟩, out := ⟨[(.view 0)], [.seq false], [2], [.sl tSym]⟩, nres := 1, ms := [], mu := [], leak := false, glob := false, F := fun (x : Unit) => law13_words }
-- quaerelaw13.words
def w0_g : List (Nat × Con) := []
def w0_v : Env := envOf tb gl w0_g w0_c Tryz.f67.ntmps
theorem w0_gs : Goods Tryz.prog (cond w0_c.glob gl fun _ => none) w0_g := goods_nil
def w0_a : AC := .run
theorem w0_s (x : TupL w0_c.inp.hs) : E w0_v (bodyOf Tryz.f67) (w0_a) (w0_c.entry x) (retSK tb w0_v.fz w0_c [.tmp 0] x) = w0_c.F x := by kernel_rfl
theorem w0_ok : ShOk Tryz.prog gl 67 w0_c :=
 fn_ok (l := w0_g) (n := Tryz.f67.ntmps) (code := bodyOf Tryz.f67) (rts := [.tmp 0]) tb_ok hord (w0_gs) Tryz.func67 (by kernel_rfl) (by kernel_rfl) rfl (by kernel_rfl) (ac := w0_a) (ob := []) (by kernel_rfl) (fun X hX => obl_nil) (by kernel_rfl) (w0_s)
def w1_c : ShC := { inp := ⟨[.hole], [], [1], [.int .u8]⟩, out := ⟨[.hole], [], [2], [.bool]⟩, nres := 1, ms := [], mu := [], leak := false, glob := false, F := fun (x : Int) => sign_small x }
-- sign.small
def w1_g : List (Nat × Con) := []
def w1_v : Env := envOf tb gl w1_g w1_c Tryz.f156.ntmps
theorem w1_gs : Goods Tryz.prog (cond w1_c.glob gl fun _ => none) w1_g := goods_nil
def w1_a : AC := .run
theorem w1_s (x : TupL w1_c.inp.hs) : E w1_v (bodyOf Tryz.f156) (w1_a) (w1_c.entry x) (retSK tb w1_v.fz w1_c [.tmp 2] x) = w1_c.F x := by kernel_rfl
theorem w1_ok : ShOk Tryz.prog gl 156 w1_c :=
 fn_ok (l := w1_g) (n := Tryz.f156.ntmps) (code := bodyOf Tryz.f156) (rts := [.tmp 2]) tb_ok hord (w1_gs) Tryz.func156 (by kernel_rfl) (by kernel_rfl) rfl (by kernel_rfl) (ac := w1_a) (ob := []) (by kernel_rfl) (fun X hX => obl_nil) (by kernel_rfl) (w1_s)
def w2_c : ShC := { inp := ⟨[.hole], [], [1], [.str]⟩, out := ⟨[.hole], [], [2], [.bool]⟩, nres := 1, ms := [], mu := [], leak := false, glob := false, F := fun (x : Str) => sign_called x }
-- sign.called
def w2_g : List (Nat × Con) := [(156, .gen (altE [w1_c]))]
def w2_v : Env := envOf tb gl w2_g w2_c Tryz.f117.ntmps
theorem w2_gs : Goods Tryz.prog (cond w2_c.glob gl fun _ => none) w2_g := (goods_cons (good_alt (alls_cons (w1_ok.anyGl rfl) alls_nil)) goods_nil)
def w2_u0_h : SS := ⟨[0, 18, 19], ⟨[.hole, .hole, .hole], [], [2, 2, 2], [.str, .int .i64, .int .i64]⟩⟩
def w2_u0_e : Exs := [((.exit 0), ⟨[], ⟨[], [], [], []⟩⟩), (.ret, ⟨[2], ⟨[.hole], [], [2], [.bool]⟩⟩)]
def w2_u0_a : AC := .run
def w2_u0 : Un := lpU w2_v.fz [20, 21, 3, 22, 23, 24, 25, 26, 27, 28, 29, 30, 31, 32, 33, 34, 35, 36, 37, 38, 2, 39, 19] w2_u0_h w2_u0_e (lp sign_called_L0 fuel)
theorem w2_u0_s (f : w2_u0_h.X → Option (YT w2_u0_e)) (x : w2_u0_h.X) : E w2_v (subC (bodyOf Tryz.f117) [1, 1, 0, 1, 0, 0]) (w2_u0_a) (mkS w2_u0_h 8 x) (roundK w2_v.fz w2_u0_h w2_u0_e f) = sign_called_L0 f x := by kernel_rfl
theorem w2_u0_ok {X : Fx} (hX : VOk Tryz.prog X w2_v) : UnOk Tryz.prog X w2_v (subC (bodyOf Tryz.f117) [1, 1, 0, 1, 0]) w2_u0 :=
 lp_un' (c := (subC (bodyOf Tryz.f117) [1, 1, 0, 1, 0, 0])) (by kernel_rfl) (env_all tb_ok (w2_gs)) hord (ob := []) (by kernel_rfl) (fun X hX => obl_nil) (w2_u0_s) (by kernel_rfl) (by kernel_rfl) hX
def w2_a : AC := (.seq .run (.seq .run (.seq (.seq .run (.block (.unit w2_u0))) .run)))
theorem w2_s (x : TupL w2_c.inp.hs) : E w2_v (bodyOf Tryz.f117) (w2_a) (w2_c.entry x) (retSK tb w2_v.fz w2_c [.tmp 2] x) = w2_c.F x := by kernel_rfl
theorem w2_ok : ShOk Tryz.prog gl 117 w2_c :=
 fn_ok (l := w2_g) (n := Tryz.f117.ntmps) (code := bodyOf Tryz.f117) (rts := [.tmp 2]) tb_ok hord (w2_gs) Tryz.func117 (by kernel_rfl) (by kernel_rfl) rfl (by kernel_rfl) (ac := w2_a) (ob := [((subC (bodyOf Tryz.f117) [1, 1, 0, 1, 0]), w2_u0)]) (by kernel_rfl) (fun X hX => (obl_cons (w2_u0_ok hX) obl_nil)) (by kernel_rfl) (w2_s)
def w3_c : ShC := { inp := ⟨[(.agg [.hole, .hole, .hole, .hole])], [], [1, 1, 1, 1], [.str, .int .i64, .int .i64, .int .i64]⟩, out := ⟨[.hole], [], [2], [.bool]⟩, nres := 1, ms := [], mu := [], leak := false, glob := false, F := fun (x : QSym) => sign_SymMay x.1 x.2.1 x.2.2.1 x.2.2.2 }
-- sign.SymMay
def w3_g : List (Nat × Con) := [(117, .gen (altE [w2_c]))]
def w3_v : Env := envOf tb gl w3_g w3_c Tryz.f77.ntmps
theorem w3_gs : Goods Tryz.prog (cond w3_c.glob gl fun _ => none) w3_g := (goods_cons (good_alt (alls_cons (w2_ok.anyGl rfl) alls_nil)) goods_nil)
def w3_a : AC := .run
theorem w3_s (x : TupL w3_c.inp.hs) : E w3_v (bodyOf Tryz.f77) (w3_a) (w3_c.entry x) (retSK tb w3_v.fz w3_c [.tmp 2] x) = w3_c.F x := by kernel_rfl
theorem w3_ok : ShOk Tryz.prog gl 77 w3_c :=
 fn_ok (l := w3_g) (n := Tryz.f77.ntmps) (code := bodyOf Tryz.f77) (rts := [.tmp 2]) tb_ok hord (w3_gs) Tryz.func77 (by kernel_rfl) (by kernel_rfl) rfl (by kernel_rfl) (ac := w3_a) (ob := []) (by kernel_rfl) (fun X hX => obl_nil) (by kernel_rfl) (w3_s)
def w4_c : ShC := { inp := ⟨[.hole, .hole], [], [1, 1], [.sl tSym, .str]⟩, out := ⟨[.hole], [], [2], [.int .i64]⟩, nres := 1, ms := [], mu := [], leak := false, glob := false, F := fun (x : ((List QSym) × Str)) => sign_find x.1 x.2 }
-- sign.find
def w4_g : List (Nat × Con) := []
def w4_v : Env := envOf tb gl w4_g w4_c Tryz.f78.ntmps
theorem w4_gs : Goods Tryz.prog (cond w4_c.glob gl fun _ => none) w4_g := goods_nil
def w4_u0_h : SS := ⟨[0, 1, 7, 8], ⟨[.hole, .hole, .hole, .hole], [], [1, 2, 2, 2], [.sl tSym, .str, .int .i64, .int .i64]⟩⟩
def w4_u0_e : Exs := [((.exit 0), ⟨[], ⟨[], [], [], []⟩⟩), (.ret, ⟨[4], ⟨[.hole], [], [2], [.int .i64]⟩⟩)]
def w4_u0_a : AC := .run
def w4_u0 : Un := lpU w4_v.fz [9, 10, 5, 11, 12, 13, 14, 15, 16, 17, 18, 4, 19, 8] w4_u0_h w4_u0_e (lp sign_find_L0 fuel)
theorem w4_u0_s (f : w4_u0_h.X → Option (YT w4_u0_e)) (x : w4_u0_h.X) : E w4_v (subC (bodyOf Tryz.f78) [1, 0, 1, 0, 0]) (w4_u0_a) (mkS w4_u0_h 8 x) (roundK w4_v.fz w4_u0_h w4_u0_e f) = sign_find_L0 f x := by kernel_rfl
theorem w4_u0_ok {X : Fx} (hX : VOk Tryz.prog X w4_v) : UnOk Tryz.prog X w4_v (subC (bodyOf Tryz.f78) [1, 0, 1, 0]) w4_u0 :=
 lp_un' (c := (subC (bodyOf Tryz.f78) [1, 0, 1, 0, 0])) (by kernel_rfl) (env_all tb_ok (w4_gs)) hord (ob := []) (by kernel_rfl) (fun X hX => obl_nil) (w4_u0_s) (by kernel_rfl) (by kernel_rfl) hX
def w4_a : AC := (.seq .run (.seq (.seq .run (.block (.unit w4_u0))) .run))
theorem w4_s (x : TupL w4_c.inp.hs) : E w4_v (bodyOf Tryz.f78) (w4_a) (w4_c.entry x) (retSK tb w4_v.fz w4_c [.tmp 4] x) = w4_c.F x := by kernel_rfl
theorem w4_ok : ShOk Tryz.prog gl 78 w4_c :=
 fn_ok (l := w4_g) (n := Tryz.f78.ntmps) (code := bodyOf Tryz.f78) (rts := [.tmp 4]) tb_ok hord (w4_gs) Tryz.func78 (by kernel_rfl) (by kernel_rfl) rfl (by kernel_rfl) (ac := w4_a) (ob := [((subC (bodyOf Tryz.f78) [1, 0, 1, 0]), w4_u0)]) (by kernel_rfl) (fun X hX => (obl_cons (w4_u0_ok hX) obl_nil)) (by kernel_rfl) (w4_s)
def w5_c : ShC := { inp := ⟨[.hole], [], [1], [.sl tSym]⟩, out := ⟨[.hole], [], [2], [.bool]⟩, nres := 1, ms := [], mu := [], leak := false, glob := true, F := fun (x : (List QSym)) => sign_May x }
-- sign.May
def w5_g : List (Nat × Con) := [(77, .gen (altE [w3_c])), (78, .gen (altE [w4_c]))]
def w5_v : Env := envOf tb gl w5_g w5_c Tryz.f32.ntmps
theorem w5_gs : Goods Tryz.prog (cond w5_c.glob gl fun _ => none) w5_g := (goods_cons (good_alt (alls_cons (w3_ok.anyGl rfl) alls_nil)) (goods_cons (good_alt (alls_cons (w4_ok.anyGl rfl) alls_nil)) goods_nil))
def w5_u0_h : SS := ⟨[0, 3], ⟨[.hole, .hole], [], [1, 2], [.sl tSym, .int .i64]⟩⟩
def w5_u0_e : Exs := [((.exit 0), ⟨[], ⟨[], [], [], []⟩⟩), (.ret, ⟨[2], ⟨[.hole], [], [2], [.bool]⟩⟩)]
def w5_u0_a : AC := .run
def w5_u0 : Un := lpU w5_v.fz [19, 20, 21, 22, 25, 26, 27, 28, 29, 30, 31, 32, 33, 34, 35, 36, 37, 38, 39, 40, 41, 2, 23, 24, 3] w5_u0_h w5_u0_e (lp sign_May_L0 fuel)
theorem w5_u0_s (f : w5_u0_h.X → Option (YT w5_u0_e)) (x : w5_u0_h.X) : E w5_v (subC (bodyOf Tryz.f32) [1, 1, 0, 1, 0, 0]) (w5_u0_a) (mkS w5_u0_h 8 x) (roundK w5_v.fz w5_u0_h w5_u0_e f) = sign_May_L0 f x := by kernel_rfl
theorem w5_u0_ok {X : Fx} (hX : VOk Tryz.prog X w5_v) : UnOk Tryz.prog X w5_v (subC (bodyOf Tryz.f32) [1, 1, 0, 1, 0]) w5_u0 :=
 lp_un' (c := (subC (bodyOf Tryz.f32) [1, 1, 0, 1, 0, 0])) (by kernel_rfl) (env_all tb_ok (w5_gs)) hord (ob := []) (by kernel_rfl) (fun X hX => obl_nil) (w5_u0_s) (by kernel_rfl) (by kernel_rfl) hX
def w5_a : AC := (.seq .run (.seq .run (.seq (.seq .run (.block (.unit w5_u0))) .run)))
theorem w5_s (x : TupL w5_c.inp.hs) : E w5_v (bodyOf Tryz.f32) (w5_a) (w5_c.entry x) (retSK tb w5_v.fz w5_c [.tmp 2] x) = w5_c.F x := by kernel_rfl
theorem w5_ok : ShOk Tryz.prog gl 32 w5_c :=
 fn_ok (l := w5_g) (n := Tryz.f32.ntmps) (code := bodyOf Tryz.f32) (rts := [.tmp 2]) tb_ok hord (w5_gs) Tryz.func32 (by kernel_rfl) (by kernel_rfl) rfl (by kernel_rfl) (ac := w5_a) (ob := [((subC (bodyOf Tryz.f32) [1, 1, 0, 1, 0]), w5_u0)]) (by kernel_rfl) (fun X hX => (obl_cons (w5_u0_ok hX) obl_nil)) (by kernel_rfl) (w5_s)
def w6_c : ShC := { inp := ⟨[.hole], [], [1], [.int .i64]⟩, out := ⟨[.hole], [], [2], [.int .i64]⟩, nres := 1, ms := [], mu := [], leak := false, glob := false, F := fun (x : Int) => term_Number x }
-- term.Number
def w6_g : List (Nat × Con) := []
def w6_v : Env := envOf tb gl w6_g w6_c Tryz.f35.ntmps
theorem w6_gs : Goods Tryz.prog (cond w6_c.glob gl fun _ => none) w6_g := goods_nil
def w6_a : AC := .run
theorem w6_s (x : TupL w6_c.inp.hs) : E w6_v (bodyOf Tryz.f35) (w6_a) (w6_c.entry x) (retSK tb w6_v.fz w6_c [.tmp 2] x) = w6_c.F x := by kernel_rfl
theorem w6_ok : ShOk Tryz.prog gl 35 w6_c :=
 fn_ok (l := w6_g) (n := Tryz.f35.ntmps) (code := bodyOf Tryz.f35) (rts := [.tmp 2]) tb_ok hord (w6_gs) Tryz.func35 (by kernel_rfl) (by kernel_rfl) rfl (by kernel_rfl) (ac := w6_a) (ob := []) (by kernel_rfl) (fun X hX => obl_nil) (by kernel_rfl) (w6_s)
def w7_c : ShC := { inp := ⟨[.hole, .hole], [], [1, 1], [.sl tSym, .int .i64]⟩, out := ⟨[.hole, .hole], [], [2, 2], [.int .i64, .bool]⟩, nres := 2, ms := [], mu := [], leak := false, glob := false, F := fun (x : ((List QSym) × Int)) => term_args x.1 x.2 }
-- term.args
def w7_g : List (Nat × Con) := [(35, .gen (altE [w6_c]))]
def w7_v : Env := envOf tb gl w7_g w7_c Tryz.f174.ntmps
theorem w7_gs : Goods Tryz.prog (cond w7_c.glob gl fun _ => none) w7_g := (goods_cons (good_alt (alls_cons (w6_ok.anyGl rfl) alls_nil)) goods_nil)
def w7_a : AC := .run
theorem w7_s (x : TupL w7_c.inp.hs) : E w7_v (bodyOf Tryz.f174) (w7_a) (w7_c.entry x) (retSK tb w7_v.fz w7_c [.tmp 4, .tmp 5] x) = w7_c.F x := by kernel_rfl
theorem w7_ok : ShOk Tryz.prog gl 174 w7_c :=
 fn_ok (l := w7_g) (n := Tryz.f174.ntmps) (code := bodyOf Tryz.f174) (rts := [.tmp 4, .tmp 5]) tb_ok hord (w7_gs) Tryz.func174 (by kernel_rfl) (by kernel_rfl) rfl (by kernel_rfl) (ac := w7_a) (ob := []) (by kernel_rfl) (fun X hX => obl_nil) (by kernel_rfl) (w7_s)
def w8_c : ShC := { inp := ⟨[.hole, .hole, .hole], [], [1, 1, 1], [.sl tSym, .sl (.one (.int .i64)), .int .i64]⟩, out := ⟨[.hole, .hole], [], [2, 2], [.int .i64, .bool]⟩, nres := 2, ms := [], mu := [], leak := false, glob := false, F := fun (x : ((List QSym) × (List Int) × Int)) => term_Skip x.1 x.2.1 x.2.2 }
-- term.Skip
def w8_g : List (Nat × Con) := [(174, .gen (altE [w7_c]))]
def w8_v : Env := envOf tb gl w8_g w8_c Tryz.f151.ntmps
theorem w8_gs : Goods Tryz.prog (cond w8_c.glob gl fun _ => none) w8_g := (goods_cons (good_alt (alls_cons (w7_ok.anyGl rfl) alls_nil)) goods_nil)
def w8_u0_j : Exs := [(.goto 0, ⟨[0, 1, 2, 8], ⟨[.hole, .hole, .hole, .hole], [], [1, 1, 2, 2], [.sl tSym, .sl (.one (.int .i64)), .int .i64, .int .i64]⟩⟩)]
def w8_u0_e : Exs := [(.ret, ⟨[6, 7], ⟨[.hole, .hole], [], [2, 2], [.int .i64, .bool]⟩⟩)]
def w8_u0_a : AC := .run
def w8_u0_l : List (Nat × AC) := []
def w8_u0 : Un := scU w8_v [8, 11, 12, 13, 14, 6, 7, 16, 17, 18, 19, 20, 21, 15, 22, 23, 9, 10, 24, 25, 6, 7, 26, 27, 2, 28, 29, 30, 31, 8, 32, 33, 34, 6, 7] w8_u0_j w8_u0_e (subC (bodyOf Tryz.f151) [1, 0]) (w8_u0_a) (lp term_Skip_L0 fuel)
theorem w8_u0_s (f : YT w8_u0_j → Option (YT w8_u0_e)) (x : YT w8_u0_j) : passE w8_v (subC (bodyOf Tryz.f151) [1, 0]) (acsOf (w8_u0_l)) w8_u0_j w8_u0_e f x = term_Skip_L0 f x := by kernel_rfl
theorem w8_u0_ok {X : Fx} (hX : VOk Tryz.prog X w8_v) : UnOk Tryz.prog X w8_v (subC (bodyOf Tryz.f151) [1]) w8_u0 :=
 sc_un' (c := (subC (bodyOf Tryz.f151) [1, 0])) (by kernel_rfl) (env_all tb_ok (w8_gs)) hord (ob := []) (by kernel_rfl) (fun X hX => obl_nil) (fun X hX => acs_ok acl_nil) (w8_u0_s) (by kernel_rfl) (by kernel_rfl) (by kernel_rfl) hX
def w8_a : AC := (.seq .run (.unit w8_u0))
theorem w8_s (x : TupL w8_c.inp.hs) : E w8_v (bodyOf Tryz.f151) (w8_a) (w8_c.entry x) (retSK tb w8_v.fz w8_c [.tmp 6, .tmp 7] x) = w8_c.F x := by kernel_rfl
theorem w8_ok : ShOk Tryz.prog gl 151 w8_c :=
 fn_ok (l := w8_g) (n := Tryz.f151.ntmps) (code := bodyOf Tryz.f151) (rts := [.tmp 6, .tmp 7]) tb_ok hord (w8_gs) Tryz.func151 (by kernel_rfl) (by kernel_rfl) rfl (by kernel_rfl) (ac := w8_a) (ob := [((subC (bodyOf Tryz.f151) [1]), w8_u0)]) (by kernel_rfl) (fun X hX => (obl_cons (w8_u0_ok hX) obl_nil)) (by kernel_rfl) (w8_s)
def w9_c : ShC := { inp := ⟨[.hole, .hole], [], [1, 1], [.sl tSym, .sl (.one (.int .i64))]⟩, out := ⟨[(.view 0), .hole], [.seq false], [2, 2], [.bool, .sl (.one (.int .i64))]⟩, nres := 2, ms := [], mu := [], leak := false, glob := true, F := fun (x : ((List QSym) × (List Int))) => term_begins x.1 x.2 }
-- term.begins
def w9_g : List (Nat × Con) := [(32, .gen (altE [w5_c])), (151, .gen (altE [w8_c]))]
def w9_v : Env := envOf tb gl w9_g w9_c Tryz.f125.ntmps
theorem w9_gs : Goods Tryz.prog (cond w9_c.glob gl fun _ => none) w9_g := (goods_cons (good_alt (alls_cons w5_ok alls_nil)) (goods_cons (good_alt (alls_cons (w8_ok.anyGl rfl) alls_nil)) goods_nil))
def w9_u0_j : Exs := [(.goto 0, ⟨[0, 1, 6, 7], ⟨[.hole, .hole, (.view 0), .hole], [.seq false], [1, 1, 2, 2], [.sl tSym, .sl (.one (.int .i64)), .int .i64, .sl (.one (.int .i64))]⟩⟩)]
def w9_u0_e : Exs := [(.ret, ⟨[4, 5], ⟨[(.view 0), .hole], [.seq false], [2, 2], [.bool, .sl (.one (.int .i64))]⟩⟩)]
def w9_u0_a : AC := .run
def w9_u0_l : List (Nat × AC) := []
def w9_u0 : Un := scU w9_v [10, 11, 12, 13, 14, 15, 16, 17, 4, 5, 6, 7, 18, 19, 20, 21, 22, 4, 5, 24, 25, 26, 27, 23, 28, 29, 8, 9, 30, 31, 4, 5, 32, 33, 34, 35, 6, 36, 7] w9_u0_j w9_u0_e (subC (bodyOf Tryz.f125) [1, 0]) (w9_u0_a) (lp term_begins_L0 fuel)
theorem w9_u0_s (f : YT w9_u0_j → Option (YT w9_u0_e)) (x : YT w9_u0_j) : passE w9_v (subC (bodyOf Tryz.f125) [1, 0]) (acsOf (w9_u0_l)) w9_u0_j w9_u0_e f x = term_begins_L0 f x := by kernel_rfl
theorem w9_u0_ok {X : Fx} (hX : VOk Tryz.prog X w9_v) : UnOk Tryz.prog X w9_v (subC (bodyOf Tryz.f125) [1]) w9_u0 :=
 sc_un' (c := (subC (bodyOf Tryz.f125) [1, 0])) (by kernel_rfl) (env_all tb_ok (w9_gs)) hord (ob := []) (by kernel_rfl) (fun X hX => obl_nil) (fun X hX => acs_ok acl_nil) (w9_u0_s) (by kernel_rfl) (by kernel_rfl) (by kernel_rfl) hX
def w9_a : AC := (.seq .run (.unit w9_u0))
theorem w9_s (x : TupL w9_c.inp.hs) : E w9_v (bodyOf Tryz.f125) (w9_a) (w9_c.entry x) (retSK tb w9_v.fz w9_c [.tmp 4, .tmp 5] x) = w9_c.F x := by kernel_rfl
theorem w9_ok : ShOk Tryz.prog gl 125 w9_c :=
 fn_ok (l := w9_g) (n := Tryz.f125.ntmps) (code := bodyOf Tryz.f125) (rts := [.tmp 4, .tmp 5]) tb_ok hord (w9_gs) Tryz.func125 (by kernel_rfl) (by kernel_rfl) rfl (by kernel_rfl) (ac := w9_a) (ob := [((subC (bodyOf Tryz.f125) [1]), w9_u0)]) (by kernel_rfl) (fun X hX => (obl_cons (w9_u0_ok hX) obl_nil)) (by kernel_rfl) (w9_s)
def w10_c : ShC := { inp := ⟨[.hole, .hole], [], [1, 1], [.sl tSym, .sl (.one (.int .i64))]⟩, out := ⟨[.hole], [], [2], [.bool]⟩, nres := 1, ms := [], mu := [], leak := false, glob := true, F := fun (x : ((List QSym) × (List Int))) => term_IsAtom x.1 x.2 }
-- term.IsAtom
def w10_g : List (Nat × Con) := [(125, .gen (altE [w9_c]))]
def w10_v : Env := envOf tb gl w10_g w10_c Tryz.f124.ntmps
theorem w10_gs : Goods Tryz.prog (cond w10_c.glob gl fun _ => none) w10_g := (goods_cons (good_alt (alls_cons w9_ok alls_nil)) goods_nil)
def w10_a : AC := .run
theorem w10_s (x : TupL w10_c.inp.hs) : E w10_v (bodyOf Tryz.f124) (w10_a) (w10_c.entry x) (retSK tb w10_v.fz w10_c [.tmp 4] x) = w10_c.F x := by kernel_rfl
theorem w10_ok : ShOk Tryz.prog gl 124 w10_c :=
 fn_ok (l := w10_g) (n := Tryz.f124.ntmps) (code := bodyOf Tryz.f124) (rts := [.tmp 4]) tb_ok hord (w10_gs) Tryz.func124 (by kernel_rfl) (by kernel_rfl) rfl (by kernel_rfl) (ac := w10_a) (ob := []) (by kernel_rfl) (fun X hX => obl_nil) (by kernel_rfl) (w10_s)
def w11_c : ShC := { inp := ⟨[.hole, (.agg [.hole, .hole])], [], [1, 1, 1], [.sl tSym, .bool, .sl (.one (.int .i64))]⟩, out := ⟨[.hole], [], [2], [.bool]⟩, nres := 1, ms := [], mu := [], leak := false, glob := true, F := fun (x : ((List QSym) × Bool × (List Int))) => lit_May x.1 x.2.1 x.2.2 }
-- lit.May
def w11_g : List (Nat × Con) := [(124, .gen (altE [w10_c]))]
def w11_v : Env := envOf tb gl w11_g w11_c Tryz.f82.ntmps
theorem w11_gs : Goods Tryz.prog (cond w11_c.glob gl fun _ => none) w11_g := (goods_cons (good_alt (alls_cons w10_ok alls_nil)) goods_nil)
def w11_a : AC := .run
theorem w11_s (x : TupL w11_c.inp.hs) : E w11_v (bodyOf Tryz.f82) (w11_a) (w11_c.entry x) (retSK tb w11_v.fz w11_c [.tmp 4] x) = w11_c.F x := by kernel_rfl
theorem w11_ok : ShOk Tryz.prog gl 82 w11_c :=
 fn_ok (l := w11_g) (n := Tryz.f82.ntmps) (code := bodyOf Tryz.f82) (rts := [.tmp 4]) tb_ok hord (w11_gs) Tryz.func82 (by kernel_rfl) (by kernel_rfl) rfl (by kernel_rfl) (ac := w11_a) (ob := []) (by kernel_rfl) (fun X hX => obl_nil) (by kernel_rfl) (w11_s)
def w12_c : ShC := { inp := ⟨[.hole, .hole], [], [1, 1], [.sl tSym, .sl tLit]⟩, out := ⟨[.hole, .hole], [], [2, 2], [.int .i64, .bool]⟩, nres := 2, ms := [], mu := [], leak := false, glob := true, F := fun (x : ((List QSym) × (List QLit))) => clause_litsMay x.1 x.2 }
-- clause.litsMay
def w12_g : List (Nat × Con) := [(82, .gen (altE [w11_c]))]
def w12_v : Env := envOf tb gl w12_g w12_c Tryz.f37.ntmps
theorem w12_gs : Goods Tryz.prog (cond w12_c.glob gl fun _ => none) w12_g := (goods_cons (good_alt (alls_cons w11_ok alls_nil)) goods_nil)
def w12_u0_h : SS := ⟨[0, 6, 9, 10, 11], ⟨[.hole, .hole, .hole, .hole, .hole], [], [1, 2, 1, 2, 2], [.sl tSym, .int .i64, .sl tLit, .int .i64, .int .i64]⟩⟩
def w12_u0_e : Exs := [((.exit 0), ⟨[6], ⟨[.hole], [], [2], [.int .i64]⟩⟩), (.ret, ⟨[4, 5], ⟨[.hole, .hole], [], [2, 2], [.int .i64, .bool]⟩⟩)]
def w12_u0_a : AC := .run
def w12_u0 : Un := lpU w12_v.fz [12, 13, 14, 8, 15, 16, 17, 18, 4, 5, 19, 20, 21, 22, 23, 6, 24, 11] w12_u0_h w12_u0_e (lp clause_litsMay_L0 fuel)
theorem w12_u0_s (f : w12_u0_h.X → Option (YT w12_u0_e)) (x : w12_u0_h.X) : E w12_v (subC (bodyOf Tryz.f37) [1, 1, 0, 1, 0, 0]) (w12_u0_a) (mkS w12_u0_h 8 x) (roundK w12_v.fz w12_u0_h w12_u0_e f) = clause_litsMay_L0 f x := by kernel_rfl
theorem w12_u0_ok {X : Fx} (hX : VOk Tryz.prog X w12_v) : UnOk Tryz.prog X w12_v (subC (bodyOf Tryz.f37) [1, 1, 0, 1, 0]) w12_u0 :=
 lp_un' (c := (subC (bodyOf Tryz.f37) [1, 1, 0, 1, 0, 0])) (by kernel_rfl) (env_all tb_ok (w12_gs)) hord (ob := []) (by kernel_rfl) (fun X hX => obl_nil) (w12_u0_s) (by kernel_rfl) (by kernel_rfl) hX
def w12_a : AC := (.seq .run (.seq .run (.seq (.seq .run (.block (.unit w12_u0))) .run)))
theorem w12_s (x : TupL w12_c.inp.hs) : E w12_v (bodyOf Tryz.f37) (w12_a) (w12_c.entry x) (retSK tb w12_v.fz w12_c [.tmp 4, .tmp 5] x) = w12_c.F x := by kernel_rfl
theorem w12_ok : ShOk Tryz.prog gl 37 w12_c :=
 fn_ok (l := w12_g) (n := Tryz.f37.ntmps) (code := bodyOf Tryz.f37) (rts := [.tmp 4, .tmp 5]) tb_ok hord (w12_gs) Tryz.func37 (by kernel_rfl) (by kernel_rfl) rfl (by kernel_rfl) (ac := w12_a) (ob := [((subC (bodyOf Tryz.f37) [1, 1, 0, 1, 0]), w12_u0)]) (by kernel_rfl) (fun X hX => (obl_cons (w12_u0_ok hX) obl_nil)) (by kernel_rfl) (w12_s)
def w13_c : ShC := { inp := ⟨[.hole, .hole], [], [1, 1], [.sl tSym, .sl (.one (.int .i64))]⟩, out := ⟨[.hole, .hole], [], [2, 2], [.int .i64, .int .i64]⟩, nres := 2, ms := [], mu := [], leak := false, glob := true, F := fun (x : ((List QSym) × (List Int))) => term_Row x.1 x.2 }
-- term.Row
def w13_g : List (Nat × Con) := [(125, .gen (altE [w9_c]))]
def w13_v : Env := envOf tb gl w13_g w13_c Tryz.f83.ntmps
theorem w13_gs : Goods Tryz.prog (cond w13_c.glob gl fun _ => none) w13_g := (goods_cons (good_alt (alls_cons w9_ok alls_nil)) goods_nil)
def w13_a : AC := .run
theorem w13_s (x : TupL w13_c.inp.hs) : E w13_v (bodyOf Tryz.f83) (w13_a) (w13_c.entry x) (retSK tb w13_v.fz w13_c [.tmp 4, .tmp 5] x) = w13_c.F x := by kernel_rfl
theorem w13_ok : ShOk Tryz.prog gl 83 w13_c :=
 fn_ok (l := w13_g) (n := Tryz.f83.ntmps) (code := bodyOf Tryz.f83) (rts := [.tmp 4, .tmp 5]) tb_ok hord (w13_gs) Tryz.func83 (by kernel_rfl) (by kernel_rfl) rfl (by kernel_rfl) (ac := w13_a) (ob := []) (by kernel_rfl) (fun X hX => obl_nil) (by kernel_rfl) (w13_s)
def w14_c : ShC := { inp := ⟨[.hole, .hole], [], [1, 1], [.sl tSym, .sl (.one (.sl (.one (.int .i64))))]⟩, out := ⟨[.hole, .hole], [], [2, 2], [.int .i64, .bool]⟩, nres := 2, ms := [], mu := [], leak := false, glob := true, F := fun (x : ((List QSym) × (List (List Int)))) => clause_rowsMay x.1 x.2 }
-- clause.rowsMay
def w14_g : List (Nat × Con) := [(83, .gen (altE [w13_c]))]
def w14_v : Env := envOf tb gl w14_g w14_c Tryz.f38.ntmps
theorem w14_gs : Goods Tryz.prog (cond w14_c.glob gl fun _ => none) w14_g := (goods_cons (good_alt (alls_cons w13_ok alls_nil)) goods_nil)
def w14_u0_h : SS := ⟨[0, 6, 7, 12, 13, 14], ⟨[.hole, .hole, .hole, .hole, .hole, .hole], [], [1, 2, 2, 1, 2, 2], [.sl tSym, .int .i64, .int .i64, .sl (.one (.sl (.one (.int .i64)))), .int .i64, .int .i64]⟩⟩
def w14_u0_e : Exs := [((.exit 0), ⟨[6], ⟨[.hole], [], [2], [.int .i64]⟩⟩), (.ret, ⟨[4, 5], ⟨[.hole, .hole], [], [2, 2], [.int .i64, .bool]⟩⟩)]
def w14_u0_a : AC := .run
def w14_u0 : Un := lpU w14_v.fz [15, 16, 17, 18, 8, 9, 20, 21, 22, 19, 23, 24, 10, 11, 25, 26, 27, 7, 28, 29, 30, 31, 32, 33, 34, 4, 5, 35, 36, 37, 38, 6, 39, 14] w14_u0_h w14_u0_e (lp clause_rowsMay_L0 fuel)
theorem w14_u0_s (f : w14_u0_h.X → Option (YT w14_u0_e)) (x : w14_u0_h.X) : E w14_v (subC (bodyOf Tryz.f38) [1, 1, 0, 1, 0, 0]) (w14_u0_a) (mkS w14_u0_h 8 x) (roundK w14_v.fz w14_u0_h w14_u0_e f) = clause_rowsMay_L0 f x := by kernel_rfl
theorem w14_u0_ok {X : Fx} (hX : VOk Tryz.prog X w14_v) : UnOk Tryz.prog X w14_v (subC (bodyOf Tryz.f38) [1, 1, 0, 1, 0]) w14_u0 :=
 lp_un' (c := (subC (bodyOf Tryz.f38) [1, 1, 0, 1, 0, 0])) (by kernel_rfl) (env_all tb_ok (w14_gs)) hord (ob := []) (by kernel_rfl) (fun X hX => obl_nil) (w14_u0_s) (by kernel_rfl) (by kernel_rfl) hX
def w14_a : AC := (.seq .run (.seq .run (.seq (.seq .run (.block (.unit w14_u0))) .run)))
theorem w14_s (x : TupL w14_c.inp.hs) : E w14_v (bodyOf Tryz.f38) (w14_a) (w14_c.entry x) (retSK tb w14_v.fz w14_c [.tmp 4, .tmp 5] x) = w14_c.F x := by kernel_rfl
theorem w14_ok : ShOk Tryz.prog gl 38 w14_c :=
 fn_ok (l := w14_g) (n := Tryz.f38.ntmps) (code := bodyOf Tryz.f38) (rts := [.tmp 4, .tmp 5]) tb_ok hord (w14_gs) Tryz.func38 (by kernel_rfl) (by kernel_rfl) rfl (by kernel_rfl) (ac := w14_a) (ob := [((subC (bodyOf Tryz.f38) [1, 1, 0, 1, 0]), w14_u0)]) (by kernel_rfl) (fun X hX => (obl_cons (w14_u0_ok hX) obl_nil)) (by kernel_rfl) (w14_s)
def w15_c : ShC := { inp := ⟨[.hole, (.agg [.hole, .hole, .hole])], [], [1, 1, 1, 1], [.sl tSym, .sl tLit, .sl (.one (.sl (.one (.int .i64)))), .sl tLit]⟩, out := ⟨[.hole], [], [2], [.bool]⟩, nres := 1, ms := [], mu := [], leak := false, glob := true, F := fun (x : ((List QSym) × (List QLit) × (List (List Int)) × (List QLit))) => clause_May x.1 x.2.1 x.2.2.1 x.2.2.2 }
-- clause.May
def w15_g : List (Nat × Con) := [(32, .gen (altE [w5_c])), (37, .gen (altE [w12_c])), (38, .gen (altE [w14_c]))]
def w15_v : Env := envOf tb gl w15_g w15_c Tryz.f10.ntmps
theorem w15_gs : Goods Tryz.prog (cond w15_c.glob gl fun _ => none) w15_g := (goods_cons (good_alt (alls_cons w5_ok alls_nil)) (goods_cons (good_alt (alls_cons w12_ok alls_nil)) (goods_cons (good_alt (alls_cons w14_ok alls_nil)) goods_nil)))
def w15_a : AC := .run
theorem w15_s (x : TupL w15_c.inp.hs) : E w15_v (bodyOf Tryz.f10) (w15_a) (w15_c.entry x) (retSK tb w15_v.fz w15_c [.tmp 4] x) = w15_c.F x := by kernel_rfl
theorem w15_ok : ShOk Tryz.prog gl 10 w15_c :=
 fn_ok (l := w15_g) (n := Tryz.f10.ntmps) (code := bodyOf Tryz.f10) (rts := [.tmp 4]) tb_ok hord (w15_gs) Tryz.func10 (by kernel_rfl) (by kernel_rfl) rfl (by kernel_rfl) (ac := w15_a) (ob := []) (by kernel_rfl) (fun X hX => obl_nil) (by kernel_rfl) (w15_s)
def w16_c : ShC := { inp := ⟨[(.agg [.hole, .hole, .hole]), .hole], [], [1, 1, 1, 1], [.sl tLit, .sl (.one (.sl (.one (.int .i64)))), .sl tLit, .int .i64]⟩, out := ⟨[.hole], [], [2], [.bool]⟩, nres := 1, ms := [], mu := [], leak := false, glob := false, F := fun (x : ((List QLit) × (List (List Int)) × (List QLit) × Int)) => resolve_place x.1 x.2.1 x.2.2.1 x.2.2.2 }
-- resolve.place
def w16_g : List (Nat × Con) := []
def w16_v : Env := envOf tb gl w16_g w16_c Tryz.f54.ntmps
theorem w16_gs : Goods Tryz.prog (cond w16_c.glob gl fun _ => none) w16_g := goods_nil
def w16_a : AC := .run
theorem w16_s (x : TupL w16_c.inp.hs) : E w16_v (bodyOf Tryz.f54) (w16_a) (w16_c.entry x) (retSK tb w16_v.fz w16_c [.tmp 4] x) = w16_c.F x := by kernel_rfl
theorem w16_ok : ShOk Tryz.prog gl 54 w16_c :=
 fn_ok (l := w16_g) (n := Tryz.f54.ntmps) (code := bodyOf Tryz.f54) (rts := [.tmp 4]) tb_ok hord (w16_gs) Tryz.func54 (by kernel_rfl) (by kernel_rfl) rfl (by kernel_rfl) (ac := w16_a) (ob := []) (by kernel_rfl) (fun X hX => obl_nil) (by kernel_rfl) (w16_s)
def w17_c : ShC := { inp := ⟨[.nilv, .hole], [], [1], [.int .i64]⟩, out := ⟨[(.view 0)], [.seq false], [2], [.sl tLit]⟩, nres := 1, ms := [], mu := [], leak := false, glob := false, F := fun (x : Int) => slices_Grow_1 x }
-- slices.Grow[[]api.Lit,api.Lit]
def w17_g : List (Nat × Con) := [(1000025, .gen (altE []))]
def w17_v : Env := envOf tb gl w17_g w17_c Tryz.f84.ntmps
theorem w17_gs : Goods Tryz.prog (cond w17_c.glob gl fun _ => none) w17_g := (goods_cons (good_alt alls_nil) goods_nil)
def w17_a : AC := .run
theorem w17_s (x : TupL w17_c.inp.hs) : E w17_v (bodyOf Tryz.f84) (w17_a) (w17_c.entry x) (retSK tb w17_v.fz w17_c [.tmp 4] x) = w17_c.F x := by kernel_rfl
theorem w17_ok : ShOk Tryz.prog gl 84 w17_c :=
 fn_ok (l := w17_g) (n := Tryz.f84.ntmps) (code := bodyOf Tryz.f84) (rts := [.tmp 4]) tb_ok hord (w17_gs) Tryz.func84 (by kernel_rfl) (by kernel_rfl) rfl (by kernel_rfl) (ac := w17_a) (ob := []) (by kernel_rfl) (fun X hX => obl_nil) (by kernel_rfl) (w17_s)
def w18_c : ShC := { inp := ⟨[.hole], [], [1], [.sl (.one (.sl tLit))]⟩, out := ⟨[(.view 0)], [.seq false], [0], [.sl tLit]⟩, nres := 1, ms := [], mu := [], leak := true, glob := false, F := fun (x : (List (List QLit))) => slices_Concat_1 x }
-- slices.Concat[[]api.Lit,api.Lit]
def w18_g : List (Nat × Con) := [(84, .gen (altE [w17_c]))]
def w18_v : Env := envOf tb gl w18_g w18_c Tryz.f39.ntmps
theorem w18_gs : Goods Tryz.prog (cond w18_c.glob gl fun _ => none) w18_g := (goods_cons (good_alt (alls_cons (w17_ok.anyGl rfl) alls_nil)) goods_nil)
def w18_u1_h : SS := ⟨[6, 25, 26, 27], ⟨[(.view 0), .hole, .hole, .hole], [.seq false], [1, 2, 2, 0], [.sl (.one (.sl tLit)), .int .i64, .int .i64, .sl tLit]⟩⟩
def w18_u1_e : Exs := [((.exit 2), ⟨[6], ⟨[(.view 0)], [.seq false], [0], [.sl tLit]⟩⟩)]
def w18_u1_a : AC := .run
def w18_u1 : Un := lpU w18_v.fz [28, 29, 30, 8, 31, 32, 33, 6, 34, 27] w18_u1_h w18_u1_e (lp slices_Concat_1_L1 fuel)
theorem w18_u1_s (f : w18_u1_h.X → Option (YT w18_u1_e)) (x : w18_u1_h.X) : E w18_v (subC (bodyOf Tryz.f39) [1, 1, 1, 1, 0, 1, 0, 0]) (w18_u1_a) (mkS w18_u1_h 8 x) (roundK w18_v.fz w18_u1_h w18_u1_e f) = slices_Concat_1_L1 f x := by kernel_rfl
theorem w18_u1_ok {X : Fx} (hX : VOk Tryz.prog X w18_v) : UnOk Tryz.prog X w18_v (subC (bodyOf Tryz.f39) [1, 1, 1, 1, 0, 1, 0]) w18_u1 :=
 lp_un' (c := (subC (bodyOf Tryz.f39) [1, 1, 1, 1, 0, 1, 0, 0])) (by kernel_rfl) (env_all tb_ok (w18_gs)) hord (ob := []) (by kernel_rfl) (fun X hX => obl_nil) (w18_u1_s) (by kernel_rfl) (by kernel_rfl) hX
def w18_u0_h : SS := ⟨[0, 3, 9, 10, 11], ⟨[.hole, .hole, .hole, .hole, .hole], [], [1, 2, 1, 2, 2], [.sl (.one (.sl tLit)), .int .i64, .sl (.one (.sl tLit)), .int .i64, .int .i64]⟩⟩
def w18_u0_e : Exs := [((.exit 0), ⟨[3], ⟨[.hole], [], [2], [.int .i64]⟩⟩)]
def w18_u0_a : AC := .run
def w18_u0 : Un := lpU w18_v.fz [12, 13, 14, 5, 15, 16, 17, 18, 3, 19, 20, 21, 22, 11] w18_u0_h w18_u0_e (lp slices_Concat_1_L0 fuel)
theorem w18_u0_s (f : w18_u0_h.X → Option (YT w18_u0_e)) (x : w18_u0_h.X) : E w18_v (subC (bodyOf Tryz.f39) [1, 1, 0, 1, 0, 0]) (w18_u0_a) (mkS w18_u0_h 8 x) (roundK w18_v.fz w18_u0_h w18_u0_e f) = slices_Concat_1_L0 f x := by kernel_rfl
theorem w18_u0_ok {X : Fx} (hX : VOk Tryz.prog X w18_v) : UnOk Tryz.prog X w18_v (subC (bodyOf Tryz.f39) [1, 1, 0, 1, 0]) w18_u0 :=
 lp_un' (c := (subC (bodyOf Tryz.f39) [1, 1, 0, 1, 0, 0])) (by kernel_rfl) (env_all tb_ok (w18_gs)) hord (ob := []) (by kernel_rfl) (fun X hX => obl_nil) (w18_u0_s) (by kernel_rfl) (by kernel_rfl) hX
def w18_a : AC := (.seq .run (.seq .run (.seq (.seq .run (.block (.unit w18_u0))) (.seq .run (.seq (.seq .run (.block (.unit w18_u1))) .run)))))
theorem w18_s (x : TupL w18_c.inp.hs) : E w18_v (bodyOf Tryz.f39) (w18_a) (w18_c.entry x) (retSK tb w18_v.fz w18_c [.tmp 2] x) = w18_c.F x := by kernel_rfl
theorem w18_ok : ShOk Tryz.prog gl 39 w18_c :=
 fn_ok (l := w18_g) (n := Tryz.f39.ntmps) (code := bodyOf Tryz.f39) (rts := [.tmp 2]) tb_ok hord (w18_gs) Tryz.func39 (by kernel_rfl) (by kernel_rfl) rfl (by kernel_rfl) (ac := w18_a) (ob := [((subC (bodyOf Tryz.f39) [1, 1, 0, 1, 0]), w18_u0), ((subC (bodyOf Tryz.f39) [1, 1, 1, 1, 0, 1, 0]), w18_u1)]) (by kernel_rfl) (fun X hX => (obl_cons (w18_u0_ok hX) (obl_cons (w18_u1_ok hX) obl_nil))) (by kernel_rfl) (w18_s)
def w19_c : ShC := { inp := ⟨[.hole], [], [1], [.int .i64]⟩, out := ⟨[.hole], [], [2], [.bool]⟩, nres := 1, ms := [], mu := [], leak := false, glob := false, F := fun (x : Int) => cmp_isNaN x }
-- cmp.isNaN[int]
def w19_g : List (Nat × Con) := []
def w19_v : Env := envOf tb gl w19_g w19_c Tryz.f159.ntmps
theorem w19_gs : Goods Tryz.prog (cond w19_c.glob gl fun _ => none) w19_g := goods_nil
def w19_a : AC := .run
theorem w19_s (x : TupL w19_c.inp.hs) : E w19_v (bodyOf Tryz.f159) (w19_a) (w19_c.entry x) (retSK tb w19_v.fz w19_c [.tmp 2] x) = w19_c.F x := by kernel_rfl
theorem w19_ok : ShOk Tryz.prog gl 159 w19_c :=
 fn_ok (l := w19_g) (n := Tryz.f159.ntmps) (code := bodyOf Tryz.f159) (rts := [.tmp 2]) tb_ok hord (w19_gs) Tryz.func159 (by kernel_rfl) (by kernel_rfl) rfl (by kernel_rfl) (ac := w19_a) (ob := []) (by kernel_rfl) (fun X hX => obl_nil) (by kernel_rfl) (w19_s)
def w20_c : ShC := { inp := ⟨[.hole, .hole], [], [1, 1], [.int .i64, .int .i64]⟩, out := ⟨[.hole], [], [2], [.bool]⟩, nres := 1, ms := [], mu := [], leak := false, glob := false, F := fun (x : (Int × Int)) => cmp_Less x.1 x.2 }
-- cmp.Less[int]
def w20_g : List (Nat × Con) := [(159, .gen (altE [w19_c]))]
def w20_v : Env := envOf tb gl w20_g w20_c Tryz.f126.ntmps
theorem w20_gs : Goods Tryz.prog (cond w20_c.glob gl fun _ => none) w20_g := (goods_cons (good_alt (alls_cons (w19_ok.anyGl rfl) alls_nil)) goods_nil)
def w20_a : AC := .run
theorem w20_s (x : TupL w20_c.inp.hs) : E w20_v (bodyOf Tryz.f126) (w20_a) (w20_c.entry x) (retSK tb w20_v.fz w20_c [.tmp 4] x) = w20_c.F x := by kernel_rfl
theorem w20_ok : ShOk Tryz.prog gl 126 w20_c :=
 fn_ok (l := w20_g) (n := Tryz.f126.ntmps) (code := bodyOf Tryz.f126) (rts := [.tmp 4]) tb_ok hord (w20_gs) Tryz.func126 (by kernel_rfl) (by kernel_rfl) rfl (by kernel_rfl) (ac := w20_a) (ob := []) (by kernel_rfl) (fun X hX => obl_nil) (by kernel_rfl) (w20_s)
def w21_c : ShC := { inp := ⟨[.hole], [], [1], [.int .i64]⟩, out := ⟨[.hole], [], [2], [.bool]⟩, nres := 1, ms := [], mu := [], leak := false, glob := false, F := fun (x : Int) => slices_isNaN x }
-- slices.isNaN[int]
def w21_g : List (Nat × Con) := []
def w21_v : Env := envOf tb gl w21_g w21_c Tryz.f127.ntmps
theorem w21_gs : Goods Tryz.prog (cond w21_c.glob gl fun _ => none) w21_g := goods_nil
def w21_a : AC := .run
theorem w21_s (x : TupL w21_c.inp.hs) : E w21_v (bodyOf Tryz.f127) (w21_a) (w21_c.entry x) (retSK tb w21_v.fz w21_c [.tmp 2] x) = w21_c.F x := by kernel_rfl
theorem w21_ok : ShOk Tryz.prog gl 127 w21_c :=
 fn_ok (l := w21_g) (n := Tryz.f127.ntmps) (code := bodyOf Tryz.f127) (rts := [.tmp 2]) tb_ok hord (w21_gs) Tryz.func127 (by kernel_rfl) (by kernel_rfl) rfl (by kernel_rfl) (ac := w21_a) (ob := []) (by kernel_rfl) (fun X hX => obl_nil) (by kernel_rfl) (w21_s)
def w22_c : ShC := { inp := ⟨[.hole, .hole], [], [1, 1], [.sl (.one (.int .i64)), .int .i64]⟩, out := ⟨[.hole, .hole], [], [2, 2], [.int .i64, .bool]⟩, nres := 2, ms := [], mu := [], leak := false, glob := false, F := fun (x : ((List Int) × Int)) => slices_BinarySearch x.1 x.2 }
-- slices.BinarySearch[[]int,int]
def w22_g : List (Nat × Con) := [(126, .gen (altE [w20_c])), (127, .gen (altE [w21_c]))]
def w22_v : Env := envOf tb gl w22_g w22_c Tryz.f85.ntmps
theorem w22_gs : Goods Tryz.prog (cond w22_c.glob gl fun _ => none) w22_g := (goods_cons (good_alt (alls_cons (w20_ok.anyGl rfl) alls_nil)) (goods_cons (good_alt (alls_cons (w21_ok.anyGl rfl) alls_nil)) goods_nil))
def w22_u0_h : SS := ⟨[0, 1, 6, 7, 8], ⟨[.hole, .hole, .hole, .hole, .hole], [], [1, 2, 2, 2, 2], [.sl (.one (.int .i64)), .int .i64, .int .i64, .int .i64, .int .i64]⟩⟩
def w22_u0_e : Exs := [((.exit 0), ⟨[7], ⟨[.hole], [], [2], [.int .i64]⟩⟩)]
def w22_u0_a : AC := .run
def w22_u0 : Un := lpU w22_v.fz [13, 14, 15, 16, 17, 18, 19, 20, 21, 9, 22, 23, 24, 25, 26, 27, 28, 29, 7, 30, 8] w22_u0_h w22_u0_e (lp slices_BinarySearch_L0 fuel)
theorem w22_u0_s (f : w22_u0_h.X → Option (YT w22_u0_e)) (x : w22_u0_h.X) : E w22_v (subC (bodyOf Tryz.f85) [1, 1, 1, 0, 0, 0]) (w22_u0_a) (mkS w22_u0_h 8 x) (roundK w22_v.fz w22_u0_h w22_u0_e f) = slices_BinarySearch_L0 f x := by kernel_rfl
theorem w22_u0_ok {X : Fx} (hX : VOk Tryz.prog X w22_v) : UnOk Tryz.prog X w22_v (subC (bodyOf Tryz.f85) [1, 1, 1, 0, 0]) w22_u0 :=
 lp_un' (c := (subC (bodyOf Tryz.f85) [1, 1, 1, 0, 0, 0])) (by kernel_rfl) (env_all tb_ok (w22_gs)) hord (ob := []) (by kernel_rfl) (fun X hX => obl_nil) (w22_u0_s) (by kernel_rfl) (by kernel_rfl) hX
def w22_a : AC := (.seq .run (.seq .run (.seq .run (.seq (.block (.unit w22_u0)) .run))))
theorem w22_s (x : TupL w22_c.inp.hs) : E w22_v (bodyOf Tryz.f85) (w22_a) (w22_c.entry x) (retSK tb w22_v.fz w22_c [.tmp 4, .tmp 5] x) = w22_c.F x := by kernel_rfl
theorem w22_ok : ShOk Tryz.prog gl 85 w22_c :=
 fn_ok (l := w22_g) (n := Tryz.f85.ntmps) (code := bodyOf Tryz.f85) (rts := [.tmp 4, .tmp 5]) tb_ok hord (w22_gs) Tryz.func85 (by kernel_rfl) (by kernel_rfl) rfl (by kernel_rfl) (ac := w22_a) (ob := [((subC (bodyOf Tryz.f85) [1, 1, 1, 0, 0]), w22_u0)]) (by kernel_rfl) (fun X hX => (obl_cons (w22_u0_ok hX) obl_nil)) (by kernel_rfl) (w22_s)
def lays_Lays2_n21 : Go.Shelf.Ren := { f := fun x => match x with | 21 => 86 | 27 => 128 | 28 => 129 | 35 => 160 | 39 => 178 | n => n, t := fun x => match x with | 22 => 23 | 3 => 3 | 4 => 4 | 0 => 0 | n => n, g := fun x => x }
theorem lays_Lays2_n21_ok : Go.Proofs.Lays2.n21 Tryz.prog lays_Lays2_n21 where
 mixed := by kernel_rfl
 f21 := Tryz.func86.trans (by kernel_rfl)
 f27 := Tryz.func128.trans (by kernel_rfl)
 f28 := Tryz.func129.trans (by kernel_rfl)
 f35 := Tryz.func160.trans (by kernel_rfl)
 f39 := Tryz.func178.trans (by kernel_rfl)
 t0 := Tryz.underlying0
 a0 := Tryz.isAgg0
 z0 := Tryz.sizeOf0
 v0 := Tryz.zeroValue0
 t3 := Tryz.underlying3
 a3 := Tryz.isAgg3
 z3 := Tryz.sizeOf3
 v3 := Tryz.zeroValue3
 t4 := Tryz.underlying4
 a4 := Tryz.isAgg4
 z4 := Tryz.sizeOf4
 v4 := Tryz.zeroValue4
 t22 := Tryz.underlying23
 a22 := Tryz.isAgg23
 z22 := Tryz.sizeOf23
 v22 := Tryz.zeroValue23
 i3 := by kernel_rfl
def w23_c : ShC := insC
-- slices.Insert[[]int,int]
theorem w23_ok : ShOk Tryz.prog gl 86 w23_c :=
 insert_ok (code := bodyOf Tryz.f86) Tryz.func86 (by kernel_rfl) (by kernel_rfl) lays_Lays2_n21_ok rfl
def w24_c : ShC := { inp := ⟨[(.view 0), .hole], [.seq false], [1, 1], [.sl (.one (.int .i64)), .sl (.one (.int .i64))]⟩, out := ⟨[(.view 0)], [.seq false], [0], [.sl (.one (.int .i64))]⟩, nres := 1, ms := [], mu := [], leak := true, glob := false, F := fun (x : ((List Int) × (List Int))) => term_Seen_1 x.1 x.2 }
-- term.Seen
def w24_g : List (Nat × Con) := [(35, .gen (altE [w6_c])), (85, .gen (altE [w22_c])), (86, .gen (altE [w23_c]))]
def w24_v : Env := envOf tb gl w24_g w24_c Tryz.f40.ntmps
theorem w24_gs : Goods Tryz.prog (cond w24_c.glob gl fun _ => none) w24_g := (goods_cons (good_alt (alls_cons (w6_ok.anyGl rfl) alls_nil)) (goods_cons (good_alt (alls_cons (w22_ok.anyGl rfl) alls_nil)) (goods_cons (good_alt (alls_cons (w23_ok.anyGl rfl) alls_nil)) goods_nil)))
def w24_u0_h : SS := ⟨[0, 9, 10, 11], ⟨[(.view 0), .hole, .hole, .hole], [.seq false], [1, 2, 2, 0], [.sl (.one (.int .i64)), .int .i64, .int .i64, .sl (.one (.int .i64))]⟩⟩
def w24_u0_e : Exs := [((.exit 0), ⟨[0], ⟨[(.view 0)], [.seq false], [0], [.sl (.one (.int .i64))]⟩⟩)]
def w24_u0_a : AC := .run
def w24_u0 : Un := lpU w24_v.fz [12, 13, 14, 6, 15, 16, 18, 19, 20, 21, 17, 22, 23, 7, 8, 24, 25, 26, 27, 28, 29, 30, 31, 0, 32, 11] w24_u0_h w24_u0_e (lp term_Seen_1_L0 fuel)
theorem w24_u0_s (f : w24_u0_h.X → Option (YT w24_u0_e)) (x : w24_u0_h.X) : E w24_v (subC (bodyOf Tryz.f40) [1, 0, 1, 0, 0]) (w24_u0_a) (mkS w24_u0_h 8 x) (roundK w24_v.fz w24_u0_h w24_u0_e f) = term_Seen_1_L0 f x := by kernel_rfl
theorem w24_u0_ok {X : Fx} (hX : VOk Tryz.prog X w24_v) : UnOk Tryz.prog X w24_v (subC (bodyOf Tryz.f40) [1, 0, 1, 0]) w24_u0 :=
 lp_un' (c := (subC (bodyOf Tryz.f40) [1, 0, 1, 0, 0])) (by kernel_rfl) (env_all tb_ok (w24_gs)) hord (ob := []) (by kernel_rfl) (fun X hX => obl_nil) (w24_u0_s) (by kernel_rfl) (by kernel_rfl) hX
def w24_a : AC := (.seq .run (.seq (.seq .run (.block (.unit w24_u0))) .run))
theorem w24_s (x : TupL w24_c.inp.hs) : E w24_v (bodyOf Tryz.f40) (w24_a) (w24_c.entry x) (retSK tb w24_v.fz w24_c [.tmp 4] x) = w24_c.F x := by kernel_rfl
theorem w24_ok : ShOk Tryz.prog gl 40 w24_c :=
 fn_ok (l := w24_g) (n := Tryz.f40.ntmps) (code := bodyOf Tryz.f40) (rts := [.tmp 4]) tb_ok hord (w24_gs) Tryz.func40 (by kernel_rfl) (by kernel_rfl) rfl (by kernel_rfl) (ac := w24_a) (ob := [((subC (bodyOf Tryz.f40) [1, 0, 1, 0]), w24_u0)]) (by kernel_rfl) (fun X hX => (obl_cons (w24_u0_ok hX) obl_nil)) (by kernel_rfl) (w24_s)
def w25_c : ShC := { inp := ⟨[.hole, (.agg [.hole, .hole, .hole])], [], [1, 1, 1, 1], [.sl tSym, .sl tLit, .sl (.one (.sl (.one (.int .i64)))), .sl tLit]⟩, out := ⟨[(.view 0), .hole], [.seq false], [2, 0], [.int .i64, .sl (.one (.int .i64))]⟩, nres := 2, ms := [], mu := [], leak := true, glob := true, F := fun (x : ((List QSym) × (List QLit) × (List (List Int)) × (List QLit))) => clause_Vars x.1 x.2.1 x.2.2.1 x.2.2.2 }
-- clause.Vars
def w25_g : List (Nat × Con) := [(10, .gen (altE [w15_c])), (39, .gen (altE [w18_c])), (40, .gen (altE [w24_c]))]
def w25_v : Env := envOf tb gl w25_g w25_c Tryz.f11.ntmps
theorem w25_gs : Goods Tryz.prog (cond w25_c.glob gl fun _ => none) w25_g := (goods_cons (good_alt (alls_cons w15_ok alls_nil)) (goods_cons (good_alt (alls_cons (w18_ok.anyGl rfl) alls_nil)) (goods_cons (good_alt (alls_cons (w24_ok.anyGl rfl) alls_nil)) goods_nil)))
def w25_u1_h : SS := ⟨[6, 32, 33, 34], ⟨[(.view 0), .hole, .hole, .hole], [.seq false], [1, 2, 2, 0], [.sl (.one (.sl (.one (.int .i64)))), .int .i64, .int .i64, .sl (.one (.int .i64))]⟩⟩
def w25_u1_e : Exs := [((.exit 2), ⟨[6], ⟨[(.view 0)], [.seq false], [0], [.sl (.one (.int .i64))]⟩⟩)]
def w25_u1_a : AC := .run
def w25_u1 : Un := lpU w25_v.fz [35, 36, 37, 10, 38, 39, 40, 6, 41, 34] w25_u1_h w25_u1_e (lp clause_Vars_L1 fuel)
theorem w25_u1_s (f : w25_u1_h.X → Option (YT w25_u1_e)) (x : w25_u1_h.X) : E w25_v (subC (bodyOf Tryz.f11) [1, 1, 1, 1, 0, 1, 0, 0]) (w25_u1_a) (mkS w25_u1_h 8 x) (roundK w25_v.fz w25_u1_h w25_u1_e f) = clause_Vars_L1 f x := by kernel_rfl
theorem w25_u1_ok {X : Fx} (hX : VOk Tryz.prog X w25_v) : UnOk Tryz.prog X w25_v (subC (bodyOf Tryz.f11) [1, 1, 1, 1, 0, 1, 0]) w25_u1 :=
 lp_un' (c := (subC (bodyOf Tryz.f11) [1, 1, 1, 1, 0, 1, 0, 0])) (by kernel_rfl) (env_all tb_ok (w25_gs)) hord (ob := []) (by kernel_rfl) (fun X hX => obl_nil) (w25_u1_s) (by kernel_rfl) (by kernel_rfl) hX
def w25_u0_h : SS := ⟨[3, 6, 20, 21, 22], ⟨[(.ptr 0 0), (.view 1), .hole, .hole, .hole], [.cells true [.hole, .hole, .hole], .seq false], [0, 2, 2, 1, 1, 1, 0], [.sl tLit, .int .i64, .int .i64, .sl tLit, .sl (.one (.sl (.one (.int .i64)))), .sl tLit, .sl (.one (.int .i64))]⟩⟩
def w25_u0_e : Exs := [((.exit 0), ⟨[6], ⟨[(.view 0)], [.seq false], [0], [.sl (.one (.int .i64))]⟩⟩)]
def w25_u0_a : AC := .run
def w25_u0 : Un := lpU w25_v.fz [23, 24, 25, 8, 26, 27, 28, 29, 6, 30, 22] w25_u0_h w25_u0_e (lp clause_Vars_L0 fuel)
theorem w25_u0_s (f : w25_u0_h.X → Option (YT w25_u0_e)) (x : w25_u0_h.X) : E w25_v (subC (bodyOf Tryz.f11) [1, 1, 1, 0, 1, 0, 0]) (w25_u0_a) (mkS w25_u0_h 8 x) (roundK w25_v.fz w25_u0_h w25_u0_e f) = clause_Vars_L0 f x := by kernel_rfl
theorem w25_u0_ok {X : Fx} (hX : VOk Tryz.prog X w25_v) : UnOk Tryz.prog X w25_v (subC (bodyOf Tryz.f11) [1, 1, 1, 0, 1, 0]) w25_u0 :=
 lp_un' (c := (subC (bodyOf Tryz.f11) [1, 1, 1, 0, 1, 0, 0])) (by kernel_rfl) (env_all tb_ok (w25_gs)) hord (ob := []) (by kernel_rfl) (fun X hX => obl_nil) (w25_u0_s) (by kernel_rfl) (by kernel_rfl) hX
def w25_a : AC := (.seq .run (.seq .run (.seq .run (.seq (.seq .run (.block (.unit w25_u0))) (.seq (.seq .run (.block (.unit w25_u1))) .run)))))
theorem w25_s (x : TupL w25_c.inp.hs) : E w25_v (bodyOf Tryz.f11) (w25_a) (w25_c.entry x) (retSK tb w25_v.fz w25_c [.tmp 4, .tmp 5] x) = w25_c.F x := by kernel_rfl
theorem w25_ok : ShOk Tryz.prog gl 11 w25_c :=
 fn_ok (l := w25_g) (n := Tryz.f11.ntmps) (code := bodyOf Tryz.f11) (rts := [.tmp 4, .tmp 5]) tb_ok hord (w25_gs) Tryz.func11 (by kernel_rfl) (by kernel_rfl) rfl (by kernel_rfl) (ac := w25_a) (ob := [((subC (bodyOf Tryz.f11) [1, 1, 1, 0, 1, 0]), w25_u0), ((subC (bodyOf Tryz.f11) [1, 1, 1, 1, 0, 1, 0]), w25_u1)]) (by kernel_rfl) (fun X hX => (obl_cons (w25_u0_ok hX) (obl_cons (w25_u1_ok hX) obl_nil))) (by kernel_rfl) (w25_s)
def w26_c : ShC := { inp := ⟨[.hole], [], [1], [.ns (.one (.int .i64))]⟩, out := ⟨[(.view 0)], [.seq false], [0], [.sl (.one (.int .i64))]⟩, nres := 1, ms := [], mu := [], leak := true, glob := false, F := fun (x : (Option (List Int))) => slices_Clone x }
-- slices.Clone[[]int,int]
def w26_g : List (Nat × Con) := []
def w26_v : Env := envOf tb gl w26_g w26_c Tryz.f80.ntmps
theorem w26_gs : Goods Tryz.prog (cond w26_c.glob gl fun _ => none) w26_g := goods_nil
def w26_a : AC := .run
theorem w26_s (x : TupL w26_c.inp.hs) : E w26_v (bodyOf Tryz.f80) (w26_a) (w26_c.entry x) (retSK tb w26_v.fz w26_c [.tmp 2] x) = w26_c.F x := by kernel_rfl
theorem w26_ok : ShOk Tryz.prog gl 80 w26_c :=
 fn_ok (l := w26_g) (n := Tryz.f80.ntmps) (code := bodyOf Tryz.f80) (rts := [.tmp 2]) tb_ok hord (w26_gs) Tryz.func80 (by kernel_rfl) (by kernel_rfl) rfl (by kernel_rfl) (ac := w26_a) (ob := []) (by kernel_rfl) (fun X hX => obl_nil) (by kernel_rfl) (w26_s)
def w27_c : ShC := { inp := ⟨[.nilv], [], [], []⟩, out := ⟨[(.view 0)], [.seq false], [0], [.sl (.one (.int .i64))]⟩, nres := 1, ms := [], mu := [], leak := true, glob := false, F := fun (x : Unit) => slices_Clone_1 }
-- slices.Clone[[]int,int]
def w27_g : List (Nat × Con) := []
def w27_v : Env := envOf tb gl w27_g w27_c Tryz.f80.ntmps
theorem w27_gs : Goods Tryz.prog (cond w27_c.glob gl fun _ => none) w27_g := goods_nil
def w27_a : AC := .run
theorem w27_s (x : TupL w27_c.inp.hs) : E w27_v (bodyOf Tryz.f80) (w27_a) (w27_c.entry x) (retSK tb w27_v.fz w27_c [.tmp 2] x) = w27_c.F x := by kernel_rfl
theorem w27_ok : ShOk Tryz.prog gl 80 w27_c :=
 fn_ok (l := w27_g) (n := Tryz.f80.ntmps) (code := bodyOf Tryz.f80) (rts := [.tmp 2]) tb_ok hord (w27_gs) Tryz.func80 (by kernel_rfl) (by kernel_rfl) rfl (by kernel_rfl) (ac := w27_a) (ob := []) (by kernel_rfl) (fun X hX => obl_nil) (by kernel_rfl) (w27_s)
def w28_c : ShC := { inp := ⟨[.hole], [], [1], [.sl (.one (.int .i64))]⟩, out := ⟨[(.view 0)], [.seq false], [0], [.sl (.one (.int .i64))]⟩, nres := 1, ms := [], mu := [], leak := true, glob := false, F := fun (x : (List Int)) => slices_CloneN x }
-- slices.Clone[[]int,int]
theorem w28_ok : ShOk Tryz.prog gl 80 w28_c :=
 sh_nil w27_ok w26_ok fun xs y h => ⟨h, fun e => by subst e; exact h⟩
def w29_c : ShC := { inp := ⟨[.hole, (.ptr 0 0)], [.cells true [.hole]], [1, 1], [.sl (.one (.int .i64)), .int .i64]⟩, out := ⟨[(.view 0)], [.seq false], [0], [.sl (.one (.int .i64))]⟩, nres := 1, ms := [], mu := [], leak := true, glob := false, F := fun (x : ((List Int) × Int)) => clause_Shift_c1 x.1 x.2 }
-- clause.Shift$1
def w29_g : List (Nat × Con) := [(80, .gen (altE [w28_c]))]
def w29_v : Env := envOf tb gl w29_g w29_c Tryz.f169.ntmps
theorem w29_gs : Goods Tryz.prog (cond w29_c.glob gl fun _ => none) w29_g := (goods_cons (good_alt (alls_cons (w28_ok.anyGl rfl) alls_nil)) goods_nil)
def w29_u0_h : SS := ⟨[1, 4, 9, 10, 11], ⟨[(.ptr 0 0), (.view 1), (.view 1), .hole, .hole], [.cells true [.hole], .seq false], [2, 2, 2, 0], [.int .i64, .int .i64, .int .i64, .sl (.one (.int .i64))]⟩⟩
def w29_u0_e : Exs := [((.exit 0), ⟨[4], ⟨[(.view 0)], [.seq false], [0], [.sl (.one (.int .i64))]⟩⟩)]
def w29_u0_a : AC := .run
def w29_u0 : Un := lpU w29_v.fz [12, 13, 14, 15, 5, 6, 16, 17, 18, 19, 20, 21, 22, 23, 24, 11] w29_u0_h w29_u0_e (lp clause_Shift_c1_L0 fuel)
theorem w29_u0_s (f : w29_u0_h.X → Option (YT w29_u0_e)) (x : w29_u0_h.X) : E w29_v (subC (bodyOf Tryz.f169) [1, 1, 0, 1, 0, 0]) (w29_u0_a) (mkS w29_u0_h 8 x) (roundK w29_v.fz w29_u0_h w29_u0_e f) = clause_Shift_c1_L0 f x := by kernel_rfl
theorem w29_u0_ok {X : Fx} (hX : VOk Tryz.prog X w29_v) : UnOk Tryz.prog X w29_v (subC (bodyOf Tryz.f169) [1, 1, 0, 1, 0]) w29_u0 :=
 lp_un' (c := (subC (bodyOf Tryz.f169) [1, 1, 0, 1, 0, 0])) (by kernel_rfl) (env_all tb_ok (w29_gs)) hord (ob := []) (by kernel_rfl) (fun X hX => obl_nil) (w29_u0_s) (by kernel_rfl) (by kernel_rfl) hX
def w29_a : AC := (.seq .run (.seq .run (.seq (.seq .run (.block (.unit w29_u0))) .run)))
theorem w29_s (x : TupL w29_c.inp.hs) : E w29_v (bodyOf Tryz.f169) (w29_a) (w29_c.entry x) (retSK tb w29_v.fz w29_c [.tmp 3] x) = w29_c.F x := by kernel_rfl
theorem w29_ok : ShOk Tryz.prog gl 169 w29_c :=
 fn_ok (l := w29_g) (n := Tryz.f169.ntmps) (code := bodyOf Tryz.f169) (rts := [.tmp 3]) tb_ok hord (w29_gs) Tryz.func169 (by kernel_rfl) (by kernel_rfl) rfl (by kernel_rfl) (ac := w29_a) (ob := [((subC (bodyOf Tryz.f169) [1, 1, 0, 1, 0]), w29_u0)]) (by kernel_rfl) (fun X hX => (obl_cons (w29_u0_ok hX) obl_nil)) (by kernel_rfl) (w29_s)
def w30_c : ShC := { inp := ⟨[(.agg [.hole, .hole, .hole]), (.clo 169 [(.ptr 0 0)])], [.cells true [.hole]], [1, 1, 1, 1], [.sl tLit, .sl (.one (.sl (.one (.int .i64)))), .sl tLit, .int .i64]⟩, out := ⟨[(.agg [.hole, .hole, (.view 0)])], [.seq false], [0, 0, 0], [.sl tLit, .sl (.one (.sl (.one (.int .i64)))), .sl tLit]⟩, nres := 1, ms := [], mu := [], leak := true, glob := false, F := fun (x : ((List QLit) × (List (List Int)) × (List QLit) × Int)) => clause_each_2 x.1 x.2.1 x.2.2.1 x.2.2.2 }
-- clause.each
def w30_g : List (Nat × Con) := [(169, .gen (altE [w29_c]))]
def w30_v : Env := envOf tb gl w30_g w30_c Tryz.f122.ntmps
theorem w30_gs : Goods Tryz.prog (cond w30_c.glob gl fun _ => none) w30_g := (goods_cons (good_alt (alls_cons (w29_ok.anyGl rfl) alls_nil)) goods_nil)
def w30_u2_h : SS := ⟨[1, 4, 5, 49, 50, 51], ⟨[(.clo 169 [(.ptr 0 0)]), (.ptr 1 0), (.ptr 2 0), .hole, .hole, .hole], [.cells true [.hole], .cells true [.nilv, .nilv, .nilv], .cells false [.hole, .hole, (.view 3)], .seq false], [1, 2, 2, 2, 0, 0, 0], [.sl tLit, .int .i64, .int .i64, .int .i64, .sl tLit, .sl (.one (.sl (.one (.int .i64)))), .sl tLit]⟩⟩
def w30_u2_e : Exs := [((.exit 4), ⟨[5], ⟨[(.ptr 0 0)], [.cells false [.hole, .hole, (.view 1)], .seq false], [0, 0, 0], [.sl tLit, .sl (.one (.sl (.one (.int .i64)))), .sl tLit]⟩⟩)]
def w30_u2_a : AC := .run
def w30_u2 : Un := lpU w30_v.fz [52, 53, 54, 11, 55, 56, 57, 58, 59, 60, 61, 62, 63, 64, 65, 66, 67, 51] w30_u2_h w30_u2_e (lp clause_each_2_L2 fuel)
theorem w30_u2_s (f : w30_u2_h.X → Option (YT w30_u2_e)) (x : w30_u2_h.X) : E w30_v (subC (bodyOf Tryz.f122) [1, 1, 1, 1, 0, 1, 0, 0]) (w30_u2_a) (mkS w30_u2_h 8 x) (roundK w30_v.fz w30_u2_h w30_u2_e f) = clause_each_2_L2 f x := by kernel_rfl
theorem w30_u2_ok {X : Fx} (hX : VOk Tryz.prog X w30_v) : UnOk Tryz.prog X w30_v (subC (bodyOf Tryz.f122) [1, 1, 1, 1, 0, 1, 0]) w30_u2 :=
 lp_un' (c := (subC (bodyOf Tryz.f122) [1, 1, 1, 1, 0, 1, 0, 0])) (by kernel_rfl) (env_all tb_ok (w30_gs)) hord (ob := []) (by kernel_rfl) (fun X hX => obl_nil) (w30_u2_s) (by kernel_rfl) (by kernel_rfl) hX
def w30_u1_h : SS := ⟨[1, 2, 4, 5, 33, 34, 35], ⟨[(.clo 169 [(.ptr 0 0)]), (.ptr 1 0), (.ptr 2 0), (.ptr 3 0), .hole, .hole, .hole], [.cells true [.hole], .cells true [.hole, .hole, .hole], .cells true [.nilv, .nilv, .nilv], .cells false [.hole, (.view 4), .nilv], .seq false], [1, 2, 2, 2, 1, 1, 1, 0, 0], [.sl (.one (.sl (.one (.int .i64)))), .int .i64, .int .i64, .int .i64, .sl tLit, .sl (.one (.sl (.one (.int .i64)))), .sl tLit, .sl tLit, .sl (.one (.sl (.one (.int .i64))))]⟩⟩
def w30_u1_e : Exs := [((.exit 2), ⟨[5], ⟨[(.ptr 0 0)], [.cells false [.hole, (.view 1), .nilv], .seq false], [0, 0], [.sl tLit, .sl (.one (.sl (.one (.int .i64))))]⟩⟩)]
def w30_u1_a : AC := .run
def w30_u1 : Un := lpU w30_v.fz [36, 37, 38, 9, 39, 40, 41, 42, 43, 44, 45, 46, 47, 35] w30_u1_h w30_u1_e (lp clause_each_2_L1 fuel)
theorem w30_u1_s (f : w30_u1_h.X → Option (YT w30_u1_e)) (x : w30_u1_h.X) : E w30_v (subC (bodyOf Tryz.f122) [1, 1, 1, 0, 1, 0, 0]) (w30_u1_a) (mkS w30_u1_h 8 x) (roundK w30_v.fz w30_u1_h w30_u1_e f) = clause_each_2_L1 f x := by kernel_rfl
theorem w30_u1_ok {X : Fx} (hX : VOk Tryz.prog X w30_v) : UnOk Tryz.prog X w30_v (subC (bodyOf Tryz.f122) [1, 1, 1, 0, 1, 0]) w30_u1 :=
 lp_un' (c := (subC (bodyOf Tryz.f122) [1, 1, 1, 0, 1, 0, 0])) (by kernel_rfl) (env_all tb_ok (w30_gs)) hord (ob := []) (by kernel_rfl) (fun X hX => obl_nil) (w30_u1_s) (by kernel_rfl) (by kernel_rfl) hX
def w30_u0_h : SS := ⟨[1, 2, 4, 5, 13, 14, 15], ⟨[(.clo 169 [(.ptr 0 0)]), (.ptr 1 0), (.ptr 2 0), (.ptr 3 0), .hole, .hole, .hole], [.cells true [.hole], .cells true [.hole, .hole, .hole], .cells true [.nilv, .nilv, .nilv], .cells false [(.view 4), .nilv, .nilv], .seq false], [1, 2, 2, 2, 1, 1, 1, 0], [.sl tLit, .int .i64, .int .i64, .int .i64, .sl tLit, .sl (.one (.sl (.one (.int .i64)))), .sl tLit, .sl tLit]⟩⟩
def w30_u0_e : Exs := [((.exit 0), ⟨[5], ⟨[(.ptr 0 0)], [.cells false [(.view 1), .nilv, .nilv], .seq false], [0], [.sl tLit]⟩⟩)]
def w30_u0_a : AC := .run
def w30_u0 : Un := lpU w30_v.fz [16, 17, 18, 7, 19, 20, 21, 22, 23, 24, 25, 26, 27, 28, 29, 30, 31, 15] w30_u0_h w30_u0_e (lp clause_each_2_L0 fuel)
theorem w30_u0_s (f : w30_u0_h.X → Option (YT w30_u0_e)) (x : w30_u0_h.X) : E w30_v (subC (bodyOf Tryz.f122) [1, 1, 0, 1, 0, 0]) (w30_u0_a) (mkS w30_u0_h 8 x) (roundK w30_v.fz w30_u0_h w30_u0_e f) = clause_each_2_L0 f x := by kernel_rfl
theorem w30_u0_ok {X : Fx} (hX : VOk Tryz.prog X w30_v) : UnOk Tryz.prog X w30_v (subC (bodyOf Tryz.f122) [1, 1, 0, 1, 0]) w30_u0 :=
 lp_un' (c := (subC (bodyOf Tryz.f122) [1, 1, 0, 1, 0, 0])) (by kernel_rfl) (env_all tb_ok (w30_gs)) hord (ob := []) (by kernel_rfl) (fun X hX => obl_nil) (w30_u0_s) (by kernel_rfl) (by kernel_rfl) hX
def w30_a : AC := (.seq .run (.seq .run (.seq (.seq .run (.block (.unit w30_u0))) (.seq (.seq .run (.block (.unit w30_u1))) (.seq (.seq .run (.block (.unit w30_u2))) .run)))))
theorem w30_s (x : TupL w30_c.inp.hs) : E w30_v (bodyOf Tryz.f122) (w30_a) (w30_c.entry x) (retSK tb w30_v.fz w30_c [.cell 4 28] x) = w30_c.F x := by kernel_rfl
theorem w30_ok : ShOk Tryz.prog gl 122 w30_c :=
 fn_ok (l := w30_g) (n := Tryz.f122.ntmps) (code := bodyOf Tryz.f122) (rts := [.cell 4 28]) tb_ok hord (w30_gs) Tryz.func122 (by kernel_rfl) (by kernel_rfl) rfl (by kernel_rfl) (ac := w30_a) (ob := [((subC (bodyOf Tryz.f122) [1, 1, 0, 1, 0]), w30_u0), ((subC (bodyOf Tryz.f122) [1, 1, 1, 0, 1, 0]), w30_u1), ((subC (bodyOf Tryz.f122) [1, 1, 1, 1, 0, 1, 0]), w30_u2)]) (by kernel_rfl) (fun X hX => (obl_cons (w30_u0_ok hX) (obl_cons (w30_u1_ok hX) (obl_cons (w30_u2_ok hX) obl_nil)))) (by kernel_rfl) (w30_s)
def w31_c : ShC := { inp := ⟨[(.agg [.hole, .hole, .hole]), .hole], [], [1, 1, 1, 1], [.sl tLit, .sl (.one (.sl (.one (.int .i64)))), .sl tLit, .int .i64]⟩, out := ⟨[(.agg [.hole, .hole, (.view 0)])], [.seq false], [0, 0, 0], [.sl tLit, .sl (.one (.sl (.one (.int .i64)))), .sl tLit]⟩, nres := 1, ms := [], mu := [], leak := true, glob := false, F := fun (x : ((List QLit) × (List (List Int)) × (List QLit) × Int)) => clause_Shift x.1 x.2.1 x.2.2.1 x.2.2.2 }
-- clause.Shift
def w31_g : List (Nat × Con) := [(122, .gen (altE [w30_c]))]
def w31_v : Env := envOf tb gl w31_g w31_c Tryz.f140.ntmps
theorem w31_gs : Goods Tryz.prog (cond w31_c.glob gl fun _ => none) w31_g := (goods_cons (good_alt (alls_cons (w30_ok.anyGl rfl) alls_nil)) goods_nil)
def w31_a : AC := .run
theorem w31_s (x : TupL w31_c.inp.hs) : E w31_v (bodyOf Tryz.f140) (w31_a) (w31_c.entry x) (retSK tb w31_v.fz w31_c [.cell 4 28] x) = w31_c.F x := by kernel_rfl
theorem w31_ok : ShOk Tryz.prog gl 140 w31_c :=
 fn_ok (l := w31_g) (n := Tryz.f140.ntmps) (code := bodyOf Tryz.f140) (rts := [.cell 4 28]) tb_ok hord (w31_gs) Tryz.func140 (by kernel_rfl) (by kernel_rfl) rfl (by kernel_rfl) (ac := w31_a) (ob := []) (by kernel_rfl) (fun X hX => obl_nil) (by kernel_rfl) (w31_s)
def w32_c : ShC := { inp := ⟨[.hole, (.agg [.hole, .hole, .hole]), (.agg [.hole, .hole, .hole])], [], [1, 1, 1, 1, 1, 1, 1], [.sl tSym, .sl tLit, .sl (.one (.sl (.one (.int .i64)))), .sl tLit, .sl tLit, .sl (.one (.sl (.one (.int .i64)))), .sl tLit]⟩, out := ⟨[(.agg [.hole, .hole, (.view 0)]), .hole], [.seq false], [0, 0, 2, 0], [.sl tLit, .sl (.one (.sl (.one (.int .i64)))), .bool, .sl tLit]⟩, nres := 2, ms := [], mu := [], leak := true, glob := true, F := fun (x : ((List QSym) × (List QLit) × (List (List Int)) × (List QLit) × (List QLit) × (List (List Int)) × (List QLit))) => resolve_Apart x.1 x.2.1 x.2.2.1 x.2.2.2.1 x.2.2.2.2.1 x.2.2.2.2.2.1 x.2.2.2.2.2.2 }
-- resolve.Apart
def w32_g : List (Nat × Con) := [(11, .gen (altE [w25_c])), (140, .gen (altE [w31_c]))]
def w32_v : Env := envOf tb gl w32_g w32_c Tryz.f97.ntmps
theorem w32_gs : Goods Tryz.prog (cond w32_c.glob gl fun _ => none) w32_g := (goods_cons (good_alt (alls_cons w25_ok alls_nil)) (goods_cons (good_alt (alls_cons (w31_ok.anyGl rfl) alls_nil)) goods_nil))
def w32_a : AC := .run
theorem w32_s (x : TupL w32_c.inp.hs) : E w32_v (bodyOf Tryz.f97) (w32_a) (w32_c.entry x) (retSK tb w32_v.fz w32_c [.cell 6 28, .tmp 7] x) = w32_c.F x := by kernel_rfl
theorem w32_ok : ShOk Tryz.prog gl 97 w32_c :=
 fn_ok (l := w32_g) (n := Tryz.f97.ntmps) (code := bodyOf Tryz.f97) (rts := [.cell 6 28, .tmp 7]) tb_ok hord (w32_gs) Tryz.func97 (by kernel_rfl) (by kernel_rfl) rfl (by kernel_rfl) (ac := w32_a) (ob := []) (by kernel_rfl) (fun X hX => obl_nil) (by kernel_rfl) (w32_s)
def w33_c : ShC := { inp := ⟨[.hole, .hole], [], [1, 1], [.sl tSym, .sl (.one (.int .i64))]⟩, out := ⟨[(.view 0)], [.seq false], [0], [.sl (.one (.sl (.one (.int .i64))))]⟩, nres := 1, ms := [], mu := [], leak := true, glob := false, F := fun (x : ((List QSym) × (List Int))) => term_Pieces x.1 x.2 }
-- term.Pieces
def w33_g : List (Nat × Con) := [(151, .gen (altE [w8_c]))]
def w33_v : Env := envOf tb gl w33_g w33_c Tryz.f108.ntmps
theorem w33_gs : Goods Tryz.prog (cond w33_c.glob gl fun _ => none) w33_g := (goods_cons (good_alt (alls_cons (w8_ok.anyGl rfl) alls_nil)) goods_nil)
def w33_u0_h : SS := ⟨[0, 1, 5, 6], ⟨[.hole, .hole, (.view 0), .hole], [.seq false], [1, 1, 2, 0], [.sl tSym, .sl (.one (.int .i64)), .int .i64, .sl (.one (.sl (.one (.int .i64))))]⟩⟩
def w33_u0_e : Exs := [((.exit 0), ⟨[5], ⟨[(.view 0)], [.seq false], [0], [.sl (.one (.sl (.one (.int .i64))))]⟩⟩), (.ret, ⟨[4], ⟨[(.view 0)], [.seq false], [0], [.sl (.one (.sl (.one (.int .i64))))]⟩⟩)]
def w33_u0_a : AC := .run
def w33_u0 : Un := lpU w33_v.fz [9, 10, 11, 12, 14, 15, 16, 17, 13, 18, 19, 7, 8, 20, 21, 22, 4, 23, 24, 25, 26, 27, 28, 29, 5, 30, 6] w33_u0_h w33_u0_e (lp term_Pieces_L0 fuel)
theorem w33_u0_s (f : w33_u0_h.X → Option (YT w33_u0_e)) (x : w33_u0_h.X) : E w33_v (subC (bodyOf Tryz.f108) [1, 1, 0, 1, 0, 0]) (w33_u0_a) (mkS w33_u0_h 8 x) (roundK w33_v.fz w33_u0_h w33_u0_e f) = term_Pieces_L0 f x := by kernel_rfl
theorem w33_u0_ok {X : Fx} (hX : VOk Tryz.prog X w33_v) : UnOk Tryz.prog X w33_v (subC (bodyOf Tryz.f108) [1, 1, 0, 1, 0]) w33_u0 :=
 lp_un' (c := (subC (bodyOf Tryz.f108) [1, 1, 0, 1, 0, 0])) (by kernel_rfl) (env_all tb_ok (w33_gs)) hord (ob := []) (by kernel_rfl) (fun X hX => obl_nil) (w33_u0_s) (by kernel_rfl) (by kernel_rfl) hX
def w33_a : AC := (.seq .run (.seq .run (.seq (.seq .run (.block (.unit w33_u0))) .run)))
theorem w33_s (x : TupL w33_c.inp.hs) : E w33_v (bodyOf Tryz.f108) (w33_a) (w33_c.entry x) (retSK tb w33_v.fz w33_c [.tmp 4] x) = w33_c.F x := by kernel_rfl
theorem w33_ok : ShOk Tryz.prog gl 108 w33_c :=
 fn_ok (l := w33_g) (n := Tryz.f108.ntmps) (code := bodyOf Tryz.f108) (rts := [.tmp 4]) tb_ok hord (w33_gs) Tryz.func108 (by kernel_rfl) (by kernel_rfl) rfl (by kernel_rfl) (ac := w33_a) (ob := [((subC (bodyOf Tryz.f108) [1, 1, 0, 1, 0]), w33_u0)]) (by kernel_rfl) (fun X hX => (obl_cons (w33_u0_ok hX) obl_nil)) (by kernel_rfl) (w33_s)
def w34_c : ShC := { inp := ⟨[(.ptr 0 0), (.view 1), (.agg [.hole, .hole]), (.agg [.hole, .hole])], [.cells true [.hole, .hole], .seq false], [1, 1, 1, 1, 1, 1, 1], [.sl (.one (.int .i64)), .int .i64, .sl (.one (.int .i64)), .int .i64, .sl tSym, .ar (.cons (.ns (.one (.int .i64))) (.one (.int .i64))) 48, .sl (.cons (.sl (.one (.int .i64))) (.cons (.int .i64) (.cons (.sl (.one (.int .i64))) (.one (.int .i64)))))]⟩, out := ⟨[(.view 0)], [.seq false], [0], [.sl (.cons (.sl (.one (.int .i64))) (.cons (.int .i64) (.cons (.sl (.one (.int .i64))) (.one (.int .i64)))))]⟩, nres := 1, ms := [], mu := [], leak := true, glob := false, F := fun (x : ((List Int) × Int × (List Int) × Int × (List QSym) × (List ((Option (List Int)) × Int)) × (List ((List Int) × Int × (List Int) × Int)))) => unify_run_pairs_1 x.1 x.2.1 x.2.2.1 x.2.2.2.1 x.2.2.2.2.1 x.2.2.2.2.2.1 x.2.2.2.2.2.2 }
-- (*unify.run).pairs
def w34_g : List (Nat × Con) := [(108, .gen (altE [w33_c]))]
def w34_v : Env := envOf tb gl w34_g w34_c Tryz.f164.ntmps
theorem w34_gs : Goods Tryz.prog (cond w34_c.glob gl fun _ => none) w34_g := (goods_cons (good_alt (alls_cons (w33_ok.anyGl rfl) alls_nil)) goods_nil)
def w34_u0_h : SS := ⟨[1, 6, 7, 9, 10, 27, 28], ⟨[(.view 0), (.ptr 1 0), (.ptr 2 0), .hole, .hole, .hole, .hole], [.seq false, .cells true [.hole, .hole], .cells true [.hole, .hole]], [0, 0, 2, 2, 0, 1, 2, 1, 2], [.sl (.one (.sl (.one (.int .i64)))), .sl (.one (.sl (.one (.int .i64)))), .int .i64, .int .i64, .sl (.cons (.sl (.one (.int .i64))) (.cons (.int .i64) (.cons (.sl (.one (.int .i64))) (.one (.int .i64))))), .sl (.one (.int .i64)), .int .i64, .sl (.one (.int .i64)), .int .i64]⟩⟩
def w34_u0_e : Exs := [((.exit 0), ⟨[1], ⟨[(.view 0)], [.seq false], [0], [.sl (.cons (.sl (.one (.int .i64))) (.cons (.int .i64) (.cons (.sl (.one (.int .i64))) (.one (.int .i64)))))]⟩⟩)]
def w34_u0_a : AC := .run
def w34_u0 : Un := lpU w34_v.fz [29, 30, 11, 31, 32, 33, 34, 35, 36, 37, 38, 39, 40, 41, 42, 43, 44, 45, 46, 47, 48, 1, 49, 28] w34_u0_h w34_u0_e (lp unify_run_pairs_1_L0 fuel)
theorem w34_u0_s (f : w34_u0_h.X → Option (YT w34_u0_e)) (x : w34_u0_h.X) : E w34_v (subC (bodyOf Tryz.f164) [1, 1, 0, 1, 0, 0]) (w34_u0_a) (mkS w34_u0_h 8 x) (roundK w34_v.fz w34_u0_h w34_u0_e f) = unify_run_pairs_1_L0 f x := by kernel_rfl
theorem w34_u0_ok {X : Fx} (hX : VOk Tryz.prog X w34_v) : UnOk Tryz.prog X w34_v (subC (bodyOf Tryz.f164) [1, 1, 0, 1, 0]) w34_u0 :=
 lp_un' (c := (subC (bodyOf Tryz.f164) [1, 1, 0, 1, 0, 0])) (by kernel_rfl) (env_all tb_ok (w34_gs)) hord (ob := []) (by kernel_rfl) (fun X hX => obl_nil) (w34_u0_s) (by kernel_rfl) (by kernel_rfl) hX
def w34_a : AC := (.seq .run (.seq .run (.seq (.seq .run (.block (.unit w34_u0))) .run)))
theorem w34_s (x : TupL w34_c.inp.hs) : E w34_v (bodyOf Tryz.f164) (w34_a) (w34_c.entry x) (retSK tb w34_v.fz w34_c [.tmp 8] x) = w34_c.F x := by kernel_rfl
theorem w34_ok : ShOk Tryz.prog gl 164 w34_c :=
 fn_ok (l := w34_g) (n := Tryz.f164.ntmps) (code := bodyOf Tryz.f164) (rts := [.tmp 8]) tb_ok hord (w34_gs) Tryz.func164 (by kernel_rfl) (by kernel_rfl) rfl (by kernel_rfl) (ac := w34_a) (ob := [((subC (bodyOf Tryz.f164) [1, 1, 0, 1, 0]), w34_u0)]) (by kernel_rfl) (fun X hX => (obl_cons (w34_u0_ok hX) obl_nil)) (by kernel_rfl) (w34_s)
def w35_c : ShC := { inp := ⟨[(.agg [.hole, .hole]), .hole], [], [1, 1, 1], [.sl (.one (.int .i64)), .int .i64, .int .i64]⟩, out := ⟨[.hole], [], [2], [.int .i64]⟩, nres := 1, ms := [], mu := [], leak := false, glob := false, F := fun (x : ((List Int) × Int × Int)) => unify_piece_number x.1 x.2.1 x.2.2 }
-- (unify.piece).number
def w35_g : List (Nat × Con) := [(35, .gen (altE [w6_c]))]
def w35_v : Env := envOf tb gl w35_g w35_c Tryz.f167.ntmps
theorem w35_gs : Goods Tryz.prog (cond w35_c.glob gl fun _ => none) w35_g := (goods_cons (good_alt (alls_cons (w6_ok.anyGl rfl) alls_nil)) goods_nil)
def w35_a : AC := .run
theorem w35_s (x : TupL w35_c.inp.hs) : E w35_v (bodyOf Tryz.f167) (w35_a) (w35_c.entry x) (retSK tb w35_v.fz w35_c [.tmp 4] x) = w35_c.F x := by kernel_rfl
theorem w35_ok : ShOk Tryz.prog gl 167 w35_c :=
 fn_ok (l := w35_g) (n := Tryz.f167.ntmps) (code := bodyOf Tryz.f167) (rts := [.tmp 4]) tb_ok hord (w35_gs) Tryz.func167 (by kernel_rfl) (by kernel_rfl) rfl (by kernel_rfl) (ac := w35_a) (ob := []) (by kernel_rfl) (fun X hX => obl_nil) (by kernel_rfl) (w35_s)
def w36_c : ShC := { inp := ⟨[(.ptr 0 0), (.agg [.hole, .hole])], [.cells true [.hole, .hole]], [1, 1, 1, 1], [.sl (.one (.int .i64)), .int .i64, .sl tSym, .ar (.cons (.ns (.one (.int .i64))) (.one (.int .i64))) 48]⟩, out := ⟨[(.agg [.hole, .hole])], [], [1, 2], [.sl (.one (.int .i64)), .int .i64]⟩, nres := 1, ms := [], mu := [], leak := true, glob := false, F := fun (x : ((List Int) × Int × (List QSym) × (List ((Option (List Int)) × Int)))) => unify_run_what x.1 x.2.1 x.2.2.1 x.2.2.2 }
-- (*unify.run).what
def w36_g : List (Nat × Con) := [(167, .gen (altE [w35_c]))]
def w36_v : Env := envOf tb gl w36_g w36_c Tryz.f165.ntmps
theorem w36_gs : Goods Tryz.prog (cond w36_c.glob gl fun _ => none) w36_g := (goods_cons (good_alt (alls_cons (w35_ok.anyGl rfl) alls_nil)) goods_nil)
def w36_u0_h : SS := ⟨[0, 3, 4], ⟨[(.ptr 0 0), (.ptr 1 0), (.ptr 2 0)], [.cells true [.hole, .hole], .cells false [.hole, .hole], .cells true [.nilv, .hole]], [1, 1, 1, 2, 2], [.sl tSym, .ar (.cons (.ns (.one (.int .i64))) (.one (.int .i64))) 48, .sl (.one (.int .i64)), .int .i64, .int .i64]⟩⟩
def w36_u0_e : Exs := [((.exit 0), ⟨[3], ⟨[(.ptr 0 0)], [.cells false [.hole, .hole]], [1, 2], [.sl (.one (.int .i64)), .int .i64]⟩⟩)]
def w36_u0_a : AC := .run
def w36_u0 : Un := lpU w36_v.fz [6, 7, 8, 9, 10, 11, 12, 13, 14, 15, 16, 17, 18, 19, 20, 21, 5, 22, 23, 24, 25] w36_u0_h w36_u0_e (lp unify_run_what_L0 fuel)
theorem w36_u0_s (f : w36_u0_h.X → Option (YT w36_u0_e)) (x : w36_u0_h.X) : E w36_v (subC (bodyOf Tryz.f165) [1, 0, 0, 0]) (w36_u0_a) (mkS w36_u0_h 8 x) (roundK w36_v.fz w36_u0_h w36_u0_e f) = unify_run_what_L0 f x := by kernel_rfl
theorem w36_u0_ok {X : Fx} (hX : VOk Tryz.prog X w36_v) : UnOk Tryz.prog X w36_v (subC (bodyOf Tryz.f165) [1, 0, 0]) w36_u0 :=
 lp_un' (c := (subC (bodyOf Tryz.f165) [1, 0, 0, 0])) (by kernel_rfl) (env_all tb_ok (w36_gs)) hord (ob := []) (by kernel_rfl) (fun X hX => obl_nil) (w36_u0_s) (by kernel_rfl) (by kernel_rfl) hX
def w36_a : AC := (.seq .run (.seq (.block (.unit w36_u0)) .run))
theorem w36_s (x : TupL w36_c.inp.hs) : E w36_v (bodyOf Tryz.f165) (w36_a) (w36_c.entry x) (retSK tb w36_v.fz w36_c [.cell 4 172] x) = w36_c.F x := by kernel_rfl
theorem w36_ok : ShOk Tryz.prog gl 165 w36_c :=
 fn_ok (l := w36_g) (n := Tryz.f165.ntmps) (code := bodyOf Tryz.f165) (rts := [.cell 4 172]) tb_ok hord (w36_gs) Tryz.func165 (by kernel_rfl) (by kernel_rfl) rfl (by kernel_rfl) (ac := w36_a) (ob := [((subC (bodyOf Tryz.f165) [1, 0, 0]), w36_u0)]) (by kernel_rfl) (fun X hX => (obl_cons (w36_u0_ok hX) obl_nil)) (by kernel_rfl) (w36_s)
def w37_c : ShC := { inp := ⟨[(.ptr 0 0), .hole, (.agg [.hole, .hole])], [.cells true [.hole, .hole]], [1, 1, 1, 1, 1], [.int .i64, .sl (.one (.int .i64)), .int .i64, .sl tSym, .ar (.cons (.ns (.one (.int .i64))) (.one (.int .i64))) 48]⟩, out := ⟨[.hole], [], [2], [.bool]⟩, nres := 1, ms := [], mu := [], leak := false, glob := false, F := fun (x : (Int × (List Int) × Int × (List QSym) × (List ((Option (List Int)) × Int)))) => unify_run_within x.1 x.2.1 x.2.2.1 x.2.2.2.1 x.2.2.2.2 }
-- (*unify.run).within
def w37_g : List (Nat × Con) := [(167, .gen (altE [w35_c])), (1000027, .gen (altE []))]
def w37_v : Env := envOf tb gl w37_g w37_c Tryz.f181.ntmps
theorem w37_gs : Goods Tryz.prog (cond w37_c.glob gl fun _ => none) w37_g := (goods_cons (good_alt (alls_cons (w35_ok.anyGl rfl) alls_nil)) (goods_cons (good_alt alls_nil) goods_nil))
def w37_u0_h : SS := ⟨[0, 1, 5, 7, 8, 29, 30, 31], ⟨[(.ptr 0 0), .hole, (.ptr 1 0), (.aptr 2), (.view 3), .hole, .hole, .hole], [.cells true [.hole, .hole], .cells true [.hole, .hole], .seq false, .seq false], [2, 0, 2, 2, 1, 1, 0, 2, 2, 0], [.int .i64, .sl (.one (.int .i64)), .int .i64, .int .i64, .sl tSym, .ar (.cons (.ns (.one (.int .i64))) (.one (.int .i64))) 48, .sl (.one (.int .i64)), .int .i64, .sl (.one .bool), .sl (.cons (.sl (.one (.int .i64))) (.one (.int .i64)))]⟩⟩
def w37_u0_e : Exs := [((.exit 2), ⟨[7, 8], ⟨[(.aptr 0), (.view 1)], [.seq false, .seq false], [2, 0], [.sl (.one .bool), .sl (.cons (.sl (.one (.int .i64))) (.one (.int .i64)))]⟩⟩), (.ret, ⟨[6], ⟨[.hole], [], [2], [.bool]⟩⟩)]
def w37_u0_a : AC := .run
def w37_u0 : Un := lpU w37_v.fz [32, 33, 34, 10, 35, 36, 37, 38, 39, 11, 40, 41, 42, 6, 43, 44, 45, 46, 47, 48, 49, 50, 51, 52, 53, 54, 55, 56, 57, 58, 59, 60, 61, 62, 63, 64, 65, 66, 67, 8, 68, 31] w37_u0_h w37_u0_e (lp unify_run_within_L0 fuel)
theorem w37_u0_s (f : w37_u0_h.X → Option (YT w37_u0_e)) (x : w37_u0_h.X) : E w37_v (subC (bodyOf Tryz.f181) [1, 1, 1, 0, 0, 0, 1, 0, 1, 1, 1, 0, 0]) (w37_u0_a) (mkS w37_u0_h 8 x) (roundK w37_v.fz w37_u0_h w37_u0_e f) = unify_run_within_L0 f x := by kernel_rfl
theorem w37_u0_ok {X : Fx} (hX : VOk Tryz.prog X w37_v) : UnOk Tryz.prog X w37_v (subC (bodyOf Tryz.f181) [1, 1, 1, 0, 0, 0, 1, 0, 1, 1, 1, 0]) w37_u0 :=
 lp_un' (c := (subC (bodyOf Tryz.f181) [1, 1, 1, 0, 0, 0, 1, 0, 1, 1, 1, 0, 0])) (by kernel_rfl) (env_all tb_ok (w37_gs)) hord (ob := []) (by kernel_rfl) (fun X hX => obl_nil) (w37_u0_s) (by kernel_rfl) (by kernel_rfl) hX
def w37_u1_h : SS := ⟨[0, 1, 5, 7, 8], ⟨[(.ptr 0 0), .hole, (.ptr 1 0), (.aptr 2), (.view 3)], [.cells true [.hole, .hole], .cells false [.hole, .hole], .seq false, .seq false], [2, 1, 1, 0, 2, 2, 0], [.int .i64, .sl tSym, .ar (.cons (.ns (.one (.int .i64))) (.one (.int .i64))) 48, .sl (.one (.int .i64)), .int .i64, .sl (.one .bool), .sl (.cons (.sl (.one (.int .i64))) (.one (.int .i64)))]⟩⟩
def w37_u1_e : Exs := [((.exit 0), ⟨[], ⟨[], [], [], []⟩⟩), (.ret, ⟨[6], ⟨[.hole], [], [2], [.bool]⟩⟩)]
def w37_u1_a : AC := (.seq .run (.block (.seq .run (.seq .run (.seq .run (.block (.unit w37_u0)))))))
def w37_u1 : Un := lpU w37_v.fz [14, 15, 16, 17, 18, 19, 20, 21, 22, 23, 24, 25, 26, 27, 8, 28, 29, 30, 31, 32, 33, 34, 10, 35, 36, 37, 38, 39, 11, 40, 41, 42, 6, 43, 44, 45, 46, 47, 48, 49, 50, 51, 52, 53, 54, 55, 56, 57, 58, 59, 60, 61, 62, 63, 64, 65, 66, 67, 8, 68, 31] w37_u1_h w37_u1_e (lp unify_run_within_L1 fuel)
theorem w37_u1_s (f : w37_u1_h.X → Option (YT w37_u1_e)) (x : w37_u1_h.X) : E w37_v (subC (bodyOf Tryz.f181) [1, 1, 1, 0, 0, 0]) (w37_u1_a) (mkS w37_u1_h 8 x) (roundK w37_v.fz w37_u1_h w37_u1_e f) = unify_run_within_L1 f x := by kernel_rfl
theorem w37_u1_ok {X : Fx} (hX : VOk Tryz.prog X w37_v) : UnOk Tryz.prog X w37_v (subC (bodyOf Tryz.f181) [1, 1, 1, 0, 0]) w37_u1 :=
 lp_un' (c := (subC (bodyOf Tryz.f181) [1, 1, 1, 0, 0, 0])) (by kernel_rfl) (env_all tb_ok (w37_gs)) hord (ob := [((subC (bodyOf Tryz.f181) [1, 1, 1, 0, 0, 0, 1, 0, 1, 1, 1, 0]), w37_u0)]) (by kernel_rfl) (fun X hX => (obl_cons (w37_u0_ok hX) obl_nil)) (w37_u1_s) (by kernel_rfl) (by kernel_rfl) hX
def w37_a : AC := (.seq .run (.seq .run (.seq .run (.seq (.block (.unit w37_u1)) .run))))
theorem w37_s (x : TupL w37_c.inp.hs) : E w37_v (bodyOf Tryz.f181) (w37_a) (w37_c.entry x) (retSK tb w37_v.fz w37_c [.tmp 6] x) = w37_c.F x := by kernel_rfl
theorem w37_ok : ShOk Tryz.prog gl 181 w37_c :=
 fn_ok (l := w37_g) (n := Tryz.f181.ntmps) (code := bodyOf Tryz.f181) (rts := [.tmp 6]) tb_ok hord (w37_gs) Tryz.func181 (by kernel_rfl) (by kernel_rfl) rfl (by kernel_rfl) (ac := w37_a) (ob := [((subC (bodyOf Tryz.f181) [1, 1, 1, 0, 0]), w37_u1)]) (by kernel_rfl) (fun X hX => (obl_cons (w37_u1_ok hX) obl_nil)) (by kernel_rfl) (w37_s)
def w38_c : ShC := { inp := ⟨[(.ptr 0 0), (.agg [.hole, .hole]), (.agg [.hole, .hole])], [.cells false [.hole, .hole]], [1, 1, 1, 1, 1, 1], [.sl (.one (.int .i64)), .int .i64, .sl (.one (.int .i64)), .int .i64, .sl tSym, .ar (.cons (.ns (.one (.int .i64))) (.one (.int .i64))) 48]⟩, out := ⟨[.hole, (.ptr 0 0)], [.cells false [.hole, .hole]], [2, 1, 0], [.bool, .sl tSym, .ar (.cons (.ns (.one (.int .i64))) (.one (.int .i64))) 48]⟩, nres := 1, ms := [0], mu := [(0, 0)], leak := true, glob := false, F := fun (x : ((List Int) × Int × (List Int) × Int × (List QSym) × (List ((Option (List Int)) × Int)))) => unify_run_put_1 x.1 x.2.1 x.2.2.1 x.2.2.2.1 x.2.2.2.2.1 x.2.2.2.2.2 }
-- (*unify.run).put
def w38_g : List (Nat × Con) := [(167, .gen (altE [w35_c])), (181, .gen (altE [w37_c]))]
def w38_v : Env := envOf tb gl w38_g w38_c Tryz.f166.ntmps
theorem w38_gs : Goods Tryz.prog (cond w38_c.glob gl fun _ => none) w38_g := (goods_cons (good_alt (alls_cons (w35_ok.anyGl rfl) alls_nil)) (goods_cons (good_alt (alls_cons (w37_ok.anyGl rfl) alls_nil)) goods_nil))
def w38_a : AC := .run
theorem w38_s (x : TupL w38_c.inp.hs) : E w38_v (bodyOf Tryz.f166) (w38_a) (w38_c.entry x) (retSK tb w38_v.fz w38_c [.tmp 6] x) = w38_c.F x := by kernel_rfl
theorem w38_ok : ShOk Tryz.prog gl 166 w38_c :=
 fn_ok (l := w38_g) (n := Tryz.f166.ntmps) (code := bodyOf Tryz.f166) (rts := [.tmp 6]) tb_ok hord (w38_gs) Tryz.func166 (by kernel_rfl) (by kernel_rfl) rfl (by kernel_rfl) (ac := w38_a) (ob := []) (by kernel_rfl) (fun X hX => obl_nil) (by kernel_rfl) (w38_s)
def w39_c : ShC := { inp := ⟨[(.ptr 0 0), (.agg [.hole, .hole]), (.agg [.hole, .hole])], [.cells false [.hole, .hole]], [1, 1, 1, 1, 1, 1], [.sl (.one (.int .i64)), .int .i64, .sl (.one (.int .i64)), .int .i64, .sl tSym, .ar (.cons (.ns (.one (.int .i64))) (.one (.int .i64))) 48]⟩, out := ⟨[.hole, (.ptr 0 0)], [.cells false [.hole, .hole]], [2, 0, 0], [.bool, .sl tSym, .ar (.cons (.ns (.one (.int .i64))) (.one (.int .i64))) 48]⟩, nres := 1, ms := [0], mu := [(0, 0)], leak := true, glob := false, F := fun (x : ((List Int) × Int × (List Int) × Int × (List QSym) × (List ((Option (List Int)) × Int)))) => unify_run_same_1 x.1 x.2.1 x.2.2.1 x.2.2.2.1 x.2.2.2.2.1 x.2.2.2.2.2 }
-- (*unify.run).same
def w39_g : List (Nat × Con) := [(164, .gen (altE [w34_c])), (165, .gen (altE [w36_c])), (166, .gen (altE [w38_c])), (1000039, .gen (altE []))]
def w39_v : Env := envOf tb gl w39_g w39_c Tryz.f135.ntmps
theorem w39_gs : Goods Tryz.prog (cond w39_c.glob gl fun _ => none) w39_g := (goods_cons (good_alt (alls_cons (w34_ok.anyGl rfl) alls_nil)) (goods_cons (good_alt (alls_cons (w36_ok.anyGl rfl) alls_nil)) (goods_cons (good_alt (alls_cons (w38_ok.anyGl rfl) alls_nil)) (goods_cons (good_alt alls_nil) goods_nil))))
def w39_u0_j : Exs := [(.goto 0, ⟨[0, 7], ⟨[(.ptr 0 0), (.view 1)], [.cells false [.hole, .hole], .seq false], [0, 0, 0], [.sl tSym, .ar (.cons (.ns (.one (.int .i64))) (.one (.int .i64))) 48, .sl (.cons (.sl (.one (.int .i64))) (.cons (.int .i64) (.cons (.sl (.one (.int .i64))) (.one (.int .i64)))))]⟩⟩)]
def w39_u0_e : Exs := [(.ret, ⟨[0, 6], ⟨[(.ptr 0 0), .hole], [.cells false [.hole, .hole]], [2, 0, 0], [.bool, .sl tSym, .ar (.cons (.ns (.one (.int .i64))) (.one (.int .i64))) 48]⟩⟩)]
def w39_u0_a : AC := .run
def w39_u0_l : List (Nat × AC) := []
def w39_u0 : Un := scU w39_v [10, 11, 12, 13, 7, 14, 15, 16, 6, 17, 18, 19, 20, 21, 22, 23, 24, 25, 26, 27, 28, 29, 30, 31, 32, 33, 34, 8, 9, 35, 36, 37, 38, 39, 7, 41, 42, 43, 44, 45, 40, 46, 47, 48, 49, 6, 51, 52, 53, 54, 55, 50, 56, 57, 58, 59, 6, 61, 62, 63, 64, 65, 66, 67, 68, 69, 60, 6, 70, 71, 72, 73, 74, 75, 76, 77, 78, 79, 80, 81, 82, 83, 84, 7] w39_u0_j w39_u0_e (subC (bodyOf Tryz.f135) [1, 0]) (w39_u0_a) (lp unify_run_same_1_L0 fuel)
theorem w39_u0_s (f : YT w39_u0_j → Option (YT w39_u0_e)) (x : YT w39_u0_j) : passE w39_v (subC (bodyOf Tryz.f135) [1, 0]) (acsOf (w39_u0_l)) w39_u0_j w39_u0_e f x = unify_run_same_1_L0 f x := by kernel_rfl
theorem w39_u0_ok {X : Fx} (hX : VOk Tryz.prog X w39_v) : UnOk Tryz.prog X w39_v (subC (bodyOf Tryz.f135) [1]) w39_u0 :=
 sc_un' (c := (subC (bodyOf Tryz.f135) [1, 0])) (by kernel_rfl) (env_all tb_ok (w39_gs)) hord (ob := []) (by kernel_rfl) (fun X hX => obl_nil) (fun X hX => acs_ok acl_nil) (w39_u0_s) (by kernel_rfl) (by kernel_rfl) (by kernel_rfl) hX
def w39_a : AC := (.seq .run (.unit w39_u0))
theorem w39_s (x : TupL w39_c.inp.hs) : E w39_v (bodyOf Tryz.f135) (w39_a) (w39_c.entry x) (retSK tb w39_v.fz w39_c [.tmp 6] x) = w39_c.F x := by kernel_rfl
theorem w39_ok : ShOk Tryz.prog gl 135 w39_c :=
 fn_ok (l := w39_g) (n := Tryz.f135.ntmps) (code := bodyOf Tryz.f135) (rts := [.tmp 6]) tb_ok hord (w39_gs) Tryz.func135 (by kernel_rfl) (by kernel_rfl) rfl (by kernel_rfl) (ac := w39_a) (ob := [((subC (bodyOf Tryz.f135) [1]), w39_u0)]) (by kernel_rfl) (fun X hX => (obl_cons (w39_u0_ok hX) obl_nil)) (by kernel_rfl) (w39_s)
def w40_c : ShC := { inp := ⟨[(.agg [.hole, .hole]), .hole], [], [1, 1, 1], [.ns (.one (.int .i64)), .int .i64, .int .i64]⟩, out := ⟨[.hole], [], [2], [.int .i64]⟩, nres := 1, ms := [], mu := [], leak := false, glob := false, F := fun (x : ((Option (List Int)) × Int × Int)) => unify_piece_number_1 x.1 x.2.1 x.2.2 }
-- (unify.piece).number
def w40_g : List (Nat × Con) := [(35, .gen (altE [w6_c]))]
def w40_v : Env := envOf tb gl w40_g w40_c Tryz.f167.ntmps
theorem w40_gs : Goods Tryz.prog (cond w40_c.glob gl fun _ => none) w40_g := (goods_cons (good_alt (alls_cons (w6_ok.anyGl rfl) alls_nil)) goods_nil)
def w40_a : AC := .run
theorem w40_s (x : TupL w40_c.inp.hs) : E w40_v (bodyOf Tryz.f167) (w40_a) (w40_c.entry x) (retSK tb w40_v.fz w40_c [.tmp 4] x) = w40_c.F x := by kernel_rfl
theorem w40_ok : ShOk Tryz.prog gl 167 w40_c :=
 fn_ok (l := w40_g) (n := Tryz.f167.ntmps) (code := bodyOf Tryz.f167) (rts := [.tmp 4]) tb_ok hord (w40_gs) Tryz.func167 (by kernel_rfl) (by kernel_rfl) rfl (by kernel_rfl) (ac := w40_a) (ob := []) (by kernel_rfl) (fun X hX => obl_nil) (by kernel_rfl) (w40_s)
def w41_ck (k : Nat) : ShC := { inp := ⟨[(.ptr 0 0), (.agg [.hole, .hole])], [.cells true [.hole, .hole]], [1, 1, 1, 1], [.ns (.one (.int .i64)), .int .i64, .sl tSym, .ar (.cons (.ns (.one (.int .i64))) (.one (.int .i64))) 48]⟩, out := ⟨[.hole], [], [2], [.ns (.one (.int .i64))]⟩, nres := 1, ms := [], mu := [], leak := false, glob := false, F := (unify_run_whole_R k) }
def w41_c : ShC := { inp := ⟨[(.ptr 0 0), (.agg [.hole, .hole])], [.cells true [.hole, .hole]], [1, 1, 1, 1], [.ns (.one (.int .i64)), .int .i64, .sl tSym, .ar (.cons (.ns (.one (.int .i64))) (.one (.int .i64))) 48]⟩, out := ⟨[.hole], [], [2], [.ns (.one (.int .i64))]⟩, nres := 1, ms := [], mu := [], leak := false, glob := false, F := fun (x : ((Option (List Int)) × Int × (List QSym) × (List ((Option (List Int)) × Int)))) => unify_run_whole x.1 x.2.1 x.2.2.1 x.2.2.2 }
def w41_R_H (k : Nat) : Prop := ShOk Tryz.prog gl 136 (w41_ck k)
-- (*unify.run).whole
def w41_g (k : Nat) : List (Nat × Con) := [(136, .gen (altE [w41_ck k])), (167, .gen (altE [w40_c]))]
def w41_v (k : Nat) : Env := envOf tb gl (w41_g k) (w41_ck (k + 1)) Tryz.f136.ntmps
theorem w41_gs (k : Nat) (h : w41_R_H k) : Goods Tryz.prog (cond (w41_ck (k + 1)).glob gl fun _ => none) (w41_g k) := (goods_cons (good_alt (alls_cons (h.anyGl rfl) alls_nil)) (goods_cons (good_alt (alls_cons (w40_ok.anyGl rfl) alls_nil)) goods_nil))
def w41_u0_h : SS := ⟨[0, 3, 5, 10, 11, 12], ⟨[(.ptr 0 0), (.ptr 1 0), (.view 2), .hole, .hole, .hole], [.cells true [.hole, .hole], .cells true [.hole, .hole], .seq false], [1, 2, 2, 1, 1, 1, 2, 2], [.ns (.one (.int .i64)), .int .i64, .int .i64, .sl tSym, .ar (.cons (.ns (.one (.int .i64))) (.one (.int .i64))) 48, .ns (.one (.int .i64)), .int .i64, .sl (.one (.int .i64))]⟩⟩
def w41_u0_e : Exs := [((.exit 0), ⟨[5], ⟨[(.view 0)], [.seq false], [2], [.sl (.one (.int .i64))]⟩⟩), (.ret, ⟨[4], ⟨[.nilv], [], [], []⟩⟩)]
def w41_u0_a (k : Nat) : AC := .run
def w41_u0 (k : Nat) : Un := lpU (w41_v k).fz [13, 14, 15, 7, 16, 17, 8, 18, 19, 20, 21, 22, 23, 24, 25, 26, 27, 28, 29, 30, 31, 32, 33, 34, 35, 36, 37, 38, 39, 40, 41, 8, 42, 43, 44, 45, 46, 47, 48, 49, 50, 51, 4, 52, 53, 54, 5, 55, 12] w41_u0_h w41_u0_e (lp (unify_run_whole_L0 (unify_run_whole_R k)) fuel)
theorem w41_u0_s (k : Nat) (f : w41_u0_h.X → Option (YT w41_u0_e)) (x : w41_u0_h.X) : E (w41_v k) (subC (bodyOf Tryz.f136) [1, 1, 0, 1, 0, 0]) (w41_u0_a k) (mkS w41_u0_h 8 x) (roundK (w41_v k).fz w41_u0_h w41_u0_e f) = (unify_run_whole_L0 (unify_run_whole_R k)) f x := by kernel_rfl
theorem w41_u0_ok (k : Nat) (h : w41_R_H k) {X : Fx} (hX : VOk Tryz.prog X (w41_v k)) : UnOk Tryz.prog X (w41_v k) (subC (bodyOf Tryz.f136) [1, 1, 0, 1, 0]) (w41_u0 k) :=
 lp_un' (c := (subC (bodyOf Tryz.f136) [1, 1, 0, 1, 0, 0])) (by kernel_rfl) (env_all tb_ok (w41_gs k h)) hord (ob := []) (by kernel_rfl) (fun X hX => obl_nil) (w41_u0_s k) (by kernel_rfl) (by kernel_rfl) hX
def w41_a (k : Nat) : AC := (.seq .run (.seq .run (.seq (.seq .run (.block (.unit (w41_u0 k)))) .run)))
theorem w41_s (k : Nat) (x : TupL (w41_ck (k + 1)).inp.hs) : E (w41_v k) (bodyOf Tryz.f136) (w41_a k) ((w41_ck (k + 1)).entry x) (retSK tb (w41_v k).fz (w41_ck (k + 1)) [.tmp 4] x) = (w41_ck (k + 1)).F x := by kernel_rfl
theorem w41_ok1 (k : Nat) (h : w41_R_H k) : ShOk Tryz.prog gl 136 (w41_ck (k + 1)) :=
 fn_ok (l := w41_g k) (n := Tryz.f136.ntmps) (code := bodyOf Tryz.f136) (rts := [.tmp 4]) tb_ok hord (w41_gs k h) Tryz.func136 (by kernel_rfl) (by kernel_rfl) rfl (by kernel_rfl) (ac := w41_a k) (ob := [((subC (bodyOf Tryz.f136) [1, 1, 0, 1, 0]), w41_u0 k)]) (by kernel_rfl) (fun X hX => (obl_cons (w41_u0_ok k h hX) obl_nil)) (by kernel_rfl) (w41_s k)
theorem w41_R_all : ∀ k, w41_R_H k
 | 0 => ⟨by kernel_rfl, fun w A g vs x y _ _ _ h => by cases h⟩
 | k + 1 => have h := w41_R_all k; w41_ok1 k h
theorem w41_ok : ShOk Tryz.prog gl 136 w41_c := (w41_R_all fuel)
def w42_c : ShC := { inp := ⟨[.hole, .hole, .hole], [], [1, 1, 1], [.sl tSym, .sl (.one (.int .i64)), .sl (.one (.int .i64))]⟩, out := ⟨[(.view 0), .hole, .hole], [.seq false], [2, 2, 2], [.bool, .int .i64, .sl (.cons (.int .i64) (.one (.sl (.one (.int .i64)))))]⟩, nres := 3, ms := [], mu := [], leak := false, glob := true, F := fun (x : ((List QSym) × (List Int) × (List Int))) => unify_Unify x.1 x.2.1 x.2.2 }
-- unify.Unify
def w42_g : List (Nat × Con) := [(80, .gen (altE [w28_c])), (83, .gen (altE [w13_c])), (135, .gen (altE [w39_c])), (136, .gen (altE [w41_c]))]
def w42_v : Env := envOf tb gl w42_g w42_c Tryz.f93.ntmps
theorem w42_gs : Goods Tryz.prog (cond w42_c.glob gl fun _ => none) w42_g := (goods_cons (good_alt (alls_cons (w28_ok.anyGl rfl) alls_nil)) (goods_cons (good_alt (alls_cons w13_ok alls_nil)) (goods_cons (good_alt (alls_cons (w39_ok.anyGl rfl) alls_nil)) (goods_cons (good_alt (alls_cons (w41_ok.anyGl rfl) alls_nil)) goods_nil))))
def w42_u0_h : SS := ⟨[13, 14, 50], ⟨[(.ptr 0 0), (.view 1), .hole], [.cells true [.hole, .hole], .seq false], [2, 0, 0, 2], [.int .i64, .sl tSym, .ar (.cons (.ns (.one (.int .i64))) (.one (.int .i64))) 48, .sl (.cons (.int .i64) (.one (.sl (.one (.int .i64)))))]⟩⟩
def w42_u0_e : Exs := [((.exit 0), ⟨[14], ⟨[(.view 0)], [.seq false], [2], [.sl (.cons (.int .i64) (.one (.sl (.one (.int .i64)))))]⟩⟩), (.ret, ⟨[6, 7, 8], ⟨[.nilv, .hole, .hole], [], [2, 2], [.bool, .int .i64]⟩⟩)]
def w42_u0_a : AC := .run
def w42_u0 : Un := lpU w42_v.fz [51, 52, 15, 53, 54, 55, 56, 57, 58, 59, 60, 61, 62, 63, 64, 65, 66, 67, 68, 16, 69, 70, 6, 7, 8, 71, 72, 73, 74, 75, 76, 77, 14, 78, 50] w42_u0_h w42_u0_e (lp unify_Unify_L0 fuel)
theorem w42_u0_s (f : w42_u0_h.X → Option (YT w42_u0_e)) (x : w42_u0_h.X) : E w42_v (subC (bodyOf Tryz.f93) [1, 1, 1, 1, 1, 1, 1, 0, 1, 0, 0]) (w42_u0_a) (mkS w42_u0_h 8 x) (roundK w42_v.fz w42_u0_h w42_u0_e f) = unify_Unify_L0 f x := by kernel_rfl
theorem w42_u0_ok {X : Fx} (hX : VOk Tryz.prog X w42_v) : UnOk Tryz.prog X w42_v (subC (bodyOf Tryz.f93) [1, 1, 1, 1, 1, 1, 1, 0, 1, 0]) w42_u0 :=
 lp_un' (c := (subC (bodyOf Tryz.f93) [1, 1, 1, 1, 1, 1, 1, 0, 1, 0, 0])) (by kernel_rfl) (env_all tb_ok (w42_gs)) hord (ob := []) (by kernel_rfl) (fun X hX => obl_nil) (w42_u0_s) (by kernel_rfl) (by kernel_rfl) hX
def w42_a : AC := (.seq .run (.seq .run (.seq .run (.seq .run (.seq .run (.seq .run (.seq .run (.seq (.seq .run (.block (.unit w42_u0))) .run))))))))
theorem w42_s (x : TupL w42_c.inp.hs) : E w42_v (bodyOf Tryz.f93) (w42_a) (w42_c.entry x) (retSK tb w42_v.fz w42_c [.tmp 6, .tmp 7, .tmp 8] x) = w42_c.F x := by kernel_rfl
theorem w42_ok : ShOk Tryz.prog gl 93 w42_c :=
 fn_ok (l := w42_g) (n := Tryz.f93.ntmps) (code := bodyOf Tryz.f93) (rts := [.tmp 6, .tmp 7, .tmp 8]) tb_ok hord (w42_gs) Tryz.func93 (by kernel_rfl) (by kernel_rfl) rfl (by kernel_rfl) (ac := w42_a) (ob := [((subC (bodyOf Tryz.f93) [1, 1, 1, 1, 1, 1, 1, 0, 1, 0]), w42_u0)]) (by kernel_rfl) (fun X hX => (obl_cons (w42_u0_ok hX) obl_nil)) (by kernel_rfl) (w42_s)
def w43_c : ShC := { inp := ⟨[.nilv, .hole], [], [1], [.int .i64]⟩, out := ⟨[(.view 0)], [.seq false], [2], [.sl (.one (.sl (.one (.int .i64))))]⟩, nres := 1, ms := [], mu := [], leak := false, glob := false, F := fun (x : Int) => slices_Grow x }
-- slices.Grow[[][]int,[]int]
def w43_g : List (Nat × Con) := [(1000025, .gen (altE []))]
def w43_v : Env := envOf tb gl w43_g w43_c Tryz.f139.ntmps
theorem w43_gs : Goods Tryz.prog (cond w43_c.glob gl fun _ => none) w43_g := (goods_cons (good_alt alls_nil) goods_nil)
def w43_a : AC := .run
theorem w43_s (x : TupL w43_c.inp.hs) : E w43_v (bodyOf Tryz.f139) (w43_a) (w43_c.entry x) (retSK tb w43_v.fz w43_c [.tmp 4] x) = w43_c.F x := by kernel_rfl
theorem w43_ok : ShOk Tryz.prog gl 139 w43_c :=
 fn_ok (l := w43_g) (n := Tryz.f139.ntmps) (code := bodyOf Tryz.f139) (rts := [.tmp 4]) tb_ok hord (w43_gs) Tryz.func139 (by kernel_rfl) (by kernel_rfl) rfl (by kernel_rfl) (ac := w43_a) (ob := []) (by kernel_rfl) (fun X hX => obl_nil) (by kernel_rfl) (w43_s)
def w44_c : ShC := { inp := ⟨[.hole], [], [1], [.sl (.one (.sl (.one (.sl (.one (.int .i64))))))]⟩, out := ⟨[(.view 0)], [.seq false], [0], [.sl (.one (.sl (.one (.int .i64))))]⟩, nres := 1, ms := [], mu := [], leak := true, glob := false, F := fun (x : (List (List (List Int)))) => slices_Concat x }
-- slices.Concat[[][]int,[]int]
def w44_g : List (Nat × Con) := [(139, .gen (altE [w43_c]))]
def w44_v : Env := envOf tb gl w44_g w44_c Tryz.f95.ntmps
theorem w44_gs : Goods Tryz.prog (cond w44_c.glob gl fun _ => none) w44_g := (goods_cons (good_alt (alls_cons (w43_ok.anyGl rfl) alls_nil)) goods_nil)
def w44_u1_h : SS := ⟨[6, 25, 26, 27], ⟨[(.view 0), .hole, .hole, .hole], [.seq false], [1, 2, 2, 0], [.sl (.one (.sl (.one (.sl (.one (.int .i64)))))), .int .i64, .int .i64, .sl (.one (.sl (.one (.int .i64))))]⟩⟩
def w44_u1_e : Exs := [((.exit 2), ⟨[6], ⟨[(.view 0)], [.seq false], [0], [.sl (.one (.sl (.one (.int .i64))))]⟩⟩)]
def w44_u1_a : AC := .run
def w44_u1 : Un := lpU w44_v.fz [28, 29, 30, 8, 31, 32, 33, 6, 34, 27] w44_u1_h w44_u1_e (lp slices_Concat_L1 fuel)
theorem w44_u1_s (f : w44_u1_h.X → Option (YT w44_u1_e)) (x : w44_u1_h.X) : E w44_v (subC (bodyOf Tryz.f95) [1, 1, 1, 1, 0, 1, 0, 0]) (w44_u1_a) (mkS w44_u1_h 8 x) (roundK w44_v.fz w44_u1_h w44_u1_e f) = slices_Concat_L1 f x := by kernel_rfl
theorem w44_u1_ok {X : Fx} (hX : VOk Tryz.prog X w44_v) : UnOk Tryz.prog X w44_v (subC (bodyOf Tryz.f95) [1, 1, 1, 1, 0, 1, 0]) w44_u1 :=
 lp_un' (c := (subC (bodyOf Tryz.f95) [1, 1, 1, 1, 0, 1, 0, 0])) (by kernel_rfl) (env_all tb_ok (w44_gs)) hord (ob := []) (by kernel_rfl) (fun X hX => obl_nil) (w44_u1_s) (by kernel_rfl) (by kernel_rfl) hX
def w44_u0_h : SS := ⟨[0, 3, 9, 10, 11], ⟨[.hole, .hole, .hole, .hole, .hole], [], [1, 2, 1, 2, 2], [.sl (.one (.sl (.one (.sl (.one (.int .i64)))))), .int .i64, .sl (.one (.sl (.one (.sl (.one (.int .i64)))))), .int .i64, .int .i64]⟩⟩
def w44_u0_e : Exs := [((.exit 0), ⟨[3], ⟨[.hole], [], [2], [.int .i64]⟩⟩)]
def w44_u0_a : AC := .run
def w44_u0 : Un := lpU w44_v.fz [12, 13, 14, 5, 15, 16, 17, 18, 3, 19, 20, 21, 22, 11] w44_u0_h w44_u0_e (lp slices_Concat_L0 fuel)
theorem w44_u0_s (f : w44_u0_h.X → Option (YT w44_u0_e)) (x : w44_u0_h.X) : E w44_v (subC (bodyOf Tryz.f95) [1, 1, 0, 1, 0, 0]) (w44_u0_a) (mkS w44_u0_h 8 x) (roundK w44_v.fz w44_u0_h w44_u0_e f) = slices_Concat_L0 f x := by kernel_rfl
theorem w44_u0_ok {X : Fx} (hX : VOk Tryz.prog X w44_v) : UnOk Tryz.prog X w44_v (subC (bodyOf Tryz.f95) [1, 1, 0, 1, 0]) w44_u0 :=
 lp_un' (c := (subC (bodyOf Tryz.f95) [1, 1, 0, 1, 0, 0])) (by kernel_rfl) (env_all tb_ok (w44_gs)) hord (ob := []) (by kernel_rfl) (fun X hX => obl_nil) (w44_u0_s) (by kernel_rfl) (by kernel_rfl) hX
def w44_a : AC := (.seq .run (.seq .run (.seq (.seq .run (.block (.unit w44_u0))) (.seq .run (.seq (.seq .run (.block (.unit w44_u1))) .run)))))
theorem w44_s (x : TupL w44_c.inp.hs) : E w44_v (bodyOf Tryz.f95) (w44_a) (w44_c.entry x) (retSK tb w44_v.fz w44_c [.tmp 2] x) = w44_c.F x := by kernel_rfl
theorem w44_ok : ShOk Tryz.prog gl 95 w44_c :=
 fn_ok (l := w44_g) (n := Tryz.f95.ntmps) (code := bodyOf Tryz.f95) (rts := [.tmp 2]) tb_ok hord (w44_gs) Tryz.func95 (by kernel_rfl) (by kernel_rfl) rfl (by kernel_rfl) (ac := w44_a) (ob := [((subC (bodyOf Tryz.f95) [1, 1, 0, 1, 0]), w44_u0), ((subC (bodyOf Tryz.f95) [1, 1, 1, 1, 0, 1, 0]), w44_u1)]) (by kernel_rfl) (fun X hX => (obl_cons (w44_u0_ok hX) (obl_cons (w44_u1_ok hX) obl_nil))) (by kernel_rfl) (w44_s)
def w45_c : ShC := { inp := ⟨[(.agg [.hole, .hole, .hole]), .hole, (.agg [.hole, .hole, .hole]), .hole], [], [1, 1, 1, 1, 1, 1, 1, 1], [.sl tLit, .sl (.one (.sl (.one (.int .i64)))), .sl tLit, .int .i64, .sl tLit, .sl (.one (.sl (.one (.int .i64)))), .sl tLit, .int .i64]⟩, out := ⟨[(.agg [(.view 0), .hole, (.view 1)])], [.seq false, .seq false], [0, 0, 0], [.sl (.one (.sl (.one (.int .i64)))), .sl tLit, .sl tLit]⟩, nres := 1, ms := [], mu := [], leak := true, glob := false, F := fun (x : ((List QLit) × (List (List Int)) × (List QLit) × Int × (List QLit) × (List (List Int)) × (List QLit) × Int)) => resolve_Both x.1 x.2.1 x.2.2.1 x.2.2.2.1 x.2.2.2.2.1 x.2.2.2.2.2.1 x.2.2.2.2.2.2.1 x.2.2.2.2.2.2.2 }
-- resolve.Both
def w45_g : List (Nat × Con) := [(39, .gen (altE [w18_c])), (95, .gen (altE [w44_c]))]
def w45_v : Env := envOf tb gl w45_g w45_c Tryz.f51.ntmps
theorem w45_gs : Goods Tryz.prog (cond w45_c.glob gl fun _ => none) w45_g := (goods_cons (good_alt (alls_cons (w18_ok.anyGl rfl) alls_nil)) (goods_cons (good_alt (alls_cons (w44_ok.anyGl rfl) alls_nil)) goods_nil))
def w45_u1_h : SS := ⟨[3, 8, 9, 46, 47, 48], ⟨[.hole, (.ptr 0 0), (.ptr 1 0), .hole, .hole, .hole], [.cells true [.nilv, .nilv, .nilv], .cells false [(.view 2), .hole, (.view 3)], .seq false, .seq false], [2, 1, 2, 2, 0, 0, 0], [.int .i64, .sl tLit, .int .i64, .int .i64, .sl (.one (.sl (.one (.int .i64)))), .sl tLit, .sl tLit]⟩⟩
def w45_u1_e : Exs := [((.exit 2), ⟨[9], ⟨[(.ptr 0 0)], [.cells false [(.view 1), .hole, (.view 2)], .seq false, .seq false], [0, 0, 0], [.sl (.one (.sl (.one (.int .i64)))), .sl tLit, .sl tLit]⟩⟩)]
def w45_u1_a : AC := .run
def w45_u1 : Un := lpU w45_v.fz [49, 50, 51, 52, 13, 12, 53, 54, 55, 56, 57, 58, 59, 60, 61, 62, 48] w45_u1_h w45_u1_e (lp resolve_Both_L1 fuel)
theorem w45_u1_s (f : w45_u1_h.X → Option (YT w45_u1_e)) (x : w45_u1_h.X) : E w45_v (subC (bodyOf Tryz.f51) [1, 1, 1, 0, 1, 0, 0]) (w45_u1_a) (mkS w45_u1_h 8 x) (roundK w45_v.fz w45_u1_h w45_u1_e f) = resolve_Both_L1 f x := by kernel_rfl
theorem w45_u1_ok {X : Fx} (hX : VOk Tryz.prog X w45_v) : UnOk Tryz.prog X w45_v (subC (bodyOf Tryz.f51) [1, 1, 1, 0, 1, 0]) w45_u1 :=
 lp_un' (c := (subC (bodyOf Tryz.f51) [1, 1, 1, 0, 1, 0, 0])) (by kernel_rfl) (env_all tb_ok (w45_gs)) hord (ob := []) (by kernel_rfl) (fun X hX => obl_nil) (w45_u1_s) (by kernel_rfl) (by kernel_rfl) hX
def w45_u0_h : SS := ⟨[1, 3, 6, 8, 9, 28, 29, 30], ⟨[.hole, .hole, (.ptr 0 0), (.ptr 1 0), (.ptr 2 0), .hole, .hole, .hole], [.cells true [.hole, .hole, .hole], .cells true [.nilv, .nilv, .nilv], .cells false [(.view 3), .hole, (.view 4)], .seq false, .seq false], [2, 2, 1, 2, 2, 1, 1, 1, 0, 0, 0], [.int .i64, .int .i64, .sl tLit, .int .i64, .int .i64, .sl tLit, .sl (.one (.sl (.one (.int .i64)))), .sl tLit, .sl (.one (.sl (.one (.int .i64)))), .sl tLit, .sl tLit]⟩⟩
def w45_u0_e : Exs := [((.exit 0), ⟨[9], ⟨[(.ptr 0 0)], [.cells false [(.view 1), .hole, (.view 2)], .seq false, .seq false], [0, 0, 0], [.sl (.one (.sl (.one (.int .i64)))), .sl tLit, .sl tLit]⟩⟩)]
def w45_u0_a : AC := .run
def w45_u0 : Un := lpU w45_v.fz [31, 32, 33, 34, 11, 10, 35, 36, 37, 38, 39, 40, 41, 42, 43, 44, 30] w45_u0_h w45_u0_e (lp resolve_Both_L0 fuel)
theorem w45_u0_s (f : w45_u0_h.X → Option (YT w45_u0_e)) (x : w45_u0_h.X) : E w45_v (subC (bodyOf Tryz.f51) [1, 1, 0, 1, 0, 0]) (w45_u0_a) (mkS w45_u0_h 8 x) (roundK w45_v.fz w45_u0_h w45_u0_e f) = resolve_Both_L0 f x := by kernel_rfl
theorem w45_u0_ok {X : Fx} (hX : VOk Tryz.prog X w45_v) : UnOk Tryz.prog X w45_v (subC (bodyOf Tryz.f51) [1, 1, 0, 1, 0]) w45_u0 :=
 lp_un' (c := (subC (bodyOf Tryz.f51) [1, 1, 0, 1, 0, 0])) (by kernel_rfl) (env_all tb_ok (w45_gs)) hord (ob := []) (by kernel_rfl) (fun X hX => obl_nil) (w45_u0_s) (by kernel_rfl) (by kernel_rfl) hX
def w45_a : AC := (.seq .run (.seq .run (.seq (.seq .run (.block (.unit w45_u0))) (.seq (.seq .run (.block (.unit w45_u1))) .run))))
theorem w45_s (x : TupL w45_c.inp.hs) : E w45_v (bodyOf Tryz.f51) (w45_a) (w45_c.entry x) (retSK tb w45_v.fz w45_c [.cell 8 28] x) = w45_c.F x := by kernel_rfl
theorem w45_ok : ShOk Tryz.prog gl 51 w45_c :=
 fn_ok (l := w45_g) (n := Tryz.f51.ntmps) (code := bodyOf Tryz.f51) (rts := [.cell 8 28]) tb_ok hord (w45_gs) Tryz.func51 (by kernel_rfl) (by kernel_rfl) rfl (by kernel_rfl) (ac := w45_a) (ob := [((subC (bodyOf Tryz.f51) [1, 1, 0, 1, 0]), w45_u0), ((subC (bodyOf Tryz.f51) [1, 1, 1, 0, 1, 0]), w45_u1)]) (by kernel_rfl) (fun X hX => (obl_cons (w45_u0_ok hX) (obl_cons (w45_u1_ok hX) obl_nil))) (by kernel_rfl) (w45_s)
def w46_c : ShC := { inp := ⟨[.hole, .hole], [], [1, 1], [.sl (.cons (.int .i64) (.one (.sl (.one (.int .i64))))), .int .i64]⟩, out := ⟨[.hole], [], [0], [.ns (.one (.int .i64))]⟩, nres := 1, ms := [], mu := [], leak := true, glob := false, F := fun (x : ((List (Int × (List Int))) × Int)) => bind_find x.1 x.2 }
-- bind.find
def w46_g : List (Nat × Con) := []
def w46_v : Env := envOf tb gl w46_g w46_c Tryz.f168.ntmps
theorem w46_gs : Goods Tryz.prog (cond w46_c.glob gl fun _ => none) w46_g := goods_nil
def w46_u0_h : SS := ⟨[1, 7, 8, 9], ⟨[.hole, .hole, .hole, .hole], [], [2, 1, 2, 2], [.int .i64, .sl (.cons (.int .i64) (.one (.sl (.one (.int .i64))))), .int .i64, .int .i64]⟩⟩
def w46_u0_e : Exs := [((.exit 0), ⟨[], ⟨[], [], [], []⟩⟩), (.ret, ⟨[4], ⟨[.hole], [], [1], [.sl (.one (.int .i64))]⟩⟩)]
def w46_u0_a : AC := .run
def w46_u0 : Un := lpU w46_v.fz [10, 11, 12, 6, 13, 14, 15, 16, 17, 18, 4, 19, 9] w46_u0_h w46_u0_e (lp bind_find_L0 fuel)
theorem w46_u0_s (f : w46_u0_h.X → Option (YT w46_u0_e)) (x : w46_u0_h.X) : E w46_v (subC (bodyOf Tryz.f168) [1, 0, 1, 0, 0]) (w46_u0_a) (mkS w46_u0_h 8 x) (roundK w46_v.fz w46_u0_h w46_u0_e f) = bind_find_L0 f x := by kernel_rfl
theorem w46_u0_ok {X : Fx} (hX : VOk Tryz.prog X w46_v) : UnOk Tryz.prog X w46_v (subC (bodyOf Tryz.f168) [1, 0, 1, 0]) w46_u0 :=
 lp_un' (c := (subC (bodyOf Tryz.f168) [1, 0, 1, 0, 0])) (by kernel_rfl) (env_all tb_ok (w46_gs)) hord (ob := []) (by kernel_rfl) (fun X hX => obl_nil) (w46_u0_s) (by kernel_rfl) (by kernel_rfl) hX
def w46_a : AC := (.seq .run (.seq (.seq .run (.block (.unit w46_u0))) .run))
theorem w46_s (x : TupL w46_c.inp.hs) : E w46_v (bodyOf Tryz.f168) (w46_a) (w46_c.entry x) (retSK tb w46_v.fz w46_c [.tmp 4] x) = w46_c.F x := by kernel_rfl
theorem w46_ok : ShOk Tryz.prog gl 168 w46_c :=
 fn_ok (l := w46_g) (n := Tryz.f168.ntmps) (code := bodyOf Tryz.f168) (rts := [.tmp 4]) tb_ok hord (w46_gs) Tryz.func168 (by kernel_rfl) (by kernel_rfl) rfl (by kernel_rfl) (ac := w46_a) (ob := [((subC (bodyOf Tryz.f168) [1, 0, 1, 0]), w46_u0)]) (by kernel_rfl) (fun X hX => (obl_cons (w46_u0_ok hX) obl_nil)) (by kernel_rfl) (w46_s)
def w47_c : ShC := { inp := ⟨[.hole, .hole], [], [1, 1], [.sl (.cons (.int .i64) (.one (.sl (.one (.int .i64))))), .sl (.one (.int .i64))]⟩, out := ⟨[(.view 0)], [.seq false], [0], [.sl (.one (.int .i64))]⟩, nres := 1, ms := [], mu := [], leak := true, glob := false, F := fun (x : ((List (Int × (List Int))) × (List Int))) => bind_On x.1 x.2 }
-- bind.On
def w47_g : List (Nat × Con) := [(35, .gen (altE [w6_c])), (168, .gen (altE [w46_c]))]
def w47_v : Env := envOf tb gl w47_g w47_c Tryz.f138.ntmps
theorem w47_gs : Goods Tryz.prog (cond w47_c.glob gl fun _ => none) w47_g := (goods_cons (good_alt (alls_cons (w6_ok.anyGl rfl) alls_nil)) (goods_cons (good_alt (alls_cons (w46_ok.anyGl rfl) alls_nil)) goods_nil))
def w47_u0_h : SS := ⟨[0, 5, 9, 10, 11], ⟨[.hole, (.view 0), .hole, .hole, .hole], [.seq false], [1, 1, 2, 2, 0], [.sl (.cons (.int .i64) (.one (.sl (.one (.int .i64))))), .sl (.one (.int .i64)), .int .i64, .int .i64, .sl (.one (.int .i64))]⟩⟩
def w47_u0_e : Exs := [((.exit 0), ⟨[5], ⟨[(.view 0)], [.seq false], [0], [.sl (.one (.int .i64))]⟩⟩)]
def w47_u0_a : AC := .run
def w47_u0 : Un := lpU w47_v.fz [12, 13, 14, 7, 15, 16, 17, 18, 8, 19, 20, 21, 22, 23, 24, 25, 26, 27, 28, 5, 29, 30, 31, 5, 32, 11] w47_u0_h w47_u0_e (lp bind_On_L0 fuel)
theorem w47_u0_s (f : w47_u0_h.X → Option (YT w47_u0_e)) (x : w47_u0_h.X) : E w47_v (subC (bodyOf Tryz.f138) [1, 1, 0, 1, 0, 0]) (w47_u0_a) (mkS w47_u0_h 8 x) (roundK w47_v.fz w47_u0_h w47_u0_e f) = bind_On_L0 f x := by kernel_rfl
theorem w47_u0_ok {X : Fx} (hX : VOk Tryz.prog X w47_v) : UnOk Tryz.prog X w47_v (subC (bodyOf Tryz.f138) [1, 1, 0, 1, 0]) w47_u0 :=
 lp_un' (c := (subC (bodyOf Tryz.f138) [1, 1, 0, 1, 0, 0])) (by kernel_rfl) (env_all tb_ok (w47_gs)) hord (ob := []) (by kernel_rfl) (fun X hX => obl_nil) (w47_u0_s) (by kernel_rfl) (by kernel_rfl) hX
def w47_a : AC := (.seq .run (.seq .run (.seq (.seq .run (.block (.unit w47_u0))) .run)))
theorem w47_s (x : TupL w47_c.inp.hs) : E w47_v (bodyOf Tryz.f138) (w47_a) (w47_c.entry x) (retSK tb w47_v.fz w47_c [.tmp 4] x) = w47_c.F x := by kernel_rfl
theorem w47_ok : ShOk Tryz.prog gl 138 w47_c :=
 fn_ok (l := w47_g) (n := Tryz.f138.ntmps) (code := bodyOf Tryz.f138) (rts := [.tmp 4]) tb_ok hord (w47_gs) Tryz.func138 (by kernel_rfl) (by kernel_rfl) rfl (by kernel_rfl) (ac := w47_a) (ob := [((subC (bodyOf Tryz.f138) [1, 1, 0, 1, 0]), w47_u0)]) (by kernel_rfl) (fun X hX => (obl_cons (w47_u0_ok hX) obl_nil)) (by kernel_rfl) (w47_s)
def w48_c : ShC := { inp := ⟨[.hole, (.ptr 0 0)], [.cells true [.hole]], [1, 1], [.sl (.one (.int .i64)), .sl (.cons (.int .i64) (.one (.sl (.one (.int .i64)))))]⟩, out := ⟨[(.view 0)], [.seq false], [0], [.sl (.one (.int .i64))]⟩, nres := 1, ms := [], mu := [], leak := true, glob := false, F := fun (x : ((List Int) × (List (Int × (List Int))))) => clause_On_c1 x.1 x.2 }
-- clause.On$1
def w48_g : List (Nat × Con) := [(138, .gen (altE [w47_c]))]
def w48_v : Env := envOf tb gl w48_g w48_c Tryz.f137.ntmps
theorem w48_gs : Goods Tryz.prog (cond w48_c.glob gl fun _ => none) w48_g := (goods_cons (good_alt (alls_cons (w47_ok.anyGl rfl) alls_nil)) goods_nil)
def w48_a : AC := .run
theorem w48_s (x : TupL w48_c.inp.hs) : E w48_v (bodyOf Tryz.f137) (w48_a) (w48_c.entry x) (retSK tb w48_v.fz w48_c [.tmp 3] x) = w48_c.F x := by kernel_rfl
theorem w48_ok : ShOk Tryz.prog gl 137 w48_c :=
 fn_ok (l := w48_g) (n := Tryz.f137.ntmps) (code := bodyOf Tryz.f137) (rts := [.tmp 3]) tb_ok hord (w48_gs) Tryz.func137 (by kernel_rfl) (by kernel_rfl) rfl (by kernel_rfl) (ac := w48_a) (ob := []) (by kernel_rfl) (fun X hX => obl_nil) (by kernel_rfl) (w48_s)
def w49_c : ShC := { inp := ⟨[(.agg [.hole, .hole, .hole]), (.clo 137 [(.ptr 0 0)])], [.cells true [.hole]], [1, 1, 1, 1], [.sl tLit, .sl (.one (.sl (.one (.int .i64)))), .sl tLit, .sl (.cons (.int .i64) (.one (.sl (.one (.int .i64)))))]⟩, out := ⟨[(.agg [.hole, .hole, (.view 0)])], [.seq false], [0, 0, 0], [.sl tLit, .sl (.one (.sl (.one (.int .i64)))), .sl tLit]⟩, nres := 1, ms := [], mu := [], leak := true, glob := false, F := fun (x : ((List QLit) × (List (List Int)) × (List QLit) × (List (Int × (List Int))))) => clause_each x.1 x.2.1 x.2.2.1 x.2.2.2 }
-- clause.each
def w49_g : List (Nat × Con) := [(137, .gen (altE [w48_c]))]
def w49_v : Env := envOf tb gl w49_g w49_c Tryz.f122.ntmps
theorem w49_gs : Goods Tryz.prog (cond w49_c.glob gl fun _ => none) w49_g := (goods_cons (good_alt (alls_cons (w48_ok.anyGl rfl) alls_nil)) goods_nil)
def w49_u2_h : SS := ⟨[1, 4, 5, 49, 50, 51], ⟨[(.clo 137 [(.ptr 0 0)]), (.ptr 1 0), (.ptr 2 0), .hole, .hole, .hole], [.cells true [.hole], .cells true [.nilv, .nilv, .nilv], .cells false [.hole, .hole, (.view 3)], .seq false], [1, 2, 2, 1, 0, 0, 0], [.sl tLit, .int .i64, .int .i64, .sl (.cons (.int .i64) (.one (.sl (.one (.int .i64))))), .sl tLit, .sl (.one (.sl (.one (.int .i64)))), .sl tLit]⟩⟩
def w49_u2_e : Exs := [((.exit 4), ⟨[5], ⟨[(.ptr 0 0)], [.cells false [.hole, .hole, (.view 1)], .seq false], [0, 0, 0], [.sl tLit, .sl (.one (.sl (.one (.int .i64)))), .sl tLit]⟩⟩)]
def w49_u2_a : AC := .run
def w49_u2 : Un := lpU w49_v.fz [52, 53, 54, 11, 55, 56, 57, 58, 59, 60, 61, 62, 63, 64, 65, 66, 67, 51] w49_u2_h w49_u2_e (lp clause_each_L2 fuel)
theorem w49_u2_s (f : w49_u2_h.X → Option (YT w49_u2_e)) (x : w49_u2_h.X) : E w49_v (subC (bodyOf Tryz.f122) [1, 1, 1, 1, 0, 1, 0, 0]) (w49_u2_a) (mkS w49_u2_h 8 x) (roundK w49_v.fz w49_u2_h w49_u2_e f) = clause_each_L2 f x := by kernel_rfl
theorem w49_u2_ok {X : Fx} (hX : VOk Tryz.prog X w49_v) : UnOk Tryz.prog X w49_v (subC (bodyOf Tryz.f122) [1, 1, 1, 1, 0, 1, 0]) w49_u2 :=
 lp_un' (c := (subC (bodyOf Tryz.f122) [1, 1, 1, 1, 0, 1, 0, 0])) (by kernel_rfl) (env_all tb_ok (w49_gs)) hord (ob := []) (by kernel_rfl) (fun X hX => obl_nil) (w49_u2_s) (by kernel_rfl) (by kernel_rfl) hX
def w49_u1_h : SS := ⟨[1, 2, 4, 5, 33, 34, 35], ⟨[(.clo 137 [(.ptr 0 0)]), (.ptr 1 0), (.ptr 2 0), (.ptr 3 0), .hole, .hole, .hole], [.cells true [.hole], .cells true [.hole, .hole, .hole], .cells true [.nilv, .nilv, .nilv], .cells false [.hole, (.view 4), .nilv], .seq false], [1, 2, 2, 1, 1, 1, 1, 0, 0], [.sl (.one (.sl (.one (.int .i64)))), .int .i64, .int .i64, .sl (.cons (.int .i64) (.one (.sl (.one (.int .i64))))), .sl tLit, .sl (.one (.sl (.one (.int .i64)))), .sl tLit, .sl tLit, .sl (.one (.sl (.one (.int .i64))))]⟩⟩
def w49_u1_e : Exs := [((.exit 2), ⟨[5], ⟨[(.ptr 0 0)], [.cells false [.hole, (.view 1), .nilv], .seq false], [0, 0], [.sl tLit, .sl (.one (.sl (.one (.int .i64))))]⟩⟩)]
def w49_u1_a : AC := .run
def w49_u1 : Un := lpU w49_v.fz [36, 37, 38, 9, 39, 40, 41, 42, 43, 44, 45, 46, 47, 35] w49_u1_h w49_u1_e (lp clause_each_L1 fuel)
theorem w49_u1_s (f : w49_u1_h.X → Option (YT w49_u1_e)) (x : w49_u1_h.X) : E w49_v (subC (bodyOf Tryz.f122) [1, 1, 1, 0, 1, 0, 0]) (w49_u1_a) (mkS w49_u1_h 8 x) (roundK w49_v.fz w49_u1_h w49_u1_e f) = clause_each_L1 f x := by kernel_rfl
theorem w49_u1_ok {X : Fx} (hX : VOk Tryz.prog X w49_v) : UnOk Tryz.prog X w49_v (subC (bodyOf Tryz.f122) [1, 1, 1, 0, 1, 0]) w49_u1 :=
 lp_un' (c := (subC (bodyOf Tryz.f122) [1, 1, 1, 0, 1, 0, 0])) (by kernel_rfl) (env_all tb_ok (w49_gs)) hord (ob := []) (by kernel_rfl) (fun X hX => obl_nil) (w49_u1_s) (by kernel_rfl) (by kernel_rfl) hX
def w49_u0_h : SS := ⟨[1, 2, 4, 5, 13, 14, 15], ⟨[(.clo 137 [(.ptr 0 0)]), (.ptr 1 0), (.ptr 2 0), (.ptr 3 0), .hole, .hole, .hole], [.cells true [.hole], .cells true [.hole, .hole, .hole], .cells true [.nilv, .nilv, .nilv], .cells false [(.view 4), .nilv, .nilv], .seq false], [1, 2, 2, 1, 1, 1, 1, 0], [.sl tLit, .int .i64, .int .i64, .sl (.cons (.int .i64) (.one (.sl (.one (.int .i64))))), .sl tLit, .sl (.one (.sl (.one (.int .i64)))), .sl tLit, .sl tLit]⟩⟩
def w49_u0_e : Exs := [((.exit 0), ⟨[5], ⟨[(.ptr 0 0)], [.cells false [(.view 1), .nilv, .nilv], .seq false], [0], [.sl tLit]⟩⟩)]
def w49_u0_a : AC := .run
def w49_u0 : Un := lpU w49_v.fz [16, 17, 18, 7, 19, 20, 21, 22, 23, 24, 25, 26, 27, 28, 29, 30, 31, 15] w49_u0_h w49_u0_e (lp clause_each_L0 fuel)
theorem w49_u0_s (f : w49_u0_h.X → Option (YT w49_u0_e)) (x : w49_u0_h.X) : E w49_v (subC (bodyOf Tryz.f122) [1, 1, 0, 1, 0, 0]) (w49_u0_a) (mkS w49_u0_h 8 x) (roundK w49_v.fz w49_u0_h w49_u0_e f) = clause_each_L0 f x := by kernel_rfl
theorem w49_u0_ok {X : Fx} (hX : VOk Tryz.prog X w49_v) : UnOk Tryz.prog X w49_v (subC (bodyOf Tryz.f122) [1, 1, 0, 1, 0]) w49_u0 :=
 lp_un' (c := (subC (bodyOf Tryz.f122) [1, 1, 0, 1, 0, 0])) (by kernel_rfl) (env_all tb_ok (w49_gs)) hord (ob := []) (by kernel_rfl) (fun X hX => obl_nil) (w49_u0_s) (by kernel_rfl) (by kernel_rfl) hX
def w49_a : AC := (.seq .run (.seq .run (.seq (.seq .run (.block (.unit w49_u0))) (.seq (.seq .run (.block (.unit w49_u1))) (.seq (.seq .run (.block (.unit w49_u2))) .run)))))
theorem w49_s (x : TupL w49_c.inp.hs) : E w49_v (bodyOf Tryz.f122) (w49_a) (w49_c.entry x) (retSK tb w49_v.fz w49_c [.cell 4 28] x) = w49_c.F x := by kernel_rfl
theorem w49_ok : ShOk Tryz.prog gl 122 w49_c :=
 fn_ok (l := w49_g) (n := Tryz.f122.ntmps) (code := bodyOf Tryz.f122) (rts := [.cell 4 28]) tb_ok hord (w49_gs) Tryz.func122 (by kernel_rfl) (by kernel_rfl) rfl (by kernel_rfl) (ac := w49_a) (ob := [((subC (bodyOf Tryz.f122) [1, 1, 0, 1, 0]), w49_u0), ((subC (bodyOf Tryz.f122) [1, 1, 1, 0, 1, 0]), w49_u1), ((subC (bodyOf Tryz.f122) [1, 1, 1, 1, 0, 1, 0]), w49_u2)]) (by kernel_rfl) (fun X hX => (obl_cons (w49_u0_ok hX) (obl_cons (w49_u1_ok hX) (obl_cons (w49_u2_ok hX) obl_nil)))) (by kernel_rfl) (w49_s)
def w50_c : ShC := { inp := ⟨[.hole, (.agg [.hole, .hole, .hole])], [], [1, 1, 1, 1], [.sl (.cons (.int .i64) (.one (.sl (.one (.int .i64))))), .sl tLit, .sl (.one (.sl (.one (.int .i64)))), .sl tLit]⟩, out := ⟨[(.agg [.hole, .hole, (.view 0)])], [.seq false], [0, 0, 0], [.sl tLit, .sl (.one (.sl (.one (.int .i64)))), .sl tLit]⟩, nres := 1, ms := [], mu := [], leak := true, glob := false, F := fun (x : ((List (Int × (List Int))) × (List QLit) × (List (List Int)) × (List QLit))) => clause_On x.1 x.2.1 x.2.2.1 x.2.2.2 }
-- clause.On
def w50_g : List (Nat × Con) := [(122, .gen (altE [w49_c]))]
def w50_v : Env := envOf tb gl w50_g w50_c Tryz.f94.ntmps
theorem w50_gs : Goods Tryz.prog (cond w50_c.glob gl fun _ => none) w50_g := (goods_cons (good_alt (alls_cons (w49_ok.anyGl rfl) alls_nil)) goods_nil)
def w50_a : AC := .run
theorem w50_s (x : TupL w50_c.inp.hs) : E w50_v (bodyOf Tryz.f94) (w50_a) (w50_c.entry x) (retSK tb w50_v.fz w50_c [.cell 4 28] x) = w50_c.F x := by kernel_rfl
theorem w50_ok : ShOk Tryz.prog gl 94 w50_c :=
 fn_ok (l := w50_g) (n := Tryz.f94.ntmps) (code := bodyOf Tryz.f94) (rts := [.cell 4 28]) tb_ok hord (w50_gs) Tryz.func94 (by kernel_rfl) (by kernel_rfl) rfl (by kernel_rfl) (ac := w50_a) (ob := []) (by kernel_rfl) (fun X hX => obl_nil) (by kernel_rfl) (w50_s)
def w51_c : ShC := { inp := ⟨[.hole, .hole], [], [1, 1], [.sl (.one (.int .i64)), .sl (.one (.int .i64))]⟩, out := ⟨[.hole], [], [2], [.bool]⟩, nres := 1, ms := [], mu := [], leak := false, glob := false, F := fun (x : ((List Int) × (List Int))) => slices_Equal x.1 x.2 }
-- slices.Equal[[]int,int]
def w51_g : List (Nat × Con) := []
def w51_v : Env := envOf tb gl w51_g w51_c Tryz.f121.ntmps
theorem w51_gs : Goods Tryz.prog (cond w51_c.glob gl fun _ => none) w51_g := goods_nil
def w51_u0_h : SS := ⟨[0, 1, 12, 13], ⟨[.hole, .hole, .hole, .hole], [], [1, 1, 2, 2], [.sl (.one (.int .i64)), .sl (.one (.int .i64)), .int .i64, .int .i64]⟩⟩
def w51_u0_e : Exs := [((.exit 0), ⟨[], ⟨[], [], [], []⟩⟩), (.ret, ⟨[4], ⟨[.hole], [], [2], [.bool]⟩⟩)]
def w51_u0_a : AC := .run
def w51_u0 : Un := lpU w51_v.fz [14, 15, 5, 16, 17, 18, 19, 20, 21, 22, 23, 24, 4, 25, 13] w51_u0_h w51_u0_e (lp slices_Equal_L0 fuel)
theorem w51_u0_s (f : w51_u0_h.X → Option (YT w51_u0_e)) (x : w51_u0_h.X) : E w51_v (subC (bodyOf Tryz.f121) [1, 1, 0, 1, 0, 0]) (w51_u0_a) (mkS w51_u0_h 8 x) (roundK w51_v.fz w51_u0_h w51_u0_e f) = slices_Equal_L0 f x := by kernel_rfl
theorem w51_u0_ok {X : Fx} (hX : VOk Tryz.prog X w51_v) : UnOk Tryz.prog X w51_v (subC (bodyOf Tryz.f121) [1, 1, 0, 1, 0]) w51_u0 :=
 lp_un' (c := (subC (bodyOf Tryz.f121) [1, 1, 0, 1, 0, 0])) (by kernel_rfl) (env_all tb_ok (w51_gs)) hord (ob := []) (by kernel_rfl) (fun X hX => obl_nil) (w51_u0_s) (by kernel_rfl) (by kernel_rfl) hX
def w51_a : AC := (.seq .run (.seq .run (.seq (.seq .run (.block (.unit w51_u0))) .run)))
theorem w51_s (x : TupL w51_c.inp.hs) : E w51_v (bodyOf Tryz.f121) (w51_a) (w51_c.entry x) (retSK tb w51_v.fz w51_c [.tmp 4] x) = w51_c.F x := by kernel_rfl
theorem w51_ok : ShOk Tryz.prog gl 121 w51_c :=
 fn_ok (l := w51_g) (n := Tryz.f121.ntmps) (code := bodyOf Tryz.f121) (rts := [.tmp 4]) tb_ok hord (w51_gs) Tryz.func121 (by kernel_rfl) (by kernel_rfl) rfl (by kernel_rfl) (ac := w51_a) (ob := [((subC (bodyOf Tryz.f121) [1, 1, 0, 1, 0]), w51_u0)]) (by kernel_rfl) (fun X hX => (obl_cons (w51_u0_ok hX) obl_nil)) (by kernel_rfl) (w51_s)
def w52_c : ShC := { inp := ⟨[(.agg [.hole, .hole]), (.agg [.hole, .hole])], [], [1, 1, 1, 1], [.bool, .sl (.one (.int .i64)), .bool, .sl (.one (.int .i64))]⟩, out := ⟨[.hole], [], [2], [.bool]⟩, nres := 1, ms := [], mu := [], leak := false, glob := false, F := fun (x : (Bool × (List Int) × Bool × (List Int))) => lit_Same x.1 x.2.1 x.2.2.1 x.2.2.2 }
-- lit.Same
def w52_g : List (Nat × Con) := [(121, .gen (altE [w51_c]))]
def w52_v : Env := envOf tb gl w52_g w52_c Tryz.f158.ntmps
theorem w52_gs : Goods Tryz.prog (cond w52_c.glob gl fun _ => none) w52_g := (goods_cons (good_alt (alls_cons (w51_ok.anyGl rfl) alls_nil)) goods_nil)
def w52_a : AC := .run
theorem w52_s (x : TupL w52_c.inp.hs) : E w52_v (bodyOf Tryz.f158) (w52_a) (w52_c.entry x) (retSK tb w52_v.fz w52_c [.tmp 4] x) = w52_c.F x := by kernel_rfl
theorem w52_ok : ShOk Tryz.prog gl 158 w52_c :=
 fn_ok (l := w52_g) (n := Tryz.f158.ntmps) (code := bodyOf Tryz.f158) (rts := [.tmp 4]) tb_ok hord (w52_gs) Tryz.func158 (by kernel_rfl) (by kernel_rfl) rfl (by kernel_rfl) (ac := w52_a) (ob := []) (by kernel_rfl) (fun X hX => obl_nil) (by kernel_rfl) (w52_s)
def w53_c : ShC := { inp := ⟨[(.agg [.hole, .hole]), (.ptr 0 0)], [.cells true [.hole, .hole]], [1, 1, 1, 1], [.bool, .sl (.one (.int .i64)), .bool, .sl (.one (.int .i64))]⟩, out := ⟨[.hole], [], [2], [.bool]⟩, nres := 1, ms := [], mu := [], leak := false, glob := false, F := fun (x : (Bool × (List Int) × Bool × (List Int))) => clause_once_c1 x.1 x.2.1 x.2.2.1 x.2.2.2 }
-- clause.once$1
def w53_g : List (Nat × Con) := [(158, .gen (altE [w52_c]))]
def w53_v : Env := envOf tb gl w53_g w53_c Tryz.f157.ntmps
theorem w53_gs : Goods Tryz.prog (cond w53_c.glob gl fun _ => none) w53_g := (goods_cons (good_alt (alls_cons (w52_ok.anyGl rfl) alls_nil)) goods_nil)
def w53_a : AC := .run
theorem w53_s (x : TupL w53_c.inp.hs) : E w53_v (bodyOf Tryz.f157) (w53_a) (w53_c.entry x) (retSK tb w53_v.fz w53_c [.tmp 3] x) = w53_c.F x := by kernel_rfl
theorem w53_ok : ShOk Tryz.prog gl 157 w53_c :=
 fn_ok (l := w53_g) (n := Tryz.f157.ntmps) (code := bodyOf Tryz.f157) (rts := [.tmp 3]) tb_ok hord (w53_gs) Tryz.func157 (by kernel_rfl) (by kernel_rfl) rfl (by kernel_rfl) (ac := w53_a) (ob := []) (by kernel_rfl) (fun X hX => obl_nil) (by kernel_rfl) (w53_s)
def w54_c : ShC := { inp := ⟨[.hole, (.clo 157 [(.ptr 0 0)])], [.cells true [.hole, .hole]], [1, 1, 1], [.sl tLit, .bool, .sl (.one (.int .i64))]⟩, out := ⟨[.hole], [], [2], [.int .i64]⟩, nres := 1, ms := [], mu := [], leak := false, glob := false, F := fun (x : ((List QLit) × Bool × (List Int))) => slices_IndexFunc x.1 x.2.1 x.2.2 }
-- slices.IndexFunc[[]api.Lit,api.Lit]
def w54_g : List (Nat × Con) := [(157, .gen (altE [w53_c]))]
def w54_v : Env := envOf tb gl w54_g w54_c Tryz.f116.ntmps
theorem w54_gs : Goods Tryz.prog (cond w54_c.glob gl fun _ => none) w54_g := (goods_cons (good_alt (alls_cons (w53_ok.anyGl rfl) alls_nil)) goods_nil)
def w54_u0_h : SS := ⟨[0, 1, 7, 8], ⟨[.hole, (.clo 157 [(.ptr 0 0)]), .hole, .hole], [.cells true [.hole, .hole]], [1, 2, 2, 2, 1], [.sl tLit, .int .i64, .int .i64, .bool, .sl (.one (.int .i64))]⟩⟩
def w54_u0_e : Exs := [((.exit 0), ⟨[], ⟨[], [], [], []⟩⟩), (.ret, ⟨[4], ⟨[.hole], [], [2], [.int .i64]⟩⟩)]
def w54_u0_a : AC := .run
def w54_u0 : Un := lpU w54_v.fz [9, 10, 5, 11, 12, 13, 14, 15, 16, 17, 4, 18, 8] w54_u0_h w54_u0_e (lp slices_IndexFunc_L0 fuel)
theorem w54_u0_s (f : w54_u0_h.X → Option (YT w54_u0_e)) (x : w54_u0_h.X) : E w54_v (subC (bodyOf Tryz.f116) [1, 0, 1, 0, 0]) (w54_u0_a) (mkS w54_u0_h 8 x) (roundK w54_v.fz w54_u0_h w54_u0_e f) = slices_IndexFunc_L0 f x := by kernel_rfl
theorem w54_u0_ok {X : Fx} (hX : VOk Tryz.prog X w54_v) : UnOk Tryz.prog X w54_v (subC (bodyOf Tryz.f116) [1, 0, 1, 0]) w54_u0 :=
 lp_un' (c := (subC (bodyOf Tryz.f116) [1, 0, 1, 0, 0])) (by kernel_rfl) (env_all tb_ok (w54_gs)) hord (ob := []) (by kernel_rfl) (fun X hX => obl_nil) (w54_u0_s) (by kernel_rfl) (by kernel_rfl) hX
def w54_a : AC := (.seq .run (.seq (.seq .run (.block (.unit w54_u0))) .run))
theorem w54_s (x : TupL w54_c.inp.hs) : E w54_v (bodyOf Tryz.f116) (w54_a) (w54_c.entry x) (retSK tb w54_v.fz w54_c [.tmp 4] x) = w54_c.F x := by kernel_rfl
theorem w54_ok : ShOk Tryz.prog gl 116 w54_c :=
 fn_ok (l := w54_g) (n := Tryz.f116.ntmps) (code := bodyOf Tryz.f116) (rts := [.tmp 4]) tb_ok hord (w54_gs) Tryz.func116 (by kernel_rfl) (by kernel_rfl) rfl (by kernel_rfl) (ac := w54_a) (ob := [((subC (bodyOf Tryz.f116) [1, 0, 1, 0]), w54_u0)]) (by kernel_rfl) (fun X hX => (obl_cons (w54_u0_ok hX) obl_nil)) (by kernel_rfl) (w54_s)
def w55_c : ShC := { inp := ⟨[.hole, (.clo 157 [(.ptr 0 0)])], [.cells true [.hole, .hole]], [1, 1, 1], [.sl tLit, .bool, .sl (.one (.int .i64))]⟩, out := ⟨[.hole], [], [2], [.bool]⟩, nres := 1, ms := [], mu := [], leak := false, glob := false, F := fun (x : ((List QLit) × Bool × (List Int))) => slices_ContainsFunc x.1 x.2.1 x.2.2 }
-- slices.ContainsFunc[[]api.Lit,api.Lit]
def w55_g : List (Nat × Con) := [(116, .gen (altE [w54_c]))]
def w55_v : Env := envOf tb gl w55_g w55_c Tryz.f75.ntmps
theorem w55_gs : Goods Tryz.prog (cond w55_c.glob gl fun _ => none) w55_g := (goods_cons (good_alt (alls_cons (w54_ok.anyGl rfl) alls_nil)) goods_nil)
def w55_a : AC := .run
theorem w55_s (x : TupL w55_c.inp.hs) : E w55_v (bodyOf Tryz.f75) (w55_a) (w55_c.entry x) (retSK tb w55_v.fz w55_c [.tmp 4] x) = w55_c.F x := by kernel_rfl
theorem w55_ok : ShOk Tryz.prog gl 75 w55_c :=
 fn_ok (l := w55_g) (n := Tryz.f75.ntmps) (code := bodyOf Tryz.f75) (rts := [.tmp 4]) tb_ok hord (w55_gs) Tryz.func75 (by kernel_rfl) (by kernel_rfl) rfl (by kernel_rfl) (ac := w55_a) (ob := []) (by kernel_rfl) (fun X hX => obl_nil) (by kernel_rfl) (w55_s)
def w56_c : ShC := { inp := ⟨[.hole], [], [1], [.sl tLit]⟩, out := ⟨[(.view 0)], [.seq false], [0], [.sl tLit]⟩, nres := 1, ms := [], mu := [], leak := true, glob := false, F := fun (x : (List QLit)) => clause_once x }
-- clause.once
def w56_g : List (Nat × Con) := [(75, .gen (altE [w55_c]))]
def w56_v : Env := envOf tb gl w56_g w56_c Tryz.f119.ntmps
theorem w56_gs : Goods Tryz.prog (cond w56_c.glob gl fun _ => none) w56_g := (goods_cons (good_alt (alls_cons (w55_ok.anyGl rfl) alls_nil)) goods_nil)
def w56_u0_h : SS := ⟨[3, 6, 7, 8], ⟨[(.view 0), .hole, .hole, .hole], [.seq false], [1, 2, 2, 0], [.sl tLit, .int .i64, .int .i64, .sl tLit]⟩⟩
def w56_u0_e : Exs := [((.exit 0), ⟨[3], ⟨[(.view 0)], [.seq false], [0], [.sl tLit]⟩⟩)]
def w56_u0_a : AC := .run
def w56_u0 : Un := lpU w56_v.fz [9, 10, 11, 5, 12, 13, 14, 15, 16, 17, 18, 19, 3, 20, 8] w56_u0_h w56_u0_e (lp clause_once_L0 fuel)
theorem w56_u0_s (f : w56_u0_h.X → Option (YT w56_u0_e)) (x : w56_u0_h.X) : E w56_v (subC (bodyOf Tryz.f119) [1, 1, 0, 1, 0, 0]) (w56_u0_a) (mkS w56_u0_h 8 x) (roundK w56_v.fz w56_u0_h w56_u0_e f) = clause_once_L0 f x := by kernel_rfl
theorem w56_u0_ok {X : Fx} (hX : VOk Tryz.prog X w56_v) : UnOk Tryz.prog X w56_v (subC (bodyOf Tryz.f119) [1, 1, 0, 1, 0]) w56_u0 :=
 lp_un' (c := (subC (bodyOf Tryz.f119) [1, 1, 0, 1, 0, 0])) (by kernel_rfl) (env_all tb_ok (w56_gs)) hord (ob := []) (by kernel_rfl) (fun X hX => obl_nil) (w56_u0_s) (by kernel_rfl) (by kernel_rfl) hX
def w56_a : AC := (.seq .run (.seq .run (.seq (.seq .run (.block (.unit w56_u0))) .run)))
theorem w56_s (x : TupL w56_c.inp.hs) : E w56_v (bodyOf Tryz.f119) (w56_a) (w56_c.entry x) (retSK tb w56_v.fz w56_c [.tmp 2] x) = w56_c.F x := by kernel_rfl
theorem w56_ok : ShOk Tryz.prog gl 119 w56_c :=
 fn_ok (l := w56_g) (n := Tryz.f119.ntmps) (code := bodyOf Tryz.f119) (rts := [.tmp 2]) tb_ok hord (w56_gs) Tryz.func119 (by kernel_rfl) (by kernel_rfl) rfl (by kernel_rfl) (ac := w56_a) (ob := [((subC (bodyOf Tryz.f119) [1, 1, 0, 1, 0]), w56_u0)]) (by kernel_rfl) (fun X hX => (obl_cons (w56_u0_ok hX) obl_nil)) (by kernel_rfl) (w56_s)
def w57_c : ShC := { inp := ⟨[.hole, (.ptr 0 0)], [.cells true [.hole]], [1, 1], [.sl (.one (.int .i64)), .sl (.one (.int .i64))]⟩, out := ⟨[.hole], [], [2], [.bool]⟩, nres := 1, ms := [], mu := [], leak := false, glob := false, F := fun (x : ((List Int) × (List Int))) => clause_anew_c1 x.1 x.2 }
-- clause.anew$1
def w57_g : List (Nat × Con) := [(121, .gen (altE [w51_c]))]
def w57_v : Env := envOf tb gl w57_g w57_c Tryz.f120.ntmps
theorem w57_gs : Goods Tryz.prog (cond w57_c.glob gl fun _ => none) w57_g := (goods_cons (good_alt (alls_cons (w51_ok.anyGl rfl) alls_nil)) goods_nil)
def w57_a : AC := .run
theorem w57_s (x : TupL w57_c.inp.hs) : E w57_v (bodyOf Tryz.f120) (w57_a) (w57_c.entry x) (retSK tb w57_v.fz w57_c [.tmp 3] x) = w57_c.F x := by kernel_rfl
theorem w57_ok : ShOk Tryz.prog gl 120 w57_c :=
 fn_ok (l := w57_g) (n := Tryz.f120.ntmps) (code := bodyOf Tryz.f120) (rts := [.tmp 3]) tb_ok hord (w57_gs) Tryz.func120 (by kernel_rfl) (by kernel_rfl) rfl (by kernel_rfl) (ac := w57_a) (ob := []) (by kernel_rfl) (fun X hX => obl_nil) (by kernel_rfl) (w57_s)
def w58_c : ShC := { inp := ⟨[.hole, (.clo 120 [(.ptr 0 0)])], [.cells true [.hole]], [1, 1], [.sl (.one (.sl (.one (.int .i64)))), .sl (.one (.int .i64))]⟩, out := ⟨[.hole], [], [2], [.int .i64]⟩, nres := 1, ms := [], mu := [], leak := false, glob := false, F := fun (x : ((List (List Int)) × (List Int))) => slices_IndexFunc_1 x.1 x.2 }
-- slices.IndexFunc[[][]int,[]int]
def w58_g : List (Nat × Con) := [(120, .gen (altE [w57_c]))]
def w58_v : Env := envOf tb gl w58_g w58_c Tryz.f115.ntmps
theorem w58_gs : Goods Tryz.prog (cond w58_c.glob gl fun _ => none) w58_g := (goods_cons (good_alt (alls_cons (w57_ok.anyGl rfl) alls_nil)) goods_nil)
def w58_u0_h : SS := ⟨[0, 1, 7, 8], ⟨[.hole, (.clo 120 [(.ptr 0 0)]), .hole, .hole], [.cells true [.hole]], [1, 2, 2, 1], [.sl (.one (.sl (.one (.int .i64)))), .int .i64, .int .i64, .sl (.one (.int .i64))]⟩⟩
def w58_u0_e : Exs := [((.exit 0), ⟨[], ⟨[], [], [], []⟩⟩), (.ret, ⟨[4], ⟨[.hole], [], [2], [.int .i64]⟩⟩)]
def w58_u0_a : AC := .run
def w58_u0 : Un := lpU w58_v.fz [9, 10, 5, 11, 12, 13, 14, 15, 16, 17, 4, 18, 8] w58_u0_h w58_u0_e (lp slices_IndexFunc_1_L0 fuel)
theorem w58_u0_s (f : w58_u0_h.X → Option (YT w58_u0_e)) (x : w58_u0_h.X) : E w58_v (subC (bodyOf Tryz.f115) [1, 0, 1, 0, 0]) (w58_u0_a) (mkS w58_u0_h 8 x) (roundK w58_v.fz w58_u0_h w58_u0_e f) = slices_IndexFunc_1_L0 f x := by kernel_rfl
theorem w58_u0_ok {X : Fx} (hX : VOk Tryz.prog X w58_v) : UnOk Tryz.prog X w58_v (subC (bodyOf Tryz.f115) [1, 0, 1, 0]) w58_u0 :=
 lp_un' (c := (subC (bodyOf Tryz.f115) [1, 0, 1, 0, 0])) (by kernel_rfl) (env_all tb_ok (w58_gs)) hord (ob := []) (by kernel_rfl) (fun X hX => obl_nil) (w58_u0_s) (by kernel_rfl) (by kernel_rfl) hX
def w58_a : AC := (.seq .run (.seq (.seq .run (.block (.unit w58_u0))) .run))
theorem w58_s (x : TupL w58_c.inp.hs) : E w58_v (bodyOf Tryz.f115) (w58_a) (w58_c.entry x) (retSK tb w58_v.fz w58_c [.tmp 4] x) = w58_c.F x := by kernel_rfl
theorem w58_ok : ShOk Tryz.prog gl 115 w58_c :=
 fn_ok (l := w58_g) (n := Tryz.f115.ntmps) (code := bodyOf Tryz.f115) (rts := [.tmp 4]) tb_ok hord (w58_gs) Tryz.func115 (by kernel_rfl) (by kernel_rfl) rfl (by kernel_rfl) (ac := w58_a) (ob := [((subC (bodyOf Tryz.f115) [1, 0, 1, 0]), w58_u0)]) (by kernel_rfl) (fun X hX => (obl_cons (w58_u0_ok hX) obl_nil)) (by kernel_rfl) (w58_s)
def w59_c : ShC := { inp := ⟨[.hole, (.clo 120 [(.ptr 0 0)])], [.cells true [.hole]], [1, 1], [.sl (.one (.sl (.one (.int .i64)))), .sl (.one (.int .i64))]⟩, out := ⟨[.hole], [], [2], [.bool]⟩, nres := 1, ms := [], mu := [], leak := false, glob := false, F := fun (x : ((List (List Int)) × (List Int))) => slices_ContainsFunc_1 x.1 x.2 }
-- slices.ContainsFunc[[][]int,[]int]
def w59_g : List (Nat × Con) := [(115, .gen (altE [w58_c]))]
def w59_v : Env := envOf tb gl w59_g w59_c Tryz.f74.ntmps
theorem w59_gs : Goods Tryz.prog (cond w59_c.glob gl fun _ => none) w59_g := (goods_cons (good_alt (alls_cons (w58_ok.anyGl rfl) alls_nil)) goods_nil)
def w59_a : AC := .run
theorem w59_s (x : TupL w59_c.inp.hs) : E w59_v (bodyOf Tryz.f74) (w59_a) (w59_c.entry x) (retSK tb w59_v.fz w59_c [.tmp 4] x) = w59_c.F x := by kernel_rfl
theorem w59_ok : ShOk Tryz.prog gl 74 w59_c :=
 fn_ok (l := w59_g) (n := Tryz.f74.ntmps) (code := bodyOf Tryz.f74) (rts := [.tmp 4]) tb_ok hord (w59_gs) Tryz.func74 (by kernel_rfl) (by kernel_rfl) rfl (by kernel_rfl) (ac := w59_a) (ob := []) (by kernel_rfl) (fun X hX => obl_nil) (by kernel_rfl) (w59_s)
def w60_c : ShC := { inp := ⟨[.hole, (.aptr 0), (.ptr 1 0)], [.seq false, .cells false [.hole]], [1, 1, 1], [.sl (.one (.int .i64)), .sl (.one (.int .i64)), .int .i64]⟩, out := ⟨[(.view 0), (.aptr 1), (.ptr 2 0)], [.seq false, .seq false, .cells false [.hole]], [0, 0, 2], [.sl (.one (.int .i64)), .sl (.one (.int .i64)), .int .i64]⟩, nres := 1, ms := [1, 2], mu := [(0, 1), (1, 2)], leak := true, glob := false, F := fun (x : ((List Int) × (List Int) × Int)) => clause_anew_c2_1 x.1 x.2.1 x.2.2 }
-- clause.anew$2
def w60_g : List (Nat × Con) := [(35, .gen (altE [w6_c])), (80, .gen (altE [w28_c]))]
def w60_v : Env := envOf tb gl w60_g w60_c Tryz.f123.ntmps
theorem w60_gs : Goods Tryz.prog (cond w60_c.glob gl fun _ => none) w60_g := (goods_cons (good_alt (alls_cons (w6_ok.anyGl rfl) alls_nil)) (goods_cons (good_alt (alls_cons (w28_ok.anyGl rfl) alls_nil)) goods_nil))
def w60_u0_h : SS := ⟨[1, 2, 5, 10, 11, 12], ⟨[(.aptr 0), (.ptr 1 0), (.view 2), (.view 2), .hole, .hole], [.seq false, .cells false [.hole], .seq false], [2, 2, 0, 2, 0], [.int .i64, .int .i64, .sl (.one (.int .i64)), .int .i64, .sl (.one (.int .i64))]⟩⟩
def w60_u0_e : Exs := [((.exit 0), ⟨[1, 2, 5], ⟨[(.aptr 0), (.ptr 1 0), (.view 2)], [.seq false, .cells false [.hole], .seq false], [0, 2, 0], [.sl (.one (.int .i64)), .int .i64, .sl (.one (.int .i64))]⟩⟩)]
def w60_u0_a : AC := .run
def w60_u0 : Un := lpU w60_v.fz [13, 14, 15, 16, 6, 7, 17, 18, 19, 20, 21, 22, 23, 24, 25, 26, 27, 28, 29, 30, 31, 32, 33, 34, 35, 36, 37, 38, 12] w60_u0_h w60_u0_e (lp clause_anew_c2_1_L0 fuel)
theorem w60_u0_s (f : w60_u0_h.X → Option (YT w60_u0_e)) (x : w60_u0_h.X) : E w60_v (subC (bodyOf Tryz.f123) [1, 1, 0, 1, 0, 0]) (w60_u0_a) (mkS w60_u0_h 8 x) (roundK w60_v.fz w60_u0_h w60_u0_e f) = clause_anew_c2_1_L0 f x := by kernel_rfl
theorem w60_u0_ok {X : Fx} (hX : VOk Tryz.prog X w60_v) : UnOk Tryz.prog X w60_v (subC (bodyOf Tryz.f123) [1, 1, 0, 1, 0]) w60_u0 :=
 lp_un' (c := (subC (bodyOf Tryz.f123) [1, 1, 0, 1, 0, 0])) (by kernel_rfl) (env_all tb_ok (w60_gs)) hord (ob := []) (by kernel_rfl) (fun X hX => obl_nil) (w60_u0_s) (by kernel_rfl) (by kernel_rfl) hX
def w60_a : AC := (.seq .run (.seq .run (.seq (.seq .run (.block (.unit w60_u0))) .run)))
theorem w60_s (x : TupL w60_c.inp.hs) : E w60_v (bodyOf Tryz.f123) (w60_a) (w60_c.entry x) (retSK tb w60_v.fz w60_c [.tmp 4] x) = w60_c.F x := by kernel_rfl
theorem w60_ok : ShOk Tryz.prog gl 123 w60_c :=
 fn_ok (l := w60_g) (n := Tryz.f123.ntmps) (code := bodyOf Tryz.f123) (rts := [.tmp 4]) tb_ok hord (w60_gs) Tryz.func123 (by kernel_rfl) (by kernel_rfl) rfl (by kernel_rfl) (ac := w60_a) (ob := [((subC (bodyOf Tryz.f123) [1, 1, 0, 1, 0]), w60_u0)]) (by kernel_rfl) (fun X hX => (obl_cons (w60_u0_ok hX) obl_nil)) (by kernel_rfl) (w60_s)
def w61_c : ShC := { inp := ⟨[(.agg [.hole, .hole, .hole]), (.clo 123 [(.aptr 0), (.ptr 1 0)])], [.seq false, .cells false [.hole]], [1, 1, 1, 1, 1], [.sl tLit, .sl (.one (.sl (.one (.int .i64)))), .sl tLit, .sl (.one (.int .i64)), .int .i64]⟩, out := ⟨[(.agg [.hole, .hole, (.view 0)]), (.clo 123 [(.aptr 1), (.ptr 2 0)])], [.seq false, .seq false, .cells false [.hole]], [0, 0, 0, 0, 2], [.sl tLit, .sl (.one (.sl (.one (.int .i64)))), .sl tLit, .sl (.one (.int .i64)), .int .i64]⟩, nres := 1, ms := [1], mu := [(0, 1), (1, 2)], leak := true, glob := false, F := fun (x : ((List QLit) × (List (List Int)) × (List QLit) × (List Int) × Int)) => clause_each_1 x.1 x.2.1 x.2.2.1 x.2.2.2.1 x.2.2.2.2 }
-- clause.each
def w61_g : List (Nat × Con) := [(123, .gen (altE [w60_c]))]
def w61_v : Env := envOf tb gl w61_g w61_c Tryz.f122.ntmps
theorem w61_gs : Goods Tryz.prog (cond w61_c.glob gl fun _ => none) w61_g := (goods_cons (good_alt (alls_cons (w60_ok.anyGl rfl) alls_nil)) goods_nil)
def w61_u2_h : SS := ⟨[1, 4, 5, 49, 50, 51], ⟨[(.clo 123 [(.aptr 0), (.ptr 1 0)]), (.ptr 2 0), (.ptr 3 0), .hole, .hole, .hole], [.seq false, .cells false [.hole], .cells true [.nilv, .nilv, .nilv], .cells false [.hole, .hole, (.view 4)], .seq false], [1, 2, 2, 0, 2, 0, 0, 0], [.sl tLit, .int .i64, .int .i64, .sl (.one (.int .i64)), .int .i64, .sl tLit, .sl (.one (.sl (.one (.int .i64)))), .sl tLit]⟩⟩
def w61_u2_e : Exs := [((.exit 4), ⟨[1, 5], ⟨[(.clo 123 [(.aptr 0), (.ptr 1 0)]), (.ptr 2 0)], [.seq false, .cells false [.hole], .cells false [.hole, .hole, (.view 3)], .seq false], [0, 2, 0, 0, 0], [.sl (.one (.int .i64)), .int .i64, .sl tLit, .sl (.one (.sl (.one (.int .i64)))), .sl tLit]⟩⟩)]
def w61_u2_a : AC := (.seq .run (.seq .run (.seq (.block (.seq .run (.hide [[8, 9], [8, 9], [8, 9], [8, 9], [], [], [], [], [], [], [], [], []]))) .run)))
def w61_u2 : Un := lpU w61_v.fz [52, 53, 54, 11, 55, 56, 57, 58, 59, 60, 61, 62, 63, 64, 65, 66, 67, 51] w61_u2_h w61_u2_e (lp clause_each_1_L2 fuel)
theorem w61_u2_s (f : w61_u2_h.X → Option (YT w61_u2_e)) (x : w61_u2_h.X) : E w61_v (subC (bodyOf Tryz.f122) [1, 1, 1, 1, 0, 1, 0, 0]) (w61_u2_a) (mkS w61_u2_h 8 x) (roundK w61_v.fz w61_u2_h w61_u2_e f) = clause_each_1_L2 f x := by kernel_rfl
theorem w61_u2_ok {X : Fx} (hX : VOk Tryz.prog X w61_v) : UnOk Tryz.prog X w61_v (subC (bodyOf Tryz.f122) [1, 1, 1, 1, 0, 1, 0]) w61_u2 :=
 lp_un' (c := (subC (bodyOf Tryz.f122) [1, 1, 1, 1, 0, 1, 0, 0])) (by kernel_rfl) (env_all tb_ok (w61_gs)) hord (ob := []) (by kernel_rfl) (fun X hX => obl_nil) (w61_u2_s) (by kernel_rfl) (by kernel_rfl) hX
def w61_u1_h : SS := ⟨[1, 2, 4, 5, 33, 34, 35], ⟨[(.clo 123 [(.aptr 0), (.ptr 1 0)]), (.ptr 2 0), (.ptr 3 0), (.ptr 4 0), .hole, .hole, .hole], [.seq false, .cells false [.hole], .cells true [.hole, .hole, .hole], .cells true [.nilv, .nilv, .nilv], .cells false [.hole, (.view 5), .nilv], .seq false], [1, 2, 2, 0, 2, 1, 1, 1, 0, 0], [.sl (.one (.sl (.one (.int .i64)))), .int .i64, .int .i64, .sl (.one (.int .i64)), .int .i64, .sl tLit, .sl (.one (.sl (.one (.int .i64)))), .sl tLit, .sl tLit, .sl (.one (.sl (.one (.int .i64))))]⟩⟩
def w61_u1_e : Exs := [((.exit 2), ⟨[1, 5], ⟨[(.clo 123 [(.aptr 0), (.ptr 1 0)]), (.ptr 2 0)], [.seq false, .cells false [.hole], .cells false [.hole, (.view 3), .nilv], .seq false], [0, 2, 0, 0], [.sl (.one (.int .i64)), .int .i64, .sl tLit, .sl (.one (.sl (.one (.int .i64))))]⟩⟩)]
def w61_u1_a : AC := (.seq .run (.seq .run (.seq (.block (.seq .run (.hide [[8, 9], [8, 9], [], [], [], [], [], [], []]))) .run)))
def w61_u1 : Un := lpU w61_v.fz [36, 37, 38, 9, 39, 40, 41, 42, 43, 44, 45, 46, 47, 35] w61_u1_h w61_u1_e (lp clause_each_1_L1 fuel)
theorem w61_u1_s (f : w61_u1_h.X → Option (YT w61_u1_e)) (x : w61_u1_h.X) : E w61_v (subC (bodyOf Tryz.f122) [1, 1, 1, 0, 1, 0, 0]) (w61_u1_a) (mkS w61_u1_h 8 x) (roundK w61_v.fz w61_u1_h w61_u1_e f) = clause_each_1_L1 f x := by kernel_rfl
theorem w61_u1_ok {X : Fx} (hX : VOk Tryz.prog X w61_v) : UnOk Tryz.prog X w61_v (subC (bodyOf Tryz.f122) [1, 1, 1, 0, 1, 0]) w61_u1 :=
 lp_un' (c := (subC (bodyOf Tryz.f122) [1, 1, 1, 0, 1, 0, 0])) (by kernel_rfl) (env_all tb_ok (w61_gs)) hord (ob := []) (by kernel_rfl) (fun X hX => obl_nil) (w61_u1_s) (by kernel_rfl) (by kernel_rfl) hX
def w61_u0_h : SS := ⟨[1, 2, 4, 5, 13, 14, 15], ⟨[(.clo 123 [(.aptr 0), (.ptr 1 0)]), (.ptr 2 0), (.ptr 3 0), (.ptr 4 0), .hole, .hole, .hole], [.seq false, .cells false [.hole], .cells true [.hole, .hole, .hole], .cells true [.nilv, .nilv, .nilv], .cells false [(.view 5), .nilv, .nilv], .seq false], [1, 2, 2, 0, 2, 1, 1, 1, 0], [.sl tLit, .int .i64, .int .i64, .sl (.one (.int .i64)), .int .i64, .sl tLit, .sl (.one (.sl (.one (.int .i64)))), .sl tLit, .sl tLit]⟩⟩
def w61_u0_e : Exs := [((.exit 0), ⟨[1, 5], ⟨[(.clo 123 [(.aptr 0), (.ptr 1 0)]), (.ptr 2 0)], [.seq false, .cells false [.hole], .cells false [(.view 3), .nilv, .nilv], .seq false], [0, 2, 0], [.sl (.one (.int .i64)), .int .i64, .sl tLit]⟩⟩)]
def w61_u0_a : AC := (.seq .run (.seq .run (.seq (.block (.seq .run (.hide [[8, 9], [8, 9], [8, 9], [8, 9], [], [], [], [], [], [], [], [], []]))) .run)))
def w61_u0 : Un := lpU w61_v.fz [16, 17, 18, 7, 19, 20, 21, 22, 23, 24, 25, 26, 27, 28, 29, 30, 31, 15] w61_u0_h w61_u0_e (lp clause_each_1_L0 fuel)
theorem w61_u0_s (f : w61_u0_h.X → Option (YT w61_u0_e)) (x : w61_u0_h.X) : E w61_v (subC (bodyOf Tryz.f122) [1, 1, 0, 1, 0, 0]) (w61_u0_a) (mkS w61_u0_h 8 x) (roundK w61_v.fz w61_u0_h w61_u0_e f) = clause_each_1_L0 f x := by kernel_rfl
theorem w61_u0_ok {X : Fx} (hX : VOk Tryz.prog X w61_v) : UnOk Tryz.prog X w61_v (subC (bodyOf Tryz.f122) [1, 1, 0, 1, 0]) w61_u0 :=
 lp_un' (c := (subC (bodyOf Tryz.f122) [1, 1, 0, 1, 0, 0])) (by kernel_rfl) (env_all tb_ok (w61_gs)) hord (ob := []) (by kernel_rfl) (fun X hX => obl_nil) (w61_u0_s) (by kernel_rfl) (by kernel_rfl) hX
def w61_a : AC := (.seq .run (.seq .run (.seq (.seq .run (.block (.unit w61_u0))) (.seq (.seq .run (.block (.unit w61_u1))) (.seq (.seq .run (.block (.unit w61_u2))) .run)))))
theorem w61_s (x : TupL w61_c.inp.hs) : E w61_v (bodyOf Tryz.f122) (w61_a) (w61_c.entry x) (retSK tb w61_v.fz w61_c [.cell 4 28] x) = w61_c.F x := by kernel_rfl
theorem w61_ok : ShOk Tryz.prog gl 122 w61_c :=
 fn_ok (l := w61_g) (n := Tryz.f122.ntmps) (code := bodyOf Tryz.f122) (rts := [.cell 4 28]) tb_ok hord (w61_gs) Tryz.func122 (by kernel_rfl) (by kernel_rfl) rfl (by kernel_rfl) (ac := w61_a) (ob := [((subC (bodyOf Tryz.f122) [1, 1, 0, 1, 0]), w61_u0), ((subC (bodyOf Tryz.f122) [1, 1, 1, 0, 1, 0]), w61_u1), ((subC (bodyOf Tryz.f122) [1, 1, 1, 1, 0, 1, 0]), w61_u2)]) (by kernel_rfl) (fun X hX => (obl_cons (w61_u0_ok hX) (obl_cons (w61_u1_ok hX) (obl_cons (w61_u2_ok hX) obl_nil)))) (by kernel_rfl) (w61_s)
def w62_c : ShC := { inp := ⟨[(.agg [.hole, .hole, .hole])], [], [1, 1, 1], [.sl tLit, .sl (.one (.sl (.one (.int .i64)))), .sl tLit]⟩, out := ⟨[(.agg [.hole, .hole, (.view 0)])], [.seq false], [0, 0, 0], [.sl tLit, .sl (.one (.sl (.one (.int .i64)))), .sl tLit]⟩, nres := 1, ms := [], mu := [], leak := true, glob := false, F := fun (x : ((List QLit) × (List (List Int)) × (List QLit))) => clause_anew x.1 x.2.1 x.2.2 }
-- clause.anew
def w62_g : List (Nat × Con) := [(74, .gen (altE [w59_c])), (119, .gen (altE [w56_c])), (122, .gen (altE [w61_c]))]
def w62_v : Env := envOf tb gl w62_g w62_c Tryz.f81.ntmps
theorem w62_gs : Goods Tryz.prog (cond w62_c.glob gl fun _ => none) w62_g := (goods_cons (good_alt (alls_cons (w59_ok.anyGl rfl) alls_nil)) (goods_cons (good_alt (alls_cons (w56_ok.anyGl rfl) alls_nil)) (goods_cons (good_alt (alls_cons (w61_ok.anyGl rfl) alls_nil)) goods_nil)))
def w62_u0_h : SS := ⟨[2, 3, 16, 17, 18], ⟨[(.ptr 0 0), (.ptr 1 0), .hole, .hole, .hole], [.cells true [.nilv, .nilv, .nilv], .cells false [.hole, (.view 2), .hole], .seq false], [1, 2, 2, 0, 0, 0], [.sl (.one (.sl (.one (.int .i64)))), .int .i64, .int .i64, .sl tLit, .sl tLit, .sl (.one (.sl (.one (.int .i64))))]⟩⟩
def w62_u0_e : Exs := [((.exit 0), ⟨[3], ⟨[(.ptr 0 0)], [.cells false [.hole, (.view 1), .hole], .seq false], [0, 0, 0], [.sl tLit, .sl tLit, .sl (.one (.sl (.one (.int .i64))))]⟩⟩)]
def w62_u0_a : AC := .run
def w62_u0 : Un := lpU w62_v.fz [19, 20, 21, 5, 22, 23, 24, 25, 26, 27, 28, 29, 30, 31, 32, 33, 18] w62_u0_h w62_u0_e (lp clause_anew_L0 fuel)
theorem w62_u0_s (f : w62_u0_h.X → Option (YT w62_u0_e)) (x : w62_u0_h.X) : E w62_v (subC (bodyOf Tryz.f81) [1, 1, 0, 1, 0, 0]) (w62_u0_a) (mkS w62_u0_h 8 x) (roundK w62_v.fz w62_u0_h w62_u0_e f) = clause_anew_L0 f x := by kernel_rfl
theorem w62_u0_ok {X : Fx} (hX : VOk Tryz.prog X w62_v) : UnOk Tryz.prog X w62_v (subC (bodyOf Tryz.f81) [1, 1, 0, 1, 0]) w62_u0 :=
 lp_un' (c := (subC (bodyOf Tryz.f81) [1, 1, 0, 1, 0, 0])) (by kernel_rfl) (env_all tb_ok (w62_gs)) hord (ob := []) (by kernel_rfl) (fun X hX => obl_nil) (w62_u0_s) (by kernel_rfl) (by kernel_rfl) hX
def w62_a : AC := (.seq .run (.seq .run (.seq (.seq .run (.block (.unit w62_u0))) .run)))
theorem w62_s (x : TupL w62_c.inp.hs) : E w62_v (bodyOf Tryz.f81) (w62_a) (w62_c.entry x) (retSK tb w62_v.fz w62_c [.cell 2 28] x) = w62_c.F x := by kernel_rfl
theorem w62_ok : ShOk Tryz.prog gl 81 w62_c :=
 fn_ok (l := w62_g) (n := Tryz.f81.ntmps) (code := bodyOf Tryz.f81) (rts := [.cell 2 28]) tb_ok hord (w62_gs) Tryz.func81 (by kernel_rfl) (by kernel_rfl) rfl (by kernel_rfl) (ac := w62_a) (ob := [((subC (bodyOf Tryz.f81) [1, 1, 0, 1, 0]), w62_u0)]) (by kernel_rfl) (fun X hX => (obl_cons (w62_u0_ok hX) obl_nil)) (by kernel_rfl) (w62_s)
def w63_c : ShC := { inp := ⟨[.hole, (.agg [.hole, .hole, .hole])], [], [1, 1, 1, 1], [.sl tSym, .sl tLit, .sl (.one (.sl (.one (.int .i64)))), .sl tLit]⟩, out := ⟨[(.agg [.hole, .hole, (.view 0)]), .hole], [.seq false], [0, 0, 2, 0], [.sl tLit, .sl (.one (.sl (.one (.int .i64)))), .int .i64, .sl tLit]⟩, nres := 2, ms := [], mu := [], leak := true, glob := true, F := fun (x : ((List QSym) × (List QLit) × (List (List Int)) × (List QLit))) => clause_Normal x.1 x.2.1 x.2.2.1 x.2.2.2 }
-- clause.Normal
def w63_g : List (Nat × Con) := [(10, .gen (altE [w15_c])), (81, .gen (altE [w62_c]))]
def w63_v : Env := envOf tb gl w63_g w63_c Tryz.f36.ntmps
theorem w63_gs : Goods Tryz.prog (cond w63_c.glob gl fun _ => none) w63_g := (goods_cons (good_alt (alls_cons w15_ok alls_nil)) (goods_cons (good_alt (alls_cons (w62_ok.anyGl rfl) alls_nil)) goods_nil))
def w63_a : AC := .run
theorem w63_s (x : TupL w63_c.inp.hs) : E w63_v (bodyOf Tryz.f36) (w63_a) (w63_c.entry x) (retSK tb w63_v.fz w63_c [.cell 4 28, .tmp 5] x) = w63_c.F x := by kernel_rfl
theorem w63_ok : ShOk Tryz.prog gl 36 w63_c :=
 fn_ok (l := w63_g) (n := Tryz.f36.ntmps) (code := bodyOf Tryz.f36) (rts := [.cell 4 28, .tmp 5]) tb_ok hord (w63_gs) Tryz.func36 (by kernel_rfl) (by kernel_rfl) rfl (by kernel_rfl) (ac := w63_a) (ob := []) (by kernel_rfl) (fun X hX => obl_nil) (by kernel_rfl) (w63_s)
def w64_c : ShC := { inp := ⟨[.hole, (.agg [.hole, .hole, .hole]), .hole, (.agg [.hole, .hole, .hole]), .hole], [], [1, 1, 1, 1, 1, 1, 1, 1, 1], [.sl tSym, .sl tLit, .sl (.one (.sl (.one (.int .i64)))), .sl tLit, .int .i64, .sl tLit, .sl (.one (.sl (.one (.int .i64)))), .sl tLit, .int .i64]⟩, out := ⟨[(.agg [.hole, .hole, (.view 0)]), .hole, .hole], [.seq false], [0, 0, 2, 2, 0], [.sl tLit, .sl (.one (.sl (.one (.int .i64)))), .bool, .int .i64, .sl tLit]⟩, nres := 3, ms := [], mu := [], leak := true, glob := true, F := fun (x : ((List QSym) × (List QLit) × (List (List Int)) × (List QLit) × Int × (List QLit) × (List (List Int)) × (List QLit) × Int)) => resolve_one x.1 x.2.1 x.2.2.1 x.2.2.2.1 x.2.2.2.2.1 x.2.2.2.2.2.1 x.2.2.2.2.2.2.1 x.2.2.2.2.2.2.2.1 x.2.2.2.2.2.2.2.2 }
-- resolve.one
def w64_g : List (Nat × Con) := [(36, .gen (altE [w63_c])), (51, .gen (altE [w45_c])), (93, .gen (altE [w42_c])), (94, .gen (altE [w50_c])), (97, .gen (altE [w32_c]))]
def w64_v : Env := envOf tb gl w64_g w64_c Tryz.f55.ntmps
theorem w64_gs : Goods Tryz.prog (cond w64_c.glob gl fun _ => none) w64_g := (goods_cons (good_alt (alls_cons w63_ok alls_nil)) (goods_cons (good_alt (alls_cons (w45_ok.anyGl rfl) alls_nil)) (goods_cons (good_alt (alls_cons w42_ok alls_nil)) (goods_cons (good_alt (alls_cons (w50_ok.anyGl rfl) alls_nil)) (goods_cons (good_alt (alls_cons w32_ok alls_nil)) goods_nil)))))
def w64_a : AC := .run
theorem w64_s (x : TupL w64_c.inp.hs) : E w64_v (bodyOf Tryz.f55) (w64_a) (w64_c.entry x) (retSK tb w64_v.fz w64_c [.cell 10 28, .tmp 11, .tmp 12] x) = w64_c.F x := by kernel_rfl
theorem w64_ok : ShOk Tryz.prog gl 55 w64_c :=
 fn_ok (l := w64_g) (n := Tryz.f55.ntmps) (code := bodyOf Tryz.f55) (rts := [.cell 10 28, .tmp 11, .tmp 12]) tb_ok hord (w64_gs) Tryz.func55 (by kernel_rfl) (by kernel_rfl) rfl (by kernel_rfl) (ac := w64_a) (ob := []) (by kernel_rfl) (fun X hX => obl_nil) (by kernel_rfl) (w64_s)
def w65_c : ShC := { inp := ⟨[.hole, (.agg [.hole, .hole, .hole]), .hole, (.agg [.hole, .hole, .hole]), .hole], [], [1, 1, 1, 1, 1, 1, 1, 1, 1], [.sl tSym, .sl tLit, .sl (.one (.sl (.one (.int .i64)))), .sl tLit, .int .i64, .sl tLit, .sl (.one (.sl (.one (.int .i64)))), .sl tLit, .int .i64]⟩, out := ⟨[(.agg [.hole, .hole, (.view 0)]), .hole, .hole], [.seq false], [0, 0, 2, 2, 0], [.sl tLit, .sl (.one (.sl (.one (.int .i64)))), .bool, .int .i64, .sl tLit]⟩, nres := 3, ms := [], mu := [], leak := true, glob := true, F := fun (x : ((List QSym) × (List QLit) × (List (List Int)) × (List QLit) × Int × (List QLit) × (List (List Int)) × (List QLit) × Int)) => resolve_One x.1 x.2.1 x.2.2.1 x.2.2.2.1 x.2.2.2.2.1 x.2.2.2.2.2.1 x.2.2.2.2.2.2.1 x.2.2.2.2.2.2.2.1 x.2.2.2.2.2.2.2.2 }
-- resolve.One
def w65_g : List (Nat × Con) := [(10, .gen (altE [w15_c])), (54, .gen (altE [w16_c])), (55, .gen (altE [w64_c]))]
def w65_v : Env := envOf tb gl w65_g w65_c Tryz.f23.ntmps
theorem w65_gs : Goods Tryz.prog (cond w65_c.glob gl fun _ => none) w65_g := (goods_cons (good_alt (alls_cons w15_ok alls_nil)) (goods_cons (good_alt (alls_cons (w16_ok.anyGl rfl) alls_nil)) (goods_cons (good_alt (alls_cons w64_ok alls_nil)) goods_nil)))
def w65_a : AC := .run
theorem w65_s (x : TupL w65_c.inp.hs) : E w65_v (bodyOf Tryz.f23) (w65_a) (w65_c.entry x) (retSK tb w65_v.fz w65_c [.cell 10 28, .tmp 11, .tmp 12] x) = w65_c.F x := by kernel_rfl
theorem w65_ok : ShOk Tryz.prog gl 23 w65_c :=
 fn_ok (l := w65_g) (n := Tryz.f23.ntmps) (code := bodyOf Tryz.f23) (rts := [.cell 10 28, .tmp 11, .tmp 12]) tb_ok hord (w65_gs) Tryz.func23 (by kernel_rfl) (by kernel_rfl) rfl (by kernel_rfl) (ac := w65_a) (ob := []) (by kernel_rfl) (fun X hX => obl_nil) (by kernel_rfl) (w65_s)
def w66_c : ShC := { inp := ⟨[(.agg [.hole, .hole]), (.ptr 0 0)], [.cells true [.hole]], [1, 1, 1], [.bool, .sl (.one (.int .i64)), .sl tSym]⟩, out := ⟨[.hole], [], [2], [.bool]⟩, nres := 1, ms := [], mu := [], leak := false, glob := true, F := fun (x : (Bool × (List Int) × (List QSym))) => lit_Tops_c1 x.1 x.2.1 x.2.2 }
-- lit.Tops$1
def w66_g : List (Nat × Con) := [(82, .gen (altE [w11_c]))]
def w66_v : Env := envOf tb gl w66_g w66_c Tryz.f131.ntmps
theorem w66_gs : Goods Tryz.prog (cond w66_c.glob gl fun _ => none) w66_g := (goods_cons (good_alt (alls_cons w11_ok alls_nil)) goods_nil)
def w66_a : AC := .run
theorem w66_s (x : TupL w66_c.inp.hs) : E w66_v (bodyOf Tryz.f131) (w66_a) (w66_c.entry x) (retSK tb w66_v.fz w66_c [.tmp 3] x) = w66_c.F x := by kernel_rfl
theorem w66_ok : ShOk Tryz.prog gl 131 w66_c :=
 fn_ok (l := w66_g) (n := Tryz.f131.ntmps) (code := bodyOf Tryz.f131) (rts := [.tmp 3]) tb_ok hord (w66_gs) Tryz.func131 (by kernel_rfl) (by kernel_rfl) rfl (by kernel_rfl) (ac := w66_a) (ob := []) (by kernel_rfl) (fun X hX => obl_nil) (by kernel_rfl) (w66_s)
def w67_c : ShC := { inp := ⟨[.hole, (.clo 131 [(.ptr 0 0)])], [.cells true [.hole]], [1, 1], [.sl tLit, .sl tSym]⟩, out := ⟨[.hole], [], [2], [.int .i64]⟩, nres := 1, ms := [], mu := [], leak := false, glob := true, F := fun (x : ((List QLit) × (List QSym))) => slices_IndexFunc_6 x.1 x.2 }
-- slices.IndexFunc[[]api.Lit,api.Lit]
def w67_g : List (Nat × Con) := [(131, .gen (altE [w66_c]))]
def w67_v : Env := envOf tb gl w67_g w67_c Tryz.f116.ntmps
theorem w67_gs : Goods Tryz.prog (cond w67_c.glob gl fun _ => none) w67_g := (goods_cons (good_alt (alls_cons w66_ok alls_nil)) goods_nil)
def w67_u0_h : SS := ⟨[0, 1, 7, 8], ⟨[.hole, (.clo 131 [(.ptr 0 0)]), .hole, .hole], [.cells true [.hole]], [1, 2, 2, 1], [.sl tLit, .int .i64, .int .i64, .sl tSym]⟩⟩
def w67_u0_e : Exs := [((.exit 0), ⟨[], ⟨[], [], [], []⟩⟩), (.ret, ⟨[4], ⟨[.hole], [], [2], [.int .i64]⟩⟩)]
def w67_u0_a : AC := .run
def w67_u0 : Un := lpU w67_v.fz [9, 10, 5, 11, 12, 13, 14, 15, 16, 17, 4, 18, 8] w67_u0_h w67_u0_e (lp slices_IndexFunc_6_L0 fuel)
theorem w67_u0_s (f : w67_u0_h.X → Option (YT w67_u0_e)) (x : w67_u0_h.X) : E w67_v (subC (bodyOf Tryz.f116) [1, 0, 1, 0, 0]) (w67_u0_a) (mkS w67_u0_h 8 x) (roundK w67_v.fz w67_u0_h w67_u0_e f) = slices_IndexFunc_6_L0 f x := by kernel_rfl
theorem w67_u0_ok {X : Fx} (hX : VOk Tryz.prog X w67_v) : UnOk Tryz.prog X w67_v (subC (bodyOf Tryz.f116) [1, 0, 1, 0]) w67_u0 :=
 lp_un' (c := (subC (bodyOf Tryz.f116) [1, 0, 1, 0, 0])) (by kernel_rfl) (env_all tb_ok (w67_gs)) hord (ob := []) (by kernel_rfl) (fun X hX => obl_nil) (w67_u0_s) (by kernel_rfl) (by kernel_rfl) hX
def w67_a : AC := (.seq .run (.seq (.seq .run (.block (.unit w67_u0))) .run))
theorem w67_s (x : TupL w67_c.inp.hs) : E w67_v (bodyOf Tryz.f116) (w67_a) (w67_c.entry x) (retSK tb w67_v.fz w67_c [.tmp 4] x) = w67_c.F x := by kernel_rfl
theorem w67_ok : ShOk Tryz.prog gl 116 w67_c :=
 fn_ok (l := w67_g) (n := Tryz.f116.ntmps) (code := bodyOf Tryz.f116) (rts := [.tmp 4]) tb_ok hord (w67_gs) Tryz.func116 (by kernel_rfl) (by kernel_rfl) rfl (by kernel_rfl) (ac := w67_a) (ob := [((subC (bodyOf Tryz.f116) [1, 0, 1, 0]), w67_u0)]) (by kernel_rfl) (fun X hX => (obl_cons (w67_u0_ok hX) obl_nil)) (by kernel_rfl) (w67_s)
def w68_c : ShC := { inp := ⟨[.hole, (.clo 131 [(.ptr 0 0)])], [.cells true [.hole]], [1, 1], [.sl tLit, .sl tSym]⟩, out := ⟨[.hole], [], [2], [.bool]⟩, nres := 1, ms := [], mu := [], leak := false, glob := true, F := fun (x : ((List QLit) × (List QSym))) => slices_ContainsFunc_6 x.1 x.2 }
-- slices.ContainsFunc[[]api.Lit,api.Lit]
def w68_g : List (Nat × Con) := [(116, .gen (altE [w67_c]))]
def w68_v : Env := envOf tb gl w68_g w68_c Tryz.f75.ntmps
theorem w68_gs : Goods Tryz.prog (cond w68_c.glob gl fun _ => none) w68_g := (goods_cons (good_alt (alls_cons w67_ok alls_nil)) goods_nil)
def w68_a : AC := .run
theorem w68_s (x : TupL w68_c.inp.hs) : E w68_v (bodyOf Tryz.f75) (w68_a) (w68_c.entry x) (retSK tb w68_v.fz w68_c [.tmp 4] x) = w68_c.F x := by kernel_rfl
theorem w68_ok : ShOk Tryz.prog gl 75 w68_c :=
 fn_ok (l := w68_g) (n := Tryz.f75.ntmps) (code := bodyOf Tryz.f75) (rts := [.tmp 4]) tb_ok hord (w68_gs) Tryz.func75 (by kernel_rfl) (by kernel_rfl) rfl (by kernel_rfl) (ac := w68_a) (ob := []) (by kernel_rfl) (fun X hX => obl_nil) (by kernel_rfl) (w68_s)
def w69_c : ShC := { inp := ⟨[.hole, .hole], [], [1, 1], [.sl tSym, .sl (.one (.int .i64))]⟩, out := ⟨[.hole], [], [2], [.bool]⟩, nres := 1, ms := [], mu := [], leak := false, glob := true, F := fun (x : ((List QSym) × (List Int))) => term_IsTerm x.1 x.2 }
-- term.IsTerm
def w69_g : List (Nat × Con) := [(125, .gen (altE [w9_c]))]
def w69_v : Env := envOf tb gl w69_g w69_c Tryz.f179.ntmps
theorem w69_gs : Goods Tryz.prog (cond w69_c.glob gl fun _ => none) w69_g := (goods_cons (good_alt (alls_cons w9_ok alls_nil)) goods_nil)
def w69_a : AC := .run
theorem w69_s (x : TupL w69_c.inp.hs) : E w69_v (bodyOf Tryz.f179) (w69_a) (w69_c.entry x) (retSK tb w69_v.fz w69_c [.tmp 4] x) = w69_c.F x := by kernel_rfl
theorem w69_ok : ShOk Tryz.prog gl 179 w69_c :=
 fn_ok (l := w69_g) (n := Tryz.f179.ntmps) (code := bodyOf Tryz.f179) (rts := [.tmp 4]) tb_ok hord (w69_gs) Tryz.func179 (by kernel_rfl) (by kernel_rfl) rfl (by kernel_rfl) (ac := w69_a) (ob := []) (by kernel_rfl) (fun X hX => obl_nil) (by kernel_rfl) (w69_s)
def w70_c : ShC := { inp := ⟨[.hole], [], [1], [.sl (.one (.int .i64))]⟩, out := ⟨[.hole], [], [2], [.ar (.one (.int .i64)) 24]⟩, nres := 1, ms := [], mu := [], leak := false, glob := false, F := fun (x : (List Int)) => order_often x }
-- order.often
def w70_g : List (Nat × Con) := [(35, .gen (altE [w6_c]))]
def w70_v : Env := envOf tb gl w70_g w70_c Tryz.f195.ntmps
theorem w70_gs : Goods Tryz.prog (cond w70_c.glob gl fun _ => none) w70_g := (goods_cons (good_alt (alls_cons (w6_ok.anyGl rfl) alls_nil)) goods_nil)
def w70_u0_h : SS := ⟨[2, 5, 6, 7], ⟨[(.aptr 0), .hole, .hole, .hole], [.seq false], [1, 2, 2, 2], [.sl (.one (.int .i64)), .int .i64, .int .i64, .sl (.one (.int .i64))]⟩⟩
def w70_u0_e : Exs := [((.exit 0), ⟨[2], ⟨[(.aptr 0)], [.seq false], [2], [.sl (.one (.int .i64))]⟩⟩)]
def w70_u0_a : AC := .run
def w70_u0 : Un := lpU w70_v.fz [8, 9, 10, 4, 11, 12, 13, 14, 15, 16, 17, 18, 19, 7] w70_u0_h w70_u0_e (lp order_often_L0 fuel)
theorem w70_u0_s (f : w70_u0_h.X → Option (YT w70_u0_e)) (x : w70_u0_h.X) : E w70_v (subC (bodyOf Tryz.f195) [1, 0, 1, 0, 0]) (w70_u0_a) (mkS w70_u0_h 8 x) (roundK w70_v.fz w70_u0_h w70_u0_e f) = order_often_L0 f x := by kernel_rfl
theorem w70_u0_ok {X : Fx} (hX : VOk Tryz.prog X w70_v) : UnOk Tryz.prog X w70_v (subC (bodyOf Tryz.f195) [1, 0, 1, 0]) w70_u0 :=
 lp_un' (c := (subC (bodyOf Tryz.f195) [1, 0, 1, 0, 0])) (by kernel_rfl) (env_all tb_ok (w70_gs)) hord (ob := []) (by kernel_rfl) (fun X hX => obl_nil) (w70_u0_s) (by kernel_rfl) (by kernel_rfl) hX
def w70_a : AC := (.seq .run (.seq (.seq .run (.block (.unit w70_u0))) .run))
theorem w70_s (x : TupL w70_c.inp.hs) : E w70_v (bodyOf Tryz.f195) (w70_a) (w70_c.entry x) (retSK tb w70_v.fz w70_c [.cell 2 162] x) = w70_c.F x := by kernel_rfl
theorem w70_ok : ShOk Tryz.prog gl 195 w70_c :=
 fn_ok (l := w70_g) (n := Tryz.f195.ntmps) (code := bodyOf Tryz.f195) (rts := [.cell 2 162]) tb_ok hord (w70_gs) Tryz.func195 (by kernel_rfl) (by kernel_rfl) rfl (by kernel_rfl) (ac := w70_a) (ob := [((subC (bodyOf Tryz.f195) [1, 0, 1, 0]), w70_u0)]) (by kernel_rfl) (fun X hX => (obl_cons (w70_u0_ok hX) obl_nil)) (by kernel_rfl) (w70_s)
def w71_c : ShC := { inp := ⟨[.hole, .hole], [], [1, 1], [.sl (.one (.int .i64)), .sl (.one (.int .i64))]⟩, out := ⟨[.hole], [], [2], [.bool]⟩, nres := 1, ms := [], mu := [], leak := false, glob := false, F := fun (x : ((List Int) × (List Int))) => order_covers x.1 x.2 }
-- order.covers
def w71_g : List (Nat × Con) := [(195, .gen (altE [w70_c]))]
def w71_v : Env := envOf tb gl w71_g w71_c Tryz.f187.ntmps
theorem w71_gs : Goods Tryz.prog (cond w71_c.glob gl fun _ => none) w71_g := (goods_cons (good_alt (alls_cons (w70_ok.anyGl rfl) alls_nil)) goods_nil)
def w71_u0_h : SS := ⟨[5, 6, 12], ⟨[(.aptr 0), (.aptr 1), .hole], [.seq false, .seq false], [2, 2, 2], [.int .i64, .sl (.one (.int .i64)), .sl (.one (.int .i64))]⟩⟩
def w71_u0_e : Exs := [((.exit 0), ⟨[], ⟨[], [], [], []⟩⟩), (.ret, ⟨[4], ⟨[.hole], [], [2], [.bool]⟩⟩)]
def w71_u0_a : AC := .run
def w71_u0 : Un := lpU w71_v.fz [13, 14, 7, 15, 16, 17, 18, 19, 20, 21, 4, 22, 12] w71_u0_h w71_u0_e (lp order_covers_L0 fuel)
theorem w71_u0_s (f : w71_u0_h.X → Option (YT w71_u0_e)) (x : w71_u0_h.X) : E w71_v (subC (bodyOf Tryz.f187) [1, 1, 0, 1, 0, 0]) (w71_u0_a) (mkS w71_u0_h 8 x) (roundK w71_v.fz w71_u0_h w71_u0_e f) = order_covers_L0 f x := by kernel_rfl
theorem w71_u0_ok {X : Fx} (hX : VOk Tryz.prog X w71_v) : UnOk Tryz.prog X w71_v (subC (bodyOf Tryz.f187) [1, 1, 0, 1, 0]) w71_u0 :=
 lp_un' (c := (subC (bodyOf Tryz.f187) [1, 1, 0, 1, 0, 0])) (by kernel_rfl) (env_all tb_ok (w71_gs)) hord (ob := []) (by kernel_rfl) (fun X hX => obl_nil) (w71_u0_s) (by kernel_rfl) (by kernel_rfl) hX
def w71_a : AC := (.seq .run (.seq .run (.seq (.seq .run (.block (.unit w71_u0))) .run)))
theorem w71_s (x : TupL w71_c.inp.hs) : E w71_v (bodyOf Tryz.f187) (w71_a) (w71_c.entry x) (retSK tb w71_v.fz w71_c [.tmp 4] x) = w71_c.F x := by kernel_rfl
theorem w71_ok : ShOk Tryz.prog gl 187 w71_c :=
 fn_ok (l := w71_g) (n := Tryz.f187.ntmps) (code := bodyOf Tryz.f187) (rts := [.tmp 4]) tb_ok hord (w71_gs) Tryz.func187 (by kernel_rfl) (by kernel_rfl) rfl (by kernel_rfl) (ac := w71_a) (ob := [((subC (bodyOf Tryz.f187) [1, 1, 0, 1, 0]), w71_u0)]) (by kernel_rfl) (fun X hX => (obl_cons (w71_u0_ok hX) obl_nil)) (by kernel_rfl) (w71_s)
def w72_c : ShC := { inp := ⟨[.hole, .hole], [], [1, 1], [.sl tSym, .sl (.one (.int .i64))]⟩, out := ⟨[.hole], [], [2], [.int .i64]⟩, nres := 1, ms := [], mu := [], leak := false, glob := false, F := fun (x : ((List QSym) × (List Int))) => term_Sum x.1 x.2 }
-- term.Sum
def w72_g : List (Nat × Con) := []
def w72_v : Env := envOf tb gl w72_g w72_c Tryz.f188.ntmps
theorem w72_gs : Goods Tryz.prog (cond w72_c.glob gl fun _ => none) w72_g := goods_nil
def w72_u0_h : SS := ⟨[0, 5, 8, 9, 10], ⟨[.hole, .hole, .hole, .hole, .hole], [], [1, 2, 1, 2, 2], [.sl tSym, .int .i64, .sl (.one (.int .i64)), .int .i64, .int .i64]⟩⟩
def w72_u0_e : Exs := [((.exit 0), ⟨[5], ⟨[.hole], [], [2], [.int .i64]⟩⟩)]
def w72_u0_a : AC := .run
def w72_u0 : Un := lpU w72_v.fz [11, 12, 13, 7, 14, 15, 16, 17, 5, 18, 19, 20, 21, 22, 23, 24, 5, 25, 10] w72_u0_h w72_u0_e (lp term_Sum_L0 fuel)
theorem w72_u0_s (f : w72_u0_h.X → Option (YT w72_u0_e)) (x : w72_u0_h.X) : E w72_v (subC (bodyOf Tryz.f188) [1, 1, 0, 1, 0, 0]) (w72_u0_a) (mkS w72_u0_h 8 x) (roundK w72_v.fz w72_u0_h w72_u0_e f) = term_Sum_L0 f x := by kernel_rfl
theorem w72_u0_ok {X : Fx} (hX : VOk Tryz.prog X w72_v) : UnOk Tryz.prog X w72_v (subC (bodyOf Tryz.f188) [1, 1, 0, 1, 0]) w72_u0 :=
 lp_un' (c := (subC (bodyOf Tryz.f188) [1, 1, 0, 1, 0, 0])) (by kernel_rfl) (env_all tb_ok (w72_gs)) hord (ob := []) (by kernel_rfl) (fun X hX => obl_nil) (w72_u0_s) (by kernel_rfl) (by kernel_rfl) hX
def w72_a : AC := (.seq .run (.seq .run (.seq (.seq .run (.block (.unit w72_u0))) .run)))
theorem w72_s (x : TupL w72_c.inp.hs) : E w72_v (bodyOf Tryz.f188) (w72_a) (w72_c.entry x) (retSK tb w72_v.fz w72_c [.tmp 4] x) = w72_c.F x := by kernel_rfl
theorem w72_ok : ShOk Tryz.prog gl 188 w72_c :=
 fn_ok (l := w72_g) (n := Tryz.f188.ntmps) (code := bodyOf Tryz.f188) (rts := [.tmp 4]) tb_ok hord (w72_gs) Tryz.func188 (by kernel_rfl) (by kernel_rfl) rfl (by kernel_rfl) (ac := w72_a) (ob := [((subC (bodyOf Tryz.f188) [1, 1, 0, 1, 0]), w72_u0)]) (by kernel_rfl) (fun X hX => (obl_cons (w72_u0_ok hX) obl_nil)) (by kernel_rfl) (w72_s)
def w73_c : ShC := { inp := ⟨[.hole, .hole, .hole], [], [1, 1, 1], [.sl tSym, .sl (.one (.int .i64)), .sl (.one (.int .i64))]⟩, out := ⟨[.hole, .hole], [], [0, 0], [.sl (.one (.int .i64)), .sl (.one (.int .i64))]⟩, nres := 2, ms := [], mu := [], leak := true, glob := false, F := fun (x : ((List QSym) × (List Int) × (List Int))) => order_unlike x.1 x.2.1 x.2.2 }
-- order.unlike
def w73_g : List (Nat × Con) := [(108, .gen (altE [w33_c])), (121, .gen (altE [w51_c]))]
def w73_v : Env := envOf tb gl w73_g w73_c Tryz.f189.ntmps
theorem w73_gs : Goods Tryz.prog (cond w73_c.glob gl fun _ => none) w73_g := (goods_cons (good_alt (alls_cons (w33_ok.anyGl rfl) alls_nil)) (goods_cons (good_alt (alls_cons (w51_ok.anyGl rfl) alls_nil)) goods_nil))
def w73_u0_h : SS := ⟨[8, 16, 17, 18], ⟨[.hole, .hole, .hole, .hole], [], [0, 0, 2, 2], [.sl (.one (.sl (.one (.int .i64)))), .sl (.one (.sl (.one (.int .i64)))), .int .i64, .int .i64]⟩⟩
def w73_u0_e : Exs := [((.exit 0), ⟨[], ⟨[], [], [], []⟩⟩), (.ret, ⟨[6, 7], ⟨[.hole, .hole], [], [0, 0], [.sl (.one (.int .i64)), .sl (.one (.int .i64))]⟩⟩)]
def w73_u0_a : AC := .run
def w73_u0 : Un := lpU w73_v.fz [19, 20, 21, 22, 9, 10, 23, 24, 25, 26, 27, 28, 29, 30, 31, 32, 33, 34, 35, 36, 37, 38, 39, 40, 6, 7, 41, 18] w73_u0_h w73_u0_e (lp order_unlike_L0 fuel)
theorem w73_u0_s (f : w73_u0_h.X → Option (YT w73_u0_e)) (x : w73_u0_h.X) : E w73_v (subC (bodyOf Tryz.f189) [1, 1, 0, 1, 0, 0]) (w73_u0_a) (mkS w73_u0_h 8 x) (roundK w73_v.fz w73_u0_h w73_u0_e f) = order_unlike_L0 f x := by kernel_rfl
theorem w73_u0_ok {X : Fx} (hX : VOk Tryz.prog X w73_v) : UnOk Tryz.prog X w73_v (subC (bodyOf Tryz.f189) [1, 1, 0, 1, 0]) w73_u0 :=
 lp_un' (c := (subC (bodyOf Tryz.f189) [1, 1, 0, 1, 0, 0])) (by kernel_rfl) (env_all tb_ok (w73_gs)) hord (ob := []) (by kernel_rfl) (fun X hX => obl_nil) (w73_u0_s) (by kernel_rfl) (by kernel_rfl) hX
def w73_a : AC := (.seq .run (.seq .run (.seq (.seq .run (.block (.unit w73_u0))) .run)))
theorem w73_s (x : TupL w73_c.inp.hs) : E w73_v (bodyOf Tryz.f189) (w73_a) (w73_c.entry x) (retSK tb w73_v.fz w73_c [.tmp 6, .tmp 7] x) = w73_c.F x := by kernel_rfl
theorem w73_ok : ShOk Tryz.prog gl 189 w73_c :=
 fn_ok (l := w73_g) (n := Tryz.f189.ntmps) (code := bodyOf Tryz.f189) (rts := [.tmp 6, .tmp 7]) tb_ok hord (w73_gs) Tryz.func189 (by kernel_rfl) (by kernel_rfl) rfl (by kernel_rfl) (ac := w73_a) (ob := [((subC (bodyOf Tryz.f189) [1, 1, 0, 1, 0]), w73_u0)]) (by kernel_rfl) (fun X hX => (obl_cons (w73_u0_ok hX) obl_nil)) (by kernel_rfl) (w73_s)
def w74_c : ShC := { inp := ⟨[.hole, .hole, .hole], [], [1, 1, 1], [.sl tSym, .sl (.one (.int .i64)), .sl (.one (.int .i64))]⟩, out := ⟨[.hole], [], [2], [.bool]⟩, nres := 1, ms := [], mu := [], leak := false, glob := false, F := fun (x : ((List QSym) × (List Int) × (List Int))) => order_more x.1 x.2.1 x.2.2 }
-- order.more
def w74_g : List (Nat × Con) := [(187, .gen (altE [w71_c])), (188, .gen (altE [w72_c])), (189, .gen (altE [w73_c]))]
def w74_v : Env := envOf tb gl w74_g w74_c Tryz.f180.ntmps
theorem w74_gs : Goods Tryz.prog (cond w74_c.glob gl fun _ => none) w74_g := (goods_cons (good_alt (alls_cons (w71_ok.anyGl rfl) alls_nil)) (goods_cons (good_alt (alls_cons (w72_ok.anyGl rfl) alls_nil)) (goods_cons (good_alt (alls_cons (w73_ok.anyGl rfl) alls_nil)) goods_nil)))
def w74_u0_h : SS := ⟨[0, 1, 2], ⟨[.hole, .hole, .hole], [], [1, 0, 0], [.sl tSym, .sl (.one (.int .i64)), .sl (.one (.int .i64))]⟩⟩
def w74_u0_e : Exs := [((.exit 0), ⟨[], ⟨[], [], [], []⟩⟩), (.ret, ⟨[6], ⟨[.hole], [], [2], [.bool]⟩⟩)]
def w74_u0_a : AC := .run
def w74_u0 : Un := lpU w74_v.fz [9, 10, 11, 12, 13, 14, 15, 16, 17, 18, 19, 20, 21, 7, 8, 22, 23, 24, 25, 26, 27, 6, 28, 29, 30, 31, 32, 33, 34, 35, 36, 37, 38, 39, 40, 41, 6, 43, 44, 45, 46, 47, 48, 42, 49, 50, 1, 2] w74_u0_h w74_u0_e (lp order_more_L0 fuel)
theorem w74_u0_s (f : w74_u0_h.X → Option (YT w74_u0_e)) (x : w74_u0_h.X) : E w74_v (subC (bodyOf Tryz.f180) [1, 0, 0, 0]) (w74_u0_a) (mkS w74_u0_h 8 x) (roundK w74_v.fz w74_u0_h w74_u0_e f) = order_more_L0 f x := by kernel_rfl
theorem w74_u0_ok {X : Fx} (hX : VOk Tryz.prog X w74_v) : UnOk Tryz.prog X w74_v (subC (bodyOf Tryz.f180) [1, 0, 0]) w74_u0 :=
 lp_un' (c := (subC (bodyOf Tryz.f180) [1, 0, 0, 0])) (by kernel_rfl) (env_all tb_ok (w74_gs)) hord (ob := []) (by kernel_rfl) (fun X hX => obl_nil) (w74_u0_s) (by kernel_rfl) (by kernel_rfl) hX
def w74_a : AC := (.seq .run (.seq (.block (.unit w74_u0)) .run))
theorem w74_s (x : TupL w74_c.inp.hs) : E w74_v (bodyOf Tryz.f180) (w74_a) (w74_c.entry x) (retSK tb w74_v.fz w74_c [.tmp 6] x) = w74_c.F x := by kernel_rfl
theorem w74_ok : ShOk Tryz.prog gl 180 w74_c :=
 fn_ok (l := w74_g) (n := Tryz.f180.ntmps) (code := bodyOf Tryz.f180) (rts := [.tmp 6]) tb_ok hord (w74_gs) Tryz.func180 (by kernel_rfl) (by kernel_rfl) rfl (by kernel_rfl) (ac := w74_a) (ob := [((subC (bodyOf Tryz.f180) [1, 0, 0]), w74_u0)]) (by kernel_rfl) (fun X hX => (obl_cons (w74_u0_ok hX) obl_nil)) (by kernel_rfl) (w74_s)
def w75_c : ShC := { inp := ⟨[.hole, .hole, .hole], [], [1, 1, 1], [.sl tSym, .sl (.one (.int .i64)), .sl (.one (.int .i64))]⟩, out := ⟨[.hole, .hole], [], [2, 2], [.int .i64, .int .i64]⟩, nres := 2, ms := [], mu := [], leak := false, glob := true, F := fun (x : ((List QSym) × (List Int) × (List Int))) => order_Compare x.1 x.2.1 x.2.2 }
-- order.Compare
def w75_g : List (Nat × Con) := [(121, .gen (altE [w51_c])), (124, .gen (altE [w10_c])), (179, .gen (altE [w69_c])), (180, .gen (altE [w74_c]))]
def w75_v : Env := envOf tb gl w75_g w75_c Tryz.f161.ntmps
theorem w75_gs : Goods Tryz.prog (cond w75_c.glob gl fun _ => none) w75_g := (goods_cons (good_alt (alls_cons (w51_ok.anyGl rfl) alls_nil)) (goods_cons (good_alt (alls_cons w10_ok alls_nil)) (goods_cons (good_alt (alls_cons w69_ok alls_nil)) (goods_cons (good_alt (alls_cons (w74_ok.anyGl rfl) alls_nil)) goods_nil))))
def w75_a : AC := .run
theorem w75_s (x : TupL w75_c.inp.hs) : E w75_v (bodyOf Tryz.f161) (w75_a) (w75_c.entry x) (retSK tb w75_v.fz w75_c [.tmp 6, .tmp 7] x) = w75_c.F x := by kernel_rfl
theorem w75_ok : ShOk Tryz.prog gl 161 w75_c :=
 fn_ok (l := w75_g) (n := Tryz.f161.ntmps) (code := bodyOf Tryz.f161) (rts := [.tmp 6, .tmp 7]) tb_ok hord (w75_gs) Tryz.func161 (by kernel_rfl) (by kernel_rfl) rfl (by kernel_rfl) (ac := w75_a) (ob := []) (by kernel_rfl) (fun X hX => obl_nil) (by kernel_rfl) (w75_s)
def w76_c : ShC := { inp := ⟨[.hole, (.agg [.hole, .hole]), (.agg [.hole, .hole])], [], [1, 1, 1, 1, 1], [.sl tSym, .bool, .sl (.one (.int .i64)), .bool, .sl (.one (.int .i64))]⟩, out := ⟨[.hole, .hole], [], [2, 2], [.int .i64, .int .i64]⟩, nres := 2, ms := [], mu := [], leak := false, glob := true, F := fun (x : ((List QSym) × Bool × (List Int) × Bool × (List Int))) => lit_Compare x.1 x.2.1 x.2.2.1 x.2.2.2.1 x.2.2.2.2 }
-- lit.Compare
def w76_g : List (Nat × Con) := [(82, .gen (altE [w11_c])), (161, .gen (altE [w75_c]))]
def w76_v : Env := envOf tb gl w76_g w76_c Tryz.f133.ntmps
theorem w76_gs : Goods Tryz.prog (cond w76_c.glob gl fun _ => none) w76_g := (goods_cons (good_alt (alls_cons w11_ok alls_nil)) (goods_cons (good_alt (alls_cons w75_ok alls_nil)) goods_nil))
def w76_a : AC := .run
theorem w76_s (x : TupL w76_c.inp.hs) : E w76_v (bodyOf Tryz.f133) (w76_a) (w76_c.entry x) (retSK tb w76_v.fz w76_c [.tmp 6, .tmp 7] x) = w76_c.F x := by kernel_rfl
theorem w76_ok : ShOk Tryz.prog gl 133 w76_c :=
 fn_ok (l := w76_g) (n := Tryz.f133.ntmps) (code := bodyOf Tryz.f133) (rts := [.tmp 6, .tmp 7]) tb_ok hord (w76_gs) Tryz.func133 (by kernel_rfl) (by kernel_rfl) rfl (by kernel_rfl) (ac := w76_a) (ob := []) (by kernel_rfl) (fun X hX => obl_nil) (by kernel_rfl) (w76_s)
def w77_c : ShC := { inp := ⟨[(.agg [.hole, .hole]), (.ptr 0 0), (.ptr 1 0)], [.cells true [.hole], .cells true [.hole, .hole]], [1, 1, 1, 1, 1], [.bool, .sl (.one (.int .i64)), .sl tSym, .bool, .sl (.one (.int .i64))]⟩, out := ⟨[.hole], [], [2], [.bool]⟩, nres := 1, ms := [], mu := [], leak := false, glob := true, F := fun (x : (Bool × (List Int) × (List QSym) × Bool × (List Int))) => lit_Tops_c2 x.1 x.2.1 x.2.2.1 x.2.2.2.1 x.2.2.2.2 }
-- lit.Tops$2
def w77_g : List (Nat × Con) := [(133, .gen (altE [w76_c]))]
def w77_v : Env := envOf tb gl w77_g w77_c Tryz.f132.ntmps
theorem w77_gs : Goods Tryz.prog (cond w77_c.glob gl fun _ => none) w77_g := (goods_cons (good_alt (alls_cons w76_ok alls_nil)) goods_nil)
def w77_a : AC := .run
theorem w77_s (x : TupL w77_c.inp.hs) : E w77_v (bodyOf Tryz.f132) (w77_a) (w77_c.entry x) (retSK tb w77_v.fz w77_c [.tmp 4] x) = w77_c.F x := by kernel_rfl
theorem w77_ok : ShOk Tryz.prog gl 132 w77_c :=
 fn_ok (l := w77_g) (n := Tryz.f132.ntmps) (code := bodyOf Tryz.f132) (rts := [.tmp 4]) tb_ok hord (w77_gs) Tryz.func132 (by kernel_rfl) (by kernel_rfl) rfl (by kernel_rfl) (ac := w77_a) (ob := []) (by kernel_rfl) (fun X hX => obl_nil) (by kernel_rfl) (w77_s)
def w78_c : ShC := { inp := ⟨[.hole, (.clo 132 [(.ptr 0 0), (.ptr 1 0)])], [.cells true [.hole], .cells true [.hole, .hole]], [1, 1, 1, 1], [.sl tLit, .sl tSym, .bool, .sl (.one (.int .i64))]⟩, out := ⟨[.hole], [], [2], [.int .i64]⟩, nres := 1, ms := [], mu := [], leak := false, glob := true, F := fun (x : ((List QLit) × (List QSym) × Bool × (List Int))) => slices_IndexFunc_7 x.1 x.2.1 x.2.2.1 x.2.2.2 }
-- slices.IndexFunc[[]api.Lit,api.Lit]
def w78_g : List (Nat × Con) := [(132, .gen (altE [w77_c]))]
def w78_v : Env := envOf tb gl w78_g w78_c Tryz.f116.ntmps
theorem w78_gs : Goods Tryz.prog (cond w78_c.glob gl fun _ => none) w78_g := (goods_cons (good_alt (alls_cons w77_ok alls_nil)) goods_nil)
def w78_u0_h : SS := ⟨[0, 1, 7, 8], ⟨[.hole, (.clo 132 [(.ptr 0 0), (.ptr 1 0)]), .hole, .hole], [.cells true [.hole], .cells true [.hole, .hole]], [1, 2, 2, 1, 2, 1], [.sl tLit, .int .i64, .int .i64, .sl tSym, .bool, .sl (.one (.int .i64))]⟩⟩
def w78_u0_e : Exs := [((.exit 0), ⟨[], ⟨[], [], [], []⟩⟩), (.ret, ⟨[4], ⟨[.hole], [], [2], [.int .i64]⟩⟩)]
def w78_u0_a : AC := .run
def w78_u0 : Un := lpU w78_v.fz [9, 10, 5, 11, 12, 13, 14, 15, 16, 17, 4, 18, 8] w78_u0_h w78_u0_e (lp slices_IndexFunc_7_L0 fuel)
theorem w78_u0_s (f : w78_u0_h.X → Option (YT w78_u0_e)) (x : w78_u0_h.X) : E w78_v (subC (bodyOf Tryz.f116) [1, 0, 1, 0, 0]) (w78_u0_a) (mkS w78_u0_h 8 x) (roundK w78_v.fz w78_u0_h w78_u0_e f) = slices_IndexFunc_7_L0 f x := by kernel_rfl
theorem w78_u0_ok {X : Fx} (hX : VOk Tryz.prog X w78_v) : UnOk Tryz.prog X w78_v (subC (bodyOf Tryz.f116) [1, 0, 1, 0]) w78_u0 :=
 lp_un' (c := (subC (bodyOf Tryz.f116) [1, 0, 1, 0, 0])) (by kernel_rfl) (env_all tb_ok (w78_gs)) hord (ob := []) (by kernel_rfl) (fun X hX => obl_nil) (w78_u0_s) (by kernel_rfl) (by kernel_rfl) hX
def w78_a : AC := (.seq .run (.seq (.seq .run (.block (.unit w78_u0))) .run))
theorem w78_s (x : TupL w78_c.inp.hs) : E w78_v (bodyOf Tryz.f116) (w78_a) (w78_c.entry x) (retSK tb w78_v.fz w78_c [.tmp 4] x) = w78_c.F x := by kernel_rfl
theorem w78_ok : ShOk Tryz.prog gl 116 w78_c :=
 fn_ok (l := w78_g) (n := Tryz.f116.ntmps) (code := bodyOf Tryz.f116) (rts := [.tmp 4]) tb_ok hord (w78_gs) Tryz.func116 (by kernel_rfl) (by kernel_rfl) rfl (by kernel_rfl) (ac := w78_a) (ob := [((subC (bodyOf Tryz.f116) [1, 0, 1, 0]), w78_u0)]) (by kernel_rfl) (fun X hX => (obl_cons (w78_u0_ok hX) obl_nil)) (by kernel_rfl) (w78_s)
def w79_c : ShC := { inp := ⟨[.hole, (.clo 132 [(.ptr 0 0), (.ptr 1 0)])], [.cells true [.hole], .cells true [.hole, .hole]], [1, 1, 1, 1], [.sl tLit, .sl tSym, .bool, .sl (.one (.int .i64))]⟩, out := ⟨[.hole], [], [2], [.bool]⟩, nres := 1, ms := [], mu := [], leak := false, glob := true, F := fun (x : ((List QLit) × (List QSym) × Bool × (List Int))) => slices_ContainsFunc_7 x.1 x.2.1 x.2.2.1 x.2.2.2 }
-- slices.ContainsFunc[[]api.Lit,api.Lit]
def w79_g : List (Nat × Con) := [(116, .gen (altE [w78_c]))]
def w79_v : Env := envOf tb gl w79_g w79_c Tryz.f75.ntmps
theorem w79_gs : Goods Tryz.prog (cond w79_c.glob gl fun _ => none) w79_g := (goods_cons (good_alt (alls_cons w78_ok alls_nil)) goods_nil)
def w79_a : AC := .run
theorem w79_s (x : TupL w79_c.inp.hs) : E w79_v (bodyOf Tryz.f75) (w79_a) (w79_c.entry x) (retSK tb w79_v.fz w79_c [.tmp 4] x) = w79_c.F x := by kernel_rfl
theorem w79_ok : ShOk Tryz.prog gl 75 w79_c :=
 fn_ok (l := w79_g) (n := Tryz.f75.ntmps) (code := bodyOf Tryz.f75) (rts := [.tmp 4]) tb_ok hord (w79_gs) Tryz.func75 (by kernel_rfl) (by kernel_rfl) rfl (by kernel_rfl) (ac := w79_a) (ob := []) (by kernel_rfl) (fun X hX => obl_nil) (by kernel_rfl) (w79_s)
def w80_c : ShC := { inp := ⟨[.hole, .hole], [], [1, 1], [.sl tSym, .sl tLit]⟩, out := ⟨[(.view 0), .hole], [.seq false], [2, 2], [.int .i64, .sl (.one (.int .i64))]⟩, nres := 2, ms := [], mu := [], leak := false, glob := true, F := fun (x : ((List QSym) × (List QLit))) => lit_Tops x.1 x.2 }
-- lit.Tops
def w80_g : List (Nat × Con) := [(32, .gen (altE [w5_c])), (75, .gen (altE [w68_c, w79_c]))]
def w80_v : Env := envOf tb gl w80_g w80_c Tryz.f90.ntmps
theorem w80_gs : Goods Tryz.prog (cond w80_c.glob gl fun _ => none) w80_g := (goods_cons (good_alt (alls_cons w5_ok alls_nil)) (goods_cons (good_alt (alls_cons w68_ok (alls_cons w79_ok alls_nil))) goods_nil))
def w80_u0_h : SS := ⟨[1, 2, 6, 17, 18, 19], ⟨[.hole, (.ptr 0 0), (.view 1), .hole, .hole, .hole], [.cells true [.hole], .seq false], [1, 1, 2, 2, 1, 2], [.sl tLit, .sl tLit, .int .i64, .int .i64, .sl tSym, .sl (.one (.int .i64))]⟩⟩
def w80_u0_e : Exs := [((.exit 0), ⟨[6], ⟨[(.view 0)], [.seq false], [2], [.sl (.one (.int .i64))]⟩⟩)]
def w80_u0_a : AC := .run
def w80_u0 : Un := lpU w80_v.fz [20, 21, 22, 23, 8, 7, 24, 25, 26, 27, 28, 29, 30, 31, 6, 32, 19] w80_u0_h w80_u0_e (lp lit_Tops_L0 fuel)
theorem w80_u0_s (f : w80_u0_h.X → Option (YT w80_u0_e)) (x : w80_u0_h.X) : E w80_v (subC (bodyOf Tryz.f90) [1, 1, 1, 0, 1, 0, 0]) (w80_u0_a) (mkS w80_u0_h 8 x) (roundK w80_v.fz w80_u0_h w80_u0_e f) = lit_Tops_L0 f x := by kernel_rfl
theorem w80_u0_ok {X : Fx} (hX : VOk Tryz.prog X w80_v) : UnOk Tryz.prog X w80_v (subC (bodyOf Tryz.f90) [1, 1, 1, 0, 1, 0]) w80_u0 :=
 lp_un' (c := (subC (bodyOf Tryz.f90) [1, 1, 1, 0, 1, 0, 0])) (by kernel_rfl) (env_all tb_ok (w80_gs)) hord (ob := []) (by kernel_rfl) (fun X hX => obl_nil) (w80_u0_s) (by kernel_rfl) (by kernel_rfl) hX
def w80_a : AC := (.seq .run (.seq .run (.seq .run (.seq (.seq .run (.block (.unit w80_u0))) .run))))
theorem w80_s (x : TupL w80_c.inp.hs) : E w80_v (bodyOf Tryz.f90) (w80_a) (w80_c.entry x) (retSK tb w80_v.fz w80_c [.tmp 4, .tmp 5] x) = w80_c.F x := by kernel_rfl
theorem w80_ok : ShOk Tryz.prog gl 90 w80_c :=
 fn_ok (l := w80_g) (n := Tryz.f90.ntmps) (code := bodyOf Tryz.f90) (rts := [.tmp 4, .tmp 5]) tb_ok hord (w80_gs) Tryz.func90 (by kernel_rfl) (by kernel_rfl) rfl (by kernel_rfl) (ac := w80_a) (ob := [((subC (bodyOf Tryz.f90) [1, 1, 1, 0, 1, 0]), w80_u0)]) (by kernel_rfl) (fun X hX => (obl_cons (w80_u0_ok hX) obl_nil)) (by kernel_rfl) (w80_s)
def w81_c : ShC := { inp := ⟨[.hole, (.agg [.hole, .hole])], [], [1, 1, 1], [.sl tSym, .bool, .sl (.one (.int .i64))]⟩, out := ⟨[.hole], [], [2], [.bool]⟩, nres := 1, ms := [], mu := [], leak := false, glob := false, F := fun (x : ((List QSym) × Bool × (List Int))) => clause_selfSame x.1 x.2.1 x.2.2 }
-- clause.selfSame
def w81_g : List (Nat × Con) := [(108, .gen (altE [w33_c])), (121, .gen (altE [w51_c]))]
def w81_v : Env := envOf tb gl w81_g w81_c Tryz.f162.ntmps
theorem w81_gs : Goods Tryz.prog (cond w81_c.glob gl fun _ => none) w81_g := (goods_cons (good_alt (alls_cons (w33_ok.anyGl rfl) alls_nil)) (goods_cons (good_alt (alls_cons (w51_ok.anyGl rfl) alls_nil)) goods_nil))
def w81_a : AC := .run
theorem w81_s (x : TupL w81_c.inp.hs) : E w81_v (bodyOf Tryz.f162) (w81_a) (w81_c.entry x) (retSK tb w81_v.fz w81_c [.tmp 4] x) = w81_c.F x := by kernel_rfl
theorem w81_ok : ShOk Tryz.prog gl 162 w81_c :=
 fn_ok (l := w81_g) (n := Tryz.f162.ntmps) (code := bodyOf Tryz.f162) (rts := [.tmp 4]) tb_ok hord (w81_gs) Tryz.func162 (by kernel_rfl) (by kernel_rfl) rfl (by kernel_rfl) (ac := w81_a) (ob := []) (by kernel_rfl) (fun X hX => obl_nil) (by kernel_rfl) (w81_s)
def w82_c : ShC := { inp := ⟨[(.agg [.hole, .hole]), (.ptr 0 0)], [.cells true [.hole, .hole]], [1, 1, 1, 1], [.bool, .sl (.one (.int .i64)), .bool, .sl (.one (.int .i64))]⟩, out := ⟨[.hole], [], [2], [.bool]⟩, nres := 1, ms := [], mu := [], leak := false, glob := false, F := fun (x : (Bool × (List Int) × Bool × (List Int))) => clause_Trivial_c1 x.1 x.2.1 x.2.2.1 x.2.2.2 }
-- clause.Trivial$1
def w82_g : List (Nat × Con) := [(121, .gen (altE [w51_c]))]
def w82_v : Env := envOf tb gl w82_g w82_c Tryz.f163.ntmps
theorem w82_gs : Goods Tryz.prog (cond w82_c.glob gl fun _ => none) w82_g := (goods_cons (good_alt (alls_cons (w51_ok.anyGl rfl) alls_nil)) goods_nil)
def w82_a : AC := .run
theorem w82_s (x : TupL w82_c.inp.hs) : E w82_v (bodyOf Tryz.f163) (w82_a) (w82_c.entry x) (retSK tb w82_v.fz w82_c [.tmp 3] x) = w82_c.F x := by kernel_rfl
theorem w82_ok : ShOk Tryz.prog gl 163 w82_c :=
 fn_ok (l := w82_g) (n := Tryz.f163.ntmps) (code := bodyOf Tryz.f163) (rts := [.tmp 3]) tb_ok hord (w82_gs) Tryz.func163 (by kernel_rfl) (by kernel_rfl) rfl (by kernel_rfl) (ac := w82_a) (ob := []) (by kernel_rfl) (fun X hX => obl_nil) (by kernel_rfl) (w82_s)
def w83_c : ShC := { inp := ⟨[.hole, (.clo 163 [(.ptr 0 0)])], [.cells true [.hole, .hole]], [1, 1, 1], [.sl tLit, .bool, .sl (.one (.int .i64))]⟩, out := ⟨[.hole], [], [2], [.int .i64]⟩, nres := 1, ms := [], mu := [], leak := false, glob := false, F := fun (x : ((List QLit) × Bool × (List Int))) => slices_IndexFunc_8 x.1 x.2.1 x.2.2 }
-- slices.IndexFunc[[]api.Lit,api.Lit]
def w83_g : List (Nat × Con) := [(163, .gen (altE [w82_c]))]
def w83_v : Env := envOf tb gl w83_g w83_c Tryz.f116.ntmps
theorem w83_gs : Goods Tryz.prog (cond w83_c.glob gl fun _ => none) w83_g := (goods_cons (good_alt (alls_cons (w82_ok.anyGl rfl) alls_nil)) goods_nil)
def w83_u0_h : SS := ⟨[0, 1, 7, 8], ⟨[.hole, (.clo 163 [(.ptr 0 0)]), .hole, .hole], [.cells true [.hole, .hole]], [1, 2, 2, 2, 1], [.sl tLit, .int .i64, .int .i64, .bool, .sl (.one (.int .i64))]⟩⟩
def w83_u0_e : Exs := [((.exit 0), ⟨[], ⟨[], [], [], []⟩⟩), (.ret, ⟨[4], ⟨[.hole], [], [2], [.int .i64]⟩⟩)]
def w83_u0_a : AC := .run
def w83_u0 : Un := lpU w83_v.fz [9, 10, 5, 11, 12, 13, 14, 15, 16, 17, 4, 18, 8] w83_u0_h w83_u0_e (lp slices_IndexFunc_8_L0 fuel)
theorem w83_u0_s (f : w83_u0_h.X → Option (YT w83_u0_e)) (x : w83_u0_h.X) : E w83_v (subC (bodyOf Tryz.f116) [1, 0, 1, 0, 0]) (w83_u0_a) (mkS w83_u0_h 8 x) (roundK w83_v.fz w83_u0_h w83_u0_e f) = slices_IndexFunc_8_L0 f x := by kernel_rfl
theorem w83_u0_ok {X : Fx} (hX : VOk Tryz.prog X w83_v) : UnOk Tryz.prog X w83_v (subC (bodyOf Tryz.f116) [1, 0, 1, 0]) w83_u0 :=
 lp_un' (c := (subC (bodyOf Tryz.f116) [1, 0, 1, 0, 0])) (by kernel_rfl) (env_all tb_ok (w83_gs)) hord (ob := []) (by kernel_rfl) (fun X hX => obl_nil) (w83_u0_s) (by kernel_rfl) (by kernel_rfl) hX
def w83_a : AC := (.seq .run (.seq (.seq .run (.block (.unit w83_u0))) .run))
theorem w83_s (x : TupL w83_c.inp.hs) : E w83_v (bodyOf Tryz.f116) (w83_a) (w83_c.entry x) (retSK tb w83_v.fz w83_c [.tmp 4] x) = w83_c.F x := by kernel_rfl
theorem w83_ok : ShOk Tryz.prog gl 116 w83_c :=
 fn_ok (l := w83_g) (n := Tryz.f116.ntmps) (code := bodyOf Tryz.f116) (rts := [.tmp 4]) tb_ok hord (w83_gs) Tryz.func116 (by kernel_rfl) (by kernel_rfl) rfl (by kernel_rfl) (ac := w83_a) (ob := [((subC (bodyOf Tryz.f116) [1, 0, 1, 0]), w83_u0)]) (by kernel_rfl) (fun X hX => (obl_cons (w83_u0_ok hX) obl_nil)) (by kernel_rfl) (w83_s)
def w84_c : ShC := { inp := ⟨[.hole, (.clo 163 [(.ptr 0 0)])], [.cells true [.hole, .hole]], [1, 1, 1], [.sl tLit, .bool, .sl (.one (.int .i64))]⟩, out := ⟨[.hole], [], [2], [.bool]⟩, nres := 1, ms := [], mu := [], leak := false, glob := false, F := fun (x : ((List QLit) × Bool × (List Int))) => slices_ContainsFunc_8 x.1 x.2.1 x.2.2 }
-- slices.ContainsFunc[[]api.Lit,api.Lit]
def w84_g : List (Nat × Con) := [(116, .gen (altE [w83_c]))]
def w84_v : Env := envOf tb gl w84_g w84_c Tryz.f75.ntmps
theorem w84_gs : Goods Tryz.prog (cond w84_c.glob gl fun _ => none) w84_g := (goods_cons (good_alt (alls_cons (w83_ok.anyGl rfl) alls_nil)) goods_nil)
def w84_a : AC := .run
theorem w84_s (x : TupL w84_c.inp.hs) : E w84_v (bodyOf Tryz.f75) (w84_a) (w84_c.entry x) (retSK tb w84_v.fz w84_c [.tmp 4] x) = w84_c.F x := by kernel_rfl
theorem w84_ok : ShOk Tryz.prog gl 75 w84_c :=
 fn_ok (l := w84_g) (n := Tryz.f75.ntmps) (code := bodyOf Tryz.f75) (rts := [.tmp 4]) tb_ok hord (w84_gs) Tryz.func75 (by kernel_rfl) (by kernel_rfl) rfl (by kernel_rfl) (ac := w84_a) (ob := []) (by kernel_rfl) (fun X hX => obl_nil) (by kernel_rfl) (w84_s)
def w85_c : ShC := { inp := ⟨[.hole, (.agg [.hole, .hole, .hole])], [], [1, 1, 1, 1], [.sl tSym, .sl tLit, .sl (.one (.sl (.one (.int .i64)))), .sl tLit]⟩, out := ⟨[.hole, .hole], [], [2, 2], [.bool, .int .i64]⟩, nres := 2, ms := [], mu := [], leak := false, glob := true, F := fun (x : ((List QSym) × (List QLit) × (List (List Int)) × (List QLit))) => clause_Trivial x.1 x.2.1 x.2.2.1 x.2.2.2 }
-- clause.Trivial
def w85_g : List (Nat × Con) := [(10, .gen (altE [w15_c])), (75, .gen (altE [w84_c])), (162, .gen (altE [w81_c]))]
def w85_v : Env := envOf tb gl w85_g w85_c Tryz.f134.ntmps
theorem w85_gs : Goods Tryz.prog (cond w85_c.glob gl fun _ => none) w85_g := (goods_cons (good_alt (alls_cons w15_ok alls_nil)) (goods_cons (good_alt (alls_cons (w84_ok.anyGl rfl) alls_nil)) (goods_cons (good_alt (alls_cons (w81_ok.anyGl rfl) alls_nil)) goods_nil)))
def w85_u0_h : SS := ⟨[0, 3, 13, 14, 15], ⟨[.hole, (.ptr 0 0), .hole, .hole, .hole], [.cells true [.hole, .hole, .hole]], [1, 1, 2, 2, 1, 1, 1], [.sl tSym, .sl tLit, .int .i64, .int .i64, .sl tLit, .sl (.one (.sl (.one (.int .i64)))), .sl tLit]⟩⟩
def w85_u0_e : Exs := [((.exit 0), ⟨[], ⟨[], [], [], []⟩⟩), (.ret, ⟨[4, 5], ⟨[.hole, .hole], [], [2, 2], [.bool, .int .i64]⟩⟩)]
def w85_u0_a : AC := .run
def w85_u0 : Un := lpU w85_v.fz [16, 17, 18, 7, 19, 20, 21, 22, 23, 24, 25, 26, 27, 4, 5, 28, 15] w85_u0_h w85_u0_e (lp clause_Trivial_L0 fuel)
theorem w85_u0_s (f : w85_u0_h.X → Option (YT w85_u0_e)) (x : w85_u0_h.X) : E w85_v (subC (bodyOf Tryz.f134) [1, 1, 0, 1, 0, 0]) (w85_u0_a) (mkS w85_u0_h 8 x) (roundK w85_v.fz w85_u0_h w85_u0_e f) = clause_Trivial_L0 f x := by kernel_rfl
theorem w85_u0_ok {X : Fx} (hX : VOk Tryz.prog X w85_v) : UnOk Tryz.prog X w85_v (subC (bodyOf Tryz.f134) [1, 1, 0, 1, 0]) w85_u0 :=
 lp_un' (c := (subC (bodyOf Tryz.f134) [1, 1, 0, 1, 0, 0])) (by kernel_rfl) (env_all tb_ok (w85_gs)) hord (ob := []) (by kernel_rfl) (fun X hX => obl_nil) (w85_u0_s) (by kernel_rfl) (by kernel_rfl) hX
def w85_a : AC := (.seq .run (.seq .run (.seq (.seq .run (.block (.unit w85_u0))) .run)))
theorem w85_s (x : TupL w85_c.inp.hs) : E w85_v (bodyOf Tryz.f134) (w85_a) (w85_c.entry x) (retSK tb w85_v.fz w85_c [.tmp 4, .tmp 5] x) = w85_c.F x := by kernel_rfl
theorem w85_ok : ShOk Tryz.prog gl 134 w85_c :=
 fn_ok (l := w85_g) (n := Tryz.f134.ntmps) (code := bodyOf Tryz.f134) (rts := [.tmp 4, .tmp 5]) tb_ok hord (w85_gs) Tryz.func134 (by kernel_rfl) (by kernel_rfl) rfl (by kernel_rfl) (ac := w85_a) (ob := [((subC (bodyOf Tryz.f134) [1, 1, 0, 1, 0]), w85_u0)]) (by kernel_rfl) (fun X hX => (obl_cons (w85_u0_ok hX) obl_nil)) (by kernel_rfl) (w85_s)
def w86_c : ShC := { inp := ⟨[(.ptr 0 0), (.agg [.hole, .hole, .hole, .hole, .hole, .hole, .hole, .hole, .hole, .hole]), (.agg [.hole, .hole, .hole]), .hole, .hole], [.cells false [.hole, (.view 1), .hole], .seq false], [1, 1, 1, 1, 1, 1, 1, 1, 1, 1, 1, 1, 1, 1, 1, 1, 1, 1], [.int .i64, .int .i64, .int .i64, .int .i64, .int .i64, .int .i64, .int .i64, .sl tLit, .sl (.one (.sl (.one (.int .i64)))), .sl tLit, .sl tLit, .sl (.one (.sl (.one (.int .i64)))), .sl tLit, .bool, .int .i64, .sl tSym, .int .i64, .sl (.cons (.int .i64) (.cons (.int .i64) (.cons (.int .i64) (.cons (.int .i64) (.cons (.int .i64) (.cons (.int .i64) (.cons (.int .i64) (.cons (.sl tLit) (.cons (.sl (.one (.sl (.one (.int .i64))))) (.one (.sl tLit)))))))))))]⟩, out := ⟨[(.ptr 0 0)], [.cells false [.hole, (.view 1), .hole], .seq false], [1, 2, 0], [.sl tSym, .int .i64, .sl (.cons (.int .i64) (.cons (.int .i64) (.cons (.int .i64) (.cons (.int .i64) (.cons (.int .i64) (.cons (.int .i64) (.cons (.int .i64) (.cons (.sl tLit) (.cons (.sl (.one (.sl (.one (.int .i64))))) (.one (.sl tLit)))))))))))]⟩, nres := 0, ms := [0], mu := [(0, 0)], leak := true, glob := true, F := fun (x : (Int × Int × Int × Int × Int × Int × Int × (List QLit) × (List (List Int)) × (List QLit) × (List QLit) × (List (List Int)) × (List QLit) × Bool × Int × (List QSym) × Int × (List (Int × Int × Int × Int × Int × Int × Int × (List QLit) × (List (List Int)) × (List QLit))))) => resolve_Kids_Add_2 x.1 x.2.1 x.2.2.1 x.2.2.2.1 x.2.2.2.2.1 x.2.2.2.2.2.1 x.2.2.2.2.2.2.1 x.2.2.2.2.2.2.2.1 x.2.2.2.2.2.2.2.2.1 x.2.2.2.2.2.2.2.2.2.1 x.2.2.2.2.2.2.2.2.2.2.1 x.2.2.2.2.2.2.2.2.2.2.2.1 x.2.2.2.2.2.2.2.2.2.2.2.2.1 x.2.2.2.2.2.2.2.2.2.2.2.2.2.1 x.2.2.2.2.2.2.2.2.2.2.2.2.2.2.1 x.2.2.2.2.2.2.2.2.2.2.2.2.2.2.2.1 x.2.2.2.2.2.2.2.2.2.2.2.2.2.2.2.2.1 x.2.2.2.2.2.2.2.2.2.2.2.2.2.2.2.2.2 }
-- (*resolve.Kids).Add
def w86_g : List (Nat × Con) := [(134, .gen (altE [w85_c]))]
def w86_v : Env := envOf tb gl w86_g w86_c Tryz.f91.ntmps
theorem w86_gs : Goods Tryz.prog (cond w86_c.glob gl fun _ => none) w86_g := (goods_cons (good_alt (alls_cons w85_ok alls_nil)) goods_nil)
def w86_a : AC := (.seq .run (.seq .run (.seq .run (.seq .run (.hide [[9], [], [], [], [], [], [], [], [], [], []])))))
theorem w86_s (x : TupL w86_c.inp.hs) : E w86_v (bodyOf Tryz.f91) (w86_a) (w86_c.entry x) (retSK tb w86_v.fz w86_c [] x) = w86_c.F x := by kernel_rfl
theorem w86_ok : ShOk Tryz.prog gl 91 w86_c :=
 fn_ok (l := w86_g) (n := Tryz.f91.ntmps) (code := bodyOf Tryz.f91) (rts := []) tb_ok hord (w86_gs) Tryz.func91 (by kernel_rfl) (by kernel_rfl) rfl (by kernel_rfl) (ac := w86_a) (ob := []) (by kernel_rfl) (fun X hX => obl_nil) (by kernel_rfl) (w86_s)
def w87_c : ShC := { inp := ⟨[.hole, (.agg [.hole, .hole, .hole]), .hole, (.agg [.hole, .hole, .hole]), .hole], [], [1, 1, 1, 1, 1, 1, 1, 1, 1], [.sl tSym, .sl tLit, .sl (.one (.sl (.one (.int .i64)))), .sl tLit, .int .i64, .sl tLit, .sl (.one (.sl (.one (.int .i64)))), .sl tLit, .int .i64]⟩, out := ⟨[(.view 0), .hole, .hole], [.seq false], [2, 2, 0], [.int .i64, .int .i64, .sl (.cons (.int .i64) (.cons (.int .i64) (.cons (.int .i64) (.cons (.int .i64) (.cons (.int .i64) (.cons (.int .i64) (.cons (.int .i64) (.cons (.sl tLit) (.cons (.sl (.one (.sl (.one (.int .i64))))) (.one (.sl tLit)))))))))))]⟩, nres := 3, ms := [], mu := [], leak := true, glob := true, F := fun (x : ((List QSym) × (List QLit) × (List (List Int)) × (List QLit) × Int × (List QLit) × (List (List Int)) × (List QLit) × Int)) => resolve_All x.1 x.2.1 x.2.2.1 x.2.2.2.1 x.2.2.2.2.1 x.2.2.2.2.2.1 x.2.2.2.2.2.2.1 x.2.2.2.2.2.2.2.1 x.2.2.2.2.2.2.2.2 }
-- resolve.All
def w87_g : List (Nat × Con) := [(10, .gen (altE [w15_c])), (55, .gen (altE [w64_c])), (90, .gen (altE [w80_c])), (91, .gen (altE [w86_c]))]
def w87_v : Env := envOf tb gl w87_g w87_c Tryz.f68.ntmps
theorem w87_gs : Goods Tryz.prog (cond w87_c.glob gl fun _ => none) w87_g := (goods_cons (good_alt (alls_cons w15_ok alls_nil)) (goods_cons (good_alt (alls_cons w64_ok alls_nil)) (goods_cons (good_alt (alls_cons w80_ok alls_nil)) (goods_cons (good_alt (alls_cons w86_ok alls_nil)) goods_nil))))
def w87_u0_h : SS := ⟨[0, 2, 4, 6, 8, 15, 17, 19, 51, 52, 53, 57, 58, 59], ⟨[.hole, .hole, .hole, (.ptr 0 0), (.ptr 1 0), .hole, (.ptr 2 0), .hole, .hole, .hole, .hole, .hole, .hole, .hole], [.cells true [.hole, .hole, .hole], .cells true [.hole, .hole, .hole], .cells false [.hole, (.view 3), .hole], .seq false], [1, 2, 2, 2, 2, 2, 2, 2, 2, 2, 2, 1, 1, 1, 1, 1, 1, 0, 2, 0], [.sl tSym, .int .i64, .int .i64, .sl (.one (.int .i64)), .int .i64, .sl (.one (.int .i64)), .int .i64, .int .i64, .sl (.one (.int .i64)), .int .i64, .int .i64, .sl tLit, .sl (.one (.sl (.one (.int .i64)))), .sl tLit, .sl tLit, .sl (.one (.sl (.one (.int .i64)))), .sl tLit, .sl tSym, .int .i64, .sl (.cons (.int .i64) (.cons (.int .i64) (.cons (.int .i64) (.cons (.int .i64) (.cons (.int .i64) (.cons (.int .i64) (.cons (.int .i64) (.cons (.sl tLit) (.cons (.sl (.one (.sl (.one (.int .i64))))) (.one (.sl tLit)))))))))))]⟩⟩
def w87_u0_e : Exs := [((.exit 2), ⟨[17], ⟨[(.ptr 0 0)], [.cells false [.hole, (.view 1), .hole], .seq false], [0, 2, 0], [.sl tSym, .int .i64, .sl (.cons (.int .i64) (.cons (.int .i64) (.cons (.int .i64) (.cons (.int .i64) (.cons (.int .i64) (.cons (.int .i64) (.cons (.int .i64) (.cons (.sl tLit) (.cons (.sl (.one (.sl (.one (.int .i64))))) (.one (.sl tLit)))))))))))]⟩⟩)]
def w87_u0_a : AC := .run
def w87_u0 : Un := lpU w87_v.fz [60, 61, 62, 21, 64, 65, 66, 67, 68, 69, 63, 70, 71, 72, 22, 23, 24, 73, 74, 75, 76, 77, 78, 79, 80, 81, 82, 59] w87_u0_h w87_u0_e (lp resolve_All_L0 fuel)
theorem w87_u0_s (f : w87_u0_h.X → Option (YT w87_u0_e)) (x : w87_u0_h.X) : E w87_v (subC (bodyOf Tryz.f68) [1, 1, 1, 1, 1, 0, 1, 0, 0, 1, 1, 0, 0, 1, 1, 0, 0]) (w87_u0_a) (mkS w87_u0_h 8 x) (roundK w87_v.fz w87_u0_h w87_u0_e f) = resolve_All_L0 f x := by kernel_rfl
theorem w87_u0_ok {X : Fx} (hX : VOk Tryz.prog X w87_v) : UnOk Tryz.prog X w87_v (subC (bodyOf Tryz.f68) [1, 1, 1, 1, 1, 0, 1, 0, 0, 1, 1, 0, 0, 1, 1, 0]) w87_u0 :=
 lp_un' (c := (subC (bodyOf Tryz.f68) [1, 1, 1, 1, 1, 0, 1, 0, 0, 1, 1, 0, 0, 1, 1, 0, 0])) (by kernel_rfl) (env_all tb_ok (w87_gs)) hord (ob := []) (by kernel_rfl) (fun X hX => obl_nil) (w87_u0_s) (by kernel_rfl) (by kernel_rfl) hX
def w87_u1_h : SS := ⟨[0, 2, 4, 6, 8, 15, 17, 51, 52, 53], ⟨[.hole, .hole, .hole, (.ptr 0 0), (.ptr 1 0), .hole, (.ptr 2 0), .hole, .hole, .hole], [.cells true [.hole, .hole, .hole], .cells true [.hole, .hole, .hole], .cells false [.hole, (.view 3), .hole], .seq false], [1, 2, 2, 2, 2, 2, 2, 1, 1, 1, 1, 1, 1, 0, 2, 0], [.sl tSym, .int .i64, .int .i64, .sl (.one (.int .i64)), .sl (.one (.int .i64)), .int .i64, .int .i64, .sl tLit, .sl (.one (.sl (.one (.int .i64)))), .sl tLit, .sl tLit, .sl (.one (.sl (.one (.int .i64)))), .sl tLit, .sl tSym, .int .i64, .sl (.cons (.int .i64) (.cons (.int .i64) (.cons (.int .i64) (.cons (.int .i64) (.cons (.int .i64) (.cons (.int .i64) (.cons (.int .i64) (.cons (.sl tLit) (.cons (.sl (.one (.sl (.one (.int .i64))))) (.one (.sl tLit)))))))))))]⟩⟩
def w87_u1_e : Exs := [((.exit 0), ⟨[17], ⟨[(.ptr 0 0)], [.cells false [.hole, (.view 1), .hole], .seq false], [0, 2, 0], [.sl tSym, .int .i64, .sl (.cons (.int .i64) (.cons (.int .i64) (.cons (.int .i64) (.cons (.int .i64) (.cons (.int .i64) (.cons (.int .i64) (.cons (.int .i64) (.cons (.sl tLit) (.cons (.sl (.one (.sl (.one (.int .i64))))) (.one (.sl tLit)))))))))))]⟩⟩)]
def w87_u1_a : AC := (.seq .run (.seq .run (.seq (.block (.seq .run (.seq .run (.block (.unit w87_u0))))) .run)))
def w87_u1 : Un := lpU w87_v.fz [54, 55, 56, 19, 57, 58, 59, 60, 61, 62, 21, 64, 65, 66, 67, 68, 69, 63, 70, 71, 72, 22, 23, 24, 73, 74, 75, 76, 77, 78, 79, 80, 81, 82, 59, 83, 53] w87_u1_h w87_u1_e (lp resolve_All_L1 fuel)
theorem w87_u1_s (f : w87_u1_h.X → Option (YT w87_u1_e)) (x : w87_u1_h.X) : E w87_v (subC (bodyOf Tryz.f68) [1, 1, 1, 1, 1, 0, 1, 0, 0]) (w87_u1_a) (mkS w87_u1_h 8 x) (roundK w87_v.fz w87_u1_h w87_u1_e f) = resolve_All_L1 f x := by kernel_rfl
theorem w87_u1_ok {X : Fx} (hX : VOk Tryz.prog X w87_v) : UnOk Tryz.prog X w87_v (subC (bodyOf Tryz.f68) [1, 1, 1, 1, 1, 0, 1, 0]) w87_u1 :=
 lp_un' (c := (subC (bodyOf Tryz.f68) [1, 1, 1, 1, 1, 0, 1, 0, 0])) (by kernel_rfl) (env_all tb_ok (w87_gs)) hord (ob := [((subC (bodyOf Tryz.f68) [1, 1, 1, 1, 1, 0, 1, 0, 0, 1, 1, 0, 0, 1, 1, 0]), w87_u0)]) (by kernel_rfl) (fun X hX => (obl_cons (w87_u0_ok hX) obl_nil)) (w87_u1_s) (by kernel_rfl) (by kernel_rfl) hX
def w87_a : AC := (.seq .run (.seq .run (.seq .run (.seq .run (.seq .run (.seq (.seq .run (.block (.unit w87_u1))) .run))))))
theorem w87_s (x : TupL w87_c.inp.hs) : E w87_v (bodyOf Tryz.f68) (w87_a) (w87_c.entry x) (retSK tb w87_v.fz w87_c [.tmp 10, .tmp 11, .tmp 12] x) = w87_c.F x := by kernel_rfl
theorem w87_ok : ShOk Tryz.prog gl 68 w87_c :=
 fn_ok (l := w87_g) (n := Tryz.f68.ntmps) (code := bodyOf Tryz.f68) (rts := [.tmp 10, .tmp 11, .tmp 12]) tb_ok hord (w87_gs) Tryz.func68 (by kernel_rfl) (by kernel_rfl) rfl (by kernel_rfl) (ac := w87_a) (ob := [((subC (bodyOf Tryz.f68) [1, 1, 1, 1, 1, 0, 1, 0]), w87_u1)]) (by kernel_rfl) (fun X hX => (obl_cons (w87_u1_ok hX) obl_nil)) (by kernel_rfl) (w87_s)
def w88_c : ShC := { inp := ⟨[.hole], [], [1], [.int .i64]⟩, out := ⟨[.hole], [], [2], [.int .i64]⟩, nres := 1, ms := [], mu := [], leak := false, glob := false, F := fun (x : Int) => law0_Num x }
-- quaerelaw0.Num
def w88_g : List (Nat × Con) := []
def w88_v : Env := envOf tb gl w88_g w88_c Tryz.f9.ntmps
theorem w88_gs : Goods Tryz.prog (cond w88_c.glob gl fun _ => none) w88_g := goods_nil
def w88_a : AC := .run
theorem w88_s (x : TupL w88_c.inp.hs) : E w88_v (bodyOf Tryz.f9) (w88_a) (w88_c.entry x) (retSK tb w88_v.fz w88_c [.tmp 2] x) = w88_c.F x := by kernel_rfl
theorem w88_ok : ShOk Tryz.prog gl 9 w88_c :=
 fn_ok (l := w88_g) (n := Tryz.f9.ntmps) (code := bodyOf Tryz.f9) (rts := [.tmp 2]) tb_ok hord (w88_gs) Tryz.func9 (by kernel_rfl) (by kernel_rfl) rfl (by kernel_rfl) (ac := w88_a) (ob := []) (by kernel_rfl) (fun X hX => obl_nil) (by kernel_rfl) (w88_s)
def w89_c : ShC := { inp := ⟨[.hole, .hole], [], [1, 1], [.sl (.one (.int .i64)), .sl (.one (.int .i64))]⟩, out := ⟨[.hole], [], [2], [.bool]⟩, nres := 1, ms := [], mu := [], leak := false, glob := false, F := fun (x : ((List Int) × (List Int))) => law0_SameInts x.1 x.2 }
-- quaerelaw0.SameInts
def w89_g : List (Nat × Con) := []
def w89_v : Env := envOf tb gl w89_g w89_c Tryz.f106.ntmps
theorem w89_gs : Goods Tryz.prog (cond w89_c.glob gl fun _ => none) w89_g := goods_nil
def w89_u0_h : SS := ⟨[0, 1, 5], ⟨[.hole, .hole, .hole], [], [1, 1, 2], [.sl (.one (.int .i64)), .sl (.one (.int .i64)), .int .i64]⟩⟩
def w89_u0_e : Exs := [((.exit 0), ⟨[], ⟨[], [], [], []⟩⟩), (.ret, ⟨[4], ⟨[.hole], [], [2], [.bool]⟩⟩)]
def w89_u0_a : AC := .run
def w89_u0 : Un := lpU w89_v.fz [11, 12, 13, 14, 17, 18, 19, 20, 21, 22, 23, 24, 25, 4, 15, 16, 5] w89_u0_h w89_u0_e (lp law0_SameInts_L0 fuel)
theorem w89_u0_s (f : w89_u0_h.X → Option (YT w89_u0_e)) (x : w89_u0_h.X) : E w89_v (subC (bodyOf Tryz.f106) [1, 1, 0, 1, 0, 0]) (w89_u0_a) (mkS w89_u0_h 8 x) (roundK w89_v.fz w89_u0_h w89_u0_e f) = law0_SameInts_L0 f x := by kernel_rfl
theorem w89_u0_ok {X : Fx} (hX : VOk Tryz.prog X w89_v) : UnOk Tryz.prog X w89_v (subC (bodyOf Tryz.f106) [1, 1, 0, 1, 0]) w89_u0 :=
 lp_un' (c := (subC (bodyOf Tryz.f106) [1, 1, 0, 1, 0, 0])) (by kernel_rfl) (env_all tb_ok (w89_gs)) hord (ob := []) (by kernel_rfl) (fun X hX => obl_nil) (w89_u0_s) (by kernel_rfl) (by kernel_rfl) hX
def w89_a : AC := (.seq .run (.seq .run (.seq (.seq .run (.block (.unit w89_u0))) .run)))
theorem w89_s (x : TupL w89_c.inp.hs) : E w89_v (bodyOf Tryz.f106) (w89_a) (w89_c.entry x) (retSK tb w89_v.fz w89_c [.tmp 4] x) = w89_c.F x := by kernel_rfl
theorem w89_ok : ShOk Tryz.prog gl 106 w89_c :=
 fn_ok (l := w89_g) (n := Tryz.f106.ntmps) (code := bodyOf Tryz.f106) (rts := [.tmp 4]) tb_ok hord (w89_gs) Tryz.func106 (by kernel_rfl) (by kernel_rfl) rfl (by kernel_rfl) (ac := w89_a) (ob := [((subC (bodyOf Tryz.f106) [1, 1, 0, 1, 0]), w89_u0)]) (by kernel_rfl) (fun X hX => (obl_cons (w89_u0_ok hX) obl_nil)) (by kernel_rfl) (w89_s)
def w90_c : ShC := { inp := ⟨[.hole, .hole], [], [1, 1], [.sl tLit, .sl tLit]⟩, out := ⟨[.hole], [], [2], [.bool]⟩, nres := 1, ms := [], mu := [], leak := false, glob := false, F := fun (x : ((List QLit) × (List QLit))) => law0_SameLits x.1 x.2 }
-- quaerelaw0.SameLits
def w90_g : List (Nat × Con) := [(106, .gen (altE [w89_c]))]
def w90_v : Env := envOf tb gl w90_g w90_c Tryz.f63.ntmps
theorem w90_gs : Goods Tryz.prog (cond w90_c.glob gl fun _ => none) w90_g := (goods_cons (good_alt (alls_cons (w89_ok.anyGl rfl) alls_nil)) goods_nil)
def w90_u0_h : SS := ⟨[0, 1, 5], ⟨[.hole, .hole, .hole], [], [1, 1, 2], [.sl tLit, .sl tLit, .int .i64]⟩⟩
def w90_u0_e : Exs := [((.exit 0), ⟨[], ⟨[], [], [], []⟩⟩), (.ret, ⟨[4], ⟨[.hole], [], [2], [.bool]⟩⟩)]
def w90_u0_a : AC := .run
def w90_u0 : Un := lpU w90_v.fz [11, 12, 13, 14, 17, 18, 19, 20, 21, 22, 23, 24, 25, 26, 27, 28, 29, 30, 31, 32, 33, 34, 35, 36, 37, 38, 39, 40, 41, 4, 15, 16, 5] w90_u0_h w90_u0_e (lp law0_SameLits_L0 fuel)
theorem w90_u0_s (f : w90_u0_h.X → Option (YT w90_u0_e)) (x : w90_u0_h.X) : E w90_v (subC (bodyOf Tryz.f63) [1, 1, 0, 1, 0, 0]) (w90_u0_a) (mkS w90_u0_h 8 x) (roundK w90_v.fz w90_u0_h w90_u0_e f) = law0_SameLits_L0 f x := by kernel_rfl
theorem w90_u0_ok {X : Fx} (hX : VOk Tryz.prog X w90_v) : UnOk Tryz.prog X w90_v (subC (bodyOf Tryz.f63) [1, 1, 0, 1, 0]) w90_u0 :=
 lp_un' (c := (subC (bodyOf Tryz.f63) [1, 1, 0, 1, 0, 0])) (by kernel_rfl) (env_all tb_ok (w90_gs)) hord (ob := []) (by kernel_rfl) (fun X hX => obl_nil) (w90_u0_s) (by kernel_rfl) (by kernel_rfl) hX
def w90_a : AC := (.seq .run (.seq .run (.seq (.seq .run (.block (.unit w90_u0))) .run)))
theorem w90_s (x : TupL w90_c.inp.hs) : E w90_v (bodyOf Tryz.f63) (w90_a) (w90_c.entry x) (retSK tb w90_v.fz w90_c [.tmp 4] x) = w90_c.F x := by kernel_rfl
theorem w90_ok : ShOk Tryz.prog gl 63 w90_c :=
 fn_ok (l := w90_g) (n := Tryz.f63.ntmps) (code := bodyOf Tryz.f63) (rts := [.tmp 4]) tb_ok hord (w90_gs) Tryz.func63 (by kernel_rfl) (by kernel_rfl) rfl (by kernel_rfl) (ac := w90_a) (ob := [((subC (bodyOf Tryz.f63) [1, 1, 0, 1, 0]), w90_u0)]) (by kernel_rfl) (fun X hX => (obl_cons (w90_u0_ok hX) obl_nil)) (by kernel_rfl) (w90_s)
def w91_c : ShC := { inp := ⟨[.hole, .hole], [], [1, 1], [.sl (.one (.sl (.one (.int .i64)))), .sl (.one (.sl (.one (.int .i64))))]⟩, out := ⟨[.hole], [], [2], [.bool]⟩, nres := 1, ms := [], mu := [], leak := false, glob := false, F := fun (x : ((List (List Int)) × (List (List Int)))) => law0_SameRows x.1 x.2 }
-- quaerelaw0.SameRows
def w91_g : List (Nat × Con) := [(106, .gen (altE [w89_c]))]
def w91_v : Env := envOf tb gl w91_g w91_c Tryz.f64.ntmps
theorem w91_gs : Goods Tryz.prog (cond w91_c.glob gl fun _ => none) w91_g := (goods_cons (good_alt (alls_cons (w89_ok.anyGl rfl) alls_nil)) goods_nil)
def w91_u0_h : SS := ⟨[0, 1, 5], ⟨[.hole, .hole, .hole], [], [1, 1, 2], [.sl (.one (.sl (.one (.int .i64)))), .sl (.one (.sl (.one (.int .i64)))), .int .i64]⟩⟩
def w91_u0_e : Exs := [((.exit 0), ⟨[], ⟨[], [], [], []⟩⟩), (.ret, ⟨[4], ⟨[.hole], [], [2], [.bool]⟩⟩)]
def w91_u0_a : AC := .run
def w91_u0 : Un := lpU w91_v.fz [11, 12, 13, 14, 17, 18, 19, 20, 21, 22, 23, 24, 25, 26, 4, 15, 16, 5] w91_u0_h w91_u0_e (lp law0_SameRows_L0 fuel)
theorem w91_u0_s (f : w91_u0_h.X → Option (YT w91_u0_e)) (x : w91_u0_h.X) : E w91_v (subC (bodyOf Tryz.f64) [1, 1, 0, 1, 0, 0]) (w91_u0_a) (mkS w91_u0_h 8 x) (roundK w91_v.fz w91_u0_h w91_u0_e f) = law0_SameRows_L0 f x := by kernel_rfl
theorem w91_u0_ok {X : Fx} (hX : VOk Tryz.prog X w91_v) : UnOk Tryz.prog X w91_v (subC (bodyOf Tryz.f64) [1, 1, 0, 1, 0]) w91_u0 :=
 lp_un' (c := (subC (bodyOf Tryz.f64) [1, 1, 0, 1, 0, 0])) (by kernel_rfl) (env_all tb_ok (w91_gs)) hord (ob := []) (by kernel_rfl) (fun X hX => obl_nil) (w91_u0_s) (by kernel_rfl) (by kernel_rfl) hX
def w91_a : AC := (.seq .run (.seq .run (.seq (.seq .run (.block (.unit w91_u0))) .run)))
theorem w91_s (x : TupL w91_c.inp.hs) : E w91_v (bodyOf Tryz.f64) (w91_a) (w91_c.entry x) (retSK tb w91_v.fz w91_c [.tmp 4] x) = w91_c.F x := by kernel_rfl
theorem w91_ok : ShOk Tryz.prog gl 64 w91_c :=
 fn_ok (l := w91_g) (n := Tryz.f64.ntmps) (code := bodyOf Tryz.f64) (rts := [.tmp 4]) tb_ok hord (w91_gs) Tryz.func64 (by kernel_rfl) (by kernel_rfl) rfl (by kernel_rfl) (ac := w91_a) (ob := [((subC (bodyOf Tryz.f64) [1, 1, 0, 1, 0]), w91_u0)]) (by kernel_rfl) (fun X hX => (obl_cons (w91_u0_ok hX) obl_nil)) (by kernel_rfl) (w91_s)
def w92_c : ShC := { inp := ⟨[(.agg [.hole, .hole, .hole]), (.agg [.hole, .hole, .hole])], [], [1, 1, 1, 1, 1, 1], [.sl tLit, .sl (.one (.sl (.one (.int .i64)))), .sl tLit, .sl tLit, .sl (.one (.sl (.one (.int .i64)))), .sl tLit]⟩, out := ⟨[.hole], [], [2], [.bool]⟩, nres := 1, ms := [], mu := [], leak := false, glob := false, F := fun (x : ((List QLit) × (List (List Int)) × (List QLit) × (List QLit) × (List (List Int)) × (List QLit))) => law0_SameClause x.1 x.2.1 x.2.2.1 x.2.2.2.1 x.2.2.2.2.1 x.2.2.2.2.2 }
-- quaerelaw0.SameClause
def w92_g : List (Nat × Con) := [(63, .gen (altE [w90_c])), (64, .gen (altE [w91_c]))]
def w92_v : Env := envOf tb gl w92_g w92_c Tryz.f25.ntmps
theorem w92_gs : Goods Tryz.prog (cond w92_c.glob gl fun _ => none) w92_g := (goods_cons (good_alt (alls_cons (w90_ok.anyGl rfl) alls_nil)) (goods_cons (good_alt (alls_cons (w91_ok.anyGl rfl) alls_nil)) goods_nil))
def w92_a : AC := .run
theorem w92_s (x : TupL w92_c.inp.hs) : E w92_v (bodyOf Tryz.f25) (w92_a) (w92_c.entry x) (retSK tb w92_v.fz w92_c [.tmp 4] x) = w92_c.F x := by kernel_rfl
theorem w92_ok : ShOk Tryz.prog gl 25 w92_c :=
 fn_ok (l := w92_g) (n := Tryz.f25.ntmps) (code := bodyOf Tryz.f25) (rts := [.tmp 4]) tb_ok hord (w92_gs) Tryz.func25 (by kernel_rfl) (by kernel_rfl) rfl (by kernel_rfl) (ac := w92_a) (ob := []) (by kernel_rfl) (fun X hX => obl_nil) (by kernel_rfl) (w92_s)
def w93_c : ShC := { inp := ⟨[(.agg [.hole, .hole, .hole, .hole, .hole, .hole, .hole, .hole, .hole, .hole]), (.agg [.hole, .hole, .hole, .hole, .hole, .hole, .hole, .hole, .hole, .hole])], [], [1, 1, 1, 1, 1, 1, 1, 1, 1, 1, 1, 1, 1, 1, 1, 1, 1, 1, 1, 1], [.int .i64, .int .i64, .int .i64, .int .i64, .int .i64, .int .i64, .int .i64, .sl tLit, .sl (.one (.sl (.one (.int .i64)))), .sl tLit, .int .i64, .int .i64, .int .i64, .int .i64, .int .i64, .int .i64, .int .i64, .sl tLit, .sl (.one (.sl (.one (.int .i64)))), .sl tLit]⟩, out := ⟨[.hole], [], [2], [.bool]⟩, nres := 1, ms := [], mu := [], leak := false, glob := false, F := fun (x : (Int × Int × Int × Int × Int × Int × Int × (List QLit) × (List (List Int)) × (List QLit) × Int × Int × Int × Int × Int × Int × Int × (List QLit) × (List (List Int)) × (List QLit))) => law0_SameStep x.1 x.2.1 x.2.2.1 x.2.2.2.1 x.2.2.2.2.1 x.2.2.2.2.2.1 x.2.2.2.2.2.2.1 x.2.2.2.2.2.2.2.1 x.2.2.2.2.2.2.2.2.1 x.2.2.2.2.2.2.2.2.2.1 x.2.2.2.2.2.2.2.2.2.2.1 x.2.2.2.2.2.2.2.2.2.2.2.1 x.2.2.2.2.2.2.2.2.2.2.2.2.1 x.2.2.2.2.2.2.2.2.2.2.2.2.2.1 x.2.2.2.2.2.2.2.2.2.2.2.2.2.2.1 x.2.2.2.2.2.2.2.2.2.2.2.2.2.2.2.1 x.2.2.2.2.2.2.2.2.2.2.2.2.2.2.2.2.1 x.2.2.2.2.2.2.2.2.2.2.2.2.2.2.2.2.2.1 x.2.2.2.2.2.2.2.2.2.2.2.2.2.2.2.2.2.2.1 x.2.2.2.2.2.2.2.2.2.2.2.2.2.2.2.2.2.2.2 }
-- quaerelaw0.SameStep
def w93_g : List (Nat × Con) := [(25, .gen (altE [w92_c]))]
def w93_v : Env := envOf tb gl w93_g w93_c Tryz.f92.ntmps
theorem w93_gs : Goods Tryz.prog (cond w93_c.glob gl fun _ => none) w93_g := (goods_cons (good_alt (alls_cons (w92_ok.anyGl rfl) alls_nil)) goods_nil)
def w93_a : AC := .run
theorem w93_s (x : TupL w93_c.inp.hs) : E w93_v (bodyOf Tryz.f92) (w93_a) (w93_c.entry x) (retSK tb w93_v.fz w93_c [.tmp 4] x) = w93_c.F x := by kernel_rfl
theorem w93_ok : ShOk Tryz.prog gl 92 w93_c :=
 fn_ok (l := w93_g) (n := Tryz.f92.ntmps) (code := bodyOf Tryz.f92) (rts := [.tmp 4]) tb_ok hord (w93_gs) Tryz.func92 (by kernel_rfl) (by kernel_rfl) rfl (by kernel_rfl) (ac := w93_a) (ob := []) (by kernel_rfl) (fun X hX => obl_nil) (by kernel_rfl) (w93_s)
def w94_c : ShC := { inp := ⟨[.hole, .hole], [], [1, 1], [.sl (.cons (.int .i64) (.cons (.int .i64) (.cons (.int .i64) (.cons (.int .i64) (.cons (.int .i64) (.cons (.int .i64) (.cons (.int .i64) (.cons (.sl tLit) (.cons (.sl (.one (.sl (.one (.int .i64))))) (.one (.sl tLit))))))))))), .sl (.cons (.int .i64) (.cons (.int .i64) (.cons (.int .i64) (.cons (.int .i64) (.cons (.int .i64) (.cons (.int .i64) (.cons (.int .i64) (.cons (.sl tLit) (.cons (.sl (.one (.sl (.one (.int .i64))))) (.one (.sl tLit)))))))))))]⟩, out := ⟨[.hole], [], [2], [.bool]⟩, nres := 1, ms := [], mu := [], leak := false, glob := false, F := fun (x : ((List (Int × Int × Int × Int × Int × Int × Int × (List QLit) × (List (List Int)) × (List QLit))) × (List (Int × Int × Int × Int × Int × Int × Int × (List QLit) × (List (List Int)) × (List QLit))))) => law0_SameSteps x.1 x.2 }
-- quaerelaw0.SameSteps
def w94_g : List (Nat × Con) := [(92, .gen (altE [w93_c]))]
def w94_v : Env := envOf tb gl w94_g w94_c Tryz.f48.ntmps
theorem w94_gs : Goods Tryz.prog (cond w94_c.glob gl fun _ => none) w94_g := (goods_cons (good_alt (alls_cons (w93_ok.anyGl rfl) alls_nil)) goods_nil)
def w94_u0_h : SS := ⟨[0, 1, 5], ⟨[.hole, .hole, .hole], [], [1, 1, 2], [.sl (.cons (.int .i64) (.cons (.int .i64) (.cons (.int .i64) (.cons (.int .i64) (.cons (.int .i64) (.cons (.int .i64) (.cons (.int .i64) (.cons (.sl tLit) (.cons (.sl (.one (.sl (.one (.int .i64))))) (.one (.sl tLit))))))))))), .sl (.cons (.int .i64) (.cons (.int .i64) (.cons (.int .i64) (.cons (.int .i64) (.cons (.int .i64) (.cons (.int .i64) (.cons (.int .i64) (.cons (.sl tLit) (.cons (.sl (.one (.sl (.one (.int .i64))))) (.one (.sl tLit))))))))))), .int .i64]⟩⟩
def w94_u0_e : Exs := [((.exit 0), ⟨[], ⟨[], [], [], []⟩⟩), (.ret, ⟨[4], ⟨[.hole], [], [2], [.bool]⟩⟩)]
def w94_u0_a : AC := .run
def w94_u0 : Un := lpU w94_v.fz [11, 12, 13, 14, 17, 18, 19, 20, 21, 22, 23, 24, 25, 26, 4, 15, 16, 5] w94_u0_h w94_u0_e (lp law0_SameSteps_L0 fuel)
theorem w94_u0_s (f : w94_u0_h.X → Option (YT w94_u0_e)) (x : w94_u0_h.X) : E w94_v (subC (bodyOf Tryz.f48) [1, 1, 0, 1, 0, 0]) (w94_u0_a) (mkS w94_u0_h 8 x) (roundK w94_v.fz w94_u0_h w94_u0_e f) = law0_SameSteps_L0 f x := by kernel_rfl
theorem w94_u0_ok {X : Fx} (hX : VOk Tryz.prog X w94_v) : UnOk Tryz.prog X w94_v (subC (bodyOf Tryz.f48) [1, 1, 0, 1, 0]) w94_u0 :=
 lp_un' (c := (subC (bodyOf Tryz.f48) [1, 1, 0, 1, 0, 0])) (by kernel_rfl) (env_all tb_ok (w94_gs)) hord (ob := []) (by kernel_rfl) (fun X hX => obl_nil) (w94_u0_s) (by kernel_rfl) (by kernel_rfl) hX
def w94_a : AC := (.seq .run (.seq .run (.seq (.seq .run (.block (.unit w94_u0))) .run)))
theorem w94_s (x : TupL w94_c.inp.hs) : E w94_v (bodyOf Tryz.f48) (w94_a) (w94_c.entry x) (retSK tb w94_v.fz w94_c [.tmp 4] x) = w94_c.F x := by kernel_rfl
theorem w94_ok : ShOk Tryz.prog gl 48 w94_c :=
 fn_ok (l := w94_g) (n := Tryz.f48.ntmps) (code := bodyOf Tryz.f48) (rts := [.tmp 4]) tb_ok hord (w94_gs) Tryz.func48 (by kernel_rfl) (by kernel_rfl) rfl (by kernel_rfl) (ac := w94_a) (ob := [((subC (bodyOf Tryz.f48) [1, 1, 0, 1, 0]), w94_u0)]) (by kernel_rfl) (fun X hX => (obl_cons (w94_u0_ok hX) obl_nil)) (by kernel_rfl) (w94_s)
def w95_c : ShC := { inp := ⟨[], [], [], []⟩, out := ⟨[.hole], [], [2], [.bool]⟩, nres := 1, ms := [], mu := [], leak := false, glob := true, F := fun (x : Unit) => law13_awake }
-- quaerelaw13.awake
def w95_g : List (Nat × Con) := [(9, .gen (altE [w88_c])), (23, .gen (altE [w65_c])), (25, .gen (altE [w92_c])), (48, .gen (altE [w94_c])), (67, .gen (altE [w0_c])), (68, .gen (altE [w87_c]))]
def w95_v : Env := envOf tb gl w95_g w95_c Tryz.f27.ntmps
theorem w95_gs : Goods Tryz.prog (cond w95_c.glob gl fun _ => none) w95_g := (goods_cons (good_alt (alls_cons (w88_ok.anyGl rfl) alls_nil)) (goods_cons (good_alt (alls_cons w65_ok alls_nil)) (goods_cons (good_alt (alls_cons (w92_ok.anyGl rfl) alls_nil)) (goods_cons (good_alt (alls_cons (w94_ok.anyGl rfl) alls_nil)) (goods_cons (good_alt (alls_cons (w0_ok.anyGl rfl) alls_nil)) (goods_cons (good_alt (alls_cons w87_ok alls_nil)) goods_nil))))))
def w95_a : AC := .run
theorem w95_s (x : TupL w95_c.inp.hs) : E w95_v (bodyOf Tryz.f27) (w95_a) (w95_c.entry x) (retSK tb w95_v.fz w95_c [.tmp 0] x) = w95_c.F x := by kernel_rfl
theorem w95_ok : ShOk Tryz.prog gl 27 w95_c :=
 fn_ok (l := w95_g) (n := Tryz.f27.ntmps) (code := bodyOf Tryz.f27) (rts := [.tmp 0]) tb_ok hord (w95_gs) Tryz.func27 (by kernel_rfl) (by kernel_rfl) rfl (by kernel_rfl) (ac := w95_a) (ob := []) (by kernel_rfl) (fun X hX => obl_nil) (by kernel_rfl) (w95_s)
def w96_c : ShC := { inp := ⟨[.hole], [], [1], [.sl (.one (.int .i64))]⟩, out := ⟨[.hole], [], [2], [.bool]⟩, nres := 1, ms := [], mu := [], leak := false, glob := false, F := fun (x : (List Int)) => ref9_Few x }
-- quaereref9.Few
def w96_g : List (Nat × Con) := []
def w96_v : Env := envOf tb gl w96_g w96_c Tryz.f12.ntmps
theorem w96_gs : Goods Tryz.prog (cond w96_c.glob gl fun _ => none) w96_g := goods_nil
def w96_a : AC := .run
theorem w96_s (x : TupL w96_c.inp.hs) : E w96_v (bodyOf Tryz.f12) (w96_a) (w96_c.entry x) (retSK tb w96_v.fz w96_c [.tmp 2] x) = w96_c.F x := by kernel_rfl
theorem w96_ok : ShOk Tryz.prog gl 12 w96_c :=
 fn_ok (l := w96_g) (n := Tryz.f12.ntmps) (code := bodyOf Tryz.f12) (rts := [.tmp 2]) tb_ok hord (w96_gs) Tryz.func12 (by kernel_rfl) (by kernel_rfl) rfl (by kernel_rfl) (ac := w96_a) (ob := []) (by kernel_rfl) (fun X hX => obl_nil) (by kernel_rfl) (w96_s)
def w97_c : ShC := { inp := ⟨[.hole, .hole], [], [1, 1], [.sl tSym, .sl (.cons (.sl tLit) (.cons (.sl (.one (.sl (.one (.int .i64))))) (.one (.sl tLit))))]⟩, out := ⟨[.hole], [], [2], [.bool]⟩, nres := 1, ms := [], mu := [], leak := false, glob := true, F := fun (x : ((List QSym) × (List ((List QLit) × (List (List Int)) × (List QLit))))) => law13_few x.1 x.2 }
-- quaerelaw13.few
def w97_g : List (Nat × Con) := [(9, .gen (altE [w88_c])), (11, .gen (altE [w25_c])), (12, .gen (altE [w96_c]))]
def w97_v : Env := envOf tb gl w97_g w97_c Tryz.f28.ntmps
theorem w97_gs : Goods Tryz.prog (cond w97_c.glob gl fun _ => none) w97_g := (goods_cons (good_alt (alls_cons (w88_ok.anyGl rfl) alls_nil)) (goods_cons (good_alt (alls_cons w25_ok alls_nil)) (goods_cons (good_alt (alls_cons (w96_ok.anyGl rfl) alls_nil)) goods_nil)))
def w97_u0_h : SS := ⟨[0, 1, 5], ⟨[.hole, .hole, .hole], [], [1, 1, 2], [.sl tSym, .sl (.cons (.sl tLit) (.cons (.sl (.one (.sl (.one (.int .i64))))) (.one (.sl tLit)))), .int .i64]⟩⟩
def w97_u0_e : Exs := [((.exit 0), ⟨[], ⟨[], [], [], []⟩⟩), (.ret, ⟨[4], ⟨[.hole], [], [2], [.bool]⟩⟩)]
def w97_u0_a : AC := .run
def w97_u0 : Un := lpU w97_v.fz [8, 9, 10, 11, 15, 16, 17, 18, 19, 20, 14, 21, 22, 6, 7, 23, 24, 25, 26, 27, 28, 29, 30, 4, 12, 13, 5] w97_u0_h w97_u0_e (lp law13_few_L0 fuel)
theorem w97_u0_s (f : w97_u0_h.X → Option (YT w97_u0_e)) (x : w97_u0_h.X) : E w97_v (subC (bodyOf Tryz.f28) [1, 0, 1, 0, 0]) (w97_u0_a) (mkS w97_u0_h 8 x) (roundK w97_v.fz w97_u0_h w97_u0_e f) = law13_few_L0 f x := by kernel_rfl
theorem w97_u0_ok {X : Fx} (hX : VOk Tryz.prog X w97_v) : UnOk Tryz.prog X w97_v (subC (bodyOf Tryz.f28) [1, 0, 1, 0]) w97_u0 :=
 lp_un' (c := (subC (bodyOf Tryz.f28) [1, 0, 1, 0, 0])) (by kernel_rfl) (env_all tb_ok (w97_gs)) hord (ob := []) (by kernel_rfl) (fun X hX => obl_nil) (w97_u0_s) (by kernel_rfl) (by kernel_rfl) hX
def w97_a : AC := (.seq .run (.seq (.seq .run (.block (.unit w97_u0))) .run))
theorem w97_s (x : TupL w97_c.inp.hs) : E w97_v (bodyOf Tryz.f28) (w97_a) (w97_c.entry x) (retSK tb w97_v.fz w97_c [.tmp 4] x) = w97_c.F x := by kernel_rfl
theorem w97_ok : ShOk Tryz.prog gl 28 w97_c :=
 fn_ok (l := w97_g) (n := Tryz.f28.ntmps) (code := bodyOf Tryz.f28) (rts := [.tmp 4]) tb_ok hord (w97_gs) Tryz.func28 (by kernel_rfl) (by kernel_rfl) rfl (by kernel_rfl) (ac := w97_a) (ob := [((subC (bodyOf Tryz.f28) [1, 0, 1, 0]), w97_u0)]) (by kernel_rfl) (fun X hX => (obl_cons (w97_u0_ok hX) obl_nil)) (by kernel_rfl) (w97_s)
def w98_c : ShC := { inp := ⟨[.hole, .hole], [], [1, 1], [.int .i64, .sl (.one (.int .i64))]⟩, out := ⟨[(.agg [.hole, .hole])], [], [2, 1], [.int .i64, .sl (.one (.int .i64))]⟩, nres := 1, ms := [], mu := [], leak := true, glob := false, F := fun (x : (Int × (List Int))) => ref9_New x.1 x.2 }
-- quaereref9.New
def w98_g : List (Nat × Con) := []
def w98_v : Env := envOf tb gl w98_g w98_c Tryz.f13.ntmps
theorem w98_gs : Goods Tryz.prog (cond w98_c.glob gl fun _ => none) w98_g := goods_nil
def w98_a : AC := .run
theorem w98_s (x : TupL w98_c.inp.hs) : E w98_v (bodyOf Tryz.f13) (w98_a) (w98_c.entry x) (retSK tb w98_v.fz w98_c [.cell 4 38] x) = w98_c.F x := by kernel_rfl
theorem w98_ok : ShOk Tryz.prog gl 13 w98_c :=
 fn_ok (l := w98_g) (n := Tryz.f13.ntmps) (code := bodyOf Tryz.f13) (rts := [.cell 4 38]) tb_ok hord (w98_gs) Tryz.func13 (by kernel_rfl) (by kernel_rfl) rfl (by kernel_rfl) (ac := w98_a) (ob := []) (by kernel_rfl) (fun X hX => obl_nil) (by kernel_rfl) (w98_s)
def w99_c : ShC := { inp := ⟨[(.agg [.hole, .hole, .hole])], [], [1, 1, 1], [.sl tLit, .sl (.one (.sl (.one (.int .i64)))), .sl tLit]⟩, out := ⟨[(.view 0)], [.seq false], [0], [.sl (.one (.sl (.one (.int .i64))))]⟩, nres := 1, ms := [], mu := [], leak := true, glob := false, F := fun (x : ((List QLit) × (List (List Int)) × (List QLit))) => ref8_rows x.1 x.2.1 x.2.2 }
-- quaereref8.rows
def w99_g : List (Nat × Con) := []
def w99_v : Env := envOf tb gl w99_g w99_c Tryz.f88.ntmps
theorem w99_gs : Goods Tryz.prog (cond w99_c.glob gl fun _ => none) w99_g := goods_nil
def w99_u2_h : SS := ⟨[1, 3, 6], ⟨[(.ptr 0 0), (.view 1), .hole], [.cells true [.hole, .hole, .hole], .seq false], [2, 1, 1, 1, 0], [.int .i64, .sl tLit, .sl (.one (.sl (.one (.int .i64)))), .sl tLit, .sl (.one (.sl (.one (.int .i64))))]⟩⟩
def w99_u2_e : Exs := [((.exit 4), ⟨[3], ⟨[(.view 0)], [.seq false], [0], [.sl (.one (.sl (.one (.int .i64))))]⟩⟩)]
def w99_u2_a : AC := .run
def w99_u2 : Un := lpU w99_v.fz [38, 39, 40, 41, 42, 45, 46, 47, 48, 49, 50, 51, 52, 53, 3, 43, 44, 6] w99_u2_h w99_u2_e (lp ref8_rows_L2 fuel)
theorem w99_u2_s (f : w99_u2_h.X → Option (YT w99_u2_e)) (x : w99_u2_h.X) : E w99_v (subC (bodyOf Tryz.f88) [1, 1, 1, 1, 0, 1, 0, 0]) (w99_u2_a) (mkS w99_u2_h 8 x) (roundK w99_v.fz w99_u2_h w99_u2_e f) = ref8_rows_L2 f x := by kernel_rfl
theorem w99_u2_ok {X : Fx} (hX : VOk Tryz.prog X w99_v) : UnOk Tryz.prog X w99_v (subC (bodyOf Tryz.f88) [1, 1, 1, 1, 0, 1, 0]) w99_u2 :=
 lp_un' (c := (subC (bodyOf Tryz.f88) [1, 1, 1, 1, 0, 1, 0, 0])) (by kernel_rfl) (env_all tb_ok (w99_gs)) hord (ob := []) (by kernel_rfl) (fun X hX => obl_nil) (w99_u2_s) (by kernel_rfl) (by kernel_rfl) hX
def w99_u1_h : SS := ⟨[1, 3, 5], ⟨[(.ptr 0 0), (.view 1), .hole], [.cells true [.hole, .hole, .hole], .seq false], [2, 1, 1, 1, 0], [.int .i64, .sl tLit, .sl (.one (.sl (.one (.int .i64)))), .sl tLit, .sl (.one (.sl (.one (.int .i64))))]⟩⟩
def w99_u1_e : Exs := [((.exit 2), ⟨[3], ⟨[(.view 0)], [.seq false], [0], [.sl (.one (.sl (.one (.int .i64))))]⟩⟩)]
def w99_u1_a : AC := .run
def w99_u1 : Un := lpU w99_v.fz [23, 24, 25, 26, 27, 30, 31, 32, 33, 34, 35, 36, 37, 3, 28, 29, 5] w99_u1_h w99_u1_e (lp ref8_rows_L1 fuel)
theorem w99_u1_s (f : w99_u1_h.X → Option (YT w99_u1_e)) (x : w99_u1_h.X) : E w99_v (subC (bodyOf Tryz.f88) [1, 1, 1, 0, 1, 0, 0]) (w99_u1_a) (mkS w99_u1_h 8 x) (roundK w99_v.fz w99_u1_h w99_u1_e f) = ref8_rows_L1 f x := by kernel_rfl
theorem w99_u1_ok {X : Fx} (hX : VOk Tryz.prog X w99_v) : UnOk Tryz.prog X w99_v (subC (bodyOf Tryz.f88) [1, 1, 1, 0, 1, 0]) w99_u1 :=
 lp_un' (c := (subC (bodyOf Tryz.f88) [1, 1, 1, 0, 1, 0, 0])) (by kernel_rfl) (env_all tb_ok (w99_gs)) hord (ob := []) (by kernel_rfl) (fun X hX => obl_nil) (w99_u1_s) (by kernel_rfl) (by kernel_rfl) hX
def w99_u0_h : SS := ⟨[1, 3, 4], ⟨[(.ptr 0 0), (.view 1), .hole], [.cells true [.hole, .hole, .hole], .seq false], [2, 1, 1, 1, 0], [.int .i64, .sl tLit, .sl (.one (.sl (.one (.int .i64)))), .sl tLit, .sl (.one (.sl (.one (.int .i64))))]⟩⟩
def w99_u0_e : Exs := [((.exit 0), ⟨[3], ⟨[(.view 0)], [.seq false], [0], [.sl (.one (.sl (.one (.int .i64))))]⟩⟩)]
def w99_u0_a : AC := .run
def w99_u0 : Un := lpU w99_v.fz [7, 8, 9, 10, 11, 14, 15, 16, 17, 18, 19, 20, 21, 22, 3, 12, 13, 4] w99_u0_h w99_u0_e (lp ref8_rows_L0 fuel)
theorem w99_u0_s (f : w99_u0_h.X → Option (YT w99_u0_e)) (x : w99_u0_h.X) : E w99_v (subC (bodyOf Tryz.f88) [1, 1, 0, 1, 0, 0]) (w99_u0_a) (mkS w99_u0_h 8 x) (roundK w99_v.fz w99_u0_h w99_u0_e f) = ref8_rows_L0 f x := by kernel_rfl
theorem w99_u0_ok {X : Fx} (hX : VOk Tryz.prog X w99_v) : UnOk Tryz.prog X w99_v (subC (bodyOf Tryz.f88) [1, 1, 0, 1, 0]) w99_u0 :=
 lp_un' (c := (subC (bodyOf Tryz.f88) [1, 1, 0, 1, 0, 0])) (by kernel_rfl) (env_all tb_ok (w99_gs)) hord (ob := []) (by kernel_rfl) (fun X hX => obl_nil) (w99_u0_s) (by kernel_rfl) (by kernel_rfl) hX
def w99_a : AC := (.seq .run (.seq .run (.seq (.seq .run (.block (.unit w99_u0))) (.seq (.seq .run (.block (.unit w99_u1))) (.seq (.seq .run (.block (.unit w99_u2))) .run)))))
theorem w99_s (x : TupL w99_c.inp.hs) : E w99_v (bodyOf Tryz.f88) (w99_a) (w99_c.entry x) (retSK tb w99_v.fz w99_c [.tmp 2] x) = w99_c.F x := by kernel_rfl
theorem w99_ok : ShOk Tryz.prog gl 88 w99_c :=
 fn_ok (l := w99_g) (n := Tryz.f88.ntmps) (code := bodyOf Tryz.f88) (rts := [.tmp 2]) tb_ok hord (w99_gs) Tryz.func88 (by kernel_rfl) (by kernel_rfl) rfl (by kernel_rfl) (ac := w99_a) (ob := [((subC (bodyOf Tryz.f88) [1, 1, 0, 1, 0]), w99_u0), ((subC (bodyOf Tryz.f88) [1, 1, 1, 0, 1, 0]), w99_u1), ((subC (bodyOf Tryz.f88) [1, 1, 1, 1, 0, 1, 0]), w99_u2)]) (by kernel_rfl) (fun X hX => (obl_cons (w99_u0_ok hX) (obl_cons (w99_u1_ok hX) (obl_cons (w99_u2_ok hX) obl_nil)))) (by kernel_rfl) (w99_s)
def w100_c : ShC := { inp := ⟨[.hole, .hole], [], [1, 1], [.sl (.one (.int .i64)), .int .i64]⟩, out := ⟨[.hole], [], [2], [.bool]⟩, nres := 1, ms := [], mu := [], leak := false, glob := false, F := fun (x : ((List Int) × Int)) => ref1_In x.1 x.2 }
-- quaereref1.In
def w100_g : List (Nat × Con) := []
def w100_v : Env := envOf tb gl w100_g w100_c Tryz.f130.ntmps
theorem w100_gs : Goods Tryz.prog (cond w100_c.glob gl fun _ => none) w100_g := goods_nil
def w100_u0_h : SS := ⟨[0, 1, 5], ⟨[.hole, .hole, .hole], [], [1, 2, 2], [.sl (.one (.int .i64)), .int .i64, .int .i64]⟩⟩
def w100_u0_e : Exs := [((.exit 0), ⟨[], ⟨[], [], [], []⟩⟩), (.ret, ⟨[4], ⟨[.hole], [], [2], [.bool]⟩⟩)]
def w100_u0_a : AC := .run
def w100_u0 : Un := lpU w100_v.fz [6, 7, 8, 9, 12, 13, 14, 15, 16, 17, 18, 4, 10, 11, 5] w100_u0_h w100_u0_e (lp ref1_In_L0 fuel)
theorem w100_u0_s (f : w100_u0_h.X → Option (YT w100_u0_e)) (x : w100_u0_h.X) : E w100_v (subC (bodyOf Tryz.f130) [1, 0, 1, 0, 0]) (w100_u0_a) (mkS w100_u0_h 8 x) (roundK w100_v.fz w100_u0_h w100_u0_e f) = ref1_In_L0 f x := by kernel_rfl
theorem w100_u0_ok {X : Fx} (hX : VOk Tryz.prog X w100_v) : UnOk Tryz.prog X w100_v (subC (bodyOf Tryz.f130) [1, 0, 1, 0]) w100_u0 :=
 lp_un' (c := (subC (bodyOf Tryz.f130) [1, 0, 1, 0, 0])) (by kernel_rfl) (env_all tb_ok (w100_gs)) hord (ob := []) (by kernel_rfl) (fun X hX => obl_nil) (w100_u0_s) (by kernel_rfl) (by kernel_rfl) hX
def w100_a : AC := (.seq .run (.seq (.seq .run (.block (.unit w100_u0))) .run))
theorem w100_s (x : TupL w100_c.inp.hs) : E w100_v (bodyOf Tryz.f130) (w100_a) (w100_c.entry x) (retSK tb w100_v.fz w100_c [.tmp 4] x) = w100_c.F x := by kernel_rfl
theorem w100_ok : ShOk Tryz.prog gl 130 w100_c :=
 fn_ok (l := w100_g) (n := Tryz.f130.ntmps) (code := bodyOf Tryz.f130) (rts := [.tmp 4]) tb_ok hord (w100_gs) Tryz.func130 (by kernel_rfl) (by kernel_rfl) rfl (by kernel_rfl) (ac := w100_a) (ob := [((subC (bodyOf Tryz.f130) [1, 0, 1, 0]), w100_u0)]) (by kernel_rfl) (fun X hX => (obl_cons (w100_u0_ok hX) obl_nil)) (by kernel_rfl) (w100_s)
def w101_c : ShC := { inp := ⟨[.hole], [], [1], [.sl (.one (.int .i64))]⟩, out := ⟨[(.view 0)], [.seq false], [2], [.sl (.one (.int .i64))]⟩, nres := 1, ms := [], mu := [], leak := false, glob := false, F := fun (x : (List Int)) => ref1_VarsOf x }
-- quaereref1.VarsOf
def w101_g : List (Nat × Con) := [(130, .gen (altE [w100_c]))]
def w101_v : Env := envOf tb gl w101_g w101_c Tryz.f89.ntmps
theorem w101_gs : Goods Tryz.prog (cond w101_c.glob gl fun _ => none) w101_g := (goods_cons (good_alt (alls_cons (w100_ok.anyGl rfl) alls_nil)) goods_nil)
def w101_u0_h : SS := ⟨[0, 3, 4], ⟨[.hole, (.view 0), .hole], [.seq false], [1, 2, 2], [.sl (.one (.int .i64)), .int .i64, .sl (.one (.int .i64))]⟩⟩
def w101_u0_e : Exs := [((.exit 0), ⟨[3], ⟨[(.view 0)], [.seq false], [2], [.sl (.one (.int .i64))]⟩⟩)]
def w101_u0_a : AC := .run
def w101_u0 : Un := lpU w101_v.fz [5, 6, 9, 10, 11, 12, 13, 14, 15, 3, 7, 8, 4] w101_u0_h w101_u0_e (lp ref1_VarsOf_L0 fuel)
theorem w101_u0_s (f : w101_u0_h.X → Option (YT w101_u0_e)) (x : w101_u0_h.X) : E w101_v (subC (bodyOf Tryz.f89) [1, 1, 0, 1, 0, 0]) (w101_u0_a) (mkS w101_u0_h 8 x) (roundK w101_v.fz w101_u0_h w101_u0_e f) = ref1_VarsOf_L0 f x := by kernel_rfl
theorem w101_u0_ok {X : Fx} (hX : VOk Tryz.prog X w101_v) : UnOk Tryz.prog X w101_v (subC (bodyOf Tryz.f89) [1, 1, 0, 1, 0]) w101_u0 :=
 lp_un' (c := (subC (bodyOf Tryz.f89) [1, 1, 0, 1, 0, 0])) (by kernel_rfl) (env_all tb_ok (w101_gs)) hord (ob := []) (by kernel_rfl) (fun X hX => obl_nil) (w101_u0_s) (by kernel_rfl) (by kernel_rfl) hX
def w101_a : AC := (.seq .run (.seq .run (.seq (.seq .run (.block (.unit w101_u0))) .run)))
theorem w101_s (x : TupL w101_c.inp.hs) : E w101_v (bodyOf Tryz.f89) (w101_a) (w101_c.entry x) (retSK tb w101_v.fz w101_c [.tmp 2] x) = w101_c.F x := by kernel_rfl
theorem w101_ok : ShOk Tryz.prog gl 89 w101_c :=
 fn_ok (l := w101_g) (n := Tryz.f89.ntmps) (code := bodyOf Tryz.f89) (rts := [.tmp 2]) tb_ok hord (w101_gs) Tryz.func89 (by kernel_rfl) (by kernel_rfl) rfl (by kernel_rfl) (ac := w101_a) (ob := [((subC (bodyOf Tryz.f89) [1, 1, 0, 1, 0]), w101_u0)]) (by kernel_rfl) (fun X hX => (obl_cons (w101_u0_ok hX) obl_nil)) (by kernel_rfl) (w101_s)
def w102_c : ShC := { inp := ⟨[(.agg [.hole, .hole, .hole])], [], [1, 1, 1], [.sl tLit, .sl (.one (.sl (.one (.int .i64)))), .sl tLit]⟩, out := ⟨[(.view 0)], [.seq false], [2], [.sl (.one (.int .i64))]⟩, nres := 1, ms := [], mu := [], leak := false, glob := false, F := fun (x : ((List QLit) × (List (List Int)) × (List QLit))) => ref8_VarsOf x.1 x.2.1 x.2.2 }
-- quaereref8.VarsOf
def w102_g : List (Nat × Con) := [(88, .gen (altE [w99_c])), (89, .gen (altE [w101_c]))]
def w102_v : Env := envOf tb gl w102_g w102_c Tryz.f44.ntmps
theorem w102_gs : Goods Tryz.prog (cond w102_c.glob gl fun _ => none) w102_g := (goods_cons (good_alt (alls_cons (w99_ok.anyGl rfl) alls_nil)) (goods_cons (good_alt (alls_cons (w101_ok.anyGl rfl) alls_nil)) goods_nil))
def w102_u0_h : SS := ⟨[3, 4, 5], ⟨[(.view 0), .hole, .hole], [.seq false], [0, 2, 0], [.sl (.one (.sl (.one (.int .i64)))), .int .i64, .sl (.one (.int .i64))]⟩⟩
def w102_u0_e : Exs := [((.exit 0), ⟨[3], ⟨[(.view 0)], [.seq false], [0], [.sl (.one (.int .i64))]⟩⟩)]
def w102_u0_a : AC := .run
def w102_u0 : Un := lpU w102_v.fz [8, 9, 10, 11, 14, 15, 16, 17, 18, 19, 3, 12, 13, 5] w102_u0_h w102_u0_e (lp ref8_VarsOf_L0 fuel)
theorem w102_u0_s (f : w102_u0_h.X → Option (YT w102_u0_e)) (x : w102_u0_h.X) : E w102_v (subC (bodyOf Tryz.f44) [1, 1, 1, 0, 1, 0, 0]) (w102_u0_a) (mkS w102_u0_h 8 x) (roundK w102_v.fz w102_u0_h w102_u0_e f) = ref8_VarsOf_L0 f x := by kernel_rfl
theorem w102_u0_ok {X : Fx} (hX : VOk Tryz.prog X w102_v) : UnOk Tryz.prog X w102_v (subC (bodyOf Tryz.f44) [1, 1, 1, 0, 1, 0]) w102_u0 :=
 lp_un' (c := (subC (bodyOf Tryz.f44) [1, 1, 1, 0, 1, 0, 0])) (by kernel_rfl) (env_all tb_ok (w102_gs)) hord (ob := []) (by kernel_rfl) (fun X hX => obl_nil) (w102_u0_s) (by kernel_rfl) (by kernel_rfl) hX
def w102_a : AC := (.seq .run (.seq .run (.seq .run (.seq (.seq .run (.block (.unit w102_u0))) .run))))
theorem w102_s (x : TupL w102_c.inp.hs) : E w102_v (bodyOf Tryz.f44) (w102_a) (w102_c.entry x) (retSK tb w102_v.fz w102_c [.tmp 2] x) = w102_c.F x := by kernel_rfl
theorem w102_ok : ShOk Tryz.prog gl 44 w102_c :=
 fn_ok (l := w102_g) (n := Tryz.f44.ntmps) (code := bodyOf Tryz.f44) (rts := [.tmp 2]) tb_ok hord (w102_gs) Tryz.func44 (by kernel_rfl) (by kernel_rfl) rfl (by kernel_rfl) (ac := w102_a) (ob := [((subC (bodyOf Tryz.f44) [1, 1, 1, 0, 1, 0]), w102_u0)]) (by kernel_rfl) (fun X hX => (obl_cons (w102_u0_ok hX) obl_nil)) (by kernel_rfl) (w102_s)
def w103_c : ShC := { inp := ⟨[], [], [], []⟩, out := ⟨[(.view 0)], [.seq false], [2], [.sl (.one (.int .i64))]⟩, nres := 1, ms := [], mu := [], leak := false, glob := false, F := fun (x : Unit) => ref9_Env }
-- quaereref9.Env
def w103_g : List (Nat × Con) := []
def w103_v : Env := envOf tb gl w103_g w103_c Tryz.f14.ntmps
theorem w103_gs : Goods Tryz.prog (cond w103_c.glob gl fun _ => none) w103_g := goods_nil
def w103_a : AC := .run
theorem w103_s (x : TupL w103_c.inp.hs) : E w103_v (bodyOf Tryz.f14) (w103_a) (w103_c.entry x) (retSK tb w103_v.fz w103_c [.tmp 0] x) = w103_c.F x := by kernel_rfl
theorem w103_ok : ShOk Tryz.prog gl 14 w103_c :=
 fn_ok (l := w103_g) (n := Tryz.f14.ntmps) (code := bodyOf Tryz.f14) (rts := [.tmp 0]) tb_ok hord (w103_gs) Tryz.func14 (by kernel_rfl) (by kernel_rfl) rfl (by kernel_rfl) (ac := w103_a) (ob := []) (by kernel_rfl) (fun X hX => obl_nil) (by kernel_rfl) (w103_s)
def w104_c : ShC := { inp := ⟨[(.agg [.hole, .hole]), .hole, .hole], [], [1, 1, 1, 1], [.int .i64, .sl (.one (.int .i64)), .int .i64, .sl (.one (.int .i64))]⟩, out := ⟨[.hole], [], [2], [.int .i64]⟩, nres := 1, ms := [], mu := [], leak := false, glob := false, F := fun (x : (Int × (List Int) × Int × (List Int))) => ref9_Model_look x.1 x.2.1 x.2.2.1 x.2.2.2 }
-- (quaereref9.Model).look
def w104_g : List (Nat × Con) := []
def w104_v : Env := envOf tb gl w104_g w104_c Tryz.f42.ntmps
theorem w104_gs : Goods Tryz.prog (cond w104_c.glob gl fun _ => none) w104_g := goods_nil
def w104_u0_h : SS := ⟨[2, 3, 7, 8], ⟨[.hole, (.ptr 0 0), .hole, .hole], [.cells true [.hole, .hole]], [1, 2, 2, 2, 1], [.sl (.one (.int .i64)), .int .u64, .int .i64, .int .i64, .sl (.one (.int .i64))]⟩⟩
def w104_u0_e : Exs := [((.exit 0), ⟨[7], ⟨[.hole], [], [2], [.int .u64]⟩⟩)]
def w104_u0_a : AC := .run
def w104_u0 : Un := lpU w104_v.fz [17, 18, 19, 20, 23, 24, 25, 26, 27, 28, 29, 30, 31, 7, 21, 22, 8] w104_u0_h w104_u0_e (lp ref9_Model_look_L0 fuel)
theorem w104_u0_s (f : w104_u0_h.X → Option (YT w104_u0_e)) (x : w104_u0_h.X) : E w104_v (subC (bodyOf Tryz.f42) [1, 1, 1, 0, 1, 0, 0]) (w104_u0_a) (mkS w104_u0_h 8 x) (roundK w104_v.fz w104_u0_h w104_u0_e f) = ref9_Model_look_L0 f x := by kernel_rfl
theorem w104_u0_ok {X : Fx} (hX : VOk Tryz.prog X w104_v) : UnOk Tryz.prog X w104_v (subC (bodyOf Tryz.f42) [1, 1, 1, 0, 1, 0]) w104_u0 :=
 lp_un' (c := (subC (bodyOf Tryz.f42) [1, 1, 1, 0, 1, 0, 0])) (by kernel_rfl) (env_all tb_ok (w104_gs)) hord (ob := []) (by kernel_rfl) (fun X hX => obl_nil) (w104_u0_s) (by kernel_rfl) (by kernel_rfl) hX
def w104_a : AC := (.seq .run (.seq .run (.seq .run (.seq (.seq .run (.block (.unit w104_u0))) .run))))
theorem w104_s (x : TupL w104_c.inp.hs) : E w104_v (bodyOf Tryz.f42) (w104_a) (w104_c.entry x) (retSK tb w104_v.fz w104_c [.tmp 6] x) = w104_c.F x := by kernel_rfl
theorem w104_ok : ShOk Tryz.prog gl 42 w104_c :=
 fn_ok (l := w104_g) (n := Tryz.f42.ntmps) (code := bodyOf Tryz.f42) (rts := [.tmp 6]) tb_ok hord (w104_gs) Tryz.func42 (by kernel_rfl) (by kernel_rfl) rfl (by kernel_rfl) (ac := w104_a) (ob := [((subC (bodyOf Tryz.f42) [1, 1, 1, 0, 1, 0]), w104_u0)]) (by kernel_rfl) (fun X hX => (obl_cons (w104_u0_ok hX) obl_nil)) (by kernel_rfl) (w104_s)
def w105_ck (k : Nat) : ShC := { inp := ⟨[(.agg [.hole, .hole]), .hole, .hole, .hole, .hole], [], [1, 1, 1, 1, 1, 1], [.int .i64, .sl (.one (.int .i64)), .sl tSym, .sl (.one (.int .i64)), .int .i64, .sl (.one (.int .i64))]⟩, out := ⟨[.hole, .hole], [], [2, 2], [.int .i64, .int .i64]⟩, nres := 2, ms := [], mu := [], leak := false, glob := false, F := (ref9_Model_Value_R k) }
def w105_c : ShC := { inp := ⟨[(.agg [.hole, .hole]), .hole, .hole, .hole, .hole], [], [1, 1, 1, 1, 1, 1], [.int .i64, .sl (.one (.int .i64)), .sl tSym, .sl (.one (.int .i64)), .int .i64, .sl (.one (.int .i64))]⟩, out := ⟨[.hole, .hole], [], [2, 2], [.int .i64, .int .i64]⟩, nres := 2, ms := [], mu := [], leak := false, glob := false, F := fun (x : (Int × (List Int) × (List QSym) × (List Int) × Int × (List Int))) => ref9_Model_Value x.1 x.2.1 x.2.2.1 x.2.2.2.1 x.2.2.2.2.1 x.2.2.2.2.2 }
def w105_R_H (k : Nat) : Prop := ShOk Tryz.prog gl 87 (w105_ck k)
-- (quaereref9.Model).Value
def w105_g (k : Nat) : List (Nat × Con) := [(42, .gen (altE [w104_c])), (87, .gen (altE [w105_ck k]))]
def w105_v (k : Nat) : Env := envOf tb gl (w105_g k) (w105_ck (k + 1)) Tryz.f87.ntmps
theorem w105_gs (k : Nat) (h : w105_R_H k) : Goods Tryz.prog (cond (w105_ck (k + 1)).glob gl fun _ => none) (w105_g k) := (goods_cons (good_alt (alls_cons (w104_ok.anyGl rfl) alls_nil)) (goods_cons (good_alt (alls_cons (h.anyGl rfl) alls_nil)) goods_nil))
def w105_u0_h : SS := ⟨[1, 2, 3, 4, 5, 12, 13, 14], ⟨[.hole, .hole, .hole, .hole, (.ptr 0 0), .hole, (.view 1), .hole], [.cells true [.hole, .hole], .seq false], [1, 1, 2, 1, 2, 2, 2, 1, 2], [.sl tSym, .sl (.one (.int .i64)), .int .i64, .sl (.one (.int .i64)), .int .i64, .int .i64, .int .i64, .sl (.one (.int .i64)), .sl (.one (.int .i64))]⟩⟩
def w105_u0_e : Exs := [((.exit 0), ⟨[3, 13], ⟨[.hole, (.view 0)], [.seq false], [2, 2], [.int .i64, .sl (.one (.int .i64))]⟩⟩)]
def w105_u0_a (k : Nat) : AC := .run
def w105_u0 (k : Nat) : Un := lpU (w105_v k).fz [32, 33, 34, 35, 36, 37, 38, 42, 43, 44, 45, 46, 47, 41, 48, 49, 15, 16, 50, 51, 52, 53, 13, 54, 3, 39, 40, 14] w105_u0_h w105_u0_e (lp (ref9_Model_Value_L0 (ref9_Model_Value_R k)) fuel)
theorem w105_u0_s (k : Nat) (f : w105_u0_h.X → Option (YT w105_u0_e)) (x : w105_u0_h.X) : E (w105_v k) (subC (bodyOf Tryz.f87) [1, 1, 1, 1, 1, 0, 1, 0, 0]) (w105_u0_a k) (mkS w105_u0_h 8 x) (roundK (w105_v k).fz w105_u0_h w105_u0_e f) = (ref9_Model_Value_L0 (ref9_Model_Value_R k)) f x := by kernel_rfl
theorem w105_u0_ok (k : Nat) (h : w105_R_H k) {X : Fx} (hX : VOk Tryz.prog X (w105_v k)) : UnOk Tryz.prog X (w105_v k) (subC (bodyOf Tryz.f87) [1, 1, 1, 1, 1, 0, 1, 0]) (w105_u0 k) :=
 lp_un' (c := (subC (bodyOf Tryz.f87) [1, 1, 1, 1, 1, 0, 1, 0, 0])) (by kernel_rfl) (env_all tb_ok (w105_gs k h)) hord (ob := []) (by kernel_rfl) (fun X hX => obl_nil) (w105_u0_s k) (by kernel_rfl) (by kernel_rfl) hX
def w105_a (k : Nat) : AC := (.seq .run (.seq .run (.seq .run (.seq .run (.seq .run (.seq (.seq .run (.block (.unit (w105_u0 k)))) .run))))))
theorem w105_s (k : Nat) (x : TupL (w105_ck (k + 1)).inp.hs) : E (w105_v k) (bodyOf Tryz.f87) (w105_a k) ((w105_ck (k + 1)).entry x) (retSK tb (w105_v k).fz (w105_ck (k + 1)) [.tmp 10, .tmp 11] x) = (w105_ck (k + 1)).F x := by kernel_rfl
theorem w105_ok1 (k : Nat) (h : w105_R_H k) : ShOk Tryz.prog gl 87 (w105_ck (k + 1)) :=
 fn_ok (l := w105_g k) (n := Tryz.f87.ntmps) (code := bodyOf Tryz.f87) (rts := [.tmp 10, .tmp 11]) tb_ok hord (w105_gs k h) Tryz.func87 (by kernel_rfl) (by kernel_rfl) rfl (by kernel_rfl) (ac := w105_a k) (ob := [((subC (bodyOf Tryz.f87) [1, 1, 1, 1, 1, 0, 1, 0]), w105_u0 k)]) (by kernel_rfl) (fun X hX => (obl_cons (w105_u0_ok k h hX) obl_nil)) (by kernel_rfl) (w105_s k)
theorem w105_R_all : ∀ k, w105_R_H k
 | 0 => ⟨by kernel_rfl, fun w A g vs x y _ _ _ h => by cases h⟩
 | k + 1 => have h := w105_R_all k; w105_ok1 k h
theorem w105_ok : ShOk Tryz.prog gl 87 w105_c := (w105_R_all fuel)
def w106_c : ShC := { inp := ⟨[(.agg [.hole, .hole]), .hole, .hole, .hole], [], [1, 1, 1, 1, 1], [.int .i64, .sl (.one (.int .i64)), .sl tSym, .sl (.one (.int .i64)), .sl (.one (.int .i64))]⟩, out := ⟨[(.view 0)], [.seq false], [2], [.sl (.one (.int .i64))]⟩, nres := 1, ms := [], mu := [], leak := false, glob := false, F := fun (x : (Int × (List Int) × (List QSym) × (List Int) × (List Int))) => ref9_Model_Values x.1 x.2.1 x.2.2.1 x.2.2.2.1 x.2.2.2.2 }
-- (quaereref9.Model).Values
def w106_g : List (Nat × Con) := [(87, .gen (altE [w105_c]))]
def w106_v : Env := envOf tb gl w106_g w106_c Tryz.f43.ntmps
theorem w106_gs : Goods Tryz.prog (cond w106_c.glob gl fun _ => none) w106_g := (goods_cons (good_alt (alls_cons (w105_ok.anyGl rfl) alls_nil)) goods_nil)
def w106_u0_h : SS := ⟨[1, 2, 3, 4, 9, 10], ⟨[.hole, .hole, .hole, (.ptr 0 0), (.view 1), .hole], [.cells true [.hole, .hole], .seq false], [1, 1, 1, 2, 2, 1, 2], [.sl tSym, .sl (.one (.int .i64)), .sl (.one (.int .i64)), .int .i64, .int .i64, .sl (.one (.int .i64)), .sl (.one (.int .i64))]⟩⟩
def w106_u0_e : Exs := [((.exit 0), ⟨[9], ⟨[(.view 0)], [.seq false], [2], [.sl (.one (.int .i64))]⟩⟩)]
def w106_u0_a : AC := .run
def w106_u0 : Un := lpU w106_v.fz [13, 14, 15, 16, 18, 19, 20, 21, 22, 23, 17, 24, 25, 11, 12, 26, 27, 28, 29, 9, 30, 10] w106_u0_h w106_u0_e (lp ref9_Model_Values_L0 fuel)
theorem w106_u0_s (f : w106_u0_h.X → Option (YT w106_u0_e)) (x : w106_u0_h.X) : E w106_v (subC (bodyOf Tryz.f43) [1, 1, 1, 0, 0, 0]) (w106_u0_a) (mkS w106_u0_h 8 x) (roundK w106_v.fz w106_u0_h w106_u0_e f) = ref9_Model_Values_L0 f x := by kernel_rfl
theorem w106_u0_ok {X : Fx} (hX : VOk Tryz.prog X w106_v) : UnOk Tryz.prog X w106_v (subC (bodyOf Tryz.f43) [1, 1, 1, 0, 0]) w106_u0 :=
 lp_un' (c := (subC (bodyOf Tryz.f43) [1, 1, 1, 0, 0, 0])) (by kernel_rfl) (env_all tb_ok (w106_gs)) hord (ob := []) (by kernel_rfl) (fun X hX => obl_nil) (w106_u0_s) (by kernel_rfl) (by kernel_rfl) hX
def w106_a : AC := (.seq .run (.seq .run (.seq .run (.seq (.block (.unit w106_u0)) .run))))
theorem w106_s (x : TupL w106_c.inp.hs) : E w106_v (bodyOf Tryz.f43) (w106_a) (w106_c.entry x) (retSK tb w106_v.fz w106_c [.tmp 8] x) = w106_c.F x := by kernel_rfl
theorem w106_ok : ShOk Tryz.prog gl 43 w106_c :=
 fn_ok (l := w106_g) (n := Tryz.f43.ntmps) (code := bodyOf Tryz.f43) (rts := [.tmp 8]) tb_ok hord (w106_gs) Tryz.func43 (by kernel_rfl) (by kernel_rfl) rfl (by kernel_rfl) (ac := w106_a) (ob := [((subC (bodyOf Tryz.f43) [1, 1, 1, 0, 0]), w106_u0)]) (by kernel_rfl) (fun X hX => (obl_cons (w106_u0_ok hX) obl_nil)) (by kernel_rfl) (w106_s)
def w107_c : ShC := { inp := ⟨[(.agg [.hole, .hole]), .hole, .hole, .hole], [], [1, 1, 1, 1, 1], [.int .i64, .sl (.one (.int .i64)), .sl tSym, .sl (.one (.int .i64)), .sl (.one (.int .i64))]⟩, out := ⟨[.hole], [], [2], [.bool]⟩, nres := 1, ms := [], mu := [], leak := false, glob := false, F := fun (x : (Int × (List Int) × (List QSym) × (List Int) × (List Int))) => ref9_Model_Atom x.1 x.2.1 x.2.2.1 x.2.2.2.1 x.2.2.2.2 }
-- (quaereref9.Model).Atom
def w107_g : List (Nat × Con) := [(42, .gen (altE [w104_c])), (43, .gen (altE [w106_c]))]
def w107_v : Env := envOf tb gl w107_g w107_c Tryz.f41.ntmps
theorem w107_gs : Goods Tryz.prog (cond w107_c.glob gl fun _ => none) w107_g := (goods_cons (good_alt (alls_cons (w104_ok.anyGl rfl) alls_nil)) (goods_cons (good_alt (alls_cons (w106_ok.anyGl rfl) alls_nil)) goods_nil))
def w107_a : AC := .run
theorem w107_s (x : TupL w107_c.inp.hs) : E w107_v (bodyOf Tryz.f41) (w107_a) (w107_c.entry x) (retSK tb w107_v.fz w107_c [.tmp 8] x) = w107_c.F x := by kernel_rfl
theorem w107_ok : ShOk Tryz.prog gl 41 w107_c :=
 fn_ok (l := w107_g) (n := Tryz.f41.ntmps) (code := bodyOf Tryz.f41) (rts := [.tmp 8]) tb_ok hord (w107_gs) Tryz.func41 (by kernel_rfl) (by kernel_rfl) rfl (by kernel_rfl) (ac := w107_a) (ob := []) (by kernel_rfl) (fun X hX => obl_nil) (by kernel_rfl) (w107_s)
def w108_c : ShC := { inp := ⟨[(.agg [.hole, .hole]), .hole, (.agg [.hole, .hole]), .hole], [], [1, 1, 1, 1, 1, 1], [.int .i64, .sl (.one (.int .i64)), .sl tSym, .bool, .sl (.one (.int .i64)), .sl (.one (.int .i64))]⟩, out := ⟨[.hole], [], [2], [.bool]⟩, nres := 1, ms := [], mu := [], leak := false, glob := false, F := fun (x : (Int × (List Int) × (List QSym) × Bool × (List Int) × (List Int))) => ref9_Model_Lit x.1 x.2.1 x.2.2.1 x.2.2.2.1 x.2.2.2.2.1 x.2.2.2.2.2 }
-- (quaereref9.Model).Lit
def w108_g : List (Nat × Con) := [(41, .gen (altE [w107_c]))]
def w108_v : Env := envOf tb gl w108_g w108_c Tryz.f15.ntmps
theorem w108_gs : Goods Tryz.prog (cond w108_c.glob gl fun _ => none) w108_g := (goods_cons (good_alt (alls_cons (w107_ok.anyGl rfl) alls_nil)) goods_nil)
def w108_a : AC := .run
theorem w108_s (x : TupL w108_c.inp.hs) : E w108_v (bodyOf Tryz.f15) (w108_a) (w108_c.entry x) (retSK tb w108_v.fz w108_c [.tmp 8] x) = w108_c.F x := by kernel_rfl
theorem w108_ok : ShOk Tryz.prog gl 15 w108_c :=
 fn_ok (l := w108_g) (n := Tryz.f15.ntmps) (code := bodyOf Tryz.f15) (rts := [.tmp 8]) tb_ok hord (w108_gs) Tryz.func15 (by kernel_rfl) (by kernel_rfl) rfl (by kernel_rfl) (ac := w108_a) (ob := []) (by kernel_rfl) (fun X hX => obl_nil) (by kernel_rfl) (w108_s)
def w109_c : ShC := { inp := ⟨[(.agg [.hole, .hole]), .hole, .hole, .hole], [], [1, 1, 1, 1, 1], [.int .i64, .sl (.one (.int .i64)), .sl tSym, .sl (.one (.int .i64)), .sl (.one (.int .i64))]⟩, out := ⟨[.hole], [], [2], [.bool]⟩, nres := 1, ms := [], mu := [], leak := false, glob := false, F := fun (x : (Int × (List Int) × (List QSym) × (List Int) × (List Int))) => ref9_Model_Tuple x.1 x.2.1 x.2.2.1 x.2.2.2.1 x.2.2.2.2 }
-- (quaereref9.Model).Tuple
def w109_g : List (Nat × Con) := [(42, .gen (altE [w104_c])), (43, .gen (altE [w106_c]))]
def w109_v : Env := envOf tb gl w109_g w109_c Tryz.f16.ntmps
theorem w109_gs : Goods Tryz.prog (cond w109_c.glob gl fun _ => none) w109_g := (goods_cons (good_alt (alls_cons (w104_ok.anyGl rfl) alls_nil)) (goods_cons (good_alt (alls_cons (w106_ok.anyGl rfl) alls_nil)) goods_nil))
def w109_a : AC := .run
theorem w109_s (x : TupL w109_c.inp.hs) : E w109_v (bodyOf Tryz.f16) (w109_a) (w109_c.entry x) (retSK tb w109_v.fz w109_c [.tmp 8] x) = w109_c.F x := by kernel_rfl
theorem w109_ok : ShOk Tryz.prog gl 16 w109_c :=
 fn_ok (l := w109_g) (n := Tryz.f16.ntmps) (code := bodyOf Tryz.f16) (rts := [.tmp 8]) tb_ok hord (w109_gs) Tryz.func16 (by kernel_rfl) (by kernel_rfl) rfl (by kernel_rfl) (ac := w109_a) (ob := []) (by kernel_rfl) (fun X hX => obl_nil) (by kernel_rfl) (w109_s)
def w110_c : ShC := { inp := ⟨[(.agg [.hole, .hole]), .hole, (.agg [.hole, .hole, .hole]), .hole], [], [1, 1, 1, 1, 1, 1, 1], [.int .i64, .sl (.one (.int .i64)), .sl tSym, .sl tLit, .sl (.one (.sl (.one (.int .i64)))), .sl tLit, .sl (.one (.int .i64))]⟩, out := ⟨[.hole], [], [2], [.bool]⟩, nres := 1, ms := [], mu := [], leak := false, glob := false, F := fun (x : (Int × (List Int) × (List QSym) × (List QLit) × (List (List Int)) × (List QLit) × (List Int))) => ref9_Model_Here x.1 x.2.1 x.2.2.1 x.2.2.2.1 x.2.2.2.2.1 x.2.2.2.2.2.1 x.2.2.2.2.2.2 }
-- (quaereref9.Model).Here
def w110_g : List (Nat × Con) := [(15, .gen (altE [w108_c])), (16, .gen (altE [w109_c]))]
def w110_v : Env := envOf tb gl w110_g w110_c Tryz.f45.ntmps
theorem w110_gs : Goods Tryz.prog (cond w110_c.glob gl fun _ => none) w110_g := (goods_cons (good_alt (alls_cons (w108_ok.anyGl rfl) alls_nil)) (goods_cons (good_alt (alls_cons (w109_ok.anyGl rfl) alls_nil)) goods_nil))
def w110_u2_h : SS := ⟨[1, 3, 4, 6, 11], ⟨[.hole, .hole, (.ptr 0 0), (.ptr 1 0), .hole], [.cells true [.hole, .hole], .cells true [.hole, .hole, .hole]], [1, 1, 2, 2, 1, 1, 1, 1], [.sl tSym, .sl (.one (.int .i64)), .int .i64, .int .i64, .sl (.one (.int .i64)), .sl tLit, .sl (.one (.sl (.one (.int .i64)))), .sl tLit]⟩⟩
def w110_u2_e : Exs := [((.exit 4), ⟨[], ⟨[], [], [], []⟩⟩), (.ret, ⟨[8], ⟨[.hole], [], [2], [.bool]⟩⟩)]
def w110_u2_a : AC := .run
def w110_u2 : Un := lpU w110_v.fz [45, 46, 47, 48, 49, 52, 53, 54, 55, 56, 57, 58, 59, 60, 8, 50, 51, 11] w110_u2_h w110_u2_e (lp ref9_Model_Here_L2 fuel)
theorem w110_u2_s (f : w110_u2_h.X → Option (YT w110_u2_e)) (x : w110_u2_h.X) : E w110_v (subC (bodyOf Tryz.f45) [1, 1, 1, 0, 1, 0, 0]) (w110_u2_a) (mkS w110_u2_h 8 x) (roundK w110_v.fz w110_u2_h w110_u2_e f) = ref9_Model_Here_L2 f x := by kernel_rfl
theorem w110_u2_ok {X : Fx} (hX : VOk Tryz.prog X w110_v) : UnOk Tryz.prog X w110_v (subC (bodyOf Tryz.f45) [1, 1, 1, 0, 1, 0]) w110_u2 :=
 lp_un' (c := (subC (bodyOf Tryz.f45) [1, 1, 1, 0, 1, 0, 0])) (by kernel_rfl) (env_all tb_ok (w110_gs)) hord (ob := []) (by kernel_rfl) (fun X hX => obl_nil) (w110_u2_s) (by kernel_rfl) (by kernel_rfl) hX
def w110_u1_h : SS := ⟨[1, 3, 4, 6, 10], ⟨[.hole, .hole, (.ptr 0 0), (.ptr 1 0), .hole], [.cells true [.hole, .hole], .cells true [.hole, .hole, .hole]], [1, 1, 2, 2, 1, 1, 1, 1], [.sl tSym, .sl (.one (.int .i64)), .int .i64, .int .i64, .sl (.one (.int .i64)), .sl tLit, .sl (.one (.sl (.one (.int .i64)))), .sl tLit]⟩⟩
def w110_u1_e : Exs := [((.exit 2), ⟨[], ⟨[], [], [], []⟩⟩), (.ret, ⟨[8], ⟨[.hole], [], [2], [.bool]⟩⟩)]
def w110_u1_a : AC := .run
def w110_u1 : Un := lpU w110_v.fz [29, 30, 31, 32, 33, 36, 37, 38, 39, 40, 41, 42, 43, 44, 8, 34, 35, 10] w110_u1_h w110_u1_e (lp ref9_Model_Here_L1 fuel)
theorem w110_u1_s (f : w110_u1_h.X → Option (YT w110_u1_e)) (x : w110_u1_h.X) : E w110_v (subC (bodyOf Tryz.f45) [1, 1, 0, 1, 0, 0]) (w110_u1_a) (mkS w110_u1_h 8 x) (roundK w110_v.fz w110_u1_h w110_u1_e f) = ref9_Model_Here_L1 f x := by kernel_rfl
theorem w110_u1_ok {X : Fx} (hX : VOk Tryz.prog X w110_v) : UnOk Tryz.prog X w110_v (subC (bodyOf Tryz.f45) [1, 1, 0, 1, 0]) w110_u1 :=
 lp_un' (c := (subC (bodyOf Tryz.f45) [1, 1, 0, 1, 0, 0])) (by kernel_rfl) (env_all tb_ok (w110_gs)) hord (ob := []) (by kernel_rfl) (fun X hX => obl_nil) (w110_u1_s) (by kernel_rfl) (by kernel_rfl) hX
def w110_u0_h : SS := ⟨[1, 3, 4, 6, 9], ⟨[.hole, .hole, (.ptr 0 0), (.ptr 1 0), .hole], [.cells true [.hole, .hole], .cells true [.hole, .hole, .hole]], [1, 1, 2, 2, 1, 1, 1, 1], [.sl tSym, .sl (.one (.int .i64)), .int .i64, .int .i64, .sl (.one (.int .i64)), .sl tLit, .sl (.one (.sl (.one (.int .i64)))), .sl tLit]⟩⟩
def w110_u0_e : Exs := [((.exit 0), ⟨[], ⟨[], [], [], []⟩⟩), (.ret, ⟨[8], ⟨[.hole], [], [2], [.bool]⟩⟩)]
def w110_u0_a : AC := .run
def w110_u0 : Un := lpU w110_v.fz [12, 13, 14, 15, 16, 19, 20, 21, 22, 23, 24, 25, 26, 27, 28, 8, 17, 18, 9] w110_u0_h w110_u0_e (lp ref9_Model_Here_L0 fuel)
theorem w110_u0_s (f : w110_u0_h.X → Option (YT w110_u0_e)) (x : w110_u0_h.X) : E w110_v (subC (bodyOf Tryz.f45) [1, 0, 1, 0, 0]) (w110_u0_a) (mkS w110_u0_h 8 x) (roundK w110_v.fz w110_u0_h w110_u0_e f) = ref9_Model_Here_L0 f x := by kernel_rfl
theorem w110_u0_ok {X : Fx} (hX : VOk Tryz.prog X w110_v) : UnOk Tryz.prog X w110_v (subC (bodyOf Tryz.f45) [1, 0, 1, 0]) w110_u0 :=
 lp_un' (c := (subC (bodyOf Tryz.f45) [1, 0, 1, 0, 0])) (by kernel_rfl) (env_all tb_ok (w110_gs)) hord (ob := []) (by kernel_rfl) (fun X hX => obl_nil) (w110_u0_s) (by kernel_rfl) (by kernel_rfl) hX
def w110_a : AC := (.seq .run (.seq (.seq .run (.block (.unit w110_u0))) (.seq (.seq .run (.block (.unit w110_u1))) (.seq (.seq .run (.block (.unit w110_u2))) .run))))
theorem w110_s (x : TupL w110_c.inp.hs) : E w110_v (bodyOf Tryz.f45) (w110_a) (w110_c.entry x) (retSK tb w110_v.fz w110_c [.tmp 8] x) = w110_c.F x := by kernel_rfl
theorem w110_ok : ShOk Tryz.prog gl 45 w110_c :=
 fn_ok (l := w110_g) (n := Tryz.f45.ntmps) (code := bodyOf Tryz.f45) (rts := [.tmp 8]) tb_ok hord (w110_gs) Tryz.func45 (by kernel_rfl) (by kernel_rfl) rfl (by kernel_rfl) (ac := w110_a) (ob := [((subC (bodyOf Tryz.f45) [1, 0, 1, 0]), w110_u0), ((subC (bodyOf Tryz.f45) [1, 1, 0, 1, 0]), w110_u1), ((subC (bodyOf Tryz.f45) [1, 1, 1, 0, 1, 0]), w110_u2)]) (by kernel_rfl) (fun X hX => (obl_cons (w110_u0_ok hX) (obl_cons (w110_u1_ok hX) (obl_cons (w110_u2_ok hX) obl_nil)))) (by kernel_rfl) (w110_s)
def w111_c : ShC := { inp := ⟨[(.agg [.hole, .hole]), (.view 0), .hole], [.seq false], [1, 1, 1, 1], [.int .i64, .sl (.one (.int .i64)), .sl (.one (.int .i64)), .sl (.one (.int .i64))]⟩, out := ⟨[.hole, (.view 0)], [.seq false], [2, 0], [.bool, .sl (.one (.int .i64))]⟩, nres := 1, ms := [1], mu := [(0, 0)], leak := true, glob := false, F := fun (x : (Int × (List Int) × (List Int) × (List Int))) => ref9_Model_Next x.1 x.2.1 x.2.2.1 x.2.2.2 }
-- (quaereref9.Model).Next
def w111_g : List (Nat × Con) := []
def w111_v : Env := envOf tb gl w111_g w111_c Tryz.f17.ntmps
theorem w111_gs : Goods Tryz.prog (cond w111_c.glob gl fun _ => none) w111_g := goods_nil
def w111_u0_h : SS := ⟨[1, 2, 3, 7], ⟨[(.view 0), .hole, (.ptr 1 0), .hole], [.seq false, .cells true [.hole, .hole]], [1, 2, 0, 2, 1], [.sl (.one (.int .i64)), .int .i64, .sl (.one (.int .i64)), .int .i64, .sl (.one (.int .i64))]⟩⟩
def w111_u0_e : Exs := [((.exit 0), ⟨[1], ⟨[(.view 0)], [.seq false], [0], [.sl (.one (.int .i64))]⟩⟩), (.ret, ⟨[1, 6], ⟨[(.view 0), .hole], [.seq false], [2, 0], [.bool, .sl (.one (.int .i64))]⟩⟩)]
def w111_u0_a : AC := .run
def w111_u0 : Un := lpU w111_v.fz [8, 9, 10, 11, 14, 15, 16, 17, 18, 19, 20, 21, 22, 23, 24, 25, 26, 27, 28, 29, 30, 31, 32, 6, 33, 34, 35, 36, 37, 38, 12, 13, 7] w111_u0_h w111_u0_e (lp ref9_Model_Next_L0 fuel)
theorem w111_u0_s (f : w111_u0_h.X → Option (YT w111_u0_e)) (x : w111_u0_h.X) : E w111_v (subC (bodyOf Tryz.f17) [1, 0, 1, 0, 0]) (w111_u0_a) (mkS w111_u0_h 8 x) (roundK w111_v.fz w111_u0_h w111_u0_e f) = ref9_Model_Next_L0 f x := by kernel_rfl
theorem w111_u0_ok {X : Fx} (hX : VOk Tryz.prog X w111_v) : UnOk Tryz.prog X w111_v (subC (bodyOf Tryz.f17) [1, 0, 1, 0]) w111_u0 :=
 lp_un' (c := (subC (bodyOf Tryz.f17) [1, 0, 1, 0, 0])) (by kernel_rfl) (env_all tb_ok (w111_gs)) hord (ob := []) (by kernel_rfl) (fun X hX => obl_nil) (w111_u0_s) (by kernel_rfl) (by kernel_rfl) hX
def w111_a : AC := (.seq .run (.seq (.seq .run (.block (.unit w111_u0))) .run))
theorem w111_s (x : TupL w111_c.inp.hs) : E w111_v (bodyOf Tryz.f17) (w111_a) (w111_c.entry x) (retSK tb w111_v.fz w111_c [.tmp 6] x) = w111_c.F x := by kernel_rfl
theorem w111_ok : ShOk Tryz.prog gl 17 w111_c :=
 fn_ok (l := w111_g) (n := Tryz.f17.ntmps) (code := bodyOf Tryz.f17) (rts := [.tmp 6]) tb_ok hord (w111_gs) Tryz.func17 (by kernel_rfl) (by kernel_rfl) rfl (by kernel_rfl) (ac := w111_a) (ob := [((subC (bodyOf Tryz.f17) [1, 0, 1, 0]), w111_u0)]) (by kernel_rfl) (fun X hX => (obl_cons (w111_u0_ok hX) obl_nil)) (by kernel_rfl) (w111_s)
def w112_c : ShC := { inp := ⟨[(.agg [.hole, .hole]), .hole, (.agg [.hole, .hole, .hole])], [], [1, 1, 1, 1, 1, 1], [.int .i64, .sl (.one (.int .i64)), .sl tSym, .sl tLit, .sl (.one (.sl (.one (.int .i64)))), .sl tLit]⟩, out := ⟨[.hole], [], [2], [.bool]⟩, nres := 1, ms := [], mu := [], leak := false, glob := false, F := fun (x : (Int × (List Int) × (List QSym) × (List QLit) × (List (List Int)) × (List QLit))) => ref9_Model_Clause x.1 x.2.1 x.2.2.1 x.2.2.2.1 x.2.2.2.2.1 x.2.2.2.2.2 }
-- (quaereref9.Model).Clause
def w112_g : List (Nat × Con) := [(14, .gen (altE [w103_c])), (17, .gen (altE [w111_c])), (44, .gen (altE [w102_c])), (45, .gen (altE [w110_c]))]
def w112_v : Env := envOf tb gl w112_g w112_c Tryz.f18.ntmps
theorem w112_gs : Goods Tryz.prog (cond w112_c.glob gl fun _ => none) w112_g := (goods_cons (good_alt (alls_cons (w103_ok.anyGl rfl) alls_nil)) (goods_cons (good_alt (alls_cons (w111_ok.anyGl rfl) alls_nil)) (goods_cons (good_alt (alls_cons (w102_ok.anyGl rfl) alls_nil)) (goods_cons (good_alt (alls_cons (w110_ok.anyGl rfl) alls_nil)) goods_nil))))
def w112_u0_h : SS := ⟨[1, 3, 5, 7, 8], ⟨[.hole, (.ptr 0 0), (.ptr 1 0), .hole, (.view 2)], [.cells true [.hole, .hole], .cells true [.hole, .hole, .hole], .seq false], [1, 2, 2, 1, 1, 1, 1, 0], [.sl tSym, .sl (.one (.int .i64)), .int .i64, .sl (.one (.int .i64)), .sl tLit, .sl (.one (.sl (.one (.int .i64)))), .sl tLit, .sl (.one (.int .i64))]⟩⟩
def w112_u0_e : Exs := [(.ret, ⟨[6], ⟨[.hole], [], [2], [.bool]⟩⟩)]
def w112_u0_a : AC := .run
def w112_u0 : Un := lpU w112_v.fz [12, 13, 14, 15, 16, 17, 6, 18, 19, 20, 21, 22, 6] w112_u0_h w112_u0_e (lp ref9_Model_Clause_L0 fuel)
theorem w112_u0_s (f : w112_u0_h.X → Option (YT w112_u0_e)) (x : w112_u0_h.X) : E w112_v (subC (bodyOf Tryz.f18) [1, 1, 1, 0, 0]) (w112_u0_a) (mkS w112_u0_h 8 x) (roundK w112_v.fz w112_u0_h w112_u0_e f) = ref9_Model_Clause_L0 f x := by kernel_rfl
theorem w112_u0_ok {X : Fx} (hX : VOk Tryz.prog X w112_v) : UnOk Tryz.prog X w112_v (subC (bodyOf Tryz.f18) [1, 1, 1, 0]) w112_u0 :=
 lp_un' (c := (subC (bodyOf Tryz.f18) [1, 1, 1, 0, 0])) (by kernel_rfl) (env_all tb_ok (w112_gs)) hord (ob := []) (by kernel_rfl) (fun X hX => obl_nil) (w112_u0_s) (by kernel_rfl) (by kernel_rfl) hX
def w112_a : AC := (.seq .run (.seq .run (.seq .run (.block (.unit w112_u0)))))
theorem w112_s (x : TupL w112_c.inp.hs) : E w112_v (bodyOf Tryz.f18) (w112_a) (w112_c.entry x) (retSK tb w112_v.fz w112_c [.tmp 6] x) = w112_c.F x := by kernel_rfl
theorem w112_ok : ShOk Tryz.prog gl 18 w112_c :=
 fn_ok (l := w112_g) (n := Tryz.f18.ntmps) (code := bodyOf Tryz.f18) (rts := [.tmp 6]) tb_ok hord (w112_gs) Tryz.func18 (by kernel_rfl) (by kernel_rfl) rfl (by kernel_rfl) (ac := w112_a) (ob := [((subC (bodyOf Tryz.f18) [1, 1, 1, 0]), w112_u0)]) (by kernel_rfl) (fun X hX => (obl_cons (w112_u0_ok hX) obl_nil)) (by kernel_rfl) (w112_s)
def w113_c : ShC := { inp := ⟨[.hole, (.agg [.hole, .hole, .hole]), .hole, (.agg [.hole, .hole, .hole]), .hole, .hole, .hole], [], [1, 1, 1, 1, 1, 1, 1, 1, 1, 1, 1], [.sl tSym, .sl tLit, .sl (.one (.sl (.one (.int .i64)))), .sl tLit, .int .i64, .sl tLit, .sl (.one (.sl (.one (.int .i64)))), .sl tLit, .int .i64, .int .i64, .sl (.one (.int .i64))]⟩, out := ⟨[.hole], [], [2], [.bool]⟩, nres := 1, ms := [], mu := [], leak := false, glob := true, F := fun (x : ((List QSym) × (List QLit) × (List (List Int)) × (List QLit) × Int × (List QLit) × (List (List Int)) × (List QLit) × Int × Int × (List Int))) => law13_ResolveHolds x.1 x.2.1 x.2.2.1 x.2.2.2.1 x.2.2.2.2.1 x.2.2.2.2.2.1 x.2.2.2.2.2.2.1 x.2.2.2.2.2.2.2.1 x.2.2.2.2.2.2.2.2.1 x.2.2.2.2.2.2.2.2.2.1 x.2.2.2.2.2.2.2.2.2.2 }
-- quaerelaw13.ResolveHolds
def w113_g : List (Nat × Con) := [(9, .gen (altE [w88_c])), (10, .gen (altE [w15_c])), (13, .gen (altE [w98_c])), (18, .gen (altE [w112_c])), (23, .gen (altE [w65_c])), (27, .gen (altE [w95_c])), (28, .gen (altE [w97_c]))]
def w113_v : Env := envOf tb gl w113_g w113_c Tryz.f6.ntmps
theorem w113_gs : Goods Tryz.prog (cond w113_c.glob gl fun _ => none) w113_g := (goods_cons (good_alt (alls_cons (w88_ok.anyGl rfl) alls_nil)) (goods_cons (good_alt (alls_cons w15_ok alls_nil)) (goods_cons (good_alt (alls_cons (w98_ok.anyGl rfl) alls_nil)) (goods_cons (good_alt (alls_cons (w112_ok.anyGl rfl) alls_nil)) (goods_cons (good_alt (alls_cons w65_ok alls_nil)) (goods_cons (good_alt (alls_cons w95_ok alls_nil)) (goods_cons (good_alt (alls_cons w97_ok alls_nil)) goods_nil)))))))
def w113_a : AC := .run
theorem w113_s (x : TupL w113_c.inp.hs) : E w113_v (bodyOf Tryz.f6) (w113_a) (w113_c.entry x) (retSK tb w113_v.fz w113_c [.tmp 14] x) = w113_c.F x := by kernel_rfl
theorem w113_ok : ShOk Tryz.prog gl 6 w113_c :=
 fn_ok (l := w113_g) (n := Tryz.f6.ntmps) (code := bodyOf Tryz.f6) (rts := [.tmp 14]) tb_ok hord (w113_gs) Tryz.func6 (by kernel_rfl) (by kernel_rfl) rfl (by kernel_rfl) (ac := w113_a) (ob := []) (by kernel_rfl) (fun X hX => obl_nil) (by kernel_rfl) (w113_s)
end
end Go.Abs.Szg
