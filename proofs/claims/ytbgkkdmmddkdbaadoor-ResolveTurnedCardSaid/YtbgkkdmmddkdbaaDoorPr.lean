import Derived.Test.YtbgkkdmmddkdbaaDoorFc
import Derived.Test.YtbgkkdmmddkdbaaDoorQb
import Derived.Test.YtbgkkdmmddkdbaaDoorXa
import Derived.Test.YtbgkkdmmddkdbaaDoorProg
/-
  The functions make just that.
-/
namespace Go.Abs.Sg
open Go Go.Abs Go.Abs.Q Go.Proofs
set_option maxRecDepth 100000
noncomputable def tbl : List (Nat × TD) := [(3, .int .i64),
  (4, .bool),
  (9, .str),
  (22, .sl 69 tSym 40),
  (23, .sl 39 tLit 32),
  (24, .sl 37 (.one (.sl (.one (.int .i64)))) 24),
  (26, .st [(23, 0), (24, 1), (23, 2)] 3),
  (37, .sl 3 (.one (.int .i64)) 8),
  (39, .st [(4, 0), (37, 1)] 2),
  (43, .int .u64),
  (49, .sl 56 (.cons (.int .i64) (.cons (.int .i64) (.cons (.int .i64) (.cons (.int .i64) (.cons (.int .i64) (.cons (.int .i64) (.cons (.int .i64) (.cons (.sl tLit) (.cons (.sl (.one (.sl (.one (.int .i64))))) (.one (.sl tLit))))))))))) 128),
  (56, .st [(3, 0), (3, 1), (3, 2), (3, 3), (3, 4), (3, 5), (3, 6), (26, 7)] 10),
  (69, .st [(9, 0), (3, 1), (3, 2), (3, 3)] 4),
  (72, .st [(22, 0), (49, 1), (3, 2)] 3),
  (83, .sl 120 (.cons (.int .i64) (.one (.sl (.one (.int .i64))))) 32),
  (91, .sl 23 (.one (.sl tLit)) 24),
  (113, .st [(37, 0), (3, 1)] 2),
  (114, .arr 113 (.cons (.ns (.one (.int .i64))) (.one (.int .i64))) 48),
  (116, .st [(22, 0), (114, 1)] 97),
  (120, .st [(3, 0), (37, 1)] 2),
  (137, .sl 24 (.one (.sl (.one (.sl (.one (.int .i64)))))) 24),
  (141, .arr 3 (.one (.int .i64)) 24),
  (143, .sl 146 (.cons (.sl (.one (.int .i64))) (.cons (.int .i64) (.cons (.sl (.one (.int .i64))) (.one (.int .i64))))) 64),
  (146, .fa 113 2 2),
  (176, .arr 4 (.one .bool) 48),
  (177, .sl 113 (.cons (.sl (.one (.int .i64))) (.one (.int .i64))) 32)]
noncomputable def tb : Tb := tbOf tbl
theorem tb_ok : TbOk Tryd.prog tb := tb_check (by kernel_rfl)
theorem hord : Tryd.prog.follows .mixedOrders = true := by kernel_rfl
noncomputable def gl : Gl := fun q => cond (Nat.beq q 0) (some ⟨tSym, (([61], 0, 2, 1) : QSym)⟩) (none)
noncomputable def law13_words_c : ShC := { inp := ⟨[], [], [], []⟩, out := ⟨[(.view 0)], [.seq false], [2], [.sl tSym]⟩, nres := 1, ms := [], mu := [], leak := false, glob := false, F := fun (x : Unit) => law13_words }
-- quaerelaw13.words
noncomputable def law13_words_g : List (Nat × Con) := []
noncomputable def law13_words_v : Env := envOf tb gl law13_words_g law13_words_c Tryd.f25.ntmps
theorem law13_words_gs : Goods Tryd.prog (cond law13_words_c.glob gl fun _ => none) law13_words_g := goods_nil
noncomputable def law13_words_a : AC := .run
theorem law13_words_s (x : TupL law13_words_c.inp.hs) : E law13_words_v (bodyOf Tryd.f25) (law13_words_a) (law13_words_c.entry x) (retSK tb law13_words_v.fz law13_words_c [.tmp 0] x) = law13_words_c.F x := by kernel_rfl
theorem law13_words_ok : ShOk Tryd.prog gl 25 law13_words_c :=
  fn_ok (l := law13_words_g) (n := Tryd.f25.ntmps) (code := bodyOf Tryd.f25) (rts := [.tmp 0]) tb_ok hord (law13_words_gs) Tryd.func25 (by kernel_rfl) (by kernel_rfl) rfl (by kernel_rfl) (ac := law13_words_a) (ob := []) (by kernel_rfl) (fun X hX => obl_nil) (by kernel_rfl) (law13_words_s)

noncomputable def sign_small_c : ShC := { inp := ⟨[.hole], [], [1], [.int .u8]⟩, out := ⟨[.hole], [], [2], [.bool]⟩, nres := 1, ms := [], mu := [], leak := false, glob := false, F := fun (x : Int) => sign_small x }
-- sign.small
noncomputable def sign_small_g : List (Nat × Con) := []
noncomputable def sign_small_v : Env := envOf tb gl sign_small_g sign_small_c Tryd.f116.ntmps
theorem sign_small_gs : Goods Tryd.prog (cond sign_small_c.glob gl fun _ => none) sign_small_g := goods_nil
noncomputable def sign_small_a : AC := .run
theorem sign_small_s (x : TupL sign_small_c.inp.hs) : E sign_small_v (bodyOf Tryd.f116) (sign_small_a) (sign_small_c.entry x) (retSK tb sign_small_v.fz sign_small_c [.tmp 2] x) = sign_small_c.F x := by kernel_rfl
theorem sign_small_ok : ShOk Tryd.prog gl 116 sign_small_c :=
  fn_ok (l := sign_small_g) (n := Tryd.f116.ntmps) (code := bodyOf Tryd.f116) (rts := [.tmp 2]) tb_ok hord (sign_small_gs) Tryd.func116 (by kernel_rfl) (by kernel_rfl) rfl (by kernel_rfl) (ac := sign_small_a) (ob := []) (by kernel_rfl) (fun X hX => obl_nil) (by kernel_rfl) (sign_small_s)

noncomputable def sign_called_c : ShC := { inp := ⟨[.hole], [], [1], [.str]⟩, out := ⟨[.hole], [], [2], [.bool]⟩, nres := 1, ms := [], mu := [], leak := false, glob := false, F := fun (x : Str) => sign_called x }
-- sign.called
noncomputable def sign_called_g : List (Nat × Con) := [(116, .gen (altE [sign_small_c]))]
noncomputable def sign_called_v : Env := envOf tb gl sign_called_g sign_called_c Tryd.f95.ntmps
theorem sign_called_gs : Goods Tryd.prog (cond sign_called_c.glob gl fun _ => none) sign_called_g := (goods_cons (good_alt (alls_cons (sign_small_ok.anyGl rfl) alls_nil)) goods_nil)
noncomputable def sign_called_u0_h : SS := ⟨[0, 18, 19], ⟨[.hole, .hole, .hole], [], [2, 2, 2], [.str, .int .i64, .int .i64]⟩⟩
noncomputable def sign_called_u0_e : Exs := [((.exit 0), ⟨[], ⟨[], [], [], []⟩⟩), (.ret, ⟨[2], ⟨[.hole], [], [2], [.bool]⟩⟩)]
noncomputable def sign_called_u0_a : AC := .run
noncomputable def sign_called_u0 : Un := lpU sign_called_v.fz [20, 21, 3, 22, 23, 24, 25, 26, 27, 28, 29, 30, 31, 32, 33, 34, 35, 36, 37, 38, 2, 39, 19] sign_called_u0_h sign_called_u0_e (lp sign_called_L0 fuel)
theorem sign_called_u0_s (f : sign_called_u0_h.X → Option (YT sign_called_u0_e)) (x : sign_called_u0_h.X) : E sign_called_v (subC (bodyOf Tryd.f95) [1, 1, 0, 1, 0, 0]) (sign_called_u0_a) (mkS sign_called_u0_h 8 x) (roundK sign_called_v.fz sign_called_u0_h sign_called_u0_e f) = sign_called_L0 f x := by kernel_rfl
theorem sign_called_u0_ok {X : Fx} (hX : VOk Tryd.prog X sign_called_v) : UnOk Tryd.prog X sign_called_v (subC (bodyOf Tryd.f95) [1, 1, 0, 1, 0]) sign_called_u0 :=
  lp_un' (c := (subC (bodyOf Tryd.f95) [1, 1, 0, 1, 0, 0])) (by kernel_rfl) (env_all tb_ok (sign_called_gs)) hord (ob := []) (by kernel_rfl) (fun X hX => obl_nil) (sign_called_u0_s) (by kernel_rfl) (by kernel_rfl) hX
noncomputable def sign_called_a : AC := (.seq .run (.seq .run (.seq (.seq .run (.block (.unit sign_called_u0))) .run)))
theorem sign_called_s (x : TupL sign_called_c.inp.hs) : E sign_called_v (bodyOf Tryd.f95) (sign_called_a) (sign_called_c.entry x) (retSK tb sign_called_v.fz sign_called_c [.tmp 2] x) = sign_called_c.F x := by kernel_rfl
theorem sign_called_ok : ShOk Tryd.prog gl 95 sign_called_c :=
  fn_ok (l := sign_called_g) (n := Tryd.f95.ntmps) (code := bodyOf Tryd.f95) (rts := [.tmp 2]) tb_ok hord (sign_called_gs) Tryd.func95 (by kernel_rfl) (by kernel_rfl) rfl (by kernel_rfl) (ac := sign_called_a) (ob := [((subC (bodyOf Tryd.f95) [1, 1, 0, 1, 0]), sign_called_u0)]) (by kernel_rfl) (fun X hX => (obl_cons (sign_called_u0_ok hX) obl_nil)) (by kernel_rfl) (sign_called_s)

noncomputable def sign_SymMay_c : ShC := { inp := ⟨[(.agg [.hole, .hole, .hole, .hole])], [], [1, 1, 1, 1], [.str, .int .i64, .int .i64, .int .i64]⟩, out := ⟨[.hole], [], [2], [.bool]⟩, nres := 1, ms := [], mu := [], leak := false, glob := false, F := fun (x : QSym) => sign_SymMay x.1 x.2.1 x.2.2.1 x.2.2.2 }
-- sign.SymMay
noncomputable def sign_SymMay_g : List (Nat × Con) := [(95, .gen (altE [sign_called_c]))]
noncomputable def sign_SymMay_v : Env := envOf tb gl sign_SymMay_g sign_SymMay_c Tryd.f66.ntmps
theorem sign_SymMay_gs : Goods Tryd.prog (cond sign_SymMay_c.glob gl fun _ => none) sign_SymMay_g := (goods_cons (good_alt (alls_cons (sign_called_ok.anyGl rfl) alls_nil)) goods_nil)
noncomputable def sign_SymMay_a : AC := .run
theorem sign_SymMay_s (x : TupL sign_SymMay_c.inp.hs) : E sign_SymMay_v (bodyOf Tryd.f66) (sign_SymMay_a) (sign_SymMay_c.entry x) (retSK tb sign_SymMay_v.fz sign_SymMay_c [.tmp 2] x) = sign_SymMay_c.F x := by kernel_rfl
theorem sign_SymMay_ok : ShOk Tryd.prog gl 66 sign_SymMay_c :=
  fn_ok (l := sign_SymMay_g) (n := Tryd.f66.ntmps) (code := bodyOf Tryd.f66) (rts := [.tmp 2]) tb_ok hord (sign_SymMay_gs) Tryd.func66 (by kernel_rfl) (by kernel_rfl) rfl (by kernel_rfl) (ac := sign_SymMay_a) (ob := []) (by kernel_rfl) (fun X hX => obl_nil) (by kernel_rfl) (sign_SymMay_s)

noncomputable def sign_find_c : ShC := { inp := ⟨[.hole, .hole], [], [1, 1], [.sl tSym, .str]⟩, out := ⟨[.hole], [], [2], [.int .i64]⟩, nres := 1, ms := [], mu := [], leak := false, glob := false, F := fun (x : ((List QSym) × Str)) => sign_find x.1 x.2 }
-- sign.find
noncomputable def sign_find_g : List (Nat × Con) := []
noncomputable def sign_find_v : Env := envOf tb gl sign_find_g sign_find_c Tryd.f67.ntmps
theorem sign_find_gs : Goods Tryd.prog (cond sign_find_c.glob gl fun _ => none) sign_find_g := goods_nil
noncomputable def sign_find_u0_h : SS := ⟨[0, 1, 7, 8], ⟨[.hole, .hole, .hole, .hole], [], [1, 2, 2, 2], [.sl tSym, .str, .int .i64, .int .i64]⟩⟩
noncomputable def sign_find_u0_e : Exs := [((.exit 0), ⟨[], ⟨[], [], [], []⟩⟩), (.ret, ⟨[4], ⟨[.hole], [], [2], [.int .i64]⟩⟩)]
noncomputable def sign_find_u0_a : AC := .run
noncomputable def sign_find_u0 : Un := lpU sign_find_v.fz [9, 10, 5, 11, 12, 13, 14, 15, 16, 17, 18, 4, 19, 8] sign_find_u0_h sign_find_u0_e (lp sign_find_L0 fuel)
theorem sign_find_u0_s (f : sign_find_u0_h.X → Option (YT sign_find_u0_e)) (x : sign_find_u0_h.X) : E sign_find_v (subC (bodyOf Tryd.f67) [1, 0, 1, 0, 0]) (sign_find_u0_a) (mkS sign_find_u0_h 8 x) (roundK sign_find_v.fz sign_find_u0_h sign_find_u0_e f) = sign_find_L0 f x := by kernel_rfl
theorem sign_find_u0_ok {X : Fx} (hX : VOk Tryd.prog X sign_find_v) : UnOk Tryd.prog X sign_find_v (subC (bodyOf Tryd.f67) [1, 0, 1, 0]) sign_find_u0 :=
  lp_un' (c := (subC (bodyOf Tryd.f67) [1, 0, 1, 0, 0])) (by kernel_rfl) (env_all tb_ok (sign_find_gs)) hord (ob := []) (by kernel_rfl) (fun X hX => obl_nil) (sign_find_u0_s) (by kernel_rfl) (by kernel_rfl) hX
noncomputable def sign_find_a : AC := (.seq .run (.seq (.seq .run (.block (.unit sign_find_u0))) .run))
theorem sign_find_s (x : TupL sign_find_c.inp.hs) : E sign_find_v (bodyOf Tryd.f67) (sign_find_a) (sign_find_c.entry x) (retSK tb sign_find_v.fz sign_find_c [.tmp 4] x) = sign_find_c.F x := by kernel_rfl
theorem sign_find_ok : ShOk Tryd.prog gl 67 sign_find_c :=
  fn_ok (l := sign_find_g) (n := Tryd.f67.ntmps) (code := bodyOf Tryd.f67) (rts := [.tmp 4]) tb_ok hord (sign_find_gs) Tryd.func67 (by kernel_rfl) (by kernel_rfl) rfl (by kernel_rfl) (ac := sign_find_a) (ob := [((subC (bodyOf Tryd.f67) [1, 0, 1, 0]), sign_find_u0)]) (by kernel_rfl) (fun X hX => (obl_cons (sign_find_u0_ok hX) obl_nil)) (by kernel_rfl) (sign_find_s)

noncomputable def sign_May_c : ShC := { inp := ⟨[.hole], [], [1], [.sl tSym]⟩, out := ⟨[.hole], [], [2], [.bool]⟩, nres := 1, ms := [], mu := [], leak := false, glob := true, F := fun (x : (List QSym)) => sign_May x }
-- sign.May
noncomputable def sign_May_g : List (Nat × Con) := [(66, .gen (altE [sign_SymMay_c])), (67, .gen (altE [sign_find_c]))]
noncomputable def sign_May_v : Env := envOf tb gl sign_May_g sign_May_c Tryd.f42.ntmps
theorem sign_May_gs : Goods Tryd.prog (cond sign_May_c.glob gl fun _ => none) sign_May_g := (goods_cons (good_alt (alls_cons (sign_SymMay_ok.anyGl rfl) alls_nil)) (goods_cons (good_alt (alls_cons (sign_find_ok.anyGl rfl) alls_nil)) goods_nil))
noncomputable def sign_May_u0_h : SS := ⟨[0, 3], ⟨[.hole, .hole], [], [1, 2], [.sl tSym, .int .i64]⟩⟩
noncomputable def sign_May_u0_e : Exs := [((.exit 0), ⟨[], ⟨[], [], [], []⟩⟩), (.ret, ⟨[2], ⟨[.hole], [], [2], [.bool]⟩⟩)]
noncomputable def sign_May_u0_a : AC := .run
noncomputable def sign_May_u0 : Un := lpU sign_May_v.fz [19, 20, 21, 22, 25, 26, 27, 28, 29, 30, 31, 32, 33, 34, 35, 36, 37, 38, 39, 40, 41, 2, 23, 24, 3] sign_May_u0_h sign_May_u0_e (lp sign_May_L0 fuel)
theorem sign_May_u0_s (f : sign_May_u0_h.X → Option (YT sign_May_u0_e)) (x : sign_May_u0_h.X) : E sign_May_v (subC (bodyOf Tryd.f42) [1, 1, 0, 1, 0, 0]) (sign_May_u0_a) (mkS sign_May_u0_h 8 x) (roundK sign_May_v.fz sign_May_u0_h sign_May_u0_e f) = sign_May_L0 f x := by kernel_rfl
theorem sign_May_u0_ok {X : Fx} (hX : VOk Tryd.prog X sign_May_v) : UnOk Tryd.prog X sign_May_v (subC (bodyOf Tryd.f42) [1, 1, 0, 1, 0]) sign_May_u0 :=
  lp_un' (c := (subC (bodyOf Tryd.f42) [1, 1, 0, 1, 0, 0])) (by kernel_rfl) (env_all tb_ok (sign_May_gs)) hord (ob := []) (by kernel_rfl) (fun X hX => obl_nil) (sign_May_u0_s) (by kernel_rfl) (by kernel_rfl) hX
noncomputable def sign_May_a : AC := (.seq .run (.seq .run (.seq (.seq .run (.block (.unit sign_May_u0))) .run)))
theorem sign_May_s (x : TupL sign_May_c.inp.hs) : E sign_May_v (bodyOf Tryd.f42) (sign_May_a) (sign_May_c.entry x) (retSK tb sign_May_v.fz sign_May_c [.tmp 2] x) = sign_May_c.F x := by kernel_rfl
theorem sign_May_ok : ShOk Tryd.prog gl 42 sign_May_c :=
  fn_ok (l := sign_May_g) (n := Tryd.f42.ntmps) (code := bodyOf Tryd.f42) (rts := [.tmp 2]) tb_ok hord (sign_May_gs) Tryd.func42 (by kernel_rfl) (by kernel_rfl) rfl (by kernel_rfl) (ac := sign_May_a) (ob := [((subC (bodyOf Tryd.f42) [1, 1, 0, 1, 0]), sign_May_u0)]) (by kernel_rfl) (fun X hX => (obl_cons (sign_May_u0_ok hX) obl_nil)) (by kernel_rfl) (sign_May_s)

noncomputable def term_Number_c : ShC := { inp := ⟨[.hole], [], [1], [.int .i64]⟩, out := ⟨[.hole], [], [2], [.int .i64]⟩, nres := 1, ms := [], mu := [], leak := false, glob := false, F := fun (x : Int) => term_Number x }
-- term.Number
noncomputable def term_Number_g : List (Nat × Con) := []
noncomputable def term_Number_v : Env := envOf tb gl term_Number_g term_Number_c Tryd.f52.ntmps
theorem term_Number_gs : Goods Tryd.prog (cond term_Number_c.glob gl fun _ => none) term_Number_g := goods_nil
noncomputable def term_Number_a : AC := .run
theorem term_Number_s (x : TupL term_Number_c.inp.hs) : E term_Number_v (bodyOf Tryd.f52) (term_Number_a) (term_Number_c.entry x) (retSK tb term_Number_v.fz term_Number_c [.tmp 2] x) = term_Number_c.F x := by kernel_rfl
theorem term_Number_ok : ShOk Tryd.prog gl 52 term_Number_c :=
  fn_ok (l := term_Number_g) (n := Tryd.f52.ntmps) (code := bodyOf Tryd.f52) (rts := [.tmp 2]) tb_ok hord (term_Number_gs) Tryd.func52 (by kernel_rfl) (by kernel_rfl) rfl (by kernel_rfl) (ac := term_Number_a) (ob := []) (by kernel_rfl) (fun X hX => obl_nil) (by kernel_rfl) (term_Number_s)

noncomputable def term_args_c : ShC := { inp := ⟨[.hole, .hole], [], [1, 1], [.sl tSym, .int .i64]⟩, out := ⟨[.hole, .hole], [], [2, 2], [.int .i64, .bool]⟩, nres := 2, ms := [], mu := [], leak := false, glob := false, F := fun (x : ((List QSym) × Int)) => term_args x.1 x.2 }
-- term.args
noncomputable def term_args_g : List (Nat × Con) := [(52, .gen (altE [term_Number_c]))]
noncomputable def term_args_v : Env := envOf tb gl term_args_g term_args_c Tryd.f107.ntmps
theorem term_args_gs : Goods Tryd.prog (cond term_args_c.glob gl fun _ => none) term_args_g := (goods_cons (good_alt (alls_cons (term_Number_ok.anyGl rfl) alls_nil)) goods_nil)
noncomputable def term_args_a : AC := .run
theorem term_args_s (x : TupL term_args_c.inp.hs) : E term_args_v (bodyOf Tryd.f107) (term_args_a) (term_args_c.entry x) (retSK tb term_args_v.fz term_args_c [.tmp 4, .tmp 5] x) = term_args_c.F x := by kernel_rfl
theorem term_args_ok : ShOk Tryd.prog gl 107 term_args_c :=
  fn_ok (l := term_args_g) (n := Tryd.f107.ntmps) (code := bodyOf Tryd.f107) (rts := [.tmp 4, .tmp 5]) tb_ok hord (term_args_gs) Tryd.func107 (by kernel_rfl) (by kernel_rfl) rfl (by kernel_rfl) (ac := term_args_a) (ob := []) (by kernel_rfl) (fun X hX => obl_nil) (by kernel_rfl) (term_args_s)

noncomputable def term_Skip_c : ShC := { inp := ⟨[.hole, .hole, .hole], [], [1, 1, 1], [.sl tSym, .sl (.one (.int .i64)), .int .i64]⟩, out := ⟨[.hole, .hole], [], [2, 2], [.int .i64, .bool]⟩, nres := 2, ms := [], mu := [], leak := false, glob := false, F := fun (x : ((List QSym) × (List Int) × Int)) => term_Skip x.1 x.2.1 x.2.2 }
-- term.Skip
noncomputable def term_Skip_g : List (Nat × Con) := [(107, .gen (altE [term_args_c]))]
noncomputable def term_Skip_v : Env := envOf tb gl term_Skip_g term_Skip_c Tryd.f79.ntmps
theorem term_Skip_gs : Goods Tryd.prog (cond term_Skip_c.glob gl fun _ => none) term_Skip_g := (goods_cons (good_alt (alls_cons (term_args_ok.anyGl rfl) alls_nil)) goods_nil)
noncomputable def term_Skip_u0_j : Exs := [(.goto 0, ⟨[0, 1, 2, 8], ⟨[.hole, .hole, .hole, .hole], [], [1, 1, 2, 2], [.sl tSym, .sl (.one (.int .i64)), .int .i64, .int .i64]⟩⟩)]
noncomputable def term_Skip_u0_e : Exs := [(.ret, ⟨[6, 7], ⟨[.hole, .hole], [], [2, 2], [.int .i64, .bool]⟩⟩)]
noncomputable def term_Skip_u0_a : AC := .run
noncomputable def term_Skip_u0_l : List (Nat × AC) := []
noncomputable def term_Skip_u0 : Un := scU term_Skip_v [8, 11, 12, 13, 14, 6, 7, 16, 17, 18, 19, 20, 21, 15, 22, 23, 9, 10, 24, 25, 6, 7, 26, 27, 2, 28, 29, 30, 31, 8, 32, 33, 34, 6, 7] term_Skip_u0_j term_Skip_u0_e (subC (bodyOf Tryd.f79) [1, 0]) (term_Skip_u0_a) (lp term_Skip_L0 fuel)
theorem term_Skip_u0_s (f : YT term_Skip_u0_j → Option (YT term_Skip_u0_e)) (x : YT term_Skip_u0_j) : passE term_Skip_v (subC (bodyOf Tryd.f79) [1, 0]) (acsOf (term_Skip_u0_l)) term_Skip_u0_j term_Skip_u0_e f x = term_Skip_L0 f x := by kernel_rfl
theorem term_Skip_u0_ok {X : Fx} (hX : VOk Tryd.prog X term_Skip_v) : UnOk Tryd.prog X term_Skip_v (subC (bodyOf Tryd.f79) [1]) term_Skip_u0 :=
  sc_un' (c := (subC (bodyOf Tryd.f79) [1, 0])) (by kernel_rfl) (env_all tb_ok (term_Skip_gs)) hord (ob := []) (by kernel_rfl) (fun X hX => obl_nil) (fun X hX => acs_ok acl_nil) (term_Skip_u0_s) (by kernel_rfl) (by kernel_rfl) (by kernel_rfl) hX
noncomputable def term_Skip_a : AC := (.seq .run (.unit term_Skip_u0))
theorem term_Skip_s (x : TupL term_Skip_c.inp.hs) : E term_Skip_v (bodyOf Tryd.f79) (term_Skip_a) (term_Skip_c.entry x) (retSK tb term_Skip_v.fz term_Skip_c [.tmp 6, .tmp 7] x) = term_Skip_c.F x := by kernel_rfl
theorem term_Skip_ok : ShOk Tryd.prog gl 79 term_Skip_c :=
  fn_ok (l := term_Skip_g) (n := Tryd.f79.ntmps) (code := bodyOf Tryd.f79) (rts := [.tmp 6, .tmp 7]) tb_ok hord (term_Skip_gs) Tryd.func79 (by kernel_rfl) (by kernel_rfl) rfl (by kernel_rfl) (ac := term_Skip_a) (ob := [((subC (bodyOf Tryd.f79) [1]), term_Skip_u0)]) (by kernel_rfl) (fun X hX => (obl_cons (term_Skip_u0_ok hX) obl_nil)) (by kernel_rfl) (term_Skip_s)

noncomputable def term_begins_c : ShC := { inp := ⟨[.hole, .hole], [], [1, 1], [.sl tSym, .sl (.one (.int .i64))]⟩, out := ⟨[(.view 0), .hole], [.seq false], [2, 2], [.bool, .sl (.one (.int .i64))]⟩, nres := 2, ms := [], mu := [], leak := false, glob := true, F := fun (x : ((List QSym) × (List Int))) => term_begins x.1 x.2 }
-- term.begins
noncomputable def term_begins_g : List (Nat × Con) := [(42, .gen (altE [sign_May_c])), (79, .gen (altE [term_Skip_c]))]
noncomputable def term_begins_v : Env := envOf tb gl term_begins_g term_begins_c Tryd.f49.ntmps
theorem term_begins_gs : Goods Tryd.prog (cond term_begins_c.glob gl fun _ => none) term_begins_g := (goods_cons (good_alt (alls_cons sign_May_ok alls_nil)) (goods_cons (good_alt (alls_cons (term_Skip_ok.anyGl rfl) alls_nil)) goods_nil))
noncomputable def term_begins_u0_j : Exs := [(.goto 0, ⟨[0, 1, 6, 7], ⟨[.hole, .hole, (.view 0), .hole], [.seq false], [1, 1, 2, 2], [.sl tSym, .sl (.one (.int .i64)), .int .i64, .sl (.one (.int .i64))]⟩⟩)]
noncomputable def term_begins_u0_e : Exs := [(.ret, ⟨[4, 5], ⟨[(.view 0), .hole], [.seq false], [2, 2], [.bool, .sl (.one (.int .i64))]⟩⟩)]
noncomputable def term_begins_u0_a : AC := .run
noncomputable def term_begins_u0_l : List (Nat × AC) := []
noncomputable def term_begins_u0 : Un := scU term_begins_v [10, 11, 12, 13, 14, 15, 16, 17, 4, 5, 6, 7, 18, 19, 20, 21, 22, 4, 5, 24, 25, 26, 27, 23, 28, 29, 8, 9, 30, 31, 4, 5, 32, 33, 34, 35, 6, 36, 7] term_begins_u0_j term_begins_u0_e (subC (bodyOf Tryd.f49) [1, 0]) (term_begins_u0_a) (lp term_begins_L0 fuel)
theorem term_begins_u0_s (f : YT term_begins_u0_j → Option (YT term_begins_u0_e)) (x : YT term_begins_u0_j) : passE term_begins_v (subC (bodyOf Tryd.f49) [1, 0]) (acsOf (term_begins_u0_l)) term_begins_u0_j term_begins_u0_e f x = term_begins_L0 f x := by kernel_rfl
theorem term_begins_u0_ok {X : Fx} (hX : VOk Tryd.prog X term_begins_v) : UnOk Tryd.prog X term_begins_v (subC (bodyOf Tryd.f49) [1]) term_begins_u0 :=
  sc_un' (c := (subC (bodyOf Tryd.f49) [1, 0])) (by kernel_rfl) (env_all tb_ok (term_begins_gs)) hord (ob := []) (by kernel_rfl) (fun X hX => obl_nil) (fun X hX => acs_ok acl_nil) (term_begins_u0_s) (by kernel_rfl) (by kernel_rfl) (by kernel_rfl) hX
noncomputable def term_begins_a : AC := (.seq .run (.unit term_begins_u0))
theorem term_begins_s (x : TupL term_begins_c.inp.hs) : E term_begins_v (bodyOf Tryd.f49) (term_begins_a) (term_begins_c.entry x) (retSK tb term_begins_v.fz term_begins_c [.tmp 4, .tmp 5] x) = term_begins_c.F x := by kernel_rfl
theorem term_begins_ok : ShOk Tryd.prog gl 49 term_begins_c :=
  fn_ok (l := term_begins_g) (n := Tryd.f49.ntmps) (code := bodyOf Tryd.f49) (rts := [.tmp 4, .tmp 5]) tb_ok hord (term_begins_gs) Tryd.func49 (by kernel_rfl) (by kernel_rfl) rfl (by kernel_rfl) (ac := term_begins_a) (ob := [((subC (bodyOf Tryd.f49) [1]), term_begins_u0)]) (by kernel_rfl) (fun X hX => (obl_cons (term_begins_u0_ok hX) obl_nil)) (by kernel_rfl) (term_begins_s)

noncomputable def term_IsAtom_c : ShC := { inp := ⟨[.hole, .hole], [], [1, 1], [.sl tSym, .sl (.one (.int .i64))]⟩, out := ⟨[.hole], [], [2], [.bool]⟩, nres := 1, ms := [], mu := [], leak := false, glob := true, F := fun (x : ((List QSym) × (List Int))) => term_IsAtom x.1 x.2 }
-- term.IsAtom
noncomputable def term_IsAtom_g : List (Nat × Con) := [(49, .gen (altE [term_begins_c]))]
noncomputable def term_IsAtom_v : Env := envOf tb gl term_IsAtom_g term_IsAtom_c Tryd.f29.ntmps
theorem term_IsAtom_gs : Goods Tryd.prog (cond term_IsAtom_c.glob gl fun _ => none) term_IsAtom_g := (goods_cons (good_alt (alls_cons term_begins_ok alls_nil)) goods_nil)
noncomputable def term_IsAtom_a : AC := .run
theorem term_IsAtom_s (x : TupL term_IsAtom_c.inp.hs) : E term_IsAtom_v (bodyOf Tryd.f29) (term_IsAtom_a) (term_IsAtom_c.entry x) (retSK tb term_IsAtom_v.fz term_IsAtom_c [.tmp 4] x) = term_IsAtom_c.F x := by kernel_rfl
theorem term_IsAtom_ok : ShOk Tryd.prog gl 29 term_IsAtom_c :=
  fn_ok (l := term_IsAtom_g) (n := Tryd.f29.ntmps) (code := bodyOf Tryd.f29) (rts := [.tmp 4]) tb_ok hord (term_IsAtom_gs) Tryd.func29 (by kernel_rfl) (by kernel_rfl) rfl (by kernel_rfl) (ac := term_IsAtom_a) (ob := []) (by kernel_rfl) (fun X hX => obl_nil) (by kernel_rfl) (term_IsAtom_s)

noncomputable def lit_May_c : ShC := { inp := ⟨[.hole, (.agg [.hole, .hole])], [], [1, 1, 1], [.sl tSym, .bool, .sl (.one (.int .i64))]⟩, out := ⟨[.hole], [], [2], [.bool]⟩, nres := 1, ms := [], mu := [], leak := false, glob := true, F := fun (x : ((List QSym) × Bool × (List Int))) => lit_May x.1 x.2.1 x.2.2 }
-- lit.May
noncomputable def lit_May_g : List (Nat × Con) := [(29, .gen (altE [term_IsAtom_c]))]
noncomputable def lit_May_v : Env := envOf tb gl lit_May_g lit_May_c Tryd.f13.ntmps
theorem lit_May_gs : Goods Tryd.prog (cond lit_May_c.glob gl fun _ => none) lit_May_g := (goods_cons (good_alt (alls_cons term_IsAtom_ok alls_nil)) goods_nil)
noncomputable def lit_May_a : AC := .run
theorem lit_May_s (x : TupL lit_May_c.inp.hs) : E lit_May_v (bodyOf Tryd.f13) (lit_May_a) (lit_May_c.entry x) (retSK tb lit_May_v.fz lit_May_c [.tmp 4] x) = lit_May_c.F x := by kernel_rfl
theorem lit_May_ok : ShOk Tryd.prog gl 13 lit_May_c :=
  fn_ok (l := lit_May_g) (n := Tryd.f13.ntmps) (code := bodyOf Tryd.f13) (rts := [.tmp 4]) tb_ok hord (lit_May_gs) Tryd.func13 (by kernel_rfl) (by kernel_rfl) rfl (by kernel_rfl) (ac := lit_May_a) (ob := []) (by kernel_rfl) (fun X hX => obl_nil) (by kernel_rfl) (lit_May_s)

noncomputable def clause_litsMay_c : ShC := { inp := ⟨[.hole, .hole], [], [1, 1], [.sl tSym, .sl tLit]⟩, out := ⟨[.hole, .hole], [], [2, 2], [.int .i64, .bool]⟩, nres := 2, ms := [], mu := [], leak := false, glob := true, F := fun (x : ((List QSym) × (List QLit))) => clause_litsMay x.1 x.2 }
-- clause.litsMay
noncomputable def clause_litsMay_g : List (Nat × Con) := [(13, .gen (altE [lit_May_c]))]
noncomputable def clause_litsMay_v : Env := envOf tb gl clause_litsMay_g clause_litsMay_c Tryd.f43.ntmps
theorem clause_litsMay_gs : Goods Tryd.prog (cond clause_litsMay_c.glob gl fun _ => none) clause_litsMay_g := (goods_cons (good_alt (alls_cons lit_May_ok alls_nil)) goods_nil)
noncomputable def clause_litsMay_u0_h : SS := ⟨[0, 6, 9, 10, 11], ⟨[.hole, .hole, .hole, .hole, .hole], [], [1, 2, 1, 2, 2], [.sl tSym, .int .i64, .sl tLit, .int .i64, .int .i64]⟩⟩
noncomputable def clause_litsMay_u0_e : Exs := [((.exit 0), ⟨[6], ⟨[.hole], [], [2], [.int .i64]⟩⟩), (.ret, ⟨[4, 5], ⟨[.hole, .hole], [], [2, 2], [.int .i64, .bool]⟩⟩)]
noncomputable def clause_litsMay_u0_a : AC := .run
noncomputable def clause_litsMay_u0 : Un := lpU clause_litsMay_v.fz [12, 13, 14, 8, 15, 16, 17, 18, 4, 5, 19, 20, 21, 22, 23, 6, 24, 11] clause_litsMay_u0_h clause_litsMay_u0_e (lp clause_litsMay_L0 fuel)
theorem clause_litsMay_u0_s (f : clause_litsMay_u0_h.X → Option (YT clause_litsMay_u0_e)) (x : clause_litsMay_u0_h.X) : E clause_litsMay_v (subC (bodyOf Tryd.f43) [1, 1, 0, 1, 0, 0]) (clause_litsMay_u0_a) (mkS clause_litsMay_u0_h 8 x) (roundK clause_litsMay_v.fz clause_litsMay_u0_h clause_litsMay_u0_e f) = clause_litsMay_L0 f x := by kernel_rfl
theorem clause_litsMay_u0_ok {X : Fx} (hX : VOk Tryd.prog X clause_litsMay_v) : UnOk Tryd.prog X clause_litsMay_v (subC (bodyOf Tryd.f43) [1, 1, 0, 1, 0]) clause_litsMay_u0 :=
  lp_un' (c := (subC (bodyOf Tryd.f43) [1, 1, 0, 1, 0, 0])) (by kernel_rfl) (env_all tb_ok (clause_litsMay_gs)) hord (ob := []) (by kernel_rfl) (fun X hX => obl_nil) (clause_litsMay_u0_s) (by kernel_rfl) (by kernel_rfl) hX
noncomputable def clause_litsMay_a : AC := (.seq .run (.seq .run (.seq (.seq .run (.block (.unit clause_litsMay_u0))) .run)))
theorem clause_litsMay_s (x : TupL clause_litsMay_c.inp.hs) : E clause_litsMay_v (bodyOf Tryd.f43) (clause_litsMay_a) (clause_litsMay_c.entry x) (retSK tb clause_litsMay_v.fz clause_litsMay_c [.tmp 4, .tmp 5] x) = clause_litsMay_c.F x := by kernel_rfl
theorem clause_litsMay_ok : ShOk Tryd.prog gl 43 clause_litsMay_c :=
  fn_ok (l := clause_litsMay_g) (n := Tryd.f43.ntmps) (code := bodyOf Tryd.f43) (rts := [.tmp 4, .tmp 5]) tb_ok hord (clause_litsMay_gs) Tryd.func43 (by kernel_rfl) (by kernel_rfl) rfl (by kernel_rfl) (ac := clause_litsMay_a) (ob := [((subC (bodyOf Tryd.f43) [1, 1, 0, 1, 0]), clause_litsMay_u0)]) (by kernel_rfl) (fun X hX => (obl_cons (clause_litsMay_u0_ok hX) obl_nil)) (by kernel_rfl) (clause_litsMay_s)

noncomputable def term_Row_c : ShC := { inp := ⟨[.hole, .hole], [], [1, 1], [.sl tSym, .sl (.one (.int .i64))]⟩, out := ⟨[.hole, .hole], [], [2, 2], [.int .i64, .int .i64]⟩, nres := 2, ms := [], mu := [], leak := false, glob := true, F := fun (x : ((List QSym) × (List Int))) => term_Row x.1 x.2 }
-- term.Row
noncomputable def term_Row_g : List (Nat × Con) := [(49, .gen (altE [term_begins_c]))]
noncomputable def term_Row_v : Env := envOf tb gl term_Row_g term_Row_c Tryd.f68.ntmps
theorem term_Row_gs : Goods Tryd.prog (cond term_Row_c.glob gl fun _ => none) term_Row_g := (goods_cons (good_alt (alls_cons term_begins_ok alls_nil)) goods_nil)
noncomputable def term_Row_a : AC := .run
theorem term_Row_s (x : TupL term_Row_c.inp.hs) : E term_Row_v (bodyOf Tryd.f68) (term_Row_a) (term_Row_c.entry x) (retSK tb term_Row_v.fz term_Row_c [.tmp 4, .tmp 5] x) = term_Row_c.F x := by kernel_rfl
theorem term_Row_ok : ShOk Tryd.prog gl 68 term_Row_c :=
  fn_ok (l := term_Row_g) (n := Tryd.f68.ntmps) (code := bodyOf Tryd.f68) (rts := [.tmp 4, .tmp 5]) tb_ok hord (term_Row_gs) Tryd.func68 (by kernel_rfl) (by kernel_rfl) rfl (by kernel_rfl) (ac := term_Row_a) (ob := []) (by kernel_rfl) (fun X hX => obl_nil) (by kernel_rfl) (term_Row_s)

noncomputable def clause_rowsMay_c : ShC := { inp := ⟨[.hole, .hole], [], [1, 1], [.sl tSym, .sl (.one (.sl (.one (.int .i64))))]⟩, out := ⟨[.hole, .hole], [], [2, 2], [.int .i64, .bool]⟩, nres := 2, ms := [], mu := [], leak := false, glob := true, F := fun (x : ((List QSym) × (List (List Int)))) => clause_rowsMay x.1 x.2 }
-- clause.rowsMay
noncomputable def clause_rowsMay_g : List (Nat × Con) := [(68, .gen (altE [term_Row_c]))]
noncomputable def clause_rowsMay_v : Env := envOf tb gl clause_rowsMay_g clause_rowsMay_c Tryd.f44.ntmps
theorem clause_rowsMay_gs : Goods Tryd.prog (cond clause_rowsMay_c.glob gl fun _ => none) clause_rowsMay_g := (goods_cons (good_alt (alls_cons term_Row_ok alls_nil)) goods_nil)
noncomputable def clause_rowsMay_u0_h : SS := ⟨[0, 6, 7, 12, 13, 14], ⟨[.hole, .hole, .hole, .hole, .hole, .hole], [], [1, 2, 2, 1, 2, 2], [.sl tSym, .int .i64, .int .i64, .sl (.one (.sl (.one (.int .i64)))), .int .i64, .int .i64]⟩⟩
noncomputable def clause_rowsMay_u0_e : Exs := [((.exit 0), ⟨[6], ⟨[.hole], [], [2], [.int .i64]⟩⟩), (.ret, ⟨[4, 5], ⟨[.hole, .hole], [], [2, 2], [.int .i64, .bool]⟩⟩)]
noncomputable def clause_rowsMay_u0_a : AC := .run
noncomputable def clause_rowsMay_u0 : Un := lpU clause_rowsMay_v.fz [15, 16, 17, 18, 8, 9, 20, 21, 22, 19, 23, 24, 10, 11, 25, 26, 27, 7, 28, 29, 30, 31, 32, 33, 34, 4, 5, 35, 36, 37, 38, 6, 39, 14] clause_rowsMay_u0_h clause_rowsMay_u0_e (lp clause_rowsMay_L0 fuel)
theorem clause_rowsMay_u0_s (f : clause_rowsMay_u0_h.X → Option (YT clause_rowsMay_u0_e)) (x : clause_rowsMay_u0_h.X) : E clause_rowsMay_v (subC (bodyOf Tryd.f44) [1, 1, 0, 1, 0, 0]) (clause_rowsMay_u0_a) (mkS clause_rowsMay_u0_h 8 x) (roundK clause_rowsMay_v.fz clause_rowsMay_u0_h clause_rowsMay_u0_e f) = clause_rowsMay_L0 f x := by kernel_rfl
theorem clause_rowsMay_u0_ok {X : Fx} (hX : VOk Tryd.prog X clause_rowsMay_v) : UnOk Tryd.prog X clause_rowsMay_v (subC (bodyOf Tryd.f44) [1, 1, 0, 1, 0]) clause_rowsMay_u0 :=
  lp_un' (c := (subC (bodyOf Tryd.f44) [1, 1, 0, 1, 0, 0])) (by kernel_rfl) (env_all tb_ok (clause_rowsMay_gs)) hord (ob := []) (by kernel_rfl) (fun X hX => obl_nil) (clause_rowsMay_u0_s) (by kernel_rfl) (by kernel_rfl) hX
noncomputable def clause_rowsMay_a : AC := (.seq .run (.seq .run (.seq (.seq .run (.block (.unit clause_rowsMay_u0))) .run)))
theorem clause_rowsMay_s (x : TupL clause_rowsMay_c.inp.hs) : E clause_rowsMay_v (bodyOf Tryd.f44) (clause_rowsMay_a) (clause_rowsMay_c.entry x) (retSK tb clause_rowsMay_v.fz clause_rowsMay_c [.tmp 4, .tmp 5] x) = clause_rowsMay_c.F x := by kernel_rfl
theorem clause_rowsMay_ok : ShOk Tryd.prog gl 44 clause_rowsMay_c :=
  fn_ok (l := clause_rowsMay_g) (n := Tryd.f44.ntmps) (code := bodyOf Tryd.f44) (rts := [.tmp 4, .tmp 5]) tb_ok hord (clause_rowsMay_gs) Tryd.func44 (by kernel_rfl) (by kernel_rfl) rfl (by kernel_rfl) (ac := clause_rowsMay_a) (ob := [((subC (bodyOf Tryd.f44) [1, 1, 0, 1, 0]), clause_rowsMay_u0)]) (by kernel_rfl) (fun X hX => (obl_cons (clause_rowsMay_u0_ok hX) obl_nil)) (by kernel_rfl) (clause_rowsMay_s)

noncomputable def clause_May_c : ShC := { inp := ⟨[.hole, (.agg [.hole, .hole, .hole])], [], [1, 1, 1, 1], [.sl tSym, .sl tLit, .sl (.one (.sl (.one (.int .i64)))), .sl tLit]⟩, out := ⟨[.hole], [], [2], [.bool]⟩, nres := 1, ms := [], mu := [], leak := false, glob := true, F := fun (x : ((List QSym) × (List QLit) × (List (List Int)) × (List QLit))) => clause_May x.1 x.2.1 x.2.2.1 x.2.2.2 }
-- clause.May
noncomputable def clause_May_g : List (Nat × Con) := [(42, .gen (altE [sign_May_c])), (43, .gen (altE [clause_litsMay_c])), (44, .gen (altE [clause_rowsMay_c]))]
noncomputable def clause_May_v : Env := envOf tb gl clause_May_g clause_May_c Tryd.f21.ntmps
theorem clause_May_gs : Goods Tryd.prog (cond clause_May_c.glob gl fun _ => none) clause_May_g := (goods_cons (good_alt (alls_cons sign_May_ok alls_nil)) (goods_cons (good_alt (alls_cons clause_litsMay_ok alls_nil)) (goods_cons (good_alt (alls_cons clause_rowsMay_ok alls_nil)) goods_nil)))
noncomputable def clause_May_a : AC := .run
theorem clause_May_s (x : TupL clause_May_c.inp.hs) : E clause_May_v (bodyOf Tryd.f21) (clause_May_a) (clause_May_c.entry x) (retSK tb clause_May_v.fz clause_May_c [.tmp 4] x) = clause_May_c.F x := by kernel_rfl
theorem clause_May_ok : ShOk Tryd.prog gl 21 clause_May_c :=
  fn_ok (l := clause_May_g) (n := Tryd.f21.ntmps) (code := bodyOf Tryd.f21) (rts := [.tmp 4]) tb_ok hord (clause_May_gs) Tryd.func21 (by kernel_rfl) (by kernel_rfl) rfl (by kernel_rfl) (ac := clause_May_a) (ob := []) (by kernel_rfl) (fun X hX => obl_nil) (by kernel_rfl) (clause_May_s)

noncomputable def resolve_place_c : ShC := { inp := ⟨[(.agg [.hole, .hole, .hole]), .hole], [], [1, 1, 1, 1], [.sl tLit, .sl (.one (.sl (.one (.int .i64)))), .sl tLit, .int .i64]⟩, out := ⟨[.hole], [], [2], [.bool]⟩, nres := 1, ms := [], mu := [], leak := false, glob := false, F := fun (x : ((List QLit) × (List (List Int)) × (List QLit) × Int)) => resolve_place x.1 x.2.1 x.2.2.1 x.2.2.2 }
-- resolve.place
noncomputable def resolve_place_g : List (Nat × Con) := []
noncomputable def resolve_place_v : Env := envOf tb gl resolve_place_g resolve_place_c Tryd.f27.ntmps
theorem resolve_place_gs : Goods Tryd.prog (cond resolve_place_c.glob gl fun _ => none) resolve_place_g := goods_nil
noncomputable def resolve_place_a : AC := .run
theorem resolve_place_s (x : TupL resolve_place_c.inp.hs) : E resolve_place_v (bodyOf Tryd.f27) (resolve_place_a) (resolve_place_c.entry x) (retSK tb resolve_place_v.fz resolve_place_c [.tmp 4] x) = resolve_place_c.F x := by kernel_rfl
theorem resolve_place_ok : ShOk Tryd.prog gl 27 resolve_place_c :=
  fn_ok (l := resolve_place_g) (n := Tryd.f27.ntmps) (code := bodyOf Tryd.f27) (rts := [.tmp 4]) tb_ok hord (resolve_place_gs) Tryd.func27 (by kernel_rfl) (by kernel_rfl) rfl (by kernel_rfl) (ac := resolve_place_a) (ob := []) (by kernel_rfl) (fun X hX => obl_nil) (by kernel_rfl) (resolve_place_s)

noncomputable def slices_Grow_1_c : ShC := { inp := ⟨[.nilv, .hole], [], [1], [.int .i64]⟩, out := ⟨[(.view 0)], [.seq false], [2], [.sl tLit]⟩, nres := 1, ms := [], mu := [], leak := false, glob := false, F := fun (x : Int) => slices_Grow_1 x }
-- slices.Grow[[]api.Lit,api.Lit]
noncomputable def slices_Grow_1_g : List (Nat × Con) := [(1000025, .gen (altE []))]
noncomputable def slices_Grow_1_v : Env := envOf tb gl slices_Grow_1_g slices_Grow_1_c Tryd.f50.ntmps
theorem slices_Grow_1_gs : Goods Tryd.prog (cond slices_Grow_1_c.glob gl fun _ => none) slices_Grow_1_g := (goods_cons (good_alt alls_nil) goods_nil)
noncomputable def slices_Grow_1_a : AC := .run
theorem slices_Grow_1_s (x : TupL slices_Grow_1_c.inp.hs) : E slices_Grow_1_v (bodyOf Tryd.f50) (slices_Grow_1_a) (slices_Grow_1_c.entry x) (retSK tb slices_Grow_1_v.fz slices_Grow_1_c [.tmp 4] x) = slices_Grow_1_c.F x := by kernel_rfl
theorem slices_Grow_1_ok : ShOk Tryd.prog gl 50 slices_Grow_1_c :=
  fn_ok (l := slices_Grow_1_g) (n := Tryd.f50.ntmps) (code := bodyOf Tryd.f50) (rts := [.tmp 4]) tb_ok hord (slices_Grow_1_gs) Tryd.func50 (by kernel_rfl) (by kernel_rfl) rfl (by kernel_rfl) (ac := slices_Grow_1_a) (ob := []) (by kernel_rfl) (fun X hX => obl_nil) (by kernel_rfl) (slices_Grow_1_s)

noncomputable def slices_Concat_1_c : ShC := { inp := ⟨[.hole], [], [1], [.sl (.one (.sl tLit))]⟩, out := ⟨[(.view 0)], [.seq false], [0], [.sl tLit]⟩, nres := 1, ms := [], mu := [], leak := true, glob := false, F := fun (x : (List (List QLit))) => slices_Concat_1 x }
-- slices.Concat[[]api.Lit,api.Lit]
noncomputable def slices_Concat_1_g : List (Nat × Con) := [(50, .gen (altE [slices_Grow_1_c]))]
noncomputable def slices_Concat_1_v : Env := envOf tb gl slices_Concat_1_g slices_Concat_1_c Tryd.f30.ntmps
theorem slices_Concat_1_gs : Goods Tryd.prog (cond slices_Concat_1_c.glob gl fun _ => none) slices_Concat_1_g := (goods_cons (good_alt (alls_cons (slices_Grow_1_ok.anyGl rfl) alls_nil)) goods_nil)
noncomputable def slices_Concat_1_u1_h : SS := ⟨[6, 25, 26, 27], ⟨[(.view 0), .hole, .hole, .hole], [.seq false], [1, 2, 2, 0], [.sl (.one (.sl tLit)), .int .i64, .int .i64, .sl tLit]⟩⟩
noncomputable def slices_Concat_1_u1_e : Exs := [((.exit 2), ⟨[6], ⟨[(.view 0)], [.seq false], [0], [.sl tLit]⟩⟩)]
noncomputable def slices_Concat_1_u1_a : AC := .run
noncomputable def slices_Concat_1_u1 : Un := lpU slices_Concat_1_v.fz [28, 29, 30, 8, 31, 32, 33, 6, 34, 27] slices_Concat_1_u1_h slices_Concat_1_u1_e (lp slices_Concat_1_L1 fuel)
theorem slices_Concat_1_u1_s (f : slices_Concat_1_u1_h.X → Option (YT slices_Concat_1_u1_e)) (x : slices_Concat_1_u1_h.X) : E slices_Concat_1_v (subC (bodyOf Tryd.f30) [1, 1, 1, 1, 0, 1, 0, 0]) (slices_Concat_1_u1_a) (mkS slices_Concat_1_u1_h 8 x) (roundK slices_Concat_1_v.fz slices_Concat_1_u1_h slices_Concat_1_u1_e f) = slices_Concat_1_L1 f x := by kernel_rfl
theorem slices_Concat_1_u1_ok {X : Fx} (hX : VOk Tryd.prog X slices_Concat_1_v) : UnOk Tryd.prog X slices_Concat_1_v (subC (bodyOf Tryd.f30) [1, 1, 1, 1, 0, 1, 0]) slices_Concat_1_u1 :=
  lp_un' (c := (subC (bodyOf Tryd.f30) [1, 1, 1, 1, 0, 1, 0, 0])) (by kernel_rfl) (env_all tb_ok (slices_Concat_1_gs)) hord (ob := []) (by kernel_rfl) (fun X hX => obl_nil) (slices_Concat_1_u1_s) (by kernel_rfl) (by kernel_rfl) hX
noncomputable def slices_Concat_1_u0_h : SS := ⟨[0, 3, 9, 10, 11], ⟨[.hole, .hole, .hole, .hole, .hole], [], [1, 2, 1, 2, 2], [.sl (.one (.sl tLit)), .int .i64, .sl (.one (.sl tLit)), .int .i64, .int .i64]⟩⟩
noncomputable def slices_Concat_1_u0_e : Exs := [((.exit 0), ⟨[3], ⟨[.hole], [], [2], [.int .i64]⟩⟩)]
noncomputable def slices_Concat_1_u0_a : AC := .run
noncomputable def slices_Concat_1_u0 : Un := lpU slices_Concat_1_v.fz [12, 13, 14, 5, 15, 16, 17, 18, 3, 19, 20, 21, 22, 11] slices_Concat_1_u0_h slices_Concat_1_u0_e (lp slices_Concat_1_L0 fuel)
theorem slices_Concat_1_u0_s (f : slices_Concat_1_u0_h.X → Option (YT slices_Concat_1_u0_e)) (x : slices_Concat_1_u0_h.X) : E slices_Concat_1_v (subC (bodyOf Tryd.f30) [1, 1, 0, 1, 0, 0]) (slices_Concat_1_u0_a) (mkS slices_Concat_1_u0_h 8 x) (roundK slices_Concat_1_v.fz slices_Concat_1_u0_h slices_Concat_1_u0_e f) = slices_Concat_1_L0 f x := by kernel_rfl
theorem slices_Concat_1_u0_ok {X : Fx} (hX : VOk Tryd.prog X slices_Concat_1_v) : UnOk Tryd.prog X slices_Concat_1_v (subC (bodyOf Tryd.f30) [1, 1, 0, 1, 0]) slices_Concat_1_u0 :=
  lp_un' (c := (subC (bodyOf Tryd.f30) [1, 1, 0, 1, 0, 0])) (by kernel_rfl) (env_all tb_ok (slices_Concat_1_gs)) hord (ob := []) (by kernel_rfl) (fun X hX => obl_nil) (slices_Concat_1_u0_s) (by kernel_rfl) (by kernel_rfl) hX
noncomputable def slices_Concat_1_a : AC := (.seq .run (.seq .run (.seq (.seq .run (.block (.unit slices_Concat_1_u0))) (.seq .run (.seq (.seq .run (.block (.unit slices_Concat_1_u1))) .run)))))
theorem slices_Concat_1_s (x : TupL slices_Concat_1_c.inp.hs) : E slices_Concat_1_v (bodyOf Tryd.f30) (slices_Concat_1_a) (slices_Concat_1_c.entry x) (retSK tb slices_Concat_1_v.fz slices_Concat_1_c [.tmp 2] x) = slices_Concat_1_c.F x := by kernel_rfl
theorem slices_Concat_1_ok : ShOk Tryd.prog gl 30 slices_Concat_1_c :=
  fn_ok (l := slices_Concat_1_g) (n := Tryd.f30.ntmps) (code := bodyOf Tryd.f30) (rts := [.tmp 2]) tb_ok hord (slices_Concat_1_gs) Tryd.func30 (by kernel_rfl) (by kernel_rfl) rfl (by kernel_rfl) (ac := slices_Concat_1_a) (ob := [((subC (bodyOf Tryd.f30) [1, 1, 0, 1, 0]), slices_Concat_1_u0), ((subC (bodyOf Tryd.f30) [1, 1, 1, 1, 0, 1, 0]), slices_Concat_1_u1)]) (by kernel_rfl) (fun X hX => (obl_cons (slices_Concat_1_u0_ok hX) (obl_cons (slices_Concat_1_u1_ok hX) obl_nil))) (by kernel_rfl) (slices_Concat_1_s)

noncomputable def cmp_isNaN_c : ShC := { inp := ⟨[.hole], [], [1], [.int .i64]⟩, out := ⟨[.hole], [], [2], [.bool]⟩, nres := 1, ms := [], mu := [], leak := false, glob := false, F := fun (x : Int) => cmp_isNaN x }
-- cmp.isNaN[int]
noncomputable def cmp_isNaN_g : List (Nat × Con) := []
noncomputable def cmp_isNaN_v : Env := envOf tb gl cmp_isNaN_g cmp_isNaN_c Tryd.f108.ntmps
theorem cmp_isNaN_gs : Goods Tryd.prog (cond cmp_isNaN_c.glob gl fun _ => none) cmp_isNaN_g := goods_nil
noncomputable def cmp_isNaN_a : AC := .run
theorem cmp_isNaN_s (x : TupL cmp_isNaN_c.inp.hs) : E cmp_isNaN_v (bodyOf Tryd.f108) (cmp_isNaN_a) (cmp_isNaN_c.entry x) (retSK tb cmp_isNaN_v.fz cmp_isNaN_c [.tmp 2] x) = cmp_isNaN_c.F x := by kernel_rfl
theorem cmp_isNaN_ok : ShOk Tryd.prog gl 108 cmp_isNaN_c :=
  fn_ok (l := cmp_isNaN_g) (n := Tryd.f108.ntmps) (code := bodyOf Tryd.f108) (rts := [.tmp 2]) tb_ok hord (cmp_isNaN_gs) Tryd.func108 (by kernel_rfl) (by kernel_rfl) rfl (by kernel_rfl) (ac := cmp_isNaN_a) (ob := []) (by kernel_rfl) (fun X hX => obl_nil) (by kernel_rfl) (cmp_isNaN_s)

noncomputable def cmp_Less_c : ShC := { inp := ⟨[.hole, .hole], [], [1, 1], [.int .i64, .int .i64]⟩, out := ⟨[.hole], [], [2], [.bool]⟩, nres := 1, ms := [], mu := [], leak := false, glob := false, F := fun (x : (Int × Int)) => cmp_Less x.1 x.2 }
-- cmp.Less[int]
noncomputable def cmp_Less_g : List (Nat × Con) := [(108, .gen (altE [cmp_isNaN_c]))]
noncomputable def cmp_Less_v : Env := envOf tb gl cmp_Less_g cmp_Less_c Tryd.f80.ntmps
theorem cmp_Less_gs : Goods Tryd.prog (cond cmp_Less_c.glob gl fun _ => none) cmp_Less_g := (goods_cons (good_alt (alls_cons (cmp_isNaN_ok.anyGl rfl) alls_nil)) goods_nil)
noncomputable def cmp_Less_a : AC := .run
theorem cmp_Less_s (x : TupL cmp_Less_c.inp.hs) : E cmp_Less_v (bodyOf Tryd.f80) (cmp_Less_a) (cmp_Less_c.entry x) (retSK tb cmp_Less_v.fz cmp_Less_c [.tmp 4] x) = cmp_Less_c.F x := by kernel_rfl
theorem cmp_Less_ok : ShOk Tryd.prog gl 80 cmp_Less_c :=
  fn_ok (l := cmp_Less_g) (n := Tryd.f80.ntmps) (code := bodyOf Tryd.f80) (rts := [.tmp 4]) tb_ok hord (cmp_Less_gs) Tryd.func80 (by kernel_rfl) (by kernel_rfl) rfl (by kernel_rfl) (ac := cmp_Less_a) (ob := []) (by kernel_rfl) (fun X hX => obl_nil) (by kernel_rfl) (cmp_Less_s)

noncomputable def slices_isNaN_c : ShC := { inp := ⟨[.hole], [], [1], [.int .i64]⟩, out := ⟨[.hole], [], [2], [.bool]⟩, nres := 1, ms := [], mu := [], leak := false, glob := false, F := fun (x : Int) => slices_isNaN x }
-- slices.isNaN[int]
noncomputable def slices_isNaN_g : List (Nat × Con) := []
noncomputable def slices_isNaN_v : Env := envOf tb gl slices_isNaN_g slices_isNaN_c Tryd.f81.ntmps
theorem slices_isNaN_gs : Goods Tryd.prog (cond slices_isNaN_c.glob gl fun _ => none) slices_isNaN_g := goods_nil
noncomputable def slices_isNaN_a : AC := .run
theorem slices_isNaN_s (x : TupL slices_isNaN_c.inp.hs) : E slices_isNaN_v (bodyOf Tryd.f81) (slices_isNaN_a) (slices_isNaN_c.entry x) (retSK tb slices_isNaN_v.fz slices_isNaN_c [.tmp 2] x) = slices_isNaN_c.F x := by kernel_rfl
theorem slices_isNaN_ok : ShOk Tryd.prog gl 81 slices_isNaN_c :=
  fn_ok (l := slices_isNaN_g) (n := Tryd.f81.ntmps) (code := bodyOf Tryd.f81) (rts := [.tmp 2]) tb_ok hord (slices_isNaN_gs) Tryd.func81 (by kernel_rfl) (by kernel_rfl) rfl (by kernel_rfl) (ac := slices_isNaN_a) (ob := []) (by kernel_rfl) (fun X hX => obl_nil) (by kernel_rfl) (slices_isNaN_s)

noncomputable def slices_BinarySearch_c : ShC := { inp := ⟨[.hole, .hole], [], [1, 1], [.sl (.one (.int .i64)), .int .i64]⟩, out := ⟨[.hole, .hole], [], [2, 2], [.int .i64, .bool]⟩, nres := 2, ms := [], mu := [], leak := false, glob := false, F := fun (x : ((List Int) × Int)) => slices_BinarySearch x.1 x.2 }
-- slices.BinarySearch[[]int,int]
noncomputable def slices_BinarySearch_g : List (Nat × Con) := [(80, .gen (altE [cmp_Less_c])), (81, .gen (altE [slices_isNaN_c]))]
noncomputable def slices_BinarySearch_v : Env := envOf tb gl slices_BinarySearch_g slices_BinarySearch_c Tryd.f51.ntmps
theorem slices_BinarySearch_gs : Goods Tryd.prog (cond slices_BinarySearch_c.glob gl fun _ => none) slices_BinarySearch_g := (goods_cons (good_alt (alls_cons (cmp_Less_ok.anyGl rfl) alls_nil)) (goods_cons (good_alt (alls_cons (slices_isNaN_ok.anyGl rfl) alls_nil)) goods_nil))
noncomputable def slices_BinarySearch_u0_h : SS := ⟨[0, 1, 6, 7, 8], ⟨[.hole, .hole, .hole, .hole, .hole], [], [1, 2, 2, 2, 2], [.sl (.one (.int .i64)), .int .i64, .int .i64, .int .i64, .int .i64]⟩⟩
noncomputable def slices_BinarySearch_u0_e : Exs := [((.exit 0), ⟨[7], ⟨[.hole], [], [2], [.int .i64]⟩⟩)]
noncomputable def slices_BinarySearch_u0_a : AC := .run
noncomputable def slices_BinarySearch_u0 : Un := lpU slices_BinarySearch_v.fz [13, 14, 15, 16, 17, 18, 19, 20, 21, 9, 22, 23, 24, 25, 26, 27, 28, 29, 7, 30, 8] slices_BinarySearch_u0_h slices_BinarySearch_u0_e (lp slices_BinarySearch_L0 fuel)
theorem slices_BinarySearch_u0_s (f : slices_BinarySearch_u0_h.X → Option (YT slices_BinarySearch_u0_e)) (x : slices_BinarySearch_u0_h.X) : E slices_BinarySearch_v (subC (bodyOf Tryd.f51) [1, 1, 1, 0, 0, 0]) (slices_BinarySearch_u0_a) (mkS slices_BinarySearch_u0_h 8 x) (roundK slices_BinarySearch_v.fz slices_BinarySearch_u0_h slices_BinarySearch_u0_e f) = slices_BinarySearch_L0 f x := by kernel_rfl
theorem slices_BinarySearch_u0_ok {X : Fx} (hX : VOk Tryd.prog X slices_BinarySearch_v) : UnOk Tryd.prog X slices_BinarySearch_v (subC (bodyOf Tryd.f51) [1, 1, 1, 0, 0]) slices_BinarySearch_u0 :=
  lp_un' (c := (subC (bodyOf Tryd.f51) [1, 1, 1, 0, 0, 0])) (by kernel_rfl) (env_all tb_ok (slices_BinarySearch_gs)) hord (ob := []) (by kernel_rfl) (fun X hX => obl_nil) (slices_BinarySearch_u0_s) (by kernel_rfl) (by kernel_rfl) hX
noncomputable def slices_BinarySearch_a : AC := (.seq .run (.seq .run (.seq .run (.seq (.block (.unit slices_BinarySearch_u0)) .run))))
theorem slices_BinarySearch_s (x : TupL slices_BinarySearch_c.inp.hs) : E slices_BinarySearch_v (bodyOf Tryd.f51) (slices_BinarySearch_a) (slices_BinarySearch_c.entry x) (retSK tb slices_BinarySearch_v.fz slices_BinarySearch_c [.tmp 4, .tmp 5] x) = slices_BinarySearch_c.F x := by kernel_rfl
theorem slices_BinarySearch_ok : ShOk Tryd.prog gl 51 slices_BinarySearch_c :=
  fn_ok (l := slices_BinarySearch_g) (n := Tryd.f51.ntmps) (code := bodyOf Tryd.f51) (rts := [.tmp 4, .tmp 5]) tb_ok hord (slices_BinarySearch_gs) Tryd.func51 (by kernel_rfl) (by kernel_rfl) rfl (by kernel_rfl) (ac := slices_BinarySearch_a) (ob := [((subC (bodyOf Tryd.f51) [1, 1, 1, 0, 0]), slices_BinarySearch_u0)]) (by kernel_rfl) (fun X hX => (obl_cons (slices_BinarySearch_u0_ok hX) obl_nil)) (by kernel_rfl) (slices_BinarySearch_s)

def lays_Lays2_n21 : Go.Shelf.Ren := { f := fun x => match x with | 21 => 53 | 27 => 82 | 28 => 83 | 35 => 109 | 39 => 122 | n => n, t := fun x => match x with | 22 => 37 | 3 => 3 | 4 => 4 | 0 => 0 | n => n, g := fun x => x }
theorem lays_Lays2_n21_ok : Go.Proofs.Lays2.n21 Tryd.prog lays_Lays2_n21 where
  mixed := by kernel_rfl
  f21 := Tryd.func53.trans (by kernel_rfl)
  f27 := Tryd.func82.trans (by kernel_rfl)
  f28 := Tryd.func83.trans (by kernel_rfl)
  f35 := Tryd.func109.trans (by kernel_rfl)
  f39 := Tryd.func122.trans (by kernel_rfl)
  t0 := Tryd.underlying0
  a0 := Tryd.isAgg0
  z0 := Tryd.sizeOf0
  v0 := Tryd.zeroValue0
  t3 := Tryd.underlying3
  a3 := Tryd.isAgg3
  z3 := Tryd.sizeOf3
  v3 := Tryd.zeroValue3
  t4 := Tryd.underlying4
  a4 := Tryd.isAgg4
  z4 := Tryd.sizeOf4
  v4 := Tryd.zeroValue4
  t22 := Tryd.underlying37
  a22 := Tryd.isAgg37
  z22 := Tryd.sizeOf37
  v22 := Tryd.zeroValue37
  i3 := by kernel_rfl

noncomputable def slices_Insert_c : ShC := insC
-- slices.Insert[[]int,int]
theorem slices_Insert_ok : ShOk Tryd.prog gl 53 slices_Insert_c :=
  insert_ok (code := bodyOf Tryd.f53) Tryd.func53 (by kernel_rfl) (by kernel_rfl) lays_Lays2_n21_ok rfl

noncomputable def term_Seen_1_c : ShC := { inp := ⟨[(.view 0), .hole], [.seq false], [1, 1], [.sl (.one (.int .i64)), .sl (.one (.int .i64))]⟩, out := ⟨[(.view 0)], [.seq false], [0], [.sl (.one (.int .i64))]⟩, nres := 1, ms := [], mu := [], leak := true, glob := false, F := fun (x : ((List Int) × (List Int))) => term_Seen_1 x.1 x.2 }
-- term.Seen
noncomputable def term_Seen_1_g : List (Nat × Con) := [(51, .gen (altE [slices_BinarySearch_c])), (52, .gen (altE [term_Number_c])), (53, .gen (altE [slices_Insert_c]))]
noncomputable def term_Seen_1_v : Env := envOf tb gl term_Seen_1_g term_Seen_1_c Tryd.f31.ntmps
theorem term_Seen_1_gs : Goods Tryd.prog (cond term_Seen_1_c.glob gl fun _ => none) term_Seen_1_g := (goods_cons (good_alt (alls_cons (slices_BinarySearch_ok.anyGl rfl) alls_nil)) (goods_cons (good_alt (alls_cons (term_Number_ok.anyGl rfl) alls_nil)) (goods_cons (good_alt (alls_cons (slices_Insert_ok.anyGl rfl) alls_nil)) goods_nil)))
noncomputable def term_Seen_1_u0_h : SS := ⟨[0, 9, 10, 11], ⟨[(.view 0), .hole, .hole, .hole], [.seq false], [1, 2, 2, 0], [.sl (.one (.int .i64)), .int .i64, .int .i64, .sl (.one (.int .i64))]⟩⟩
noncomputable def term_Seen_1_u0_e : Exs := [((.exit 0), ⟨[0], ⟨[(.view 0)], [.seq false], [0], [.sl (.one (.int .i64))]⟩⟩)]
noncomputable def term_Seen_1_u0_a : AC := .run
noncomputable def term_Seen_1_u0 : Un := lpU term_Seen_1_v.fz [12, 13, 14, 6, 15, 16, 18, 19, 20, 21, 17, 22, 23, 7, 8, 24, 25, 26, 27, 28, 29, 30, 31, 0, 32, 11] term_Seen_1_u0_h term_Seen_1_u0_e (lp term_Seen_1_L0 fuel)
theorem term_Seen_1_u0_s (f : term_Seen_1_u0_h.X → Option (YT term_Seen_1_u0_e)) (x : term_Seen_1_u0_h.X) : E term_Seen_1_v (subC (bodyOf Tryd.f31) [1, 0, 1, 0, 0]) (term_Seen_1_u0_a) (mkS term_Seen_1_u0_h 8 x) (roundK term_Seen_1_v.fz term_Seen_1_u0_h term_Seen_1_u0_e f) = term_Seen_1_L0 f x := by kernel_rfl
theorem term_Seen_1_u0_ok {X : Fx} (hX : VOk Tryd.prog X term_Seen_1_v) : UnOk Tryd.prog X term_Seen_1_v (subC (bodyOf Tryd.f31) [1, 0, 1, 0]) term_Seen_1_u0 :=
  lp_un' (c := (subC (bodyOf Tryd.f31) [1, 0, 1, 0, 0])) (by kernel_rfl) (env_all tb_ok (term_Seen_1_gs)) hord (ob := []) (by kernel_rfl) (fun X hX => obl_nil) (term_Seen_1_u0_s) (by kernel_rfl) (by kernel_rfl) hX
noncomputable def term_Seen_1_a : AC := (.seq .run (.seq (.seq .run (.block (.unit term_Seen_1_u0))) .run))
theorem term_Seen_1_s (x : TupL term_Seen_1_c.inp.hs) : E term_Seen_1_v (bodyOf Tryd.f31) (term_Seen_1_a) (term_Seen_1_c.entry x) (retSK tb term_Seen_1_v.fz term_Seen_1_c [.tmp 4] x) = term_Seen_1_c.F x := by kernel_rfl
theorem term_Seen_1_ok : ShOk Tryd.prog gl 31 term_Seen_1_c :=
  fn_ok (l := term_Seen_1_g) (n := Tryd.f31.ntmps) (code := bodyOf Tryd.f31) (rts := [.tmp 4]) tb_ok hord (term_Seen_1_gs) Tryd.func31 (by kernel_rfl) (by kernel_rfl) rfl (by kernel_rfl) (ac := term_Seen_1_a) (ob := [((subC (bodyOf Tryd.f31) [1, 0, 1, 0]), term_Seen_1_u0)]) (by kernel_rfl) (fun X hX => (obl_cons (term_Seen_1_u0_ok hX) obl_nil)) (by kernel_rfl) (term_Seen_1_s)

noncomputable def clause_Vars_c : ShC := { inp := ⟨[.hole, (.agg [.hole, .hole, .hole])], [], [1, 1, 1, 1], [.sl tSym, .sl tLit, .sl (.one (.sl (.one (.int .i64)))), .sl tLit]⟩, out := ⟨[(.view 0), .hole], [.seq false], [2, 0], [.int .i64, .sl (.one (.int .i64))]⟩, nres := 2, ms := [], mu := [], leak := true, glob := true, F := fun (x : ((List QSym) × (List QLit) × (List (List Int)) × (List QLit))) => clause_Vars x.1 x.2.1 x.2.2.1 x.2.2.2 }
-- clause.Vars
noncomputable def clause_Vars_g : List (Nat × Con) := [(21, .gen (altE [clause_May_c])), (30, .gen (altE [slices_Concat_1_c])), (31, .gen (altE [term_Seen_1_c]))]
noncomputable def clause_Vars_v : Env := envOf tb gl clause_Vars_g clause_Vars_c Tryd.f14.ntmps
theorem clause_Vars_gs : Goods Tryd.prog (cond clause_Vars_c.glob gl fun _ => none) clause_Vars_g := (goods_cons (good_alt (alls_cons clause_May_ok alls_nil)) (goods_cons (good_alt (alls_cons (slices_Concat_1_ok.anyGl rfl) alls_nil)) (goods_cons (good_alt (alls_cons (term_Seen_1_ok.anyGl rfl) alls_nil)) goods_nil)))
noncomputable def clause_Vars_u1_h : SS := ⟨[6, 32, 33, 34], ⟨[(.view 0), .hole, .hole, .hole], [.seq false], [1, 2, 2, 0], [.sl (.one (.sl (.one (.int .i64)))), .int .i64, .int .i64, .sl (.one (.int .i64))]⟩⟩
noncomputable def clause_Vars_u1_e : Exs := [((.exit 2), ⟨[6], ⟨[(.view 0)], [.seq false], [0], [.sl (.one (.int .i64))]⟩⟩)]
noncomputable def clause_Vars_u1_a : AC := .run
noncomputable def clause_Vars_u1 : Un := lpU clause_Vars_v.fz [35, 36, 37, 10, 38, 39, 40, 6, 41, 34] clause_Vars_u1_h clause_Vars_u1_e (lp clause_Vars_L1 fuel)
theorem clause_Vars_u1_s (f : clause_Vars_u1_h.X → Option (YT clause_Vars_u1_e)) (x : clause_Vars_u1_h.X) : E clause_Vars_v (subC (bodyOf Tryd.f14) [1, 1, 1, 1, 0, 1, 0, 0]) (clause_Vars_u1_a) (mkS clause_Vars_u1_h 8 x) (roundK clause_Vars_v.fz clause_Vars_u1_h clause_Vars_u1_e f) = clause_Vars_L1 f x := by kernel_rfl
theorem clause_Vars_u1_ok {X : Fx} (hX : VOk Tryd.prog X clause_Vars_v) : UnOk Tryd.prog X clause_Vars_v (subC (bodyOf Tryd.f14) [1, 1, 1, 1, 0, 1, 0]) clause_Vars_u1 :=
  lp_un' (c := (subC (bodyOf Tryd.f14) [1, 1, 1, 1, 0, 1, 0, 0])) (by kernel_rfl) (env_all tb_ok (clause_Vars_gs)) hord (ob := []) (by kernel_rfl) (fun X hX => obl_nil) (clause_Vars_u1_s) (by kernel_rfl) (by kernel_rfl) hX
noncomputable def clause_Vars_u0_h : SS := ⟨[3, 6, 20, 21, 22], ⟨[(.ptr 0 0), (.view 1), .hole, .hole, .hole], [.cells true [.hole, .hole, .hole], .seq false], [0, 2, 2, 1, 1, 1, 0], [.sl tLit, .int .i64, .int .i64, .sl tLit, .sl (.one (.sl (.one (.int .i64)))), .sl tLit, .sl (.one (.int .i64))]⟩⟩
noncomputable def clause_Vars_u0_e : Exs := [((.exit 0), ⟨[6], ⟨[(.view 0)], [.seq false], [0], [.sl (.one (.int .i64))]⟩⟩)]
noncomputable def clause_Vars_u0_a : AC := .run
noncomputable def clause_Vars_u0 : Un := lpU clause_Vars_v.fz [23, 24, 25, 8, 26, 27, 28, 29, 6, 30, 22] clause_Vars_u0_h clause_Vars_u0_e (lp clause_Vars_L0 fuel)
theorem clause_Vars_u0_s (f : clause_Vars_u0_h.X → Option (YT clause_Vars_u0_e)) (x : clause_Vars_u0_h.X) : E clause_Vars_v (subC (bodyOf Tryd.f14) [1, 1, 1, 0, 1, 0, 0]) (clause_Vars_u0_a) (mkS clause_Vars_u0_h 8 x) (roundK clause_Vars_v.fz clause_Vars_u0_h clause_Vars_u0_e f) = clause_Vars_L0 f x := by kernel_rfl
theorem clause_Vars_u0_ok {X : Fx} (hX : VOk Tryd.prog X clause_Vars_v) : UnOk Tryd.prog X clause_Vars_v (subC (bodyOf Tryd.f14) [1, 1, 1, 0, 1, 0]) clause_Vars_u0 :=
  lp_un' (c := (subC (bodyOf Tryd.f14) [1, 1, 1, 0, 1, 0, 0])) (by kernel_rfl) (env_all tb_ok (clause_Vars_gs)) hord (ob := []) (by kernel_rfl) (fun X hX => obl_nil) (clause_Vars_u0_s) (by kernel_rfl) (by kernel_rfl) hX
noncomputable def clause_Vars_a : AC := (.seq .run (.seq .run (.seq .run (.seq (.seq .run (.block (.unit clause_Vars_u0))) (.seq (.seq .run (.block (.unit clause_Vars_u1))) .run)))))
theorem clause_Vars_s (x : TupL clause_Vars_c.inp.hs) : E clause_Vars_v (bodyOf Tryd.f14) (clause_Vars_a) (clause_Vars_c.entry x) (retSK tb clause_Vars_v.fz clause_Vars_c [.tmp 4, .tmp 5] x) = clause_Vars_c.F x := by kernel_rfl
theorem clause_Vars_ok : ShOk Tryd.prog gl 14 clause_Vars_c :=
  fn_ok (l := clause_Vars_g) (n := Tryd.f14.ntmps) (code := bodyOf Tryd.f14) (rts := [.tmp 4, .tmp 5]) tb_ok hord (clause_Vars_gs) Tryd.func14 (by kernel_rfl) (by kernel_rfl) rfl (by kernel_rfl) (ac := clause_Vars_a) (ob := [((subC (bodyOf Tryd.f14) [1, 1, 1, 0, 1, 0]), clause_Vars_u0), ((subC (bodyOf Tryd.f14) [1, 1, 1, 1, 0, 1, 0]), clause_Vars_u1)]) (by kernel_rfl) (fun X hX => (obl_cons (clause_Vars_u0_ok hX) (obl_cons (clause_Vars_u1_ok hX) obl_nil))) (by kernel_rfl) (clause_Vars_s)

noncomputable def slices_Clone_c : ShC := { inp := ⟨[.hole], [], [1], [.ns (.one (.int .i64))]⟩, out := ⟨[(.view 0)], [.seq false], [0], [.sl (.one (.int .i64))]⟩, nres := 1, ms := [], mu := [], leak := true, glob := false, F := fun (x : (Option (List Int))) => slices_Clone x }
-- slices.Clone[[]int,int]
noncomputable def slices_Clone_g : List (Nat × Con) := []
noncomputable def slices_Clone_v : Env := envOf tb gl slices_Clone_g slices_Clone_c Tryd.f64.ntmps
theorem slices_Clone_gs : Goods Tryd.prog (cond slices_Clone_c.glob gl fun _ => none) slices_Clone_g := goods_nil
noncomputable def slices_Clone_a : AC := .run
theorem slices_Clone_s (x : TupL slices_Clone_c.inp.hs) : E slices_Clone_v (bodyOf Tryd.f64) (slices_Clone_a) (slices_Clone_c.entry x) (retSK tb slices_Clone_v.fz slices_Clone_c [.tmp 2] x) = slices_Clone_c.F x := by kernel_rfl
theorem slices_Clone_ok : ShOk Tryd.prog gl 64 slices_Clone_c :=
  fn_ok (l := slices_Clone_g) (n := Tryd.f64.ntmps) (code := bodyOf Tryd.f64) (rts := [.tmp 2]) tb_ok hord (slices_Clone_gs) Tryd.func64 (by kernel_rfl) (by kernel_rfl) rfl (by kernel_rfl) (ac := slices_Clone_a) (ob := []) (by kernel_rfl) (fun X hX => obl_nil) (by kernel_rfl) (slices_Clone_s)

noncomputable def slices_Clone_1_c : ShC := { inp := ⟨[.nilv], [], [], []⟩, out := ⟨[(.view 0)], [.seq false], [0], [.sl (.one (.int .i64))]⟩, nres := 1, ms := [], mu := [], leak := true, glob := false, F := fun (x : Unit) => slices_Clone_1 }
-- slices.Clone[[]int,int]
noncomputable def slices_Clone_1_g : List (Nat × Con) := []
noncomputable def slices_Clone_1_v : Env := envOf tb gl slices_Clone_1_g slices_Clone_1_c Tryd.f64.ntmps
theorem slices_Clone_1_gs : Goods Tryd.prog (cond slices_Clone_1_c.glob gl fun _ => none) slices_Clone_1_g := goods_nil
noncomputable def slices_Clone_1_a : AC := .run
theorem slices_Clone_1_s (x : TupL slices_Clone_1_c.inp.hs) : E slices_Clone_1_v (bodyOf Tryd.f64) (slices_Clone_1_a) (slices_Clone_1_c.entry x) (retSK tb slices_Clone_1_v.fz slices_Clone_1_c [.tmp 2] x) = slices_Clone_1_c.F x := by kernel_rfl
theorem slices_Clone_1_ok : ShOk Tryd.prog gl 64 slices_Clone_1_c :=
  fn_ok (l := slices_Clone_1_g) (n := Tryd.f64.ntmps) (code := bodyOf Tryd.f64) (rts := [.tmp 2]) tb_ok hord (slices_Clone_1_gs) Tryd.func64 (by kernel_rfl) (by kernel_rfl) rfl (by kernel_rfl) (ac := slices_Clone_1_a) (ob := []) (by kernel_rfl) (fun X hX => obl_nil) (by kernel_rfl) (slices_Clone_1_s)

noncomputable def slices_CloneN_c : ShC := { inp := ⟨[.hole], [], [1], [.sl (.one (.int .i64))]⟩, out := ⟨[(.view 0)], [.seq false], [0], [.sl (.one (.int .i64))]⟩, nres := 1, ms := [], mu := [], leak := true, glob := false, F := fun (x : (List Int)) => slices_CloneN x }
-- slices.Clone[[]int,int]
theorem slices_CloneN_ok : ShOk Tryd.prog gl 64 slices_CloneN_c :=
  sh_nil slices_Clone_1_ok slices_Clone_ok fun xs y h => ⟨h, fun e => by subst e; exact h⟩

noncomputable def clause_Shift_c1_c : ShC := { inp := ⟨[.hole, (.ptr 0 0)], [.cells true [.hole]], [1, 1], [.sl (.one (.int .i64)), .int .i64]⟩, out := ⟨[(.view 0)], [.seq false], [0], [.sl (.one (.int .i64))]⟩, nres := 1, ms := [], mu := [], leak := true, glob := false, F := fun (x : ((List Int) × Int)) => clause_Shift_c1 x.1 x.2 }
-- clause.Shift$1
noncomputable def clause_Shift_c1_g : List (Nat × Con) := [(64, .gen (altE [slices_CloneN_c]))]
noncomputable def clause_Shift_c1_v : Env := envOf tb gl clause_Shift_c1_g clause_Shift_c1_c Tryd.f106.ntmps
theorem clause_Shift_c1_gs : Goods Tryd.prog (cond clause_Shift_c1_c.glob gl fun _ => none) clause_Shift_c1_g := (goods_cons (good_alt (alls_cons (slices_CloneN_ok.anyGl rfl) alls_nil)) goods_nil)
noncomputable def clause_Shift_c1_u0_h : SS := ⟨[1, 4, 9, 10, 11], ⟨[(.ptr 0 0), (.view 1), (.view 1), .hole, .hole], [.cells true [.hole], .seq false], [2, 2, 2, 0], [.int .i64, .int .i64, .int .i64, .sl (.one (.int .i64))]⟩⟩
noncomputable def clause_Shift_c1_u0_e : Exs := [((.exit 0), ⟨[4], ⟨[(.view 0)], [.seq false], [0], [.sl (.one (.int .i64))]⟩⟩)]
noncomputable def clause_Shift_c1_u0_a : AC := .run
noncomputable def clause_Shift_c1_u0 : Un := lpU clause_Shift_c1_v.fz [12, 13, 14, 15, 5, 6, 16, 17, 18, 19, 20, 21, 22, 23, 24, 11] clause_Shift_c1_u0_h clause_Shift_c1_u0_e (lp clause_Shift_c1_L0 fuel)
theorem clause_Shift_c1_u0_s (f : clause_Shift_c1_u0_h.X → Option (YT clause_Shift_c1_u0_e)) (x : clause_Shift_c1_u0_h.X) : E clause_Shift_c1_v (subC (bodyOf Tryd.f106) [1, 1, 0, 1, 0, 0]) (clause_Shift_c1_u0_a) (mkS clause_Shift_c1_u0_h 8 x) (roundK clause_Shift_c1_v.fz clause_Shift_c1_u0_h clause_Shift_c1_u0_e f) = clause_Shift_c1_L0 f x := by kernel_rfl
theorem clause_Shift_c1_u0_ok {X : Fx} (hX : VOk Tryd.prog X clause_Shift_c1_v) : UnOk Tryd.prog X clause_Shift_c1_v (subC (bodyOf Tryd.f106) [1, 1, 0, 1, 0]) clause_Shift_c1_u0 :=
  lp_un' (c := (subC (bodyOf Tryd.f106) [1, 1, 0, 1, 0, 0])) (by kernel_rfl) (env_all tb_ok (clause_Shift_c1_gs)) hord (ob := []) (by kernel_rfl) (fun X hX => obl_nil) (clause_Shift_c1_u0_s) (by kernel_rfl) (by kernel_rfl) hX
noncomputable def clause_Shift_c1_a : AC := (.seq .run (.seq .run (.seq (.seq .run (.block (.unit clause_Shift_c1_u0))) .run)))
theorem clause_Shift_c1_s (x : TupL clause_Shift_c1_c.inp.hs) : E clause_Shift_c1_v (bodyOf Tryd.f106) (clause_Shift_c1_a) (clause_Shift_c1_c.entry x) (retSK tb clause_Shift_c1_v.fz clause_Shift_c1_c [.tmp 3] x) = clause_Shift_c1_c.F x := by kernel_rfl
theorem clause_Shift_c1_ok : ShOk Tryd.prog gl 106 clause_Shift_c1_c :=
  fn_ok (l := clause_Shift_c1_g) (n := Tryd.f106.ntmps) (code := bodyOf Tryd.f106) (rts := [.tmp 3]) tb_ok hord (clause_Shift_c1_gs) Tryd.func106 (by kernel_rfl) (by kernel_rfl) rfl (by kernel_rfl) (ac := clause_Shift_c1_a) (ob := [((subC (bodyOf Tryd.f106) [1, 1, 0, 1, 0]), clause_Shift_c1_u0)]) (by kernel_rfl) (fun X hX => (obl_cons (clause_Shift_c1_u0_ok hX) obl_nil)) (by kernel_rfl) (clause_Shift_c1_s)

noncomputable def clause_each_2_c : ShC := { inp := ⟨[(.agg [.hole, .hole, .hole]), (.clo 106 [(.ptr 0 0)])], [.cells true [.hole]], [1, 1, 1, 1], [.sl tLit, .sl (.one (.sl (.one (.int .i64)))), .sl tLit, .int .i64]⟩, out := ⟨[(.agg [.hole, .hole, (.view 0)])], [.seq false], [0, 0, 0], [.sl tLit, .sl (.one (.sl (.one (.int .i64)))), .sl tLit]⟩, nres := 1, ms := [], mu := [], leak := true, glob := false, F := fun (x : ((List QLit) × (List (List Int)) × (List QLit) × Int)) => clause_each_2 x.1 x.2.1 x.2.2.1 x.2.2.2 }
-- clause.each
noncomputable def clause_each_2_g : List (Nat × Con) := [(106, .gen (altE [clause_Shift_c1_c]))]
noncomputable def clause_each_2_v : Env := envOf tb gl clause_each_2_g clause_each_2_c Tryd.f71.ntmps
theorem clause_each_2_gs : Goods Tryd.prog (cond clause_each_2_c.glob gl fun _ => none) clause_each_2_g := (goods_cons (good_alt (alls_cons (clause_Shift_c1_ok.anyGl rfl) alls_nil)) goods_nil)
noncomputable def clause_each_2_u2_h : SS := ⟨[1, 4, 5, 49, 50, 51], ⟨[(.clo 106 [(.ptr 0 0)]), (.ptr 1 0), (.ptr 2 0), .hole, .hole, .hole], [.cells true [.hole], .cells true [.nilv, .nilv, .nilv], .cells false [.hole, .hole, (.view 3)], .seq false], [1, 2, 2, 2, 0, 0, 0], [.sl tLit, .int .i64, .int .i64, .int .i64, .sl tLit, .sl (.one (.sl (.one (.int .i64)))), .sl tLit]⟩⟩
noncomputable def clause_each_2_u2_e : Exs := [((.exit 4), ⟨[5], ⟨[(.ptr 0 0)], [.cells false [.hole, .hole, (.view 1)], .seq false], [0, 0, 0], [.sl tLit, .sl (.one (.sl (.one (.int .i64)))), .sl tLit]⟩⟩)]
noncomputable def clause_each_2_u2_a : AC := .run
noncomputable def clause_each_2_u2 : Un := lpU clause_each_2_v.fz [52, 53, 54, 11, 55, 56, 57, 58, 59, 60, 61, 62, 63, 64, 65, 66, 67, 51] clause_each_2_u2_h clause_each_2_u2_e (lp clause_each_2_L2 fuel)
theorem clause_each_2_u2_s (f : clause_each_2_u2_h.X → Option (YT clause_each_2_u2_e)) (x : clause_each_2_u2_h.X) : E clause_each_2_v (subC (bodyOf Tryd.f71) [1, 1, 1, 1, 0, 1, 0, 0]) (clause_each_2_u2_a) (mkS clause_each_2_u2_h 8 x) (roundK clause_each_2_v.fz clause_each_2_u2_h clause_each_2_u2_e f) = clause_each_2_L2 f x := by kernel_rfl
theorem clause_each_2_u2_ok {X : Fx} (hX : VOk Tryd.prog X clause_each_2_v) : UnOk Tryd.prog X clause_each_2_v (subC (bodyOf Tryd.f71) [1, 1, 1, 1, 0, 1, 0]) clause_each_2_u2 :=
  lp_un' (c := (subC (bodyOf Tryd.f71) [1, 1, 1, 1, 0, 1, 0, 0])) (by kernel_rfl) (env_all tb_ok (clause_each_2_gs)) hord (ob := []) (by kernel_rfl) (fun X hX => obl_nil) (clause_each_2_u2_s) (by kernel_rfl) (by kernel_rfl) hX
noncomputable def clause_each_2_u1_h : SS := ⟨[1, 2, 4, 5, 33, 34, 35], ⟨[(.clo 106 [(.ptr 0 0)]), (.ptr 1 0), (.ptr 2 0), (.ptr 3 0), .hole, .hole, .hole], [.cells true [.hole], .cells true [.hole, .hole, .hole], .cells true [.nilv, .nilv, .nilv], .cells false [.hole, (.view 4), .nilv], .seq false], [1, 2, 2, 2, 1, 1, 1, 0, 0], [.sl (.one (.sl (.one (.int .i64)))), .int .i64, .int .i64, .int .i64, .sl tLit, .sl (.one (.sl (.one (.int .i64)))), .sl tLit, .sl tLit, .sl (.one (.sl (.one (.int .i64))))]⟩⟩
noncomputable def clause_each_2_u1_e : Exs := [((.exit 2), ⟨[5], ⟨[(.ptr 0 0)], [.cells false [.hole, (.view 1), .nilv], .seq false], [0, 0], [.sl tLit, .sl (.one (.sl (.one (.int .i64))))]⟩⟩)]
noncomputable def clause_each_2_u1_a : AC := .run
noncomputable def clause_each_2_u1 : Un := lpU clause_each_2_v.fz [36, 37, 38, 9, 39, 40, 41, 42, 43, 44, 45, 46, 47, 35] clause_each_2_u1_h clause_each_2_u1_e (lp clause_each_2_L1 fuel)
theorem clause_each_2_u1_s (f : clause_each_2_u1_h.X → Option (YT clause_each_2_u1_e)) (x : clause_each_2_u1_h.X) : E clause_each_2_v (subC (bodyOf Tryd.f71) [1, 1, 1, 0, 1, 0, 0]) (clause_each_2_u1_a) (mkS clause_each_2_u1_h 8 x) (roundK clause_each_2_v.fz clause_each_2_u1_h clause_each_2_u1_e f) = clause_each_2_L1 f x := by kernel_rfl
theorem clause_each_2_u1_ok {X : Fx} (hX : VOk Tryd.prog X clause_each_2_v) : UnOk Tryd.prog X clause_each_2_v (subC (bodyOf Tryd.f71) [1, 1, 1, 0, 1, 0]) clause_each_2_u1 :=
  lp_un' (c := (subC (bodyOf Tryd.f71) [1, 1, 1, 0, 1, 0, 0])) (by kernel_rfl) (env_all tb_ok (clause_each_2_gs)) hord (ob := []) (by kernel_rfl) (fun X hX => obl_nil) (clause_each_2_u1_s) (by kernel_rfl) (by kernel_rfl) hX
noncomputable def clause_each_2_u0_h : SS := ⟨[1, 2, 4, 5, 13, 14, 15], ⟨[(.clo 106 [(.ptr 0 0)]), (.ptr 1 0), (.ptr 2 0), (.ptr 3 0), .hole, .hole, .hole], [.cells true [.hole], .cells true [.hole, .hole, .hole], .cells true [.nilv, .nilv, .nilv], .cells false [(.view 4), .nilv, .nilv], .seq false], [1, 2, 2, 2, 1, 1, 1, 0], [.sl tLit, .int .i64, .int .i64, .int .i64, .sl tLit, .sl (.one (.sl (.one (.int .i64)))), .sl tLit, .sl tLit]⟩⟩
noncomputable def clause_each_2_u0_e : Exs := [((.exit 0), ⟨[5], ⟨[(.ptr 0 0)], [.cells false [(.view 1), .nilv, .nilv], .seq false], [0], [.sl tLit]⟩⟩)]
noncomputable def clause_each_2_u0_a : AC := .run
noncomputable def clause_each_2_u0 : Un := lpU clause_each_2_v.fz [16, 17, 18, 7, 19, 20, 21, 22, 23, 24, 25, 26, 27, 28, 29, 30, 31, 15] clause_each_2_u0_h clause_each_2_u0_e (lp clause_each_2_L0 fuel)
theorem clause_each_2_u0_s (f : clause_each_2_u0_h.X → Option (YT clause_each_2_u0_e)) (x : clause_each_2_u0_h.X) : E clause_each_2_v (subC (bodyOf Tryd.f71) [1, 1, 0, 1, 0, 0]) (clause_each_2_u0_a) (mkS clause_each_2_u0_h 8 x) (roundK clause_each_2_v.fz clause_each_2_u0_h clause_each_2_u0_e f) = clause_each_2_L0 f x := by kernel_rfl
theorem clause_each_2_u0_ok {X : Fx} (hX : VOk Tryd.prog X clause_each_2_v) : UnOk Tryd.prog X clause_each_2_v (subC (bodyOf Tryd.f71) [1, 1, 0, 1, 0]) clause_each_2_u0 :=
  lp_un' (c := (subC (bodyOf Tryd.f71) [1, 1, 0, 1, 0, 0])) (by kernel_rfl) (env_all tb_ok (clause_each_2_gs)) hord (ob := []) (by kernel_rfl) (fun X hX => obl_nil) (clause_each_2_u0_s) (by kernel_rfl) (by kernel_rfl) hX
noncomputable def clause_each_2_a : AC := (.seq .run (.seq .run (.seq (.seq .run (.block (.unit clause_each_2_u0))) (.seq (.seq .run (.block (.unit clause_each_2_u1))) (.seq (.seq .run (.block (.unit clause_each_2_u2))) .run)))))
theorem clause_each_2_s (x : TupL clause_each_2_c.inp.hs) : E clause_each_2_v (bodyOf Tryd.f71) (clause_each_2_a) (clause_each_2_c.entry x) (retSK tb clause_each_2_v.fz clause_each_2_c [.cell 4 26] x) = clause_each_2_c.F x := by kernel_rfl
theorem clause_each_2_ok : ShOk Tryd.prog gl 71 clause_each_2_c :=
  fn_ok (l := clause_each_2_g) (n := Tryd.f71.ntmps) (code := bodyOf Tryd.f71) (rts := [.cell 4 26]) tb_ok hord (clause_each_2_gs) Tryd.func71 (by kernel_rfl) (by kernel_rfl) rfl (by kernel_rfl) (ac := clause_each_2_a) (ob := [((subC (bodyOf Tryd.f71) [1, 1, 0, 1, 0]), clause_each_2_u0), ((subC (bodyOf Tryd.f71) [1, 1, 1, 0, 1, 0]), clause_each_2_u1), ((subC (bodyOf Tryd.f71) [1, 1, 1, 1, 0, 1, 0]), clause_each_2_u2)]) (by kernel_rfl) (fun X hX => (obl_cons (clause_each_2_u0_ok hX) (obl_cons (clause_each_2_u1_ok hX) (obl_cons (clause_each_2_u2_ok hX) obl_nil)))) (by kernel_rfl) (clause_each_2_s)

noncomputable def clause_Shift_c : ShC := { inp := ⟨[(.agg [.hole, .hole, .hole]), .hole], [], [1, 1, 1, 1], [.sl tLit, .sl (.one (.sl (.one (.int .i64)))), .sl tLit, .int .i64]⟩, out := ⟨[(.agg [.hole, .hole, (.view 0)])], [.seq false], [0, 0, 0], [.sl tLit, .sl (.one (.sl (.one (.int .i64)))), .sl tLit]⟩, nres := 1, ms := [], mu := [], leak := true, glob := false, F := fun (x : ((List QLit) × (List (List Int)) × (List QLit) × Int)) => clause_Shift x.1 x.2.1 x.2.2.1 x.2.2.2 }
-- clause.Shift
noncomputable def clause_Shift_g : List (Nat × Con) := [(71, .gen (altE [clause_each_2_c]))]
noncomputable def clause_Shift_v : Env := envOf tb gl clause_Shift_g clause_Shift_c Tryd.f78.ntmps
theorem clause_Shift_gs : Goods Tryd.prog (cond clause_Shift_c.glob gl fun _ => none) clause_Shift_g := (goods_cons (good_alt (alls_cons (clause_each_2_ok.anyGl rfl) alls_nil)) goods_nil)
noncomputable def clause_Shift_a : AC := .run
theorem clause_Shift_s (x : TupL clause_Shift_c.inp.hs) : E clause_Shift_v (bodyOf Tryd.f78) (clause_Shift_a) (clause_Shift_c.entry x) (retSK tb clause_Shift_v.fz clause_Shift_c [.cell 4 26] x) = clause_Shift_c.F x := by kernel_rfl
theorem clause_Shift_ok : ShOk Tryd.prog gl 78 clause_Shift_c :=
  fn_ok (l := clause_Shift_g) (n := Tryd.f78.ntmps) (code := bodyOf Tryd.f78) (rts := [.cell 4 26]) tb_ok hord (clause_Shift_gs) Tryd.func78 (by kernel_rfl) (by kernel_rfl) rfl (by kernel_rfl) (ac := clause_Shift_a) (ob := []) (by kernel_rfl) (fun X hX => obl_nil) (by kernel_rfl) (clause_Shift_s)

noncomputable def resolve_Apart_c : ShC := { inp := ⟨[.hole, (.agg [.hole, .hole, .hole]), (.agg [.hole, .hole, .hole])], [], [1, 1, 1, 1, 1, 1, 1], [.sl tSym, .sl tLit, .sl (.one (.sl (.one (.int .i64)))), .sl tLit, .sl tLit, .sl (.one (.sl (.one (.int .i64)))), .sl tLit]⟩, out := ⟨[(.agg [.hole, .hole, (.view 0)]), .hole], [.seq false], [0, 0, 2, 0], [.sl tLit, .sl (.one (.sl (.one (.int .i64)))), .bool, .sl tLit]⟩, nres := 2, ms := [], mu := [], leak := true, glob := true, F := fun (x : ((List QSym) × (List QLit) × (List (List Int)) × (List QLit) × (List QLit) × (List (List Int)) × (List QLit))) => resolve_Apart x.1 x.2.1 x.2.2.1 x.2.2.2.1 x.2.2.2.2.1 x.2.2.2.2.2.1 x.2.2.2.2.2.2 }
-- resolve.Apart
noncomputable def resolve_Apart_g : List (Nat × Con) := [(14, .gen (altE [clause_Vars_c])), (78, .gen (altE [clause_Shift_c]))]
noncomputable def resolve_Apart_v : Env := envOf tb gl resolve_Apart_g resolve_Apart_c Tryd.f48.ntmps
theorem resolve_Apart_gs : Goods Tryd.prog (cond resolve_Apart_c.glob gl fun _ => none) resolve_Apart_g := (goods_cons (good_alt (alls_cons clause_Vars_ok alls_nil)) (goods_cons (good_alt (alls_cons (clause_Shift_ok.anyGl rfl) alls_nil)) goods_nil))
noncomputable def resolve_Apart_a : AC := .run
theorem resolve_Apart_s (x : TupL resolve_Apart_c.inp.hs) : E resolve_Apart_v (bodyOf Tryd.f48) (resolve_Apart_a) (resolve_Apart_c.entry x) (retSK tb resolve_Apart_v.fz resolve_Apart_c [.cell 6 26, .tmp 7] x) = resolve_Apart_c.F x := by kernel_rfl
theorem resolve_Apart_ok : ShOk Tryd.prog gl 48 resolve_Apart_c :=
  fn_ok (l := resolve_Apart_g) (n := Tryd.f48.ntmps) (code := bodyOf Tryd.f48) (rts := [.cell 6 26, .tmp 7]) tb_ok hord (resolve_Apart_gs) Tryd.func48 (by kernel_rfl) (by kernel_rfl) rfl (by kernel_rfl) (ac := resolve_Apart_a) (ob := []) (by kernel_rfl) (fun X hX => obl_nil) (by kernel_rfl) (resolve_Apart_s)

noncomputable def term_Pieces_c : ShC := { inp := ⟨[.hole, .hole], [], [1, 1], [.sl tSym, .sl (.one (.int .i64))]⟩, out := ⟨[(.view 0)], [.seq false], [0], [.sl (.one (.sl (.one (.int .i64))))]⟩, nres := 1, ms := [], mu := [], leak := true, glob := false, F := fun (x : ((List QSym) × (List Int))) => term_Pieces x.1 x.2 }
-- term.Pieces
noncomputable def term_Pieces_g : List (Nat × Con) := [(79, .gen (altE [term_Skip_c]))]
noncomputable def term_Pieces_v : Env := envOf tb gl term_Pieces_g term_Pieces_c Tryd.f112.ntmps
theorem term_Pieces_gs : Goods Tryd.prog (cond term_Pieces_c.glob gl fun _ => none) term_Pieces_g := (goods_cons (good_alt (alls_cons (term_Skip_ok.anyGl rfl) alls_nil)) goods_nil)
noncomputable def term_Pieces_u0_h : SS := ⟨[0, 1, 5, 6], ⟨[.hole, .hole, (.view 0), .hole], [.seq false], [1, 1, 2, 0], [.sl tSym, .sl (.one (.int .i64)), .int .i64, .sl (.one (.sl (.one (.int .i64))))]⟩⟩
noncomputable def term_Pieces_u0_e : Exs := [((.exit 0), ⟨[5], ⟨[(.view 0)], [.seq false], [0], [.sl (.one (.sl (.one (.int .i64))))]⟩⟩), (.ret, ⟨[4], ⟨[(.view 0)], [.seq false], [0], [.sl (.one (.sl (.one (.int .i64))))]⟩⟩)]
noncomputable def term_Pieces_u0_a : AC := .run
noncomputable def term_Pieces_u0 : Un := lpU term_Pieces_v.fz [9, 10, 11, 12, 14, 15, 16, 17, 13, 18, 19, 7, 8, 20, 21, 22, 4, 23, 24, 25, 26, 27, 28, 29, 5, 30, 6] term_Pieces_u0_h term_Pieces_u0_e (lp term_Pieces_L0 fuel)
theorem term_Pieces_u0_s (f : term_Pieces_u0_h.X → Option (YT term_Pieces_u0_e)) (x : term_Pieces_u0_h.X) : E term_Pieces_v (subC (bodyOf Tryd.f112) [1, 1, 0, 1, 0, 0]) (term_Pieces_u0_a) (mkS term_Pieces_u0_h 8 x) (roundK term_Pieces_v.fz term_Pieces_u0_h term_Pieces_u0_e f) = term_Pieces_L0 f x := by kernel_rfl
theorem term_Pieces_u0_ok {X : Fx} (hX : VOk Tryd.prog X term_Pieces_v) : UnOk Tryd.prog X term_Pieces_v (subC (bodyOf Tryd.f112) [1, 1, 0, 1, 0]) term_Pieces_u0 :=
  lp_un' (c := (subC (bodyOf Tryd.f112) [1, 1, 0, 1, 0, 0])) (by kernel_rfl) (env_all tb_ok (term_Pieces_gs)) hord (ob := []) (by kernel_rfl) (fun X hX => obl_nil) (term_Pieces_u0_s) (by kernel_rfl) (by kernel_rfl) hX
noncomputable def term_Pieces_a : AC := (.seq .run (.seq .run (.seq (.seq .run (.block (.unit term_Pieces_u0))) .run)))
theorem term_Pieces_s (x : TupL term_Pieces_c.inp.hs) : E term_Pieces_v (bodyOf Tryd.f112) (term_Pieces_a) (term_Pieces_c.entry x) (retSK tb term_Pieces_v.fz term_Pieces_c [.tmp 4] x) = term_Pieces_c.F x := by kernel_rfl
theorem term_Pieces_ok : ShOk Tryd.prog gl 112 term_Pieces_c :=
  fn_ok (l := term_Pieces_g) (n := Tryd.f112.ntmps) (code := bodyOf Tryd.f112) (rts := [.tmp 4]) tb_ok hord (term_Pieces_gs) Tryd.func112 (by kernel_rfl) (by kernel_rfl) rfl (by kernel_rfl) (ac := term_Pieces_a) (ob := [((subC (bodyOf Tryd.f112) [1, 1, 0, 1, 0]), term_Pieces_u0)]) (by kernel_rfl) (fun X hX => (obl_cons (term_Pieces_u0_ok hX) obl_nil)) (by kernel_rfl) (term_Pieces_s)

noncomputable def unify_run_pairs_1_c : ShC := { inp := ⟨[(.ptr 0 0), (.view 1), (.agg [.hole, .hole]), (.agg [.hole, .hole])], [.cells true [.hole, .hole], .seq false], [1, 1, 1, 1, 1, 1, 1], [.sl (.one (.int .i64)), .int .i64, .sl (.one (.int .i64)), .int .i64, .sl tSym, .ar (.cons (.ns (.one (.int .i64))) (.one (.int .i64))) 48, .sl (.cons (.sl (.one (.int .i64))) (.cons (.int .i64) (.cons (.sl (.one (.int .i64))) (.one (.int .i64)))))]⟩, out := ⟨[(.view 0)], [.seq false], [0], [.sl (.cons (.sl (.one (.int .i64))) (.cons (.int .i64) (.cons (.sl (.one (.int .i64))) (.one (.int .i64)))))]⟩, nres := 1, ms := [], mu := [], leak := true, glob := false, F := fun (x : ((List Int) × Int × (List Int) × Int × (List QSym) × (List ((Option (List Int)) × Int)) × (List ((List Int) × Int × (List Int) × Int)))) => unify_run_pairs_1 x.1 x.2.1 x.2.2.1 x.2.2.2.1 x.2.2.2.2.1 x.2.2.2.2.2.1 x.2.2.2.2.2.2 }
-- (*unify.run).pairs
noncomputable def unify_run_pairs_1_g : List (Nat × Con) := [(112, .gen (altE [term_Pieces_c]))]
noncomputable def unify_run_pairs_1_v : Env := envOf tb gl unify_run_pairs_1_g unify_run_pairs_1_c Tryd.f96.ntmps
theorem unify_run_pairs_1_gs : Goods Tryd.prog (cond unify_run_pairs_1_c.glob gl fun _ => none) unify_run_pairs_1_g := (goods_cons (good_alt (alls_cons (term_Pieces_ok.anyGl rfl) alls_nil)) goods_nil)
noncomputable def unify_run_pairs_1_u0_h : SS := ⟨[1, 6, 7, 9, 10, 27, 28], ⟨[(.view 0), (.ptr 1 0), (.ptr 2 0), .hole, .hole, .hole, .hole], [.seq false, .cells true [.hole, .hole], .cells true [.hole, .hole]], [0, 0, 2, 2, 0, 1, 2, 1, 2], [.sl (.one (.sl (.one (.int .i64)))), .sl (.one (.sl (.one (.int .i64)))), .int .i64, .int .i64, .sl (.cons (.sl (.one (.int .i64))) (.cons (.int .i64) (.cons (.sl (.one (.int .i64))) (.one (.int .i64))))), .sl (.one (.int .i64)), .int .i64, .sl (.one (.int .i64)), .int .i64]⟩⟩
noncomputable def unify_run_pairs_1_u0_e : Exs := [((.exit 0), ⟨[1], ⟨[(.view 0)], [.seq false], [0], [.sl (.cons (.sl (.one (.int .i64))) (.cons (.int .i64) (.cons (.sl (.one (.int .i64))) (.one (.int .i64)))))]⟩⟩)]
noncomputable def unify_run_pairs_1_u0_a : AC := .run
noncomputable def unify_run_pairs_1_u0 : Un := lpU unify_run_pairs_1_v.fz [29, 30, 11, 31, 32, 33, 34, 35, 36, 37, 38, 39, 40, 41, 42, 43, 44, 45, 46, 47, 48, 1, 49, 28] unify_run_pairs_1_u0_h unify_run_pairs_1_u0_e (lp unify_run_pairs_1_L0 fuel)
theorem unify_run_pairs_1_u0_s (f : unify_run_pairs_1_u0_h.X → Option (YT unify_run_pairs_1_u0_e)) (x : unify_run_pairs_1_u0_h.X) : E unify_run_pairs_1_v (subC (bodyOf Tryd.f96) [1, 1, 0, 1, 0, 0]) (unify_run_pairs_1_u0_a) (mkS unify_run_pairs_1_u0_h 8 x) (roundK unify_run_pairs_1_v.fz unify_run_pairs_1_u0_h unify_run_pairs_1_u0_e f) = unify_run_pairs_1_L0 f x := by kernel_rfl
theorem unify_run_pairs_1_u0_ok {X : Fx} (hX : VOk Tryd.prog X unify_run_pairs_1_v) : UnOk Tryd.prog X unify_run_pairs_1_v (subC (bodyOf Tryd.f96) [1, 1, 0, 1, 0]) unify_run_pairs_1_u0 :=
  lp_un' (c := (subC (bodyOf Tryd.f96) [1, 1, 0, 1, 0, 0])) (by kernel_rfl) (env_all tb_ok (unify_run_pairs_1_gs)) hord (ob := []) (by kernel_rfl) (fun X hX => obl_nil) (unify_run_pairs_1_u0_s) (by kernel_rfl) (by kernel_rfl) hX
noncomputable def unify_run_pairs_1_a : AC := (.seq .run (.seq .run (.seq (.seq .run (.block (.unit unify_run_pairs_1_u0))) .run)))
theorem unify_run_pairs_1_s (x : TupL unify_run_pairs_1_c.inp.hs) : E unify_run_pairs_1_v (bodyOf Tryd.f96) (unify_run_pairs_1_a) (unify_run_pairs_1_c.entry x) (retSK tb unify_run_pairs_1_v.fz unify_run_pairs_1_c [.tmp 8] x) = unify_run_pairs_1_c.F x := by kernel_rfl
theorem unify_run_pairs_1_ok : ShOk Tryd.prog gl 96 unify_run_pairs_1_c :=
  fn_ok (l := unify_run_pairs_1_g) (n := Tryd.f96.ntmps) (code := bodyOf Tryd.f96) (rts := [.tmp 8]) tb_ok hord (unify_run_pairs_1_gs) Tryd.func96 (by kernel_rfl) (by kernel_rfl) rfl (by kernel_rfl) (ac := unify_run_pairs_1_a) (ob := [((subC (bodyOf Tryd.f96) [1, 1, 0, 1, 0]), unify_run_pairs_1_u0)]) (by kernel_rfl) (fun X hX => (obl_cons (unify_run_pairs_1_u0_ok hX) obl_nil)) (by kernel_rfl) (unify_run_pairs_1_s)

noncomputable def unify_piece_number_c : ShC := { inp := ⟨[(.agg [.hole, .hole]), .hole], [], [1, 1, 1], [.sl (.one (.int .i64)), .int .i64, .int .i64]⟩, out := ⟨[.hole], [], [2], [.int .i64]⟩, nres := 1, ms := [], mu := [], leak := false, glob := false, F := fun (x : ((List Int) × Int × Int)) => unify_piece_number x.1 x.2.1 x.2.2 }
-- (unify.piece).number
noncomputable def unify_piece_number_g : List (Nat × Con) := [(52, .gen (altE [term_Number_c]))]
noncomputable def unify_piece_number_v : Env := envOf tb gl unify_piece_number_g unify_piece_number_c Tryd.f99.ntmps
theorem unify_piece_number_gs : Goods Tryd.prog (cond unify_piece_number_c.glob gl fun _ => none) unify_piece_number_g := (goods_cons (good_alt (alls_cons (term_Number_ok.anyGl rfl) alls_nil)) goods_nil)
noncomputable def unify_piece_number_a : AC := .run
theorem unify_piece_number_s (x : TupL unify_piece_number_c.inp.hs) : E unify_piece_number_v (bodyOf Tryd.f99) (unify_piece_number_a) (unify_piece_number_c.entry x) (retSK tb unify_piece_number_v.fz unify_piece_number_c [.tmp 4] x) = unify_piece_number_c.F x := by kernel_rfl
theorem unify_piece_number_ok : ShOk Tryd.prog gl 99 unify_piece_number_c :=
  fn_ok (l := unify_piece_number_g) (n := Tryd.f99.ntmps) (code := bodyOf Tryd.f99) (rts := [.tmp 4]) tb_ok hord (unify_piece_number_gs) Tryd.func99 (by kernel_rfl) (by kernel_rfl) rfl (by kernel_rfl) (ac := unify_piece_number_a) (ob := []) (by kernel_rfl) (fun X hX => obl_nil) (by kernel_rfl) (unify_piece_number_s)

noncomputable def unify_run_what_c : ShC := { inp := ⟨[(.ptr 0 0), (.agg [.hole, .hole])], [.cells true [.hole, .hole]], [1, 1, 1, 1], [.sl (.one (.int .i64)), .int .i64, .sl tSym, .ar (.cons (.ns (.one (.int .i64))) (.one (.int .i64))) 48]⟩, out := ⟨[(.agg [.hole, .hole])], [], [1, 2], [.sl (.one (.int .i64)), .int .i64]⟩, nres := 1, ms := [], mu := [], leak := true, glob := false, F := fun (x : ((List Int) × Int × (List QSym) × (List ((Option (List Int)) × Int)))) => unify_run_what x.1 x.2.1 x.2.2.1 x.2.2.2 }
-- (*unify.run).what
noncomputable def unify_run_what_g : List (Nat × Con) := [(99, .gen (altE [unify_piece_number_c]))]
noncomputable def unify_run_what_v : Env := envOf tb gl unify_run_what_g unify_run_what_c Tryd.f97.ntmps
theorem unify_run_what_gs : Goods Tryd.prog (cond unify_run_what_c.glob gl fun _ => none) unify_run_what_g := (goods_cons (good_alt (alls_cons (unify_piece_number_ok.anyGl rfl) alls_nil)) goods_nil)
noncomputable def unify_run_what_u0_h : SS := ⟨[0, 3, 4], ⟨[(.ptr 0 0), (.ptr 1 0), (.ptr 2 0)], [.cells true [.hole, .hole], .cells false [.hole, .hole], .cells true [.nilv, .hole]], [1, 1, 1, 2, 2], [.sl tSym, .ar (.cons (.ns (.one (.int .i64))) (.one (.int .i64))) 48, .sl (.one (.int .i64)), .int .i64, .int .i64]⟩⟩
noncomputable def unify_run_what_u0_e : Exs := [((.exit 0), ⟨[3], ⟨[(.ptr 0 0)], [.cells false [.hole, .hole]], [1, 2], [.sl (.one (.int .i64)), .int .i64]⟩⟩)]
noncomputable def unify_run_what_u0_a : AC := .run
noncomputable def unify_run_what_u0 : Un := lpU unify_run_what_v.fz [6, 7, 8, 9, 10, 11, 12, 13, 14, 15, 16, 17, 18, 19, 20, 21, 5, 22, 23, 24, 25] unify_run_what_u0_h unify_run_what_u0_e (lp unify_run_what_L0 fuel)
theorem unify_run_what_u0_s (f : unify_run_what_u0_h.X → Option (YT unify_run_what_u0_e)) (x : unify_run_what_u0_h.X) : E unify_run_what_v (subC (bodyOf Tryd.f97) [1, 0, 0, 0]) (unify_run_what_u0_a) (mkS unify_run_what_u0_h 8 x) (roundK unify_run_what_v.fz unify_run_what_u0_h unify_run_what_u0_e f) = unify_run_what_L0 f x := by kernel_rfl
theorem unify_run_what_u0_ok {X : Fx} (hX : VOk Tryd.prog X unify_run_what_v) : UnOk Tryd.prog X unify_run_what_v (subC (bodyOf Tryd.f97) [1, 0, 0]) unify_run_what_u0 :=
  lp_un' (c := (subC (bodyOf Tryd.f97) [1, 0, 0, 0])) (by kernel_rfl) (env_all tb_ok (unify_run_what_gs)) hord (ob := []) (by kernel_rfl) (fun X hX => obl_nil) (unify_run_what_u0_s) (by kernel_rfl) (by kernel_rfl) hX
noncomputable def unify_run_what_a : AC := (.seq .run (.seq (.block (.unit unify_run_what_u0)) .run))
theorem unify_run_what_s (x : TupL unify_run_what_c.inp.hs) : E unify_run_what_v (bodyOf Tryd.f97) (unify_run_what_a) (unify_run_what_c.entry x) (retSK tb unify_run_what_v.fz unify_run_what_c [.cell 4 113] x) = unify_run_what_c.F x := by kernel_rfl
theorem unify_run_what_ok : ShOk Tryd.prog gl 97 unify_run_what_c :=
  fn_ok (l := unify_run_what_g) (n := Tryd.f97.ntmps) (code := bodyOf Tryd.f97) (rts := [.cell 4 113]) tb_ok hord (unify_run_what_gs) Tryd.func97 (by kernel_rfl) (by kernel_rfl) rfl (by kernel_rfl) (ac := unify_run_what_a) (ob := [((subC (bodyOf Tryd.f97) [1, 0, 0]), unify_run_what_u0)]) (by kernel_rfl) (fun X hX => (obl_cons (unify_run_what_u0_ok hX) obl_nil)) (by kernel_rfl) (unify_run_what_s)

noncomputable def unify_run_within_c : ShC := { inp := ⟨[(.ptr 0 0), .hole, (.agg [.hole, .hole])], [.cells true [.hole, .hole]], [1, 1, 1, 1, 1], [.int .i64, .sl (.one (.int .i64)), .int .i64, .sl tSym, .ar (.cons (.ns (.one (.int .i64))) (.one (.int .i64))) 48]⟩, out := ⟨[.hole], [], [2], [.bool]⟩, nres := 1, ms := [], mu := [], leak := false, glob := false, F := fun (x : (Int × (List Int) × Int × (List QSym) × (List ((Option (List Int)) × Int)))) => unify_run_within x.1 x.2.1 x.2.2.1 x.2.2.2.1 x.2.2.2.2 }
-- (*unify.run).within
noncomputable def unify_run_within_g : List (Nat × Con) := [(99, .gen (altE [unify_piece_number_c])), (1000027, .gen (altE []))]
noncomputable def unify_run_within_v : Env := envOf tb gl unify_run_within_g unify_run_within_c Tryd.f117.ntmps
theorem unify_run_within_gs : Goods Tryd.prog (cond unify_run_within_c.glob gl fun _ => none) unify_run_within_g := (goods_cons (good_alt (alls_cons (unify_piece_number_ok.anyGl rfl) alls_nil)) (goods_cons (good_alt alls_nil) goods_nil))
noncomputable def unify_run_within_u0_h : SS := ⟨[0, 1, 5, 7, 8, 29, 30, 31], ⟨[(.ptr 0 0), .hole, (.ptr 1 0), (.aptr 2), (.view 3), .hole, .hole, .hole], [.cells true [.hole, .hole], .cells true [.hole, .hole], .seq false, .seq false], [2, 0, 2, 2, 1, 1, 0, 2, 2, 0], [.int .i64, .sl (.one (.int .i64)), .int .i64, .int .i64, .sl tSym, .ar (.cons (.ns (.one (.int .i64))) (.one (.int .i64))) 48, .sl (.one (.int .i64)), .int .i64, .sl (.one .bool), .sl (.cons (.sl (.one (.int .i64))) (.one (.int .i64)))]⟩⟩
noncomputable def unify_run_within_u0_e : Exs := [((.exit 2), ⟨[7, 8], ⟨[(.aptr 0), (.view 1)], [.seq false, .seq false], [2, 0], [.sl (.one .bool), .sl (.cons (.sl (.one (.int .i64))) (.one (.int .i64)))]⟩⟩), (.ret, ⟨[6], ⟨[.hole], [], [2], [.bool]⟩⟩)]
noncomputable def unify_run_within_u0_a : AC := .run
noncomputable def unify_run_within_u0 : Un := lpU unify_run_within_v.fz [32, 33, 34, 10, 35, 36, 37, 38, 39, 11, 40, 41, 42, 6, 43, 44, 45, 46, 47, 48, 49, 50, 51, 52, 53, 54, 55, 56, 57, 58, 59, 60, 61, 62, 63, 64, 65, 66, 67, 8, 68, 31] unify_run_within_u0_h unify_run_within_u0_e (lp unify_run_within_L0 fuel)
theorem unify_run_within_u0_s (f : unify_run_within_u0_h.X → Option (YT unify_run_within_u0_e)) (x : unify_run_within_u0_h.X) : E unify_run_within_v (subC (bodyOf Tryd.f117) [1, 1, 1, 0, 0, 0, 1, 0, 1, 1, 1, 0, 0]) (unify_run_within_u0_a) (mkS unify_run_within_u0_h 8 x) (roundK unify_run_within_v.fz unify_run_within_u0_h unify_run_within_u0_e f) = unify_run_within_L0 f x := by kernel_rfl
theorem unify_run_within_u0_ok {X : Fx} (hX : VOk Tryd.prog X unify_run_within_v) : UnOk Tryd.prog X unify_run_within_v (subC (bodyOf Tryd.f117) [1, 1, 1, 0, 0, 0, 1, 0, 1, 1, 1, 0]) unify_run_within_u0 :=
  lp_un' (c := (subC (bodyOf Tryd.f117) [1, 1, 1, 0, 0, 0, 1, 0, 1, 1, 1, 0, 0])) (by kernel_rfl) (env_all tb_ok (unify_run_within_gs)) hord (ob := []) (by kernel_rfl) (fun X hX => obl_nil) (unify_run_within_u0_s) (by kernel_rfl) (by kernel_rfl) hX
noncomputable def unify_run_within_u1_h : SS := ⟨[0, 1, 5, 7, 8], ⟨[(.ptr 0 0), .hole, (.ptr 1 0), (.aptr 2), (.view 3)], [.cells true [.hole, .hole], .cells false [.hole, .hole], .seq false, .seq false], [2, 1, 1, 0, 2, 2, 0], [.int .i64, .sl tSym, .ar (.cons (.ns (.one (.int .i64))) (.one (.int .i64))) 48, .sl (.one (.int .i64)), .int .i64, .sl (.one .bool), .sl (.cons (.sl (.one (.int .i64))) (.one (.int .i64)))]⟩⟩
noncomputable def unify_run_within_u1_e : Exs := [((.exit 0), ⟨[], ⟨[], [], [], []⟩⟩), (.ret, ⟨[6], ⟨[.hole], [], [2], [.bool]⟩⟩)]
noncomputable def unify_run_within_u1_a : AC := (.seq .run (.block (.seq .run (.seq .run (.seq .run (.block (.unit unify_run_within_u0)))))))
noncomputable def unify_run_within_u1 : Un := lpU unify_run_within_v.fz [14, 15, 16, 17, 18, 19, 20, 21, 22, 23, 24, 25, 26, 27, 8, 28, 29, 30, 31, 32, 33, 34, 10, 35, 36, 37, 38, 39, 11, 40, 41, 42, 6, 43, 44, 45, 46, 47, 48, 49, 50, 51, 52, 53, 54, 55, 56, 57, 58, 59, 60, 61, 62, 63, 64, 65, 66, 67, 8, 68, 31] unify_run_within_u1_h unify_run_within_u1_e (lp unify_run_within_L1 fuel)
theorem unify_run_within_u1_s (f : unify_run_within_u1_h.X → Option (YT unify_run_within_u1_e)) (x : unify_run_within_u1_h.X) : E unify_run_within_v (subC (bodyOf Tryd.f117) [1, 1, 1, 0, 0, 0]) (unify_run_within_u1_a) (mkS unify_run_within_u1_h 8 x) (roundK unify_run_within_v.fz unify_run_within_u1_h unify_run_within_u1_e f) = unify_run_within_L1 f x := by kernel_rfl
theorem unify_run_within_u1_ok {X : Fx} (hX : VOk Tryd.prog X unify_run_within_v) : UnOk Tryd.prog X unify_run_within_v (subC (bodyOf Tryd.f117) [1, 1, 1, 0, 0]) unify_run_within_u1 :=
  lp_un' (c := (subC (bodyOf Tryd.f117) [1, 1, 1, 0, 0, 0])) (by kernel_rfl) (env_all tb_ok (unify_run_within_gs)) hord (ob := [((subC (bodyOf Tryd.f117) [1, 1, 1, 0, 0, 0, 1, 0, 1, 1, 1, 0]), unify_run_within_u0)]) (by kernel_rfl) (fun X hX => (obl_cons (unify_run_within_u0_ok hX) obl_nil)) (unify_run_within_u1_s) (by kernel_rfl) (by kernel_rfl) hX
noncomputable def unify_run_within_a : AC := (.seq .run (.seq .run (.seq .run (.seq (.block (.unit unify_run_within_u1)) .run))))
theorem unify_run_within_s (x : TupL unify_run_within_c.inp.hs) : E unify_run_within_v (bodyOf Tryd.f117) (unify_run_within_a) (unify_run_within_c.entry x) (retSK tb unify_run_within_v.fz unify_run_within_c [.tmp 6] x) = unify_run_within_c.F x := by kernel_rfl
theorem unify_run_within_ok : ShOk Tryd.prog gl 117 unify_run_within_c :=
  fn_ok (l := unify_run_within_g) (n := Tryd.f117.ntmps) (code := bodyOf Tryd.f117) (rts := [.tmp 6]) tb_ok hord (unify_run_within_gs) Tryd.func117 (by kernel_rfl) (by kernel_rfl) rfl (by kernel_rfl) (ac := unify_run_within_a) (ob := [((subC (bodyOf Tryd.f117) [1, 1, 1, 0, 0]), unify_run_within_u1)]) (by kernel_rfl) (fun X hX => (obl_cons (unify_run_within_u1_ok hX) obl_nil)) (by kernel_rfl) (unify_run_within_s)

noncomputable def unify_run_put_1_c : ShC := { inp := ⟨[(.ptr 0 0), (.agg [.hole, .hole]), (.agg [.hole, .hole])], [.cells false [.hole, .hole]], [1, 1, 1, 1, 1, 1], [.sl (.one (.int .i64)), .int .i64, .sl (.one (.int .i64)), .int .i64, .sl tSym, .ar (.cons (.ns (.one (.int .i64))) (.one (.int .i64))) 48]⟩, out := ⟨[.hole, (.ptr 0 0)], [.cells false [.hole, .hole]], [2, 1, 0], [.bool, .sl tSym, .ar (.cons (.ns (.one (.int .i64))) (.one (.int .i64))) 48]⟩, nres := 1, ms := [0], mu := [(0, 0)], leak := true, glob := false, F := fun (x : ((List Int) × Int × (List Int) × Int × (List QSym) × (List ((Option (List Int)) × Int)))) => unify_run_put_1 x.1 x.2.1 x.2.2.1 x.2.2.2.1 x.2.2.2.2.1 x.2.2.2.2.2 }
-- (*unify.run).put
noncomputable def unify_run_put_1_g : List (Nat × Con) := [(99, .gen (altE [unify_piece_number_c])), (117, .gen (altE [unify_run_within_c]))]
noncomputable def unify_run_put_1_v : Env := envOf tb gl unify_run_put_1_g unify_run_put_1_c Tryd.f98.ntmps
theorem unify_run_put_1_gs : Goods Tryd.prog (cond unify_run_put_1_c.glob gl fun _ => none) unify_run_put_1_g := (goods_cons (good_alt (alls_cons (unify_piece_number_ok.anyGl rfl) alls_nil)) (goods_cons (good_alt (alls_cons (unify_run_within_ok.anyGl rfl) alls_nil)) goods_nil))
noncomputable def unify_run_put_1_a : AC := .run
theorem unify_run_put_1_s (x : TupL unify_run_put_1_c.inp.hs) : E unify_run_put_1_v (bodyOf Tryd.f98) (unify_run_put_1_a) (unify_run_put_1_c.entry x) (retSK tb unify_run_put_1_v.fz unify_run_put_1_c [.tmp 6] x) = unify_run_put_1_c.F x := by kernel_rfl
theorem unify_run_put_1_ok : ShOk Tryd.prog gl 98 unify_run_put_1_c :=
  fn_ok (l := unify_run_put_1_g) (n := Tryd.f98.ntmps) (code := bodyOf Tryd.f98) (rts := [.tmp 6]) tb_ok hord (unify_run_put_1_gs) Tryd.func98 (by kernel_rfl) (by kernel_rfl) rfl (by kernel_rfl) (ac := unify_run_put_1_a) (ob := []) (by kernel_rfl) (fun X hX => obl_nil) (by kernel_rfl) (unify_run_put_1_s)

noncomputable def unify_run_same_1_c : ShC := { inp := ⟨[(.ptr 0 0), (.agg [.hole, .hole]), (.agg [.hole, .hole])], [.cells false [.hole, .hole]], [1, 1, 1, 1, 1, 1], [.sl (.one (.int .i64)), .int .i64, .sl (.one (.int .i64)), .int .i64, .sl tSym, .ar (.cons (.ns (.one (.int .i64))) (.one (.int .i64))) 48]⟩, out := ⟨[.hole, (.ptr 0 0)], [.cells false [.hole, .hole]], [2, 0, 0], [.bool, .sl tSym, .ar (.cons (.ns (.one (.int .i64))) (.one (.int .i64))) 48]⟩, nres := 1, ms := [0], mu := [(0, 0)], leak := true, glob := false, F := fun (x : ((List Int) × Int × (List Int) × Int × (List QSym) × (List ((Option (List Int)) × Int)))) => unify_run_same_1 x.1 x.2.1 x.2.2.1 x.2.2.2.1 x.2.2.2.2.1 x.2.2.2.2.2 }
-- (*unify.run).same
noncomputable def unify_run_same_1_g : List (Nat × Con) := [(96, .gen (altE [unify_run_pairs_1_c])), (97, .gen (altE [unify_run_what_c])), (98, .gen (altE [unify_run_put_1_c])), (1000039, .gen (altE []))]
noncomputable def unify_run_same_1_v : Env := envOf tb gl unify_run_same_1_g unify_run_same_1_c Tryd.f69.ntmps
theorem unify_run_same_1_gs : Goods Tryd.prog (cond unify_run_same_1_c.glob gl fun _ => none) unify_run_same_1_g := (goods_cons (good_alt (alls_cons (unify_run_pairs_1_ok.anyGl rfl) alls_nil)) (goods_cons (good_alt (alls_cons (unify_run_what_ok.anyGl rfl) alls_nil)) (goods_cons (good_alt (alls_cons (unify_run_put_1_ok.anyGl rfl) alls_nil)) (goods_cons (good_alt alls_nil) goods_nil))))
noncomputable def unify_run_same_1_u0_j : Exs := [(.goto 0, ⟨[0, 7], ⟨[(.ptr 0 0), (.view 1)], [.cells false [.hole, .hole], .seq false], [0, 0, 0], [.sl tSym, .ar (.cons (.ns (.one (.int .i64))) (.one (.int .i64))) 48, .sl (.cons (.sl (.one (.int .i64))) (.cons (.int .i64) (.cons (.sl (.one (.int .i64))) (.one (.int .i64)))))]⟩⟩)]
noncomputable def unify_run_same_1_u0_e : Exs := [(.ret, ⟨[0, 6], ⟨[(.ptr 0 0), .hole], [.cells false [.hole, .hole]], [2, 0, 0], [.bool, .sl tSym, .ar (.cons (.ns (.one (.int .i64))) (.one (.int .i64))) 48]⟩⟩)]
noncomputable def unify_run_same_1_u0_a : AC := .run
noncomputable def unify_run_same_1_u0_l : List (Nat × AC) := []
noncomputable def unify_run_same_1_u0 : Un := scU unify_run_same_1_v [10, 11, 12, 13, 7, 14, 15, 16, 6, 17, 18, 19, 20, 21, 22, 23, 24, 25, 26, 27, 28, 29, 30, 31, 32, 33, 34, 8, 9, 35, 36, 37, 38, 39, 7, 41, 42, 43, 44, 45, 40, 46, 47, 48, 49, 6, 51, 52, 53, 54, 55, 50, 56, 57, 58, 59, 6, 61, 62, 63, 64, 65, 66, 67, 68, 69, 60, 6, 70, 71, 72, 73, 74, 75, 76, 77, 78, 79, 80, 81, 82, 83, 84, 7] unify_run_same_1_u0_j unify_run_same_1_u0_e (subC (bodyOf Tryd.f69) [1, 0]) (unify_run_same_1_u0_a) (lp unify_run_same_1_L0 fuel)
theorem unify_run_same_1_u0_s (f : YT unify_run_same_1_u0_j → Option (YT unify_run_same_1_u0_e)) (x : YT unify_run_same_1_u0_j) : passE unify_run_same_1_v (subC (bodyOf Tryd.f69) [1, 0]) (acsOf (unify_run_same_1_u0_l)) unify_run_same_1_u0_j unify_run_same_1_u0_e f x = unify_run_same_1_L0 f x := by kernel_rfl
theorem unify_run_same_1_u0_ok {X : Fx} (hX : VOk Tryd.prog X unify_run_same_1_v) : UnOk Tryd.prog X unify_run_same_1_v (subC (bodyOf Tryd.f69) [1]) unify_run_same_1_u0 :=
  sc_un' (c := (subC (bodyOf Tryd.f69) [1, 0])) (by kernel_rfl) (env_all tb_ok (unify_run_same_1_gs)) hord (ob := []) (by kernel_rfl) (fun X hX => obl_nil) (fun X hX => acs_ok acl_nil) (unify_run_same_1_u0_s) (by kernel_rfl) (by kernel_rfl) (by kernel_rfl) hX
noncomputable def unify_run_same_1_a : AC := (.seq .run (.unit unify_run_same_1_u0))
theorem unify_run_same_1_s (x : TupL unify_run_same_1_c.inp.hs) : E unify_run_same_1_v (bodyOf Tryd.f69) (unify_run_same_1_a) (unify_run_same_1_c.entry x) (retSK tb unify_run_same_1_v.fz unify_run_same_1_c [.tmp 6] x) = unify_run_same_1_c.F x := by kernel_rfl
theorem unify_run_same_1_ok : ShOk Tryd.prog gl 69 unify_run_same_1_c :=
  fn_ok (l := unify_run_same_1_g) (n := Tryd.f69.ntmps) (code := bodyOf Tryd.f69) (rts := [.tmp 6]) tb_ok hord (unify_run_same_1_gs) Tryd.func69 (by kernel_rfl) (by kernel_rfl) rfl (by kernel_rfl) (ac := unify_run_same_1_a) (ob := [((subC (bodyOf Tryd.f69) [1]), unify_run_same_1_u0)]) (by kernel_rfl) (fun X hX => (obl_cons (unify_run_same_1_u0_ok hX) obl_nil)) (by kernel_rfl) (unify_run_same_1_s)

noncomputable def unify_piece_number_1_c : ShC := { inp := ⟨[(.agg [.hole, .hole]), .hole], [], [1, 1, 1], [.ns (.one (.int .i64)), .int .i64, .int .i64]⟩, out := ⟨[.hole], [], [2], [.int .i64]⟩, nres := 1, ms := [], mu := [], leak := false, glob := false, F := fun (x : ((Option (List Int)) × Int × Int)) => unify_piece_number_1 x.1 x.2.1 x.2.2 }
-- (unify.piece).number
noncomputable def unify_piece_number_1_g : List (Nat × Con) := [(52, .gen (altE [term_Number_c]))]
noncomputable def unify_piece_number_1_v : Env := envOf tb gl unify_piece_number_1_g unify_piece_number_1_c Tryd.f99.ntmps
theorem unify_piece_number_1_gs : Goods Tryd.prog (cond unify_piece_number_1_c.glob gl fun _ => none) unify_piece_number_1_g := (goods_cons (good_alt (alls_cons (term_Number_ok.anyGl rfl) alls_nil)) goods_nil)
noncomputable def unify_piece_number_1_a : AC := .run
theorem unify_piece_number_1_s (x : TupL unify_piece_number_1_c.inp.hs) : E unify_piece_number_1_v (bodyOf Tryd.f99) (unify_piece_number_1_a) (unify_piece_number_1_c.entry x) (retSK tb unify_piece_number_1_v.fz unify_piece_number_1_c [.tmp 4] x) = unify_piece_number_1_c.F x := by kernel_rfl
theorem unify_piece_number_1_ok : ShOk Tryd.prog gl 99 unify_piece_number_1_c :=
  fn_ok (l := unify_piece_number_1_g) (n := Tryd.f99.ntmps) (code := bodyOf Tryd.f99) (rts := [.tmp 4]) tb_ok hord (unify_piece_number_1_gs) Tryd.func99 (by kernel_rfl) (by kernel_rfl) rfl (by kernel_rfl) (ac := unify_piece_number_1_a) (ob := []) (by kernel_rfl) (fun X hX => obl_nil) (by kernel_rfl) (unify_piece_number_1_s)

noncomputable def unify_run_whole_ck (k : Nat) : ShC := { inp := ⟨[(.ptr 0 0), (.agg [.hole, .hole])], [.cells true [.hole, .hole]], [1, 1, 1, 1], [.ns (.one (.int .i64)), .int .i64, .sl tSym, .ar (.cons (.ns (.one (.int .i64))) (.one (.int .i64))) 48]⟩, out := ⟨[.hole], [], [2], [.ns (.one (.int .i64))]⟩, nres := 1, ms := [], mu := [], leak := false, glob := false, F := (unify_run_whole_R k) }
noncomputable def unify_run_whole_c : ShC := { inp := ⟨[(.ptr 0 0), (.agg [.hole, .hole])], [.cells true [.hole, .hole]], [1, 1, 1, 1], [.ns (.one (.int .i64)), .int .i64, .sl tSym, .ar (.cons (.ns (.one (.int .i64))) (.one (.int .i64))) 48]⟩, out := ⟨[.hole], [], [2], [.ns (.one (.int .i64))]⟩, nres := 1, ms := [], mu := [], leak := false, glob := false, F := fun (x : ((Option (List Int)) × Int × (List QSym) × (List ((Option (List Int)) × Int)))) => unify_run_whole x.1 x.2.1 x.2.2.1 x.2.2.2 }
def unify_run_whole_R_H (k : Nat) : Prop := ShOk Tryd.prog gl 70 (unify_run_whole_ck k)
-- (*unify.run).whole
noncomputable def unify_run_whole_g (k : Nat) : List (Nat × Con) := [(70, .gen (altE [unify_run_whole_ck k])), (99, .gen (altE [unify_piece_number_1_c]))]
noncomputable def unify_run_whole_v (k : Nat) : Env := envOf tb gl (unify_run_whole_g k) (unify_run_whole_ck (k + 1)) Tryd.f70.ntmps
theorem unify_run_whole_gs (k : Nat) (h : unify_run_whole_R_H k) : Goods Tryd.prog (cond (unify_run_whole_ck (k + 1)).glob gl fun _ => none) (unify_run_whole_g k) := (goods_cons (good_alt (alls_cons (h.anyGl rfl) alls_nil)) (goods_cons (good_alt (alls_cons (unify_piece_number_1_ok.anyGl rfl) alls_nil)) goods_nil))
noncomputable def unify_run_whole_u0_h : SS := ⟨[0, 3, 5, 10, 11, 12], ⟨[(.ptr 0 0), (.ptr 1 0), (.view 2), .hole, .hole, .hole], [.cells true [.hole, .hole], .cells true [.hole, .hole], .seq false], [1, 2, 2, 1, 1, 1, 2, 2], [.ns (.one (.int .i64)), .int .i64, .int .i64, .sl tSym, .ar (.cons (.ns (.one (.int .i64))) (.one (.int .i64))) 48, .ns (.one (.int .i64)), .int .i64, .sl (.one (.int .i64))]⟩⟩
noncomputable def unify_run_whole_u0_e : Exs := [((.exit 0), ⟨[5], ⟨[(.view 0)], [.seq false], [2], [.sl (.one (.int .i64))]⟩⟩), (.ret, ⟨[4], ⟨[.nilv], [], [], []⟩⟩)]
noncomputable def unify_run_whole_u0_a (k : Nat) : AC := .run
noncomputable def unify_run_whole_u0 (k : Nat) : Un := lpU (unify_run_whole_v k).fz [13, 14, 15, 7, 16, 17, 8, 18, 19, 20, 21, 22, 23, 24, 25, 26, 27, 28, 29, 30, 31, 32, 33, 34, 35, 36, 37, 38, 39, 40, 41, 8, 42, 43, 44, 45, 46, 47, 48, 49, 50, 51, 4, 52, 53, 54, 5, 55, 12] unify_run_whole_u0_h unify_run_whole_u0_e (lp (unify_run_whole_L0 (unify_run_whole_R k)) fuel)
theorem unify_run_whole_u0_s (k : Nat) (f : unify_run_whole_u0_h.X → Option (YT unify_run_whole_u0_e)) (x : unify_run_whole_u0_h.X) : E (unify_run_whole_v k) (subC (bodyOf Tryd.f70) [1, 1, 0, 1, 0, 0]) (unify_run_whole_u0_a k) (mkS unify_run_whole_u0_h 8 x) (roundK (unify_run_whole_v k).fz unify_run_whole_u0_h unify_run_whole_u0_e f) = (unify_run_whole_L0 (unify_run_whole_R k)) f x := by kernel_rfl
theorem unify_run_whole_u0_ok (k : Nat) (h : unify_run_whole_R_H k) {X : Fx} (hX : VOk Tryd.prog X (unify_run_whole_v k)) : UnOk Tryd.prog X (unify_run_whole_v k) (subC (bodyOf Tryd.f70) [1, 1, 0, 1, 0]) (unify_run_whole_u0 k) :=
  lp_un' (c := (subC (bodyOf Tryd.f70) [1, 1, 0, 1, 0, 0])) (by kernel_rfl) (env_all tb_ok (unify_run_whole_gs k h)) hord (ob := []) (by kernel_rfl) (fun X hX => obl_nil) (unify_run_whole_u0_s k) (by kernel_rfl) (by kernel_rfl) hX
noncomputable def unify_run_whole_a (k : Nat) : AC := (.seq .run (.seq .run (.seq (.seq .run (.block (.unit (unify_run_whole_u0 k)))) .run)))
theorem unify_run_whole_s (k : Nat) (x : TupL (unify_run_whole_ck (k + 1)).inp.hs) : E (unify_run_whole_v k) (bodyOf Tryd.f70) (unify_run_whole_a k) ((unify_run_whole_ck (k + 1)).entry x) (retSK tb (unify_run_whole_v k).fz (unify_run_whole_ck (k + 1)) [.tmp 4] x) = (unify_run_whole_ck (k + 1)).F x := by kernel_rfl
theorem unify_run_whole_ok1 (k : Nat) (h : unify_run_whole_R_H k) : ShOk Tryd.prog gl 70 (unify_run_whole_ck (k + 1)) :=
  fn_ok (l := unify_run_whole_g k) (n := Tryd.f70.ntmps) (code := bodyOf Tryd.f70) (rts := [.tmp 4]) tb_ok hord (unify_run_whole_gs k h) Tryd.func70 (by kernel_rfl) (by kernel_rfl) rfl (by kernel_rfl) (ac := unify_run_whole_a k) (ob := [((subC (bodyOf Tryd.f70) [1, 1, 0, 1, 0]), unify_run_whole_u0 k)]) (by kernel_rfl) (fun X hX => (obl_cons (unify_run_whole_u0_ok k h hX) obl_nil)) (by kernel_rfl) (unify_run_whole_s k)

theorem unify_run_whole_R_all : ∀ k, unify_run_whole_R_H k
  | 0 => ⟨by kernel_rfl, fun w A g vs x y _ _ _ h => by cases h⟩
  | k + 1 => have h := unify_run_whole_R_all k; unify_run_whole_ok1 k h
theorem unify_run_whole_ok : ShOk Tryd.prog gl 70 unify_run_whole_c := (unify_run_whole_R_all fuel)

noncomputable def unify_Unify_c : ShC := { inp := ⟨[.hole, .hole, .hole], [], [1, 1, 1], [.sl tSym, .sl (.one (.int .i64)), .sl (.one (.int .i64))]⟩, out := ⟨[(.view 0), .hole, .hole], [.seq false], [2, 2, 2], [.bool, .int .i64, .sl (.cons (.int .i64) (.one (.sl (.one (.int .i64)))))]⟩, nres := 3, ms := [], mu := [], leak := false, glob := true, F := fun (x : ((List QSym) × (List Int) × (List Int))) => unify_Unify x.1 x.2.1 x.2.2 }
-- unify.Unify
noncomputable def unify_Unify_g : List (Nat × Con) := [(64, .gen (altE [slices_CloneN_c])), (68, .gen (altE [term_Row_c])), (69, .gen (altE [unify_run_same_1_c])), (70, .gen (altE [unify_run_whole_c]))]
noncomputable def unify_Unify_v : Env := envOf tb gl unify_Unify_g unify_Unify_c Tryd.f45.ntmps
theorem unify_Unify_gs : Goods Tryd.prog (cond unify_Unify_c.glob gl fun _ => none) unify_Unify_g := (goods_cons (good_alt (alls_cons (slices_CloneN_ok.anyGl rfl) alls_nil)) (goods_cons (good_alt (alls_cons term_Row_ok alls_nil)) (goods_cons (good_alt (alls_cons (unify_run_same_1_ok.anyGl rfl) alls_nil)) (goods_cons (good_alt (alls_cons (unify_run_whole_ok.anyGl rfl) alls_nil)) goods_nil))))
noncomputable def unify_Unify_u0_h : SS := ⟨[13, 14, 50], ⟨[(.ptr 0 0), (.view 1), .hole], [.cells true [.hole, .hole], .seq false], [2, 0, 0, 2], [.int .i64, .sl tSym, .ar (.cons (.ns (.one (.int .i64))) (.one (.int .i64))) 48, .sl (.cons (.int .i64) (.one (.sl (.one (.int .i64)))))]⟩⟩
noncomputable def unify_Unify_u0_e : Exs := [((.exit 0), ⟨[14], ⟨[(.view 0)], [.seq false], [2], [.sl (.cons (.int .i64) (.one (.sl (.one (.int .i64)))))]⟩⟩), (.ret, ⟨[6, 7, 8], ⟨[.nilv, .hole, .hole], [], [2, 2], [.bool, .int .i64]⟩⟩)]
noncomputable def unify_Unify_u0_a : AC := .run
noncomputable def unify_Unify_u0 : Un := lpU unify_Unify_v.fz [51, 52, 15, 53, 54, 55, 56, 57, 58, 59, 60, 61, 62, 63, 64, 65, 66, 67, 68, 16, 69, 70, 6, 7, 8, 71, 72, 73, 74, 75, 76, 77, 14, 78, 50] unify_Unify_u0_h unify_Unify_u0_e (lp unify_Unify_L0 fuel)
theorem unify_Unify_u0_s (f : unify_Unify_u0_h.X → Option (YT unify_Unify_u0_e)) (x : unify_Unify_u0_h.X) : E unify_Unify_v (subC (bodyOf Tryd.f45) [1, 1, 1, 1, 1, 1, 1, 0, 1, 0, 0]) (unify_Unify_u0_a) (mkS unify_Unify_u0_h 8 x) (roundK unify_Unify_v.fz unify_Unify_u0_h unify_Unify_u0_e f) = unify_Unify_L0 f x := by kernel_rfl
theorem unify_Unify_u0_ok {X : Fx} (hX : VOk Tryd.prog X unify_Unify_v) : UnOk Tryd.prog X unify_Unify_v (subC (bodyOf Tryd.f45) [1, 1, 1, 1, 1, 1, 1, 0, 1, 0]) unify_Unify_u0 :=
  lp_un' (c := (subC (bodyOf Tryd.f45) [1, 1, 1, 1, 1, 1, 1, 0, 1, 0, 0])) (by kernel_rfl) (env_all tb_ok (unify_Unify_gs)) hord (ob := []) (by kernel_rfl) (fun X hX => obl_nil) (unify_Unify_u0_s) (by kernel_rfl) (by kernel_rfl) hX
noncomputable def unify_Unify_a : AC := (.seq .run (.seq .run (.seq .run (.seq .run (.seq .run (.seq .run (.seq .run (.seq (.seq .run (.block (.unit unify_Unify_u0))) .run))))))))
theorem unify_Unify_s (x : TupL unify_Unify_c.inp.hs) : E unify_Unify_v (bodyOf Tryd.f45) (unify_Unify_a) (unify_Unify_c.entry x) (retSK tb unify_Unify_v.fz unify_Unify_c [.tmp 6, .tmp 7, .tmp 8] x) = unify_Unify_c.F x := by kernel_rfl
theorem unify_Unify_ok : ShOk Tryd.prog gl 45 unify_Unify_c :=
  fn_ok (l := unify_Unify_g) (n := Tryd.f45.ntmps) (code := bodyOf Tryd.f45) (rts := [.tmp 6, .tmp 7, .tmp 8]) tb_ok hord (unify_Unify_gs) Tryd.func45 (by kernel_rfl) (by kernel_rfl) rfl (by kernel_rfl) (ac := unify_Unify_a) (ob := [((subC (bodyOf Tryd.f45) [1, 1, 1, 1, 1, 1, 1, 0, 1, 0]), unify_Unify_u0)]) (by kernel_rfl) (fun X hX => (obl_cons (unify_Unify_u0_ok hX) obl_nil)) (by kernel_rfl) (unify_Unify_s)

noncomputable def slices_Grow_c : ShC := { inp := ⟨[.nilv, .hole], [], [1], [.int .i64]⟩, out := ⟨[(.view 0)], [.seq false], [2], [.sl (.one (.sl (.one (.int .i64))))]⟩, nres := 1, ms := [], mu := [], leak := false, glob := false, F := fun (x : Int) => slices_Grow x }
-- slices.Grow[[][]int,[]int]
noncomputable def slices_Grow_g : List (Nat × Con) := [(1000025, .gen (altE []))]
noncomputable def slices_Grow_v : Env := envOf tb gl slices_Grow_g slices_Grow_c Tryd.f90.ntmps
theorem slices_Grow_gs : Goods Tryd.prog (cond slices_Grow_c.glob gl fun _ => none) slices_Grow_g := (goods_cons (good_alt alls_nil) goods_nil)
noncomputable def slices_Grow_a : AC := .run
theorem slices_Grow_s (x : TupL slices_Grow_c.inp.hs) : E slices_Grow_v (bodyOf Tryd.f90) (slices_Grow_a) (slices_Grow_c.entry x) (retSK tb slices_Grow_v.fz slices_Grow_c [.tmp 4] x) = slices_Grow_c.F x := by kernel_rfl
theorem slices_Grow_ok : ShOk Tryd.prog gl 90 slices_Grow_c :=
  fn_ok (l := slices_Grow_g) (n := Tryd.f90.ntmps) (code := bodyOf Tryd.f90) (rts := [.tmp 4]) tb_ok hord (slices_Grow_gs) Tryd.func90 (by kernel_rfl) (by kernel_rfl) rfl (by kernel_rfl) (ac := slices_Grow_a) (ob := []) (by kernel_rfl) (fun X hX => obl_nil) (by kernel_rfl) (slices_Grow_s)

noncomputable def slices_Concat_c : ShC := { inp := ⟨[.hole], [], [1], [.sl (.one (.sl (.one (.sl (.one (.int .i64))))))]⟩, out := ⟨[(.view 0)], [.seq false], [0], [.sl (.one (.sl (.one (.int .i64))))]⟩, nres := 1, ms := [], mu := [], leak := true, glob := false, F := fun (x : (List (List (List Int)))) => slices_Concat x }
-- slices.Concat[[][]int,[]int]
noncomputable def slices_Concat_g : List (Nat × Con) := [(90, .gen (altE [slices_Grow_c]))]
noncomputable def slices_Concat_v : Env := envOf tb gl slices_Concat_g slices_Concat_c Tryd.f63.ntmps
theorem slices_Concat_gs : Goods Tryd.prog (cond slices_Concat_c.glob gl fun _ => none) slices_Concat_g := (goods_cons (good_alt (alls_cons (slices_Grow_ok.anyGl rfl) alls_nil)) goods_nil)
noncomputable def slices_Concat_u1_h : SS := ⟨[6, 25, 26, 27], ⟨[(.view 0), .hole, .hole, .hole], [.seq false], [1, 2, 2, 0], [.sl (.one (.sl (.one (.sl (.one (.int .i64)))))), .int .i64, .int .i64, .sl (.one (.sl (.one (.int .i64))))]⟩⟩
noncomputable def slices_Concat_u1_e : Exs := [((.exit 2), ⟨[6], ⟨[(.view 0)], [.seq false], [0], [.sl (.one (.sl (.one (.int .i64))))]⟩⟩)]
noncomputable def slices_Concat_u1_a : AC := .run
noncomputable def slices_Concat_u1 : Un := lpU slices_Concat_v.fz [28, 29, 30, 8, 31, 32, 33, 6, 34, 27] slices_Concat_u1_h slices_Concat_u1_e (lp slices_Concat_L1 fuel)
theorem slices_Concat_u1_s (f : slices_Concat_u1_h.X → Option (YT slices_Concat_u1_e)) (x : slices_Concat_u1_h.X) : E slices_Concat_v (subC (bodyOf Tryd.f63) [1, 1, 1, 1, 0, 1, 0, 0]) (slices_Concat_u1_a) (mkS slices_Concat_u1_h 8 x) (roundK slices_Concat_v.fz slices_Concat_u1_h slices_Concat_u1_e f) = slices_Concat_L1 f x := by kernel_rfl
theorem slices_Concat_u1_ok {X : Fx} (hX : VOk Tryd.prog X slices_Concat_v) : UnOk Tryd.prog X slices_Concat_v (subC (bodyOf Tryd.f63) [1, 1, 1, 1, 0, 1, 0]) slices_Concat_u1 :=
  lp_un' (c := (subC (bodyOf Tryd.f63) [1, 1, 1, 1, 0, 1, 0, 0])) (by kernel_rfl) (env_all tb_ok (slices_Concat_gs)) hord (ob := []) (by kernel_rfl) (fun X hX => obl_nil) (slices_Concat_u1_s) (by kernel_rfl) (by kernel_rfl) hX
noncomputable def slices_Concat_u0_h : SS := ⟨[0, 3, 9, 10, 11], ⟨[.hole, .hole, .hole, .hole, .hole], [], [1, 2, 1, 2, 2], [.sl (.one (.sl (.one (.sl (.one (.int .i64)))))), .int .i64, .sl (.one (.sl (.one (.sl (.one (.int .i64)))))), .int .i64, .int .i64]⟩⟩
noncomputable def slices_Concat_u0_e : Exs := [((.exit 0), ⟨[3], ⟨[.hole], [], [2], [.int .i64]⟩⟩)]
noncomputable def slices_Concat_u0_a : AC := .run
noncomputable def slices_Concat_u0 : Un := lpU slices_Concat_v.fz [12, 13, 14, 5, 15, 16, 17, 18, 3, 19, 20, 21, 22, 11] slices_Concat_u0_h slices_Concat_u0_e (lp slices_Concat_L0 fuel)
theorem slices_Concat_u0_s (f : slices_Concat_u0_h.X → Option (YT slices_Concat_u0_e)) (x : slices_Concat_u0_h.X) : E slices_Concat_v (subC (bodyOf Tryd.f63) [1, 1, 0, 1, 0, 0]) (slices_Concat_u0_a) (mkS slices_Concat_u0_h 8 x) (roundK slices_Concat_v.fz slices_Concat_u0_h slices_Concat_u0_e f) = slices_Concat_L0 f x := by kernel_rfl
theorem slices_Concat_u0_ok {X : Fx} (hX : VOk Tryd.prog X slices_Concat_v) : UnOk Tryd.prog X slices_Concat_v (subC (bodyOf Tryd.f63) [1, 1, 0, 1, 0]) slices_Concat_u0 :=
  lp_un' (c := (subC (bodyOf Tryd.f63) [1, 1, 0, 1, 0, 0])) (by kernel_rfl) (env_all tb_ok (slices_Concat_gs)) hord (ob := []) (by kernel_rfl) (fun X hX => obl_nil) (slices_Concat_u0_s) (by kernel_rfl) (by kernel_rfl) hX
noncomputable def slices_Concat_a : AC := (.seq .run (.seq .run (.seq (.seq .run (.block (.unit slices_Concat_u0))) (.seq .run (.seq (.seq .run (.block (.unit slices_Concat_u1))) .run)))))
theorem slices_Concat_s (x : TupL slices_Concat_c.inp.hs) : E slices_Concat_v (bodyOf Tryd.f63) (slices_Concat_a) (slices_Concat_c.entry x) (retSK tb slices_Concat_v.fz slices_Concat_c [.tmp 2] x) = slices_Concat_c.F x := by kernel_rfl
theorem slices_Concat_ok : ShOk Tryd.prog gl 63 slices_Concat_c :=
  fn_ok (l := slices_Concat_g) (n := Tryd.f63.ntmps) (code := bodyOf Tryd.f63) (rts := [.tmp 2]) tb_ok hord (slices_Concat_gs) Tryd.func63 (by kernel_rfl) (by kernel_rfl) rfl (by kernel_rfl) (ac := slices_Concat_a) (ob := [((subC (bodyOf Tryd.f63) [1, 1, 0, 1, 0]), slices_Concat_u0), ((subC (bodyOf Tryd.f63) [1, 1, 1, 1, 0, 1, 0]), slices_Concat_u1)]) (by kernel_rfl) (fun X hX => (obl_cons (slices_Concat_u0_ok hX) (obl_cons (slices_Concat_u1_ok hX) obl_nil))) (by kernel_rfl) (slices_Concat_s)

noncomputable def resolve_Both_c : ShC := { inp := ⟨[(.agg [.hole, .hole, .hole]), .hole, (.agg [.hole, .hole, .hole]), .hole], [], [1, 1, 1, 1, 1, 1, 1, 1], [.sl tLit, .sl (.one (.sl (.one (.int .i64)))), .sl tLit, .int .i64, .sl tLit, .sl (.one (.sl (.one (.int .i64)))), .sl tLit, .int .i64]⟩, out := ⟨[(.agg [(.view 0), .hole, (.view 1)])], [.seq false, .seq false], [0, 0, 0], [.sl (.one (.sl (.one (.int .i64)))), .sl tLit, .sl tLit]⟩, nres := 1, ms := [], mu := [], leak := true, glob := false, F := fun (x : ((List QLit) × (List (List Int)) × (List QLit) × Int × (List QLit) × (List (List Int)) × (List QLit) × Int)) => resolve_Both x.1 x.2.1 x.2.2.1 x.2.2.2.1 x.2.2.2.2.1 x.2.2.2.2.2.1 x.2.2.2.2.2.2.1 x.2.2.2.2.2.2.2 }
-- resolve.Both
noncomputable def resolve_Both_g : List (Nat × Con) := [(30, .gen (altE [slices_Concat_1_c])), (63, .gen (altE [slices_Concat_c]))]
noncomputable def resolve_Both_v : Env := envOf tb gl resolve_Both_g resolve_Both_c Tryd.f38.ntmps
theorem resolve_Both_gs : Goods Tryd.prog (cond resolve_Both_c.glob gl fun _ => none) resolve_Both_g := (goods_cons (good_alt (alls_cons (slices_Concat_1_ok.anyGl rfl) alls_nil)) (goods_cons (good_alt (alls_cons (slices_Concat_ok.anyGl rfl) alls_nil)) goods_nil))
noncomputable def resolve_Both_u1_h : SS := ⟨[3, 8, 9, 46, 47, 48], ⟨[.hole, (.ptr 0 0), (.ptr 1 0), .hole, .hole, .hole], [.cells true [.nilv, .nilv, .nilv], .cells false [(.view 2), .hole, (.view 3)], .seq false, .seq false], [2, 1, 2, 2, 0, 0, 0], [.int .i64, .sl tLit, .int .i64, .int .i64, .sl (.one (.sl (.one (.int .i64)))), .sl tLit, .sl tLit]⟩⟩
noncomputable def resolve_Both_u1_e : Exs := [((.exit 2), ⟨[9], ⟨[(.ptr 0 0)], [.cells false [(.view 1), .hole, (.view 2)], .seq false, .seq false], [0, 0, 0], [.sl (.one (.sl (.one (.int .i64)))), .sl tLit, .sl tLit]⟩⟩)]
noncomputable def resolve_Both_u1_a : AC := .run
noncomputable def resolve_Both_u1 : Un := lpU resolve_Both_v.fz [49, 50, 51, 52, 13, 12, 53, 54, 55, 56, 57, 58, 59, 60, 61, 62, 48] resolve_Both_u1_h resolve_Both_u1_e (lp resolve_Both_L1 fuel)
theorem resolve_Both_u1_s (f : resolve_Both_u1_h.X → Option (YT resolve_Both_u1_e)) (x : resolve_Both_u1_h.X) : E resolve_Both_v (subC (bodyOf Tryd.f38) [1, 1, 1, 0, 1, 0, 0]) (resolve_Both_u1_a) (mkS resolve_Both_u1_h 8 x) (roundK resolve_Both_v.fz resolve_Both_u1_h resolve_Both_u1_e f) = resolve_Both_L1 f x := by kernel_rfl
theorem resolve_Both_u1_ok {X : Fx} (hX : VOk Tryd.prog X resolve_Both_v) : UnOk Tryd.prog X resolve_Both_v (subC (bodyOf Tryd.f38) [1, 1, 1, 0, 1, 0]) resolve_Both_u1 :=
  lp_un' (c := (subC (bodyOf Tryd.f38) [1, 1, 1, 0, 1, 0, 0])) (by kernel_rfl) (env_all tb_ok (resolve_Both_gs)) hord (ob := []) (by kernel_rfl) (fun X hX => obl_nil) (resolve_Both_u1_s) (by kernel_rfl) (by kernel_rfl) hX
noncomputable def resolve_Both_u0_h : SS := ⟨[1, 3, 6, 8, 9, 28, 29, 30], ⟨[.hole, .hole, (.ptr 0 0), (.ptr 1 0), (.ptr 2 0), .hole, .hole, .hole], [.cells true [.hole, .hole, .hole], .cells true [.nilv, .nilv, .nilv], .cells false [(.view 3), .hole, (.view 4)], .seq false, .seq false], [2, 2, 1, 2, 2, 1, 1, 1, 0, 0, 0], [.int .i64, .int .i64, .sl tLit, .int .i64, .int .i64, .sl tLit, .sl (.one (.sl (.one (.int .i64)))), .sl tLit, .sl (.one (.sl (.one (.int .i64)))), .sl tLit, .sl tLit]⟩⟩
noncomputable def resolve_Both_u0_e : Exs := [((.exit 0), ⟨[9], ⟨[(.ptr 0 0)], [.cells false [(.view 1), .hole, (.view 2)], .seq false, .seq false], [0, 0, 0], [.sl (.one (.sl (.one (.int .i64)))), .sl tLit, .sl tLit]⟩⟩)]
noncomputable def resolve_Both_u0_a : AC := .run
noncomputable def resolve_Both_u0 : Un := lpU resolve_Both_v.fz [31, 32, 33, 34, 11, 10, 35, 36, 37, 38, 39, 40, 41, 42, 43, 44, 30] resolve_Both_u0_h resolve_Both_u0_e (lp resolve_Both_L0 fuel)
theorem resolve_Both_u0_s (f : resolve_Both_u0_h.X → Option (YT resolve_Both_u0_e)) (x : resolve_Both_u0_h.X) : E resolve_Both_v (subC (bodyOf Tryd.f38) [1, 1, 0, 1, 0, 0]) (resolve_Both_u0_a) (mkS resolve_Both_u0_h 8 x) (roundK resolve_Both_v.fz resolve_Both_u0_h resolve_Both_u0_e f) = resolve_Both_L0 f x := by kernel_rfl
theorem resolve_Both_u0_ok {X : Fx} (hX : VOk Tryd.prog X resolve_Both_v) : UnOk Tryd.prog X resolve_Both_v (subC (bodyOf Tryd.f38) [1, 1, 0, 1, 0]) resolve_Both_u0 :=
  lp_un' (c := (subC (bodyOf Tryd.f38) [1, 1, 0, 1, 0, 0])) (by kernel_rfl) (env_all tb_ok (resolve_Both_gs)) hord (ob := []) (by kernel_rfl) (fun X hX => obl_nil) (resolve_Both_u0_s) (by kernel_rfl) (by kernel_rfl) hX
noncomputable def resolve_Both_a : AC := (.seq .run (.seq .run (.seq (.seq .run (.block (.unit resolve_Both_u0))) (.seq (.seq .run (.block (.unit resolve_Both_u1))) .run))))
theorem resolve_Both_s (x : TupL resolve_Both_c.inp.hs) : E resolve_Both_v (bodyOf Tryd.f38) (resolve_Both_a) (resolve_Both_c.entry x) (retSK tb resolve_Both_v.fz resolve_Both_c [.cell 8 26] x) = resolve_Both_c.F x := by kernel_rfl
theorem resolve_Both_ok : ShOk Tryd.prog gl 38 resolve_Both_c :=
  fn_ok (l := resolve_Both_g) (n := Tryd.f38.ntmps) (code := bodyOf Tryd.f38) (rts := [.cell 8 26]) tb_ok hord (resolve_Both_gs) Tryd.func38 (by kernel_rfl) (by kernel_rfl) rfl (by kernel_rfl) (ac := resolve_Both_a) (ob := [((subC (bodyOf Tryd.f38) [1, 1, 0, 1, 0]), resolve_Both_u0), ((subC (bodyOf Tryd.f38) [1, 1, 1, 0, 1, 0]), resolve_Both_u1)]) (by kernel_rfl) (fun X hX => (obl_cons (resolve_Both_u0_ok hX) (obl_cons (resolve_Both_u1_ok hX) obl_nil))) (by kernel_rfl) (resolve_Both_s)

noncomputable def bind_find_c : ShC := { inp := ⟨[.hole, .hole], [], [1, 1], [.sl (.cons (.int .i64) (.one (.sl (.one (.int .i64))))), .int .i64]⟩, out := ⟨[.hole], [], [0], [.ns (.one (.int .i64))]⟩, nres := 1, ms := [], mu := [], leak := true, glob := false, F := fun (x : ((List (Int × (List Int))) × Int)) => bind_find x.1 x.2 }
-- bind.find
noncomputable def bind_find_g : List (Nat × Con) := []
noncomputable def bind_find_v : Env := envOf tb gl bind_find_g bind_find_c Tryd.f100.ntmps
theorem bind_find_gs : Goods Tryd.prog (cond bind_find_c.glob gl fun _ => none) bind_find_g := goods_nil
noncomputable def bind_find_u0_h : SS := ⟨[1, 7, 8, 9], ⟨[.hole, .hole, .hole, .hole], [], [2, 1, 2, 2], [.int .i64, .sl (.cons (.int .i64) (.one (.sl (.one (.int .i64))))), .int .i64, .int .i64]⟩⟩
noncomputable def bind_find_u0_e : Exs := [((.exit 0), ⟨[], ⟨[], [], [], []⟩⟩), (.ret, ⟨[4], ⟨[.hole], [], [1], [.sl (.one (.int .i64))]⟩⟩)]
noncomputable def bind_find_u0_a : AC := .run
noncomputable def bind_find_u0 : Un := lpU bind_find_v.fz [10, 11, 12, 6, 13, 14, 15, 16, 17, 18, 4, 19, 9] bind_find_u0_h bind_find_u0_e (lp bind_find_L0 fuel)
theorem bind_find_u0_s (f : bind_find_u0_h.X → Option (YT bind_find_u0_e)) (x : bind_find_u0_h.X) : E bind_find_v (subC (bodyOf Tryd.f100) [1, 0, 1, 0, 0]) (bind_find_u0_a) (mkS bind_find_u0_h 8 x) (roundK bind_find_v.fz bind_find_u0_h bind_find_u0_e f) = bind_find_L0 f x := by kernel_rfl
theorem bind_find_u0_ok {X : Fx} (hX : VOk Tryd.prog X bind_find_v) : UnOk Tryd.prog X bind_find_v (subC (bodyOf Tryd.f100) [1, 0, 1, 0]) bind_find_u0 :=
  lp_un' (c := (subC (bodyOf Tryd.f100) [1, 0, 1, 0, 0])) (by kernel_rfl) (env_all tb_ok (bind_find_gs)) hord (ob := []) (by kernel_rfl) (fun X hX => obl_nil) (bind_find_u0_s) (by kernel_rfl) (by kernel_rfl) hX
noncomputable def bind_find_a : AC := (.seq .run (.seq (.seq .run (.block (.unit bind_find_u0))) .run))
theorem bind_find_s (x : TupL bind_find_c.inp.hs) : E bind_find_v (bodyOf Tryd.f100) (bind_find_a) (bind_find_c.entry x) (retSK tb bind_find_v.fz bind_find_c [.tmp 4] x) = bind_find_c.F x := by kernel_rfl
theorem bind_find_ok : ShOk Tryd.prog gl 100 bind_find_c :=
  fn_ok (l := bind_find_g) (n := Tryd.f100.ntmps) (code := bodyOf Tryd.f100) (rts := [.tmp 4]) tb_ok hord (bind_find_gs) Tryd.func100 (by kernel_rfl) (by kernel_rfl) rfl (by kernel_rfl) (ac := bind_find_a) (ob := [((subC (bodyOf Tryd.f100) [1, 0, 1, 0]), bind_find_u0)]) (by kernel_rfl) (fun X hX => (obl_cons (bind_find_u0_ok hX) obl_nil)) (by kernel_rfl) (bind_find_s)

noncomputable def bind_On_c : ShC := { inp := ⟨[.hole, .hole], [], [1, 1], [.sl (.cons (.int .i64) (.one (.sl (.one (.int .i64))))), .sl (.one (.int .i64))]⟩, out := ⟨[(.view 0)], [.seq false], [0], [.sl (.one (.int .i64))]⟩, nres := 1, ms := [], mu := [], leak := true, glob := false, F := fun (x : ((List (Int × (List Int))) × (List Int))) => bind_On x.1 x.2 }
-- bind.On
noncomputable def bind_On_g : List (Nat × Con) := [(52, .gen (altE [term_Number_c])), (100, .gen (altE [bind_find_c]))]
noncomputable def bind_On_v : Env := envOf tb gl bind_On_g bind_On_c Tryd.f73.ntmps
theorem bind_On_gs : Goods Tryd.prog (cond bind_On_c.glob gl fun _ => none) bind_On_g := (goods_cons (good_alt (alls_cons (term_Number_ok.anyGl rfl) alls_nil)) (goods_cons (good_alt (alls_cons (bind_find_ok.anyGl rfl) alls_nil)) goods_nil))
noncomputable def bind_On_u0_h : SS := ⟨[0, 5, 9, 10, 11], ⟨[.hole, (.view 0), .hole, .hole, .hole], [.seq false], [1, 1, 2, 2, 0], [.sl (.cons (.int .i64) (.one (.sl (.one (.int .i64))))), .sl (.one (.int .i64)), .int .i64, .int .i64, .sl (.one (.int .i64))]⟩⟩
noncomputable def bind_On_u0_e : Exs := [((.exit 0), ⟨[5], ⟨[(.view 0)], [.seq false], [0], [.sl (.one (.int .i64))]⟩⟩)]
noncomputable def bind_On_u0_a : AC := .run
noncomputable def bind_On_u0 : Un := lpU bind_On_v.fz [12, 13, 14, 7, 15, 16, 17, 18, 8, 19, 20, 21, 22, 23, 24, 25, 26, 27, 28, 5, 29, 30, 31, 5, 32, 11] bind_On_u0_h bind_On_u0_e (lp bind_On_L0 fuel)
theorem bind_On_u0_s (f : bind_On_u0_h.X → Option (YT bind_On_u0_e)) (x : bind_On_u0_h.X) : E bind_On_v (subC (bodyOf Tryd.f73) [1, 1, 0, 1, 0, 0]) (bind_On_u0_a) (mkS bind_On_u0_h 8 x) (roundK bind_On_v.fz bind_On_u0_h bind_On_u0_e f) = bind_On_L0 f x := by kernel_rfl
theorem bind_On_u0_ok {X : Fx} (hX : VOk Tryd.prog X bind_On_v) : UnOk Tryd.prog X bind_On_v (subC (bodyOf Tryd.f73) [1, 1, 0, 1, 0]) bind_On_u0 :=
  lp_un' (c := (subC (bodyOf Tryd.f73) [1, 1, 0, 1, 0, 0])) (by kernel_rfl) (env_all tb_ok (bind_On_gs)) hord (ob := []) (by kernel_rfl) (fun X hX => obl_nil) (bind_On_u0_s) (by kernel_rfl) (by kernel_rfl) hX
noncomputable def bind_On_a : AC := (.seq .run (.seq .run (.seq (.seq .run (.block (.unit bind_On_u0))) .run)))
theorem bind_On_s (x : TupL bind_On_c.inp.hs) : E bind_On_v (bodyOf Tryd.f73) (bind_On_a) (bind_On_c.entry x) (retSK tb bind_On_v.fz bind_On_c [.tmp 4] x) = bind_On_c.F x := by kernel_rfl
theorem bind_On_ok : ShOk Tryd.prog gl 73 bind_On_c :=
  fn_ok (l := bind_On_g) (n := Tryd.f73.ntmps) (code := bodyOf Tryd.f73) (rts := [.tmp 4]) tb_ok hord (bind_On_gs) Tryd.func73 (by kernel_rfl) (by kernel_rfl) rfl (by kernel_rfl) (ac := bind_On_a) (ob := [((subC (bodyOf Tryd.f73) [1, 1, 0, 1, 0]), bind_On_u0)]) (by kernel_rfl) (fun X hX => (obl_cons (bind_On_u0_ok hX) obl_nil)) (by kernel_rfl) (bind_On_s)

noncomputable def clause_On_c1_c : ShC := { inp := ⟨[.hole, (.ptr 0 0)], [.cells true [.hole]], [1, 1], [.sl (.one (.int .i64)), .sl (.cons (.int .i64) (.one (.sl (.one (.int .i64)))))]⟩, out := ⟨[(.view 0)], [.seq false], [0], [.sl (.one (.int .i64))]⟩, nres := 1, ms := [], mu := [], leak := true, glob := false, F := fun (x : ((List Int) × (List (Int × (List Int))))) => clause_On_c1 x.1 x.2 }
-- clause.On$1
noncomputable def clause_On_c1_g : List (Nat × Con) := [(73, .gen (altE [bind_On_c]))]
noncomputable def clause_On_c1_v : Env := envOf tb gl clause_On_c1_g clause_On_c1_c Tryd.f72.ntmps
theorem clause_On_c1_gs : Goods Tryd.prog (cond clause_On_c1_c.glob gl fun _ => none) clause_On_c1_g := (goods_cons (good_alt (alls_cons (bind_On_ok.anyGl rfl) alls_nil)) goods_nil)
noncomputable def clause_On_c1_a : AC := .run
theorem clause_On_c1_s (x : TupL clause_On_c1_c.inp.hs) : E clause_On_c1_v (bodyOf Tryd.f72) (clause_On_c1_a) (clause_On_c1_c.entry x) (retSK tb clause_On_c1_v.fz clause_On_c1_c [.tmp 3] x) = clause_On_c1_c.F x := by kernel_rfl
theorem clause_On_c1_ok : ShOk Tryd.prog gl 72 clause_On_c1_c :=
  fn_ok (l := clause_On_c1_g) (n := Tryd.f72.ntmps) (code := bodyOf Tryd.f72) (rts := [.tmp 3]) tb_ok hord (clause_On_c1_gs) Tryd.func72 (by kernel_rfl) (by kernel_rfl) rfl (by kernel_rfl) (ac := clause_On_c1_a) (ob := []) (by kernel_rfl) (fun X hX => obl_nil) (by kernel_rfl) (clause_On_c1_s)

noncomputable def clause_each_c : ShC := { inp := ⟨[(.agg [.hole, .hole, .hole]), (.clo 72 [(.ptr 0 0)])], [.cells true [.hole]], [1, 1, 1, 1], [.sl tLit, .sl (.one (.sl (.one (.int .i64)))), .sl tLit, .sl (.cons (.int .i64) (.one (.sl (.one (.int .i64)))))]⟩, out := ⟨[(.agg [.hole, .hole, (.view 0)])], [.seq false], [0, 0, 0], [.sl tLit, .sl (.one (.sl (.one (.int .i64)))), .sl tLit]⟩, nres := 1, ms := [], mu := [], leak := true, glob := false, F := fun (x : ((List QLit) × (List (List Int)) × (List QLit) × (List (Int × (List Int))))) => clause_each x.1 x.2.1 x.2.2.1 x.2.2.2 }
-- clause.each
noncomputable def clause_each_g : List (Nat × Con) := [(72, .gen (altE [clause_On_c1_c]))]
noncomputable def clause_each_v : Env := envOf tb gl clause_each_g clause_each_c Tryd.f71.ntmps
theorem clause_each_gs : Goods Tryd.prog (cond clause_each_c.glob gl fun _ => none) clause_each_g := (goods_cons (good_alt (alls_cons (clause_On_c1_ok.anyGl rfl) alls_nil)) goods_nil)
noncomputable def clause_each_u2_h : SS := ⟨[1, 4, 5, 49, 50, 51], ⟨[(.clo 72 [(.ptr 0 0)]), (.ptr 1 0), (.ptr 2 0), .hole, .hole, .hole], [.cells true [.hole], .cells true [.nilv, .nilv, .nilv], .cells false [.hole, .hole, (.view 3)], .seq false], [1, 2, 2, 1, 0, 0, 0], [.sl tLit, .int .i64, .int .i64, .sl (.cons (.int .i64) (.one (.sl (.one (.int .i64))))), .sl tLit, .sl (.one (.sl (.one (.int .i64)))), .sl tLit]⟩⟩
noncomputable def clause_each_u2_e : Exs := [((.exit 4), ⟨[5], ⟨[(.ptr 0 0)], [.cells false [.hole, .hole, (.view 1)], .seq false], [0, 0, 0], [.sl tLit, .sl (.one (.sl (.one (.int .i64)))), .sl tLit]⟩⟩)]
noncomputable def clause_each_u2_a : AC := .run
noncomputable def clause_each_u2 : Un := lpU clause_each_v.fz [52, 53, 54, 11, 55, 56, 57, 58, 59, 60, 61, 62, 63, 64, 65, 66, 67, 51] clause_each_u2_h clause_each_u2_e (lp clause_each_L2 fuel)
theorem clause_each_u2_s (f : clause_each_u2_h.X → Option (YT clause_each_u2_e)) (x : clause_each_u2_h.X) : E clause_each_v (subC (bodyOf Tryd.f71) [1, 1, 1, 1, 0, 1, 0, 0]) (clause_each_u2_a) (mkS clause_each_u2_h 8 x) (roundK clause_each_v.fz clause_each_u2_h clause_each_u2_e f) = clause_each_L2 f x := by kernel_rfl
theorem clause_each_u2_ok {X : Fx} (hX : VOk Tryd.prog X clause_each_v) : UnOk Tryd.prog X clause_each_v (subC (bodyOf Tryd.f71) [1, 1, 1, 1, 0, 1, 0]) clause_each_u2 :=
  lp_un' (c := (subC (bodyOf Tryd.f71) [1, 1, 1, 1, 0, 1, 0, 0])) (by kernel_rfl) (env_all tb_ok (clause_each_gs)) hord (ob := []) (by kernel_rfl) (fun X hX => obl_nil) (clause_each_u2_s) (by kernel_rfl) (by kernel_rfl) hX
noncomputable def clause_each_u1_h : SS := ⟨[1, 2, 4, 5, 33, 34, 35], ⟨[(.clo 72 [(.ptr 0 0)]), (.ptr 1 0), (.ptr 2 0), (.ptr 3 0), .hole, .hole, .hole], [.cells true [.hole], .cells true [.hole, .hole, .hole], .cells true [.nilv, .nilv, .nilv], .cells false [.hole, (.view 4), .nilv], .seq false], [1, 2, 2, 1, 1, 1, 1, 0, 0], [.sl (.one (.sl (.one (.int .i64)))), .int .i64, .int .i64, .sl (.cons (.int .i64) (.one (.sl (.one (.int .i64))))), .sl tLit, .sl (.one (.sl (.one (.int .i64)))), .sl tLit, .sl tLit, .sl (.one (.sl (.one (.int .i64))))]⟩⟩
noncomputable def clause_each_u1_e : Exs := [((.exit 2), ⟨[5], ⟨[(.ptr 0 0)], [.cells false [.hole, (.view 1), .nilv], .seq false], [0, 0], [.sl tLit, .sl (.one (.sl (.one (.int .i64))))]⟩⟩)]
noncomputable def clause_each_u1_a : AC := .run
noncomputable def clause_each_u1 : Un := lpU clause_each_v.fz [36, 37, 38, 9, 39, 40, 41, 42, 43, 44, 45, 46, 47, 35] clause_each_u1_h clause_each_u1_e (lp clause_each_L1 fuel)
theorem clause_each_u1_s (f : clause_each_u1_h.X → Option (YT clause_each_u1_e)) (x : clause_each_u1_h.X) : E clause_each_v (subC (bodyOf Tryd.f71) [1, 1, 1, 0, 1, 0, 0]) (clause_each_u1_a) (mkS clause_each_u1_h 8 x) (roundK clause_each_v.fz clause_each_u1_h clause_each_u1_e f) = clause_each_L1 f x := by kernel_rfl
theorem clause_each_u1_ok {X : Fx} (hX : VOk Tryd.prog X clause_each_v) : UnOk Tryd.prog X clause_each_v (subC (bodyOf Tryd.f71) [1, 1, 1, 0, 1, 0]) clause_each_u1 :=
  lp_un' (c := (subC (bodyOf Tryd.f71) [1, 1, 1, 0, 1, 0, 0])) (by kernel_rfl) (env_all tb_ok (clause_each_gs)) hord (ob := []) (by kernel_rfl) (fun X hX => obl_nil) (clause_each_u1_s) (by kernel_rfl) (by kernel_rfl) hX
noncomputable def clause_each_u0_h : SS := ⟨[1, 2, 4, 5, 13, 14, 15], ⟨[(.clo 72 [(.ptr 0 0)]), (.ptr 1 0), (.ptr 2 0), (.ptr 3 0), .hole, .hole, .hole], [.cells true [.hole], .cells true [.hole, .hole, .hole], .cells true [.nilv, .nilv, .nilv], .cells false [(.view 4), .nilv, .nilv], .seq false], [1, 2, 2, 1, 1, 1, 1, 0], [.sl tLit, .int .i64, .int .i64, .sl (.cons (.int .i64) (.one (.sl (.one (.int .i64))))), .sl tLit, .sl (.one (.sl (.one (.int .i64)))), .sl tLit, .sl tLit]⟩⟩
noncomputable def clause_each_u0_e : Exs := [((.exit 0), ⟨[5], ⟨[(.ptr 0 0)], [.cells false [(.view 1), .nilv, .nilv], .seq false], [0], [.sl tLit]⟩⟩)]
noncomputable def clause_each_u0_a : AC := .run
noncomputable def clause_each_u0 : Un := lpU clause_each_v.fz [16, 17, 18, 7, 19, 20, 21, 22, 23, 24, 25, 26, 27, 28, 29, 30, 31, 15] clause_each_u0_h clause_each_u0_e (lp clause_each_L0 fuel)
theorem clause_each_u0_s (f : clause_each_u0_h.X → Option (YT clause_each_u0_e)) (x : clause_each_u0_h.X) : E clause_each_v (subC (bodyOf Tryd.f71) [1, 1, 0, 1, 0, 0]) (clause_each_u0_a) (mkS clause_each_u0_h 8 x) (roundK clause_each_v.fz clause_each_u0_h clause_each_u0_e f) = clause_each_L0 f x := by kernel_rfl
theorem clause_each_u0_ok {X : Fx} (hX : VOk Tryd.prog X clause_each_v) : UnOk Tryd.prog X clause_each_v (subC (bodyOf Tryd.f71) [1, 1, 0, 1, 0]) clause_each_u0 :=
  lp_un' (c := (subC (bodyOf Tryd.f71) [1, 1, 0, 1, 0, 0])) (by kernel_rfl) (env_all tb_ok (clause_each_gs)) hord (ob := []) (by kernel_rfl) (fun X hX => obl_nil) (clause_each_u0_s) (by kernel_rfl) (by kernel_rfl) hX
noncomputable def clause_each_a : AC := (.seq .run (.seq .run (.seq (.seq .run (.block (.unit clause_each_u0))) (.seq (.seq .run (.block (.unit clause_each_u1))) (.seq (.seq .run (.block (.unit clause_each_u2))) .run)))))
theorem clause_each_s (x : TupL clause_each_c.inp.hs) : E clause_each_v (bodyOf Tryd.f71) (clause_each_a) (clause_each_c.entry x) (retSK tb clause_each_v.fz clause_each_c [.cell 4 26] x) = clause_each_c.F x := by kernel_rfl
theorem clause_each_ok : ShOk Tryd.prog gl 71 clause_each_c :=
  fn_ok (l := clause_each_g) (n := Tryd.f71.ntmps) (code := bodyOf Tryd.f71) (rts := [.cell 4 26]) tb_ok hord (clause_each_gs) Tryd.func71 (by kernel_rfl) (by kernel_rfl) rfl (by kernel_rfl) (ac := clause_each_a) (ob := [((subC (bodyOf Tryd.f71) [1, 1, 0, 1, 0]), clause_each_u0), ((subC (bodyOf Tryd.f71) [1, 1, 1, 0, 1, 0]), clause_each_u1), ((subC (bodyOf Tryd.f71) [1, 1, 1, 1, 0, 1, 0]), clause_each_u2)]) (by kernel_rfl) (fun X hX => (obl_cons (clause_each_u0_ok hX) (obl_cons (clause_each_u1_ok hX) (obl_cons (clause_each_u2_ok hX) obl_nil)))) (by kernel_rfl) (clause_each_s)

noncomputable def clause_On_c : ShC := { inp := ⟨[.hole, (.agg [.hole, .hole, .hole])], [], [1, 1, 1, 1], [.sl (.cons (.int .i64) (.one (.sl (.one (.int .i64))))), .sl tLit, .sl (.one (.sl (.one (.int .i64)))), .sl tLit]⟩, out := ⟨[(.agg [.hole, .hole, (.view 0)])], [.seq false], [0, 0, 0], [.sl tLit, .sl (.one (.sl (.one (.int .i64)))), .sl tLit]⟩, nres := 1, ms := [], mu := [], leak := true, glob := false, F := fun (x : ((List (Int × (List Int))) × (List QLit) × (List (List Int)) × (List QLit))) => clause_On x.1 x.2.1 x.2.2.1 x.2.2.2 }
-- clause.On
noncomputable def clause_On_g : List (Nat × Con) := [(71, .gen (altE [clause_each_c]))]
noncomputable def clause_On_v : Env := envOf tb gl clause_On_g clause_On_c Tryd.f46.ntmps
theorem clause_On_gs : Goods Tryd.prog (cond clause_On_c.glob gl fun _ => none) clause_On_g := (goods_cons (good_alt (alls_cons (clause_each_ok.anyGl rfl) alls_nil)) goods_nil)
noncomputable def clause_On_a : AC := .run
theorem clause_On_s (x : TupL clause_On_c.inp.hs) : E clause_On_v (bodyOf Tryd.f46) (clause_On_a) (clause_On_c.entry x) (retSK tb clause_On_v.fz clause_On_c [.cell 4 26] x) = clause_On_c.F x := by kernel_rfl
theorem clause_On_ok : ShOk Tryd.prog gl 46 clause_On_c :=
  fn_ok (l := clause_On_g) (n := Tryd.f46.ntmps) (code := bodyOf Tryd.f46) (rts := [.cell 4 26]) tb_ok hord (clause_On_gs) Tryd.func46 (by kernel_rfl) (by kernel_rfl) rfl (by kernel_rfl) (ac := clause_On_a) (ob := []) (by kernel_rfl) (fun X hX => obl_nil) (by kernel_rfl) (clause_On_s)

noncomputable def slices_Equal_c : ShC := { inp := ⟨[.hole, .hole], [], [1, 1], [.sl (.one (.int .i64)), .sl (.one (.int .i64))]⟩, out := ⟨[.hole], [], [2], [.bool]⟩, nres := 1, ms := [], mu := [], leak := false, glob := false, F := fun (x : ((List Int) × (List Int))) => slices_Equal x.1 x.2 }
-- slices.Equal[[]int,int]
noncomputable def slices_Equal_g : List (Nat × Con) := []
noncomputable def slices_Equal_v : Env := envOf tb gl slices_Equal_g slices_Equal_c Tryd.f89.ntmps
theorem slices_Equal_gs : Goods Tryd.prog (cond slices_Equal_c.glob gl fun _ => none) slices_Equal_g := goods_nil
noncomputable def slices_Equal_u0_h : SS := ⟨[0, 1, 12, 13], ⟨[.hole, .hole, .hole, .hole], [], [1, 1, 2, 2], [.sl (.one (.int .i64)), .sl (.one (.int .i64)), .int .i64, .int .i64]⟩⟩
noncomputable def slices_Equal_u0_e : Exs := [((.exit 0), ⟨[], ⟨[], [], [], []⟩⟩), (.ret, ⟨[4], ⟨[.hole], [], [2], [.bool]⟩⟩)]
noncomputable def slices_Equal_u0_a : AC := .run
noncomputable def slices_Equal_u0 : Un := lpU slices_Equal_v.fz [14, 15, 5, 16, 17, 18, 19, 20, 21, 22, 23, 24, 4, 25, 13] slices_Equal_u0_h slices_Equal_u0_e (lp slices_Equal_L0 fuel)
theorem slices_Equal_u0_s (f : slices_Equal_u0_h.X → Option (YT slices_Equal_u0_e)) (x : slices_Equal_u0_h.X) : E slices_Equal_v (subC (bodyOf Tryd.f89) [1, 1, 0, 1, 0, 0]) (slices_Equal_u0_a) (mkS slices_Equal_u0_h 8 x) (roundK slices_Equal_v.fz slices_Equal_u0_h slices_Equal_u0_e f) = slices_Equal_L0 f x := by kernel_rfl
theorem slices_Equal_u0_ok {X : Fx} (hX : VOk Tryd.prog X slices_Equal_v) : UnOk Tryd.prog X slices_Equal_v (subC (bodyOf Tryd.f89) [1, 1, 0, 1, 0]) slices_Equal_u0 :=
  lp_un' (c := (subC (bodyOf Tryd.f89) [1, 1, 0, 1, 0, 0])) (by kernel_rfl) (env_all tb_ok (slices_Equal_gs)) hord (ob := []) (by kernel_rfl) (fun X hX => obl_nil) (slices_Equal_u0_s) (by kernel_rfl) (by kernel_rfl) hX
noncomputable def slices_Equal_a : AC := (.seq .run (.seq .run (.seq (.seq .run (.block (.unit slices_Equal_u0))) .run)))
theorem slices_Equal_s (x : TupL slices_Equal_c.inp.hs) : E slices_Equal_v (bodyOf Tryd.f89) (slices_Equal_a) (slices_Equal_c.entry x) (retSK tb slices_Equal_v.fz slices_Equal_c [.tmp 4] x) = slices_Equal_c.F x := by kernel_rfl
theorem slices_Equal_ok : ShOk Tryd.prog gl 89 slices_Equal_c :=
  fn_ok (l := slices_Equal_g) (n := Tryd.f89.ntmps) (code := bodyOf Tryd.f89) (rts := [.tmp 4]) tb_ok hord (slices_Equal_gs) Tryd.func89 (by kernel_rfl) (by kernel_rfl) rfl (by kernel_rfl) (ac := slices_Equal_a) (ob := [((subC (bodyOf Tryd.f89) [1, 1, 0, 1, 0]), slices_Equal_u0)]) (by kernel_rfl) (fun X hX => (obl_cons (slices_Equal_u0_ok hX) obl_nil)) (by kernel_rfl) (slices_Equal_s)

noncomputable def lit_Same_c : ShC := { inp := ⟨[(.agg [.hole, .hole]), (.agg [.hole, .hole])], [], [1, 1, 1, 1], [.bool, .sl (.one (.int .i64)), .bool, .sl (.one (.int .i64))]⟩, out := ⟨[.hole], [], [2], [.bool]⟩, nres := 1, ms := [], mu := [], leak := false, glob := false, F := fun (x : (Bool × (List Int) × Bool × (List Int))) => lit_Same x.1 x.2.1 x.2.2.1 x.2.2.2 }
-- lit.Same
noncomputable def lit_Same_g : List (Nat × Con) := [(89, .gen (altE [slices_Equal_c]))]
noncomputable def lit_Same_v : Env := envOf tb gl lit_Same_g lit_Same_c Tryd.f114.ntmps
theorem lit_Same_gs : Goods Tryd.prog (cond lit_Same_c.glob gl fun _ => none) lit_Same_g := (goods_cons (good_alt (alls_cons (slices_Equal_ok.anyGl rfl) alls_nil)) goods_nil)
noncomputable def lit_Same_a : AC := .run
theorem lit_Same_s (x : TupL lit_Same_c.inp.hs) : E lit_Same_v (bodyOf Tryd.f114) (lit_Same_a) (lit_Same_c.entry x) (retSK tb lit_Same_v.fz lit_Same_c [.tmp 4] x) = lit_Same_c.F x := by kernel_rfl
theorem lit_Same_ok : ShOk Tryd.prog gl 114 lit_Same_c :=
  fn_ok (l := lit_Same_g) (n := Tryd.f114.ntmps) (code := bodyOf Tryd.f114) (rts := [.tmp 4]) tb_ok hord (lit_Same_gs) Tryd.func114 (by kernel_rfl) (by kernel_rfl) rfl (by kernel_rfl) (ac := lit_Same_a) (ob := []) (by kernel_rfl) (fun X hX => obl_nil) (by kernel_rfl) (lit_Same_s)

noncomputable def clause_once_c1_c : ShC := { inp := ⟨[(.agg [.hole, .hole]), (.ptr 0 0)], [.cells true [.hole, .hole]], [1, 1, 1, 1], [.bool, .sl (.one (.int .i64)), .bool, .sl (.one (.int .i64))]⟩, out := ⟨[.hole], [], [2], [.bool]⟩, nres := 1, ms := [], mu := [], leak := false, glob := false, F := fun (x : (Bool × (List Int) × Bool × (List Int))) => clause_once_c1 x.1 x.2.1 x.2.2.1 x.2.2.2 }
-- clause.once$1
noncomputable def clause_once_c1_g : List (Nat × Con) := [(114, .gen (altE [lit_Same_c]))]
noncomputable def clause_once_c1_v : Env := envOf tb gl clause_once_c1_g clause_once_c1_c Tryd.f113.ntmps
theorem clause_once_c1_gs : Goods Tryd.prog (cond clause_once_c1_c.glob gl fun _ => none) clause_once_c1_g := (goods_cons (good_alt (alls_cons (lit_Same_ok.anyGl rfl) alls_nil)) goods_nil)
noncomputable def clause_once_c1_a : AC := .run
theorem clause_once_c1_s (x : TupL clause_once_c1_c.inp.hs) : E clause_once_c1_v (bodyOf Tryd.f113) (clause_once_c1_a) (clause_once_c1_c.entry x) (retSK tb clause_once_c1_v.fz clause_once_c1_c [.tmp 3] x) = clause_once_c1_c.F x := by kernel_rfl
theorem clause_once_c1_ok : ShOk Tryd.prog gl 113 clause_once_c1_c :=
  fn_ok (l := clause_once_c1_g) (n := Tryd.f113.ntmps) (code := bodyOf Tryd.f113) (rts := [.tmp 3]) tb_ok hord (clause_once_c1_gs) Tryd.func113 (by kernel_rfl) (by kernel_rfl) rfl (by kernel_rfl) (ac := clause_once_c1_a) (ob := []) (by kernel_rfl) (fun X hX => obl_nil) (by kernel_rfl) (clause_once_c1_s)

noncomputable def slices_IndexFunc_c : ShC := { inp := ⟨[.hole, (.clo 113 [(.ptr 0 0)])], [.cells true [.hole, .hole]], [1, 1, 1], [.sl tLit, .bool, .sl (.one (.int .i64))]⟩, out := ⟨[.hole], [], [2], [.int .i64]⟩, nres := 1, ms := [], mu := [], leak := false, glob := false, F := fun (x : ((List QLit) × Bool × (List Int))) => slices_IndexFunc x.1 x.2.1 x.2.2 }
-- slices.IndexFunc[[]api.Lit,api.Lit]
noncomputable def slices_IndexFunc_g : List (Nat × Con) := [(113, .gen (altE [clause_once_c1_c]))]
noncomputable def slices_IndexFunc_v : Env := envOf tb gl slices_IndexFunc_g slices_IndexFunc_c Tryd.f85.ntmps
theorem slices_IndexFunc_gs : Goods Tryd.prog (cond slices_IndexFunc_c.glob gl fun _ => none) slices_IndexFunc_g := (goods_cons (good_alt (alls_cons (clause_once_c1_ok.anyGl rfl) alls_nil)) goods_nil)
noncomputable def slices_IndexFunc_u0_h : SS := ⟨[0, 1, 7, 8], ⟨[.hole, (.clo 113 [(.ptr 0 0)]), .hole, .hole], [.cells true [.hole, .hole]], [1, 2, 2, 2, 1], [.sl tLit, .int .i64, .int .i64, .bool, .sl (.one (.int .i64))]⟩⟩
noncomputable def slices_IndexFunc_u0_e : Exs := [((.exit 0), ⟨[], ⟨[], [], [], []⟩⟩), (.ret, ⟨[4], ⟨[.hole], [], [2], [.int .i64]⟩⟩)]
noncomputable def slices_IndexFunc_u0_a : AC := .run
noncomputable def slices_IndexFunc_u0 : Un := lpU slices_IndexFunc_v.fz [9, 10, 5, 11, 12, 13, 14, 15, 16, 17, 4, 18, 8] slices_IndexFunc_u0_h slices_IndexFunc_u0_e (lp slices_IndexFunc_L0 fuel)
theorem slices_IndexFunc_u0_s (f : slices_IndexFunc_u0_h.X → Option (YT slices_IndexFunc_u0_e)) (x : slices_IndexFunc_u0_h.X) : E slices_IndexFunc_v (subC (bodyOf Tryd.f85) [1, 0, 1, 0, 0]) (slices_IndexFunc_u0_a) (mkS slices_IndexFunc_u0_h 8 x) (roundK slices_IndexFunc_v.fz slices_IndexFunc_u0_h slices_IndexFunc_u0_e f) = slices_IndexFunc_L0 f x := by kernel_rfl
theorem slices_IndexFunc_u0_ok {X : Fx} (hX : VOk Tryd.prog X slices_IndexFunc_v) : UnOk Tryd.prog X slices_IndexFunc_v (subC (bodyOf Tryd.f85) [1, 0, 1, 0]) slices_IndexFunc_u0 :=
  lp_un' (c := (subC (bodyOf Tryd.f85) [1, 0, 1, 0, 0])) (by kernel_rfl) (env_all tb_ok (slices_IndexFunc_gs)) hord (ob := []) (by kernel_rfl) (fun X hX => obl_nil) (slices_IndexFunc_u0_s) (by kernel_rfl) (by kernel_rfl) hX
noncomputable def slices_IndexFunc_a : AC := (.seq .run (.seq (.seq .run (.block (.unit slices_IndexFunc_u0))) .run))
theorem slices_IndexFunc_s (x : TupL slices_IndexFunc_c.inp.hs) : E slices_IndexFunc_v (bodyOf Tryd.f85) (slices_IndexFunc_a) (slices_IndexFunc_c.entry x) (retSK tb slices_IndexFunc_v.fz slices_IndexFunc_c [.tmp 4] x) = slices_IndexFunc_c.F x := by kernel_rfl
theorem slices_IndexFunc_ok : ShOk Tryd.prog gl 85 slices_IndexFunc_c :=
  fn_ok (l := slices_IndexFunc_g) (n := Tryd.f85.ntmps) (code := bodyOf Tryd.f85) (rts := [.tmp 4]) tb_ok hord (slices_IndexFunc_gs) Tryd.func85 (by kernel_rfl) (by kernel_rfl) rfl (by kernel_rfl) (ac := slices_IndexFunc_a) (ob := [((subC (bodyOf Tryd.f85) [1, 0, 1, 0]), slices_IndexFunc_u0)]) (by kernel_rfl) (fun X hX => (obl_cons (slices_IndexFunc_u0_ok hX) obl_nil)) (by kernel_rfl) (slices_IndexFunc_s)

noncomputable def slices_ContainsFunc_c : ShC := { inp := ⟨[.hole, (.clo 113 [(.ptr 0 0)])], [.cells true [.hole, .hole]], [1, 1, 1], [.sl tLit, .bool, .sl (.one (.int .i64))]⟩, out := ⟨[.hole], [], [2], [.bool]⟩, nres := 1, ms := [], mu := [], leak := false, glob := false, F := fun (x : ((List QLit) × Bool × (List Int))) => slices_ContainsFunc x.1 x.2.1 x.2.2 }
-- slices.ContainsFunc[[]api.Lit,api.Lit]
noncomputable def slices_ContainsFunc_g : List (Nat × Con) := [(85, .gen (altE [slices_IndexFunc_c]))]
noncomputable def slices_ContainsFunc_v : Env := envOf tb gl slices_ContainsFunc_g slices_ContainsFunc_c Tryd.f57.ntmps
theorem slices_ContainsFunc_gs : Goods Tryd.prog (cond slices_ContainsFunc_c.glob gl fun _ => none) slices_ContainsFunc_g := (goods_cons (good_alt (alls_cons (slices_IndexFunc_ok.anyGl rfl) alls_nil)) goods_nil)
noncomputable def slices_ContainsFunc_a : AC := .run
theorem slices_ContainsFunc_s (x : TupL slices_ContainsFunc_c.inp.hs) : E slices_ContainsFunc_v (bodyOf Tryd.f57) (slices_ContainsFunc_a) (slices_ContainsFunc_c.entry x) (retSK tb slices_ContainsFunc_v.fz slices_ContainsFunc_c [.tmp 4] x) = slices_ContainsFunc_c.F x := by kernel_rfl
theorem slices_ContainsFunc_ok : ShOk Tryd.prog gl 57 slices_ContainsFunc_c :=
  fn_ok (l := slices_ContainsFunc_g) (n := Tryd.f57.ntmps) (code := bodyOf Tryd.f57) (rts := [.tmp 4]) tb_ok hord (slices_ContainsFunc_gs) Tryd.func57 (by kernel_rfl) (by kernel_rfl) rfl (by kernel_rfl) (ac := slices_ContainsFunc_a) (ob := []) (by kernel_rfl) (fun X hX => obl_nil) (by kernel_rfl) (slices_ContainsFunc_s)

noncomputable def clause_once_c : ShC := { inp := ⟨[.hole], [], [1], [.sl tLit]⟩, out := ⟨[(.view 0)], [.seq false], [0], [.sl tLit]⟩, nres := 1, ms := [], mu := [], leak := true, glob := false, F := fun (x : (List QLit)) => clause_once x }
-- clause.once
noncomputable def clause_once_g : List (Nat × Con) := [(57, .gen (altE [slices_ContainsFunc_c]))]
noncomputable def clause_once_v : Env := envOf tb gl clause_once_g clause_once_c Tryd.f91.ntmps
theorem clause_once_gs : Goods Tryd.prog (cond clause_once_c.glob gl fun _ => none) clause_once_g := (goods_cons (good_alt (alls_cons (slices_ContainsFunc_ok.anyGl rfl) alls_nil)) goods_nil)
noncomputable def clause_once_u0_h : SS := ⟨[3, 6, 7, 8], ⟨[(.view 0), .hole, .hole, .hole], [.seq false], [1, 2, 2, 0], [.sl tLit, .int .i64, .int .i64, .sl tLit]⟩⟩
noncomputable def clause_once_u0_e : Exs := [((.exit 0), ⟨[3], ⟨[(.view 0)], [.seq false], [0], [.sl tLit]⟩⟩)]
noncomputable def clause_once_u0_a : AC := .run
noncomputable def clause_once_u0 : Un := lpU clause_once_v.fz [9, 10, 11, 5, 12, 13, 14, 15, 16, 17, 18, 19, 3, 20, 8] clause_once_u0_h clause_once_u0_e (lp clause_once_L0 fuel)
theorem clause_once_u0_s (f : clause_once_u0_h.X → Option (YT clause_once_u0_e)) (x : clause_once_u0_h.X) : E clause_once_v (subC (bodyOf Tryd.f91) [1, 1, 0, 1, 0, 0]) (clause_once_u0_a) (mkS clause_once_u0_h 8 x) (roundK clause_once_v.fz clause_once_u0_h clause_once_u0_e f) = clause_once_L0 f x := by kernel_rfl
theorem clause_once_u0_ok {X : Fx} (hX : VOk Tryd.prog X clause_once_v) : UnOk Tryd.prog X clause_once_v (subC (bodyOf Tryd.f91) [1, 1, 0, 1, 0]) clause_once_u0 :=
  lp_un' (c := (subC (bodyOf Tryd.f91) [1, 1, 0, 1, 0, 0])) (by kernel_rfl) (env_all tb_ok (clause_once_gs)) hord (ob := []) (by kernel_rfl) (fun X hX => obl_nil) (clause_once_u0_s) (by kernel_rfl) (by kernel_rfl) hX
noncomputable def clause_once_a : AC := (.seq .run (.seq .run (.seq (.seq .run (.block (.unit clause_once_u0))) .run)))
theorem clause_once_s (x : TupL clause_once_c.inp.hs) : E clause_once_v (bodyOf Tryd.f91) (clause_once_a) (clause_once_c.entry x) (retSK tb clause_once_v.fz clause_once_c [.tmp 2] x) = clause_once_c.F x := by kernel_rfl
theorem clause_once_ok : ShOk Tryd.prog gl 91 clause_once_c :=
  fn_ok (l := clause_once_g) (n := Tryd.f91.ntmps) (code := bodyOf Tryd.f91) (rts := [.tmp 2]) tb_ok hord (clause_once_gs) Tryd.func91 (by kernel_rfl) (by kernel_rfl) rfl (by kernel_rfl) (ac := clause_once_a) (ob := [((subC (bodyOf Tryd.f91) [1, 1, 0, 1, 0]), clause_once_u0)]) (by kernel_rfl) (fun X hX => (obl_cons (clause_once_u0_ok hX) obl_nil)) (by kernel_rfl) (clause_once_s)

noncomputable def clause_anew_c1_c : ShC := { inp := ⟨[.hole, (.ptr 0 0)], [.cells true [.hole]], [1, 1], [.sl (.one (.int .i64)), .sl (.one (.int .i64))]⟩, out := ⟨[.hole], [], [2], [.bool]⟩, nres := 1, ms := [], mu := [], leak := false, glob := false, F := fun (x : ((List Int) × (List Int))) => clause_anew_c1 x.1 x.2 }
-- clause.anew$1
noncomputable def clause_anew_c1_g : List (Nat × Con) := [(89, .gen (altE [slices_Equal_c]))]
noncomputable def clause_anew_c1_v : Env := envOf tb gl clause_anew_c1_g clause_anew_c1_c Tryd.f93.ntmps
theorem clause_anew_c1_gs : Goods Tryd.prog (cond clause_anew_c1_c.glob gl fun _ => none) clause_anew_c1_g := (goods_cons (good_alt (alls_cons (slices_Equal_ok.anyGl rfl) alls_nil)) goods_nil)
noncomputable def clause_anew_c1_a : AC := .run
theorem clause_anew_c1_s (x : TupL clause_anew_c1_c.inp.hs) : E clause_anew_c1_v (bodyOf Tryd.f93) (clause_anew_c1_a) (clause_anew_c1_c.entry x) (retSK tb clause_anew_c1_v.fz clause_anew_c1_c [.tmp 3] x) = clause_anew_c1_c.F x := by kernel_rfl
theorem clause_anew_c1_ok : ShOk Tryd.prog gl 93 clause_anew_c1_c :=
  fn_ok (l := clause_anew_c1_g) (n := Tryd.f93.ntmps) (code := bodyOf Tryd.f93) (rts := [.tmp 3]) tb_ok hord (clause_anew_c1_gs) Tryd.func93 (by kernel_rfl) (by kernel_rfl) rfl (by kernel_rfl) (ac := clause_anew_c1_a) (ob := []) (by kernel_rfl) (fun X hX => obl_nil) (by kernel_rfl) (clause_anew_c1_s)

noncomputable def slices_IndexFunc_1_c : ShC := { inp := ⟨[.hole, (.clo 93 [(.ptr 0 0)])], [.cells true [.hole]], [1, 1], [.sl (.one (.sl (.one (.int .i64)))), .sl (.one (.int .i64))]⟩, out := ⟨[.hole], [], [2], [.int .i64]⟩, nres := 1, ms := [], mu := [], leak := false, glob := false, F := fun (x : ((List (List Int)) × (List Int))) => slices_IndexFunc_1 x.1 x.2 }
-- slices.IndexFunc[[][]int,[]int]
noncomputable def slices_IndexFunc_1_g : List (Nat × Con) := [(93, .gen (altE [clause_anew_c1_c]))]
noncomputable def slices_IndexFunc_1_v : Env := envOf tb gl slices_IndexFunc_1_g slices_IndexFunc_1_c Tryd.f115.ntmps
theorem slices_IndexFunc_1_gs : Goods Tryd.prog (cond slices_IndexFunc_1_c.glob gl fun _ => none) slices_IndexFunc_1_g := (goods_cons (good_alt (alls_cons (clause_anew_c1_ok.anyGl rfl) alls_nil)) goods_nil)
noncomputable def slices_IndexFunc_1_u0_h : SS := ⟨[0, 1, 7, 8], ⟨[.hole, (.clo 93 [(.ptr 0 0)]), .hole, .hole], [.cells true [.hole]], [1, 2, 2, 1], [.sl (.one (.sl (.one (.int .i64)))), .int .i64, .int .i64, .sl (.one (.int .i64))]⟩⟩
noncomputable def slices_IndexFunc_1_u0_e : Exs := [((.exit 0), ⟨[], ⟨[], [], [], []⟩⟩), (.ret, ⟨[4], ⟨[.hole], [], [2], [.int .i64]⟩⟩)]
noncomputable def slices_IndexFunc_1_u0_a : AC := .run
noncomputable def slices_IndexFunc_1_u0 : Un := lpU slices_IndexFunc_1_v.fz [9, 10, 5, 11, 12, 13, 14, 15, 16, 17, 4, 18, 8] slices_IndexFunc_1_u0_h slices_IndexFunc_1_u0_e (lp slices_IndexFunc_1_L0 fuel)
theorem slices_IndexFunc_1_u0_s (f : slices_IndexFunc_1_u0_h.X → Option (YT slices_IndexFunc_1_u0_e)) (x : slices_IndexFunc_1_u0_h.X) : E slices_IndexFunc_1_v (subC (bodyOf Tryd.f115) [1, 0, 1, 0, 0]) (slices_IndexFunc_1_u0_a) (mkS slices_IndexFunc_1_u0_h 8 x) (roundK slices_IndexFunc_1_v.fz slices_IndexFunc_1_u0_h slices_IndexFunc_1_u0_e f) = slices_IndexFunc_1_L0 f x := by kernel_rfl
theorem slices_IndexFunc_1_u0_ok {X : Fx} (hX : VOk Tryd.prog X slices_IndexFunc_1_v) : UnOk Tryd.prog X slices_IndexFunc_1_v (subC (bodyOf Tryd.f115) [1, 0, 1, 0]) slices_IndexFunc_1_u0 :=
  lp_un' (c := (subC (bodyOf Tryd.f115) [1, 0, 1, 0, 0])) (by kernel_rfl) (env_all tb_ok (slices_IndexFunc_1_gs)) hord (ob := []) (by kernel_rfl) (fun X hX => obl_nil) (slices_IndexFunc_1_u0_s) (by kernel_rfl) (by kernel_rfl) hX
noncomputable def slices_IndexFunc_1_a : AC := (.seq .run (.seq (.seq .run (.block (.unit slices_IndexFunc_1_u0))) .run))
theorem slices_IndexFunc_1_s (x : TupL slices_IndexFunc_1_c.inp.hs) : E slices_IndexFunc_1_v (bodyOf Tryd.f115) (slices_IndexFunc_1_a) (slices_IndexFunc_1_c.entry x) (retSK tb slices_IndexFunc_1_v.fz slices_IndexFunc_1_c [.tmp 4] x) = slices_IndexFunc_1_c.F x := by kernel_rfl
theorem slices_IndexFunc_1_ok : ShOk Tryd.prog gl 115 slices_IndexFunc_1_c :=
  fn_ok (l := slices_IndexFunc_1_g) (n := Tryd.f115.ntmps) (code := bodyOf Tryd.f115) (rts := [.tmp 4]) tb_ok hord (slices_IndexFunc_1_gs) Tryd.func115 (by kernel_rfl) (by kernel_rfl) rfl (by kernel_rfl) (ac := slices_IndexFunc_1_a) (ob := [((subC (bodyOf Tryd.f115) [1, 0, 1, 0]), slices_IndexFunc_1_u0)]) (by kernel_rfl) (fun X hX => (obl_cons (slices_IndexFunc_1_u0_ok hX) obl_nil)) (by kernel_rfl) (slices_IndexFunc_1_s)

noncomputable def slices_ContainsFunc_1_c : ShC := { inp := ⟨[.hole, (.clo 93 [(.ptr 0 0)])], [.cells true [.hole]], [1, 1], [.sl (.one (.sl (.one (.int .i64)))), .sl (.one (.int .i64))]⟩, out := ⟨[.hole], [], [2], [.bool]⟩, nres := 1, ms := [], mu := [], leak := false, glob := false, F := fun (x : ((List (List Int)) × (List Int))) => slices_ContainsFunc_1 x.1 x.2 }
-- slices.ContainsFunc[[][]int,[]int]
noncomputable def slices_ContainsFunc_1_g : List (Nat × Con) := [(115, .gen (altE [slices_IndexFunc_1_c]))]
noncomputable def slices_ContainsFunc_1_v : Env := envOf tb gl slices_ContainsFunc_1_g slices_ContainsFunc_1_c Tryd.f92.ntmps
theorem slices_ContainsFunc_1_gs : Goods Tryd.prog (cond slices_ContainsFunc_1_c.glob gl fun _ => none) slices_ContainsFunc_1_g := (goods_cons (good_alt (alls_cons (slices_IndexFunc_1_ok.anyGl rfl) alls_nil)) goods_nil)
noncomputable def slices_ContainsFunc_1_a : AC := .run
theorem slices_ContainsFunc_1_s (x : TupL slices_ContainsFunc_1_c.inp.hs) : E slices_ContainsFunc_1_v (bodyOf Tryd.f92) (slices_ContainsFunc_1_a) (slices_ContainsFunc_1_c.entry x) (retSK tb slices_ContainsFunc_1_v.fz slices_ContainsFunc_1_c [.tmp 4] x) = slices_ContainsFunc_1_c.F x := by kernel_rfl
theorem slices_ContainsFunc_1_ok : ShOk Tryd.prog gl 92 slices_ContainsFunc_1_c :=
  fn_ok (l := slices_ContainsFunc_1_g) (n := Tryd.f92.ntmps) (code := bodyOf Tryd.f92) (rts := [.tmp 4]) tb_ok hord (slices_ContainsFunc_1_gs) Tryd.func92 (by kernel_rfl) (by kernel_rfl) rfl (by kernel_rfl) (ac := slices_ContainsFunc_1_a) (ob := []) (by kernel_rfl) (fun X hX => obl_nil) (by kernel_rfl) (slices_ContainsFunc_1_s)

noncomputable def clause_anew_c2_1_c : ShC := { inp := ⟨[.hole, (.aptr 0), (.ptr 1 0)], [.seq false, .cells false [.hole]], [1, 1, 1], [.sl (.one (.int .i64)), .sl (.one (.int .i64)), .int .i64]⟩, out := ⟨[(.view 0), (.aptr 1), (.ptr 2 0)], [.seq false, .seq false, .cells false [.hole]], [0, 0, 2], [.sl (.one (.int .i64)), .sl (.one (.int .i64)), .int .i64]⟩, nres := 1, ms := [1, 2], mu := [(0, 1), (1, 2)], leak := true, glob := false, F := fun (x : ((List Int) × (List Int) × Int)) => clause_anew_c2_1 x.1 x.2.1 x.2.2 }
-- clause.anew$2
noncomputable def clause_anew_c2_1_g : List (Nat × Con) := [(52, .gen (altE [term_Number_c])), (64, .gen (altE [slices_CloneN_c]))]
noncomputable def clause_anew_c2_1_v : Env := envOf tb gl clause_anew_c2_1_g clause_anew_c2_1_c Tryd.f94.ntmps
theorem clause_anew_c2_1_gs : Goods Tryd.prog (cond clause_anew_c2_1_c.glob gl fun _ => none) clause_anew_c2_1_g := (goods_cons (good_alt (alls_cons (term_Number_ok.anyGl rfl) alls_nil)) (goods_cons (good_alt (alls_cons (slices_CloneN_ok.anyGl rfl) alls_nil)) goods_nil))
noncomputable def clause_anew_c2_1_u0_h : SS := ⟨[1, 2, 5, 10, 11, 12], ⟨[(.aptr 0), (.ptr 1 0), (.view 2), (.view 2), .hole, .hole], [.seq false, .cells false [.hole], .seq false], [2, 2, 0, 2, 0], [.int .i64, .int .i64, .sl (.one (.int .i64)), .int .i64, .sl (.one (.int .i64))]⟩⟩
noncomputable def clause_anew_c2_1_u0_e : Exs := [((.exit 0), ⟨[1, 2, 5], ⟨[(.aptr 0), (.ptr 1 0), (.view 2)], [.seq false, .cells false [.hole], .seq false], [0, 2, 0], [.sl (.one (.int .i64)), .int .i64, .sl (.one (.int .i64))]⟩⟩)]
noncomputable def clause_anew_c2_1_u0_a : AC := .run
noncomputable def clause_anew_c2_1_u0 : Un := lpU clause_anew_c2_1_v.fz [13, 14, 15, 16, 6, 7, 17, 18, 19, 20, 21, 22, 23, 24, 25, 26, 27, 28, 29, 30, 31, 32, 33, 34, 35, 36, 37, 38, 12] clause_anew_c2_1_u0_h clause_anew_c2_1_u0_e (lp clause_anew_c2_1_L0 fuel)
theorem clause_anew_c2_1_u0_s (f : clause_anew_c2_1_u0_h.X → Option (YT clause_anew_c2_1_u0_e)) (x : clause_anew_c2_1_u0_h.X) : E clause_anew_c2_1_v (subC (bodyOf Tryd.f94) [1, 1, 0, 1, 0, 0]) (clause_anew_c2_1_u0_a) (mkS clause_anew_c2_1_u0_h 8 x) (roundK clause_anew_c2_1_v.fz clause_anew_c2_1_u0_h clause_anew_c2_1_u0_e f) = clause_anew_c2_1_L0 f x := by kernel_rfl
theorem clause_anew_c2_1_u0_ok {X : Fx} (hX : VOk Tryd.prog X clause_anew_c2_1_v) : UnOk Tryd.prog X clause_anew_c2_1_v (subC (bodyOf Tryd.f94) [1, 1, 0, 1, 0]) clause_anew_c2_1_u0 :=
  lp_un' (c := (subC (bodyOf Tryd.f94) [1, 1, 0, 1, 0, 0])) (by kernel_rfl) (env_all tb_ok (clause_anew_c2_1_gs)) hord (ob := []) (by kernel_rfl) (fun X hX => obl_nil) (clause_anew_c2_1_u0_s) (by kernel_rfl) (by kernel_rfl) hX
noncomputable def clause_anew_c2_1_a : AC := (.seq .run (.seq .run (.seq (.seq .run (.block (.unit clause_anew_c2_1_u0))) .run)))
theorem clause_anew_c2_1_s (x : TupL clause_anew_c2_1_c.inp.hs) : E clause_anew_c2_1_v (bodyOf Tryd.f94) (clause_anew_c2_1_a) (clause_anew_c2_1_c.entry x) (retSK tb clause_anew_c2_1_v.fz clause_anew_c2_1_c [.tmp 4] x) = clause_anew_c2_1_c.F x := by kernel_rfl
theorem clause_anew_c2_1_ok : ShOk Tryd.prog gl 94 clause_anew_c2_1_c :=
  fn_ok (l := clause_anew_c2_1_g) (n := Tryd.f94.ntmps) (code := bodyOf Tryd.f94) (rts := [.tmp 4]) tb_ok hord (clause_anew_c2_1_gs) Tryd.func94 (by kernel_rfl) (by kernel_rfl) rfl (by kernel_rfl) (ac := clause_anew_c2_1_a) (ob := [((subC (bodyOf Tryd.f94) [1, 1, 0, 1, 0]), clause_anew_c2_1_u0)]) (by kernel_rfl) (fun X hX => (obl_cons (clause_anew_c2_1_u0_ok hX) obl_nil)) (by kernel_rfl) (clause_anew_c2_1_s)

noncomputable def clause_each_1_c : ShC := { inp := ⟨[(.agg [.hole, .hole, .hole]), (.clo 94 [(.aptr 0), (.ptr 1 0)])], [.seq false, .cells false [.hole]], [1, 1, 1, 1, 1], [.sl tLit, .sl (.one (.sl (.one (.int .i64)))), .sl tLit, .sl (.one (.int .i64)), .int .i64]⟩, out := ⟨[(.agg [.hole, .hole, (.view 0)]), (.clo 94 [(.aptr 1), (.ptr 2 0)])], [.seq false, .seq false, .cells false [.hole]], [0, 0, 0, 0, 2], [.sl tLit, .sl (.one (.sl (.one (.int .i64)))), .sl tLit, .sl (.one (.int .i64)), .int .i64]⟩, nres := 1, ms := [1], mu := [(0, 1), (1, 2)], leak := true, glob := false, F := fun (x : ((List QLit) × (List (List Int)) × (List QLit) × (List Int) × Int)) => clause_each_1 x.1 x.2.1 x.2.2.1 x.2.2.2.1 x.2.2.2.2 }
-- clause.each
noncomputable def clause_each_1_g : List (Nat × Con) := [(94, .gen (altE [clause_anew_c2_1_c]))]
noncomputable def clause_each_1_v : Env := envOf tb gl clause_each_1_g clause_each_1_c Tryd.f71.ntmps
theorem clause_each_1_gs : Goods Tryd.prog (cond clause_each_1_c.glob gl fun _ => none) clause_each_1_g := (goods_cons (good_alt (alls_cons (clause_anew_c2_1_ok.anyGl rfl) alls_nil)) goods_nil)
noncomputable def clause_each_1_u2_h : SS := ⟨[1, 4, 5, 49, 50, 51], ⟨[(.clo 94 [(.aptr 0), (.ptr 1 0)]), (.ptr 2 0), (.ptr 3 0), .hole, .hole, .hole], [.seq false, .cells false [.hole], .cells true [.nilv, .nilv, .nilv], .cells false [.hole, .hole, (.view 4)], .seq false], [1, 2, 2, 0, 2, 0, 0, 0], [.sl tLit, .int .i64, .int .i64, .sl (.one (.int .i64)), .int .i64, .sl tLit, .sl (.one (.sl (.one (.int .i64)))), .sl tLit]⟩⟩
noncomputable def clause_each_1_u2_e : Exs := [((.exit 4), ⟨[1, 5], ⟨[(.clo 94 [(.aptr 0), (.ptr 1 0)]), (.ptr 2 0)], [.seq false, .cells false [.hole], .cells false [.hole, .hole, (.view 3)], .seq false], [0, 2, 0, 0, 0], [.sl (.one (.int .i64)), .int .i64, .sl tLit, .sl (.one (.sl (.one (.int .i64)))), .sl tLit]⟩⟩)]
noncomputable def clause_each_1_u2_a : AC := (.seq .run (.seq .run (.seq (.block (.seq .run (.hide [[8, 9], [8, 9], [8, 9], [8, 9], [], [], [], [], [], [], [], [], []]))) .run)))
noncomputable def clause_each_1_u2 : Un := lpU clause_each_1_v.fz [52, 53, 54, 11, 55, 56, 57, 58, 59, 60, 61, 62, 63, 64, 65, 66, 67, 51] clause_each_1_u2_h clause_each_1_u2_e (lp clause_each_1_L2 fuel)
theorem clause_each_1_u2_s (f : clause_each_1_u2_h.X → Option (YT clause_each_1_u2_e)) (x : clause_each_1_u2_h.X) : E clause_each_1_v (subC (bodyOf Tryd.f71) [1, 1, 1, 1, 0, 1, 0, 0]) (clause_each_1_u2_a) (mkS clause_each_1_u2_h 8 x) (roundK clause_each_1_v.fz clause_each_1_u2_h clause_each_1_u2_e f) = clause_each_1_L2 f x := by kernel_rfl
theorem clause_each_1_u2_ok {X : Fx} (hX : VOk Tryd.prog X clause_each_1_v) : UnOk Tryd.prog X clause_each_1_v (subC (bodyOf Tryd.f71) [1, 1, 1, 1, 0, 1, 0]) clause_each_1_u2 :=
  lp_un' (c := (subC (bodyOf Tryd.f71) [1, 1, 1, 1, 0, 1, 0, 0])) (by kernel_rfl) (env_all tb_ok (clause_each_1_gs)) hord (ob := []) (by kernel_rfl) (fun X hX => obl_nil) (clause_each_1_u2_s) (by kernel_rfl) (by kernel_rfl) hX
noncomputable def clause_each_1_u1_h : SS := ⟨[1, 2, 4, 5, 33, 34, 35], ⟨[(.clo 94 [(.aptr 0), (.ptr 1 0)]), (.ptr 2 0), (.ptr 3 0), (.ptr 4 0), .hole, .hole, .hole], [.seq false, .cells false [.hole], .cells true [.hole, .hole, .hole], .cells true [.nilv, .nilv, .nilv], .cells false [.hole, (.view 5), .nilv], .seq false], [1, 2, 2, 0, 2, 1, 1, 1, 0, 0], [.sl (.one (.sl (.one (.int .i64)))), .int .i64, .int .i64, .sl (.one (.int .i64)), .int .i64, .sl tLit, .sl (.one (.sl (.one (.int .i64)))), .sl tLit, .sl tLit, .sl (.one (.sl (.one (.int .i64))))]⟩⟩
noncomputable def clause_each_1_u1_e : Exs := [((.exit 2), ⟨[1, 5], ⟨[(.clo 94 [(.aptr 0), (.ptr 1 0)]), (.ptr 2 0)], [.seq false, .cells false [.hole], .cells false [.hole, (.view 3), .nilv], .seq false], [0, 2, 0, 0], [.sl (.one (.int .i64)), .int .i64, .sl tLit, .sl (.one (.sl (.one (.int .i64))))]⟩⟩)]
noncomputable def clause_each_1_u1_a : AC := (.seq .run (.seq .run (.seq (.block (.seq .run (.hide [[8, 9], [8, 9], [], [], [], [], [], [], []]))) .run)))
noncomputable def clause_each_1_u1 : Un := lpU clause_each_1_v.fz [36, 37, 38, 9, 39, 40, 41, 42, 43, 44, 45, 46, 47, 35] clause_each_1_u1_h clause_each_1_u1_e (lp clause_each_1_L1 fuel)
theorem clause_each_1_u1_s (f : clause_each_1_u1_h.X → Option (YT clause_each_1_u1_e)) (x : clause_each_1_u1_h.X) : E clause_each_1_v (subC (bodyOf Tryd.f71) [1, 1, 1, 0, 1, 0, 0]) (clause_each_1_u1_a) (mkS clause_each_1_u1_h 8 x) (roundK clause_each_1_v.fz clause_each_1_u1_h clause_each_1_u1_e f) = clause_each_1_L1 f x := by kernel_rfl
theorem clause_each_1_u1_ok {X : Fx} (hX : VOk Tryd.prog X clause_each_1_v) : UnOk Tryd.prog X clause_each_1_v (subC (bodyOf Tryd.f71) [1, 1, 1, 0, 1, 0]) clause_each_1_u1 :=
  lp_un' (c := (subC (bodyOf Tryd.f71) [1, 1, 1, 0, 1, 0, 0])) (by kernel_rfl) (env_all tb_ok (clause_each_1_gs)) hord (ob := []) (by kernel_rfl) (fun X hX => obl_nil) (clause_each_1_u1_s) (by kernel_rfl) (by kernel_rfl) hX
noncomputable def clause_each_1_u0_h : SS := ⟨[1, 2, 4, 5, 13, 14, 15], ⟨[(.clo 94 [(.aptr 0), (.ptr 1 0)]), (.ptr 2 0), (.ptr 3 0), (.ptr 4 0), .hole, .hole, .hole], [.seq false, .cells false [.hole], .cells true [.hole, .hole, .hole], .cells true [.nilv, .nilv, .nilv], .cells false [(.view 5), .nilv, .nilv], .seq false], [1, 2, 2, 0, 2, 1, 1, 1, 0], [.sl tLit, .int .i64, .int .i64, .sl (.one (.int .i64)), .int .i64, .sl tLit, .sl (.one (.sl (.one (.int .i64)))), .sl tLit, .sl tLit]⟩⟩
noncomputable def clause_each_1_u0_e : Exs := [((.exit 0), ⟨[1, 5], ⟨[(.clo 94 [(.aptr 0), (.ptr 1 0)]), (.ptr 2 0)], [.seq false, .cells false [.hole], .cells false [(.view 3), .nilv, .nilv], .seq false], [0, 2, 0], [.sl (.one (.int .i64)), .int .i64, .sl tLit]⟩⟩)]
noncomputable def clause_each_1_u0_a : AC := (.seq .run (.seq .run (.seq (.block (.seq .run (.hide [[8, 9], [8, 9], [8, 9], [8, 9], [], [], [], [], [], [], [], [], []]))) .run)))
noncomputable def clause_each_1_u0 : Un := lpU clause_each_1_v.fz [16, 17, 18, 7, 19, 20, 21, 22, 23, 24, 25, 26, 27, 28, 29, 30, 31, 15] clause_each_1_u0_h clause_each_1_u0_e (lp clause_each_1_L0 fuel)
theorem clause_each_1_u0_s (f : clause_each_1_u0_h.X → Option (YT clause_each_1_u0_e)) (x : clause_each_1_u0_h.X) : E clause_each_1_v (subC (bodyOf Tryd.f71) [1, 1, 0, 1, 0, 0]) (clause_each_1_u0_a) (mkS clause_each_1_u0_h 8 x) (roundK clause_each_1_v.fz clause_each_1_u0_h clause_each_1_u0_e f) = clause_each_1_L0 f x := by kernel_rfl
theorem clause_each_1_u0_ok {X : Fx} (hX : VOk Tryd.prog X clause_each_1_v) : UnOk Tryd.prog X clause_each_1_v (subC (bodyOf Tryd.f71) [1, 1, 0, 1, 0]) clause_each_1_u0 :=
  lp_un' (c := (subC (bodyOf Tryd.f71) [1, 1, 0, 1, 0, 0])) (by kernel_rfl) (env_all tb_ok (clause_each_1_gs)) hord (ob := []) (by kernel_rfl) (fun X hX => obl_nil) (clause_each_1_u0_s) (by kernel_rfl) (by kernel_rfl) hX
noncomputable def clause_each_1_a : AC := (.seq .run (.seq .run (.seq (.seq .run (.block (.unit clause_each_1_u0))) (.seq (.seq .run (.block (.unit clause_each_1_u1))) (.seq (.seq .run (.block (.unit clause_each_1_u2))) .run)))))
theorem clause_each_1_s (x : TupL clause_each_1_c.inp.hs) : E clause_each_1_v (bodyOf Tryd.f71) (clause_each_1_a) (clause_each_1_c.entry x) (retSK tb clause_each_1_v.fz clause_each_1_c [.cell 4 26] x) = clause_each_1_c.F x := by kernel_rfl
theorem clause_each_1_ok : ShOk Tryd.prog gl 71 clause_each_1_c :=
  fn_ok (l := clause_each_1_g) (n := Tryd.f71.ntmps) (code := bodyOf Tryd.f71) (rts := [.cell 4 26]) tb_ok hord (clause_each_1_gs) Tryd.func71 (by kernel_rfl) (by kernel_rfl) rfl (by kernel_rfl) (ac := clause_each_1_a) (ob := [((subC (bodyOf Tryd.f71) [1, 1, 0, 1, 0]), clause_each_1_u0), ((subC (bodyOf Tryd.f71) [1, 1, 1, 0, 1, 0]), clause_each_1_u1), ((subC (bodyOf Tryd.f71) [1, 1, 1, 1, 0, 1, 0]), clause_each_1_u2)]) (by kernel_rfl) (fun X hX => (obl_cons (clause_each_1_u0_ok hX) (obl_cons (clause_each_1_u1_ok hX) (obl_cons (clause_each_1_u2_ok hX) obl_nil)))) (by kernel_rfl) (clause_each_1_s)

noncomputable def clause_anew_c : ShC := { inp := ⟨[(.agg [.hole, .hole, .hole])], [], [1, 1, 1], [.sl tLit, .sl (.one (.sl (.one (.int .i64)))), .sl tLit]⟩, out := ⟨[(.agg [.hole, .hole, (.view 0)])], [.seq false], [0, 0, 0], [.sl tLit, .sl (.one (.sl (.one (.int .i64)))), .sl tLit]⟩, nres := 1, ms := [], mu := [], leak := true, glob := false, F := fun (x : ((List QLit) × (List (List Int)) × (List QLit))) => clause_anew x.1 x.2.1 x.2.2 }
-- clause.anew
noncomputable def clause_anew_g : List (Nat × Con) := [(71, .gen (altE [clause_each_1_c])), (91, .gen (altE [clause_once_c])), (92, .gen (altE [slices_ContainsFunc_1_c]))]
noncomputable def clause_anew_v : Env := envOf tb gl clause_anew_g clause_anew_c Tryd.f65.ntmps
theorem clause_anew_gs : Goods Tryd.prog (cond clause_anew_c.glob gl fun _ => none) clause_anew_g := (goods_cons (good_alt (alls_cons (clause_each_1_ok.anyGl rfl) alls_nil)) (goods_cons (good_alt (alls_cons (clause_once_ok.anyGl rfl) alls_nil)) (goods_cons (good_alt (alls_cons (slices_ContainsFunc_1_ok.anyGl rfl) alls_nil)) goods_nil)))
noncomputable def clause_anew_u0_h : SS := ⟨[2, 3, 16, 17, 18], ⟨[(.ptr 0 0), (.ptr 1 0), .hole, .hole, .hole], [.cells true [.nilv, .nilv, .nilv], .cells false [.hole, (.view 2), .hole], .seq false], [1, 2, 2, 0, 0, 0], [.sl (.one (.sl (.one (.int .i64)))), .int .i64, .int .i64, .sl tLit, .sl tLit, .sl (.one (.sl (.one (.int .i64))))]⟩⟩
noncomputable def clause_anew_u0_e : Exs := [((.exit 0), ⟨[3], ⟨[(.ptr 0 0)], [.cells false [.hole, (.view 1), .hole], .seq false], [0, 0, 0], [.sl tLit, .sl tLit, .sl (.one (.sl (.one (.int .i64))))]⟩⟩)]
noncomputable def clause_anew_u0_a : AC := .run
noncomputable def clause_anew_u0 : Un := lpU clause_anew_v.fz [19, 20, 21, 5, 22, 23, 24, 25, 26, 27, 28, 29, 30, 31, 32, 33, 18] clause_anew_u0_h clause_anew_u0_e (lp clause_anew_L0 fuel)
theorem clause_anew_u0_s (f : clause_anew_u0_h.X → Option (YT clause_anew_u0_e)) (x : clause_anew_u0_h.X) : E clause_anew_v (subC (bodyOf Tryd.f65) [1, 1, 0, 1, 0, 0]) (clause_anew_u0_a) (mkS clause_anew_u0_h 8 x) (roundK clause_anew_v.fz clause_anew_u0_h clause_anew_u0_e f) = clause_anew_L0 f x := by kernel_rfl
theorem clause_anew_u0_ok {X : Fx} (hX : VOk Tryd.prog X clause_anew_v) : UnOk Tryd.prog X clause_anew_v (subC (bodyOf Tryd.f65) [1, 1, 0, 1, 0]) clause_anew_u0 :=
  lp_un' (c := (subC (bodyOf Tryd.f65) [1, 1, 0, 1, 0, 0])) (by kernel_rfl) (env_all tb_ok (clause_anew_gs)) hord (ob := []) (by kernel_rfl) (fun X hX => obl_nil) (clause_anew_u0_s) (by kernel_rfl) (by kernel_rfl) hX
noncomputable def clause_anew_a : AC := (.seq .run (.seq .run (.seq (.seq .run (.block (.unit clause_anew_u0))) .run)))
theorem clause_anew_s (x : TupL clause_anew_c.inp.hs) : E clause_anew_v (bodyOf Tryd.f65) (clause_anew_a) (clause_anew_c.entry x) (retSK tb clause_anew_v.fz clause_anew_c [.cell 2 26] x) = clause_anew_c.F x := by kernel_rfl
theorem clause_anew_ok : ShOk Tryd.prog gl 65 clause_anew_c :=
  fn_ok (l := clause_anew_g) (n := Tryd.f65.ntmps) (code := bodyOf Tryd.f65) (rts := [.cell 2 26]) tb_ok hord (clause_anew_gs) Tryd.func65 (by kernel_rfl) (by kernel_rfl) rfl (by kernel_rfl) (ac := clause_anew_a) (ob := [((subC (bodyOf Tryd.f65) [1, 1, 0, 1, 0]), clause_anew_u0)]) (by kernel_rfl) (fun X hX => (obl_cons (clause_anew_u0_ok hX) obl_nil)) (by kernel_rfl) (clause_anew_s)

noncomputable def clause_Normal_c : ShC := { inp := ⟨[.hole, (.agg [.hole, .hole, .hole])], [], [1, 1, 1, 1], [.sl tSym, .sl tLit, .sl (.one (.sl (.one (.int .i64)))), .sl tLit]⟩, out := ⟨[(.agg [.hole, .hole, (.view 0)]), .hole], [.seq false], [0, 0, 2, 0], [.sl tLit, .sl (.one (.sl (.one (.int .i64)))), .int .i64, .sl tLit]⟩, nres := 2, ms := [], mu := [], leak := true, glob := true, F := fun (x : ((List QSym) × (List QLit) × (List (List Int)) × (List QLit))) => clause_Normal x.1 x.2.1 x.2.2.1 x.2.2.2 }
-- clause.Normal
noncomputable def clause_Normal_g : List (Nat × Con) := [(21, .gen (altE [clause_May_c])), (65, .gen (altE [clause_anew_c]))]
noncomputable def clause_Normal_v : Env := envOf tb gl clause_Normal_g clause_Normal_c Tryd.f40.ntmps
theorem clause_Normal_gs : Goods Tryd.prog (cond clause_Normal_c.glob gl fun _ => none) clause_Normal_g := (goods_cons (good_alt (alls_cons clause_May_ok alls_nil)) (goods_cons (good_alt (alls_cons (clause_anew_ok.anyGl rfl) alls_nil)) goods_nil))
noncomputable def clause_Normal_a : AC := .run
theorem clause_Normal_s (x : TupL clause_Normal_c.inp.hs) : E clause_Normal_v (bodyOf Tryd.f40) (clause_Normal_a) (clause_Normal_c.entry x) (retSK tb clause_Normal_v.fz clause_Normal_c [.cell 4 26, .tmp 5] x) = clause_Normal_c.F x := by kernel_rfl
theorem clause_Normal_ok : ShOk Tryd.prog gl 40 clause_Normal_c :=
  fn_ok (l := clause_Normal_g) (n := Tryd.f40.ntmps) (code := bodyOf Tryd.f40) (rts := [.cell 4 26, .tmp 5]) tb_ok hord (clause_Normal_gs) Tryd.func40 (by kernel_rfl) (by kernel_rfl) rfl (by kernel_rfl) (ac := clause_Normal_a) (ob := []) (by kernel_rfl) (fun X hX => obl_nil) (by kernel_rfl) (clause_Normal_s)

noncomputable def resolve_one_c : ShC := { inp := ⟨[.hole, (.agg [.hole, .hole, .hole]), .hole, (.agg [.hole, .hole, .hole]), .hole], [], [1, 1, 1, 1, 1, 1, 1, 1, 1], [.sl tSym, .sl tLit, .sl (.one (.sl (.one (.int .i64)))), .sl tLit, .int .i64, .sl tLit, .sl (.one (.sl (.one (.int .i64)))), .sl tLit, .int .i64]⟩, out := ⟨[(.agg [.hole, .hole, (.view 0)]), .hole, .hole], [.seq false], [0, 0, 2, 2, 0], [.sl tLit, .sl (.one (.sl (.one (.int .i64)))), .bool, .int .i64, .sl tLit]⟩, nres := 3, ms := [], mu := [], leak := true, glob := true, F := fun (x : ((List QSym) × (List QLit) × (List (List Int)) × (List QLit) × Int × (List QLit) × (List (List Int)) × (List QLit) × Int)) => resolve_one x.1 x.2.1 x.2.2.1 x.2.2.2.1 x.2.2.2.2.1 x.2.2.2.2.2.1 x.2.2.2.2.2.2.1 x.2.2.2.2.2.2.2.1 x.2.2.2.2.2.2.2.2 }
-- resolve.one
noncomputable def resolve_one_g : List (Nat × Con) := [(38, .gen (altE [resolve_Both_c])), (40, .gen (altE [clause_Normal_c])), (45, .gen (altE [unify_Unify_c])), (46, .gen (altE [clause_On_c])), (48, .gen (altE [resolve_Apart_c]))]
noncomputable def resolve_one_v : Env := envOf tb gl resolve_one_g resolve_one_c Tryd.f28.ntmps
theorem resolve_one_gs : Goods Tryd.prog (cond resolve_one_c.glob gl fun _ => none) resolve_one_g := (goods_cons (good_alt (alls_cons (resolve_Both_ok.anyGl rfl) alls_nil)) (goods_cons (good_alt (alls_cons clause_Normal_ok alls_nil)) (goods_cons (good_alt (alls_cons unify_Unify_ok alls_nil)) (goods_cons (good_alt (alls_cons (clause_On_ok.anyGl rfl) alls_nil)) (goods_cons (good_alt (alls_cons resolve_Apart_ok alls_nil)) goods_nil)))))
noncomputable def resolve_one_a : AC := .run
theorem resolve_one_s (x : TupL resolve_one_c.inp.hs) : E resolve_one_v (bodyOf Tryd.f28) (resolve_one_a) (resolve_one_c.entry x) (retSK tb resolve_one_v.fz resolve_one_c [.cell 10 26, .tmp 11, .tmp 12] x) = resolve_one_c.F x := by kernel_rfl
theorem resolve_one_ok : ShOk Tryd.prog gl 28 resolve_one_c :=
  fn_ok (l := resolve_one_g) (n := Tryd.f28.ntmps) (code := bodyOf Tryd.f28) (rts := [.cell 10 26, .tmp 11, .tmp 12]) tb_ok hord (resolve_one_gs) Tryd.func28 (by kernel_rfl) (by kernel_rfl) rfl (by kernel_rfl) (ac := resolve_one_a) (ob := []) (by kernel_rfl) (fun X hX => obl_nil) (by kernel_rfl) (resolve_one_s)

noncomputable def resolve_One_c : ShC := { inp := ⟨[.hole, (.agg [.hole, .hole, .hole]), .hole, (.agg [.hole, .hole, .hole]), .hole], [], [1, 1, 1, 1, 1, 1, 1, 1, 1], [.sl tSym, .sl tLit, .sl (.one (.sl (.one (.int .i64)))), .sl tLit, .int .i64, .sl tLit, .sl (.one (.sl (.one (.int .i64)))), .sl tLit, .int .i64]⟩, out := ⟨[(.agg [.hole, .hole, (.view 0)]), .hole, .hole], [.seq false], [0, 0, 2, 2, 0], [.sl tLit, .sl (.one (.sl (.one (.int .i64)))), .bool, .int .i64, .sl tLit]⟩, nres := 3, ms := [], mu := [], leak := true, glob := true, F := fun (x : ((List QSym) × (List QLit) × (List (List Int)) × (List QLit) × Int × (List QLit) × (List (List Int)) × (List QLit) × Int)) => resolve_One x.1 x.2.1 x.2.2.1 x.2.2.2.1 x.2.2.2.2.1 x.2.2.2.2.2.1 x.2.2.2.2.2.2.1 x.2.2.2.2.2.2.2.1 x.2.2.2.2.2.2.2.2 }
-- resolve.One
noncomputable def resolve_One_g : List (Nat × Con) := [(21, .gen (altE [clause_May_c])), (27, .gen (altE [resolve_place_c])), (28, .gen (altE [resolve_one_c]))]
noncomputable def resolve_One_v : Env := envOf tb gl resolve_One_g resolve_One_c Tryd.f12.ntmps
theorem resolve_One_gs : Goods Tryd.prog (cond resolve_One_c.glob gl fun _ => none) resolve_One_g := (goods_cons (good_alt (alls_cons clause_May_ok alls_nil)) (goods_cons (good_alt (alls_cons (resolve_place_ok.anyGl rfl) alls_nil)) (goods_cons (good_alt (alls_cons resolve_one_ok alls_nil)) goods_nil)))
noncomputable def resolve_One_a : AC := .run
theorem resolve_One_s (x : TupL resolve_One_c.inp.hs) : E resolve_One_v (bodyOf Tryd.f12) (resolve_One_a) (resolve_One_c.entry x) (retSK tb resolve_One_v.fz resolve_One_c [.cell 10 26, .tmp 11, .tmp 12] x) = resolve_One_c.F x := by kernel_rfl
theorem resolve_One_ok : ShOk Tryd.prog gl 12 resolve_One_c :=
  fn_ok (l := resolve_One_g) (n := Tryd.f12.ntmps) (code := bodyOf Tryd.f12) (rts := [.cell 10 26, .tmp 11, .tmp 12]) tb_ok hord (resolve_One_gs) Tryd.func12 (by kernel_rfl) (by kernel_rfl) rfl (by kernel_rfl) (ac := resolve_One_a) (ob := []) (by kernel_rfl) (fun X hX => obl_nil) (by kernel_rfl) (resolve_One_s)

noncomputable def lit_Tops_c1_c : ShC := { inp := ⟨[(.agg [.hole, .hole]), (.ptr 0 0)], [.cells true [.hole]], [1, 1, 1], [.bool, .sl (.one (.int .i64)), .sl tSym]⟩, out := ⟨[.hole], [], [2], [.bool]⟩, nres := 1, ms := [], mu := [], leak := false, glob := true, F := fun (x : (Bool × (List Int) × (List QSym))) => lit_Tops_c1 x.1 x.2.1 x.2.2 }
-- lit.Tops$1
noncomputable def lit_Tops_c1_g : List (Nat × Con) := [(13, .gen (altE [lit_May_c]))]
noncomputable def lit_Tops_c1_v : Env := envOf tb gl lit_Tops_c1_g lit_Tops_c1_c Tryd.f58.ntmps
theorem lit_Tops_c1_gs : Goods Tryd.prog (cond lit_Tops_c1_c.glob gl fun _ => none) lit_Tops_c1_g := (goods_cons (good_alt (alls_cons lit_May_ok alls_nil)) goods_nil)
noncomputable def lit_Tops_c1_a : AC := .run
theorem lit_Tops_c1_s (x : TupL lit_Tops_c1_c.inp.hs) : E lit_Tops_c1_v (bodyOf Tryd.f58) (lit_Tops_c1_a) (lit_Tops_c1_c.entry x) (retSK tb lit_Tops_c1_v.fz lit_Tops_c1_c [.tmp 3] x) = lit_Tops_c1_c.F x := by kernel_rfl
theorem lit_Tops_c1_ok : ShOk Tryd.prog gl 58 lit_Tops_c1_c :=
  fn_ok (l := lit_Tops_c1_g) (n := Tryd.f58.ntmps) (code := bodyOf Tryd.f58) (rts := [.tmp 3]) tb_ok hord (lit_Tops_c1_gs) Tryd.func58 (by kernel_rfl) (by kernel_rfl) rfl (by kernel_rfl) (ac := lit_Tops_c1_a) (ob := []) (by kernel_rfl) (fun X hX => obl_nil) (by kernel_rfl) (lit_Tops_c1_s)

noncomputable def slices_IndexFunc_6_c : ShC := { inp := ⟨[.hole, (.clo 58 [(.ptr 0 0)])], [.cells true [.hole]], [1, 1], [.sl tLit, .sl tSym]⟩, out := ⟨[.hole], [], [2], [.int .i64]⟩, nres := 1, ms := [], mu := [], leak := false, glob := true, F := fun (x : ((List QLit) × (List QSym))) => slices_IndexFunc_6 x.1 x.2 }
-- slices.IndexFunc[[]api.Lit,api.Lit]
noncomputable def slices_IndexFunc_6_g : List (Nat × Con) := [(58, .gen (altE [lit_Tops_c1_c]))]
noncomputable def slices_IndexFunc_6_v : Env := envOf tb gl slices_IndexFunc_6_g slices_IndexFunc_6_c Tryd.f85.ntmps
theorem slices_IndexFunc_6_gs : Goods Tryd.prog (cond slices_IndexFunc_6_c.glob gl fun _ => none) slices_IndexFunc_6_g := (goods_cons (good_alt (alls_cons lit_Tops_c1_ok alls_nil)) goods_nil)
noncomputable def slices_IndexFunc_6_u0_h : SS := ⟨[0, 1, 7, 8], ⟨[.hole, (.clo 58 [(.ptr 0 0)]), .hole, .hole], [.cells true [.hole]], [1, 2, 2, 1], [.sl tLit, .int .i64, .int .i64, .sl tSym]⟩⟩
noncomputable def slices_IndexFunc_6_u0_e : Exs := [((.exit 0), ⟨[], ⟨[], [], [], []⟩⟩), (.ret, ⟨[4], ⟨[.hole], [], [2], [.int .i64]⟩⟩)]
noncomputable def slices_IndexFunc_6_u0_a : AC := .run
noncomputable def slices_IndexFunc_6_u0 : Un := lpU slices_IndexFunc_6_v.fz [9, 10, 5, 11, 12, 13, 14, 15, 16, 17, 4, 18, 8] slices_IndexFunc_6_u0_h slices_IndexFunc_6_u0_e (lp slices_IndexFunc_6_L0 fuel)
theorem slices_IndexFunc_6_u0_s (f : slices_IndexFunc_6_u0_h.X → Option (YT slices_IndexFunc_6_u0_e)) (x : slices_IndexFunc_6_u0_h.X) : E slices_IndexFunc_6_v (subC (bodyOf Tryd.f85) [1, 0, 1, 0, 0]) (slices_IndexFunc_6_u0_a) (mkS slices_IndexFunc_6_u0_h 8 x) (roundK slices_IndexFunc_6_v.fz slices_IndexFunc_6_u0_h slices_IndexFunc_6_u0_e f) = slices_IndexFunc_6_L0 f x := by kernel_rfl
theorem slices_IndexFunc_6_u0_ok {X : Fx} (hX : VOk Tryd.prog X slices_IndexFunc_6_v) : UnOk Tryd.prog X slices_IndexFunc_6_v (subC (bodyOf Tryd.f85) [1, 0, 1, 0]) slices_IndexFunc_6_u0 :=
  lp_un' (c := (subC (bodyOf Tryd.f85) [1, 0, 1, 0, 0])) (by kernel_rfl) (env_all tb_ok (slices_IndexFunc_6_gs)) hord (ob := []) (by kernel_rfl) (fun X hX => obl_nil) (slices_IndexFunc_6_u0_s) (by kernel_rfl) (by kernel_rfl) hX
noncomputable def slices_IndexFunc_6_a : AC := (.seq .run (.seq (.seq .run (.block (.unit slices_IndexFunc_6_u0))) .run))
theorem slices_IndexFunc_6_s (x : TupL slices_IndexFunc_6_c.inp.hs) : E slices_IndexFunc_6_v (bodyOf Tryd.f85) (slices_IndexFunc_6_a) (slices_IndexFunc_6_c.entry x) (retSK tb slices_IndexFunc_6_v.fz slices_IndexFunc_6_c [.tmp 4] x) = slices_IndexFunc_6_c.F x := by kernel_rfl
theorem slices_IndexFunc_6_ok : ShOk Tryd.prog gl 85 slices_IndexFunc_6_c :=
  fn_ok (l := slices_IndexFunc_6_g) (n := Tryd.f85.ntmps) (code := bodyOf Tryd.f85) (rts := [.tmp 4]) tb_ok hord (slices_IndexFunc_6_gs) Tryd.func85 (by kernel_rfl) (by kernel_rfl) rfl (by kernel_rfl) (ac := slices_IndexFunc_6_a) (ob := [((subC (bodyOf Tryd.f85) [1, 0, 1, 0]), slices_IndexFunc_6_u0)]) (by kernel_rfl) (fun X hX => (obl_cons (slices_IndexFunc_6_u0_ok hX) obl_nil)) (by kernel_rfl) (slices_IndexFunc_6_s)

noncomputable def slices_ContainsFunc_6_c : ShC := { inp := ⟨[.hole, (.clo 58 [(.ptr 0 0)])], [.cells true [.hole]], [1, 1], [.sl tLit, .sl tSym]⟩, out := ⟨[.hole], [], [2], [.bool]⟩, nres := 1, ms := [], mu := [], leak := false, glob := true, F := fun (x : ((List QLit) × (List QSym))) => slices_ContainsFunc_6 x.1 x.2 }
-- slices.ContainsFunc[[]api.Lit,api.Lit]
noncomputable def slices_ContainsFunc_6_g : List (Nat × Con) := [(85, .gen (altE [slices_IndexFunc_6_c]))]
noncomputable def slices_ContainsFunc_6_v : Env := envOf tb gl slices_ContainsFunc_6_g slices_ContainsFunc_6_c Tryd.f57.ntmps
theorem slices_ContainsFunc_6_gs : Goods Tryd.prog (cond slices_ContainsFunc_6_c.glob gl fun _ => none) slices_ContainsFunc_6_g := (goods_cons (good_alt (alls_cons slices_IndexFunc_6_ok alls_nil)) goods_nil)
noncomputable def slices_ContainsFunc_6_a : AC := .run
theorem slices_ContainsFunc_6_s (x : TupL slices_ContainsFunc_6_c.inp.hs) : E slices_ContainsFunc_6_v (bodyOf Tryd.f57) (slices_ContainsFunc_6_a) (slices_ContainsFunc_6_c.entry x) (retSK tb slices_ContainsFunc_6_v.fz slices_ContainsFunc_6_c [.tmp 4] x) = slices_ContainsFunc_6_c.F x := by kernel_rfl
theorem slices_ContainsFunc_6_ok : ShOk Tryd.prog gl 57 slices_ContainsFunc_6_c :=
  fn_ok (l := slices_ContainsFunc_6_g) (n := Tryd.f57.ntmps) (code := bodyOf Tryd.f57) (rts := [.tmp 4]) tb_ok hord (slices_ContainsFunc_6_gs) Tryd.func57 (by kernel_rfl) (by kernel_rfl) rfl (by kernel_rfl) (ac := slices_ContainsFunc_6_a) (ob := []) (by kernel_rfl) (fun X hX => obl_nil) (by kernel_rfl) (slices_ContainsFunc_6_s)

noncomputable def term_IsTerm_c : ShC := { inp := ⟨[.hole, .hole], [], [1, 1], [.sl tSym, .sl (.one (.int .i64))]⟩, out := ⟨[.hole], [], [2], [.bool]⟩, nres := 1, ms := [], mu := [], leak := false, glob := true, F := fun (x : ((List QSym) × (List Int))) => term_IsTerm x.1 x.2 }
-- term.IsTerm
noncomputable def term_IsTerm_g : List (Nat × Con) := [(49, .gen (altE [term_begins_c]))]
noncomputable def term_IsTerm_v : Env := envOf tb gl term_IsTerm_g term_IsTerm_c Tryd.f110.ntmps
theorem term_IsTerm_gs : Goods Tryd.prog (cond term_IsTerm_c.glob gl fun _ => none) term_IsTerm_g := (goods_cons (good_alt (alls_cons term_begins_ok alls_nil)) goods_nil)
noncomputable def term_IsTerm_a : AC := .run
theorem term_IsTerm_s (x : TupL term_IsTerm_c.inp.hs) : E term_IsTerm_v (bodyOf Tryd.f110) (term_IsTerm_a) (term_IsTerm_c.entry x) (retSK tb term_IsTerm_v.fz term_IsTerm_c [.tmp 4] x) = term_IsTerm_c.F x := by kernel_rfl
theorem term_IsTerm_ok : ShOk Tryd.prog gl 110 term_IsTerm_c :=
  fn_ok (l := term_IsTerm_g) (n := Tryd.f110.ntmps) (code := bodyOf Tryd.f110) (rts := [.tmp 4]) tb_ok hord (term_IsTerm_gs) Tryd.func110 (by kernel_rfl) (by kernel_rfl) rfl (by kernel_rfl) (ac := term_IsTerm_a) (ob := []) (by kernel_rfl) (fun X hX => obl_nil) (by kernel_rfl) (term_IsTerm_s)

noncomputable def order_often_c : ShC := { inp := ⟨[.hole], [], [1], [.sl (.one (.int .i64))]⟩, out := ⟨[.hole], [], [2], [.ar (.one (.int .i64)) 24]⟩, nres := 1, ms := [], mu := [], leak := false, glob := false, F := fun (x : (List Int)) => order_often x }
-- order.often
noncomputable def order_often_g : List (Nat × Con) := [(52, .gen (altE [term_Number_c]))]
noncomputable def order_often_v : Env := envOf tb gl order_often_g order_often_c Tryd.f127.ntmps
theorem order_often_gs : Goods Tryd.prog (cond order_often_c.glob gl fun _ => none) order_often_g := (goods_cons (good_alt (alls_cons (term_Number_ok.anyGl rfl) alls_nil)) goods_nil)
noncomputable def order_often_u0_h : SS := ⟨[2, 5, 6, 7], ⟨[(.aptr 0), .hole, .hole, .hole], [.seq false], [1, 2, 2, 2], [.sl (.one (.int .i64)), .int .i64, .int .i64, .sl (.one (.int .i64))]⟩⟩
noncomputable def order_often_u0_e : Exs := [((.exit 0), ⟨[2], ⟨[(.aptr 0)], [.seq false], [2], [.sl (.one (.int .i64))]⟩⟩)]
noncomputable def order_often_u0_a : AC := .run
noncomputable def order_often_u0 : Un := lpU order_often_v.fz [8, 9, 10, 4, 11, 12, 13, 14, 15, 16, 17, 18, 19, 7] order_often_u0_h order_often_u0_e (lp order_often_L0 fuel)
theorem order_often_u0_s (f : order_often_u0_h.X → Option (YT order_often_u0_e)) (x : order_often_u0_h.X) : E order_often_v (subC (bodyOf Tryd.f127) [1, 0, 1, 0, 0]) (order_often_u0_a) (mkS order_often_u0_h 8 x) (roundK order_often_v.fz order_often_u0_h order_often_u0_e f) = order_often_L0 f x := by kernel_rfl
theorem order_often_u0_ok {X : Fx} (hX : VOk Tryd.prog X order_often_v) : UnOk Tryd.prog X order_often_v (subC (bodyOf Tryd.f127) [1, 0, 1, 0]) order_often_u0 :=
  lp_un' (c := (subC (bodyOf Tryd.f127) [1, 0, 1, 0, 0])) (by kernel_rfl) (env_all tb_ok (order_often_gs)) hord (ob := []) (by kernel_rfl) (fun X hX => obl_nil) (order_often_u0_s) (by kernel_rfl) (by kernel_rfl) hX
noncomputable def order_often_a : AC := (.seq .run (.seq (.seq .run (.block (.unit order_often_u0))) .run))
theorem order_often_s (x : TupL order_often_c.inp.hs) : E order_often_v (bodyOf Tryd.f127) (order_often_a) (order_often_c.entry x) (retSK tb order_often_v.fz order_often_c [.cell 2 141] x) = order_often_c.F x := by kernel_rfl
theorem order_often_ok : ShOk Tryd.prog gl 127 order_often_c :=
  fn_ok (l := order_often_g) (n := Tryd.f127.ntmps) (code := bodyOf Tryd.f127) (rts := [.cell 2 141]) tb_ok hord (order_often_gs) Tryd.func127 (by kernel_rfl) (by kernel_rfl) rfl (by kernel_rfl) (ac := order_often_a) (ob := [((subC (bodyOf Tryd.f127) [1, 0, 1, 0]), order_often_u0)]) (by kernel_rfl) (fun X hX => (obl_cons (order_often_u0_ok hX) obl_nil)) (by kernel_rfl) (order_often_s)

noncomputable def order_covers_c : ShC := { inp := ⟨[.hole, .hole], [], [1, 1], [.sl (.one (.int .i64)), .sl (.one (.int .i64))]⟩, out := ⟨[.hole], [], [2], [.bool]⟩, nres := 1, ms := [], mu := [], leak := false, glob := false, F := fun (x : ((List Int) × (List Int))) => order_covers x.1 x.2 }
-- order.covers
noncomputable def order_covers_g : List (Nat × Con) := [(127, .gen (altE [order_often_c]))]
noncomputable def order_covers_v : Env := envOf tb gl order_covers_g order_covers_c Tryd.f123.ntmps
theorem order_covers_gs : Goods Tryd.prog (cond order_covers_c.glob gl fun _ => none) order_covers_g := (goods_cons (good_alt (alls_cons (order_often_ok.anyGl rfl) alls_nil)) goods_nil)
noncomputable def order_covers_u0_h : SS := ⟨[5, 6, 12], ⟨[(.aptr 0), (.aptr 1), .hole], [.seq false, .seq false], [2, 2, 2], [.int .i64, .sl (.one (.int .i64)), .sl (.one (.int .i64))]⟩⟩
noncomputable def order_covers_u0_e : Exs := [((.exit 0), ⟨[], ⟨[], [], [], []⟩⟩), (.ret, ⟨[4], ⟨[.hole], [], [2], [.bool]⟩⟩)]
noncomputable def order_covers_u0_a : AC := .run
noncomputable def order_covers_u0 : Un := lpU order_covers_v.fz [13, 14, 7, 15, 16, 17, 18, 19, 20, 21, 4, 22, 12] order_covers_u0_h order_covers_u0_e (lp order_covers_L0 fuel)
theorem order_covers_u0_s (f : order_covers_u0_h.X → Option (YT order_covers_u0_e)) (x : order_covers_u0_h.X) : E order_covers_v (subC (bodyOf Tryd.f123) [1, 1, 0, 1, 0, 0]) (order_covers_u0_a) (mkS order_covers_u0_h 8 x) (roundK order_covers_v.fz order_covers_u0_h order_covers_u0_e f) = order_covers_L0 f x := by kernel_rfl
theorem order_covers_u0_ok {X : Fx} (hX : VOk Tryd.prog X order_covers_v) : UnOk Tryd.prog X order_covers_v (subC (bodyOf Tryd.f123) [1, 1, 0, 1, 0]) order_covers_u0 :=
  lp_un' (c := (subC (bodyOf Tryd.f123) [1, 1, 0, 1, 0, 0])) (by kernel_rfl) (env_all tb_ok (order_covers_gs)) hord (ob := []) (by kernel_rfl) (fun X hX => obl_nil) (order_covers_u0_s) (by kernel_rfl) (by kernel_rfl) hX
noncomputable def order_covers_a : AC := (.seq .run (.seq .run (.seq (.seq .run (.block (.unit order_covers_u0))) .run)))
theorem order_covers_s (x : TupL order_covers_c.inp.hs) : E order_covers_v (bodyOf Tryd.f123) (order_covers_a) (order_covers_c.entry x) (retSK tb order_covers_v.fz order_covers_c [.tmp 4] x) = order_covers_c.F x := by kernel_rfl
theorem order_covers_ok : ShOk Tryd.prog gl 123 order_covers_c :=
  fn_ok (l := order_covers_g) (n := Tryd.f123.ntmps) (code := bodyOf Tryd.f123) (rts := [.tmp 4]) tb_ok hord (order_covers_gs) Tryd.func123 (by kernel_rfl) (by kernel_rfl) rfl (by kernel_rfl) (ac := order_covers_a) (ob := [((subC (bodyOf Tryd.f123) [1, 1, 0, 1, 0]), order_covers_u0)]) (by kernel_rfl) (fun X hX => (obl_cons (order_covers_u0_ok hX) obl_nil)) (by kernel_rfl) (order_covers_s)

noncomputable def term_Sum_c : ShC := { inp := ⟨[.hole, .hole], [], [1, 1], [.sl tSym, .sl (.one (.int .i64))]⟩, out := ⟨[.hole], [], [2], [.int .i64]⟩, nres := 1, ms := [], mu := [], leak := false, glob := false, F := fun (x : ((List QSym) × (List Int))) => term_Sum x.1 x.2 }
-- term.Sum
noncomputable def term_Sum_g : List (Nat × Con) := []
noncomputable def term_Sum_v : Env := envOf tb gl term_Sum_g term_Sum_c Tryd.f124.ntmps
theorem term_Sum_gs : Goods Tryd.prog (cond term_Sum_c.glob gl fun _ => none) term_Sum_g := goods_nil
noncomputable def term_Sum_u0_h : SS := ⟨[0, 5, 8, 9, 10], ⟨[.hole, .hole, .hole, .hole, .hole], [], [1, 2, 1, 2, 2], [.sl tSym, .int .i64, .sl (.one (.int .i64)), .int .i64, .int .i64]⟩⟩
noncomputable def term_Sum_u0_e : Exs := [((.exit 0), ⟨[5], ⟨[.hole], [], [2], [.int .i64]⟩⟩)]
noncomputable def term_Sum_u0_a : AC := .run
noncomputable def term_Sum_u0 : Un := lpU term_Sum_v.fz [11, 12, 13, 7, 14, 15, 16, 17, 5, 18, 19, 20, 21, 22, 23, 24, 5, 25, 10] term_Sum_u0_h term_Sum_u0_e (lp term_Sum_L0 fuel)
theorem term_Sum_u0_s (f : term_Sum_u0_h.X → Option (YT term_Sum_u0_e)) (x : term_Sum_u0_h.X) : E term_Sum_v (subC (bodyOf Tryd.f124) [1, 1, 0, 1, 0, 0]) (term_Sum_u0_a) (mkS term_Sum_u0_h 8 x) (roundK term_Sum_v.fz term_Sum_u0_h term_Sum_u0_e f) = term_Sum_L0 f x := by kernel_rfl
theorem term_Sum_u0_ok {X : Fx} (hX : VOk Tryd.prog X term_Sum_v) : UnOk Tryd.prog X term_Sum_v (subC (bodyOf Tryd.f124) [1, 1, 0, 1, 0]) term_Sum_u0 :=
  lp_un' (c := (subC (bodyOf Tryd.f124) [1, 1, 0, 1, 0, 0])) (by kernel_rfl) (env_all tb_ok (term_Sum_gs)) hord (ob := []) (by kernel_rfl) (fun X hX => obl_nil) (term_Sum_u0_s) (by kernel_rfl) (by kernel_rfl) hX
noncomputable def term_Sum_a : AC := (.seq .run (.seq .run (.seq (.seq .run (.block (.unit term_Sum_u0))) .run)))
theorem term_Sum_s (x : TupL term_Sum_c.inp.hs) : E term_Sum_v (bodyOf Tryd.f124) (term_Sum_a) (term_Sum_c.entry x) (retSK tb term_Sum_v.fz term_Sum_c [.tmp 4] x) = term_Sum_c.F x := by kernel_rfl
theorem term_Sum_ok : ShOk Tryd.prog gl 124 term_Sum_c :=
  fn_ok (l := term_Sum_g) (n := Tryd.f124.ntmps) (code := bodyOf Tryd.f124) (rts := [.tmp 4]) tb_ok hord (term_Sum_gs) Tryd.func124 (by kernel_rfl) (by kernel_rfl) rfl (by kernel_rfl) (ac := term_Sum_a) (ob := [((subC (bodyOf Tryd.f124) [1, 1, 0, 1, 0]), term_Sum_u0)]) (by kernel_rfl) (fun X hX => (obl_cons (term_Sum_u0_ok hX) obl_nil)) (by kernel_rfl) (term_Sum_s)

noncomputable def order_unlike_c : ShC := { inp := ⟨[.hole, .hole, .hole], [], [1, 1, 1], [.sl tSym, .sl (.one (.int .i64)), .sl (.one (.int .i64))]⟩, out := ⟨[.hole, .hole], [], [0, 0], [.sl (.one (.int .i64)), .sl (.one (.int .i64))]⟩, nres := 2, ms := [], mu := [], leak := true, glob := false, F := fun (x : ((List QSym) × (List Int) × (List Int))) => order_unlike x.1 x.2.1 x.2.2 }
-- order.unlike
noncomputable def order_unlike_g : List (Nat × Con) := [(89, .gen (altE [slices_Equal_c])), (112, .gen (altE [term_Pieces_c]))]
noncomputable def order_unlike_v : Env := envOf tb gl order_unlike_g order_unlike_c Tryd.f125.ntmps
theorem order_unlike_gs : Goods Tryd.prog (cond order_unlike_c.glob gl fun _ => none) order_unlike_g := (goods_cons (good_alt (alls_cons (slices_Equal_ok.anyGl rfl) alls_nil)) (goods_cons (good_alt (alls_cons (term_Pieces_ok.anyGl rfl) alls_nil)) goods_nil))
noncomputable def order_unlike_u0_h : SS := ⟨[8, 16, 17, 18], ⟨[.hole, .hole, .hole, .hole], [], [0, 0, 2, 2], [.sl (.one (.sl (.one (.int .i64)))), .sl (.one (.sl (.one (.int .i64)))), .int .i64, .int .i64]⟩⟩
noncomputable def order_unlike_u0_e : Exs := [((.exit 0), ⟨[], ⟨[], [], [], []⟩⟩), (.ret, ⟨[6, 7], ⟨[.hole, .hole], [], [0, 0], [.sl (.one (.int .i64)), .sl (.one (.int .i64))]⟩⟩)]
noncomputable def order_unlike_u0_a : AC := .run
noncomputable def order_unlike_u0 : Un := lpU order_unlike_v.fz [19, 20, 21, 22, 9, 10, 23, 24, 25, 26, 27, 28, 29, 30, 31, 32, 33, 34, 35, 36, 37, 38, 39, 40, 6, 7, 41, 18] order_unlike_u0_h order_unlike_u0_e (lp order_unlike_L0 fuel)
theorem order_unlike_u0_s (f : order_unlike_u0_h.X → Option (YT order_unlike_u0_e)) (x : order_unlike_u0_h.X) : E order_unlike_v (subC (bodyOf Tryd.f125) [1, 1, 0, 1, 0, 0]) (order_unlike_u0_a) (mkS order_unlike_u0_h 8 x) (roundK order_unlike_v.fz order_unlike_u0_h order_unlike_u0_e f) = order_unlike_L0 f x := by kernel_rfl
theorem order_unlike_u0_ok {X : Fx} (hX : VOk Tryd.prog X order_unlike_v) : UnOk Tryd.prog X order_unlike_v (subC (bodyOf Tryd.f125) [1, 1, 0, 1, 0]) order_unlike_u0 :=
  lp_un' (c := (subC (bodyOf Tryd.f125) [1, 1, 0, 1, 0, 0])) (by kernel_rfl) (env_all tb_ok (order_unlike_gs)) hord (ob := []) (by kernel_rfl) (fun X hX => obl_nil) (order_unlike_u0_s) (by kernel_rfl) (by kernel_rfl) hX
noncomputable def order_unlike_a : AC := (.seq .run (.seq .run (.seq (.seq .run (.block (.unit order_unlike_u0))) .run)))
theorem order_unlike_s (x : TupL order_unlike_c.inp.hs) : E order_unlike_v (bodyOf Tryd.f125) (order_unlike_a) (order_unlike_c.entry x) (retSK tb order_unlike_v.fz order_unlike_c [.tmp 6, .tmp 7] x) = order_unlike_c.F x := by kernel_rfl
theorem order_unlike_ok : ShOk Tryd.prog gl 125 order_unlike_c :=
  fn_ok (l := order_unlike_g) (n := Tryd.f125.ntmps) (code := bodyOf Tryd.f125) (rts := [.tmp 6, .tmp 7]) tb_ok hord (order_unlike_gs) Tryd.func125 (by kernel_rfl) (by kernel_rfl) rfl (by kernel_rfl) (ac := order_unlike_a) (ob := [((subC (bodyOf Tryd.f125) [1, 1, 0, 1, 0]), order_unlike_u0)]) (by kernel_rfl) (fun X hX => (obl_cons (order_unlike_u0_ok hX) obl_nil)) (by kernel_rfl) (order_unlike_s)

noncomputable def order_more_c : ShC := { inp := ⟨[.hole, .hole, .hole], [], [1, 1, 1], [.sl tSym, .sl (.one (.int .i64)), .sl (.one (.int .i64))]⟩, out := ⟨[.hole], [], [2], [.bool]⟩, nres := 1, ms := [], mu := [], leak := false, glob := false, F := fun (x : ((List QSym) × (List Int) × (List Int))) => order_more x.1 x.2.1 x.2.2 }
-- order.more
noncomputable def order_more_g : List (Nat × Con) := [(123, .gen (altE [order_covers_c])), (124, .gen (altE [term_Sum_c])), (125, .gen (altE [order_unlike_c]))]
noncomputable def order_more_v : Env := envOf tb gl order_more_g order_more_c Tryd.f111.ntmps
theorem order_more_gs : Goods Tryd.prog (cond order_more_c.glob gl fun _ => none) order_more_g := (goods_cons (good_alt (alls_cons (order_covers_ok.anyGl rfl) alls_nil)) (goods_cons (good_alt (alls_cons (term_Sum_ok.anyGl rfl) alls_nil)) (goods_cons (good_alt (alls_cons (order_unlike_ok.anyGl rfl) alls_nil)) goods_nil)))
noncomputable def order_more_u0_h : SS := ⟨[0, 1, 2], ⟨[.hole, .hole, .hole], [], [1, 0, 0], [.sl tSym, .sl (.one (.int .i64)), .sl (.one (.int .i64))]⟩⟩
noncomputable def order_more_u0_e : Exs := [((.exit 0), ⟨[], ⟨[], [], [], []⟩⟩), (.ret, ⟨[6], ⟨[.hole], [], [2], [.bool]⟩⟩)]
noncomputable def order_more_u0_a : AC := .run
noncomputable def order_more_u0 : Un := lpU order_more_v.fz [9, 10, 11, 12, 13, 14, 15, 16, 17, 18, 19, 20, 21, 7, 8, 22, 23, 24, 25, 26, 27, 6, 28, 29, 30, 31, 32, 33, 34, 35, 36, 37, 38, 39, 40, 41, 6, 43, 44, 45, 46, 47, 48, 42, 49, 50, 1, 2] order_more_u0_h order_more_u0_e (lp order_more_L0 fuel)
theorem order_more_u0_s (f : order_more_u0_h.X → Option (YT order_more_u0_e)) (x : order_more_u0_h.X) : E order_more_v (subC (bodyOf Tryd.f111) [1, 0, 0, 0]) (order_more_u0_a) (mkS order_more_u0_h 8 x) (roundK order_more_v.fz order_more_u0_h order_more_u0_e f) = order_more_L0 f x := by kernel_rfl
theorem order_more_u0_ok {X : Fx} (hX : VOk Tryd.prog X order_more_v) : UnOk Tryd.prog X order_more_v (subC (bodyOf Tryd.f111) [1, 0, 0]) order_more_u0 :=
  lp_un' (c := (subC (bodyOf Tryd.f111) [1, 0, 0, 0])) (by kernel_rfl) (env_all tb_ok (order_more_gs)) hord (ob := []) (by kernel_rfl) (fun X hX => obl_nil) (order_more_u0_s) (by kernel_rfl) (by kernel_rfl) hX
noncomputable def order_more_a : AC := (.seq .run (.seq (.block (.unit order_more_u0)) .run))
theorem order_more_s (x : TupL order_more_c.inp.hs) : E order_more_v (bodyOf Tryd.f111) (order_more_a) (order_more_c.entry x) (retSK tb order_more_v.fz order_more_c [.tmp 6] x) = order_more_c.F x := by kernel_rfl
theorem order_more_ok : ShOk Tryd.prog gl 111 order_more_c :=
  fn_ok (l := order_more_g) (n := Tryd.f111.ntmps) (code := bodyOf Tryd.f111) (rts := [.tmp 6]) tb_ok hord (order_more_gs) Tryd.func111 (by kernel_rfl) (by kernel_rfl) rfl (by kernel_rfl) (ac := order_more_a) (ob := [((subC (bodyOf Tryd.f111) [1, 0, 0]), order_more_u0)]) (by kernel_rfl) (fun X hX => (obl_cons (order_more_u0_ok hX) obl_nil)) (by kernel_rfl) (order_more_s)

noncomputable def order_Compare_c : ShC := { inp := ⟨[.hole, .hole, .hole], [], [1, 1, 1], [.sl tSym, .sl (.one (.int .i64)), .sl (.one (.int .i64))]⟩, out := ⟨[.hole, .hole], [], [2, 2], [.int .i64, .int .i64]⟩, nres := 2, ms := [], mu := [], leak := false, glob := true, F := fun (x : ((List QSym) × (List Int) × (List Int))) => order_Compare x.1 x.2.1 x.2.2 }
-- order.Compare
noncomputable def order_Compare_g : List (Nat × Con) := [(29, .gen (altE [term_IsAtom_c])), (89, .gen (altE [slices_Equal_c])), (110, .gen (altE [term_IsTerm_c])), (111, .gen (altE [order_more_c]))]
noncomputable def order_Compare_v : Env := envOf tb gl order_Compare_g order_Compare_c Tryd.f86.ntmps
theorem order_Compare_gs : Goods Tryd.prog (cond order_Compare_c.glob gl fun _ => none) order_Compare_g := (goods_cons (good_alt (alls_cons term_IsAtom_ok alls_nil)) (goods_cons (good_alt (alls_cons (slices_Equal_ok.anyGl rfl) alls_nil)) (goods_cons (good_alt (alls_cons term_IsTerm_ok alls_nil)) (goods_cons (good_alt (alls_cons (order_more_ok.anyGl rfl) alls_nil)) goods_nil))))
noncomputable def order_Compare_a : AC := .run
theorem order_Compare_s (x : TupL order_Compare_c.inp.hs) : E order_Compare_v (bodyOf Tryd.f86) (order_Compare_a) (order_Compare_c.entry x) (retSK tb order_Compare_v.fz order_Compare_c [.tmp 6, .tmp 7] x) = order_Compare_c.F x := by kernel_rfl
theorem order_Compare_ok : ShOk Tryd.prog gl 86 order_Compare_c :=
  fn_ok (l := order_Compare_g) (n := Tryd.f86.ntmps) (code := bodyOf Tryd.f86) (rts := [.tmp 6, .tmp 7]) tb_ok hord (order_Compare_gs) Tryd.func86 (by kernel_rfl) (by kernel_rfl) rfl (by kernel_rfl) (ac := order_Compare_a) (ob := []) (by kernel_rfl) (fun X hX => obl_nil) (by kernel_rfl) (order_Compare_s)

noncomputable def lit_Compare_c : ShC := { inp := ⟨[.hole, (.agg [.hole, .hole]), (.agg [.hole, .hole])], [], [1, 1, 1, 1, 1], [.sl tSym, .bool, .sl (.one (.int .i64)), .bool, .sl (.one (.int .i64))]⟩, out := ⟨[.hole, .hole], [], [2, 2], [.int .i64, .int .i64]⟩, nres := 2, ms := [], mu := [], leak := false, glob := true, F := fun (x : ((List QSym) × Bool × (List Int) × Bool × (List Int))) => lit_Compare x.1 x.2.1 x.2.2.1 x.2.2.2.1 x.2.2.2.2 }
-- lit.Compare
noncomputable def lit_Compare_g : List (Nat × Con) := [(13, .gen (altE [lit_May_c])), (86, .gen (altE [order_Compare_c]))]
noncomputable def lit_Compare_v : Env := envOf tb gl lit_Compare_g lit_Compare_c Tryd.f60.ntmps
theorem lit_Compare_gs : Goods Tryd.prog (cond lit_Compare_c.glob gl fun _ => none) lit_Compare_g := (goods_cons (good_alt (alls_cons lit_May_ok alls_nil)) (goods_cons (good_alt (alls_cons order_Compare_ok alls_nil)) goods_nil))
noncomputable def lit_Compare_a : AC := .run
theorem lit_Compare_s (x : TupL lit_Compare_c.inp.hs) : E lit_Compare_v (bodyOf Tryd.f60) (lit_Compare_a) (lit_Compare_c.entry x) (retSK tb lit_Compare_v.fz lit_Compare_c [.tmp 6, .tmp 7] x) = lit_Compare_c.F x := by kernel_rfl
theorem lit_Compare_ok : ShOk Tryd.prog gl 60 lit_Compare_c :=
  fn_ok (l := lit_Compare_g) (n := Tryd.f60.ntmps) (code := bodyOf Tryd.f60) (rts := [.tmp 6, .tmp 7]) tb_ok hord (lit_Compare_gs) Tryd.func60 (by kernel_rfl) (by kernel_rfl) rfl (by kernel_rfl) (ac := lit_Compare_a) (ob := []) (by kernel_rfl) (fun X hX => obl_nil) (by kernel_rfl) (lit_Compare_s)

noncomputable def lit_Tops_c2_c : ShC := { inp := ⟨[(.agg [.hole, .hole]), (.ptr 0 0), (.ptr 1 0)], [.cells true [.hole], .cells true [.hole, .hole]], [1, 1, 1, 1, 1], [.bool, .sl (.one (.int .i64)), .sl tSym, .bool, .sl (.one (.int .i64))]⟩, out := ⟨[.hole], [], [2], [.bool]⟩, nres := 1, ms := [], mu := [], leak := false, glob := true, F := fun (x : (Bool × (List Int) × (List QSym) × Bool × (List Int))) => lit_Tops_c2 x.1 x.2.1 x.2.2.1 x.2.2.2.1 x.2.2.2.2 }
-- lit.Tops$2
noncomputable def lit_Tops_c2_g : List (Nat × Con) := [(60, .gen (altE [lit_Compare_c]))]
noncomputable def lit_Tops_c2_v : Env := envOf tb gl lit_Tops_c2_g lit_Tops_c2_c Tryd.f59.ntmps
theorem lit_Tops_c2_gs : Goods Tryd.prog (cond lit_Tops_c2_c.glob gl fun _ => none) lit_Tops_c2_g := (goods_cons (good_alt (alls_cons lit_Compare_ok alls_nil)) goods_nil)
noncomputable def lit_Tops_c2_a : AC := .run
theorem lit_Tops_c2_s (x : TupL lit_Tops_c2_c.inp.hs) : E lit_Tops_c2_v (bodyOf Tryd.f59) (lit_Tops_c2_a) (lit_Tops_c2_c.entry x) (retSK tb lit_Tops_c2_v.fz lit_Tops_c2_c [.tmp 4] x) = lit_Tops_c2_c.F x := by kernel_rfl
theorem lit_Tops_c2_ok : ShOk Tryd.prog gl 59 lit_Tops_c2_c :=
  fn_ok (l := lit_Tops_c2_g) (n := Tryd.f59.ntmps) (code := bodyOf Tryd.f59) (rts := [.tmp 4]) tb_ok hord (lit_Tops_c2_gs) Tryd.func59 (by kernel_rfl) (by kernel_rfl) rfl (by kernel_rfl) (ac := lit_Tops_c2_a) (ob := []) (by kernel_rfl) (fun X hX => obl_nil) (by kernel_rfl) (lit_Tops_c2_s)

noncomputable def slices_IndexFunc_7_c : ShC := { inp := ⟨[.hole, (.clo 59 [(.ptr 0 0), (.ptr 1 0)])], [.cells true [.hole], .cells true [.hole, .hole]], [1, 1, 1, 1], [.sl tLit, .sl tSym, .bool, .sl (.one (.int .i64))]⟩, out := ⟨[.hole], [], [2], [.int .i64]⟩, nres := 1, ms := [], mu := [], leak := false, glob := true, F := fun (x : ((List QLit) × (List QSym) × Bool × (List Int))) => slices_IndexFunc_7 x.1 x.2.1 x.2.2.1 x.2.2.2 }
-- slices.IndexFunc[[]api.Lit,api.Lit]
noncomputable def slices_IndexFunc_7_g : List (Nat × Con) := [(59, .gen (altE [lit_Tops_c2_c]))]
noncomputable def slices_IndexFunc_7_v : Env := envOf tb gl slices_IndexFunc_7_g slices_IndexFunc_7_c Tryd.f85.ntmps
theorem slices_IndexFunc_7_gs : Goods Tryd.prog (cond slices_IndexFunc_7_c.glob gl fun _ => none) slices_IndexFunc_7_g := (goods_cons (good_alt (alls_cons lit_Tops_c2_ok alls_nil)) goods_nil)
noncomputable def slices_IndexFunc_7_u0_h : SS := ⟨[0, 1, 7, 8], ⟨[.hole, (.clo 59 [(.ptr 0 0), (.ptr 1 0)]), .hole, .hole], [.cells true [.hole], .cells true [.hole, .hole]], [1, 2, 2, 1, 2, 1], [.sl tLit, .int .i64, .int .i64, .sl tSym, .bool, .sl (.one (.int .i64))]⟩⟩
noncomputable def slices_IndexFunc_7_u0_e : Exs := [((.exit 0), ⟨[], ⟨[], [], [], []⟩⟩), (.ret, ⟨[4], ⟨[.hole], [], [2], [.int .i64]⟩⟩)]
noncomputable def slices_IndexFunc_7_u0_a : AC := .run
noncomputable def slices_IndexFunc_7_u0 : Un := lpU slices_IndexFunc_7_v.fz [9, 10, 5, 11, 12, 13, 14, 15, 16, 17, 4, 18, 8] slices_IndexFunc_7_u0_h slices_IndexFunc_7_u0_e (lp slices_IndexFunc_7_L0 fuel)
theorem slices_IndexFunc_7_u0_s (f : slices_IndexFunc_7_u0_h.X → Option (YT slices_IndexFunc_7_u0_e)) (x : slices_IndexFunc_7_u0_h.X) : E slices_IndexFunc_7_v (subC (bodyOf Tryd.f85) [1, 0, 1, 0, 0]) (slices_IndexFunc_7_u0_a) (mkS slices_IndexFunc_7_u0_h 8 x) (roundK slices_IndexFunc_7_v.fz slices_IndexFunc_7_u0_h slices_IndexFunc_7_u0_e f) = slices_IndexFunc_7_L0 f x := by kernel_rfl
theorem slices_IndexFunc_7_u0_ok {X : Fx} (hX : VOk Tryd.prog X slices_IndexFunc_7_v) : UnOk Tryd.prog X slices_IndexFunc_7_v (subC (bodyOf Tryd.f85) [1, 0, 1, 0]) slices_IndexFunc_7_u0 :=
  lp_un' (c := (subC (bodyOf Tryd.f85) [1, 0, 1, 0, 0])) (by kernel_rfl) (env_all tb_ok (slices_IndexFunc_7_gs)) hord (ob := []) (by kernel_rfl) (fun X hX => obl_nil) (slices_IndexFunc_7_u0_s) (by kernel_rfl) (by kernel_rfl) hX
noncomputable def slices_IndexFunc_7_a : AC := (.seq .run (.seq (.seq .run (.block (.unit slices_IndexFunc_7_u0))) .run))
theorem slices_IndexFunc_7_s (x : TupL slices_IndexFunc_7_c.inp.hs) : E slices_IndexFunc_7_v (bodyOf Tryd.f85) (slices_IndexFunc_7_a) (slices_IndexFunc_7_c.entry x) (retSK tb slices_IndexFunc_7_v.fz slices_IndexFunc_7_c [.tmp 4] x) = slices_IndexFunc_7_c.F x := by kernel_rfl
theorem slices_IndexFunc_7_ok : ShOk Tryd.prog gl 85 slices_IndexFunc_7_c :=
  fn_ok (l := slices_IndexFunc_7_g) (n := Tryd.f85.ntmps) (code := bodyOf Tryd.f85) (rts := [.tmp 4]) tb_ok hord (slices_IndexFunc_7_gs) Tryd.func85 (by kernel_rfl) (by kernel_rfl) rfl (by kernel_rfl) (ac := slices_IndexFunc_7_a) (ob := [((subC (bodyOf Tryd.f85) [1, 0, 1, 0]), slices_IndexFunc_7_u0)]) (by kernel_rfl) (fun X hX => (obl_cons (slices_IndexFunc_7_u0_ok hX) obl_nil)) (by kernel_rfl) (slices_IndexFunc_7_s)

noncomputable def slices_ContainsFunc_7_c : ShC := { inp := ⟨[.hole, (.clo 59 [(.ptr 0 0), (.ptr 1 0)])], [.cells true [.hole], .cells true [.hole, .hole]], [1, 1, 1, 1], [.sl tLit, .sl tSym, .bool, .sl (.one (.int .i64))]⟩, out := ⟨[.hole], [], [2], [.bool]⟩, nres := 1, ms := [], mu := [], leak := false, glob := true, F := fun (x : ((List QLit) × (List QSym) × Bool × (List Int))) => slices_ContainsFunc_7 x.1 x.2.1 x.2.2.1 x.2.2.2 }
-- slices.ContainsFunc[[]api.Lit,api.Lit]
noncomputable def slices_ContainsFunc_7_g : List (Nat × Con) := [(85, .gen (altE [slices_IndexFunc_7_c]))]
noncomputable def slices_ContainsFunc_7_v : Env := envOf tb gl slices_ContainsFunc_7_g slices_ContainsFunc_7_c Tryd.f57.ntmps
theorem slices_ContainsFunc_7_gs : Goods Tryd.prog (cond slices_ContainsFunc_7_c.glob gl fun _ => none) slices_ContainsFunc_7_g := (goods_cons (good_alt (alls_cons slices_IndexFunc_7_ok alls_nil)) goods_nil)
noncomputable def slices_ContainsFunc_7_a : AC := .run
theorem slices_ContainsFunc_7_s (x : TupL slices_ContainsFunc_7_c.inp.hs) : E slices_ContainsFunc_7_v (bodyOf Tryd.f57) (slices_ContainsFunc_7_a) (slices_ContainsFunc_7_c.entry x) (retSK tb slices_ContainsFunc_7_v.fz slices_ContainsFunc_7_c [.tmp 4] x) = slices_ContainsFunc_7_c.F x := by kernel_rfl
theorem slices_ContainsFunc_7_ok : ShOk Tryd.prog gl 57 slices_ContainsFunc_7_c :=
  fn_ok (l := slices_ContainsFunc_7_g) (n := Tryd.f57.ntmps) (code := bodyOf Tryd.f57) (rts := [.tmp 4]) tb_ok hord (slices_ContainsFunc_7_gs) Tryd.func57 (by kernel_rfl) (by kernel_rfl) rfl (by kernel_rfl) (ac := slices_ContainsFunc_7_a) (ob := []) (by kernel_rfl) (fun X hX => obl_nil) (by kernel_rfl) (slices_ContainsFunc_7_s)

noncomputable def lit_Tops_c : ShC := { inp := ⟨[.hole, .hole], [], [1, 1], [.sl tSym, .sl tLit]⟩, out := ⟨[(.view 0), .hole], [.seq false], [2, 2], [.int .i64, .sl (.one (.int .i64))]⟩, nres := 2, ms := [], mu := [], leak := false, glob := true, F := fun (x : ((List QSym) × (List QLit))) => lit_Tops x.1 x.2 }
-- lit.Tops
noncomputable def lit_Tops_g : List (Nat × Con) := [(42, .gen (altE [sign_May_c])), (57, .gen (altE [slices_ContainsFunc_6_c, slices_ContainsFunc_7_c]))]
noncomputable def lit_Tops_v : Env := envOf tb gl lit_Tops_g lit_Tops_c Tryd.f35.ntmps
theorem lit_Tops_gs : Goods Tryd.prog (cond lit_Tops_c.glob gl fun _ => none) lit_Tops_g := (goods_cons (good_alt (alls_cons sign_May_ok alls_nil)) (goods_cons (good_alt (alls_cons slices_ContainsFunc_6_ok (alls_cons slices_ContainsFunc_7_ok alls_nil))) goods_nil))
noncomputable def lit_Tops_u0_h : SS := ⟨[1, 2, 6, 17, 18, 19], ⟨[.hole, (.ptr 0 0), (.view 1), .hole, .hole, .hole], [.cells true [.hole], .seq false], [1, 1, 2, 2, 1, 2], [.sl tLit, .sl tLit, .int .i64, .int .i64, .sl tSym, .sl (.one (.int .i64))]⟩⟩
noncomputable def lit_Tops_u0_e : Exs := [((.exit 0), ⟨[6], ⟨[(.view 0)], [.seq false], [2], [.sl (.one (.int .i64))]⟩⟩)]
noncomputable def lit_Tops_u0_a : AC := .run
noncomputable def lit_Tops_u0 : Un := lpU lit_Tops_v.fz [20, 21, 22, 23, 8, 7, 24, 25, 26, 27, 28, 29, 30, 31, 6, 32, 19] lit_Tops_u0_h lit_Tops_u0_e (lp lit_Tops_L0 fuel)
theorem lit_Tops_u0_s (f : lit_Tops_u0_h.X → Option (YT lit_Tops_u0_e)) (x : lit_Tops_u0_h.X) : E lit_Tops_v (subC (bodyOf Tryd.f35) [1, 1, 1, 0, 1, 0, 0]) (lit_Tops_u0_a) (mkS lit_Tops_u0_h 8 x) (roundK lit_Tops_v.fz lit_Tops_u0_h lit_Tops_u0_e f) = lit_Tops_L0 f x := by kernel_rfl
theorem lit_Tops_u0_ok {X : Fx} (hX : VOk Tryd.prog X lit_Tops_v) : UnOk Tryd.prog X lit_Tops_v (subC (bodyOf Tryd.f35) [1, 1, 1, 0, 1, 0]) lit_Tops_u0 :=
  lp_un' (c := (subC (bodyOf Tryd.f35) [1, 1, 1, 0, 1, 0, 0])) (by kernel_rfl) (env_all tb_ok (lit_Tops_gs)) hord (ob := []) (by kernel_rfl) (fun X hX => obl_nil) (lit_Tops_u0_s) (by kernel_rfl) (by kernel_rfl) hX
noncomputable def lit_Tops_a : AC := (.seq .run (.seq .run (.seq .run (.seq (.seq .run (.block (.unit lit_Tops_u0))) .run))))
theorem lit_Tops_s (x : TupL lit_Tops_c.inp.hs) : E lit_Tops_v (bodyOf Tryd.f35) (lit_Tops_a) (lit_Tops_c.entry x) (retSK tb lit_Tops_v.fz lit_Tops_c [.tmp 4, .tmp 5] x) = lit_Tops_c.F x := by kernel_rfl
theorem lit_Tops_ok : ShOk Tryd.prog gl 35 lit_Tops_c :=
  fn_ok (l := lit_Tops_g) (n := Tryd.f35.ntmps) (code := bodyOf Tryd.f35) (rts := [.tmp 4, .tmp 5]) tb_ok hord (lit_Tops_gs) Tryd.func35 (by kernel_rfl) (by kernel_rfl) rfl (by kernel_rfl) (ac := lit_Tops_a) (ob := [((subC (bodyOf Tryd.f35) [1, 1, 1, 0, 1, 0]), lit_Tops_u0)]) (by kernel_rfl) (fun X hX => (obl_cons (lit_Tops_u0_ok hX) obl_nil)) (by kernel_rfl) (lit_Tops_s)

noncomputable def clause_selfSame_c : ShC := { inp := ⟨[.hole, (.agg [.hole, .hole])], [], [1, 1, 1], [.sl tSym, .bool, .sl (.one (.int .i64))]⟩, out := ⟨[.hole], [], [2], [.bool]⟩, nres := 1, ms := [], mu := [], leak := false, glob := false, F := fun (x : ((List QSym) × Bool × (List Int))) => clause_selfSame x.1 x.2.1 x.2.2 }
-- clause.selfSame
noncomputable def clause_selfSame_g : List (Nat × Con) := [(89, .gen (altE [slices_Equal_c])), (112, .gen (altE [term_Pieces_c]))]
noncomputable def clause_selfSame_v : Env := envOf tb gl clause_selfSame_g clause_selfSame_c Tryd.f87.ntmps
theorem clause_selfSame_gs : Goods Tryd.prog (cond clause_selfSame_c.glob gl fun _ => none) clause_selfSame_g := (goods_cons (good_alt (alls_cons (slices_Equal_ok.anyGl rfl) alls_nil)) (goods_cons (good_alt (alls_cons (term_Pieces_ok.anyGl rfl) alls_nil)) goods_nil))
noncomputable def clause_selfSame_a : AC := .run
theorem clause_selfSame_s (x : TupL clause_selfSame_c.inp.hs) : E clause_selfSame_v (bodyOf Tryd.f87) (clause_selfSame_a) (clause_selfSame_c.entry x) (retSK tb clause_selfSame_v.fz clause_selfSame_c [.tmp 4] x) = clause_selfSame_c.F x := by kernel_rfl
theorem clause_selfSame_ok : ShOk Tryd.prog gl 87 clause_selfSame_c :=
  fn_ok (l := clause_selfSame_g) (n := Tryd.f87.ntmps) (code := bodyOf Tryd.f87) (rts := [.tmp 4]) tb_ok hord (clause_selfSame_gs) Tryd.func87 (by kernel_rfl) (by kernel_rfl) rfl (by kernel_rfl) (ac := clause_selfSame_a) (ob := []) (by kernel_rfl) (fun X hX => obl_nil) (by kernel_rfl) (clause_selfSame_s)

noncomputable def clause_Trivial_c1_c : ShC := { inp := ⟨[(.agg [.hole, .hole]), (.ptr 0 0)], [.cells true [.hole, .hole]], [1, 1, 1, 1], [.bool, .sl (.one (.int .i64)), .bool, .sl (.one (.int .i64))]⟩, out := ⟨[.hole], [], [2], [.bool]⟩, nres := 1, ms := [], mu := [], leak := false, glob := false, F := fun (x : (Bool × (List Int) × Bool × (List Int))) => clause_Trivial_c1 x.1 x.2.1 x.2.2.1 x.2.2.2 }
-- clause.Trivial$1
noncomputable def clause_Trivial_c1_g : List (Nat × Con) := [(89, .gen (altE [slices_Equal_c]))]
noncomputable def clause_Trivial_c1_v : Env := envOf tb gl clause_Trivial_c1_g clause_Trivial_c1_c Tryd.f88.ntmps
theorem clause_Trivial_c1_gs : Goods Tryd.prog (cond clause_Trivial_c1_c.glob gl fun _ => none) clause_Trivial_c1_g := (goods_cons (good_alt (alls_cons (slices_Equal_ok.anyGl rfl) alls_nil)) goods_nil)
noncomputable def clause_Trivial_c1_a : AC := .run
theorem clause_Trivial_c1_s (x : TupL clause_Trivial_c1_c.inp.hs) : E clause_Trivial_c1_v (bodyOf Tryd.f88) (clause_Trivial_c1_a) (clause_Trivial_c1_c.entry x) (retSK tb clause_Trivial_c1_v.fz clause_Trivial_c1_c [.tmp 3] x) = clause_Trivial_c1_c.F x := by kernel_rfl
theorem clause_Trivial_c1_ok : ShOk Tryd.prog gl 88 clause_Trivial_c1_c :=
  fn_ok (l := clause_Trivial_c1_g) (n := Tryd.f88.ntmps) (code := bodyOf Tryd.f88) (rts := [.tmp 3]) tb_ok hord (clause_Trivial_c1_gs) Tryd.func88 (by kernel_rfl) (by kernel_rfl) rfl (by kernel_rfl) (ac := clause_Trivial_c1_a) (ob := []) (by kernel_rfl) (fun X hX => obl_nil) (by kernel_rfl) (clause_Trivial_c1_s)

noncomputable def slices_IndexFunc_8_c : ShC := { inp := ⟨[.hole, (.clo 88 [(.ptr 0 0)])], [.cells true [.hole, .hole]], [1, 1, 1], [.sl tLit, .bool, .sl (.one (.int .i64))]⟩, out := ⟨[.hole], [], [2], [.int .i64]⟩, nres := 1, ms := [], mu := [], leak := false, glob := false, F := fun (x : ((List QLit) × Bool × (List Int))) => slices_IndexFunc_8 x.1 x.2.1 x.2.2 }
-- slices.IndexFunc[[]api.Lit,api.Lit]
noncomputable def slices_IndexFunc_8_g : List (Nat × Con) := [(88, .gen (altE [clause_Trivial_c1_c]))]
noncomputable def slices_IndexFunc_8_v : Env := envOf tb gl slices_IndexFunc_8_g slices_IndexFunc_8_c Tryd.f85.ntmps
theorem slices_IndexFunc_8_gs : Goods Tryd.prog (cond slices_IndexFunc_8_c.glob gl fun _ => none) slices_IndexFunc_8_g := (goods_cons (good_alt (alls_cons (clause_Trivial_c1_ok.anyGl rfl) alls_nil)) goods_nil)
noncomputable def slices_IndexFunc_8_u0_h : SS := ⟨[0, 1, 7, 8], ⟨[.hole, (.clo 88 [(.ptr 0 0)]), .hole, .hole], [.cells true [.hole, .hole]], [1, 2, 2, 2, 1], [.sl tLit, .int .i64, .int .i64, .bool, .sl (.one (.int .i64))]⟩⟩
noncomputable def slices_IndexFunc_8_u0_e : Exs := [((.exit 0), ⟨[], ⟨[], [], [], []⟩⟩), (.ret, ⟨[4], ⟨[.hole], [], [2], [.int .i64]⟩⟩)]
noncomputable def slices_IndexFunc_8_u0_a : AC := .run
noncomputable def slices_IndexFunc_8_u0 : Un := lpU slices_IndexFunc_8_v.fz [9, 10, 5, 11, 12, 13, 14, 15, 16, 17, 4, 18, 8] slices_IndexFunc_8_u0_h slices_IndexFunc_8_u0_e (lp slices_IndexFunc_8_L0 fuel)
theorem slices_IndexFunc_8_u0_s (f : slices_IndexFunc_8_u0_h.X → Option (YT slices_IndexFunc_8_u0_e)) (x : slices_IndexFunc_8_u0_h.X) : E slices_IndexFunc_8_v (subC (bodyOf Tryd.f85) [1, 0, 1, 0, 0]) (slices_IndexFunc_8_u0_a) (mkS slices_IndexFunc_8_u0_h 8 x) (roundK slices_IndexFunc_8_v.fz slices_IndexFunc_8_u0_h slices_IndexFunc_8_u0_e f) = slices_IndexFunc_8_L0 f x := by kernel_rfl
theorem slices_IndexFunc_8_u0_ok {X : Fx} (hX : VOk Tryd.prog X slices_IndexFunc_8_v) : UnOk Tryd.prog X slices_IndexFunc_8_v (subC (bodyOf Tryd.f85) [1, 0, 1, 0]) slices_IndexFunc_8_u0 :=
  lp_un' (c := (subC (bodyOf Tryd.f85) [1, 0, 1, 0, 0])) (by kernel_rfl) (env_all tb_ok (slices_IndexFunc_8_gs)) hord (ob := []) (by kernel_rfl) (fun X hX => obl_nil) (slices_IndexFunc_8_u0_s) (by kernel_rfl) (by kernel_rfl) hX
noncomputable def slices_IndexFunc_8_a : AC := (.seq .run (.seq (.seq .run (.block (.unit slices_IndexFunc_8_u0))) .run))
theorem slices_IndexFunc_8_s (x : TupL slices_IndexFunc_8_c.inp.hs) : E slices_IndexFunc_8_v (bodyOf Tryd.f85) (slices_IndexFunc_8_a) (slices_IndexFunc_8_c.entry x) (retSK tb slices_IndexFunc_8_v.fz slices_IndexFunc_8_c [.tmp 4] x) = slices_IndexFunc_8_c.F x := by kernel_rfl
theorem slices_IndexFunc_8_ok : ShOk Tryd.prog gl 85 slices_IndexFunc_8_c :=
  fn_ok (l := slices_IndexFunc_8_g) (n := Tryd.f85.ntmps) (code := bodyOf Tryd.f85) (rts := [.tmp 4]) tb_ok hord (slices_IndexFunc_8_gs) Tryd.func85 (by kernel_rfl) (by kernel_rfl) rfl (by kernel_rfl) (ac := slices_IndexFunc_8_a) (ob := [((subC (bodyOf Tryd.f85) [1, 0, 1, 0]), slices_IndexFunc_8_u0)]) (by kernel_rfl) (fun X hX => (obl_cons (slices_IndexFunc_8_u0_ok hX) obl_nil)) (by kernel_rfl) (slices_IndexFunc_8_s)

noncomputable def slices_ContainsFunc_8_c : ShC := { inp := ⟨[.hole, (.clo 88 [(.ptr 0 0)])], [.cells true [.hole, .hole]], [1, 1, 1], [.sl tLit, .bool, .sl (.one (.int .i64))]⟩, out := ⟨[.hole], [], [2], [.bool]⟩, nres := 1, ms := [], mu := [], leak := false, glob := false, F := fun (x : ((List QLit) × Bool × (List Int))) => slices_ContainsFunc_8 x.1 x.2.1 x.2.2 }
-- slices.ContainsFunc[[]api.Lit,api.Lit]
noncomputable def slices_ContainsFunc_8_g : List (Nat × Con) := [(85, .gen (altE [slices_IndexFunc_8_c]))]
noncomputable def slices_ContainsFunc_8_v : Env := envOf tb gl slices_ContainsFunc_8_g slices_ContainsFunc_8_c Tryd.f57.ntmps
theorem slices_ContainsFunc_8_gs : Goods Tryd.prog (cond slices_ContainsFunc_8_c.glob gl fun _ => none) slices_ContainsFunc_8_g := (goods_cons (good_alt (alls_cons (slices_IndexFunc_8_ok.anyGl rfl) alls_nil)) goods_nil)
noncomputable def slices_ContainsFunc_8_a : AC := .run
theorem slices_ContainsFunc_8_s (x : TupL slices_ContainsFunc_8_c.inp.hs) : E slices_ContainsFunc_8_v (bodyOf Tryd.f57) (slices_ContainsFunc_8_a) (slices_ContainsFunc_8_c.entry x) (retSK tb slices_ContainsFunc_8_v.fz slices_ContainsFunc_8_c [.tmp 4] x) = slices_ContainsFunc_8_c.F x := by kernel_rfl
theorem slices_ContainsFunc_8_ok : ShOk Tryd.prog gl 57 slices_ContainsFunc_8_c :=
  fn_ok (l := slices_ContainsFunc_8_g) (n := Tryd.f57.ntmps) (code := bodyOf Tryd.f57) (rts := [.tmp 4]) tb_ok hord (slices_ContainsFunc_8_gs) Tryd.func57 (by kernel_rfl) (by kernel_rfl) rfl (by kernel_rfl) (ac := slices_ContainsFunc_8_a) (ob := []) (by kernel_rfl) (fun X hX => obl_nil) (by kernel_rfl) (slices_ContainsFunc_8_s)

noncomputable def clause_Trivial_c : ShC := { inp := ⟨[.hole, (.agg [.hole, .hole, .hole])], [], [1, 1, 1, 1], [.sl tSym, .sl tLit, .sl (.one (.sl (.one (.int .i64)))), .sl tLit]⟩, out := ⟨[.hole, .hole], [], [2, 2], [.bool, .int .i64]⟩, nres := 2, ms := [], mu := [], leak := false, glob := true, F := fun (x : ((List QSym) × (List QLit) × (List (List Int)) × (List QLit))) => clause_Trivial x.1 x.2.1 x.2.2.1 x.2.2.2 }
-- clause.Trivial
noncomputable def clause_Trivial_g : List (Nat × Con) := [(21, .gen (altE [clause_May_c])), (57, .gen (altE [slices_ContainsFunc_8_c])), (87, .gen (altE [clause_selfSame_c]))]
noncomputable def clause_Trivial_v : Env := envOf tb gl clause_Trivial_g clause_Trivial_c Tryd.f62.ntmps
theorem clause_Trivial_gs : Goods Tryd.prog (cond clause_Trivial_c.glob gl fun _ => none) clause_Trivial_g := (goods_cons (good_alt (alls_cons clause_May_ok alls_nil)) (goods_cons (good_alt (alls_cons (slices_ContainsFunc_8_ok.anyGl rfl) alls_nil)) (goods_cons (good_alt (alls_cons (clause_selfSame_ok.anyGl rfl) alls_nil)) goods_nil)))
noncomputable def clause_Trivial_u0_h : SS := ⟨[0, 3, 13, 14, 15], ⟨[.hole, (.ptr 0 0), .hole, .hole, .hole], [.cells true [.hole, .hole, .hole]], [1, 1, 2, 2, 1, 1, 1], [.sl tSym, .sl tLit, .int .i64, .int .i64, .sl tLit, .sl (.one (.sl (.one (.int .i64)))), .sl tLit]⟩⟩
noncomputable def clause_Trivial_u0_e : Exs := [((.exit 0), ⟨[], ⟨[], [], [], []⟩⟩), (.ret, ⟨[4, 5], ⟨[.hole, .hole], [], [2, 2], [.bool, .int .i64]⟩⟩)]
noncomputable def clause_Trivial_u0_a : AC := .run
noncomputable def clause_Trivial_u0 : Un := lpU clause_Trivial_v.fz [16, 17, 18, 7, 19, 20, 21, 22, 23, 24, 25, 26, 27, 4, 5, 28, 15] clause_Trivial_u0_h clause_Trivial_u0_e (lp clause_Trivial_L0 fuel)
theorem clause_Trivial_u0_s (f : clause_Trivial_u0_h.X → Option (YT clause_Trivial_u0_e)) (x : clause_Trivial_u0_h.X) : E clause_Trivial_v (subC (bodyOf Tryd.f62) [1, 1, 0, 1, 0, 0]) (clause_Trivial_u0_a) (mkS clause_Trivial_u0_h 8 x) (roundK clause_Trivial_v.fz clause_Trivial_u0_h clause_Trivial_u0_e f) = clause_Trivial_L0 f x := by kernel_rfl
theorem clause_Trivial_u0_ok {X : Fx} (hX : VOk Tryd.prog X clause_Trivial_v) : UnOk Tryd.prog X clause_Trivial_v (subC (bodyOf Tryd.f62) [1, 1, 0, 1, 0]) clause_Trivial_u0 :=
  lp_un' (c := (subC (bodyOf Tryd.f62) [1, 1, 0, 1, 0, 0])) (by kernel_rfl) (env_all tb_ok (clause_Trivial_gs)) hord (ob := []) (by kernel_rfl) (fun X hX => obl_nil) (clause_Trivial_u0_s) (by kernel_rfl) (by kernel_rfl) hX
noncomputable def clause_Trivial_a : AC := (.seq .run (.seq .run (.seq (.seq .run (.block (.unit clause_Trivial_u0))) .run)))
theorem clause_Trivial_s (x : TupL clause_Trivial_c.inp.hs) : E clause_Trivial_v (bodyOf Tryd.f62) (clause_Trivial_a) (clause_Trivial_c.entry x) (retSK tb clause_Trivial_v.fz clause_Trivial_c [.tmp 4, .tmp 5] x) = clause_Trivial_c.F x := by kernel_rfl
theorem clause_Trivial_ok : ShOk Tryd.prog gl 62 clause_Trivial_c :=
  fn_ok (l := clause_Trivial_g) (n := Tryd.f62.ntmps) (code := bodyOf Tryd.f62) (rts := [.tmp 4, .tmp 5]) tb_ok hord (clause_Trivial_gs) Tryd.func62 (by kernel_rfl) (by kernel_rfl) rfl (by kernel_rfl) (ac := clause_Trivial_a) (ob := [((subC (bodyOf Tryd.f62) [1, 1, 0, 1, 0]), clause_Trivial_u0)]) (by kernel_rfl) (fun X hX => (obl_cons (clause_Trivial_u0_ok hX) obl_nil)) (by kernel_rfl) (clause_Trivial_s)

noncomputable def resolve_Kids_Add_2_c : ShC := { inp := ⟨[(.ptr 0 0), (.agg [.hole, .hole, .hole, .hole, .hole, .hole, .hole, .hole, .hole, .hole]), (.agg [.hole, .hole, .hole]), .hole, .hole], [.cells false [.hole, (.view 1), .hole], .seq false], [1, 1, 1, 1, 1, 1, 1, 1, 1, 1, 1, 1, 1, 1, 1, 1, 1, 1], [.int .i64, .int .i64, .int .i64, .int .i64, .int .i64, .int .i64, .int .i64, .sl tLit, .sl (.one (.sl (.one (.int .i64)))), .sl tLit, .sl tLit, .sl (.one (.sl (.one (.int .i64)))), .sl tLit, .bool, .int .i64, .sl tSym, .int .i64, .sl (.cons (.int .i64) (.cons (.int .i64) (.cons (.int .i64) (.cons (.int .i64) (.cons (.int .i64) (.cons (.int .i64) (.cons (.int .i64) (.cons (.sl tLit) (.cons (.sl (.one (.sl (.one (.int .i64))))) (.one (.sl tLit)))))))))))]⟩, out := ⟨[(.ptr 0 0)], [.cells false [.hole, (.view 1), .hole], .seq false], [1, 2, 0], [.sl tSym, .int .i64, .sl (.cons (.int .i64) (.cons (.int .i64) (.cons (.int .i64) (.cons (.int .i64) (.cons (.int .i64) (.cons (.int .i64) (.cons (.int .i64) (.cons (.sl tLit) (.cons (.sl (.one (.sl (.one (.int .i64))))) (.one (.sl tLit)))))))))))]⟩, nres := 0, ms := [0], mu := [(0, 0)], leak := true, glob := true, F := fun (x : (Int × Int × Int × Int × Int × Int × Int × (List QLit) × (List (List Int)) × (List QLit) × (List QLit) × (List (List Int)) × (List QLit) × Bool × Int × (List QSym) × Int × (List (Int × Int × Int × Int × Int × Int × Int × (List QLit) × (List (List Int)) × (List QLit))))) => resolve_Kids_Add_2 x.1 x.2.1 x.2.2.1 x.2.2.2.1 x.2.2.2.2.1 x.2.2.2.2.2.1 x.2.2.2.2.2.2.1 x.2.2.2.2.2.2.2.1 x.2.2.2.2.2.2.2.2.1 x.2.2.2.2.2.2.2.2.2.1 x.2.2.2.2.2.2.2.2.2.2.1 x.2.2.2.2.2.2.2.2.2.2.2.1 x.2.2.2.2.2.2.2.2.2.2.2.2.1 x.2.2.2.2.2.2.2.2.2.2.2.2.2.1 x.2.2.2.2.2.2.2.2.2.2.2.2.2.2.1 x.2.2.2.2.2.2.2.2.2.2.2.2.2.2.2.1 x.2.2.2.2.2.2.2.2.2.2.2.2.2.2.2.2.1 x.2.2.2.2.2.2.2.2.2.2.2.2.2.2.2.2.2 }
-- (*resolve.Kids).Add
noncomputable def resolve_Kids_Add_2_g : List (Nat × Con) := [(62, .gen (altE [clause_Trivial_c]))]
noncomputable def resolve_Kids_Add_2_v : Env := envOf tb gl resolve_Kids_Add_2_g resolve_Kids_Add_2_c Tryd.f37.ntmps
theorem resolve_Kids_Add_2_gs : Goods Tryd.prog (cond resolve_Kids_Add_2_c.glob gl fun _ => none) resolve_Kids_Add_2_g := (goods_cons (good_alt (alls_cons clause_Trivial_ok alls_nil)) goods_nil)
noncomputable def resolve_Kids_Add_2_a : AC := (.seq .run (.seq .run (.seq .run (.seq .run (.hide [[9], [], [], [], [], [], [], [], [], [], []])))))
theorem resolve_Kids_Add_2_s (x : TupL resolve_Kids_Add_2_c.inp.hs) : E resolve_Kids_Add_2_v (bodyOf Tryd.f37) (resolve_Kids_Add_2_a) (resolve_Kids_Add_2_c.entry x) (retSK tb resolve_Kids_Add_2_v.fz resolve_Kids_Add_2_c [] x) = resolve_Kids_Add_2_c.F x := by kernel_rfl
theorem resolve_Kids_Add_2_ok : ShOk Tryd.prog gl 37 resolve_Kids_Add_2_c :=
  fn_ok (l := resolve_Kids_Add_2_g) (n := Tryd.f37.ntmps) (code := bodyOf Tryd.f37) (rts := []) tb_ok hord (resolve_Kids_Add_2_gs) Tryd.func37 (by kernel_rfl) (by kernel_rfl) rfl (by kernel_rfl) (ac := resolve_Kids_Add_2_a) (ob := []) (by kernel_rfl) (fun X hX => obl_nil) (by kernel_rfl) (resolve_Kids_Add_2_s)

noncomputable def resolve_All_c : ShC := { inp := ⟨[.hole, (.agg [.hole, .hole, .hole]), .hole, (.agg [.hole, .hole, .hole]), .hole], [], [1, 1, 1, 1, 1, 1, 1, 1, 1], [.sl tSym, .sl tLit, .sl (.one (.sl (.one (.int .i64)))), .sl tLit, .int .i64, .sl tLit, .sl (.one (.sl (.one (.int .i64)))), .sl tLit, .int .i64]⟩, out := ⟨[(.view 0), .hole, .hole], [.seq false], [2, 2, 0], [.int .i64, .int .i64, .sl (.cons (.int .i64) (.cons (.int .i64) (.cons (.int .i64) (.cons (.int .i64) (.cons (.int .i64) (.cons (.int .i64) (.cons (.int .i64) (.cons (.sl tLit) (.cons (.sl (.one (.sl (.one (.int .i64))))) (.one (.sl tLit)))))))))))]⟩, nres := 3, ms := [], mu := [], leak := true, glob := true, F := fun (x : ((List QSym) × (List QLit) × (List (List Int)) × (List QLit) × Int × (List QLit) × (List (List Int)) × (List QLit) × Int)) => resolve_All x.1 x.2.1 x.2.2.1 x.2.2.2.1 x.2.2.2.2.1 x.2.2.2.2.2.1 x.2.2.2.2.2.2.1 x.2.2.2.2.2.2.2.1 x.2.2.2.2.2.2.2.2 }
-- resolve.All
noncomputable def resolve_All_g : List (Nat × Con) := [(21, .gen (altE [clause_May_c])), (28, .gen (altE [resolve_one_c])), (35, .gen (altE [lit_Tops_c])), (37, .gen (altE [resolve_Kids_Add_2_c]))]
noncomputable def resolve_All_v : Env := envOf tb gl resolve_All_g resolve_All_c Tryd.f26.ntmps
theorem resolve_All_gs : Goods Tryd.prog (cond resolve_All_c.glob gl fun _ => none) resolve_All_g := (goods_cons (good_alt (alls_cons clause_May_ok alls_nil)) (goods_cons (good_alt (alls_cons resolve_one_ok alls_nil)) (goods_cons (good_alt (alls_cons lit_Tops_ok alls_nil)) (goods_cons (good_alt (alls_cons resolve_Kids_Add_2_ok alls_nil)) goods_nil))))
noncomputable def resolve_All_u0_h : SS := ⟨[0, 2, 4, 6, 8, 15, 17, 19, 51, 52, 53, 57, 58, 59], ⟨[.hole, .hole, .hole, (.ptr 0 0), (.ptr 1 0), .hole, (.ptr 2 0), .hole, .hole, .hole, .hole, .hole, .hole, .hole], [.cells true [.hole, .hole, .hole], .cells true [.hole, .hole, .hole], .cells false [.hole, (.view 3), .hole], .seq false], [1, 2, 2, 2, 2, 2, 2, 2, 2, 2, 2, 1, 1, 1, 1, 1, 1, 0, 2, 0], [.sl tSym, .int .i64, .int .i64, .sl (.one (.int .i64)), .int .i64, .sl (.one (.int .i64)), .int .i64, .int .i64, .sl (.one (.int .i64)), .int .i64, .int .i64, .sl tLit, .sl (.one (.sl (.one (.int .i64)))), .sl tLit, .sl tLit, .sl (.one (.sl (.one (.int .i64)))), .sl tLit, .sl tSym, .int .i64, .sl (.cons (.int .i64) (.cons (.int .i64) (.cons (.int .i64) (.cons (.int .i64) (.cons (.int .i64) (.cons (.int .i64) (.cons (.int .i64) (.cons (.sl tLit) (.cons (.sl (.one (.sl (.one (.int .i64))))) (.one (.sl tLit)))))))))))]⟩⟩
noncomputable def resolve_All_u0_e : Exs := [((.exit 2), ⟨[17], ⟨[(.ptr 0 0)], [.cells false [.hole, (.view 1), .hole], .seq false], [0, 2, 0], [.sl tSym, .int .i64, .sl (.cons (.int .i64) (.cons (.int .i64) (.cons (.int .i64) (.cons (.int .i64) (.cons (.int .i64) (.cons (.int .i64) (.cons (.int .i64) (.cons (.sl tLit) (.cons (.sl (.one (.sl (.one (.int .i64))))) (.one (.sl tLit)))))))))))]⟩⟩)]
noncomputable def resolve_All_u0_a : AC := .run
noncomputable def resolve_All_u0 : Un := lpU resolve_All_v.fz [60, 61, 62, 21, 64, 65, 66, 67, 68, 69, 63, 70, 71, 72, 22, 23, 24, 73, 74, 75, 76, 77, 78, 79, 80, 81, 82, 59] resolve_All_u0_h resolve_All_u0_e (lp resolve_All_L0 fuel)
theorem resolve_All_u0_s (f : resolve_All_u0_h.X → Option (YT resolve_All_u0_e)) (x : resolve_All_u0_h.X) : E resolve_All_v (subC (bodyOf Tryd.f26) [1, 1, 1, 1, 1, 0, 1, 0, 0, 1, 1, 0, 0, 1, 1, 0, 0]) (resolve_All_u0_a) (mkS resolve_All_u0_h 8 x) (roundK resolve_All_v.fz resolve_All_u0_h resolve_All_u0_e f) = resolve_All_L0 f x := by kernel_rfl
theorem resolve_All_u0_ok {X : Fx} (hX : VOk Tryd.prog X resolve_All_v) : UnOk Tryd.prog X resolve_All_v (subC (bodyOf Tryd.f26) [1, 1, 1, 1, 1, 0, 1, 0, 0, 1, 1, 0, 0, 1, 1, 0]) resolve_All_u0 :=
  lp_un' (c := (subC (bodyOf Tryd.f26) [1, 1, 1, 1, 1, 0, 1, 0, 0, 1, 1, 0, 0, 1, 1, 0, 0])) (by kernel_rfl) (env_all tb_ok (resolve_All_gs)) hord (ob := []) (by kernel_rfl) (fun X hX => obl_nil) (resolve_All_u0_s) (by kernel_rfl) (by kernel_rfl) hX
noncomputable def resolve_All_u1_h : SS := ⟨[0, 2, 4, 6, 8, 15, 17, 51, 52, 53], ⟨[.hole, .hole, .hole, (.ptr 0 0), (.ptr 1 0), .hole, (.ptr 2 0), .hole, .hole, .hole], [.cells true [.hole, .hole, .hole], .cells true [.hole, .hole, .hole], .cells false [.hole, (.view 3), .hole], .seq false], [1, 2, 2, 2, 2, 2, 2, 1, 1, 1, 1, 1, 1, 0, 2, 0], [.sl tSym, .int .i64, .int .i64, .sl (.one (.int .i64)), .sl (.one (.int .i64)), .int .i64, .int .i64, .sl tLit, .sl (.one (.sl (.one (.int .i64)))), .sl tLit, .sl tLit, .sl (.one (.sl (.one (.int .i64)))), .sl tLit, .sl tSym, .int .i64, .sl (.cons (.int .i64) (.cons (.int .i64) (.cons (.int .i64) (.cons (.int .i64) (.cons (.int .i64) (.cons (.int .i64) (.cons (.int .i64) (.cons (.sl tLit) (.cons (.sl (.one (.sl (.one (.int .i64))))) (.one (.sl tLit)))))))))))]⟩⟩
noncomputable def resolve_All_u1_e : Exs := [((.exit 0), ⟨[17], ⟨[(.ptr 0 0)], [.cells false [.hole, (.view 1), .hole], .seq false], [0, 2, 0], [.sl tSym, .int .i64, .sl (.cons (.int .i64) (.cons (.int .i64) (.cons (.int .i64) (.cons (.int .i64) (.cons (.int .i64) (.cons (.int .i64) (.cons (.int .i64) (.cons (.sl tLit) (.cons (.sl (.one (.sl (.one (.int .i64))))) (.one (.sl tLit)))))))))))]⟩⟩)]
noncomputable def resolve_All_u1_a : AC := (.seq .run (.seq .run (.seq (.block (.seq .run (.seq .run (.block (.unit resolve_All_u0))))) .run)))
noncomputable def resolve_All_u1 : Un := lpU resolve_All_v.fz [54, 55, 56, 19, 57, 58, 59, 60, 61, 62, 21, 64, 65, 66, 67, 68, 69, 63, 70, 71, 72, 22, 23, 24, 73, 74, 75, 76, 77, 78, 79, 80, 81, 82, 59, 83, 53] resolve_All_u1_h resolve_All_u1_e (lp resolve_All_L1 fuel)
theorem resolve_All_u1_s (f : resolve_All_u1_h.X → Option (YT resolve_All_u1_e)) (x : resolve_All_u1_h.X) : E resolve_All_v (subC (bodyOf Tryd.f26) [1, 1, 1, 1, 1, 0, 1, 0, 0]) (resolve_All_u1_a) (mkS resolve_All_u1_h 8 x) (roundK resolve_All_v.fz resolve_All_u1_h resolve_All_u1_e f) = resolve_All_L1 f x := by kernel_rfl
theorem resolve_All_u1_ok {X : Fx} (hX : VOk Tryd.prog X resolve_All_v) : UnOk Tryd.prog X resolve_All_v (subC (bodyOf Tryd.f26) [1, 1, 1, 1, 1, 0, 1, 0]) resolve_All_u1 :=
  lp_un' (c := (subC (bodyOf Tryd.f26) [1, 1, 1, 1, 1, 0, 1, 0, 0])) (by kernel_rfl) (env_all tb_ok (resolve_All_gs)) hord (ob := [((subC (bodyOf Tryd.f26) [1, 1, 1, 1, 1, 0, 1, 0, 0, 1, 1, 0, 0, 1, 1, 0]), resolve_All_u0)]) (by kernel_rfl) (fun X hX => (obl_cons (resolve_All_u0_ok hX) obl_nil)) (resolve_All_u1_s) (by kernel_rfl) (by kernel_rfl) hX
noncomputable def resolve_All_a : AC := (.seq .run (.seq .run (.seq .run (.seq .run (.seq .run (.seq (.seq .run (.block (.unit resolve_All_u1))) .run))))))
theorem resolve_All_s (x : TupL resolve_All_c.inp.hs) : E resolve_All_v (bodyOf Tryd.f26) (resolve_All_a) (resolve_All_c.entry x) (retSK tb resolve_All_v.fz resolve_All_c [.tmp 10, .tmp 11, .tmp 12] x) = resolve_All_c.F x := by kernel_rfl
theorem resolve_All_ok : ShOk Tryd.prog gl 26 resolve_All_c :=
  fn_ok (l := resolve_All_g) (n := Tryd.f26.ntmps) (code := bodyOf Tryd.f26) (rts := [.tmp 10, .tmp 11, .tmp 12]) tb_ok hord (resolve_All_gs) Tryd.func26 (by kernel_rfl) (by kernel_rfl) rfl (by kernel_rfl) (ac := resolve_All_a) (ob := [((subC (bodyOf Tryd.f26) [1, 1, 1, 1, 1, 0, 1, 0]), resolve_All_u1)]) (by kernel_rfl) (fun X hX => (obl_cons (resolve_All_u1_ok hX) obl_nil)) (by kernel_rfl) (resolve_All_s)

noncomputable def law0_Num_c : ShC := { inp := ⟨[.hole], [], [1], [.int .i64]⟩, out := ⟨[.hole], [], [2], [.int .i64]⟩, nres := 1, ms := [], mu := [], leak := false, glob := false, F := fun (x : Int) => law0_Num x }
-- quaerelaw0.Num
noncomputable def law0_Num_g : List (Nat × Con) := []
noncomputable def law0_Num_v : Env := envOf tb gl law0_Num_g law0_Num_c Tryd.f9.ntmps
theorem law0_Num_gs : Goods Tryd.prog (cond law0_Num_c.glob gl fun _ => none) law0_Num_g := goods_nil
noncomputable def law0_Num_a : AC := .run
theorem law0_Num_s (x : TupL law0_Num_c.inp.hs) : E law0_Num_v (bodyOf Tryd.f9) (law0_Num_a) (law0_Num_c.entry x) (retSK tb law0_Num_v.fz law0_Num_c [.tmp 2] x) = law0_Num_c.F x := by kernel_rfl
theorem law0_Num_ok : ShOk Tryd.prog gl 9 law0_Num_c :=
  fn_ok (l := law0_Num_g) (n := Tryd.f9.ntmps) (code := bodyOf Tryd.f9) (rts := [.tmp 2]) tb_ok hord (law0_Num_gs) Tryd.func9 (by kernel_rfl) (by kernel_rfl) rfl (by kernel_rfl) (ac := law0_Num_a) (ob := []) (by kernel_rfl) (fun X hX => obl_nil) (by kernel_rfl) (law0_Num_s)

noncomputable def law0_SameInts_c : ShC := { inp := ⟨[.hole, .hole], [], [1, 1], [.sl (.one (.int .i64)), .sl (.one (.int .i64))]⟩, out := ⟨[.hole], [], [2], [.bool]⟩, nres := 1, ms := [], mu := [], leak := false, glob := false, F := fun (x : ((List Int) × (List Int))) => law0_SameInts x.1 x.2 }
-- quaerelaw0.SameInts
noncomputable def law0_SameInts_g : List (Nat × Con) := []
noncomputable def law0_SameInts_v : Env := envOf tb gl law0_SameInts_g law0_SameInts_c Tryd.f56.ntmps
theorem law0_SameInts_gs : Goods Tryd.prog (cond law0_SameInts_c.glob gl fun _ => none) law0_SameInts_g := goods_nil
noncomputable def law0_SameInts_u0_h : SS := ⟨[0, 1, 5], ⟨[.hole, .hole, .hole], [], [1, 1, 2], [.sl (.one (.int .i64)), .sl (.one (.int .i64)), .int .i64]⟩⟩
noncomputable def law0_SameInts_u0_e : Exs := [((.exit 0), ⟨[], ⟨[], [], [], []⟩⟩), (.ret, ⟨[4], ⟨[.hole], [], [2], [.bool]⟩⟩)]
noncomputable def law0_SameInts_u0_a : AC := .run
noncomputable def law0_SameInts_u0 : Un := lpU law0_SameInts_v.fz [11, 12, 13, 14, 17, 18, 19, 20, 21, 22, 23, 24, 25, 4, 15, 16, 5] law0_SameInts_u0_h law0_SameInts_u0_e (lp law0_SameInts_L0 fuel)
theorem law0_SameInts_u0_s (f : law0_SameInts_u0_h.X → Option (YT law0_SameInts_u0_e)) (x : law0_SameInts_u0_h.X) : E law0_SameInts_v (subC (bodyOf Tryd.f56) [1, 1, 0, 1, 0, 0]) (law0_SameInts_u0_a) (mkS law0_SameInts_u0_h 8 x) (roundK law0_SameInts_v.fz law0_SameInts_u0_h law0_SameInts_u0_e f) = law0_SameInts_L0 f x := by kernel_rfl
theorem law0_SameInts_u0_ok {X : Fx} (hX : VOk Tryd.prog X law0_SameInts_v) : UnOk Tryd.prog X law0_SameInts_v (subC (bodyOf Tryd.f56) [1, 1, 0, 1, 0]) law0_SameInts_u0 :=
  lp_un' (c := (subC (bodyOf Tryd.f56) [1, 1, 0, 1, 0, 0])) (by kernel_rfl) (env_all tb_ok (law0_SameInts_gs)) hord (ob := []) (by kernel_rfl) (fun X hX => obl_nil) (law0_SameInts_u0_s) (by kernel_rfl) (by kernel_rfl) hX
noncomputable def law0_SameInts_a : AC := (.seq .run (.seq .run (.seq (.seq .run (.block (.unit law0_SameInts_u0))) .run)))
theorem law0_SameInts_s (x : TupL law0_SameInts_c.inp.hs) : E law0_SameInts_v (bodyOf Tryd.f56) (law0_SameInts_a) (law0_SameInts_c.entry x) (retSK tb law0_SameInts_v.fz law0_SameInts_c [.tmp 4] x) = law0_SameInts_c.F x := by kernel_rfl
theorem law0_SameInts_ok : ShOk Tryd.prog gl 56 law0_SameInts_c :=
  fn_ok (l := law0_SameInts_g) (n := Tryd.f56.ntmps) (code := bodyOf Tryd.f56) (rts := [.tmp 4]) tb_ok hord (law0_SameInts_gs) Tryd.func56 (by kernel_rfl) (by kernel_rfl) rfl (by kernel_rfl) (ac := law0_SameInts_a) (ob := [((subC (bodyOf Tryd.f56) [1, 1, 0, 1, 0]), law0_SameInts_u0)]) (by kernel_rfl) (fun X hX => (obl_cons (law0_SameInts_u0_ok hX) obl_nil)) (by kernel_rfl) (law0_SameInts_s)

noncomputable def law0_SameLits_c : ShC := { inp := ⟨[.hole, .hole], [], [1, 1], [.sl tLit, .sl tLit]⟩, out := ⟨[.hole], [], [2], [.bool]⟩, nres := 1, ms := [], mu := [], leak := false, glob := false, F := fun (x : ((List QLit) × (List QLit))) => law0_SameLits x.1 x.2 }
-- quaerelaw0.SameLits
noncomputable def law0_SameLits_g : List (Nat × Con) := [(56, .gen (altE [law0_SameInts_c]))]
noncomputable def law0_SameLits_v : Env := envOf tb gl law0_SameLits_g law0_SameLits_c Tryd.f33.ntmps
theorem law0_SameLits_gs : Goods Tryd.prog (cond law0_SameLits_c.glob gl fun _ => none) law0_SameLits_g := (goods_cons (good_alt (alls_cons (law0_SameInts_ok.anyGl rfl) alls_nil)) goods_nil)
noncomputable def law0_SameLits_u0_h : SS := ⟨[0, 1, 5], ⟨[.hole, .hole, .hole], [], [1, 1, 2], [.sl tLit, .sl tLit, .int .i64]⟩⟩
noncomputable def law0_SameLits_u0_e : Exs := [((.exit 0), ⟨[], ⟨[], [], [], []⟩⟩), (.ret, ⟨[4], ⟨[.hole], [], [2], [.bool]⟩⟩)]
noncomputable def law0_SameLits_u0_a : AC := .run
noncomputable def law0_SameLits_u0 : Un := lpU law0_SameLits_v.fz [11, 12, 13, 14, 17, 18, 19, 20, 21, 22, 23, 24, 25, 26, 27, 28, 29, 30, 31, 32, 33, 34, 35, 36, 37, 38, 39, 40, 41, 4, 15, 16, 5] law0_SameLits_u0_h law0_SameLits_u0_e (lp law0_SameLits_L0 fuel)
theorem law0_SameLits_u0_s (f : law0_SameLits_u0_h.X → Option (YT law0_SameLits_u0_e)) (x : law0_SameLits_u0_h.X) : E law0_SameLits_v (subC (bodyOf Tryd.f33) [1, 1, 0, 1, 0, 0]) (law0_SameLits_u0_a) (mkS law0_SameLits_u0_h 8 x) (roundK law0_SameLits_v.fz law0_SameLits_u0_h law0_SameLits_u0_e f) = law0_SameLits_L0 f x := by kernel_rfl
theorem law0_SameLits_u0_ok {X : Fx} (hX : VOk Tryd.prog X law0_SameLits_v) : UnOk Tryd.prog X law0_SameLits_v (subC (bodyOf Tryd.f33) [1, 1, 0, 1, 0]) law0_SameLits_u0 :=
  lp_un' (c := (subC (bodyOf Tryd.f33) [1, 1, 0, 1, 0, 0])) (by kernel_rfl) (env_all tb_ok (law0_SameLits_gs)) hord (ob := []) (by kernel_rfl) (fun X hX => obl_nil) (law0_SameLits_u0_s) (by kernel_rfl) (by kernel_rfl) hX
noncomputable def law0_SameLits_a : AC := (.seq .run (.seq .run (.seq (.seq .run (.block (.unit law0_SameLits_u0))) .run)))
theorem law0_SameLits_s (x : TupL law0_SameLits_c.inp.hs) : E law0_SameLits_v (bodyOf Tryd.f33) (law0_SameLits_a) (law0_SameLits_c.entry x) (retSK tb law0_SameLits_v.fz law0_SameLits_c [.tmp 4] x) = law0_SameLits_c.F x := by kernel_rfl
theorem law0_SameLits_ok : ShOk Tryd.prog gl 33 law0_SameLits_c :=
  fn_ok (l := law0_SameLits_g) (n := Tryd.f33.ntmps) (code := bodyOf Tryd.f33) (rts := [.tmp 4]) tb_ok hord (law0_SameLits_gs) Tryd.func33 (by kernel_rfl) (by kernel_rfl) rfl (by kernel_rfl) (ac := law0_SameLits_a) (ob := [((subC (bodyOf Tryd.f33) [1, 1, 0, 1, 0]), law0_SameLits_u0)]) (by kernel_rfl) (fun X hX => (obl_cons (law0_SameLits_u0_ok hX) obl_nil)) (by kernel_rfl) (law0_SameLits_s)

noncomputable def law0_SameRows_c : ShC := { inp := ⟨[.hole, .hole], [], [1, 1], [.sl (.one (.sl (.one (.int .i64)))), .sl (.one (.sl (.one (.int .i64))))]⟩, out := ⟨[.hole], [], [2], [.bool]⟩, nres := 1, ms := [], mu := [], leak := false, glob := false, F := fun (x : ((List (List Int)) × (List (List Int)))) => law0_SameRows x.1 x.2 }
-- quaerelaw0.SameRows
noncomputable def law0_SameRows_g : List (Nat × Con) := [(56, .gen (altE [law0_SameInts_c]))]
noncomputable def law0_SameRows_v : Env := envOf tb gl law0_SameRows_g law0_SameRows_c Tryd.f34.ntmps
theorem law0_SameRows_gs : Goods Tryd.prog (cond law0_SameRows_c.glob gl fun _ => none) law0_SameRows_g := (goods_cons (good_alt (alls_cons (law0_SameInts_ok.anyGl rfl) alls_nil)) goods_nil)
noncomputable def law0_SameRows_u0_h : SS := ⟨[0, 1, 5], ⟨[.hole, .hole, .hole], [], [1, 1, 2], [.sl (.one (.sl (.one (.int .i64)))), .sl (.one (.sl (.one (.int .i64)))), .int .i64]⟩⟩
noncomputable def law0_SameRows_u0_e : Exs := [((.exit 0), ⟨[], ⟨[], [], [], []⟩⟩), (.ret, ⟨[4], ⟨[.hole], [], [2], [.bool]⟩⟩)]
noncomputable def law0_SameRows_u0_a : AC := .run
noncomputable def law0_SameRows_u0 : Un := lpU law0_SameRows_v.fz [11, 12, 13, 14, 17, 18, 19, 20, 21, 22, 23, 24, 25, 26, 4, 15, 16, 5] law0_SameRows_u0_h law0_SameRows_u0_e (lp law0_SameRows_L0 fuel)
theorem law0_SameRows_u0_s (f : law0_SameRows_u0_h.X → Option (YT law0_SameRows_u0_e)) (x : law0_SameRows_u0_h.X) : E law0_SameRows_v (subC (bodyOf Tryd.f34) [1, 1, 0, 1, 0, 0]) (law0_SameRows_u0_a) (mkS law0_SameRows_u0_h 8 x) (roundK law0_SameRows_v.fz law0_SameRows_u0_h law0_SameRows_u0_e f) = law0_SameRows_L0 f x := by kernel_rfl
theorem law0_SameRows_u0_ok {X : Fx} (hX : VOk Tryd.prog X law0_SameRows_v) : UnOk Tryd.prog X law0_SameRows_v (subC (bodyOf Tryd.f34) [1, 1, 0, 1, 0]) law0_SameRows_u0 :=
  lp_un' (c := (subC (bodyOf Tryd.f34) [1, 1, 0, 1, 0, 0])) (by kernel_rfl) (env_all tb_ok (law0_SameRows_gs)) hord (ob := []) (by kernel_rfl) (fun X hX => obl_nil) (law0_SameRows_u0_s) (by kernel_rfl) (by kernel_rfl) hX
noncomputable def law0_SameRows_a : AC := (.seq .run (.seq .run (.seq (.seq .run (.block (.unit law0_SameRows_u0))) .run)))
theorem law0_SameRows_s (x : TupL law0_SameRows_c.inp.hs) : E law0_SameRows_v (bodyOf Tryd.f34) (law0_SameRows_a) (law0_SameRows_c.entry x) (retSK tb law0_SameRows_v.fz law0_SameRows_c [.tmp 4] x) = law0_SameRows_c.F x := by kernel_rfl
theorem law0_SameRows_ok : ShOk Tryd.prog gl 34 law0_SameRows_c :=
  fn_ok (l := law0_SameRows_g) (n := Tryd.f34.ntmps) (code := bodyOf Tryd.f34) (rts := [.tmp 4]) tb_ok hord (law0_SameRows_gs) Tryd.func34 (by kernel_rfl) (by kernel_rfl) rfl (by kernel_rfl) (ac := law0_SameRows_a) (ob := [((subC (bodyOf Tryd.f34) [1, 1, 0, 1, 0]), law0_SameRows_u0)]) (by kernel_rfl) (fun X hX => (obl_cons (law0_SameRows_u0_ok hX) obl_nil)) (by kernel_rfl) (law0_SameRows_s)

noncomputable def law0_SameClause_c : ShC := { inp := ⟨[(.agg [.hole, .hole, .hole]), (.agg [.hole, .hole, .hole])], [], [1, 1, 1, 1, 1, 1], [.sl tLit, .sl (.one (.sl (.one (.int .i64)))), .sl tLit, .sl tLit, .sl (.one (.sl (.one (.int .i64)))), .sl tLit]⟩, out := ⟨[.hole], [], [2], [.bool]⟩, nres := 1, ms := [], mu := [], leak := false, glob := false, F := fun (x : ((List QLit) × (List (List Int)) × (List QLit) × (List QLit) × (List (List Int)) × (List QLit))) => law0_SameClause x.1 x.2.1 x.2.2.1 x.2.2.2.1 x.2.2.2.2.1 x.2.2.2.2.2 }
-- quaerelaw0.SameClause
noncomputable def law0_SameClause_g : List (Nat × Con) := [(33, .gen (altE [law0_SameLits_c])), (34, .gen (altE [law0_SameRows_c]))]
noncomputable def law0_SameClause_v : Env := envOf tb gl law0_SameClause_g law0_SameClause_c Tryd.f16.ntmps
theorem law0_SameClause_gs : Goods Tryd.prog (cond law0_SameClause_c.glob gl fun _ => none) law0_SameClause_g := (goods_cons (good_alt (alls_cons (law0_SameLits_ok.anyGl rfl) alls_nil)) (goods_cons (good_alt (alls_cons (law0_SameRows_ok.anyGl rfl) alls_nil)) goods_nil))
noncomputable def law0_SameClause_a : AC := .run
theorem law0_SameClause_s (x : TupL law0_SameClause_c.inp.hs) : E law0_SameClause_v (bodyOf Tryd.f16) (law0_SameClause_a) (law0_SameClause_c.entry x) (retSK tb law0_SameClause_v.fz law0_SameClause_c [.tmp 4] x) = law0_SameClause_c.F x := by kernel_rfl
theorem law0_SameClause_ok : ShOk Tryd.prog gl 16 law0_SameClause_c :=
  fn_ok (l := law0_SameClause_g) (n := Tryd.f16.ntmps) (code := bodyOf Tryd.f16) (rts := [.tmp 4]) tb_ok hord (law0_SameClause_gs) Tryd.func16 (by kernel_rfl) (by kernel_rfl) rfl (by kernel_rfl) (ac := law0_SameClause_a) (ob := []) (by kernel_rfl) (fun X hX => obl_nil) (by kernel_rfl) (law0_SameClause_s)

noncomputable def law0_SameStep_c : ShC := { inp := ⟨[(.agg [.hole, .hole, .hole, .hole, .hole, .hole, .hole, .hole, .hole, .hole]), (.agg [.hole, .hole, .hole, .hole, .hole, .hole, .hole, .hole, .hole, .hole])], [], [1, 1, 1, 1, 1, 1, 1, 1, 1, 1, 1, 1, 1, 1, 1, 1, 1, 1, 1, 1], [.int .i64, .int .i64, .int .i64, .int .i64, .int .i64, .int .i64, .int .i64, .sl tLit, .sl (.one (.sl (.one (.int .i64)))), .sl tLit, .int .i64, .int .i64, .int .i64, .int .i64, .int .i64, .int .i64, .int .i64, .sl tLit, .sl (.one (.sl (.one (.int .i64)))), .sl tLit]⟩, out := ⟨[.hole], [], [2], [.bool]⟩, nres := 1, ms := [], mu := [], leak := false, glob := false, F := fun (x : (Int × Int × Int × Int × Int × Int × Int × (List QLit) × (List (List Int)) × (List QLit) × Int × Int × Int × Int × Int × Int × Int × (List QLit) × (List (List Int)) × (List QLit))) => law0_SameStep x.1 x.2.1 x.2.2.1 x.2.2.2.1 x.2.2.2.2.1 x.2.2.2.2.2.1 x.2.2.2.2.2.2.1 x.2.2.2.2.2.2.2.1 x.2.2.2.2.2.2.2.2.1 x.2.2.2.2.2.2.2.2.2.1 x.2.2.2.2.2.2.2.2.2.2.1 x.2.2.2.2.2.2.2.2.2.2.2.1 x.2.2.2.2.2.2.2.2.2.2.2.2.1 x.2.2.2.2.2.2.2.2.2.2.2.2.2.1 x.2.2.2.2.2.2.2.2.2.2.2.2.2.2.1 x.2.2.2.2.2.2.2.2.2.2.2.2.2.2.2.1 x.2.2.2.2.2.2.2.2.2.2.2.2.2.2.2.2.1 x.2.2.2.2.2.2.2.2.2.2.2.2.2.2.2.2.2.1 x.2.2.2.2.2.2.2.2.2.2.2.2.2.2.2.2.2.2.1 x.2.2.2.2.2.2.2.2.2.2.2.2.2.2.2.2.2.2.2 }
-- quaerelaw0.SameStep
noncomputable def law0_SameStep_g : List (Nat × Con) := [(16, .gen (altE [law0_SameClause_c]))]
noncomputable def law0_SameStep_v : Env := envOf tb gl law0_SameStep_g law0_SameStep_c Tryd.f41.ntmps
theorem law0_SameStep_gs : Goods Tryd.prog (cond law0_SameStep_c.glob gl fun _ => none) law0_SameStep_g := (goods_cons (good_alt (alls_cons (law0_SameClause_ok.anyGl rfl) alls_nil)) goods_nil)
noncomputable def law0_SameStep_a : AC := .run
theorem law0_SameStep_s (x : TupL law0_SameStep_c.inp.hs) : E law0_SameStep_v (bodyOf Tryd.f41) (law0_SameStep_a) (law0_SameStep_c.entry x) (retSK tb law0_SameStep_v.fz law0_SameStep_c [.tmp 4] x) = law0_SameStep_c.F x := by kernel_rfl
theorem law0_SameStep_ok : ShOk Tryd.prog gl 41 law0_SameStep_c :=
  fn_ok (l := law0_SameStep_g) (n := Tryd.f41.ntmps) (code := bodyOf Tryd.f41) (rts := [.tmp 4]) tb_ok hord (law0_SameStep_gs) Tryd.func41 (by kernel_rfl) (by kernel_rfl) rfl (by kernel_rfl) (ac := law0_SameStep_a) (ob := []) (by kernel_rfl) (fun X hX => obl_nil) (by kernel_rfl) (law0_SameStep_s)

noncomputable def law0_SameSteps_c : ShC := { inp := ⟨[.hole, .hole], [], [1, 1], [.sl (.cons (.int .i64) (.cons (.int .i64) (.cons (.int .i64) (.cons (.int .i64) (.cons (.int .i64) (.cons (.int .i64) (.cons (.int .i64) (.cons (.sl tLit) (.cons (.sl (.one (.sl (.one (.int .i64))))) (.one (.sl tLit))))))))))), .sl (.cons (.int .i64) (.cons (.int .i64) (.cons (.int .i64) (.cons (.int .i64) (.cons (.int .i64) (.cons (.int .i64) (.cons (.int .i64) (.cons (.sl tLit) (.cons (.sl (.one (.sl (.one (.int .i64))))) (.one (.sl tLit)))))))))))]⟩, out := ⟨[.hole], [], [2], [.bool]⟩, nres := 1, ms := [], mu := [], leak := false, glob := false, F := fun (x : ((List (Int × Int × Int × Int × Int × Int × Int × (List QLit) × (List (List Int)) × (List QLit))) × (List (Int × Int × Int × Int × Int × Int × Int × (List QLit) × (List (List Int)) × (List QLit))))) => law0_SameSteps x.1 x.2 }
-- quaerelaw0.SameSteps
noncomputable def law0_SameSteps_g : List (Nat × Con) := [(41, .gen (altE [law0_SameStep_c]))]
noncomputable def law0_SameSteps_v : Env := envOf tb gl law0_SameSteps_g law0_SameSteps_c Tryd.f20.ntmps
theorem law0_SameSteps_gs : Goods Tryd.prog (cond law0_SameSteps_c.glob gl fun _ => none) law0_SameSteps_g := (goods_cons (good_alt (alls_cons (law0_SameStep_ok.anyGl rfl) alls_nil)) goods_nil)
noncomputable def law0_SameSteps_u0_h : SS := ⟨[0, 1, 5], ⟨[.hole, .hole, .hole], [], [1, 1, 2], [.sl (.cons (.int .i64) (.cons (.int .i64) (.cons (.int .i64) (.cons (.int .i64) (.cons (.int .i64) (.cons (.int .i64) (.cons (.int .i64) (.cons (.sl tLit) (.cons (.sl (.one (.sl (.one (.int .i64))))) (.one (.sl tLit))))))))))), .sl (.cons (.int .i64) (.cons (.int .i64) (.cons (.int .i64) (.cons (.int .i64) (.cons (.int .i64) (.cons (.int .i64) (.cons (.int .i64) (.cons (.sl tLit) (.cons (.sl (.one (.sl (.one (.int .i64))))) (.one (.sl tLit))))))))))), .int .i64]⟩⟩
noncomputable def law0_SameSteps_u0_e : Exs := [((.exit 0), ⟨[], ⟨[], [], [], []⟩⟩), (.ret, ⟨[4], ⟨[.hole], [], [2], [.bool]⟩⟩)]
noncomputable def law0_SameSteps_u0_a : AC := .run
noncomputable def law0_SameSteps_u0 : Un := lpU law0_SameSteps_v.fz [11, 12, 13, 14, 17, 18, 19, 20, 21, 22, 23, 24, 25, 26, 4, 15, 16, 5] law0_SameSteps_u0_h law0_SameSteps_u0_e (lp law0_SameSteps_L0 fuel)
theorem law0_SameSteps_u0_s (f : law0_SameSteps_u0_h.X → Option (YT law0_SameSteps_u0_e)) (x : law0_SameSteps_u0_h.X) : E law0_SameSteps_v (subC (bodyOf Tryd.f20) [1, 1, 0, 1, 0, 0]) (law0_SameSteps_u0_a) (mkS law0_SameSteps_u0_h 8 x) (roundK law0_SameSteps_v.fz law0_SameSteps_u0_h law0_SameSteps_u0_e f) = law0_SameSteps_L0 f x := by kernel_rfl
theorem law0_SameSteps_u0_ok {X : Fx} (hX : VOk Tryd.prog X law0_SameSteps_v) : UnOk Tryd.prog X law0_SameSteps_v (subC (bodyOf Tryd.f20) [1, 1, 0, 1, 0]) law0_SameSteps_u0 :=
  lp_un' (c := (subC (bodyOf Tryd.f20) [1, 1, 0, 1, 0, 0])) (by kernel_rfl) (env_all tb_ok (law0_SameSteps_gs)) hord (ob := []) (by kernel_rfl) (fun X hX => obl_nil) (law0_SameSteps_u0_s) (by kernel_rfl) (by kernel_rfl) hX
noncomputable def law0_SameSteps_a : AC := (.seq .run (.seq .run (.seq (.seq .run (.block (.unit law0_SameSteps_u0))) .run)))
theorem law0_SameSteps_s (x : TupL law0_SameSteps_c.inp.hs) : E law0_SameSteps_v (bodyOf Tryd.f20) (law0_SameSteps_a) (law0_SameSteps_c.entry x) (retSK tb law0_SameSteps_v.fz law0_SameSteps_c [.tmp 4] x) = law0_SameSteps_c.F x := by kernel_rfl
theorem law0_SameSteps_ok : ShOk Tryd.prog gl 20 law0_SameSteps_c :=
  fn_ok (l := law0_SameSteps_g) (n := Tryd.f20.ntmps) (code := bodyOf Tryd.f20) (rts := [.tmp 4]) tb_ok hord (law0_SameSteps_gs) Tryd.func20 (by kernel_rfl) (by kernel_rfl) rfl (by kernel_rfl) (ac := law0_SameSteps_a) (ob := [((subC (bodyOf Tryd.f20) [1, 1, 0, 1, 0]), law0_SameSteps_u0)]) (by kernel_rfl) (fun X hX => (obl_cons (law0_SameSteps_u0_ok hX) obl_nil)) (by kernel_rfl) (law0_SameSteps_s)

noncomputable def law13_awake_c : ShC := { inp := ⟨[], [], [], []⟩, out := ⟨[.hole], [], [2], [.bool]⟩, nres := 1, ms := [], mu := [], leak := false, glob := true, F := fun (x : Unit) => law13_awake }
-- quaerelaw13.awake
noncomputable def law13_awake_g : List (Nat × Con) := [(9, .gen (altE [law0_Num_c])), (12, .gen (altE [resolve_One_c])), (16, .gen (altE [law0_SameClause_c])), (20, .gen (altE [law0_SameSteps_c])), (25, .gen (altE [law13_words_c])), (26, .gen (altE [resolve_All_c]))]
noncomputable def law13_awake_v : Env := envOf tb gl law13_awake_g law13_awake_c Tryd.f11.ntmps
theorem law13_awake_gs : Goods Tryd.prog (cond law13_awake_c.glob gl fun _ => none) law13_awake_g := (goods_cons (good_alt (alls_cons (law0_Num_ok.anyGl rfl) alls_nil)) (goods_cons (good_alt (alls_cons resolve_One_ok alls_nil)) (goods_cons (good_alt (alls_cons (law0_SameClause_ok.anyGl rfl) alls_nil)) (goods_cons (good_alt (alls_cons (law0_SameSteps_ok.anyGl rfl) alls_nil)) (goods_cons (good_alt (alls_cons (law13_words_ok.anyGl rfl) alls_nil)) (goods_cons (good_alt (alls_cons resolve_All_ok alls_nil)) goods_nil))))))
noncomputable def law13_awake_a : AC := .run
theorem law13_awake_s (x : TupL law13_awake_c.inp.hs) : E law13_awake_v (bodyOf Tryd.f11) (law13_awake_a) (law13_awake_c.entry x) (retSK tb law13_awake_v.fz law13_awake_c [.tmp 0] x) = law13_awake_c.F x := by kernel_rfl
theorem law13_awake_ok : ShOk Tryd.prog gl 11 law13_awake_c :=
  fn_ok (l := law13_awake_g) (n := Tryd.f11.ntmps) (code := bodyOf Tryd.f11) (rts := [.tmp 0]) tb_ok hord (law13_awake_gs) Tryd.func11 (by kernel_rfl) (by kernel_rfl) rfl (by kernel_rfl) (ac := law13_awake_a) (ob := []) (by kernel_rfl) (fun X hX => obl_nil) (by kernel_rfl) (law13_awake_s)

noncomputable def law13_ResolveTurned_c : ShC := { inp := ⟨[.hole, (.agg [.hole, .hole, .hole]), .hole, (.agg [.hole, .hole, .hole]), .hole], [], [1, 1, 1, 1, 1, 1, 1, 1, 1], [.sl tSym, .sl tLit, .sl (.one (.sl (.one (.int .i64)))), .sl tLit, .int .i64, .sl tLit, .sl (.one (.sl (.one (.int .i64)))), .sl tLit, .int .i64]⟩, out := ⟨[.hole], [], [2], [.bool]⟩, nres := 1, ms := [], mu := [], leak := false, glob := true, F := fun (x : ((List QSym) × (List QLit) × (List (List Int)) × (List QLit) × Int × (List QLit) × (List (List Int)) × (List QLit) × Int)) => law13_ResolveTurned x.1 x.2.1 x.2.2.1 x.2.2.2.1 x.2.2.2.2.1 x.2.2.2.2.2.1 x.2.2.2.2.2.2.1 x.2.2.2.2.2.2.2.1 x.2.2.2.2.2.2.2.2 }
-- quaerelaw13.ResolveTurned
noncomputable def law13_ResolveTurned_g : List (Nat × Con) := [(9, .gen (altE [law0_Num_c])), (11, .gen (altE [law13_awake_c])), (12, .gen (altE [resolve_One_c]))]
noncomputable def law13_ResolveTurned_v : Env := envOf tb gl law13_ResolveTurned_g law13_ResolveTurned_c Tryd.f4.ntmps
theorem law13_ResolveTurned_gs : Goods Tryd.prog (cond law13_ResolveTurned_c.glob gl fun _ => none) law13_ResolveTurned_g := (goods_cons (good_alt (alls_cons (law0_Num_ok.anyGl rfl) alls_nil)) (goods_cons (good_alt (alls_cons law13_awake_ok alls_nil)) (goods_cons (good_alt (alls_cons resolve_One_ok alls_nil)) goods_nil)))
noncomputable def law13_ResolveTurned_a : AC := .run
theorem law13_ResolveTurned_s (x : TupL law13_ResolveTurned_c.inp.hs) : E law13_ResolveTurned_v (bodyOf Tryd.f4) (law13_ResolveTurned_a) (law13_ResolveTurned_c.entry x) (retSK tb law13_ResolveTurned_v.fz law13_ResolveTurned_c [.tmp 10] x) = law13_ResolveTurned_c.F x := by kernel_rfl
theorem law13_ResolveTurned_ok : ShOk Tryd.prog gl 4 law13_ResolveTurned_c :=
  fn_ok (l := law13_ResolveTurned_g) (n := Tryd.f4.ntmps) (code := bodyOf Tryd.f4) (rts := [.tmp 10]) tb_ok hord (law13_ResolveTurned_gs) Tryd.func4 (by kernel_rfl) (by kernel_rfl) rfl (by kernel_rfl) (ac := law13_ResolveTurned_a) (ob := []) (by kernel_rfl) (fun X hX => obl_nil) (by kernel_rfl) (law13_ResolveTurned_s)

end Go.Abs.Sg
