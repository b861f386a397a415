import Derived.Test.YtanopgblnhaigaaDoorFc
import Derived.Test.YtanopgblnhaigaaDoorQb
import Derived.Test.YtanopgblnhaigaaDoorProg
import Derived.Test.YtanopgblnhaigaaDoorSh
/-
  The functions make just that.
-/
namespace Go.Abs.Se
open Go Go.Abs Go.Abs.Q Go.Proofs
set_option maxRecDepth 100000
noncomputable def tbl : List (Nat × TD) := [(3, .int .i64),
  (4, .bool),
  (9, .str),
  (22, .sl 69 tSym 40),
  (23, .sl 3 (.one (.int .i64)) 8),
  (25, .st [(4, 0), (23, 1)] 2),
  (27, .sl 29 (.cons (.int .i64) (.cons (.int .i64) (.one (.sl (.one (.int .i64)))))) 40),
  (29, .st [(3, 0), (3, 1), (23, 2)] 3),
  (35, .sl 23 (.one (.sl (.one (.int .i64)))) 24),
  (36, .sl 25 tLit 32),
  (38, .st [(36, 0), (35, 1), (36, 2)] 3),
  (46, .sl 9 (.one .str) 16),
  (69, .st [(9, 0), (3, 1), (3, 2), (3, 3)] 4),
  (70, .fn),
  (134, .arr 3 (.one (.int .i64)) 24)]
noncomputable def tb : Tb := tbOf tbl
theorem tb_ok : TbOk Tryd.prog tb := tb_check (by kernel_rfl)
theorem hord : Tryd.prog.follows .mixedOrders = true := by kernel_rfl
noncomputable def gl : Gl := fun q => cond (Nat.beq q 0) (some ⟨tSym, (([61], 0, 2, 1) : QSym)⟩) (none)
noncomputable def law24_words_c : ShC := { inp := ⟨[], [], [], []⟩, out := ⟨[(.view 0)], [.seq false], [2], [.sl tSym]⟩, nres := 1, ms := [], mu := [], leak := false, glob := false, F := fun (x : Unit) => law24_words }
-- quaerelaw24.words
noncomputable def law24_words_g : List (Nat × Con) := []
noncomputable def law24_words_v : Env := envOf tb gl law24_words_g law24_words_c Tryd.f18.ntmps
theorem law24_words_gs : Goods Tryd.prog (cond law24_words_c.glob gl fun _ => none) law24_words_g := goods_nil
noncomputable def law24_words_a : AC := .run
theorem law24_words_s (x : TupL law24_words_c.inp.hs) : E law24_words_v (bodyOf Tryd.f18) (law24_words_a) (law24_words_c.entry x) (retSK tb law24_words_v.fz law24_words_c [.tmp 0] x) = law24_words_c.F x := by kernel_rfl
theorem law24_words_ok : ShOk Tryd.prog gl 18 law24_words_c :=
  fn_ok (l := law24_words_g) (n := Tryd.f18.ntmps) (code := bodyOf Tryd.f18) (rts := [.tmp 0]) tb_ok hord (law24_words_gs) Tryd.func18 (by kernel_rfl) (by kernel_rfl) rfl (by kernel_rfl) (ac := law24_words_a) (ob := []) (by kernel_rfl) (fun X hX => obl_nil) (by kernel_rfl) (law24_words_s)

noncomputable def sign_small_c : ShC := { inp := ⟨[.hole], [], [1], [.int .u8]⟩, out := ⟨[.hole], [], [2], [.bool]⟩, nres := 1, ms := [], mu := [], leak := false, glob := false, F := fun (x : Int) => sign_small x }
-- sign.small
noncomputable def sign_small_g : List (Nat × Con) := []
noncomputable def sign_small_v : Env := envOf tb gl sign_small_g sign_small_c Tryd.f102.ntmps
theorem sign_small_gs : Goods Tryd.prog (cond sign_small_c.glob gl fun _ => none) sign_small_g := goods_nil
noncomputable def sign_small_a : AC := .run
theorem sign_small_s (x : TupL sign_small_c.inp.hs) : E sign_small_v (bodyOf Tryd.f102) (sign_small_a) (sign_small_c.entry x) (retSK tb sign_small_v.fz sign_small_c [.tmp 2] x) = sign_small_c.F x := by kernel_rfl
theorem sign_small_ok : ShOk Tryd.prog gl 102 sign_small_c :=
  fn_ok (l := sign_small_g) (n := Tryd.f102.ntmps) (code := bodyOf Tryd.f102) (rts := [.tmp 2]) tb_ok hord (sign_small_gs) Tryd.func102 (by kernel_rfl) (by kernel_rfl) rfl (by kernel_rfl) (ac := sign_small_a) (ob := []) (by kernel_rfl) (fun X hX => obl_nil) (by kernel_rfl) (sign_small_s)

noncomputable def sign_called_c : ShC := { inp := ⟨[.hole], [], [1], [.str]⟩, out := ⟨[.hole], [], [2], [.bool]⟩, nres := 1, ms := [], mu := [], leak := false, glob := false, F := fun (x : Str) => sign_called x }
-- sign.called
noncomputable def sign_called_g : List (Nat × Con) := [(102, .gen (altE [sign_small_c]))]
noncomputable def sign_called_v : Env := envOf tb gl sign_called_g sign_called_c Tryd.f85.ntmps
theorem sign_called_gs : Goods Tryd.prog (cond sign_called_c.glob gl fun _ => none) sign_called_g := (goods_cons (good_alt (alls_cons (sign_small_ok.anyGl rfl) alls_nil)) goods_nil)
noncomputable def sign_called_u0_h : SS := ⟨[0, 18, 19], ⟨[.hole, .hole, .hole], [], [2, 2, 2], [.str, .int .i64, .int .i64]⟩⟩
noncomputable def sign_called_u0_e : Exs := [((.exit 0), ⟨[], ⟨[], [], [], []⟩⟩), (.ret, ⟨[2], ⟨[.hole], [], [2], [.bool]⟩⟩)]
noncomputable def sign_called_u0_a : AC := .run
noncomputable def sign_called_u0 : Un := lpU sign_called_v.fz [20, 21, 3, 22, 23, 24, 25, 26, 27, 28, 29, 30, 31, 32, 33, 34, 35, 36, 37, 38, 2, 39, 19] sign_called_u0_h sign_called_u0_e (lp sign_called_L0 fuel)
theorem sign_called_u0_s (f : sign_called_u0_h.X → Option (YT sign_called_u0_e)) (x : sign_called_u0_h.X) : E sign_called_v (subC (bodyOf Tryd.f85) [1, 1, 0, 1, 0, 0]) (sign_called_u0_a) (mkS sign_called_u0_h 8 x) (roundK sign_called_v.fz sign_called_u0_h sign_called_u0_e f) = sign_called_L0 f x := by kernel_rfl
theorem sign_called_u0_ok {X : Fx} (hX : VOk Tryd.prog X sign_called_v) : UnOk Tryd.prog X sign_called_v (subC (bodyOf Tryd.f85) [1, 1, 0, 1, 0]) sign_called_u0 :=
  lp_un' (c := (subC (bodyOf Tryd.f85) [1, 1, 0, 1, 0, 0])) (by kernel_rfl) (env_all tb_ok (sign_called_gs)) hord (ob := []) (by kernel_rfl) (fun X hX => obl_nil) (sign_called_u0_s) (by kernel_rfl) (by kernel_rfl) hX
noncomputable def sign_called_a : AC := (.seq .run (.seq .run (.seq (.seq .run (.block (.unit sign_called_u0))) .run)))
theorem sign_called_s (x : TupL sign_called_c.inp.hs) : E sign_called_v (bodyOf Tryd.f85) (sign_called_a) (sign_called_c.entry x) (retSK tb sign_called_v.fz sign_called_c [.tmp 2] x) = sign_called_c.F x := by kernel_rfl
theorem sign_called_ok : ShOk Tryd.prog gl 85 sign_called_c :=
  fn_ok (l := sign_called_g) (n := Tryd.f85.ntmps) (code := bodyOf Tryd.f85) (rts := [.tmp 2]) tb_ok hord (sign_called_gs) Tryd.func85 (by kernel_rfl) (by kernel_rfl) rfl (by kernel_rfl) (ac := sign_called_a) (ob := [((subC (bodyOf Tryd.f85) [1, 1, 0, 1, 0]), sign_called_u0)]) (by kernel_rfl) (fun X hX => (obl_cons (sign_called_u0_ok hX) obl_nil)) (by kernel_rfl) (sign_called_s)

noncomputable def sign_SymMay_c : ShC := { inp := ⟨[(.agg [.hole, .hole, .hole, .hole])], [], [1, 1, 1, 1], [.str, .int .i64, .int .i64, .int .i64]⟩, out := ⟨[.hole], [], [2], [.bool]⟩, nres := 1, ms := [], mu := [], leak := false, glob := false, F := fun (x : QSym) => sign_SymMay x.1 x.2.1 x.2.2.1 x.2.2.2 }
-- sign.SymMay
noncomputable def sign_SymMay_g : List (Nat × Con) := [(85, .gen (altE [sign_called_c]))]
noncomputable def sign_SymMay_v : Env := envOf tb gl sign_SymMay_g sign_SymMay_c Tryd.f62.ntmps
theorem sign_SymMay_gs : Goods Tryd.prog (cond sign_SymMay_c.glob gl fun _ => none) sign_SymMay_g := (goods_cons (good_alt (alls_cons (sign_called_ok.anyGl rfl) alls_nil)) goods_nil)
noncomputable def sign_SymMay_a : AC := .run
theorem sign_SymMay_s (x : TupL sign_SymMay_c.inp.hs) : E sign_SymMay_v (bodyOf Tryd.f62) (sign_SymMay_a) (sign_SymMay_c.entry x) (retSK tb sign_SymMay_v.fz sign_SymMay_c [.tmp 2] x) = sign_SymMay_c.F x := by kernel_rfl
theorem sign_SymMay_ok : ShOk Tryd.prog gl 62 sign_SymMay_c :=
  fn_ok (l := sign_SymMay_g) (n := Tryd.f62.ntmps) (code := bodyOf Tryd.f62) (rts := [.tmp 2]) tb_ok hord (sign_SymMay_gs) Tryd.func62 (by kernel_rfl) (by kernel_rfl) rfl (by kernel_rfl) (ac := sign_SymMay_a) (ob := []) (by kernel_rfl) (fun X hX => obl_nil) (by kernel_rfl) (sign_SymMay_s)

noncomputable def sign_find_c : ShC := { inp := ⟨[.hole, .hole], [], [1, 1], [.sl tSym, .str]⟩, out := ⟨[.hole], [], [2], [.int .i64]⟩, nres := 1, ms := [], mu := [], leak := false, glob := false, F := fun (x : ((List QSym) × Str)) => sign_find x.1 x.2 }
-- sign.find
noncomputable def sign_find_g : List (Nat × Con) := []
noncomputable def sign_find_v : Env := envOf tb gl sign_find_g sign_find_c Tryd.f63.ntmps
theorem sign_find_gs : Goods Tryd.prog (cond sign_find_c.glob gl fun _ => none) sign_find_g := goods_nil
noncomputable def sign_find_u0_h : SS := ⟨[0, 1, 7, 8], ⟨[.hole, .hole, .hole, .hole], [], [1, 2, 2, 2], [.sl tSym, .str, .int .i64, .int .i64]⟩⟩
noncomputable def sign_find_u0_e : Exs := [((.exit 0), ⟨[], ⟨[], [], [], []⟩⟩), (.ret, ⟨[4], ⟨[.hole], [], [2], [.int .i64]⟩⟩)]
noncomputable def sign_find_u0_a : AC := .run
noncomputable def sign_find_u0 : Un := lpU sign_find_v.fz [9, 10, 5, 11, 12, 13, 14, 15, 16, 17, 18, 4, 19, 8] sign_find_u0_h sign_find_u0_e (lp sign_find_L0 fuel)
theorem sign_find_u0_s (f : sign_find_u0_h.X → Option (YT sign_find_u0_e)) (x : sign_find_u0_h.X) : E sign_find_v (subC (bodyOf Tryd.f63) [1, 0, 1, 0, 0]) (sign_find_u0_a) (mkS sign_find_u0_h 8 x) (roundK sign_find_v.fz sign_find_u0_h sign_find_u0_e f) = sign_find_L0 f x := by kernel_rfl
theorem sign_find_u0_ok {X : Fx} (hX : VOk Tryd.prog X sign_find_v) : UnOk Tryd.prog X sign_find_v (subC (bodyOf Tryd.f63) [1, 0, 1, 0]) sign_find_u0 :=
  lp_un' (c := (subC (bodyOf Tryd.f63) [1, 0, 1, 0, 0])) (by kernel_rfl) (env_all tb_ok (sign_find_gs)) hord (ob := []) (by kernel_rfl) (fun X hX => obl_nil) (sign_find_u0_s) (by kernel_rfl) (by kernel_rfl) hX
noncomputable def sign_find_a : AC := (.seq .run (.seq (.seq .run (.block (.unit sign_find_u0))) .run))
theorem sign_find_s (x : TupL sign_find_c.inp.hs) : E sign_find_v (bodyOf Tryd.f63) (sign_find_a) (sign_find_c.entry x) (retSK tb sign_find_v.fz sign_find_c [.tmp 4] x) = sign_find_c.F x := by kernel_rfl
theorem sign_find_ok : ShOk Tryd.prog gl 63 sign_find_c :=
  fn_ok (l := sign_find_g) (n := Tryd.f63.ntmps) (code := bodyOf Tryd.f63) (rts := [.tmp 4]) tb_ok hord (sign_find_gs) Tryd.func63 (by kernel_rfl) (by kernel_rfl) rfl (by kernel_rfl) (ac := sign_find_a) (ob := [((subC (bodyOf Tryd.f63) [1, 0, 1, 0]), sign_find_u0)]) (by kernel_rfl) (fun X hX => (obl_cons (sign_find_u0_ok hX) obl_nil)) (by kernel_rfl) (sign_find_s)

noncomputable def sign_May_c : ShC := { inp := ⟨[.hole], [], [1], [.sl tSym]⟩, out := ⟨[.hole], [], [2], [.bool]⟩, nres := 1, ms := [], mu := [], leak := false, glob := true, F := fun (x : (List QSym)) => sign_May x }
-- sign.May
noncomputable def sign_May_g : List (Nat × Con) := [(62, .gen (altE [sign_SymMay_c])), (63, .gen (altE [sign_find_c]))]
noncomputable def sign_May_v : Env := envOf tb gl sign_May_g sign_May_c Tryd.f32.ntmps
theorem sign_May_gs : Goods Tryd.prog (cond sign_May_c.glob gl fun _ => none) sign_May_g := (goods_cons (good_alt (alls_cons (sign_SymMay_ok.anyGl rfl) alls_nil)) (goods_cons (good_alt (alls_cons (sign_find_ok.anyGl rfl) alls_nil)) goods_nil))
noncomputable def sign_May_u0_h : SS := ⟨[0, 3], ⟨[.hole, .hole], [], [1, 2], [.sl tSym, .int .i64]⟩⟩
noncomputable def sign_May_u0_e : Exs := [((.exit 0), ⟨[], ⟨[], [], [], []⟩⟩), (.ret, ⟨[2], ⟨[.hole], [], [2], [.bool]⟩⟩)]
noncomputable def sign_May_u0_a : AC := .run
noncomputable def sign_May_u0 : Un := lpU sign_May_v.fz [19, 20, 21, 22, 25, 26, 27, 28, 29, 30, 31, 32, 33, 34, 35, 36, 37, 38, 39, 40, 41, 2, 23, 24, 3] sign_May_u0_h sign_May_u0_e (lp sign_May_L0 fuel)
theorem sign_May_u0_s (f : sign_May_u0_h.X → Option (YT sign_May_u0_e)) (x : sign_May_u0_h.X) : E sign_May_v (subC (bodyOf Tryd.f32) [1, 1, 0, 1, 0, 0]) (sign_May_u0_a) (mkS sign_May_u0_h 8 x) (roundK sign_May_v.fz sign_May_u0_h sign_May_u0_e f) = sign_May_L0 f x := by kernel_rfl
theorem sign_May_u0_ok {X : Fx} (hX : VOk Tryd.prog X sign_May_v) : UnOk Tryd.prog X sign_May_v (subC (bodyOf Tryd.f32) [1, 1, 0, 1, 0]) sign_May_u0 :=
  lp_un' (c := (subC (bodyOf Tryd.f32) [1, 1, 0, 1, 0, 0])) (by kernel_rfl) (env_all tb_ok (sign_May_gs)) hord (ob := []) (by kernel_rfl) (fun X hX => obl_nil) (sign_May_u0_s) (by kernel_rfl) (by kernel_rfl) hX
noncomputable def sign_May_a : AC := (.seq .run (.seq .run (.seq (.seq .run (.block (.unit sign_May_u0))) .run)))
theorem sign_May_s (x : TupL sign_May_c.inp.hs) : E sign_May_v (bodyOf Tryd.f32) (sign_May_a) (sign_May_c.entry x) (retSK tb sign_May_v.fz sign_May_c [.tmp 2] x) = sign_May_c.F x := by kernel_rfl
theorem sign_May_ok : ShOk Tryd.prog gl 32 sign_May_c :=
  fn_ok (l := sign_May_g) (n := Tryd.f32.ntmps) (code := bodyOf Tryd.f32) (rts := [.tmp 2]) tb_ok hord (sign_May_gs) Tryd.func32 (by kernel_rfl) (by kernel_rfl) rfl (by kernel_rfl) (ac := sign_May_a) (ob := [((subC (bodyOf Tryd.f32) [1, 1, 0, 1, 0]), sign_May_u0)]) (by kernel_rfl) (fun X hX => (obl_cons (sign_May_u0_ok hX) obl_nil)) (by kernel_rfl) (sign_May_s)

noncomputable def slices_Index_c : ShC := { inp := ⟨[.hole, .hole], [], [1, 1], [.sl (.one (.int .i64)), .int .i64]⟩, out := ⟨[.hole], [], [2], [.int .i64]⟩, nres := 1, ms := [], mu := [], leak := false, glob := false, F := fun (x : ((List Int) × Int)) => slices_Index x.1 x.2 }
-- slices.Index[[]int,int]
noncomputable def slices_Index_g : List (Nat × Con) := []
noncomputable def slices_Index_v : Env := envOf tb gl slices_Index_g slices_Index_c Tryd.f86.ntmps
theorem slices_Index_gs : Goods Tryd.prog (cond slices_Index_c.glob gl fun _ => none) slices_Index_g := goods_nil
noncomputable def slices_Index_u0_h : SS := ⟨[0, 1, 7, 8], ⟨[.hole, .hole, .hole, .hole], [], [1, 2, 2, 2], [.sl (.one (.int .i64)), .int .i64, .int .i64, .int .i64]⟩⟩
noncomputable def slices_Index_u0_e : Exs := [((.exit 0), ⟨[], ⟨[], [], [], []⟩⟩), (.ret, ⟨[4], ⟨[.hole], [], [2], [.int .i64]⟩⟩)]
noncomputable def slices_Index_u0_a : AC := .run
noncomputable def slices_Index_u0 : Un := lpU slices_Index_v.fz [9, 10, 5, 11, 12, 13, 14, 15, 16, 17, 4, 18, 8] slices_Index_u0_h slices_Index_u0_e (lp slices_Index_L0 fuel)
theorem slices_Index_u0_s (f : slices_Index_u0_h.X → Option (YT slices_Index_u0_e)) (x : slices_Index_u0_h.X) : E slices_Index_v (subC (bodyOf Tryd.f86) [1, 0, 1, 0, 0]) (slices_Index_u0_a) (mkS slices_Index_u0_h 8 x) (roundK slices_Index_v.fz slices_Index_u0_h slices_Index_u0_e f) = slices_Index_L0 f x := by kernel_rfl
theorem slices_Index_u0_ok {X : Fx} (hX : VOk Tryd.prog X slices_Index_v) : UnOk Tryd.prog X slices_Index_v (subC (bodyOf Tryd.f86) [1, 0, 1, 0]) slices_Index_u0 :=
  lp_un' (c := (subC (bodyOf Tryd.f86) [1, 0, 1, 0, 0])) (by kernel_rfl) (env_all tb_ok (slices_Index_gs)) hord (ob := []) (by kernel_rfl) (fun X hX => obl_nil) (slices_Index_u0_s) (by kernel_rfl) (by kernel_rfl) hX
noncomputable def slices_Index_a : AC := (.seq .run (.seq (.seq .run (.block (.unit slices_Index_u0))) .run))
theorem slices_Index_s (x : TupL slices_Index_c.inp.hs) : E slices_Index_v (bodyOf Tryd.f86) (slices_Index_a) (slices_Index_c.entry x) (retSK tb slices_Index_v.fz slices_Index_c [.tmp 4] x) = slices_Index_c.F x := by kernel_rfl
theorem slices_Index_ok : ShOk Tryd.prog gl 86 slices_Index_c :=
  fn_ok (l := slices_Index_g) (n := Tryd.f86.ntmps) (code := bodyOf Tryd.f86) (rts := [.tmp 4]) tb_ok hord (slices_Index_gs) Tryd.func86 (by kernel_rfl) (by kernel_rfl) rfl (by kernel_rfl) (ac := slices_Index_a) (ob := [((subC (bodyOf Tryd.f86) [1, 0, 1, 0]), slices_Index_u0)]) (by kernel_rfl) (fun X hX => (obl_cons (slices_Index_u0_ok hX) obl_nil)) (by kernel_rfl) (slices_Index_s)

noncomputable def slices_Contains_c : ShC := { inp := ⟨[.hole, .hole], [], [1, 1], [.sl (.one (.int .i64)), .int .i64]⟩, out := ⟨[.hole], [], [2], [.bool]⟩, nres := 1, ms := [], mu := [], leak := false, glob := false, F := fun (x : ((List Int) × Int)) => slices_Contains x.1 x.2 }
-- slices.Contains[[]int,int]
noncomputable def slices_Contains_g : List (Nat × Con) := [(86, .gen (altE [slices_Index_c]))]
noncomputable def slices_Contains_v : Env := envOf tb gl slices_Contains_g slices_Contains_c Tryd.f64.ntmps
theorem slices_Contains_gs : Goods Tryd.prog (cond slices_Contains_c.glob gl fun _ => none) slices_Contains_g := (goods_cons (good_alt (alls_cons (slices_Index_ok.anyGl rfl) alls_nil)) goods_nil)
noncomputable def slices_Contains_a : AC := .run
theorem slices_Contains_s (x : TupL slices_Contains_c.inp.hs) : E slices_Contains_v (bodyOf Tryd.f64) (slices_Contains_a) (slices_Contains_c.entry x) (retSK tb slices_Contains_v.fz slices_Contains_c [.tmp 4] x) = slices_Contains_c.F x := by kernel_rfl
theorem slices_Contains_ok : ShOk Tryd.prog gl 64 slices_Contains_c :=
  fn_ok (l := slices_Contains_g) (n := Tryd.f64.ntmps) (code := bodyOf Tryd.f64) (rts := [.tmp 4]) tb_ok hord (slices_Contains_gs) Tryd.func64 (by kernel_rfl) (by kernel_rfl) rfl (by kernel_rfl) (ac := slices_Contains_a) (ob := []) (by kernel_rfl) (fun X hX => obl_nil) (by kernel_rfl) (slices_Contains_s)

noncomputable def ask_varsMay_c : ShC := { inp := ⟨[.hole], [], [1], [.sl (.one (.int .i64))]⟩, out := ⟨[.hole], [], [2], [.bool]⟩, nres := 1, ms := [], mu := [], leak := false, glob := false, F := fun (x : (List Int)) => ask_varsMay x }
-- ask.varsMay
noncomputable def ask_varsMay_g : List (Nat × Con) := [(64, .gen (altE [slices_Contains_c]))]
noncomputable def ask_varsMay_v : Env := envOf tb gl ask_varsMay_g ask_varsMay_c Tryd.f33.ntmps
theorem ask_varsMay_gs : Goods Tryd.prog (cond ask_varsMay_c.glob gl fun _ => none) ask_varsMay_g := (goods_cons (good_alt (alls_cons (slices_Contains_ok.anyGl rfl) alls_nil)) goods_nil)
noncomputable def ask_varsMay_u0_h : SS := ⟨[0, 5, 6, 7], ⟨[.hole, .hole, .hole, .hole], [], [1, 1, 2, 2], [.sl (.one (.int .i64)), .sl (.one (.int .i64)), .int .i64, .int .i64]⟩⟩
noncomputable def ask_varsMay_u0_e : Exs := [((.exit 0), ⟨[], ⟨[], [], [], []⟩⟩), (.ret, ⟨[2], ⟨[.hole], [], [2], [.bool]⟩⟩)]
noncomputable def ask_varsMay_u0_a : AC := .run
noncomputable def ask_varsMay_u0 : Un := lpU ask_varsMay_v.fz [8, 9, 10, 11, 3, 4, 12, 13, 14, 15, 16, 17, 18, 19, 20, 21, 22, 23, 24, 2, 25, 7] ask_varsMay_u0_h ask_varsMay_u0_e (lp ask_varsMay_L0 fuel)
theorem ask_varsMay_u0_s (f : ask_varsMay_u0_h.X → Option (YT ask_varsMay_u0_e)) (x : ask_varsMay_u0_h.X) : E ask_varsMay_v (subC (bodyOf Tryd.f33) [1, 0, 1, 0, 0]) (ask_varsMay_u0_a) (mkS ask_varsMay_u0_h 8 x) (roundK ask_varsMay_v.fz ask_varsMay_u0_h ask_varsMay_u0_e f) = ask_varsMay_L0 f x := by kernel_rfl
theorem ask_varsMay_u0_ok {X : Fx} (hX : VOk Tryd.prog X ask_varsMay_v) : UnOk Tryd.prog X ask_varsMay_v (subC (bodyOf Tryd.f33) [1, 0, 1, 0]) ask_varsMay_u0 :=
  lp_un' (c := (subC (bodyOf Tryd.f33) [1, 0, 1, 0, 0])) (by kernel_rfl) (env_all tb_ok (ask_varsMay_gs)) hord (ob := []) (by kernel_rfl) (fun X hX => obl_nil) (ask_varsMay_u0_s) (by kernel_rfl) (by kernel_rfl) hX
noncomputable def ask_varsMay_a : AC := (.seq .run (.seq (.seq .run (.block (.unit ask_varsMay_u0))) .run))
theorem ask_varsMay_s (x : TupL ask_varsMay_c.inp.hs) : E ask_varsMay_v (bodyOf Tryd.f33) (ask_varsMay_a) (ask_varsMay_c.entry x) (retSK tb ask_varsMay_v.fz ask_varsMay_c [.tmp 2] x) = ask_varsMay_c.F x := by kernel_rfl
theorem ask_varsMay_ok : ShOk Tryd.prog gl 33 ask_varsMay_c :=
  fn_ok (l := ask_varsMay_g) (n := Tryd.f33.ntmps) (code := bodyOf Tryd.f33) (rts := [.tmp 2]) tb_ok hord (ask_varsMay_gs) Tryd.func33 (by kernel_rfl) (by kernel_rfl) rfl (by kernel_rfl) (ac := ask_varsMay_a) (ob := [((subC (bodyOf Tryd.f33) [1, 0, 1, 0]), ask_varsMay_u0)]) (by kernel_rfl) (fun X hX => (obl_cons (ask_varsMay_u0_ok hX) obl_nil)) (by kernel_rfl) (ask_varsMay_s)

noncomputable def slices_Clone_c : ShC := { inp := ⟨[.hole], [], [1], [.ns (.one (.int .i64))]⟩, out := ⟨[(.view 0)], [.seq false], [0], [.sl (.one (.int .i64))]⟩, nres := 1, ms := [], mu := [], leak := true, glob := false, F := fun (x : (Option (List Int))) => slices_Clone x }
-- slices.Clone[[]int,int]
noncomputable def slices_Clone_g : List (Nat × Con) := []
noncomputable def slices_Clone_v : Env := envOf tb gl slices_Clone_g slices_Clone_c Tryd.f65.ntmps
theorem slices_Clone_gs : Goods Tryd.prog (cond slices_Clone_c.glob gl fun _ => none) slices_Clone_g := goods_nil
noncomputable def slices_Clone_a : AC := .run
theorem slices_Clone_s (x : TupL slices_Clone_c.inp.hs) : E slices_Clone_v (bodyOf Tryd.f65) (slices_Clone_a) (slices_Clone_c.entry x) (retSK tb slices_Clone_v.fz slices_Clone_c [.tmp 2] x) = slices_Clone_c.F x := by kernel_rfl
theorem slices_Clone_ok : ShOk Tryd.prog gl 65 slices_Clone_c :=
  fn_ok (l := slices_Clone_g) (n := Tryd.f65.ntmps) (code := bodyOf Tryd.f65) (rts := [.tmp 2]) tb_ok hord (slices_Clone_gs) Tryd.func65 (by kernel_rfl) (by kernel_rfl) rfl (by kernel_rfl) (ac := slices_Clone_a) (ob := []) (by kernel_rfl) (fun X hX => obl_nil) (by kernel_rfl) (slices_Clone_s)

noncomputable def slices_Clone_1_c : ShC := { inp := ⟨[.nilv], [], [], []⟩, out := ⟨[(.view 0)], [.seq false], [0], [.sl (.one (.int .i64))]⟩, nres := 1, ms := [], mu := [], leak := true, glob := false, F := fun (x : Unit) => slices_Clone_1 }
-- slices.Clone[[]int,int]
noncomputable def slices_Clone_1_g : List (Nat × Con) := []
noncomputable def slices_Clone_1_v : Env := envOf tb gl slices_Clone_1_g slices_Clone_1_c Tryd.f65.ntmps
theorem slices_Clone_1_gs : Goods Tryd.prog (cond slices_Clone_1_c.glob gl fun _ => none) slices_Clone_1_g := goods_nil
noncomputable def slices_Clone_1_a : AC := .run
theorem slices_Clone_1_s (x : TupL slices_Clone_1_c.inp.hs) : E slices_Clone_1_v (bodyOf Tryd.f65) (slices_Clone_1_a) (slices_Clone_1_c.entry x) (retSK tb slices_Clone_1_v.fz slices_Clone_1_c [.tmp 2] x) = slices_Clone_1_c.F x := by kernel_rfl
theorem slices_Clone_1_ok : ShOk Tryd.prog gl 65 slices_Clone_1_c :=
  fn_ok (l := slices_Clone_1_g) (n := Tryd.f65.ntmps) (code := bodyOf Tryd.f65) (rts := [.tmp 2]) tb_ok hord (slices_Clone_1_gs) Tryd.func65 (by kernel_rfl) (by kernel_rfl) rfl (by kernel_rfl) (ac := slices_Clone_1_a) (ob := []) (by kernel_rfl) (fun X hX => obl_nil) (by kernel_rfl) (slices_Clone_1_s)

noncomputable def slices_CloneN_c : ShC := { inp := ⟨[.hole], [], [1], [.sl (.one (.int .i64))]⟩, out := ⟨[(.view 0)], [.seq false], [0], [.sl (.one (.int .i64))]⟩, nres := 1, ms := [], mu := [], leak := true, glob := false, F := fun (x : (List Int)) => slices_CloneN x }
-- slices.Clone[[]int,int]
theorem slices_CloneN_ok : ShOk Tryd.prog gl 65 slices_CloneN_c :=
  sh_nil slices_Clone_1_ok slices_Clone_ok fun xs y h => ⟨h, fun e => by subst e; exact h⟩

noncomputable def lit_Opposite_c : ShC := { inp := ⟨[(.agg [.hole, .hole])], [], [1, 1], [.bool, .sl (.one (.int .i64))]⟩, out := ⟨[(.agg [.hole, (.view 0)])], [.seq false], [2, 0], [.bool, .sl (.one (.int .i64))]⟩, nres := 1, ms := [], mu := [], leak := true, glob := false, F := fun (x : QLit) => lit_Opposite x.1 x.2 }
-- lit.Opposite
noncomputable def lit_Opposite_g : List (Nat × Con) := [(65, .gen (altE [slices_CloneN_c]))]
noncomputable def lit_Opposite_v : Env := envOf tb gl lit_Opposite_g lit_Opposite_c Tryd.f34.ntmps
theorem lit_Opposite_gs : Goods Tryd.prog (cond lit_Opposite_c.glob gl fun _ => none) lit_Opposite_g := (goods_cons (good_alt (alls_cons (slices_CloneN_ok.anyGl rfl) alls_nil)) goods_nil)
noncomputable def lit_Opposite_a : AC := .run
theorem lit_Opposite_s (x : TupL lit_Opposite_c.inp.hs) : E lit_Opposite_v (bodyOf Tryd.f34) (lit_Opposite_a) (lit_Opposite_c.entry x) (retSK tb lit_Opposite_v.fz lit_Opposite_c [.cell 2 25] x) = lit_Opposite_c.F x := by kernel_rfl
theorem lit_Opposite_ok : ShOk Tryd.prog gl 34 lit_Opposite_c :=
  fn_ok (l := lit_Opposite_g) (n := Tryd.f34.ntmps) (code := bodyOf Tryd.f34) (rts := [.cell 2 25]) tb_ok hord (lit_Opposite_gs) Tryd.func34 (by kernel_rfl) (by kernel_rfl) rfl (by kernel_rfl) (ac := lit_Opposite_a) (ob := []) (by kernel_rfl) (fun X hX => obl_nil) (by kernel_rfl) (lit_Opposite_s)

noncomputable def term_Number_c : ShC := { inp := ⟨[.hole], [], [1], [.int .i64]⟩, out := ⟨[.hole], [], [2], [.int .i64]⟩, nres := 1, ms := [], mu := [], leak := false, glob := false, F := fun (x : Int) => term_Number x }
-- term.Number
noncomputable def term_Number_g : List (Nat × Con) := []
noncomputable def term_Number_v : Env := envOf tb gl term_Number_g term_Number_c Tryd.f35.ntmps
theorem term_Number_gs : Goods Tryd.prog (cond term_Number_c.glob gl fun _ => none) term_Number_g := goods_nil
noncomputable def term_Number_a : AC := .run
theorem term_Number_s (x : TupL term_Number_c.inp.hs) : E term_Number_v (bodyOf Tryd.f35) (term_Number_a) (term_Number_c.entry x) (retSK tb term_Number_v.fz term_Number_c [.tmp 2] x) = term_Number_c.F x := by kernel_rfl
theorem term_Number_ok : ShOk Tryd.prog gl 35 term_Number_c :=
  fn_ok (l := term_Number_g) (n := Tryd.f35.ntmps) (code := bodyOf Tryd.f35) (rts := [.tmp 2]) tb_ok hord (term_Number_gs) Tryd.func35 (by kernel_rfl) (by kernel_rfl) rfl (by kernel_rfl) (ac := term_Number_a) (ob := []) (by kernel_rfl) (fun X hX => obl_nil) (by kernel_rfl) (term_Number_s)

noncomputable def term_args_c : ShC := { inp := ⟨[.hole, .hole], [], [1, 1], [.sl tSym, .int .i64]⟩, out := ⟨[.hole, .hole], [], [2, 2], [.int .i64, .bool]⟩, nres := 2, ms := [], mu := [], leak := false, glob := false, F := fun (x : ((List QSym) × Int)) => term_args x.1 x.2 }
-- term.args
noncomputable def term_args_g : List (Nat × Con) := [(35, .gen (altE [term_Number_c]))]
noncomputable def term_args_v : Env := envOf tb gl term_args_g term_args_c Tryd.f94.ntmps
theorem term_args_gs : Goods Tryd.prog (cond term_args_c.glob gl fun _ => none) term_args_g := (goods_cons (good_alt (alls_cons (term_Number_ok.anyGl rfl) alls_nil)) goods_nil)
noncomputable def term_args_a : AC := .run
theorem term_args_s (x : TupL term_args_c.inp.hs) : E term_args_v (bodyOf Tryd.f94) (term_args_a) (term_args_c.entry x) (retSK tb term_args_v.fz term_args_c [.tmp 4, .tmp 5] x) = term_args_c.F x := by kernel_rfl
theorem term_args_ok : ShOk Tryd.prog gl 94 term_args_c :=
  fn_ok (l := term_args_g) (n := Tryd.f94.ntmps) (code := bodyOf Tryd.f94) (rts := [.tmp 4, .tmp 5]) tb_ok hord (term_args_gs) Tryd.func94 (by kernel_rfl) (by kernel_rfl) rfl (by kernel_rfl) (ac := term_args_a) (ob := []) (by kernel_rfl) (fun X hX => obl_nil) (by kernel_rfl) (term_args_s)

noncomputable def term_Skip_c : ShC := { inp := ⟨[.hole, .hole, .hole], [], [1, 1, 1], [.sl tSym, .sl (.one (.int .i64)), .int .i64]⟩, out := ⟨[.hole, .hole], [], [2, 2], [.int .i64, .bool]⟩, nres := 2, ms := [], mu := [], leak := false, glob := false, F := fun (x : ((List QSym) × (List Int) × Int)) => term_Skip x.1 x.2.1 x.2.2 }
-- term.Skip
noncomputable def term_Skip_g : List (Nat × Con) := [(94, .gen (altE [term_args_c]))]
noncomputable def term_Skip_v : Env := envOf tb gl term_Skip_g term_Skip_c Tryd.f74.ntmps
theorem term_Skip_gs : Goods Tryd.prog (cond term_Skip_c.glob gl fun _ => none) term_Skip_g := (goods_cons (good_alt (alls_cons (term_args_ok.anyGl rfl) alls_nil)) goods_nil)
noncomputable def term_Skip_u0_j : Exs := [(.goto 0, ⟨[0, 1, 2, 8], ⟨[.hole, .hole, .hole, .hole], [], [1, 1, 2, 2], [.sl tSym, .sl (.one (.int .i64)), .int .i64, .int .i64]⟩⟩)]
noncomputable def term_Skip_u0_e : Exs := [(.ret, ⟨[6, 7], ⟨[.hole, .hole], [], [2, 2], [.int .i64, .bool]⟩⟩)]
noncomputable def term_Skip_u0_a : AC := .run
noncomputable def term_Skip_u0_l : List (Nat × AC) := []
noncomputable def term_Skip_u0 : Un := scU term_Skip_v [8, 11, 12, 13, 14, 6, 7, 16, 17, 18, 19, 20, 21, 15, 22, 23, 9, 10, 24, 25, 6, 7, 26, 27, 2, 28, 29, 30, 31, 8, 32, 33, 34, 6, 7] term_Skip_u0_j term_Skip_u0_e (subC (bodyOf Tryd.f74) [1, 0]) (term_Skip_u0_a) (lp term_Skip_L0 fuel)
theorem term_Skip_u0_s (f : YT term_Skip_u0_j → Option (YT term_Skip_u0_e)) (x : YT term_Skip_u0_j) : passE term_Skip_v (subC (bodyOf Tryd.f74) [1, 0]) (acsOf (term_Skip_u0_l)) term_Skip_u0_j term_Skip_u0_e f x = term_Skip_L0 f x := by kernel_rfl
theorem term_Skip_u0_ok {X : Fx} (hX : VOk Tryd.prog X term_Skip_v) : UnOk Tryd.prog X term_Skip_v (subC (bodyOf Tryd.f74) [1]) term_Skip_u0 :=
  sc_un' (c := (subC (bodyOf Tryd.f74) [1, 0])) (by kernel_rfl) (env_all tb_ok (term_Skip_gs)) hord (ob := []) (by kernel_rfl) (fun X hX => obl_nil) (fun X hX => acs_ok acl_nil) (term_Skip_u0_s) (by kernel_rfl) (by kernel_rfl) (by kernel_rfl) hX
noncomputable def term_Skip_a : AC := (.seq .run (.unit term_Skip_u0))
theorem term_Skip_s (x : TupL term_Skip_c.inp.hs) : E term_Skip_v (bodyOf Tryd.f74) (term_Skip_a) (term_Skip_c.entry x) (retSK tb term_Skip_v.fz term_Skip_c [.tmp 6, .tmp 7] x) = term_Skip_c.F x := by kernel_rfl
theorem term_Skip_ok : ShOk Tryd.prog gl 74 term_Skip_c :=
  fn_ok (l := term_Skip_g) (n := Tryd.f74.ntmps) (code := bodyOf Tryd.f74) (rts := [.tmp 6, .tmp 7]) tb_ok hord (term_Skip_gs) Tryd.func74 (by kernel_rfl) (by kernel_rfl) rfl (by kernel_rfl) (ac := term_Skip_a) (ob := [((subC (bodyOf Tryd.f74) [1]), term_Skip_u0)]) (by kernel_rfl) (fun X hX => (obl_cons (term_Skip_u0_ok hX) obl_nil)) (by kernel_rfl) (term_Skip_s)

noncomputable def term_begins_c : ShC := { inp := ⟨[.hole, .hole], [], [1, 1], [.sl tSym, .sl (.one (.int .i64))]⟩, out := ⟨[(.view 0), .hole], [.seq false], [2, 2], [.bool, .sl (.one (.int .i64))]⟩, nres := 2, ms := [], mu := [], leak := false, glob := true, F := fun (x : ((List QSym) × (List Int))) => term_begins x.1 x.2 }
-- term.begins
noncomputable def term_begins_g : List (Nat × Con) := [(32, .gen (altE [sign_May_c])), (74, .gen (altE [term_Skip_c]))]
noncomputable def term_begins_v : Env := envOf tb gl term_begins_g term_begins_c Tryd.f78.ntmps
theorem term_begins_gs : Goods Tryd.prog (cond term_begins_c.glob gl fun _ => none) term_begins_g := (goods_cons (good_alt (alls_cons sign_May_ok alls_nil)) (goods_cons (good_alt (alls_cons (term_Skip_ok.anyGl rfl) alls_nil)) goods_nil))
noncomputable def term_begins_u0_j : Exs := [(.goto 0, ⟨[0, 1, 6, 7], ⟨[.hole, .hole, (.view 0), .hole], [.seq false], [1, 1, 2, 2], [.sl tSym, .sl (.one (.int .i64)), .int .i64, .sl (.one (.int .i64))]⟩⟩)]
noncomputable def term_begins_u0_e : Exs := [(.ret, ⟨[4, 5], ⟨[(.view 0), .hole], [.seq false], [2, 2], [.bool, .sl (.one (.int .i64))]⟩⟩)]
noncomputable def term_begins_u0_a : AC := .run
noncomputable def term_begins_u0_l : List (Nat × AC) := []
noncomputable def term_begins_u0 : Un := scU term_begins_v [10, 11, 12, 13, 14, 15, 16, 17, 4, 5, 6, 7, 18, 19, 20, 21, 22, 4, 5, 24, 25, 26, 27, 23, 28, 29, 8, 9, 30, 31, 4, 5, 32, 33, 34, 35, 6, 36, 7] term_begins_u0_j term_begins_u0_e (subC (bodyOf Tryd.f78) [1, 0]) (term_begins_u0_a) (lp term_begins_L0 fuel)
theorem term_begins_u0_s (f : YT term_begins_u0_j → Option (YT term_begins_u0_e)) (x : YT term_begins_u0_j) : passE term_begins_v (subC (bodyOf Tryd.f78) [1, 0]) (acsOf (term_begins_u0_l)) term_begins_u0_j term_begins_u0_e f x = term_begins_L0 f x := by kernel_rfl
theorem term_begins_u0_ok {X : Fx} (hX : VOk Tryd.prog X term_begins_v) : UnOk Tryd.prog X term_begins_v (subC (bodyOf Tryd.f78) [1]) term_begins_u0 :=
  sc_un' (c := (subC (bodyOf Tryd.f78) [1, 0])) (by kernel_rfl) (env_all tb_ok (term_begins_gs)) hord (ob := []) (by kernel_rfl) (fun X hX => obl_nil) (fun X hX => acs_ok acl_nil) (term_begins_u0_s) (by kernel_rfl) (by kernel_rfl) (by kernel_rfl) hX
noncomputable def term_begins_a : AC := (.seq .run (.unit term_begins_u0))
theorem term_begins_s (x : TupL term_begins_c.inp.hs) : E term_begins_v (bodyOf Tryd.f78) (term_begins_a) (term_begins_c.entry x) (retSK tb term_begins_v.fz term_begins_c [.tmp 4, .tmp 5] x) = term_begins_c.F x := by kernel_rfl
theorem term_begins_ok : ShOk Tryd.prog gl 78 term_begins_c :=
  fn_ok (l := term_begins_g) (n := Tryd.f78.ntmps) (code := bodyOf Tryd.f78) (rts := [.tmp 4, .tmp 5]) tb_ok hord (term_begins_gs) Tryd.func78 (by kernel_rfl) (by kernel_rfl) rfl (by kernel_rfl) (ac := term_begins_a) (ob := [((subC (bodyOf Tryd.f78) [1]), term_begins_u0)]) (by kernel_rfl) (fun X hX => (obl_cons (term_begins_u0_ok hX) obl_nil)) (by kernel_rfl) (term_begins_s)

noncomputable def term_IsAtom_c : ShC := { inp := ⟨[.hole, .hole], [], [1, 1], [.sl tSym, .sl (.one (.int .i64))]⟩, out := ⟨[.hole], [], [2], [.bool]⟩, nres := 1, ms := [], mu := [], leak := false, glob := true, F := fun (x : ((List QSym) × (List Int))) => term_IsAtom x.1 x.2 }
-- term.IsAtom
noncomputable def term_IsAtom_g : List (Nat × Con) := [(78, .gen (altE [term_begins_c]))]
noncomputable def term_IsAtom_v : Env := envOf tb gl term_IsAtom_g term_IsAtom_c Tryd.f53.ntmps
theorem term_IsAtom_gs : Goods Tryd.prog (cond term_IsAtom_c.glob gl fun _ => none) term_IsAtom_g := (goods_cons (good_alt (alls_cons term_begins_ok alls_nil)) goods_nil)
noncomputable def term_IsAtom_a : AC := .run
theorem term_IsAtom_s (x : TupL term_IsAtom_c.inp.hs) : E term_IsAtom_v (bodyOf Tryd.f53) (term_IsAtom_a) (term_IsAtom_c.entry x) (retSK tb term_IsAtom_v.fz term_IsAtom_c [.tmp 4] x) = term_IsAtom_c.F x := by kernel_rfl
theorem term_IsAtom_ok : ShOk Tryd.prog gl 53 term_IsAtom_c :=
  fn_ok (l := term_IsAtom_g) (n := Tryd.f53.ntmps) (code := bodyOf Tryd.f53) (rts := [.tmp 4]) tb_ok hord (term_IsAtom_gs) Tryd.func53 (by kernel_rfl) (by kernel_rfl) rfl (by kernel_rfl) (ac := term_IsAtom_a) (ob := []) (by kernel_rfl) (fun X hX => obl_nil) (by kernel_rfl) (term_IsAtom_s)

noncomputable def lit_May_c : ShC := { inp := ⟨[.hole, (.agg [.hole, .hole])], [], [1, 1, 1], [.sl tSym, .bool, .sl (.one (.int .i64))]⟩, out := ⟨[.hole], [], [2], [.bool]⟩, nres := 1, ms := [], mu := [], leak := false, glob := true, F := fun (x : ((List QSym) × Bool × (List Int))) => lit_May x.1 x.2.1 x.2.2 }
-- lit.May
noncomputable def lit_May_g : List (Nat × Con) := [(53, .gen (altE [term_IsAtom_c]))]
noncomputable def lit_May_v : Env := envOf tb gl lit_May_g lit_May_c Tryd.f72.ntmps
theorem lit_May_gs : Goods Tryd.prog (cond lit_May_c.glob gl fun _ => none) lit_May_g := (goods_cons (good_alt (alls_cons term_IsAtom_ok alls_nil)) goods_nil)
noncomputable def lit_May_a : AC := .run
theorem lit_May_s (x : TupL lit_May_c.inp.hs) : E lit_May_v (bodyOf Tryd.f72) (lit_May_a) (lit_May_c.entry x) (retSK tb lit_May_v.fz lit_May_c [.tmp 4] x) = lit_May_c.F x := by kernel_rfl
theorem lit_May_ok : ShOk Tryd.prog gl 72 lit_May_c :=
  fn_ok (l := lit_May_g) (n := Tryd.f72.ntmps) (code := bodyOf Tryd.f72) (rts := [.tmp 4]) tb_ok hord (lit_May_gs) Tryd.func72 (by kernel_rfl) (by kernel_rfl) rfl (by kernel_rfl) (ac := lit_May_a) (ob := []) (by kernel_rfl) (fun X hX => obl_nil) (by kernel_rfl) (lit_May_s)

noncomputable def clause_litsMay_c : ShC := { inp := ⟨[.hole, .hole], [], [1, 1], [.sl tSym, .sl tLit]⟩, out := ⟨[.hole, .hole], [], [2, 2], [.int .i64, .bool]⟩, nres := 2, ms := [], mu := [], leak := false, glob := true, F := fun (x : ((List QSym) × (List QLit))) => clause_litsMay x.1 x.2 }
-- clause.litsMay
noncomputable def clause_litsMay_g : List (Nat × Con) := [(72, .gen (altE [lit_May_c]))]
noncomputable def clause_litsMay_v : Env := envOf tb gl clause_litsMay_g clause_litsMay_c Tryd.f45.ntmps
theorem clause_litsMay_gs : Goods Tryd.prog (cond clause_litsMay_c.glob gl fun _ => none) clause_litsMay_g := (goods_cons (good_alt (alls_cons lit_May_ok alls_nil)) goods_nil)
noncomputable def clause_litsMay_u0_h : SS := ⟨[0, 6, 9, 10, 11], ⟨[.hole, .hole, .hole, .hole, .hole], [], [1, 2, 1, 2, 2], [.sl tSym, .int .i64, .sl tLit, .int .i64, .int .i64]⟩⟩
noncomputable def clause_litsMay_u0_e : Exs := [((.exit 0), ⟨[6], ⟨[.hole], [], [2], [.int .i64]⟩⟩), (.ret, ⟨[4, 5], ⟨[.hole, .hole], [], [2, 2], [.int .i64, .bool]⟩⟩)]
noncomputable def clause_litsMay_u0_a : AC := .run
noncomputable def clause_litsMay_u0 : Un := lpU clause_litsMay_v.fz [12, 13, 14, 8, 15, 16, 17, 18, 4, 5, 19, 20, 21, 22, 23, 6, 24, 11] clause_litsMay_u0_h clause_litsMay_u0_e (lp clause_litsMay_L0 fuel)
theorem clause_litsMay_u0_s (f : clause_litsMay_u0_h.X → Option (YT clause_litsMay_u0_e)) (x : clause_litsMay_u0_h.X) : E clause_litsMay_v (subC (bodyOf Tryd.f45) [1, 1, 0, 1, 0, 0]) (clause_litsMay_u0_a) (mkS clause_litsMay_u0_h 8 x) (roundK clause_litsMay_v.fz clause_litsMay_u0_h clause_litsMay_u0_e f) = clause_litsMay_L0 f x := by kernel_rfl
theorem clause_litsMay_u0_ok {X : Fx} (hX : VOk Tryd.prog X clause_litsMay_v) : UnOk Tryd.prog X clause_litsMay_v (subC (bodyOf Tryd.f45) [1, 1, 0, 1, 0]) clause_litsMay_u0 :=
  lp_un' (c := (subC (bodyOf Tryd.f45) [1, 1, 0, 1, 0, 0])) (by kernel_rfl) (env_all tb_ok (clause_litsMay_gs)) hord (ob := []) (by kernel_rfl) (fun X hX => obl_nil) (clause_litsMay_u0_s) (by kernel_rfl) (by kernel_rfl) hX
noncomputable def clause_litsMay_a : AC := (.seq .run (.seq .run (.seq (.seq .run (.block (.unit clause_litsMay_u0))) .run)))
theorem clause_litsMay_s (x : TupL clause_litsMay_c.inp.hs) : E clause_litsMay_v (bodyOf Tryd.f45) (clause_litsMay_a) (clause_litsMay_c.entry x) (retSK tb clause_litsMay_v.fz clause_litsMay_c [.tmp 4, .tmp 5] x) = clause_litsMay_c.F x := by kernel_rfl
theorem clause_litsMay_ok : ShOk Tryd.prog gl 45 clause_litsMay_c :=
  fn_ok (l := clause_litsMay_g) (n := Tryd.f45.ntmps) (code := bodyOf Tryd.f45) (rts := [.tmp 4, .tmp 5]) tb_ok hord (clause_litsMay_gs) Tryd.func45 (by kernel_rfl) (by kernel_rfl) rfl (by kernel_rfl) (ac := clause_litsMay_a) (ob := [((subC (bodyOf Tryd.f45) [1, 1, 0, 1, 0]), clause_litsMay_u0)]) (by kernel_rfl) (fun X hX => (obl_cons (clause_litsMay_u0_ok hX) obl_nil)) (by kernel_rfl) (clause_litsMay_s)

noncomputable def term_Row_c : ShC := { inp := ⟨[.hole, .hole], [], [1, 1], [.sl tSym, .sl (.one (.int .i64))]⟩, out := ⟨[.hole, .hole], [], [2, 2], [.int .i64, .int .i64]⟩, nres := 2, ms := [], mu := [], leak := false, glob := true, F := fun (x : ((List QSym) × (List Int))) => term_Row x.1 x.2 }
-- term.Row
noncomputable def term_Row_g : List (Nat × Con) := [(78, .gen (altE [term_begins_c]))]
noncomputable def term_Row_v : Env := envOf tb gl term_Row_g term_Row_c Tryd.f73.ntmps
theorem term_Row_gs : Goods Tryd.prog (cond term_Row_c.glob gl fun _ => none) term_Row_g := (goods_cons (good_alt (alls_cons term_begins_ok alls_nil)) goods_nil)
noncomputable def term_Row_a : AC := .run
theorem term_Row_s (x : TupL term_Row_c.inp.hs) : E term_Row_v (bodyOf Tryd.f73) (term_Row_a) (term_Row_c.entry x) (retSK tb term_Row_v.fz term_Row_c [.tmp 4, .tmp 5] x) = term_Row_c.F x := by kernel_rfl
theorem term_Row_ok : ShOk Tryd.prog gl 73 term_Row_c :=
  fn_ok (l := term_Row_g) (n := Tryd.f73.ntmps) (code := bodyOf Tryd.f73) (rts := [.tmp 4, .tmp 5]) tb_ok hord (term_Row_gs) Tryd.func73 (by kernel_rfl) (by kernel_rfl) rfl (by kernel_rfl) (ac := term_Row_a) (ob := []) (by kernel_rfl) (fun X hX => obl_nil) (by kernel_rfl) (term_Row_s)

noncomputable def clause_rowsMay_c : ShC := { inp := ⟨[.hole, .hole], [], [1, 1], [.sl tSym, .sl (.one (.sl (.one (.int .i64))))]⟩, out := ⟨[.hole, .hole], [], [2, 2], [.int .i64, .bool]⟩, nres := 2, ms := [], mu := [], leak := false, glob := true, F := fun (x : ((List QSym) × (List (List Int)))) => clause_rowsMay x.1 x.2 }
-- clause.rowsMay
noncomputable def clause_rowsMay_g : List (Nat × Con) := [(73, .gen (altE [term_Row_c]))]
noncomputable def clause_rowsMay_v : Env := envOf tb gl clause_rowsMay_g clause_rowsMay_c Tryd.f46.ntmps
theorem clause_rowsMay_gs : Goods Tryd.prog (cond clause_rowsMay_c.glob gl fun _ => none) clause_rowsMay_g := (goods_cons (good_alt (alls_cons term_Row_ok alls_nil)) goods_nil)
noncomputable def clause_rowsMay_u0_h : SS := ⟨[0, 6, 7, 12, 13, 14], ⟨[.hole, .hole, .hole, .hole, .hole, .hole], [], [1, 2, 2, 1, 2, 2], [.sl tSym, .int .i64, .int .i64, .sl (.one (.sl (.one (.int .i64)))), .int .i64, .int .i64]⟩⟩
noncomputable def clause_rowsMay_u0_e : Exs := [((.exit 0), ⟨[6], ⟨[.hole], [], [2], [.int .i64]⟩⟩), (.ret, ⟨[4, 5], ⟨[.hole, .hole], [], [2, 2], [.int .i64, .bool]⟩⟩)]
noncomputable def clause_rowsMay_u0_a : AC := .run
noncomputable def clause_rowsMay_u0 : Un := lpU clause_rowsMay_v.fz [15, 16, 17, 18, 8, 9, 20, 21, 22, 19, 23, 24, 10, 11, 25, 26, 27, 7, 28, 29, 30, 31, 32, 33, 34, 4, 5, 35, 36, 37, 38, 6, 39, 14] clause_rowsMay_u0_h clause_rowsMay_u0_e (lp clause_rowsMay_L0 fuel)
theorem clause_rowsMay_u0_s (f : clause_rowsMay_u0_h.X → Option (YT clause_rowsMay_u0_e)) (x : clause_rowsMay_u0_h.X) : E clause_rowsMay_v (subC (bodyOf Tryd.f46) [1, 1, 0, 1, 0, 0]) (clause_rowsMay_u0_a) (mkS clause_rowsMay_u0_h 8 x) (roundK clause_rowsMay_v.fz clause_rowsMay_u0_h clause_rowsMay_u0_e f) = clause_rowsMay_L0 f x := by kernel_rfl
theorem clause_rowsMay_u0_ok {X : Fx} (hX : VOk Tryd.prog X clause_rowsMay_v) : UnOk Tryd.prog X clause_rowsMay_v (subC (bodyOf Tryd.f46) [1, 1, 0, 1, 0]) clause_rowsMay_u0 :=
  lp_un' (c := (subC (bodyOf Tryd.f46) [1, 1, 0, 1, 0, 0])) (by kernel_rfl) (env_all tb_ok (clause_rowsMay_gs)) hord (ob := []) (by kernel_rfl) (fun X hX => obl_nil) (clause_rowsMay_u0_s) (by kernel_rfl) (by kernel_rfl) hX
noncomputable def clause_rowsMay_a : AC := (.seq .run (.seq .run (.seq (.seq .run (.block (.unit clause_rowsMay_u0))) .run)))
theorem clause_rowsMay_s (x : TupL clause_rowsMay_c.inp.hs) : E clause_rowsMay_v (bodyOf Tryd.f46) (clause_rowsMay_a) (clause_rowsMay_c.entry x) (retSK tb clause_rowsMay_v.fz clause_rowsMay_c [.tmp 4, .tmp 5] x) = clause_rowsMay_c.F x := by kernel_rfl
theorem clause_rowsMay_ok : ShOk Tryd.prog gl 46 clause_rowsMay_c :=
  fn_ok (l := clause_rowsMay_g) (n := Tryd.f46.ntmps) (code := bodyOf Tryd.f46) (rts := [.tmp 4, .tmp 5]) tb_ok hord (clause_rowsMay_gs) Tryd.func46 (by kernel_rfl) (by kernel_rfl) rfl (by kernel_rfl) (ac := clause_rowsMay_a) (ob := [((subC (bodyOf Tryd.f46) [1, 1, 0, 1, 0]), clause_rowsMay_u0)]) (by kernel_rfl) (fun X hX => (obl_cons (clause_rowsMay_u0_ok hX) obl_nil)) (by kernel_rfl) (clause_rowsMay_s)

noncomputable def clause_May_c : ShC := { inp := ⟨[.hole, (.agg [.hole, .hole, .hole])], [], [1, 1, 1, 1], [.sl tSym, .sl tLit, .sl (.one (.sl (.one (.int .i64)))), .sl tLit]⟩, out := ⟨[.hole], [], [2], [.bool]⟩, nres := 1, ms := [], mu := [], leak := false, glob := true, F := fun (x : ((List QSym) × (List QLit) × (List (List Int)) × (List QLit))) => clause_May x.1 x.2.1 x.2.2.1 x.2.2.2 }
-- clause.May
noncomputable def clause_May_g : List (Nat × Con) := [(32, .gen (altE [sign_May_c])), (45, .gen (altE [clause_litsMay_c])), (46, .gen (altE [clause_rowsMay_c]))]
noncomputable def clause_May_v : Env := envOf tb gl clause_May_g clause_May_c Tryd.f22.ntmps
theorem clause_May_gs : Goods Tryd.prog (cond clause_May_c.glob gl fun _ => none) clause_May_g := (goods_cons (good_alt (alls_cons sign_May_ok alls_nil)) (goods_cons (good_alt (alls_cons clause_litsMay_ok alls_nil)) (goods_cons (good_alt (alls_cons clause_rowsMay_ok alls_nil)) goods_nil)))
noncomputable def clause_May_a : AC := .run
theorem clause_May_s (x : TupL clause_May_c.inp.hs) : E clause_May_v (bodyOf Tryd.f22) (clause_May_a) (clause_May_c.entry x) (retSK tb clause_May_v.fz clause_May_c [.tmp 4] x) = clause_May_c.F x := by kernel_rfl
theorem clause_May_ok : ShOk Tryd.prog gl 22 clause_May_c :=
  fn_ok (l := clause_May_g) (n := Tryd.f22.ntmps) (code := bodyOf Tryd.f22) (rts := [.tmp 4]) tb_ok hord (clause_May_gs) Tryd.func22 (by kernel_rfl) (by kernel_rfl) rfl (by kernel_rfl) (ac := clause_May_a) (ob := []) (by kernel_rfl) (fun X hX => obl_nil) (by kernel_rfl) (clause_May_s)

noncomputable def slices_Equal_c : ShC := { inp := ⟨[.hole, .hole], [], [1, 1], [.sl (.one (.int .i64)), .sl (.one (.int .i64))]⟩, out := ⟨[.hole], [], [2], [.bool]⟩, nres := 1, ms := [], mu := [], leak := false, glob := false, F := fun (x : ((List Int) × (List Int))) => slices_Equal x.1 x.2 }
-- slices.Equal[[]int,int]
noncomputable def slices_Equal_g : List (Nat × Con) := []
noncomputable def slices_Equal_v : Env := envOf tb gl slices_Equal_g slices_Equal_c Tryd.f89.ntmps
theorem slices_Equal_gs : Goods Tryd.prog (cond slices_Equal_c.glob gl fun _ => none) slices_Equal_g := goods_nil
noncomputable def slices_Equal_u0_h : SS := ⟨[0, 1, 12, 13], ⟨[.hole, .hole, .hole, .hole], [], [1, 1, 2, 2], [.sl (.one (.int .i64)), .sl (.one (.int .i64)), .int .i64, .int .i64]⟩⟩
noncomputable def slices_Equal_u0_e : Exs := [((.exit 0), ⟨[], ⟨[], [], [], []⟩⟩), (.ret, ⟨[4], ⟨[.hole], [], [2], [.bool]⟩⟩)]
noncomputable def slices_Equal_u0_a : AC := .run
noncomputable def slices_Equal_u0 : Un := lpU slices_Equal_v.fz [14, 15, 5, 16, 17, 18, 19, 20, 21, 22, 23, 24, 4, 25, 13] slices_Equal_u0_h slices_Equal_u0_e (lp slices_Equal_L0 fuel)
theorem slices_Equal_u0_s (f : slices_Equal_u0_h.X → Option (YT slices_Equal_u0_e)) (x : slices_Equal_u0_h.X) : E slices_Equal_v (subC (bodyOf Tryd.f89) [1, 1, 0, 1, 0, 0]) (slices_Equal_u0_a) (mkS slices_Equal_u0_h 8 x) (roundK slices_Equal_v.fz slices_Equal_u0_h slices_Equal_u0_e f) = slices_Equal_L0 f x := by kernel_rfl
theorem slices_Equal_u0_ok {X : Fx} (hX : VOk Tryd.prog X slices_Equal_v) : UnOk Tryd.prog X slices_Equal_v (subC (bodyOf Tryd.f89) [1, 1, 0, 1, 0]) slices_Equal_u0 :=
  lp_un' (c := (subC (bodyOf Tryd.f89) [1, 1, 0, 1, 0, 0])) (by kernel_rfl) (env_all tb_ok (slices_Equal_gs)) hord (ob := []) (by kernel_rfl) (fun X hX => obl_nil) (slices_Equal_u0_s) (by kernel_rfl) (by kernel_rfl) hX
noncomputable def slices_Equal_a : AC := (.seq .run (.seq .run (.seq (.seq .run (.block (.unit slices_Equal_u0))) .run)))
theorem slices_Equal_s (x : TupL slices_Equal_c.inp.hs) : E slices_Equal_v (bodyOf Tryd.f89) (slices_Equal_a) (slices_Equal_c.entry x) (retSK tb slices_Equal_v.fz slices_Equal_c [.tmp 4] x) = slices_Equal_c.F x := by kernel_rfl
theorem slices_Equal_ok : ShOk Tryd.prog gl 89 slices_Equal_c :=
  fn_ok (l := slices_Equal_g) (n := Tryd.f89.ntmps) (code := bodyOf Tryd.f89) (rts := [.tmp 4]) tb_ok hord (slices_Equal_gs) Tryd.func89 (by kernel_rfl) (by kernel_rfl) rfl (by kernel_rfl) (ac := slices_Equal_a) (ob := [((subC (bodyOf Tryd.f89) [1, 1, 0, 1, 0]), slices_Equal_u0)]) (by kernel_rfl) (fun X hX => (obl_cons (slices_Equal_u0_ok hX) obl_nil)) (by kernel_rfl) (slices_Equal_s)

noncomputable def lit_Same_c : ShC := { inp := ⟨[(.agg [.hole, .hole]), (.agg [.hole, .hole])], [], [1, 1, 1, 1], [.bool, .sl (.one (.int .i64)), .bool, .sl (.one (.int .i64))]⟩, out := ⟨[.hole], [], [2], [.bool]⟩, nres := 1, ms := [], mu := [], leak := false, glob := false, F := fun (x : (Bool × (List Int) × Bool × (List Int))) => lit_Same x.1 x.2.1 x.2.2.1 x.2.2.2 }
-- lit.Same
noncomputable def lit_Same_g : List (Nat × Con) := [(89, .gen (altE [slices_Equal_c]))]
noncomputable def lit_Same_v : Env := envOf tb gl lit_Same_g lit_Same_c Tryd.f104.ntmps
theorem lit_Same_gs : Goods Tryd.prog (cond lit_Same_c.glob gl fun _ => none) lit_Same_g := (goods_cons (good_alt (alls_cons (slices_Equal_ok.anyGl rfl) alls_nil)) goods_nil)
noncomputable def lit_Same_a : AC := .run
theorem lit_Same_s (x : TupL lit_Same_c.inp.hs) : E lit_Same_v (bodyOf Tryd.f104) (lit_Same_a) (lit_Same_c.entry x) (retSK tb lit_Same_v.fz lit_Same_c [.tmp 4] x) = lit_Same_c.F x := by kernel_rfl
theorem lit_Same_ok : ShOk Tryd.prog gl 104 lit_Same_c :=
  fn_ok (l := lit_Same_g) (n := Tryd.f104.ntmps) (code := bodyOf Tryd.f104) (rts := [.tmp 4]) tb_ok hord (lit_Same_gs) Tryd.func104 (by kernel_rfl) (by kernel_rfl) rfl (by kernel_rfl) (ac := lit_Same_a) (ob := []) (by kernel_rfl) (fun X hX => obl_nil) (by kernel_rfl) (lit_Same_s)

noncomputable def clause_once_c1_c : ShC := { inp := ⟨[(.agg [.hole, .hole]), (.ptr 0 0)], [.cells true [.hole, .hole]], [1, 1, 1, 1], [.bool, .sl (.one (.int .i64)), .bool, .sl (.one (.int .i64))]⟩, out := ⟨[.hole], [], [2], [.bool]⟩, nres := 1, ms := [], mu := [], leak := false, glob := false, F := fun (x : (Bool × (List Int) × Bool × (List Int))) => clause_once_c1 x.1 x.2.1 x.2.2.1 x.2.2.2 }
-- clause.once$1
noncomputable def clause_once_c1_g : List (Nat × Con) := [(104, .gen (altE [lit_Same_c]))]
noncomputable def clause_once_c1_v : Env := envOf tb gl clause_once_c1_g clause_once_c1_c Tryd.f103.ntmps
theorem clause_once_c1_gs : Goods Tryd.prog (cond clause_once_c1_c.glob gl fun _ => none) clause_once_c1_g := (goods_cons (good_alt (alls_cons (lit_Same_ok.anyGl rfl) alls_nil)) goods_nil)
noncomputable def clause_once_c1_a : AC := .run
theorem clause_once_c1_s (x : TupL clause_once_c1_c.inp.hs) : E clause_once_c1_v (bodyOf Tryd.f103) (clause_once_c1_a) (clause_once_c1_c.entry x) (retSK tb clause_once_c1_v.fz clause_once_c1_c [.tmp 3] x) = clause_once_c1_c.F x := by kernel_rfl
theorem clause_once_c1_ok : ShOk Tryd.prog gl 103 clause_once_c1_c :=
  fn_ok (l := clause_once_c1_g) (n := Tryd.f103.ntmps) (code := bodyOf Tryd.f103) (rts := [.tmp 3]) tb_ok hord (clause_once_c1_gs) Tryd.func103 (by kernel_rfl) (by kernel_rfl) rfl (by kernel_rfl) (ac := clause_once_c1_a) (ob := []) (by kernel_rfl) (fun X hX => obl_nil) (by kernel_rfl) (clause_once_c1_s)

noncomputable def slices_IndexFunc_c : ShC := { inp := ⟨[.hole, (.clo 103 [(.ptr 0 0)])], [.cells true [.hole, .hole]], [1, 1, 1], [.sl tLit, .bool, .sl (.one (.int .i64))]⟩, out := ⟨[.hole], [], [2], [.int .i64]⟩, nres := 1, ms := [], mu := [], leak := false, glob := false, F := fun (x : ((List QLit) × Bool × (List Int))) => slices_IndexFunc x.1 x.2.1 x.2.2 }
-- slices.IndexFunc[[]api.Lit,api.Lit]
noncomputable def slices_IndexFunc_g : List (Nat × Con) := [(103, .gen (altE [clause_once_c1_c]))]
noncomputable def slices_IndexFunc_v : Env := envOf tb gl slices_IndexFunc_g slices_IndexFunc_c Tryd.f70.ntmps
theorem slices_IndexFunc_gs : Goods Tryd.prog (cond slices_IndexFunc_c.glob gl fun _ => none) slices_IndexFunc_g := (goods_cons (good_alt (alls_cons (clause_once_c1_ok.anyGl rfl) alls_nil)) goods_nil)
noncomputable def slices_IndexFunc_u0_h : SS := ⟨[0, 1, 7, 8], ⟨[.hole, (.clo 103 [(.ptr 0 0)]), .hole, .hole], [.cells true [.hole, .hole]], [1, 2, 2, 2, 1], [.sl tLit, .int .i64, .int .i64, .bool, .sl (.one (.int .i64))]⟩⟩
noncomputable def slices_IndexFunc_u0_e : Exs := [((.exit 0), ⟨[], ⟨[], [], [], []⟩⟩), (.ret, ⟨[4], ⟨[.hole], [], [2], [.int .i64]⟩⟩)]
noncomputable def slices_IndexFunc_u0_a : AC := .run
noncomputable def slices_IndexFunc_u0 : Un := lpU slices_IndexFunc_v.fz [9, 10, 5, 11, 12, 13, 14, 15, 16, 17, 4, 18, 8] slices_IndexFunc_u0_h slices_IndexFunc_u0_e (lp slices_IndexFunc_L0 fuel)
theorem slices_IndexFunc_u0_s (f : slices_IndexFunc_u0_h.X → Option (YT slices_IndexFunc_u0_e)) (x : slices_IndexFunc_u0_h.X) : E slices_IndexFunc_v (subC (bodyOf Tryd.f70) [1, 0, 1, 0, 0]) (slices_IndexFunc_u0_a) (mkS slices_IndexFunc_u0_h 8 x) (roundK slices_IndexFunc_v.fz slices_IndexFunc_u0_h slices_IndexFunc_u0_e f) = slices_IndexFunc_L0 f x := by kernel_rfl
theorem slices_IndexFunc_u0_ok {X : Fx} (hX : VOk Tryd.prog X slices_IndexFunc_v) : UnOk Tryd.prog X slices_IndexFunc_v (subC (bodyOf Tryd.f70) [1, 0, 1, 0]) slices_IndexFunc_u0 :=
  lp_un' (c := (subC (bodyOf Tryd.f70) [1, 0, 1, 0, 0])) (by kernel_rfl) (env_all tb_ok (slices_IndexFunc_gs)) hord (ob := []) (by kernel_rfl) (fun X hX => obl_nil) (slices_IndexFunc_u0_s) (by kernel_rfl) (by kernel_rfl) hX
noncomputable def slices_IndexFunc_a : AC := (.seq .run (.seq (.seq .run (.block (.unit slices_IndexFunc_u0))) .run))
theorem slices_IndexFunc_s (x : TupL slices_IndexFunc_c.inp.hs) : E slices_IndexFunc_v (bodyOf Tryd.f70) (slices_IndexFunc_a) (slices_IndexFunc_c.entry x) (retSK tb slices_IndexFunc_v.fz slices_IndexFunc_c [.tmp 4] x) = slices_IndexFunc_c.F x := by kernel_rfl
theorem slices_IndexFunc_ok : ShOk Tryd.prog gl 70 slices_IndexFunc_c :=
  fn_ok (l := slices_IndexFunc_g) (n := Tryd.f70.ntmps) (code := bodyOf Tryd.f70) (rts := [.tmp 4]) tb_ok hord (slices_IndexFunc_gs) Tryd.func70 (by kernel_rfl) (by kernel_rfl) rfl (by kernel_rfl) (ac := slices_IndexFunc_a) (ob := [((subC (bodyOf Tryd.f70) [1, 0, 1, 0]), slices_IndexFunc_u0)]) (by kernel_rfl) (fun X hX => (obl_cons (slices_IndexFunc_u0_ok hX) obl_nil)) (by kernel_rfl) (slices_IndexFunc_s)

noncomputable def slices_ContainsFunc_c : ShC := { inp := ⟨[.hole, (.clo 103 [(.ptr 0 0)])], [.cells true [.hole, .hole]], [1, 1, 1], [.sl tLit, .bool, .sl (.one (.int .i64))]⟩, out := ⟨[.hole], [], [2], [.bool]⟩, nres := 1, ms := [], mu := [], leak := false, glob := false, F := fun (x : ((List QLit) × Bool × (List Int))) => slices_ContainsFunc x.1 x.2.1 x.2.2 }
-- slices.ContainsFunc[[]api.Lit,api.Lit]
noncomputable def slices_ContainsFunc_g : List (Nat × Con) := [(70, .gen (altE [slices_IndexFunc_c]))]
noncomputable def slices_ContainsFunc_v : Env := envOf tb gl slices_ContainsFunc_g slices_ContainsFunc_c Tryd.f40.ntmps
theorem slices_ContainsFunc_gs : Goods Tryd.prog (cond slices_ContainsFunc_c.glob gl fun _ => none) slices_ContainsFunc_g := (goods_cons (good_alt (alls_cons (slices_IndexFunc_ok.anyGl rfl) alls_nil)) goods_nil)
noncomputable def slices_ContainsFunc_a : AC := .run
theorem slices_ContainsFunc_s (x : TupL slices_ContainsFunc_c.inp.hs) : E slices_ContainsFunc_v (bodyOf Tryd.f40) (slices_ContainsFunc_a) (slices_ContainsFunc_c.entry x) (retSK tb slices_ContainsFunc_v.fz slices_ContainsFunc_c [.tmp 4] x) = slices_ContainsFunc_c.F x := by kernel_rfl
theorem slices_ContainsFunc_ok : ShOk Tryd.prog gl 40 slices_ContainsFunc_c :=
  fn_ok (l := slices_ContainsFunc_g) (n := Tryd.f40.ntmps) (code := bodyOf Tryd.f40) (rts := [.tmp 4]) tb_ok hord (slices_ContainsFunc_gs) Tryd.func40 (by kernel_rfl) (by kernel_rfl) rfl (by kernel_rfl) (ac := slices_ContainsFunc_a) (ob := []) (by kernel_rfl) (fun X hX => obl_nil) (by kernel_rfl) (slices_ContainsFunc_s)

noncomputable def clause_once_c : ShC := { inp := ⟨[.hole], [], [1], [.sl tLit]⟩, out := ⟨[(.view 0)], [.seq false], [0], [.sl tLit]⟩, nres := 1, ms := [], mu := [], leak := true, glob := false, F := fun (x : (List QLit)) => clause_once x }
-- clause.once
noncomputable def clause_once_g : List (Nat × Con) := [(40, .gen (altE [slices_ContainsFunc_c]))]
noncomputable def clause_once_v : Env := envOf tb gl clause_once_g clause_once_c Tryd.f87.ntmps
theorem clause_once_gs : Goods Tryd.prog (cond clause_once_c.glob gl fun _ => none) clause_once_g := (goods_cons (good_alt (alls_cons (slices_ContainsFunc_ok.anyGl rfl) alls_nil)) goods_nil)
noncomputable def clause_once_u0_h : SS := ⟨[3, 6, 7, 8], ⟨[(.view 0), .hole, .hole, .hole], [.seq false], [1, 2, 2, 0], [.sl tLit, .int .i64, .int .i64, .sl tLit]⟩⟩
noncomputable def clause_once_u0_e : Exs := [((.exit 0), ⟨[3], ⟨[(.view 0)], [.seq false], [0], [.sl tLit]⟩⟩)]
noncomputable def clause_once_u0_a : AC := .run
noncomputable def clause_once_u0 : Un := lpU clause_once_v.fz [9, 10, 11, 5, 12, 13, 14, 15, 16, 17, 18, 19, 3, 20, 8] clause_once_u0_h clause_once_u0_e (lp clause_once_L0 fuel)
theorem clause_once_u0_s (f : clause_once_u0_h.X → Option (YT clause_once_u0_e)) (x : clause_once_u0_h.X) : E clause_once_v (subC (bodyOf Tryd.f87) [1, 1, 0, 1, 0, 0]) (clause_once_u0_a) (mkS clause_once_u0_h 8 x) (roundK clause_once_v.fz clause_once_u0_h clause_once_u0_e f) = clause_once_L0 f x := by kernel_rfl
theorem clause_once_u0_ok {X : Fx} (hX : VOk Tryd.prog X clause_once_v) : UnOk Tryd.prog X clause_once_v (subC (bodyOf Tryd.f87) [1, 1, 0, 1, 0]) clause_once_u0 :=
  lp_un' (c := (subC (bodyOf Tryd.f87) [1, 1, 0, 1, 0, 0])) (by kernel_rfl) (env_all tb_ok (clause_once_gs)) hord (ob := []) (by kernel_rfl) (fun X hX => obl_nil) (clause_once_u0_s) (by kernel_rfl) (by kernel_rfl) hX
noncomputable def clause_once_a : AC := (.seq .run (.seq .run (.seq (.seq .run (.block (.unit clause_once_u0))) .run)))
theorem clause_once_s (x : TupL clause_once_c.inp.hs) : E clause_once_v (bodyOf Tryd.f87) (clause_once_a) (clause_once_c.entry x) (retSK tb clause_once_v.fz clause_once_c [.tmp 2] x) = clause_once_c.F x := by kernel_rfl
theorem clause_once_ok : ShOk Tryd.prog gl 87 clause_once_c :=
  fn_ok (l := clause_once_g) (n := Tryd.f87.ntmps) (code := bodyOf Tryd.f87) (rts := [.tmp 2]) tb_ok hord (clause_once_gs) Tryd.func87 (by kernel_rfl) (by kernel_rfl) rfl (by kernel_rfl) (ac := clause_once_a) (ob := [((subC (bodyOf Tryd.f87) [1, 1, 0, 1, 0]), clause_once_u0)]) (by kernel_rfl) (fun X hX => (obl_cons (clause_once_u0_ok hX) obl_nil)) (by kernel_rfl) (clause_once_s)

noncomputable def clause_anew_c1_c : ShC := { inp := ⟨[.hole, (.ptr 0 0)], [.cells true [.hole]], [1, 1], [.sl (.one (.int .i64)), .sl (.one (.int .i64))]⟩, out := ⟨[.hole], [], [2], [.bool]⟩, nres := 1, ms := [], mu := [], leak := false, glob := false, F := fun (x : ((List Int) × (List Int))) => clause_anew_c1 x.1 x.2 }
-- clause.anew$1
noncomputable def clause_anew_c1_g : List (Nat × Con) := [(89, .gen (altE [slices_Equal_c]))]
noncomputable def clause_anew_c1_v : Env := envOf tb gl clause_anew_c1_g clause_anew_c1_c Tryd.f88.ntmps
theorem clause_anew_c1_gs : Goods Tryd.prog (cond clause_anew_c1_c.glob gl fun _ => none) clause_anew_c1_g := (goods_cons (good_alt (alls_cons (slices_Equal_ok.anyGl rfl) alls_nil)) goods_nil)
noncomputable def clause_anew_c1_a : AC := .run
theorem clause_anew_c1_s (x : TupL clause_anew_c1_c.inp.hs) : E clause_anew_c1_v (bodyOf Tryd.f88) (clause_anew_c1_a) (clause_anew_c1_c.entry x) (retSK tb clause_anew_c1_v.fz clause_anew_c1_c [.tmp 3] x) = clause_anew_c1_c.F x := by kernel_rfl
theorem clause_anew_c1_ok : ShOk Tryd.prog gl 88 clause_anew_c1_c :=
  fn_ok (l := clause_anew_c1_g) (n := Tryd.f88.ntmps) (code := bodyOf Tryd.f88) (rts := [.tmp 3]) tb_ok hord (clause_anew_c1_gs) Tryd.func88 (by kernel_rfl) (by kernel_rfl) rfl (by kernel_rfl) (ac := clause_anew_c1_a) (ob := []) (by kernel_rfl) (fun X hX => obl_nil) (by kernel_rfl) (clause_anew_c1_s)

noncomputable def slices_IndexFunc_1_c : ShC := { inp := ⟨[.hole, (.clo 88 [(.ptr 0 0)])], [.cells true [.hole]], [1, 1], [.sl (.one (.sl (.one (.int .i64)))), .sl (.one (.int .i64))]⟩, out := ⟨[.hole], [], [2], [.int .i64]⟩, nres := 1, ms := [], mu := [], leak := false, glob := false, F := fun (x : ((List (List Int)) × (List Int))) => slices_IndexFunc_1 x.1 x.2 }
-- slices.IndexFunc[[][]int,[]int]
noncomputable def slices_IndexFunc_1_g : List (Nat × Con) := [(88, .gen (altE [clause_anew_c1_c]))]
noncomputable def slices_IndexFunc_1_v : Env := envOf tb gl slices_IndexFunc_1_g slices_IndexFunc_1_c Tryd.f69.ntmps
theorem slices_IndexFunc_1_gs : Goods Tryd.prog (cond slices_IndexFunc_1_c.glob gl fun _ => none) slices_IndexFunc_1_g := (goods_cons (good_alt (alls_cons (clause_anew_c1_ok.anyGl rfl) alls_nil)) goods_nil)
noncomputable def slices_IndexFunc_1_u0_h : SS := ⟨[0, 1, 7, 8], ⟨[.hole, (.clo 88 [(.ptr 0 0)]), .hole, .hole], [.cells true [.hole]], [1, 2, 2, 1], [.sl (.one (.sl (.one (.int .i64)))), .int .i64, .int .i64, .sl (.one (.int .i64))]⟩⟩
noncomputable def slices_IndexFunc_1_u0_e : Exs := [((.exit 0), ⟨[], ⟨[], [], [], []⟩⟩), (.ret, ⟨[4], ⟨[.hole], [], [2], [.int .i64]⟩⟩)]
noncomputable def slices_IndexFunc_1_u0_a : AC := .run
noncomputable def slices_IndexFunc_1_u0 : Un := lpU slices_IndexFunc_1_v.fz [9, 10, 5, 11, 12, 13, 14, 15, 16, 17, 4, 18, 8] slices_IndexFunc_1_u0_h slices_IndexFunc_1_u0_e (lp slices_IndexFunc_1_L0 fuel)
theorem slices_IndexFunc_1_u0_s (f : slices_IndexFunc_1_u0_h.X → Option (YT slices_IndexFunc_1_u0_e)) (x : slices_IndexFunc_1_u0_h.X) : E slices_IndexFunc_1_v (subC (bodyOf Tryd.f69) [1, 0, 1, 0, 0]) (slices_IndexFunc_1_u0_a) (mkS slices_IndexFunc_1_u0_h 8 x) (roundK slices_IndexFunc_1_v.fz slices_IndexFunc_1_u0_h slices_IndexFunc_1_u0_e f) = slices_IndexFunc_1_L0 f x := by kernel_rfl
theorem slices_IndexFunc_1_u0_ok {X : Fx} (hX : VOk Tryd.prog X slices_IndexFunc_1_v) : UnOk Tryd.prog X slices_IndexFunc_1_v (subC (bodyOf Tryd.f69) [1, 0, 1, 0]) slices_IndexFunc_1_u0 :=
  lp_un' (c := (subC (bodyOf Tryd.f69) [1, 0, 1, 0, 0])) (by kernel_rfl) (env_all tb_ok (slices_IndexFunc_1_gs)) hord (ob := []) (by kernel_rfl) (fun X hX => obl_nil) (slices_IndexFunc_1_u0_s) (by kernel_rfl) (by kernel_rfl) hX
noncomputable def slices_IndexFunc_1_a : AC := (.seq .run (.seq (.seq .run (.block (.unit slices_IndexFunc_1_u0))) .run))
theorem slices_IndexFunc_1_s (x : TupL slices_IndexFunc_1_c.inp.hs) : E slices_IndexFunc_1_v (bodyOf Tryd.f69) (slices_IndexFunc_1_a) (slices_IndexFunc_1_c.entry x) (retSK tb slices_IndexFunc_1_v.fz slices_IndexFunc_1_c [.tmp 4] x) = slices_IndexFunc_1_c.F x := by kernel_rfl
theorem slices_IndexFunc_1_ok : ShOk Tryd.prog gl 69 slices_IndexFunc_1_c :=
  fn_ok (l := slices_IndexFunc_1_g) (n := Tryd.f69.ntmps) (code := bodyOf Tryd.f69) (rts := [.tmp 4]) tb_ok hord (slices_IndexFunc_1_gs) Tryd.func69 (by kernel_rfl) (by kernel_rfl) rfl (by kernel_rfl) (ac := slices_IndexFunc_1_a) (ob := [((subC (bodyOf Tryd.f69) [1, 0, 1, 0]), slices_IndexFunc_1_u0)]) (by kernel_rfl) (fun X hX => (obl_cons (slices_IndexFunc_1_u0_ok hX) obl_nil)) (by kernel_rfl) (slices_IndexFunc_1_s)

noncomputable def slices_ContainsFunc_1_c : ShC := { inp := ⟨[.hole, (.clo 88 [(.ptr 0 0)])], [.cells true [.hole]], [1, 1], [.sl (.one (.sl (.one (.int .i64)))), .sl (.one (.int .i64))]⟩, out := ⟨[.hole], [], [2], [.bool]⟩, nres := 1, ms := [], mu := [], leak := false, glob := false, F := fun (x : ((List (List Int)) × (List Int))) => slices_ContainsFunc_1 x.1 x.2 }
-- slices.ContainsFunc[[][]int,[]int]
noncomputable def slices_ContainsFunc_1_g : List (Nat × Con) := [(69, .gen (altE [slices_IndexFunc_1_c]))]
noncomputable def slices_ContainsFunc_1_v : Env := envOf tb gl slices_ContainsFunc_1_g slices_ContainsFunc_1_c Tryd.f39.ntmps
theorem slices_ContainsFunc_1_gs : Goods Tryd.prog (cond slices_ContainsFunc_1_c.glob gl fun _ => none) slices_ContainsFunc_1_g := (goods_cons (good_alt (alls_cons (slices_IndexFunc_1_ok.anyGl rfl) alls_nil)) goods_nil)
noncomputable def slices_ContainsFunc_1_a : AC := .run
theorem slices_ContainsFunc_1_s (x : TupL slices_ContainsFunc_1_c.inp.hs) : E slices_ContainsFunc_1_v (bodyOf Tryd.f39) (slices_ContainsFunc_1_a) (slices_ContainsFunc_1_c.entry x) (retSK tb slices_ContainsFunc_1_v.fz slices_ContainsFunc_1_c [.tmp 4] x) = slices_ContainsFunc_1_c.F x := by kernel_rfl
theorem slices_ContainsFunc_1_ok : ShOk Tryd.prog gl 39 slices_ContainsFunc_1_c :=
  fn_ok (l := slices_ContainsFunc_1_g) (n := Tryd.f39.ntmps) (code := bodyOf Tryd.f39) (rts := [.tmp 4]) tb_ok hord (slices_ContainsFunc_1_gs) Tryd.func39 (by kernel_rfl) (by kernel_rfl) rfl (by kernel_rfl) (ac := slices_ContainsFunc_1_a) (ob := []) (by kernel_rfl) (fun X hX => obl_nil) (by kernel_rfl) (slices_ContainsFunc_1_s)

noncomputable def clause_anew_c2_1_c : ShC := { inp := ⟨[.hole, (.aptr 0), (.ptr 1 0)], [.seq false, .cells false [.hole]], [1, 1, 1], [.sl (.one (.int .i64)), .sl (.one (.int .i64)), .int .i64]⟩, out := ⟨[(.view 0), (.aptr 1), (.ptr 2 0)], [.seq false, .seq false, .cells false [.hole]], [0, 0, 2], [.sl (.one (.int .i64)), .sl (.one (.int .i64)), .int .i64]⟩, nres := 1, ms := [1, 2], mu := [(0, 1), (1, 2)], leak := true, glob := false, F := fun (x : ((List Int) × (List Int) × Int)) => clause_anew_c2_1 x.1 x.2.1 x.2.2 }
-- clause.anew$2
noncomputable def clause_anew_c2_1_g : List (Nat × Con) := [(35, .gen (altE [term_Number_c])), (65, .gen (altE [slices_CloneN_c]))]
noncomputable def clause_anew_c2_1_v : Env := envOf tb gl clause_anew_c2_1_g clause_anew_c2_1_c Tryd.f91.ntmps
theorem clause_anew_c2_1_gs : Goods Tryd.prog (cond clause_anew_c2_1_c.glob gl fun _ => none) clause_anew_c2_1_g := (goods_cons (good_alt (alls_cons (term_Number_ok.anyGl rfl) alls_nil)) (goods_cons (good_alt (alls_cons (slices_CloneN_ok.anyGl rfl) alls_nil)) goods_nil))
noncomputable def clause_anew_c2_1_u0_h : SS := ⟨[1, 2, 5, 10, 11, 12], ⟨[(.aptr 0), (.ptr 1 0), (.view 2), (.view 2), .hole, .hole], [.seq false, .cells false [.hole], .seq false], [2, 2, 0, 2, 0], [.int .i64, .int .i64, .sl (.one (.int .i64)), .int .i64, .sl (.one (.int .i64))]⟩⟩
noncomputable def clause_anew_c2_1_u0_e : Exs := [((.exit 0), ⟨[1, 2, 5], ⟨[(.aptr 0), (.ptr 1 0), (.view 2)], [.seq false, .cells false [.hole], .seq false], [0, 2, 0], [.sl (.one (.int .i64)), .int .i64, .sl (.one (.int .i64))]⟩⟩)]
noncomputable def clause_anew_c2_1_u0_a : AC := .run
noncomputable def clause_anew_c2_1_u0 : Un := lpU clause_anew_c2_1_v.fz [13, 14, 15, 16, 6, 7, 17, 18, 19, 20, 21, 22, 23, 24, 25, 26, 27, 28, 29, 30, 31, 32, 33, 34, 35, 36, 37, 38, 12] clause_anew_c2_1_u0_h clause_anew_c2_1_u0_e (lp clause_anew_c2_1_L0 fuel)
theorem clause_anew_c2_1_u0_s (f : clause_anew_c2_1_u0_h.X → Option (YT clause_anew_c2_1_u0_e)) (x : clause_anew_c2_1_u0_h.X) : E clause_anew_c2_1_v (subC (bodyOf Tryd.f91) [1, 1, 0, 1, 0, 0]) (clause_anew_c2_1_u0_a) (mkS clause_anew_c2_1_u0_h 8 x) (roundK clause_anew_c2_1_v.fz clause_anew_c2_1_u0_h clause_anew_c2_1_u0_e f) = clause_anew_c2_1_L0 f x := by kernel_rfl
theorem clause_anew_c2_1_u0_ok {X : Fx} (hX : VOk Tryd.prog X clause_anew_c2_1_v) : UnOk Tryd.prog X clause_anew_c2_1_v (subC (bodyOf Tryd.f91) [1, 1, 0, 1, 0]) clause_anew_c2_1_u0 :=
  lp_un' (c := (subC (bodyOf Tryd.f91) [1, 1, 0, 1, 0, 0])) (by kernel_rfl) (env_all tb_ok (clause_anew_c2_1_gs)) hord (ob := []) (by kernel_rfl) (fun X hX => obl_nil) (clause_anew_c2_1_u0_s) (by kernel_rfl) (by kernel_rfl) hX
noncomputable def clause_anew_c2_1_a : AC := (.seq .run (.seq .run (.seq (.seq .run (.block (.unit clause_anew_c2_1_u0))) .run)))
theorem clause_anew_c2_1_s (x : TupL clause_anew_c2_1_c.inp.hs) : E clause_anew_c2_1_v (bodyOf Tryd.f91) (clause_anew_c2_1_a) (clause_anew_c2_1_c.entry x) (retSK tb clause_anew_c2_1_v.fz clause_anew_c2_1_c [.tmp 4] x) = clause_anew_c2_1_c.F x := by kernel_rfl
theorem clause_anew_c2_1_ok : ShOk Tryd.prog gl 91 clause_anew_c2_1_c :=
  fn_ok (l := clause_anew_c2_1_g) (n := Tryd.f91.ntmps) (code := bodyOf Tryd.f91) (rts := [.tmp 4]) tb_ok hord (clause_anew_c2_1_gs) Tryd.func91 (by kernel_rfl) (by kernel_rfl) rfl (by kernel_rfl) (ac := clause_anew_c2_1_a) (ob := [((subC (bodyOf Tryd.f91) [1, 1, 0, 1, 0]), clause_anew_c2_1_u0)]) (by kernel_rfl) (fun X hX => (obl_cons (clause_anew_c2_1_u0_ok hX) obl_nil)) (by kernel_rfl) (clause_anew_c2_1_s)

noncomputable def clause_each_1_c : ShC := { inp := ⟨[(.agg [.hole, .hole, .hole]), (.clo 91 [(.aptr 0), (.ptr 1 0)])], [.seq false, .cells false [.hole]], [1, 1, 1, 1, 1], [.sl tLit, .sl (.one (.sl (.one (.int .i64)))), .sl tLit, .sl (.one (.int .i64)), .int .i64]⟩, out := ⟨[(.agg [.hole, .hole, (.view 0)]), (.clo 91 [(.aptr 1), (.ptr 2 0)])], [.seq false, .seq false, .cells false [.hole]], [0, 0, 0, 0, 2], [.sl tLit, .sl (.one (.sl (.one (.int .i64)))), .sl tLit, .sl (.one (.int .i64)), .int .i64]⟩, nres := 1, ms := [1], mu := [(0, 1), (1, 2)], leak := true, glob := false, F := fun (x : ((List QLit) × (List (List Int)) × (List QLit) × (List Int) × Int)) => clause_each_1 x.1 x.2.1 x.2.2.1 x.2.2.2.1 x.2.2.2.2 }
-- clause.each
noncomputable def clause_each_1_g : List (Nat × Con) := [(91, .gen (altE [clause_anew_c2_1_c]))]
noncomputable def clause_each_1_v : Env := envOf tb gl clause_each_1_g clause_each_1_c Tryd.f90.ntmps
theorem clause_each_1_gs : Goods Tryd.prog (cond clause_each_1_c.glob gl fun _ => none) clause_each_1_g := (goods_cons (good_alt (alls_cons (clause_anew_c2_1_ok.anyGl rfl) alls_nil)) goods_nil)
noncomputable def clause_each_1_u2_h : SS := ⟨[1, 4, 5, 49, 50, 51], ⟨[(.clo 91 [(.aptr 0), (.ptr 1 0)]), (.ptr 2 0), (.ptr 3 0), .hole, .hole, .hole], [.seq false, .cells false [.hole], .cells true [.nilv, .nilv, .nilv], .cells false [.hole, .hole, (.view 4)], .seq false], [1, 2, 2, 0, 2, 0, 0, 0], [.sl tLit, .int .i64, .int .i64, .sl (.one (.int .i64)), .int .i64, .sl tLit, .sl (.one (.sl (.one (.int .i64)))), .sl tLit]⟩⟩
noncomputable def clause_each_1_u2_e : Exs := [((.exit 4), ⟨[1, 5], ⟨[(.clo 91 [(.aptr 0), (.ptr 1 0)]), (.ptr 2 0)], [.seq false, .cells false [.hole], .cells false [.hole, .hole, (.view 3)], .seq false], [0, 2, 0, 0, 0], [.sl (.one (.int .i64)), .int .i64, .sl tLit, .sl (.one (.sl (.one (.int .i64)))), .sl tLit]⟩⟩)]
noncomputable def clause_each_1_u2_a : AC := (.seq .run (.seq .run (.seq (.block (.seq .run (.hide [[8, 9], [8, 9], [8, 9], [8, 9], [], [], [], [], [], [], [], [], []]))) .run)))
noncomputable def clause_each_1_u2 : Un := lpU clause_each_1_v.fz [52, 53, 54, 11, 55, 56, 57, 58, 59, 60, 61, 62, 63, 64, 65, 66, 67, 51] clause_each_1_u2_h clause_each_1_u2_e (lp clause_each_1_L2 fuel)
theorem clause_each_1_u2_s (f : clause_each_1_u2_h.X → Option (YT clause_each_1_u2_e)) (x : clause_each_1_u2_h.X) : E clause_each_1_v (subC (bodyOf Tryd.f90) [1, 1, 1, 1, 0, 1, 0, 0]) (clause_each_1_u2_a) (mkS clause_each_1_u2_h 8 x) (roundK clause_each_1_v.fz clause_each_1_u2_h clause_each_1_u2_e f) = clause_each_1_L2 f x := by kernel_rfl
theorem clause_each_1_u2_ok {X : Fx} (hX : VOk Tryd.prog X clause_each_1_v) : UnOk Tryd.prog X clause_each_1_v (subC (bodyOf Tryd.f90) [1, 1, 1, 1, 0, 1, 0]) clause_each_1_u2 :=
  lp_un' (c := (subC (bodyOf Tryd.f90) [1, 1, 1, 1, 0, 1, 0, 0])) (by kernel_rfl) (env_all tb_ok (clause_each_1_gs)) hord (ob := []) (by kernel_rfl) (fun X hX => obl_nil) (clause_each_1_u2_s) (by kernel_rfl) (by kernel_rfl) hX
noncomputable def clause_each_1_u1_h : SS := ⟨[1, 2, 4, 5, 33, 34, 35], ⟨[(.clo 91 [(.aptr 0), (.ptr 1 0)]), (.ptr 2 0), (.ptr 3 0), (.ptr 4 0), .hole, .hole, .hole], [.seq false, .cells false [.hole], .cells true [.hole, .hole, .hole], .cells true [.nilv, .nilv, .nilv], .cells false [.hole, (.view 5), .nilv], .seq false], [1, 2, 2, 0, 2, 1, 1, 1, 0, 0], [.sl (.one (.sl (.one (.int .i64)))), .int .i64, .int .i64, .sl (.one (.int .i64)), .int .i64, .sl tLit, .sl (.one (.sl (.one (.int .i64)))), .sl tLit, .sl tLit, .sl (.one (.sl (.one (.int .i64))))]⟩⟩
noncomputable def clause_each_1_u1_e : Exs := [((.exit 2), ⟨[1, 5], ⟨[(.clo 91 [(.aptr 0), (.ptr 1 0)]), (.ptr 2 0)], [.seq false, .cells false [.hole], .cells false [.hole, (.view 3), .nilv], .seq false], [0, 2, 0, 0], [.sl (.one (.int .i64)), .int .i64, .sl tLit, .sl (.one (.sl (.one (.int .i64))))]⟩⟩)]
noncomputable def clause_each_1_u1_a : AC := (.seq .run (.seq .run (.seq (.block (.seq .run (.hide [[8, 9], [8, 9], [], [], [], [], [], [], []]))) .run)))
noncomputable def clause_each_1_u1 : Un := lpU clause_each_1_v.fz [36, 37, 38, 9, 39, 40, 41, 42, 43, 44, 45, 46, 47, 35] clause_each_1_u1_h clause_each_1_u1_e (lp clause_each_1_L1 fuel)
theorem clause_each_1_u1_s (f : clause_each_1_u1_h.X → Option (YT clause_each_1_u1_e)) (x : clause_each_1_u1_h.X) : E clause_each_1_v (subC (bodyOf Tryd.f90) [1, 1, 1, 0, 1, 0, 0]) (clause_each_1_u1_a) (mkS clause_each_1_u1_h 8 x) (roundK clause_each_1_v.fz clause_each_1_u1_h clause_each_1_u1_e f) = clause_each_1_L1 f x := by kernel_rfl
theorem clause_each_1_u1_ok {X : Fx} (hX : VOk Tryd.prog X clause_each_1_v) : UnOk Tryd.prog X clause_each_1_v (subC (bodyOf Tryd.f90) [1, 1, 1, 0, 1, 0]) clause_each_1_u1 :=
  lp_un' (c := (subC (bodyOf Tryd.f90) [1, 1, 1, 0, 1, 0, 0])) (by kernel_rfl) (env_all tb_ok (clause_each_1_gs)) hord (ob := []) (by kernel_rfl) (fun X hX => obl_nil) (clause_each_1_u1_s) (by kernel_rfl) (by kernel_rfl) hX
noncomputable def clause_each_1_u0_h : SS := ⟨[1, 2, 4, 5, 13, 14, 15], ⟨[(.clo 91 [(.aptr 0), (.ptr 1 0)]), (.ptr 2 0), (.ptr 3 0), (.ptr 4 0), .hole, .hole, .hole], [.seq false, .cells false [.hole], .cells true [.hole, .hole, .hole], .cells true [.nilv, .nilv, .nilv], .cells false [(.view 5), .nilv, .nilv], .seq false], [1, 2, 2, 0, 2, 1, 1, 1, 0], [.sl tLit, .int .i64, .int .i64, .sl (.one (.int .i64)), .int .i64, .sl tLit, .sl (.one (.sl (.one (.int .i64)))), .sl tLit, .sl tLit]⟩⟩
noncomputable def clause_each_1_u0_e : Exs := [((.exit 0), ⟨[1, 5], ⟨[(.clo 91 [(.aptr 0), (.ptr 1 0)]), (.ptr 2 0)], [.seq false, .cells false [.hole], .cells false [(.view 3), .nilv, .nilv], .seq false], [0, 2, 0], [.sl (.one (.int .i64)), .int .i64, .sl tLit]⟩⟩)]
noncomputable def clause_each_1_u0_a : AC := (.seq .run (.seq .run (.seq (.block (.seq .run (.hide [[8, 9], [8, 9], [8, 9], [8, 9], [], [], [], [], [], [], [], [], []]))) .run)))
noncomputable def clause_each_1_u0 : Un := lpU clause_each_1_v.fz [16, 17, 18, 7, 19, 20, 21, 22, 23, 24, 25, 26, 27, 28, 29, 30, 31, 15] clause_each_1_u0_h clause_each_1_u0_e (lp clause_each_1_L0 fuel)
theorem clause_each_1_u0_s (f : clause_each_1_u0_h.X → Option (YT clause_each_1_u0_e)) (x : clause_each_1_u0_h.X) : E clause_each_1_v (subC (bodyOf Tryd.f90) [1, 1, 0, 1, 0, 0]) (clause_each_1_u0_a) (mkS clause_each_1_u0_h 8 x) (roundK clause_each_1_v.fz clause_each_1_u0_h clause_each_1_u0_e f) = clause_each_1_L0 f x := by kernel_rfl
theorem clause_each_1_u0_ok {X : Fx} (hX : VOk Tryd.prog X clause_each_1_v) : UnOk Tryd.prog X clause_each_1_v (subC (bodyOf Tryd.f90) [1, 1, 0, 1, 0]) clause_each_1_u0 :=
  lp_un' (c := (subC (bodyOf Tryd.f90) [1, 1, 0, 1, 0, 0])) (by kernel_rfl) (env_all tb_ok (clause_each_1_gs)) hord (ob := []) (by kernel_rfl) (fun X hX => obl_nil) (clause_each_1_u0_s) (by kernel_rfl) (by kernel_rfl) hX
noncomputable def clause_each_1_a : AC := (.seq .run (.seq .run (.seq (.seq .run (.block (.unit clause_each_1_u0))) (.seq (.seq .run (.block (.unit clause_each_1_u1))) (.seq (.seq .run (.block (.unit clause_each_1_u2))) .run)))))
theorem clause_each_1_s (x : TupL clause_each_1_c.inp.hs) : E clause_each_1_v (bodyOf Tryd.f90) (clause_each_1_a) (clause_each_1_c.entry x) (retSK tb clause_each_1_v.fz clause_each_1_c [.cell 4 38] x) = clause_each_1_c.F x := by kernel_rfl
theorem clause_each_1_ok : ShOk Tryd.prog gl 90 clause_each_1_c :=
  fn_ok (l := clause_each_1_g) (n := Tryd.f90.ntmps) (code := bodyOf Tryd.f90) (rts := [.cell 4 38]) tb_ok hord (clause_each_1_gs) Tryd.func90 (by kernel_rfl) (by kernel_rfl) rfl (by kernel_rfl) (ac := clause_each_1_a) (ob := [((subC (bodyOf Tryd.f90) [1, 1, 0, 1, 0]), clause_each_1_u0), ((subC (bodyOf Tryd.f90) [1, 1, 1, 0, 1, 0]), clause_each_1_u1), ((subC (bodyOf Tryd.f90) [1, 1, 1, 1, 0, 1, 0]), clause_each_1_u2)]) (by kernel_rfl) (fun X hX => (obl_cons (clause_each_1_u0_ok hX) (obl_cons (clause_each_1_u1_ok hX) (obl_cons (clause_each_1_u2_ok hX) obl_nil)))) (by kernel_rfl) (clause_each_1_s)

noncomputable def clause_anew_c : ShC := { inp := ⟨[(.agg [.hole, .hole, .hole])], [], [1, 1, 1], [.sl tLit, .sl (.one (.sl (.one (.int .i64)))), .sl tLit]⟩, out := ⟨[(.agg [.hole, .hole, (.view 0)])], [.seq false], [0, 0, 0], [.sl tLit, .sl (.one (.sl (.one (.int .i64)))), .sl tLit]⟩, nres := 1, ms := [], mu := [], leak := true, glob := false, F := fun (x : ((List QLit) × (List (List Int)) × (List QLit))) => clause_anew x.1 x.2.1 x.2.2 }
-- clause.anew
noncomputable def clause_anew_g : List (Nat × Con) := [(39, .gen (altE [slices_ContainsFunc_1_c])), (87, .gen (altE [clause_once_c])), (90, .gen (altE [clause_each_1_c]))]
noncomputable def clause_anew_v : Env := envOf tb gl clause_anew_g clause_anew_c Tryd.f66.ntmps
theorem clause_anew_gs : Goods Tryd.prog (cond clause_anew_c.glob gl fun _ => none) clause_anew_g := (goods_cons (good_alt (alls_cons (slices_ContainsFunc_1_ok.anyGl rfl) alls_nil)) (goods_cons (good_alt (alls_cons (clause_once_ok.anyGl rfl) alls_nil)) (goods_cons (good_alt (alls_cons (clause_each_1_ok.anyGl rfl) alls_nil)) goods_nil)))
noncomputable def clause_anew_u0_h : SS := ⟨[2, 3, 16, 17, 18], ⟨[(.ptr 0 0), (.ptr 1 0), .hole, .hole, .hole], [.cells true [.nilv, .nilv, .nilv], .cells false [.hole, (.view 2), .hole], .seq false], [1, 2, 2, 0, 0, 0], [.sl (.one (.sl (.one (.int .i64)))), .int .i64, .int .i64, .sl tLit, .sl tLit, .sl (.one (.sl (.one (.int .i64))))]⟩⟩
noncomputable def clause_anew_u0_e : Exs := [((.exit 0), ⟨[3], ⟨[(.ptr 0 0)], [.cells false [.hole, (.view 1), .hole], .seq false], [0, 0, 0], [.sl tLit, .sl tLit, .sl (.one (.sl (.one (.int .i64))))]⟩⟩)]
noncomputable def clause_anew_u0_a : AC := .run
noncomputable def clause_anew_u0 : Un := lpU clause_anew_v.fz [19, 20, 21, 5, 22, 23, 24, 25, 26, 27, 28, 29, 30, 31, 32, 33, 18] clause_anew_u0_h clause_anew_u0_e (lp clause_anew_L0 fuel)
theorem clause_anew_u0_s (f : clause_anew_u0_h.X → Option (YT clause_anew_u0_e)) (x : clause_anew_u0_h.X) : E clause_anew_v (subC (bodyOf Tryd.f66) [1, 1, 0, 1, 0, 0]) (clause_anew_u0_a) (mkS clause_anew_u0_h 8 x) (roundK clause_anew_v.fz clause_anew_u0_h clause_anew_u0_e f) = clause_anew_L0 f x := by kernel_rfl
theorem clause_anew_u0_ok {X : Fx} (hX : VOk Tryd.prog X clause_anew_v) : UnOk Tryd.prog X clause_anew_v (subC (bodyOf Tryd.f66) [1, 1, 0, 1, 0]) clause_anew_u0 :=
  lp_un' (c := (subC (bodyOf Tryd.f66) [1, 1, 0, 1, 0, 0])) (by kernel_rfl) (env_all tb_ok (clause_anew_gs)) hord (ob := []) (by kernel_rfl) (fun X hX => obl_nil) (clause_anew_u0_s) (by kernel_rfl) (by kernel_rfl) hX
noncomputable def clause_anew_a : AC := (.seq .run (.seq .run (.seq (.seq .run (.block (.unit clause_anew_u0))) .run)))
theorem clause_anew_s (x : TupL clause_anew_c.inp.hs) : E clause_anew_v (bodyOf Tryd.f66) (clause_anew_a) (clause_anew_c.entry x) (retSK tb clause_anew_v.fz clause_anew_c [.cell 2 38] x) = clause_anew_c.F x := by kernel_rfl
theorem clause_anew_ok : ShOk Tryd.prog gl 66 clause_anew_c :=
  fn_ok (l := clause_anew_g) (n := Tryd.f66.ntmps) (code := bodyOf Tryd.f66) (rts := [.cell 2 38]) tb_ok hord (clause_anew_gs) Tryd.func66 (by kernel_rfl) (by kernel_rfl) rfl (by kernel_rfl) (ac := clause_anew_a) (ob := [((subC (bodyOf Tryd.f66) [1, 1, 0, 1, 0]), clause_anew_u0)]) (by kernel_rfl) (fun X hX => (obl_cons (clause_anew_u0_ok hX) obl_nil)) (by kernel_rfl) (clause_anew_s)

noncomputable def clause_Normal_c : ShC := { inp := ⟨[.hole, (.agg [.hole, .hole, .hole])], [], [1, 1, 1, 1], [.sl tSym, .sl tLit, .sl (.one (.sl (.one (.int .i64)))), .sl tLit]⟩, out := ⟨[(.agg [.hole, .hole, (.view 0)]), .hole], [.seq false], [0, 0, 2, 0], [.sl tLit, .sl (.one (.sl (.one (.int .i64)))), .int .i64, .sl tLit]⟩, nres := 2, ms := [], mu := [], leak := true, glob := true, F := fun (x : ((List QSym) × (List QLit) × (List (List Int)) × (List QLit))) => clause_Normal x.1 x.2.1 x.2.2.1 x.2.2.2 }
-- clause.Normal
noncomputable def clause_Normal_g : List (Nat × Con) := [(22, .gen (altE [clause_May_c])), (66, .gen (altE [clause_anew_c]))]
noncomputable def clause_Normal_v : Env := envOf tb gl clause_Normal_g clause_Normal_c Tryd.f36.ntmps
theorem clause_Normal_gs : Goods Tryd.prog (cond clause_Normal_c.glob gl fun _ => none) clause_Normal_g := (goods_cons (good_alt (alls_cons clause_May_ok alls_nil)) (goods_cons (good_alt (alls_cons (clause_anew_ok.anyGl rfl) alls_nil)) goods_nil))
noncomputable def clause_Normal_a : AC := .run
theorem clause_Normal_s (x : TupL clause_Normal_c.inp.hs) : E clause_Normal_v (bodyOf Tryd.f36) (clause_Normal_a) (clause_Normal_c.entry x) (retSK tb clause_Normal_v.fz clause_Normal_c [.cell 4 38, .tmp 5] x) = clause_Normal_c.F x := by kernel_rfl
theorem clause_Normal_ok : ShOk Tryd.prog gl 36 clause_Normal_c :=
  fn_ok (l := clause_Normal_g) (n := Tryd.f36.ntmps) (code := bodyOf Tryd.f36) (rts := [.cell 4 38, .tmp 5]) tb_ok hord (clause_Normal_gs) Tryd.func36 (by kernel_rfl) (by kernel_rfl) rfl (by kernel_rfl) (ac := clause_Normal_a) (ob := []) (by kernel_rfl) (fun X hX => obl_nil) (by kernel_rfl) (clause_Normal_s)

noncomputable def ask_Goal_c : ShC := { inp := ⟨[.hole, .hole, .hole], [], [1, 1, 1], [.sl tSym, .sl (.one (.int .i64)), .sl tLit]⟩, out := ⟨[(.agg [.hole, .hole, (.view 0)]), .hole], [.seq false], [0, 0, 2, 0], [.sl tLit, .sl (.one (.sl (.one (.int .i64)))), .int .i64, .sl tLit]⟩, nres := 2, ms := [], mu := [], leak := true, glob := true, F := fun (x : ((List QSym) × (List Int) × (List QLit))) => ask_Goal x.1 x.2.1 x.2.2 }
-- ask.Goal
noncomputable def ask_Goal_g : List (Nat × Con) := [(32, .gen (altE [sign_May_c])), (33, .gen (altE [ask_varsMay_c])), (34, .gen (altE [lit_Opposite_c])), (35, .gen (altE [term_Number_c])), (36, .gen (altE [clause_Normal_c]))]
noncomputable def ask_Goal_v : Env := envOf tb gl ask_Goal_g ask_Goal_c Tryd.f17.ntmps
theorem ask_Goal_gs : Goods Tryd.prog (cond ask_Goal_c.glob gl fun _ => none) ask_Goal_g := (goods_cons (good_alt (alls_cons sign_May_ok alls_nil)) (goods_cons (good_alt (alls_cons (ask_varsMay_ok.anyGl rfl) alls_nil)) (goods_cons (good_alt (alls_cons (lit_Opposite_ok.anyGl rfl) alls_nil)) (goods_cons (good_alt (alls_cons (term_Number_ok.anyGl rfl) alls_nil)) (goods_cons (good_alt (alls_cons clause_Normal_ok alls_nil)) goods_nil)))))
noncomputable def ask_Goal_u1_h : SS := ⟨[0, 6, 8, 11, 52, 53, 54], ⟨[.hole, (.ptr 0 0), (.ptr 1 0), (.view 2), .hole, .hole, .hole], [.cells true [.nilv, .nilv, .nilv], .cells true [.hole, .nilv, .nilv], .seq false], [1, 1, 2, 2, 0, 2], [.sl tSym, .sl (.one (.int .i64)), .int .i64, .int .i64, .sl tLit, .sl (.one (.int .i64))]⟩⟩
noncomputable def ask_Goal_u1_e : Exs := [((.exit 2), ⟨[11], ⟨[(.view 0)], [.seq false], [2], [.sl (.one (.int .i64))]⟩⟩)]
noncomputable def ask_Goal_u1_a : AC := .run
noncomputable def ask_Goal_u1 : Un := lpU ask_Goal_v.fz [55, 56, 57, 58, 12, 13, 59, 60, 61, 62, 63, 64, 54] ask_Goal_u1_h ask_Goal_u1_e (lp ask_Goal_L1 fuel)
theorem ask_Goal_u1_s (f : ask_Goal_u1_h.X → Option (YT ask_Goal_u1_e)) (x : ask_Goal_u1_h.X) : E ask_Goal_v (subC (bodyOf Tryd.f17) [1, 1, 1, 1, 1, 0, 1, 0, 0]) (ask_Goal_u1_a) (mkS ask_Goal_u1_h 8 x) (roundK ask_Goal_v.fz ask_Goal_u1_h ask_Goal_u1_e f) = ask_Goal_L1 f x := by kernel_rfl
theorem ask_Goal_u1_ok {X : Fx} (hX : VOk Tryd.prog X ask_Goal_v) : UnOk Tryd.prog X ask_Goal_v (subC (bodyOf Tryd.f17) [1, 1, 1, 1, 1, 0, 1, 0]) ask_Goal_u1 :=
  lp_un' (c := (subC (bodyOf Tryd.f17) [1, 1, 1, 1, 1, 0, 1, 0, 0])) (by kernel_rfl) (env_all tb_ok (ask_Goal_gs)) hord (ob := []) (by kernel_rfl) (fun X hX => obl_nil) (ask_Goal_u1_s) (by kernel_rfl) (by kernel_rfl) hX
noncomputable def ask_Goal_u0_h : SS := ⟨[0, 1, 6, 8, 35, 36, 37], ⟨[.hole, .hole, (.ptr 0 0), (.ptr 1 0), .hole, .hole, .hole], [.cells true [.nilv, .nilv, .nilv], .cells false [(.view 2), .nilv, .nilv], .seq false], [1, 1, 1, 2, 2, 0], [.sl tSym, .sl (.one (.int .i64)), .sl tLit, .int .i64, .int .i64, .sl tLit]⟩⟩
noncomputable def ask_Goal_u0_e : Exs := [((.exit 0), ⟨[8], ⟨[(.ptr 0 0)], [.cells false [(.view 1), .nilv, .nilv], .seq false], [0], [.sl tLit]⟩⟩)]
noncomputable def ask_Goal_u0_a : AC := .run
noncomputable def ask_Goal_u0 : Un := lpU ask_Goal_v.fz [38, 39, 40, 10, 41, 42, 43, 44, 45, 46, 47, 48, 37] ask_Goal_u0_h ask_Goal_u0_e (lp ask_Goal_L0 fuel)
theorem ask_Goal_u0_s (f : ask_Goal_u0_h.X → Option (YT ask_Goal_u0_e)) (x : ask_Goal_u0_h.X) : E ask_Goal_v (subC (bodyOf Tryd.f17) [1, 1, 1, 0, 1, 0, 0]) (ask_Goal_u0_a) (mkS ask_Goal_u0_h 8 x) (roundK ask_Goal_v.fz ask_Goal_u0_h ask_Goal_u0_e f) = ask_Goal_L0 f x := by kernel_rfl
theorem ask_Goal_u0_ok {X : Fx} (hX : VOk Tryd.prog X ask_Goal_v) : UnOk Tryd.prog X ask_Goal_v (subC (bodyOf Tryd.f17) [1, 1, 1, 0, 1, 0]) ask_Goal_u0 :=
  lp_un' (c := (subC (bodyOf Tryd.f17) [1, 1, 1, 0, 1, 0, 0])) (by kernel_rfl) (env_all tb_ok (ask_Goal_gs)) hord (ob := []) (by kernel_rfl) (fun X hX => obl_nil) (ask_Goal_u0_s) (by kernel_rfl) (by kernel_rfl) hX
noncomputable def ask_Goal_a : AC := (.seq .run (.seq .run (.seq .run (.seq (.seq .run (.block (.unit ask_Goal_u0))) (.seq .run (.seq (.seq .run (.block (.unit ask_Goal_u1))) .run))))))
theorem ask_Goal_s (x : TupL ask_Goal_c.inp.hs) : E ask_Goal_v (bodyOf Tryd.f17) (ask_Goal_a) (ask_Goal_c.entry x) (retSK tb ask_Goal_v.fz ask_Goal_c [.cell 6 38, .tmp 7] x) = ask_Goal_c.F x := by kernel_rfl
theorem ask_Goal_ok : ShOk Tryd.prog gl 17 ask_Goal_c :=
  fn_ok (l := ask_Goal_g) (n := Tryd.f17.ntmps) (code := bodyOf Tryd.f17) (rts := [.cell 6 38, .tmp 7]) tb_ok hord (ask_Goal_gs) Tryd.func17 (by kernel_rfl) (by kernel_rfl) rfl (by kernel_rfl) (ac := ask_Goal_a) (ob := [((subC (bodyOf Tryd.f17) [1, 1, 1, 0, 1, 0]), ask_Goal_u0), ((subC (bodyOf Tryd.f17) [1, 1, 1, 1, 1, 0, 1, 0]), ask_Goal_u1)]) (by kernel_rfl) (fun X hX => (obl_cons (ask_Goal_u0_ok hX) (obl_cons (ask_Goal_u1_ok hX) obl_nil))) (by kernel_rfl) (ask_Goal_s)

noncomputable def term_Pieces_c : ShC := { inp := ⟨[.hole, .hole], [], [1, 1], [.sl tSym, .sl (.one (.int .i64))]⟩, out := ⟨[(.view 0)], [.seq false], [0], [.sl (.one (.sl (.one (.int .i64))))]⟩, nres := 1, ms := [], mu := [], leak := true, glob := false, F := fun (x : ((List QSym) × (List Int))) => term_Pieces x.1 x.2 }
-- term.Pieces
noncomputable def term_Pieces_g : List (Nat × Con) := [(74, .gen (altE [term_Skip_c]))]
noncomputable def term_Pieces_v : Env := envOf tb gl term_Pieces_g term_Pieces_c Tryd.f47.ntmps
theorem term_Pieces_gs : Goods Tryd.prog (cond term_Pieces_c.glob gl fun _ => none) term_Pieces_g := (goods_cons (good_alt (alls_cons (term_Skip_ok.anyGl rfl) alls_nil)) goods_nil)
noncomputable def term_Pieces_u0_h : SS := ⟨[0, 1, 5, 6], ⟨[.hole, .hole, (.view 0), .hole], [.seq false], [1, 1, 2, 0], [.sl tSym, .sl (.one (.int .i64)), .int .i64, .sl (.one (.sl (.one (.int .i64))))]⟩⟩
noncomputable def term_Pieces_u0_e : Exs := [((.exit 0), ⟨[5], ⟨[(.view 0)], [.seq false], [0], [.sl (.one (.sl (.one (.int .i64))))]⟩⟩), (.ret, ⟨[4], ⟨[(.view 0)], [.seq false], [0], [.sl (.one (.sl (.one (.int .i64))))]⟩⟩)]
noncomputable def term_Pieces_u0_a : AC := .run
noncomputable def term_Pieces_u0 : Un := lpU term_Pieces_v.fz [9, 10, 11, 12, 14, 15, 16, 17, 13, 18, 19, 7, 8, 20, 21, 22, 4, 23, 24, 25, 26, 27, 28, 29, 5, 30, 6] term_Pieces_u0_h term_Pieces_u0_e (lp term_Pieces_L0 fuel)
theorem term_Pieces_u0_s (f : term_Pieces_u0_h.X → Option (YT term_Pieces_u0_e)) (x : term_Pieces_u0_h.X) : E term_Pieces_v (subC (bodyOf Tryd.f47) [1, 1, 0, 1, 0, 0]) (term_Pieces_u0_a) (mkS term_Pieces_u0_h 8 x) (roundK term_Pieces_v.fz term_Pieces_u0_h term_Pieces_u0_e f) = term_Pieces_L0 f x := by kernel_rfl
theorem term_Pieces_u0_ok {X : Fx} (hX : VOk Tryd.prog X term_Pieces_v) : UnOk Tryd.prog X term_Pieces_v (subC (bodyOf Tryd.f47) [1, 1, 0, 1, 0]) term_Pieces_u0 :=
  lp_un' (c := (subC (bodyOf Tryd.f47) [1, 1, 0, 1, 0, 0])) (by kernel_rfl) (env_all tb_ok (term_Pieces_gs)) hord (ob := []) (by kernel_rfl) (fun X hX => obl_nil) (term_Pieces_u0_s) (by kernel_rfl) (by kernel_rfl) hX
noncomputable def term_Pieces_a : AC := (.seq .run (.seq .run (.seq (.seq .run (.block (.unit term_Pieces_u0))) .run)))
theorem term_Pieces_s (x : TupL term_Pieces_c.inp.hs) : E term_Pieces_v (bodyOf Tryd.f47) (term_Pieces_a) (term_Pieces_c.entry x) (retSK tb term_Pieces_v.fz term_Pieces_c [.tmp 4] x) = term_Pieces_c.F x := by kernel_rfl
theorem term_Pieces_ok : ShOk Tryd.prog gl 47 term_Pieces_c :=
  fn_ok (l := term_Pieces_g) (n := Tryd.f47.ntmps) (code := bodyOf Tryd.f47) (rts := [.tmp 4]) tb_ok hord (term_Pieces_gs) Tryd.func47 (by kernel_rfl) (by kernel_rfl) rfl (by kernel_rfl) (ac := term_Pieces_a) (ob := [((subC (bodyOf Tryd.f47) [1, 1, 0, 1, 0]), term_Pieces_u0)]) (by kernel_rfl) (fun X hX => (obl_cons (term_Pieces_u0_ok hX) obl_nil)) (by kernel_rfl) (term_Pieces_s)

noncomputable def strconv_Itoa_c : ShC := itoaC
-- strconv.Itoa
theorem strconv_Itoa_ok : ShOk Tryd.prog gl 44 strconv_Itoa_c :=
  itoa_ok (code := bodyOf Tryd.f44) Tryd.func44 (by kernel_rfl) (by kernel_rfl) (Nat.le_of_ble_eq_true (by kernel_rfl)) fun i hi w => Tryd.strconv_Itoa_small i hi w

noncomputable def strings_Join_c : ShC := joinC
-- strings.Join
theorem strings_Join_ok : ShOk Tryd.prog gl 25 strings_Join_c :=
  join_ok (code := bodyOf Tryd.f25) Tryd.func25 (by kernel_rfl) (by kernel_rfl) (Nat.le_of_ble_eq_true (by kernel_rfl)) Tryd.strings_Join_none Tryd.strings_Join

noncomputable def formula_ShowTerms_ck (k : Nat) : ShC := { inp := ⟨[.hole, .hole], [], [1, 1], [.sl tSym, .sl (.one (.int .i64))]⟩, out := ⟨[.hole], [], [2], [.str]⟩, nres := 1, ms := [], mu := [], leak := false, glob := false, F := (formula_ShowTerms_R k) }
noncomputable def formula_ShowTerms_c : ShC := { inp := ⟨[.hole, .hole], [], [1, 1], [.sl tSym, .sl (.one (.int .i64))]⟩, out := ⟨[.hole], [], [2], [.str]⟩, nres := 1, ms := [], mu := [], leak := false, glob := false, F := fun (x : ((List QSym) × (List Int))) => formula_ShowTerms x.1 x.2 }
def formula_ShowTerms_R_H (k : Nat) : Prop := ShOk Tryd.prog gl 23 (formula_ShowTerms_ck k)
-- formula.ShowTerms
noncomputable def formula_ShowTerms_g (k : Nat) : List (Nat × Con) := [(23, .gen (altE [formula_ShowTerms_ck k])), (25, .gen (altE [strings_Join_c])), (35, .gen (altE [term_Number_c])), (44, .gen (altE [strconv_Itoa_c])), (47, .gen (altE [term_Pieces_c]))]
noncomputable def formula_ShowTerms_v (k : Nat) : Env := envOf tb gl (formula_ShowTerms_g k) (formula_ShowTerms_ck (k + 1)) Tryd.f23.ntmps
theorem formula_ShowTerms_gs (k : Nat) (h : formula_ShowTerms_R_H k) : Goods Tryd.prog (cond (formula_ShowTerms_ck (k + 1)).glob gl fun _ => none) (formula_ShowTerms_g k) := (goods_cons (good_alt (alls_cons (h.anyGl rfl) alls_nil)) (goods_cons (good_alt (alls_cons (strings_Join_ok.anyGl rfl) alls_nil)) (goods_cons (good_alt (alls_cons (term_Number_ok.anyGl rfl) alls_nil)) (goods_cons (good_alt (alls_cons (strconv_Itoa_ok.anyGl rfl) alls_nil)) (goods_cons (good_alt (alls_cons (term_Pieces_ok.anyGl rfl) alls_nil)) goods_nil)))))
noncomputable def formula_ShowTerms_u0_h : SS := ⟨[0, 5, 10, 11, 12], ⟨[.hole, (.view 0), .hole, .hole, .hole], [.seq false], [1, 0, 2, 2, 2], [.sl tSym, .sl (.one (.sl (.one (.int .i64)))), .int .i64, .int .i64, .sl (.one .str)]⟩⟩
noncomputable def formula_ShowTerms_u0_e : Exs := [((.exit 0), ⟨[5], ⟨[(.view 0)], [.seq false], [2], [.sl (.one .str)]⟩⟩)]
noncomputable def formula_ShowTerms_u0_a (k : Nat) : AC := .run
noncomputable def formula_ShowTerms_u0 (k : Nat) : Un := lpU (formula_ShowTerms_v k).fz [13, 14, 15, 7, 34, 35, 36, 37, 33, 38, 39, 40, 41, 42, 43, 44, 45, 46, 5, 48, 49, 50, 47, 51, 52, 53, 54, 55, 56, 57, 58, 59, 60, 5, 16, 17, 18, 19, 20, 21, 22, 23, 24, 25, 26, 27, 28, 29, 30, 31, 32, 5, 61, 12] formula_ShowTerms_u0_h formula_ShowTerms_u0_e (lp (formula_ShowTerms_L0 (formula_ShowTerms_R k)) fuel)
theorem formula_ShowTerms_u0_s (k : Nat) (f : formula_ShowTerms_u0_h.X → Option (YT formula_ShowTerms_u0_e)) (x : formula_ShowTerms_u0_h.X) : E (formula_ShowTerms_v k) (subC (bodyOf Tryd.f23) [1, 1, 0, 1, 0, 0]) (formula_ShowTerms_u0_a k) (mkS formula_ShowTerms_u0_h 8 x) (roundK (formula_ShowTerms_v k).fz formula_ShowTerms_u0_h formula_ShowTerms_u0_e f) = (formula_ShowTerms_L0 (formula_ShowTerms_R k)) f x := by kernel_rfl
theorem formula_ShowTerms_u0_ok (k : Nat) (h : formula_ShowTerms_R_H k) {X : Fx} (hX : VOk Tryd.prog X (formula_ShowTerms_v k)) : UnOk Tryd.prog X (formula_ShowTerms_v k) (subC (bodyOf Tryd.f23) [1, 1, 0, 1, 0]) (formula_ShowTerms_u0 k) :=
  lp_un' (c := (subC (bodyOf Tryd.f23) [1, 1, 0, 1, 0, 0])) (by kernel_rfl) (env_all tb_ok (formula_ShowTerms_gs k h)) hord (ob := []) (by kernel_rfl) (fun X hX => obl_nil) (formula_ShowTerms_u0_s k) (by kernel_rfl) (by kernel_rfl) hX
noncomputable def formula_ShowTerms_a (k : Nat) : AC := (.seq .run (.seq .run (.seq (.seq .run (.block (.unit (formula_ShowTerms_u0 k)))) .run)))
theorem formula_ShowTerms_s (k : Nat) (x : TupL (formula_ShowTerms_ck (k + 1)).inp.hs) : E (formula_ShowTerms_v k) (bodyOf Tryd.f23) (formula_ShowTerms_a k) ((formula_ShowTerms_ck (k + 1)).entry x) (retSK tb (formula_ShowTerms_v k).fz (formula_ShowTerms_ck (k + 1)) [.tmp 4] x) = (formula_ShowTerms_ck (k + 1)).F x := by kernel_rfl
theorem formula_ShowTerms_ok1 (k : Nat) (h : formula_ShowTerms_R_H k) : ShOk Tryd.prog gl 23 (formula_ShowTerms_ck (k + 1)) :=
  fn_ok (l := formula_ShowTerms_g k) (n := Tryd.f23.ntmps) (code := bodyOf Tryd.f23) (rts := [.tmp 4]) tb_ok hord (formula_ShowTerms_gs k h) Tryd.func23 (by kernel_rfl) (by kernel_rfl) rfl (by kernel_rfl) (ac := formula_ShowTerms_a k) (ob := [((subC (bodyOf Tryd.f23) [1, 1, 0, 1, 0]), formula_ShowTerms_u0 k)]) (by kernel_rfl) (fun X hX => (obl_cons (formula_ShowTerms_u0_ok k h hX) obl_nil)) (by kernel_rfl) (formula_ShowTerms_s k)

theorem formula_ShowTerms_R_all : ∀ k, formula_ShowTerms_R_H k
  | 0 => ⟨by kernel_rfl, fun w A g vs x y _ _ _ h => by cases h⟩
  | k + 1 => have h := formula_ShowTerms_R_all k; formula_ShowTerms_ok1 k h
theorem formula_ShowTerms_ok : ShOk Tryd.prog gl 23 formula_ShowTerms_c := (formula_ShowTerms_R_all fuel)

noncomputable def formula_ShowAtom_c : ShC := { inp := ⟨[.hole, .hole], [], [1, 1], [.sl tSym, .sl (.one (.int .i64))]⟩, out := ⟨[.hole], [], [2], [.str]⟩, nres := 1, ms := [], mu := [], leak := false, glob := false, F := fun (x : ((List QSym) × (List Int))) => formula_ShowAtom x.1 x.2 }
-- formula.ShowAtom
noncomputable def formula_ShowAtom_g : List (Nat × Con) := [(23, .gen (altE [formula_ShowTerms_c])), (47, .gen (altE [term_Pieces_c]))]
noncomputable def formula_ShowAtom_v : Env := envOf tb gl formula_ShowAtom_g formula_ShowAtom_c Tryd.f24.ntmps
theorem formula_ShowAtom_gs : Goods Tryd.prog (cond formula_ShowAtom_c.glob gl fun _ => none) formula_ShowAtom_g := (goods_cons (good_alt (alls_cons (formula_ShowTerms_ok.anyGl rfl) alls_nil)) (goods_cons (good_alt (alls_cons (term_Pieces_ok.anyGl rfl) alls_nil)) goods_nil))
noncomputable def formula_ShowAtom_a : AC := .run
theorem formula_ShowAtom_s (x : TupL formula_ShowAtom_c.inp.hs) : E formula_ShowAtom_v (bodyOf Tryd.f24) (formula_ShowAtom_a) (formula_ShowAtom_c.entry x) (retSK tb formula_ShowAtom_v.fz formula_ShowAtom_c [.tmp 4] x) = formula_ShowAtom_c.F x := by kernel_rfl
theorem formula_ShowAtom_ok : ShOk Tryd.prog gl 24 formula_ShowAtom_c :=
  fn_ok (l := formula_ShowAtom_g) (n := Tryd.f24.ntmps) (code := bodyOf Tryd.f24) (rts := [.tmp 4]) tb_ok hord (formula_ShowAtom_gs) Tryd.func24 (by kernel_rfl) (by kernel_rfl) rfl (by kernel_rfl) (ac := formula_ShowAtom_a) (ob := []) (by kernel_rfl) (fun X hX => obl_nil) (by kernel_rfl) (formula_ShowAtom_s)

noncomputable def ask_Show_c : ShC := { inp := ⟨[.hole, (.agg [.hole, .hole, .hole])], [], [1, 1, 1, 1], [.sl tSym, .sl tLit, .sl (.one (.sl (.one (.int .i64)))), .sl tLit]⟩, out := ⟨[.hole, .hole], [], [2, 2], [.str, .int .i64]⟩, nres := 2, ms := [], mu := [], leak := false, glob := true, F := fun (x : ((List QSym) × (List QLit) × (List (List Int)) × (List QLit))) => ask_Show x.1 x.2.1 x.2.2.1 x.2.2.2 }
-- ask.Show
noncomputable def ask_Show_g : List (Nat × Con) := [(22, .gen (altE [clause_May_c])), (23, .gen (altE [formula_ShowTerms_c])), (24, .gen (altE [formula_ShowAtom_c])), (25, .gen (altE [strings_Join_c]))]
noncomputable def ask_Show_v : Env := envOf tb gl ask_Show_g ask_Show_c Tryd.f11.ntmps
theorem ask_Show_gs : Goods Tryd.prog (cond ask_Show_c.glob gl fun _ => none) ask_Show_g := (goods_cons (good_alt (alls_cons clause_May_ok alls_nil)) (goods_cons (good_alt (alls_cons (formula_ShowTerms_ok.anyGl rfl) alls_nil)) (goods_cons (good_alt (alls_cons (formula_ShowAtom_ok.anyGl rfl) alls_nil)) (goods_cons (good_alt (alls_cons (strings_Join_ok.anyGl rfl) alls_nil)) goods_nil))))
noncomputable def ask_Show_u1_h : SS := ⟨[0, 6, 7, 47, 48, 49], ⟨[.hole, .hole, (.view 0), .hole, .hole, .hole], [.seq false], [1, 2, 1, 2, 2, 2], [.sl tSym, .sl (.one .str), .sl tLit, .int .i64, .int .i64, .sl (.one .str)]⟩⟩
noncomputable def ask_Show_u1_e : Exs := [((.exit 2), ⟨[7], ⟨[(.view 0)], [.seq false], [2], [.sl (.one .str)]⟩⟩)]
noncomputable def ask_Show_u1_a : AC := .run
noncomputable def ask_Show_u1 : Un := lpU ask_Show_v.fz [50, 51, 52, 11, 53, 54, 55, 56, 12, 57, 58, 59, 60, 12, 61, 62, 63, 64, 7, 65, 49] ask_Show_u1_h ask_Show_u1_e (lp ask_Show_L1 fuel)
theorem ask_Show_u1_s (f : ask_Show_u1_h.X → Option (YT ask_Show_u1_e)) (x : ask_Show_u1_h.X) : E ask_Show_v (subC (bodyOf Tryd.f11) [1, 1, 1, 1, 0, 1, 0, 0]) (ask_Show_u1_a) (mkS ask_Show_u1_h 8 x) (roundK ask_Show_v.fz ask_Show_u1_h ask_Show_u1_e f) = ask_Show_L1 f x := by kernel_rfl
theorem ask_Show_u1_ok {X : Fx} (hX : VOk Tryd.prog X ask_Show_v) : UnOk Tryd.prog X ask_Show_v (subC (bodyOf Tryd.f11) [1, 1, 1, 1, 0, 1, 0]) ask_Show_u1 :=
  lp_un' (c := (subC (bodyOf Tryd.f11) [1, 1, 1, 1, 0, 1, 0, 0])) (by kernel_rfl) (env_all tb_ok (ask_Show_gs)) hord (ob := []) (by kernel_rfl) (fun X hX => obl_nil) (ask_Show_u1_s) (by kernel_rfl) (by kernel_rfl) hX
noncomputable def ask_Show_u0_h : SS := ⟨[0, 3, 6, 7, 31, 32, 33], ⟨[.hole, (.ptr 0 0), (.view 1), .nilv, .hole, .hole, .hole], [.cells true [.hole, .hole, .hole], .seq false], [1, 1, 2, 2, 1, 1, 1, 2], [.sl tSym, .sl (.one (.sl (.one (.int .i64)))), .int .i64, .int .i64, .sl tLit, .sl (.one (.sl (.one (.int .i64)))), .sl tLit, .sl (.one .str)]⟩⟩
noncomputable def ask_Show_u0_e : Exs := [((.exit 0), ⟨[6], ⟨[(.view 0)], [.seq false], [2], [.sl (.one .str)]⟩⟩)]
noncomputable def ask_Show_u0_a : AC := .run
noncomputable def ask_Show_u0 : Un := lpU ask_Show_v.fz [34, 35, 36, 9, 37, 38, 39, 40, 41, 42, 43, 44, 6, 45, 33] ask_Show_u0_h ask_Show_u0_e (lp ask_Show_L0 fuel)
theorem ask_Show_u0_s (f : ask_Show_u0_h.X → Option (YT ask_Show_u0_e)) (x : ask_Show_u0_h.X) : E ask_Show_v (subC (bodyOf Tryd.f11) [1, 1, 1, 0, 1, 0, 0]) (ask_Show_u0_a) (mkS ask_Show_u0_h 8 x) (roundK ask_Show_v.fz ask_Show_u0_h ask_Show_u0_e f) = ask_Show_L0 f x := by kernel_rfl
theorem ask_Show_u0_ok {X : Fx} (hX : VOk Tryd.prog X ask_Show_v) : UnOk Tryd.prog X ask_Show_v (subC (bodyOf Tryd.f11) [1, 1, 1, 0, 1, 0]) ask_Show_u0 :=
  lp_un' (c := (subC (bodyOf Tryd.f11) [1, 1, 1, 0, 1, 0, 0])) (by kernel_rfl) (env_all tb_ok (ask_Show_gs)) hord (ob := []) (by kernel_rfl) (fun X hX => obl_nil) (ask_Show_u0_s) (by kernel_rfl) (by kernel_rfl) hX
noncomputable def ask_Show_a : AC := (.seq .run (.seq .run (.seq .run (.seq (.seq .run (.block (.unit ask_Show_u0))) (.seq (.seq .run (.block (.unit ask_Show_u1))) .run)))))
theorem ask_Show_s (x : TupL ask_Show_c.inp.hs) : E ask_Show_v (bodyOf Tryd.f11) (ask_Show_a) (ask_Show_c.entry x) (retSK tb ask_Show_v.fz ask_Show_c [.tmp 4, .tmp 5] x) = ask_Show_c.F x := by kernel_rfl
theorem ask_Show_ok : ShOk Tryd.prog gl 11 ask_Show_c :=
  fn_ok (l := ask_Show_g) (n := Tryd.f11.ntmps) (code := bodyOf Tryd.f11) (rts := [.tmp 4, .tmp 5]) tb_ok hord (ask_Show_gs) Tryd.func11 (by kernel_rfl) (by kernel_rfl) rfl (by kernel_rfl) (ac := ask_Show_a) (ob := [((subC (bodyOf Tryd.f11) [1, 1, 1, 0, 1, 0]), ask_Show_u0), ((subC (bodyOf Tryd.f11) [1, 1, 1, 1, 0, 1, 0]), ask_Show_u1)]) (by kernel_rfl) (fun X hX => (obl_cons (ask_Show_u0_ok hX) (obl_cons (ask_Show_u1_ok hX) obl_nil))) (by kernel_rfl) (ask_Show_s)

noncomputable def ask_own_c1_c : ShC := { inp := ⟨[.hole, (.ptr 0 0)], [.cells true [.hole]], [1, 1], [.int .i64, .sl tSym]⟩, out := ⟨[.hole], [], [2], [.bool]⟩, nres := 1, ms := [], mu := [], leak := false, glob := false, F := fun (x : (Int × (List QSym))) => ask_own_c1 x.1 x.2 }
-- ask.own$1
noncomputable def ask_own_c1_g : List (Nat × Con) := []
noncomputable def ask_own_c1_v : Env := envOf tb gl ask_own_c1_g ask_own_c1_c Tryd.f68.ntmps
theorem ask_own_c1_gs : Goods Tryd.prog (cond ask_own_c1_c.glob gl fun _ => none) ask_own_c1_g := goods_nil
noncomputable def ask_own_c1_a : AC := .run
theorem ask_own_c1_s (x : TupL ask_own_c1_c.inp.hs) : E ask_own_c1_v (bodyOf Tryd.f68) (ask_own_c1_a) (ask_own_c1_c.entry x) (retSK tb ask_own_c1_v.fz ask_own_c1_c [.tmp 3] x) = ask_own_c1_c.F x := by kernel_rfl
theorem ask_own_c1_ok : ShOk Tryd.prog gl 68 ask_own_c1_c :=
  fn_ok (l := ask_own_c1_g) (n := Tryd.f68.ntmps) (code := bodyOf Tryd.f68) (rts := [.tmp 3]) tb_ok hord (ask_own_c1_gs) Tryd.func68 (by kernel_rfl) (by kernel_rfl) rfl (by kernel_rfl) (ac := ask_own_c1_a) (ob := []) (by kernel_rfl) (fun X hX => obl_nil) (by kernel_rfl) (ask_own_c1_s)

noncomputable def slices_IndexFunc_3_c : ShC := { inp := ⟨[.hole, (.clo 68 [(.ptr 0 0)])], [.cells true [.hole]], [1, 1], [.sl (.one (.int .i64)), .sl tSym]⟩, out := ⟨[.hole], [], [2], [.int .i64]⟩, nres := 1, ms := [], mu := [], leak := false, glob := false, F := fun (x : ((List Int) × (List QSym))) => slices_IndexFunc_3 x.1 x.2 }
-- slices.IndexFunc[[]int,int]
noncomputable def slices_IndexFunc_3_g : List (Nat × Con) := [(68, .gen (altE [ask_own_c1_c]))]
noncomputable def slices_IndexFunc_3_v : Env := envOf tb gl slices_IndexFunc_3_g slices_IndexFunc_3_c Tryd.f92.ntmps
theorem slices_IndexFunc_3_gs : Goods Tryd.prog (cond slices_IndexFunc_3_c.glob gl fun _ => none) slices_IndexFunc_3_g := (goods_cons (good_alt (alls_cons (ask_own_c1_ok.anyGl rfl) alls_nil)) goods_nil)
noncomputable def slices_IndexFunc_3_u0_h : SS := ⟨[0, 1, 7, 8], ⟨[.hole, (.clo 68 [(.ptr 0 0)]), .hole, .hole], [.cells true [.hole]], [1, 2, 2, 1], [.sl (.one (.int .i64)), .int .i64, .int .i64, .sl tSym]⟩⟩
noncomputable def slices_IndexFunc_3_u0_e : Exs := [((.exit 0), ⟨[], ⟨[], [], [], []⟩⟩), (.ret, ⟨[4], ⟨[.hole], [], [2], [.int .i64]⟩⟩)]
noncomputable def slices_IndexFunc_3_u0_a : AC := .run
noncomputable def slices_IndexFunc_3_u0 : Un := lpU slices_IndexFunc_3_v.fz [9, 10, 5, 11, 12, 13, 14, 15, 16, 17, 4, 18, 8] slices_IndexFunc_3_u0_h slices_IndexFunc_3_u0_e (lp slices_IndexFunc_3_L0 fuel)
theorem slices_IndexFunc_3_u0_s (f : slices_IndexFunc_3_u0_h.X → Option (YT slices_IndexFunc_3_u0_e)) (x : slices_IndexFunc_3_u0_h.X) : E slices_IndexFunc_3_v (subC (bodyOf Tryd.f92) [1, 0, 1, 0, 0]) (slices_IndexFunc_3_u0_a) (mkS slices_IndexFunc_3_u0_h 8 x) (roundK slices_IndexFunc_3_v.fz slices_IndexFunc_3_u0_h slices_IndexFunc_3_u0_e f) = slices_IndexFunc_3_L0 f x := by kernel_rfl
theorem slices_IndexFunc_3_u0_ok {X : Fx} (hX : VOk Tryd.prog X slices_IndexFunc_3_v) : UnOk Tryd.prog X slices_IndexFunc_3_v (subC (bodyOf Tryd.f92) [1, 0, 1, 0]) slices_IndexFunc_3_u0 :=
  lp_un' (c := (subC (bodyOf Tryd.f92) [1, 0, 1, 0, 0])) (by kernel_rfl) (env_all tb_ok (slices_IndexFunc_3_gs)) hord (ob := []) (by kernel_rfl) (fun X hX => obl_nil) (slices_IndexFunc_3_u0_s) (by kernel_rfl) (by kernel_rfl) hX
noncomputable def slices_IndexFunc_3_a : AC := (.seq .run (.seq (.seq .run (.block (.unit slices_IndexFunc_3_u0))) .run))
theorem slices_IndexFunc_3_s (x : TupL slices_IndexFunc_3_c.inp.hs) : E slices_IndexFunc_3_v (bodyOf Tryd.f92) (slices_IndexFunc_3_a) (slices_IndexFunc_3_c.entry x) (retSK tb slices_IndexFunc_3_v.fz slices_IndexFunc_3_c [.tmp 4] x) = slices_IndexFunc_3_c.F x := by kernel_rfl
theorem slices_IndexFunc_3_ok : ShOk Tryd.prog gl 92 slices_IndexFunc_3_c :=
  fn_ok (l := slices_IndexFunc_3_g) (n := Tryd.f92.ntmps) (code := bodyOf Tryd.f92) (rts := [.tmp 4]) tb_ok hord (slices_IndexFunc_3_gs) Tryd.func92 (by kernel_rfl) (by kernel_rfl) rfl (by kernel_rfl) (ac := slices_IndexFunc_3_a) (ob := [((subC (bodyOf Tryd.f92) [1, 0, 1, 0]), slices_IndexFunc_3_u0)]) (by kernel_rfl) (fun X hX => (obl_cons (slices_IndexFunc_3_u0_ok hX) obl_nil)) (by kernel_rfl) (slices_IndexFunc_3_s)

noncomputable def slices_ContainsFunc_3_c : ShC := { inp := ⟨[.hole, (.clo 68 [(.ptr 0 0)])], [.cells true [.hole]], [1, 1], [.sl (.one (.int .i64)), .sl tSym]⟩, out := ⟨[.hole], [], [2], [.bool]⟩, nres := 1, ms := [], mu := [], leak := false, glob := false, F := fun (x : ((List Int) × (List QSym))) => slices_ContainsFunc_3 x.1 x.2 }
-- slices.ContainsFunc[[]int,int]
noncomputable def slices_ContainsFunc_3_g : List (Nat × Con) := [(92, .gen (altE [slices_IndexFunc_3_c]))]
noncomputable def slices_ContainsFunc_3_v : Env := envOf tb gl slices_ContainsFunc_3_g slices_ContainsFunc_3_c Tryd.f67.ntmps
theorem slices_ContainsFunc_3_gs : Goods Tryd.prog (cond slices_ContainsFunc_3_c.glob gl fun _ => none) slices_ContainsFunc_3_g := (goods_cons (good_alt (alls_cons (slices_IndexFunc_3_ok.anyGl rfl) alls_nil)) goods_nil)
noncomputable def slices_ContainsFunc_3_a : AC := .run
theorem slices_ContainsFunc_3_s (x : TupL slices_ContainsFunc_3_c.inp.hs) : E slices_ContainsFunc_3_v (bodyOf Tryd.f67) (slices_ContainsFunc_3_a) (slices_ContainsFunc_3_c.entry x) (retSK tb slices_ContainsFunc_3_v.fz slices_ContainsFunc_3_c [.tmp 4] x) = slices_ContainsFunc_3_c.F x := by kernel_rfl
theorem slices_ContainsFunc_3_ok : ShOk Tryd.prog gl 67 slices_ContainsFunc_3_c :=
  fn_ok (l := slices_ContainsFunc_3_g) (n := Tryd.f67.ntmps) (code := bodyOf Tryd.f67) (rts := [.tmp 4]) tb_ok hord (slices_ContainsFunc_3_gs) Tryd.func67 (by kernel_rfl) (by kernel_rfl) rfl (by kernel_rfl) (ac := slices_ContainsFunc_3_a) (ob := []) (by kernel_rfl) (fun X hX => obl_nil) (by kernel_rfl) (slices_ContainsFunc_3_s)

noncomputable def ask_own_c : ShC := { inp := ⟨[.hole, .hole], [], [1, 1], [.sl tSym, .sl (.one (.int .i64))]⟩, out := ⟨[.hole], [], [2], [.bool]⟩, nres := 1, ms := [], mu := [], leak := false, glob := false, F := fun (x : ((List QSym) × (List Int))) => ask_own x.1 x.2 }
-- ask.own
noncomputable def ask_own_g : List (Nat × Con) := [(67, .gen (altE [slices_ContainsFunc_3_c]))]
noncomputable def ask_own_v : Env := envOf tb gl ask_own_g ask_own_c Tryd.f38.ntmps
theorem ask_own_gs : Goods Tryd.prog (cond ask_own_c.glob gl fun _ => none) ask_own_g := (goods_cons (good_alt (alls_cons (slices_ContainsFunc_3_ok.anyGl rfl) alls_nil)) goods_nil)
noncomputable def ask_own_a : AC := .run
theorem ask_own_s (x : TupL ask_own_c.inp.hs) : E ask_own_v (bodyOf Tryd.f38) (ask_own_a) (ask_own_c.entry x) (retSK tb ask_own_v.fz ask_own_c [.tmp 4] x) = ask_own_c.F x := by kernel_rfl
theorem ask_own_ok : ShOk Tryd.prog gl 38 ask_own_c :=
  fn_ok (l := ask_own_g) (n := Tryd.f38.ntmps) (code := bodyOf Tryd.f38) (rts := [.tmp 4]) tb_ok hord (ask_own_gs) Tryd.func38 (by kernel_rfl) (by kernel_rfl) rfl (by kernel_rfl) (ac := ask_own_a) (ob := []) (by kernel_rfl) (fun X hX => obl_nil) (by kernel_rfl) (ask_own_s)

noncomputable def ask_Fine_c1_c : ShC := { inp := ⟨[.hole, (.ptr 0 0)], [.cells true [.hole]], [1, 1], [.sl (.one (.int .i64)), .sl tSym]⟩, out := ⟨[.hole], [], [2], [.bool]⟩, nres := 1, ms := [], mu := [], leak := false, glob := false, F := fun (x : ((List Int) × (List QSym))) => ask_Fine_c1 x.1 x.2 }
-- ask.Fine$1
noncomputable def ask_Fine_c1_g : List (Nat × Con) := [(38, .gen (altE [ask_own_c]))]
noncomputable def ask_Fine_c1_v : Env := envOf tb gl ask_Fine_c1_g ask_Fine_c1_c Tryd.f37.ntmps
theorem ask_Fine_c1_gs : Goods Tryd.prog (cond ask_Fine_c1_c.glob gl fun _ => none) ask_Fine_c1_g := (goods_cons (good_alt (alls_cons (ask_own_ok.anyGl rfl) alls_nil)) goods_nil)
noncomputable def ask_Fine_c1_a : AC := .run
theorem ask_Fine_c1_s (x : TupL ask_Fine_c1_c.inp.hs) : E ask_Fine_c1_v (bodyOf Tryd.f37) (ask_Fine_c1_a) (ask_Fine_c1_c.entry x) (retSK tb ask_Fine_c1_v.fz ask_Fine_c1_c [.tmp 3] x) = ask_Fine_c1_c.F x := by kernel_rfl
theorem ask_Fine_c1_ok : ShOk Tryd.prog gl 37 ask_Fine_c1_c :=
  fn_ok (l := ask_Fine_c1_g) (n := Tryd.f37.ntmps) (code := bodyOf Tryd.f37) (rts := [.tmp 3]) tb_ok hord (ask_Fine_c1_gs) Tryd.func37 (by kernel_rfl) (by kernel_rfl) rfl (by kernel_rfl) (ac := ask_Fine_c1_a) (ob := []) (by kernel_rfl) (fun X hX => obl_nil) (by kernel_rfl) (ask_Fine_c1_s)

noncomputable def slices_IndexFunc_2_c : ShC := { inp := ⟨[.hole, (.clo 37 [(.ptr 0 0)])], [.cells true [.hole]], [1, 1], [.sl (.one (.sl (.one (.int .i64)))), .sl tSym]⟩, out := ⟨[.hole], [], [2], [.int .i64]⟩, nres := 1, ms := [], mu := [], leak := false, glob := false, F := fun (x : ((List (List Int)) × (List QSym))) => slices_IndexFunc_2 x.1 x.2 }
-- slices.IndexFunc[[][]int,[]int]
noncomputable def slices_IndexFunc_2_g : List (Nat × Con) := [(37, .gen (altE [ask_Fine_c1_c]))]
noncomputable def slices_IndexFunc_2_v : Env := envOf tb gl slices_IndexFunc_2_g slices_IndexFunc_2_c Tryd.f69.ntmps
theorem slices_IndexFunc_2_gs : Goods Tryd.prog (cond slices_IndexFunc_2_c.glob gl fun _ => none) slices_IndexFunc_2_g := (goods_cons (good_alt (alls_cons (ask_Fine_c1_ok.anyGl rfl) alls_nil)) goods_nil)
noncomputable def slices_IndexFunc_2_u0_h : SS := ⟨[0, 1, 7, 8], ⟨[.hole, (.clo 37 [(.ptr 0 0)]), .hole, .hole], [.cells true [.hole]], [1, 2, 2, 1], [.sl (.one (.sl (.one (.int .i64)))), .int .i64, .int .i64, .sl tSym]⟩⟩
noncomputable def slices_IndexFunc_2_u0_e : Exs := [((.exit 0), ⟨[], ⟨[], [], [], []⟩⟩), (.ret, ⟨[4], ⟨[.hole], [], [2], [.int .i64]⟩⟩)]
noncomputable def slices_IndexFunc_2_u0_a : AC := .run
noncomputable def slices_IndexFunc_2_u0 : Un := lpU slices_IndexFunc_2_v.fz [9, 10, 5, 11, 12, 13, 14, 15, 16, 17, 4, 18, 8] slices_IndexFunc_2_u0_h slices_IndexFunc_2_u0_e (lp slices_IndexFunc_2_L0 fuel)
theorem slices_IndexFunc_2_u0_s (f : slices_IndexFunc_2_u0_h.X → Option (YT slices_IndexFunc_2_u0_e)) (x : slices_IndexFunc_2_u0_h.X) : E slices_IndexFunc_2_v (subC (bodyOf Tryd.f69) [1, 0, 1, 0, 0]) (slices_IndexFunc_2_u0_a) (mkS slices_IndexFunc_2_u0_h 8 x) (roundK slices_IndexFunc_2_v.fz slices_IndexFunc_2_u0_h slices_IndexFunc_2_u0_e f) = slices_IndexFunc_2_L0 f x := by kernel_rfl
theorem slices_IndexFunc_2_u0_ok {X : Fx} (hX : VOk Tryd.prog X slices_IndexFunc_2_v) : UnOk Tryd.prog X slices_IndexFunc_2_v (subC (bodyOf Tryd.f69) [1, 0, 1, 0]) slices_IndexFunc_2_u0 :=
  lp_un' (c := (subC (bodyOf Tryd.f69) [1, 0, 1, 0, 0])) (by kernel_rfl) (env_all tb_ok (slices_IndexFunc_2_gs)) hord (ob := []) (by kernel_rfl) (fun X hX => obl_nil) (slices_IndexFunc_2_u0_s) (by kernel_rfl) (by kernel_rfl) hX
noncomputable def slices_IndexFunc_2_a : AC := (.seq .run (.seq (.seq .run (.block (.unit slices_IndexFunc_2_u0))) .run))
theorem slices_IndexFunc_2_s (x : TupL slices_IndexFunc_2_c.inp.hs) : E slices_IndexFunc_2_v (bodyOf Tryd.f69) (slices_IndexFunc_2_a) (slices_IndexFunc_2_c.entry x) (retSK tb slices_IndexFunc_2_v.fz slices_IndexFunc_2_c [.tmp 4] x) = slices_IndexFunc_2_c.F x := by kernel_rfl
theorem slices_IndexFunc_2_ok : ShOk Tryd.prog gl 69 slices_IndexFunc_2_c :=
  fn_ok (l := slices_IndexFunc_2_g) (n := Tryd.f69.ntmps) (code := bodyOf Tryd.f69) (rts := [.tmp 4]) tb_ok hord (slices_IndexFunc_2_gs) Tryd.func69 (by kernel_rfl) (by kernel_rfl) rfl (by kernel_rfl) (ac := slices_IndexFunc_2_a) (ob := [((subC (bodyOf Tryd.f69) [1, 0, 1, 0]), slices_IndexFunc_2_u0)]) (by kernel_rfl) (fun X hX => (obl_cons (slices_IndexFunc_2_u0_ok hX) obl_nil)) (by kernel_rfl) (slices_IndexFunc_2_s)

noncomputable def slices_ContainsFunc_2_c : ShC := { inp := ⟨[.hole, (.clo 37 [(.ptr 0 0)])], [.cells true [.hole]], [1, 1], [.sl (.one (.sl (.one (.int .i64)))), .sl tSym]⟩, out := ⟨[.hole], [], [2], [.bool]⟩, nres := 1, ms := [], mu := [], leak := false, glob := false, F := fun (x : ((List (List Int)) × (List QSym))) => slices_ContainsFunc_2 x.1 x.2 }
-- slices.ContainsFunc[[][]int,[]int]
noncomputable def slices_ContainsFunc_2_g : List (Nat × Con) := [(69, .gen (altE [slices_IndexFunc_2_c]))]
noncomputable def slices_ContainsFunc_2_v : Env := envOf tb gl slices_ContainsFunc_2_g slices_ContainsFunc_2_c Tryd.f39.ntmps
theorem slices_ContainsFunc_2_gs : Goods Tryd.prog (cond slices_ContainsFunc_2_c.glob gl fun _ => none) slices_ContainsFunc_2_g := (goods_cons (good_alt (alls_cons (slices_IndexFunc_2_ok.anyGl rfl) alls_nil)) goods_nil)
noncomputable def slices_ContainsFunc_2_a : AC := .run
theorem slices_ContainsFunc_2_s (x : TupL slices_ContainsFunc_2_c.inp.hs) : E slices_ContainsFunc_2_v (bodyOf Tryd.f39) (slices_ContainsFunc_2_a) (slices_ContainsFunc_2_c.entry x) (retSK tb slices_ContainsFunc_2_v.fz slices_ContainsFunc_2_c [.tmp 4] x) = slices_ContainsFunc_2_c.F x := by kernel_rfl
theorem slices_ContainsFunc_2_ok : ShOk Tryd.prog gl 39 slices_ContainsFunc_2_c :=
  fn_ok (l := slices_ContainsFunc_2_g) (n := Tryd.f39.ntmps) (code := bodyOf Tryd.f39) (rts := [.tmp 4]) tb_ok hord (slices_ContainsFunc_2_gs) Tryd.func39 (by kernel_rfl) (by kernel_rfl) rfl (by kernel_rfl) (ac := slices_ContainsFunc_2_a) (ob := []) (by kernel_rfl) (fun X hX => obl_nil) (by kernel_rfl) (slices_ContainsFunc_2_s)

noncomputable def ask_Fine_c2_c : ShC := { inp := ⟨[(.agg [.hole, .hole]), (.ptr 0 0)], [.cells true [(.clo 37 [(.ptr 1 0)])], .cells true [.hole]], [1, 1, 1], [.bool, .sl (.one (.int .i64)), .sl tSym]⟩, out := ⟨[.hole], [], [2], [.bool]⟩, nres := 1, ms := [], mu := [], leak := false, glob := false, F := fun (x : (Bool × (List Int) × (List QSym))) => ask_Fine_c2 x.1 x.2.1 x.2.2 }
-- ask.Fine$2
noncomputable def ask_Fine_c2_g : List (Nat × Con) := [(37, .gen (altE [ask_Fine_c1_c]))]
noncomputable def ask_Fine_c2_v : Env := envOf tb gl ask_Fine_c2_g ask_Fine_c2_c Tryd.f41.ntmps
theorem ask_Fine_c2_gs : Goods Tryd.prog (cond ask_Fine_c2_c.glob gl fun _ => none) ask_Fine_c2_g := (goods_cons (good_alt (alls_cons (ask_Fine_c1_ok.anyGl rfl) alls_nil)) goods_nil)
noncomputable def ask_Fine_c2_a : AC := .run
theorem ask_Fine_c2_s (x : TupL ask_Fine_c2_c.inp.hs) : E ask_Fine_c2_v (bodyOf Tryd.f41) (ask_Fine_c2_a) (ask_Fine_c2_c.entry x) (retSK tb ask_Fine_c2_v.fz ask_Fine_c2_c [.tmp 3] x) = ask_Fine_c2_c.F x := by kernel_rfl
theorem ask_Fine_c2_ok : ShOk Tryd.prog gl 41 ask_Fine_c2_c :=
  fn_ok (l := ask_Fine_c2_g) (n := Tryd.f41.ntmps) (code := bodyOf Tryd.f41) (rts := [.tmp 3]) tb_ok hord (ask_Fine_c2_gs) Tryd.func41 (by kernel_rfl) (by kernel_rfl) rfl (by kernel_rfl) (ac := ask_Fine_c2_a) (ob := []) (by kernel_rfl) (fun X hX => obl_nil) (by kernel_rfl) (ask_Fine_c2_s)

noncomputable def slices_IndexFunc_4_c : ShC := { inp := ⟨[.hole, (.clo 41 [(.ptr 0 0)])], [.cells true [(.clo 37 [(.ptr 1 0)])], .cells true [.hole]], [1, 1], [.sl tLit, .sl tSym]⟩, out := ⟨[.hole], [], [2], [.int .i64]⟩, nres := 1, ms := [], mu := [], leak := false, glob := false, F := fun (x : ((List QLit) × (List QSym))) => slices_IndexFunc_4 x.1 x.2 }
-- slices.IndexFunc[[]api.Lit,api.Lit]
noncomputable def slices_IndexFunc_4_g : List (Nat × Con) := [(41, .gen (altE [ask_Fine_c2_c]))]
noncomputable def slices_IndexFunc_4_v : Env := envOf tb gl slices_IndexFunc_4_g slices_IndexFunc_4_c Tryd.f70.ntmps
theorem slices_IndexFunc_4_gs : Goods Tryd.prog (cond slices_IndexFunc_4_c.glob gl fun _ => none) slices_IndexFunc_4_g := (goods_cons (good_alt (alls_cons (ask_Fine_c2_ok.anyGl rfl) alls_nil)) goods_nil)
noncomputable def slices_IndexFunc_4_u0_h : SS := ⟨[0, 1, 7, 8], ⟨[.hole, (.clo 41 [(.ptr 0 0)]), .hole, .hole], [.cells true [(.clo 37 [(.ptr 1 0)])], .cells true [.hole]], [1, 2, 2, 1], [.sl tLit, .int .i64, .int .i64, .sl tSym]⟩⟩
noncomputable def slices_IndexFunc_4_u0_e : Exs := [((.exit 0), ⟨[], ⟨[], [], [], []⟩⟩), (.ret, ⟨[4], ⟨[.hole], [], [2], [.int .i64]⟩⟩)]
noncomputable def slices_IndexFunc_4_u0_a : AC := .run
noncomputable def slices_IndexFunc_4_u0 : Un := lpU slices_IndexFunc_4_v.fz [9, 10, 5, 11, 12, 13, 14, 15, 16, 17, 4, 18, 8] slices_IndexFunc_4_u0_h slices_IndexFunc_4_u0_e (lp slices_IndexFunc_4_L0 fuel)
theorem slices_IndexFunc_4_u0_s (f : slices_IndexFunc_4_u0_h.X → Option (YT slices_IndexFunc_4_u0_e)) (x : slices_IndexFunc_4_u0_h.X) : E slices_IndexFunc_4_v (subC (bodyOf Tryd.f70) [1, 0, 1, 0, 0]) (slices_IndexFunc_4_u0_a) (mkS slices_IndexFunc_4_u0_h 8 x) (roundK slices_IndexFunc_4_v.fz slices_IndexFunc_4_u0_h slices_IndexFunc_4_u0_e f) = slices_IndexFunc_4_L0 f x := by kernel_rfl
theorem slices_IndexFunc_4_u0_ok {X : Fx} (hX : VOk Tryd.prog X slices_IndexFunc_4_v) : UnOk Tryd.prog X slices_IndexFunc_4_v (subC (bodyOf Tryd.f70) [1, 0, 1, 0]) slices_IndexFunc_4_u0 :=
  lp_un' (c := (subC (bodyOf Tryd.f70) [1, 0, 1, 0, 0])) (by kernel_rfl) (env_all tb_ok (slices_IndexFunc_4_gs)) hord (ob := []) (by kernel_rfl) (fun X hX => obl_nil) (slices_IndexFunc_4_u0_s) (by kernel_rfl) (by kernel_rfl) hX
noncomputable def slices_IndexFunc_4_a : AC := (.seq .run (.seq (.seq .run (.block (.unit slices_IndexFunc_4_u0))) .run))
theorem slices_IndexFunc_4_s (x : TupL slices_IndexFunc_4_c.inp.hs) : E slices_IndexFunc_4_v (bodyOf Tryd.f70) (slices_IndexFunc_4_a) (slices_IndexFunc_4_c.entry x) (retSK tb slices_IndexFunc_4_v.fz slices_IndexFunc_4_c [.tmp 4] x) = slices_IndexFunc_4_c.F x := by kernel_rfl
theorem slices_IndexFunc_4_ok : ShOk Tryd.prog gl 70 slices_IndexFunc_4_c :=
  fn_ok (l := slices_IndexFunc_4_g) (n := Tryd.f70.ntmps) (code := bodyOf Tryd.f70) (rts := [.tmp 4]) tb_ok hord (slices_IndexFunc_4_gs) Tryd.func70 (by kernel_rfl) (by kernel_rfl) rfl (by kernel_rfl) (ac := slices_IndexFunc_4_a) (ob := [((subC (bodyOf Tryd.f70) [1, 0, 1, 0]), slices_IndexFunc_4_u0)]) (by kernel_rfl) (fun X hX => (obl_cons (slices_IndexFunc_4_u0_ok hX) obl_nil)) (by kernel_rfl) (slices_IndexFunc_4_s)

noncomputable def slices_ContainsFunc_4_c : ShC := { inp := ⟨[.hole, (.clo 41 [(.ptr 0 0)])], [.cells true [(.clo 37 [(.ptr 1 0)])], .cells true [.hole]], [1, 1], [.sl tLit, .sl tSym]⟩, out := ⟨[.hole], [], [2], [.bool]⟩, nres := 1, ms := [], mu := [], leak := false, glob := false, F := fun (x : ((List QLit) × (List QSym))) => slices_ContainsFunc_4 x.1 x.2 }
-- slices.ContainsFunc[[]api.Lit,api.Lit]
noncomputable def slices_ContainsFunc_4_g : List (Nat × Con) := [(70, .gen (altE [slices_IndexFunc_4_c]))]
noncomputable def slices_ContainsFunc_4_v : Env := envOf tb gl slices_ContainsFunc_4_g slices_ContainsFunc_4_c Tryd.f40.ntmps
theorem slices_ContainsFunc_4_gs : Goods Tryd.prog (cond slices_ContainsFunc_4_c.glob gl fun _ => none) slices_ContainsFunc_4_g := (goods_cons (good_alt (alls_cons (slices_IndexFunc_4_ok.anyGl rfl) alls_nil)) goods_nil)
noncomputable def slices_ContainsFunc_4_a : AC := .run
theorem slices_ContainsFunc_4_s (x : TupL slices_ContainsFunc_4_c.inp.hs) : E slices_ContainsFunc_4_v (bodyOf Tryd.f40) (slices_ContainsFunc_4_a) (slices_ContainsFunc_4_c.entry x) (retSK tb slices_ContainsFunc_4_v.fz slices_ContainsFunc_4_c [.tmp 4] x) = slices_ContainsFunc_4_c.F x := by kernel_rfl
theorem slices_ContainsFunc_4_ok : ShOk Tryd.prog gl 40 slices_ContainsFunc_4_c :=
  fn_ok (l := slices_ContainsFunc_4_g) (n := Tryd.f40.ntmps) (code := bodyOf Tryd.f40) (rts := [.tmp 4]) tb_ok hord (slices_ContainsFunc_4_gs) Tryd.func40 (by kernel_rfl) (by kernel_rfl) rfl (by kernel_rfl) (ac := slices_ContainsFunc_4_a) (ob := []) (by kernel_rfl) (fun X hX => obl_nil) (by kernel_rfl) (slices_ContainsFunc_4_s)

noncomputable def ask_Fine_c : ShC := { inp := ⟨[.hole, (.agg [.hole, .hole, .hole])], [], [1, 1, 1, 1], [.sl tSym, .sl tLit, .sl (.one (.sl (.one (.int .i64)))), .sl tLit]⟩, out := ⟨[.hole, .hole], [], [2, 2], [.bool, .int .i64]⟩, nres := 2, ms := [], mu := [], leak := false, glob := true, F := fun (x : ((List QSym) × (List QLit) × (List (List Int)) × (List QLit))) => ask_Fine x.1 x.2.1 x.2.2.1 x.2.2.2 }
-- ask.Fine
noncomputable def ask_Fine_g : List (Nat × Con) := [(22, .gen (altE [clause_May_c])), (39, .gen (altE [slices_ContainsFunc_2_c])), (40, .gen (altE [slices_ContainsFunc_4_c]))]
noncomputable def ask_Fine_v : Env := envOf tb gl ask_Fine_g ask_Fine_c Tryd.f19.ntmps
theorem ask_Fine_gs : Goods Tryd.prog (cond ask_Fine_c.glob gl fun _ => none) ask_Fine_g := (goods_cons (good_alt (alls_cons clause_May_ok alls_nil)) (goods_cons (good_alt (alls_cons (slices_ContainsFunc_2_ok.anyGl rfl) alls_nil)) (goods_cons (good_alt (alls_cons (slices_ContainsFunc_4_ok.anyGl rfl) alls_nil)) goods_nil)))
noncomputable def ask_Fine_a : AC := .run
theorem ask_Fine_s (x : TupL ask_Fine_c.inp.hs) : E ask_Fine_v (bodyOf Tryd.f19) (ask_Fine_a) (ask_Fine_c.entry x) (retSK tb ask_Fine_v.fz ask_Fine_c [.tmp 4, .tmp 5] x) = ask_Fine_c.F x := by kernel_rfl
theorem ask_Fine_ok : ShOk Tryd.prog gl 19 ask_Fine_c :=
  fn_ok (l := ask_Fine_g) (n := Tryd.f19.ntmps) (code := bodyOf Tryd.f19) (rts := [.tmp 4, .tmp 5]) tb_ok hord (ask_Fine_gs) Tryd.func19 (by kernel_rfl) (by kernel_rfl) rfl (by kernel_rfl) (ac := ask_Fine_a) (ob := []) (by kernel_rfl) (fun X hX => obl_nil) (by kernel_rfl) (ask_Fine_s)

noncomputable def law0_Num_c : ShC := { inp := ⟨[.hole], [], [1], [.int .i64]⟩, out := ⟨[.hole], [], [2], [.int .i64]⟩, nres := 1, ms := [], mu := [], leak := false, glob := false, F := fun (x : Int) => law0_Num x }
-- quaerelaw0.Num
noncomputable def law0_Num_g : List (Nat × Con) := []
noncomputable def law0_Num_v : Env := envOf tb gl law0_Num_g law0_Num_c Tryd.f10.ntmps
theorem law0_Num_gs : Goods Tryd.prog (cond law0_Num_c.glob gl fun _ => none) law0_Num_g := goods_nil
noncomputable def law0_Num_a : AC := .run
theorem law0_Num_s (x : TupL law0_Num_c.inp.hs) : E law0_Num_v (bodyOf Tryd.f10) (law0_Num_a) (law0_Num_c.entry x) (retSK tb law0_Num_v.fz law0_Num_c [.tmp 2] x) = law0_Num_c.F x := by kernel_rfl
theorem law0_Num_ok : ShOk Tryd.prog gl 10 law0_Num_c :=
  fn_ok (l := law0_Num_g) (n := Tryd.f10.ntmps) (code := bodyOf Tryd.f10) (rts := [.tmp 2]) tb_ok hord (law0_Num_gs) Tryd.func10 (by kernel_rfl) (by kernel_rfl) rfl (by kernel_rfl) (ac := law0_Num_a) (ob := []) (by kernel_rfl) (fun X hX => obl_nil) (by kernel_rfl) (law0_Num_s)

noncomputable def law0_SameInts_c : ShC := { inp := ⟨[.hole, .hole], [], [1, 1], [.sl (.one (.int .i64)), .sl (.one (.int .i64))]⟩, out := ⟨[.hole], [], [2], [.bool]⟩, nres := 1, ms := [], mu := [], leak := false, glob := false, F := fun (x : ((List Int) × (List Int))) => law0_SameInts x.1 x.2 }
-- quaerelaw0.SameInts
noncomputable def law0_SameInts_g : List (Nat × Con) := []
noncomputable def law0_SameInts_v : Env := envOf tb gl law0_SameInts_g law0_SameInts_c Tryd.f31.ntmps
theorem law0_SameInts_gs : Goods Tryd.prog (cond law0_SameInts_c.glob gl fun _ => none) law0_SameInts_g := goods_nil
noncomputable def law0_SameInts_u0_h : SS := ⟨[0, 1, 5], ⟨[.hole, .hole, .hole], [], [1, 1, 2], [.sl (.one (.int .i64)), .sl (.one (.int .i64)), .int .i64]⟩⟩
noncomputable def law0_SameInts_u0_e : Exs := [((.exit 0), ⟨[], ⟨[], [], [], []⟩⟩), (.ret, ⟨[4], ⟨[.hole], [], [2], [.bool]⟩⟩)]
noncomputable def law0_SameInts_u0_a : AC := .run
noncomputable def law0_SameInts_u0 : Un := lpU law0_SameInts_v.fz [11, 12, 13, 14, 17, 18, 19, 20, 21, 22, 23, 24, 25, 4, 15, 16, 5] law0_SameInts_u0_h law0_SameInts_u0_e (lp law0_SameInts_L0 fuel)
theorem law0_SameInts_u0_s (f : law0_SameInts_u0_h.X → Option (YT law0_SameInts_u0_e)) (x : law0_SameInts_u0_h.X) : E law0_SameInts_v (subC (bodyOf Tryd.f31) [1, 1, 0, 1, 0, 0]) (law0_SameInts_u0_a) (mkS law0_SameInts_u0_h 8 x) (roundK law0_SameInts_v.fz law0_SameInts_u0_h law0_SameInts_u0_e f) = law0_SameInts_L0 f x := by kernel_rfl
theorem law0_SameInts_u0_ok {X : Fx} (hX : VOk Tryd.prog X law0_SameInts_v) : UnOk Tryd.prog X law0_SameInts_v (subC (bodyOf Tryd.f31) [1, 1, 0, 1, 0]) law0_SameInts_u0 :=
  lp_un' (c := (subC (bodyOf Tryd.f31) [1, 1, 0, 1, 0, 0])) (by kernel_rfl) (env_all tb_ok (law0_SameInts_gs)) hord (ob := []) (by kernel_rfl) (fun X hX => obl_nil) (law0_SameInts_u0_s) (by kernel_rfl) (by kernel_rfl) hX
noncomputable def law0_SameInts_a : AC := (.seq .run (.seq .run (.seq (.seq .run (.block (.unit law0_SameInts_u0))) .run)))
theorem law0_SameInts_s (x : TupL law0_SameInts_c.inp.hs) : E law0_SameInts_v (bodyOf Tryd.f31) (law0_SameInts_a) (law0_SameInts_c.entry x) (retSK tb law0_SameInts_v.fz law0_SameInts_c [.tmp 4] x) = law0_SameInts_c.F x := by kernel_rfl
theorem law0_SameInts_ok : ShOk Tryd.prog gl 31 law0_SameInts_c :=
  fn_ok (l := law0_SameInts_g) (n := Tryd.f31.ntmps) (code := bodyOf Tryd.f31) (rts := [.tmp 4]) tb_ok hord (law0_SameInts_gs) Tryd.func31 (by kernel_rfl) (by kernel_rfl) rfl (by kernel_rfl) (ac := law0_SameInts_a) (ob := [((subC (bodyOf Tryd.f31) [1, 1, 0, 1, 0]), law0_SameInts_u0)]) (by kernel_rfl) (fun X hX => (obl_cons (law0_SameInts_u0_ok hX) obl_nil)) (by kernel_rfl) (law0_SameInts_s)

noncomputable def law0_SameLits_c : ShC := { inp := ⟨[.hole, .hole], [], [1, 1], [.sl tLit, .sl tLit]⟩, out := ⟨[.hole], [], [2], [.bool]⟩, nres := 1, ms := [], mu := [], leak := false, glob := false, F := fun (x : ((List QLit) × (List QLit))) => law0_SameLits x.1 x.2 }
-- quaerelaw0.SameLits
noncomputable def law0_SameLits_g : List (Nat × Con) := [(31, .gen (altE [law0_SameInts_c]))]
noncomputable def law0_SameLits_v : Env := envOf tb gl law0_SameLits_g law0_SameLits_c Tryd.f42.ntmps
theorem law0_SameLits_gs : Goods Tryd.prog (cond law0_SameLits_c.glob gl fun _ => none) law0_SameLits_g := (goods_cons (good_alt (alls_cons (law0_SameInts_ok.anyGl rfl) alls_nil)) goods_nil)
noncomputable def law0_SameLits_u0_h : SS := ⟨[0, 1, 5], ⟨[.hole, .hole, .hole], [], [1, 1, 2], [.sl tLit, .sl tLit, .int .i64]⟩⟩
noncomputable def law0_SameLits_u0_e : Exs := [((.exit 0), ⟨[], ⟨[], [], [], []⟩⟩), (.ret, ⟨[4], ⟨[.hole], [], [2], [.bool]⟩⟩)]
noncomputable def law0_SameLits_u0_a : AC := .run
noncomputable def law0_SameLits_u0 : Un := lpU law0_SameLits_v.fz [11, 12, 13, 14, 17, 18, 19, 20, 21, 22, 23, 24, 25, 26, 27, 28, 29, 30, 31, 32, 33, 34, 35, 36, 37, 38, 39, 40, 41, 4, 15, 16, 5] law0_SameLits_u0_h law0_SameLits_u0_e (lp law0_SameLits_L0 fuel)
theorem law0_SameLits_u0_s (f : law0_SameLits_u0_h.X → Option (YT law0_SameLits_u0_e)) (x : law0_SameLits_u0_h.X) : E law0_SameLits_v (subC (bodyOf Tryd.f42) [1, 1, 0, 1, 0, 0]) (law0_SameLits_u0_a) (mkS law0_SameLits_u0_h 8 x) (roundK law0_SameLits_v.fz law0_SameLits_u0_h law0_SameLits_u0_e f) = law0_SameLits_L0 f x := by kernel_rfl
theorem law0_SameLits_u0_ok {X : Fx} (hX : VOk Tryd.prog X law0_SameLits_v) : UnOk Tryd.prog X law0_SameLits_v (subC (bodyOf Tryd.f42) [1, 1, 0, 1, 0]) law0_SameLits_u0 :=
  lp_un' (c := (subC (bodyOf Tryd.f42) [1, 1, 0, 1, 0, 0])) (by kernel_rfl) (env_all tb_ok (law0_SameLits_gs)) hord (ob := []) (by kernel_rfl) (fun X hX => obl_nil) (law0_SameLits_u0_s) (by kernel_rfl) (by kernel_rfl) hX
noncomputable def law0_SameLits_a : AC := (.seq .run (.seq .run (.seq (.seq .run (.block (.unit law0_SameLits_u0))) .run)))
theorem law0_SameLits_s (x : TupL law0_SameLits_c.inp.hs) : E law0_SameLits_v (bodyOf Tryd.f42) (law0_SameLits_a) (law0_SameLits_c.entry x) (retSK tb law0_SameLits_v.fz law0_SameLits_c [.tmp 4] x) = law0_SameLits_c.F x := by kernel_rfl
theorem law0_SameLits_ok : ShOk Tryd.prog gl 42 law0_SameLits_c :=
  fn_ok (l := law0_SameLits_g) (n := Tryd.f42.ntmps) (code := bodyOf Tryd.f42) (rts := [.tmp 4]) tb_ok hord (law0_SameLits_gs) Tryd.func42 (by kernel_rfl) (by kernel_rfl) rfl (by kernel_rfl) (ac := law0_SameLits_a) (ob := [((subC (bodyOf Tryd.f42) [1, 1, 0, 1, 0]), law0_SameLits_u0)]) (by kernel_rfl) (fun X hX => (obl_cons (law0_SameLits_u0_ok hX) obl_nil)) (by kernel_rfl) (law0_SameLits_s)

noncomputable def law0_SameRows_c : ShC := { inp := ⟨[.hole, .hole], [], [1, 1], [.sl (.one (.sl (.one (.int .i64)))), .sl (.one (.sl (.one (.int .i64))))]⟩, out := ⟨[.hole], [], [2], [.bool]⟩, nres := 1, ms := [], mu := [], leak := false, glob := false, F := fun (x : ((List (List Int)) × (List (List Int)))) => law0_SameRows x.1 x.2 }
-- quaerelaw0.SameRows
noncomputable def law0_SameRows_g : List (Nat × Con) := [(31, .gen (altE [law0_SameInts_c]))]
noncomputable def law0_SameRows_v : Env := envOf tb gl law0_SameRows_g law0_SameRows_c Tryd.f43.ntmps
theorem law0_SameRows_gs : Goods Tryd.prog (cond law0_SameRows_c.glob gl fun _ => none) law0_SameRows_g := (goods_cons (good_alt (alls_cons (law0_SameInts_ok.anyGl rfl) alls_nil)) goods_nil)
noncomputable def law0_SameRows_u0_h : SS := ⟨[0, 1, 5], ⟨[.hole, .hole, .hole], [], [1, 1, 2], [.sl (.one (.sl (.one (.int .i64)))), .sl (.one (.sl (.one (.int .i64)))), .int .i64]⟩⟩
noncomputable def law0_SameRows_u0_e : Exs := [((.exit 0), ⟨[], ⟨[], [], [], []⟩⟩), (.ret, ⟨[4], ⟨[.hole], [], [2], [.bool]⟩⟩)]
noncomputable def law0_SameRows_u0_a : AC := .run
noncomputable def law0_SameRows_u0 : Un := lpU law0_SameRows_v.fz [11, 12, 13, 14, 17, 18, 19, 20, 21, 22, 23, 24, 25, 26, 4, 15, 16, 5] law0_SameRows_u0_h law0_SameRows_u0_e (lp law0_SameRows_L0 fuel)
theorem law0_SameRows_u0_s (f : law0_SameRows_u0_h.X → Option (YT law0_SameRows_u0_e)) (x : law0_SameRows_u0_h.X) : E law0_SameRows_v (subC (bodyOf Tryd.f43) [1, 1, 0, 1, 0, 0]) (law0_SameRows_u0_a) (mkS law0_SameRows_u0_h 8 x) (roundK law0_SameRows_v.fz law0_SameRows_u0_h law0_SameRows_u0_e f) = law0_SameRows_L0 f x := by kernel_rfl
theorem law0_SameRows_u0_ok {X : Fx} (hX : VOk Tryd.prog X law0_SameRows_v) : UnOk Tryd.prog X law0_SameRows_v (subC (bodyOf Tryd.f43) [1, 1, 0, 1, 0]) law0_SameRows_u0 :=
  lp_un' (c := (subC (bodyOf Tryd.f43) [1, 1, 0, 1, 0, 0])) (by kernel_rfl) (env_all tb_ok (law0_SameRows_gs)) hord (ob := []) (by kernel_rfl) (fun X hX => obl_nil) (law0_SameRows_u0_s) (by kernel_rfl) (by kernel_rfl) hX
noncomputable def law0_SameRows_a : AC := (.seq .run (.seq .run (.seq (.seq .run (.block (.unit law0_SameRows_u0))) .run)))
theorem law0_SameRows_s (x : TupL law0_SameRows_c.inp.hs) : E law0_SameRows_v (bodyOf Tryd.f43) (law0_SameRows_a) (law0_SameRows_c.entry x) (retSK tb law0_SameRows_v.fz law0_SameRows_c [.tmp 4] x) = law0_SameRows_c.F x := by kernel_rfl
theorem law0_SameRows_ok : ShOk Tryd.prog gl 43 law0_SameRows_c :=
  fn_ok (l := law0_SameRows_g) (n := Tryd.f43.ntmps) (code := bodyOf Tryd.f43) (rts := [.tmp 4]) tb_ok hord (law0_SameRows_gs) Tryd.func43 (by kernel_rfl) (by kernel_rfl) rfl (by kernel_rfl) (ac := law0_SameRows_a) (ob := [((subC (bodyOf Tryd.f43) [1, 1, 0, 1, 0]), law0_SameRows_u0)]) (by kernel_rfl) (fun X hX => (obl_cons (law0_SameRows_u0_ok hX) obl_nil)) (by kernel_rfl) (law0_SameRows_s)

noncomputable def law0_SameClause_c : ShC := { inp := ⟨[(.agg [.hole, .hole, .hole]), (.agg [.hole, .hole, .hole])], [], [1, 1, 1, 1, 1, 1], [.sl tLit, .sl (.one (.sl (.one (.int .i64)))), .sl tLit, .sl tLit, .sl (.one (.sl (.one (.int .i64)))), .sl tLit]⟩, out := ⟨[.hole], [], [2], [.bool]⟩, nres := 1, ms := [], mu := [], leak := false, glob := false, F := fun (x : ((List QLit) × (List (List Int)) × (List QLit) × (List QLit) × (List (List Int)) × (List QLit))) => law0_SameClause x.1 x.2.1 x.2.2.1 x.2.2.2.1 x.2.2.2.2.1 x.2.2.2.2.2 }
-- quaerelaw0.SameClause
noncomputable def law0_SameClause_g : List (Nat × Con) := [(42, .gen (altE [law0_SameLits_c])), (43, .gen (altE [law0_SameRows_c]))]
noncomputable def law0_SameClause_v : Env := envOf tb gl law0_SameClause_g law0_SameClause_c Tryd.f20.ntmps
theorem law0_SameClause_gs : Goods Tryd.prog (cond law0_SameClause_c.glob gl fun _ => none) law0_SameClause_g := (goods_cons (good_alt (alls_cons (law0_SameLits_ok.anyGl rfl) alls_nil)) (goods_cons (good_alt (alls_cons (law0_SameRows_ok.anyGl rfl) alls_nil)) goods_nil))
noncomputable def law0_SameClause_a : AC := .run
theorem law0_SameClause_s (x : TupL law0_SameClause_c.inp.hs) : E law0_SameClause_v (bodyOf Tryd.f20) (law0_SameClause_a) (law0_SameClause_c.entry x) (retSK tb law0_SameClause_v.fz law0_SameClause_c [.tmp 4] x) = law0_SameClause_c.F x := by kernel_rfl
theorem law0_SameClause_ok : ShOk Tryd.prog gl 20 law0_SameClause_c :=
  fn_ok (l := law0_SameClause_g) (n := Tryd.f20.ntmps) (code := bodyOf Tryd.f20) (rts := [.tmp 4]) tb_ok hord (law0_SameClause_gs) Tryd.func20 (by kernel_rfl) (by kernel_rfl) rfl (by kernel_rfl) (ac := law0_SameClause_a) (ob := []) (by kernel_rfl) (fun X hX => obl_nil) (by kernel_rfl) (law0_SameClause_s)

noncomputable def law24_awake_c : ShC := { inp := ⟨[], [], [], []⟩, out := ⟨[.hole], [], [2], [.bool]⟩, nres := 1, ms := [], mu := [], leak := false, glob := true, F := fun (x : Unit) => law24_awake }
-- quaerelaw24.awake
noncomputable def law24_awake_g : List (Nat × Con) := [(10, .gen (altE [law0_Num_c])), (11, .gen (altE [ask_Show_c])), (17, .gen (altE [ask_Goal_c])), (18, .gen (altE [law24_words_c])), (19, .gen (altE [ask_Fine_c])), (20, .gen (altE [law0_SameClause_c]))]
noncomputable def law24_awake_v : Env := envOf tb gl law24_awake_g law24_awake_c Tryd.f8.ntmps
theorem law24_awake_gs : Goods Tryd.prog (cond law24_awake_c.glob gl fun _ => none) law24_awake_g := (goods_cons (good_alt (alls_cons (law0_Num_ok.anyGl rfl) alls_nil)) (goods_cons (good_alt (alls_cons ask_Show_ok alls_nil)) (goods_cons (good_alt (alls_cons ask_Goal_ok alls_nil)) (goods_cons (good_alt (alls_cons (law24_words_ok.anyGl rfl) alls_nil)) (goods_cons (good_alt (alls_cons ask_Fine_ok alls_nil)) (goods_cons (good_alt (alls_cons (law0_SameClause_ok.anyGl rfl) alls_nil)) goods_nil))))))
noncomputable def law24_awake_a : AC := .run
theorem law24_awake_s (x : TupL law24_awake_c.inp.hs) : E law24_awake_v (bodyOf Tryd.f8) (law24_awake_a) (law24_awake_c.entry x) (retSK tb law24_awake_v.fz law24_awake_c [.tmp 0] x) = law24_awake_c.F x := by kernel_rfl
theorem law24_awake_ok : ShOk Tryd.prog gl 8 law24_awake_c :=
  fn_ok (l := law24_awake_g) (n := Tryd.f8.ntmps) (code := bodyOf Tryd.f8) (rts := [.tmp 0]) tb_ok hord (law24_awake_gs) Tryd.func8 (by kernel_rfl) (by kernel_rfl) rfl (by kernel_rfl) (ac := law24_awake_a) (ob := []) (by kernel_rfl) (fun X hX => obl_nil) (by kernel_rfl) (law24_awake_s)

noncomputable def formula_SigMay_c1_c : ShC := { inp := ⟨[(.agg [.hole, .hole, .hole, .hole])], [], [1, 1, 1, 1], [.str, .int .i64, .int .i64, .int .i64]⟩, out := ⟨[.hole], [], [2], [.bool]⟩, nres := 1, ms := [], mu := [], leak := false, glob := false, F := fun (x : QSym) => formula_SigMay_c1 x.1 x.2.1 x.2.2.1 x.2.2.2 }
-- formula.SigMay$1
noncomputable def formula_SigMay_c1_g : List (Nat × Con) := []
noncomputable def formula_SigMay_c1_v : Env := envOf tb gl formula_SigMay_c1_g formula_SigMay_c1_c Tryd.f52.ntmps
theorem formula_SigMay_c1_gs : Goods Tryd.prog (cond formula_SigMay_c1_c.glob gl fun _ => none) formula_SigMay_c1_g := goods_nil
noncomputable def formula_SigMay_c1_a : AC := .run
theorem formula_SigMay_c1_s (x : TupL formula_SigMay_c1_c.inp.hs) : E formula_SigMay_c1_v (bodyOf Tryd.f52) (formula_SigMay_c1_a) (formula_SigMay_c1_c.entry x) (retSK tb formula_SigMay_c1_v.fz formula_SigMay_c1_c [.tmp 2] x) = formula_SigMay_c1_c.F x := by kernel_rfl
theorem formula_SigMay_c1_ok : ShOk Tryd.prog gl 52 formula_SigMay_c1_c :=
  fn_ok (l := formula_SigMay_c1_g) (n := Tryd.f52.ntmps) (code := bodyOf Tryd.f52) (rts := [.tmp 2]) tb_ok hord (formula_SigMay_c1_gs) Tryd.func52 (by kernel_rfl) (by kernel_rfl) rfl (by kernel_rfl) (ac := formula_SigMay_c1_a) (ob := []) (by kernel_rfl) (fun X hX => obl_nil) (by kernel_rfl) (formula_SigMay_c1_s)

noncomputable def slices_IndexFunc_5_c : ShC := { inp := ⟨[.hole, (.clo 52 [])], [], [1], [.sl tSym]⟩, out := ⟨[.hole], [], [2], [.int .i64]⟩, nres := 1, ms := [], mu := [], leak := false, glob := false, F := fun (x : (List QSym)) => slices_IndexFunc_5 x }
-- slices.IndexFunc[[]api.Sym,api.Sym]
noncomputable def slices_IndexFunc_5_g : List (Nat × Con) := [(52, .gen (altE [formula_SigMay_c1_c]))]
noncomputable def slices_IndexFunc_5_v : Env := envOf tb gl slices_IndexFunc_5_g slices_IndexFunc_5_c Tryd.f77.ntmps
theorem slices_IndexFunc_5_gs : Goods Tryd.prog (cond slices_IndexFunc_5_c.glob gl fun _ => none) slices_IndexFunc_5_g := (goods_cons (good_alt (alls_cons (formula_SigMay_c1_ok.anyGl rfl) alls_nil)) goods_nil)
noncomputable def slices_IndexFunc_5_u0_h : SS := ⟨[0, 1, 7, 8], ⟨[.hole, (.clo 52 []), .hole, .hole], [], [1, 2, 2], [.sl tSym, .int .i64, .int .i64]⟩⟩
noncomputable def slices_IndexFunc_5_u0_e : Exs := [((.exit 0), ⟨[], ⟨[], [], [], []⟩⟩), (.ret, ⟨[4], ⟨[.hole], [], [2], [.int .i64]⟩⟩)]
noncomputable def slices_IndexFunc_5_u0_a : AC := .run
noncomputable def slices_IndexFunc_5_u0 : Un := lpU slices_IndexFunc_5_v.fz [9, 10, 5, 11, 12, 13, 14, 15, 16, 17, 4, 18, 8] slices_IndexFunc_5_u0_h slices_IndexFunc_5_u0_e (lp slices_IndexFunc_5_L0 fuel)
theorem slices_IndexFunc_5_u0_s (f : slices_IndexFunc_5_u0_h.X → Option (YT slices_IndexFunc_5_u0_e)) (x : slices_IndexFunc_5_u0_h.X) : E slices_IndexFunc_5_v (subC (bodyOf Tryd.f77) [1, 0, 1, 0, 0]) (slices_IndexFunc_5_u0_a) (mkS slices_IndexFunc_5_u0_h 8 x) (roundK slices_IndexFunc_5_v.fz slices_IndexFunc_5_u0_h slices_IndexFunc_5_u0_e f) = slices_IndexFunc_5_L0 f x := by kernel_rfl
theorem slices_IndexFunc_5_u0_ok {X : Fx} (hX : VOk Tryd.prog X slices_IndexFunc_5_v) : UnOk Tryd.prog X slices_IndexFunc_5_v (subC (bodyOf Tryd.f77) [1, 0, 1, 0]) slices_IndexFunc_5_u0 :=
  lp_un' (c := (subC (bodyOf Tryd.f77) [1, 0, 1, 0, 0])) (by kernel_rfl) (env_all tb_ok (slices_IndexFunc_5_gs)) hord (ob := []) (by kernel_rfl) (fun X hX => obl_nil) (slices_IndexFunc_5_u0_s) (by kernel_rfl) (by kernel_rfl) hX
noncomputable def slices_IndexFunc_5_a : AC := (.seq .run (.seq (.seq .run (.block (.unit slices_IndexFunc_5_u0))) .run))
theorem slices_IndexFunc_5_s (x : TupL slices_IndexFunc_5_c.inp.hs) : E slices_IndexFunc_5_v (bodyOf Tryd.f77) (slices_IndexFunc_5_a) (slices_IndexFunc_5_c.entry x) (retSK tb slices_IndexFunc_5_v.fz slices_IndexFunc_5_c [.tmp 4] x) = slices_IndexFunc_5_c.F x := by kernel_rfl
theorem slices_IndexFunc_5_ok : ShOk Tryd.prog gl 77 slices_IndexFunc_5_c :=
  fn_ok (l := slices_IndexFunc_5_g) (n := Tryd.f77.ntmps) (code := bodyOf Tryd.f77) (rts := [.tmp 4]) tb_ok hord (slices_IndexFunc_5_gs) Tryd.func77 (by kernel_rfl) (by kernel_rfl) rfl (by kernel_rfl) (ac := slices_IndexFunc_5_a) (ob := [((subC (bodyOf Tryd.f77) [1, 0, 1, 0]), slices_IndexFunc_5_u0)]) (by kernel_rfl) (fun X hX => (obl_cons (slices_IndexFunc_5_u0_ok hX) obl_nil)) (by kernel_rfl) (slices_IndexFunc_5_s)

noncomputable def slices_ContainsFunc_5_c : ShC := { inp := ⟨[.hole, (.clo 52 [])], [], [1], [.sl tSym]⟩, out := ⟨[.hole], [], [2], [.bool]⟩, nres := 1, ms := [], mu := [], leak := false, glob := false, F := fun (x : (List QSym)) => slices_ContainsFunc_5 x }
-- slices.ContainsFunc[[]api.Sym,api.Sym]
noncomputable def slices_ContainsFunc_5_g : List (Nat × Con) := [(77, .gen (altE [slices_IndexFunc_5_c]))]
noncomputable def slices_ContainsFunc_5_v : Env := envOf tb gl slices_ContainsFunc_5_g slices_ContainsFunc_5_c Tryd.f51.ntmps
theorem slices_ContainsFunc_5_gs : Goods Tryd.prog (cond slices_ContainsFunc_5_c.glob gl fun _ => none) slices_ContainsFunc_5_g := (goods_cons (good_alt (alls_cons (slices_IndexFunc_5_ok.anyGl rfl) alls_nil)) goods_nil)
noncomputable def slices_ContainsFunc_5_a : AC := .run
theorem slices_ContainsFunc_5_s (x : TupL slices_ContainsFunc_5_c.inp.hs) : E slices_ContainsFunc_5_v (bodyOf Tryd.f51) (slices_ContainsFunc_5_a) (slices_ContainsFunc_5_c.entry x) (retSK tb slices_ContainsFunc_5_v.fz slices_ContainsFunc_5_c [.tmp 4] x) = slices_ContainsFunc_5_c.F x := by kernel_rfl
theorem slices_ContainsFunc_5_ok : ShOk Tryd.prog gl 51 slices_ContainsFunc_5_c :=
  fn_ok (l := slices_ContainsFunc_5_g) (n := Tryd.f51.ntmps) (code := bodyOf Tryd.f51) (rts := [.tmp 4]) tb_ok hord (slices_ContainsFunc_5_gs) Tryd.func51 (by kernel_rfl) (by kernel_rfl) rfl (by kernel_rfl) (ac := slices_ContainsFunc_5_a) (ob := []) (by kernel_rfl) (fun X hX => obl_nil) (by kernel_rfl) (slices_ContainsFunc_5_s)

noncomputable def formula_SigMay_c : ShC := { inp := ⟨[.hole], [], [1], [.sl tSym]⟩, out := ⟨[.hole], [], [2], [.bool]⟩, nres := 1, ms := [], mu := [], leak := false, glob := true, F := fun (x : (List QSym)) => formula_SigMay x }
-- formula.SigMay
noncomputable def formula_SigMay_g : List (Nat × Con) := [(32, .gen (altE [sign_May_c])), (51, .gen (altE [slices_ContainsFunc_5_c]))]
noncomputable def formula_SigMay_v : Env := envOf tb gl formula_SigMay_g formula_SigMay_c Tryd.f26.ntmps
theorem formula_SigMay_gs : Goods Tryd.prog (cond formula_SigMay_c.glob gl fun _ => none) formula_SigMay_g := (goods_cons (good_alt (alls_cons sign_May_ok alls_nil)) (goods_cons (good_alt (alls_cons (slices_ContainsFunc_5_ok.anyGl rfl) alls_nil)) goods_nil))
noncomputable def formula_SigMay_a : AC := .run
theorem formula_SigMay_s (x : TupL formula_SigMay_c.inp.hs) : E formula_SigMay_v (bodyOf Tryd.f26) (formula_SigMay_a) (formula_SigMay_c.entry x) (retSK tb formula_SigMay_v.fz formula_SigMay_c [.tmp 2] x) = formula_SigMay_c.F x := by kernel_rfl
theorem formula_SigMay_ok : ShOk Tryd.prog gl 26 formula_SigMay_c :=
  fn_ok (l := formula_SigMay_g) (n := Tryd.f26.ntmps) (code := bodyOf Tryd.f26) (rts := [.tmp 2]) tb_ok hord (formula_SigMay_gs) Tryd.func26 (by kernel_rfl) (by kernel_rfl) rfl (by kernel_rfl) (ac := formula_SigMay_a) (ob := []) (by kernel_rfl) (fun X hX => obl_nil) (by kernel_rfl) (formula_SigMay_s)

noncomputable def formula_parts_c : ShC := { inp := ⟨[.hole], [], [1], [.int .i64]⟩, out := ⟨[.hole], [], [2], [.int .i64]⟩, nres := 1, ms := [], mu := [], leak := false, glob := false, F := fun (x : Int) => formula_parts x }
-- formula.parts
noncomputable def formula_parts_g : List (Nat × Con) := []
noncomputable def formula_parts_v : Env := envOf tb gl formula_parts_g formula_parts_c Tryd.f27.ntmps
theorem formula_parts_gs : Goods Tryd.prog (cond formula_parts_c.glob gl fun _ => none) formula_parts_g := goods_nil
noncomputable def formula_parts_a : AC := .run
theorem formula_parts_s (x : TupL formula_parts_c.inp.hs) : E formula_parts_v (bodyOf Tryd.f27) (formula_parts_a) (formula_parts_c.entry x) (retSK tb formula_parts_v.fz formula_parts_c [.tmp 2] x) = formula_parts_c.F x := by kernel_rfl
theorem formula_parts_ok : ShOk Tryd.prog gl 27 formula_parts_c :=
  fn_ok (l := formula_parts_g) (n := Tryd.f27.ntmps) (code := bodyOf Tryd.f27) (rts := [.tmp 2]) tb_ok hord (formula_parts_gs) Tryd.func27 (by kernel_rfl) (by kernel_rfl) rfl (by kernel_rfl) (ac := formula_parts_a) (ob := []) (by kernel_rfl) (fun X hX => obl_nil) (by kernel_rfl) (formula_parts_s)

noncomputable def formula_nodeMay_c : ShC := { inp := ⟨[.hole, (.agg [.hole, .hole, .hole])], [], [1, 1, 1, 1], [.sl tSym, .int .i64, .int .i64, .sl (.one (.int .i64))]⟩, out := ⟨[.hole], [], [2], [.bool]⟩, nres := 1, ms := [], mu := [], leak := false, glob := true, F := fun (x : ((List QSym) × Int × Int × (List Int))) => formula_nodeMay x.1 x.2.1 x.2.2.1 x.2.2.2 }
-- formula.nodeMay
noncomputable def formula_nodeMay_g : List (Nat × Con) := [(53, .gen (altE [term_IsAtom_c]))]
noncomputable def formula_nodeMay_v : Env := envOf tb gl formula_nodeMay_g formula_nodeMay_c Tryd.f28.ntmps
theorem formula_nodeMay_gs : Goods Tryd.prog (cond formula_nodeMay_c.glob gl fun _ => none) formula_nodeMay_g := (goods_cons (good_alt (alls_cons term_IsAtom_ok alls_nil)) goods_nil)
noncomputable def formula_nodeMay_a : AC := .run
theorem formula_nodeMay_s (x : TupL formula_nodeMay_c.inp.hs) : E formula_nodeMay_v (bodyOf Tryd.f28) (formula_nodeMay_a) (formula_nodeMay_c.entry x) (retSK tb formula_nodeMay_v.fz formula_nodeMay_c [.tmp 4] x) = formula_nodeMay_c.F x := by kernel_rfl
theorem formula_nodeMay_ok : ShOk Tryd.prog gl 28 formula_nodeMay_c :=
  fn_ok (l := formula_nodeMay_g) (n := Tryd.f28.ntmps) (code := bodyOf Tryd.f28) (rts := [.tmp 4]) tb_ok hord (formula_nodeMay_gs) Tryd.func28 (by kernel_rfl) (by kernel_rfl) rfl (by kernel_rfl) (ac := formula_nodeMay_a) (ob := []) (by kernel_rfl) (fun X hX => obl_nil) (by kernel_rfl) (formula_nodeMay_s)

noncomputable def formula_May_c : ShC := { inp := ⟨[.hole, .hole], [], [1, 1], [.sl tSym, .sl (.cons (.int .i64) (.cons (.int .i64) (.one (.sl (.one (.int .i64))))))]⟩, out := ⟨[.hole], [], [2], [.bool]⟩, nres := 1, ms := [], mu := [], leak := false, glob := true, F := fun (x : ((List QSym) × (List (Int × Int × (List Int))))) => formula_May x.1 x.2 }
-- formula.May
noncomputable def formula_May_g : List (Nat × Con) := [(26, .gen (altE [formula_SigMay_c])), (27, .gen (altE [formula_parts_c])), (28, .gen (altE [formula_nodeMay_c]))]
noncomputable def formula_May_v : Env := envOf tb gl formula_May_g formula_May_c Tryd.f13.ntmps
theorem formula_May_gs : Goods Tryd.prog (cond formula_May_c.glob gl fun _ => none) formula_May_g := (goods_cons (good_alt (alls_cons formula_SigMay_ok alls_nil)) (goods_cons (good_alt (alls_cons (formula_parts_ok.anyGl rfl) alls_nil)) (goods_cons (good_alt (alls_cons formula_nodeMay_ok alls_nil)) goods_nil)))
noncomputable def formula_May_u0_h : SS := ⟨[0, 5, 22, 23, 24], ⟨[.hole, .hole, .hole, .hole, .hole], [], [1, 2, 1, 2, 2], [.sl tSym, .int .i64, .sl (.cons (.int .i64) (.cons (.int .i64) (.one (.sl (.one (.int .i64)))))), .int .i64, .int .i64]⟩⟩
noncomputable def formula_May_u0_e : Exs := [((.exit 0), ⟨[5], ⟨[.hole], [], [2], [.int .i64]⟩⟩), (.ret, ⟨[4], ⟨[.hole], [], [2], [.bool]⟩⟩)]
noncomputable def formula_May_u0_a : AC := .run
noncomputable def formula_May_u0 : Un := lpU formula_May_v.fz [25, 26, 27, 7, 28, 29, 30, 8, 31, 32, 33, 34, 35, 36, 37, 38, 39, 40, 41, 42, 4, 43, 44, 45, 46, 5, 47, 24] formula_May_u0_h formula_May_u0_e (lp formula_May_L0 fuel)
theorem formula_May_u0_s (f : formula_May_u0_h.X → Option (YT formula_May_u0_e)) (x : formula_May_u0_h.X) : E formula_May_v (subC (bodyOf Tryd.f13) [1, 1, 1, 0, 1, 0, 0]) (formula_May_u0_a) (mkS formula_May_u0_h 8 x) (roundK formula_May_v.fz formula_May_u0_h formula_May_u0_e f) = formula_May_L0 f x := by kernel_rfl
theorem formula_May_u0_ok {X : Fx} (hX : VOk Tryd.prog X formula_May_v) : UnOk Tryd.prog X formula_May_v (subC (bodyOf Tryd.f13) [1, 1, 1, 0, 1, 0]) formula_May_u0 :=
  lp_un' (c := (subC (bodyOf Tryd.f13) [1, 1, 1, 0, 1, 0, 0])) (by kernel_rfl) (env_all tb_ok (formula_May_gs)) hord (ob := []) (by kernel_rfl) (fun X hX => obl_nil) (formula_May_u0_s) (by kernel_rfl) (by kernel_rfl) hX
noncomputable def formula_May_a : AC := (.seq .run (.seq .run (.seq .run (.seq (.seq .run (.block (.unit formula_May_u0))) .run))))
theorem formula_May_s (x : TupL formula_May_c.inp.hs) : E formula_May_v (bodyOf Tryd.f13) (formula_May_a) (formula_May_c.entry x) (retSK tb formula_May_v.fz formula_May_c [.tmp 4] x) = formula_May_c.F x := by kernel_rfl
theorem formula_May_ok : ShOk Tryd.prog gl 13 formula_May_c :=
  fn_ok (l := formula_May_g) (n := Tryd.f13.ntmps) (code := bodyOf Tryd.f13) (rts := [.tmp 4]) tb_ok hord (formula_May_gs) Tryd.func13 (by kernel_rfl) (by kernel_rfl) rfl (by kernel_rfl) (ac := formula_May_a) (ob := [((subC (bodyOf Tryd.f13) [1, 1, 1, 0, 1, 0]), formula_May_u0)]) (by kernel_rfl) (fun X hX => (obl_cons (formula_May_u0_ok hX) obl_nil)) (by kernel_rfl) (formula_May_s)

noncomputable def formula_show_ck (k : Nat) : ShC := { inp := ⟨[.hole, .hole], [], [1, 1], [.sl tSym, .sl (.cons (.int .i64) (.cons (.int .i64) (.one (.sl (.one (.int .i64))))))]⟩, out := ⟨[.hole, .hole], [], [2, 0], [.str, .sl (.cons (.int .i64) (.cons (.int .i64) (.one (.sl (.one (.int .i64))))))]⟩, nres := 2, ms := [], mu := [], leak := true, glob := false, F := (formula_show_R k) }
noncomputable def formula_show_c : ShC := { inp := ⟨[.hole, .hole], [], [1, 1], [.sl tSym, .sl (.cons (.int .i64) (.cons (.int .i64) (.one (.sl (.one (.int .i64))))))]⟩, out := ⟨[.hole, .hole], [], [2, 0], [.str, .sl (.cons (.int .i64) (.cons (.int .i64) (.one (.sl (.one (.int .i64))))))]⟩, nres := 2, ms := [], mu := [], leak := true, glob := false, F := fun (x : ((List QSym) × (List (Int × Int × (List Int))))) => formula_show x.1 x.2 }
def formula_show_R_H (k : Nat) : Prop := ShOk Tryd.prog gl 21 (formula_show_ck k)
-- formula.show
noncomputable def formula_show_g (k : Nat) : List (Nat × Con) := [(21, .gen (altE [formula_show_ck k])), (24, .gen (altE [formula_ShowAtom_c])), (44, .gen (altE [strconv_Itoa_c]))]
noncomputable def formula_show_v (k : Nat) : Env := envOf tb gl (formula_show_g k) (formula_show_ck (k + 1)) Tryd.f21.ntmps
theorem formula_show_gs (k : Nat) (h : formula_show_R_H k) : Goods Tryd.prog (cond (formula_show_ck (k + 1)).glob gl fun _ => none) (formula_show_g k) := (goods_cons (good_alt (alls_cons (h.anyGl rfl) alls_nil)) (goods_cons (good_alt (alls_cons (formula_ShowAtom_ok.anyGl rfl) alls_nil)) (goods_cons (good_alt (alls_cons (strconv_Itoa_ok.anyGl rfl) alls_nil)) goods_nil)))
noncomputable def formula_show_a (k : Nat) : AC := .run
theorem formula_show_s (k : Nat) (x : TupL (formula_show_ck (k + 1)).inp.hs) : E (formula_show_v k) (bodyOf Tryd.f21) (formula_show_a k) ((formula_show_ck (k + 1)).entry x) (retSK tb (formula_show_v k).fz (formula_show_ck (k + 1)) [.tmp 4, .tmp 5] x) = (formula_show_ck (k + 1)).F x := by kernel_rfl
theorem formula_show_ok1 (k : Nat) (h : formula_show_R_H k) : ShOk Tryd.prog gl 21 (formula_show_ck (k + 1)) :=
  fn_ok (l := formula_show_g k) (n := Tryd.f21.ntmps) (code := bodyOf Tryd.f21) (rts := [.tmp 4, .tmp 5]) tb_ok hord (formula_show_gs k h) Tryd.func21 (by kernel_rfl) (by kernel_rfl) rfl (by kernel_rfl) (ac := formula_show_a k) (ob := []) (by kernel_rfl) (fun X hX => obl_nil) (by kernel_rfl) (formula_show_s k)

theorem formula_show_R_all : ∀ k, formula_show_R_H k
  | 0 => ⟨by kernel_rfl, fun w A g vs x y _ _ _ h => by cases h⟩
  | k + 1 => have h := formula_show_R_all k; formula_show_ok1 k h
theorem formula_show_ok : ShOk Tryd.prog gl 21 formula_show_c := (formula_show_R_all fuel)

noncomputable def formula_Show_c : ShC := { inp := ⟨[.hole, .hole], [], [1, 1], [.sl tSym, .sl (.cons (.int .i64) (.cons (.int .i64) (.one (.sl (.one (.int .i64))))))]⟩, out := ⟨[.hole, .hole], [], [2, 2], [.str, .int .i64]⟩, nres := 2, ms := [], mu := [], leak := false, glob := true, F := fun (x : ((List QSym) × (List (Int × Int × (List Int))))) => formula_Show x.1 x.2 }
-- formula.Show
noncomputable def formula_Show_g : List (Nat × Con) := [(13, .gen (altE [formula_May_c])), (21, .gen (altE [formula_show_c]))]
noncomputable def formula_Show_v : Env := envOf tb gl formula_Show_g formula_Show_c Tryd.f9.ntmps
theorem formula_Show_gs : Goods Tryd.prog (cond formula_Show_c.glob gl fun _ => none) formula_Show_g := (goods_cons (good_alt (alls_cons formula_May_ok alls_nil)) (goods_cons (good_alt (alls_cons (formula_show_ok.anyGl rfl) alls_nil)) goods_nil))
noncomputable def formula_Show_a : AC := .run
theorem formula_Show_s (x : TupL formula_Show_c.inp.hs) : E formula_Show_v (bodyOf Tryd.f9) (formula_Show_a) (formula_Show_c.entry x) (retSK tb formula_Show_v.fz formula_Show_c [.tmp 4, .tmp 5] x) = formula_Show_c.F x := by kernel_rfl
theorem formula_Show_ok : ShOk Tryd.prog gl 9 formula_Show_c :=
  fn_ok (l := formula_Show_g) (n := Tryd.f9.ntmps) (code := bodyOf Tryd.f9) (rts := [.tmp 4, .tmp 5]) tb_ok hord (formula_Show_gs) Tryd.func9 (by kernel_rfl) (by kernel_rfl) rfl (by kernel_rfl) (ac := formula_Show_a) (ob := []) (by kernel_rfl) (fun X hX => obl_nil) (by kernel_rfl) (formula_Show_s)

noncomputable def law24_TellAtoms_c : ShC := { inp := ⟨[.hole, (.agg [.hole, .hole])], [], [1, 1, 1], [.sl tSym, .bool, .sl (.one (.int .i64))]⟩, out := ⟨[.hole], [], [2], [.bool]⟩, nres := 1, ms := [], mu := [], leak := false, glob := true, F := fun (x : ((List QSym) × Bool × (List Int))) => law24_TellAtoms x.1 x.2.1 x.2.2 }
-- quaerelaw24.TellAtoms
noncomputable def law24_TellAtoms_g : List (Nat × Con) := [(8, .gen (altE [law24_awake_c])), (9, .gen (altE [formula_Show_c])), (10, .gen (altE [law0_Num_c])), (11, .gen (altE [ask_Show_c]))]
noncomputable def law24_TellAtoms_v : Env := envOf tb gl law24_TellAtoms_g law24_TellAtoms_c Tryd.f3.ntmps
theorem law24_TellAtoms_gs : Goods Tryd.prog (cond law24_TellAtoms_c.glob gl fun _ => none) law24_TellAtoms_g := (goods_cons (good_alt (alls_cons law24_awake_ok alls_nil)) (goods_cons (good_alt (alls_cons formula_Show_ok alls_nil)) (goods_cons (good_alt (alls_cons (law0_Num_ok.anyGl rfl) alls_nil)) (goods_cons (good_alt (alls_cons ask_Show_ok alls_nil)) goods_nil))))
noncomputable def law24_TellAtoms_a : AC := .run
theorem law24_TellAtoms_s (x : TupL law24_TellAtoms_c.inp.hs) : E law24_TellAtoms_v (bodyOf Tryd.f3) (law24_TellAtoms_a) (law24_TellAtoms_c.entry x) (retSK tb law24_TellAtoms_v.fz law24_TellAtoms_c [.tmp 4] x) = law24_TellAtoms_c.F x := by kernel_rfl
theorem law24_TellAtoms_ok : ShOk Tryd.prog gl 3 law24_TellAtoms_c :=
  fn_ok (l := law24_TellAtoms_g) (n := Tryd.f3.ntmps) (code := bodyOf Tryd.f3) (rts := [.tmp 4]) tb_ok hord (law24_TellAtoms_gs) Tryd.func3 (by kernel_rfl) (by kernel_rfl) rfl (by kernel_rfl) (ac := law24_TellAtoms_a) (ob := []) (by kernel_rfl) (fun X hX => obl_nil) (by kernel_rfl) (law24_TellAtoms_s)

end Go.Abs.Se
