import Derived.Test.YtanopgblnhaigaaGreatDoorFc
import Derived.Test.YtanopgblnhaigaaGreatDoorQb
import Derived.Test.YtanopgblnhaigaaGreatDoorProg
import Derived.Test.YtanopgblnhaigaaGreatDoorSh
/-
  The functions make just that.
-/
namespace Go.Abs.Sze
open Go Go.Abs Go.Abs.Q Go.Proofs
set_option maxRecDepth 100000
noncomputable def tbl : List (Nat × TD) := [(3, .int .i64),
  (4, .bool),
  (5, .int .u8),
  (9, .str),
  (22, .sl 91 tSym 40),
  (23, .sl 3 (.one (.int .i64)) 8),
  (26, .sl 23 (.one (.sl (.one (.int .i64)))) 24),
  (48, .sl 89 (.cons (.int .i64) (.cons (.int .i64) (.one (.sl (.one (.int .i64)))))) 40),
  (81, .sl 127 (.cons (.int .i64) (.one .str)) 24),
  (89, .st [(3, 0), (3, 1), (23, 2)] 3),
  (91, .st [(9, 0), (3, 1), (3, 2), (3, 3)] 4),
  (98, .sl 9 (.one .str) 16),
  (127, .st [(3, 0), (9, 1)] 2),
  (130, .st [(22, 0), (81, 1), (4, 2)] 3),
  (137, .st [(22, 0), (81, 1), (3, 2), (4, 3), (4, 4)] 5),
  (166, .sl 170 (.cons (.int .i64) (.one .bool)) 16),
  (170, .st [(3, 0), (4, 1)] 2)]
noncomputable def tb : Tb := tbOf tbl
theorem tb_ok : TbOk Tryz.prog tb := tb_check (by kernel_rfl)
theorem hord : Tryz.prog.follows .mixedOrders = true := by kernel_rfl
noncomputable def gl : Gl := fun q => cond (Nat.beq q 0) (some ⟨tSym, (([61], 0, 2, 1) : QSym)⟩) (none)
noncomputable def law0_CopySyms_c : ShC := { inp := ⟨[.hole], [], [1], [.sl tSym]⟩, out := ⟨[(.view 0)], [.seq false], [0], [.sl tSym]⟩, nres := 1, ms := [], mu := [], leak := true, glob := false, F := fun (x : (List QSym)) => law0_CopySyms x }
-- quaerelaw0.CopySyms
noncomputable def law0_CopySyms_g : List (Nat × Con) := []
noncomputable def law0_CopySyms_v : Env := envOf tb gl law0_CopySyms_g law0_CopySyms_c Tryz.f18.ntmps
theorem law0_CopySyms_gs : Goods Tryz.prog (cond law0_CopySyms_c.glob gl fun _ => none) law0_CopySyms_g := goods_nil
noncomputable def law0_CopySyms_a : AC := .run
theorem law0_CopySyms_s (x : TupL law0_CopySyms_c.inp.hs) : E law0_CopySyms_v (bodyOf Tryz.f18) (law0_CopySyms_a) (law0_CopySyms_c.entry x) (retSK tb law0_CopySyms_v.fz law0_CopySyms_c [.tmp 2] x) = law0_CopySyms_c.F x := by kernel_rfl
theorem law0_CopySyms_ok : ShOk Tryz.prog gl 18 law0_CopySyms_c :=
  fn_ok (l := law0_CopySyms_g) (n := Tryz.f18.ntmps) (code := bodyOf Tryz.f18) (rts := [.tmp 2]) tb_ok hord (law0_CopySyms_gs) Tryz.func18 (by kernel_rfl) (by kernel_rfl) rfl (by kernel_rfl) (ac := law0_CopySyms_a) (ob := []) (by kernel_rfl) (fun X hX => obl_nil) (by kernel_rfl) (law0_CopySyms_s)

noncomputable def lex_small_c : ShC := { inp := ⟨[.hole], [], [1], [.int .u8]⟩, out := ⟨[.hole], [], [2], [.bool]⟩, nres := 1, ms := [], mu := [], leak := false, glob := false, F := fun (x : Int) => lex_small x }
-- lex.small
noncomputable def lex_small_g : List (Nat × Con) := []
noncomputable def lex_small_v : Env := envOf tb gl lex_small_g lex_small_c Tryz.f85.ntmps
theorem lex_small_gs : Goods Tryz.prog (cond lex_small_c.glob gl fun _ => none) lex_small_g := goods_nil
noncomputable def lex_small_a : AC := .run
theorem lex_small_s (x : TupL lex_small_c.inp.hs) : E lex_small_v (bodyOf Tryz.f85) (lex_small_a) (lex_small_c.entry x) (retSK tb lex_small_v.fz lex_small_c [.tmp 2] x) = lex_small_c.F x := by kernel_rfl
theorem lex_small_ok : ShOk Tryz.prog gl 85 lex_small_c :=
  fn_ok (l := lex_small_g) (n := Tryz.f85.ntmps) (code := bodyOf Tryz.f85) (rts := [.tmp 2]) tb_ok hord (lex_small_gs) Tryz.func85 (by kernel_rfl) (by kernel_rfl) rfl (by kernel_rfl) (ac := lex_small_a) (ob := []) (by kernel_rfl) (fun X hX => obl_nil) (by kernel_rfl) (lex_small_s)

noncomputable def lex_digit_c : ShC := { inp := ⟨[.hole], [], [1], [.int .u8]⟩, out := ⟨[.hole], [], [2], [.bool]⟩, nres := 1, ms := [], mu := [], leak := false, glob := false, F := fun (x : Int) => lex_digit x }
-- lex.digit
noncomputable def lex_digit_g : List (Nat × Con) := []
noncomputable def lex_digit_v : Env := envOf tb gl lex_digit_g lex_digit_c Tryz.f86.ntmps
theorem lex_digit_gs : Goods Tryz.prog (cond lex_digit_c.glob gl fun _ => none) lex_digit_g := goods_nil
noncomputable def lex_digit_a : AC := .run
theorem lex_digit_s (x : TupL lex_digit_c.inp.hs) : E lex_digit_v (bodyOf Tryz.f86) (lex_digit_a) (lex_digit_c.entry x) (retSK tb lex_digit_v.fz lex_digit_c [.tmp 2] x) = lex_digit_c.F x := by kernel_rfl
theorem lex_digit_ok : ShOk Tryz.prog gl 86 lex_digit_c :=
  fn_ok (l := lex_digit_g) (n := Tryz.f86.ntmps) (code := bodyOf Tryz.f86) (rts := [.tmp 2]) tb_ok hord (lex_digit_gs) Tryz.func86 (by kernel_rfl) (by kernel_rfl) rfl (by kernel_rfl) (ac := lex_digit_a) (ob := []) (by kernel_rfl) (fun X hX => obl_nil) (by kernel_rfl) (lex_digit_s)

noncomputable def lex_run_c : ShC := { inp := ⟨[.hole, .hole, .hole], [], [1, 1, 1], [.str, .int .i64, .bool]⟩, out := ⟨[.hole], [], [2], [.int .i64]⟩, nres := 1, ms := [], mu := [], leak := false, glob := false, F := fun (x : (Str × Int × Bool)) => lex_run x.1 x.2.1 x.2.2 }
-- lex.run
noncomputable def lex_run_g : List (Nat × Con) := [(85, .gen (altE [lex_small_c])), (86, .gen (altE [lex_digit_c]))]
noncomputable def lex_run_v : Env := envOf tb gl lex_run_g lex_run_c Tryz.f89.ntmps
theorem lex_run_gs : Goods Tryz.prog (cond lex_run_c.glob gl fun _ => none) lex_run_g := (goods_cons (good_alt (alls_cons (lex_small_ok.anyGl rfl) alls_nil)) (goods_cons (good_alt (alls_cons (lex_digit_ok.anyGl rfl) alls_nil)) goods_nil))
noncomputable def lex_run_u0_h : SS := ⟨[0, 1, 2], ⟨[.hole, .hole, .hole], [], [2, 2, 2], [.str, .int .i64, .bool]⟩⟩
noncomputable def lex_run_u0_e : Exs := [((.exit 0), ⟨[1], ⟨[.hole], [], [2], [.int .i64]⟩⟩)]
noncomputable def lex_run_u0_a : AC := .run
noncomputable def lex_run_u0 : Un := lpU lex_run_v.fz [7, 8, 9, 10, 11, 12, 13, 14, 15, 16, 17, 18, 19, 20, 21, 22, 23, 24, 25, 26, 27, 1] lex_run_u0_h lex_run_u0_e (lp lex_run_L0 fuel)
theorem lex_run_u0_s (f : lex_run_u0_h.X → Option (YT lex_run_u0_e)) (x : lex_run_u0_h.X) : E lex_run_v (subC (bodyOf Tryz.f89) [1, 0, 0, 0]) (lex_run_u0_a) (mkS lex_run_u0_h 8 x) (roundK lex_run_v.fz lex_run_u0_h lex_run_u0_e f) = lex_run_L0 f x := by kernel_rfl
theorem lex_run_u0_ok {X : Fx} (hX : VOk Tryz.prog X lex_run_v) : UnOk Tryz.prog X lex_run_v (subC (bodyOf Tryz.f89) [1, 0, 0]) lex_run_u0 :=
  lp_un' (c := (subC (bodyOf Tryz.f89) [1, 0, 0, 0])) (by kernel_rfl) (env_all tb_ok (lex_run_gs)) hord (ob := []) (by kernel_rfl) (fun X hX => obl_nil) (lex_run_u0_s) (by kernel_rfl) (by kernel_rfl) hX
noncomputable def lex_run_a : AC := (.seq .run (.seq (.block (.unit lex_run_u0)) .run))
theorem lex_run_s (x : TupL lex_run_c.inp.hs) : E lex_run_v (bodyOf Tryz.f89) (lex_run_a) (lex_run_c.entry x) (retSK tb lex_run_v.fz lex_run_c [.tmp 6] x) = lex_run_c.F x := by kernel_rfl
theorem lex_run_ok : ShOk Tryz.prog gl 89 lex_run_c :=
  fn_ok (l := lex_run_g) (n := Tryz.f89.ntmps) (code := bodyOf Tryz.f89) (rts := [.tmp 6]) tb_ok hord (lex_run_gs) Tryz.func89 (by kernel_rfl) (by kernel_rfl) rfl (by kernel_rfl) (ac := lex_run_a) (ob := [((subC (bodyOf Tryz.f89) [1, 0, 0]), lex_run_u0)]) (by kernel_rfl) (fun X hX => (obl_cons (lex_run_u0_ok hX) obl_nil)) (by kernel_rfl) (lex_run_s)

noncomputable def internal_stringslite_HasPrefix_c : ShC := { inp := ⟨[.hole, .hole], [], [1, 1], [.str, .str]⟩, out := ⟨[.hole], [], [2], [.bool]⟩, nres := 1, ms := [], mu := [], leak := false, glob := false, F := fun (x : (Str × Str)) => internal_stringslite_HasPrefix x.1 x.2 }
-- internal/stringslite.HasPrefix
noncomputable def internal_stringslite_HasPrefix_g : List (Nat × Con) := []
noncomputable def internal_stringslite_HasPrefix_v : Env := envOf tb gl internal_stringslite_HasPrefix_g internal_stringslite_HasPrefix_c Tryz.f126.ntmps
theorem internal_stringslite_HasPrefix_gs : Goods Tryz.prog (cond internal_stringslite_HasPrefix_c.glob gl fun _ => none) internal_stringslite_HasPrefix_g := goods_nil
noncomputable def internal_stringslite_HasPrefix_a : AC := .run
theorem internal_stringslite_HasPrefix_s (x : TupL internal_stringslite_HasPrefix_c.inp.hs) : E internal_stringslite_HasPrefix_v (bodyOf Tryz.f126) (internal_stringslite_HasPrefix_a) (internal_stringslite_HasPrefix_c.entry x) (retSK tb internal_stringslite_HasPrefix_v.fz internal_stringslite_HasPrefix_c [.tmp 4] x) = internal_stringslite_HasPrefix_c.F x := by kernel_rfl
theorem internal_stringslite_HasPrefix_ok : ShOk Tryz.prog gl 126 internal_stringslite_HasPrefix_c :=
  fn_ok (l := internal_stringslite_HasPrefix_g) (n := Tryz.f126.ntmps) (code := bodyOf Tryz.f126) (rts := [.tmp 4]) tb_ok hord (internal_stringslite_HasPrefix_gs) Tryz.func126 (by kernel_rfl) (by kernel_rfl) rfl (by kernel_rfl) (ac := internal_stringslite_HasPrefix_a) (ob := []) (by kernel_rfl) (fun X hX => obl_nil) (by kernel_rfl) (internal_stringslite_HasPrefix_s)

noncomputable def strings_HasPrefix_c : ShC := { inp := ⟨[.hole, .hole], [], [1, 1], [.str, .str]⟩, out := ⟨[.hole], [], [2], [.bool]⟩, nres := 1, ms := [], mu := [], leak := false, glob := false, F := fun (x : (Str × Str)) => strings_HasPrefix x.1 x.2 }
-- strings.HasPrefix
noncomputable def strings_HasPrefix_g : List (Nat × Con) := [(126, .gen (altE [internal_stringslite_HasPrefix_c]))]
noncomputable def strings_HasPrefix_v : Env := envOf tb gl strings_HasPrefix_g strings_HasPrefix_c Tryz.f87.ntmps
theorem strings_HasPrefix_gs : Goods Tryz.prog (cond strings_HasPrefix_c.glob gl fun _ => none) strings_HasPrefix_g := (goods_cons (good_alt (alls_cons (internal_stringslite_HasPrefix_ok.anyGl rfl) alls_nil)) goods_nil)
noncomputable def strings_HasPrefix_a : AC := .run
theorem strings_HasPrefix_s (x : TupL strings_HasPrefix_c.inp.hs) : E strings_HasPrefix_v (bodyOf Tryz.f87) (strings_HasPrefix_a) (strings_HasPrefix_c.entry x) (retSK tb strings_HasPrefix_v.fz strings_HasPrefix_c [.tmp 4] x) = strings_HasPrefix_c.F x := by kernel_rfl
theorem strings_HasPrefix_ok : ShOk Tryz.prog gl 87 strings_HasPrefix_c :=
  fn_ok (l := strings_HasPrefix_g) (n := Tryz.f87.ntmps) (code := bodyOf Tryz.f87) (rts := [.tmp 4]) tb_ok hord (strings_HasPrefix_gs) Tryz.func87 (by kernel_rfl) (by kernel_rfl) rfl (by kernel_rfl) (ac := strings_HasPrefix_a) (ob := []) (by kernel_rfl) (fun X hX => obl_nil) (by kernel_rfl) (strings_HasPrefix_s)

noncomputable def strings_Contains_c : ShC := containsC
-- strings.Contains
theorem strings_Contains_ok : ShOk Tryz.prog gl 88 strings_Contains_c :=
  contains_ok (code := bodyOf Tryz.f88) Tryz.func88 (by kernel_rfl) (by kernel_rfl) (Nat.le_of_ble_eq_true (by kernel_rfl)) fun s c w => Tryz.strings_Contains_one s c w

noncomputable def lex_number_c : ShC := { inp := ⟨[.hole, .hole], [], [1, 1], [.str, .int .i64]⟩, out := ⟨[.hole], [], [2], [.bool]⟩, nres := 1, ms := [], mu := [], leak := false, glob := false, F := fun (x : (Str × Int)) => lex_number x.1 x.2 }
-- lex.number
noncomputable def lex_number_g : List (Nat × Con) := []
noncomputable def lex_number_v : Env := envOf tb gl lex_number_g lex_number_c Tryz.f90.ntmps
theorem lex_number_gs : Goods Tryz.prog (cond lex_number_c.glob gl fun _ => none) lex_number_g := goods_nil
noncomputable def lex_number_a : AC := .run
theorem lex_number_s (x : TupL lex_number_c.inp.hs) : E lex_number_v (bodyOf Tryz.f90) (lex_number_a) (lex_number_c.entry x) (retSK tb lex_number_v.fz lex_number_c [.tmp 4] x) = lex_number_c.F x := by kernel_rfl
theorem lex_number_ok : ShOk Tryz.prog gl 90 lex_number_c :=
  fn_ok (l := lex_number_g) (n := Tryz.f90.ntmps) (code := bodyOf Tryz.f90) (rts := [.tmp 4]) tb_ok hord (lex_number_gs) Tryz.func90 (by kernel_rfl) (by kernel_rfl) rfl (by kernel_rfl) (ac := lex_number_a) (ob := []) (by kernel_rfl) (fun X hX => obl_nil) (by kernel_rfl) (lex_number_s)

noncomputable def lex_Number_c : ShC := { inp := ⟨[.hole], [], [1], [.str]⟩, out := ⟨[.hole], [], [2], [.int .i64]⟩, nres := 1, ms := [], mu := [], leak := false, glob := false, F := fun (x : Str) => lex_Number x }
-- lex.Number
noncomputable def lex_Number_g : List (Nat × Con) := []
noncomputable def lex_Number_v : Env := envOf tb gl lex_Number_g lex_Number_c Tryz.f91.ntmps
theorem lex_Number_gs : Goods Tryz.prog (cond lex_Number_c.glob gl fun _ => none) lex_Number_g := goods_nil
noncomputable def lex_Number_u0_h : SS := ⟨[0, 3, 6, 7], ⟨[.hole, .hole, .hole, .hole], [], [2, 2, 2, 2], [.str, .int .i64, .int .i64, .int .i64]⟩⟩
noncomputable def lex_Number_u0_e : Exs := [((.exit 0), ⟨[3], ⟨[.hole], [], [2], [.int .i64]⟩⟩)]
noncomputable def lex_Number_u0_a : AC := .run
noncomputable def lex_Number_u0 : Un := lpU lex_Number_v.fz [8, 9, 4, 10, 11, 12, 13, 14, 15, 16, 17, 3, 18, 7] lex_Number_u0_h lex_Number_u0_e (lp lex_Number_L0 fuel)
theorem lex_Number_u0_s (f : lex_Number_u0_h.X → Option (YT lex_Number_u0_e)) (x : lex_Number_u0_h.X) : E lex_Number_v (subC (bodyOf Tryz.f91) [1, 1, 0, 1, 0, 0]) (lex_Number_u0_a) (mkS lex_Number_u0_h 8 x) (roundK lex_Number_v.fz lex_Number_u0_h lex_Number_u0_e f) = lex_Number_L0 f x := by kernel_rfl
theorem lex_Number_u0_ok {X : Fx} (hX : VOk Tryz.prog X lex_Number_v) : UnOk Tryz.prog X lex_Number_v (subC (bodyOf Tryz.f91) [1, 1, 0, 1, 0]) lex_Number_u0 :=
  lp_un' (c := (subC (bodyOf Tryz.f91) [1, 1, 0, 1, 0, 0])) (by kernel_rfl) (env_all tb_ok (lex_Number_gs)) hord (ob := []) (by kernel_rfl) (fun X hX => obl_nil) (lex_Number_u0_s) (by kernel_rfl) (by kernel_rfl) hX
noncomputable def lex_Number_a : AC := (.seq .run (.seq .run (.seq (.seq .run (.block (.unit lex_Number_u0))) .run)))
theorem lex_Number_s (x : TupL lex_Number_c.inp.hs) : E lex_Number_v (bodyOf Tryz.f91) (lex_Number_a) (lex_Number_c.entry x) (retSK tb lex_Number_v.fz lex_Number_c [.tmp 2] x) = lex_Number_c.F x := by kernel_rfl
theorem lex_Number_ok : ShOk Tryz.prog gl 91 lex_Number_c :=
  fn_ok (l := lex_Number_g) (n := Tryz.f91.ntmps) (code := bodyOf Tryz.f91) (rts := [.tmp 2]) tb_ok hord (lex_Number_gs) Tryz.func91 (by kernel_rfl) (by kernel_rfl) rfl (by kernel_rfl) (ac := lex_Number_a) (ob := [((subC (bodyOf Tryz.f91) [1, 1, 0, 1, 0]), lex_Number_u0)]) (by kernel_rfl) (fun X hX => (obl_cons (lex_Number_u0_ok hX) obl_nil)) (by kernel_rfl) (lex_Number_s)

noncomputable def lex_Lex_c : ShC := { inp := ⟨[.hole], [], [1], [.str]⟩, out := ⟨[(.view 0), .hole], [.seq false], [2, 2], [.int .i64, .sl (.cons (.int .i64) (.one .str))]⟩, nres := 2, ms := [], mu := [], leak := false, glob := false, F := fun (x : Str) => lex_Lex x }
-- lex.Lex
noncomputable def lex_Lex_g : List (Nat × Con) := [(85, .gen (altE [lex_small_c])), (86, .gen (altE [lex_digit_c])), (87, .gen (altE [strings_HasPrefix_c])), (88, .gen (altE [strings_Contains_c])), (89, .gen (altE [lex_run_c])), (90, .gen (altE [lex_number_c])), (91, .gen (altE [lex_Number_c]))]
noncomputable def lex_Lex_v : Env := envOf tb gl lex_Lex_g lex_Lex_c Tryz.f47.ntmps
theorem lex_Lex_gs : Goods Tryz.prog (cond lex_Lex_c.glob gl fun _ => none) lex_Lex_g := (goods_cons (good_alt (alls_cons (lex_small_ok.anyGl rfl) alls_nil)) (goods_cons (good_alt (alls_cons (lex_digit_ok.anyGl rfl) alls_nil)) (goods_cons (good_alt (alls_cons (strings_HasPrefix_ok.anyGl rfl) alls_nil)) (goods_cons (good_alt (alls_cons (strings_Contains_ok.anyGl rfl) alls_nil)) (goods_cons (good_alt (alls_cons (lex_run_ok.anyGl rfl) alls_nil)) (goods_cons (good_alt (alls_cons (lex_number_ok.anyGl rfl) alls_nil)) (goods_cons (good_alt (alls_cons (lex_Number_ok.anyGl rfl) alls_nil)) goods_nil)))))))
noncomputable def lex_Lex_u2_h : SS := ⟨[0, 5], ⟨[.hole, .hole], [], [2, 2], [.str, .int .i64]⟩⟩
noncomputable def lex_Lex_u2_e : Exs := [((.exit 0), ⟨[5], ⟨[.hole], [], [2], [.int .i64]⟩⟩)]
noncomputable def lex_Lex_u2_a : AC := .run
noncomputable def lex_Lex_u2 : Un := lpU lex_Lex_v.fz [11, 12, 13, 14, 15, 16, 17, 18, 19, 20, 21, 22, 5] lex_Lex_u2_h lex_Lex_u2_e (lp lex_Lex_L2 fuel)
theorem lex_Lex_u2_s (f : lex_Lex_u2_h.X → Option (YT lex_Lex_u2_e)) (x : lex_Lex_u2_h.X) : E lex_Lex_v (subC (restOf (subC (bodyOf Tryz.f47) [1, 0]) 1) [1, 0, 0, 0]) (lex_Lex_u2_a) (mkS lex_Lex_u2_h 8 x) (roundK lex_Lex_v.fz lex_Lex_u2_h lex_Lex_u2_e f) = lex_Lex_L2 f x := by kernel_rfl
theorem lex_Lex_u2_ok {X : Fx} (hX : VOk Tryz.prog X lex_Lex_v) : UnOk Tryz.prog X lex_Lex_v (subC (restOf (subC (bodyOf Tryz.f47) [1, 0]) 1) [1, 0, 0]) lex_Lex_u2 :=
  lp_un' (c := (subC (restOf (subC (bodyOf Tryz.f47) [1, 0]) 1) [1, 0, 0, 0])) (by kernel_rfl) (env_all tb_ok (lex_Lex_gs)) hord (ob := []) (by kernel_rfl) (fun X hX => obl_nil) (lex_Lex_u2_s) (by kernel_rfl) (by kernel_rfl) hX
noncomputable def lex_Lex_u1_h : SS := ⟨[0, 4, 5], ⟨[.hole, .nilv, .hole], [], [2, 2], [.str, .int .i64]⟩⟩
noncomputable def lex_Lex_u1_e : Exs := [((.exit 0), ⟨[5], ⟨[.hole], [], [2], [.int .i64]⟩⟩)]
noncomputable def lex_Lex_u1_a : AC := .run
noncomputable def lex_Lex_u1 : Un := lpU lex_Lex_v.fz [11, 12, 13, 14, 15, 16, 17, 18, 19, 20, 21, 22, 5] lex_Lex_u1_h lex_Lex_u1_e (lp lex_Lex_L1 fuel)
theorem lex_Lex_u1_s (f : lex_Lex_u1_h.X → Option (YT lex_Lex_u1_e)) (x : lex_Lex_u1_h.X) : E lex_Lex_v (subC (bodyOf Tryz.f47) [1, 0, 1, 1, 1, 1, 0, 0, 0]) (lex_Lex_u1_a) (mkS lex_Lex_u1_h 8 x) (roundK lex_Lex_v.fz lex_Lex_u1_h lex_Lex_u1_e f) = lex_Lex_L1 f x := by kernel_rfl
theorem lex_Lex_u1_ok {X : Fx} (hX : VOk Tryz.prog X lex_Lex_v) : UnOk Tryz.prog X lex_Lex_v (subC (bodyOf Tryz.f47) [1, 0, 1, 1, 1, 1, 0, 0]) lex_Lex_u1 :=
  lp_un' (c := (subC (bodyOf Tryz.f47) [1, 0, 1, 1, 1, 1, 0, 0, 0])) (by kernel_rfl) (env_all tb_ok (lex_Lex_gs)) hord (ob := []) (by kernel_rfl) (fun X hX => obl_nil) (lex_Lex_u1_s) (by kernel_rfl) (by kernel_rfl) hX
noncomputable def lex_Lex_u0_j : Exs := [(.goto 0, ⟨[], ⟨[], [], [], []⟩⟩), (.goto 1, ⟨[0, 4, 5], ⟨[.hole, (.view 0), .hole], [.seq false], [2, 2, 2], [.str, .int .i64, .sl (.cons (.int .i64) (.one .str))]⟩⟩), (.goto 2, ⟨[0, 4, 5], ⟨[.hole, (.view 0), .hole], [.seq false], [2, 2, 2], [.str, .int .i64, .sl (.cons (.int .i64) (.one .str))]⟩⟩), (.goto 3, ⟨[0, 4, 5], ⟨[.hole, (.view 0), .hole], [.seq false], [2, 2, 2], [.str, .int .i64, .sl (.cons (.int .i64) (.one .str))]⟩⟩), (.goto 4, ⟨[0, 4, 5], ⟨[.hole, (.view 0), .hole], [.seq false], [2, 2, 2], [.str, .int .i64, .sl (.cons (.int .i64) (.one .str))]⟩⟩), (.goto 5, ⟨[0, 4, 5, 6, 7], ⟨[.hole, (.view 0), .hole, .hole, .hole], [.seq false], [2, 2, 2, 2, 2], [.str, .int .i64, .int .i64, .int .i64, .sl (.cons (.int .i64) (.one .str))]⟩⟩)]
noncomputable def lex_Lex_u0_e : Exs := [(.ret, ⟨[2, 3], ⟨[(.view 0), .hole], [.seq false], [2, 2], [.int .i64, .sl (.cons (.int .i64) (.one .str))]⟩⟩)]
noncomputable def lex_Lex_u0_a : AC := (.seq .run (.seq .run (.seq .run (.seq .run (.seq (.block (.unit lex_Lex_u1)) .run)))))
noncomputable def lex_Lex_u0_l : List (Nat × AC) := [(1, (.seq .run (.seq (.block (.unit lex_Lex_u2)) .run)))]
noncomputable def lex_Lex_u0 : Un := scU lex_Lex_v [4, 5, 6, 7, 8, 9, 10, 11, 12, 13, 14, 15, 16, 17, 18, 19, 20, 21, 22, 5, 24, 25, 26, 27, 23, 28, 2, 3, 30, 31, 32, 33, 29, 35, 36, 37, 38, 34, 40, 41, 42, 43, 39, 44, 45, 7, 6, 46, 47, 48, 49, 50, 51, 6, 52, 53, 54, 55, 56, 57, 58, 59, 60, 7, 6, 61, 62, 63, 64, 65, 66, 67, 68, 7, 6, 69, 70, 71, 72, 73, 74, 75, 76, 77, 78, 79, 80, 81, 82, 83, 84, 85, 86, 87, 7, 6, 88, 89, 90, 91, 92, 93, 94, 95, 96, 97, 98, 99, 100, 101, 102, 4, 103, 5, 2, 3] lex_Lex_u0_j lex_Lex_u0_e (subC (bodyOf Tryz.f47) [1, 0]) (lex_Lex_u0_a) (lp lex_Lex_L0 fuel)
theorem lex_Lex_u0_s (f : YT lex_Lex_u0_j → Option (YT lex_Lex_u0_e)) (x : YT lex_Lex_u0_j) : passE lex_Lex_v (subC (bodyOf Tryz.f47) [1, 0]) (acsOf (lex_Lex_u0_l)) lex_Lex_u0_j lex_Lex_u0_e f x = lex_Lex_L0 f x := by kernel_rfl
theorem lex_Lex_u0_ok {X : Fx} (hX : VOk Tryz.prog X lex_Lex_v) : UnOk Tryz.prog X lex_Lex_v (subC (bodyOf Tryz.f47) [1]) lex_Lex_u0 :=
  sc_un' (c := (subC (bodyOf Tryz.f47) [1, 0])) (by kernel_rfl) (env_all tb_ok (lex_Lex_gs)) hord (ob := [((subC (bodyOf Tryz.f47) [1, 0, 1, 1, 1, 1, 0, 0]), lex_Lex_u1)]) (by kernel_rfl) (fun X hX => (obl_cons (lex_Lex_u1_ok hX) obl_nil)) (fun X hX => acs_ok (acl_cons (ob := [((subC (restOf (subC (bodyOf Tryz.f47) [1, 0]) 1) [1, 0, 0]), lex_Lex_u2)]) (by kernel_rfl) (obl_cons (lex_Lex_u2_ok hX) obl_nil) acl_nil)) (lex_Lex_u0_s) (by kernel_rfl) (by kernel_rfl) (by kernel_rfl) hX
noncomputable def lex_Lex_a : AC := (.seq .run (.unit lex_Lex_u0))
theorem lex_Lex_s (x : TupL lex_Lex_c.inp.hs) : E lex_Lex_v (bodyOf Tryz.f47) (lex_Lex_a) (lex_Lex_c.entry x) (retSK tb lex_Lex_v.fz lex_Lex_c [.tmp 2, .tmp 3] x) = lex_Lex_c.F x := by kernel_rfl
theorem lex_Lex_ok : ShOk Tryz.prog gl 47 lex_Lex_c :=
  fn_ok (l := lex_Lex_g) (n := Tryz.f47.ntmps) (code := bodyOf Tryz.f47) (rts := [.tmp 2, .tmp 3]) tb_ok hord (lex_Lex_gs) Tryz.func47 (by kernel_rfl) (by kernel_rfl) rfl (by kernel_rfl) (ac := lex_Lex_a) (ob := [((subC (bodyOf Tryz.f47) [1]), lex_Lex_u0)]) (by kernel_rfl) (fun X hX => (obl_cons (lex_Lex_u0_ok hX) obl_nil)) (by kernel_rfl) (lex_Lex_s)

noncomputable def sign_small_c : ShC := { inp := ⟨[.hole], [], [1], [.int .u8]⟩, out := ⟨[.hole], [], [2], [.bool]⟩, nres := 1, ms := [], mu := [], leak := false, glob := false, F := fun (x : Int) => sign_small x }
-- sign.small
noncomputable def sign_small_g : List (Nat × Con) := []
noncomputable def sign_small_v : Env := envOf tb gl sign_small_g sign_small_c Tryz.f151.ntmps
theorem sign_small_gs : Goods Tryz.prog (cond sign_small_c.glob gl fun _ => none) sign_small_g := goods_nil
noncomputable def sign_small_a : AC := .run
theorem sign_small_s (x : TupL sign_small_c.inp.hs) : E sign_small_v (bodyOf Tryz.f151) (sign_small_a) (sign_small_c.entry x) (retSK tb sign_small_v.fz sign_small_c [.tmp 2] x) = sign_small_c.F x := by kernel_rfl
theorem sign_small_ok : ShOk Tryz.prog gl 151 sign_small_c :=
  fn_ok (l := sign_small_g) (n := Tryz.f151.ntmps) (code := bodyOf Tryz.f151) (rts := [.tmp 2]) tb_ok hord (sign_small_gs) Tryz.func151 (by kernel_rfl) (by kernel_rfl) rfl (by kernel_rfl) (ac := sign_small_a) (ob := []) (by kernel_rfl) (fun X hX => obl_nil) (by kernel_rfl) (sign_small_s)

noncomputable def sign_called_c : ShC := { inp := ⟨[.hole], [], [1], [.str]⟩, out := ⟨[.hole], [], [2], [.bool]⟩, nres := 1, ms := [], mu := [], leak := false, glob := false, F := fun (x : Str) => sign_called x }
-- sign.called
noncomputable def sign_called_g : List (Nat × Con) := [(151, .gen (altE [sign_small_c]))]
noncomputable def sign_called_v : Env := envOf tb gl sign_called_g sign_called_c Tryz.f113.ntmps
theorem sign_called_gs : Goods Tryz.prog (cond sign_called_c.glob gl fun _ => none) sign_called_g := (goods_cons (good_alt (alls_cons (sign_small_ok.anyGl rfl) alls_nil)) goods_nil)
noncomputable def sign_called_u0_h : SS := ⟨[0, 18, 19], ⟨[.hole, .hole, .hole], [], [2, 2, 2], [.str, .int .i64, .int .i64]⟩⟩
noncomputable def sign_called_u0_e : Exs := [((.exit 0), ⟨[], ⟨[], [], [], []⟩⟩), (.ret, ⟨[2], ⟨[.hole], [], [2], [.bool]⟩⟩)]
noncomputable def sign_called_u0_a : AC := .run
noncomputable def sign_called_u0 : Un := lpU sign_called_v.fz [20, 21, 3, 22, 23, 24, 25, 26, 27, 28, 29, 30, 31, 32, 33, 34, 35, 36, 37, 38, 2, 39, 19] sign_called_u0_h sign_called_u0_e (lp sign_called_L0 fuel)
theorem sign_called_u0_s (f : sign_called_u0_h.X → Option (YT sign_called_u0_e)) (x : sign_called_u0_h.X) : E sign_called_v (subC (bodyOf Tryz.f113) [1, 1, 0, 1, 0, 0]) (sign_called_u0_a) (mkS sign_called_u0_h 8 x) (roundK sign_called_v.fz sign_called_u0_h sign_called_u0_e f) = sign_called_L0 f x := by kernel_rfl
theorem sign_called_u0_ok {X : Fx} (hX : VOk Tryz.prog X sign_called_v) : UnOk Tryz.prog X sign_called_v (subC (bodyOf Tryz.f113) [1, 1, 0, 1, 0]) sign_called_u0 :=
  lp_un' (c := (subC (bodyOf Tryz.f113) [1, 1, 0, 1, 0, 0])) (by kernel_rfl) (env_all tb_ok (sign_called_gs)) hord (ob := []) (by kernel_rfl) (fun X hX => obl_nil) (sign_called_u0_s) (by kernel_rfl) (by kernel_rfl) hX
noncomputable def sign_called_a : AC := (.seq .run (.seq .run (.seq (.seq .run (.block (.unit sign_called_u0))) .run)))
theorem sign_called_s (x : TupL sign_called_c.inp.hs) : E sign_called_v (bodyOf Tryz.f113) (sign_called_a) (sign_called_c.entry x) (retSK tb sign_called_v.fz sign_called_c [.tmp 2] x) = sign_called_c.F x := by kernel_rfl
theorem sign_called_ok : ShOk Tryz.prog gl 113 sign_called_c :=
  fn_ok (l := sign_called_g) (n := Tryz.f113.ntmps) (code := bodyOf Tryz.f113) (rts := [.tmp 2]) tb_ok hord (sign_called_gs) Tryz.func113 (by kernel_rfl) (by kernel_rfl) rfl (by kernel_rfl) (ac := sign_called_a) (ob := [((subC (bodyOf Tryz.f113) [1, 1, 0, 1, 0]), sign_called_u0)]) (by kernel_rfl) (fun X hX => (obl_cons (sign_called_u0_ok hX) obl_nil)) (by kernel_rfl) (sign_called_s)

noncomputable def sign_SymMay_c : ShC := { inp := ⟨[(.agg [.hole, .hole, .hole, .hole])], [], [1, 1, 1, 1], [.str, .int .i64, .int .i64, .int .i64]⟩, out := ⟨[.hole], [], [2], [.bool]⟩, nres := 1, ms := [], mu := [], leak := false, glob := false, F := fun (x : QSym) => sign_SymMay x.1 x.2.1 x.2.2.1 x.2.2.2 }
-- sign.SymMay
noncomputable def sign_SymMay_g : List (Nat × Con) := [(113, .gen (altE [sign_called_c]))]
noncomputable def sign_SymMay_v : Env := envOf tb gl sign_SymMay_g sign_SymMay_c Tryz.f72.ntmps
theorem sign_SymMay_gs : Goods Tryz.prog (cond sign_SymMay_c.glob gl fun _ => none) sign_SymMay_g := (goods_cons (good_alt (alls_cons (sign_called_ok.anyGl rfl) alls_nil)) goods_nil)
noncomputable def sign_SymMay_a : AC := .run
theorem sign_SymMay_s (x : TupL sign_SymMay_c.inp.hs) : E sign_SymMay_v (bodyOf Tryz.f72) (sign_SymMay_a) (sign_SymMay_c.entry x) (retSK tb sign_SymMay_v.fz sign_SymMay_c [.tmp 2] x) = sign_SymMay_c.F x := by kernel_rfl
theorem sign_SymMay_ok : ShOk Tryz.prog gl 72 sign_SymMay_c :=
  fn_ok (l := sign_SymMay_g) (n := Tryz.f72.ntmps) (code := bodyOf Tryz.f72) (rts := [.tmp 2]) tb_ok hord (sign_SymMay_gs) Tryz.func72 (by kernel_rfl) (by kernel_rfl) rfl (by kernel_rfl) (ac := sign_SymMay_a) (ob := []) (by kernel_rfl) (fun X hX => obl_nil) (by kernel_rfl) (sign_SymMay_s)

noncomputable def sign_find_c : ShC := { inp := ⟨[.hole, .hole], [], [1, 1], [.sl tSym, .str]⟩, out := ⟨[.hole], [], [2], [.int .i64]⟩, nres := 1, ms := [], mu := [], leak := false, glob := false, F := fun (x : ((List QSym) × Str)) => sign_find x.1 x.2 }
-- sign.find
noncomputable def sign_find_g : List (Nat × Con) := []
noncomputable def sign_find_v : Env := envOf tb gl sign_find_g sign_find_c Tryz.f73.ntmps
theorem sign_find_gs : Goods Tryz.prog (cond sign_find_c.glob gl fun _ => none) sign_find_g := goods_nil
noncomputable def sign_find_u0_h : SS := ⟨[0, 1, 7, 8], ⟨[.hole, .hole, .hole, .hole], [], [1, 2, 2, 2], [.sl tSym, .str, .int .i64, .int .i64]⟩⟩
noncomputable def sign_find_u0_e : Exs := [((.exit 0), ⟨[], ⟨[], [], [], []⟩⟩), (.ret, ⟨[4], ⟨[.hole], [], [2], [.int .i64]⟩⟩)]
noncomputable def sign_find_u0_a : AC := .run
noncomputable def sign_find_u0 : Un := lpU sign_find_v.fz [9, 10, 5, 11, 12, 13, 14, 15, 16, 17, 18, 4, 19, 8] sign_find_u0_h sign_find_u0_e (lp sign_find_L0 fuel)
theorem sign_find_u0_s (f : sign_find_u0_h.X → Option (YT sign_find_u0_e)) (x : sign_find_u0_h.X) : E sign_find_v (subC (bodyOf Tryz.f73) [1, 0, 1, 0, 0]) (sign_find_u0_a) (mkS sign_find_u0_h 8 x) (roundK sign_find_v.fz sign_find_u0_h sign_find_u0_e f) = sign_find_L0 f x := by kernel_rfl
theorem sign_find_u0_ok {X : Fx} (hX : VOk Tryz.prog X sign_find_v) : UnOk Tryz.prog X sign_find_v (subC (bodyOf Tryz.f73) [1, 0, 1, 0]) sign_find_u0 :=
  lp_un' (c := (subC (bodyOf Tryz.f73) [1, 0, 1, 0, 0])) (by kernel_rfl) (env_all tb_ok (sign_find_gs)) hord (ob := []) (by kernel_rfl) (fun X hX => obl_nil) (sign_find_u0_s) (by kernel_rfl) (by kernel_rfl) hX
noncomputable def sign_find_a : AC := (.seq .run (.seq (.seq .run (.block (.unit sign_find_u0))) .run))
theorem sign_find_s (x : TupL sign_find_c.inp.hs) : E sign_find_v (bodyOf Tryz.f73) (sign_find_a) (sign_find_c.entry x) (retSK tb sign_find_v.fz sign_find_c [.tmp 4] x) = sign_find_c.F x := by kernel_rfl
theorem sign_find_ok : ShOk Tryz.prog gl 73 sign_find_c :=
  fn_ok (l := sign_find_g) (n := Tryz.f73.ntmps) (code := bodyOf Tryz.f73) (rts := [.tmp 4]) tb_ok hord (sign_find_gs) Tryz.func73 (by kernel_rfl) (by kernel_rfl) rfl (by kernel_rfl) (ac := sign_find_a) (ob := [((subC (bodyOf Tryz.f73) [1, 0, 1, 0]), sign_find_u0)]) (by kernel_rfl) (fun X hX => (obl_cons (sign_find_u0_ok hX) obl_nil)) (by kernel_rfl) (sign_find_s)

noncomputable def sign_May_c : ShC := { inp := ⟨[.hole], [], [1], [.sl tSym]⟩, out := ⟨[.hole], [], [2], [.bool]⟩, nres := 1, ms := [], mu := [], leak := false, glob := true, F := fun (x : (List QSym)) => sign_May x }
-- sign.May
noncomputable def sign_May_g : List (Nat × Con) := [(72, .gen (altE [sign_SymMay_c])), (73, .gen (altE [sign_find_c]))]
noncomputable def sign_May_v : Env := envOf tb gl sign_May_g sign_May_c Tryz.f33.ntmps
theorem sign_May_gs : Goods Tryz.prog (cond sign_May_c.glob gl fun _ => none) sign_May_g := (goods_cons (good_alt (alls_cons (sign_SymMay_ok.anyGl rfl) alls_nil)) (goods_cons (good_alt (alls_cons (sign_find_ok.anyGl rfl) alls_nil)) goods_nil))
noncomputable def sign_May_u0_h : SS := ⟨[0, 3], ⟨[.hole, .hole], [], [1, 2], [.sl tSym, .int .i64]⟩⟩
noncomputable def sign_May_u0_e : Exs := [((.exit 0), ⟨[], ⟨[], [], [], []⟩⟩), (.ret, ⟨[2], ⟨[.hole], [], [2], [.bool]⟩⟩)]
noncomputable def sign_May_u0_a : AC := .run
noncomputable def sign_May_u0 : Un := lpU sign_May_v.fz [19, 20, 21, 22, 25, 26, 27, 28, 29, 30, 31, 32, 33, 34, 35, 36, 37, 38, 39, 40, 41, 2, 23, 24, 3] sign_May_u0_h sign_May_u0_e (lp sign_May_L0 fuel)
theorem sign_May_u0_s (f : sign_May_u0_h.X → Option (YT sign_May_u0_e)) (x : sign_May_u0_h.X) : E sign_May_v (subC (bodyOf Tryz.f33) [1, 1, 0, 1, 0, 0]) (sign_May_u0_a) (mkS sign_May_u0_h 8 x) (roundK sign_May_v.fz sign_May_u0_h sign_May_u0_e f) = sign_May_L0 f x := by kernel_rfl
theorem sign_May_u0_ok {X : Fx} (hX : VOk Tryz.prog X sign_May_v) : UnOk Tryz.prog X sign_May_v (subC (bodyOf Tryz.f33) [1, 1, 0, 1, 0]) sign_May_u0 :=
  lp_un' (c := (subC (bodyOf Tryz.f33) [1, 1, 0, 1, 0, 0])) (by kernel_rfl) (env_all tb_ok (sign_May_gs)) hord (ob := []) (by kernel_rfl) (fun X hX => obl_nil) (sign_May_u0_s) (by kernel_rfl) (by kernel_rfl) hX
noncomputable def sign_May_a : AC := (.seq .run (.seq .run (.seq (.seq .run (.block (.unit sign_May_u0))) .run)))
theorem sign_May_s (x : TupL sign_May_c.inp.hs) : E sign_May_v (bodyOf Tryz.f33) (sign_May_a) (sign_May_c.entry x) (retSK tb sign_May_v.fz sign_May_c [.tmp 2] x) = sign_May_c.F x := by kernel_rfl
theorem sign_May_ok : ShOk Tryz.prog gl 33 sign_May_c :=
  fn_ok (l := sign_May_g) (n := Tryz.f33.ntmps) (code := bodyOf Tryz.f33) (rts := [.tmp 2]) tb_ok hord (sign_May_gs) Tryz.func33 (by kernel_rfl) (by kernel_rfl) rfl (by kernel_rfl) (ac := sign_May_a) (ob := [((subC (bodyOf Tryz.f33) [1, 1, 0, 1, 0]), sign_May_u0)]) (by kernel_rfl) (fun X hX => (obl_cons (sign_May_u0_ok hX) obl_nil)) (by kernel_rfl) (sign_May_s)

noncomputable def formula_SigMay_c1_c : ShC := { inp := ⟨[(.agg [.hole, .hole, .hole, .hole])], [], [1, 1, 1, 1], [.str, .int .i64, .int .i64, .int .i64]⟩, out := ⟨[.hole], [], [2], [.bool]⟩, nres := 1, ms := [], mu := [], leak := false, glob := false, F := fun (x : QSym) => formula_SigMay_c1 x.1 x.2.1 x.2.2.1 x.2.2.2 }
-- formula.SigMay$1
noncomputable def formula_SigMay_c1_g : List (Nat × Con) := []
noncomputable def formula_SigMay_c1_v : Env := envOf tb gl formula_SigMay_c1_g formula_SigMay_c1_c Tryz.f99.ntmps
theorem formula_SigMay_c1_gs : Goods Tryz.prog (cond formula_SigMay_c1_c.glob gl fun _ => none) formula_SigMay_c1_g := goods_nil
noncomputable def formula_SigMay_c1_a : AC := .run
theorem formula_SigMay_c1_s (x : TupL formula_SigMay_c1_c.inp.hs) : E formula_SigMay_c1_v (bodyOf Tryz.f99) (formula_SigMay_c1_a) (formula_SigMay_c1_c.entry x) (retSK tb formula_SigMay_c1_v.fz formula_SigMay_c1_c [.tmp 2] x) = formula_SigMay_c1_c.F x := by kernel_rfl
theorem formula_SigMay_c1_ok : ShOk Tryz.prog gl 99 formula_SigMay_c1_c :=
  fn_ok (l := formula_SigMay_c1_g) (n := Tryz.f99.ntmps) (code := bodyOf Tryz.f99) (rts := [.tmp 2]) tb_ok hord (formula_SigMay_c1_gs) Tryz.func99 (by kernel_rfl) (by kernel_rfl) rfl (by kernel_rfl) (ac := formula_SigMay_c1_a) (ob := []) (by kernel_rfl) (fun X hX => obl_nil) (by kernel_rfl) (formula_SigMay_c1_s)

noncomputable def slices_IndexFunc_5_c : ShC := { inp := ⟨[.hole, (.clo 99 [])], [], [1], [.sl tSym]⟩, out := ⟨[.hole], [], [2], [.int .i64]⟩, nres := 1, ms := [], mu := [], leak := false, glob := false, F := fun (x : (List QSym)) => slices_IndexFunc_5 x }
-- slices.IndexFunc[[]api.Sym,api.Sym]
noncomputable def slices_IndexFunc_5_g : List (Nat × Con) := [(99, .gen (altE [formula_SigMay_c1_c]))]
noncomputable def slices_IndexFunc_5_v : Env := envOf tb gl slices_IndexFunc_5_g slices_IndexFunc_5_c Tryz.f144.ntmps
theorem slices_IndexFunc_5_gs : Goods Tryz.prog (cond slices_IndexFunc_5_c.glob gl fun _ => none) slices_IndexFunc_5_g := (goods_cons (good_alt (alls_cons (formula_SigMay_c1_ok.anyGl rfl) alls_nil)) goods_nil)
noncomputable def slices_IndexFunc_5_u0_h : SS := ⟨[0, 1, 7, 8], ⟨[.hole, (.clo 99 []), .hole, .hole], [], [1, 2, 2], [.sl tSym, .int .i64, .int .i64]⟩⟩
noncomputable def slices_IndexFunc_5_u0_e : Exs := [((.exit 0), ⟨[], ⟨[], [], [], []⟩⟩), (.ret, ⟨[4], ⟨[.hole], [], [2], [.int .i64]⟩⟩)]
noncomputable def slices_IndexFunc_5_u0_a : AC := .run
noncomputable def slices_IndexFunc_5_u0 : Un := lpU slices_IndexFunc_5_v.fz [9, 10, 5, 11, 12, 13, 14, 15, 16, 17, 4, 18, 8] slices_IndexFunc_5_u0_h slices_IndexFunc_5_u0_e (lp slices_IndexFunc_5_L0 fuel)
theorem slices_IndexFunc_5_u0_s (f : slices_IndexFunc_5_u0_h.X → Option (YT slices_IndexFunc_5_u0_e)) (x : slices_IndexFunc_5_u0_h.X) : E slices_IndexFunc_5_v (subC (bodyOf Tryz.f144) [1, 0, 1, 0, 0]) (slices_IndexFunc_5_u0_a) (mkS slices_IndexFunc_5_u0_h 8 x) (roundK slices_IndexFunc_5_v.fz slices_IndexFunc_5_u0_h slices_IndexFunc_5_u0_e f) = slices_IndexFunc_5_L0 f x := by kernel_rfl
theorem slices_IndexFunc_5_u0_ok {X : Fx} (hX : VOk Tryz.prog X slices_IndexFunc_5_v) : UnOk Tryz.prog X slices_IndexFunc_5_v (subC (bodyOf Tryz.f144) [1, 0, 1, 0]) slices_IndexFunc_5_u0 :=
  lp_un' (c := (subC (bodyOf Tryz.f144) [1, 0, 1, 0, 0])) (by kernel_rfl) (env_all tb_ok (slices_IndexFunc_5_gs)) hord (ob := []) (by kernel_rfl) (fun X hX => obl_nil) (slices_IndexFunc_5_u0_s) (by kernel_rfl) (by kernel_rfl) hX
noncomputable def slices_IndexFunc_5_a : AC := (.seq .run (.seq (.seq .run (.block (.unit slices_IndexFunc_5_u0))) .run))
theorem slices_IndexFunc_5_s (x : TupL slices_IndexFunc_5_c.inp.hs) : E slices_IndexFunc_5_v (bodyOf Tryz.f144) (slices_IndexFunc_5_a) (slices_IndexFunc_5_c.entry x) (retSK tb slices_IndexFunc_5_v.fz slices_IndexFunc_5_c [.tmp 4] x) = slices_IndexFunc_5_c.F x := by kernel_rfl
theorem slices_IndexFunc_5_ok : ShOk Tryz.prog gl 144 slices_IndexFunc_5_c :=
  fn_ok (l := slices_IndexFunc_5_g) (n := Tryz.f144.ntmps) (code := bodyOf Tryz.f144) (rts := [.tmp 4]) tb_ok hord (slices_IndexFunc_5_gs) Tryz.func144 (by kernel_rfl) (by kernel_rfl) rfl (by kernel_rfl) (ac := slices_IndexFunc_5_a) (ob := [((subC (bodyOf Tryz.f144) [1, 0, 1, 0]), slices_IndexFunc_5_u0)]) (by kernel_rfl) (fun X hX => (obl_cons (slices_IndexFunc_5_u0_ok hX) obl_nil)) (by kernel_rfl) (slices_IndexFunc_5_s)

noncomputable def slices_ContainsFunc_5_c : ShC := { inp := ⟨[.hole, (.clo 99 [])], [], [1], [.sl tSym]⟩, out := ⟨[.hole], [], [2], [.bool]⟩, nres := 1, ms := [], mu := [], leak := false, glob := false, F := fun (x : (List QSym)) => slices_ContainsFunc_5 x }
-- slices.ContainsFunc[[]api.Sym,api.Sym]
noncomputable def slices_ContainsFunc_5_g : List (Nat × Con) := [(144, .gen (altE [slices_IndexFunc_5_c]))]
noncomputable def slices_ContainsFunc_5_v : Env := envOf tb gl slices_ContainsFunc_5_g slices_ContainsFunc_5_c Tryz.f98.ntmps
theorem slices_ContainsFunc_5_gs : Goods Tryz.prog (cond slices_ContainsFunc_5_c.glob gl fun _ => none) slices_ContainsFunc_5_g := (goods_cons (good_alt (alls_cons (slices_IndexFunc_5_ok.anyGl rfl) alls_nil)) goods_nil)
noncomputable def slices_ContainsFunc_5_a : AC := .run
theorem slices_ContainsFunc_5_s (x : TupL slices_ContainsFunc_5_c.inp.hs) : E slices_ContainsFunc_5_v (bodyOf Tryz.f98) (slices_ContainsFunc_5_a) (slices_ContainsFunc_5_c.entry x) (retSK tb slices_ContainsFunc_5_v.fz slices_ContainsFunc_5_c [.tmp 4] x) = slices_ContainsFunc_5_c.F x := by kernel_rfl
theorem slices_ContainsFunc_5_ok : ShOk Tryz.prog gl 98 slices_ContainsFunc_5_c :=
  fn_ok (l := slices_ContainsFunc_5_g) (n := Tryz.f98.ntmps) (code := bodyOf Tryz.f98) (rts := [.tmp 4]) tb_ok hord (slices_ContainsFunc_5_gs) Tryz.func98 (by kernel_rfl) (by kernel_rfl) rfl (by kernel_rfl) (ac := slices_ContainsFunc_5_a) (ob := []) (by kernel_rfl) (fun X hX => obl_nil) (by kernel_rfl) (slices_ContainsFunc_5_s)

noncomputable def formula_SigMay_c : ShC := { inp := ⟨[.hole], [], [1], [.sl tSym]⟩, out := ⟨[.hole], [], [2], [.bool]⟩, nres := 1, ms := [], mu := [], leak := false, glob := true, F := fun (x : (List QSym)) => formula_SigMay x }
-- formula.SigMay
noncomputable def formula_SigMay_g : List (Nat × Con) := [(33, .gen (altE [sign_May_c])), (98, .gen (altE [slices_ContainsFunc_5_c]))]
noncomputable def formula_SigMay_v : Env := envOf tb gl formula_SigMay_g formula_SigMay_c Tryz.f56.ntmps
theorem formula_SigMay_gs : Goods Tryz.prog (cond formula_SigMay_c.glob gl fun _ => none) formula_SigMay_g := (goods_cons (good_alt (alls_cons sign_May_ok alls_nil)) (goods_cons (good_alt (alls_cons (slices_ContainsFunc_5_ok.anyGl rfl) alls_nil)) goods_nil))
noncomputable def formula_SigMay_a : AC := .run
theorem formula_SigMay_s (x : TupL formula_SigMay_c.inp.hs) : E formula_SigMay_v (bodyOf Tryz.f56) (formula_SigMay_a) (formula_SigMay_c.entry x) (retSK tb formula_SigMay_v.fz formula_SigMay_c [.tmp 2] x) = formula_SigMay_c.F x := by kernel_rfl
theorem formula_SigMay_ok : ShOk Tryz.prog gl 56 formula_SigMay_c :=
  fn_ok (l := formula_SigMay_g) (n := Tryz.f56.ntmps) (code := bodyOf Tryz.f56) (rts := [.tmp 2]) tb_ok hord (formula_SigMay_gs) Tryz.func56 (by kernel_rfl) (by kernel_rfl) rfl (by kernel_rfl) (ac := formula_SigMay_a) (ob := []) (by kernel_rfl) (fun X hX => obl_nil) (by kernel_rfl) (formula_SigMay_s)

noncomputable def formula_Reader_Is_1_c : ShC := { inp := ⟨[(.ptr 0 0), .hole], [.cells false [.hole, .hole, .hole]], [1, 1, 1, 1], [.str, .sl tSym, .sl (.cons (.int .i64) (.one .str)), .bool]⟩, out := ⟨[.hole, (.ptr 0 0)], [.cells false [.hole, .hole, .hole]], [2, 1, 1, 2], [.bool, .sl tSym, .sl (.cons (.int .i64) (.one .str)), .bool]⟩, nres := 1, ms := [0], mu := [(0, 0)], leak := true, glob := false, F := fun (x : (Str × (List QSym) × (List (Int × Str)) × Bool)) => formula_Reader_Is_1 x.1 x.2.1 x.2.2.1 x.2.2.2 }
-- (*formula.Reader).Is
noncomputable def formula_Reader_Is_1_g : List (Nat × Con) := []
noncomputable def formula_Reader_Is_1_v : Env := envOf tb gl formula_Reader_Is_1_g formula_Reader_Is_1_c Tryz.f128.ntmps
theorem formula_Reader_Is_1_gs : Goods Tryz.prog (cond formula_Reader_Is_1_c.glob gl fun _ => none) formula_Reader_Is_1_g := goods_nil
noncomputable def formula_Reader_Is_1_a : AC := .run
theorem formula_Reader_Is_1_s (x : TupL formula_Reader_Is_1_c.inp.hs) : E formula_Reader_Is_1_v (bodyOf Tryz.f128) (formula_Reader_Is_1_a) (formula_Reader_Is_1_c.entry x) (retSK tb formula_Reader_Is_1_v.fz formula_Reader_Is_1_c [.tmp 4] x) = formula_Reader_Is_1_c.F x := by kernel_rfl
theorem formula_Reader_Is_1_ok : ShOk Tryz.prog gl 128 formula_Reader_Is_1_c :=
  fn_ok (l := formula_Reader_Is_1_g) (n := Tryz.f128.ntmps) (code := bodyOf Tryz.f128) (rts := [.tmp 4]) tb_ok hord (formula_Reader_Is_1_gs) Tryz.func128 (by kernel_rfl) (by kernel_rfl) rfl (by kernel_rfl) (ac := formula_Reader_Is_1_a) (ob := []) (by kernel_rfl) (fun X hX => obl_nil) (by kernel_rfl) (formula_Reader_Is_1_s)

noncomputable def formula_Reader_binder_1_c : ShC := { inp := ⟨[(.ptr 0 0)], [.cells false [.hole, .hole, .hole]], [1, 1, 1], [.sl tSym, .sl (.cons (.int .i64) (.one .str)), .bool]⟩, out := ⟨[(.agg [.hole, .hole, .nilv]), .hole, (.ptr 0 0)], [.cells false [.hole, .hole, .hole]], [2, 2, 2, 1, 1, 2], [.int .i64, .int .i64, .bool, .sl tSym, .sl (.cons (.int .i64) (.one .str)), .bool]⟩, nres := 2, ms := [0], mu := [(0, 0)], leak := true, glob := false, F := fun (x : ((List QSym) × (List (Int × Str)) × Bool)) => formula_Reader_binder_1 x.1 x.2.1 x.2.2 }
-- (*formula.Reader).binder
noncomputable def formula_Reader_binder_1_g : List (Nat × Con) := [(91, .gen (altE [lex_Number_c]))]
noncomputable def formula_Reader_binder_1_v : Env := envOf tb gl formula_Reader_binder_1_g formula_Reader_binder_1_c Tryz.f129.ntmps
theorem formula_Reader_binder_1_gs : Goods Tryz.prog (cond formula_Reader_binder_1_c.glob gl fun _ => none) formula_Reader_binder_1_g := (goods_cons (good_alt (alls_cons (lex_Number_ok.anyGl rfl) alls_nil)) goods_nil)
noncomputable def formula_Reader_binder_1_a : AC := .run
theorem formula_Reader_binder_1_s (x : TupL formula_Reader_binder_1_c.inp.hs) : E formula_Reader_binder_1_v (bodyOf Tryz.f129) (formula_Reader_binder_1_a) (formula_Reader_binder_1_c.entry x) (retSK tb formula_Reader_binder_1_v.fz formula_Reader_binder_1_c [.cell 2 89, .tmp 3] x) = formula_Reader_binder_1_c.F x := by kernel_rfl
theorem formula_Reader_binder_1_ok : ShOk Tryz.prog gl 129 formula_Reader_binder_1_c :=
  fn_ok (l := formula_Reader_binder_1_g) (n := Tryz.f129.ntmps) (code := bodyOf Tryz.f129) (rts := [.cell 2 89, .tmp 3]) tb_ok hord (formula_Reader_binder_1_gs) Tryz.func129 (by kernel_rfl) (by kernel_rfl) rfl (by kernel_rfl) (ac := formula_Reader_binder_1_a) (ob := []) (by kernel_rfl) (fun X hX => obl_nil) (by kernel_rfl) (formula_Reader_binder_1_s)

noncomputable def sign_Find_c : ShC := { inp := ⟨[.hole, .hole], [], [1, 1], [.sl tSym, .str]⟩, out := ⟨[.hole, .hole], [], [2, 2], [.int .i64, .int .i64]⟩, nres := 2, ms := [], mu := [], leak := false, glob := true, F := fun (x : ((List QSym) × Str)) => sign_Find x.1 x.2 }
-- sign.Find
noncomputable def sign_Find_g : List (Nat × Con) := [(33, .gen (altE [sign_May_c])), (73, .gen (altE [sign_find_c]))]
noncomputable def sign_Find_v : Env := envOf tb gl sign_Find_g sign_Find_c Tryz.f176.ntmps
theorem sign_Find_gs : Goods Tryz.prog (cond sign_Find_c.glob gl fun _ => none) sign_Find_g := (goods_cons (good_alt (alls_cons sign_May_ok alls_nil)) (goods_cons (good_alt (alls_cons (sign_find_ok.anyGl rfl) alls_nil)) goods_nil))
noncomputable def sign_Find_a : AC := .run
theorem sign_Find_s (x : TupL sign_Find_c.inp.hs) : E sign_Find_v (bodyOf Tryz.f176) (sign_Find_a) (sign_Find_c.entry x) (retSK tb sign_Find_v.fz sign_Find_c [.tmp 4, .tmp 5] x) = sign_Find_c.F x := by kernel_rfl
theorem sign_Find_ok : ShOk Tryz.prog gl 176 sign_Find_c :=
  fn_ok (l := sign_Find_g) (n := Tryz.f176.ntmps) (code := bodyOf Tryz.f176) (rts := [.tmp 4, .tmp 5]) tb_ok hord (sign_Find_gs) Tryz.func176 (by kernel_rfl) (by kernel_rfl) rfl (by kernel_rfl) (ac := sign_Find_a) (ob := []) (by kernel_rfl) (fun X hX => obl_nil) (by kernel_rfl) (sign_Find_s)

noncomputable def formula_Reader_symbol_1_c : ShC := { inp := ⟨[(.ptr 0 0)], [.cells false [.hole, .hole, .hole]], [1, 1, 1], [.sl tSym, .sl (.cons (.int .i64) (.one .str)), .bool]⟩, out := ⟨[.hole, .hole, (.ptr 0 0)], [.cells false [.hole, .hole, .hole]], [2, 2, 1, 1, 2], [.int .i64, .bool, .sl tSym, .sl (.cons (.int .i64) (.one .str)), .bool]⟩, nres := 2, ms := [0], mu := [(0, 0)], leak := true, glob := true, F := fun (x : ((List QSym) × (List (Int × Str)) × Bool)) => formula_Reader_symbol_1 x.1 x.2.1 x.2.2 }
-- (*formula.Reader).symbol
noncomputable def formula_Reader_symbol_1_g : List (Nat × Con) := [(176, .gen (altE [sign_Find_c]))]
noncomputable def formula_Reader_symbol_1_v : Env := envOf tb gl formula_Reader_symbol_1_g formula_Reader_symbol_1_c Tryz.f157.ntmps
theorem formula_Reader_symbol_1_gs : Goods Tryz.prog (cond formula_Reader_symbol_1_c.glob gl fun _ => none) formula_Reader_symbol_1_g := (goods_cons (good_alt (alls_cons sign_Find_ok alls_nil)) goods_nil)
noncomputable def formula_Reader_symbol_1_a : AC := .run
theorem formula_Reader_symbol_1_s (x : TupL formula_Reader_symbol_1_c.inp.hs) : E formula_Reader_symbol_1_v (bodyOf Tryz.f157) (formula_Reader_symbol_1_a) (formula_Reader_symbol_1_c.entry x) (retSK tb formula_Reader_symbol_1_v.fz formula_Reader_symbol_1_c [.tmp 2, .tmp 3] x) = formula_Reader_symbol_1_c.F x := by kernel_rfl
theorem formula_Reader_symbol_1_ok : ShOk Tryz.prog gl 157 formula_Reader_symbol_1_c :=
  fn_ok (l := formula_Reader_symbol_1_g) (n := Tryz.f157.ntmps) (code := bodyOf Tryz.f157) (rts := [.tmp 2, .tmp 3]) tb_ok hord (formula_Reader_symbol_1_gs) Tryz.func157 (by kernel_rfl) (by kernel_rfl) rfl (by kernel_rfl) (ac := formula_Reader_symbol_1_a) (ob := []) (by kernel_rfl) (fun X hX => obl_nil) (by kernel_rfl) (formula_Reader_symbol_1_s)

noncomputable def formula_Reader_Var_1_c : ShC := { inp := ⟨[(.ptr 0 0)], [.cells false [.hole, .hole, .hole]], [1, 1, 1], [.sl tSym, .sl (.cons (.int .i64) (.one .str)), .bool]⟩, out := ⟨[.hole, .hole, (.ptr 0 0)], [.cells false [.hole, .hole, .hole]], [2, 2, 1, 1, 2], [.int .i64, .bool, .sl tSym, .sl (.cons (.int .i64) (.one .str)), .bool]⟩, nres := 2, ms := [0], mu := [(0, 0)], leak := true, glob := false, F := fun (x : ((List QSym) × (List (Int × Str)) × Bool)) => formula_Reader_Var_1 x.1 x.2.1 x.2.2 }
-- (*formula.Reader).Var
noncomputable def formula_Reader_Var_1_g : List (Nat × Con) := [(91, .gen (altE [lex_Number_c]))]
noncomputable def formula_Reader_Var_1_v : Env := envOf tb gl formula_Reader_Var_1_g formula_Reader_Var_1_c Tryz.f177.ntmps
theorem formula_Reader_Var_1_gs : Goods Tryz.prog (cond formula_Reader_Var_1_c.glob gl fun _ => none) formula_Reader_Var_1_g := (goods_cons (good_alt (alls_cons (lex_Number_ok.anyGl rfl) alls_nil)) goods_nil)
noncomputable def formula_Reader_Var_1_a : AC := .run
theorem formula_Reader_Var_1_s (x : TupL formula_Reader_Var_1_c.inp.hs) : E formula_Reader_Var_1_v (bodyOf Tryz.f177) (formula_Reader_Var_1_a) (formula_Reader_Var_1_c.entry x) (retSK tb formula_Reader_Var_1_v.fz formula_Reader_Var_1_c [.tmp 2, .tmp 3] x) = formula_Reader_Var_1_c.F x := by kernel_rfl
theorem formula_Reader_Var_1_ok : ShOk Tryz.prog gl 177 formula_Reader_Var_1_c :=
  fn_ok (l := formula_Reader_Var_1_g) (n := Tryz.f177.ntmps) (code := bodyOf Tryz.f177) (rts := [.tmp 2, .tmp 3]) tb_ok hord (formula_Reader_Var_1_gs) Tryz.func177 (by kernel_rfl) (by kernel_rfl) rfl (by kernel_rfl) (ac := formula_Reader_Var_1_a) (ob := []) (by kernel_rfl) (fun X hX => obl_nil) (by kernel_rfl) (formula_Reader_Var_1_s)

noncomputable def term_Number_c : ShC := { inp := ⟨[.hole], [], [1], [.int .i64]⟩, out := ⟨[.hole], [], [2], [.int .i64]⟩, nres := 1, ms := [], mu := [], leak := false, glob := false, F := fun (x : Int) => term_Number x }
-- term.Number
noncomputable def term_Number_g : List (Nat × Con) := []
noncomputable def term_Number_v : Env := envOf tb gl term_Number_g term_Number_c Tryz.f36.ntmps
theorem term_Number_gs : Goods Tryz.prog (cond term_Number_c.glob gl fun _ => none) term_Number_g := goods_nil
noncomputable def term_Number_a : AC := .run
theorem term_Number_s (x : TupL term_Number_c.inp.hs) : E term_Number_v (bodyOf Tryz.f36) (term_Number_a) (term_Number_c.entry x) (retSK tb term_Number_v.fz term_Number_c [.tmp 2] x) = term_Number_c.F x := by kernel_rfl
theorem term_Number_ok : ShOk Tryz.prog gl 36 term_Number_c :=
  fn_ok (l := term_Number_g) (n := Tryz.f36.ntmps) (code := bodyOf Tryz.f36) (rts := [.tmp 2]) tb_ok hord (term_Number_gs) Tryz.func36 (by kernel_rfl) (by kernel_rfl) rfl (by kernel_rfl) (ac := term_Number_a) (ob := []) (by kernel_rfl) (fun X hX => obl_nil) (by kernel_rfl) (term_Number_s)

noncomputable def formula_Reader_term_1_ck (k : Nat) : ShC := { inp := ⟨[(.ptr 0 0)], [.cells false [.hole, .hole, .hole]], [1, 1, 1], [.sl tSym, .sl (.cons (.int .i64) (.one .str)), .bool]⟩, out := ⟨[(.view 0), .hole, (.ptr 1 0)], [.seq false, .cells false [.hole, .hole, .hole]], [2, 0, 0, 0, 2], [.bool, .sl (.one (.int .i64)), .sl tSym, .sl (.cons (.int .i64) (.one .str)), .bool]⟩, nres := 2, ms := [0], mu := [(0, 1)], leak := true, glob := true, F := (formula_Reader_behind_1_R k).1 }
noncomputable def formula_Reader_term_1_c : ShC := { inp := ⟨[(.ptr 0 0)], [.cells false [.hole, .hole, .hole]], [1, 1, 1], [.sl tSym, .sl (.cons (.int .i64) (.one .str)), .bool]⟩, out := ⟨[(.view 0), .hole, (.ptr 1 0)], [.seq false, .cells false [.hole, .hole, .hole]], [2, 0, 0, 0, 2], [.bool, .sl (.one (.int .i64)), .sl tSym, .sl (.cons (.int .i64) (.one .str)), .bool]⟩, nres := 2, ms := [0], mu := [(0, 1)], leak := true, glob := true, F := fun (x : ((List QSym) × (List (Int × Str)) × Bool)) => formula_Reader_term_1 x.1 x.2.1 x.2.2 }
noncomputable def formula_Reader_behind_1_ck (k : Nat) : ShC := { inp := ⟨[(.ptr 0 0), .hole], [.cells false [.hole, .hole, .hole]], [1, 1, 1, 1], [.int .i64, .sl tSym, .sl (.cons (.int .i64) (.one .str)), .bool]⟩, out := ⟨[(.view 0), .hole, (.ptr 1 0)], [.seq false, .cells false [.hole, .hole, .hole]], [2, 0, 0, 0, 2], [.bool, .sl (.one (.int .i64)), .sl tSym, .sl (.cons (.int .i64) (.one .str)), .bool]⟩, nres := 2, ms := [0], mu := [(0, 1)], leak := true, glob := true, F := (formula_Reader_behind_1_R k).2 }
noncomputable def formula_Reader_behind_1_c : ShC := { inp := ⟨[(.ptr 0 0), .hole], [.cells false [.hole, .hole, .hole]], [1, 1, 1, 1], [.int .i64, .sl tSym, .sl (.cons (.int .i64) (.one .str)), .bool]⟩, out := ⟨[(.view 0), .hole, (.ptr 1 0)], [.seq false, .cells false [.hole, .hole, .hole]], [2, 0, 0, 0, 2], [.bool, .sl (.one (.int .i64)), .sl tSym, .sl (.cons (.int .i64) (.one .str)), .bool]⟩, nres := 2, ms := [0], mu := [(0, 1)], leak := true, glob := true, F := fun (x : (Int × (List QSym) × (List (Int × Str)) × Bool)) => formula_Reader_behind_1 x.1 x.2.1 x.2.2.1 x.2.2.2 }
def formula_Reader_behind_1_R_H (k : Nat) : Prop := ShOk Tryz.prog gl 159 (formula_Reader_term_1_ck k) ∧ ShOk Tryz.prog gl 158 (formula_Reader_behind_1_ck k)
-- (*formula.Reader).term
noncomputable def formula_Reader_term_1_g (k : Nat) : List (Nat × Con) := [(36, .gen (altE [term_Number_c])), (157, .gen (altE [formula_Reader_symbol_1_c])), (158, .gen (altE [formula_Reader_behind_1_ck k])), (177, .gen (altE [formula_Reader_Var_1_c]))]
noncomputable def formula_Reader_term_1_v (k : Nat) : Env := envOf tb gl (formula_Reader_term_1_g k) (formula_Reader_term_1_ck (k + 1)) Tryz.f159.ntmps
theorem formula_Reader_term_1_gs (k : Nat) (h : formula_Reader_behind_1_R_H k) : Goods Tryz.prog (cond (formula_Reader_term_1_ck (k + 1)).glob gl fun _ => none) (formula_Reader_term_1_g k) := (goods_cons (good_alt (alls_cons (term_Number_ok.anyGl rfl) alls_nil)) (goods_cons (good_alt (alls_cons formula_Reader_symbol_1_ok alls_nil)) (goods_cons (good_alt (alls_cons h.2 alls_nil)) (goods_cons (good_alt (alls_cons (formula_Reader_Var_1_ok.anyGl rfl) alls_nil)) goods_nil))))
noncomputable def formula_Reader_term_1_a (k : Nat) : AC := .run
theorem formula_Reader_term_1_s (k : Nat) (x : TupL (formula_Reader_term_1_ck (k + 1)).inp.hs) : E (formula_Reader_term_1_v k) (bodyOf Tryz.f159) (formula_Reader_term_1_a k) ((formula_Reader_term_1_ck (k + 1)).entry x) (retSK tb (formula_Reader_term_1_v k).fz (formula_Reader_term_1_ck (k + 1)) [.tmp 2, .tmp 3] x) = (formula_Reader_term_1_ck (k + 1)).F x := by kernel_rfl
theorem formula_Reader_term_1_ok1 (k : Nat) (h : formula_Reader_behind_1_R_H k) : ShOk Tryz.prog gl 159 (formula_Reader_term_1_ck (k + 1)) :=
  fn_ok (l := formula_Reader_term_1_g k) (n := Tryz.f159.ntmps) (code := bodyOf Tryz.f159) (rts := [.tmp 2, .tmp 3]) tb_ok hord (formula_Reader_term_1_gs k h) Tryz.func159 (by kernel_rfl) (by kernel_rfl) rfl (by kernel_rfl) (ac := formula_Reader_term_1_a k) (ob := []) (by kernel_rfl) (fun X hX => obl_nil) (by kernel_rfl) (formula_Reader_term_1_s k)

-- (*formula.Reader).behind
noncomputable def formula_Reader_behind_1_g (k : Nat) : List (Nat × Con) := [(128, .gen (altE [formula_Reader_Is_1_c])), (159, .gen (altE [formula_Reader_term_1_ck k]))]
noncomputable def formula_Reader_behind_1_v (k : Nat) : Env := envOf tb gl (formula_Reader_behind_1_g k) (formula_Reader_behind_1_ck (k + 1)) Tryz.f158.ntmps
theorem formula_Reader_behind_1_gs (k : Nat) (h : formula_Reader_behind_1_R_H k) : Goods Tryz.prog (cond (formula_Reader_behind_1_ck (k + 1)).glob gl fun _ => none) (formula_Reader_behind_1_g k) := (goods_cons (good_alt (alls_cons (formula_Reader_Is_1_ok.anyGl rfl) alls_nil)) (goods_cons (good_alt (alls_cons h.1 alls_nil)) goods_nil))
noncomputable def formula_Reader_behind_1_u0_h : SS := ⟨[0, 1, 6, 20, 21], ⟨[(.ptr 0 0), .hole, (.view 1), .hole, .hole], [.cells false [.hole, .hole, .hole], .seq false], [2, 2, 2, 0, 0, 2, 0], [.int .i64, .int .i64, .int .i64, .sl tSym, .sl (.cons (.int .i64) (.one .str)), .bool, .sl (.one (.int .i64))]⟩⟩
noncomputable def formula_Reader_behind_1_u0_e : Exs := [((.exit 0), ⟨[0, 6], ⟨[(.ptr 0 0), (.view 1)], [.cells false [.hole, .hole, .hole], .seq false], [0, 0, 2, 0], [.sl tSym, .sl (.cons (.int .i64) (.one .str)), .bool, .sl (.one (.int .i64))]⟩⟩), (.ret, ⟨[0, 4, 5], ⟨[(.ptr 0 0), .nilv, .hole], [.cells false [.hole, .hole, .hole]], [2, 0, 0, 2], [.bool, .sl tSym, .sl (.cons (.int .i64) (.one .str)), .bool]⟩⟩)]
noncomputable def formula_Reader_behind_1_u0_a (k : Nat) : AC := .run
noncomputable def formula_Reader_behind_1_u0 (k : Nat) : Un := lpU (formula_Reader_behind_1_v k).fz [22, 23, 7, 8, 24, 25, 8, 26, 27, 28, 29, 4, 5, 31, 32, 30, 33, 34, 9, 10, 35, 36, 4, 5, 37, 38, 39, 6, 40, 21] formula_Reader_behind_1_u0_h formula_Reader_behind_1_u0_e (lp (formula_Reader_behind_1_L0 (formula_Reader_behind_1_R k)) fuel)
theorem formula_Reader_behind_1_u0_s (k : Nat) (f : formula_Reader_behind_1_u0_h.X → Option (YT formula_Reader_behind_1_u0_e)) (x : formula_Reader_behind_1_u0_h.X) : E (formula_Reader_behind_1_v k) (subC (bodyOf Tryz.f158) [1, 1, 0, 1, 0, 0]) (formula_Reader_behind_1_u0_a k) (mkS formula_Reader_behind_1_u0_h 8 x) (roundK (formula_Reader_behind_1_v k).fz formula_Reader_behind_1_u0_h formula_Reader_behind_1_u0_e f) = (formula_Reader_behind_1_L0 (formula_Reader_behind_1_R k)) f x := by kernel_rfl
theorem formula_Reader_behind_1_u0_ok (k : Nat) (h : formula_Reader_behind_1_R_H k) {X : Fx} (hX : VOk Tryz.prog X (formula_Reader_behind_1_v k)) : UnOk Tryz.prog X (formula_Reader_behind_1_v k) (subC (bodyOf Tryz.f158) [1, 1, 0, 1, 0]) (formula_Reader_behind_1_u0 k) :=
  lp_un' (c := (subC (bodyOf Tryz.f158) [1, 1, 0, 1, 0, 0])) (by kernel_rfl) (env_all tb_ok (formula_Reader_behind_1_gs k h)) hord (ob := []) (by kernel_rfl) (fun X hX => obl_nil) (formula_Reader_behind_1_u0_s k) (by kernel_rfl) (by kernel_rfl) hX
noncomputable def formula_Reader_behind_1_a (k : Nat) : AC := (.seq .run (.seq .run (.seq (.seq .run (.block (.unit (formula_Reader_behind_1_u0 k)))) .run)))
theorem formula_Reader_behind_1_s (k : Nat) (x : TupL (formula_Reader_behind_1_ck (k + 1)).inp.hs) : E (formula_Reader_behind_1_v k) (bodyOf Tryz.f158) (formula_Reader_behind_1_a k) ((formula_Reader_behind_1_ck (k + 1)).entry x) (retSK tb (formula_Reader_behind_1_v k).fz (formula_Reader_behind_1_ck (k + 1)) [.tmp 4, .tmp 5] x) = (formula_Reader_behind_1_ck (k + 1)).F x := by kernel_rfl
theorem formula_Reader_behind_1_ok1 (k : Nat) (h : formula_Reader_behind_1_R_H k) : ShOk Tryz.prog gl 158 (formula_Reader_behind_1_ck (k + 1)) :=
  fn_ok (l := formula_Reader_behind_1_g k) (n := Tryz.f158.ntmps) (code := bodyOf Tryz.f158) (rts := [.tmp 4, .tmp 5]) tb_ok hord (formula_Reader_behind_1_gs k h) Tryz.func158 (by kernel_rfl) (by kernel_rfl) rfl (by kernel_rfl) (ac := formula_Reader_behind_1_a k) (ob := [((subC (bodyOf Tryz.f158) [1, 1, 0, 1, 0]), formula_Reader_behind_1_u0 k)]) (by kernel_rfl) (fun X hX => (obl_cons (formula_Reader_behind_1_u0_ok k h hX) obl_nil)) (by kernel_rfl) (formula_Reader_behind_1_s k)

theorem formula_Reader_behind_1_R_all : ∀ k, formula_Reader_behind_1_R_H k
  | 0 => ⟨⟨by kernel_rfl, fun w A g vs x y _ _ _ h => by cases h⟩, ⟨by kernel_rfl, fun w A g vs x y _ _ _ h => by cases h⟩⟩
  | k + 1 => have h := formula_Reader_behind_1_R_all k; ⟨formula_Reader_term_1_ok1 k h, formula_Reader_behind_1_ok1 k h⟩
theorem formula_Reader_term_1_ok : ShOk Tryz.prog gl 159 formula_Reader_term_1_c := (formula_Reader_behind_1_R_all fuel).1
theorem formula_Reader_behind_1_ok : ShOk Tryz.prog gl 158 formula_Reader_behind_1_c := (formula_Reader_behind_1_R_all fuel).2

noncomputable def slices_Grow_2_c : ShC := { inp := ⟨[.nilv, .hole], [], [1], [.int .i64]⟩, out := ⟨[(.view 0)], [.seq false], [2], [.sl (.one (.int .i64))]⟩, nres := 1, ms := [], mu := [], leak := false, glob := false, F := fun (x : Int) => slices_Grow_2 x }
-- slices.Grow[[]int,int]
noncomputable def slices_Grow_2_g : List (Nat × Con) := [(1000025, .gen (altE []))]
noncomputable def slices_Grow_2_v : Env := envOf tb gl slices_Grow_2_g slices_Grow_2_c Tryz.f178.ntmps
theorem slices_Grow_2_gs : Goods Tryz.prog (cond slices_Grow_2_c.glob gl fun _ => none) slices_Grow_2_g := (goods_cons (good_alt alls_nil) goods_nil)
noncomputable def slices_Grow_2_a : AC := .run
theorem slices_Grow_2_s (x : TupL slices_Grow_2_c.inp.hs) : E slices_Grow_2_v (bodyOf Tryz.f178) (slices_Grow_2_a) (slices_Grow_2_c.entry x) (retSK tb slices_Grow_2_v.fz slices_Grow_2_c [.tmp 4] x) = slices_Grow_2_c.F x := by kernel_rfl
theorem slices_Grow_2_ok : ShOk Tryz.prog gl 178 slices_Grow_2_c :=
  fn_ok (l := slices_Grow_2_g) (n := Tryz.f178.ntmps) (code := bodyOf Tryz.f178) (rts := [.tmp 4]) tb_ok hord (slices_Grow_2_gs) Tryz.func178 (by kernel_rfl) (by kernel_rfl) rfl (by kernel_rfl) (ac := slices_Grow_2_a) (ob := []) (by kernel_rfl) (fun X hX => obl_nil) (by kernel_rfl) (slices_Grow_2_s)

noncomputable def slices_Concat_2_c : ShC := { inp := ⟨[.hole], [], [1], [.sl (.one (.sl (.one (.int .i64))))]⟩, out := ⟨[(.view 0)], [.seq false], [0], [.sl (.one (.int .i64))]⟩, nres := 1, ms := [], mu := [], leak := true, glob := false, F := fun (x : (List (List Int))) => slices_Concat_2 x }
-- slices.Concat[[]int,int]
noncomputable def slices_Concat_2_g : List (Nat × Con) := [(178, .gen (altE [slices_Grow_2_c]))]
noncomputable def slices_Concat_2_v : Env := envOf tb gl slices_Concat_2_g slices_Concat_2_c Tryz.f160.ntmps
theorem slices_Concat_2_gs : Goods Tryz.prog (cond slices_Concat_2_c.glob gl fun _ => none) slices_Concat_2_g := (goods_cons (good_alt (alls_cons (slices_Grow_2_ok.anyGl rfl) alls_nil)) goods_nil)
noncomputable def slices_Concat_2_u1_h : SS := ⟨[6, 25, 26, 27], ⟨[(.view 0), .hole, .hole, .hole], [.seq false], [1, 2, 2, 0], [.sl (.one (.sl (.one (.int .i64)))), .int .i64, .int .i64, .sl (.one (.int .i64))]⟩⟩
noncomputable def slices_Concat_2_u1_e : Exs := [((.exit 2), ⟨[6], ⟨[(.view 0)], [.seq false], [0], [.sl (.one (.int .i64))]⟩⟩)]
noncomputable def slices_Concat_2_u1_a : AC := .run
noncomputable def slices_Concat_2_u1 : Un := lpU slices_Concat_2_v.fz [28, 29, 30, 8, 31, 32, 33, 6, 34, 27] slices_Concat_2_u1_h slices_Concat_2_u1_e (lp slices_Concat_2_L1 fuel)
theorem slices_Concat_2_u1_s (f : slices_Concat_2_u1_h.X → Option (YT slices_Concat_2_u1_e)) (x : slices_Concat_2_u1_h.X) : E slices_Concat_2_v (subC (bodyOf Tryz.f160) [1, 1, 1, 1, 0, 1, 0, 0]) (slices_Concat_2_u1_a) (mkS slices_Concat_2_u1_h 8 x) (roundK slices_Concat_2_v.fz slices_Concat_2_u1_h slices_Concat_2_u1_e f) = slices_Concat_2_L1 f x := by kernel_rfl
theorem slices_Concat_2_u1_ok {X : Fx} (hX : VOk Tryz.prog X slices_Concat_2_v) : UnOk Tryz.prog X slices_Concat_2_v (subC (bodyOf Tryz.f160) [1, 1, 1, 1, 0, 1, 0]) slices_Concat_2_u1 :=
  lp_un' (c := (subC (bodyOf Tryz.f160) [1, 1, 1, 1, 0, 1, 0, 0])) (by kernel_rfl) (env_all tb_ok (slices_Concat_2_gs)) hord (ob := []) (by kernel_rfl) (fun X hX => obl_nil) (slices_Concat_2_u1_s) (by kernel_rfl) (by kernel_rfl) hX
noncomputable def slices_Concat_2_u0_h : SS := ⟨[0, 3, 9, 10, 11], ⟨[.hole, .hole, .hole, .hole, .hole], [], [1, 2, 1, 2, 2], [.sl (.one (.sl (.one (.int .i64)))), .int .i64, .sl (.one (.sl (.one (.int .i64)))), .int .i64, .int .i64]⟩⟩
noncomputable def slices_Concat_2_u0_e : Exs := [((.exit 0), ⟨[3], ⟨[.hole], [], [2], [.int .i64]⟩⟩)]
noncomputable def slices_Concat_2_u0_a : AC := .run
noncomputable def slices_Concat_2_u0 : Un := lpU slices_Concat_2_v.fz [12, 13, 14, 5, 15, 16, 17, 18, 3, 19, 20, 21, 22, 11] slices_Concat_2_u0_h slices_Concat_2_u0_e (lp slices_Concat_2_L0 fuel)
theorem slices_Concat_2_u0_s (f : slices_Concat_2_u0_h.X → Option (YT slices_Concat_2_u0_e)) (x : slices_Concat_2_u0_h.X) : E slices_Concat_2_v (subC (bodyOf Tryz.f160) [1, 1, 0, 1, 0, 0]) (slices_Concat_2_u0_a) (mkS slices_Concat_2_u0_h 8 x) (roundK slices_Concat_2_v.fz slices_Concat_2_u0_h slices_Concat_2_u0_e f) = slices_Concat_2_L0 f x := by kernel_rfl
theorem slices_Concat_2_u0_ok {X : Fx} (hX : VOk Tryz.prog X slices_Concat_2_v) : UnOk Tryz.prog X slices_Concat_2_v (subC (bodyOf Tryz.f160) [1, 1, 0, 1, 0]) slices_Concat_2_u0 :=
  lp_un' (c := (subC (bodyOf Tryz.f160) [1, 1, 0, 1, 0, 0])) (by kernel_rfl) (env_all tb_ok (slices_Concat_2_gs)) hord (ob := []) (by kernel_rfl) (fun X hX => obl_nil) (slices_Concat_2_u0_s) (by kernel_rfl) (by kernel_rfl) hX
noncomputable def slices_Concat_2_a : AC := (.seq .run (.seq .run (.seq (.seq .run (.block (.unit slices_Concat_2_u0))) (.seq .run (.seq (.seq .run (.block (.unit slices_Concat_2_u1))) .run)))))
theorem slices_Concat_2_s (x : TupL slices_Concat_2_c.inp.hs) : E slices_Concat_2_v (bodyOf Tryz.f160) (slices_Concat_2_a) (slices_Concat_2_c.entry x) (retSK tb slices_Concat_2_v.fz slices_Concat_2_c [.tmp 2] x) = slices_Concat_2_c.F x := by kernel_rfl
theorem slices_Concat_2_ok : ShOk Tryz.prog gl 160 slices_Concat_2_c :=
  fn_ok (l := slices_Concat_2_g) (n := Tryz.f160.ntmps) (code := bodyOf Tryz.f160) (rts := [.tmp 2]) tb_ok hord (slices_Concat_2_gs) Tryz.func160 (by kernel_rfl) (by kernel_rfl) rfl (by kernel_rfl) (ac := slices_Concat_2_a) (ob := [((subC (bodyOf Tryz.f160) [1, 1, 0, 1, 0]), slices_Concat_2_u0), ((subC (bodyOf Tryz.f160) [1, 1, 1, 1, 0, 1, 0]), slices_Concat_2_u1)]) (by kernel_rfl) (fun X hX => (obl_cons (slices_Concat_2_u0_ok hX) (obl_cons (slices_Concat_2_u1_ok hX) obl_nil))) (by kernel_rfl) (slices_Concat_2_s)

noncomputable def formula_Reader_Atom_1_c : ShC := { inp := ⟨[(.ptr 0 0)], [.cells false [.hole, .hole, .hole]], [1, 1, 1], [.sl tSym, .sl (.cons (.int .i64) (.one .str)), .bool]⟩, out := ⟨[(.view 0), .hole, (.ptr 1 0)], [.seq false, .cells false [.hole, .hole, .hole]], [2, 0, 0, 0, 2], [.bool, .sl (.one (.int .i64)), .sl tSym, .sl (.cons (.int .i64) (.one .str)), .bool]⟩, nres := 2, ms := [0], mu := [(0, 1)], leak := true, glob := true, F := fun (x : ((List QSym) × (List (Int × Str)) × Bool)) => formula_Reader_Atom_1 x.1 x.2.1 x.2.2 }
-- (*formula.Reader).Atom
noncomputable def formula_Reader_Atom_1_g : List (Nat × Con) := [(128, .gen (altE [formula_Reader_Is_1_c])), (157, .gen (altE [formula_Reader_symbol_1_c])), (158, .gen (altE [formula_Reader_behind_1_c])), (159, .gen (altE [formula_Reader_term_1_c])), (160, .gen (altE [slices_Concat_2_c]))]
noncomputable def formula_Reader_Atom_1_v : Env := envOf tb gl formula_Reader_Atom_1_g formula_Reader_Atom_1_c Tryz.f130.ntmps
theorem formula_Reader_Atom_1_gs : Goods Tryz.prog (cond formula_Reader_Atom_1_c.glob gl fun _ => none) formula_Reader_Atom_1_g := (goods_cons (good_alt (alls_cons (formula_Reader_Is_1_ok.anyGl rfl) alls_nil)) (goods_cons (good_alt (alls_cons formula_Reader_symbol_1_ok alls_nil)) (goods_cons (good_alt (alls_cons formula_Reader_behind_1_ok alls_nil)) (goods_cons (good_alt (alls_cons formula_Reader_term_1_ok alls_nil)) (goods_cons (good_alt (alls_cons (slices_Concat_2_ok.anyGl rfl) alls_nil)) goods_nil)))))
noncomputable def formula_Reader_Atom_1_a : AC := .run
theorem formula_Reader_Atom_1_s (x : TupL formula_Reader_Atom_1_c.inp.hs) : E formula_Reader_Atom_1_v (bodyOf Tryz.f130) (formula_Reader_Atom_1_a) (formula_Reader_Atom_1_c.entry x) (retSK tb formula_Reader_Atom_1_v.fz formula_Reader_Atom_1_c [.tmp 2, .tmp 3] x) = formula_Reader_Atom_1_c.F x := by kernel_rfl
theorem formula_Reader_Atom_1_ok : ShOk Tryz.prog gl 130 formula_Reader_Atom_1_c :=
  fn_ok (l := formula_Reader_Atom_1_g) (n := Tryz.f130.ntmps) (code := bodyOf Tryz.f130) (rts := [.tmp 2, .tmp 3]) tb_ok hord (formula_Reader_Atom_1_gs) Tryz.func130 (by kernel_rfl) (by kernel_rfl) rfl (by kernel_rfl) (ac := formula_Reader_Atom_1_a) (ob := []) (by kernel_rfl) (fun X hX => obl_nil) (by kernel_rfl) (formula_Reader_Atom_1_s)

noncomputable def formula_Reader_joint_1_c : ShC := { inp := ⟨[(.ptr 0 0)], [.cells false [.hole, .hole, .hole]], [1, 1, 1], [.sl tSym, .sl (.cons (.int .i64) (.one .str)), .bool]⟩, out := ⟨[.hole, .hole, (.ptr 0 0)], [.cells false [.hole, .hole, .hole]], [2, 2, 0, 0, 2], [.int .i64, .bool, .sl tSym, .sl (.cons (.int .i64) (.one .str)), .bool]⟩, nres := 2, ms := [0], mu := [(0, 0)], leak := true, glob := false, F := fun (x : ((List QSym) × (List (Int × Str)) × Bool)) => formula_Reader_joint_1 x.1 x.2.1 x.2.2 }
-- (*formula.Reader).joint
noncomputable def formula_Reader_joint_1_g : List (Nat × Con) := [(128, .gen (altE [formula_Reader_Is_1_c]))]
noncomputable def formula_Reader_joint_1_v : Env := envOf tb gl formula_Reader_joint_1_g formula_Reader_joint_1_c Tryz.f131.ntmps
theorem formula_Reader_joint_1_gs : Goods Tryz.prog (cond formula_Reader_joint_1_c.glob gl fun _ => none) formula_Reader_joint_1_g := (goods_cons (good_alt (alls_cons (formula_Reader_Is_1_ok.anyGl rfl) alls_nil)) goods_nil)
noncomputable def formula_Reader_joint_1_u0_h : SS := ⟨[0, 6, 7, 8], ⟨[(.ptr 0 0), .hole, .hole, .hole], [.cells false [.hole, .hole, .hole]], [0, 2, 2, 0, 0, 2], [.sl (.one .str), .int .i64, .int .i64, .sl tSym, .sl (.cons (.int .i64) (.one .str)), .bool]⟩⟩
noncomputable def formula_Reader_joint_1_u0_e : Exs := [((.exit 0), ⟨[0], ⟨[(.ptr 0 0)], [.cells false [.hole, .hole, .hole]], [0, 0, 2], [.sl tSym, .sl (.cons (.int .i64) (.one .str)), .bool]⟩⟩), (.ret, ⟨[0, 2, 3], ⟨[(.ptr 0 0), .hole, .hole], [.cells false [.hole, .hole, .hole]], [2, 2, 0, 0, 2], [.int .i64, .bool, .sl tSym, .sl (.cons (.int .i64) (.one .str)), .bool]⟩⟩)]
noncomputable def formula_Reader_joint_1_u0_a : AC := .run
noncomputable def formula_Reader_joint_1_u0 : Un := lpU formula_Reader_joint_1_v.fz [9, 10, 11, 12, 4, 5, 13, 14, 15, 16, 17, 2, 3, 18, 8] formula_Reader_joint_1_u0_h formula_Reader_joint_1_u0_e (lp formula_Reader_joint_1_L0 fuel)
theorem formula_Reader_joint_1_u0_s (f : formula_Reader_joint_1_u0_h.X → Option (YT formula_Reader_joint_1_u0_e)) (x : formula_Reader_joint_1_u0_h.X) : E formula_Reader_joint_1_v (subC (bodyOf Tryz.f131) [1, 0, 1, 0, 0]) (formula_Reader_joint_1_u0_a) (mkS formula_Reader_joint_1_u0_h 8 x) (roundK formula_Reader_joint_1_v.fz formula_Reader_joint_1_u0_h formula_Reader_joint_1_u0_e f) = formula_Reader_joint_1_L0 f x := by kernel_rfl
theorem formula_Reader_joint_1_u0_ok {X : Fx} (hX : VOk Tryz.prog X formula_Reader_joint_1_v) : UnOk Tryz.prog X formula_Reader_joint_1_v (subC (bodyOf Tryz.f131) [1, 0, 1, 0]) formula_Reader_joint_1_u0 :=
  lp_un' (c := (subC (bodyOf Tryz.f131) [1, 0, 1, 0, 0])) (by kernel_rfl) (env_all tb_ok (formula_Reader_joint_1_gs)) hord (ob := []) (by kernel_rfl) (fun X hX => obl_nil) (formula_Reader_joint_1_u0_s) (by kernel_rfl) (by kernel_rfl) hX
noncomputable def formula_Reader_joint_1_a : AC := (.seq .run (.seq (.seq .run (.block (.unit formula_Reader_joint_1_u0))) .run))
theorem formula_Reader_joint_1_s (x : TupL formula_Reader_joint_1_c.inp.hs) : E formula_Reader_joint_1_v (bodyOf Tryz.f131) (formula_Reader_joint_1_a) (formula_Reader_joint_1_c.entry x) (retSK tb formula_Reader_joint_1_v.fz formula_Reader_joint_1_c [.tmp 2, .tmp 3] x) = formula_Reader_joint_1_c.F x := by kernel_rfl
theorem formula_Reader_joint_1_ok : ShOk Tryz.prog gl 131 formula_Reader_joint_1_c :=
  fn_ok (l := formula_Reader_joint_1_g) (n := Tryz.f131.ntmps) (code := bodyOf Tryz.f131) (rts := [.tmp 2, .tmp 3]) tb_ok hord (formula_Reader_joint_1_gs) Tryz.func131 (by kernel_rfl) (by kernel_rfl) rfl (by kernel_rfl) (ac := formula_Reader_joint_1_a) (ob := [((subC (bodyOf Tryz.f131) [1, 0, 1, 0]), formula_Reader_joint_1_u0)]) (by kernel_rfl) (fun X hX => (obl_cons (formula_Reader_joint_1_u0_ok hX) obl_nil)) (by kernel_rfl) (formula_Reader_joint_1_s)

noncomputable def formula_Reader_formula_1_c : ShC := { inp := ⟨[(.ptr 0 0)], [.cells false [.hole, .hole, .hole]], [1, 1, 1], [.sl tSym, .sl (.cons (.int .i64) (.one .str)), .bool]⟩, out := ⟨[(.view 0), .hole, (.ptr 1 0)], [.seq false, .cells false [.hole, .hole, .hole]], [2, 0, 0, 0, 2], [.bool, .sl (.cons (.int .i64) (.cons (.int .i64) (.one (.sl (.one (.int .i64)))))), .sl tSym, .sl (.cons (.int .i64) (.one .str)), .bool]⟩, nres := 2, ms := [0], mu := [(0, 1)], leak := true, glob := true, F := fun (x : ((List QSym) × (List (Int × Str)) × Bool)) => formula_Reader_formula_1 x.1 x.2.1 x.2.2 }
-- (*formula.Reader).formula
noncomputable def formula_Reader_formula_1_g : List (Nat × Con) := [(128, .gen (altE [formula_Reader_Is_1_c])), (129, .gen (altE [formula_Reader_binder_1_c])), (130, .gen (altE [formula_Reader_Atom_1_c])), (131, .gen (altE [formula_Reader_joint_1_c])), (1000102, .gen (altE []))]
noncomputable def formula_Reader_formula_1_v : Env := envOf tb gl formula_Reader_formula_1_g formula_Reader_formula_1_c Tryz.f92.ntmps
theorem formula_Reader_formula_1_gs : Goods Tryz.prog (cond formula_Reader_formula_1_c.glob gl fun _ => none) formula_Reader_formula_1_g := (goods_cons (good_alt (alls_cons (formula_Reader_Is_1_ok.anyGl rfl) alls_nil)) (goods_cons (good_alt (alls_cons (formula_Reader_binder_1_ok.anyGl rfl) alls_nil)) (goods_cons (good_alt (alls_cons formula_Reader_Atom_1_ok alls_nil)) (goods_cons (good_alt (alls_cons (formula_Reader_joint_1_ok.anyGl rfl) alls_nil)) (goods_cons (good_alt alls_nil) goods_nil)))))
noncomputable def formula_Reader_formula_1_u0_j : Exs := [(.goto 0, ⟨[0, 4, 5], ⟨[(.ptr 0 0), (.view 1), (.view 2)], [.cells false [.hole, .hole, .hole], .seq false, .seq false], [0, 0, 2, 0, 0], [.sl tSym, .sl (.cons (.int .i64) (.one .str)), .bool, .sl (.cons (.int .i64) (.cons (.int .i64) (.one (.sl (.one (.int .i64)))))), .sl (.cons (.int .i64) (.one .bool))]⟩⟩), (.goto 1, ⟨[0, 4, 5], ⟨[(.ptr 0 0), (.view 1), (.view 2)], [.cells false [.hole, .hole, .hole], .seq false, .seq false], [0, 0, 2, 0, 0], [.sl tSym, .sl (.cons (.int .i64) (.one .str)), .bool, .sl (.cons (.int .i64) (.cons (.int .i64) (.one (.sl (.one (.int .i64)))))), .sl (.cons (.int .i64) (.one .bool))]⟩⟩)]
noncomputable def formula_Reader_formula_1_u0_e : Exs := [(.ret, ⟨[0, 2, 3], ⟨[(.ptr 0 0), (.view 1), .hole], [.cells false [.hole, .hole, .hole], .seq false], [2, 0, 0, 2, 0], [.bool, .sl tSym, .sl (.cons (.int .i64) (.one .str)), .bool, .sl (.cons (.int .i64) (.cons (.int .i64) (.one (.sl (.one (.int .i64))))))]⟩⟩)]
noncomputable def formula_Reader_formula_1_u0_a : AC := .run
noncomputable def formula_Reader_formula_1_u0_l : List (Nat × AC) := []
noncomputable def formula_Reader_formula_1_u0 : Un := scU formula_Reader_formula_1_v [4, 5, 13, 14, 15, 16, 17, 18, 4, 20, 21, 19, 22, 23, 6, 7, 24, 25, 26, 27, 28, 4, 29, 30, 31, 32, 33, 34, 35, 36, 5, 37, 38, 39, 40, 4, 42, 43, 41, 44, 45, 8, 9, 46, 47, 48, 49, 50, 51, 4, 2, 3, 52, 53, 54, 55, 2, 3, 56, 57, 58, 59, 60, 10, 62, 63, 61, 64, 65, 11, 12, 66, 67, 68, 69, 70, 71, 72, 73, 74, 75, 76, 77, 78, 79, 80, 81, 82, 83, 84, 85, 86, 87, 88, 89, 90, 91, 92, 93, 94, 95, 96, 97, 2, 3, 98, 99, 100, 101, 102, 5] formula_Reader_formula_1_u0_j formula_Reader_formula_1_u0_e (subC (bodyOf Tryz.f92) [1, 0]) (formula_Reader_formula_1_u0_a) (lp formula_Reader_formula_1_L0 fuel)
theorem formula_Reader_formula_1_u0_s (f : YT formula_Reader_formula_1_u0_j → Option (YT formula_Reader_formula_1_u0_e)) (x : YT formula_Reader_formula_1_u0_j) : passE formula_Reader_formula_1_v (subC (bodyOf Tryz.f92) [1, 0]) (acsOf (formula_Reader_formula_1_u0_l)) formula_Reader_formula_1_u0_j formula_Reader_formula_1_u0_e f x = formula_Reader_formula_1_L0 f x := by kernel_rfl
theorem formula_Reader_formula_1_u0_ok {X : Fx} (hX : VOk Tryz.prog X formula_Reader_formula_1_v) : UnOk Tryz.prog X formula_Reader_formula_1_v (subC (bodyOf Tryz.f92) [1]) formula_Reader_formula_1_u0 :=
  sc_un' (c := (subC (bodyOf Tryz.f92) [1, 0])) (by kernel_rfl) (env_all tb_ok (formula_Reader_formula_1_gs)) hord (ob := []) (by kernel_rfl) (fun X hX => obl_nil) (fun X hX => acs_ok acl_nil) (formula_Reader_formula_1_u0_s) (by kernel_rfl) (by kernel_rfl) (by kernel_rfl) hX
noncomputable def formula_Reader_formula_1_a : AC := (.seq .run (.unit formula_Reader_formula_1_u0))
theorem formula_Reader_formula_1_s (x : TupL formula_Reader_formula_1_c.inp.hs) : E formula_Reader_formula_1_v (bodyOf Tryz.f92) (formula_Reader_formula_1_a) (formula_Reader_formula_1_c.entry x) (retSK tb formula_Reader_formula_1_v.fz formula_Reader_formula_1_c [.tmp 2, .tmp 3] x) = formula_Reader_formula_1_c.F x := by kernel_rfl
theorem formula_Reader_formula_1_ok : ShOk Tryz.prog gl 92 formula_Reader_formula_1_c :=
  fn_ok (l := formula_Reader_formula_1_g) (n := Tryz.f92.ntmps) (code := bodyOf Tryz.f92) (rts := [.tmp 2, .tmp 3]) tb_ok hord (formula_Reader_formula_1_gs) Tryz.func92 (by kernel_rfl) (by kernel_rfl) rfl (by kernel_rfl) (ac := formula_Reader_formula_1_a) (ob := [((subC (bodyOf Tryz.f92) [1]), formula_Reader_formula_1_u0)]) (by kernel_rfl) (fun X hX => (obl_cons (formula_Reader_formula_1_u0_ok hX) obl_nil)) (by kernel_rfl) (formula_Reader_formula_1_s)

noncomputable def formula_Read_c : ShC := { inp := ⟨[.hole, .hole], [], [1, 1], [.sl tSym, .sl (.cons (.int .i64) (.one .str))]⟩, out := ⟨[(.view 0), .hole], [.seq false], [2, 0], [.int .i64, .sl (.cons (.int .i64) (.cons (.int .i64) (.one (.sl (.one (.int .i64))))))]⟩, nres := 2, ms := [], mu := [], leak := true, glob := true, F := fun (x : ((List QSym) × (List (Int × Str)))) => formula_Read x.1 x.2 }
-- formula.Read
noncomputable def formula_Read_g : List (Nat × Con) := [(56, .gen (altE [formula_SigMay_c])), (92, .gen (altE [formula_Reader_formula_1_c]))]
noncomputable def formula_Read_v : Env := envOf tb gl formula_Read_g formula_Read_c Tryz.f48.ntmps
theorem formula_Read_gs : Goods Tryz.prog (cond formula_Read_c.glob gl fun _ => none) formula_Read_g := (goods_cons (good_alt (alls_cons formula_SigMay_ok alls_nil)) (goods_cons (good_alt (alls_cons formula_Reader_formula_1_ok alls_nil)) goods_nil))
noncomputable def formula_Read_a : AC := .run
theorem formula_Read_s (x : TupL formula_Read_c.inp.hs) : E formula_Read_v (bodyOf Tryz.f48) (formula_Read_a) (formula_Read_c.entry x) (retSK tb formula_Read_v.fz formula_Read_c [.tmp 4, .tmp 5] x) = formula_Read_c.F x := by kernel_rfl
theorem formula_Read_ok : ShOk Tryz.prog gl 48 formula_Read_c :=
  fn_ok (l := formula_Read_g) (n := Tryz.f48.ntmps) (code := bodyOf Tryz.f48) (rts := [.tmp 4, .tmp 5]) tb_ok hord (formula_Read_gs) Tryz.func48 (by kernel_rfl) (by kernel_rfl) rfl (by kernel_rfl) (ac := formula_Read_a) (ob := []) (by kernel_rfl) (fun X hX => obl_nil) (by kernel_rfl) (formula_Read_s)

noncomputable def formula_Parse_c : ShC := { inp := ⟨[.hole, .hole], [], [1, 1], [.sl tSym, .str]⟩, out := ⟨[(.view 0), .hole], [.seq false], [2, 0], [.int .i64, .sl (.cons (.int .i64) (.cons (.int .i64) (.one (.sl (.one (.int .i64))))))]⟩, nres := 2, ms := [], mu := [], leak := true, glob := true, F := fun (x : ((List QSym) × Str)) => formula_Parse x.1 x.2 }
-- formula.Parse
noncomputable def formula_Parse_g : List (Nat × Con) := [(47, .gen (altE [lex_Lex_c])), (48, .gen (altE [formula_Read_c]))]
noncomputable def formula_Parse_v : Env := envOf tb gl formula_Parse_g formula_Parse_c Tryz.f19.ntmps
theorem formula_Parse_gs : Goods Tryz.prog (cond formula_Parse_c.glob gl fun _ => none) formula_Parse_g := (goods_cons (good_alt (alls_cons (lex_Lex_ok.anyGl rfl) alls_nil)) (goods_cons (good_alt (alls_cons formula_Read_ok alls_nil)) goods_nil))
noncomputable def formula_Parse_a : AC := .run
theorem formula_Parse_s (x : TupL formula_Parse_c.inp.hs) : E formula_Parse_v (bodyOf Tryz.f19) (formula_Parse_a) (formula_Parse_c.entry x) (retSK tb formula_Parse_v.fz formula_Parse_c [.tmp 4, .tmp 5] x) = formula_Parse_c.F x := by kernel_rfl
theorem formula_Parse_ok : ShOk Tryz.prog gl 19 formula_Parse_c :=
  fn_ok (l := formula_Parse_g) (n := Tryz.f19.ntmps) (code := bodyOf Tryz.f19) (rts := [.tmp 4, .tmp 5]) tb_ok hord (formula_Parse_gs) Tryz.func19 (by kernel_rfl) (by kernel_rfl) rfl (by kernel_rfl) (ac := formula_Parse_a) (ob := []) (by kernel_rfl) (fun X hX => obl_nil) (by kernel_rfl) (formula_Parse_s)

noncomputable def ref21_small_c : ShC := { inp := ⟨[.hole], [], [1], [.int .u8]⟩, out := ⟨[.hole], [], [2], [.bool]⟩, nres := 1, ms := [], mu := [], leak := false, glob := false, F := fun (x : Int) => ref21_small x }
-- quaereref21.small
noncomputable def ref21_small_g : List (Nat × Con) := []
noncomputable def ref21_small_v : Env := envOf tb gl ref21_small_g ref21_small_c Tryz.f132.ntmps
theorem ref21_small_gs : Goods Tryz.prog (cond ref21_small_c.glob gl fun _ => none) ref21_small_g := goods_nil
noncomputable def ref21_small_a : AC := .run
theorem ref21_small_s (x : TupL ref21_small_c.inp.hs) : E ref21_small_v (bodyOf Tryz.f132) (ref21_small_a) (ref21_small_c.entry x) (retSK tb ref21_small_v.fz ref21_small_c [.tmp 2] x) = ref21_small_c.F x := by kernel_rfl
theorem ref21_small_ok : ShOk Tryz.prog gl 132 ref21_small_c :=
  fn_ok (l := ref21_small_g) (n := Tryz.f132.ntmps) (code := bodyOf Tryz.f132) (rts := [.tmp 2]) tb_ok hord (ref21_small_gs) Tryz.func132 (by kernel_rfl) (by kernel_rfl) rfl (by kernel_rfl) (ac := ref21_small_a) (ob := []) (by kernel_rfl) (fun X hX => obl_nil) (by kernel_rfl) (ref21_small_s)

noncomputable def ref21_digit_c : ShC := { inp := ⟨[.hole], [], [1], [.int .u8]⟩, out := ⟨[.hole], [], [2], [.bool]⟩, nres := 1, ms := [], mu := [], leak := false, glob := false, F := fun (x : Int) => ref21_digit x }
-- quaereref21.digit
noncomputable def ref21_digit_g : List (Nat × Con) := []
noncomputable def ref21_digit_v : Env := envOf tb gl ref21_digit_g ref21_digit_c Tryz.f133.ntmps
theorem ref21_digit_gs : Goods Tryz.prog (cond ref21_digit_c.glob gl fun _ => none) ref21_digit_g := goods_nil
noncomputable def ref21_digit_a : AC := .run
theorem ref21_digit_s (x : TupL ref21_digit_c.inp.hs) : E ref21_digit_v (bodyOf Tryz.f133) (ref21_digit_a) (ref21_digit_c.entry x) (retSK tb ref21_digit_v.fz ref21_digit_c [.tmp 2] x) = ref21_digit_c.F x := by kernel_rfl
theorem ref21_digit_ok : ShOk Tryz.prog gl 133 ref21_digit_c :=
  fn_ok (l := ref21_digit_g) (n := Tryz.f133.ntmps) (code := bodyOf Tryz.f133) (rts := [.tmp 2]) tb_ok hord (ref21_digit_gs) Tryz.func133 (by kernel_rfl) (by kernel_rfl) rfl (by kernel_rfl) (ac := ref21_digit_a) (ob := []) (by kernel_rfl) (fun X hX => obl_nil) (by kernel_rfl) (ref21_digit_s)

noncomputable def ref21_digits_c : ShC := { inp := ⟨[.hole, .hole], [], [1, 1], [.str, .int .i64]⟩, out := ⟨[.hole], [], [2], [.int .i64]⟩, nres := 1, ms := [], mu := [], leak := false, glob := false, F := fun (x : (Str × Int)) => ref21_digits x.1 x.2 }
-- quaereref21.digits
noncomputable def ref21_digits_g : List (Nat × Con) := [(133, .gen (altE [ref21_digit_c]))]
noncomputable def ref21_digits_v : Env := envOf tb gl ref21_digits_g ref21_digits_c Tryz.f134.ntmps
theorem ref21_digits_gs : Goods Tryz.prog (cond ref21_digits_c.glob gl fun _ => none) ref21_digits_g := (goods_cons (good_alt (alls_cons (ref21_digit_ok.anyGl rfl) alls_nil)) goods_nil)
noncomputable def ref21_digits_u0_h : SS := ⟨[0, 1], ⟨[.hole, .hole], [], [2, 2], [.str, .int .i64]⟩⟩
noncomputable def ref21_digits_u0_e : Exs := [((.exit 0), ⟨[1], ⟨[.hole], [], [2], [.int .i64]⟩⟩)]
noncomputable def ref21_digits_u0_a : AC := .run
noncomputable def ref21_digits_u0 : Un := lpU ref21_digits_v.fz [5, 6, 7, 8, 9, 10, 11, 12, 13, 14, 15, 16, 1] ref21_digits_u0_h ref21_digits_u0_e (lp ref21_digits_L0 fuel)
theorem ref21_digits_u0_s (f : ref21_digits_u0_h.X → Option (YT ref21_digits_u0_e)) (x : ref21_digits_u0_h.X) : E ref21_digits_v (subC (bodyOf Tryz.f134) [1, 0, 0, 0]) (ref21_digits_u0_a) (mkS ref21_digits_u0_h 8 x) (roundK ref21_digits_v.fz ref21_digits_u0_h ref21_digits_u0_e f) = ref21_digits_L0 f x := by kernel_rfl
theorem ref21_digits_u0_ok {X : Fx} (hX : VOk Tryz.prog X ref21_digits_v) : UnOk Tryz.prog X ref21_digits_v (subC (bodyOf Tryz.f134) [1, 0, 0]) ref21_digits_u0 :=
  lp_un' (c := (subC (bodyOf Tryz.f134) [1, 0, 0, 0])) (by kernel_rfl) (env_all tb_ok (ref21_digits_gs)) hord (ob := []) (by kernel_rfl) (fun X hX => obl_nil) (ref21_digits_u0_s) (by kernel_rfl) (by kernel_rfl) hX
noncomputable def ref21_digits_a : AC := (.seq .run (.seq (.block (.unit ref21_digits_u0)) .run))
theorem ref21_digits_s (x : TupL ref21_digits_c.inp.hs) : E ref21_digits_v (bodyOf Tryz.f134) (ref21_digits_a) (ref21_digits_c.entry x) (retSK tb ref21_digits_v.fz ref21_digits_c [.tmp 4] x) = ref21_digits_c.F x := by kernel_rfl
theorem ref21_digits_ok : ShOk Tryz.prog gl 134 ref21_digits_c :=
  fn_ok (l := ref21_digits_g) (n := Tryz.f134.ntmps) (code := bodyOf Tryz.f134) (rts := [.tmp 4]) tb_ok hord (ref21_digits_gs) Tryz.func134 (by kernel_rfl) (by kernel_rfl) rfl (by kernel_rfl) (ac := ref21_digits_a) (ob := [((subC (bodyOf Tryz.f134) [1, 0, 0]), ref21_digits_u0)]) (by kernel_rfl) (fun X hX => (obl_cons (ref21_digits_u0_ok hX) obl_nil)) (by kernel_rfl) (ref21_digits_s)

noncomputable def ref21_Number_c : ShC := { inp := ⟨[.hole], [], [1], [.str]⟩, out := ⟨[.hole, .hole], [], [2, 2], [.int .i64, .bool]⟩, nres := 2, ms := [], mu := [], leak := false, glob := false, F := fun (x : Str) => ref21_Number x }
-- quaereref21.Number
noncomputable def ref21_Number_g : List (Nat × Con) := [(133, .gen (altE [ref21_digit_c]))]
noncomputable def ref21_Number_v : Env := envOf tb gl ref21_Number_g ref21_Number_c Tryz.f135.ntmps
theorem ref21_Number_gs : Goods Tryz.prog (cond ref21_Number_c.glob gl fun _ => none) ref21_Number_g := (goods_cons (good_alt (alls_cons (ref21_digit_ok.anyGl rfl) alls_nil)) goods_nil)
noncomputable def ref21_Number_u0_h : SS := ⟨[0, 4, 5], ⟨[.hole, .hole, .hole], [], [2, 2, 2], [.str, .int .i64, .int .i64]⟩⟩
noncomputable def ref21_Number_u0_e : Exs := [((.exit 0), ⟨[4], ⟨[.hole], [], [2], [.int .i64]⟩⟩), (.ret, ⟨[2, 3], ⟨[.hole, .hole], [], [2, 2], [.int .i64, .bool]⟩⟩)]
noncomputable def ref21_Number_u0_a : AC := .run
noncomputable def ref21_Number_u0 : Un := lpU ref21_Number_v.fz [24, 25, 26, 27, 30, 31, 32, 33, 34, 2, 3, 35, 36, 37, 38, 39, 40, 41, 42, 4, 28, 29, 5] ref21_Number_u0_h ref21_Number_u0_e (lp ref21_Number_L0 fuel)
theorem ref21_Number_u0_s (f : ref21_Number_u0_h.X → Option (YT ref21_Number_u0_e)) (x : ref21_Number_u0_h.X) : E ref21_Number_v (subC (bodyOf Tryz.f135) [1, 1, 1, 0, 1, 0, 0]) (ref21_Number_u0_a) (mkS ref21_Number_u0_h 8 x) (roundK ref21_Number_v.fz ref21_Number_u0_h ref21_Number_u0_e f) = ref21_Number_L0 f x := by kernel_rfl
theorem ref21_Number_u0_ok {X : Fx} (hX : VOk Tryz.prog X ref21_Number_v) : UnOk Tryz.prog X ref21_Number_v (subC (bodyOf Tryz.f135) [1, 1, 1, 0, 1, 0]) ref21_Number_u0 :=
  lp_un' (c := (subC (bodyOf Tryz.f135) [1, 1, 1, 0, 1, 0, 0])) (by kernel_rfl) (env_all tb_ok (ref21_Number_gs)) hord (ob := []) (by kernel_rfl) (fun X hX => obl_nil) (ref21_Number_u0_s) (by kernel_rfl) (by kernel_rfl) hX
noncomputable def ref21_Number_a : AC := (.seq .run (.seq .run (.seq .run (.seq (.seq .run (.block (.unit ref21_Number_u0))) .run))))
theorem ref21_Number_s (x : TupL ref21_Number_c.inp.hs) : E ref21_Number_v (bodyOf Tryz.f135) (ref21_Number_a) (ref21_Number_c.entry x) (retSK tb ref21_Number_v.fz ref21_Number_c [.tmp 2, .tmp 3] x) = ref21_Number_c.F x := by kernel_rfl
theorem ref21_Number_ok : ShOk Tryz.prog gl 135 ref21_Number_c :=
  fn_ok (l := ref21_Number_g) (n := Tryz.f135.ntmps) (code := bodyOf Tryz.f135) (rts := [.tmp 2, .tmp 3]) tb_ok hord (ref21_Number_gs) Tryz.func135 (by kernel_rfl) (by kernel_rfl) rfl (by kernel_rfl) (ac := ref21_Number_a) (ob := [((subC (bodyOf Tryz.f135) [1, 1, 1, 0, 1, 0]), ref21_Number_u0)]) (by kernel_rfl) (fun X hX => (obl_cons (ref21_Number_u0_ok hX) obl_nil)) (by kernel_rfl) (ref21_Number_s)

noncomputable def ref21_word_c : ShC := { inp := ⟨[.hole, .hole], [], [1, 1], [.str, .int .i64]⟩, out := ⟨[(.agg [.hole, .hole]), .hole], [], [2, 2, 2], [.int .i64, .str, .bool]⟩, nres := 2, ms := [], mu := [], leak := false, glob := false, F := fun (x : (Str × Int)) => ref21_word x.1 x.2 }
-- quaereref21.word
noncomputable def ref21_word_g : List (Nat × Con) := [(132, .gen (altE [ref21_small_c])), (133, .gen (altE [ref21_digit_c])), (134, .gen (altE [ref21_digits_c])), (135, .gen (altE [ref21_Number_c]))]
noncomputable def ref21_word_v : Env := envOf tb gl ref21_word_g ref21_word_c Tryz.f93.ntmps
theorem ref21_word_gs : Goods Tryz.prog (cond ref21_word_c.glob gl fun _ => none) ref21_word_g := (goods_cons (good_alt (alls_cons (ref21_small_ok.anyGl rfl) alls_nil)) (goods_cons (good_alt (alls_cons (ref21_digit_ok.anyGl rfl) alls_nil)) (goods_cons (good_alt (alls_cons (ref21_digits_ok.anyGl rfl) alls_nil)) (goods_cons (good_alt (alls_cons (ref21_Number_ok.anyGl rfl) alls_nil)) goods_nil))))
noncomputable def ref21_word_u0_h : SS := ⟨[0, 1, 4, 7], ⟨[.hole, .hole, (.ptr 0 0), .hole], [.cells true [.hole, .hole]], [2, 2, 2, 2, 2], [.str, .int .i64, .int .i64, .int .i64, .str]⟩⟩
noncomputable def ref21_word_u0_e : Exs := [((.exit 1), ⟨[7], ⟨[.hole], [], [2], [.int .i64]⟩⟩)]
noncomputable def ref21_word_u0_a : AC := .run
noncomputable def ref21_word_u0 : Un := lpU ref21_word_v.fz [22, 23, 24, 25, 26, 27, 28, 29, 30, 31, 32, 33, 34, 35, 36, 37, 38, 39, 7] ref21_word_u0_h ref21_word_u0_e (lp ref21_word_L0 fuel)
theorem ref21_word_u0_s (f : ref21_word_u0_h.X → Option (YT ref21_word_u0_e)) (x : ref21_word_u0_h.X) : E ref21_word_v (subC (bodyOf Tryz.f93) [1, 1, 0, 0, 1, 0, 1, 0, 0, 0]) (ref21_word_u0_a) (mkS ref21_word_u0_h 8 x) (roundK ref21_word_v.fz ref21_word_u0_h ref21_word_u0_e f) = ref21_word_L0 f x := by kernel_rfl
theorem ref21_word_u0_ok {X : Fx} (hX : VOk Tryz.prog X ref21_word_v) : UnOk Tryz.prog X ref21_word_v (subC (bodyOf Tryz.f93) [1, 1, 0, 0, 1, 0, 1, 0, 0]) ref21_word_u0 :=
  lp_un' (c := (subC (bodyOf Tryz.f93) [1, 1, 0, 0, 1, 0, 1, 0, 0, 0])) (by kernel_rfl) (env_all tb_ok (ref21_word_gs)) hord (ob := []) (by kernel_rfl) (fun X hX => obl_nil) (ref21_word_u0_s) (by kernel_rfl) (by kernel_rfl) hX
noncomputable def ref21_word_a : AC := (.seq .run (.seq .run (.seq (.block (.seq .run (.cond (.seq .run (.seq (.block (.unit ref21_word_u0)) .run)) (.seq .run (.cond .run (.seq .run (.cond .run (.seq .run (.cond (.seq (.hide [[], [], [], [], [], [], [], [8], [8], [8], [8], [8], [8], [], []]) .run) .run))))))))) .run)))
theorem ref21_word_s (x : TupL ref21_word_c.inp.hs) : E ref21_word_v (bodyOf Tryz.f93) (ref21_word_a) (ref21_word_c.entry x) (retSK tb ref21_word_v.fz ref21_word_c [.cell 4 127, .tmp 5] x) = ref21_word_c.F x := by kernel_rfl
theorem ref21_word_ok : ShOk Tryz.prog gl 93 ref21_word_c :=
  fn_ok (l := ref21_word_g) (n := Tryz.f93.ntmps) (code := bodyOf Tryz.f93) (rts := [.cell 4 127, .tmp 5]) tb_ok hord (ref21_word_gs) Tryz.func93 (by kernel_rfl) (by kernel_rfl) rfl (by kernel_rfl) (ac := ref21_word_a) (ob := [((subC (bodyOf Tryz.f93) [1, 1, 0, 0, 1, 0, 1, 0, 0]), ref21_word_u0)]) (by kernel_rfl) (fun X hX => (obl_cons (ref21_word_u0_ok hX) obl_nil)) (by kernel_rfl) (ref21_word_s)

noncomputable def ref21_Lex_c : ShC := { inp := ⟨[.hole], [], [1], [.str]⟩, out := ⟨[(.view 0), .hole], [.seq false], [2, 2], [.int .i64, .sl (.cons (.int .i64) (.one .str))]⟩, nres := 2, ms := [], mu := [], leak := false, glob := false, F := fun (x : Str) => ref21_Lex x }
-- quaereref21.Lex
noncomputable def ref21_Lex_g : List (Nat × Con) := [(93, .gen (altE [ref21_word_c]))]
noncomputable def ref21_Lex_v : Env := envOf tb gl ref21_Lex_g ref21_Lex_c Tryz.f49.ntmps
theorem ref21_Lex_gs : Goods Tryz.prog (cond ref21_Lex_c.glob gl fun _ => none) ref21_Lex_g := (goods_cons (good_alt (alls_cons (ref21_word_ok.anyGl rfl) alls_nil)) goods_nil)
noncomputable def ref21_Lex_u0_h : SS := ⟨[0, 4, 5], ⟨[.hole, (.view 0), .hole], [.seq false], [2, 2, 2], [.str, .int .i64, .sl (.cons (.int .i64) (.one .str))]⟩⟩
noncomputable def ref21_Lex_u0_e : Exs := [((.exit 0), ⟨[4], ⟨[(.view 0)], [.seq false], [2], [.sl (.cons (.int .i64) (.one .str))]⟩⟩), (.ret, ⟨[2, 3], ⟨[.nilv, .hole], [], [2], [.int .i64]⟩⟩)]
noncomputable def ref21_Lex_u0_a : AC := .run
noncomputable def ref21_Lex_u0 : Un := lpU ref21_Lex_v.fz [11, 12, 13, 14, 15, 16, 17, 18, 19, 20, 5, 22, 23, 24, 21, 25, 26, 6, 7, 27, 28, 2, 3, 29, 30, 31, 32, 4, 33, 34, 35, 36, 37, 5] ref21_Lex_u0_h ref21_Lex_u0_e (lp ref21_Lex_L0 fuel)
theorem ref21_Lex_u0_s (f : ref21_Lex_u0_h.X → Option (YT ref21_Lex_u0_e)) (x : ref21_Lex_u0_h.X) : E ref21_Lex_v (subC (bodyOf Tryz.f49) [1, 1, 1, 1, 0, 0, 0]) (ref21_Lex_u0_a) (mkS ref21_Lex_u0_h 8 x) (roundK ref21_Lex_v.fz ref21_Lex_u0_h ref21_Lex_u0_e f) = ref21_Lex_L0 f x := by kernel_rfl
theorem ref21_Lex_u0_ok {X : Fx} (hX : VOk Tryz.prog X ref21_Lex_v) : UnOk Tryz.prog X ref21_Lex_v (subC (bodyOf Tryz.f49) [1, 1, 1, 1, 0, 0]) ref21_Lex_u0 :=
  lp_un' (c := (subC (bodyOf Tryz.f49) [1, 1, 1, 1, 0, 0, 0])) (by kernel_rfl) (env_all tb_ok (ref21_Lex_gs)) hord (ob := []) (by kernel_rfl) (fun X hX => obl_nil) (ref21_Lex_u0_s) (by kernel_rfl) (by kernel_rfl) hX
noncomputable def ref21_Lex_a : AC := (.seq .run (.seq .run (.seq .run (.seq .run (.seq (.block (.unit ref21_Lex_u0)) .run)))))
theorem ref21_Lex_s (x : TupL ref21_Lex_c.inp.hs) : E ref21_Lex_v (bodyOf Tryz.f49) (ref21_Lex_a) (ref21_Lex_c.entry x) (retSK tb ref21_Lex_v.fz ref21_Lex_c [.tmp 2, .tmp 3] x) = ref21_Lex_c.F x := by kernel_rfl
theorem ref21_Lex_ok : ShOk Tryz.prog gl 49 ref21_Lex_c :=
  fn_ok (l := ref21_Lex_g) (n := Tryz.f49.ntmps) (code := bodyOf Tryz.f49) (rts := [.tmp 2, .tmp 3]) tb_ok hord (ref21_Lex_gs) Tryz.func49 (by kernel_rfl) (by kernel_rfl) rfl (by kernel_rfl) (ac := ref21_Lex_a) (ob := [((subC (bodyOf Tryz.f49) [1, 1, 1, 1, 0, 0]), ref21_Lex_u0)]) (by kernel_rfl) (fun X hX => (obl_cons (ref21_Lex_u0_ok hX) obl_nil)) (by kernel_rfl) (ref21_Lex_s)

noncomputable def ref1_small_c : ShC := { inp := ⟨[.hole], [], [1], [.int .u8]⟩, out := ⟨[.hole], [], [2], [.bool]⟩, nres := 1, ms := [], mu := [], leak := false, glob := false, F := fun (x : Int) => ref1_small x }
-- quaereref1.small
noncomputable def ref1_small_g : List (Nat × Con) := []
noncomputable def ref1_small_v : Env := envOf tb gl ref1_small_g ref1_small_c Tryz.f166.ntmps
theorem ref1_small_gs : Goods Tryz.prog (cond ref1_small_c.glob gl fun _ => none) ref1_small_g := goods_nil
noncomputable def ref1_small_a : AC := .run
theorem ref1_small_s (x : TupL ref1_small_c.inp.hs) : E ref1_small_v (bodyOf Tryz.f166) (ref1_small_a) (ref1_small_c.entry x) (retSK tb ref1_small_v.fz ref1_small_c [.tmp 2] x) = ref1_small_c.F x := by kernel_rfl
theorem ref1_small_ok : ShOk Tryz.prog gl 166 ref1_small_c :=
  fn_ok (l := ref1_small_g) (n := Tryz.f166.ntmps) (code := bodyOf Tryz.f166) (rts := [.tmp 2]) tb_ok hord (ref1_small_gs) Tryz.func166 (by kernel_rfl) (by kernel_rfl) rfl (by kernel_rfl) (ac := ref1_small_a) (ob := []) (by kernel_rfl) (fun X hX => obl_nil) (by kernel_rfl) (ref1_small_s)

noncomputable def ref1_SymMay_c : ShC := { inp := ⟨[(.agg [.hole, .hole, .hole, .hole])], [], [1, 1, 1, 1], [.str, .int .i64, .int .i64, .int .i64]⟩, out := ⟨[.hole], [], [2], [.bool]⟩, nres := 1, ms := [], mu := [], leak := false, glob := false, F := fun (x : QSym) => ref1_SymMay x.1 x.2.1 x.2.2.1 x.2.2.2 }
-- quaereref1.SymMay
noncomputable def ref1_SymMay_g : List (Nat × Con) := [(166, .gen (altE [ref1_small_c]))]
noncomputable def ref1_SymMay_v : Env := envOf tb gl ref1_SymMay_g ref1_SymMay_c Tryz.f145.ntmps
theorem ref1_SymMay_gs : Goods Tryz.prog (cond ref1_SymMay_c.glob gl fun _ => none) ref1_SymMay_g := (goods_cons (good_alt (alls_cons (ref1_small_ok.anyGl rfl) alls_nil)) goods_nil)
noncomputable def ref1_SymMay_u0_h : SS := ⟨[1, 3], ⟨[(.ptr 0 0), .hole], [.cells true [.hole, .hole, .hole, .hole]], [2, 2, 2, 2, 2], [.int .i64, .str, .int .i64, .int .i64, .int .i64]⟩⟩
noncomputable def ref1_SymMay_u0_e : Exs := [((.exit 0), ⟨[], ⟨[], [], [], []⟩⟩), (.ret, ⟨[2], ⟨[.hole], [], [2], [.bool]⟩⟩)]
noncomputable def ref1_SymMay_u0_a : AC := .run
noncomputable def ref1_SymMay_u0 : Un := lpU ref1_SymMay_v.fz [21, 22, 23, 24, 25, 28, 29, 30, 31, 32, 33, 34, 35, 36, 37, 38, 39, 40, 41, 42, 43, 44, 45, 46, 47, 2, 26, 27, 3] ref1_SymMay_u0_h ref1_SymMay_u0_e (lp ref1_SymMay_L0 fuel)
theorem ref1_SymMay_u0_s (f : ref1_SymMay_u0_h.X → Option (YT ref1_SymMay_u0_e)) (x : ref1_SymMay_u0_h.X) : E ref1_SymMay_v (subC (bodyOf Tryz.f145) [1, 1, 0, 1, 0, 0]) (ref1_SymMay_u0_a) (mkS ref1_SymMay_u0_h 8 x) (roundK ref1_SymMay_v.fz ref1_SymMay_u0_h ref1_SymMay_u0_e f) = ref1_SymMay_L0 f x := by kernel_rfl
theorem ref1_SymMay_u0_ok {X : Fx} (hX : VOk Tryz.prog X ref1_SymMay_v) : UnOk Tryz.prog X ref1_SymMay_v (subC (bodyOf Tryz.f145) [1, 1, 0, 1, 0]) ref1_SymMay_u0 :=
  lp_un' (c := (subC (bodyOf Tryz.f145) [1, 1, 0, 1, 0, 0])) (by kernel_rfl) (env_all tb_ok (ref1_SymMay_gs)) hord (ob := []) (by kernel_rfl) (fun X hX => obl_nil) (ref1_SymMay_u0_s) (by kernel_rfl) (by kernel_rfl) hX
noncomputable def ref1_SymMay_a : AC := (.seq .run (.seq .run (.seq (.seq .run (.block (.unit ref1_SymMay_u0))) .run)))
theorem ref1_SymMay_s (x : TupL ref1_SymMay_c.inp.hs) : E ref1_SymMay_v (bodyOf Tryz.f145) (ref1_SymMay_a) (ref1_SymMay_c.entry x) (retSK tb ref1_SymMay_v.fz ref1_SymMay_c [.tmp 2] x) = ref1_SymMay_c.F x := by kernel_rfl
theorem ref1_SymMay_ok : ShOk Tryz.prog gl 145 ref1_SymMay_c :=
  fn_ok (l := ref1_SymMay_g) (n := Tryz.f145.ntmps) (code := bodyOf Tryz.f145) (rts := [.tmp 2]) tb_ok hord (ref1_SymMay_gs) Tryz.func145 (by kernel_rfl) (by kernel_rfl) rfl (by kernel_rfl) (ac := ref1_SymMay_a) (ob := [((subC (bodyOf Tryz.f145) [1, 1, 0, 1, 0]), ref1_SymMay_u0)]) (by kernel_rfl) (fun X hX => (obl_cons (ref1_SymMay_u0_ok hX) obl_nil)) (by kernel_rfl) (ref1_SymMay_s)

noncomputable def ref1_Code_c : ShC := { inp := ⟨[.hole, .hole], [], [1, 1], [.sl tSym, .str]⟩, out := ⟨[.hole], [], [2], [.int .i64]⟩, nres := 1, ms := [], mu := [], leak := false, glob := false, F := fun (x : ((List QSym) × Str)) => ref1_Code x.1 x.2 }
-- quaereref1.Code
noncomputable def ref1_Code_g : List (Nat × Con) := []
noncomputable def ref1_Code_v : Env := envOf tb gl ref1_Code_g ref1_Code_c Tryz.f102.ntmps
theorem ref1_Code_gs : Goods Tryz.prog (cond ref1_Code_c.glob gl fun _ => none) ref1_Code_g := goods_nil
noncomputable def ref1_Code_u0_h : SS := ⟨[0, 1, 5], ⟨[.hole, .hole, .hole], [], [1, 2, 2], [.sl tSym, .str, .int .i64]⟩⟩
noncomputable def ref1_Code_u0_e : Exs := [((.exit 0), ⟨[], ⟨[], [], [], []⟩⟩), (.ret, ⟨[4], ⟨[.hole], [], [2], [.int .i64]⟩⟩)]
noncomputable def ref1_Code_u0_a : AC := .run
noncomputable def ref1_Code_u0 : Un := lpU ref1_Code_v.fz [6, 7, 8, 9, 12, 13, 14, 15, 16, 17, 18, 19, 4, 10, 11, 5] ref1_Code_u0_h ref1_Code_u0_e (lp ref1_Code_L0 fuel)
theorem ref1_Code_u0_s (f : ref1_Code_u0_h.X → Option (YT ref1_Code_u0_e)) (x : ref1_Code_u0_h.X) : E ref1_Code_v (subC (bodyOf Tryz.f102) [1, 0, 1, 0, 0]) (ref1_Code_u0_a) (mkS ref1_Code_u0_h 8 x) (roundK ref1_Code_v.fz ref1_Code_u0_h ref1_Code_u0_e f) = ref1_Code_L0 f x := by kernel_rfl
theorem ref1_Code_u0_ok {X : Fx} (hX : VOk Tryz.prog X ref1_Code_v) : UnOk Tryz.prog X ref1_Code_v (subC (bodyOf Tryz.f102) [1, 0, 1, 0]) ref1_Code_u0 :=
  lp_un' (c := (subC (bodyOf Tryz.f102) [1, 0, 1, 0, 0])) (by kernel_rfl) (env_all tb_ok (ref1_Code_gs)) hord (ob := []) (by kernel_rfl) (fun X hX => obl_nil) (ref1_Code_u0_s) (by kernel_rfl) (by kernel_rfl) hX
noncomputable def ref1_Code_a : AC := (.seq .run (.seq (.seq .run (.block (.unit ref1_Code_u0))) .run))
theorem ref1_Code_s (x : TupL ref1_Code_c.inp.hs) : E ref1_Code_v (bodyOf Tryz.f102) (ref1_Code_a) (ref1_Code_c.entry x) (retSK tb ref1_Code_v.fz ref1_Code_c [.tmp 4] x) = ref1_Code_c.F x := by kernel_rfl
theorem ref1_Code_ok : ShOk Tryz.prog gl 102 ref1_Code_c :=
  fn_ok (l := ref1_Code_g) (n := Tryz.f102.ntmps) (code := bodyOf Tryz.f102) (rts := [.tmp 4]) tb_ok hord (ref1_Code_gs) Tryz.func102 (by kernel_rfl) (by kernel_rfl) rfl (by kernel_rfl) (ac := ref1_Code_a) (ob := [((subC (bodyOf Tryz.f102) [1, 0, 1, 0]), ref1_Code_u0)]) (by kernel_rfl) (fun X hX => (obl_cons (ref1_Code_u0_ok hX) obl_nil)) (by kernel_rfl) (ref1_Code_s)

noncomputable def ref1_SignMay_c : ShC := { inp := ⟨[.hole], [], [1], [.sl tSym]⟩, out := ⟨[.hole], [], [2], [.bool]⟩, nres := 1, ms := [], mu := [], leak := false, glob := false, F := fun (x : (List QSym)) => ref1_SignMay x }
-- quaereref1.SignMay
noncomputable def ref1_SignMay_g : List (Nat × Con) := [(102, .gen (altE [ref1_Code_c])), (145, .gen (altE [ref1_SymMay_c]))]
noncomputable def ref1_SignMay_v : Env := envOf tb gl ref1_SignMay_g ref1_SignMay_c Tryz.f101.ntmps
theorem ref1_SignMay_gs : Goods Tryz.prog (cond ref1_SignMay_c.glob gl fun _ => none) ref1_SignMay_g := (goods_cons (good_alt (alls_cons (ref1_Code_ok.anyGl rfl) alls_nil)) (goods_cons (good_alt (alls_cons (ref1_SymMay_ok.anyGl rfl) alls_nil)) goods_nil))
noncomputable def ref1_SignMay_u0_h : SS := ⟨[0, 3], ⟨[.hole, .hole], [], [1, 2], [.sl tSym, .int .i64]⟩⟩
noncomputable def ref1_SignMay_u0_e : Exs := [((.exit 0), ⟨[], ⟨[], [], [], []⟩⟩), (.ret, ⟨[2], ⟨[.hole], [], [2], [.bool]⟩⟩)]
noncomputable def ref1_SignMay_u0_a : AC := .run
noncomputable def ref1_SignMay_u0 : Un := lpU ref1_SignMay_v.fz [19, 20, 21, 22, 25, 26, 27, 28, 29, 30, 31, 32, 33, 34, 35, 36, 37, 38, 39, 40, 41, 2, 23, 24, 3] ref1_SignMay_u0_h ref1_SignMay_u0_e (lp ref1_SignMay_L0 fuel)
theorem ref1_SignMay_u0_s (f : ref1_SignMay_u0_h.X → Option (YT ref1_SignMay_u0_e)) (x : ref1_SignMay_u0_h.X) : E ref1_SignMay_v (subC (bodyOf Tryz.f101) [1, 1, 0, 1, 0, 0]) (ref1_SignMay_u0_a) (mkS ref1_SignMay_u0_h 8 x) (roundK ref1_SignMay_v.fz ref1_SignMay_u0_h ref1_SignMay_u0_e f) = ref1_SignMay_L0 f x := by kernel_rfl
theorem ref1_SignMay_u0_ok {X : Fx} (hX : VOk Tryz.prog X ref1_SignMay_v) : UnOk Tryz.prog X ref1_SignMay_v (subC (bodyOf Tryz.f101) [1, 1, 0, 1, 0]) ref1_SignMay_u0 :=
  lp_un' (c := (subC (bodyOf Tryz.f101) [1, 1, 0, 1, 0, 0])) (by kernel_rfl) (env_all tb_ok (ref1_SignMay_gs)) hord (ob := []) (by kernel_rfl) (fun X hX => obl_nil) (ref1_SignMay_u0_s) (by kernel_rfl) (by kernel_rfl) hX
noncomputable def ref1_SignMay_a : AC := (.seq .run (.seq .run (.seq (.seq .run (.block (.unit ref1_SignMay_u0))) .run)))
theorem ref1_SignMay_s (x : TupL ref1_SignMay_c.inp.hs) : E ref1_SignMay_v (bodyOf Tryz.f101) (ref1_SignMay_a) (ref1_SignMay_c.entry x) (retSK tb ref1_SignMay_v.fz ref1_SignMay_c [.tmp 2] x) = ref1_SignMay_c.F x := by kernel_rfl
theorem ref1_SignMay_ok : ShOk Tryz.prog gl 101 ref1_SignMay_c :=
  fn_ok (l := ref1_SignMay_g) (n := Tryz.f101.ntmps) (code := bodyOf Tryz.f101) (rts := [.tmp 2]) tb_ok hord (ref1_SignMay_gs) Tryz.func101 (by kernel_rfl) (by kernel_rfl) rfl (by kernel_rfl) (ac := ref1_SignMay_a) (ob := [((subC (bodyOf Tryz.f101) [1, 1, 0, 1, 0]), ref1_SignMay_u0)]) (by kernel_rfl) (fun X hX => (obl_cons (ref1_SignMay_u0_ok hX) obl_nil)) (by kernel_rfl) (ref1_SignMay_s)

noncomputable def ref21_SignMay_c : ShC := { inp := ⟨[.hole], [], [1], [.sl tSym]⟩, out := ⟨[.hole], [], [2], [.bool]⟩, nres := 1, ms := [], mu := [], leak := false, glob := false, F := fun (x : (List QSym)) => ref21_SignMay x }
-- quaereref21.SignMay
noncomputable def ref21_SignMay_g : List (Nat × Con) := [(101, .gen (altE [ref1_SignMay_c])), (102, .gen (altE [ref1_Code_c]))]
noncomputable def ref21_SignMay_v : Env := envOf tb gl ref21_SignMay_g ref21_SignMay_c Tryz.f59.ntmps
theorem ref21_SignMay_gs : Goods Tryz.prog (cond ref21_SignMay_c.glob gl fun _ => none) ref21_SignMay_g := (goods_cons (good_alt (alls_cons (ref1_SignMay_ok.anyGl rfl) alls_nil)) (goods_cons (good_alt (alls_cons (ref1_Code_ok.anyGl rfl) alls_nil)) goods_nil))
noncomputable def ref21_SignMay_a : AC := .run
theorem ref21_SignMay_s (x : TupL ref21_SignMay_c.inp.hs) : E ref21_SignMay_v (bodyOf Tryz.f59) (ref21_SignMay_a) (ref21_SignMay_c.entry x) (retSK tb ref21_SignMay_v.fz ref21_SignMay_c [.tmp 2] x) = ref21_SignMay_c.F x := by kernel_rfl
theorem ref21_SignMay_ok : ShOk Tryz.prog gl 59 ref21_SignMay_c :=
  fn_ok (l := ref21_SignMay_g) (n := Tryz.f59.ntmps) (code := bodyOf Tryz.f59) (rts := [.tmp 2]) tb_ok hord (ref21_SignMay_gs) Tryz.func59 (by kernel_rfl) (by kernel_rfl) rfl (by kernel_rfl) (ac := ref21_SignMay_a) (ob := []) (by kernel_rfl) (fun X hX => obl_nil) (by kernel_rfl) (ref21_SignMay_s)

noncomputable def ref21_reader_mark_1_c : ShC := { inp := ⟨[(.ptr 0 0), .hole], [.cells false [.hole, .hole, .hole, .hole, .hole]], [1, 1, 1, 1, 1, 1], [.str, .sl tSym, .sl (.cons (.int .i64) (.one .str)), .int .i64, .bool, .bool]⟩, out := ⟨[.hole, (.ptr 0 0)], [.cells false [.hole, .hole, .hole, .hole, .hole]], [2, 1, 1, 2, 2, 2], [.bool, .sl tSym, .sl (.cons (.int .i64) (.one .str)), .int .i64, .bool, .bool]⟩, nres := 1, ms := [0], mu := [(0, 0)], leak := true, glob := false, F := fun (x : (Str × (List QSym) × (List (Int × Str)) × Int × Bool × Bool)) => ref21_reader_mark_1 x.1 x.2.1 x.2.2.1 x.2.2.2.1 x.2.2.2.2.1 x.2.2.2.2.2 }
-- (*quaereref21.reader).mark
noncomputable def ref21_reader_mark_1_g : List (Nat × Con) := []
noncomputable def ref21_reader_mark_1_v : Env := envOf tb gl ref21_reader_mark_1_g ref21_reader_mark_1_c Tryz.f136.ntmps
theorem ref21_reader_mark_1_gs : Goods Tryz.prog (cond ref21_reader_mark_1_c.glob gl fun _ => none) ref21_reader_mark_1_g := goods_nil
noncomputable def ref21_reader_mark_1_a : AC := .run
theorem ref21_reader_mark_1_s (x : TupL ref21_reader_mark_1_c.inp.hs) : E ref21_reader_mark_1_v (bodyOf Tryz.f136) (ref21_reader_mark_1_a) (ref21_reader_mark_1_c.entry x) (retSK tb ref21_reader_mark_1_v.fz ref21_reader_mark_1_c [.tmp 4] x) = ref21_reader_mark_1_c.F x := by kernel_rfl
theorem ref21_reader_mark_1_ok : ShOk Tryz.prog gl 136 ref21_reader_mark_1_c :=
  fn_ok (l := ref21_reader_mark_1_g) (n := Tryz.f136.ntmps) (code := bodyOf Tryz.f136) (rts := [.tmp 4]) tb_ok hord (ref21_reader_mark_1_gs) Tryz.func136 (by kernel_rfl) (by kernel_rfl) rfl (by kernel_rfl) (ac := ref21_reader_mark_1_a) (ob := []) (by kernel_rfl) (fun X hX => obl_nil) (by kernel_rfl) (ref21_reader_mark_1_s)

noncomputable def ref21_reader_variable_1_c : ShC := { inp := ⟨[(.ptr 0 0)], [.cells false [.hole, .hole, .hole, .hole, .hole]], [1, 1, 1, 1, 1], [.sl tSym, .sl (.cons (.int .i64) (.one .str)), .int .i64, .bool, .bool]⟩, out := ⟨[.hole, (.ptr 0 0)], [.cells false [.hole, .hole, .hole, .hole, .hole]], [2, 1, 1, 2, 2, 2], [.int .i64, .sl tSym, .sl (.cons (.int .i64) (.one .str)), .int .i64, .bool, .bool]⟩, nres := 1, ms := [0], mu := [(0, 0)], leak := true, glob := false, F := fun (x : ((List QSym) × (List (Int × Str)) × Int × Bool × Bool)) => ref21_reader_variable_1 x.1 x.2.1 x.2.2.1 x.2.2.2.1 x.2.2.2.2 }
-- (*quaereref21.reader).variable
noncomputable def ref21_reader_variable_1_g : List (Nat × Con) := [(135, .gen (altE [ref21_Number_c]))]
noncomputable def ref21_reader_variable_1_v : Env := envOf tb gl ref21_reader_variable_1_g ref21_reader_variable_1_c Tryz.f137.ntmps
theorem ref21_reader_variable_1_gs : Goods Tryz.prog (cond ref21_reader_variable_1_c.glob gl fun _ => none) ref21_reader_variable_1_g := (goods_cons (good_alt (alls_cons (ref21_Number_ok.anyGl rfl) alls_nil)) goods_nil)
noncomputable def ref21_reader_variable_1_a : AC := .run
theorem ref21_reader_variable_1_s (x : TupL ref21_reader_variable_1_c.inp.hs) : E ref21_reader_variable_1_v (bodyOf Tryz.f137) (ref21_reader_variable_1_a) (ref21_reader_variable_1_c.entry x) (retSK tb ref21_reader_variable_1_v.fz ref21_reader_variable_1_c [.tmp 2] x) = ref21_reader_variable_1_c.F x := by kernel_rfl
theorem ref21_reader_variable_1_ok : ShOk Tryz.prog gl 137 ref21_reader_variable_1_c :=
  fn_ok (l := ref21_reader_variable_1_g) (n := Tryz.f137.ntmps) (code := bodyOf Tryz.f137) (rts := [.tmp 2]) tb_ok hord (ref21_reader_variable_1_gs) Tryz.func137 (by kernel_rfl) (by kernel_rfl) rfl (by kernel_rfl) (ac := ref21_reader_variable_1_a) (ob := []) (by kernel_rfl) (fun X hX => obl_nil) (by kernel_rfl) (ref21_reader_variable_1_s)

noncomputable def ref21_reader_want_1_c : ShC := { inp := ⟨[(.ptr 0 0), .hole], [.cells false [.hole, .hole, .hole, .hole, .hole]], [1, 1, 1, 1, 1, 1], [.str, .sl tSym, .sl (.cons (.int .i64) (.one .str)), .int .i64, .bool, .bool]⟩, out := ⟨[(.ptr 0 0)], [.cells false [.hole, .hole, .hole, .hole, .hole]], [0, 0, 2, 2, 2], [.sl tSym, .sl (.cons (.int .i64) (.one .str)), .int .i64, .bool, .bool]⟩, nres := 0, ms := [0], mu := [(0, 0)], leak := true, glob := false, F := fun (x : (Str × (List QSym) × (List (Int × Str)) × Int × Bool × Bool)) => ref21_reader_want_1 x.1 x.2.1 x.2.2.1 x.2.2.2.1 x.2.2.2.2.1 x.2.2.2.2.2 }
-- (*quaereref21.reader).want
noncomputable def ref21_reader_want_1_g : List (Nat × Con) := [(136, .gen (altE [ref21_reader_mark_1_c]))]
noncomputable def ref21_reader_want_1_v : Env := envOf tb gl ref21_reader_want_1_g ref21_reader_want_1_c Tryz.f138.ntmps
theorem ref21_reader_want_1_gs : Goods Tryz.prog (cond ref21_reader_want_1_c.glob gl fun _ => none) ref21_reader_want_1_g := (goods_cons (good_alt (alls_cons (ref21_reader_mark_1_ok.anyGl rfl) alls_nil)) goods_nil)
noncomputable def ref21_reader_want_1_a : AC := .run
theorem ref21_reader_want_1_s (x : TupL ref21_reader_want_1_c.inp.hs) : E ref21_reader_want_1_v (bodyOf Tryz.f138) (ref21_reader_want_1_a) (ref21_reader_want_1_c.entry x) (retSK tb ref21_reader_want_1_v.fz ref21_reader_want_1_c [] x) = ref21_reader_want_1_c.F x := by kernel_rfl
theorem ref21_reader_want_1_ok : ShOk Tryz.prog gl 138 ref21_reader_want_1_c :=
  fn_ok (l := ref21_reader_want_1_g) (n := Tryz.f138.ntmps) (code := bodyOf Tryz.f138) (rts := []) tb_ok hord (ref21_reader_want_1_gs) Tryz.func138 (by kernel_rfl) (by kernel_rfl) rfl (by kernel_rfl) (ac := ref21_reader_want_1_a) (ob := []) (by kernel_rfl) (fun X hX => obl_nil) (by kernel_rfl) (ref21_reader_want_1_s)

noncomputable def ref21_reader_name_1_c : ShC := { inp := ⟨[(.ptr 0 0)], [.cells false [.hole, .hole, .hole, .hole, .hole]], [1, 1, 1, 1, 1], [.sl tSym, .sl (.cons (.int .i64) (.one .str)), .int .i64, .bool, .bool]⟩, out := ⟨[.hole, (.ptr 0 0)], [.cells false [.hole, .hole, .hole, .hole, .hole]], [2, 1, 1, 2, 2, 2], [.int .i64, .sl tSym, .sl (.cons (.int .i64) (.one .str)), .int .i64, .bool, .bool]⟩, nres := 1, ms := [0], mu := [(0, 0)], leak := true, glob := false, F := fun (x : ((List QSym) × (List (Int × Str)) × Int × Bool × Bool)) => ref21_reader_name_1 x.1 x.2.1 x.2.2.1 x.2.2.2.1 x.2.2.2.2 }
-- (*quaereref21.reader).name
noncomputable def ref21_reader_name_1_g : List (Nat × Con) := [(102, .gen (altE [ref1_Code_c]))]
noncomputable def ref21_reader_name_1_v : Env := envOf tb gl ref21_reader_name_1_g ref21_reader_name_1_c Tryz.f179.ntmps
theorem ref21_reader_name_1_gs : Goods Tryz.prog (cond ref21_reader_name_1_c.glob gl fun _ => none) ref21_reader_name_1_g := (goods_cons (good_alt (alls_cons (ref1_Code_ok.anyGl rfl) alls_nil)) goods_nil)
noncomputable def ref21_reader_name_1_a : AC := .run
theorem ref21_reader_name_1_s (x : TupL ref21_reader_name_1_c.inp.hs) : E ref21_reader_name_1_v (bodyOf Tryz.f179) (ref21_reader_name_1_a) (ref21_reader_name_1_c.entry x) (retSK tb ref21_reader_name_1_v.fz ref21_reader_name_1_c [.tmp 2] x) = ref21_reader_name_1_c.F x := by kernel_rfl
theorem ref21_reader_name_1_ok : ShOk Tryz.prog gl 179 ref21_reader_name_1_c :=
  fn_ok (l := ref21_reader_name_1_g) (n := Tryz.f179.ntmps) (code := bodyOf Tryz.f179) (rts := [.tmp 2]) tb_ok hord (ref21_reader_name_1_gs) Tryz.func179 (by kernel_rfl) (by kernel_rfl) rfl (by kernel_rfl) (ac := ref21_reader_name_1_a) (ob := []) (by kernel_rfl) (fun X hX => obl_nil) (by kernel_rfl) (ref21_reader_name_1_s)

noncomputable def ref21_reader_term_1_ck (k : Nat) : ShC := { inp := ⟨[(.ptr 0 0)], [.cells false [.hole, .hole, .hole, .hole, .hole]], [1, 1, 1, 1, 1], [.sl tSym, .sl (.cons (.int .i64) (.one .str)), .int .i64, .bool, .bool]⟩, out := ⟨[(.view 0), (.ptr 1 0)], [.seq false, .cells false [.hole, .hole, .hole, .hole, .hole]], [0, 0, 0, 2, 2, 2], [.sl (.one (.int .i64)), .sl tSym, .sl (.cons (.int .i64) (.one .str)), .int .i64, .bool, .bool]⟩, nres := 1, ms := [0], mu := [(0, 1)], leak := true, glob := false, F := (ref21_reader_args_1_R k).1 }
noncomputable def ref21_reader_term_1_c : ShC := { inp := ⟨[(.ptr 0 0)], [.cells false [.hole, .hole, .hole, .hole, .hole]], [1, 1, 1, 1, 1], [.sl tSym, .sl (.cons (.int .i64) (.one .str)), .int .i64, .bool, .bool]⟩, out := ⟨[(.view 0), (.ptr 1 0)], [.seq false, .cells false [.hole, .hole, .hole, .hole, .hole]], [0, 0, 0, 2, 2, 2], [.sl (.one (.int .i64)), .sl tSym, .sl (.cons (.int .i64) (.one .str)), .int .i64, .bool, .bool]⟩, nres := 1, ms := [0], mu := [(0, 1)], leak := true, glob := false, F := fun (x : ((List QSym) × (List (Int × Str)) × Int × Bool × Bool)) => ref21_reader_term_1 x.1 x.2.1 x.2.2.1 x.2.2.2.1 x.2.2.2.2 }
noncomputable def ref21_reader_args_1_ck (k : Nat) : ShC := { inp := ⟨[(.ptr 0 0), .hole], [.cells false [.hole, .hole, .hole, .hole, .hole]], [1, 1, 1, 1, 1, 1], [.int .i64, .sl tSym, .sl (.cons (.int .i64) (.one .str)), .int .i64, .bool, .bool]⟩, out := ⟨[(.view 0), (.ptr 1 0)], [.seq false, .cells false [.hole, .hole, .hole, .hole, .hole]], [0, 0, 0, 2, 2, 2], [.sl (.one (.int .i64)), .sl tSym, .sl (.cons (.int .i64) (.one .str)), .int .i64, .bool, .bool]⟩, nres := 1, ms := [0], mu := [(0, 1)], leak := true, glob := false, F := (ref21_reader_args_1_R k).2 }
noncomputable def ref21_reader_args_1_c : ShC := { inp := ⟨[(.ptr 0 0), .hole], [.cells false [.hole, .hole, .hole, .hole, .hole]], [1, 1, 1, 1, 1, 1], [.int .i64, .sl tSym, .sl (.cons (.int .i64) (.one .str)), .int .i64, .bool, .bool]⟩, out := ⟨[(.view 0), (.ptr 1 0)], [.seq false, .cells false [.hole, .hole, .hole, .hole, .hole]], [0, 0, 0, 2, 2, 2], [.sl (.one (.int .i64)), .sl tSym, .sl (.cons (.int .i64) (.one .str)), .int .i64, .bool, .bool]⟩, nres := 1, ms := [0], mu := [(0, 1)], leak := true, glob := false, F := fun (x : (Int × (List QSym) × (List (Int × Str)) × Int × Bool × Bool)) => ref21_reader_args_1 x.1 x.2.1 x.2.2.1 x.2.2.2.1 x.2.2.2.2.1 x.2.2.2.2.2 }
def ref21_reader_args_1_R_H (k : Nat) : Prop := ShOk Tryz.prog gl 162 (ref21_reader_term_1_ck k) ∧ ShOk Tryz.prog gl 161 (ref21_reader_args_1_ck k)
-- (*quaereref21.reader).term
noncomputable def ref21_reader_term_1_g (k : Nat) : List (Nat × Con) := [(137, .gen (altE [ref21_reader_variable_1_c])), (161, .gen (altE [ref21_reader_args_1_ck k])), (179, .gen (altE [ref21_reader_name_1_c]))]
noncomputable def ref21_reader_term_1_v (k : Nat) : Env := envOf tb gl (ref21_reader_term_1_g k) (ref21_reader_term_1_ck (k + 1)) Tryz.f162.ntmps
theorem ref21_reader_term_1_gs (k : Nat) (h : ref21_reader_args_1_R_H k) : Goods Tryz.prog (cond (ref21_reader_term_1_ck (k + 1)).glob gl fun _ => none) (ref21_reader_term_1_g k) := (goods_cons (good_alt (alls_cons (ref21_reader_variable_1_ok.anyGl rfl) alls_nil)) (goods_cons (good_alt (alls_cons (h.2.anyGl rfl) alls_nil)) (goods_cons (good_alt (alls_cons (ref21_reader_name_1_ok.anyGl rfl) alls_nil)) goods_nil)))
noncomputable def ref21_reader_term_1_a (k : Nat) : AC := .run
theorem ref21_reader_term_1_s (k : Nat) (x : TupL (ref21_reader_term_1_ck (k + 1)).inp.hs) : E (ref21_reader_term_1_v k) (bodyOf Tryz.f162) (ref21_reader_term_1_a k) ((ref21_reader_term_1_ck (k + 1)).entry x) (retSK tb (ref21_reader_term_1_v k).fz (ref21_reader_term_1_ck (k + 1)) [.tmp 2] x) = (ref21_reader_term_1_ck (k + 1)).F x := by kernel_rfl
theorem ref21_reader_term_1_ok1 (k : Nat) (h : ref21_reader_args_1_R_H k) : ShOk Tryz.prog gl 162 (ref21_reader_term_1_ck (k + 1)) :=
  fn_ok (l := ref21_reader_term_1_g k) (n := Tryz.f162.ntmps) (code := bodyOf Tryz.f162) (rts := [.tmp 2]) tb_ok hord (ref21_reader_term_1_gs k h) Tryz.func162 (by kernel_rfl) (by kernel_rfl) rfl (by kernel_rfl) (ac := ref21_reader_term_1_a k) (ob := []) (by kernel_rfl) (fun X hX => obl_nil) (by kernel_rfl) (ref21_reader_term_1_s k)

-- (*quaereref21.reader).args
noncomputable def ref21_reader_args_1_g (k : Nat) : List (Nat × Con) := [(138, .gen (altE [ref21_reader_want_1_c])), (162, .gen (altE [ref21_reader_term_1_ck k]))]
noncomputable def ref21_reader_args_1_v (k : Nat) : Env := envOf tb gl (ref21_reader_args_1_g k) (ref21_reader_args_1_ck (k + 1)) Tryz.f161.ntmps
theorem ref21_reader_args_1_gs (k : Nat) (h : ref21_reader_args_1_R_H k) : Goods Tryz.prog (cond (ref21_reader_args_1_ck (k + 1)).glob gl fun _ => none) (ref21_reader_args_1_g k) := (goods_cons (good_alt (alls_cons (ref21_reader_want_1_ok.anyGl rfl) alls_nil)) (goods_cons (good_alt (alls_cons (h.1.anyGl rfl) alls_nil)) goods_nil))
noncomputable def ref21_reader_args_1_u0_h : SS := ⟨[0, 1, 5, 6], ⟨[(.ptr 0 0), .hole, (.view 1), .hole], [.cells false [.hole, .hole, .hole, .hole, .hole], .seq false], [2, 2, 0, 0, 2, 2, 2, 0], [.int .i64, .int .i64, .sl tSym, .sl (.cons (.int .i64) (.one .str)), .int .i64, .bool, .bool, .sl (.one (.int .i64))]⟩⟩
noncomputable def ref21_reader_args_1_u0_e : Exs := [((.exit 0), ⟨[0, 5], ⟨[(.ptr 0 0), (.view 1)], [.cells false [.hole, .hole, .hole, .hole, .hole], .seq false], [0, 0, 2, 2, 2, 0], [.sl tSym, .sl (.cons (.int .i64) (.one .str)), .int .i64, .bool, .bool, .sl (.one (.int .i64))]⟩⟩)]
noncomputable def ref21_reader_args_1_u0_a (k : Nat) : AC := .run
noncomputable def ref21_reader_args_1_u0 (k : Nat) : Un := lpU (ref21_reader_args_1_v k).fz [12, 13, 14, 15, 16, 17, 18, 19, 20, 21, 24, 25, 26, 27, 28, 29, 30, 31, 5, 22, 23, 6] ref21_reader_args_1_u0_h ref21_reader_args_1_u0_e (lp (ref21_reader_args_1_L0 (ref21_reader_args_1_R k)) fuel)
theorem ref21_reader_args_1_u0_s (k : Nat) (f : ref21_reader_args_1_u0_h.X → Option (YT ref21_reader_args_1_u0_e)) (x : ref21_reader_args_1_u0_h.X) : E (ref21_reader_args_1_v k) (subC (bodyOf Tryz.f161) [1, 1, 1, 1, 0, 1, 0, 0]) (ref21_reader_args_1_u0_a k) (mkS ref21_reader_args_1_u0_h 8 x) (roundK (ref21_reader_args_1_v k).fz ref21_reader_args_1_u0_h ref21_reader_args_1_u0_e f) = (ref21_reader_args_1_L0 (ref21_reader_args_1_R k)) f x := by kernel_rfl
theorem ref21_reader_args_1_u0_ok (k : Nat) (h : ref21_reader_args_1_R_H k) {X : Fx} (hX : VOk Tryz.prog X (ref21_reader_args_1_v k)) : UnOk Tryz.prog X (ref21_reader_args_1_v k) (subC (bodyOf Tryz.f161) [1, 1, 1, 1, 0, 1, 0]) (ref21_reader_args_1_u0 k) :=
  lp_un' (c := (subC (bodyOf Tryz.f161) [1, 1, 1, 1, 0, 1, 0, 0])) (by kernel_rfl) (env_all tb_ok (ref21_reader_args_1_gs k h)) hord (ob := []) (by kernel_rfl) (fun X hX => obl_nil) (ref21_reader_args_1_u0_s k) (by kernel_rfl) (by kernel_rfl) hX
noncomputable def ref21_reader_args_1_a (k : Nat) : AC := (.seq .run (.seq .run (.seq .run (.seq .run (.seq (.seq .run (.block (.unit (ref21_reader_args_1_u0 k)))) .run)))))
theorem ref21_reader_args_1_s (k : Nat) (x : TupL (ref21_reader_args_1_ck (k + 1)).inp.hs) : E (ref21_reader_args_1_v k) (bodyOf Tryz.f161) (ref21_reader_args_1_a k) ((ref21_reader_args_1_ck (k + 1)).entry x) (retSK tb (ref21_reader_args_1_v k).fz (ref21_reader_args_1_ck (k + 1)) [.tmp 4] x) = (ref21_reader_args_1_ck (k + 1)).F x := by kernel_rfl
theorem ref21_reader_args_1_ok1 (k : Nat) (h : ref21_reader_args_1_R_H k) : ShOk Tryz.prog gl 161 (ref21_reader_args_1_ck (k + 1)) :=
  fn_ok (l := ref21_reader_args_1_g k) (n := Tryz.f161.ntmps) (code := bodyOf Tryz.f161) (rts := [.tmp 4]) tb_ok hord (ref21_reader_args_1_gs k h) Tryz.func161 (by kernel_rfl) (by kernel_rfl) rfl (by kernel_rfl) (ac := ref21_reader_args_1_a k) (ob := [((subC (bodyOf Tryz.f161) [1, 1, 1, 1, 0, 1, 0]), ref21_reader_args_1_u0 k)]) (by kernel_rfl) (fun X hX => (obl_cons (ref21_reader_args_1_u0_ok k h hX) obl_nil)) (by kernel_rfl) (ref21_reader_args_1_s k)

theorem ref21_reader_args_1_R_all : ∀ k, ref21_reader_args_1_R_H k
  | 0 => ⟨⟨by kernel_rfl, fun w A g vs x y _ _ _ h => by cases h⟩, ⟨by kernel_rfl, fun w A g vs x y _ _ _ h => by cases h⟩⟩
  | k + 1 => have h := ref21_reader_args_1_R_all k; ⟨ref21_reader_term_1_ok1 k h, ref21_reader_args_1_ok1 k h⟩
theorem ref21_reader_term_1_ok : ShOk Tryz.prog gl 162 ref21_reader_term_1_c := (ref21_reader_args_1_R_all fuel).1
theorem ref21_reader_args_1_ok : ShOk Tryz.prog gl 161 ref21_reader_args_1_c := (ref21_reader_args_1_R_all fuel).2

noncomputable def ref21_reader_atom_1_c : ShC := { inp := ⟨[(.ptr 0 0)], [.cells false [.hole, .hole, .hole, .hole, .hole]], [1, 1, 1, 1, 1], [.sl tSym, .sl (.cons (.int .i64) (.one .str)), .int .i64, .bool, .bool]⟩, out := ⟨[(.view 0), (.ptr 1 0)], [.seq false, .cells false [.hole, .hole, .hole, .hole, .hole]], [0, 0, 0, 2, 2, 2], [.sl (.one (.int .i64)), .sl tSym, .sl (.cons (.int .i64) (.one .str)), .int .i64, .bool, .bool]⟩, nres := 1, ms := [0], mu := [(0, 1)], leak := true, glob := false, F := fun (x : ((List QSym) × (List (Int × Str)) × Int × Bool × Bool)) => ref21_reader_atom_1 x.1 x.2.1 x.2.2.1 x.2.2.2.1 x.2.2.2.2 }
-- (*quaereref21.reader).atom
noncomputable def ref21_reader_atom_1_g : List (Nat × Con) := [(102, .gen (altE [ref1_Code_c])), (138, .gen (altE [ref21_reader_want_1_c])), (161, .gen (altE [ref21_reader_args_1_c])), (162, .gen (altE [ref21_reader_term_1_c]))]
noncomputable def ref21_reader_atom_1_v : Env := envOf tb gl ref21_reader_atom_1_g ref21_reader_atom_1_c Tryz.f139.ntmps
theorem ref21_reader_atom_1_gs : Goods Tryz.prog (cond ref21_reader_atom_1_c.glob gl fun _ => none) ref21_reader_atom_1_g := (goods_cons (good_alt (alls_cons (ref1_Code_ok.anyGl rfl) alls_nil)) (goods_cons (good_alt (alls_cons (ref21_reader_want_1_ok.anyGl rfl) alls_nil)) (goods_cons (good_alt (alls_cons (ref21_reader_args_1_ok.anyGl rfl) alls_nil)) (goods_cons (good_alt (alls_cons (ref21_reader_term_1_ok.anyGl rfl) alls_nil)) goods_nil))))
noncomputable def ref21_reader_atom_1_a : AC := .run
theorem ref21_reader_atom_1_s (x : TupL ref21_reader_atom_1_c.inp.hs) : E ref21_reader_atom_1_v (bodyOf Tryz.f139) (ref21_reader_atom_1_a) (ref21_reader_atom_1_c.entry x) (retSK tb ref21_reader_atom_1_v.fz ref21_reader_atom_1_c [.tmp 2] x) = ref21_reader_atom_1_c.F x := by kernel_rfl
theorem ref21_reader_atom_1_ok : ShOk Tryz.prog gl 139 ref21_reader_atom_1_c :=
  fn_ok (l := ref21_reader_atom_1_g) (n := Tryz.f139.ntmps) (code := bodyOf Tryz.f139) (rts := [.tmp 2]) tb_ok hord (ref21_reader_atom_1_gs) Tryz.func139 (by kernel_rfl) (by kernel_rfl) rfl (by kernel_rfl) (ac := ref21_reader_atom_1_a) (ob := []) (by kernel_rfl) (fun X hX => obl_nil) (by kernel_rfl) (ref21_reader_atom_1_s)

noncomputable def ref21_reader_formula_1_ck (k : Nat) : ShC := { inp := ⟨[(.ptr 0 0)], [.cells false [.hole, .hole, .hole, .hole, .hole]], [1, 1, 1, 1, 1], [.sl tSym, .sl (.cons (.int .i64) (.one .str)), .int .i64, .bool, .bool]⟩, out := ⟨[(.view 0), (.ptr 1 0)], [.seq false, .cells false [.hole, .hole, .hole, .hole, .hole]], [0, 0, 0, 2, 2, 2], [.sl (.cons (.int .i64) (.cons (.int .i64) (.one (.sl (.one (.int .i64)))))), .sl tSym, .sl (.cons (.int .i64) (.one .str)), .int .i64, .bool, .bool]⟩, nres := 1, ms := [0], mu := [(0, 1)], leak := true, glob := false, F := (ref21_reader_formula_1_R k) }
noncomputable def ref21_reader_formula_1_c : ShC := { inp := ⟨[(.ptr 0 0)], [.cells false [.hole, .hole, .hole, .hole, .hole]], [1, 1, 1, 1, 1], [.sl tSym, .sl (.cons (.int .i64) (.one .str)), .int .i64, .bool, .bool]⟩, out := ⟨[(.view 0), (.ptr 1 0)], [.seq false, .cells false [.hole, .hole, .hole, .hole, .hole]], [0, 0, 0, 2, 2, 2], [.sl (.cons (.int .i64) (.cons (.int .i64) (.one (.sl (.one (.int .i64)))))), .sl tSym, .sl (.cons (.int .i64) (.one .str)), .int .i64, .bool, .bool]⟩, nres := 1, ms := [0], mu := [(0, 1)], leak := true, glob := false, F := fun (x : ((List QSym) × (List (Int × Str)) × Int × Bool × Bool)) => ref21_reader_formula_1 x.1 x.2.1 x.2.2.1 x.2.2.2.1 x.2.2.2.2 }
def ref21_reader_formula_1_R_H (k : Nat) : Prop := ShOk Tryz.prog gl 94 (ref21_reader_formula_1_ck k)
-- (*quaereref21.reader).formula
noncomputable def ref21_reader_formula_1_g (k : Nat) : List (Nat × Con) := [(94, .gen (altE [ref21_reader_formula_1_ck k])), (136, .gen (altE [ref21_reader_mark_1_c])), (137, .gen (altE [ref21_reader_variable_1_c])), (138, .gen (altE [ref21_reader_want_1_c])), (139, .gen (altE [ref21_reader_atom_1_c]))]
noncomputable def ref21_reader_formula_1_v (k : Nat) : Env := envOf tb gl (ref21_reader_formula_1_g k) (ref21_reader_formula_1_ck (k + 1)) Tryz.f94.ntmps
theorem ref21_reader_formula_1_gs (k : Nat) (h : ref21_reader_formula_1_R_H k) : Goods Tryz.prog (cond (ref21_reader_formula_1_ck (k + 1)).glob gl fun _ => none) (ref21_reader_formula_1_g k) := (goods_cons (good_alt (alls_cons (h.anyGl rfl) alls_nil)) (goods_cons (good_alt (alls_cons (ref21_reader_mark_1_ok.anyGl rfl) alls_nil)) (goods_cons (good_alt (alls_cons (ref21_reader_variable_1_ok.anyGl rfl) alls_nil)) (goods_cons (good_alt (alls_cons (ref21_reader_want_1_ok.anyGl rfl) alls_nil)) (goods_cons (good_alt (alls_cons (ref21_reader_atom_1_ok.anyGl rfl) alls_nil)) goods_nil)))))
noncomputable def ref21_reader_formula_1_a (k : Nat) : AC := .run
theorem ref21_reader_formula_1_s (k : Nat) (x : TupL (ref21_reader_formula_1_ck (k + 1)).inp.hs) : E (ref21_reader_formula_1_v k) (bodyOf Tryz.f94) (ref21_reader_formula_1_a k) ((ref21_reader_formula_1_ck (k + 1)).entry x) (retSK tb (ref21_reader_formula_1_v k).fz (ref21_reader_formula_1_ck (k + 1)) [.tmp 2] x) = (ref21_reader_formula_1_ck (k + 1)).F x := by kernel_rfl
theorem ref21_reader_formula_1_ok1 (k : Nat) (h : ref21_reader_formula_1_R_H k) : ShOk Tryz.prog gl 94 (ref21_reader_formula_1_ck (k + 1)) :=
  fn_ok (l := ref21_reader_formula_1_g k) (n := Tryz.f94.ntmps) (code := bodyOf Tryz.f94) (rts := [.tmp 2]) tb_ok hord (ref21_reader_formula_1_gs k h) Tryz.func94 (by kernel_rfl) (by kernel_rfl) rfl (by kernel_rfl) (ac := ref21_reader_formula_1_a k) (ob := []) (by kernel_rfl) (fun X hX => obl_nil) (by kernel_rfl) (ref21_reader_formula_1_s k)

theorem ref21_reader_formula_1_R_all : ∀ k, ref21_reader_formula_1_R_H k
  | 0 => ⟨by kernel_rfl, fun w A g vs x y _ _ _ h => by cases h⟩
  | k + 1 => have h := ref21_reader_formula_1_R_all k; ref21_reader_formula_1_ok1 k h
theorem ref21_reader_formula_1_ok : ShOk Tryz.prog gl 94 ref21_reader_formula_1_c := (ref21_reader_formula_1_R_all fuel)

noncomputable def ref21_Words_c : ShC := { inp := ⟨[.hole, .hole], [], [1, 1], [.sl tSym, .sl (.cons (.int .i64) (.one .str))]⟩, out := ⟨[(.view 0), .hole], [.seq false], [2, 0], [.int .i64, .sl (.cons (.int .i64) (.cons (.int .i64) (.one (.sl (.one (.int .i64))))))]⟩, nres := 2, ms := [], mu := [], leak := true, glob := false, F := fun (x : ((List QSym) × (List (Int × Str)))) => ref21_Words x.1 x.2 }
-- quaereref21.Words
noncomputable def ref21_Words_g : List (Nat × Con) := [(59, .gen (altE [ref21_SignMay_c])), (94, .gen (altE [ref21_reader_formula_1_c]))]
noncomputable def ref21_Words_v : Env := envOf tb gl ref21_Words_g ref21_Words_c Tryz.f50.ntmps
theorem ref21_Words_gs : Goods Tryz.prog (cond ref21_Words_c.glob gl fun _ => none) ref21_Words_g := (goods_cons (good_alt (alls_cons (ref21_SignMay_ok.anyGl rfl) alls_nil)) (goods_cons (good_alt (alls_cons (ref21_reader_formula_1_ok.anyGl rfl) alls_nil)) goods_nil))
noncomputable def ref21_Words_a : AC := .run
theorem ref21_Words_s (x : TupL ref21_Words_c.inp.hs) : E ref21_Words_v (bodyOf Tryz.f50) (ref21_Words_a) (ref21_Words_c.entry x) (retSK tb ref21_Words_v.fz ref21_Words_c [.tmp 4, .tmp 5] x) = ref21_Words_c.F x := by kernel_rfl
theorem ref21_Words_ok : ShOk Tryz.prog gl 50 ref21_Words_c :=
  fn_ok (l := ref21_Words_g) (n := Tryz.f50.ntmps) (code := bodyOf Tryz.f50) (rts := [.tmp 4, .tmp 5]) tb_ok hord (ref21_Words_gs) Tryz.func50 (by kernel_rfl) (by kernel_rfl) rfl (by kernel_rfl) (ac := ref21_Words_a) (ob := []) (by kernel_rfl) (fun X hX => obl_nil) (by kernel_rfl) (ref21_Words_s)

noncomputable def ref21_Parse_c : ShC := { inp := ⟨[.hole, .hole], [], [1, 1], [.sl tSym, .str]⟩, out := ⟨[(.view 0), .hole], [.seq false], [2, 0], [.int .i64, .sl (.cons (.int .i64) (.cons (.int .i64) (.one (.sl (.one (.int .i64))))))]⟩, nres := 2, ms := [], mu := [], leak := true, glob := false, F := fun (x : ((List QSym) × Str)) => ref21_Parse x.1 x.2 }
-- quaereref21.Parse
noncomputable def ref21_Parse_g : List (Nat × Con) := [(49, .gen (altE [ref21_Lex_c])), (50, .gen (altE [ref21_Words_c]))]
noncomputable def ref21_Parse_v : Env := envOf tb gl ref21_Parse_g ref21_Parse_c Tryz.f20.ntmps
theorem ref21_Parse_gs : Goods Tryz.prog (cond ref21_Parse_c.glob gl fun _ => none) ref21_Parse_g := (goods_cons (good_alt (alls_cons (ref21_Lex_ok.anyGl rfl) alls_nil)) (goods_cons (good_alt (alls_cons (ref21_Words_ok.anyGl rfl) alls_nil)) goods_nil))
noncomputable def ref21_Parse_a : AC := .run
theorem ref21_Parse_s (x : TupL ref21_Parse_c.inp.hs) : E ref21_Parse_v (bodyOf Tryz.f20) (ref21_Parse_a) (ref21_Parse_c.entry x) (retSK tb ref21_Parse_v.fz ref21_Parse_c [.tmp 4, .tmp 5] x) = ref21_Parse_c.F x := by kernel_rfl
theorem ref21_Parse_ok : ShOk Tryz.prog gl 20 ref21_Parse_c :=
  fn_ok (l := ref21_Parse_g) (n := Tryz.f20.ntmps) (code := bodyOf Tryz.f20) (rts := [.tmp 4, .tmp 5]) tb_ok hord (ref21_Parse_gs) Tryz.func20 (by kernel_rfl) (by kernel_rfl) rfl (by kernel_rfl) (ac := ref21_Parse_a) (ob := []) (by kernel_rfl) (fun X hX => obl_nil) (by kernel_rfl) (ref21_Parse_s)

noncomputable def law0_SameInts_c : ShC := { inp := ⟨[.hole, .hole], [], [1, 1], [.sl (.one (.int .i64)), .sl (.one (.int .i64))]⟩, out := ⟨[.hole], [], [2], [.bool]⟩, nres := 1, ms := [], mu := [], leak := false, glob := false, F := fun (x : ((List Int) × (List Int))) => law0_SameInts x.1 x.2 }
-- quaerelaw0.SameInts
noncomputable def law0_SameInts_g : List (Nat × Con) := []
noncomputable def law0_SameInts_v : Env := envOf tb gl law0_SameInts_g law0_SameInts_c Tryz.f51.ntmps
theorem law0_SameInts_gs : Goods Tryz.prog (cond law0_SameInts_c.glob gl fun _ => none) law0_SameInts_g := goods_nil
noncomputable def law0_SameInts_u0_h : SS := ⟨[0, 1, 5], ⟨[.hole, .hole, .hole], [], [1, 1, 2], [.sl (.one (.int .i64)), .sl (.one (.int .i64)), .int .i64]⟩⟩
noncomputable def law0_SameInts_u0_e : Exs := [((.exit 0), ⟨[], ⟨[], [], [], []⟩⟩), (.ret, ⟨[4], ⟨[.hole], [], [2], [.bool]⟩⟩)]
noncomputable def law0_SameInts_u0_a : AC := .run
noncomputable def law0_SameInts_u0 : Un := lpU law0_SameInts_v.fz [11, 12, 13, 14, 17, 18, 19, 20, 21, 22, 23, 24, 25, 4, 15, 16, 5] law0_SameInts_u0_h law0_SameInts_u0_e (lp law0_SameInts_L0 fuel)
theorem law0_SameInts_u0_s (f : law0_SameInts_u0_h.X → Option (YT law0_SameInts_u0_e)) (x : law0_SameInts_u0_h.X) : E law0_SameInts_v (subC (bodyOf Tryz.f51) [1, 1, 0, 1, 0, 0]) (law0_SameInts_u0_a) (mkS law0_SameInts_u0_h 8 x) (roundK law0_SameInts_v.fz law0_SameInts_u0_h law0_SameInts_u0_e f) = law0_SameInts_L0 f x := by kernel_rfl
theorem law0_SameInts_u0_ok {X : Fx} (hX : VOk Tryz.prog X law0_SameInts_v) : UnOk Tryz.prog X law0_SameInts_v (subC (bodyOf Tryz.f51) [1, 1, 0, 1, 0]) law0_SameInts_u0 :=
  lp_un' (c := (subC (bodyOf Tryz.f51) [1, 1, 0, 1, 0, 0])) (by kernel_rfl) (env_all tb_ok (law0_SameInts_gs)) hord (ob := []) (by kernel_rfl) (fun X hX => obl_nil) (law0_SameInts_u0_s) (by kernel_rfl) (by kernel_rfl) hX
noncomputable def law0_SameInts_a : AC := (.seq .run (.seq .run (.seq (.seq .run (.block (.unit law0_SameInts_u0))) .run)))
theorem law0_SameInts_s (x : TupL law0_SameInts_c.inp.hs) : E law0_SameInts_v (bodyOf Tryz.f51) (law0_SameInts_a) (law0_SameInts_c.entry x) (retSK tb law0_SameInts_v.fz law0_SameInts_c [.tmp 4] x) = law0_SameInts_c.F x := by kernel_rfl
theorem law0_SameInts_ok : ShOk Tryz.prog gl 51 law0_SameInts_c :=
  fn_ok (l := law0_SameInts_g) (n := Tryz.f51.ntmps) (code := bodyOf Tryz.f51) (rts := [.tmp 4]) tb_ok hord (law0_SameInts_gs) Tryz.func51 (by kernel_rfl) (by kernel_rfl) rfl (by kernel_rfl) (ac := law0_SameInts_a) (ob := [((subC (bodyOf Tryz.f51) [1, 1, 0, 1, 0]), law0_SameInts_u0)]) (by kernel_rfl) (fun X hX => (obl_cons (law0_SameInts_u0_ok hX) obl_nil)) (by kernel_rfl) (law0_SameInts_s)

noncomputable def law0_SameNodes_c : ShC := { inp := ⟨[.hole, .hole], [], [1, 1], [.sl (.cons (.int .i64) (.cons (.int .i64) (.one (.sl (.one (.int .i64)))))), .sl (.cons (.int .i64) (.cons (.int .i64) (.one (.sl (.one (.int .i64))))))]⟩, out := ⟨[.hole], [], [2], [.bool]⟩, nres := 1, ms := [], mu := [], leak := false, glob := false, F := fun (x : ((List (Int × Int × (List Int))) × (List (Int × Int × (List Int))))) => law0_SameNodes x.1 x.2 }
-- quaerelaw0.SameNodes
noncomputable def law0_SameNodes_g : List (Nat × Con) := [(51, .gen (altE [law0_SameInts_c]))]
noncomputable def law0_SameNodes_v : Env := envOf tb gl law0_SameNodes_g law0_SameNodes_c Tryz.f21.ntmps
theorem law0_SameNodes_gs : Goods Tryz.prog (cond law0_SameNodes_c.glob gl fun _ => none) law0_SameNodes_g := (goods_cons (good_alt (alls_cons (law0_SameInts_ok.anyGl rfl) alls_nil)) goods_nil)
noncomputable def law0_SameNodes_u0_h : SS := ⟨[0, 1, 5], ⟨[.hole, .hole, .hole], [], [1, 1, 2], [.sl (.cons (.int .i64) (.cons (.int .i64) (.one (.sl (.one (.int .i64)))))), .sl (.cons (.int .i64) (.cons (.int .i64) (.one (.sl (.one (.int .i64)))))), .int .i64]⟩⟩
noncomputable def law0_SameNodes_u0_e : Exs := [((.exit 0), ⟨[], ⟨[], [], [], []⟩⟩), (.ret, ⟨[4], ⟨[.hole], [], [2], [.bool]⟩⟩)]
noncomputable def law0_SameNodes_u0_a : AC := .run
noncomputable def law0_SameNodes_u0 : Un := lpU law0_SameNodes_v.fz [11, 12, 13, 14, 17, 18, 19, 20, 21, 22, 23, 24, 25, 26, 27, 28, 29, 30, 31, 32, 33, 34, 35, 36, 37, 38, 39, 40, 41, 42, 43, 44, 45, 46, 47, 48, 49, 50, 51, 52, 53, 54, 4, 15, 16, 5] law0_SameNodes_u0_h law0_SameNodes_u0_e (lp law0_SameNodes_L0 fuel)
theorem law0_SameNodes_u0_s (f : law0_SameNodes_u0_h.X → Option (YT law0_SameNodes_u0_e)) (x : law0_SameNodes_u0_h.X) : E law0_SameNodes_v (subC (bodyOf Tryz.f21) [1, 1, 0, 1, 0, 0]) (law0_SameNodes_u0_a) (mkS law0_SameNodes_u0_h 8 x) (roundK law0_SameNodes_v.fz law0_SameNodes_u0_h law0_SameNodes_u0_e f) = law0_SameNodes_L0 f x := by kernel_rfl
theorem law0_SameNodes_u0_ok {X : Fx} (hX : VOk Tryz.prog X law0_SameNodes_v) : UnOk Tryz.prog X law0_SameNodes_v (subC (bodyOf Tryz.f21) [1, 1, 0, 1, 0]) law0_SameNodes_u0 :=
  lp_un' (c := (subC (bodyOf Tryz.f21) [1, 1, 0, 1, 0, 0])) (by kernel_rfl) (env_all tb_ok (law0_SameNodes_gs)) hord (ob := []) (by kernel_rfl) (fun X hX => obl_nil) (law0_SameNodes_u0_s) (by kernel_rfl) (by kernel_rfl) hX
noncomputable def law0_SameNodes_a : AC := (.seq .run (.seq .run (.seq (.seq .run (.block (.unit law0_SameNodes_u0))) .run)))
theorem law0_SameNodes_s (x : TupL law0_SameNodes_c.inp.hs) : E law0_SameNodes_v (bodyOf Tryz.f21) (law0_SameNodes_a) (law0_SameNodes_c.entry x) (retSK tb law0_SameNodes_v.fz law0_SameNodes_c [.tmp 4] x) = law0_SameNodes_c.F x := by kernel_rfl
theorem law0_SameNodes_ok : ShOk Tryz.prog gl 21 law0_SameNodes_c :=
  fn_ok (l := law0_SameNodes_g) (n := Tryz.f21.ntmps) (code := bodyOf Tryz.f21) (rts := [.tmp 4]) tb_ok hord (law0_SameNodes_gs) Tryz.func21 (by kernel_rfl) (by kernel_rfl) rfl (by kernel_rfl) (ac := law0_SameNodes_a) (ob := [((subC (bodyOf Tryz.f21) [1, 1, 0, 1, 0]), law0_SameNodes_u0)]) (by kernel_rfl) (fun X hX => (obl_cons (law0_SameNodes_u0_ok hX) obl_nil)) (by kernel_rfl) (law0_SameNodes_s)

noncomputable def law0_Num_c : ShC := { inp := ⟨[.hole], [], [1], [.int .i64]⟩, out := ⟨[.hole], [], [2], [.int .i64]⟩, nres := 1, ms := [], mu := [], leak := false, glob := false, F := fun (x : Int) => law0_Num x }
-- quaerelaw0.Num
noncomputable def law0_Num_g : List (Nat × Con) := []
noncomputable def law0_Num_v : Env := envOf tb gl law0_Num_g law0_Num_c Tryz.f8.ntmps
theorem law0_Num_gs : Goods Tryz.prog (cond law0_Num_c.glob gl fun _ => none) law0_Num_g := goods_nil
noncomputable def law0_Num_a : AC := .run
theorem law0_Num_s (x : TupL law0_Num_c.inp.hs) : E law0_Num_v (bodyOf Tryz.f8) (law0_Num_a) (law0_Num_c.entry x) (retSK tb law0_Num_v.fz law0_Num_c [.tmp 2] x) = law0_Num_c.F x := by kernel_rfl
theorem law0_Num_ok : ShOk Tryz.prog gl 8 law0_Num_c :=
  fn_ok (l := law0_Num_g) (n := Tryz.f8.ntmps) (code := bodyOf Tryz.f8) (rts := [.tmp 2]) tb_ok hord (law0_Num_gs) Tryz.func8 (by kernel_rfl) (by kernel_rfl) rfl (by kernel_rfl) (ac := law0_Num_a) (ob := []) (by kernel_rfl) (fun X hX => obl_nil) (by kernel_rfl) (law0_Num_s)

noncomputable def law0_SameSyms_c : ShC := { inp := ⟨[.hole, .hole], [], [1, 1], [.sl tSym, .sl tSym]⟩, out := ⟨[.hole], [], [2], [.bool]⟩, nres := 1, ms := [], mu := [], leak := false, glob := false, F := fun (x : ((List QSym) × (List QSym))) => law0_SameSyms x.1 x.2 }
-- quaerelaw0.SameSyms
noncomputable def law0_SameSyms_g : List (Nat × Con) := []
noncomputable def law0_SameSyms_v : Env := envOf tb gl law0_SameSyms_g law0_SameSyms_c Tryz.f22.ntmps
theorem law0_SameSyms_gs : Goods Tryz.prog (cond law0_SameSyms_c.glob gl fun _ => none) law0_SameSyms_g := goods_nil
noncomputable def law0_SameSyms_u0_h : SS := ⟨[0, 1, 5], ⟨[.hole, .hole, .hole], [], [1, 1, 2], [.sl tSym, .sl tSym, .int .i64]⟩⟩
noncomputable def law0_SameSyms_u0_e : Exs := [((.exit 0), ⟨[], ⟨[], [], [], []⟩⟩), (.ret, ⟨[4], ⟨[.hole], [], [2], [.bool]⟩⟩)]
noncomputable def law0_SameSyms_u0_a : AC := .run
noncomputable def law0_SameSyms_u0 : Un := lpU law0_SameSyms_v.fz [11, 12, 13, 14, 17, 18, 19, 20, 21, 22, 23, 24, 25, 4, 15, 16, 5] law0_SameSyms_u0_h law0_SameSyms_u0_e (lp law0_SameSyms_L0 fuel)
theorem law0_SameSyms_u0_s (f : law0_SameSyms_u0_h.X → Option (YT law0_SameSyms_u0_e)) (x : law0_SameSyms_u0_h.X) : E law0_SameSyms_v (subC (bodyOf Tryz.f22) [1, 1, 0, 1, 0, 0]) (law0_SameSyms_u0_a) (mkS law0_SameSyms_u0_h 8 x) (roundK law0_SameSyms_v.fz law0_SameSyms_u0_h law0_SameSyms_u0_e f) = law0_SameSyms_L0 f x := by kernel_rfl
theorem law0_SameSyms_u0_ok {X : Fx} (hX : VOk Tryz.prog X law0_SameSyms_v) : UnOk Tryz.prog X law0_SameSyms_v (subC (bodyOf Tryz.f22) [1, 1, 0, 1, 0]) law0_SameSyms_u0 :=
  lp_un' (c := (subC (bodyOf Tryz.f22) [1, 1, 0, 1, 0, 0])) (by kernel_rfl) (env_all tb_ok (law0_SameSyms_gs)) hord (ob := []) (by kernel_rfl) (fun X hX => obl_nil) (law0_SameSyms_u0_s) (by kernel_rfl) (by kernel_rfl) hX
noncomputable def law0_SameSyms_a : AC := (.seq .run (.seq .run (.seq (.seq .run (.block (.unit law0_SameSyms_u0))) .run)))
theorem law0_SameSyms_s (x : TupL law0_SameSyms_c.inp.hs) : E law0_SameSyms_v (bodyOf Tryz.f22) (law0_SameSyms_a) (law0_SameSyms_c.entry x) (retSK tb law0_SameSyms_v.fz law0_SameSyms_c [.tmp 4] x) = law0_SameSyms_c.F x := by kernel_rfl
theorem law0_SameSyms_ok : ShOk Tryz.prog gl 22 law0_SameSyms_c :=
  fn_ok (l := law0_SameSyms_g) (n := Tryz.f22.ntmps) (code := bodyOf Tryz.f22) (rts := [.tmp 4]) tb_ok hord (law0_SameSyms_gs) Tryz.func22 (by kernel_rfl) (by kernel_rfl) rfl (by kernel_rfl) (ac := law0_SameSyms_a) (ob := [((subC (bodyOf Tryz.f22) [1, 1, 0, 1, 0]), law0_SameSyms_u0)]) (by kernel_rfl) (fun X hX => (obl_cons (law0_SameSyms_u0_ok hX) obl_nil)) (by kernel_rfl) (law0_SameSyms_s)

noncomputable def law22_words_c : ShC := { inp := ⟨[], [], [], []⟩, out := ⟨[(.view 0)], [.seq false], [2], [.sl tSym]⟩, nres := 1, ms := [], mu := [], leak := false, glob := false, F := fun (x : Unit) => law22_words }
-- quaerelaw22.words
noncomputable def law22_words_g : List (Nat × Con) := []
noncomputable def law22_words_v : Env := envOf tb gl law22_words_g law22_words_c Tryz.f52.ntmps
theorem law22_words_gs : Goods Tryz.prog (cond law22_words_c.glob gl fun _ => none) law22_words_g := goods_nil
noncomputable def law22_words_a : AC := .run
theorem law22_words_s (x : TupL law22_words_c.inp.hs) : E law22_words_v (bodyOf Tryz.f52) (law22_words_a) (law22_words_c.entry x) (retSK tb law22_words_v.fz law22_words_c [.tmp 0] x) = law22_words_c.F x := by kernel_rfl
theorem law22_words_ok : ShOk Tryz.prog gl 52 law22_words_c :=
  fn_ok (l := law22_words_g) (n := Tryz.f52.ntmps) (code := bodyOf Tryz.f52) (rts := [.tmp 0]) tb_ok hord (law22_words_gs) Tryz.func52 (by kernel_rfl) (by kernel_rfl) rfl (by kernel_rfl) (ac := law22_words_a) (ob := []) (by kernel_rfl) (fun X hX => obl_nil) (by kernel_rfl) (law22_words_s)

noncomputable def formula_parts_c : ShC := { inp := ⟨[.hole], [], [1], [.int .i64]⟩, out := ⟨[.hole], [], [2], [.int .i64]⟩, nres := 1, ms := [], mu := [], leak := false, glob := false, F := fun (x : Int) => formula_parts x }
-- formula.parts
noncomputable def formula_parts_g : List (Nat × Con) := []
noncomputable def formula_parts_v : Env := envOf tb gl formula_parts_g formula_parts_c Tryz.f57.ntmps
theorem formula_parts_gs : Goods Tryz.prog (cond formula_parts_c.glob gl fun _ => none) formula_parts_g := goods_nil
noncomputable def formula_parts_a : AC := .run
theorem formula_parts_s (x : TupL formula_parts_c.inp.hs) : E formula_parts_v (bodyOf Tryz.f57) (formula_parts_a) (formula_parts_c.entry x) (retSK tb formula_parts_v.fz formula_parts_c [.tmp 2] x) = formula_parts_c.F x := by kernel_rfl
theorem formula_parts_ok : ShOk Tryz.prog gl 57 formula_parts_c :=
  fn_ok (l := formula_parts_g) (n := Tryz.f57.ntmps) (code := bodyOf Tryz.f57) (rts := [.tmp 2]) tb_ok hord (formula_parts_gs) Tryz.func57 (by kernel_rfl) (by kernel_rfl) rfl (by kernel_rfl) (ac := formula_parts_a) (ob := []) (by kernel_rfl) (fun X hX => obl_nil) (by kernel_rfl) (formula_parts_s)

noncomputable def term_args_c : ShC := { inp := ⟨[.hole, .hole], [], [1, 1], [.sl tSym, .int .i64]⟩, out := ⟨[.hole, .hole], [], [2, 2], [.int .i64, .bool]⟩, nres := 2, ms := [], mu := [], leak := false, glob := false, F := fun (x : ((List QSym) × Int)) => term_args x.1 x.2 }
-- term.args
noncomputable def term_args_g : List (Nat × Con) := [(36, .gen (altE [term_Number_c]))]
noncomputable def term_args_v : Env := envOf tb gl term_args_g term_args_c Tryz.f168.ntmps
theorem term_args_gs : Goods Tryz.prog (cond term_args_c.glob gl fun _ => none) term_args_g := (goods_cons (good_alt (alls_cons (term_Number_ok.anyGl rfl) alls_nil)) goods_nil)
noncomputable def term_args_a : AC := .run
theorem term_args_s (x : TupL term_args_c.inp.hs) : E term_args_v (bodyOf Tryz.f168) (term_args_a) (term_args_c.entry x) (retSK tb term_args_v.fz term_args_c [.tmp 4, .tmp 5] x) = term_args_c.F x := by kernel_rfl
theorem term_args_ok : ShOk Tryz.prog gl 168 term_args_c :=
  fn_ok (l := term_args_g) (n := Tryz.f168.ntmps) (code := bodyOf Tryz.f168) (rts := [.tmp 4, .tmp 5]) tb_ok hord (term_args_gs) Tryz.func168 (by kernel_rfl) (by kernel_rfl) rfl (by kernel_rfl) (ac := term_args_a) (ob := []) (by kernel_rfl) (fun X hX => obl_nil) (by kernel_rfl) (term_args_s)

noncomputable def term_Skip_c : ShC := { inp := ⟨[.hole, .hole, .hole], [], [1, 1, 1], [.sl tSym, .sl (.one (.int .i64)), .int .i64]⟩, out := ⟨[.hole, .hole], [], [2, 2], [.int .i64, .bool]⟩, nres := 2, ms := [], mu := [], leak := false, glob := false, F := fun (x : ((List QSym) × (List Int) × Int)) => term_Skip x.1 x.2.1 x.2.2 }
-- term.Skip
noncomputable def term_Skip_g : List (Nat × Con) := [(168, .gen (altE [term_args_c]))]
noncomputable def term_Skip_v : Env := envOf tb gl term_Skip_g term_Skip_c Tryz.f147.ntmps
theorem term_Skip_gs : Goods Tryz.prog (cond term_Skip_c.glob gl fun _ => none) term_Skip_g := (goods_cons (good_alt (alls_cons (term_args_ok.anyGl rfl) alls_nil)) goods_nil)
noncomputable def term_Skip_u0_j : Exs := [(.goto 0, ⟨[0, 1, 2, 8], ⟨[.hole, .hole, .hole, .hole], [], [1, 1, 2, 2], [.sl tSym, .sl (.one (.int .i64)), .int .i64, .int .i64]⟩⟩)]
noncomputable def term_Skip_u0_e : Exs := [(.ret, ⟨[6, 7], ⟨[.hole, .hole], [], [2, 2], [.int .i64, .bool]⟩⟩)]
noncomputable def term_Skip_u0_a : AC := .run
noncomputable def term_Skip_u0_l : List (Nat × AC) := []
noncomputable def term_Skip_u0 : Un := scU term_Skip_v [8, 11, 12, 13, 14, 6, 7, 16, 17, 18, 19, 20, 21, 15, 22, 23, 9, 10, 24, 25, 6, 7, 26, 27, 2, 28, 29, 30, 31, 8, 32, 33, 34, 6, 7] term_Skip_u0_j term_Skip_u0_e (subC (bodyOf Tryz.f147) [1, 0]) (term_Skip_u0_a) (lp term_Skip_L0 fuel)
theorem term_Skip_u0_s (f : YT term_Skip_u0_j → Option (YT term_Skip_u0_e)) (x : YT term_Skip_u0_j) : passE term_Skip_v (subC (bodyOf Tryz.f147) [1, 0]) (acsOf (term_Skip_u0_l)) term_Skip_u0_j term_Skip_u0_e f x = term_Skip_L0 f x := by kernel_rfl
theorem term_Skip_u0_ok {X : Fx} (hX : VOk Tryz.prog X term_Skip_v) : UnOk Tryz.prog X term_Skip_v (subC (bodyOf Tryz.f147) [1]) term_Skip_u0 :=
  sc_un' (c := (subC (bodyOf Tryz.f147) [1, 0])) (by kernel_rfl) (env_all tb_ok (term_Skip_gs)) hord (ob := []) (by kernel_rfl) (fun X hX => obl_nil) (fun X hX => acs_ok acl_nil) (term_Skip_u0_s) (by kernel_rfl) (by kernel_rfl) (by kernel_rfl) hX
noncomputable def term_Skip_a : AC := (.seq .run (.unit term_Skip_u0))
theorem term_Skip_s (x : TupL term_Skip_c.inp.hs) : E term_Skip_v (bodyOf Tryz.f147) (term_Skip_a) (term_Skip_c.entry x) (retSK tb term_Skip_v.fz term_Skip_c [.tmp 6, .tmp 7] x) = term_Skip_c.F x := by kernel_rfl
theorem term_Skip_ok : ShOk Tryz.prog gl 147 term_Skip_c :=
  fn_ok (l := term_Skip_g) (n := Tryz.f147.ntmps) (code := bodyOf Tryz.f147) (rts := [.tmp 6, .tmp 7]) tb_ok hord (term_Skip_gs) Tryz.func147 (by kernel_rfl) (by kernel_rfl) rfl (by kernel_rfl) (ac := term_Skip_a) (ob := [((subC (bodyOf Tryz.f147) [1]), term_Skip_u0)]) (by kernel_rfl) (fun X hX => (obl_cons (term_Skip_u0_ok hX) obl_nil)) (by kernel_rfl) (term_Skip_s)

noncomputable def term_begins_c : ShC := { inp := ⟨[.hole, .hole], [], [1, 1], [.sl tSym, .sl (.one (.int .i64))]⟩, out := ⟨[(.view 0), .hole], [.seq false], [2, 2], [.bool, .sl (.one (.int .i64))]⟩, nres := 2, ms := [], mu := [], leak := false, glob := true, F := fun (x : ((List QSym) × (List Int))) => term_begins x.1 x.2 }
-- term.begins
noncomputable def term_begins_g : List (Nat × Con) := [(33, .gen (altE [sign_May_c])), (147, .gen (altE [term_Skip_c]))]
noncomputable def term_begins_v : Env := envOf tb gl term_begins_g term_begins_c Tryz.f120.ntmps
theorem term_begins_gs : Goods Tryz.prog (cond term_begins_c.glob gl fun _ => none) term_begins_g := (goods_cons (good_alt (alls_cons sign_May_ok alls_nil)) (goods_cons (good_alt (alls_cons (term_Skip_ok.anyGl rfl) alls_nil)) goods_nil))
noncomputable def term_begins_u0_j : Exs := [(.goto 0, ⟨[0, 1, 6, 7], ⟨[.hole, .hole, (.view 0), .hole], [.seq false], [1, 1, 2, 2], [.sl tSym, .sl (.one (.int .i64)), .int .i64, .sl (.one (.int .i64))]⟩⟩)]
noncomputable def term_begins_u0_e : Exs := [(.ret, ⟨[4, 5], ⟨[(.view 0), .hole], [.seq false], [2, 2], [.bool, .sl (.one (.int .i64))]⟩⟩)]
noncomputable def term_begins_u0_a : AC := .run
noncomputable def term_begins_u0_l : List (Nat × AC) := []
noncomputable def term_begins_u0 : Un := scU term_begins_v [10, 11, 12, 13, 14, 15, 16, 17, 4, 5, 6, 7, 18, 19, 20, 21, 22, 4, 5, 24, 25, 26, 27, 23, 28, 29, 8, 9, 30, 31, 4, 5, 32, 33, 34, 35, 6, 36, 7] term_begins_u0_j term_begins_u0_e (subC (bodyOf Tryz.f120) [1, 0]) (term_begins_u0_a) (lp term_begins_L0 fuel)
theorem term_begins_u0_s (f : YT term_begins_u0_j → Option (YT term_begins_u0_e)) (x : YT term_begins_u0_j) : passE term_begins_v (subC (bodyOf Tryz.f120) [1, 0]) (acsOf (term_begins_u0_l)) term_begins_u0_j term_begins_u0_e f x = term_begins_L0 f x := by kernel_rfl
theorem term_begins_u0_ok {X : Fx} (hX : VOk Tryz.prog X term_begins_v) : UnOk Tryz.prog X term_begins_v (subC (bodyOf Tryz.f120) [1]) term_begins_u0 :=
  sc_un' (c := (subC (bodyOf Tryz.f120) [1, 0])) (by kernel_rfl) (env_all tb_ok (term_begins_gs)) hord (ob := []) (by kernel_rfl) (fun X hX => obl_nil) (fun X hX => acs_ok acl_nil) (term_begins_u0_s) (by kernel_rfl) (by kernel_rfl) (by kernel_rfl) hX
noncomputable def term_begins_a : AC := (.seq .run (.unit term_begins_u0))
theorem term_begins_s (x : TupL term_begins_c.inp.hs) : E term_begins_v (bodyOf Tryz.f120) (term_begins_a) (term_begins_c.entry x) (retSK tb term_begins_v.fz term_begins_c [.tmp 4, .tmp 5] x) = term_begins_c.F x := by kernel_rfl
theorem term_begins_ok : ShOk Tryz.prog gl 120 term_begins_c :=
  fn_ok (l := term_begins_g) (n := Tryz.f120.ntmps) (code := bodyOf Tryz.f120) (rts := [.tmp 4, .tmp 5]) tb_ok hord (term_begins_gs) Tryz.func120 (by kernel_rfl) (by kernel_rfl) rfl (by kernel_rfl) (ac := term_begins_a) (ob := [((subC (bodyOf Tryz.f120) [1]), term_begins_u0)]) (by kernel_rfl) (fun X hX => (obl_cons (term_begins_u0_ok hX) obl_nil)) (by kernel_rfl) (term_begins_s)

noncomputable def term_IsAtom_c : ShC := { inp := ⟨[.hole, .hole], [], [1, 1], [.sl tSym, .sl (.one (.int .i64))]⟩, out := ⟨[.hole], [], [2], [.bool]⟩, nres := 1, ms := [], mu := [], leak := false, glob := true, F := fun (x : ((List QSym) × (List Int))) => term_IsAtom x.1 x.2 }
-- term.IsAtom
noncomputable def term_IsAtom_g : List (Nat × Con) := [(120, .gen (altE [term_begins_c]))]
noncomputable def term_IsAtom_v : Env := envOf tb gl term_IsAtom_g term_IsAtom_c Tryz.f100.ntmps
theorem term_IsAtom_gs : Goods Tryz.prog (cond term_IsAtom_c.glob gl fun _ => none) term_IsAtom_g := (goods_cons (good_alt (alls_cons term_begins_ok alls_nil)) goods_nil)
noncomputable def term_IsAtom_a : AC := .run
theorem term_IsAtom_s (x : TupL term_IsAtom_c.inp.hs) : E term_IsAtom_v (bodyOf Tryz.f100) (term_IsAtom_a) (term_IsAtom_c.entry x) (retSK tb term_IsAtom_v.fz term_IsAtom_c [.tmp 4] x) = term_IsAtom_c.F x := by kernel_rfl
theorem term_IsAtom_ok : ShOk Tryz.prog gl 100 term_IsAtom_c :=
  fn_ok (l := term_IsAtom_g) (n := Tryz.f100.ntmps) (code := bodyOf Tryz.f100) (rts := [.tmp 4]) tb_ok hord (term_IsAtom_gs) Tryz.func100 (by kernel_rfl) (by kernel_rfl) rfl (by kernel_rfl) (ac := term_IsAtom_a) (ob := []) (by kernel_rfl) (fun X hX => obl_nil) (by kernel_rfl) (term_IsAtom_s)

noncomputable def formula_nodeMay_c : ShC := { inp := ⟨[.hole, (.agg [.hole, .hole, .hole])], [], [1, 1, 1, 1], [.sl tSym, .int .i64, .int .i64, .sl (.one (.int .i64))]⟩, out := ⟨[.hole], [], [2], [.bool]⟩, nres := 1, ms := [], mu := [], leak := false, glob := true, F := fun (x : ((List QSym) × Int × Int × (List Int))) => formula_nodeMay x.1 x.2.1 x.2.2.1 x.2.2.2 }
-- formula.nodeMay
noncomputable def formula_nodeMay_g : List (Nat × Con) := [(100, .gen (altE [term_IsAtom_c]))]
noncomputable def formula_nodeMay_v : Env := envOf tb gl formula_nodeMay_g formula_nodeMay_c Tryz.f58.ntmps
theorem formula_nodeMay_gs : Goods Tryz.prog (cond formula_nodeMay_c.glob gl fun _ => none) formula_nodeMay_g := (goods_cons (good_alt (alls_cons term_IsAtom_ok alls_nil)) goods_nil)
noncomputable def formula_nodeMay_a : AC := .run
theorem formula_nodeMay_s (x : TupL formula_nodeMay_c.inp.hs) : E formula_nodeMay_v (bodyOf Tryz.f58) (formula_nodeMay_a) (formula_nodeMay_c.entry x) (retSK tb formula_nodeMay_v.fz formula_nodeMay_c [.tmp 4] x) = formula_nodeMay_c.F x := by kernel_rfl
theorem formula_nodeMay_ok : ShOk Tryz.prog gl 58 formula_nodeMay_c :=
  fn_ok (l := formula_nodeMay_g) (n := Tryz.f58.ntmps) (code := bodyOf Tryz.f58) (rts := [.tmp 4]) tb_ok hord (formula_nodeMay_gs) Tryz.func58 (by kernel_rfl) (by kernel_rfl) rfl (by kernel_rfl) (ac := formula_nodeMay_a) (ob := []) (by kernel_rfl) (fun X hX => obl_nil) (by kernel_rfl) (formula_nodeMay_s)

noncomputable def formula_May_c : ShC := { inp := ⟨[.hole, .hole], [], [1, 1], [.sl tSym, .sl (.cons (.int .i64) (.cons (.int .i64) (.one (.sl (.one (.int .i64))))))]⟩, out := ⟨[.hole], [], [2], [.bool]⟩, nres := 1, ms := [], mu := [], leak := false, glob := true, F := fun (x : ((List QSym) × (List (Int × Int × (List Int))))) => formula_May x.1 x.2 }
-- formula.May
noncomputable def formula_May_g : List (Nat × Con) := [(56, .gen (altE [formula_SigMay_c])), (57, .gen (altE [formula_parts_c])), (58, .gen (altE [formula_nodeMay_c]))]
noncomputable def formula_May_v : Env := envOf tb gl formula_May_g formula_May_c Tryz.f27.ntmps
theorem formula_May_gs : Goods Tryz.prog (cond formula_May_c.glob gl fun _ => none) formula_May_g := (goods_cons (good_alt (alls_cons formula_SigMay_ok alls_nil)) (goods_cons (good_alt (alls_cons (formula_parts_ok.anyGl rfl) alls_nil)) (goods_cons (good_alt (alls_cons formula_nodeMay_ok alls_nil)) goods_nil)))
noncomputable def formula_May_u0_h : SS := ⟨[0, 5, 22, 23, 24], ⟨[.hole, .hole, .hole, .hole, .hole], [], [1, 2, 1, 2, 2], [.sl tSym, .int .i64, .sl (.cons (.int .i64) (.cons (.int .i64) (.one (.sl (.one (.int .i64)))))), .int .i64, .int .i64]⟩⟩
noncomputable def formula_May_u0_e : Exs := [((.exit 0), ⟨[5], ⟨[.hole], [], [2], [.int .i64]⟩⟩), (.ret, ⟨[4], ⟨[.hole], [], [2], [.bool]⟩⟩)]
noncomputable def formula_May_u0_a : AC := .run
noncomputable def formula_May_u0 : Un := lpU formula_May_v.fz [25, 26, 27, 7, 28, 29, 30, 8, 31, 32, 33, 34, 35, 36, 37, 38, 39, 40, 41, 42, 4, 43, 44, 45, 46, 5, 47, 24] formula_May_u0_h formula_May_u0_e (lp formula_May_L0 fuel)
theorem formula_May_u0_s (f : formula_May_u0_h.X → Option (YT formula_May_u0_e)) (x : formula_May_u0_h.X) : E formula_May_v (subC (bodyOf Tryz.f27) [1, 1, 1, 0, 1, 0, 0]) (formula_May_u0_a) (mkS formula_May_u0_h 8 x) (roundK formula_May_v.fz formula_May_u0_h formula_May_u0_e f) = formula_May_L0 f x := by kernel_rfl
theorem formula_May_u0_ok {X : Fx} (hX : VOk Tryz.prog X formula_May_v) : UnOk Tryz.prog X formula_May_v (subC (bodyOf Tryz.f27) [1, 1, 1, 0, 1, 0]) formula_May_u0 :=
  lp_un' (c := (subC (bodyOf Tryz.f27) [1, 1, 1, 0, 1, 0, 0])) (by kernel_rfl) (env_all tb_ok (formula_May_gs)) hord (ob := []) (by kernel_rfl) (fun X hX => obl_nil) (formula_May_u0_s) (by kernel_rfl) (by kernel_rfl) hX
noncomputable def formula_May_a : AC := (.seq .run (.seq .run (.seq .run (.seq (.seq .run (.block (.unit formula_May_u0))) .run))))
theorem formula_May_s (x : TupL formula_May_c.inp.hs) : E formula_May_v (bodyOf Tryz.f27) (formula_May_a) (formula_May_c.entry x) (retSK tb formula_May_v.fz formula_May_c [.tmp 4] x) = formula_May_c.F x := by kernel_rfl
theorem formula_May_ok : ShOk Tryz.prog gl 27 formula_May_c :=
  fn_ok (l := formula_May_g) (n := Tryz.f27.ntmps) (code := bodyOf Tryz.f27) (rts := [.tmp 4]) tb_ok hord (formula_May_gs) Tryz.func27 (by kernel_rfl) (by kernel_rfl) rfl (by kernel_rfl) (ac := formula_May_a) (ob := [((subC (bodyOf Tryz.f27) [1, 1, 1, 0, 1, 0]), formula_May_u0)]) (by kernel_rfl) (fun X hX => (obl_cons (formula_May_u0_ok hX) obl_nil)) (by kernel_rfl) (formula_May_s)

noncomputable def term_Pieces_c : ShC := { inp := ⟨[.hole, .hole], [], [1, 1], [.sl tSym, .sl (.one (.int .i64))]⟩, out := ⟨[(.view 0)], [.seq false], [0], [.sl (.one (.sl (.one (.int .i64))))]⟩, nres := 1, ms := [], mu := [], leak := true, glob := false, F := fun (x : ((List QSym) × (List Int))) => term_Pieces x.1 x.2 }
-- term.Pieces
noncomputable def term_Pieces_g : List (Nat × Con) := [(147, .gen (altE [term_Skip_c]))]
noncomputable def term_Pieces_v : Env := envOf tb gl term_Pieces_g term_Pieces_c Tryz.f105.ntmps
theorem term_Pieces_gs : Goods Tryz.prog (cond term_Pieces_c.glob gl fun _ => none) term_Pieces_g := (goods_cons (good_alt (alls_cons (term_Skip_ok.anyGl rfl) alls_nil)) goods_nil)
noncomputable def term_Pieces_u0_h : SS := ⟨[0, 1, 5, 6], ⟨[.hole, .hole, (.view 0), .hole], [.seq false], [1, 1, 2, 0], [.sl tSym, .sl (.one (.int .i64)), .int .i64, .sl (.one (.sl (.one (.int .i64))))]⟩⟩
noncomputable def term_Pieces_u0_e : Exs := [((.exit 0), ⟨[5], ⟨[(.view 0)], [.seq false], [0], [.sl (.one (.sl (.one (.int .i64))))]⟩⟩), (.ret, ⟨[4], ⟨[(.view 0)], [.seq false], [0], [.sl (.one (.sl (.one (.int .i64))))]⟩⟩)]
noncomputable def term_Pieces_u0_a : AC := .run
noncomputable def term_Pieces_u0 : Un := lpU term_Pieces_v.fz [9, 10, 11, 12, 14, 15, 16, 17, 13, 18, 19, 7, 8, 20, 21, 22, 4, 23, 24, 25, 26, 27, 28, 29, 5, 30, 6] term_Pieces_u0_h term_Pieces_u0_e (lp term_Pieces_L0 fuel)
theorem term_Pieces_u0_s (f : term_Pieces_u0_h.X → Option (YT term_Pieces_u0_e)) (x : term_Pieces_u0_h.X) : E term_Pieces_v (subC (bodyOf Tryz.f105) [1, 1, 0, 1, 0, 0]) (term_Pieces_u0_a) (mkS term_Pieces_u0_h 8 x) (roundK term_Pieces_v.fz term_Pieces_u0_h term_Pieces_u0_e f) = term_Pieces_L0 f x := by kernel_rfl
theorem term_Pieces_u0_ok {X : Fx} (hX : VOk Tryz.prog X term_Pieces_v) : UnOk Tryz.prog X term_Pieces_v (subC (bodyOf Tryz.f105) [1, 1, 0, 1, 0]) term_Pieces_u0 :=
  lp_un' (c := (subC (bodyOf Tryz.f105) [1, 1, 0, 1, 0, 0])) (by kernel_rfl) (env_all tb_ok (term_Pieces_gs)) hord (ob := []) (by kernel_rfl) (fun X hX => obl_nil) (term_Pieces_u0_s) (by kernel_rfl) (by kernel_rfl) hX
noncomputable def term_Pieces_a : AC := (.seq .run (.seq .run (.seq (.seq .run (.block (.unit term_Pieces_u0))) .run)))
theorem term_Pieces_s (x : TupL term_Pieces_c.inp.hs) : E term_Pieces_v (bodyOf Tryz.f105) (term_Pieces_a) (term_Pieces_c.entry x) (retSK tb term_Pieces_v.fz term_Pieces_c [.tmp 4] x) = term_Pieces_c.F x := by kernel_rfl
theorem term_Pieces_ok : ShOk Tryz.prog gl 105 term_Pieces_c :=
  fn_ok (l := term_Pieces_g) (n := Tryz.f105.ntmps) (code := bodyOf Tryz.f105) (rts := [.tmp 4]) tb_ok hord (term_Pieces_gs) Tryz.func105 (by kernel_rfl) (by kernel_rfl) rfl (by kernel_rfl) (ac := term_Pieces_a) (ob := [((subC (bodyOf Tryz.f105) [1, 1, 0, 1, 0]), term_Pieces_u0)]) (by kernel_rfl) (fun X hX => (obl_cons (term_Pieces_u0_ok hX) obl_nil)) (by kernel_rfl) (term_Pieces_s)

noncomputable def strconv_Itoa_c : ShC := itoaC
-- strconv.Itoa
theorem strconv_Itoa_ok : ShOk Tryz.prog gl 95 strconv_Itoa_c :=
  itoa_ok (code := bodyOf Tryz.f95) Tryz.func95 (by kernel_rfl) (by kernel_rfl) (Nat.le_of_ble_eq_true (by kernel_rfl)) fun i hi w => Tryz.strconv_Itoa_small i hi w

noncomputable def strings_Join_c : ShC := joinC
-- strings.Join
theorem strings_Join_ok : ShOk Tryz.prog gl 64 strings_Join_c :=
  join_ok (code := bodyOf Tryz.f64) Tryz.func64 (by kernel_rfl) (by kernel_rfl) (Nat.le_of_ble_eq_true (by kernel_rfl)) Tryz.strings_Join_none Tryz.strings_Join

noncomputable def formula_ShowTerms_ck (k : Nat) : ShC := { inp := ⟨[.hole, .hole], [], [1, 1], [.sl tSym, .sl (.one (.int .i64))]⟩, out := ⟨[.hole], [], [2], [.str]⟩, nres := 1, ms := [], mu := [], leak := false, glob := false, F := (formula_ShowTerms_R k) }
noncomputable def formula_ShowTerms_c : ShC := { inp := ⟨[.hole, .hole], [], [1, 1], [.sl tSym, .sl (.one (.int .i64))]⟩, out := ⟨[.hole], [], [2], [.str]⟩, nres := 1, ms := [], mu := [], leak := false, glob := false, F := fun (x : ((List QSym) × (List Int))) => formula_ShowTerms x.1 x.2 }
def formula_ShowTerms_R_H (k : Nat) : Prop := ShOk Tryz.prog gl 62 (formula_ShowTerms_ck k)
-- formula.ShowTerms
noncomputable def formula_ShowTerms_g (k : Nat) : List (Nat × Con) := [(36, .gen (altE [term_Number_c])), (62, .gen (altE [formula_ShowTerms_ck k])), (64, .gen (altE [strings_Join_c])), (95, .gen (altE [strconv_Itoa_c])), (105, .gen (altE [term_Pieces_c]))]
noncomputable def formula_ShowTerms_v (k : Nat) : Env := envOf tb gl (formula_ShowTerms_g k) (formula_ShowTerms_ck (k + 1)) Tryz.f62.ntmps
theorem formula_ShowTerms_gs (k : Nat) (h : formula_ShowTerms_R_H k) : Goods Tryz.prog (cond (formula_ShowTerms_ck (k + 1)).glob gl fun _ => none) (formula_ShowTerms_g k) := (goods_cons (good_alt (alls_cons (term_Number_ok.anyGl rfl) alls_nil)) (goods_cons (good_alt (alls_cons (h.anyGl rfl) alls_nil)) (goods_cons (good_alt (alls_cons (strings_Join_ok.anyGl rfl) alls_nil)) (goods_cons (good_alt (alls_cons (strconv_Itoa_ok.anyGl rfl) alls_nil)) (goods_cons (good_alt (alls_cons (term_Pieces_ok.anyGl rfl) alls_nil)) goods_nil)))))
noncomputable def formula_ShowTerms_u0_h : SS := ⟨[0, 5, 10, 11, 12], ⟨[.hole, (.view 0), .hole, .hole, .hole], [.seq false], [1, 0, 2, 2, 2], [.sl tSym, .sl (.one (.sl (.one (.int .i64)))), .int .i64, .int .i64, .sl (.one .str)]⟩⟩
noncomputable def formula_ShowTerms_u0_e : Exs := [((.exit 0), ⟨[5], ⟨[(.view 0)], [.seq false], [2], [.sl (.one .str)]⟩⟩)]
noncomputable def formula_ShowTerms_u0_a (k : Nat) : AC := .run
noncomputable def formula_ShowTerms_u0 (k : Nat) : Un := lpU (formula_ShowTerms_v k).fz [13, 14, 15, 7, 34, 35, 36, 37, 33, 38, 39, 40, 41, 42, 43, 44, 45, 46, 5, 48, 49, 50, 47, 51, 52, 53, 54, 55, 56, 57, 58, 59, 60, 5, 16, 17, 18, 19, 20, 21, 22, 23, 24, 25, 26, 27, 28, 29, 30, 31, 32, 5, 61, 12] formula_ShowTerms_u0_h formula_ShowTerms_u0_e (lp (formula_ShowTerms_L0 (formula_ShowTerms_R k)) fuel)
theorem formula_ShowTerms_u0_s (k : Nat) (f : formula_ShowTerms_u0_h.X → Option (YT formula_ShowTerms_u0_e)) (x : formula_ShowTerms_u0_h.X) : E (formula_ShowTerms_v k) (subC (bodyOf Tryz.f62) [1, 1, 0, 1, 0, 0]) (formula_ShowTerms_u0_a k) (mkS formula_ShowTerms_u0_h 8 x) (roundK (formula_ShowTerms_v k).fz formula_ShowTerms_u0_h formula_ShowTerms_u0_e f) = (formula_ShowTerms_L0 (formula_ShowTerms_R k)) f x := by kernel_rfl
theorem formula_ShowTerms_u0_ok (k : Nat) (h : formula_ShowTerms_R_H k) {X : Fx} (hX : VOk Tryz.prog X (formula_ShowTerms_v k)) : UnOk Tryz.prog X (formula_ShowTerms_v k) (subC (bodyOf Tryz.f62) [1, 1, 0, 1, 0]) (formula_ShowTerms_u0 k) :=
  lp_un' (c := (subC (bodyOf Tryz.f62) [1, 1, 0, 1, 0, 0])) (by kernel_rfl) (env_all tb_ok (formula_ShowTerms_gs k h)) hord (ob := []) (by kernel_rfl) (fun X hX => obl_nil) (formula_ShowTerms_u0_s k) (by kernel_rfl) (by kernel_rfl) hX
noncomputable def formula_ShowTerms_a (k : Nat) : AC := (.seq .run (.seq .run (.seq (.seq .run (.block (.unit (formula_ShowTerms_u0 k)))) .run)))
theorem formula_ShowTerms_s (k : Nat) (x : TupL (formula_ShowTerms_ck (k + 1)).inp.hs) : E (formula_ShowTerms_v k) (bodyOf Tryz.f62) (formula_ShowTerms_a k) ((formula_ShowTerms_ck (k + 1)).entry x) (retSK tb (formula_ShowTerms_v k).fz (formula_ShowTerms_ck (k + 1)) [.tmp 4] x) = (formula_ShowTerms_ck (k + 1)).F x := by kernel_rfl
theorem formula_ShowTerms_ok1 (k : Nat) (h : formula_ShowTerms_R_H k) : ShOk Tryz.prog gl 62 (formula_ShowTerms_ck (k + 1)) :=
  fn_ok (l := formula_ShowTerms_g k) (n := Tryz.f62.ntmps) (code := bodyOf Tryz.f62) (rts := [.tmp 4]) tb_ok hord (formula_ShowTerms_gs k h) Tryz.func62 (by kernel_rfl) (by kernel_rfl) rfl (by kernel_rfl) (ac := formula_ShowTerms_a k) (ob := [((subC (bodyOf Tryz.f62) [1, 1, 0, 1, 0]), formula_ShowTerms_u0 k)]) (by kernel_rfl) (fun X hX => (obl_cons (formula_ShowTerms_u0_ok k h hX) obl_nil)) (by kernel_rfl) (formula_ShowTerms_s k)

theorem formula_ShowTerms_R_all : ∀ k, formula_ShowTerms_R_H k
  | 0 => ⟨by kernel_rfl, fun w A g vs x y _ _ _ h => by cases h⟩
  | k + 1 => have h := formula_ShowTerms_R_all k; formula_ShowTerms_ok1 k h
theorem formula_ShowTerms_ok : ShOk Tryz.prog gl 62 formula_ShowTerms_c := (formula_ShowTerms_R_all fuel)

noncomputable def formula_ShowAtom_c : ShC := { inp := ⟨[.hole, .hole], [], [1, 1], [.sl tSym, .sl (.one (.int .i64))]⟩, out := ⟨[.hole], [], [2], [.str]⟩, nres := 1, ms := [], mu := [], leak := false, glob := false, F := fun (x : ((List QSym) × (List Int))) => formula_ShowAtom x.1 x.2 }
-- formula.ShowAtom
noncomputable def formula_ShowAtom_g : List (Nat × Con) := [(62, .gen (altE [formula_ShowTerms_c])), (105, .gen (altE [term_Pieces_c]))]
noncomputable def formula_ShowAtom_v : Env := envOf tb gl formula_ShowAtom_g formula_ShowAtom_c Tryz.f63.ntmps
theorem formula_ShowAtom_gs : Goods Tryz.prog (cond formula_ShowAtom_c.glob gl fun _ => none) formula_ShowAtom_g := (goods_cons (good_alt (alls_cons (formula_ShowTerms_ok.anyGl rfl) alls_nil)) (goods_cons (good_alt (alls_cons (term_Pieces_ok.anyGl rfl) alls_nil)) goods_nil))
noncomputable def formula_ShowAtom_a : AC := .run
theorem formula_ShowAtom_s (x : TupL formula_ShowAtom_c.inp.hs) : E formula_ShowAtom_v (bodyOf Tryz.f63) (formula_ShowAtom_a) (formula_ShowAtom_c.entry x) (retSK tb formula_ShowAtom_v.fz formula_ShowAtom_c [.tmp 4] x) = formula_ShowAtom_c.F x := by kernel_rfl
theorem formula_ShowAtom_ok : ShOk Tryz.prog gl 63 formula_ShowAtom_c :=
  fn_ok (l := formula_ShowAtom_g) (n := Tryz.f63.ntmps) (code := bodyOf Tryz.f63) (rts := [.tmp 4]) tb_ok hord (formula_ShowAtom_gs) Tryz.func63 (by kernel_rfl) (by kernel_rfl) rfl (by kernel_rfl) (ac := formula_ShowAtom_a) (ob := []) (by kernel_rfl) (fun X hX => obl_nil) (by kernel_rfl) (formula_ShowAtom_s)

noncomputable def formula_show_ck (k : Nat) : ShC := { inp := ⟨[.hole, .hole], [], [1, 1], [.sl tSym, .sl (.cons (.int .i64) (.cons (.int .i64) (.one (.sl (.one (.int .i64))))))]⟩, out := ⟨[.hole, .hole], [], [2, 0], [.str, .sl (.cons (.int .i64) (.cons (.int .i64) (.one (.sl (.one (.int .i64))))))]⟩, nres := 2, ms := [], mu := [], leak := true, glob := false, F := (formula_show_R k) }
noncomputable def formula_show_c : ShC := { inp := ⟨[.hole, .hole], [], [1, 1], [.sl tSym, .sl (.cons (.int .i64) (.cons (.int .i64) (.one (.sl (.one (.int .i64))))))]⟩, out := ⟨[.hole, .hole], [], [2, 0], [.str, .sl (.cons (.int .i64) (.cons (.int .i64) (.one (.sl (.one (.int .i64))))))]⟩, nres := 2, ms := [], mu := [], leak := true, glob := false, F := fun (x : ((List QSym) × (List (Int × Int × (List Int))))) => formula_show x.1 x.2 }
def formula_show_R_H (k : Nat) : Prop := ShOk Tryz.prog gl 54 (formula_show_ck k)
-- formula.show
noncomputable def formula_show_g (k : Nat) : List (Nat × Con) := [(54, .gen (altE [formula_show_ck k])), (63, .gen (altE [formula_ShowAtom_c])), (95, .gen (altE [strconv_Itoa_c]))]
noncomputable def formula_show_v (k : Nat) : Env := envOf tb gl (formula_show_g k) (formula_show_ck (k + 1)) Tryz.f54.ntmps
theorem formula_show_gs (k : Nat) (h : formula_show_R_H k) : Goods Tryz.prog (cond (formula_show_ck (k + 1)).glob gl fun _ => none) (formula_show_g k) := (goods_cons (good_alt (alls_cons (h.anyGl rfl) alls_nil)) (goods_cons (good_alt (alls_cons (formula_ShowAtom_ok.anyGl rfl) alls_nil)) (goods_cons (good_alt (alls_cons (strconv_Itoa_ok.anyGl rfl) alls_nil)) goods_nil)))
noncomputable def formula_show_a (k : Nat) : AC := .run
theorem formula_show_s (k : Nat) (x : TupL (formula_show_ck (k + 1)).inp.hs) : E (formula_show_v k) (bodyOf Tryz.f54) (formula_show_a k) ((formula_show_ck (k + 1)).entry x) (retSK tb (formula_show_v k).fz (formula_show_ck (k + 1)) [.tmp 4, .tmp 5] x) = (formula_show_ck (k + 1)).F x := by kernel_rfl
theorem formula_show_ok1 (k : Nat) (h : formula_show_R_H k) : ShOk Tryz.prog gl 54 (formula_show_ck (k + 1)) :=
  fn_ok (l := formula_show_g k) (n := Tryz.f54.ntmps) (code := bodyOf Tryz.f54) (rts := [.tmp 4, .tmp 5]) tb_ok hord (formula_show_gs k h) Tryz.func54 (by kernel_rfl) (by kernel_rfl) rfl (by kernel_rfl) (ac := formula_show_a k) (ob := []) (by kernel_rfl) (fun X hX => obl_nil) (by kernel_rfl) (formula_show_s k)

theorem formula_show_R_all : ∀ k, formula_show_R_H k
  | 0 => ⟨by kernel_rfl, fun w A g vs x y _ _ _ h => by cases h⟩
  | k + 1 => have h := formula_show_R_all k; formula_show_ok1 k h
theorem formula_show_ok : ShOk Tryz.prog gl 54 formula_show_c := (formula_show_R_all fuel)

noncomputable def formula_Show_c : ShC := { inp := ⟨[.hole, .hole], [], [1, 1], [.sl tSym, .sl (.cons (.int .i64) (.cons (.int .i64) (.one (.sl (.one (.int .i64))))))]⟩, out := ⟨[.hole, .hole], [], [2, 2], [.str, .int .i64]⟩, nres := 2, ms := [], mu := [], leak := false, glob := true, F := fun (x : ((List QSym) × (List (Int × Int × (List Int))))) => formula_Show x.1 x.2 }
-- formula.Show
noncomputable def formula_Show_g : List (Nat × Con) := [(27, .gen (altE [formula_May_c])), (54, .gen (altE [formula_show_c]))]
noncomputable def formula_Show_v : Env := envOf tb gl formula_Show_g formula_Show_c Tryz.f25.ntmps
theorem formula_Show_gs : Goods Tryz.prog (cond formula_Show_c.glob gl fun _ => none) formula_Show_g := (goods_cons (good_alt (alls_cons formula_May_ok alls_nil)) (goods_cons (good_alt (alls_cons (formula_show_ok.anyGl rfl) alls_nil)) goods_nil))
noncomputable def formula_Show_a : AC := .run
theorem formula_Show_s (x : TupL formula_Show_c.inp.hs) : E formula_Show_v (bodyOf Tryz.f25) (formula_Show_a) (formula_Show_c.entry x) (retSK tb formula_Show_v.fz formula_Show_c [.tmp 4, .tmp 5] x) = formula_Show_c.F x := by kernel_rfl
theorem formula_Show_ok : ShOk Tryz.prog gl 25 formula_Show_c :=
  fn_ok (l := formula_Show_g) (n := Tryz.f25.ntmps) (code := bodyOf Tryz.f25) (rts := [.tmp 4, .tmp 5]) tb_ok hord (formula_Show_gs) Tryz.func25 (by kernel_rfl) (by kernel_rfl) rfl (by kernel_rfl) (ac := formula_Show_a) (ob := []) (by kernel_rfl) (fun X hX => obl_nil) (by kernel_rfl) (formula_Show_s)

noncomputable def law22_awake_c : ShC := { inp := ⟨[], [], [], []⟩, out := ⟨[.hole], [], [2], [.bool]⟩, nres := 1, ms := [], mu := [], leak := false, glob := true, F := fun (x : Unit) => law22_awake }
-- quaerelaw22.awake
noncomputable def law22_awake_g : List (Nat × Con) := [(8, .gen (altE [law0_Num_c])), (19, .gen (altE [formula_Parse_c])), (25, .gen (altE [formula_Show_c])), (27, .gen (altE [formula_May_c])), (52, .gen (altE [law22_words_c]))]
noncomputable def law22_awake_v : Env := envOf tb gl law22_awake_g law22_awake_c Tryz.f23.ntmps
theorem law22_awake_gs : Goods Tryz.prog (cond law22_awake_c.glob gl fun _ => none) law22_awake_g := (goods_cons (good_alt (alls_cons (law0_Num_ok.anyGl rfl) alls_nil)) (goods_cons (good_alt (alls_cons formula_Parse_ok alls_nil)) (goods_cons (good_alt (alls_cons formula_Show_ok alls_nil)) (goods_cons (good_alt (alls_cons formula_May_ok alls_nil)) (goods_cons (good_alt (alls_cons (law22_words_ok.anyGl rfl) alls_nil)) goods_nil)))))
noncomputable def law22_awake_a : AC := .run
theorem law22_awake_s (x : TupL law22_awake_c.inp.hs) : E law22_awake_v (bodyOf Tryz.f23) (law22_awake_a) (law22_awake_c.entry x) (retSK tb law22_awake_v.fz law22_awake_c [.tmp 0] x) = law22_awake_c.F x := by kernel_rfl
theorem law22_awake_ok : ShOk Tryz.prog gl 23 law22_awake_c :=
  fn_ok (l := law22_awake_g) (n := Tryz.f23.ntmps) (code := bodyOf Tryz.f23) (rts := [.tmp 0]) tb_ok hord (law22_awake_gs) Tryz.func23 (by kernel_rfl) (by kernel_rfl) rfl (by kernel_rfl) (ac := law22_awake_a) (ob := []) (by kernel_rfl) (fun X hX => obl_nil) (by kernel_rfl) (law22_awake_s)

noncomputable def law22_Parses_c : ShC := { inp := ⟨[.hole, .hole], [], [1, 1], [.sl tSym, .str]⟩, out := ⟨[.hole], [], [2], [.bool]⟩, nres := 1, ms := [], mu := [], leak := false, glob := true, F := fun (x : ((List QSym) × Str)) => law22_Parses x.1 x.2 }
-- quaerelaw22.Parses
noncomputable def law22_Parses_g : List (Nat × Con) := [(8, .gen (altE [law0_Num_c])), (18, .gen (altE [law0_CopySyms_c])), (19, .gen (altE [formula_Parse_c])), (20, .gen (altE [ref21_Parse_c])), (21, .gen (altE [law0_SameNodes_c])), (22, .gen (altE [law0_SameSyms_c])), (23, .gen (altE [law22_awake_c]))]
noncomputable def law22_Parses_v : Env := envOf tb gl law22_Parses_g law22_Parses_c Tryz.f4.ntmps
theorem law22_Parses_gs : Goods Tryz.prog (cond law22_Parses_c.glob gl fun _ => none) law22_Parses_g := (goods_cons (good_alt (alls_cons (law0_Num_ok.anyGl rfl) alls_nil)) (goods_cons (good_alt (alls_cons (law0_CopySyms_ok.anyGl rfl) alls_nil)) (goods_cons (good_alt (alls_cons formula_Parse_ok alls_nil)) (goods_cons (good_alt (alls_cons (ref21_Parse_ok.anyGl rfl) alls_nil)) (goods_cons (good_alt (alls_cons (law0_SameNodes_ok.anyGl rfl) alls_nil)) (goods_cons (good_alt (alls_cons (law0_SameSyms_ok.anyGl rfl) alls_nil)) (goods_cons (good_alt (alls_cons law22_awake_ok alls_nil)) goods_nil)))))))
noncomputable def law22_Parses_a : AC := .run
theorem law22_Parses_s (x : TupL law22_Parses_c.inp.hs) : E law22_Parses_v (bodyOf Tryz.f4) (law22_Parses_a) (law22_Parses_c.entry x) (retSK tb law22_Parses_v.fz law22_Parses_c [.tmp 4] x) = law22_Parses_c.F x := by kernel_rfl
theorem law22_Parses_ok : ShOk Tryz.prog gl 4 law22_Parses_c :=
  fn_ok (l := law22_Parses_g) (n := Tryz.f4.ntmps) (code := bodyOf Tryz.f4) (rts := [.tmp 4]) tb_ok hord (law22_Parses_gs) Tryz.func4 (by kernel_rfl) (by kernel_rfl) rfl (by kernel_rfl) (ac := law22_Parses_a) (ob := []) (by kernel_rfl) (fun X hX => obl_nil) (by kernel_rfl) (law22_Parses_s)

end Go.Abs.Sze
