import Derived.Test.YtpjndokmciacaaaGreatDoorFc
import Derived.Test.YtpjndokmciacaaaGreatDoorQb
import Derived.Test.YtpjndokmciacaaaGreatDoorProg
import Derived.Test.YtpjndokmciacaaaGreatDoorSh
/-
  The functions make just that.
-/
namespace Go.Abs.Szd
open Go Go.Abs Go.Abs.Q Go.Proofs
set_option maxRecDepth 100000
noncomputable def tbl : List (Nat × TD) := [(3, .int .i64),
  (4, .bool),
  (5, .int .u8),
  (9, .str),
  (22, .sl 107 tSym 40),
  (23, .sl 3 (.one (.int .i64)) 8),
  (24, .sl 68 tLit 32),
  (27, .sl 23 (.one (.sl (.one (.int .i64)))) 24),
  (29, .st [(24, 0), (27, 1), (24, 2)] 3),
  (68, .st [(4, 0), (23, 1)] 2),
  (70, .fn),
  (84, .sl 9 (.one .str) 16),
  (107, .st [(9, 0), (3, 1), (3, 2), (3, 3)] 4),
  (128, .sl 5 (.one (.int .u8)) 1),
  (153, .arr 3 (.one (.int .i64)) 24)]
noncomputable def tb : Tb := tbOf tbl
theorem tb_ok : TbOk Tryz.prog tb := tb_check (by kernel_rfl)
theorem hord : Tryz.prog.follows .mixedOrders = true := by kernel_rfl
noncomputable def gl : Gl := fun q => cond (Nat.beq q 0) (some ⟨tSym, (([61], 0, 2, 1) : QSym)⟩) (none)
noncomputable def law0_CopyInts_c : ShC := { inp := ⟨[.hole], [], [1], [.sl (.one (.int .i64))]⟩, out := ⟨[(.view 0)], [.seq false], [0], [.sl (.one (.int .i64))]⟩, nres := 1, ms := [], mu := [], leak := true, glob := false, F := fun (x : (List Int)) => law0_CopyInts x }
-- quaerelaw0.CopyInts
noncomputable def law0_CopyInts_g : List (Nat × Con) := []
noncomputable def law0_CopyInts_v : Env := envOf tb gl law0_CopyInts_g law0_CopyInts_c Tryz.f31.ntmps
theorem law0_CopyInts_gs : Goods Tryz.prog (cond law0_CopyInts_c.glob gl fun _ => none) law0_CopyInts_g := goods_nil
noncomputable def law0_CopyInts_a : AC := .run
theorem law0_CopyInts_s (x : TupL law0_CopyInts_c.inp.hs) : E law0_CopyInts_v (bodyOf Tryz.f31) (law0_CopyInts_a) (law0_CopyInts_c.entry x) (retSK tb law0_CopyInts_v.fz law0_CopyInts_c [.tmp 2] x) = law0_CopyInts_c.F x := by kernel_rfl
theorem law0_CopyInts_ok : ShOk Tryz.prog gl 31 law0_CopyInts_c :=
  fn_ok (l := law0_CopyInts_g) (n := Tryz.f31.ntmps) (code := bodyOf Tryz.f31) (rts := [.tmp 2]) tb_ok hord (law0_CopyInts_gs) Tryz.func31 (by kernel_rfl) (by kernel_rfl) rfl (by kernel_rfl) (ac := law0_CopyInts_a) (ob := []) (by kernel_rfl) (fun X hX => obl_nil) (by kernel_rfl) (law0_CopyInts_s)

noncomputable def law0_CopyLits_c : ShC := { inp := ⟨[.hole], [], [1], [.sl tLit]⟩, out := ⟨[(.view 0)], [.seq false], [0], [.sl tLit]⟩, nres := 1, ms := [], mu := [], leak := true, glob := false, F := fun (x : (List QLit)) => law0_CopyLits x }
-- quaerelaw0.CopyLits
noncomputable def law0_CopyLits_g : List (Nat × Con) := [(31, .gen (altE [law0_CopyInts_c]))]
noncomputable def law0_CopyLits_v : Env := envOf tb gl law0_CopyLits_g law0_CopyLits_c Tryz.f7.ntmps
theorem law0_CopyLits_gs : Goods Tryz.prog (cond law0_CopyLits_c.glob gl fun _ => none) law0_CopyLits_g := (goods_cons (good_alt (alls_cons (law0_CopyInts_ok.anyGl rfl) alls_nil)) goods_nil)
noncomputable def law0_CopyLits_u0_h : SS := ⟨[0, 3, 4], ⟨[.hole, (.view 0), .hole], [.seq false], [1, 2, 0], [.sl tLit, .int .i64, .sl tLit]⟩⟩
noncomputable def law0_CopyLits_u0_e : Exs := [((.exit 0), ⟨[3], ⟨[(.view 0)], [.seq false], [0], [.sl tLit]⟩⟩)]
noncomputable def law0_CopyLits_u0_a : AC := .run
noncomputable def law0_CopyLits_u0 : Un := lpU law0_CopyLits_v.fz [5, 6, 7, 8, 11, 12, 13, 14, 15, 16, 17, 18, 19, 20, 21, 22, 23, 24, 25, 3, 9, 10, 4] law0_CopyLits_u0_h law0_CopyLits_u0_e (lp law0_CopyLits_L0 fuel)
theorem law0_CopyLits_u0_s (f : law0_CopyLits_u0_h.X → Option (YT law0_CopyLits_u0_e)) (x : law0_CopyLits_u0_h.X) : E law0_CopyLits_v (subC (bodyOf Tryz.f7) [1, 1, 0, 1, 0, 0]) (law0_CopyLits_u0_a) (mkS law0_CopyLits_u0_h 8 x) (roundK law0_CopyLits_v.fz law0_CopyLits_u0_h law0_CopyLits_u0_e f) = law0_CopyLits_L0 f x := by kernel_rfl
theorem law0_CopyLits_u0_ok {X : Fx} (hX : VOk Tryz.prog X law0_CopyLits_v) : UnOk Tryz.prog X law0_CopyLits_v (subC (bodyOf Tryz.f7) [1, 1, 0, 1, 0]) law0_CopyLits_u0 :=
  lp_un' (c := (subC (bodyOf Tryz.f7) [1, 1, 0, 1, 0, 0])) (by kernel_rfl) (env_all tb_ok (law0_CopyLits_gs)) hord (ob := []) (by kernel_rfl) (fun X hX => obl_nil) (law0_CopyLits_u0_s) (by kernel_rfl) (by kernel_rfl) hX
noncomputable def law0_CopyLits_a : AC := (.seq .run (.seq .run (.seq (.seq .run (.block (.unit law0_CopyLits_u0))) .run)))
theorem law0_CopyLits_s (x : TupL law0_CopyLits_c.inp.hs) : E law0_CopyLits_v (bodyOf Tryz.f7) (law0_CopyLits_a) (law0_CopyLits_c.entry x) (retSK tb law0_CopyLits_v.fz law0_CopyLits_c [.tmp 2] x) = law0_CopyLits_c.F x := by kernel_rfl
theorem law0_CopyLits_ok : ShOk Tryz.prog gl 7 law0_CopyLits_c :=
  fn_ok (l := law0_CopyLits_g) (n := Tryz.f7.ntmps) (code := bodyOf Tryz.f7) (rts := [.tmp 2]) tb_ok hord (law0_CopyLits_gs) Tryz.func7 (by kernel_rfl) (by kernel_rfl) rfl (by kernel_rfl) (ac := law0_CopyLits_a) (ob := [((subC (bodyOf Tryz.f7) [1, 1, 0, 1, 0]), law0_CopyLits_u0)]) (by kernel_rfl) (fun X hX => (obl_cons (law0_CopyLits_u0_ok hX) obl_nil)) (by kernel_rfl) (law0_CopyLits_s)

noncomputable def law0_CopyRows_c : ShC := { inp := ⟨[.hole], [], [1], [.sl (.one (.sl (.one (.int .i64))))]⟩, out := ⟨[(.view 0)], [.seq false], [0], [.sl (.one (.sl (.one (.int .i64))))]⟩, nres := 1, ms := [], mu := [], leak := true, glob := false, F := fun (x : (List (List Int))) => law0_CopyRows x }
-- quaerelaw0.CopyRows
noncomputable def law0_CopyRows_g : List (Nat × Con) := [(31, .gen (altE [law0_CopyInts_c]))]
noncomputable def law0_CopyRows_v : Env := envOf tb gl law0_CopyRows_g law0_CopyRows_c Tryz.f47.ntmps
theorem law0_CopyRows_gs : Goods Tryz.prog (cond law0_CopyRows_c.glob gl fun _ => none) law0_CopyRows_g := (goods_cons (good_alt (alls_cons (law0_CopyInts_ok.anyGl rfl) alls_nil)) goods_nil)
noncomputable def law0_CopyRows_u0_h : SS := ⟨[0, 3, 4], ⟨[.hole, (.view 0), .hole], [.seq false], [1, 2, 0], [.sl (.one (.sl (.one (.int .i64)))), .int .i64, .sl (.one (.sl (.one (.int .i64))))]⟩⟩
noncomputable def law0_CopyRows_u0_e : Exs := [((.exit 0), ⟨[3], ⟨[(.view 0)], [.seq false], [0], [.sl (.one (.sl (.one (.int .i64))))]⟩⟩)]
noncomputable def law0_CopyRows_u0_a : AC := .run
noncomputable def law0_CopyRows_u0 : Un := lpU law0_CopyRows_v.fz [5, 6, 7, 8, 11, 12, 13, 14, 15, 16, 17, 18, 3, 9, 10, 4] law0_CopyRows_u0_h law0_CopyRows_u0_e (lp law0_CopyRows_L0 fuel)
theorem law0_CopyRows_u0_s (f : law0_CopyRows_u0_h.X → Option (YT law0_CopyRows_u0_e)) (x : law0_CopyRows_u0_h.X) : E law0_CopyRows_v (subC (bodyOf Tryz.f47) [1, 1, 0, 1, 0, 0]) (law0_CopyRows_u0_a) (mkS law0_CopyRows_u0_h 8 x) (roundK law0_CopyRows_v.fz law0_CopyRows_u0_h law0_CopyRows_u0_e f) = law0_CopyRows_L0 f x := by kernel_rfl
theorem law0_CopyRows_u0_ok {X : Fx} (hX : VOk Tryz.prog X law0_CopyRows_v) : UnOk Tryz.prog X law0_CopyRows_v (subC (bodyOf Tryz.f47) [1, 1, 0, 1, 0]) law0_CopyRows_u0 :=
  lp_un' (c := (subC (bodyOf Tryz.f47) [1, 1, 0, 1, 0, 0])) (by kernel_rfl) (env_all tb_ok (law0_CopyRows_gs)) hord (ob := []) (by kernel_rfl) (fun X hX => obl_nil) (law0_CopyRows_u0_s) (by kernel_rfl) (by kernel_rfl) hX
noncomputable def law0_CopyRows_a : AC := (.seq .run (.seq .run (.seq (.seq .run (.block (.unit law0_CopyRows_u0))) .run)))
theorem law0_CopyRows_s (x : TupL law0_CopyRows_c.inp.hs) : E law0_CopyRows_v (bodyOf Tryz.f47) (law0_CopyRows_a) (law0_CopyRows_c.entry x) (retSK tb law0_CopyRows_v.fz law0_CopyRows_c [.tmp 2] x) = law0_CopyRows_c.F x := by kernel_rfl
theorem law0_CopyRows_ok : ShOk Tryz.prog gl 47 law0_CopyRows_c :=
  fn_ok (l := law0_CopyRows_g) (n := Tryz.f47.ntmps) (code := bodyOf Tryz.f47) (rts := [.tmp 2]) tb_ok hord (law0_CopyRows_gs) Tryz.func47 (by kernel_rfl) (by kernel_rfl) rfl (by kernel_rfl) (ac := law0_CopyRows_a) (ob := [((subC (bodyOf Tryz.f47) [1, 1, 0, 1, 0]), law0_CopyRows_u0)]) (by kernel_rfl) (fun X hX => (obl_cons (law0_CopyRows_u0_ok hX) obl_nil)) (by kernel_rfl) (law0_CopyRows_s)

noncomputable def law0_CopyClause_c : ShC := { inp := ⟨[(.agg [.hole, .hole, .hole])], [], [1, 1, 1], [.sl tLit, .sl (.one (.sl (.one (.int .i64)))), .sl tLit]⟩, out := ⟨[(.agg [(.view 0), (.view 1), (.view 2)])], [.seq false, .seq false, .seq false], [0, 0, 0], [.sl tLit, .sl (.one (.sl (.one (.int .i64)))), .sl tLit]⟩, nres := 1, ms := [], mu := [], leak := true, glob := false, F := fun (x : ((List QLit) × (List (List Int)) × (List QLit))) => law0_CopyClause x.1 x.2.1 x.2.2 }
-- quaerelaw0.CopyClause
noncomputable def law0_CopyClause_g : List (Nat × Con) := [(7, .gen (altE [law0_CopyLits_c])), (47, .gen (altE [law0_CopyRows_c]))]
noncomputable def law0_CopyClause_v : Env := envOf tb gl law0_CopyClause_g law0_CopyClause_c Tryz.f17.ntmps
theorem law0_CopyClause_gs : Goods Tryz.prog (cond law0_CopyClause_c.glob gl fun _ => none) law0_CopyClause_g := (goods_cons (good_alt (alls_cons (law0_CopyLits_ok.anyGl rfl) alls_nil)) (goods_cons (good_alt (alls_cons (law0_CopyRows_ok.anyGl rfl) alls_nil)) goods_nil))
noncomputable def law0_CopyClause_a : AC := .run
theorem law0_CopyClause_s (x : TupL law0_CopyClause_c.inp.hs) : E law0_CopyClause_v (bodyOf Tryz.f17) (law0_CopyClause_a) (law0_CopyClause_c.entry x) (retSK tb law0_CopyClause_v.fz law0_CopyClause_c [.cell 2 29] x) = law0_CopyClause_c.F x := by kernel_rfl
theorem law0_CopyClause_ok : ShOk Tryz.prog gl 17 law0_CopyClause_c :=
  fn_ok (l := law0_CopyClause_g) (n := Tryz.f17.ntmps) (code := bodyOf Tryz.f17) (rts := [.cell 2 29]) tb_ok hord (law0_CopyClause_gs) Tryz.func17 (by kernel_rfl) (by kernel_rfl) rfl (by kernel_rfl) (ac := law0_CopyClause_a) (ob := []) (by kernel_rfl) (fun X hX => obl_nil) (by kernel_rfl) (law0_CopyClause_s)

noncomputable def sign_small_c : ShC := { inp := ⟨[.hole], [], [1], [.int .u8]⟩, out := ⟨[.hole], [], [2], [.bool]⟩, nres := 1, ms := [], mu := [], leak := false, glob := false, F := fun (x : Int) => sign_small x }
-- sign.small
noncomputable def sign_small_g : List (Nat × Con) := []
noncomputable def sign_small_v : Env := envOf tb gl sign_small_g sign_small_c Tryz.f147.ntmps
theorem sign_small_gs : Goods Tryz.prog (cond sign_small_c.glob gl fun _ => none) sign_small_g := goods_nil
noncomputable def sign_small_a : AC := .run
theorem sign_small_s (x : TupL sign_small_c.inp.hs) : E sign_small_v (bodyOf Tryz.f147) (sign_small_a) (sign_small_c.entry x) (retSK tb sign_small_v.fz sign_small_c [.tmp 2] x) = sign_small_c.F x := by kernel_rfl
theorem sign_small_ok : ShOk Tryz.prog gl 147 sign_small_c :=
  fn_ok (l := sign_small_g) (n := Tryz.f147.ntmps) (code := bodyOf Tryz.f147) (rts := [.tmp 2]) tb_ok hord (sign_small_gs) Tryz.func147 (by kernel_rfl) (by kernel_rfl) rfl (by kernel_rfl) (ac := sign_small_a) (ob := []) (by kernel_rfl) (fun X hX => obl_nil) (by kernel_rfl) (sign_small_s)

noncomputable def sign_called_c : ShC := { inp := ⟨[.hole], [], [1], [.str]⟩, out := ⟨[.hole], [], [2], [.bool]⟩, nres := 1, ms := [], mu := [], leak := false, glob := false, F := fun (x : Str) => sign_called x }
-- sign.called
noncomputable def sign_called_g : List (Nat × Con) := [(147, .gen (altE [sign_small_c]))]
noncomputable def sign_called_v : Env := envOf tb gl sign_called_g sign_called_c Tryz.f116.ntmps
theorem sign_called_gs : Goods Tryz.prog (cond sign_called_c.glob gl fun _ => none) sign_called_g := (goods_cons (good_alt (alls_cons (sign_small_ok.anyGl rfl) alls_nil)) goods_nil)
noncomputable def sign_called_u0_h : SS := ⟨[0, 18, 19], ⟨[.hole, .hole, .hole], [], [2, 2, 2], [.str, .int .i64, .int .i64]⟩⟩
noncomputable def sign_called_u0_e : Exs := [((.exit 0), ⟨[], ⟨[], [], [], []⟩⟩), (.ret, ⟨[2], ⟨[.hole], [], [2], [.bool]⟩⟩)]
noncomputable def sign_called_u0_a : AC := .run
noncomputable def sign_called_u0 : Un := lpU sign_called_v.fz [20, 21, 3, 22, 23, 24, 25, 26, 27, 28, 29, 30, 31, 32, 33, 34, 35, 36, 37, 38, 2, 39, 19] sign_called_u0_h sign_called_u0_e (lp sign_called_L0 fuel)
theorem sign_called_u0_s (f : sign_called_u0_h.X → Option (YT sign_called_u0_e)) (x : sign_called_u0_h.X) : E sign_called_v (subC (bodyOf Tryz.f116) [1, 1, 0, 1, 0, 0]) (sign_called_u0_a) (mkS sign_called_u0_h 8 x) (roundK sign_called_v.fz sign_called_u0_h sign_called_u0_e f) = sign_called_L0 f x := by kernel_rfl
theorem sign_called_u0_ok {X : Fx} (hX : VOk Tryz.prog X sign_called_v) : UnOk Tryz.prog X sign_called_v (subC (bodyOf Tryz.f116) [1, 1, 0, 1, 0]) sign_called_u0 :=
  lp_un' (c := (subC (bodyOf Tryz.f116) [1, 1, 0, 1, 0, 0])) (by kernel_rfl) (env_all tb_ok (sign_called_gs)) hord (ob := []) (by kernel_rfl) (fun X hX => obl_nil) (sign_called_u0_s) (by kernel_rfl) (by kernel_rfl) hX
noncomputable def sign_called_a : AC := (.seq .run (.seq .run (.seq (.seq .run (.block (.unit sign_called_u0))) .run)))
theorem sign_called_s (x : TupL sign_called_c.inp.hs) : E sign_called_v (bodyOf Tryz.f116) (sign_called_a) (sign_called_c.entry x) (retSK tb sign_called_v.fz sign_called_c [.tmp 2] x) = sign_called_c.F x := by kernel_rfl
theorem sign_called_ok : ShOk Tryz.prog gl 116 sign_called_c :=
  fn_ok (l := sign_called_g) (n := Tryz.f116.ntmps) (code := bodyOf Tryz.f116) (rts := [.tmp 2]) tb_ok hord (sign_called_gs) Tryz.func116 (by kernel_rfl) (by kernel_rfl) rfl (by kernel_rfl) (ac := sign_called_a) (ob := [((subC (bodyOf Tryz.f116) [1, 1, 0, 1, 0]), sign_called_u0)]) (by kernel_rfl) (fun X hX => (obl_cons (sign_called_u0_ok hX) obl_nil)) (by kernel_rfl) (sign_called_s)

noncomputable def sign_SymMay_c : ShC := { inp := ⟨[(.agg [.hole, .hole, .hole, .hole])], [], [1, 1, 1, 1], [.str, .int .i64, .int .i64, .int .i64]⟩, out := ⟨[.hole], [], [2], [.bool]⟩, nres := 1, ms := [], mu := [], leak := false, glob := false, F := fun (x : QSym) => sign_SymMay x.1 x.2.1 x.2.2.1 x.2.2.2 }
-- sign.SymMay
noncomputable def sign_SymMay_g : List (Nat × Con) := [(116, .gen (altE [sign_called_c]))]
noncomputable def sign_SymMay_v : Env := envOf tb gl sign_SymMay_g sign_SymMay_c Tryz.f74.ntmps
theorem sign_SymMay_gs : Goods Tryz.prog (cond sign_SymMay_c.glob gl fun _ => none) sign_SymMay_g := (goods_cons (good_alt (alls_cons (sign_called_ok.anyGl rfl) alls_nil)) goods_nil)
noncomputable def sign_SymMay_a : AC := .run
theorem sign_SymMay_s (x : TupL sign_SymMay_c.inp.hs) : E sign_SymMay_v (bodyOf Tryz.f74) (sign_SymMay_a) (sign_SymMay_c.entry x) (retSK tb sign_SymMay_v.fz sign_SymMay_c [.tmp 2] x) = sign_SymMay_c.F x := by kernel_rfl
theorem sign_SymMay_ok : ShOk Tryz.prog gl 74 sign_SymMay_c :=
  fn_ok (l := sign_SymMay_g) (n := Tryz.f74.ntmps) (code := bodyOf Tryz.f74) (rts := [.tmp 2]) tb_ok hord (sign_SymMay_gs) Tryz.func74 (by kernel_rfl) (by kernel_rfl) rfl (by kernel_rfl) (ac := sign_SymMay_a) (ob := []) (by kernel_rfl) (fun X hX => obl_nil) (by kernel_rfl) (sign_SymMay_s)

noncomputable def sign_find_c : ShC := { inp := ⟨[.hole, .hole], [], [1, 1], [.sl tSym, .str]⟩, out := ⟨[.hole], [], [2], [.int .i64]⟩, nres := 1, ms := [], mu := [], leak := false, glob := false, F := fun (x : ((List QSym) × Str)) => sign_find x.1 x.2 }
-- sign.find
noncomputable def sign_find_g : List (Nat × Con) := []
noncomputable def sign_find_v : Env := envOf tb gl sign_find_g sign_find_c Tryz.f75.ntmps
theorem sign_find_gs : Goods Tryz.prog (cond sign_find_c.glob gl fun _ => none) sign_find_g := goods_nil
noncomputable def sign_find_u0_h : SS := ⟨[0, 1, 7, 8], ⟨[.hole, .hole, .hole, .hole], [], [1, 2, 2, 2], [.sl tSym, .str, .int .i64, .int .i64]⟩⟩
noncomputable def sign_find_u0_e : Exs := [((.exit 0), ⟨[], ⟨[], [], [], []⟩⟩), (.ret, ⟨[4], ⟨[.hole], [], [2], [.int .i64]⟩⟩)]
noncomputable def sign_find_u0_a : AC := .run
noncomputable def sign_find_u0 : Un := lpU sign_find_v.fz [9, 10, 5, 11, 12, 13, 14, 15, 16, 17, 18, 4, 19, 8] sign_find_u0_h sign_find_u0_e (lp sign_find_L0 fuel)
theorem sign_find_u0_s (f : sign_find_u0_h.X → Option (YT sign_find_u0_e)) (x : sign_find_u0_h.X) : E sign_find_v (subC (bodyOf Tryz.f75) [1, 0, 1, 0, 0]) (sign_find_u0_a) (mkS sign_find_u0_h 8 x) (roundK sign_find_v.fz sign_find_u0_h sign_find_u0_e f) = sign_find_L0 f x := by kernel_rfl
theorem sign_find_u0_ok {X : Fx} (hX : VOk Tryz.prog X sign_find_v) : UnOk Tryz.prog X sign_find_v (subC (bodyOf Tryz.f75) [1, 0, 1, 0]) sign_find_u0 :=
  lp_un' (c := (subC (bodyOf Tryz.f75) [1, 0, 1, 0, 0])) (by kernel_rfl) (env_all tb_ok (sign_find_gs)) hord (ob := []) (by kernel_rfl) (fun X hX => obl_nil) (sign_find_u0_s) (by kernel_rfl) (by kernel_rfl) hX
noncomputable def sign_find_a : AC := (.seq .run (.seq (.seq .run (.block (.unit sign_find_u0))) .run))
theorem sign_find_s (x : TupL sign_find_c.inp.hs) : E sign_find_v (bodyOf Tryz.f75) (sign_find_a) (sign_find_c.entry x) (retSK tb sign_find_v.fz sign_find_c [.tmp 4] x) = sign_find_c.F x := by kernel_rfl
theorem sign_find_ok : ShOk Tryz.prog gl 75 sign_find_c :=
  fn_ok (l := sign_find_g) (n := Tryz.f75.ntmps) (code := bodyOf Tryz.f75) (rts := [.tmp 4]) tb_ok hord (sign_find_gs) Tryz.func75 (by kernel_rfl) (by kernel_rfl) rfl (by kernel_rfl) (ac := sign_find_a) (ob := [((subC (bodyOf Tryz.f75) [1, 0, 1, 0]), sign_find_u0)]) (by kernel_rfl) (fun X hX => (obl_cons (sign_find_u0_ok hX) obl_nil)) (by kernel_rfl) (sign_find_s)

noncomputable def sign_May_c : ShC := { inp := ⟨[.hole], [], [1], [.sl tSym]⟩, out := ⟨[.hole], [], [2], [.bool]⟩, nres := 1, ms := [], mu := [], leak := false, glob := true, F := fun (x : (List QSym)) => sign_May x }
-- sign.May
noncomputable def sign_May_g : List (Nat × Con) := [(74, .gen (altE [sign_SymMay_c])), (75, .gen (altE [sign_find_c]))]
noncomputable def sign_May_v : Env := envOf tb gl sign_May_g sign_May_c Tryz.f32.ntmps
theorem sign_May_gs : Goods Tryz.prog (cond sign_May_c.glob gl fun _ => none) sign_May_g := (goods_cons (good_alt (alls_cons (sign_SymMay_ok.anyGl rfl) alls_nil)) (goods_cons (good_alt (alls_cons (sign_find_ok.anyGl rfl) alls_nil)) goods_nil))
noncomputable def sign_May_u0_h : SS := ⟨[0, 3], ⟨[.hole, .hole], [], [1, 2], [.sl tSym, .int .i64]⟩⟩
noncomputable def sign_May_u0_e : Exs := [((.exit 0), ⟨[], ⟨[], [], [], []⟩⟩), (.ret, ⟨[2], ⟨[.hole], [], [2], [.bool]⟩⟩)]
noncomputable def sign_May_u0_a : AC := .run
noncomputable def sign_May_u0 : Un := lpU sign_May_v.fz [19, 20, 21, 22, 25, 26, 27, 28, 29, 30, 31, 32, 33, 34, 35, 36, 37, 38, 39, 40, 41, 2, 23, 24, 3] sign_May_u0_h sign_May_u0_e (lp sign_May_L0 fuel)
theorem sign_May_u0_s (f : sign_May_u0_h.X → Option (YT sign_May_u0_e)) (x : sign_May_u0_h.X) : E sign_May_v (subC (bodyOf Tryz.f32) [1, 1, 0, 1, 0, 0]) (sign_May_u0_a) (mkS sign_May_u0_h 8 x) (roundK sign_May_v.fz sign_May_u0_h sign_May_u0_e f) = sign_May_L0 f x := by kernel_rfl
theorem sign_May_u0_ok {X : Fx} (hX : VOk Tryz.prog X sign_May_v) : UnOk Tryz.prog X sign_May_v (subC (bodyOf Tryz.f32) [1, 1, 0, 1, 0]) sign_May_u0 :=
  lp_un' (c := (subC (bodyOf Tryz.f32) [1, 1, 0, 1, 0, 0])) (by kernel_rfl) (env_all tb_ok (sign_May_gs)) hord (ob := []) (by kernel_rfl) (fun X hX => obl_nil) (sign_May_u0_s) (by kernel_rfl) (by kernel_rfl) hX
noncomputable def sign_May_a : AC := (.seq .run (.seq .run (.seq (.seq .run (.block (.unit sign_May_u0))) .run)))
theorem sign_May_s (x : TupL sign_May_c.inp.hs) : E sign_May_v (bodyOf Tryz.f32) (sign_May_a) (sign_May_c.entry x) (retSK tb sign_May_v.fz sign_May_c [.tmp 2] x) = sign_May_c.F x := by kernel_rfl
theorem sign_May_ok : ShOk Tryz.prog gl 32 sign_May_c :=
  fn_ok (l := sign_May_g) (n := Tryz.f32.ntmps) (code := bodyOf Tryz.f32) (rts := [.tmp 2]) tb_ok hord (sign_May_gs) Tryz.func32 (by kernel_rfl) (by kernel_rfl) rfl (by kernel_rfl) (ac := sign_May_a) (ob := [((subC (bodyOf Tryz.f32) [1, 1, 0, 1, 0]), sign_May_u0)]) (by kernel_rfl) (fun X hX => (obl_cons (sign_May_u0_ok hX) obl_nil)) (by kernel_rfl) (sign_May_s)

noncomputable def term_Number_c : ShC := { inp := ⟨[.hole], [], [1], [.int .i64]⟩, out := ⟨[.hole], [], [2], [.int .i64]⟩, nres := 1, ms := [], mu := [], leak := false, glob := false, F := fun (x : Int) => term_Number x }
-- term.Number
noncomputable def term_Number_g : List (Nat × Con) := []
noncomputable def term_Number_v : Env := envOf tb gl term_Number_g term_Number_c Tryz.f35.ntmps
theorem term_Number_gs : Goods Tryz.prog (cond term_Number_c.glob gl fun _ => none) term_Number_g := goods_nil
noncomputable def term_Number_a : AC := .run
theorem term_Number_s (x : TupL term_Number_c.inp.hs) : E term_Number_v (bodyOf Tryz.f35) (term_Number_a) (term_Number_c.entry x) (retSK tb term_Number_v.fz term_Number_c [.tmp 2] x) = term_Number_c.F x := by kernel_rfl
theorem term_Number_ok : ShOk Tryz.prog gl 35 term_Number_c :=
  fn_ok (l := term_Number_g) (n := Tryz.f35.ntmps) (code := bodyOf Tryz.f35) (rts := [.tmp 2]) tb_ok hord (term_Number_gs) Tryz.func35 (by kernel_rfl) (by kernel_rfl) rfl (by kernel_rfl) (ac := term_Number_a) (ob := []) (by kernel_rfl) (fun X hX => obl_nil) (by kernel_rfl) (term_Number_s)

noncomputable def term_args_c : ShC := { inp := ⟨[.hole, .hole], [], [1, 1], [.sl tSym, .int .i64]⟩, out := ⟨[.hole, .hole], [], [2, 2], [.int .i64, .bool]⟩, nres := 2, ms := [], mu := [], leak := false, glob := false, F := fun (x : ((List QSym) × Int)) => term_args x.1 x.2 }
-- term.args
noncomputable def term_args_g : List (Nat × Con) := [(35, .gen (altE [term_Number_c]))]
noncomputable def term_args_v : Env := envOf tb gl term_args_g term_args_c Tryz.f151.ntmps
theorem term_args_gs : Goods Tryz.prog (cond term_args_c.glob gl fun _ => none) term_args_g := (goods_cons (good_alt (alls_cons (term_Number_ok.anyGl rfl) alls_nil)) goods_nil)
noncomputable def term_args_a : AC := .run
theorem term_args_s (x : TupL term_args_c.inp.hs) : E term_args_v (bodyOf Tryz.f151) (term_args_a) (term_args_c.entry x) (retSK tb term_args_v.fz term_args_c [.tmp 4, .tmp 5] x) = term_args_c.F x := by kernel_rfl
theorem term_args_ok : ShOk Tryz.prog gl 151 term_args_c :=
  fn_ok (l := term_args_g) (n := Tryz.f151.ntmps) (code := bodyOf Tryz.f151) (rts := [.tmp 4, .tmp 5]) tb_ok hord (term_args_gs) Tryz.func151 (by kernel_rfl) (by kernel_rfl) rfl (by kernel_rfl) (ac := term_args_a) (ob := []) (by kernel_rfl) (fun X hX => obl_nil) (by kernel_rfl) (term_args_s)

noncomputable def term_Skip_c : ShC := { inp := ⟨[.hole, .hole, .hole], [], [1, 1, 1], [.sl tSym, .sl (.one (.int .i64)), .int .i64]⟩, out := ⟨[.hole, .hole], [], [2, 2], [.int .i64, .bool]⟩, nres := 2, ms := [], mu := [], leak := false, glob := false, F := fun (x : ((List QSym) × (List Int) × Int)) => term_Skip x.1 x.2.1 x.2.2 }
-- term.Skip
noncomputable def term_Skip_g : List (Nat × Con) := [(151, .gen (altE [term_args_c]))]
noncomputable def term_Skip_v : Env := envOf tb gl term_Skip_g term_Skip_c Tryz.f129.ntmps
theorem term_Skip_gs : Goods Tryz.prog (cond term_Skip_c.glob gl fun _ => none) term_Skip_g := (goods_cons (good_alt (alls_cons (term_args_ok.anyGl rfl) alls_nil)) goods_nil)
noncomputable def term_Skip_u0_j : Exs := [(.goto 0, ⟨[0, 1, 2, 8], ⟨[.hole, .hole, .hole, .hole], [], [1, 1, 2, 2], [.sl tSym, .sl (.one (.int .i64)), .int .i64, .int .i64]⟩⟩)]
noncomputable def term_Skip_u0_e : Exs := [(.ret, ⟨[6, 7], ⟨[.hole, .hole], [], [2, 2], [.int .i64, .bool]⟩⟩)]
noncomputable def term_Skip_u0_a : AC := .run
noncomputable def term_Skip_u0_l : List (Nat × AC) := []
noncomputable def term_Skip_u0 : Un := scU term_Skip_v [8, 11, 12, 13, 14, 6, 7, 16, 17, 18, 19, 20, 21, 15, 22, 23, 9, 10, 24, 25, 6, 7, 26, 27, 2, 28, 29, 30, 31, 8, 32, 33, 34, 6, 7] term_Skip_u0_j term_Skip_u0_e (subC (bodyOf Tryz.f129) [1, 0]) (term_Skip_u0_a) (lp term_Skip_L0 fuel)
theorem term_Skip_u0_s (f : YT term_Skip_u0_j → Option (YT term_Skip_u0_e)) (x : YT term_Skip_u0_j) : passE term_Skip_v (subC (bodyOf Tryz.f129) [1, 0]) (acsOf (term_Skip_u0_l)) term_Skip_u0_j term_Skip_u0_e f x = term_Skip_L0 f x := by kernel_rfl
theorem term_Skip_u0_ok {X : Fx} (hX : VOk Tryz.prog X term_Skip_v) : UnOk Tryz.prog X term_Skip_v (subC (bodyOf Tryz.f129) [1]) term_Skip_u0 :=
  sc_un' (c := (subC (bodyOf Tryz.f129) [1, 0])) (by kernel_rfl) (env_all tb_ok (term_Skip_gs)) hord (ob := []) (by kernel_rfl) (fun X hX => obl_nil) (fun X hX => acs_ok acl_nil) (term_Skip_u0_s) (by kernel_rfl) (by kernel_rfl) (by kernel_rfl) hX
noncomputable def term_Skip_a : AC := (.seq .run (.unit term_Skip_u0))
theorem term_Skip_s (x : TupL term_Skip_c.inp.hs) : E term_Skip_v (bodyOf Tryz.f129) (term_Skip_a) (term_Skip_c.entry x) (retSK tb term_Skip_v.fz term_Skip_c [.tmp 6, .tmp 7] x) = term_Skip_c.F x := by kernel_rfl
theorem term_Skip_ok : ShOk Tryz.prog gl 129 term_Skip_c :=
  fn_ok (l := term_Skip_g) (n := Tryz.f129.ntmps) (code := bodyOf Tryz.f129) (rts := [.tmp 6, .tmp 7]) tb_ok hord (term_Skip_gs) Tryz.func129 (by kernel_rfl) (by kernel_rfl) rfl (by kernel_rfl) (ac := term_Skip_a) (ob := [((subC (bodyOf Tryz.f129) [1]), term_Skip_u0)]) (by kernel_rfl) (fun X hX => (obl_cons (term_Skip_u0_ok hX) obl_nil)) (by kernel_rfl) (term_Skip_s)

noncomputable def term_begins_c : ShC := { inp := ⟨[.hole, .hole], [], [1, 1], [.sl tSym, .sl (.one (.int .i64))]⟩, out := ⟨[(.view 0), .hole], [.seq false], [2, 2], [.bool, .sl (.one (.int .i64))]⟩, nres := 2, ms := [], mu := [], leak := false, glob := true, F := fun (x : ((List QSym) × (List Int))) => term_begins x.1 x.2 }
-- term.begins
noncomputable def term_begins_g : List (Nat × Con) := [(32, .gen (altE [sign_May_c])), (129, .gen (altE [term_Skip_c]))]
noncomputable def term_begins_v : Env := envOf tb gl term_begins_g term_begins_c Tryz.f150.ntmps
theorem term_begins_gs : Goods Tryz.prog (cond term_begins_c.glob gl fun _ => none) term_begins_g := (goods_cons (good_alt (alls_cons sign_May_ok alls_nil)) (goods_cons (good_alt (alls_cons (term_Skip_ok.anyGl rfl) alls_nil)) goods_nil))
noncomputable def term_begins_u0_j : Exs := [(.goto 0, ⟨[0, 1, 6, 7], ⟨[.hole, .hole, (.view 0), .hole], [.seq false], [1, 1, 2, 2], [.sl tSym, .sl (.one (.int .i64)), .int .i64, .sl (.one (.int .i64))]⟩⟩)]
noncomputable def term_begins_u0_e : Exs := [(.ret, ⟨[4, 5], ⟨[(.view 0), .hole], [.seq false], [2, 2], [.bool, .sl (.one (.int .i64))]⟩⟩)]
noncomputable def term_begins_u0_a : AC := .run
noncomputable def term_begins_u0_l : List (Nat × AC) := []
noncomputable def term_begins_u0 : Un := scU term_begins_v [10, 11, 12, 13, 14, 15, 16, 17, 4, 5, 6, 7, 18, 19, 20, 21, 22, 4, 5, 24, 25, 26, 27, 23, 28, 29, 8, 9, 30, 31, 4, 5, 32, 33, 34, 35, 6, 36, 7] term_begins_u0_j term_begins_u0_e (subC (bodyOf Tryz.f150) [1, 0]) (term_begins_u0_a) (lp term_begins_L0 fuel)
theorem term_begins_u0_s (f : YT term_begins_u0_j → Option (YT term_begins_u0_e)) (x : YT term_begins_u0_j) : passE term_begins_v (subC (bodyOf Tryz.f150) [1, 0]) (acsOf (term_begins_u0_l)) term_begins_u0_j term_begins_u0_e f x = term_begins_L0 f x := by kernel_rfl
theorem term_begins_u0_ok {X : Fx} (hX : VOk Tryz.prog X term_begins_v) : UnOk Tryz.prog X term_begins_v (subC (bodyOf Tryz.f150) [1]) term_begins_u0 :=
  sc_un' (c := (subC (bodyOf Tryz.f150) [1, 0])) (by kernel_rfl) (env_all tb_ok (term_begins_gs)) hord (ob := []) (by kernel_rfl) (fun X hX => obl_nil) (fun X hX => acs_ok acl_nil) (term_begins_u0_s) (by kernel_rfl) (by kernel_rfl) (by kernel_rfl) hX
noncomputable def term_begins_a : AC := (.seq .run (.unit term_begins_u0))
theorem term_begins_s (x : TupL term_begins_c.inp.hs) : E term_begins_v (bodyOf Tryz.f150) (term_begins_a) (term_begins_c.entry x) (retSK tb term_begins_v.fz term_begins_c [.tmp 4, .tmp 5] x) = term_begins_c.F x := by kernel_rfl
theorem term_begins_ok : ShOk Tryz.prog gl 150 term_begins_c :=
  fn_ok (l := term_begins_g) (n := Tryz.f150.ntmps) (code := bodyOf Tryz.f150) (rts := [.tmp 4, .tmp 5]) tb_ok hord (term_begins_gs) Tryz.func150 (by kernel_rfl) (by kernel_rfl) rfl (by kernel_rfl) (ac := term_begins_a) (ob := [((subC (bodyOf Tryz.f150) [1]), term_begins_u0)]) (by kernel_rfl) (fun X hX => (obl_cons (term_begins_u0_ok hX) obl_nil)) (by kernel_rfl) (term_begins_s)

noncomputable def term_IsAtom_c : ShC := { inp := ⟨[.hole, .hole], [], [1, 1], [.sl tSym, .sl (.one (.int .i64))]⟩, out := ⟨[.hole], [], [2], [.bool]⟩, nres := 1, ms := [], mu := [], leak := false, glob := true, F := fun (x : ((List QSym) × (List Int))) => term_IsAtom x.1 x.2 }
-- term.IsAtom
noncomputable def term_IsAtom_g : List (Nat × Con) := [(150, .gen (altE [term_begins_c]))]
noncomputable def term_IsAtom_v : Env := envOf tb gl term_IsAtom_g term_IsAtom_c Tryz.f142.ntmps
theorem term_IsAtom_gs : Goods Tryz.prog (cond term_IsAtom_c.glob gl fun _ => none) term_IsAtom_g := (goods_cons (good_alt (alls_cons term_begins_ok alls_nil)) goods_nil)
noncomputable def term_IsAtom_a : AC := .run
theorem term_IsAtom_s (x : TupL term_IsAtom_c.inp.hs) : E term_IsAtom_v (bodyOf Tryz.f142) (term_IsAtom_a) (term_IsAtom_c.entry x) (retSK tb term_IsAtom_v.fz term_IsAtom_c [.tmp 4] x) = term_IsAtom_c.F x := by kernel_rfl
theorem term_IsAtom_ok : ShOk Tryz.prog gl 142 term_IsAtom_c :=
  fn_ok (l := term_IsAtom_g) (n := Tryz.f142.ntmps) (code := bodyOf Tryz.f142) (rts := [.tmp 4]) tb_ok hord (term_IsAtom_gs) Tryz.func142 (by kernel_rfl) (by kernel_rfl) rfl (by kernel_rfl) (ac := term_IsAtom_a) (ob := []) (by kernel_rfl) (fun X hX => obl_nil) (by kernel_rfl) (term_IsAtom_s)

noncomputable def lit_May_c : ShC := { inp := ⟨[.hole, (.agg [.hole, .hole])], [], [1, 1, 1], [.sl tSym, .bool, .sl (.one (.int .i64))]⟩, out := ⟨[.hole], [], [2], [.bool]⟩, nres := 1, ms := [], mu := [], leak := false, glob := true, F := fun (x : ((List QSym) × Bool × (List Int))) => lit_May x.1 x.2.1 x.2.2 }
-- lit.May
noncomputable def lit_May_g : List (Nat × Con) := [(142, .gen (altE [term_IsAtom_c]))]
noncomputable def lit_May_v : Env := envOf tb gl lit_May_g lit_May_c Tryz.f109.ntmps
theorem lit_May_gs : Goods Tryz.prog (cond lit_May_c.glob gl fun _ => none) lit_May_g := (goods_cons (good_alt (alls_cons term_IsAtom_ok alls_nil)) goods_nil)
noncomputable def lit_May_a : AC := .run
theorem lit_May_s (x : TupL lit_May_c.inp.hs) : E lit_May_v (bodyOf Tryz.f109) (lit_May_a) (lit_May_c.entry x) (retSK tb lit_May_v.fz lit_May_c [.tmp 4] x) = lit_May_c.F x := by kernel_rfl
theorem lit_May_ok : ShOk Tryz.prog gl 109 lit_May_c :=
  fn_ok (l := lit_May_g) (n := Tryz.f109.ntmps) (code := bodyOf Tryz.f109) (rts := [.tmp 4]) tb_ok hord (lit_May_gs) Tryz.func109 (by kernel_rfl) (by kernel_rfl) rfl (by kernel_rfl) (ac := lit_May_a) (ob := []) (by kernel_rfl) (fun X hX => obl_nil) (by kernel_rfl) (lit_May_s)

noncomputable def clause_litsMay_c : ShC := { inp := ⟨[.hole, .hole], [], [1, 1], [.sl tSym, .sl tLit]⟩, out := ⟨[.hole, .hole], [], [2, 2], [.int .i64, .bool]⟩, nres := 2, ms := [], mu := [], leak := false, glob := true, F := fun (x : ((List QSym) × (List QLit))) => clause_litsMay x.1 x.2 }
-- clause.litsMay
noncomputable def clause_litsMay_g : List (Nat × Con) := [(109, .gen (altE [lit_May_c]))]
noncomputable def clause_litsMay_v : Env := envOf tb gl clause_litsMay_g clause_litsMay_c Tryz.f88.ntmps
theorem clause_litsMay_gs : Goods Tryz.prog (cond clause_litsMay_c.glob gl fun _ => none) clause_litsMay_g := (goods_cons (good_alt (alls_cons lit_May_ok alls_nil)) goods_nil)
noncomputable def clause_litsMay_u0_h : SS := ⟨[0, 6, 9, 10, 11], ⟨[.hole, .hole, .hole, .hole, .hole], [], [1, 2, 1, 2, 2], [.sl tSym, .int .i64, .sl tLit, .int .i64, .int .i64]⟩⟩
noncomputable def clause_litsMay_u0_e : Exs := [((.exit 0), ⟨[6], ⟨[.hole], [], [2], [.int .i64]⟩⟩), (.ret, ⟨[4, 5], ⟨[.hole, .hole], [], [2, 2], [.int .i64, .bool]⟩⟩)]
noncomputable def clause_litsMay_u0_a : AC := .run
noncomputable def clause_litsMay_u0 : Un := lpU clause_litsMay_v.fz [12, 13, 14, 8, 15, 16, 17, 18, 4, 5, 19, 20, 21, 22, 23, 6, 24, 11] clause_litsMay_u0_h clause_litsMay_u0_e (lp clause_litsMay_L0 fuel)
theorem clause_litsMay_u0_s (f : clause_litsMay_u0_h.X → Option (YT clause_litsMay_u0_e)) (x : clause_litsMay_u0_h.X) : E clause_litsMay_v (subC (bodyOf Tryz.f88) [1, 1, 0, 1, 0, 0]) (clause_litsMay_u0_a) (mkS clause_litsMay_u0_h 8 x) (roundK clause_litsMay_v.fz clause_litsMay_u0_h clause_litsMay_u0_e f) = clause_litsMay_L0 f x := by kernel_rfl
theorem clause_litsMay_u0_ok {X : Fx} (hX : VOk Tryz.prog X clause_litsMay_v) : UnOk Tryz.prog X clause_litsMay_v (subC (bodyOf Tryz.f88) [1, 1, 0, 1, 0]) clause_litsMay_u0 :=
  lp_un' (c := (subC (bodyOf Tryz.f88) [1, 1, 0, 1, 0, 0])) (by kernel_rfl) (env_all tb_ok (clause_litsMay_gs)) hord (ob := []) (by kernel_rfl) (fun X hX => obl_nil) (clause_litsMay_u0_s) (by kernel_rfl) (by kernel_rfl) hX
noncomputable def clause_litsMay_a : AC := (.seq .run (.seq .run (.seq (.seq .run (.block (.unit clause_litsMay_u0))) .run)))
theorem clause_litsMay_s (x : TupL clause_litsMay_c.inp.hs) : E clause_litsMay_v (bodyOf Tryz.f88) (clause_litsMay_a) (clause_litsMay_c.entry x) (retSK tb clause_litsMay_v.fz clause_litsMay_c [.tmp 4, .tmp 5] x) = clause_litsMay_c.F x := by kernel_rfl
theorem clause_litsMay_ok : ShOk Tryz.prog gl 88 clause_litsMay_c :=
  fn_ok (l := clause_litsMay_g) (n := Tryz.f88.ntmps) (code := bodyOf Tryz.f88) (rts := [.tmp 4, .tmp 5]) tb_ok hord (clause_litsMay_gs) Tryz.func88 (by kernel_rfl) (by kernel_rfl) rfl (by kernel_rfl) (ac := clause_litsMay_a) (ob := [((subC (bodyOf Tryz.f88) [1, 1, 0, 1, 0]), clause_litsMay_u0)]) (by kernel_rfl) (fun X hX => (obl_cons (clause_litsMay_u0_ok hX) obl_nil)) (by kernel_rfl) (clause_litsMay_s)

noncomputable def term_Row_c : ShC := { inp := ⟨[.hole, .hole], [], [1, 1], [.sl tSym, .sl (.one (.int .i64))]⟩, out := ⟨[.hole, .hole], [], [2, 2], [.int .i64, .int .i64]⟩, nres := 2, ms := [], mu := [], leak := false, glob := true, F := fun (x : ((List QSym) × (List Int))) => term_Row x.1 x.2 }
-- term.Row
noncomputable def term_Row_g : List (Nat × Con) := [(150, .gen (altE [term_begins_c]))]
noncomputable def term_Row_v : Env := envOf tb gl term_Row_g term_Row_c Tryz.f127.ntmps
theorem term_Row_gs : Goods Tryz.prog (cond term_Row_c.glob gl fun _ => none) term_Row_g := (goods_cons (good_alt (alls_cons term_begins_ok alls_nil)) goods_nil)
noncomputable def term_Row_a : AC := .run
theorem term_Row_s (x : TupL term_Row_c.inp.hs) : E term_Row_v (bodyOf Tryz.f127) (term_Row_a) (term_Row_c.entry x) (retSK tb term_Row_v.fz term_Row_c [.tmp 4, .tmp 5] x) = term_Row_c.F x := by kernel_rfl
theorem term_Row_ok : ShOk Tryz.prog gl 127 term_Row_c :=
  fn_ok (l := term_Row_g) (n := Tryz.f127.ntmps) (code := bodyOf Tryz.f127) (rts := [.tmp 4, .tmp 5]) tb_ok hord (term_Row_gs) Tryz.func127 (by kernel_rfl) (by kernel_rfl) rfl (by kernel_rfl) (ac := term_Row_a) (ob := []) (by kernel_rfl) (fun X hX => obl_nil) (by kernel_rfl) (term_Row_s)

noncomputable def clause_rowsMay_c : ShC := { inp := ⟨[.hole, .hole], [], [1, 1], [.sl tSym, .sl (.one (.sl (.one (.int .i64))))]⟩, out := ⟨[.hole, .hole], [], [2, 2], [.int .i64, .bool]⟩, nres := 2, ms := [], mu := [], leak := false, glob := true, F := fun (x : ((List QSym) × (List (List Int)))) => clause_rowsMay x.1 x.2 }
-- clause.rowsMay
noncomputable def clause_rowsMay_g : List (Nat × Con) := [(127, .gen (altE [term_Row_c]))]
noncomputable def clause_rowsMay_v : Env := envOf tb gl clause_rowsMay_g clause_rowsMay_c Tryz.f89.ntmps
theorem clause_rowsMay_gs : Goods Tryz.prog (cond clause_rowsMay_c.glob gl fun _ => none) clause_rowsMay_g := (goods_cons (good_alt (alls_cons term_Row_ok alls_nil)) goods_nil)
noncomputable def clause_rowsMay_u0_h : SS := ⟨[0, 6, 7, 12, 13, 14], ⟨[.hole, .hole, .hole, .hole, .hole, .hole], [], [1, 2, 2, 1, 2, 2], [.sl tSym, .int .i64, .int .i64, .sl (.one (.sl (.one (.int .i64)))), .int .i64, .int .i64]⟩⟩
noncomputable def clause_rowsMay_u0_e : Exs := [((.exit 0), ⟨[6], ⟨[.hole], [], [2], [.int .i64]⟩⟩), (.ret, ⟨[4, 5], ⟨[.hole, .hole], [], [2, 2], [.int .i64, .bool]⟩⟩)]
noncomputable def clause_rowsMay_u0_a : AC := .run
noncomputable def clause_rowsMay_u0 : Un := lpU clause_rowsMay_v.fz [15, 16, 17, 18, 8, 9, 20, 21, 22, 19, 23, 24, 10, 11, 25, 26, 27, 7, 28, 29, 30, 31, 32, 33, 34, 4, 5, 35, 36, 37, 38, 6, 39, 14] clause_rowsMay_u0_h clause_rowsMay_u0_e (lp clause_rowsMay_L0 fuel)
theorem clause_rowsMay_u0_s (f : clause_rowsMay_u0_h.X → Option (YT clause_rowsMay_u0_e)) (x : clause_rowsMay_u0_h.X) : E clause_rowsMay_v (subC (bodyOf Tryz.f89) [1, 1, 0, 1, 0, 0]) (clause_rowsMay_u0_a) (mkS clause_rowsMay_u0_h 8 x) (roundK clause_rowsMay_v.fz clause_rowsMay_u0_h clause_rowsMay_u0_e f) = clause_rowsMay_L0 f x := by kernel_rfl
theorem clause_rowsMay_u0_ok {X : Fx} (hX : VOk Tryz.prog X clause_rowsMay_v) : UnOk Tryz.prog X clause_rowsMay_v (subC (bodyOf Tryz.f89) [1, 1, 0, 1, 0]) clause_rowsMay_u0 :=
  lp_un' (c := (subC (bodyOf Tryz.f89) [1, 1, 0, 1, 0, 0])) (by kernel_rfl) (env_all tb_ok (clause_rowsMay_gs)) hord (ob := []) (by kernel_rfl) (fun X hX => obl_nil) (clause_rowsMay_u0_s) (by kernel_rfl) (by kernel_rfl) hX
noncomputable def clause_rowsMay_a : AC := (.seq .run (.seq .run (.seq (.seq .run (.block (.unit clause_rowsMay_u0))) .run)))
theorem clause_rowsMay_s (x : TupL clause_rowsMay_c.inp.hs) : E clause_rowsMay_v (bodyOf Tryz.f89) (clause_rowsMay_a) (clause_rowsMay_c.entry x) (retSK tb clause_rowsMay_v.fz clause_rowsMay_c [.tmp 4, .tmp 5] x) = clause_rowsMay_c.F x := by kernel_rfl
theorem clause_rowsMay_ok : ShOk Tryz.prog gl 89 clause_rowsMay_c :=
  fn_ok (l := clause_rowsMay_g) (n := Tryz.f89.ntmps) (code := bodyOf Tryz.f89) (rts := [.tmp 4, .tmp 5]) tb_ok hord (clause_rowsMay_gs) Tryz.func89 (by kernel_rfl) (by kernel_rfl) rfl (by kernel_rfl) (ac := clause_rowsMay_a) (ob := [((subC (bodyOf Tryz.f89) [1, 1, 0, 1, 0]), clause_rowsMay_u0)]) (by kernel_rfl) (fun X hX => (obl_cons (clause_rowsMay_u0_ok hX) obl_nil)) (by kernel_rfl) (clause_rowsMay_s)

noncomputable def clause_May_c : ShC := { inp := ⟨[.hole, (.agg [.hole, .hole, .hole])], [], [1, 1, 1, 1], [.sl tSym, .sl tLit, .sl (.one (.sl (.one (.int .i64)))), .sl tLit]⟩, out := ⟨[.hole], [], [2], [.bool]⟩, nres := 1, ms := [], mu := [], leak := false, glob := true, F := fun (x : ((List QSym) × (List QLit) × (List (List Int)) × (List QLit))) => clause_May x.1 x.2.1 x.2.2.1 x.2.2.2 }
-- clause.May
noncomputable def clause_May_g : List (Nat × Con) := [(32, .gen (altE [sign_May_c])), (88, .gen (altE [clause_litsMay_c])), (89, .gen (altE [clause_rowsMay_c]))]
noncomputable def clause_May_v : Env := envOf tb gl clause_May_g clause_May_c Tryz.f48.ntmps
theorem clause_May_gs : Goods Tryz.prog (cond clause_May_c.glob gl fun _ => none) clause_May_g := (goods_cons (good_alt (alls_cons sign_May_ok alls_nil)) (goods_cons (good_alt (alls_cons clause_litsMay_ok alls_nil)) (goods_cons (good_alt (alls_cons clause_rowsMay_ok alls_nil)) goods_nil)))
noncomputable def clause_May_a : AC := .run
theorem clause_May_s (x : TupL clause_May_c.inp.hs) : E clause_May_v (bodyOf Tryz.f48) (clause_May_a) (clause_May_c.entry x) (retSK tb clause_May_v.fz clause_May_c [.tmp 4] x) = clause_May_c.F x := by kernel_rfl
theorem clause_May_ok : ShOk Tryz.prog gl 48 clause_May_c :=
  fn_ok (l := clause_May_g) (n := Tryz.f48.ntmps) (code := bodyOf Tryz.f48) (rts := [.tmp 4]) tb_ok hord (clause_May_gs) Tryz.func48 (by kernel_rfl) (by kernel_rfl) rfl (by kernel_rfl) (ac := clause_May_a) (ob := []) (by kernel_rfl) (fun X hX => obl_nil) (by kernel_rfl) (clause_May_s)

noncomputable def ask_own_c1_c : ShC := { inp := ⟨[.hole, (.ptr 0 0)], [.cells true [.hole]], [1, 1], [.int .i64, .sl tSym]⟩, out := ⟨[.hole], [], [2], [.bool]⟩, nres := 1, ms := [], mu := [], leak := false, glob := false, F := fun (x : (Int × (List QSym))) => ask_own_c1 x.1 x.2 }
-- ask.own$1
noncomputable def ask_own_c1_g : List (Nat × Con) := []
noncomputable def ask_own_c1_v : Env := envOf tb gl ask_own_c1_g ask_own_c1_c Tryz.f91.ntmps
theorem ask_own_c1_gs : Goods Tryz.prog (cond ask_own_c1_c.glob gl fun _ => none) ask_own_c1_g := goods_nil
noncomputable def ask_own_c1_a : AC := .run
theorem ask_own_c1_s (x : TupL ask_own_c1_c.inp.hs) : E ask_own_c1_v (bodyOf Tryz.f91) (ask_own_c1_a) (ask_own_c1_c.entry x) (retSK tb ask_own_c1_v.fz ask_own_c1_c [.tmp 3] x) = ask_own_c1_c.F x := by kernel_rfl
theorem ask_own_c1_ok : ShOk Tryz.prog gl 91 ask_own_c1_c :=
  fn_ok (l := ask_own_c1_g) (n := Tryz.f91.ntmps) (code := bodyOf Tryz.f91) (rts := [.tmp 3]) tb_ok hord (ask_own_c1_gs) Tryz.func91 (by kernel_rfl) (by kernel_rfl) rfl (by kernel_rfl) (ac := ask_own_c1_a) (ob := []) (by kernel_rfl) (fun X hX => obl_nil) (by kernel_rfl) (ask_own_c1_s)

noncomputable def slices_IndexFunc_3_c : ShC := { inp := ⟨[.hole, (.clo 91 [(.ptr 0 0)])], [.cells true [.hole]], [1, 1], [.sl (.one (.int .i64)), .sl tSym]⟩, out := ⟨[.hole], [], [2], [.int .i64]⟩, nres := 1, ms := [], mu := [], leak := false, glob := false, F := fun (x : ((List Int) × (List QSym))) => slices_IndexFunc_3 x.1 x.2 }
-- slices.IndexFunc[[]int,int]
noncomputable def slices_IndexFunc_3_g : List (Nat × Con) := [(91, .gen (altE [ask_own_c1_c]))]
noncomputable def slices_IndexFunc_3_v : Env := envOf tb gl slices_IndexFunc_3_g slices_IndexFunc_3_c Tryz.f128.ntmps
theorem slices_IndexFunc_3_gs : Goods Tryz.prog (cond slices_IndexFunc_3_c.glob gl fun _ => none) slices_IndexFunc_3_g := (goods_cons (good_alt (alls_cons (ask_own_c1_ok.anyGl rfl) alls_nil)) goods_nil)
noncomputable def slices_IndexFunc_3_u0_h : SS := ⟨[0, 1, 7, 8], ⟨[.hole, (.clo 91 [(.ptr 0 0)]), .hole, .hole], [.cells true [.hole]], [1, 2, 2, 1], [.sl (.one (.int .i64)), .int .i64, .int .i64, .sl tSym]⟩⟩
noncomputable def slices_IndexFunc_3_u0_e : Exs := [((.exit 0), ⟨[], ⟨[], [], [], []⟩⟩), (.ret, ⟨[4], ⟨[.hole], [], [2], [.int .i64]⟩⟩)]
noncomputable def slices_IndexFunc_3_u0_a : AC := .run
noncomputable def slices_IndexFunc_3_u0 : Un := lpU slices_IndexFunc_3_v.fz [9, 10, 5, 11, 12, 13, 14, 15, 16, 17, 4, 18, 8] slices_IndexFunc_3_u0_h slices_IndexFunc_3_u0_e (lp slices_IndexFunc_3_L0 fuel)
theorem slices_IndexFunc_3_u0_s (f : slices_IndexFunc_3_u0_h.X → Option (YT slices_IndexFunc_3_u0_e)) (x : slices_IndexFunc_3_u0_h.X) : E slices_IndexFunc_3_v (subC (bodyOf Tryz.f128) [1, 0, 1, 0, 0]) (slices_IndexFunc_3_u0_a) (mkS slices_IndexFunc_3_u0_h 8 x) (roundK slices_IndexFunc_3_v.fz slices_IndexFunc_3_u0_h slices_IndexFunc_3_u0_e f) = slices_IndexFunc_3_L0 f x := by kernel_rfl
theorem slices_IndexFunc_3_u0_ok {X : Fx} (hX : VOk Tryz.prog X slices_IndexFunc_3_v) : UnOk Tryz.prog X slices_IndexFunc_3_v (subC (bodyOf Tryz.f128) [1, 0, 1, 0]) slices_IndexFunc_3_u0 :=
  lp_un' (c := (subC (bodyOf Tryz.f128) [1, 0, 1, 0, 0])) (by kernel_rfl) (env_all tb_ok (slices_IndexFunc_3_gs)) hord (ob := []) (by kernel_rfl) (fun X hX => obl_nil) (slices_IndexFunc_3_u0_s) (by kernel_rfl) (by kernel_rfl) hX
noncomputable def slices_IndexFunc_3_a : AC := (.seq .run (.seq (.seq .run (.block (.unit slices_IndexFunc_3_u0))) .run))
theorem slices_IndexFunc_3_s (x : TupL slices_IndexFunc_3_c.inp.hs) : E slices_IndexFunc_3_v (bodyOf Tryz.f128) (slices_IndexFunc_3_a) (slices_IndexFunc_3_c.entry x) (retSK tb slices_IndexFunc_3_v.fz slices_IndexFunc_3_c [.tmp 4] x) = slices_IndexFunc_3_c.F x := by kernel_rfl
theorem slices_IndexFunc_3_ok : ShOk Tryz.prog gl 128 slices_IndexFunc_3_c :=
  fn_ok (l := slices_IndexFunc_3_g) (n := Tryz.f128.ntmps) (code := bodyOf Tryz.f128) (rts := [.tmp 4]) tb_ok hord (slices_IndexFunc_3_gs) Tryz.func128 (by kernel_rfl) (by kernel_rfl) rfl (by kernel_rfl) (ac := slices_IndexFunc_3_a) (ob := [((subC (bodyOf Tryz.f128) [1, 0, 1, 0]), slices_IndexFunc_3_u0)]) (by kernel_rfl) (fun X hX => (obl_cons (slices_IndexFunc_3_u0_ok hX) obl_nil)) (by kernel_rfl) (slices_IndexFunc_3_s)

noncomputable def slices_ContainsFunc_3_c : ShC := { inp := ⟨[.hole, (.clo 91 [(.ptr 0 0)])], [.cells true [.hole]], [1, 1], [.sl (.one (.int .i64)), .sl tSym]⟩, out := ⟨[.hole], [], [2], [.bool]⟩, nres := 1, ms := [], mu := [], leak := false, glob := false, F := fun (x : ((List Int) × (List QSym))) => slices_ContainsFunc_3 x.1 x.2 }
-- slices.ContainsFunc[[]int,int]
noncomputable def slices_ContainsFunc_3_g : List (Nat × Con) := [(128, .gen (altE [slices_IndexFunc_3_c]))]
noncomputable def slices_ContainsFunc_3_v : Env := envOf tb gl slices_ContainsFunc_3_g slices_ContainsFunc_3_c Tryz.f90.ntmps
theorem slices_ContainsFunc_3_gs : Goods Tryz.prog (cond slices_ContainsFunc_3_c.glob gl fun _ => none) slices_ContainsFunc_3_g := (goods_cons (good_alt (alls_cons (slices_IndexFunc_3_ok.anyGl rfl) alls_nil)) goods_nil)
noncomputable def slices_ContainsFunc_3_a : AC := .run
theorem slices_ContainsFunc_3_s (x : TupL slices_ContainsFunc_3_c.inp.hs) : E slices_ContainsFunc_3_v (bodyOf Tryz.f90) (slices_ContainsFunc_3_a) (slices_ContainsFunc_3_c.entry x) (retSK tb slices_ContainsFunc_3_v.fz slices_ContainsFunc_3_c [.tmp 4] x) = slices_ContainsFunc_3_c.F x := by kernel_rfl
theorem slices_ContainsFunc_3_ok : ShOk Tryz.prog gl 90 slices_ContainsFunc_3_c :=
  fn_ok (l := slices_ContainsFunc_3_g) (n := Tryz.f90.ntmps) (code := bodyOf Tryz.f90) (rts := [.tmp 4]) tb_ok hord (slices_ContainsFunc_3_gs) Tryz.func90 (by kernel_rfl) (by kernel_rfl) rfl (by kernel_rfl) (ac := slices_ContainsFunc_3_a) (ob := []) (by kernel_rfl) (fun X hX => obl_nil) (by kernel_rfl) (slices_ContainsFunc_3_s)

noncomputable def ask_own_c : ShC := { inp := ⟨[.hole, .hole], [], [1, 1], [.sl tSym, .sl (.one (.int .i64))]⟩, out := ⟨[.hole], [], [2], [.bool]⟩, nres := 1, ms := [], mu := [], leak := false, glob := false, F := fun (x : ((List QSym) × (List Int))) => ask_own x.1 x.2 }
-- ask.own
noncomputable def ask_own_g : List (Nat × Con) := [(90, .gen (altE [slices_ContainsFunc_3_c]))]
noncomputable def ask_own_v : Env := envOf tb gl ask_own_g ask_own_c Tryz.f50.ntmps
theorem ask_own_gs : Goods Tryz.prog (cond ask_own_c.glob gl fun _ => none) ask_own_g := (goods_cons (good_alt (alls_cons (slices_ContainsFunc_3_ok.anyGl rfl) alls_nil)) goods_nil)
noncomputable def ask_own_a : AC := .run
theorem ask_own_s (x : TupL ask_own_c.inp.hs) : E ask_own_v (bodyOf Tryz.f50) (ask_own_a) (ask_own_c.entry x) (retSK tb ask_own_v.fz ask_own_c [.tmp 4] x) = ask_own_c.F x := by kernel_rfl
theorem ask_own_ok : ShOk Tryz.prog gl 50 ask_own_c :=
  fn_ok (l := ask_own_g) (n := Tryz.f50.ntmps) (code := bodyOf Tryz.f50) (rts := [.tmp 4]) tb_ok hord (ask_own_gs) Tryz.func50 (by kernel_rfl) (by kernel_rfl) rfl (by kernel_rfl) (ac := ask_own_a) (ob := []) (by kernel_rfl) (fun X hX => obl_nil) (by kernel_rfl) (ask_own_s)

noncomputable def ask_Fine_c1_c : ShC := { inp := ⟨[.hole, (.ptr 0 0)], [.cells true [.hole]], [1, 1], [.sl (.one (.int .i64)), .sl tSym]⟩, out := ⟨[.hole], [], [2], [.bool]⟩, nres := 1, ms := [], mu := [], leak := false, glob := false, F := fun (x : ((List Int) × (List QSym))) => ask_Fine_c1 x.1 x.2 }
-- ask.Fine$1
noncomputable def ask_Fine_c1_g : List (Nat × Con) := [(50, .gen (altE [ask_own_c]))]
noncomputable def ask_Fine_c1_v : Env := envOf tb gl ask_Fine_c1_g ask_Fine_c1_c Tryz.f49.ntmps
theorem ask_Fine_c1_gs : Goods Tryz.prog (cond ask_Fine_c1_c.glob gl fun _ => none) ask_Fine_c1_g := (goods_cons (good_alt (alls_cons (ask_own_ok.anyGl rfl) alls_nil)) goods_nil)
noncomputable def ask_Fine_c1_a : AC := .run
theorem ask_Fine_c1_s (x : TupL ask_Fine_c1_c.inp.hs) : E ask_Fine_c1_v (bodyOf Tryz.f49) (ask_Fine_c1_a) (ask_Fine_c1_c.entry x) (retSK tb ask_Fine_c1_v.fz ask_Fine_c1_c [.tmp 3] x) = ask_Fine_c1_c.F x := by kernel_rfl
theorem ask_Fine_c1_ok : ShOk Tryz.prog gl 49 ask_Fine_c1_c :=
  fn_ok (l := ask_Fine_c1_g) (n := Tryz.f49.ntmps) (code := bodyOf Tryz.f49) (rts := [.tmp 3]) tb_ok hord (ask_Fine_c1_gs) Tryz.func49 (by kernel_rfl) (by kernel_rfl) rfl (by kernel_rfl) (ac := ask_Fine_c1_a) (ob := []) (by kernel_rfl) (fun X hX => obl_nil) (by kernel_rfl) (ask_Fine_c1_s)

noncomputable def slices_IndexFunc_2_c : ShC := { inp := ⟨[.hole, (.clo 49 [(.ptr 0 0)])], [.cells true [.hole]], [1, 1], [.sl (.one (.sl (.one (.int .i64)))), .sl tSym]⟩, out := ⟨[.hole], [], [2], [.int .i64]⟩, nres := 1, ms := [], mu := [], leak := false, glob := false, F := fun (x : ((List (List Int)) × (List QSym))) => slices_IndexFunc_2 x.1 x.2 }
-- slices.IndexFunc[[][]int,[]int]
noncomputable def slices_IndexFunc_2_g : List (Nat × Con) := [(49, .gen (altE [ask_Fine_c1_c]))]
noncomputable def slices_IndexFunc_2_v : Env := envOf tb gl slices_IndexFunc_2_g slices_IndexFunc_2_c Tryz.f92.ntmps
theorem slices_IndexFunc_2_gs : Goods Tryz.prog (cond slices_IndexFunc_2_c.glob gl fun _ => none) slices_IndexFunc_2_g := (goods_cons (good_alt (alls_cons (ask_Fine_c1_ok.anyGl rfl) alls_nil)) goods_nil)
noncomputable def slices_IndexFunc_2_u0_h : SS := ⟨[0, 1, 7, 8], ⟨[.hole, (.clo 49 [(.ptr 0 0)]), .hole, .hole], [.cells true [.hole]], [1, 2, 2, 1], [.sl (.one (.sl (.one (.int .i64)))), .int .i64, .int .i64, .sl tSym]⟩⟩
noncomputable def slices_IndexFunc_2_u0_e : Exs := [((.exit 0), ⟨[], ⟨[], [], [], []⟩⟩), (.ret, ⟨[4], ⟨[.hole], [], [2], [.int .i64]⟩⟩)]
noncomputable def slices_IndexFunc_2_u0_a : AC := .run
noncomputable def slices_IndexFunc_2_u0 : Un := lpU slices_IndexFunc_2_v.fz [9, 10, 5, 11, 12, 13, 14, 15, 16, 17, 4, 18, 8] slices_IndexFunc_2_u0_h slices_IndexFunc_2_u0_e (lp slices_IndexFunc_2_L0 fuel)
theorem slices_IndexFunc_2_u0_s (f : slices_IndexFunc_2_u0_h.X → Option (YT slices_IndexFunc_2_u0_e)) (x : slices_IndexFunc_2_u0_h.X) : E slices_IndexFunc_2_v (subC (bodyOf Tryz.f92) [1, 0, 1, 0, 0]) (slices_IndexFunc_2_u0_a) (mkS slices_IndexFunc_2_u0_h 8 x) (roundK slices_IndexFunc_2_v.fz slices_IndexFunc_2_u0_h slices_IndexFunc_2_u0_e f) = slices_IndexFunc_2_L0 f x := by kernel_rfl
theorem slices_IndexFunc_2_u0_ok {X : Fx} (hX : VOk Tryz.prog X slices_IndexFunc_2_v) : UnOk Tryz.prog X slices_IndexFunc_2_v (subC (bodyOf Tryz.f92) [1, 0, 1, 0]) slices_IndexFunc_2_u0 :=
  lp_un' (c := (subC (bodyOf Tryz.f92) [1, 0, 1, 0, 0])) (by kernel_rfl) (env_all tb_ok (slices_IndexFunc_2_gs)) hord (ob := []) (by kernel_rfl) (fun X hX => obl_nil) (slices_IndexFunc_2_u0_s) (by kernel_rfl) (by kernel_rfl) hX
noncomputable def slices_IndexFunc_2_a : AC := (.seq .run (.seq (.seq .run (.block (.unit slices_IndexFunc_2_u0))) .run))
theorem slices_IndexFunc_2_s (x : TupL slices_IndexFunc_2_c.inp.hs) : E slices_IndexFunc_2_v (bodyOf Tryz.f92) (slices_IndexFunc_2_a) (slices_IndexFunc_2_c.entry x) (retSK tb slices_IndexFunc_2_v.fz slices_IndexFunc_2_c [.tmp 4] x) = slices_IndexFunc_2_c.F x := by kernel_rfl
theorem slices_IndexFunc_2_ok : ShOk Tryz.prog gl 92 slices_IndexFunc_2_c :=
  fn_ok (l := slices_IndexFunc_2_g) (n := Tryz.f92.ntmps) (code := bodyOf Tryz.f92) (rts := [.tmp 4]) tb_ok hord (slices_IndexFunc_2_gs) Tryz.func92 (by kernel_rfl) (by kernel_rfl) rfl (by kernel_rfl) (ac := slices_IndexFunc_2_a) (ob := [((subC (bodyOf Tryz.f92) [1, 0, 1, 0]), slices_IndexFunc_2_u0)]) (by kernel_rfl) (fun X hX => (obl_cons (slices_IndexFunc_2_u0_ok hX) obl_nil)) (by kernel_rfl) (slices_IndexFunc_2_s)

noncomputable def slices_ContainsFunc_2_c : ShC := { inp := ⟨[.hole, (.clo 49 [(.ptr 0 0)])], [.cells true [.hole]], [1, 1], [.sl (.one (.sl (.one (.int .i64)))), .sl tSym]⟩, out := ⟨[.hole], [], [2], [.bool]⟩, nres := 1, ms := [], mu := [], leak := false, glob := false, F := fun (x : ((List (List Int)) × (List QSym))) => slices_ContainsFunc_2 x.1 x.2 }
-- slices.ContainsFunc[[][]int,[]int]
noncomputable def slices_ContainsFunc_2_g : List (Nat × Con) := [(92, .gen (altE [slices_IndexFunc_2_c]))]
noncomputable def slices_ContainsFunc_2_v : Env := envOf tb gl slices_ContainsFunc_2_g slices_ContainsFunc_2_c Tryz.f51.ntmps
theorem slices_ContainsFunc_2_gs : Goods Tryz.prog (cond slices_ContainsFunc_2_c.glob gl fun _ => none) slices_ContainsFunc_2_g := (goods_cons (good_alt (alls_cons (slices_IndexFunc_2_ok.anyGl rfl) alls_nil)) goods_nil)
noncomputable def slices_ContainsFunc_2_a : AC := .run
theorem slices_ContainsFunc_2_s (x : TupL slices_ContainsFunc_2_c.inp.hs) : E slices_ContainsFunc_2_v (bodyOf Tryz.f51) (slices_ContainsFunc_2_a) (slices_ContainsFunc_2_c.entry x) (retSK tb slices_ContainsFunc_2_v.fz slices_ContainsFunc_2_c [.tmp 4] x) = slices_ContainsFunc_2_c.F x := by kernel_rfl
theorem slices_ContainsFunc_2_ok : ShOk Tryz.prog gl 51 slices_ContainsFunc_2_c :=
  fn_ok (l := slices_ContainsFunc_2_g) (n := Tryz.f51.ntmps) (code := bodyOf Tryz.f51) (rts := [.tmp 4]) tb_ok hord (slices_ContainsFunc_2_gs) Tryz.func51 (by kernel_rfl) (by kernel_rfl) rfl (by kernel_rfl) (ac := slices_ContainsFunc_2_a) (ob := []) (by kernel_rfl) (fun X hX => obl_nil) (by kernel_rfl) (slices_ContainsFunc_2_s)

noncomputable def ask_Fine_c2_c : ShC := { inp := ⟨[(.agg [.hole, .hole]), (.ptr 0 0)], [.cells true [(.clo 49 [(.ptr 1 0)])], .cells true [.hole]], [1, 1, 1], [.bool, .sl (.one (.int .i64)), .sl tSym]⟩, out := ⟨[.hole], [], [2], [.bool]⟩, nres := 1, ms := [], mu := [], leak := false, glob := false, F := fun (x : (Bool × (List Int) × (List QSym))) => ask_Fine_c2 x.1 x.2.1 x.2.2 }
-- ask.Fine$2
noncomputable def ask_Fine_c2_g : List (Nat × Con) := [(49, .gen (altE [ask_Fine_c1_c]))]
noncomputable def ask_Fine_c2_v : Env := envOf tb gl ask_Fine_c2_g ask_Fine_c2_c Tryz.f53.ntmps
theorem ask_Fine_c2_gs : Goods Tryz.prog (cond ask_Fine_c2_c.glob gl fun _ => none) ask_Fine_c2_g := (goods_cons (good_alt (alls_cons (ask_Fine_c1_ok.anyGl rfl) alls_nil)) goods_nil)
noncomputable def ask_Fine_c2_a : AC := .run
theorem ask_Fine_c2_s (x : TupL ask_Fine_c2_c.inp.hs) : E ask_Fine_c2_v (bodyOf Tryz.f53) (ask_Fine_c2_a) (ask_Fine_c2_c.entry x) (retSK tb ask_Fine_c2_v.fz ask_Fine_c2_c [.tmp 3] x) = ask_Fine_c2_c.F x := by kernel_rfl
theorem ask_Fine_c2_ok : ShOk Tryz.prog gl 53 ask_Fine_c2_c :=
  fn_ok (l := ask_Fine_c2_g) (n := Tryz.f53.ntmps) (code := bodyOf Tryz.f53) (rts := [.tmp 3]) tb_ok hord (ask_Fine_c2_gs) Tryz.func53 (by kernel_rfl) (by kernel_rfl) rfl (by kernel_rfl) (ac := ask_Fine_c2_a) (ob := []) (by kernel_rfl) (fun X hX => obl_nil) (by kernel_rfl) (ask_Fine_c2_s)

noncomputable def slices_IndexFunc_4_c : ShC := { inp := ⟨[.hole, (.clo 53 [(.ptr 0 0)])], [.cells true [(.clo 49 [(.ptr 1 0)])], .cells true [.hole]], [1, 1], [.sl tLit, .sl tSym]⟩, out := ⟨[.hole], [], [2], [.int .i64]⟩, nres := 1, ms := [], mu := [], leak := false, glob := false, F := fun (x : ((List QLit) × (List QSym))) => slices_IndexFunc_4 x.1 x.2 }
-- slices.IndexFunc[[]api.Lit,api.Lit]
noncomputable def slices_IndexFunc_4_g : List (Nat × Con) := [(53, .gen (altE [ask_Fine_c2_c]))]
noncomputable def slices_IndexFunc_4_v : Env := envOf tb gl slices_IndexFunc_4_g slices_IndexFunc_4_c Tryz.f93.ntmps
theorem slices_IndexFunc_4_gs : Goods Tryz.prog (cond slices_IndexFunc_4_c.glob gl fun _ => none) slices_IndexFunc_4_g := (goods_cons (good_alt (alls_cons (ask_Fine_c2_ok.anyGl rfl) alls_nil)) goods_nil)
noncomputable def slices_IndexFunc_4_u0_h : SS := ⟨[0, 1, 7, 8], ⟨[.hole, (.clo 53 [(.ptr 0 0)]), .hole, .hole], [.cells true [(.clo 49 [(.ptr 1 0)])], .cells true [.hole]], [1, 2, 2, 1], [.sl tLit, .int .i64, .int .i64, .sl tSym]⟩⟩
noncomputable def slices_IndexFunc_4_u0_e : Exs := [((.exit 0), ⟨[], ⟨[], [], [], []⟩⟩), (.ret, ⟨[4], ⟨[.hole], [], [2], [.int .i64]⟩⟩)]
noncomputable def slices_IndexFunc_4_u0_a : AC := .run
noncomputable def slices_IndexFunc_4_u0 : Un := lpU slices_IndexFunc_4_v.fz [9, 10, 5, 11, 12, 13, 14, 15, 16, 17, 4, 18, 8] slices_IndexFunc_4_u0_h slices_IndexFunc_4_u0_e (lp slices_IndexFunc_4_L0 fuel)
theorem slices_IndexFunc_4_u0_s (f : slices_IndexFunc_4_u0_h.X → Option (YT slices_IndexFunc_4_u0_e)) (x : slices_IndexFunc_4_u0_h.X) : E slices_IndexFunc_4_v (subC (bodyOf Tryz.f93) [1, 0, 1, 0, 0]) (slices_IndexFunc_4_u0_a) (mkS slices_IndexFunc_4_u0_h 8 x) (roundK slices_IndexFunc_4_v.fz slices_IndexFunc_4_u0_h slices_IndexFunc_4_u0_e f) = slices_IndexFunc_4_L0 f x := by kernel_rfl
theorem slices_IndexFunc_4_u0_ok {X : Fx} (hX : VOk Tryz.prog X slices_IndexFunc_4_v) : UnOk Tryz.prog X slices_IndexFunc_4_v (subC (bodyOf Tryz.f93) [1, 0, 1, 0]) slices_IndexFunc_4_u0 :=
  lp_un' (c := (subC (bodyOf Tryz.f93) [1, 0, 1, 0, 0])) (by kernel_rfl) (env_all tb_ok (slices_IndexFunc_4_gs)) hord (ob := []) (by kernel_rfl) (fun X hX => obl_nil) (slices_IndexFunc_4_u0_s) (by kernel_rfl) (by kernel_rfl) hX
noncomputable def slices_IndexFunc_4_a : AC := (.seq .run (.seq (.seq .run (.block (.unit slices_IndexFunc_4_u0))) .run))
theorem slices_IndexFunc_4_s (x : TupL slices_IndexFunc_4_c.inp.hs) : E slices_IndexFunc_4_v (bodyOf Tryz.f93) (slices_IndexFunc_4_a) (slices_IndexFunc_4_c.entry x) (retSK tb slices_IndexFunc_4_v.fz slices_IndexFunc_4_c [.tmp 4] x) = slices_IndexFunc_4_c.F x := by kernel_rfl
theorem slices_IndexFunc_4_ok : ShOk Tryz.prog gl 93 slices_IndexFunc_4_c :=
  fn_ok (l := slices_IndexFunc_4_g) (n := Tryz.f93.ntmps) (code := bodyOf Tryz.f93) (rts := [.tmp 4]) tb_ok hord (slices_IndexFunc_4_gs) Tryz.func93 (by kernel_rfl) (by kernel_rfl) rfl (by kernel_rfl) (ac := slices_IndexFunc_4_a) (ob := [((subC (bodyOf Tryz.f93) [1, 0, 1, 0]), slices_IndexFunc_4_u0)]) (by kernel_rfl) (fun X hX => (obl_cons (slices_IndexFunc_4_u0_ok hX) obl_nil)) (by kernel_rfl) (slices_IndexFunc_4_s)

noncomputable def slices_ContainsFunc_4_c : ShC := { inp := ⟨[.hole, (.clo 53 [(.ptr 0 0)])], [.cells true [(.clo 49 [(.ptr 1 0)])], .cells true [.hole]], [1, 1], [.sl tLit, .sl tSym]⟩, out := ⟨[.hole], [], [2], [.bool]⟩, nres := 1, ms := [], mu := [], leak := false, glob := false, F := fun (x : ((List QLit) × (List QSym))) => slices_ContainsFunc_4 x.1 x.2 }
-- slices.ContainsFunc[[]api.Lit,api.Lit]
noncomputable def slices_ContainsFunc_4_g : List (Nat × Con) := [(93, .gen (altE [slices_IndexFunc_4_c]))]
noncomputable def slices_ContainsFunc_4_v : Env := envOf tb gl slices_ContainsFunc_4_g slices_ContainsFunc_4_c Tryz.f52.ntmps
theorem slices_ContainsFunc_4_gs : Goods Tryz.prog (cond slices_ContainsFunc_4_c.glob gl fun _ => none) slices_ContainsFunc_4_g := (goods_cons (good_alt (alls_cons (slices_IndexFunc_4_ok.anyGl rfl) alls_nil)) goods_nil)
noncomputable def slices_ContainsFunc_4_a : AC := .run
theorem slices_ContainsFunc_4_s (x : TupL slices_ContainsFunc_4_c.inp.hs) : E slices_ContainsFunc_4_v (bodyOf Tryz.f52) (slices_ContainsFunc_4_a) (slices_ContainsFunc_4_c.entry x) (retSK tb slices_ContainsFunc_4_v.fz slices_ContainsFunc_4_c [.tmp 4] x) = slices_ContainsFunc_4_c.F x := by kernel_rfl
theorem slices_ContainsFunc_4_ok : ShOk Tryz.prog gl 52 slices_ContainsFunc_4_c :=
  fn_ok (l := slices_ContainsFunc_4_g) (n := Tryz.f52.ntmps) (code := bodyOf Tryz.f52) (rts := [.tmp 4]) tb_ok hord (slices_ContainsFunc_4_gs) Tryz.func52 (by kernel_rfl) (by kernel_rfl) rfl (by kernel_rfl) (ac := slices_ContainsFunc_4_a) (ob := []) (by kernel_rfl) (fun X hX => obl_nil) (by kernel_rfl) (slices_ContainsFunc_4_s)

noncomputable def ask_Fine_c : ShC := { inp := ⟨[.hole, (.agg [.hole, .hole, .hole])], [], [1, 1, 1, 1], [.sl tSym, .sl tLit, .sl (.one (.sl (.one (.int .i64)))), .sl tLit]⟩, out := ⟨[.hole, .hole], [], [2, 2], [.bool, .int .i64]⟩, nres := 2, ms := [], mu := [], leak := false, glob := true, F := fun (x : ((List QSym) × (List QLit) × (List (List Int)) × (List QLit))) => ask_Fine x.1 x.2.1 x.2.2.1 x.2.2.2 }
-- ask.Fine
noncomputable def ask_Fine_g : List (Nat × Con) := [(48, .gen (altE [clause_May_c])), (51, .gen (altE [slices_ContainsFunc_2_c])), (52, .gen (altE [slices_ContainsFunc_4_c]))]
noncomputable def ask_Fine_v : Env := envOf tb gl ask_Fine_g ask_Fine_c Tryz.f18.ntmps
theorem ask_Fine_gs : Goods Tryz.prog (cond ask_Fine_c.glob gl fun _ => none) ask_Fine_g := (goods_cons (good_alt (alls_cons clause_May_ok alls_nil)) (goods_cons (good_alt (alls_cons (slices_ContainsFunc_2_ok.anyGl rfl) alls_nil)) (goods_cons (good_alt (alls_cons (slices_ContainsFunc_4_ok.anyGl rfl) alls_nil)) goods_nil)))
noncomputable def ask_Fine_a : AC := .run
theorem ask_Fine_s (x : TupL ask_Fine_c.inp.hs) : E ask_Fine_v (bodyOf Tryz.f18) (ask_Fine_a) (ask_Fine_c.entry x) (retSK tb ask_Fine_v.fz ask_Fine_c [.tmp 4, .tmp 5] x) = ask_Fine_c.F x := by kernel_rfl
theorem ask_Fine_ok : ShOk Tryz.prog gl 18 ask_Fine_c :=
  fn_ok (l := ask_Fine_g) (n := Tryz.f18.ntmps) (code := bodyOf Tryz.f18) (rts := [.tmp 4, .tmp 5]) tb_ok hord (ask_Fine_gs) Tryz.func18 (by kernel_rfl) (by kernel_rfl) rfl (by kernel_rfl) (ac := ask_Fine_a) (ob := []) (by kernel_rfl) (fun X hX => obl_nil) (by kernel_rfl) (ask_Fine_s)

noncomputable def ref1_small_c : ShC := { inp := ⟨[.hole], [], [1], [.int .u8]⟩, out := ⟨[.hole], [], [2], [.bool]⟩, nres := 1, ms := [], mu := [], leak := false, glob := false, F := fun (x : Int) => ref1_small x }
-- quaereref1.small
noncomputable def ref1_small_g : List (Nat × Con) := []
noncomputable def ref1_small_v : Env := envOf tb gl ref1_small_g ref1_small_c Tryz.f122.ntmps
theorem ref1_small_gs : Goods Tryz.prog (cond ref1_small_c.glob gl fun _ => none) ref1_small_g := goods_nil
noncomputable def ref1_small_a : AC := .run
theorem ref1_small_s (x : TupL ref1_small_c.inp.hs) : E ref1_small_v (bodyOf Tryz.f122) (ref1_small_a) (ref1_small_c.entry x) (retSK tb ref1_small_v.fz ref1_small_c [.tmp 2] x) = ref1_small_c.F x := by kernel_rfl
theorem ref1_small_ok : ShOk Tryz.prog gl 122 ref1_small_c :=
  fn_ok (l := ref1_small_g) (n := Tryz.f122.ntmps) (code := bodyOf Tryz.f122) (rts := [.tmp 2]) tb_ok hord (ref1_small_gs) Tryz.func122 (by kernel_rfl) (by kernel_rfl) rfl (by kernel_rfl) (ac := ref1_small_a) (ob := []) (by kernel_rfl) (fun X hX => obl_nil) (by kernel_rfl) (ref1_small_s)

noncomputable def ref1_SymMay_c : ShC := { inp := ⟨[(.agg [.hole, .hole, .hole, .hole])], [], [1, 1, 1, 1], [.str, .int .i64, .int .i64, .int .i64]⟩, out := ⟨[.hole], [], [2], [.bool]⟩, nres := 1, ms := [], mu := [], leak := false, glob := false, F := fun (x : QSym) => ref1_SymMay x.1 x.2.1 x.2.2.1 x.2.2.2 }
-- quaereref1.SymMay
noncomputable def ref1_SymMay_g : List (Nat × Con) := [(122, .gen (altE [ref1_small_c]))]
noncomputable def ref1_SymMay_v : Env := envOf tb gl ref1_SymMay_g ref1_SymMay_c Tryz.f78.ntmps
theorem ref1_SymMay_gs : Goods Tryz.prog (cond ref1_SymMay_c.glob gl fun _ => none) ref1_SymMay_g := (goods_cons (good_alt (alls_cons (ref1_small_ok.anyGl rfl) alls_nil)) goods_nil)
noncomputable def ref1_SymMay_u0_h : SS := ⟨[1, 3], ⟨[(.ptr 0 0), .hole], [.cells true [.hole, .hole, .hole, .hole]], [2, 2, 2, 2, 2], [.int .i64, .str, .int .i64, .int .i64, .int .i64]⟩⟩
noncomputable def ref1_SymMay_u0_e : Exs := [((.exit 0), ⟨[], ⟨[], [], [], []⟩⟩), (.ret, ⟨[2], ⟨[.hole], [], [2], [.bool]⟩⟩)]
noncomputable def ref1_SymMay_u0_a : AC := .run
noncomputable def ref1_SymMay_u0 : Un := lpU ref1_SymMay_v.fz [21, 22, 23, 24, 25, 28, 29, 30, 31, 32, 33, 34, 35, 36, 37, 38, 39, 40, 41, 42, 43, 44, 45, 46, 47, 2, 26, 27, 3] ref1_SymMay_u0_h ref1_SymMay_u0_e (lp ref1_SymMay_L0 fuel)
theorem ref1_SymMay_u0_s (f : ref1_SymMay_u0_h.X → Option (YT ref1_SymMay_u0_e)) (x : ref1_SymMay_u0_h.X) : E ref1_SymMay_v (subC (bodyOf Tryz.f78) [1, 1, 0, 1, 0, 0]) (ref1_SymMay_u0_a) (mkS ref1_SymMay_u0_h 8 x) (roundK ref1_SymMay_v.fz ref1_SymMay_u0_h ref1_SymMay_u0_e f) = ref1_SymMay_L0 f x := by kernel_rfl
theorem ref1_SymMay_u0_ok {X : Fx} (hX : VOk Tryz.prog X ref1_SymMay_v) : UnOk Tryz.prog X ref1_SymMay_v (subC (bodyOf Tryz.f78) [1, 1, 0, 1, 0]) ref1_SymMay_u0 :=
  lp_un' (c := (subC (bodyOf Tryz.f78) [1, 1, 0, 1, 0, 0])) (by kernel_rfl) (env_all tb_ok (ref1_SymMay_gs)) hord (ob := []) (by kernel_rfl) (fun X hX => obl_nil) (ref1_SymMay_u0_s) (by kernel_rfl) (by kernel_rfl) hX
noncomputable def ref1_SymMay_a : AC := (.seq .run (.seq .run (.seq (.seq .run (.block (.unit ref1_SymMay_u0))) .run)))
theorem ref1_SymMay_s (x : TupL ref1_SymMay_c.inp.hs) : E ref1_SymMay_v (bodyOf Tryz.f78) (ref1_SymMay_a) (ref1_SymMay_c.entry x) (retSK tb ref1_SymMay_v.fz ref1_SymMay_c [.tmp 2] x) = ref1_SymMay_c.F x := by kernel_rfl
theorem ref1_SymMay_ok : ShOk Tryz.prog gl 78 ref1_SymMay_c :=
  fn_ok (l := ref1_SymMay_g) (n := Tryz.f78.ntmps) (code := bodyOf Tryz.f78) (rts := [.tmp 2]) tb_ok hord (ref1_SymMay_gs) Tryz.func78 (by kernel_rfl) (by kernel_rfl) rfl (by kernel_rfl) (ac := ref1_SymMay_a) (ob := [((subC (bodyOf Tryz.f78) [1, 1, 0, 1, 0]), ref1_SymMay_u0)]) (by kernel_rfl) (fun X hX => (obl_cons (ref1_SymMay_u0_ok hX) obl_nil)) (by kernel_rfl) (ref1_SymMay_s)

noncomputable def ref1_Code_c : ShC := { inp := ⟨[.hole, .hole], [], [1, 1], [.sl tSym, .str]⟩, out := ⟨[.hole], [], [2], [.int .i64]⟩, nres := 1, ms := [], mu := [], leak := false, glob := false, F := fun (x : ((List QSym) × Str)) => ref1_Code x.1 x.2 }
-- quaereref1.Code
noncomputable def ref1_Code_g : List (Nat × Con) := []
noncomputable def ref1_Code_v : Env := envOf tb gl ref1_Code_g ref1_Code_c Tryz.f79.ntmps
theorem ref1_Code_gs : Goods Tryz.prog (cond ref1_Code_c.glob gl fun _ => none) ref1_Code_g := goods_nil
noncomputable def ref1_Code_u0_h : SS := ⟨[0, 1, 5], ⟨[.hole, .hole, .hole], [], [1, 2, 2], [.sl tSym, .str, .int .i64]⟩⟩
noncomputable def ref1_Code_u0_e : Exs := [((.exit 0), ⟨[], ⟨[], [], [], []⟩⟩), (.ret, ⟨[4], ⟨[.hole], [], [2], [.int .i64]⟩⟩)]
noncomputable def ref1_Code_u0_a : AC := .run
noncomputable def ref1_Code_u0 : Un := lpU ref1_Code_v.fz [6, 7, 8, 9, 12, 13, 14, 15, 16, 17, 18, 19, 4, 10, 11, 5] ref1_Code_u0_h ref1_Code_u0_e (lp ref1_Code_L0 fuel)
theorem ref1_Code_u0_s (f : ref1_Code_u0_h.X → Option (YT ref1_Code_u0_e)) (x : ref1_Code_u0_h.X) : E ref1_Code_v (subC (bodyOf Tryz.f79) [1, 0, 1, 0, 0]) (ref1_Code_u0_a) (mkS ref1_Code_u0_h 8 x) (roundK ref1_Code_v.fz ref1_Code_u0_h ref1_Code_u0_e f) = ref1_Code_L0 f x := by kernel_rfl
theorem ref1_Code_u0_ok {X : Fx} (hX : VOk Tryz.prog X ref1_Code_v) : UnOk Tryz.prog X ref1_Code_v (subC (bodyOf Tryz.f79) [1, 0, 1, 0]) ref1_Code_u0 :=
  lp_un' (c := (subC (bodyOf Tryz.f79) [1, 0, 1, 0, 0])) (by kernel_rfl) (env_all tb_ok (ref1_Code_gs)) hord (ob := []) (by kernel_rfl) (fun X hX => obl_nil) (ref1_Code_u0_s) (by kernel_rfl) (by kernel_rfl) hX
noncomputable def ref1_Code_a : AC := (.seq .run (.seq (.seq .run (.block (.unit ref1_Code_u0))) .run))
theorem ref1_Code_s (x : TupL ref1_Code_c.inp.hs) : E ref1_Code_v (bodyOf Tryz.f79) (ref1_Code_a) (ref1_Code_c.entry x) (retSK tb ref1_Code_v.fz ref1_Code_c [.tmp 4] x) = ref1_Code_c.F x := by kernel_rfl
theorem ref1_Code_ok : ShOk Tryz.prog gl 79 ref1_Code_c :=
  fn_ok (l := ref1_Code_g) (n := Tryz.f79.ntmps) (code := bodyOf Tryz.f79) (rts := [.tmp 4]) tb_ok hord (ref1_Code_gs) Tryz.func79 (by kernel_rfl) (by kernel_rfl) rfl (by kernel_rfl) (ac := ref1_Code_a) (ob := [((subC (bodyOf Tryz.f79) [1, 0, 1, 0]), ref1_Code_u0)]) (by kernel_rfl) (fun X hX => (obl_cons (ref1_Code_u0_ok hX) obl_nil)) (by kernel_rfl) (ref1_Code_s)

noncomputable def ref1_SignMay_c : ShC := { inp := ⟨[.hole], [], [1], [.sl tSym]⟩, out := ⟨[.hole], [], [2], [.bool]⟩, nres := 1, ms := [], mu := [], leak := false, glob := false, F := fun (x : (List QSym)) => ref1_SignMay x }
-- quaereref1.SignMay
noncomputable def ref1_SignMay_g : List (Nat × Con) := [(78, .gen (altE [ref1_SymMay_c])), (79, .gen (altE [ref1_Code_c]))]
noncomputable def ref1_SignMay_v : Env := envOf tb gl ref1_SignMay_g ref1_SignMay_c Tryz.f37.ntmps
theorem ref1_SignMay_gs : Goods Tryz.prog (cond ref1_SignMay_c.glob gl fun _ => none) ref1_SignMay_g := (goods_cons (good_alt (alls_cons (ref1_SymMay_ok.anyGl rfl) alls_nil)) (goods_cons (good_alt (alls_cons (ref1_Code_ok.anyGl rfl) alls_nil)) goods_nil))
noncomputable def ref1_SignMay_u0_h : SS := ⟨[0, 3], ⟨[.hole, .hole], [], [1, 2], [.sl tSym, .int .i64]⟩⟩
noncomputable def ref1_SignMay_u0_e : Exs := [((.exit 0), ⟨[], ⟨[], [], [], []⟩⟩), (.ret, ⟨[2], ⟨[.hole], [], [2], [.bool]⟩⟩)]
noncomputable def ref1_SignMay_u0_a : AC := .run
noncomputable def ref1_SignMay_u0 : Un := lpU ref1_SignMay_v.fz [19, 20, 21, 22, 25, 26, 27, 28, 29, 30, 31, 32, 33, 34, 35, 36, 37, 38, 39, 40, 41, 2, 23, 24, 3] ref1_SignMay_u0_h ref1_SignMay_u0_e (lp ref1_SignMay_L0 fuel)
theorem ref1_SignMay_u0_s (f : ref1_SignMay_u0_h.X → Option (YT ref1_SignMay_u0_e)) (x : ref1_SignMay_u0_h.X) : E ref1_SignMay_v (subC (bodyOf Tryz.f37) [1, 1, 0, 1, 0, 0]) (ref1_SignMay_u0_a) (mkS ref1_SignMay_u0_h 8 x) (roundK ref1_SignMay_v.fz ref1_SignMay_u0_h ref1_SignMay_u0_e f) = ref1_SignMay_L0 f x := by kernel_rfl
theorem ref1_SignMay_u0_ok {X : Fx} (hX : VOk Tryz.prog X ref1_SignMay_v) : UnOk Tryz.prog X ref1_SignMay_v (subC (bodyOf Tryz.f37) [1, 1, 0, 1, 0]) ref1_SignMay_u0 :=
  lp_un' (c := (subC (bodyOf Tryz.f37) [1, 1, 0, 1, 0, 0])) (by kernel_rfl) (env_all tb_ok (ref1_SignMay_gs)) hord (ob := []) (by kernel_rfl) (fun X hX => obl_nil) (ref1_SignMay_u0_s) (by kernel_rfl) (by kernel_rfl) hX
noncomputable def ref1_SignMay_a : AC := (.seq .run (.seq .run (.seq (.seq .run (.block (.unit ref1_SignMay_u0))) .run)))
theorem ref1_SignMay_s (x : TupL ref1_SignMay_c.inp.hs) : E ref1_SignMay_v (bodyOf Tryz.f37) (ref1_SignMay_a) (ref1_SignMay_c.entry x) (retSK tb ref1_SignMay_v.fz ref1_SignMay_c [.tmp 2] x) = ref1_SignMay_c.F x := by kernel_rfl
theorem ref1_SignMay_ok : ShOk Tryz.prog gl 37 ref1_SignMay_c :=
  fn_ok (l := ref1_SignMay_g) (n := Tryz.f37.ntmps) (code := bodyOf Tryz.f37) (rts := [.tmp 2]) tb_ok hord (ref1_SignMay_gs) Tryz.func37 (by kernel_rfl) (by kernel_rfl) rfl (by kernel_rfl) (ac := ref1_SignMay_a) (ob := [((subC (bodyOf Tryz.f37) [1, 1, 0, 1, 0]), ref1_SignMay_u0)]) (by kernel_rfl) (fun X hX => (obl_cons (ref1_SignMay_u0_ok hX) obl_nil)) (by kernel_rfl) (ref1_SignMay_s)

noncomputable def ref1_End_c : ShC := { inp := ⟨[.hole, .hole, .hole], [], [1, 1, 1], [.sl tSym, .sl (.one (.int .i64)), .int .i64]⟩, out := ⟨[.hole], [], [2], [.int .i64]⟩, nres := 1, ms := [], mu := [], leak := false, glob := false, F := fun (x : ((List QSym) × (List Int) × Int)) => ref1_End x.1 x.2.1 x.2.2 }
-- quaereref1.End
noncomputable def ref1_End_g : List (Nat × Con) := []
noncomputable def ref1_End_v : Env := envOf tb gl ref1_End_g ref1_End_c Tryz.f124.ntmps
theorem ref1_End_gs : Goods Tryz.prog (cond ref1_End_c.glob gl fun _ => none) ref1_End_g := goods_nil
noncomputable def ref1_End_u0_h : SS := ⟨[0, 1, 7, 8], ⟨[.hole, .hole, .hole, .hole], [], [1, 1, 2, 2], [.sl tSym, .sl (.one (.int .i64)), .int .i64, .int .i64]⟩⟩
noncomputable def ref1_End_u0_e : Exs := [((.exit 0), ⟨[8], ⟨[.hole], [], [2], [.int .i64]⟩⟩), (.ret, ⟨[6], ⟨[.hole], [], [2], [.int .i64]⟩⟩)]
noncomputable def ref1_End_u0_a : AC := .run
noncomputable def ref1_End_u0 : Un := lpU ref1_End_v.fz [10, 11, 12, 13, 14, 15, 16, 17, 18, 19, 20, 21, 22, 23, 24, 25, 26, 27, 28, 29, 30, 31, 6, 32, 33, 7, 34, 35, 36, 37, 38, 39, 40, 41, 42, 43, 44, 45, 46, 47, 6, 48, 49, 50, 51, 52, 53, 54, 55, 56, 57, 7, 58, 59, 8] ref1_End_u0_h ref1_End_u0_e (lp ref1_End_L0 fuel)
theorem ref1_End_u0_s (f : ref1_End_u0_h.X → Option (YT ref1_End_u0_e)) (x : ref1_End_u0_h.X) : E ref1_End_v (subC (bodyOf Tryz.f124) [1, 1, 0, 0, 0]) (ref1_End_u0_a) (mkS ref1_End_u0_h 8 x) (roundK ref1_End_v.fz ref1_End_u0_h ref1_End_u0_e f) = ref1_End_L0 f x := by kernel_rfl
theorem ref1_End_u0_ok {X : Fx} (hX : VOk Tryz.prog X ref1_End_v) : UnOk Tryz.prog X ref1_End_v (subC (bodyOf Tryz.f124) [1, 1, 0, 0]) ref1_End_u0 :=
  lp_un' (c := (subC (bodyOf Tryz.f124) [1, 1, 0, 0, 0])) (by kernel_rfl) (env_all tb_ok (ref1_End_gs)) hord (ob := []) (by kernel_rfl) (fun X hX => obl_nil) (ref1_End_u0_s) (by kernel_rfl) (by kernel_rfl) hX
noncomputable def ref1_End_a : AC := (.seq .run (.seq .run (.seq (.block (.unit ref1_End_u0)) .run)))
theorem ref1_End_s (x : TupL ref1_End_c.inp.hs) : E ref1_End_v (bodyOf Tryz.f124) (ref1_End_a) (ref1_End_c.entry x) (retSK tb ref1_End_v.fz ref1_End_c [.tmp 6] x) = ref1_End_c.F x := by kernel_rfl
theorem ref1_End_ok : ShOk Tryz.prog gl 124 ref1_End_c :=
  fn_ok (l := ref1_End_g) (n := Tryz.f124.ntmps) (code := bodyOf Tryz.f124) (rts := [.tmp 6]) tb_ok hord (ref1_End_gs) Tryz.func124 (by kernel_rfl) (by kernel_rfl) rfl (by kernel_rfl) (ac := ref1_End_a) (ob := [((subC (bodyOf Tryz.f124) [1, 1, 0, 0]), ref1_End_u0)]) (by kernel_rfl) (fun X hX => (obl_cons (ref1_End_u0_ok hX) obl_nil)) (by kernel_rfl) (ref1_End_s)

noncomputable def ref1_Terms_c : ShC := { inp := ⟨[.hole, .hole], [], [1, 1], [.sl tSym, .sl (.one (.int .i64))]⟩, out := ⟨[.hole], [], [2], [.int .i64]⟩, nres := 1, ms := [], mu := [], leak := false, glob := false, F := fun (x : ((List QSym) × (List Int))) => ref1_Terms x.1 x.2 }
-- quaereref1.Terms
noncomputable def ref1_Terms_g : List (Nat × Con) := [(124, .gen (altE [ref1_End_c]))]
noncomputable def ref1_Terms_v : Env := envOf tb gl ref1_Terms_g ref1_Terms_c Tryz.f81.ntmps
theorem ref1_Terms_gs : Goods Tryz.prog (cond ref1_Terms_c.glob gl fun _ => none) ref1_Terms_g := (goods_cons (good_alt (alls_cons (ref1_End_ok.anyGl rfl) alls_nil)) goods_nil)
noncomputable def ref1_Terms_u0_h : SS := ⟨[0, 1, 5, 6], ⟨[.hole, .hole, .hole, .hole], [], [1, 1, 2, 2], [.sl tSym, .sl (.one (.int .i64)), .int .i64, .int .i64]⟩⟩
noncomputable def ref1_Terms_u0_e : Exs := [((.exit 0), ⟨[5], ⟨[.hole], [], [2], [.int .i64]⟩⟩), (.ret, ⟨[4], ⟨[.hole], [], [2], [.int .i64]⟩⟩)]
noncomputable def ref1_Terms_u0_a : AC := .run
noncomputable def ref1_Terms_u0 : Un := lpU ref1_Terms_v.fz [10, 11, 12, 13, 14, 15, 16, 17, 6, 18, 19, 4, 20, 21, 5] ref1_Terms_u0_h ref1_Terms_u0_e (lp ref1_Terms_L0 fuel)
theorem ref1_Terms_u0_s (f : ref1_Terms_u0_h.X → Option (YT ref1_Terms_u0_e)) (x : ref1_Terms_u0_h.X) : E ref1_Terms_v (subC (bodyOf Tryz.f81) [1, 1, 1, 0, 0, 0]) (ref1_Terms_u0_a) (mkS ref1_Terms_u0_h 8 x) (roundK ref1_Terms_v.fz ref1_Terms_u0_h ref1_Terms_u0_e f) = ref1_Terms_L0 f x := by kernel_rfl
theorem ref1_Terms_u0_ok {X : Fx} (hX : VOk Tryz.prog X ref1_Terms_v) : UnOk Tryz.prog X ref1_Terms_v (subC (bodyOf Tryz.f81) [1, 1, 1, 0, 0]) ref1_Terms_u0 :=
  lp_un' (c := (subC (bodyOf Tryz.f81) [1, 1, 1, 0, 0, 0])) (by kernel_rfl) (env_all tb_ok (ref1_Terms_gs)) hord (ob := []) (by kernel_rfl) (fun X hX => obl_nil) (ref1_Terms_u0_s) (by kernel_rfl) (by kernel_rfl) hX
noncomputable def ref1_Terms_a : AC := (.seq .run (.seq .run (.seq .run (.seq (.block (.unit ref1_Terms_u0)) .run))))
theorem ref1_Terms_s (x : TupL ref1_Terms_c.inp.hs) : E ref1_Terms_v (bodyOf Tryz.f81) (ref1_Terms_a) (ref1_Terms_c.entry x) (retSK tb ref1_Terms_v.fz ref1_Terms_c [.tmp 4] x) = ref1_Terms_c.F x := by kernel_rfl
theorem ref1_Terms_ok : ShOk Tryz.prog gl 81 ref1_Terms_c :=
  fn_ok (l := ref1_Terms_g) (n := Tryz.f81.ntmps) (code := bodyOf Tryz.f81) (rts := [.tmp 4]) tb_ok hord (ref1_Terms_gs) Tryz.func81 (by kernel_rfl) (by kernel_rfl) rfl (by kernel_rfl) (ac := ref1_Terms_a) (ob := [((subC (bodyOf Tryz.f81) [1, 1, 1, 0, 0]), ref1_Terms_u0)]) (by kernel_rfl) (fun X hX => (obl_cons (ref1_Terms_u0_ok hX) obl_nil)) (by kernel_rfl) (ref1_Terms_s)

noncomputable def ref1_IsAtom_c : ShC := { inp := ⟨[.hole, .hole], [], [1, 1], [.sl tSym, .sl (.one (.int .i64))]⟩, out := ⟨[.hole], [], [2], [.bool]⟩, nres := 1, ms := [], mu := [], leak := false, glob := false, F := fun (x : ((List QSym) × (List Int))) => ref1_IsAtom x.1 x.2 }
-- quaereref1.IsAtom
noncomputable def ref1_IsAtom_g : List (Nat × Con) := [(81, .gen (altE [ref1_Terms_c]))]
noncomputable def ref1_IsAtom_v : Env := envOf tb gl ref1_IsAtom_g ref1_IsAtom_c Tryz.f123.ntmps
theorem ref1_IsAtom_gs : Goods Tryz.prog (cond ref1_IsAtom_c.glob gl fun _ => none) ref1_IsAtom_g := (goods_cons (good_alt (alls_cons (ref1_Terms_ok.anyGl rfl) alls_nil)) goods_nil)
noncomputable def ref1_IsAtom_a : AC := .run
theorem ref1_IsAtom_s (x : TupL ref1_IsAtom_c.inp.hs) : E ref1_IsAtom_v (bodyOf Tryz.f123) (ref1_IsAtom_a) (ref1_IsAtom_c.entry x) (retSK tb ref1_IsAtom_v.fz ref1_IsAtom_c [.tmp 4] x) = ref1_IsAtom_c.F x := by kernel_rfl
theorem ref1_IsAtom_ok : ShOk Tryz.prog gl 123 ref1_IsAtom_c :=
  fn_ok (l := ref1_IsAtom_g) (n := Tryz.f123.ntmps) (code := bodyOf Tryz.f123) (rts := [.tmp 4]) tb_ok hord (ref1_IsAtom_gs) Tryz.func123 (by kernel_rfl) (by kernel_rfl) rfl (by kernel_rfl) (ac := ref1_IsAtom_a) (ob := []) (by kernel_rfl) (fun X hX => obl_nil) (by kernel_rfl) (ref1_IsAtom_s)

noncomputable def ref8_LitMay_c : ShC := { inp := ⟨[.hole, (.agg [.hole, .hole])], [], [1, 1, 1], [.sl tSym, .bool, .sl (.one (.int .i64))]⟩, out := ⟨[.hole], [], [2], [.bool]⟩, nres := 1, ms := [], mu := [], leak := false, glob := false, F := fun (x : ((List QSym) × Bool × (List Int))) => ref8_LitMay x.1 x.2.1 x.2.2 }
-- quaereref8.LitMay
noncomputable def ref8_LitMay_g : List (Nat × Con) := [(37, .gen (altE [ref1_SignMay_c])), (123, .gen (altE [ref1_IsAtom_c]))]
noncomputable def ref8_LitMay_v : Env := envOf tb gl ref8_LitMay_g ref8_LitMay_c Tryz.f80.ntmps
theorem ref8_LitMay_gs : Goods Tryz.prog (cond ref8_LitMay_c.glob gl fun _ => none) ref8_LitMay_g := (goods_cons (good_alt (alls_cons (ref1_SignMay_ok.anyGl rfl) alls_nil)) (goods_cons (good_alt (alls_cons (ref1_IsAtom_ok.anyGl rfl) alls_nil)) goods_nil))
noncomputable def ref8_LitMay_a : AC := .run
theorem ref8_LitMay_s (x : TupL ref8_LitMay_c.inp.hs) : E ref8_LitMay_v (bodyOf Tryz.f80) (ref8_LitMay_a) (ref8_LitMay_c.entry x) (retSK tb ref8_LitMay_v.fz ref8_LitMay_c [.tmp 4] x) = ref8_LitMay_c.F x := by kernel_rfl
theorem ref8_LitMay_ok : ShOk Tryz.prog gl 80 ref8_LitMay_c :=
  fn_ok (l := ref8_LitMay_g) (n := Tryz.f80.ntmps) (code := bodyOf Tryz.f80) (rts := [.tmp 4]) tb_ok hord (ref8_LitMay_gs) Tryz.func80 (by kernel_rfl) (by kernel_rfl) rfl (by kernel_rfl) (ac := ref8_LitMay_a) (ob := []) (by kernel_rfl) (fun X hX => obl_nil) (by kernel_rfl) (ref8_LitMay_s)

noncomputable def ref8_rows_c : ShC := { inp := ⟨[(.agg [.hole, .hole, .hole])], [], [1, 1, 1], [.sl tLit, .sl (.one (.sl (.one (.int .i64)))), .sl tLit]⟩, out := ⟨[(.view 0)], [.seq false], [0], [.sl (.one (.sl (.one (.int .i64))))]⟩, nres := 1, ms := [], mu := [], leak := true, glob := false, F := fun (x : ((List QLit) × (List (List Int)) × (List QLit))) => ref8_rows x.1 x.2.1 x.2.2 }
-- quaereref8.rows
noncomputable def ref8_rows_g : List (Nat × Con) := []
noncomputable def ref8_rows_v : Env := envOf tb gl ref8_rows_g ref8_rows_c Tryz.f82.ntmps
theorem ref8_rows_gs : Goods Tryz.prog (cond ref8_rows_c.glob gl fun _ => none) ref8_rows_g := goods_nil
noncomputable def ref8_rows_u2_h : SS := ⟨[1, 3, 6], ⟨[(.ptr 0 0), (.view 1), .hole], [.cells true [.hole, .hole, .hole], .seq false], [2, 1, 1, 1, 0], [.int .i64, .sl tLit, .sl (.one (.sl (.one (.int .i64)))), .sl tLit, .sl (.one (.sl (.one (.int .i64))))]⟩⟩
noncomputable def ref8_rows_u2_e : Exs := [((.exit 4), ⟨[3], ⟨[(.view 0)], [.seq false], [0], [.sl (.one (.sl (.one (.int .i64))))]⟩⟩)]
noncomputable def ref8_rows_u2_a : AC := .run
noncomputable def ref8_rows_u2 : Un := lpU ref8_rows_v.fz [38, 39, 40, 41, 42, 45, 46, 47, 48, 49, 50, 51, 52, 53, 3, 43, 44, 6] ref8_rows_u2_h ref8_rows_u2_e (lp ref8_rows_L2 fuel)
theorem ref8_rows_u2_s (f : ref8_rows_u2_h.X → Option (YT ref8_rows_u2_e)) (x : ref8_rows_u2_h.X) : E ref8_rows_v (subC (bodyOf Tryz.f82) [1, 1, 1, 1, 0, 1, 0, 0]) (ref8_rows_u2_a) (mkS ref8_rows_u2_h 8 x) (roundK ref8_rows_v.fz ref8_rows_u2_h ref8_rows_u2_e f) = ref8_rows_L2 f x := by kernel_rfl
theorem ref8_rows_u2_ok {X : Fx} (hX : VOk Tryz.prog X ref8_rows_v) : UnOk Tryz.prog X ref8_rows_v (subC (bodyOf Tryz.f82) [1, 1, 1, 1, 0, 1, 0]) ref8_rows_u2 :=
  lp_un' (c := (subC (bodyOf Tryz.f82) [1, 1, 1, 1, 0, 1, 0, 0])) (by kernel_rfl) (env_all tb_ok (ref8_rows_gs)) hord (ob := []) (by kernel_rfl) (fun X hX => obl_nil) (ref8_rows_u2_s) (by kernel_rfl) (by kernel_rfl) hX
noncomputable def ref8_rows_u1_h : SS := ⟨[1, 3, 5], ⟨[(.ptr 0 0), (.view 1), .hole], [.cells true [.hole, .hole, .hole], .seq false], [2, 1, 1, 1, 0], [.int .i64, .sl tLit, .sl (.one (.sl (.one (.int .i64)))), .sl tLit, .sl (.one (.sl (.one (.int .i64))))]⟩⟩
noncomputable def ref8_rows_u1_e : Exs := [((.exit 2), ⟨[3], ⟨[(.view 0)], [.seq false], [0], [.sl (.one (.sl (.one (.int .i64))))]⟩⟩)]
noncomputable def ref8_rows_u1_a : AC := .run
noncomputable def ref8_rows_u1 : Un := lpU ref8_rows_v.fz [23, 24, 25, 26, 27, 30, 31, 32, 33, 34, 35, 36, 37, 3, 28, 29, 5] ref8_rows_u1_h ref8_rows_u1_e (lp ref8_rows_L1 fuel)
theorem ref8_rows_u1_s (f : ref8_rows_u1_h.X → Option (YT ref8_rows_u1_e)) (x : ref8_rows_u1_h.X) : E ref8_rows_v (subC (bodyOf Tryz.f82) [1, 1, 1, 0, 1, 0, 0]) (ref8_rows_u1_a) (mkS ref8_rows_u1_h 8 x) (roundK ref8_rows_v.fz ref8_rows_u1_h ref8_rows_u1_e f) = ref8_rows_L1 f x := by kernel_rfl
theorem ref8_rows_u1_ok {X : Fx} (hX : VOk Tryz.prog X ref8_rows_v) : UnOk Tryz.prog X ref8_rows_v (subC (bodyOf Tryz.f82) [1, 1, 1, 0, 1, 0]) ref8_rows_u1 :=
  lp_un' (c := (subC (bodyOf Tryz.f82) [1, 1, 1, 0, 1, 0, 0])) (by kernel_rfl) (env_all tb_ok (ref8_rows_gs)) hord (ob := []) (by kernel_rfl) (fun X hX => obl_nil) (ref8_rows_u1_s) (by kernel_rfl) (by kernel_rfl) hX
noncomputable def ref8_rows_u0_h : SS := ⟨[1, 3, 4], ⟨[(.ptr 0 0), (.view 1), .hole], [.cells true [.hole, .hole, .hole], .seq false], [2, 1, 1, 1, 0], [.int .i64, .sl tLit, .sl (.one (.sl (.one (.int .i64)))), .sl tLit, .sl (.one (.sl (.one (.int .i64))))]⟩⟩
noncomputable def ref8_rows_u0_e : Exs := [((.exit 0), ⟨[3], ⟨[(.view 0)], [.seq false], [0], [.sl (.one (.sl (.one (.int .i64))))]⟩⟩)]
noncomputable def ref8_rows_u0_a : AC := .run
noncomputable def ref8_rows_u0 : Un := lpU ref8_rows_v.fz [7, 8, 9, 10, 11, 14, 15, 16, 17, 18, 19, 20, 21, 22, 3, 12, 13, 4] ref8_rows_u0_h ref8_rows_u0_e (lp ref8_rows_L0 fuel)
theorem ref8_rows_u0_s (f : ref8_rows_u0_h.X → Option (YT ref8_rows_u0_e)) (x : ref8_rows_u0_h.X) : E ref8_rows_v (subC (bodyOf Tryz.f82) [1, 1, 0, 1, 0, 0]) (ref8_rows_u0_a) (mkS ref8_rows_u0_h 8 x) (roundK ref8_rows_v.fz ref8_rows_u0_h ref8_rows_u0_e f) = ref8_rows_L0 f x := by kernel_rfl
theorem ref8_rows_u0_ok {X : Fx} (hX : VOk Tryz.prog X ref8_rows_v) : UnOk Tryz.prog X ref8_rows_v (subC (bodyOf Tryz.f82) [1, 1, 0, 1, 0]) ref8_rows_u0 :=
  lp_un' (c := (subC (bodyOf Tryz.f82) [1, 1, 0, 1, 0, 0])) (by kernel_rfl) (env_all tb_ok (ref8_rows_gs)) hord (ob := []) (by kernel_rfl) (fun X hX => obl_nil) (ref8_rows_u0_s) (by kernel_rfl) (by kernel_rfl) hX
noncomputable def ref8_rows_a : AC := (.seq .run (.seq .run (.seq (.seq .run (.block (.unit ref8_rows_u0))) (.seq (.seq .run (.block (.unit ref8_rows_u1))) (.seq (.seq .run (.block (.unit ref8_rows_u2))) .run)))))
theorem ref8_rows_s (x : TupL ref8_rows_c.inp.hs) : E ref8_rows_v (bodyOf Tryz.f82) (ref8_rows_a) (ref8_rows_c.entry x) (retSK tb ref8_rows_v.fz ref8_rows_c [.tmp 2] x) = ref8_rows_c.F x := by kernel_rfl
theorem ref8_rows_ok : ShOk Tryz.prog gl 82 ref8_rows_c :=
  fn_ok (l := ref8_rows_g) (n := Tryz.f82.ntmps) (code := bodyOf Tryz.f82) (rts := [.tmp 2]) tb_ok hord (ref8_rows_gs) Tryz.func82 (by kernel_rfl) (by kernel_rfl) rfl (by kernel_rfl) (ac := ref8_rows_a) (ob := [((subC (bodyOf Tryz.f82) [1, 1, 0, 1, 0]), ref8_rows_u0), ((subC (bodyOf Tryz.f82) [1, 1, 1, 0, 1, 0]), ref8_rows_u1), ((subC (bodyOf Tryz.f82) [1, 1, 1, 1, 0, 1, 0]), ref8_rows_u2)]) (by kernel_rfl) (fun X hX => (obl_cons (ref8_rows_u0_ok hX) (obl_cons (ref8_rows_u1_ok hX) (obl_cons (ref8_rows_u2_ok hX) obl_nil)))) (by kernel_rfl) (ref8_rows_s)

noncomputable def ref8_May_c : ShC := { inp := ⟨[.hole, (.agg [.hole, .hole, .hole])], [], [1, 1, 1, 1], [.sl tSym, .sl tLit, .sl (.one (.sl (.one (.int .i64)))), .sl tLit]⟩, out := ⟨[.hole], [], [2], [.bool]⟩, nres := 1, ms := [], mu := [], leak := false, glob := false, F := fun (x : ((List QSym) × (List QLit) × (List (List Int)) × (List QLit))) => ref8_May x.1 x.2.1 x.2.2.1 x.2.2.2 }
-- quaereref8.May
noncomputable def ref8_May_g : List (Nat × Con) := [(37, .gen (altE [ref1_SignMay_c])), (80, .gen (altE [ref8_LitMay_c])), (81, .gen (altE [ref1_Terms_c])), (82, .gen (altE [ref8_rows_c]))]
noncomputable def ref8_May_v : Env := envOf tb gl ref8_May_g ref8_May_c Tryz.f40.ntmps
theorem ref8_May_gs : Goods Tryz.prog (cond ref8_May_c.glob gl fun _ => none) ref8_May_g := (goods_cons (good_alt (alls_cons (ref1_SignMay_ok.anyGl rfl) alls_nil)) (goods_cons (good_alt (alls_cons (ref8_LitMay_ok.anyGl rfl) alls_nil)) (goods_cons (good_alt (alls_cons (ref1_Terms_ok.anyGl rfl) alls_nil)) (goods_cons (good_alt (alls_cons (ref8_rows_ok.anyGl rfl) alls_nil)) goods_nil))))
noncomputable def ref8_May_u3_h : SS := ⟨[9, 10, 11], ⟨[.hole, .hole, .hole], [], [0, 2, 2], [.sl (.one (.sl (.one (.int .i64)))), .int .i64, .int .i64]⟩⟩
noncomputable def ref8_May_u3_e : Exs := [((.exit 6), ⟨[10], ⟨[.hole], [], [2], [.int .i64]⟩⟩)]
noncomputable def ref8_May_u3_a : AC := .run
noncomputable def ref8_May_u3 : Un := lpU ref8_May_v.fz [91, 92, 93, 94, 97, 98, 99, 100, 101, 102, 103, 10, 95, 96, 11] ref8_May_u3_h ref8_May_u3_e (lp ref8_May_L3 fuel)
theorem ref8_May_u3_s (f : ref8_May_u3_h.X → Option (YT ref8_May_u3_e)) (x : ref8_May_u3_h.X) : E ref8_May_v (subC (bodyOf Tryz.f40) [1, 1, 1, 1, 1, 1, 1, 0, 1, 0, 0]) (ref8_May_u3_a) (mkS ref8_May_u3_h 8 x) (roundK ref8_May_v.fz ref8_May_u3_h ref8_May_u3_e f) = ref8_May_L3 f x := by kernel_rfl
theorem ref8_May_u3_ok {X : Fx} (hX : VOk Tryz.prog X ref8_May_v) : UnOk Tryz.prog X ref8_May_v (subC (bodyOf Tryz.f40) [1, 1, 1, 1, 1, 1, 1, 0, 1, 0]) ref8_May_u3 :=
  lp_un' (c := (subC (bodyOf Tryz.f40) [1, 1, 1, 1, 1, 1, 1, 0, 1, 0, 0])) (by kernel_rfl) (env_all tb_ok (ref8_May_gs)) hord (ob := []) (by kernel_rfl) (fun X hX => obl_nil) (ref8_May_u3_s) (by kernel_rfl) (by kernel_rfl) hX
noncomputable def ref8_May_u2_h : SS := ⟨[0, 3, 7], ⟨[.hole, (.ptr 0 0), .hole], [.cells true [.hole, .hole, .hole]], [1, 2, 1, 1, 1], [.sl tSym, .int .i64, .sl tLit, .sl (.one (.sl (.one (.int .i64)))), .sl tLit]⟩⟩
noncomputable def ref8_May_u2_e : Exs := [((.exit 4), ⟨[], ⟨[], [], [], []⟩⟩), (.ret, ⟨[4], ⟨[.hole], [], [2], [.bool]⟩⟩)]
noncomputable def ref8_May_u2_a : AC := .run
noncomputable def ref8_May_u2 : Un := lpU ref8_May_v.fz [63, 64, 65, 66, 67, 70, 71, 72, 73, 74, 75, 76, 8, 77, 78, 79, 80, 81, 82, 83, 84, 85, 86, 87, 88, 4, 68, 69, 7] ref8_May_u2_h ref8_May_u2_e (lp ref8_May_L2 fuel)
theorem ref8_May_u2_s (f : ref8_May_u2_h.X → Option (YT ref8_May_u2_e)) (x : ref8_May_u2_h.X) : E ref8_May_v (subC (bodyOf Tryz.f40) [1, 1, 1, 1, 0, 1, 0, 0]) (ref8_May_u2_a) (mkS ref8_May_u2_h 8 x) (roundK ref8_May_v.fz ref8_May_u2_h ref8_May_u2_e f) = ref8_May_L2 f x := by kernel_rfl
theorem ref8_May_u2_ok {X : Fx} (hX : VOk Tryz.prog X ref8_May_v) : UnOk Tryz.prog X ref8_May_v (subC (bodyOf Tryz.f40) [1, 1, 1, 1, 0, 1, 0]) ref8_May_u2 :=
  lp_un' (c := (subC (bodyOf Tryz.f40) [1, 1, 1, 1, 0, 1, 0, 0])) (by kernel_rfl) (env_all tb_ok (ref8_May_gs)) hord (ob := []) (by kernel_rfl) (fun X hX => obl_nil) (ref8_May_u2_s) (by kernel_rfl) (by kernel_rfl) hX
noncomputable def ref8_May_u1_h : SS := ⟨[0, 3, 6], ⟨[.hole, (.ptr 0 0), .hole], [.cells true [.hole, .hole, .hole]], [1, 2, 1, 1, 1], [.sl tSym, .int .i64, .sl tLit, .sl (.one (.sl (.one (.int .i64)))), .sl tLit]⟩⟩
noncomputable def ref8_May_u1_e : Exs := [((.exit 2), ⟨[], ⟨[], [], [], []⟩⟩), (.ret, ⟨[4], ⟨[.hole], [], [2], [.bool]⟩⟩)]
noncomputable def ref8_May_u1_a : AC := .run
noncomputable def ref8_May_u1 : Un := lpU ref8_May_v.fz [48, 49, 50, 51, 52, 55, 56, 57, 58, 59, 60, 61, 62, 4, 53, 54, 6] ref8_May_u1_h ref8_May_u1_e (lp ref8_May_L1 fuel)
theorem ref8_May_u1_s (f : ref8_May_u1_h.X → Option (YT ref8_May_u1_e)) (x : ref8_May_u1_h.X) : E ref8_May_v (subC (bodyOf Tryz.f40) [1, 1, 1, 0, 1, 0, 0]) (ref8_May_u1_a) (mkS ref8_May_u1_h 8 x) (roundK ref8_May_v.fz ref8_May_u1_h ref8_May_u1_e f) = ref8_May_L1 f x := by kernel_rfl
theorem ref8_May_u1_ok {X : Fx} (hX : VOk Tryz.prog X ref8_May_v) : UnOk Tryz.prog X ref8_May_v (subC (bodyOf Tryz.f40) [1, 1, 1, 0, 1, 0]) ref8_May_u1 :=
  lp_un' (c := (subC (bodyOf Tryz.f40) [1, 1, 1, 0, 1, 0, 0])) (by kernel_rfl) (env_all tb_ok (ref8_May_gs)) hord (ob := []) (by kernel_rfl) (fun X hX => obl_nil) (ref8_May_u1_s) (by kernel_rfl) (by kernel_rfl) hX
noncomputable def ref8_May_u0_h : SS := ⟨[0, 3, 5], ⟨[.hole, (.ptr 0 0), .hole], [.cells true [.hole, .hole, .hole]], [1, 2, 1, 1, 1], [.sl tSym, .int .i64, .sl tLit, .sl (.one (.sl (.one (.int .i64)))), .sl tLit]⟩⟩
noncomputable def ref8_May_u0_e : Exs := [((.exit 0), ⟨[], ⟨[], [], [], []⟩⟩), (.ret, ⟨[4], ⟨[.hole], [], [2], [.bool]⟩⟩)]
noncomputable def ref8_May_u0_a : AC := .run
noncomputable def ref8_May_u0 : Un := lpU ref8_May_v.fz [33, 34, 35, 36, 37, 40, 41, 42, 43, 44, 45, 46, 47, 4, 38, 39, 5] ref8_May_u0_h ref8_May_u0_e (lp ref8_May_L0 fuel)
theorem ref8_May_u0_s (f : ref8_May_u0_h.X → Option (YT ref8_May_u0_e)) (x : ref8_May_u0_h.X) : E ref8_May_v (subC (bodyOf Tryz.f40) [1, 1, 0, 1, 0, 0]) (ref8_May_u0_a) (mkS ref8_May_u0_h 8 x) (roundK ref8_May_v.fz ref8_May_u0_h ref8_May_u0_e f) = ref8_May_L0 f x := by kernel_rfl
theorem ref8_May_u0_ok {X : Fx} (hX : VOk Tryz.prog X ref8_May_v) : UnOk Tryz.prog X ref8_May_v (subC (bodyOf Tryz.f40) [1, 1, 0, 1, 0]) ref8_May_u0 :=
  lp_un' (c := (subC (bodyOf Tryz.f40) [1, 1, 0, 1, 0, 0])) (by kernel_rfl) (env_all tb_ok (ref8_May_gs)) hord (ob := []) (by kernel_rfl) (fun X hX => obl_nil) (ref8_May_u0_s) (by kernel_rfl) (by kernel_rfl) hX
noncomputable def ref8_May_a : AC := (.seq .run (.seq .run (.seq (.seq .run (.block (.unit ref8_May_u0))) (.seq (.seq .run (.block (.unit ref8_May_u1))) (.seq (.seq .run (.block (.unit ref8_May_u2))) (.seq .run (.seq .run (.seq (.seq .run (.block (.unit ref8_May_u3))) .run))))))))
theorem ref8_May_s (x : TupL ref8_May_c.inp.hs) : E ref8_May_v (bodyOf Tryz.f40) (ref8_May_a) (ref8_May_c.entry x) (retSK tb ref8_May_v.fz ref8_May_c [.tmp 4] x) = ref8_May_c.F x := by kernel_rfl
theorem ref8_May_ok : ShOk Tryz.prog gl 40 ref8_May_c :=
  fn_ok (l := ref8_May_g) (n := Tryz.f40.ntmps) (code := bodyOf Tryz.f40) (rts := [.tmp 4]) tb_ok hord (ref8_May_gs) Tryz.func40 (by kernel_rfl) (by kernel_rfl) rfl (by kernel_rfl) (ac := ref8_May_a) (ob := [((subC (bodyOf Tryz.f40) [1, 1, 0, 1, 0]), ref8_May_u0), ((subC (bodyOf Tryz.f40) [1, 1, 1, 0, 1, 0]), ref8_May_u1), ((subC (bodyOf Tryz.f40) [1, 1, 1, 1, 0, 1, 0]), ref8_May_u2), ((subC (bodyOf Tryz.f40) [1, 1, 1, 1, 1, 1, 1, 0, 1, 0]), ref8_May_u3)]) (by kernel_rfl) (fun X hX => (obl_cons (ref8_May_u0_ok hX) (obl_cons (ref8_May_u1_ok hX) (obl_cons (ref8_May_u2_ok hX) (obl_cons (ref8_May_u3_ok hX) obl_nil))))) (by kernel_rfl) (ref8_May_s)

noncomputable def ref21_own_c : ShC := { inp := ⟨[.hole, .hole], [], [1, 1], [.sl tSym, .sl (.one (.int .i64))]⟩, out := ⟨[.hole], [], [2], [.bool]⟩, nres := 1, ms := [], mu := [], leak := false, glob := false, F := fun (x : ((List QSym) × (List Int))) => ref21_own x.1 x.2 }
-- quaereref21.own
noncomputable def ref21_own_g : List (Nat × Con) := []
noncomputable def ref21_own_v : Env := envOf tb gl ref21_own_g ref21_own_c Tryz.f54.ntmps
theorem ref21_own_gs : Goods Tryz.prog (cond ref21_own_c.glob gl fun _ => none) ref21_own_g := goods_nil
noncomputable def ref21_own_u0_h : SS := ⟨[0, 1, 5], ⟨[.hole, .hole, .hole], [], [1, 1, 2], [.sl tSym, .sl (.one (.int .i64)), .int .i64]⟩⟩
noncomputable def ref21_own_u0_e : Exs := [((.exit 0), ⟨[], ⟨[], [], [], []⟩⟩), (.ret, ⟨[4], ⟨[.hole], [], [2], [.bool]⟩⟩)]
noncomputable def ref21_own_u0_a : AC := .run
noncomputable def ref21_own_u0 : Un := lpU ref21_own_v.fz [6, 7, 8, 9, 12, 13, 14, 15, 16, 17, 18, 19, 20, 21, 22, 23, 24, 25, 26, 27, 4, 10, 11, 5] ref21_own_u0_h ref21_own_u0_e (lp ref21_own_L0 fuel)
theorem ref21_own_u0_s (f : ref21_own_u0_h.X → Option (YT ref21_own_u0_e)) (x : ref21_own_u0_h.X) : E ref21_own_v (subC (bodyOf Tryz.f54) [1, 0, 1, 0, 0]) (ref21_own_u0_a) (mkS ref21_own_u0_h 8 x) (roundK ref21_own_v.fz ref21_own_u0_h ref21_own_u0_e f) = ref21_own_L0 f x := by kernel_rfl
theorem ref21_own_u0_ok {X : Fx} (hX : VOk Tryz.prog X ref21_own_v) : UnOk Tryz.prog X ref21_own_v (subC (bodyOf Tryz.f54) [1, 0, 1, 0]) ref21_own_u0 :=
  lp_un' (c := (subC (bodyOf Tryz.f54) [1, 0, 1, 0, 0])) (by kernel_rfl) (env_all tb_ok (ref21_own_gs)) hord (ob := []) (by kernel_rfl) (fun X hX => obl_nil) (ref21_own_u0_s) (by kernel_rfl) (by kernel_rfl) hX
noncomputable def ref21_own_a : AC := (.seq .run (.seq (.seq .run (.block (.unit ref21_own_u0))) .run))
theorem ref21_own_s (x : TupL ref21_own_c.inp.hs) : E ref21_own_v (bodyOf Tryz.f54) (ref21_own_a) (ref21_own_c.entry x) (retSK tb ref21_own_v.fz ref21_own_c [.tmp 4] x) = ref21_own_c.F x := by kernel_rfl
theorem ref21_own_ok : ShOk Tryz.prog gl 54 ref21_own_c :=
  fn_ok (l := ref21_own_g) (n := Tryz.f54.ntmps) (code := bodyOf Tryz.f54) (rts := [.tmp 4]) tb_ok hord (ref21_own_gs) Tryz.func54 (by kernel_rfl) (by kernel_rfl) rfl (by kernel_rfl) (ac := ref21_own_a) (ob := [((subC (bodyOf Tryz.f54) [1, 0, 1, 0]), ref21_own_u0)]) (by kernel_rfl) (fun X hX => (obl_cons (ref21_own_u0_ok hX) obl_nil)) (by kernel_rfl) (ref21_own_s)

noncomputable def ref21_Fine_c : ShC := { inp := ⟨[.hole, (.agg [.hole, .hole, .hole])], [], [1, 1, 1, 1], [.sl tSym, .sl tLit, .sl (.one (.sl (.one (.int .i64)))), .sl tLit]⟩, out := ⟨[.hole, .hole], [], [2, 2], [.bool, .int .i64]⟩, nres := 2, ms := [], mu := [], leak := false, glob := false, F := fun (x : ((List QSym) × (List QLit) × (List (List Int)) × (List QLit))) => ref21_Fine x.1 x.2.1 x.2.2.1 x.2.2.2 }
-- quaereref21.Fine
noncomputable def ref21_Fine_g : List (Nat × Con) := [(40, .gen (altE [ref8_May_c])), (54, .gen (altE [ref21_own_c]))]
noncomputable def ref21_Fine_v : Env := envOf tb gl ref21_Fine_g ref21_Fine_c Tryz.f19.ntmps
theorem ref21_Fine_gs : Goods Tryz.prog (cond ref21_Fine_c.glob gl fun _ => none) ref21_Fine_g := (goods_cons (good_alt (alls_cons (ref8_May_ok.anyGl rfl) alls_nil)) (goods_cons (good_alt (alls_cons (ref21_own_ok.anyGl rfl) alls_nil)) goods_nil))
noncomputable def ref21_Fine_u1_h : SS := ⟨[0, 3, 7], ⟨[.hole, (.ptr 0 0), .hole], [.cells true [.hole, .hole, .hole]], [1, 2, 1, 1, 1], [.sl tSym, .int .i64, .sl tLit, .sl (.one (.sl (.one (.int .i64)))), .sl tLit]⟩⟩
noncomputable def ref21_Fine_u1_e : Exs := [((.exit 2), ⟨[], ⟨[], [], [], []⟩⟩), (.ret, ⟨[4, 5], ⟨[.hole, .hole], [], [2, 2], [.bool, .int .i64]⟩⟩)]
noncomputable def ref21_Fine_u1_a : AC := .run
noncomputable def ref21_Fine_u1 : Un := lpU ref21_Fine_v.fz [26, 27, 28, 29, 30, 33, 34, 35, 36, 37, 38, 39, 40, 4, 5, 31, 32, 7] ref21_Fine_u1_h ref21_Fine_u1_e (lp ref21_Fine_L1 fuel)
theorem ref21_Fine_u1_s (f : ref21_Fine_u1_h.X → Option (YT ref21_Fine_u1_e)) (x : ref21_Fine_u1_h.X) : E ref21_Fine_v (subC (bodyOf Tryz.f19) [1, 1, 1, 0, 1, 0, 0]) (ref21_Fine_u1_a) (mkS ref21_Fine_u1_h 8 x) (roundK ref21_Fine_v.fz ref21_Fine_u1_h ref21_Fine_u1_e f) = ref21_Fine_L1 f x := by kernel_rfl
theorem ref21_Fine_u1_ok {X : Fx} (hX : VOk Tryz.prog X ref21_Fine_v) : UnOk Tryz.prog X ref21_Fine_v (subC (bodyOf Tryz.f19) [1, 1, 1, 0, 1, 0]) ref21_Fine_u1 :=
  lp_un' (c := (subC (bodyOf Tryz.f19) [1, 1, 1, 0, 1, 0, 0])) (by kernel_rfl) (env_all tb_ok (ref21_Fine_gs)) hord (ob := []) (by kernel_rfl) (fun X hX => obl_nil) (ref21_Fine_u1_s) (by kernel_rfl) (by kernel_rfl) hX
noncomputable def ref21_Fine_u0_h : SS := ⟨[0, 3, 6], ⟨[.hole, (.ptr 0 0), .hole], [.cells true [.hole, .hole, .hole]], [1, 2, 1, 1, 1], [.sl tSym, .int .i64, .sl tLit, .sl (.one (.sl (.one (.int .i64)))), .sl tLit]⟩⟩
noncomputable def ref21_Fine_u0_e : Exs := [((.exit 0), ⟨[], ⟨[], [], [], []⟩⟩), (.ret, ⟨[4, 5], ⟨[.hole, .hole], [], [2, 2], [.bool, .int .i64]⟩⟩)]
noncomputable def ref21_Fine_u0_a : AC := .run
noncomputable def ref21_Fine_u0 : Un := lpU ref21_Fine_v.fz [12, 13, 14, 15, 16, 19, 20, 21, 22, 23, 24, 25, 4, 5, 17, 18, 6] ref21_Fine_u0_h ref21_Fine_u0_e (lp ref21_Fine_L0 fuel)
theorem ref21_Fine_u0_s (f : ref21_Fine_u0_h.X → Option (YT ref21_Fine_u0_e)) (x : ref21_Fine_u0_h.X) : E ref21_Fine_v (subC (bodyOf Tryz.f19) [1, 1, 0, 1, 0, 0]) (ref21_Fine_u0_a) (mkS ref21_Fine_u0_h 8 x) (roundK ref21_Fine_v.fz ref21_Fine_u0_h ref21_Fine_u0_e f) = ref21_Fine_L0 f x := by kernel_rfl
theorem ref21_Fine_u0_ok {X : Fx} (hX : VOk Tryz.prog X ref21_Fine_v) : UnOk Tryz.prog X ref21_Fine_v (subC (bodyOf Tryz.f19) [1, 1, 0, 1, 0]) ref21_Fine_u0 :=
  lp_un' (c := (subC (bodyOf Tryz.f19) [1, 1, 0, 1, 0, 0])) (by kernel_rfl) (env_all tb_ok (ref21_Fine_gs)) hord (ob := []) (by kernel_rfl) (fun X hX => obl_nil) (ref21_Fine_u0_s) (by kernel_rfl) (by kernel_rfl) hX
noncomputable def ref21_Fine_a : AC := (.seq .run (.seq .run (.seq (.seq .run (.block (.unit ref21_Fine_u0))) (.seq (.seq .run (.block (.unit ref21_Fine_u1))) .run))))
theorem ref21_Fine_s (x : TupL ref21_Fine_c.inp.hs) : E ref21_Fine_v (bodyOf Tryz.f19) (ref21_Fine_a) (ref21_Fine_c.entry x) (retSK tb ref21_Fine_v.fz ref21_Fine_c [.tmp 4, .tmp 5] x) = ref21_Fine_c.F x := by kernel_rfl
theorem ref21_Fine_ok : ShOk Tryz.prog gl 19 ref21_Fine_c :=
  fn_ok (l := ref21_Fine_g) (n := Tryz.f19.ntmps) (code := bodyOf Tryz.f19) (rts := [.tmp 4, .tmp 5]) tb_ok hord (ref21_Fine_gs) Tryz.func19 (by kernel_rfl) (by kernel_rfl) rfl (by kernel_rfl) (ac := ref21_Fine_a) (ob := [((subC (bodyOf Tryz.f19) [1, 1, 0, 1, 0]), ref21_Fine_u0), ((subC (bodyOf Tryz.f19) [1, 1, 1, 0, 1, 0]), ref21_Fine_u1)]) (by kernel_rfl) (fun X hX => (obl_cons (ref21_Fine_u0_ok hX) (obl_cons (ref21_Fine_u1_ok hX) obl_nil))) (by kernel_rfl) (ref21_Fine_s)

noncomputable def term_Pieces_c : ShC := { inp := ⟨[.hole, .hole], [], [1, 1], [.sl tSym, .sl (.one (.int .i64))]⟩, out := ⟨[(.view 0)], [.seq false], [0], [.sl (.one (.sl (.one (.int .i64))))]⟩, nres := 1, ms := [], mu := [], leak := true, glob := false, F := fun (x : ((List QSym) × (List Int))) => term_Pieces x.1 x.2 }
-- term.Pieces
noncomputable def term_Pieces_g : List (Nat × Con) := [(129, .gen (altE [term_Skip_c]))]
noncomputable def term_Pieces_v : Env := envOf tb gl term_Pieces_g term_Pieces_c Tryz.f94.ntmps
theorem term_Pieces_gs : Goods Tryz.prog (cond term_Pieces_c.glob gl fun _ => none) term_Pieces_g := (goods_cons (good_alt (alls_cons (term_Skip_ok.anyGl rfl) alls_nil)) goods_nil)
noncomputable def term_Pieces_u0_h : SS := ⟨[0, 1, 5, 6], ⟨[.hole, .hole, (.view 0), .hole], [.seq false], [1, 1, 2, 0], [.sl tSym, .sl (.one (.int .i64)), .int .i64, .sl (.one (.sl (.one (.int .i64))))]⟩⟩
noncomputable def term_Pieces_u0_e : Exs := [((.exit 0), ⟨[5], ⟨[(.view 0)], [.seq false], [0], [.sl (.one (.sl (.one (.int .i64))))]⟩⟩), (.ret, ⟨[4], ⟨[(.view 0)], [.seq false], [0], [.sl (.one (.sl (.one (.int .i64))))]⟩⟩)]
noncomputable def term_Pieces_u0_a : AC := .run
noncomputable def term_Pieces_u0 : Un := lpU term_Pieces_v.fz [9, 10, 11, 12, 14, 15, 16, 17, 13, 18, 19, 7, 8, 20, 21, 22, 4, 23, 24, 25, 26, 27, 28, 29, 5, 30, 6] term_Pieces_u0_h term_Pieces_u0_e (lp term_Pieces_L0 fuel)
theorem term_Pieces_u0_s (f : term_Pieces_u0_h.X → Option (YT term_Pieces_u0_e)) (x : term_Pieces_u0_h.X) : E term_Pieces_v (subC (bodyOf Tryz.f94) [1, 1, 0, 1, 0, 0]) (term_Pieces_u0_a) (mkS term_Pieces_u0_h 8 x) (roundK term_Pieces_v.fz term_Pieces_u0_h term_Pieces_u0_e f) = term_Pieces_L0 f x := by kernel_rfl
theorem term_Pieces_u0_ok {X : Fx} (hX : VOk Tryz.prog X term_Pieces_v) : UnOk Tryz.prog X term_Pieces_v (subC (bodyOf Tryz.f94) [1, 1, 0, 1, 0]) term_Pieces_u0 :=
  lp_un' (c := (subC (bodyOf Tryz.f94) [1, 1, 0, 1, 0, 0])) (by kernel_rfl) (env_all tb_ok (term_Pieces_gs)) hord (ob := []) (by kernel_rfl) (fun X hX => obl_nil) (term_Pieces_u0_s) (by kernel_rfl) (by kernel_rfl) hX
noncomputable def term_Pieces_a : AC := (.seq .run (.seq .run (.seq (.seq .run (.block (.unit term_Pieces_u0))) .run)))
theorem term_Pieces_s (x : TupL term_Pieces_c.inp.hs) : E term_Pieces_v (bodyOf Tryz.f94) (term_Pieces_a) (term_Pieces_c.entry x) (retSK tb term_Pieces_v.fz term_Pieces_c [.tmp 4] x) = term_Pieces_c.F x := by kernel_rfl
theorem term_Pieces_ok : ShOk Tryz.prog gl 94 term_Pieces_c :=
  fn_ok (l := term_Pieces_g) (n := Tryz.f94.ntmps) (code := bodyOf Tryz.f94) (rts := [.tmp 4]) tb_ok hord (term_Pieces_gs) Tryz.func94 (by kernel_rfl) (by kernel_rfl) rfl (by kernel_rfl) (ac := term_Pieces_a) (ob := [((subC (bodyOf Tryz.f94) [1, 1, 0, 1, 0]), term_Pieces_u0)]) (by kernel_rfl) (fun X hX => (obl_cons (term_Pieces_u0_ok hX) obl_nil)) (by kernel_rfl) (term_Pieces_s)

noncomputable def strconv_Itoa_c : ShC := itoaC
-- strconv.Itoa
theorem strconv_Itoa_ok : ShOk Tryz.prog gl 95 strconv_Itoa_c :=
  itoa_ok (code := bodyOf Tryz.f95) Tryz.func95 (by kernel_rfl) (by kernel_rfl) (Nat.le_of_ble_eq_true (by kernel_rfl)) fun i hi w => Tryz.strconv_Itoa_small i hi w

noncomputable def strings_Join_c : ShC := joinC
-- strings.Join
theorem strings_Join_ok : ShOk Tryz.prog gl 57 strings_Join_c :=
  join_ok (code := bodyOf Tryz.f57) Tryz.func57 (by kernel_rfl) (by kernel_rfl) (Nat.le_of_ble_eq_true (by kernel_rfl)) Tryz.strings_Join_none Tryz.strings_Join

noncomputable def formula_ShowTerms_ck (k : Nat) : ShC := { inp := ⟨[.hole, .hole], [], [1, 1], [.sl tSym, .sl (.one (.int .i64))]⟩, out := ⟨[.hole], [], [2], [.str]⟩, nres := 1, ms := [], mu := [], leak := false, glob := false, F := (formula_ShowTerms_R k) }
noncomputable def formula_ShowTerms_c : ShC := { inp := ⟨[.hole, .hole], [], [1, 1], [.sl tSym, .sl (.one (.int .i64))]⟩, out := ⟨[.hole], [], [2], [.str]⟩, nres := 1, ms := [], mu := [], leak := false, glob := false, F := fun (x : ((List QSym) × (List Int))) => formula_ShowTerms x.1 x.2 }
def formula_ShowTerms_R_H (k : Nat) : Prop := ShOk Tryz.prog gl 55 (formula_ShowTerms_ck k)
-- formula.ShowTerms
noncomputable def formula_ShowTerms_g (k : Nat) : List (Nat × Con) := [(35, .gen (altE [term_Number_c])), (55, .gen (altE [formula_ShowTerms_ck k])), (57, .gen (altE [strings_Join_c])), (94, .gen (altE [term_Pieces_c])), (95, .gen (altE [strconv_Itoa_c]))]
noncomputable def formula_ShowTerms_v (k : Nat) : Env := envOf tb gl (formula_ShowTerms_g k) (formula_ShowTerms_ck (k + 1)) Tryz.f55.ntmps
theorem formula_ShowTerms_gs (k : Nat) (h : formula_ShowTerms_R_H k) : Goods Tryz.prog (cond (formula_ShowTerms_ck (k + 1)).glob gl fun _ => none) (formula_ShowTerms_g k) := (goods_cons (good_alt (alls_cons (term_Number_ok.anyGl rfl) alls_nil)) (goods_cons (good_alt (alls_cons (h.anyGl rfl) alls_nil)) (goods_cons (good_alt (alls_cons (strings_Join_ok.anyGl rfl) alls_nil)) (goods_cons (good_alt (alls_cons (term_Pieces_ok.anyGl rfl) alls_nil)) (goods_cons (good_alt (alls_cons (strconv_Itoa_ok.anyGl rfl) alls_nil)) goods_nil)))))
noncomputable def formula_ShowTerms_u0_h : SS := ⟨[0, 5, 10, 11, 12], ⟨[.hole, (.view 0), .hole, .hole, .hole], [.seq false], [1, 0, 2, 2, 2], [.sl tSym, .sl (.one (.sl (.one (.int .i64)))), .int .i64, .int .i64, .sl (.one .str)]⟩⟩
noncomputable def formula_ShowTerms_u0_e : Exs := [((.exit 0), ⟨[5], ⟨[(.view 0)], [.seq false], [2], [.sl (.one .str)]⟩⟩)]
noncomputable def formula_ShowTerms_u0_a (k : Nat) : AC := .run
noncomputable def formula_ShowTerms_u0 (k : Nat) : Un := lpU (formula_ShowTerms_v k).fz [13, 14, 15, 7, 34, 35, 36, 37, 33, 38, 39, 40, 41, 42, 43, 44, 45, 46, 5, 48, 49, 50, 47, 51, 52, 53, 54, 55, 56, 57, 58, 59, 60, 5, 16, 17, 18, 19, 20, 21, 22, 23, 24, 25, 26, 27, 28, 29, 30, 31, 32, 5, 61, 12] formula_ShowTerms_u0_h formula_ShowTerms_u0_e (lp (formula_ShowTerms_L0 (formula_ShowTerms_R k)) fuel)
theorem formula_ShowTerms_u0_s (k : Nat) (f : formula_ShowTerms_u0_h.X → Option (YT formula_ShowTerms_u0_e)) (x : formula_ShowTerms_u0_h.X) : E (formula_ShowTerms_v k) (subC (bodyOf Tryz.f55) [1, 1, 0, 1, 0, 0]) (formula_ShowTerms_u0_a k) (mkS formula_ShowTerms_u0_h 8 x) (roundK (formula_ShowTerms_v k).fz formula_ShowTerms_u0_h formula_ShowTerms_u0_e f) = (formula_ShowTerms_L0 (formula_ShowTerms_R k)) f x := by kernel_rfl
theorem formula_ShowTerms_u0_ok (k : Nat) (h : formula_ShowTerms_R_H k) {X : Fx} (hX : VOk Tryz.prog X (formula_ShowTerms_v k)) : UnOk Tryz.prog X (formula_ShowTerms_v k) (subC (bodyOf Tryz.f55) [1, 1, 0, 1, 0]) (formula_ShowTerms_u0 k) :=
  lp_un' (c := (subC (bodyOf Tryz.f55) [1, 1, 0, 1, 0, 0])) (by kernel_rfl) (env_all tb_ok (formula_ShowTerms_gs k h)) hord (ob := []) (by kernel_rfl) (fun X hX => obl_nil) (formula_ShowTerms_u0_s k) (by kernel_rfl) (by kernel_rfl) hX
noncomputable def formula_ShowTerms_a (k : Nat) : AC := (.seq .run (.seq .run (.seq (.seq .run (.block (.unit (formula_ShowTerms_u0 k)))) .run)))
theorem formula_ShowTerms_s (k : Nat) (x : TupL (formula_ShowTerms_ck (k + 1)).inp.hs) : E (formula_ShowTerms_v k) (bodyOf Tryz.f55) (formula_ShowTerms_a k) ((formula_ShowTerms_ck (k + 1)).entry x) (retSK tb (formula_ShowTerms_v k).fz (formula_ShowTerms_ck (k + 1)) [.tmp 4] x) = (formula_ShowTerms_ck (k + 1)).F x := by kernel_rfl
theorem formula_ShowTerms_ok1 (k : Nat) (h : formula_ShowTerms_R_H k) : ShOk Tryz.prog gl 55 (formula_ShowTerms_ck (k + 1)) :=
  fn_ok (l := formula_ShowTerms_g k) (n := Tryz.f55.ntmps) (code := bodyOf Tryz.f55) (rts := [.tmp 4]) tb_ok hord (formula_ShowTerms_gs k h) Tryz.func55 (by kernel_rfl) (by kernel_rfl) rfl (by kernel_rfl) (ac := formula_ShowTerms_a k) (ob := [((subC (bodyOf Tryz.f55) [1, 1, 0, 1, 0]), formula_ShowTerms_u0 k)]) (by kernel_rfl) (fun X hX => (obl_cons (formula_ShowTerms_u0_ok k h hX) obl_nil)) (by kernel_rfl) (formula_ShowTerms_s k)

theorem formula_ShowTerms_R_all : ∀ k, formula_ShowTerms_R_H k
  | 0 => ⟨by kernel_rfl, fun w A g vs x y _ _ _ h => by cases h⟩
  | k + 1 => have h := formula_ShowTerms_R_all k; formula_ShowTerms_ok1 k h
theorem formula_ShowTerms_ok : ShOk Tryz.prog gl 55 formula_ShowTerms_c := (formula_ShowTerms_R_all fuel)

noncomputable def formula_ShowAtom_c : ShC := { inp := ⟨[.hole, .hole], [], [1, 1], [.sl tSym, .sl (.one (.int .i64))]⟩, out := ⟨[.hole], [], [2], [.str]⟩, nres := 1, ms := [], mu := [], leak := false, glob := false, F := fun (x : ((List QSym) × (List Int))) => formula_ShowAtom x.1 x.2 }
-- formula.ShowAtom
noncomputable def formula_ShowAtom_g : List (Nat × Con) := [(55, .gen (altE [formula_ShowTerms_c])), (94, .gen (altE [term_Pieces_c]))]
noncomputable def formula_ShowAtom_v : Env := envOf tb gl formula_ShowAtom_g formula_ShowAtom_c Tryz.f56.ntmps
theorem formula_ShowAtom_gs : Goods Tryz.prog (cond formula_ShowAtom_c.glob gl fun _ => none) formula_ShowAtom_g := (goods_cons (good_alt (alls_cons (formula_ShowTerms_ok.anyGl rfl) alls_nil)) (goods_cons (good_alt (alls_cons (term_Pieces_ok.anyGl rfl) alls_nil)) goods_nil))
noncomputable def formula_ShowAtom_a : AC := .run
theorem formula_ShowAtom_s (x : TupL formula_ShowAtom_c.inp.hs) : E formula_ShowAtom_v (bodyOf Tryz.f56) (formula_ShowAtom_a) (formula_ShowAtom_c.entry x) (retSK tb formula_ShowAtom_v.fz formula_ShowAtom_c [.tmp 4] x) = formula_ShowAtom_c.F x := by kernel_rfl
theorem formula_ShowAtom_ok : ShOk Tryz.prog gl 56 formula_ShowAtom_c :=
  fn_ok (l := formula_ShowAtom_g) (n := Tryz.f56.ntmps) (code := bodyOf Tryz.f56) (rts := [.tmp 4]) tb_ok hord (formula_ShowAtom_gs) Tryz.func56 (by kernel_rfl) (by kernel_rfl) rfl (by kernel_rfl) (ac := formula_ShowAtom_a) (ob := []) (by kernel_rfl) (fun X hX => obl_nil) (by kernel_rfl) (formula_ShowAtom_s)

noncomputable def ask_Show_c : ShC := { inp := ⟨[.hole, (.agg [.hole, .hole, .hole])], [], [1, 1, 1, 1], [.sl tSym, .sl tLit, .sl (.one (.sl (.one (.int .i64)))), .sl tLit]⟩, out := ⟨[.hole, .hole], [], [2, 2], [.str, .int .i64]⟩, nres := 2, ms := [], mu := [], leak := false, glob := true, F := fun (x : ((List QSym) × (List QLit) × (List (List Int)) × (List QLit))) => ask_Show x.1 x.2.1 x.2.2.1 x.2.2.2 }
-- ask.Show
noncomputable def ask_Show_g : List (Nat × Con) := [(48, .gen (altE [clause_May_c])), (55, .gen (altE [formula_ShowTerms_c])), (56, .gen (altE [formula_ShowAtom_c])), (57, .gen (altE [strings_Join_c]))]
noncomputable def ask_Show_v : Env := envOf tb gl ask_Show_g ask_Show_c Tryz.f20.ntmps
theorem ask_Show_gs : Goods Tryz.prog (cond ask_Show_c.glob gl fun _ => none) ask_Show_g := (goods_cons (good_alt (alls_cons clause_May_ok alls_nil)) (goods_cons (good_alt (alls_cons (formula_ShowTerms_ok.anyGl rfl) alls_nil)) (goods_cons (good_alt (alls_cons (formula_ShowAtom_ok.anyGl rfl) alls_nil)) (goods_cons (good_alt (alls_cons (strings_Join_ok.anyGl rfl) alls_nil)) goods_nil))))
noncomputable def ask_Show_u1_h : SS := ⟨[0, 6, 7, 47, 48, 49], ⟨[.hole, .hole, (.view 0), .hole, .hole, .hole], [.seq false], [1, 2, 1, 2, 2, 2], [.sl tSym, .sl (.one .str), .sl tLit, .int .i64, .int .i64, .sl (.one .str)]⟩⟩
noncomputable def ask_Show_u1_e : Exs := [((.exit 2), ⟨[7], ⟨[(.view 0)], [.seq false], [2], [.sl (.one .str)]⟩⟩)]
noncomputable def ask_Show_u1_a : AC := .run
noncomputable def ask_Show_u1 : Un := lpU ask_Show_v.fz [50, 51, 52, 11, 53, 54, 55, 56, 12, 57, 58, 59, 60, 12, 61, 62, 63, 64, 7, 65, 49] ask_Show_u1_h ask_Show_u1_e (lp ask_Show_L1 fuel)
theorem ask_Show_u1_s (f : ask_Show_u1_h.X → Option (YT ask_Show_u1_e)) (x : ask_Show_u1_h.X) : E ask_Show_v (subC (bodyOf Tryz.f20) [1, 1, 1, 1, 0, 1, 0, 0]) (ask_Show_u1_a) (mkS ask_Show_u1_h 8 x) (roundK ask_Show_v.fz ask_Show_u1_h ask_Show_u1_e f) = ask_Show_L1 f x := by kernel_rfl
theorem ask_Show_u1_ok {X : Fx} (hX : VOk Tryz.prog X ask_Show_v) : UnOk Tryz.prog X ask_Show_v (subC (bodyOf Tryz.f20) [1, 1, 1, 1, 0, 1, 0]) ask_Show_u1 :=
  lp_un' (c := (subC (bodyOf Tryz.f20) [1, 1, 1, 1, 0, 1, 0, 0])) (by kernel_rfl) (env_all tb_ok (ask_Show_gs)) hord (ob := []) (by kernel_rfl) (fun X hX => obl_nil) (ask_Show_u1_s) (by kernel_rfl) (by kernel_rfl) hX
noncomputable def ask_Show_u0_h : SS := ⟨[0, 3, 6, 7, 31, 32, 33], ⟨[.hole, (.ptr 0 0), (.view 1), .nilv, .hole, .hole, .hole], [.cells true [.hole, .hole, .hole], .seq false], [1, 1, 2, 2, 1, 1, 1, 2], [.sl tSym, .sl (.one (.sl (.one (.int .i64)))), .int .i64, .int .i64, .sl tLit, .sl (.one (.sl (.one (.int .i64)))), .sl tLit, .sl (.one .str)]⟩⟩
noncomputable def ask_Show_u0_e : Exs := [((.exit 0), ⟨[6], ⟨[(.view 0)], [.seq false], [2], [.sl (.one .str)]⟩⟩)]
noncomputable def ask_Show_u0_a : AC := .run
noncomputable def ask_Show_u0 : Un := lpU ask_Show_v.fz [34, 35, 36, 9, 37, 38, 39, 40, 41, 42, 43, 44, 6, 45, 33] ask_Show_u0_h ask_Show_u0_e (lp ask_Show_L0 fuel)
theorem ask_Show_u0_s (f : ask_Show_u0_h.X → Option (YT ask_Show_u0_e)) (x : ask_Show_u0_h.X) : E ask_Show_v (subC (bodyOf Tryz.f20) [1, 1, 1, 0, 1, 0, 0]) (ask_Show_u0_a) (mkS ask_Show_u0_h 8 x) (roundK ask_Show_v.fz ask_Show_u0_h ask_Show_u0_e f) = ask_Show_L0 f x := by kernel_rfl
theorem ask_Show_u0_ok {X : Fx} (hX : VOk Tryz.prog X ask_Show_v) : UnOk Tryz.prog X ask_Show_v (subC (bodyOf Tryz.f20) [1, 1, 1, 0, 1, 0]) ask_Show_u0 :=
  lp_un' (c := (subC (bodyOf Tryz.f20) [1, 1, 1, 0, 1, 0, 0])) (by kernel_rfl) (env_all tb_ok (ask_Show_gs)) hord (ob := []) (by kernel_rfl) (fun X hX => obl_nil) (ask_Show_u0_s) (by kernel_rfl) (by kernel_rfl) hX
noncomputable def ask_Show_a : AC := (.seq .run (.seq .run (.seq .run (.seq (.seq .run (.block (.unit ask_Show_u0))) (.seq (.seq .run (.block (.unit ask_Show_u1))) .run)))))
theorem ask_Show_s (x : TupL ask_Show_c.inp.hs) : E ask_Show_v (bodyOf Tryz.f20) (ask_Show_a) (ask_Show_c.entry x) (retSK tb ask_Show_v.fz ask_Show_c [.tmp 4, .tmp 5] x) = ask_Show_c.F x := by kernel_rfl
theorem ask_Show_ok : ShOk Tryz.prog gl 20 ask_Show_c :=
  fn_ok (l := ask_Show_g) (n := Tryz.f20.ntmps) (code := bodyOf Tryz.f20) (rts := [.tmp 4, .tmp 5]) tb_ok hord (ask_Show_gs) Tryz.func20 (by kernel_rfl) (by kernel_rfl) rfl (by kernel_rfl) (ac := ask_Show_a) (ob := [((subC (bodyOf Tryz.f20) [1, 1, 1, 0, 1, 0]), ask_Show_u0), ((subC (bodyOf Tryz.f20) [1, 1, 1, 1, 0, 1, 0]), ask_Show_u1)]) (by kernel_rfl) (fun X hX => (obl_cons (ask_Show_u0_ok hX) (obl_cons (ask_Show_u1_ok hX) obl_nil))) (by kernel_rfl) (ask_Show_s)

noncomputable def ref1_behind_c : ShC := { inp := ⟨[.hole, .hole, .hole], [], [1, 1, 1], [.sl tSym, .sl (.one (.int .i64)), .int .i64]⟩, out := ⟨[.hole], [], [2], [.int .i64]⟩, nres := 1, ms := [], mu := [], leak := false, glob := false, F := fun (x : ((List QSym) × (List Int) × Int)) => ref1_behind x.1 x.2.1 x.2.2 }
-- quaereref1.behind
noncomputable def ref1_behind_g : List (Nat × Con) := []
noncomputable def ref1_behind_v : Env := envOf tb gl ref1_behind_g ref1_behind_c Tryz.f133.ntmps
theorem ref1_behind_gs : Goods Tryz.prog (cond ref1_behind_c.glob gl fun _ => none) ref1_behind_g := goods_nil
noncomputable def ref1_behind_u0_h : SS := ⟨[0, 1, 7, 8], ⟨[.hole, .hole, .hole, .hole], [], [1, 1, 2, 2], [.sl tSym, .sl (.one (.int .i64)), .int .i64, .int .i64]⟩⟩
noncomputable def ref1_behind_u0_e : Exs := [((.exit 0), ⟨[8], ⟨[.hole], [], [2], [.int .i64]⟩⟩)]
noncomputable def ref1_behind_u0_a : AC := .run
noncomputable def ref1_behind_u0 : Un := lpU ref1_behind_v.fz [10, 11, 12, 13, 7, 14, 15, 16, 17, 18, 19, 20, 21, 22, 23, 24, 25, 26, 27, 28, 7, 29, 30, 8] ref1_behind_u0_h ref1_behind_u0_e (lp ref1_behind_L0 fuel)
theorem ref1_behind_u0_s (f : ref1_behind_u0_h.X → Option (YT ref1_behind_u0_e)) (x : ref1_behind_u0_h.X) : E ref1_behind_v (subC (bodyOf Tryz.f133) [1, 1, 0, 0, 0]) (ref1_behind_u0_a) (mkS ref1_behind_u0_h 8 x) (roundK ref1_behind_v.fz ref1_behind_u0_h ref1_behind_u0_e f) = ref1_behind_L0 f x := by kernel_rfl
theorem ref1_behind_u0_ok {X : Fx} (hX : VOk Tryz.prog X ref1_behind_v) : UnOk Tryz.prog X ref1_behind_v (subC (bodyOf Tryz.f133) [1, 1, 0, 0]) ref1_behind_u0 :=
  lp_un' (c := (subC (bodyOf Tryz.f133) [1, 1, 0, 0, 0])) (by kernel_rfl) (env_all tb_ok (ref1_behind_gs)) hord (ob := []) (by kernel_rfl) (fun X hX => obl_nil) (ref1_behind_u0_s) (by kernel_rfl) (by kernel_rfl) hX
noncomputable def ref1_behind_a : AC := (.seq .run (.seq .run (.seq (.block (.unit ref1_behind_u0)) .run)))
theorem ref1_behind_s (x : TupL ref1_behind_c.inp.hs) : E ref1_behind_v (bodyOf Tryz.f133) (ref1_behind_a) (ref1_behind_c.entry x) (retSK tb ref1_behind_v.fz ref1_behind_c [.tmp 6] x) = ref1_behind_c.F x := by kernel_rfl
theorem ref1_behind_ok : ShOk Tryz.prog gl 133 ref1_behind_c :=
  fn_ok (l := ref1_behind_g) (n := Tryz.f133.ntmps) (code := bodyOf Tryz.f133) (rts := [.tmp 6]) tb_ok hord (ref1_behind_gs) Tryz.func133 (by kernel_rfl) (by kernel_rfl) rfl (by kernel_rfl) (ac := ref1_behind_a) (ob := [((subC (bodyOf Tryz.f133) [1, 1, 0, 0]), ref1_behind_u0)]) (by kernel_rfl) (fun X hX => (obl_cons (ref1_behind_u0_ok hX) obl_nil)) (by kernel_rfl) (ref1_behind_s)

noncomputable def ref1_Parts_c : ShC := { inp := ⟨[.hole, .hole], [], [1, 1], [.sl tSym, .sl (.one (.int .i64))]⟩, out := ⟨[(.view 0)], [.seq false], [0], [.sl (.one (.sl (.one (.int .i64))))]⟩, nres := 1, ms := [], mu := [], leak := true, glob := false, F := fun (x : ((List QSym) × (List Int))) => ref1_Parts x.1 x.2 }
-- quaereref1.Parts
noncomputable def ref1_Parts_g : List (Nat × Con) := [(133, .gen (altE [ref1_behind_c]))]
noncomputable def ref1_Parts_v : Env := envOf tb gl ref1_Parts_g ref1_Parts_c Tryz.f99.ntmps
theorem ref1_Parts_gs : Goods Tryz.prog (cond ref1_Parts_c.glob gl fun _ => none) ref1_Parts_g := (goods_cons (good_alt (alls_cons (ref1_behind_ok.anyGl rfl) alls_nil)) goods_nil)
noncomputable def ref1_Parts_u0_h : SS := ⟨[0, 1, 5, 6], ⟨[.hole, .hole, (.view 0), .hole], [.seq false], [1, 1, 2, 0], [.sl tSym, .sl (.one (.int .i64)), .int .i64, .sl (.one (.sl (.one (.int .i64))))]⟩⟩
noncomputable def ref1_Parts_u0_e : Exs := [((.exit 0), ⟨[5], ⟨[(.view 0)], [.seq false], [0], [.sl (.one (.sl (.one (.int .i64))))]⟩⟩)]
noncomputable def ref1_Parts_u0_a : AC := .run
noncomputable def ref1_Parts_u0 : Un := lpU ref1_Parts_v.fz [8, 9, 10, 11, 12, 13, 14, 15, 7, 16, 17, 18, 19, 20, 21, 22, 5, 23, 6] ref1_Parts_u0_h ref1_Parts_u0_e (lp ref1_Parts_L0 fuel)
theorem ref1_Parts_u0_s (f : ref1_Parts_u0_h.X → Option (YT ref1_Parts_u0_e)) (x : ref1_Parts_u0_h.X) : E ref1_Parts_v (subC (bodyOf Tryz.f99) [1, 1, 1, 0, 0, 0]) (ref1_Parts_u0_a) (mkS ref1_Parts_u0_h 8 x) (roundK ref1_Parts_v.fz ref1_Parts_u0_h ref1_Parts_u0_e f) = ref1_Parts_L0 f x := by kernel_rfl
theorem ref1_Parts_u0_ok {X : Fx} (hX : VOk Tryz.prog X ref1_Parts_v) : UnOk Tryz.prog X ref1_Parts_v (subC (bodyOf Tryz.f99) [1, 1, 1, 0, 0]) ref1_Parts_u0 :=
  lp_un' (c := (subC (bodyOf Tryz.f99) [1, 1, 1, 0, 0, 0])) (by kernel_rfl) (env_all tb_ok (ref1_Parts_gs)) hord (ob := []) (by kernel_rfl) (fun X hX => obl_nil) (ref1_Parts_u0_s) (by kernel_rfl) (by kernel_rfl) hX
noncomputable def ref1_Parts_a : AC := (.seq .run (.seq .run (.seq .run (.seq (.block (.unit ref1_Parts_u0)) .run))))
theorem ref1_Parts_s (x : TupL ref1_Parts_c.inp.hs) : E ref1_Parts_v (bodyOf Tryz.f99) (ref1_Parts_a) (ref1_Parts_c.entry x) (retSK tb ref1_Parts_v.fz ref1_Parts_c [.tmp 4] x) = ref1_Parts_c.F x := by kernel_rfl
theorem ref1_Parts_ok : ShOk Tryz.prog gl 99 ref1_Parts_c :=
  fn_ok (l := ref1_Parts_g) (n := Tryz.f99.ntmps) (code := bodyOf Tryz.f99) (rts := [.tmp 4]) tb_ok hord (ref1_Parts_gs) Tryz.func99 (by kernel_rfl) (by kernel_rfl) rfl (by kernel_rfl) (ac := ref1_Parts_a) (ob := [((subC (bodyOf Tryz.f99) [1, 1, 1, 0, 0]), ref1_Parts_u0)]) (by kernel_rfl) (fun X hX => (obl_cons (ref1_Parts_u0_ok hX) obl_nil)) (by kernel_rfl) (ref1_Parts_s)

noncomputable def ref17_Decimal_ck (k : Nat) : ShC := { inp := ⟨[.hole], [], [1], [.int .i64]⟩, out := ⟨[.hole], [], [2], [.str]⟩, nres := 1, ms := [], mu := [], leak := false, glob := false, F := (ref17_Decimal_R k) }
noncomputable def ref17_Decimal_c : ShC := { inp := ⟨[.hole], [], [1], [.int .i64]⟩, out := ⟨[.hole], [], [2], [.str]⟩, nres := 1, ms := [], mu := [], leak := false, glob := false, F := fun (x : Int) => ref17_Decimal x }
def ref17_Decimal_R_H (k : Nat) : Prop := ShOk Tryz.prog gl 134 (ref17_Decimal_ck k)
-- quaereref17.Decimal
noncomputable def ref17_Decimal_g (k : Nat) : List (Nat × Con) := [(134, .gen (altE [ref17_Decimal_ck k]))]
noncomputable def ref17_Decimal_v (k : Nat) : Env := envOf tb gl (ref17_Decimal_g k) (ref17_Decimal_ck (k + 1)) Tryz.f134.ntmps
theorem ref17_Decimal_gs (k : Nat) (h : ref17_Decimal_R_H k) : Goods Tryz.prog (cond (ref17_Decimal_ck (k + 1)).glob gl fun _ => none) (ref17_Decimal_g k) := (goods_cons (good_alt (alls_cons (h.anyGl rfl) alls_nil)) goods_nil)
noncomputable def ref17_Decimal_a (k : Nat) : AC := .run
theorem ref17_Decimal_s (k : Nat) (x : TupL (ref17_Decimal_ck (k + 1)).inp.hs) : E (ref17_Decimal_v k) (bodyOf Tryz.f134) (ref17_Decimal_a k) ((ref17_Decimal_ck (k + 1)).entry x) (retSK tb (ref17_Decimal_v k).fz (ref17_Decimal_ck (k + 1)) [.tmp 2] x) = (ref17_Decimal_ck (k + 1)).F x := by kernel_rfl
theorem ref17_Decimal_ok1 (k : Nat) (h : ref17_Decimal_R_H k) : ShOk Tryz.prog gl 134 (ref17_Decimal_ck (k + 1)) :=
  fn_ok (l := ref17_Decimal_g k) (n := Tryz.f134.ntmps) (code := bodyOf Tryz.f134) (rts := [.tmp 2]) tb_ok hord (ref17_Decimal_gs k h) Tryz.func134 (by kernel_rfl) (by kernel_rfl) rfl (by kernel_rfl) (ac := ref17_Decimal_a k) (ob := []) (by kernel_rfl) (fun X hX => obl_nil) (by kernel_rfl) (ref17_Decimal_s k)

theorem ref17_Decimal_R_all : ∀ k, ref17_Decimal_R_H k
  | 0 => ⟨by kernel_rfl, fun w A g vs x y _ _ _ h => by cases h⟩
  | k + 1 => have h := ref17_Decimal_R_all k; ref17_Decimal_ok1 k h
theorem ref17_Decimal_ok : ShOk Tryz.prog gl 134 ref17_Decimal_c := (ref17_Decimal_R_all fuel)

noncomputable def ref21_Args_ck (k : Nat) : ShC := { inp := ⟨[.hole, .hole], [], [1, 1], [.sl tSym, .sl (.one (.int .i64))]⟩, out := ⟨[.hole], [], [2], [.str]⟩, nres := 1, ms := [], mu := [], leak := false, glob := false, F := (ref21_Terms_R k).1 }
noncomputable def ref21_Args_c : ShC := { inp := ⟨[.hole, .hole], [], [1, 1], [.sl tSym, .sl (.one (.int .i64))]⟩, out := ⟨[.hole], [], [2], [.str]⟩, nres := 1, ms := [], mu := [], leak := false, glob := false, F := fun (x : ((List QSym) × (List Int))) => ref21_Args x.1 x.2 }
noncomputable def ref21_Term_ck (k : Nat) : ShC := { inp := ⟨[.hole, .hole], [], [1, 1], [.sl tSym, .sl (.one (.int .i64))]⟩, out := ⟨[.hole], [], [2], [.str]⟩, nres := 1, ms := [], mu := [], leak := false, glob := false, F := (ref21_Terms_R k).2.1 }
noncomputable def ref21_Term_c : ShC := { inp := ⟨[.hole, .hole], [], [1, 1], [.sl tSym, .sl (.one (.int .i64))]⟩, out := ⟨[.hole], [], [2], [.str]⟩, nres := 1, ms := [], mu := [], leak := false, glob := false, F := fun (x : ((List QSym) × (List Int))) => ref21_Term x.1 x.2 }
noncomputable def ref21_Terms_ck (k : Nat) : ShC := { inp := ⟨[.hole, .hole], [], [1, 1], [.sl tSym, .sl (.one (.int .i64))]⟩, out := ⟨[.hole], [], [2], [.str]⟩, nres := 1, ms := [], mu := [], leak := false, glob := false, F := (ref21_Terms_R k).2.2 }
noncomputable def ref21_Terms_c : ShC := { inp := ⟨[.hole, .hole], [], [1, 1], [.sl tSym, .sl (.one (.int .i64))]⟩, out := ⟨[.hole], [], [2], [.str]⟩, nres := 1, ms := [], mu := [], leak := false, glob := false, F := fun (x : ((List QSym) × (List Int))) => ref21_Terms x.1 x.2 }
def ref21_Terms_R_H (k : Nat) : Prop := ShOk Tryz.prog gl 101 (ref21_Args_ck k) ∧ ShOk Tryz.prog gl 100 (ref21_Term_ck k) ∧ ShOk Tryz.prog gl 58 (ref21_Terms_ck k)
-- quaereref21.Args
noncomputable def ref21_Args_g (k : Nat) : List (Nat × Con) := [(58, .gen (altE [ref21_Terms_ck k]))]
noncomputable def ref21_Args_v (k : Nat) : Env := envOf tb gl (ref21_Args_g k) (ref21_Args_ck (k + 1)) Tryz.f101.ntmps
theorem ref21_Args_gs (k : Nat) (h : ref21_Terms_R_H k) : Goods Tryz.prog (cond (ref21_Args_ck (k + 1)).glob gl fun _ => none) (ref21_Args_g k) := (goods_cons (good_alt (alls_cons (h.2.2.anyGl rfl) alls_nil)) goods_nil)
noncomputable def ref21_Args_a (k : Nat) : AC := .run
theorem ref21_Args_s (k : Nat) (x : TupL (ref21_Args_ck (k + 1)).inp.hs) : E (ref21_Args_v k) (bodyOf Tryz.f101) (ref21_Args_a k) ((ref21_Args_ck (k + 1)).entry x) (retSK tb (ref21_Args_v k).fz (ref21_Args_ck (k + 1)) [.tmp 4] x) = (ref21_Args_ck (k + 1)).F x := by kernel_rfl
theorem ref21_Args_ok1 (k : Nat) (h : ref21_Terms_R_H k) : ShOk Tryz.prog gl 101 (ref21_Args_ck (k + 1)) :=
  fn_ok (l := ref21_Args_g k) (n := Tryz.f101.ntmps) (code := bodyOf Tryz.f101) (rts := [.tmp 4]) tb_ok hord (ref21_Args_gs k h) Tryz.func101 (by kernel_rfl) (by kernel_rfl) rfl (by kernel_rfl) (ac := ref21_Args_a k) (ob := []) (by kernel_rfl) (fun X hX => obl_nil) (by kernel_rfl) (ref21_Args_s k)

-- quaereref21.Term
noncomputable def ref21_Term_g (k : Nat) : List (Nat × Con) := [(101, .gen (altE [ref21_Args_ck k])), (134, .gen (altE [ref17_Decimal_c]))]
noncomputable def ref21_Term_v (k : Nat) : Env := envOf tb gl (ref21_Term_g k) (ref21_Term_ck (k + 1)) Tryz.f100.ntmps
theorem ref21_Term_gs (k : Nat) (h : ref21_Terms_R_H k) : Goods Tryz.prog (cond (ref21_Term_ck (k + 1)).glob gl fun _ => none) (ref21_Term_g k) := (goods_cons (good_alt (alls_cons (h.1.anyGl rfl) alls_nil)) (goods_cons (good_alt (alls_cons (ref17_Decimal_ok.anyGl rfl) alls_nil)) goods_nil))
noncomputable def ref21_Term_a (k : Nat) : AC := .run
theorem ref21_Term_s (k : Nat) (x : TupL (ref21_Term_ck (k + 1)).inp.hs) : E (ref21_Term_v k) (bodyOf Tryz.f100) (ref21_Term_a k) ((ref21_Term_ck (k + 1)).entry x) (retSK tb (ref21_Term_v k).fz (ref21_Term_ck (k + 1)) [.tmp 4] x) = (ref21_Term_ck (k + 1)).F x := by kernel_rfl
theorem ref21_Term_ok1 (k : Nat) (h : ref21_Terms_R_H k) : ShOk Tryz.prog gl 100 (ref21_Term_ck (k + 1)) :=
  fn_ok (l := ref21_Term_g k) (n := Tryz.f100.ntmps) (code := bodyOf Tryz.f100) (rts := [.tmp 4]) tb_ok hord (ref21_Term_gs k h) Tryz.func100 (by kernel_rfl) (by kernel_rfl) rfl (by kernel_rfl) (ac := ref21_Term_a k) (ob := []) (by kernel_rfl) (fun X hX => obl_nil) (by kernel_rfl) (ref21_Term_s k)

-- quaereref21.Terms
noncomputable def ref21_Terms_g (k : Nat) : List (Nat × Con) := [(99, .gen (altE [ref1_Parts_c])), (100, .gen (altE [ref21_Term_ck k]))]
noncomputable def ref21_Terms_v (k : Nat) : Env := envOf tb gl (ref21_Terms_g k) (ref21_Terms_ck (k + 1)) Tryz.f58.ntmps
theorem ref21_Terms_gs (k : Nat) (h : ref21_Terms_R_H k) : Goods Tryz.prog (cond (ref21_Terms_ck (k + 1)).glob gl fun _ => none) (ref21_Terms_g k) := (goods_cons (good_alt (alls_cons (ref1_Parts_ok.anyGl rfl) alls_nil)) (goods_cons (good_alt (alls_cons (h.2.1.anyGl rfl) alls_nil)) goods_nil))
noncomputable def ref21_Terms_u0_h : SS := ⟨[0, 5, 6, 7], ⟨[.hole, .hole, .hole, .hole], [], [1, 2, 0, 2], [.sl tSym, .str, .sl (.one (.sl (.one (.int .i64)))), .int .i64]⟩⟩
noncomputable def ref21_Terms_u0_e : Exs := [((.exit 0), ⟨[5], ⟨[.hole], [], [2], [.str]⟩⟩)]
noncomputable def ref21_Terms_u0_a (k : Nat) : AC := .run
noncomputable def ref21_Terms_u0 (k : Nat) : Un := lpU (ref21_Terms_v k).fz [11, 12, 13, 14, 17, 18, 19, 20, 5, 21, 22, 23, 24, 25, 26, 27, 28, 5, 15, 16, 7] ref21_Terms_u0_h ref21_Terms_u0_e (lp (ref21_Terms_L0 (ref21_Terms_R k)) fuel)
theorem ref21_Terms_u0_s (k : Nat) (f : ref21_Terms_u0_h.X → Option (YT ref21_Terms_u0_e)) (x : ref21_Terms_u0_h.X) : E (ref21_Terms_v k) (subC (bodyOf Tryz.f58) [1, 1, 1, 0, 1, 0, 0]) (ref21_Terms_u0_a k) (mkS ref21_Terms_u0_h 8 x) (roundK (ref21_Terms_v k).fz ref21_Terms_u0_h ref21_Terms_u0_e f) = (ref21_Terms_L0 (ref21_Terms_R k)) f x := by kernel_rfl
theorem ref21_Terms_u0_ok (k : Nat) (h : ref21_Terms_R_H k) {X : Fx} (hX : VOk Tryz.prog X (ref21_Terms_v k)) : UnOk Tryz.prog X (ref21_Terms_v k) (subC (bodyOf Tryz.f58) [1, 1, 1, 0, 1, 0]) (ref21_Terms_u0 k) :=
  lp_un' (c := (subC (bodyOf Tryz.f58) [1, 1, 1, 0, 1, 0, 0])) (by kernel_rfl) (env_all tb_ok (ref21_Terms_gs k h)) hord (ob := []) (by kernel_rfl) (fun X hX => obl_nil) (ref21_Terms_u0_s k) (by kernel_rfl) (by kernel_rfl) hX
noncomputable def ref21_Terms_a (k : Nat) : AC := (.seq .run (.seq .run (.seq .run (.seq (.seq .run (.block (.unit (ref21_Terms_u0 k)))) .run))))
theorem ref21_Terms_s (k : Nat) (x : TupL (ref21_Terms_ck (k + 1)).inp.hs) : E (ref21_Terms_v k) (bodyOf Tryz.f58) (ref21_Terms_a k) ((ref21_Terms_ck (k + 1)).entry x) (retSK tb (ref21_Terms_v k).fz (ref21_Terms_ck (k + 1)) [.tmp 4] x) = (ref21_Terms_ck (k + 1)).F x := by kernel_rfl
theorem ref21_Terms_ok1 (k : Nat) (h : ref21_Terms_R_H k) : ShOk Tryz.prog gl 58 (ref21_Terms_ck (k + 1)) :=
  fn_ok (l := ref21_Terms_g k) (n := Tryz.f58.ntmps) (code := bodyOf Tryz.f58) (rts := [.tmp 4]) tb_ok hord (ref21_Terms_gs k h) Tryz.func58 (by kernel_rfl) (by kernel_rfl) rfl (by kernel_rfl) (ac := ref21_Terms_a k) (ob := [((subC (bodyOf Tryz.f58) [1, 1, 1, 0, 1, 0]), ref21_Terms_u0 k)]) (by kernel_rfl) (fun X hX => (obl_cons (ref21_Terms_u0_ok k h hX) obl_nil)) (by kernel_rfl) (ref21_Terms_s k)

theorem ref21_Terms_R_all : ∀ k, ref21_Terms_R_H k
  | 0 => ⟨⟨by kernel_rfl, fun w A g vs x y _ _ _ h => by cases h⟩, ⟨by kernel_rfl, fun w A g vs x y _ _ _ h => by cases h⟩, ⟨by kernel_rfl, fun w A g vs x y _ _ _ h => by cases h⟩⟩
  | k + 1 => have h := ref21_Terms_R_all k; ⟨ref21_Args_ok1 k h, ref21_Term_ok1 k h, ref21_Terms_ok1 k h⟩
theorem ref21_Args_ok : ShOk Tryz.prog gl 101 ref21_Args_c := (ref21_Terms_R_all fuel).1
theorem ref21_Term_ok : ShOk Tryz.prog gl 100 ref21_Term_c := (ref21_Terms_R_all fuel).2.1
theorem ref21_Terms_ok : ShOk Tryz.prog gl 58 ref21_Terms_c := (ref21_Terms_R_all fuel).2.2

noncomputable def ref21_Atom_c : ShC := { inp := ⟨[.hole, .hole], [], [1, 1], [.sl tSym, .sl (.one (.int .i64))]⟩, out := ⟨[.hole], [], [2], [.str]⟩, nres := 1, ms := [], mu := [], leak := false, glob := false, F := fun (x : ((List QSym) × (List Int))) => ref21_Atom x.1 x.2 }
-- quaereref21.Atom
noncomputable def ref21_Atom_g : List (Nat × Con) := [(99, .gen (altE [ref1_Parts_c])), (100, .gen (altE [ref21_Term_c])), (101, .gen (altE [ref21_Args_c]))]
noncomputable def ref21_Atom_v : Env := envOf tb gl ref21_Atom_g ref21_Atom_c Tryz.f59.ntmps
theorem ref21_Atom_gs : Goods Tryz.prog (cond ref21_Atom_c.glob gl fun _ => none) ref21_Atom_g := (goods_cons (good_alt (alls_cons (ref1_Parts_ok.anyGl rfl) alls_nil)) (goods_cons (good_alt (alls_cons (ref21_Term_ok.anyGl rfl) alls_nil)) (goods_cons (good_alt (alls_cons (ref21_Args_ok.anyGl rfl) alls_nil)) goods_nil)))
noncomputable def ref21_Atom_a : AC := .run
theorem ref21_Atom_s (x : TupL ref21_Atom_c.inp.hs) : E ref21_Atom_v (bodyOf Tryz.f59) (ref21_Atom_a) (ref21_Atom_c.entry x) (retSK tb ref21_Atom_v.fz ref21_Atom_c [.tmp 4] x) = ref21_Atom_c.F x := by kernel_rfl
theorem ref21_Atom_ok : ShOk Tryz.prog gl 59 ref21_Atom_c :=
  fn_ok (l := ref21_Atom_g) (n := Tryz.f59.ntmps) (code := bodyOf Tryz.f59) (rts := [.tmp 4]) tb_ok hord (ref21_Atom_gs) Tryz.func59 (by kernel_rfl) (by kernel_rfl) rfl (by kernel_rfl) (ac := ref21_Atom_a) (ob := []) (by kernel_rfl) (fun X hX => obl_nil) (by kernel_rfl) (ref21_Atom_s)

noncomputable def ref21_Tell_c : ShC := { inp := ⟨[.hole, (.agg [.hole, .hole, .hole])], [], [1, 1, 1, 1], [.sl tSym, .sl tLit, .sl (.one (.sl (.one (.int .i64)))), .sl tLit]⟩, out := ⟨[.hole, .hole], [], [2, 2], [.str, .int .i64]⟩, nres := 2, ms := [], mu := [], leak := false, glob := false, F := fun (x : ((List QSym) × (List QLit) × (List (List Int)) × (List QLit))) => ref21_Tell x.1 x.2.1 x.2.2.1 x.2.2.2 }
-- quaereref21.Tell
noncomputable def ref21_Tell_g : List (Nat × Con) := [(40, .gen (altE [ref8_May_c])), (58, .gen (altE [ref21_Terms_c])), (59, .gen (altE [ref21_Atom_c]))]
noncomputable def ref21_Tell_v : Env := envOf tb gl ref21_Tell_g ref21_Tell_c Tryz.f21.ntmps
theorem ref21_Tell_gs : Goods Tryz.prog (cond ref21_Tell_c.glob gl fun _ => none) ref21_Tell_g := (goods_cons (good_alt (alls_cons (ref8_May_ok.anyGl rfl) alls_nil)) (goods_cons (good_alt (alls_cons (ref21_Terms_ok.anyGl rfl) alls_nil)) (goods_cons (good_alt (alls_cons (ref21_Atom_ok.anyGl rfl) alls_nil)) goods_nil)))
noncomputable def ref21_Tell_u1_h : SS := ⟨[0, 3, 6, 8], ⟨[.hole, (.ptr 0 0), .hole, .hole], [.cells true [.hole, .hole, .hole]], [1, 2, 2, 1, 1, 1], [.sl tSym, .str, .int .i64, .sl tLit, .sl (.one (.sl (.one (.int .i64)))), .sl tLit]⟩⟩
noncomputable def ref21_Tell_u1_e : Exs := [((.exit 2), ⟨[6], ⟨[.hole], [], [2], [.str]⟩⟩)]
noncomputable def ref21_Tell_u1_a : AC := .run
noncomputable def ref21_Tell_u1 : Un := lpU ref21_Tell_v.fz [47, 48, 49, 50, 51, 54, 55, 56, 57, 6, 58, 59, 6, 60, 61, 62, 63, 64, 65, 66, 67, 6, 68, 69, 70, 71, 72, 73, 74, 75, 76, 77, 6, 52, 53, 8] ref21_Tell_u1_h ref21_Tell_u1_e (lp ref21_Tell_L1 fuel)
theorem ref21_Tell_u1_s (f : ref21_Tell_u1_h.X → Option (YT ref21_Tell_u1_e)) (x : ref21_Tell_u1_h.X) : E ref21_Tell_v (subC (bodyOf Tryz.f21) [1, 1, 1, 1, 0, 1, 0, 0]) (ref21_Tell_u1_a) (mkS ref21_Tell_u1_h 8 x) (roundK ref21_Tell_v.fz ref21_Tell_u1_h ref21_Tell_u1_e f) = ref21_Tell_L1 f x := by kernel_rfl
theorem ref21_Tell_u1_ok {X : Fx} (hX : VOk Tryz.prog X ref21_Tell_v) : UnOk Tryz.prog X ref21_Tell_v (subC (bodyOf Tryz.f21) [1, 1, 1, 1, 0, 1, 0]) ref21_Tell_u1 :=
  lp_un' (c := (subC (bodyOf Tryz.f21) [1, 1, 1, 1, 0, 1, 0, 0])) (by kernel_rfl) (env_all tb_ok (ref21_Tell_gs)) hord (ob := []) (by kernel_rfl) (fun X hX => obl_nil) (ref21_Tell_u1_s) (by kernel_rfl) (by kernel_rfl) hX
noncomputable def ref21_Tell_u0_h : SS := ⟨[0, 3, 6, 7], ⟨[.hole, (.ptr 0 0), .hole, .hole], [.cells true [.hole, .hole, .hole]], [1, 2, 2, 1, 1, 1], [.sl tSym, .str, .int .i64, .sl tLit, .sl (.one (.sl (.one (.int .i64)))), .sl tLit]⟩⟩
noncomputable def ref21_Tell_u0_e : Exs := [((.exit 0), ⟨[6], ⟨[.hole], [], [2], [.str]⟩⟩)]
noncomputable def ref21_Tell_u0_a : AC := .run
noncomputable def ref21_Tell_u0 : Un := lpU ref21_Tell_v.fz [25, 26, 27, 28, 29, 32, 33, 34, 35, 6, 36, 37, 38, 39, 40, 41, 42, 43, 44, 45, 46, 6, 30, 31, 7] ref21_Tell_u0_h ref21_Tell_u0_e (lp ref21_Tell_L0 fuel)
theorem ref21_Tell_u0_s (f : ref21_Tell_u0_h.X → Option (YT ref21_Tell_u0_e)) (x : ref21_Tell_u0_h.X) : E ref21_Tell_v (subC (bodyOf Tryz.f21) [1, 1, 1, 0, 1, 0, 0]) (ref21_Tell_u0_a) (mkS ref21_Tell_u0_h 8 x) (roundK ref21_Tell_v.fz ref21_Tell_u0_h ref21_Tell_u0_e f) = ref21_Tell_L0 f x := by kernel_rfl
theorem ref21_Tell_u0_ok {X : Fx} (hX : VOk Tryz.prog X ref21_Tell_v) : UnOk Tryz.prog X ref21_Tell_v (subC (bodyOf Tryz.f21) [1, 1, 1, 0, 1, 0]) ref21_Tell_u0 :=
  lp_un' (c := (subC (bodyOf Tryz.f21) [1, 1, 1, 0, 1, 0, 0])) (by kernel_rfl) (env_all tb_ok (ref21_Tell_gs)) hord (ob := []) (by kernel_rfl) (fun X hX => obl_nil) (ref21_Tell_u0_s) (by kernel_rfl) (by kernel_rfl) hX
noncomputable def ref21_Tell_a : AC := (.seq .run (.seq .run (.seq .run (.seq (.seq .run (.block (.unit ref21_Tell_u0))) (.seq (.seq .run (.block (.unit ref21_Tell_u1))) .run)))))
theorem ref21_Tell_s (x : TupL ref21_Tell_c.inp.hs) : E ref21_Tell_v (bodyOf Tryz.f21) (ref21_Tell_a) (ref21_Tell_c.entry x) (retSK tb ref21_Tell_v.fz ref21_Tell_c [.tmp 4, .tmp 5] x) = ref21_Tell_c.F x := by kernel_rfl
theorem ref21_Tell_ok : ShOk Tryz.prog gl 21 ref21_Tell_c :=
  fn_ok (l := ref21_Tell_g) (n := Tryz.f21.ntmps) (code := bodyOf Tryz.f21) (rts := [.tmp 4, .tmp 5]) tb_ok hord (ref21_Tell_gs) Tryz.func21 (by kernel_rfl) (by kernel_rfl) rfl (by kernel_rfl) (ac := ref21_Tell_a) (ob := [((subC (bodyOf Tryz.f21) [1, 1, 1, 0, 1, 0]), ref21_Tell_u0), ((subC (bodyOf Tryz.f21) [1, 1, 1, 1, 0, 1, 0]), ref21_Tell_u1)]) (by kernel_rfl) (fun X hX => (obl_cons (ref21_Tell_u0_ok hX) (obl_cons (ref21_Tell_u1_ok hX) obl_nil))) (by kernel_rfl) (ref21_Tell_s)

noncomputable def law0_Num_c : ShC := { inp := ⟨[.hole], [], [1], [.int .i64]⟩, out := ⟨[.hole], [], [2], [.int .i64]⟩, nres := 1, ms := [], mu := [], leak := false, glob := false, F := fun (x : Int) => law0_Num x }
-- quaerelaw0.Num
noncomputable def law0_Num_g : List (Nat × Con) := []
noncomputable def law0_Num_v : Env := envOf tb gl law0_Num_g law0_Num_c Tryz.f12.ntmps
theorem law0_Num_gs : Goods Tryz.prog (cond law0_Num_c.glob gl fun _ => none) law0_Num_g := goods_nil
noncomputable def law0_Num_a : AC := .run
theorem law0_Num_s (x : TupL law0_Num_c.inp.hs) : E law0_Num_v (bodyOf Tryz.f12) (law0_Num_a) (law0_Num_c.entry x) (retSK tb law0_Num_v.fz law0_Num_c [.tmp 2] x) = law0_Num_c.F x := by kernel_rfl
theorem law0_Num_ok : ShOk Tryz.prog gl 12 law0_Num_c :=
  fn_ok (l := law0_Num_g) (n := Tryz.f12.ntmps) (code := bodyOf Tryz.f12) (rts := [.tmp 2]) tb_ok hord (law0_Num_gs) Tryz.func12 (by kernel_rfl) (by kernel_rfl) rfl (by kernel_rfl) (ac := law0_Num_a) (ob := []) (by kernel_rfl) (fun X hX => obl_nil) (by kernel_rfl) (law0_Num_s)

noncomputable def law0_SameInts_c : ShC := { inp := ⟨[.hole, .hole], [], [1, 1], [.sl (.one (.int .i64)), .sl (.one (.int .i64))]⟩, out := ⟨[.hole], [], [2], [.bool]⟩, nres := 1, ms := [], mu := [], leak := false, glob := false, F := fun (x : ((List Int) × (List Int))) => law0_SameInts x.1 x.2 }
-- quaerelaw0.SameInts
noncomputable def law0_SameInts_g : List (Nat × Con) := []
noncomputable def law0_SameInts_v : Env := envOf tb gl law0_SameInts_g law0_SameInts_c Tryz.f45.ntmps
theorem law0_SameInts_gs : Goods Tryz.prog (cond law0_SameInts_c.glob gl fun _ => none) law0_SameInts_g := goods_nil
noncomputable def law0_SameInts_u0_h : SS := ⟨[0, 1, 5], ⟨[.hole, .hole, .hole], [], [1, 1, 2], [.sl (.one (.int .i64)), .sl (.one (.int .i64)), .int .i64]⟩⟩
noncomputable def law0_SameInts_u0_e : Exs := [((.exit 0), ⟨[], ⟨[], [], [], []⟩⟩), (.ret, ⟨[4], ⟨[.hole], [], [2], [.bool]⟩⟩)]
noncomputable def law0_SameInts_u0_a : AC := .run
noncomputable def law0_SameInts_u0 : Un := lpU law0_SameInts_v.fz [11, 12, 13, 14, 17, 18, 19, 20, 21, 22, 23, 24, 25, 4, 15, 16, 5] law0_SameInts_u0_h law0_SameInts_u0_e (lp law0_SameInts_L0 fuel)
theorem law0_SameInts_u0_s (f : law0_SameInts_u0_h.X → Option (YT law0_SameInts_u0_e)) (x : law0_SameInts_u0_h.X) : E law0_SameInts_v (subC (bodyOf Tryz.f45) [1, 1, 0, 1, 0, 0]) (law0_SameInts_u0_a) (mkS law0_SameInts_u0_h 8 x) (roundK law0_SameInts_v.fz law0_SameInts_u0_h law0_SameInts_u0_e f) = law0_SameInts_L0 f x := by kernel_rfl
theorem law0_SameInts_u0_ok {X : Fx} (hX : VOk Tryz.prog X law0_SameInts_v) : UnOk Tryz.prog X law0_SameInts_v (subC (bodyOf Tryz.f45) [1, 1, 0, 1, 0]) law0_SameInts_u0 :=
  lp_un' (c := (subC (bodyOf Tryz.f45) [1, 1, 0, 1, 0, 0])) (by kernel_rfl) (env_all tb_ok (law0_SameInts_gs)) hord (ob := []) (by kernel_rfl) (fun X hX => obl_nil) (law0_SameInts_u0_s) (by kernel_rfl) (by kernel_rfl) hX
noncomputable def law0_SameInts_a : AC := (.seq .run (.seq .run (.seq (.seq .run (.block (.unit law0_SameInts_u0))) .run)))
theorem law0_SameInts_s (x : TupL law0_SameInts_c.inp.hs) : E law0_SameInts_v (bodyOf Tryz.f45) (law0_SameInts_a) (law0_SameInts_c.entry x) (retSK tb law0_SameInts_v.fz law0_SameInts_c [.tmp 4] x) = law0_SameInts_c.F x := by kernel_rfl
theorem law0_SameInts_ok : ShOk Tryz.prog gl 45 law0_SameInts_c :=
  fn_ok (l := law0_SameInts_g) (n := Tryz.f45.ntmps) (code := bodyOf Tryz.f45) (rts := [.tmp 4]) tb_ok hord (law0_SameInts_gs) Tryz.func45 (by kernel_rfl) (by kernel_rfl) rfl (by kernel_rfl) (ac := law0_SameInts_a) (ob := [((subC (bodyOf Tryz.f45) [1, 1, 0, 1, 0]), law0_SameInts_u0)]) (by kernel_rfl) (fun X hX => (obl_cons (law0_SameInts_u0_ok hX) obl_nil)) (by kernel_rfl) (law0_SameInts_s)

noncomputable def law0_SameLits_c : ShC := { inp := ⟨[.hole, .hole], [], [1, 1], [.sl tLit, .sl tLit]⟩, out := ⟨[.hole], [], [2], [.bool]⟩, nres := 1, ms := [], mu := [], leak := false, glob := false, F := fun (x : ((List QLit) × (List QLit))) => law0_SameLits x.1 x.2 }
-- quaerelaw0.SameLits
noncomputable def law0_SameLits_g : List (Nat × Con) := [(45, .gen (altE [law0_SameInts_c]))]
noncomputable def law0_SameLits_v : Env := envOf tb gl law0_SameLits_g law0_SameLits_c Tryz.f14.ntmps
theorem law0_SameLits_gs : Goods Tryz.prog (cond law0_SameLits_c.glob gl fun _ => none) law0_SameLits_g := (goods_cons (good_alt (alls_cons (law0_SameInts_ok.anyGl rfl) alls_nil)) goods_nil)
noncomputable def law0_SameLits_u0_h : SS := ⟨[0, 1, 5], ⟨[.hole, .hole, .hole], [], [1, 1, 2], [.sl tLit, .sl tLit, .int .i64]⟩⟩
noncomputable def law0_SameLits_u0_e : Exs := [((.exit 0), ⟨[], ⟨[], [], [], []⟩⟩), (.ret, ⟨[4], ⟨[.hole], [], [2], [.bool]⟩⟩)]
noncomputable def law0_SameLits_u0_a : AC := .run
noncomputable def law0_SameLits_u0 : Un := lpU law0_SameLits_v.fz [11, 12, 13, 14, 17, 18, 19, 20, 21, 22, 23, 24, 25, 26, 27, 28, 29, 30, 31, 32, 33, 34, 35, 36, 37, 38, 39, 40, 41, 4, 15, 16, 5] law0_SameLits_u0_h law0_SameLits_u0_e (lp law0_SameLits_L0 fuel)
theorem law0_SameLits_u0_s (f : law0_SameLits_u0_h.X → Option (YT law0_SameLits_u0_e)) (x : law0_SameLits_u0_h.X) : E law0_SameLits_v (subC (bodyOf Tryz.f14) [1, 1, 0, 1, 0, 0]) (law0_SameLits_u0_a) (mkS law0_SameLits_u0_h 8 x) (roundK law0_SameLits_v.fz law0_SameLits_u0_h law0_SameLits_u0_e f) = law0_SameLits_L0 f x := by kernel_rfl
theorem law0_SameLits_u0_ok {X : Fx} (hX : VOk Tryz.prog X law0_SameLits_v) : UnOk Tryz.prog X law0_SameLits_v (subC (bodyOf Tryz.f14) [1, 1, 0, 1, 0]) law0_SameLits_u0 :=
  lp_un' (c := (subC (bodyOf Tryz.f14) [1, 1, 0, 1, 0, 0])) (by kernel_rfl) (env_all tb_ok (law0_SameLits_gs)) hord (ob := []) (by kernel_rfl) (fun X hX => obl_nil) (law0_SameLits_u0_s) (by kernel_rfl) (by kernel_rfl) hX
noncomputable def law0_SameLits_a : AC := (.seq .run (.seq .run (.seq (.seq .run (.block (.unit law0_SameLits_u0))) .run)))
theorem law0_SameLits_s (x : TupL law0_SameLits_c.inp.hs) : E law0_SameLits_v (bodyOf Tryz.f14) (law0_SameLits_a) (law0_SameLits_c.entry x) (retSK tb law0_SameLits_v.fz law0_SameLits_c [.tmp 4] x) = law0_SameLits_c.F x := by kernel_rfl
theorem law0_SameLits_ok : ShOk Tryz.prog gl 14 law0_SameLits_c :=
  fn_ok (l := law0_SameLits_g) (n := Tryz.f14.ntmps) (code := bodyOf Tryz.f14) (rts := [.tmp 4]) tb_ok hord (law0_SameLits_gs) Tryz.func14 (by kernel_rfl) (by kernel_rfl) rfl (by kernel_rfl) (ac := law0_SameLits_a) (ob := [((subC (bodyOf Tryz.f14) [1, 1, 0, 1, 0]), law0_SameLits_u0)]) (by kernel_rfl) (fun X hX => (obl_cons (law0_SameLits_u0_ok hX) obl_nil)) (by kernel_rfl) (law0_SameLits_s)

noncomputable def law0_SameRows_c : ShC := { inp := ⟨[.hole, .hole], [], [1, 1], [.sl (.one (.sl (.one (.int .i64)))), .sl (.one (.sl (.one (.int .i64))))]⟩, out := ⟨[.hole], [], [2], [.bool]⟩, nres := 1, ms := [], mu := [], leak := false, glob := false, F := fun (x : ((List (List Int)) × (List (List Int)))) => law0_SameRows x.1 x.2 }
-- quaerelaw0.SameRows
noncomputable def law0_SameRows_g : List (Nat × Con) := [(45, .gen (altE [law0_SameInts_c]))]
noncomputable def law0_SameRows_v : Env := envOf tb gl law0_SameRows_g law0_SameRows_c Tryz.f42.ntmps
theorem law0_SameRows_gs : Goods Tryz.prog (cond law0_SameRows_c.glob gl fun _ => none) law0_SameRows_g := (goods_cons (good_alt (alls_cons (law0_SameInts_ok.anyGl rfl) alls_nil)) goods_nil)
noncomputable def law0_SameRows_u0_h : SS := ⟨[0, 1, 5], ⟨[.hole, .hole, .hole], [], [1, 1, 2], [.sl (.one (.sl (.one (.int .i64)))), .sl (.one (.sl (.one (.int .i64)))), .int .i64]⟩⟩
noncomputable def law0_SameRows_u0_e : Exs := [((.exit 0), ⟨[], ⟨[], [], [], []⟩⟩), (.ret, ⟨[4], ⟨[.hole], [], [2], [.bool]⟩⟩)]
noncomputable def law0_SameRows_u0_a : AC := .run
noncomputable def law0_SameRows_u0 : Un := lpU law0_SameRows_v.fz [11, 12, 13, 14, 17, 18, 19, 20, 21, 22, 23, 24, 25, 26, 4, 15, 16, 5] law0_SameRows_u0_h law0_SameRows_u0_e (lp law0_SameRows_L0 fuel)
theorem law0_SameRows_u0_s (f : law0_SameRows_u0_h.X → Option (YT law0_SameRows_u0_e)) (x : law0_SameRows_u0_h.X) : E law0_SameRows_v (subC (bodyOf Tryz.f42) [1, 1, 0, 1, 0, 0]) (law0_SameRows_u0_a) (mkS law0_SameRows_u0_h 8 x) (roundK law0_SameRows_v.fz law0_SameRows_u0_h law0_SameRows_u0_e f) = law0_SameRows_L0 f x := by kernel_rfl
theorem law0_SameRows_u0_ok {X : Fx} (hX : VOk Tryz.prog X law0_SameRows_v) : UnOk Tryz.prog X law0_SameRows_v (subC (bodyOf Tryz.f42) [1, 1, 0, 1, 0]) law0_SameRows_u0 :=
  lp_un' (c := (subC (bodyOf Tryz.f42) [1, 1, 0, 1, 0, 0])) (by kernel_rfl) (env_all tb_ok (law0_SameRows_gs)) hord (ob := []) (by kernel_rfl) (fun X hX => obl_nil) (law0_SameRows_u0_s) (by kernel_rfl) (by kernel_rfl) hX
noncomputable def law0_SameRows_a : AC := (.seq .run (.seq .run (.seq (.seq .run (.block (.unit law0_SameRows_u0))) .run)))
theorem law0_SameRows_s (x : TupL law0_SameRows_c.inp.hs) : E law0_SameRows_v (bodyOf Tryz.f42) (law0_SameRows_a) (law0_SameRows_c.entry x) (retSK tb law0_SameRows_v.fz law0_SameRows_c [.tmp 4] x) = law0_SameRows_c.F x := by kernel_rfl
theorem law0_SameRows_ok : ShOk Tryz.prog gl 42 law0_SameRows_c :=
  fn_ok (l := law0_SameRows_g) (n := Tryz.f42.ntmps) (code := bodyOf Tryz.f42) (rts := [.tmp 4]) tb_ok hord (law0_SameRows_gs) Tryz.func42 (by kernel_rfl) (by kernel_rfl) rfl (by kernel_rfl) (ac := law0_SameRows_a) (ob := [((subC (bodyOf Tryz.f42) [1, 1, 0, 1, 0]), law0_SameRows_u0)]) (by kernel_rfl) (fun X hX => (obl_cons (law0_SameRows_u0_ok hX) obl_nil)) (by kernel_rfl) (law0_SameRows_s)

noncomputable def law0_SameClause_c : ShC := { inp := ⟨[(.agg [.hole, .hole, .hole]), (.agg [.hole, .hole, .hole])], [], [1, 1, 1, 1, 1, 1], [.sl tLit, .sl (.one (.sl (.one (.int .i64)))), .sl tLit, .sl tLit, .sl (.one (.sl (.one (.int .i64)))), .sl tLit]⟩, out := ⟨[.hole], [], [2], [.bool]⟩, nres := 1, ms := [], mu := [], leak := false, glob := false, F := fun (x : ((List QLit) × (List (List Int)) × (List QLit) × (List QLit) × (List (List Int)) × (List QLit))) => law0_SameClause x.1 x.2.1 x.2.2.1 x.2.2.2.1 x.2.2.2.2.1 x.2.2.2.2.2 }
-- quaerelaw0.SameClause
noncomputable def law0_SameClause_g : List (Nat × Con) := [(14, .gen (altE [law0_SameLits_c])), (42, .gen (altE [law0_SameRows_c]))]
noncomputable def law0_SameClause_v : Env := envOf tb gl law0_SameClause_g law0_SameClause_c Tryz.f11.ntmps
theorem law0_SameClause_gs : Goods Tryz.prog (cond law0_SameClause_c.glob gl fun _ => none) law0_SameClause_g := (goods_cons (good_alt (alls_cons (law0_SameLits_ok.anyGl rfl) alls_nil)) (goods_cons (good_alt (alls_cons (law0_SameRows_ok.anyGl rfl) alls_nil)) goods_nil))
noncomputable def law0_SameClause_a : AC := .run
theorem law0_SameClause_s (x : TupL law0_SameClause_c.inp.hs) : E law0_SameClause_v (bodyOf Tryz.f11) (law0_SameClause_a) (law0_SameClause_c.entry x) (retSK tb law0_SameClause_v.fz law0_SameClause_c [.tmp 4] x) = law0_SameClause_c.F x := by kernel_rfl
theorem law0_SameClause_ok : ShOk Tryz.prog gl 11 law0_SameClause_c :=
  fn_ok (l := law0_SameClause_g) (n := Tryz.f11.ntmps) (code := bodyOf Tryz.f11) (rts := [.tmp 4]) tb_ok hord (law0_SameClause_gs) Tryz.func11 (by kernel_rfl) (by kernel_rfl) rfl (by kernel_rfl) (ac := law0_SameClause_a) (ob := []) (by kernel_rfl) (fun X hX => obl_nil) (by kernel_rfl) (law0_SameClause_s)

noncomputable def law24_words_c : ShC := { inp := ⟨[], [], [], []⟩, out := ⟨[(.view 0)], [.seq false], [2], [.sl tSym]⟩, nres := 1, ms := [], mu := [], leak := false, glob := false, F := fun (x : Unit) => law24_words }
-- quaerelaw24.words
noncomputable def law24_words_g : List (Nat × Con) := []
noncomputable def law24_words_v : Env := envOf tb gl law24_words_g law24_words_c Tryz.f46.ntmps
theorem law24_words_gs : Goods Tryz.prog (cond law24_words_c.glob gl fun _ => none) law24_words_g := goods_nil
noncomputable def law24_words_a : AC := .run
theorem law24_words_s (x : TupL law24_words_c.inp.hs) : E law24_words_v (bodyOf Tryz.f46) (law24_words_a) (law24_words_c.entry x) (retSK tb law24_words_v.fz law24_words_c [.tmp 0] x) = law24_words_c.F x := by kernel_rfl
theorem law24_words_ok : ShOk Tryz.prog gl 46 law24_words_c :=
  fn_ok (l := law24_words_g) (n := Tryz.f46.ntmps) (code := bodyOf Tryz.f46) (rts := [.tmp 0]) tb_ok hord (law24_words_gs) Tryz.func46 (by kernel_rfl) (by kernel_rfl) rfl (by kernel_rfl) (ac := law24_words_a) (ob := []) (by kernel_rfl) (fun X hX => obl_nil) (by kernel_rfl) (law24_words_s)

noncomputable def slices_Index_c : ShC := { inp := ⟨[.hole, .hole], [], [1, 1], [.sl (.one (.int .i64)), .int .i64]⟩, out := ⟨[.hole], [], [2], [.int .i64]⟩, nres := 1, ms := [], mu := [], leak := false, glob := false, F := fun (x : ((List Int) × Int)) => slices_Index x.1 x.2 }
-- slices.Index[[]int,int]
noncomputable def slices_Index_g : List (Nat × Con) := []
noncomputable def slices_Index_v : Env := envOf tb gl slices_Index_g slices_Index_c Tryz.f112.ntmps
theorem slices_Index_gs : Goods Tryz.prog (cond slices_Index_c.glob gl fun _ => none) slices_Index_g := goods_nil
noncomputable def slices_Index_u0_h : SS := ⟨[0, 1, 7, 8], ⟨[.hole, .hole, .hole, .hole], [], [1, 2, 2, 2], [.sl (.one (.int .i64)), .int .i64, .int .i64, .int .i64]⟩⟩
noncomputable def slices_Index_u0_e : Exs := [((.exit 0), ⟨[], ⟨[], [], [], []⟩⟩), (.ret, ⟨[4], ⟨[.hole], [], [2], [.int .i64]⟩⟩)]
noncomputable def slices_Index_u0_a : AC := .run
noncomputable def slices_Index_u0 : Un := lpU slices_Index_v.fz [9, 10, 5, 11, 12, 13, 14, 15, 16, 17, 4, 18, 8] slices_Index_u0_h slices_Index_u0_e (lp slices_Index_L0 fuel)
theorem slices_Index_u0_s (f : slices_Index_u0_h.X → Option (YT slices_Index_u0_e)) (x : slices_Index_u0_h.X) : E slices_Index_v (subC (bodyOf Tryz.f112) [1, 0, 1, 0, 0]) (slices_Index_u0_a) (mkS slices_Index_u0_h 8 x) (roundK slices_Index_v.fz slices_Index_u0_h slices_Index_u0_e f) = slices_Index_L0 f x := by kernel_rfl
theorem slices_Index_u0_ok {X : Fx} (hX : VOk Tryz.prog X slices_Index_v) : UnOk Tryz.prog X slices_Index_v (subC (bodyOf Tryz.f112) [1, 0, 1, 0]) slices_Index_u0 :=
  lp_un' (c := (subC (bodyOf Tryz.f112) [1, 0, 1, 0, 0])) (by kernel_rfl) (env_all tb_ok (slices_Index_gs)) hord (ob := []) (by kernel_rfl) (fun X hX => obl_nil) (slices_Index_u0_s) (by kernel_rfl) (by kernel_rfl) hX
noncomputable def slices_Index_a : AC := (.seq .run (.seq (.seq .run (.block (.unit slices_Index_u0))) .run))
theorem slices_Index_s (x : TupL slices_Index_c.inp.hs) : E slices_Index_v (bodyOf Tryz.f112) (slices_Index_a) (slices_Index_c.entry x) (retSK tb slices_Index_v.fz slices_Index_c [.tmp 4] x) = slices_Index_c.F x := by kernel_rfl
theorem slices_Index_ok : ShOk Tryz.prog gl 112 slices_Index_c :=
  fn_ok (l := slices_Index_g) (n := Tryz.f112.ntmps) (code := bodyOf Tryz.f112) (rts := [.tmp 4]) tb_ok hord (slices_Index_gs) Tryz.func112 (by kernel_rfl) (by kernel_rfl) rfl (by kernel_rfl) (ac := slices_Index_a) (ob := [((subC (bodyOf Tryz.f112) [1, 0, 1, 0]), slices_Index_u0)]) (by kernel_rfl) (fun X hX => (obl_cons (slices_Index_u0_ok hX) obl_nil)) (by kernel_rfl) (slices_Index_s)

noncomputable def slices_Contains_c : ShC := { inp := ⟨[.hole, .hole], [], [1, 1], [.sl (.one (.int .i64)), .int .i64]⟩, out := ⟨[.hole], [], [2], [.bool]⟩, nres := 1, ms := [], mu := [], leak := false, glob := false, F := fun (x : ((List Int) × Int)) => slices_Contains x.1 x.2 }
-- slices.Contains[[]int,int]
noncomputable def slices_Contains_g : List (Nat × Con) := [(112, .gen (altE [slices_Index_c]))]
noncomputable def slices_Contains_v : Env := envOf tb gl slices_Contains_g slices_Contains_c Tryz.f69.ntmps
theorem slices_Contains_gs : Goods Tryz.prog (cond slices_Contains_c.glob gl fun _ => none) slices_Contains_g := (goods_cons (good_alt (alls_cons (slices_Index_ok.anyGl rfl) alls_nil)) goods_nil)
noncomputable def slices_Contains_a : AC := .run
theorem slices_Contains_s (x : TupL slices_Contains_c.inp.hs) : E slices_Contains_v (bodyOf Tryz.f69) (slices_Contains_a) (slices_Contains_c.entry x) (retSK tb slices_Contains_v.fz slices_Contains_c [.tmp 4] x) = slices_Contains_c.F x := by kernel_rfl
theorem slices_Contains_ok : ShOk Tryz.prog gl 69 slices_Contains_c :=
  fn_ok (l := slices_Contains_g) (n := Tryz.f69.ntmps) (code := bodyOf Tryz.f69) (rts := [.tmp 4]) tb_ok hord (slices_Contains_gs) Tryz.func69 (by kernel_rfl) (by kernel_rfl) rfl (by kernel_rfl) (ac := slices_Contains_a) (ob := []) (by kernel_rfl) (fun X hX => obl_nil) (by kernel_rfl) (slices_Contains_s)

noncomputable def ask_varsMay_c : ShC := { inp := ⟨[.hole], [], [1], [.sl (.one (.int .i64))]⟩, out := ⟨[.hole], [], [2], [.bool]⟩, nres := 1, ms := [], mu := [], leak := false, glob := false, F := fun (x : (List Int)) => ask_varsMay x }
-- ask.varsMay
noncomputable def ask_varsMay_g : List (Nat × Con) := [(69, .gen (altE [slices_Contains_c]))]
noncomputable def ask_varsMay_v : Env := envOf tb gl ask_varsMay_g ask_varsMay_c Tryz.f33.ntmps
theorem ask_varsMay_gs : Goods Tryz.prog (cond ask_varsMay_c.glob gl fun _ => none) ask_varsMay_g := (goods_cons (good_alt (alls_cons (slices_Contains_ok.anyGl rfl) alls_nil)) goods_nil)
noncomputable def ask_varsMay_u0_h : SS := ⟨[0, 5, 6, 7], ⟨[.hole, .hole, .hole, .hole], [], [1, 1, 2, 2], [.sl (.one (.int .i64)), .sl (.one (.int .i64)), .int .i64, .int .i64]⟩⟩
noncomputable def ask_varsMay_u0_e : Exs := [((.exit 0), ⟨[], ⟨[], [], [], []⟩⟩), (.ret, ⟨[2], ⟨[.hole], [], [2], [.bool]⟩⟩)]
noncomputable def ask_varsMay_u0_a : AC := .run
noncomputable def ask_varsMay_u0 : Un := lpU ask_varsMay_v.fz [8, 9, 10, 11, 3, 4, 12, 13, 14, 15, 16, 17, 18, 19, 20, 21, 22, 23, 24, 2, 25, 7] ask_varsMay_u0_h ask_varsMay_u0_e (lp ask_varsMay_L0 fuel)
theorem ask_varsMay_u0_s (f : ask_varsMay_u0_h.X → Option (YT ask_varsMay_u0_e)) (x : ask_varsMay_u0_h.X) : E ask_varsMay_v (subC (bodyOf Tryz.f33) [1, 0, 1, 0, 0]) (ask_varsMay_u0_a) (mkS ask_varsMay_u0_h 8 x) (roundK ask_varsMay_v.fz ask_varsMay_u0_h ask_varsMay_u0_e f) = ask_varsMay_L0 f x := by kernel_rfl
theorem ask_varsMay_u0_ok {X : Fx} (hX : VOk Tryz.prog X ask_varsMay_v) : UnOk Tryz.prog X ask_varsMay_v (subC (bodyOf Tryz.f33) [1, 0, 1, 0]) ask_varsMay_u0 :=
  lp_un' (c := (subC (bodyOf Tryz.f33) [1, 0, 1, 0, 0])) (by kernel_rfl) (env_all tb_ok (ask_varsMay_gs)) hord (ob := []) (by kernel_rfl) (fun X hX => obl_nil) (ask_varsMay_u0_s) (by kernel_rfl) (by kernel_rfl) hX
noncomputable def ask_varsMay_a : AC := (.seq .run (.seq (.seq .run (.block (.unit ask_varsMay_u0))) .run))
theorem ask_varsMay_s (x : TupL ask_varsMay_c.inp.hs) : E ask_varsMay_v (bodyOf Tryz.f33) (ask_varsMay_a) (ask_varsMay_c.entry x) (retSK tb ask_varsMay_v.fz ask_varsMay_c [.tmp 2] x) = ask_varsMay_c.F x := by kernel_rfl
theorem ask_varsMay_ok : ShOk Tryz.prog gl 33 ask_varsMay_c :=
  fn_ok (l := ask_varsMay_g) (n := Tryz.f33.ntmps) (code := bodyOf Tryz.f33) (rts := [.tmp 2]) tb_ok hord (ask_varsMay_gs) Tryz.func33 (by kernel_rfl) (by kernel_rfl) rfl (by kernel_rfl) (ac := ask_varsMay_a) (ob := [((subC (bodyOf Tryz.f33) [1, 0, 1, 0]), ask_varsMay_u0)]) (by kernel_rfl) (fun X hX => (obl_cons (ask_varsMay_u0_ok hX) obl_nil)) (by kernel_rfl) (ask_varsMay_s)

noncomputable def slices_Clone_c : ShC := { inp := ⟨[.hole], [], [1], [.ns (.one (.int .i64))]⟩, out := ⟨[(.view 0)], [.seq false], [0], [.sl (.one (.int .i64))]⟩, nres := 1, ms := [], mu := [], leak := true, glob := false, F := fun (x : (Option (List Int))) => slices_Clone x }
-- slices.Clone[[]int,int]
noncomputable def slices_Clone_g : List (Nat × Con) := []
noncomputable def slices_Clone_v : Env := envOf tb gl slices_Clone_g slices_Clone_c Tryz.f76.ntmps
theorem slices_Clone_gs : Goods Tryz.prog (cond slices_Clone_c.glob gl fun _ => none) slices_Clone_g := goods_nil
noncomputable def slices_Clone_a : AC := .run
theorem slices_Clone_s (x : TupL slices_Clone_c.inp.hs) : E slices_Clone_v (bodyOf Tryz.f76) (slices_Clone_a) (slices_Clone_c.entry x) (retSK tb slices_Clone_v.fz slices_Clone_c [.tmp 2] x) = slices_Clone_c.F x := by kernel_rfl
theorem slices_Clone_ok : ShOk Tryz.prog gl 76 slices_Clone_c :=
  fn_ok (l := slices_Clone_g) (n := Tryz.f76.ntmps) (code := bodyOf Tryz.f76) (rts := [.tmp 2]) tb_ok hord (slices_Clone_gs) Tryz.func76 (by kernel_rfl) (by kernel_rfl) rfl (by kernel_rfl) (ac := slices_Clone_a) (ob := []) (by kernel_rfl) (fun X hX => obl_nil) (by kernel_rfl) (slices_Clone_s)

noncomputable def slices_Clone_1_c : ShC := { inp := ⟨[.nilv], [], [], []⟩, out := ⟨[(.view 0)], [.seq false], [0], [.sl (.one (.int .i64))]⟩, nres := 1, ms := [], mu := [], leak := true, glob := false, F := fun (x : Unit) => slices_Clone_1 }
-- slices.Clone[[]int,int]
noncomputable def slices_Clone_1_g : List (Nat × Con) := []
noncomputable def slices_Clone_1_v : Env := envOf tb gl slices_Clone_1_g slices_Clone_1_c Tryz.f76.ntmps
theorem slices_Clone_1_gs : Goods Tryz.prog (cond slices_Clone_1_c.glob gl fun _ => none) slices_Clone_1_g := goods_nil
noncomputable def slices_Clone_1_a : AC := .run
theorem slices_Clone_1_s (x : TupL slices_Clone_1_c.inp.hs) : E slices_Clone_1_v (bodyOf Tryz.f76) (slices_Clone_1_a) (slices_Clone_1_c.entry x) (retSK tb slices_Clone_1_v.fz slices_Clone_1_c [.tmp 2] x) = slices_Clone_1_c.F x := by kernel_rfl
theorem slices_Clone_1_ok : ShOk Tryz.prog gl 76 slices_Clone_1_c :=
  fn_ok (l := slices_Clone_1_g) (n := Tryz.f76.ntmps) (code := bodyOf Tryz.f76) (rts := [.tmp 2]) tb_ok hord (slices_Clone_1_gs) Tryz.func76 (by kernel_rfl) (by kernel_rfl) rfl (by kernel_rfl) (ac := slices_Clone_1_a) (ob := []) (by kernel_rfl) (fun X hX => obl_nil) (by kernel_rfl) (slices_Clone_1_s)

noncomputable def slices_CloneN_c : ShC := { inp := ⟨[.hole], [], [1], [.sl (.one (.int .i64))]⟩, out := ⟨[(.view 0)], [.seq false], [0], [.sl (.one (.int .i64))]⟩, nres := 1, ms := [], mu := [], leak := true, glob := false, F := fun (x : (List Int)) => slices_CloneN x }
-- slices.Clone[[]int,int]
theorem slices_CloneN_ok : ShOk Tryz.prog gl 76 slices_CloneN_c :=
  sh_nil slices_Clone_1_ok slices_Clone_ok fun xs y h => ⟨h, fun e => by subst e; exact h⟩

noncomputable def lit_Opposite_c : ShC := { inp := ⟨[(.agg [.hole, .hole])], [], [1, 1], [.bool, .sl (.one (.int .i64))]⟩, out := ⟨[(.agg [.hole, (.view 0)])], [.seq false], [2, 0], [.bool, .sl (.one (.int .i64))]⟩, nres := 1, ms := [], mu := [], leak := true, glob := false, F := fun (x : QLit) => lit_Opposite x.1 x.2 }
-- lit.Opposite
noncomputable def lit_Opposite_g : List (Nat × Con) := [(76, .gen (altE [slices_CloneN_c]))]
noncomputable def lit_Opposite_v : Env := envOf tb gl lit_Opposite_g lit_Opposite_c Tryz.f34.ntmps
theorem lit_Opposite_gs : Goods Tryz.prog (cond lit_Opposite_c.glob gl fun _ => none) lit_Opposite_g := (goods_cons (good_alt (alls_cons (slices_CloneN_ok.anyGl rfl) alls_nil)) goods_nil)
noncomputable def lit_Opposite_a : AC := .run
theorem lit_Opposite_s (x : TupL lit_Opposite_c.inp.hs) : E lit_Opposite_v (bodyOf Tryz.f34) (lit_Opposite_a) (lit_Opposite_c.entry x) (retSK tb lit_Opposite_v.fz lit_Opposite_c [.cell 2 68] x) = lit_Opposite_c.F x := by kernel_rfl
theorem lit_Opposite_ok : ShOk Tryz.prog gl 34 lit_Opposite_c :=
  fn_ok (l := lit_Opposite_g) (n := Tryz.f34.ntmps) (code := bodyOf Tryz.f34) (rts := [.cell 2 68]) tb_ok hord (lit_Opposite_gs) Tryz.func34 (by kernel_rfl) (by kernel_rfl) rfl (by kernel_rfl) (ac := lit_Opposite_a) (ob := []) (by kernel_rfl) (fun X hX => obl_nil) (by kernel_rfl) (lit_Opposite_s)

noncomputable def slices_Equal_c : ShC := { inp := ⟨[.hole, .hole], [], [1, 1], [.sl (.one (.int .i64)), .sl (.one (.int .i64))]⟩, out := ⟨[.hole], [], [2], [.bool]⟩, nres := 1, ms := [], mu := [], leak := false, glob := false, F := fun (x : ((List Int) × (List Int))) => slices_Equal x.1 x.2 }
-- slices.Equal[[]int,int]
noncomputable def slices_Equal_g : List (Nat × Con) := []
noncomputable def slices_Equal_v : Env := envOf tb gl slices_Equal_g slices_Equal_c Tryz.f119.ntmps
theorem slices_Equal_gs : Goods Tryz.prog (cond slices_Equal_c.glob gl fun _ => none) slices_Equal_g := goods_nil
noncomputable def slices_Equal_u0_h : SS := ⟨[0, 1, 12, 13], ⟨[.hole, .hole, .hole, .hole], [], [1, 1, 2, 2], [.sl (.one (.int .i64)), .sl (.one (.int .i64)), .int .i64, .int .i64]⟩⟩
noncomputable def slices_Equal_u0_e : Exs := [((.exit 0), ⟨[], ⟨[], [], [], []⟩⟩), (.ret, ⟨[4], ⟨[.hole], [], [2], [.bool]⟩⟩)]
noncomputable def slices_Equal_u0_a : AC := .run
noncomputable def slices_Equal_u0 : Un := lpU slices_Equal_v.fz [14, 15, 5, 16, 17, 18, 19, 20, 21, 22, 23, 24, 4, 25, 13] slices_Equal_u0_h slices_Equal_u0_e (lp slices_Equal_L0 fuel)
theorem slices_Equal_u0_s (f : slices_Equal_u0_h.X → Option (YT slices_Equal_u0_e)) (x : slices_Equal_u0_h.X) : E slices_Equal_v (subC (bodyOf Tryz.f119) [1, 1, 0, 1, 0, 0]) (slices_Equal_u0_a) (mkS slices_Equal_u0_h 8 x) (roundK slices_Equal_v.fz slices_Equal_u0_h slices_Equal_u0_e f) = slices_Equal_L0 f x := by kernel_rfl
theorem slices_Equal_u0_ok {X : Fx} (hX : VOk Tryz.prog X slices_Equal_v) : UnOk Tryz.prog X slices_Equal_v (subC (bodyOf Tryz.f119) [1, 1, 0, 1, 0]) slices_Equal_u0 :=
  lp_un' (c := (subC (bodyOf Tryz.f119) [1, 1, 0, 1, 0, 0])) (by kernel_rfl) (env_all tb_ok (slices_Equal_gs)) hord (ob := []) (by kernel_rfl) (fun X hX => obl_nil) (slices_Equal_u0_s) (by kernel_rfl) (by kernel_rfl) hX
noncomputable def slices_Equal_a : AC := (.seq .run (.seq .run (.seq (.seq .run (.block (.unit slices_Equal_u0))) .run)))
theorem slices_Equal_s (x : TupL slices_Equal_c.inp.hs) : E slices_Equal_v (bodyOf Tryz.f119) (slices_Equal_a) (slices_Equal_c.entry x) (retSK tb slices_Equal_v.fz slices_Equal_c [.tmp 4] x) = slices_Equal_c.F x := by kernel_rfl
theorem slices_Equal_ok : ShOk Tryz.prog gl 119 slices_Equal_c :=
  fn_ok (l := slices_Equal_g) (n := Tryz.f119.ntmps) (code := bodyOf Tryz.f119) (rts := [.tmp 4]) tb_ok hord (slices_Equal_gs) Tryz.func119 (by kernel_rfl) (by kernel_rfl) rfl (by kernel_rfl) (ac := slices_Equal_a) (ob := [((subC (bodyOf Tryz.f119) [1, 1, 0, 1, 0]), slices_Equal_u0)]) (by kernel_rfl) (fun X hX => (obl_cons (slices_Equal_u0_ok hX) obl_nil)) (by kernel_rfl) (slices_Equal_s)

noncomputable def lit_Same_c : ShC := { inp := ⟨[(.agg [.hole, .hole]), (.agg [.hole, .hole])], [], [1, 1, 1, 1], [.bool, .sl (.one (.int .i64)), .bool, .sl (.one (.int .i64))]⟩, out := ⟨[.hole], [], [2], [.bool]⟩, nres := 1, ms := [], mu := [], leak := false, glob := false, F := fun (x : (Bool × (List Int) × Bool × (List Int))) => lit_Same x.1 x.2.1 x.2.2.1 x.2.2.2 }
-- lit.Same
noncomputable def lit_Same_g : List (Nat × Con) := [(119, .gen (altE [slices_Equal_c]))]
noncomputable def lit_Same_v : Env := envOf tb gl lit_Same_g lit_Same_c Tryz.f149.ntmps
theorem lit_Same_gs : Goods Tryz.prog (cond lit_Same_c.glob gl fun _ => none) lit_Same_g := (goods_cons (good_alt (alls_cons (slices_Equal_ok.anyGl rfl) alls_nil)) goods_nil)
noncomputable def lit_Same_a : AC := .run
theorem lit_Same_s (x : TupL lit_Same_c.inp.hs) : E lit_Same_v (bodyOf Tryz.f149) (lit_Same_a) (lit_Same_c.entry x) (retSK tb lit_Same_v.fz lit_Same_c [.tmp 4] x) = lit_Same_c.F x := by kernel_rfl
theorem lit_Same_ok : ShOk Tryz.prog gl 149 lit_Same_c :=
  fn_ok (l := lit_Same_g) (n := Tryz.f149.ntmps) (code := bodyOf Tryz.f149) (rts := [.tmp 4]) tb_ok hord (lit_Same_gs) Tryz.func149 (by kernel_rfl) (by kernel_rfl) rfl (by kernel_rfl) (ac := lit_Same_a) (ob := []) (by kernel_rfl) (fun X hX => obl_nil) (by kernel_rfl) (lit_Same_s)

noncomputable def clause_once_c1_c : ShC := { inp := ⟨[(.agg [.hole, .hole]), (.ptr 0 0)], [.cells true [.hole, .hole]], [1, 1, 1, 1], [.bool, .sl (.one (.int .i64)), .bool, .sl (.one (.int .i64))]⟩, out := ⟨[.hole], [], [2], [.bool]⟩, nres := 1, ms := [], mu := [], leak := false, glob := false, F := fun (x : (Bool × (List Int) × Bool × (List Int))) => clause_once_c1 x.1 x.2.1 x.2.2.1 x.2.2.2 }
-- clause.once$1
noncomputable def clause_once_c1_g : List (Nat × Con) := [(149, .gen (altE [lit_Same_c]))]
noncomputable def clause_once_c1_v : Env := envOf tb gl clause_once_c1_g clause_once_c1_c Tryz.f148.ntmps
theorem clause_once_c1_gs : Goods Tryz.prog (cond clause_once_c1_c.glob gl fun _ => none) clause_once_c1_g := (goods_cons (good_alt (alls_cons (lit_Same_ok.anyGl rfl) alls_nil)) goods_nil)
noncomputable def clause_once_c1_a : AC := .run
theorem clause_once_c1_s (x : TupL clause_once_c1_c.inp.hs) : E clause_once_c1_v (bodyOf Tryz.f148) (clause_once_c1_a) (clause_once_c1_c.entry x) (retSK tb clause_once_c1_v.fz clause_once_c1_c [.tmp 3] x) = clause_once_c1_c.F x := by kernel_rfl
theorem clause_once_c1_ok : ShOk Tryz.prog gl 148 clause_once_c1_c :=
  fn_ok (l := clause_once_c1_g) (n := Tryz.f148.ntmps) (code := bodyOf Tryz.f148) (rts := [.tmp 3]) tb_ok hord (clause_once_c1_gs) Tryz.func148 (by kernel_rfl) (by kernel_rfl) rfl (by kernel_rfl) (ac := clause_once_c1_a) (ob := []) (by kernel_rfl) (fun X hX => obl_nil) (by kernel_rfl) (clause_once_c1_s)

noncomputable def slices_IndexFunc_c : ShC := { inp := ⟨[.hole, (.clo 148 [(.ptr 0 0)])], [.cells true [.hole, .hole]], [1, 1, 1], [.sl tLit, .bool, .sl (.one (.int .i64))]⟩, out := ⟨[.hole], [], [2], [.int .i64]⟩, nres := 1, ms := [], mu := [], leak := false, glob := false, F := fun (x : ((List QLit) × Bool × (List Int))) => slices_IndexFunc x.1 x.2.1 x.2.2 }
-- slices.IndexFunc[[]api.Lit,api.Lit]
noncomputable def slices_IndexFunc_g : List (Nat × Con) := [(148, .gen (altE [clause_once_c1_c]))]
noncomputable def slices_IndexFunc_v : Env := envOf tb gl slices_IndexFunc_g slices_IndexFunc_c Tryz.f93.ntmps
theorem slices_IndexFunc_gs : Goods Tryz.prog (cond slices_IndexFunc_c.glob gl fun _ => none) slices_IndexFunc_g := (goods_cons (good_alt (alls_cons (clause_once_c1_ok.anyGl rfl) alls_nil)) goods_nil)
noncomputable def slices_IndexFunc_u0_h : SS := ⟨[0, 1, 7, 8], ⟨[.hole, (.clo 148 [(.ptr 0 0)]), .hole, .hole], [.cells true [.hole, .hole]], [1, 2, 2, 2, 1], [.sl tLit, .int .i64, .int .i64, .bool, .sl (.one (.int .i64))]⟩⟩
noncomputable def slices_IndexFunc_u0_e : Exs := [((.exit 0), ⟨[], ⟨[], [], [], []⟩⟩), (.ret, ⟨[4], ⟨[.hole], [], [2], [.int .i64]⟩⟩)]
noncomputable def slices_IndexFunc_u0_a : AC := .run
noncomputable def slices_IndexFunc_u0 : Un := lpU slices_IndexFunc_v.fz [9, 10, 5, 11, 12, 13, 14, 15, 16, 17, 4, 18, 8] slices_IndexFunc_u0_h slices_IndexFunc_u0_e (lp slices_IndexFunc_L0 fuel)
theorem slices_IndexFunc_u0_s (f : slices_IndexFunc_u0_h.X → Option (YT slices_IndexFunc_u0_e)) (x : slices_IndexFunc_u0_h.X) : E slices_IndexFunc_v (subC (bodyOf Tryz.f93) [1, 0, 1, 0, 0]) (slices_IndexFunc_u0_a) (mkS slices_IndexFunc_u0_h 8 x) (roundK slices_IndexFunc_v.fz slices_IndexFunc_u0_h slices_IndexFunc_u0_e f) = slices_IndexFunc_L0 f x := by kernel_rfl
theorem slices_IndexFunc_u0_ok {X : Fx} (hX : VOk Tryz.prog X slices_IndexFunc_v) : UnOk Tryz.prog X slices_IndexFunc_v (subC (bodyOf Tryz.f93) [1, 0, 1, 0]) slices_IndexFunc_u0 :=
  lp_un' (c := (subC (bodyOf Tryz.f93) [1, 0, 1, 0, 0])) (by kernel_rfl) (env_all tb_ok (slices_IndexFunc_gs)) hord (ob := []) (by kernel_rfl) (fun X hX => obl_nil) (slices_IndexFunc_u0_s) (by kernel_rfl) (by kernel_rfl) hX
noncomputable def slices_IndexFunc_a : AC := (.seq .run (.seq (.seq .run (.block (.unit slices_IndexFunc_u0))) .run))
theorem slices_IndexFunc_s (x : TupL slices_IndexFunc_c.inp.hs) : E slices_IndexFunc_v (bodyOf Tryz.f93) (slices_IndexFunc_a) (slices_IndexFunc_c.entry x) (retSK tb slices_IndexFunc_v.fz slices_IndexFunc_c [.tmp 4] x) = slices_IndexFunc_c.F x := by kernel_rfl
theorem slices_IndexFunc_ok : ShOk Tryz.prog gl 93 slices_IndexFunc_c :=
  fn_ok (l := slices_IndexFunc_g) (n := Tryz.f93.ntmps) (code := bodyOf Tryz.f93) (rts := [.tmp 4]) tb_ok hord (slices_IndexFunc_gs) Tryz.func93 (by kernel_rfl) (by kernel_rfl) rfl (by kernel_rfl) (ac := slices_IndexFunc_a) (ob := [((subC (bodyOf Tryz.f93) [1, 0, 1, 0]), slices_IndexFunc_u0)]) (by kernel_rfl) (fun X hX => (obl_cons (slices_IndexFunc_u0_ok hX) obl_nil)) (by kernel_rfl) (slices_IndexFunc_s)

noncomputable def slices_ContainsFunc_c : ShC := { inp := ⟨[.hole, (.clo 148 [(.ptr 0 0)])], [.cells true [.hole, .hole]], [1, 1, 1], [.sl tLit, .bool, .sl (.one (.int .i64))]⟩, out := ⟨[.hole], [], [2], [.bool]⟩, nres := 1, ms := [], mu := [], leak := false, glob := false, F := fun (x : ((List QLit) × Bool × (List Int))) => slices_ContainsFunc x.1 x.2.1 x.2.2 }
-- slices.ContainsFunc[[]api.Lit,api.Lit]
noncomputable def slices_ContainsFunc_g : List (Nat × Con) := [(93, .gen (altE [slices_IndexFunc_c]))]
noncomputable def slices_ContainsFunc_v : Env := envOf tb gl slices_ContainsFunc_g slices_ContainsFunc_c Tryz.f52.ntmps
theorem slices_ContainsFunc_gs : Goods Tryz.prog (cond slices_ContainsFunc_c.glob gl fun _ => none) slices_ContainsFunc_g := (goods_cons (good_alt (alls_cons (slices_IndexFunc_ok.anyGl rfl) alls_nil)) goods_nil)
noncomputable def slices_ContainsFunc_a : AC := .run
theorem slices_ContainsFunc_s (x : TupL slices_ContainsFunc_c.inp.hs) : E slices_ContainsFunc_v (bodyOf Tryz.f52) (slices_ContainsFunc_a) (slices_ContainsFunc_c.entry x) (retSK tb slices_ContainsFunc_v.fz slices_ContainsFunc_c [.tmp 4] x) = slices_ContainsFunc_c.F x := by kernel_rfl
theorem slices_ContainsFunc_ok : ShOk Tryz.prog gl 52 slices_ContainsFunc_c :=
  fn_ok (l := slices_ContainsFunc_g) (n := Tryz.f52.ntmps) (code := bodyOf Tryz.f52) (rts := [.tmp 4]) tb_ok hord (slices_ContainsFunc_gs) Tryz.func52 (by kernel_rfl) (by kernel_rfl) rfl (by kernel_rfl) (ac := slices_ContainsFunc_a) (ob := []) (by kernel_rfl) (fun X hX => obl_nil) (by kernel_rfl) (slices_ContainsFunc_s)

noncomputable def clause_once_c : ShC := { inp := ⟨[.hole], [], [1], [.sl tLit]⟩, out := ⟨[(.view 0)], [.seq false], [0], [.sl tLit]⟩, nres := 1, ms := [], mu := [], leak := true, glob := false, F := fun (x : (List QLit)) => clause_once x }
-- clause.once
noncomputable def clause_once_g : List (Nat × Con) := [(52, .gen (altE [slices_ContainsFunc_c]))]
noncomputable def clause_once_v : Env := envOf tb gl clause_once_g clause_once_c Tryz.f117.ntmps
theorem clause_once_gs : Goods Tryz.prog (cond clause_once_c.glob gl fun _ => none) clause_once_g := (goods_cons (good_alt (alls_cons (slices_ContainsFunc_ok.anyGl rfl) alls_nil)) goods_nil)
noncomputable def clause_once_u0_h : SS := ⟨[3, 6, 7, 8], ⟨[(.view 0), .hole, .hole, .hole], [.seq false], [1, 2, 2, 0], [.sl tLit, .int .i64, .int .i64, .sl tLit]⟩⟩
noncomputable def clause_once_u0_e : Exs := [((.exit 0), ⟨[3], ⟨[(.view 0)], [.seq false], [0], [.sl tLit]⟩⟩)]
noncomputable def clause_once_u0_a : AC := .run
noncomputable def clause_once_u0 : Un := lpU clause_once_v.fz [9, 10, 11, 5, 12, 13, 14, 15, 16, 17, 18, 19, 3, 20, 8] clause_once_u0_h clause_once_u0_e (lp clause_once_L0 fuel)
theorem clause_once_u0_s (f : clause_once_u0_h.X → Option (YT clause_once_u0_e)) (x : clause_once_u0_h.X) : E clause_once_v (subC (bodyOf Tryz.f117) [1, 1, 0, 1, 0, 0]) (clause_once_u0_a) (mkS clause_once_u0_h 8 x) (roundK clause_once_v.fz clause_once_u0_h clause_once_u0_e f) = clause_once_L0 f x := by kernel_rfl
theorem clause_once_u0_ok {X : Fx} (hX : VOk Tryz.prog X clause_once_v) : UnOk Tryz.prog X clause_once_v (subC (bodyOf Tryz.f117) [1, 1, 0, 1, 0]) clause_once_u0 :=
  lp_un' (c := (subC (bodyOf Tryz.f117) [1, 1, 0, 1, 0, 0])) (by kernel_rfl) (env_all tb_ok (clause_once_gs)) hord (ob := []) (by kernel_rfl) (fun X hX => obl_nil) (clause_once_u0_s) (by kernel_rfl) (by kernel_rfl) hX
noncomputable def clause_once_a : AC := (.seq .run (.seq .run (.seq (.seq .run (.block (.unit clause_once_u0))) .run)))
theorem clause_once_s (x : TupL clause_once_c.inp.hs) : E clause_once_v (bodyOf Tryz.f117) (clause_once_a) (clause_once_c.entry x) (retSK tb clause_once_v.fz clause_once_c [.tmp 2] x) = clause_once_c.F x := by kernel_rfl
theorem clause_once_ok : ShOk Tryz.prog gl 117 clause_once_c :=
  fn_ok (l := clause_once_g) (n := Tryz.f117.ntmps) (code := bodyOf Tryz.f117) (rts := [.tmp 2]) tb_ok hord (clause_once_gs) Tryz.func117 (by kernel_rfl) (by kernel_rfl) rfl (by kernel_rfl) (ac := clause_once_a) (ob := [((subC (bodyOf Tryz.f117) [1, 1, 0, 1, 0]), clause_once_u0)]) (by kernel_rfl) (fun X hX => (obl_cons (clause_once_u0_ok hX) obl_nil)) (by kernel_rfl) (clause_once_s)

noncomputable def clause_anew_c1_c : ShC := { inp := ⟨[.hole, (.ptr 0 0)], [.cells true [.hole]], [1, 1], [.sl (.one (.int .i64)), .sl (.one (.int .i64))]⟩, out := ⟨[.hole], [], [2], [.bool]⟩, nres := 1, ms := [], mu := [], leak := false, glob := false, F := fun (x : ((List Int) × (List Int))) => clause_anew_c1 x.1 x.2 }
-- clause.anew$1
noncomputable def clause_anew_c1_g : List (Nat × Con) := [(119, .gen (altE [slices_Equal_c]))]
noncomputable def clause_anew_c1_v : Env := envOf tb gl clause_anew_c1_g clause_anew_c1_c Tryz.f118.ntmps
theorem clause_anew_c1_gs : Goods Tryz.prog (cond clause_anew_c1_c.glob gl fun _ => none) clause_anew_c1_g := (goods_cons (good_alt (alls_cons (slices_Equal_ok.anyGl rfl) alls_nil)) goods_nil)
noncomputable def clause_anew_c1_a : AC := .run
theorem clause_anew_c1_s (x : TupL clause_anew_c1_c.inp.hs) : E clause_anew_c1_v (bodyOf Tryz.f118) (clause_anew_c1_a) (clause_anew_c1_c.entry x) (retSK tb clause_anew_c1_v.fz clause_anew_c1_c [.tmp 3] x) = clause_anew_c1_c.F x := by kernel_rfl
theorem clause_anew_c1_ok : ShOk Tryz.prog gl 118 clause_anew_c1_c :=
  fn_ok (l := clause_anew_c1_g) (n := Tryz.f118.ntmps) (code := bodyOf Tryz.f118) (rts := [.tmp 3]) tb_ok hord (clause_anew_c1_gs) Tryz.func118 (by kernel_rfl) (by kernel_rfl) rfl (by kernel_rfl) (ac := clause_anew_c1_a) (ob := []) (by kernel_rfl) (fun X hX => obl_nil) (by kernel_rfl) (clause_anew_c1_s)

noncomputable def slices_IndexFunc_1_c : ShC := { inp := ⟨[.hole, (.clo 118 [(.ptr 0 0)])], [.cells true [.hole]], [1, 1], [.sl (.one (.sl (.one (.int .i64)))), .sl (.one (.int .i64))]⟩, out := ⟨[.hole], [], [2], [.int .i64]⟩, nres := 1, ms := [], mu := [], leak := false, glob := false, F := fun (x : ((List (List Int)) × (List Int))) => slices_IndexFunc_1 x.1 x.2 }
-- slices.IndexFunc[[][]int,[]int]
noncomputable def slices_IndexFunc_1_g : List (Nat × Con) := [(118, .gen (altE [clause_anew_c1_c]))]
noncomputable def slices_IndexFunc_1_v : Env := envOf tb gl slices_IndexFunc_1_g slices_IndexFunc_1_c Tryz.f92.ntmps
theorem slices_IndexFunc_1_gs : Goods Tryz.prog (cond slices_IndexFunc_1_c.glob gl fun _ => none) slices_IndexFunc_1_g := (goods_cons (good_alt (alls_cons (clause_anew_c1_ok.anyGl rfl) alls_nil)) goods_nil)
noncomputable def slices_IndexFunc_1_u0_h : SS := ⟨[0, 1, 7, 8], ⟨[.hole, (.clo 118 [(.ptr 0 0)]), .hole, .hole], [.cells true [.hole]], [1, 2, 2, 1], [.sl (.one (.sl (.one (.int .i64)))), .int .i64, .int .i64, .sl (.one (.int .i64))]⟩⟩
noncomputable def slices_IndexFunc_1_u0_e : Exs := [((.exit 0), ⟨[], ⟨[], [], [], []⟩⟩), (.ret, ⟨[4], ⟨[.hole], [], [2], [.int .i64]⟩⟩)]
noncomputable def slices_IndexFunc_1_u0_a : AC := .run
noncomputable def slices_IndexFunc_1_u0 : Un := lpU slices_IndexFunc_1_v.fz [9, 10, 5, 11, 12, 13, 14, 15, 16, 17, 4, 18, 8] slices_IndexFunc_1_u0_h slices_IndexFunc_1_u0_e (lp slices_IndexFunc_1_L0 fuel)
theorem slices_IndexFunc_1_u0_s (f : slices_IndexFunc_1_u0_h.X → Option (YT slices_IndexFunc_1_u0_e)) (x : slices_IndexFunc_1_u0_h.X) : E slices_IndexFunc_1_v (subC (bodyOf Tryz.f92) [1, 0, 1, 0, 0]) (slices_IndexFunc_1_u0_a) (mkS slices_IndexFunc_1_u0_h 8 x) (roundK slices_IndexFunc_1_v.fz slices_IndexFunc_1_u0_h slices_IndexFunc_1_u0_e f) = slices_IndexFunc_1_L0 f x := by kernel_rfl
theorem slices_IndexFunc_1_u0_ok {X : Fx} (hX : VOk Tryz.prog X slices_IndexFunc_1_v) : UnOk Tryz.prog X slices_IndexFunc_1_v (subC (bodyOf Tryz.f92) [1, 0, 1, 0]) slices_IndexFunc_1_u0 :=
  lp_un' (c := (subC (bodyOf Tryz.f92) [1, 0, 1, 0, 0])) (by kernel_rfl) (env_all tb_ok (slices_IndexFunc_1_gs)) hord (ob := []) (by kernel_rfl) (fun X hX => obl_nil) (slices_IndexFunc_1_u0_s) (by kernel_rfl) (by kernel_rfl) hX
noncomputable def slices_IndexFunc_1_a : AC := (.seq .run (.seq (.seq .run (.block (.unit slices_IndexFunc_1_u0))) .run))
theorem slices_IndexFunc_1_s (x : TupL slices_IndexFunc_1_c.inp.hs) : E slices_IndexFunc_1_v (bodyOf Tryz.f92) (slices_IndexFunc_1_a) (slices_IndexFunc_1_c.entry x) (retSK tb slices_IndexFunc_1_v.fz slices_IndexFunc_1_c [.tmp 4] x) = slices_IndexFunc_1_c.F x := by kernel_rfl
theorem slices_IndexFunc_1_ok : ShOk Tryz.prog gl 92 slices_IndexFunc_1_c :=
  fn_ok (l := slices_IndexFunc_1_g) (n := Tryz.f92.ntmps) (code := bodyOf Tryz.f92) (rts := [.tmp 4]) tb_ok hord (slices_IndexFunc_1_gs) Tryz.func92 (by kernel_rfl) (by kernel_rfl) rfl (by kernel_rfl) (ac := slices_IndexFunc_1_a) (ob := [((subC (bodyOf Tryz.f92) [1, 0, 1, 0]), slices_IndexFunc_1_u0)]) (by kernel_rfl) (fun X hX => (obl_cons (slices_IndexFunc_1_u0_ok hX) obl_nil)) (by kernel_rfl) (slices_IndexFunc_1_s)

noncomputable def slices_ContainsFunc_1_c : ShC := { inp := ⟨[.hole, (.clo 118 [(.ptr 0 0)])], [.cells true [.hole]], [1, 1], [.sl (.one (.sl (.one (.int .i64)))), .sl (.one (.int .i64))]⟩, out := ⟨[.hole], [], [2], [.bool]⟩, nres := 1, ms := [], mu := [], leak := false, glob := false, F := fun (x : ((List (List Int)) × (List Int))) => slices_ContainsFunc_1 x.1 x.2 }
-- slices.ContainsFunc[[][]int,[]int]
noncomputable def slices_ContainsFunc_1_g : List (Nat × Con) := [(92, .gen (altE [slices_IndexFunc_1_c]))]
noncomputable def slices_ContainsFunc_1_v : Env := envOf tb gl slices_ContainsFunc_1_g slices_ContainsFunc_1_c Tryz.f51.ntmps
theorem slices_ContainsFunc_1_gs : Goods Tryz.prog (cond slices_ContainsFunc_1_c.glob gl fun _ => none) slices_ContainsFunc_1_g := (goods_cons (good_alt (alls_cons (slices_IndexFunc_1_ok.anyGl rfl) alls_nil)) goods_nil)
noncomputable def slices_ContainsFunc_1_a : AC := .run
theorem slices_ContainsFunc_1_s (x : TupL slices_ContainsFunc_1_c.inp.hs) : E slices_ContainsFunc_1_v (bodyOf Tryz.f51) (slices_ContainsFunc_1_a) (slices_ContainsFunc_1_c.entry x) (retSK tb slices_ContainsFunc_1_v.fz slices_ContainsFunc_1_c [.tmp 4] x) = slices_ContainsFunc_1_c.F x := by kernel_rfl
theorem slices_ContainsFunc_1_ok : ShOk Tryz.prog gl 51 slices_ContainsFunc_1_c :=
  fn_ok (l := slices_ContainsFunc_1_g) (n := Tryz.f51.ntmps) (code := bodyOf Tryz.f51) (rts := [.tmp 4]) tb_ok hord (slices_ContainsFunc_1_gs) Tryz.func51 (by kernel_rfl) (by kernel_rfl) rfl (by kernel_rfl) (ac := slices_ContainsFunc_1_a) (ob := []) (by kernel_rfl) (fun X hX => obl_nil) (by kernel_rfl) (slices_ContainsFunc_1_s)

noncomputable def clause_anew_c2_1_c : ShC := { inp := ⟨[.hole, (.aptr 0), (.ptr 1 0)], [.seq false, .cells false [.hole]], [1, 1, 1], [.sl (.one (.int .i64)), .sl (.one (.int .i64)), .int .i64]⟩, out := ⟨[(.view 0), (.aptr 1), (.ptr 2 0)], [.seq false, .seq false, .cells false [.hole]], [0, 0, 2], [.sl (.one (.int .i64)), .sl (.one (.int .i64)), .int .i64]⟩, nres := 1, ms := [1, 2], mu := [(0, 1), (1, 2)], leak := true, glob := false, F := fun (x : ((List Int) × (List Int) × Int)) => clause_anew_c2_1 x.1 x.2.1 x.2.2 }
-- clause.anew$2
noncomputable def clause_anew_c2_1_g : List (Nat × Con) := [(35, .gen (altE [term_Number_c])), (76, .gen (altE [slices_CloneN_c]))]
noncomputable def clause_anew_c2_1_v : Env := envOf tb gl clause_anew_c2_1_g clause_anew_c2_1_c Tryz.f121.ntmps
theorem clause_anew_c2_1_gs : Goods Tryz.prog (cond clause_anew_c2_1_c.glob gl fun _ => none) clause_anew_c2_1_g := (goods_cons (good_alt (alls_cons (term_Number_ok.anyGl rfl) alls_nil)) (goods_cons (good_alt (alls_cons (slices_CloneN_ok.anyGl rfl) alls_nil)) goods_nil))
noncomputable def clause_anew_c2_1_u0_h : SS := ⟨[1, 2, 5, 10, 11, 12], ⟨[(.aptr 0), (.ptr 1 0), (.view 2), (.view 2), .hole, .hole], [.seq false, .cells false [.hole], .seq false], [2, 2, 0, 2, 0], [.int .i64, .int .i64, .sl (.one (.int .i64)), .int .i64, .sl (.one (.int .i64))]⟩⟩
noncomputable def clause_anew_c2_1_u0_e : Exs := [((.exit 0), ⟨[1, 2, 5], ⟨[(.aptr 0), (.ptr 1 0), (.view 2)], [.seq false, .cells false [.hole], .seq false], [0, 2, 0], [.sl (.one (.int .i64)), .int .i64, .sl (.one (.int .i64))]⟩⟩)]
noncomputable def clause_anew_c2_1_u0_a : AC := .run
noncomputable def clause_anew_c2_1_u0 : Un := lpU clause_anew_c2_1_v.fz [13, 14, 15, 16, 6, 7, 17, 18, 19, 20, 21, 22, 23, 24, 25, 26, 27, 28, 29, 30, 31, 32, 33, 34, 35, 36, 37, 38, 12] clause_anew_c2_1_u0_h clause_anew_c2_1_u0_e (lp clause_anew_c2_1_L0 fuel)
theorem clause_anew_c2_1_u0_s (f : clause_anew_c2_1_u0_h.X → Option (YT clause_anew_c2_1_u0_e)) (x : clause_anew_c2_1_u0_h.X) : E clause_anew_c2_1_v (subC (bodyOf Tryz.f121) [1, 1, 0, 1, 0, 0]) (clause_anew_c2_1_u0_a) (mkS clause_anew_c2_1_u0_h 8 x) (roundK clause_anew_c2_1_v.fz clause_anew_c2_1_u0_h clause_anew_c2_1_u0_e f) = clause_anew_c2_1_L0 f x := by kernel_rfl
theorem clause_anew_c2_1_u0_ok {X : Fx} (hX : VOk Tryz.prog X clause_anew_c2_1_v) : UnOk Tryz.prog X clause_anew_c2_1_v (subC (bodyOf Tryz.f121) [1, 1, 0, 1, 0]) clause_anew_c2_1_u0 :=
  lp_un' (c := (subC (bodyOf Tryz.f121) [1, 1, 0, 1, 0, 0])) (by kernel_rfl) (env_all tb_ok (clause_anew_c2_1_gs)) hord (ob := []) (by kernel_rfl) (fun X hX => obl_nil) (clause_anew_c2_1_u0_s) (by kernel_rfl) (by kernel_rfl) hX
noncomputable def clause_anew_c2_1_a : AC := (.seq .run (.seq .run (.seq (.seq .run (.block (.unit clause_anew_c2_1_u0))) .run)))
theorem clause_anew_c2_1_s (x : TupL clause_anew_c2_1_c.inp.hs) : E clause_anew_c2_1_v (bodyOf Tryz.f121) (clause_anew_c2_1_a) (clause_anew_c2_1_c.entry x) (retSK tb clause_anew_c2_1_v.fz clause_anew_c2_1_c [.tmp 4] x) = clause_anew_c2_1_c.F x := by kernel_rfl
theorem clause_anew_c2_1_ok : ShOk Tryz.prog gl 121 clause_anew_c2_1_c :=
  fn_ok (l := clause_anew_c2_1_g) (n := Tryz.f121.ntmps) (code := bodyOf Tryz.f121) (rts := [.tmp 4]) tb_ok hord (clause_anew_c2_1_gs) Tryz.func121 (by kernel_rfl) (by kernel_rfl) rfl (by kernel_rfl) (ac := clause_anew_c2_1_a) (ob := [((subC (bodyOf Tryz.f121) [1, 1, 0, 1, 0]), clause_anew_c2_1_u0)]) (by kernel_rfl) (fun X hX => (obl_cons (clause_anew_c2_1_u0_ok hX) obl_nil)) (by kernel_rfl) (clause_anew_c2_1_s)

noncomputable def clause_each_1_c : ShC := { inp := ⟨[(.agg [.hole, .hole, .hole]), (.clo 121 [(.aptr 0), (.ptr 1 0)])], [.seq false, .cells false [.hole]], [1, 1, 1, 1, 1], [.sl tLit, .sl (.one (.sl (.one (.int .i64)))), .sl tLit, .sl (.one (.int .i64)), .int .i64]⟩, out := ⟨[(.agg [.hole, .hole, (.view 0)]), (.clo 121 [(.aptr 1), (.ptr 2 0)])], [.seq false, .seq false, .cells false [.hole]], [0, 0, 0, 0, 2], [.sl tLit, .sl (.one (.sl (.one (.int .i64)))), .sl tLit, .sl (.one (.int .i64)), .int .i64]⟩, nres := 1, ms := [1], mu := [(0, 1), (1, 2)], leak := true, glob := false, F := fun (x : ((List QLit) × (List (List Int)) × (List QLit) × (List Int) × Int)) => clause_each_1 x.1 x.2.1 x.2.2.1 x.2.2.2.1 x.2.2.2.2 }
-- clause.each
noncomputable def clause_each_1_g : List (Nat × Con) := [(121, .gen (altE [clause_anew_c2_1_c]))]
noncomputable def clause_each_1_v : Env := envOf tb gl clause_each_1_g clause_each_1_c Tryz.f120.ntmps
theorem clause_each_1_gs : Goods Tryz.prog (cond clause_each_1_c.glob gl fun _ => none) clause_each_1_g := (goods_cons (good_alt (alls_cons (clause_anew_c2_1_ok.anyGl rfl) alls_nil)) goods_nil)
noncomputable def clause_each_1_u2_h : SS := ⟨[1, 4, 5, 49, 50, 51], ⟨[(.clo 121 [(.aptr 0), (.ptr 1 0)]), (.ptr 2 0), (.ptr 3 0), .hole, .hole, .hole], [.seq false, .cells false [.hole], .cells true [.nilv, .nilv, .nilv], .cells false [.hole, .hole, (.view 4)], .seq false], [1, 2, 2, 0, 2, 0, 0, 0], [.sl tLit, .int .i64, .int .i64, .sl (.one (.int .i64)), .int .i64, .sl tLit, .sl (.one (.sl (.one (.int .i64)))), .sl tLit]⟩⟩
noncomputable def clause_each_1_u2_e : Exs := [((.exit 4), ⟨[1, 5], ⟨[(.clo 121 [(.aptr 0), (.ptr 1 0)]), (.ptr 2 0)], [.seq false, .cells false [.hole], .cells false [.hole, .hole, (.view 3)], .seq false], [0, 2, 0, 0, 0], [.sl (.one (.int .i64)), .int .i64, .sl tLit, .sl (.one (.sl (.one (.int .i64)))), .sl tLit]⟩⟩)]
noncomputable def clause_each_1_u2_a : AC := (.seq .run (.seq .run (.seq (.block (.seq .run (.hide [[8, 9], [8, 9], [8, 9], [8, 9], [], [], [], [], [], [], [], [], []]))) .run)))
noncomputable def clause_each_1_u2 : Un := lpU clause_each_1_v.fz [52, 53, 54, 11, 55, 56, 57, 58, 59, 60, 61, 62, 63, 64, 65, 66, 67, 51] clause_each_1_u2_h clause_each_1_u2_e (lp clause_each_1_L2 fuel)
theorem clause_each_1_u2_s (f : clause_each_1_u2_h.X → Option (YT clause_each_1_u2_e)) (x : clause_each_1_u2_h.X) : E clause_each_1_v (subC (bodyOf Tryz.f120) [1, 1, 1, 1, 0, 1, 0, 0]) (clause_each_1_u2_a) (mkS clause_each_1_u2_h 8 x) (roundK clause_each_1_v.fz clause_each_1_u2_h clause_each_1_u2_e f) = clause_each_1_L2 f x := by kernel_rfl
theorem clause_each_1_u2_ok {X : Fx} (hX : VOk Tryz.prog X clause_each_1_v) : UnOk Tryz.prog X clause_each_1_v (subC (bodyOf Tryz.f120) [1, 1, 1, 1, 0, 1, 0]) clause_each_1_u2 :=
  lp_un' (c := (subC (bodyOf Tryz.f120) [1, 1, 1, 1, 0, 1, 0, 0])) (by kernel_rfl) (env_all tb_ok (clause_each_1_gs)) hord (ob := []) (by kernel_rfl) (fun X hX => obl_nil) (clause_each_1_u2_s) (by kernel_rfl) (by kernel_rfl) hX
noncomputable def clause_each_1_u1_h : SS := ⟨[1, 2, 4, 5, 33, 34, 35], ⟨[(.clo 121 [(.aptr 0), (.ptr 1 0)]), (.ptr 2 0), (.ptr 3 0), (.ptr 4 0), .hole, .hole, .hole], [.seq false, .cells false [.hole], .cells true [.hole, .hole, .hole], .cells true [.nilv, .nilv, .nilv], .cells false [.hole, (.view 5), .nilv], .seq false], [1, 2, 2, 0, 2, 1, 1, 1, 0, 0], [.sl (.one (.sl (.one (.int .i64)))), .int .i64, .int .i64, .sl (.one (.int .i64)), .int .i64, .sl tLit, .sl (.one (.sl (.one (.int .i64)))), .sl tLit, .sl tLit, .sl (.one (.sl (.one (.int .i64))))]⟩⟩
noncomputable def clause_each_1_u1_e : Exs := [((.exit 2), ⟨[1, 5], ⟨[(.clo 121 [(.aptr 0), (.ptr 1 0)]), (.ptr 2 0)], [.seq false, .cells false [.hole], .cells false [.hole, (.view 3), .nilv], .seq false], [0, 2, 0, 0], [.sl (.one (.int .i64)), .int .i64, .sl tLit, .sl (.one (.sl (.one (.int .i64))))]⟩⟩)]
noncomputable def clause_each_1_u1_a : AC := (.seq .run (.seq .run (.seq (.block (.seq .run (.hide [[8, 9], [8, 9], [], [], [], [], [], [], []]))) .run)))
noncomputable def clause_each_1_u1 : Un := lpU clause_each_1_v.fz [36, 37, 38, 9, 39, 40, 41, 42, 43, 44, 45, 46, 47, 35] clause_each_1_u1_h clause_each_1_u1_e (lp clause_each_1_L1 fuel)
theorem clause_each_1_u1_s (f : clause_each_1_u1_h.X → Option (YT clause_each_1_u1_e)) (x : clause_each_1_u1_h.X) : E clause_each_1_v (subC (bodyOf Tryz.f120) [1, 1, 1, 0, 1, 0, 0]) (clause_each_1_u1_a) (mkS clause_each_1_u1_h 8 x) (roundK clause_each_1_v.fz clause_each_1_u1_h clause_each_1_u1_e f) = clause_each_1_L1 f x := by kernel_rfl
theorem clause_each_1_u1_ok {X : Fx} (hX : VOk Tryz.prog X clause_each_1_v) : UnOk Tryz.prog X clause_each_1_v (subC (bodyOf Tryz.f120) [1, 1, 1, 0, 1, 0]) clause_each_1_u1 :=
  lp_un' (c := (subC (bodyOf Tryz.f120) [1, 1, 1, 0, 1, 0, 0])) (by kernel_rfl) (env_all tb_ok (clause_each_1_gs)) hord (ob := []) (by kernel_rfl) (fun X hX => obl_nil) (clause_each_1_u1_s) (by kernel_rfl) (by kernel_rfl) hX
noncomputable def clause_each_1_u0_h : SS := ⟨[1, 2, 4, 5, 13, 14, 15], ⟨[(.clo 121 [(.aptr 0), (.ptr 1 0)]), (.ptr 2 0), (.ptr 3 0), (.ptr 4 0), .hole, .hole, .hole], [.seq false, .cells false [.hole], .cells true [.hole, .hole, .hole], .cells true [.nilv, .nilv, .nilv], .cells false [(.view 5), .nilv, .nilv], .seq false], [1, 2, 2, 0, 2, 1, 1, 1, 0], [.sl tLit, .int .i64, .int .i64, .sl (.one (.int .i64)), .int .i64, .sl tLit, .sl (.one (.sl (.one (.int .i64)))), .sl tLit, .sl tLit]⟩⟩
noncomputable def clause_each_1_u0_e : Exs := [((.exit 0), ⟨[1, 5], ⟨[(.clo 121 [(.aptr 0), (.ptr 1 0)]), (.ptr 2 0)], [.seq false, .cells false [.hole], .cells false [(.view 3), .nilv, .nilv], .seq false], [0, 2, 0], [.sl (.one (.int .i64)), .int .i64, .sl tLit]⟩⟩)]
noncomputable def clause_each_1_u0_a : AC := (.seq .run (.seq .run (.seq (.block (.seq .run (.hide [[8, 9], [8, 9], [8, 9], [8, 9], [], [], [], [], [], [], [], [], []]))) .run)))
noncomputable def clause_each_1_u0 : Un := lpU clause_each_1_v.fz [16, 17, 18, 7, 19, 20, 21, 22, 23, 24, 25, 26, 27, 28, 29, 30, 31, 15] clause_each_1_u0_h clause_each_1_u0_e (lp clause_each_1_L0 fuel)
theorem clause_each_1_u0_s (f : clause_each_1_u0_h.X → Option (YT clause_each_1_u0_e)) (x : clause_each_1_u0_h.X) : E clause_each_1_v (subC (bodyOf Tryz.f120) [1, 1, 0, 1, 0, 0]) (clause_each_1_u0_a) (mkS clause_each_1_u0_h 8 x) (roundK clause_each_1_v.fz clause_each_1_u0_h clause_each_1_u0_e f) = clause_each_1_L0 f x := by kernel_rfl
theorem clause_each_1_u0_ok {X : Fx} (hX : VOk Tryz.prog X clause_each_1_v) : UnOk Tryz.prog X clause_each_1_v (subC (bodyOf Tryz.f120) [1, 1, 0, 1, 0]) clause_each_1_u0 :=
  lp_un' (c := (subC (bodyOf Tryz.f120) [1, 1, 0, 1, 0, 0])) (by kernel_rfl) (env_all tb_ok (clause_each_1_gs)) hord (ob := []) (by kernel_rfl) (fun X hX => obl_nil) (clause_each_1_u0_s) (by kernel_rfl) (by kernel_rfl) hX
noncomputable def clause_each_1_a : AC := (.seq .run (.seq .run (.seq (.seq .run (.block (.unit clause_each_1_u0))) (.seq (.seq .run (.block (.unit clause_each_1_u1))) (.seq (.seq .run (.block (.unit clause_each_1_u2))) .run)))))
theorem clause_each_1_s (x : TupL clause_each_1_c.inp.hs) : E clause_each_1_v (bodyOf Tryz.f120) (clause_each_1_a) (clause_each_1_c.entry x) (retSK tb clause_each_1_v.fz clause_each_1_c [.cell 4 29] x) = clause_each_1_c.F x := by kernel_rfl
theorem clause_each_1_ok : ShOk Tryz.prog gl 120 clause_each_1_c :=
  fn_ok (l := clause_each_1_g) (n := Tryz.f120.ntmps) (code := bodyOf Tryz.f120) (rts := [.cell 4 29]) tb_ok hord (clause_each_1_gs) Tryz.func120 (by kernel_rfl) (by kernel_rfl) rfl (by kernel_rfl) (ac := clause_each_1_a) (ob := [((subC (bodyOf Tryz.f120) [1, 1, 0, 1, 0]), clause_each_1_u0), ((subC (bodyOf Tryz.f120) [1, 1, 1, 0, 1, 0]), clause_each_1_u1), ((subC (bodyOf Tryz.f120) [1, 1, 1, 1, 0, 1, 0]), clause_each_1_u2)]) (by kernel_rfl) (fun X hX => (obl_cons (clause_each_1_u0_ok hX) (obl_cons (clause_each_1_u1_ok hX) (obl_cons (clause_each_1_u2_ok hX) obl_nil)))) (by kernel_rfl) (clause_each_1_s)

noncomputable def clause_anew_c : ShC := { inp := ⟨[(.agg [.hole, .hole, .hole])], [], [1, 1, 1], [.sl tLit, .sl (.one (.sl (.one (.int .i64)))), .sl tLit]⟩, out := ⟨[(.agg [.hole, .hole, (.view 0)])], [.seq false], [0, 0, 0], [.sl tLit, .sl (.one (.sl (.one (.int .i64)))), .sl tLit]⟩, nres := 1, ms := [], mu := [], leak := true, glob := false, F := fun (x : ((List QLit) × (List (List Int)) × (List QLit))) => clause_anew x.1 x.2.1 x.2.2 }
-- clause.anew
noncomputable def clause_anew_g : List (Nat × Con) := [(51, .gen (altE [slices_ContainsFunc_1_c])), (117, .gen (altE [clause_once_c])), (120, .gen (altE [clause_each_1_c]))]
noncomputable def clause_anew_v : Env := envOf tb gl clause_anew_g clause_anew_c Tryz.f77.ntmps
theorem clause_anew_gs : Goods Tryz.prog (cond clause_anew_c.glob gl fun _ => none) clause_anew_g := (goods_cons (good_alt (alls_cons (slices_ContainsFunc_1_ok.anyGl rfl) alls_nil)) (goods_cons (good_alt (alls_cons (clause_once_ok.anyGl rfl) alls_nil)) (goods_cons (good_alt (alls_cons (clause_each_1_ok.anyGl rfl) alls_nil)) goods_nil)))
noncomputable def clause_anew_u0_h : SS := ⟨[2, 3, 16, 17, 18], ⟨[(.ptr 0 0), (.ptr 1 0), .hole, .hole, .hole], [.cells true [.nilv, .nilv, .nilv], .cells false [.hole, (.view 2), .hole], .seq false], [1, 2, 2, 0, 0, 0], [.sl (.one (.sl (.one (.int .i64)))), .int .i64, .int .i64, .sl tLit, .sl tLit, .sl (.one (.sl (.one (.int .i64))))]⟩⟩
noncomputable def clause_anew_u0_e : Exs := [((.exit 0), ⟨[3], ⟨[(.ptr 0 0)], [.cells false [.hole, (.view 1), .hole], .seq false], [0, 0, 0], [.sl tLit, .sl tLit, .sl (.one (.sl (.one (.int .i64))))]⟩⟩)]
noncomputable def clause_anew_u0_a : AC := .run
noncomputable def clause_anew_u0 : Un := lpU clause_anew_v.fz [19, 20, 21, 5, 22, 23, 24, 25, 26, 27, 28, 29, 30, 31, 32, 33, 18] clause_anew_u0_h clause_anew_u0_e (lp clause_anew_L0 fuel)
theorem clause_anew_u0_s (f : clause_anew_u0_h.X → Option (YT clause_anew_u0_e)) (x : clause_anew_u0_h.X) : E clause_anew_v (subC (bodyOf Tryz.f77) [1, 1, 0, 1, 0, 0]) (clause_anew_u0_a) (mkS clause_anew_u0_h 8 x) (roundK clause_anew_v.fz clause_anew_u0_h clause_anew_u0_e f) = clause_anew_L0 f x := by kernel_rfl
theorem clause_anew_u0_ok {X : Fx} (hX : VOk Tryz.prog X clause_anew_v) : UnOk Tryz.prog X clause_anew_v (subC (bodyOf Tryz.f77) [1, 1, 0, 1, 0]) clause_anew_u0 :=
  lp_un' (c := (subC (bodyOf Tryz.f77) [1, 1, 0, 1, 0, 0])) (by kernel_rfl) (env_all tb_ok (clause_anew_gs)) hord (ob := []) (by kernel_rfl) (fun X hX => obl_nil) (clause_anew_u0_s) (by kernel_rfl) (by kernel_rfl) hX
noncomputable def clause_anew_a : AC := (.seq .run (.seq .run (.seq (.seq .run (.block (.unit clause_anew_u0))) .run)))
theorem clause_anew_s (x : TupL clause_anew_c.inp.hs) : E clause_anew_v (bodyOf Tryz.f77) (clause_anew_a) (clause_anew_c.entry x) (retSK tb clause_anew_v.fz clause_anew_c [.cell 2 29] x) = clause_anew_c.F x := by kernel_rfl
theorem clause_anew_ok : ShOk Tryz.prog gl 77 clause_anew_c :=
  fn_ok (l := clause_anew_g) (n := Tryz.f77.ntmps) (code := bodyOf Tryz.f77) (rts := [.cell 2 29]) tb_ok hord (clause_anew_gs) Tryz.func77 (by kernel_rfl) (by kernel_rfl) rfl (by kernel_rfl) (ac := clause_anew_a) (ob := [((subC (bodyOf Tryz.f77) [1, 1, 0, 1, 0]), clause_anew_u0)]) (by kernel_rfl) (fun X hX => (obl_cons (clause_anew_u0_ok hX) obl_nil)) (by kernel_rfl) (clause_anew_s)

noncomputable def clause_Normal_c : ShC := { inp := ⟨[.hole, (.agg [.hole, .hole, .hole])], [], [1, 1, 1, 1], [.sl tSym, .sl tLit, .sl (.one (.sl (.one (.int .i64)))), .sl tLit]⟩, out := ⟨[(.agg [.hole, .hole, (.view 0)]), .hole], [.seq false], [0, 0, 2, 0], [.sl tLit, .sl (.one (.sl (.one (.int .i64)))), .int .i64, .sl tLit]⟩, nres := 2, ms := [], mu := [], leak := true, glob := true, F := fun (x : ((List QSym) × (List QLit) × (List (List Int)) × (List QLit))) => clause_Normal x.1 x.2.1 x.2.2.1 x.2.2.2 }
-- clause.Normal
noncomputable def clause_Normal_g : List (Nat × Con) := [(48, .gen (altE [clause_May_c])), (77, .gen (altE [clause_anew_c]))]
noncomputable def clause_Normal_v : Env := envOf tb gl clause_Normal_g clause_Normal_c Tryz.f36.ntmps
theorem clause_Normal_gs : Goods Tryz.prog (cond clause_Normal_c.glob gl fun _ => none) clause_Normal_g := (goods_cons (good_alt (alls_cons clause_May_ok alls_nil)) (goods_cons (good_alt (alls_cons (clause_anew_ok.anyGl rfl) alls_nil)) goods_nil))
noncomputable def clause_Normal_a : AC := .run
theorem clause_Normal_s (x : TupL clause_Normal_c.inp.hs) : E clause_Normal_v (bodyOf Tryz.f36) (clause_Normal_a) (clause_Normal_c.entry x) (retSK tb clause_Normal_v.fz clause_Normal_c [.cell 4 29, .tmp 5] x) = clause_Normal_c.F x := by kernel_rfl
theorem clause_Normal_ok : ShOk Tryz.prog gl 36 clause_Normal_c :=
  fn_ok (l := clause_Normal_g) (n := Tryz.f36.ntmps) (code := bodyOf Tryz.f36) (rts := [.cell 4 29, .tmp 5]) tb_ok hord (clause_Normal_gs) Tryz.func36 (by kernel_rfl) (by kernel_rfl) rfl (by kernel_rfl) (ac := clause_Normal_a) (ob := []) (by kernel_rfl) (fun X hX => obl_nil) (by kernel_rfl) (clause_Normal_s)

noncomputable def ask_Goal_c : ShC := { inp := ⟨[.hole, .hole, .hole], [], [1, 1, 1], [.sl tSym, .sl (.one (.int .i64)), .sl tLit]⟩, out := ⟨[(.agg [.hole, .hole, (.view 0)]), .hole], [.seq false], [0, 0, 2, 0], [.sl tLit, .sl (.one (.sl (.one (.int .i64)))), .int .i64, .sl tLit]⟩, nres := 2, ms := [], mu := [], leak := true, glob := true, F := fun (x : ((List QSym) × (List Int) × (List QLit))) => ask_Goal x.1 x.2.1 x.2.2 }
-- ask.Goal
noncomputable def ask_Goal_g : List (Nat × Con) := [(32, .gen (altE [sign_May_c])), (33, .gen (altE [ask_varsMay_c])), (34, .gen (altE [lit_Opposite_c])), (35, .gen (altE [term_Number_c])), (36, .gen (altE [clause_Normal_c]))]
noncomputable def ask_Goal_v : Env := envOf tb gl ask_Goal_g ask_Goal_c Tryz.f9.ntmps
theorem ask_Goal_gs : Goods Tryz.prog (cond ask_Goal_c.glob gl fun _ => none) ask_Goal_g := (goods_cons (good_alt (alls_cons sign_May_ok alls_nil)) (goods_cons (good_alt (alls_cons (ask_varsMay_ok.anyGl rfl) alls_nil)) (goods_cons (good_alt (alls_cons (lit_Opposite_ok.anyGl rfl) alls_nil)) (goods_cons (good_alt (alls_cons (term_Number_ok.anyGl rfl) alls_nil)) (goods_cons (good_alt (alls_cons clause_Normal_ok alls_nil)) goods_nil)))))
noncomputable def ask_Goal_u1_h : SS := ⟨[0, 6, 8, 11, 52, 53, 54], ⟨[.hole, (.ptr 0 0), (.ptr 1 0), (.view 2), .hole, .hole, .hole], [.cells true [.nilv, .nilv, .nilv], .cells true [.hole, .nilv, .nilv], .seq false], [1, 1, 2, 2, 0, 2], [.sl tSym, .sl (.one (.int .i64)), .int .i64, .int .i64, .sl tLit, .sl (.one (.int .i64))]⟩⟩
noncomputable def ask_Goal_u1_e : Exs := [((.exit 2), ⟨[11], ⟨[(.view 0)], [.seq false], [2], [.sl (.one (.int .i64))]⟩⟩)]
noncomputable def ask_Goal_u1_a : AC := .run
noncomputable def ask_Goal_u1 : Un := lpU ask_Goal_v.fz [55, 56, 57, 58, 12, 13, 59, 60, 61, 62, 63, 64, 54] ask_Goal_u1_h ask_Goal_u1_e (lp ask_Goal_L1 fuel)
theorem ask_Goal_u1_s (f : ask_Goal_u1_h.X → Option (YT ask_Goal_u1_e)) (x : ask_Goal_u1_h.X) : E ask_Goal_v (subC (bodyOf Tryz.f9) [1, 1, 1, 1, 1, 0, 1, 0, 0]) (ask_Goal_u1_a) (mkS ask_Goal_u1_h 8 x) (roundK ask_Goal_v.fz ask_Goal_u1_h ask_Goal_u1_e f) = ask_Goal_L1 f x := by kernel_rfl
theorem ask_Goal_u1_ok {X : Fx} (hX : VOk Tryz.prog X ask_Goal_v) : UnOk Tryz.prog X ask_Goal_v (subC (bodyOf Tryz.f9) [1, 1, 1, 1, 1, 0, 1, 0]) ask_Goal_u1 :=
  lp_un' (c := (subC (bodyOf Tryz.f9) [1, 1, 1, 1, 1, 0, 1, 0, 0])) (by kernel_rfl) (env_all tb_ok (ask_Goal_gs)) hord (ob := []) (by kernel_rfl) (fun X hX => obl_nil) (ask_Goal_u1_s) (by kernel_rfl) (by kernel_rfl) hX
noncomputable def ask_Goal_u0_h : SS := ⟨[0, 1, 6, 8, 35, 36, 37], ⟨[.hole, .hole, (.ptr 0 0), (.ptr 1 0), .hole, .hole, .hole], [.cells true [.nilv, .nilv, .nilv], .cells false [(.view 2), .nilv, .nilv], .seq false], [1, 1, 1, 2, 2, 0], [.sl tSym, .sl (.one (.int .i64)), .sl tLit, .int .i64, .int .i64, .sl tLit]⟩⟩
noncomputable def ask_Goal_u0_e : Exs := [((.exit 0), ⟨[8], ⟨[(.ptr 0 0)], [.cells false [(.view 1), .nilv, .nilv], .seq false], [0], [.sl tLit]⟩⟩)]
noncomputable def ask_Goal_u0_a : AC := .run
noncomputable def ask_Goal_u0 : Un := lpU ask_Goal_v.fz [38, 39, 40, 10, 41, 42, 43, 44, 45, 46, 47, 48, 37] ask_Goal_u0_h ask_Goal_u0_e (lp ask_Goal_L0 fuel)
theorem ask_Goal_u0_s (f : ask_Goal_u0_h.X → Option (YT ask_Goal_u0_e)) (x : ask_Goal_u0_h.X) : E ask_Goal_v (subC (bodyOf Tryz.f9) [1, 1, 1, 0, 1, 0, 0]) (ask_Goal_u0_a) (mkS ask_Goal_u0_h 8 x) (roundK ask_Goal_v.fz ask_Goal_u0_h ask_Goal_u0_e f) = ask_Goal_L0 f x := by kernel_rfl
theorem ask_Goal_u0_ok {X : Fx} (hX : VOk Tryz.prog X ask_Goal_v) : UnOk Tryz.prog X ask_Goal_v (subC (bodyOf Tryz.f9) [1, 1, 1, 0, 1, 0]) ask_Goal_u0 :=
  lp_un' (c := (subC (bodyOf Tryz.f9) [1, 1, 1, 0, 1, 0, 0])) (by kernel_rfl) (env_all tb_ok (ask_Goal_gs)) hord (ob := []) (by kernel_rfl) (fun X hX => obl_nil) (ask_Goal_u0_s) (by kernel_rfl) (by kernel_rfl) hX
noncomputable def ask_Goal_a : AC := (.seq .run (.seq .run (.seq .run (.seq (.seq .run (.block (.unit ask_Goal_u0))) (.seq .run (.seq (.seq .run (.block (.unit ask_Goal_u1))) .run))))))
theorem ask_Goal_s (x : TupL ask_Goal_c.inp.hs) : E ask_Goal_v (bodyOf Tryz.f9) (ask_Goal_a) (ask_Goal_c.entry x) (retSK tb ask_Goal_v.fz ask_Goal_c [.cell 6 29, .tmp 7] x) = ask_Goal_c.F x := by kernel_rfl
theorem ask_Goal_ok : ShOk Tryz.prog gl 9 ask_Goal_c :=
  fn_ok (l := ask_Goal_g) (n := Tryz.f9.ntmps) (code := bodyOf Tryz.f9) (rts := [.cell 6 29, .tmp 7]) tb_ok hord (ask_Goal_gs) Tryz.func9 (by kernel_rfl) (by kernel_rfl) rfl (by kernel_rfl) (ac := ask_Goal_a) (ob := [((subC (bodyOf Tryz.f9) [1, 1, 1, 0, 1, 0]), ask_Goal_u0), ((subC (bodyOf Tryz.f9) [1, 1, 1, 1, 1, 0, 1, 0]), ask_Goal_u1)]) (by kernel_rfl) (fun X hX => (obl_cons (ask_Goal_u0_ok hX) (obl_cons (ask_Goal_u1_ok hX) obl_nil))) (by kernel_rfl) (ask_Goal_s)

noncomputable def law24_awake_c : ShC := { inp := ⟨[], [], [], []⟩, out := ⟨[.hole], [], [2], [.bool]⟩, nres := 1, ms := [], mu := [], leak := false, glob := true, F := fun (x : Unit) => law24_awake }
-- quaerelaw24.awake
noncomputable def law24_awake_g : List (Nat × Con) := [(9, .gen (altE [ask_Goal_c])), (11, .gen (altE [law0_SameClause_c])), (12, .gen (altE [law0_Num_c])), (18, .gen (altE [ask_Fine_c])), (20, .gen (altE [ask_Show_c])), (46, .gen (altE [law24_words_c]))]
noncomputable def law24_awake_v : Env := envOf tb gl law24_awake_g law24_awake_c Tryz.f16.ntmps
theorem law24_awake_gs : Goods Tryz.prog (cond law24_awake_c.glob gl fun _ => none) law24_awake_g := (goods_cons (good_alt (alls_cons ask_Goal_ok alls_nil)) (goods_cons (good_alt (alls_cons (law0_SameClause_ok.anyGl rfl) alls_nil)) (goods_cons (good_alt (alls_cons (law0_Num_ok.anyGl rfl) alls_nil)) (goods_cons (good_alt (alls_cons ask_Fine_ok alls_nil)) (goods_cons (good_alt (alls_cons ask_Show_ok alls_nil)) (goods_cons (good_alt (alls_cons (law24_words_ok.anyGl rfl) alls_nil)) goods_nil))))))
noncomputable def law24_awake_a : AC := .run
theorem law24_awake_s (x : TupL law24_awake_c.inp.hs) : E law24_awake_v (bodyOf Tryz.f16) (law24_awake_a) (law24_awake_c.entry x) (retSK tb law24_awake_v.fz law24_awake_c [.tmp 0] x) = law24_awake_c.F x := by kernel_rfl
theorem law24_awake_ok : ShOk Tryz.prog gl 16 law24_awake_c :=
  fn_ok (l := law24_awake_g) (n := Tryz.f16.ntmps) (code := bodyOf Tryz.f16) (rts := [.tmp 0]) tb_ok hord (law24_awake_gs) Tryz.func16 (by kernel_rfl) (by kernel_rfl) rfl (by kernel_rfl) (ac := law24_awake_a) (ob := []) (by kernel_rfl) (fun X hX => obl_nil) (by kernel_rfl) (law24_awake_s)

noncomputable def law24_Tells_c : ShC := { inp := ⟨[.hole, (.agg [.hole, .hole, .hole])], [], [1, 1, 1, 1], [.sl tSym, .sl tLit, .sl (.one (.sl (.one (.int .i64)))), .sl tLit]⟩, out := ⟨[.hole], [], [2], [.bool]⟩, nres := 1, ms := [], mu := [], leak := false, glob := true, F := fun (x : ((List QSym) × (List QLit) × (List (List Int)) × (List QLit))) => law24_Tells x.1 x.2.1 x.2.2.1 x.2.2.2 }
-- quaerelaw24.Tells
noncomputable def law24_Tells_g : List (Nat × Con) := [(11, .gen (altE [law0_SameClause_c])), (12, .gen (altE [law0_Num_c])), (16, .gen (altE [law24_awake_c])), (17, .gen (altE [law0_CopyClause_c])), (18, .gen (altE [ask_Fine_c])), (19, .gen (altE [ref21_Fine_c])), (20, .gen (altE [ask_Show_c])), (21, .gen (altE [ref21_Tell_c]))]
noncomputable def law24_Tells_v : Env := envOf tb gl law24_Tells_g law24_Tells_c Tryz.f4.ntmps
theorem law24_Tells_gs : Goods Tryz.prog (cond law24_Tells_c.glob gl fun _ => none) law24_Tells_g := (goods_cons (good_alt (alls_cons (law0_SameClause_ok.anyGl rfl) alls_nil)) (goods_cons (good_alt (alls_cons (law0_Num_ok.anyGl rfl) alls_nil)) (goods_cons (good_alt (alls_cons law24_awake_ok alls_nil)) (goods_cons (good_alt (alls_cons (law0_CopyClause_ok.anyGl rfl) alls_nil)) (goods_cons (good_alt (alls_cons ask_Fine_ok alls_nil)) (goods_cons (good_alt (alls_cons (ref21_Fine_ok.anyGl rfl) alls_nil)) (goods_cons (good_alt (alls_cons ask_Show_ok alls_nil)) (goods_cons (good_alt (alls_cons (ref21_Tell_ok.anyGl rfl) alls_nil)) goods_nil))))))))
noncomputable def law24_Tells_a : AC := .run
theorem law24_Tells_s (x : TupL law24_Tells_c.inp.hs) : E law24_Tells_v (bodyOf Tryz.f4) (law24_Tells_a) (law24_Tells_c.entry x) (retSK tb law24_Tells_v.fz law24_Tells_c [.tmp 4] x) = law24_Tells_c.F x := by kernel_rfl
theorem law24_Tells_ok : ShOk Tryz.prog gl 4 law24_Tells_c :=
  fn_ok (l := law24_Tells_g) (n := Tryz.f4.ntmps) (code := bodyOf Tryz.f4) (rts := [.tmp 4]) tb_ok hord (law24_Tells_gs) Tryz.func4 (by kernel_rfl) (by kernel_rfl) rfl (by kernel_rfl) (ac := law24_Tells_a) (ob := []) (by kernel_rfl) (fun X hX => obl_nil) (by kernel_rfl) (law24_Tells_s)

end Go.Abs.Szd
