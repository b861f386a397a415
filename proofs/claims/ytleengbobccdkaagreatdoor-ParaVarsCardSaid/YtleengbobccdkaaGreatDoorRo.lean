import Derived.Test.YtleengbobccdkaaGreatDoorPr
import Derived.Test.YtleengbobccdkaaGreatDoorCards
import Derived.Test.YtleengbobccdkaaGreatDoorTie
/-
  For every input the law returns true, and each argument reads afterwards as it read before.
-/
namespace Go.Proofs.YtleengbobccdkaaGreatDoor
open Go.ChangeShapes Go.WideShapes Go.ChangeAt Go.RowKit Go.Abs Go.Abs.Q Go.Abs.Sz5
set_option maxRecDepth 100000
theorem own:ownKnob Tryz.prog.godebug=none:=by kernel_rfl
theorem zzS:laidOutB Tryz.prog=true:=by kernel_rfl
theorem zGa (H:Type):Bulk (H:=H) Rows.uptoBulk Rows.uptoBulkAll where
  str:=fun l=>rfl
  one:=fun d=>by
    cases d with
    | lit l=>cases l<;>simp [Rows.uptoBulk]
    | _=>simp [Rows.uptoBulk]
  sl:=fun e s=>by simp only[Rows.uptoBulk]; omega
  agg:=fun l=>by simp only[Rows.uptoBulk]; omega
  nil:=by simp [Rows.uptoBulkAll]
  cons:=fun d l=>by simp [Rows.uptoBulkAll]
theorem zxP:Tryz.prog.globalNamed "quaere/sign.equals" = some 0:=by kernel_rfl
theorem zFc {W:World} (h:RC (mem W) (zc6 W) (zc6 W) zwm (([61],0,2,1):zi) 0 0):zwO gl W:=fun q x hx=>by
  unfold gl at hx
  cases hq:Nat.beq q 0 with
  | false=>rw[hq] at hx; cases hx
  | true =>
    rw[hq] at hx
    injection hx with hx; subst hx
    have:=Nat.eq_of_beq_eq_true hq
    subst this
    exact h
theorem zA2 {W:World} {l:List (String×DataW Unit)} (h:laidMetH Tryz.prog l W) (hh:(l.all fun x=>x.2.handleName?.isNone)=true) (i:Nat) (hi:l[i]? = some ("quaere/sign.equals",Rows.laid_quaere_sign_equals)):zwO gl W :=
  zFc (zz0 (t:=136) (n:=4) (ts:=zwm) zg h hh i hi zxP (by kernel_rfl) (by kernel_rfl) (vs:=[.string ⟨List.toArray [61]⟩,.int .i64 0,.int .i64 2,.int .i64 1]) (by kernel_rfl) (fun c A blk off hv =>
    ⟨⟨(hv 0 _ rfl).1,_,(hv 0 _ rfl).2,rfl⟩,⟨(hv 1 _ rfl).1,_,(hv 1 _ rfl).2,rfl⟩,⟨(hv 2 _ rfl).1,_,(hv 2 _ rfl).2,rfl⟩,(hv 3 _ rfl).1,_,(hv 3 _ rfl).2,rfl⟩))

namespace paraVars
theorem zwI (plain:∀ x,zoM [.sl zwm,.sl zmd,.sl (.one (.sl (.one (.int .i64)))),.sl zmd,.sl zmd,.sl (.one (.sl (.one (.int .i64)))),.sl zmd] x→zaM x.1 x.2.1 x.2.2.1 x.2.2.2.1 x.2.2.2.2.1 x.2.2.2.2.2.1 x.2.2.2.2.2.2=some true)
    (H:Type) (enc:TypeId×Value→H) (W:World) (base:Nat) (args:Array Value) (ds gs:List (DataW H)) (before:List MemPlace)
    (hval:∀(j:Nat) t v,Tryz.f10.params[j]? = some t→args[j]? = some v→Value.okWide Tryz.prog W .any base t v)
    (hW:DataW.Whole enc Tryz.prog Tryz.f10.params.toList Rows.paraVarsSpec.vars false W args.toList ds gs before) (hL:laidMetH Tryz.prog Rows.paraVarsRow.laid W) :
    Calls Tryz.prog 10 args W fun e W'=>∃ v,e = .returned v∧Rows.paraVarsSpec.post enc Tryz.prog Tryz.f10 false true false false W args v W':=by
  have hgs:gs=[]:=by
    obtain⟨p,q,hA,hV,_⟩:=hW
    exact (trodVars_none hV).1
  subst hgs
  have hs:∀ ds:List (DataW H),ds.length=Tryz.f10.params.size→(Rows.paraVarsSpec.fn H ds).results=[.lit (.bool true)]∧(Rows.paraVarsSpec.fn H ds).args=ds∧(Rows.paraVarsSpec.fn H ds).vars=[]:=fun ds hd=>by
    rw[Tryz.params10] at hd
    match ds,hd with
    | [_,_,_],_=>exact ⟨rfl,rfl,rfl⟩
  have hp:pv tb 8 Tryz.f10.params.toList=some ([.hole,(.agg [.hole,.hole,.hole]),(.agg [.hole,.hole,.hole])],[.sl zwm,.sl zmd,.sl (.one (.sl (.one (.int .i64)))),.sl zmd,.sl zmd,.sl (.one (.sl (.one (.int .i64)))),.sl zmd]):=by kernel_rfl
  have hr:(Tryz.f10.params.toList.all fun t=>Tryz.prog.readableRec t&&decide (t<Tryz.prog.types.size))=true:=by kernel_rfl
  have h1:(Tryz.f10.name == "runtime.NumGoroutine")=false:=by kernel_rfl
  have h2:Tryz.f10.body=some (zu Tryz.f10):=by kernel_rfl
  have h3:Tryz.f10.resultTypes = #[4]:=by kernel_rfl
  have h4:Tryz.prog.underlying 4=some .bool:=by kernel_rfl
  have h5:=zA2 hL (by kernel_rfl) 0 rfl
  have h6:=zBa
  unfold zqR at h6
  exact zAW (zGa H) zg h6 rfl Tryz.func10 h1 h2 hp zzS hr h3 h4 rfl hs h5 hW hval fun x h1 h2=>plain x h1

noncomputable def zk9 (os:Os):World:=zAS Tryz.prog os [(0,((zvV (Rows.laid_quaere_sign_equals:DataW Unit)).getD []).toArray)]
theorem zxo (os:Os):laidMet Tryz.prog Rows.paraVarsRow.laid ((zk9 os).forCall (fun _ _=>0) ⟨#[],#[.slice none 0 0,.agg #[.slice none 0 0,.slice none 0 0,.slice none 0 0],.agg #[.slice none 0 0,.slice none 0 0,.slice none 0 0]],[]⟩).memory :=
  laidMet_of_run' 8 (by kernel_rfl) (by kernel_rfl)
theorem zFM (os:Os) {H:Type} (enc:TypeId×Value→H):∃ places,DataW.whole enc Tryz.prog ((zk9 os).forCall (fun _ _=>0) ⟨#[],#[.slice none 0 0,.agg #[.slice none 0 0,.slice none 0 0,.slice none 0 0],.agg #[.slice none 0 0,.slice none 0 0,.slice none 0 0]],[]⟩).memory Tryz.f10.params.toList Rows.paraVarsSpec.vars false (#[.slice none 0 0,.agg #[.slice none 0 0,.slice none 0 0,.slice none 0 0],.agg #[.slice none 0 0,.slice none 0 0,.slice none 0 0]]:Array Value).toList 8=some ([.nil,.agg [.nil,.nil,.nil],.agg [.nil,.nil,.nil]],[],places) :=
  ⟨[],by kernel_rfl⟩
theorem zDM (plain:∀ x,zoM [.sl zwm,.sl zmd,.sl (.one (.sl (.one (.int .i64)))),.sl zmd,.sl zmd,.sl (.one (.sl (.one (.int .i64)))),.sl zmd] x→zaM x.1 x.2.1 x.2.2.1 x.2.2.2.1 x.2.2.2.2.1 x.2.2.2.2.2.1 x.2.2.2.2.2.2=some true)
    (os:Os) (started:os.Started) (H:Type) (enc:TypeId×Value→H) (F:Stop.Interp) :
    ReturnsInHanded {} Tryz.checked os 10 .any ((OpenSpec.ofChange Rows.paraVarsSpec).preRow enc Tryz.prog Tryz.f10 Rows.paraVarsRow.domain false Rows.paraVarsRow.laid) (((OpenSpec.ofChange Rows.paraVarsSpec).at F).post enc Tryz.prog Tryz.f10 false true false false):=by
  obtain⟨places,hx⟩:=zFM os enc
  refine returnsInHanded_of_row (C:=Tryz.checked) (s:=OpenSpec.ofChange Rows.paraVarsSpec) own started (by kernel_rfl) Tryz.func10
    (witness_row_at (enc:=enc) (C:=Tryz.checked) false (zk9 os) #[.slice none 0 0,.agg #[.slice none 0 0,.slice none 0 0,.slice none 0 0],.agg #[.slice none 0 0,.slice none 0 0,.slice none 0 0]] (zxy _ _ _ rfl) (by kernel_rfl) (by kernel_rfl) (by kernel_rfl)
      (OpenSpec.preRow_of_cond 8 hx (by kernel_rfl) (fun k hk=>by cases hk) (by kernel_rfl) (zxo os))) ?_
  intro W base args ds gs before hval hW _ hcond _ hL _ _
  exact zwI plain H enc W base args ds gs before hval hW hL
theorem zF8 (plain:∀ x,zoM [.sl zwm,.sl zmd,.sl (.one (.sl (.one (.int .i64)))),.sl zmd,.sl zmd,.sl (.one (.sl (.one (.int .i64)))),.sl zmd] x→zaM x.1 x.2.1 x.2.2.1 x.2.2.2.1 x.2.2.2.2.1 x.2.2.2.2.2.1 x.2.2.2.2.2.2=some true):Rows.ParaVarsSaid :=
  OpenClaim.holds_of_cond 10 Tryz.f10 rfl rfl rfl rfl rfl rfl rfl ⟨rfl,rfl,rfl,rfl,rfl⟩ rfl rfl rfl rfl rfl (by kernel_rfl) Tryz.func10 (by kernel_rfl)
    (of_decide_eq_true (by kernel_rfl)) (by unfold Func.isWrapper; first | (rw[if_pos (by decide +kernel)]; kernel_rfl) | (rw[if_neg (by decide +kernel)]; exact ⟨rfl,rfl⟩))
    (fun os started H enc _ F=>by rw[OpenClaim.pre_eq_preRow]; exact zDM plain os started H enc F)
theorem zFl (f:FuncId) (fn:Func) (hf:Tryz.pinned.checked.prog.funcNamed "quaere/quaerelaw15.ParaVars" = some f) (hfn:Tryz.pinned.checked.prog.funcs[f]? = some fn) :
    false=Tryz.pinned.checked.prog.looks []∧∀(j:Nat) t,fn.params[j]? = some t→Tryz.pinned.checked.prog.wantsStandIn t=false:=by
  obtain rfl:f=10:=Option.some.inj ((show Tryz.prog.funcNamed "quaere/quaerelaw15.ParaVars" = some 10 by kernel_rfl).symm.trans hf) |>.symm
  obtain rfl:fn=Tryz.f10:=(Option.some.inj (Tryz.func10.symm.trans hfn)).symm
  refine ⟨by kernel_rfl,fun j t ht => ?_⟩
  have hall:(Tryz.f10.params.toList.all fun t => !(Tryz.prog.wantsStandIn t))=true:=by kernel_rfl
  rw[List.all_eq_true] at hall
  have:=hall t (by simpa using Array.mem_of_getElem? ht)
  rw[Bool.not_eq_true'] at this
  exact this
theorem card (plain:∀ x,zoM [.sl zwm,.sl zmd,.sl (.one (.sl (.one (.int .i64)))),.sl zmd,.sl zmd,.sl (.one (.sl (.one (.int .i64)))),.sl zmd] x→zaM x.1 x.2.1 x.2.2.1 x.2.2.2.1 x.2.2.2.2.1 x.2.2.2.2.2.1 x.2.2.2.2.2.2=some true):Rows.ParaVarsCardSaid :=
  Claim7.holds_tied_plain_at .later [] _ _ _ _ (zF8 plain) (fun _ h=>by cases h) (by kernel_rfl) (fun _ h=>by cases h) paraVars_row_tie rfl ⟨rfl,rfl⟩ (by kernel_rfl) rfl zFl (by kernel_rfl)
end paraVars

theorem paraVars_holds:Rows.ParaVarsCardSaid:=paraVars.card (fun x _=>ziG x.1 x.2.1 x.2.2.1 x.2.2.2.1 x.2.2.2.2.1 x.2.2.2.2.2.1 x.2.2.2.2.2.2)
end Go.Proofs.YtleengbobccdkaaGreatDoor
