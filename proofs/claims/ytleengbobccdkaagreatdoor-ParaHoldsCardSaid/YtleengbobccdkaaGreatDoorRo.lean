import Derived.Test.YtleengbobccdkaaGreatDoorPr
import Derived.Test.YtleengbobccdkaaGreatDoorCards
import Derived.Test.YtleengbobccdkaaGreatDoorTie
/-
  For every input the law returns true, and each argument reads afterwards as it read before.
-/
namespace Go.Proofs.YtleengbobccdkaaGreatDoor
open Go.ChangeShapes Go.WideShapes Go.ChangeAt Go.RowKit Go.Abs Go.Abs.Q Go.Abs.Sz5
set_option maxRecDepth 100000
theorem own:ownKnob Tryz.prog.godebug=none:=by kernel_rfl
theorem zDu:laidOutB Tryz.prog=true:=by kernel_rfl
theorem zJM (H:Type):Bulk (H:=H) Rows.uptoBulk Rows.uptoBulkAll where
  str:=fun l=>rfl
  one:=fun d=>by
    cases d with
    | lit l=>cases l<;>simp [Rows.uptoBulk]
    | _=>simp [Rows.uptoBulk]
  sl:=fun e s=>by simp only[Rows.uptoBulk]; omega
  agg:=fun l=>by simp only[Rows.uptoBulk]; omega
  nil:=by simp [Rows.uptoBulkAll]
  cons:=fun d l=>by simp [Rows.uptoBulkAll]
theorem zzy:Tryz.prog.globalNamed "quaere/sign.equals" = some 0:=by kernel_rfl
theorem zIw {W:World} (h:RC (mem W) (zdS W) (zdS W) zzp (([61],0,2,1):zi) 0 0):zzG gl W:=fun q x hx=>by
  unfold gl at hx
  cases hq:Nat.beq q 0 with
  | false=>rw[hq] at hx; cases hx
  | true =>
    rw[hq] at hx
    injection hx with hx; subst hx
    have:=Nat.eq_of_beq_eq_true hq
    subst this
    exact h
theorem zDs {W:World} {l:List (String×DataW Unit)} (h:laidMetH Tryz.prog l W) (hh:(l.all fun x=>x.2.handleName?.isNone)=true) (i:Nat) (hi:l[i]? = some ("quaere/sign.equals",Rows.laid_quaere_sign_equals)):zzG gl W :=
  zIw (zEf (t:=136) (n:=4) (ts:=zzp) zg h hh i hi zzy (by kernel_rfl) (by kernel_rfl) (vs:=[.string ⟨List.toArray [61]⟩,.int .i64 0,.int .i64 2,.int .i64 1]) (by kernel_rfl) (fun c A blk off hv =>
    ⟨⟨(hv 0 _ rfl).1,_,(hv 0 _ rfl).2,rfl⟩,⟨(hv 1 _ rfl).1,_,(hv 1 _ rfl).2,rfl⟩,⟨(hv 2 _ rfl).1,_,(hv 2 _ rfl).2,rfl⟩,(hv 3 _ rfl).1,_,(hv 3 _ rfl).2,rfl⟩))

namespace paraHolds
theorem zAl (plain:∀ x,zp5 [.sl zzp,.sl znw,.sl (.one (.sl (.one (.int .i64)))),.sl znw,.sl znw,.sl (.one (.sl (.one (.int .i64)))),.sl znw,.int .i64,.sl (.one (.int .i64))] x→zaO x.1 x.2.1 x.2.2.1 x.2.2.2.1 x.2.2.2.2.1 x.2.2.2.2.2.1 x.2.2.2.2.2.2.1 x.2.2.2.2.2.2.2.1 x.2.2.2.2.2.2.2.2=some true)
    (H:Type) (enc:TypeId×Value→H) (W:World) (base:Nat) (args:Array Value) (ds gs:List (DataW H)) (before:List MemPlace)
    (hval:∀(j:Nat) t v,Tryz.f12.params[j]? = some t→args[j]? = some v→Value.okWide Tryz.prog W .any base t v)
    (hW:DataW.Whole enc Tryz.prog Tryz.f12.params.toList Rows.paraHoldsSpec.vars false W args.toList ds gs before) (hL:laidMetH Tryz.prog Rows.paraHoldsRow.laid W) :
    Calls Tryz.prog 12 args W fun e W'=>∃ v,e = .returned v∧Rows.paraHoldsSpec.post enc Tryz.prog Tryz.f12 false true false false W args v W':=by
  have hgs:gs=[]:=by
    obtain⟨p,q,hA,hV,_⟩:=hW
    exact (trodVars_none hV).1
  subst hgs
  have hs:∀ ds:List (DataW H),ds.length=Tryz.f12.params.size→(Rows.paraHoldsSpec.fn H ds).results=[.lit (.bool true)]∧(Rows.paraHoldsSpec.fn H ds).args=ds∧(Rows.paraHoldsSpec.fn H ds).vars=[]:=fun ds hd=>by
    rw[Tryz.params12] at hd
    match ds,hd with
    | [_,_,_,_,_],_=>exact ⟨rfl,rfl,rfl⟩
  have hp:pv tb 8 Tryz.f12.params.toList=some ([.hole,(.agg [.hole,.hole,.hole]),(.agg [.hole,.hole,.hole]),.hole,.hole],[.sl zzp,.sl znw,.sl (.one (.sl (.one (.int .i64)))),.sl znw,.sl znw,.sl (.one (.sl (.one (.int .i64)))),.sl znw,.int .i64,.sl (.one (.int .i64))]):=by kernel_rfl
  have hr:(Tryz.f12.params.toList.all fun t=>Tryz.prog.readableRec t&&decide (t<Tryz.prog.types.size))=true:=by kernel_rfl
  have h1:(Tryz.f12.name == "runtime.NumGoroutine")=false:=by kernel_rfl
  have h2:Tryz.f12.body=some (zo Tryz.f12):=by kernel_rfl
  have h3:Tryz.f12.resultTypes = #[4]:=by kernel_rfl
  have h4:Tryz.prog.underlying 4=some .bool:=by kernel_rfl
  have h5:=zDs hL (by kernel_rfl) 0 rfl
  have h6:=zEX
  unfold ztL at h6
  exact zEp (zJM H) zg h6 rfl Tryz.func12 h1 h2 hp zDu hr h3 h4 rfl hs h5 hW hval fun x h1 h2=>plain x h1

noncomputable def zm4 (os:Os):World:=zEO Tryz.prog os [(0,((zwq (Rows.laid_quaere_sign_equals:DataW Unit)).getD []).toArray)]
theorem zAZ (os:Os):laidMet Tryz.prog Rows.paraHoldsRow.laid ((zm4 os).forCall (fun _ _=>0) ⟨#[],#[.slice none 0 0,.agg #[.slice none 0 0,.slice none 0 0,.slice none 0 0],.agg #[.slice none 0 0,.slice none 0 0,.slice none 0 0],.int .i64 0,.slice none 0 0],[]⟩).memory :=
  laidMet_of_run' 8 (by kernel_rfl) (by kernel_rfl)
theorem zIO (os:Os) {H:Type} (enc:TypeId×Value→H):∃ places,DataW.whole enc Tryz.prog ((zm4 os).forCall (fun _ _=>0) ⟨#[],#[.slice none 0 0,.agg #[.slice none 0 0,.slice none 0 0,.slice none 0 0],.agg #[.slice none 0 0,.slice none 0 0,.slice none 0 0],.int .i64 0,.slice none 0 0],[]⟩).memory Tryz.f12.params.toList Rows.paraHoldsSpec.vars false (#[.slice none 0 0,.agg #[.slice none 0 0,.slice none 0 0,.slice none 0 0],.agg #[.slice none 0 0,.slice none 0 0,.slice none 0 0],.int .i64 0,.slice none 0 0]:Array Value).toList 8=some ([.nil,.agg [.nil,.nil,.nil],.agg [.nil,.nil,.nil],.lit (.int .i64 0),.nil],[],places) :=
  ⟨[],by kernel_rfl⟩
theorem zHM (plain:∀ x,zp5 [.sl zzp,.sl znw,.sl (.one (.sl (.one (.int .i64)))),.sl znw,.sl znw,.sl (.one (.sl (.one (.int .i64)))),.sl znw,.int .i64,.sl (.one (.int .i64))] x→zaO x.1 x.2.1 x.2.2.1 x.2.2.2.1 x.2.2.2.2.1 x.2.2.2.2.2.1 x.2.2.2.2.2.2.1 x.2.2.2.2.2.2.2.1 x.2.2.2.2.2.2.2.2=some true)
    (os:Os) (started:os.Started) (H:Type) (enc:TypeId×Value→H) (F:Stop.Interp) :
    ReturnsInHanded {} Tryz.checked os 12 .any ((OpenSpec.ofChange Rows.paraHoldsSpec).preRow enc Tryz.prog Tryz.f12 Rows.paraHoldsRow.domain false Rows.paraHoldsRow.laid) (((OpenSpec.ofChange Rows.paraHoldsSpec).at F).post enc Tryz.prog Tryz.f12 false true false false):=by
  obtain⟨places,hx⟩:=zIO os enc
  refine returnsInHanded_of_row (C:=Tryz.checked) (s:=OpenSpec.ofChange Rows.paraHoldsSpec) own started (by kernel_rfl) Tryz.func12
    (witness_row_at (enc:=enc) (C:=Tryz.checked) false (zm4 os) #[.slice none 0 0,.agg #[.slice none 0 0,.slice none 0 0,.slice none 0 0],.agg #[.slice none 0 0,.slice none 0 0,.slice none 0 0],.int .i64 0,.slice none 0 0] (zzz _ _ _ rfl) (by kernel_rfl) (by kernel_rfl) (by kernel_rfl)
      (OpenSpec.preRow_of_cond 8 hx (by kernel_rfl) (fun k hk=>by cases hk) (by kernel_rfl) (zAZ os))) ?_
  intro W base args ds gs before hval hW _ hcond _ hL _ _
  exact zAl plain H enc W base args ds gs before hval hW hL
theorem zJY (plain:∀ x,zp5 [.sl zzp,.sl znw,.sl (.one (.sl (.one (.int .i64)))),.sl znw,.sl znw,.sl (.one (.sl (.one (.int .i64)))),.sl znw,.int .i64,.sl (.one (.int .i64))] x→zaO x.1 x.2.1 x.2.2.1 x.2.2.2.1 x.2.2.2.2.1 x.2.2.2.2.2.1 x.2.2.2.2.2.2.1 x.2.2.2.2.2.2.2.1 x.2.2.2.2.2.2.2.2=some true):Rows.ParaHoldsSaid :=
  OpenClaim.holds_of_cond 12 Tryz.f12 rfl rfl rfl rfl rfl rfl rfl ⟨rfl,rfl,rfl,rfl,rfl⟩ rfl rfl rfl rfl rfl (by kernel_rfl) Tryz.func12 (by kernel_rfl)
    (of_decide_eq_true (by kernel_rfl)) (by unfold Func.isWrapper; first | (rw[if_pos (by decide +kernel)]; kernel_rfl) | (rw[if_neg (by decide +kernel)]; exact ⟨rfl,rfl⟩))
    (fun os started H enc _ F=>by rw[OpenClaim.pre_eq_preRow]; exact zHM plain os started H enc F)
theorem zJm (f:FuncId) (fn:Func) (hf:Tryz.pinned.checked.prog.funcNamed "quaere/quaerelaw15.ParaHolds" = some f) (hfn:Tryz.pinned.checked.prog.funcs[f]? = some fn) :
    false=Tryz.pinned.checked.prog.looks []∧∀(j:Nat) t,fn.params[j]? = some t→Tryz.pinned.checked.prog.wantsStandIn t=false:=by
  obtain rfl:f=12:=Option.some.inj ((show Tryz.prog.funcNamed "quaere/quaerelaw15.ParaHolds" = some 12 by kernel_rfl).symm.trans hf) |>.symm
  obtain rfl:fn=Tryz.f12:=(Option.some.inj (Tryz.func12.symm.trans hfn)).symm
  refine ⟨by kernel_rfl,fun j t ht => ?_⟩
  have hall:(Tryz.f12.params.toList.all fun t => !(Tryz.prog.wantsStandIn t))=true:=by kernel_rfl
  rw[List.all_eq_true] at hall
  have:=hall t (by simpa using Array.mem_of_getElem? ht)
  rw[Bool.not_eq_true'] at this
  exact this
theorem card (plain:∀ x,zp5 [.sl zzp,.sl znw,.sl (.one (.sl (.one (.int .i64)))),.sl znw,.sl znw,.sl (.one (.sl (.one (.int .i64)))),.sl znw,.int .i64,.sl (.one (.int .i64))] x→zaO x.1 x.2.1 x.2.2.1 x.2.2.2.1 x.2.2.2.2.1 x.2.2.2.2.2.1 x.2.2.2.2.2.2.1 x.2.2.2.2.2.2.2.1 x.2.2.2.2.2.2.2.2=some true):Rows.ParaHoldsCardSaid :=
  Claim7.holds_tied_plain_at .later [] _ _ _ _ (zJY plain) (fun _ h=>by cases h) (by kernel_rfl) (fun _ h=>by cases h) paraHolds_row_tie rfl ⟨rfl,rfl⟩ (by kernel_rfl) rfl zJm (by kernel_rfl)
end paraHolds

theorem paraHolds_holds:Rows.ParaHoldsCardSaid:=paraHolds.card (fun x h=>ziZ x.1 x.2.1 x.2.2.1 x.2.2.2.1 x.2.2.2.2.1 x.2.2.2.2.2.1 x.2.2.2.2.2.2.1 x.2.2.2.2.2.2.2.1 x.2.2.2.2.2.2.2.2 (Nat.le_trans h.2.2.2.2.2.2.2.2.1 (by decide)))
end Go.Proofs.YtleengbobccdkaaGreatDoor
