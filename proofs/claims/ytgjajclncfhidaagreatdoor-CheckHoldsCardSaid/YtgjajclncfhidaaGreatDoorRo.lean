import Derived.Test.YtgjajclncfhidaaGreatDoorPr
import Derived.Test.YtgjajclncfhidaaGreatDoorCards
import Derived.Test.YtgjajclncfhidaaGreatDoorTie
/-
  For every input the law returns true, and each argument reads afterwards as it read before.
-/
namespace Go.Proofs.YtgjajclncfhidaaGreatDoor
open Go.ChangeShapes Go.WideShapes Go.ChangeAt Go.RowKit Go.Abs Go.Abs.Q Go.Abs.Sc
set_option maxRecDepth 100000
theorem own:ownKnob Tryz.prog.godebug=none:=by kernel_rfl
theorem zaL:laidOutB Tryz.prog=true:=by kernel_rfl
theorem zgX (H:Type):Bulk (H:=H) Rows.uptoBulk Rows.uptoBulkAll where
  str:=fun l=>rfl
  one:=fun d=>by
    cases d with
    | lit l=>cases l<;>simp [Rows.uptoBulk]
    | _=>simp [Rows.uptoBulk]
  sl:=fun e s=>by simp only[Rows.uptoBulk]; omega
  agg:=fun l=>by simp only[Rows.uptoBulk]; omega
  nil:=by simp [Rows.uptoBulkAll]
  cons:=fun d l=>by simp [Rows.uptoBulkAll]
theorem Rt:Tryz.prog.globalNamed "quaere/sign.equals" = some 0:=by kernel_rfl
theorem zfV {W:World} (h:RC (mem W) (sx W) (sx W) Ps (([61],0,2,1):zg) 0 0):RH gl W:=fun q x hx=>by
  unfold gl at hx
  cases hq:Nat.beq q 0 with
  | false=>rw[hq] at hx; cases hx
  | true =>
    rw[hq] at hx
    injection hx with hx; subst hx
    have:=Nat.eq_of_beq_eq_true hq
    subst this
    exact h
theorem zaW {W:World} {l:List (String×DataW Unit)} (h:laidMetH Tryz.prog l W) (hh:(l.all fun x=>x.2.handleName?.isNone)=true) (i:Nat) (hi:l[i]? = some ("quaere/sign.equals",Rows.laid_quaere_sign_equals)):RH gl W :=
  zfV (zas (t:=114) (n:=4) (ts:=Ps) zd h hh i hi Rt (by kernel_rfl) (by kernel_rfl) (vs:=[.string ⟨List.toArray [61]⟩,.int .i64 0,.int .i64 2,.int .i64 1]) (by kernel_rfl) (fun c A blk off hv =>
    ⟨⟨(hv 0 _ rfl).1,_,(hv 0 _ rfl).2,rfl⟩,⟨(hv 1 _ rfl).1,_,(hv 1 _ rfl).2,rfl⟩,⟨(hv 2 _ rfl).1,_,(hv 2 _ rfl).2,rfl⟩,(hv 3 _ rfl).1,_,(hv 3 _ rfl).2,rfl⟩))

namespace checkHolds
theorem Rp (plain:∀ x,Bm [.sl Ps,.sl (.cons (.int .i64) (.cons (.int .i64) (.cons (.int .i64) (.cons (.int .i64) (.cons (.int .i64) (.cons (.int .i64) (.cons (.int .i64) (.cons (.sl HB) (.cons (.sl (.one (.sl (.one (.int .i64))))) (.one (.sl HB))))))))))),.int .i64,.sl (.one (.int .i64))] x→xL x.1 x.2.1 x.2.2.1 x.2.2.2=some true)
    (H:Type) (enc:TypeId×Value→H) (W:World) (base:Nat) (args:Array Value) (ds gs:List (DataW H)) (before:List MemPlace)
    (hval:∀(j:Nat) t v,Tryz.f4.params[j]? = some t→args[j]? = some v→Value.okWide Tryz.prog W .any base t v)
    (hW:DataW.Whole enc Tryz.prog Tryz.f4.params.toList Rows.checkHoldsSpec.vars false W args.toList ds gs before) (hL:laidMetH Tryz.prog Rows.checkHoldsRow.laid W) :
    Calls Tryz.prog 4 args W fun e W'=>∃ v,e = .returned v∧Rows.checkHoldsSpec.post enc Tryz.prog Tryz.f4 false true false false W args v W':=by
  have hgs:gs=[]:=by
    obtain⟨p,q,hA,hV,_⟩:=hW
    exact (trodVars_none hV).1
  subst hgs
  have hs:∀ ds:List (DataW H),ds.length=Tryz.f4.params.size→(Rows.checkHoldsSpec.fn H ds).results=[.lit (.bool true)]∧(Rows.checkHoldsSpec.fn H ds).args=ds∧(Rows.checkHoldsSpec.fn H ds).vars=[]:=fun ds hd=>by
    rw[Tryz.params4] at hd
    match ds,hd with
    | [_,_,_,_],_=>exact ⟨rfl,rfl,rfl⟩
  have hp:pv tb 8 Tryz.f4.params.toList=some ([.hole,.hole,.hole,.hole],[.sl Ps,.sl (.cons (.int .i64) (.cons (.int .i64) (.cons (.int .i64) (.cons (.int .i64) (.cons (.int .i64) (.cons (.int .i64) (.cons (.int .i64) (.cons (.sl HB) (.cons (.sl (.one (.sl (.one (.int .i64))))) (.one (.sl HB))))))))))),.int .i64,.sl (.one (.int .i64))]):=by kernel_rfl
  have hr:(Tryz.f4.params.toList.all fun t=>Tryz.prog.readableRec t&&decide (t<Tryz.prog.types.size))=true:=by kernel_rfl
  have h1:(Tryz.f4.name == "runtime.NumGoroutine")=false:=by kernel_rfl
  have h2:Tryz.f4.body=some (zn Tryz.f4):=by kernel_rfl
  have h3:Tryz.f4.resultTypes = #[4]:=by kernel_rfl
  have h4:Tryz.prog.underlying 4=some .bool:=by kernel_rfl
  have h5:=zaW hL (by kernel_rfl) 0 rfl
  have h6:=zaX
  unfold Em at h6
  exact zaE (zgX H) zd h6 rfl Tryz.func4 h1 h2 hp zaL hr h3 h4 rfl hs h5 hW hval fun x h1 h2=>plain x h1

noncomputable def Jw (os:Os):World:=za0 Tryz.prog os [(0,((Ml (Rows.laid_quaere_sign_equals:DataW Unit)).getD []).toArray)]
theorem PC (os:Os):laidMet Tryz.prog Rows.checkHoldsRow.laid ((Jw os).forCall (fun _ _=>0) ⟨#[],#[.slice none 0 0,.slice none 0 0,.int .i64 0,.slice none 0 0],[]⟩).memory :=
  laidMet_of_run' 8 (by kernel_rfl) (by kernel_rfl)
theorem zgq (os:Os) {H:Type} (enc:TypeId×Value→H):∃ places,DataW.whole enc Tryz.prog ((Jw os).forCall (fun _ _=>0) ⟨#[],#[.slice none 0 0,.slice none 0 0,.int .i64 0,.slice none 0 0],[]⟩).memory Tryz.f4.params.toList Rows.checkHoldsSpec.vars false (#[.slice none 0 0,.slice none 0 0,.int .i64 0,.slice none 0 0]:Array Value).toList 8=some ([.nil,.nil,.lit (.int .i64 0),.nil],[],places) :=
  ⟨[],by kernel_rfl⟩
theorem zcC (plain:∀ x,Bm [.sl Ps,.sl (.cons (.int .i64) (.cons (.int .i64) (.cons (.int .i64) (.cons (.int .i64) (.cons (.int .i64) (.cons (.int .i64) (.cons (.int .i64) (.cons (.sl HB) (.cons (.sl (.one (.sl (.one (.int .i64))))) (.one (.sl HB))))))))))),.int .i64,.sl (.one (.int .i64))] x→xL x.1 x.2.1 x.2.2.1 x.2.2.2=some true)
    (os:Os) (started:os.Started) (H:Type) (enc:TypeId×Value→H) (F:Stop.Interp) :
    ReturnsInHanded {} Tryz.checked os 4 .any ((OpenSpec.ofChange Rows.checkHoldsSpec).preRow enc Tryz.prog Tryz.f4 Rows.checkHoldsRow.domain false Rows.checkHoldsRow.laid) (((OpenSpec.ofChange Rows.checkHoldsSpec).at F).post enc Tryz.prog Tryz.f4 false true false false):=by
  obtain⟨places,hx⟩:=zgq os enc
  refine returnsInHanded_of_row (C:=Tryz.checked) (s:=OpenSpec.ofChange Rows.checkHoldsSpec) own started (by kernel_rfl) Tryz.func4
    (witness_row_at (enc:=enc) (C:=Tryz.checked) false (Jw os) #[.slice none 0 0,.slice none 0 0,.int .i64 0,.slice none 0 0] (P1 _ _ _ rfl) (by kernel_rfl) (by kernel_rfl) (by kernel_rfl)
      (OpenSpec.preRow_of_cond 8 hx (by kernel_rfl) (fun k hk=>by cases hk) (by kernel_rfl) (PC os))) ?_
  intro W base args ds gs before hval hW _ hcond _ hL _ _
  exact Rp plain H enc W base args ds gs before hval hW hL
theorem zgZ (plain:∀ x,Bm [.sl Ps,.sl (.cons (.int .i64) (.cons (.int .i64) (.cons (.int .i64) (.cons (.int .i64) (.cons (.int .i64) (.cons (.int .i64) (.cons (.int .i64) (.cons (.sl HB) (.cons (.sl (.one (.sl (.one (.int .i64))))) (.one (.sl HB))))))))))),.int .i64,.sl (.one (.int .i64))] x→xL x.1 x.2.1 x.2.2.1 x.2.2.2=some true):Rows.CheckHoldsSaid :=
  OpenClaim.holds_of_cond 4 Tryz.f4 rfl rfl rfl rfl rfl rfl rfl ⟨rfl,rfl,rfl,rfl,rfl⟩ rfl rfl rfl rfl rfl (by kernel_rfl) Tryz.func4 (by kernel_rfl)
    (of_decide_eq_true (by kernel_rfl)) (by unfold Func.isWrapper; first | (rw[if_pos (by decide +kernel)]; kernel_rfl) | (rw[if_neg (by decide +kernel)]; exact ⟨rfl,rfl⟩))
    (fun os started H enc _ F=>by rw[OpenClaim.pre_eq_preRow]; exact zcC plain os started H enc F)
theorem zfQ (f:FuncId) (fn:Func) (hf:Tryz.pinned.checked.prog.funcNamed "quaere/quaerelaw18.CheckHolds" = some f) (hfn:Tryz.pinned.checked.prog.funcs[f]? = some fn) :
    false=Tryz.pinned.checked.prog.looks []∧∀(j:Nat) t,fn.params[j]? = some t→Tryz.pinned.checked.prog.wantsStandIn t=false:=by
  obtain rfl:f=4:=Option.some.inj ((show Tryz.prog.funcNamed "quaere/quaerelaw18.CheckHolds" = some 4 by kernel_rfl).symm.trans hf) |>.symm
  obtain rfl:fn=Tryz.f4:=(Option.some.inj (Tryz.func4.symm.trans hfn)).symm
  refine ⟨by kernel_rfl,fun j t ht => ?_⟩
  have hall:(Tryz.f4.params.toList.all fun t => !(Tryz.prog.wantsStandIn t))=true:=by kernel_rfl
  rw[List.all_eq_true] at hall
  have:=hall t (by simpa using Array.mem_of_getElem? ht)
  rw[Bool.not_eq_true'] at this
  exact this
theorem card (plain:∀ x,Bm [.sl Ps,.sl (.cons (.int .i64) (.cons (.int .i64) (.cons (.int .i64) (.cons (.int .i64) (.cons (.int .i64) (.cons (.int .i64) (.cons (.int .i64) (.cons (.sl HB) (.cons (.sl (.one (.sl (.one (.int .i64))))) (.one (.sl HB))))))))))),.int .i64,.sl (.one (.int .i64))] x→xL x.1 x.2.1 x.2.2.1 x.2.2.2=some true):Rows.CheckHoldsCardSaid :=
  Claim7.holds_tied_plain_at .later [] _ _ _ _ (zgZ plain) (fun _ h=>by cases h) (by kernel_rfl) (fun _ h=>by cases h) checkHolds_row_tie rfl ⟨rfl,rfl⟩ (by kernel_rfl) rfl zfQ (by kernel_rfl)
end checkHolds

theorem checkHolds_holds:Rows.CheckHoldsCardSaid:=checkHolds.card (fun x h=>QM x.1 x.2.1 x.2.2.1 x.2.2.2 (Nat.le_trans h.2.2.2.1 (by decide)))
end Go.Proofs.YtgjajclncfhidaaGreatDoor
