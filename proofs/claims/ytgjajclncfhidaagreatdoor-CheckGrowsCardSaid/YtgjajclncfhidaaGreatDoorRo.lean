import Derived.Test.YtgjajclncfhidaaGreatDoorPr
import Derived.Test.YtgjajclncfhidaaGreatDoorCards
import Derived.Test.YtgjajclncfhidaaGreatDoorTie
/-
  For every input the law returns true, and each argument reads afterwards as it read before.
-/
namespace Go.Proofs.YtgjajclncfhidaaGreatDoor
open Go.ChangeShapes Go.WideShapes Go.ChangeAt Go.RowKit Go.Abs Go.Abs.Q Go.Abs.Sc
set_option maxRecDepth 100000
theorem own:ownKnob Tryz.prog.godebug=none:=by kernel_rfl
theorem zci:laidOutB Tryz.prog=true:=by kernel_rfl
theorem zhh (H:Type):Bulk (H:=H) Rows.uptoBulk Rows.uptoBulkAll where
  str:=fun l=>rfl
  one:=fun d=>by
    cases d with
    | lit l=>cases l<;>simp [Rows.uptoBulk]
    | _=>simp [Rows.uptoBulk]
  sl:=fun e s=>by simp only[Rows.uptoBulk]; omega
  agg:=fun l=>by simp only[Rows.uptoBulk]; omega
  nil:=by simp [Rows.uptoBulkAll]
  cons:=fun d l=>by simp [Rows.uptoBulkAll]
theorem Sw:Tryz.prog.globalNamed "quaere/sign.equals" = some 0:=by kernel_rfl
theorem zfJ {W:World} (h:RC (mem W) (sI W) (sI W) PK (([61],0,2,1):zg) 0 0):Rj gl W:=fun q x hx=>by
  unfold gl at hx
  cases hq:Nat.beq q 0 with
  | false=>rw[hq] at hx; cases hx
  | true =>
    rw[hq] at hx
    injection hx with hx; subst hx
    have:=Nat.eq_of_beq_eq_true hq
    subst this
    exact h
theorem zbn {W:World} {l:List (String×DataW Unit)} (h:laidMetH Tryz.prog l W) (hh:(l.all fun x=>x.2.handleName?.isNone)=true) (i:Nat) (hi:l[i]? = some ("quaere/sign.equals",Rows.laid_quaere_sign_equals)):Rj gl W :=
  zfJ (zbE (t:=114) (n:=4) (ts:=PK) zd h hh i hi Sw (by kernel_rfl) (by kernel_rfl) (vs:=[.string ⟨List.toArray [61]⟩,.int .i64 0,.int .i64 2,.int .i64 1]) (by kernel_rfl) (fun c A blk off hv =>
    ⟨⟨(hv 0 _ rfl).1,_,(hv 0 _ rfl).2,rfl⟩,⟨(hv 1 _ rfl).1,_,(hv 1 _ rfl).2,rfl⟩,⟨(hv 2 _ rfl).1,_,(hv 2 _ rfl).2,rfl⟩,(hv 3 _ rfl).1,_,(hv 3 _ rfl).2,rfl⟩))

namespace checkGrows
theorem PU (plain:∀ x,DQ [.sl PK,.sl (.cons (.int .i64) (.cons (.int .i64) (.cons (.int .i64) (.cons (.int .i64) (.cons (.int .i64) (.cons (.int .i64) (.cons (.int .i64) (.cons (.sl HO) (.cons (.sl (.one (.sl (.one (.int .i64))))) (.one (.sl HO))))))))))),.int .i64,.int .i64] x→xJ x.1 x.2.1 x.2.2.1 x.2.2.2=some true)
    (H:Type) (enc:TypeId×Value→H) (W:World) (base:Nat) (args:Array Value) (ds gs:List (DataW H)) (before:List MemPlace)
    (hval:∀(j:Nat) t v,Tryz.f7.params[j]? = some t→args[j]? = some v→Value.okWide Tryz.prog W .any base t v)
    (hW:DataW.Whole enc Tryz.prog Tryz.f7.params.toList Rows.checkGrowsSpec.vars false W args.toList ds gs before) (hL:laidMetH Tryz.prog Rows.checkGrowsRow.laid W) :
    Calls Tryz.prog 7 args W fun e W'=>∃ v,e = .returned v∧Rows.checkGrowsSpec.post enc Tryz.prog Tryz.f7 false true false false W args v W':=by
  have hgs:gs=[]:=by
    obtain⟨p,q,hA,hV,_⟩:=hW
    exact (trodVars_none hV).1
  subst hgs
  have hs:∀ ds:List (DataW H),ds.length=Tryz.f7.params.size→(Rows.checkGrowsSpec.fn H ds).results=[.lit (.bool true)]∧(Rows.checkGrowsSpec.fn H ds).args=ds∧(Rows.checkGrowsSpec.fn H ds).vars=[]:=fun ds hd=>by
    rw[Tryz.params7] at hd
    match ds,hd with
    | [_,_,_,_],_=>exact ⟨rfl,rfl,rfl⟩
  have hp:pv tb 8 Tryz.f7.params.toList=some ([.hole,.hole,.hole,.hole],[.sl PK,.sl (.cons (.int .i64) (.cons (.int .i64) (.cons (.int .i64) (.cons (.int .i64) (.cons (.int .i64) (.cons (.int .i64) (.cons (.int .i64) (.cons (.sl HO) (.cons (.sl (.one (.sl (.one (.int .i64))))) (.one (.sl HO))))))))))),.int .i64,.int .i64]):=by kernel_rfl
  have hr:(Tryz.f7.params.toList.all fun t=>Tryz.prog.readableRec t&&decide (t<Tryz.prog.types.size))=true:=by kernel_rfl
  have h1:(Tryz.f7.name == "runtime.NumGoroutine")=false:=by kernel_rfl
  have h2:Tryz.f7.body=some (zo Tryz.f7):=by kernel_rfl
  have h3:Tryz.f7.resultTypes = #[4]:=by kernel_rfl
  have h4:Tryz.prog.underlying 4=some .bool:=by kernel_rfl
  have h5:=zbn hL (by kernel_rfl) 0 rfl
  have h6:=zaA
  unfold Tj at h6
  exact zbr (zhh H) zd h6 rfl Tryz.func7 h1 h2 hp zci hr h3 h4 rfl hs h5 hW hval fun x h1 h2=>plain x h1

noncomputable def KF (os:Os):World:=zaw Tryz.prog os [(0,((L0 (Rows.laid_quaere_sign_equals:DataW Unit)).getD []).toArray)]
theorem R4 (os:Os):laidMet Tryz.prog Rows.checkGrowsRow.laid ((KF os).forCall (fun _ _=>0) ⟨#[],#[.slice none 0 0,.slice none 0 0,.int .i64 0,.int .i64 0],[]⟩).memory :=
  laidMet_of_run' 8 (by kernel_rfl) (by kernel_rfl)
theorem zgJ (os:Os) {H:Type} (enc:TypeId×Value→H):∃ places,DataW.whole enc Tryz.prog ((KF os).forCall (fun _ _=>0) ⟨#[],#[.slice none 0 0,.slice none 0 0,.int .i64 0,.int .i64 0],[]⟩).memory Tryz.f7.params.toList Rows.checkGrowsSpec.vars false (#[.slice none 0 0,.slice none 0 0,.int .i64 0,.int .i64 0]:Array Value).toList 8=some ([.nil,.nil,.lit (.int .i64 0),.lit (.int .i64 0)],[],places) :=
  ⟨[],by kernel_rfl⟩
theorem zeQ (plain:∀ x,DQ [.sl PK,.sl (.cons (.int .i64) (.cons (.int .i64) (.cons (.int .i64) (.cons (.int .i64) (.cons (.int .i64) (.cons (.int .i64) (.cons (.int .i64) (.cons (.sl HO) (.cons (.sl (.one (.sl (.one (.int .i64))))) (.one (.sl HO))))))))))),.int .i64,.int .i64] x→xJ x.1 x.2.1 x.2.2.1 x.2.2.2=some true)
    (os:Os) (started:os.Started) (H:Type) (enc:TypeId×Value→H) (F:Stop.Interp) :
    ReturnsInHanded {} Tryz.checked os 7 .any ((OpenSpec.ofChange Rows.checkGrowsSpec).preRow enc Tryz.prog Tryz.f7 Rows.checkGrowsRow.domain false Rows.checkGrowsRow.laid) (((OpenSpec.ofChange Rows.checkGrowsSpec).at F).post enc Tryz.prog Tryz.f7 false true false false):=by
  obtain⟨places,hx⟩:=zgJ os enc
  refine returnsInHanded_of_row (C:=Tryz.checked) (s:=OpenSpec.ofChange Rows.checkGrowsSpec) own started (by kernel_rfl) Tryz.func7
    (witness_row_at (enc:=enc) (C:=Tryz.checked) false (KF os) #[.slice none 0 0,.slice none 0 0,.int .i64 0,.int .i64 0] (Rm _ _ _ rfl) (by kernel_rfl) (by kernel_rfl) (by kernel_rfl)
      (OpenSpec.preRow_of_cond 8 hx (by kernel_rfl) (fun k hk=>by cases hk) (by kernel_rfl) (R4 os))) ?_
  intro W base args ds gs before hval hW _ hcond _ hL _ _
  exact PU plain H enc W base args ds gs before hval hW hL
theorem zhp (plain:∀ x,DQ [.sl PK,.sl (.cons (.int .i64) (.cons (.int .i64) (.cons (.int .i64) (.cons (.int .i64) (.cons (.int .i64) (.cons (.int .i64) (.cons (.int .i64) (.cons (.sl HO) (.cons (.sl (.one (.sl (.one (.int .i64))))) (.one (.sl HO))))))))))),.int .i64,.int .i64] x→xJ x.1 x.2.1 x.2.2.1 x.2.2.2=some true):Rows.CheckGrowsSaid :=
  OpenClaim.holds_of_cond 7 Tryz.f7 rfl rfl rfl rfl rfl rfl rfl ⟨rfl,rfl,rfl,rfl,rfl⟩ rfl rfl rfl rfl rfl (by kernel_rfl) Tryz.func7 (by kernel_rfl)
    (of_decide_eq_true (by kernel_rfl)) (by unfold Func.isWrapper; first | (rw[if_pos (by decide +kernel)]; kernel_rfl) | (rw[if_neg (by decide +kernel)]; exact ⟨rfl,rfl⟩))
    (fun os started H enc _ F=>by rw[OpenClaim.pre_eq_preRow]; exact zeQ plain os started H enc F)
theorem zgp (f:FuncId) (fn:Func) (hf:Tryz.pinned.checked.prog.funcNamed "quaere/quaerelaw18.CheckGrows" = some f) (hfn:Tryz.pinned.checked.prog.funcs[f]? = some fn) :
    false=Tryz.pinned.checked.prog.looks []∧∀(j:Nat) t,fn.params[j]? = some t→Tryz.pinned.checked.prog.wantsStandIn t=false:=by
  obtain rfl:f=7:=Option.some.inj ((show Tryz.prog.funcNamed "quaere/quaerelaw18.CheckGrows" = some 7 by kernel_rfl).symm.trans hf) |>.symm
  obtain rfl:fn=Tryz.f7:=(Option.some.inj (Tryz.func7.symm.trans hfn)).symm
  refine ⟨by kernel_rfl,fun j t ht => ?_⟩
  have hall:(Tryz.f7.params.toList.all fun t => !(Tryz.prog.wantsStandIn t))=true:=by kernel_rfl
  rw[List.all_eq_true] at hall
  have:=hall t (by simpa using Array.mem_of_getElem? ht)
  rw[Bool.not_eq_true'] at this
  exact this
theorem card (plain:∀ x,DQ [.sl PK,.sl (.cons (.int .i64) (.cons (.int .i64) (.cons (.int .i64) (.cons (.int .i64) (.cons (.int .i64) (.cons (.int .i64) (.cons (.int .i64) (.cons (.sl HO) (.cons (.sl (.one (.sl (.one (.int .i64))))) (.one (.sl HO))))))))))),.int .i64,.int .i64] x→xJ x.1 x.2.1 x.2.2.1 x.2.2.2=some true):Rows.CheckGrowsCardSaid :=
  Claim7.holds_tied_plain_at .later [] _ _ _ _ (zhp plain) (fun _ h=>by cases h) (by kernel_rfl) (fun _ h=>by cases h) checkGrows_row_tie rfl ⟨rfl,rfl⟩ (by kernel_rfl) rfl zgp (by kernel_rfl)
end checkGrows

theorem checkGrows_holds:Rows.CheckGrowsCardSaid:=checkGrows.card (fun x _=>QD x.1 x.2.1 x.2.2.1 x.2.2.2)
end Go.Proofs.YtgjajclncfhidaaGreatDoor
