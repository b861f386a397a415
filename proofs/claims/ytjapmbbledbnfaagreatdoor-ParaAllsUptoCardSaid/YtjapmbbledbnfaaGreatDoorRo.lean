import Derived.Test.YtjapmbbledbnfaaGreatDoorPr
import Derived.Test.YtjapmbbledbnfaaGreatDoorCards
import Derived.Test.YtjapmbbledbnfaaGreatDoorTie
/-
  For every input of the bulk that the statement lets in the law returns true, and each argument reads afterwards as it read before.
-/
namespace Go.Proofs.YtjapmbbledbnfaaGreatDoor
open Go.ChangeShapes Go.WideShapes Go.ChangeAt Go.RowKit Go.Abs Go.Abs.Q Go.Abs.Sz6
set_option maxRecDepth 100000
theorem own:ownKnob Tryz.prog.godebug=none:=by kernel_rfl
theorem zcv:laidOutB Tryz.prog=true:=by kernel_rfl
theorem zik (H:Type):Bulk (H:=H) Rows.uptoBulk Rows.uptoBulkAll where
  str:=fun l=>rfl
  one:=fun d=>by
    cases d with
    | lit l=>cases l<;>simp [Rows.uptoBulk]
    | _=>simp [Rows.uptoBulk]
  sl:=fun e s=>by simp only[Rows.uptoBulk]; omega
  agg:=fun l=>by simp only[Rows.uptoBulk]; omega
  nil:=by simp [Rows.uptoBulkAll]
  cons:=fun d l=>by simp [Rows.uptoBulkAll]
theorem PS:Tryz.prog.globalNamed "quaere/sign.equals" = some 0:=by kernel_rfl
theorem zgY {W:World} (h:RC (mem W) (tL W) (tL W) Dz (([61],0,2,1):zj) 0 0):Sk gl W:=fun q x hx=>by
  unfold gl at hx
  cases hq:Nat.beq q 0 with
  | false=>rw[hq] at hx; cases hx
  | true =>
    rw[hq] at hx
    injection hx with hx; subst hx
    have:=Nat.eq_of_beq_eq_true hq
    subst this
    exact h
theorem zbJ {W:World} {l:List (String×DataW Unit)} (h:laidMetH Tryz.prog l W) (hh:(l.all fun x=>x.2.handleName?.isNone)=true) (i:Nat) (hi:l[i]? = some ("quaere/sign.equals",Rows.laid_quaere_sign_equals)):Sk gl W :=
  zgY (zbH (t:=121) (n:=4) (ts:=Dz) zc h hh i hi PS (by kernel_rfl) (by kernel_rfl) (vs:=[.string ⟨List.toArray [61]⟩,.int .i64 0,.int .i64 2,.int .i64 1]) (by kernel_rfl) (fun c A blk off hv =>
    ⟨⟨(hv 0 _ rfl).1,_,(hv 0 _ rfl).2,rfl⟩,⟨(hv 1 _ rfl).1,_,(hv 1 _ rfl).2,rfl⟩,⟨(hv 2 _ rfl).1,_,(hv 2 _ rfl).2,rfl⟩,(hv 3 _ rfl).1,_,(hv 3 _ rfl).2,rfl⟩))

namespace paraAlls
theorem Rb (plain:∀ x,IH [.sl Dz,.sl sR,.sl (.one (.sl (.one (.int .i64)))),.sl sR,.int .i64,.sl sR,.sl (.one (.sl (.one (.int .i64)))),.sl sR,.int .i64] x→wtL [.sl Dz,.sl sR,.sl (.one (.sl (.one (.int .i64)))),.sl sR,.int .i64,.sl sR,.sl (.one (.sl (.one (.int .i64)))),.sl sR,.int .i64] x≤1048576→xd x.1 x.2.1 x.2.2.1 x.2.2.2.1 x.2.2.2.2.1 x.2.2.2.2.2.1 x.2.2.2.2.2.2.1 x.2.2.2.2.2.2.2.1 x.2.2.2.2.2.2.2.2=some true)
    (H:Type) (enc:TypeId×Value→H) (W:World) (base:Nat) (args:Array Value) (ds gs:List (DataW H)) (before:List MemPlace)
    (hval:∀(j:Nat) t v,Tryz.f3.params[j]? = some t→args[j]? = some v→Value.okWide Tryz.prog W .any base t v)
    (hW:DataW.Whole enc Tryz.prog Tryz.f3.params.toList Rows.paraAllsSpec.vars false W args.toList ds gs before) (hk:Rows.uptoSmall H (ds++gs)=true) (hL:laidMetH Tryz.prog Rows.paraAllsUptoRow.laid W) :
    Calls Tryz.prog 3 args W fun e W'=>∃ v,e = .returned v∧Rows.paraAllsSpec.post enc Tryz.prog Tryz.f3 false true false false W args v W':=by
  have hgs:gs=[]:=by
    obtain⟨p,q,hA,hV,_⟩:=hW
    exact (trodVars_none hV).1
  subst hgs
  have hk:Rows.uptoBulkAll (ds++[])≤1048576:=of_decide_eq_true hk
  rw[List.append_nil] at hk
  have hs:∀ ds:List (DataW H),ds.length=Tryz.f3.params.size→(Rows.paraAllsSpec.fn H ds).results=[.lit (.bool true)]∧(Rows.paraAllsSpec.fn H ds).args=ds∧(Rows.paraAllsSpec.fn H ds).vars=[]:=fun ds hd=>by
    rw[Tryz.params3] at hd
    match ds,hd with
    | [_,_,_,_,_],_=>exact ⟨rfl,rfl,rfl⟩
  have hp:pv tb 8 Tryz.f3.params.toList=some ([.hole,(.agg [.hole,.hole,.hole]),.hole,(.agg [.hole,.hole,.hole]),.hole],[.sl Dz,.sl sR,.sl (.one (.sl (.one (.int .i64)))),.sl sR,.int .i64,.sl sR,.sl (.one (.sl (.one (.int .i64)))),.sl sR,.int .i64]):=by kernel_rfl
  have hr:(Tryz.f3.params.toList.all fun t=>Tryz.prog.readableRec t&&decide (t<Tryz.prog.types.size))=true:=by kernel_rfl
  have h1:(Tryz.f3.name == "runtime.NumGoroutine")=false:=by kernel_rfl
  have h2:Tryz.f3.body=some (zg Tryz.f3):=by kernel_rfl
  have h3:Tryz.f3.resultTypes = #[4]:=by kernel_rfl
  have h4:Tryz.prog.underlying 4=some .bool:=by kernel_rfl
  have h5:=zbJ hL (by kernel_rfl) 0 rfl
  have h6:=zbq
  unfold Cc at h6
  exact zbm (zik H) zc h6 rfl Tryz.func3 h1 h2 hp zcv hr h3 h4 rfl hs h5 hW hval fun x h1 h2=>plain x h1 (Nat.le_trans h2 hk)

noncomputable def Vt (os:Os):World:=zbr Tryz.prog os [(0,((FW (Rows.laid_quaere_sign_equals:DataW Unit)).getD []).toArray)]
theorem Pg (os:Os):laidMet Tryz.prog Rows.paraAllsUptoRow.laid ((Vt os).forCall (fun _ _=>0) ⟨#[],#[.slice none 0 0,.agg #[.slice none 0 0,.slice none 0 0,.slice none 0 0],.int .i64 0,.agg #[.slice none 0 0,.slice none 0 0,.slice none 0 0],.int .i64 0],[]⟩).memory :=
  laidMet_of_run' 8 (by kernel_rfl) (by kernel_rfl)
theorem zgO (os:Os) {H:Type} (enc:TypeId×Value→H):∃ places,DataW.whole enc Tryz.prog ((Vt os).forCall (fun _ _=>0) ⟨#[],#[.slice none 0 0,.agg #[.slice none 0 0,.slice none 0 0,.slice none 0 0],.int .i64 0,.agg #[.slice none 0 0,.slice none 0 0,.slice none 0 0],.int .i64 0],[]⟩).memory Tryz.f3.params.toList Rows.paraAllsSpec.vars false (#[.slice none 0 0,.agg #[.slice none 0 0,.slice none 0 0,.slice none 0 0],.int .i64 0,.agg #[.slice none 0 0,.slice none 0 0,.slice none 0 0],.int .i64 0]:Array Value).toList 8=some ([.nil,.agg [.nil,.nil,.nil],.lit (.int .i64 0),.agg [.nil,.nil,.nil],.lit (.int .i64 0)],[],places) :=
  ⟨[],by kernel_rfl⟩
theorem zfv (plain:∀ x,IH [.sl Dz,.sl sR,.sl (.one (.sl (.one (.int .i64)))),.sl sR,.int .i64,.sl sR,.sl (.one (.sl (.one (.int .i64)))),.sl sR,.int .i64] x→wtL [.sl Dz,.sl sR,.sl (.one (.sl (.one (.int .i64)))),.sl sR,.int .i64,.sl sR,.sl (.one (.sl (.one (.int .i64)))),.sl sR,.int .i64] x≤1048576→xd x.1 x.2.1 x.2.2.1 x.2.2.2.1 x.2.2.2.2.1 x.2.2.2.2.2.1 x.2.2.2.2.2.2.1 x.2.2.2.2.2.2.2.1 x.2.2.2.2.2.2.2.2=some true)
    (os:Os) (started:os.Started) (H:Type) (enc:TypeId×Value→H) (F:Stop.Interp) :
    ReturnsInHanded {} Tryz.checked os 3 .any ((Rows.OpenSpec.upto Rows.paraAllsSpec).preRow enc Tryz.prog Tryz.f3 Rows.paraAllsUptoRow.domain false Rows.paraAllsUptoRow.laid) (((Rows.OpenSpec.upto Rows.paraAllsSpec).at F).post enc Tryz.prog Tryz.f3 false true false false):=by
  obtain⟨places,hx⟩:=zgO os enc
  refine returnsInHanded_of_row (C:=Tryz.checked) (s:=Rows.OpenSpec.upto Rows.paraAllsSpec) own started (by kernel_rfl) Tryz.func3
    (witness_row_at (enc:=enc) (C:=Tryz.checked) false (Vt os) #[.slice none 0 0,.agg #[.slice none 0 0,.slice none 0 0,.slice none 0 0],.int .i64 0,.agg #[.slice none 0 0,.slice none 0 0,.slice none 0 0],.int .i64 0] (Pn _ _ _ rfl) (by kernel_rfl) (by kernel_rfl) (by kernel_rfl)
      (OpenSpec.preRow_of_cond 8 hx (by kernel_rfl) (fun k hk=>by cases hk; kernel_rfl) (by kernel_rfl) (Pg os))) ?_
  intro W base args ds gs before hval hW _ hcond _ hL _ _
  exact Rb plain H enc W base args ds gs before hval hW (hcond _ rfl) hL
theorem zih (plain:∀ x,IH [.sl Dz,.sl sR,.sl (.one (.sl (.one (.int .i64)))),.sl sR,.int .i64,.sl sR,.sl (.one (.sl (.one (.int .i64)))),.sl sR,.int .i64] x→wtL [.sl Dz,.sl sR,.sl (.one (.sl (.one (.int .i64)))),.sl sR,.int .i64,.sl sR,.sl (.one (.sl (.one (.int .i64)))),.sl sR,.int .i64] x≤1048576→xd x.1 x.2.1 x.2.2.1 x.2.2.2.1 x.2.2.2.2.1 x.2.2.2.2.2.1 x.2.2.2.2.2.2.1 x.2.2.2.2.2.2.2.1 x.2.2.2.2.2.2.2.2=some true):Rows.ParaAllsUptoSaid :=
  OpenClaim.holds_of_cond 3 Tryz.f3 rfl rfl rfl rfl rfl rfl rfl ⟨rfl,rfl,rfl,rfl,rfl⟩ rfl rfl rfl rfl rfl (by kernel_rfl) Tryz.func3 (by kernel_rfl)
    (of_decide_eq_true (by kernel_rfl)) (by unfold Func.isWrapper; first | (rw[if_pos (by decide +kernel)]; kernel_rfl) | (rw[if_neg (by decide +kernel)]; exact ⟨rfl,rfl⟩))
    (fun os started H enc _ F=>by rw[OpenClaim.pre_eq_preRow]; exact zfv plain os started H enc F)
theorem zhS (f:FuncId) (fn:Func) (hf:Tryz.pinned.checked.prog.funcNamed "quaere/quaerelaw15.ParaAlls" = some f) (hfn:Tryz.pinned.checked.prog.funcs[f]? = some fn) :
    false=Tryz.pinned.checked.prog.looks []∧∀(j:Nat) t,fn.params[j]? = some t→Tryz.pinned.checked.prog.wantsStandIn t=false:=by
  obtain rfl:f=3:=Option.some.inj ((show Tryz.prog.funcNamed "quaere/quaerelaw15.ParaAlls" = some 3 by kernel_rfl).symm.trans hf) |>.symm
  obtain rfl:fn=Tryz.f3:=(Option.some.inj (Tryz.func3.symm.trans hfn)).symm
  refine ⟨by kernel_rfl,fun j t ht => ?_⟩
  have hall:(Tryz.f3.params.toList.all fun t => !(Tryz.prog.wantsStandIn t))=true:=by kernel_rfl
  rw[List.all_eq_true] at hall
  have:=hall t (by simpa using Array.mem_of_getElem? ht)
  rw[Bool.not_eq_true'] at this
  exact this
theorem card (plain:∀ x,IH [.sl Dz,.sl sR,.sl (.one (.sl (.one (.int .i64)))),.sl sR,.int .i64,.sl sR,.sl (.one (.sl (.one (.int .i64)))),.sl sR,.int .i64] x→wtL [.sl Dz,.sl sR,.sl (.one (.sl (.one (.int .i64)))),.sl sR,.int .i64,.sl sR,.sl (.one (.sl (.one (.int .i64)))),.sl sR,.int .i64] x≤1048576→xd x.1 x.2.1 x.2.2.1 x.2.2.2.1 x.2.2.2.2.1 x.2.2.2.2.2.1 x.2.2.2.2.2.2.1 x.2.2.2.2.2.2.2.1 x.2.2.2.2.2.2.2.2=some true):Rows.ParaAllsUptoCardSaid :=
  Claim7.holds_tied_plain_at .later [] _ _ _ _ (zih plain) (fun _ h=>by cases h) (by kernel_rfl) (fun _ h=>by cases h) paraAllsUpto_row_tie rfl ⟨rfl,rfl⟩ (by kernel_rfl) rfl zhS (by kernel_rfl)
end paraAlls

theorem paraAllsUpto_holds:Rows.ParaAllsUptoCardSaid:=paraAlls.card (fun x _ h=>KK x h)
end Go.Proofs.YtjapmbbledbnfaaGreatDoor
