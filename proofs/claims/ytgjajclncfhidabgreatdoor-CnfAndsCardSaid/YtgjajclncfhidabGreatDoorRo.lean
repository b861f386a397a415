import Derived.Test.YtgjajclncfhidabGreatDoorPr
import Derived.Test.YtgjajclncfhidabGreatDoorCards
import Derived.Test.YtgjajclncfhidabGreatDoorTie
/-
  For every input the law returns true, and each argument reads afterwards as it read before.
-/
namespace Go.Proofs.YtgjajclncfhidabGreatDoor
open Go.ChangeShapes Go.WideShapes Go.ChangeAt Go.RowKit Go.Abs Go.Abs.Q Go.Abs.Sn
set_option maxRecDepth 100000
theorem own:ownKnob Tryz.prog.godebug=none:=by kernel_rfl
theorem laidOut:laidOutB Tryz.prog=true:=by kernel_rfl
theorem bulk (H:Type):Bulk (H:=H) Rows.uptoBulk Rows.uptoBulkAll where
  str:=fun l=>rfl
  one:=fun d=>by
    cases d with
    | lit l=>cases l<;>simp [Rows.uptoBulk]
    | _=>simp [Rows.uptoBulk]
  sl:=fun e s=>by simp only[Rows.uptoBulk]; omega
  agg:=fun l=>by simp only[Rows.uptoBulk]; omega
  nil:=by simp [Rows.uptoBulkAll]
  cons:=fun d l=>by simp [Rows.uptoBulkAll]
theorem g_equals:Tryz.prog.globalNamed "quaere/sign.equals" = some 0:=by kernel_rfl
theorem glMet {W:World} (h:RC (mem W) (allMem W) (allMem W) tSym (([61],0,2,1):QSym) 0 0):GlMet gl W:=fun q x hx=>by
  unfold gl at hx
  cases hq:Nat.beq q 0 with
  | false=>rw[hq] at hx; cases hx
  | true =>
    rw[hq] at hx
    injection hx with hx; subst hx
    have:=Nat.eq_of_beq_eq_true hq
    subst this
    exact h
theorem of_laid {W:World} {l:List (String×DataW Unit)} (h:laidMetH Tryz.prog l W) (hh:(l.all fun x=>x.2.handleName?.isNone)=true) (i:Nat) (hi:l[i]? = some ("quaere/sign.equals",Rows.laid_quaere_sign_equals)):GlMet gl W :=
  glMet (laid_rc (t:=49) (n:=4) (ts:=tSym) tb_ok h hh i hi g_equals (by kernel_rfl) (by kernel_rfl) (vs:=[.string ⟨List.toArray [61]⟩,.int .i64 0,.int .i64 2,.int .i64 1]) (by kernel_rfl) (fun c A blk off hv =>
    ⟨⟨(hv 0 _ rfl).1,_,(hv 0 _ rfl).2,rfl⟩,⟨(hv 1 _ rfl).1,_,(hv 1 _ rfl).2,rfl⟩,⟨(hv 2 _ rfl).1,_,(hv 2 _ rfl).2,rfl⟩,(hv 3 _ rfl).1,_,(hv 3 _ rfl).2,rfl⟩))

namespace cnfAnds
theorem contract (plain:∀ x,FineL [.sl tSym,.sl (.cons (.int .i64) (.cons (.int .i64) (.one (.sl (.one (.int .i64)))))),.sl (.cons (.int .i64) (.cons (.int .i64) (.one (.sl (.one (.int .i64))))))] x→law23_CnfAnds x.1 x.2.1 x.2.2=some true)
    (H:Type) (enc:TypeId×Value→H) (W:World) (base:Nat) (args:Array Value) (ds gs:List (DataW H)) (before:List MemPlace)
    (hval:∀(j:Nat) t v,Tryz.f5.params[j]? = some t→args[j]? = some v→Value.okWide Tryz.prog W .any base t v)
    (hW:DataW.Whole enc Tryz.prog Tryz.f5.params.toList Rows.cnfAndsSpec.vars false W args.toList ds gs before) (hL:laidMetH Tryz.prog Rows.cnfAndsRow.laid W) :
    Calls Tryz.prog 5 args W fun e W'=>∃ v,e = .returned v∧Rows.cnfAndsSpec.post enc Tryz.prog Tryz.f5 false true false false W args v W':=by
  have hgs:gs=[]:=by
    obtain⟨p,q,hA,hV,_⟩:=hW
    exact (trodVars_none hV).1
  subst hgs
  have hs:∀ ds:List (DataW H),ds.length=Tryz.f5.params.size→(Rows.cnfAndsSpec.fn H ds).results=[.lit (.bool true)]∧(Rows.cnfAndsSpec.fn H ds).args=ds∧(Rows.cnfAndsSpec.fn H ds).vars=[]:=fun ds hd=>by
    rw[Tryz.params5] at hd
    match ds,hd with
    | [_,_,_],_=>exact ⟨rfl,rfl,rfl⟩
  have hp:pv tb 8 Tryz.f5.params.toList=some ([.hole,.hole,.hole],[.sl tSym,.sl (.cons (.int .i64) (.cons (.int .i64) (.one (.sl (.one (.int .i64)))))),.sl (.cons (.int .i64) (.cons (.int .i64) (.one (.sl (.one (.int .i64))))))]):=by kernel_rfl
  have hr:(Tryz.f5.params.toList.all fun t=>Tryz.prog.readableRec t&&decide (t<Tryz.prog.types.size))=true:=by kernel_rfl
  have h1:(Tryz.f5.name == "runtime.NumGoroutine")=false:=by kernel_rfl
  have h2:Tryz.f5.body=some (bodyOf Tryz.f5):=by kernel_rfl
  have h3:Tryz.f5.resultTypes = #[4]:=by kernel_rfl
  have h4:Tryz.prog.underlying 4=some .bool:=by kernel_rfl
  have h5:=of_laid hL (by kernel_rfl) 3 rfl
  have h6:=w104_ok
  unfold w104_c at h6
  exact law_row (bulk H) tb_ok h6 rfl Tryz.func5 h1 h2 hp laidOut hr h3 h4 rfl hs h5 hW hval fun x h1 h2=>plain x h1

noncomputable def laidWorld (os:Os):World:=laidW Tryz.prog os [(3,((flatD (Rows.laid_math_bits_deBruijn32tab:DataW Unit)).getD []).toArray),(4,((flatD (Rows.laid_math_bits_deBruijn64tab:DataW Unit)).getD []).toArray),(2,((flatD (Rows.laid_internal_strconv_uint64pow10:DataW Unit)).getD []).toArray),(0,((flatD (Rows.laid_quaere_sign_equals:DataW Unit)).getD []).toArray)]
theorem laid_met (os:Os):laidMet Tryz.prog Rows.cnfAndsRow.laid ((laidWorld os).forCall (fun _ _=>0) ⟨#[],#[.slice none 0 0,.slice none 0 0,.slice none 0 0],[]⟩).memory :=
  laidMet_of_run' 8 (by kernel_rfl) (by kernel_rfl)
theorem reads (os:Os) {H:Type} (enc:TypeId×Value→H):∃ places,DataW.whole enc Tryz.prog ((laidWorld os).forCall (fun _ _=>0) ⟨#[],#[.slice none 0 0,.slice none 0 0,.slice none 0 0],[]⟩).memory Tryz.f5.params.toList Rows.cnfAndsSpec.vars false (#[.slice none 0 0,.slice none 0 0,.slice none 0 0]:Array Value).toList 8=some ([.nil,.nil,.nil],[],places) :=
  ⟨[],by kernel_rfl⟩
theorem lifted (plain:∀ x,FineL [.sl tSym,.sl (.cons (.int .i64) (.cons (.int .i64) (.one (.sl (.one (.int .i64)))))),.sl (.cons (.int .i64) (.cons (.int .i64) (.one (.sl (.one (.int .i64))))))] x→law23_CnfAnds x.1 x.2.1 x.2.2=some true)
    (os:Os) (started:os.Started) (H:Type) (enc:TypeId×Value→H) (F:Stop.Interp) :
    ReturnsInHanded {} Tryz.checked os 5 .any ((OpenSpec.ofChange Rows.cnfAndsSpec).preRow enc Tryz.prog Tryz.f5 Rows.cnfAndsRow.domain false Rows.cnfAndsRow.laid) (((OpenSpec.ofChange Rows.cnfAndsSpec).at F).post enc Tryz.prog Tryz.f5 false true false false):=by
  obtain⟨places,hx⟩:=reads os enc
  refine returnsInHanded_of_row (C:=Tryz.checked) (s:=OpenSpec.ofChange Rows.cnfAndsSpec) own started (by kernel_rfl) Tryz.func5
    (witness_row_at (enc:=enc) (C:=Tryz.checked) false (laidWorld os) #[.slice none 0 0,.slice none 0 0,.slice none 0 0] (laidW_os _ _ _ rfl) (by kernel_rfl) (by kernel_rfl) (by kernel_rfl)
      (OpenSpec.preRow_of_cond 8 hx (by kernel_rfl) (fun k hk=>by cases hk) (by kernel_rfl) (laid_met os))) ?_
  intro W base args ds gs before hval hW _ hcond _ hL _ _
  exact contract plain H enc W base args ds gs before hval hW hL
theorem said (plain:∀ x,FineL [.sl tSym,.sl (.cons (.int .i64) (.cons (.int .i64) (.one (.sl (.one (.int .i64)))))),.sl (.cons (.int .i64) (.cons (.int .i64) (.one (.sl (.one (.int .i64))))))] x→law23_CnfAnds x.1 x.2.1 x.2.2=some true):Rows.CnfAndsSaid :=
  OpenClaim.holds_of_cond 5 Tryz.f5 rfl rfl rfl rfl rfl rfl rfl ⟨rfl,rfl,rfl,rfl,rfl⟩ rfl rfl rfl rfl rfl (by kernel_rfl) Tryz.func5 (by kernel_rfl)
    (of_decide_eq_true (by kernel_rfl)) (by unfold Func.isWrapper; first | (rw[if_pos (by decide +kernel)]; kernel_rfl) | (rw[if_neg (by decide +kernel)]; exact ⟨rfl,rfl⟩))
    (fun os started H enc _ F=>by rw[OpenClaim.pre_eq_preRow]; exact lifted plain os started H enc F)
theorem stand (f:FuncId) (fn:Func) (hf:Tryz.pinned.checked.prog.funcNamed "quaere/quaerelaw23.CnfAnds" = some f) (hfn:Tryz.pinned.checked.prog.funcs[f]? = some fn) :
    false=Tryz.pinned.checked.prog.looks []∧∀(j:Nat) t,fn.params[j]? = some t→Tryz.pinned.checked.prog.wantsStandIn t=false:=by
  obtain rfl:f=5:=Option.some.inj ((show Tryz.prog.funcNamed "quaere/quaerelaw23.CnfAnds" = some 5 by kernel_rfl).symm.trans hf) |>.symm
  obtain rfl:fn=Tryz.f5:=(Option.some.inj (Tryz.func5.symm.trans hfn)).symm
  refine ⟨by kernel_rfl,fun j t ht => ?_⟩
  have hall:(Tryz.f5.params.toList.all fun t => !(Tryz.prog.wantsStandIn t))=true:=by kernel_rfl
  rw[List.all_eq_true] at hall
  have:=hall t (by simpa using Array.mem_of_getElem? ht)
  rw[Bool.not_eq_true'] at this
  exact this
theorem card (plain:∀ x,FineL [.sl tSym,.sl (.cons (.int .i64) (.cons (.int .i64) (.one (.sl (.one (.int .i64)))))),.sl (.cons (.int .i64) (.cons (.int .i64) (.one (.sl (.one (.int .i64))))))] x→law23_CnfAnds x.1 x.2.1 x.2.2=some true):Rows.CnfAndsCardSaid :=
  Claim7.holds_tied_plain_at .later [] _ _ _ _ (said plain) (fun _ h=>by cases h) (by kernel_rfl) (fun _ h=>by cases h) cnfAnds_row_tie rfl ⟨rfl,rfl⟩ (by kernel_rfl) rfl stand (by kernel_rfl)
end cnfAnds

theorem cnfAnds_holds:Rows.CnfAndsCardSaid:=cnfAnds.card (fun x _=>law23_CnfAnds_true x.1 x.2.1 x.2.2)
end Go.Proofs.YtgjajclncfhidabGreatDoor
