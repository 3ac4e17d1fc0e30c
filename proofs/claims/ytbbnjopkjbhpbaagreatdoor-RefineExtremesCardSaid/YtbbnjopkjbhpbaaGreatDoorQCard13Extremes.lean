/- RefineExtremes. For every input the law returns true, and each argument reads afterwards as it did before. Conditions: those of the row, none of ours. -/
import Derived.Test.YtbbnjopkjbhpbaaGreatDoorPkP32
import Derived.Test.YtbbnjopkjbhpbaaGreatDoorPQCard13Extremes
set_option maxRecDepth 100000
set_option maxHeartbeats 16000000
namespace Go.Proofs.YtbbnjopkjbhpbaaGreatDoor.refineExtremes
open Go Go.RowKit Go.Proofs Go.ChangeShapes Go.WideShapes Go.ChangeAt Cl
theorem contract (H:Type) (enc:TypeId × Value→H) (W:World) (base:Nat) (args:Array Value) (ds gs:List (DataW H)) (before:List MemPlace)
 (hval0:∀(j:Nat) t v,Tryz.f4.params[j]?=some t→args[j]?=some v→Value.okWide Tryz.prog W .any base t v)
 (hW:DataW.Whole enc Tryz.prog Tryz.f4.params.toList Rows.refineExtremesSpec.vars false W args.toList ds gs before) (hL:laidMetH Tryz.prog Iw W) :
 Calls Tryz.prog 4 args W fun e W'=>∃v,e=.returned v∧Rows.refineExtremesSpec.post enc Tryz.prog Tryz.f4 false true false false W args v W':=by
 have hval:=hval0;have hW':=hW;obtain⟨p,q,hA0,hV,rfl,hfz,hnd⟩:=hW;have hA:DataW.TrodAll enc Tryz.prog W 0 (fun _=>true) true Tryz.f4.params.toList args.toList ds p:=hA0;rw[Tryz.params4] at hA hval;obtain⟨v0,d0,rfl,rfl,h0⟩:=trodAll_one hA;obtain⟨rfl,rfl⟩:=trodVars_none hV;obtain⟨n0,x0,y0,A0,rfl,hT0,hU0,-⟩:=H9 bz0 (hval 0 _ _ rfl rfl) h0;refine (hzE A0 x0 y0 (Mem.of W) n0 W (Mem_of_inn W) (azq hL) ⟨hT0,hU0⟩).mono fun e W' ⟨he,hb⟩=>?_;subst he;exact⟨_,rfl,az8 rfl (by kernel_rfl) (by kernel_rfl) rfl hW' hb⟩
theorem laid_met (os:Os):laidMet Tryz.prog Rows.refineExtremesRow.laid ((EU os).forCall (fun _ _=>0) ⟨#[],#[.agg #[.bool false,.bool false,.bool false,.bool false,.slice none 0 0,.slice none 0 0,.slice none 0 0,.slice none 0 0,.slice none 0 0,.bool false,.bool false,.bool false,.bool false,.slice none 0 0,.slice none 0 0,.slice none 0 0,.slice none 0 0,.slice none 0 0]],[]⟩).memory:=
 laidMet_of_run' 8 (by kernel_rfl) (by kernel_rfl)
theorem reads (os:Os) {H:Type} (enc:TypeId × Value→H):∃places,DataW.whole enc Tryz.prog ((EU os).forCall (fun _ _=>0) ⟨#[],#[.agg #[.bool false,.bool false,.bool false,.bool false,.slice none 0 0,.slice none 0 0,.slice none 0 0,.slice none 0 0,.slice none 0 0,.bool false,.bool false,.bool false,.bool false,.slice none 0 0,.slice none 0 0,.slice none 0 0,.slice none 0 0,.slice none 0 0]],[]⟩).memory Tryz.f4.params.toList Rows.refineExtremesSpec.vars false #[Value.agg #[.bool false,.bool false,.bool false,.bool false,.slice none 0 0,.slice none 0 0,.slice none 0 0,.slice none 0 0,.slice none 0 0,.bool false,.bool false,.bool false,.bool false,.slice none 0 0,.slice none 0 0,.slice none 0 0,.slice none 0 0,.slice none 0 0]].toList 8=some ([.agg [.agg [.lit (.bool false),.agg [.lit (.bool false),.lit (.bool false),.lit (.bool false),.agg [.nil,.nil],.agg [.nil]],.nil,.nil],.agg [.lit (.bool false),.agg [.lit (.bool false),.lit (.bool false),.lit (.bool false),.agg [.nil,.nil],.agg [.nil]],.nil,.nil]]],[],places):=
 ⟨[],by kernel_rfl⟩
theorem lifted (os:Os) (started:os.Started) (H:Type) (enc:TypeId × Value→H) (F:Stop.Interp) :
 ReturnsInHanded {} Tryz.checked os 4 .any ((OpenSpec.ofChange Rows.refineExtremesSpec).preRow enc Tryz.prog Tryz.f4 Rows.refineExtremesRow.domain false Rows.refineExtremesRow.laid) (((OpenSpec.ofChange Rows.refineExtremesSpec).at F).post enc Tryz.prog Tryz.f4 false true false false):=by
 obtain⟨places,hx⟩:=reads os enc;refine returnsInHanded_of_row (C:=Tryz.checked) (s:=OpenSpec.ofChange Rows.refineExtremesSpec) azr started (by kernel_rfl) Tryz.func4
  (witness_row_at (enc:=enc) (C:=Tryz.checked) false (EU os) #[.agg #[.bool false,.bool false,.bool false,.bool false,.slice none 0 0,.slice none 0 0,.slice none 0 0,.slice none 0 0,.slice none 0 0,.bool false,.bool false,.bool false,.bool false,.slice none 0 0,.slice none 0 0,.slice none 0 0,.slice none 0 0,.slice none 0 0]] rfl (by kernel_rfl) (by kernel_rfl) (by kernel_rfl)
   (OpenSpec.preRow_of_cond 8 hx (by kernel_rfl) (fun k hk=>by cases hk) (by kernel_rfl) (laid_met os))) ?_
 intro W base args ds gs before hval hW _ _ _ hL _ _;exact contract H enc W base args ds gs before hval hW hL
theorem f_inPlace:Tryz.prog.inPlace 4=Rows.refineExtremesRow.inPlace:=by kernel_rfl
theorem f_unfollowed:Tryz.prog.unfollowed 4=Rows.refineExtremesRow.unfollowed:=by kernel_rfl
theorem f_recurses:Tryz.prog.recurses 4=Rows.refineExtremesRow.recurses:=by kernel_rfl
theorem f_named:Tryz.prog.varsNamed 4=Rows.refineExtremesRow.named:=by kernel_rfl
theorem closed:joinedFacts Tryz.prog 4 Tryz.f4 (OpenSpec.ofChange Rows.refineExtremesSpec).bare Rows.refineExtremesRow=true:=by
 unfold joinedFacts;rw[f_inPlace,f_unfollowed,f_recurses,f_named]
 kernel_rfl
theorem said:Rows.RefineExtremesSaid:=
 OpenClaim.holds_of_cond 4 Tryz.f4 rfl rfl rfl rfl rfl rfl rfl ⟨rfl,rfl,rfl,rfl,rfl⟩ rfl rfl rfl rfl rfl (by kernel_rfl) Tryz.func4 closed
  (of_decide_eq_true (by kernel_rfl)) (by unfold Func.isWrapper;first | (rw[if_pos (by decide +kernel)];kernel_rfl) | (rw[if_neg (by decide +kernel)];exact⟨rfl,rfl⟩))
  (fun os started H enc _ F=>by rw[OpenClaim.pre_eq_preRow];exact lifted os started H enc F)
theorem plain (f : FuncId) (fn : Func) (hf : Tryz.pinned.checked.prog.funcNamed "configlang/configlanglaw13.RefineExtremes" = some f) (hfn : Tryz.pinned.checked.prog.funcs[f]? = some fn) :
 false=Tryz.pinned.checked.prog.looks []∧∀(j:Nat) t,fn.params[j]?=some t→Tryz.pinned.checked.prog.wantsStandIn t=false:=by
 obtain rfl : f = 4 := Option.some.inj ((show Tryz.prog.funcNamed "configlang/configlanglaw13.RefineExtremes" = some 4 by kernel_rfl).symm.trans hf) |>.symm
 obtain rfl:fn=Tryz.f4:=(Option.some.inj (Tryz.func4.symm.trans hfn)).symm;refine ⟨by kernel_rfl,fun j t ht=>?_⟩;have hall:Tryz.f4.params.all (fun t => !Tryz.prog.wantsStandIn t)=true:=by kernel_rfl
 have:=Array.all_eq_true_iff_forall_mem.1 hall t (Array.mem_of_getElem? ht);show Tryz.prog.wantsStandIn t=false;simpa using this
theorem c_wf:Rows.refineExtremesRow.wfByText (OpenSpec.ofChange Rows.refineExtremesSpec)=true:=by kernel_rfl
theorem c_main:Tryz.pinned.checked.prog.mainIs=some (Rows.refineExtremesCard.stood.harness.1,Rows.refineExtremesCard.stood.harness.2.toList):=by kernel_rfl
theorem c_goes:false=Rows.refineExtremesRow.goesBy Tryz.pinned.checked.prog:=by kernel_rfl
theorem refineExtremes_holds:Rows.RefineExtremesCardSaid:=
 Claim7.holds_tied_plain_at .later [] _ _ _ _ said (fun _ h=>by cases h) c_wf (fun _ h=>by cases h) refineExtremes_row_tie rfl ⟨rfl,rfl⟩ c_main rfl plain c_goes
end Go.Proofs.YtbbnjopkjbhpbaaGreatDoor.refineExtremes
