/- ValueItems. For every input of bulk at most 1048576 the law returns true, and each argument reads afterwards as it did before. Conditions: those of the row, none of ours. -/
import Derived.Test.YtdgjplfcpcphoaaGreatDoorProg
import Derived.BigQuiet
import Derived.Deep.Cut
import Derived.Deep.QuietTactic
import Derived.Laws.StructEq
import Derived.Lib.AppendStr
import Derived.Lib.Builder
import Derived.Lib.Hide
import Derived.Lib.ItoaLen
import Derived.Maps.OwnOps
import Derived.Maps.OwnSet
import Derived.OrdersHeld
import Derived.Outline
import Derived.StillTailTactics
import Derived.StringKeys
import Derived.WalkKit
import Derived.WalkLawsBesides
import Derived.WalkSpells
import Derived.Deep.RegionHeld
import Derived.Laws.CopyRow
import Derived.Laws.Tables
import Derived.BigFrame
import Derived.RangeFuncNested
import Derived.RangeFuncBound
import Derived.RangeFuncCalls
import Derived.RangeFuncLeaves
import Derived.OwnWalkIn
import Derived.TacticsInMore
import Derived.LoopNIn
import Derived.LoopIn
import Derived.Shelf.Strings.Builder1
import Derived.Shelf.Small.Wraps
import Derived.Shelf.LaysM
import Derived.Shelf.Strconv.Itoa3
import Derived.Shelf.Strconv.AppendIntPublic10
import Derived.Shelf.Spec.SlicesGrow
import Derived.Shelf.SlSortCmp.WholeK
import Derived.RegionTactic
import Derived.ChangeAlike
import Derived.Laws.BytesArg
import Derived.Laws.EntriesVeiled
import Derived.Laws.CopyOwn
import Derived.Deep.Slices
import Derived.Lib.SmallJoins
import Derived.ChangeMaps5
import Derived.Carry
import Derived.KernelRfl
import Derived.ChangeArms
import Derived.WalkMore
import Derived.Test.YtdgjplfcpcphoaaGreatDoorRows
import Derived.Test.YtdgjplfcpcphoaaGreatDoorCards
import Derived.Test.YtdgjplfcpcphoaaGreatDoorTie
import Derived.ProofKit
import Derived.OpenShut
import Derived.Deep.DeepHandedRow
import Derived.Lib.LaidTab
import Derived.Stop.LaidErr
import Derived.Test.YtdgjplfcpcphoaaGreatDoorZz
import Derived.Test.YtdgjplfcpcphoaaGreatDoorPkX14
import Derived.Test.YtdgjplfcpcphoaaGreatDoorPkX3
import Derived.Test.YtdgjplfcpcphoaaGreatDoorPkX4
import Derived.Test.YtdgjplfcpcphoaaGreatDoorPkX5
import Derived.Test.YtdgjplfcpcphoaaGreatDoorPkX1
import Derived.Test.YtdgjplfcpcphoaaGreatDoorPkX2
import Derived.Test.YtdgjplfcpcphoaaGreatDoorPkX10
import Derived.Test.YtdgjplfcpcphoaaGreatDoorPkX13
import Derived.Test.YtdgjplfcpcphoaaGreatDoorPkX18
import Derived.Test.YtdgjplfcpcphoaaGreatDoorPkX9
import Derived.Test.YtdgjplfcpcphoaaGreatDoorPkX16
import Derived.Test.YtdgjplfcpcphoaaGreatDoorPkX6
import Derived.Test.YtdgjplfcpcphoaaGreatDoorPkX15
import Derived.Test.YtdgjplfcpcphoaaGreatDoorPkX7
import Derived.Test.YtdgjplfcpcphoaaGreatDoorPkX11
import Derived.Test.YtdgjplfcpcphoaaGreatDoorPkX8
import Derived.Test.YtdgjplfcpcphoaaGreatDoorPkX12
import Derived.Test.YtdgjplfcpcphoaaGreatDoorPkX17
import Derived.Test.YtdgjplfcpcphoaaGreatDoorPkX19
import Derived.Test.YtdgjplfcpcphoaaGreatDoorPkX20
import Derived.Test.YtdgjplfcpcphoaaGreatDoorPkX21
import Derived.Test.YtdgjplfcpcphoaaGreatDoorPkX23
import Derived.Test.YtdgjplfcpcphoaaGreatDoorPkX24
import Derived.Test.YtdgjplfcpcphoaaGreatDoorPkX26
import Derived.Test.YtdgjplfcpcphoaaGreatDoorPkX22
import Derived.Test.YtdgjplfcpcphoaaGreatDoorPQCard12Items
set_option maxRecDepth 100000
set_option maxHeartbeats 16000000
namespace Go.Proofs.YtdgjplfcpcphoaaGreatDoor.valueItems
open Go Go.RowKit Go.Proofs Go.ChangeShapes Go.WideShapes Go.ChangeAt Cl
theorem contract (H:Type) (enc:TypeId × Value→H) (W:World) (base:Nat) (args:Array Value) (ds gs:List (DataW H)) (before:List MemPlace)
 (hval0:∀(j:Nat) t v,Tryz.f8.params[j]?=some t→args[j]?=some v→Value.okWide Tryz.prog W .any base t v)
 (hW:DataW.Whole enc Tryz.prog Tryz.f8.params.toList Rows.valueItemsSpec.vars false W args.toList ds gs before) (hk:Rows.uptoSmall H (ds ++ gs)=true) (hL:laidMetH Tryz.prog jX W) :
 Calls Tryz.prog 8 args W fun e W'=>∃v,e=.returned v∧Rows.valueItemsSpec.post enc Tryz.prog Tryz.f8 false true false false W args v W':=by
 have hval:=hval0;have hW':=hW;obtain⟨p,q,hA0,hV,rfl,hfz,hnd⟩:=hW;have hA:DataW.TrodAll enc Tryz.prog W 0 (fun _=>true) true Tryz.f8.params.toList args.toList ds p:=hA0;rw[Tryz.params8] at hA hval;obtain⟨v0,v1,d0,d1,p0,p1,rfl,rfl,rfl,h0,h1⟩:=trodAll_two hA;obtain⟨rfl,rfl⟩:=trodVars_none hV;have hb0:=jR hk (d:=d0) (by simp);obtain⟨n0,x0,y0,A0,rfl,hT0,hU0,hc0⟩:=LF Ie (hval 0 _ _ rfl rfl) h0;have ht0:=Nat.le_trans hc0 hb0;obtain⟨i1,rfl,-,-,hi1'⟩:=open_int Tryz.underlying3 (hval 1 _ _ rfl rfl) h1;have hi1 : -9223372036854775808≤i1∧i1≤9223372036854775807:=by have h:=hi1';simp only[Lit.wf,Bool.and_eq_true,decide_eq_true_eq] at h;exact h
 refine (vM x0 y0 A0 i1 (Mem.of W) n0 W (Mem.o9 W) (oP hL) hT0 hU0 ht0 hi1).mono fun e W' ⟨he,hb⟩=>?_;subst he;exact⟨_,rfl,pz rfl (by kernel_rfl) (by kernel_rfl) rfl hW' hb⟩
theorem laid_met (os:Os):laidMet Tryz.prog Rows.valueItemsUptoRow.laid ((dV os).forCall (fun _ _=>0) ⟨#[],#[.agg #[.slice none 0 0,.slice none 0 0],.int .i64 0],[]⟩).memory:=
 laidMet_of_run' 8 (by kernel_rfl) (by kernel_rfl)
theorem reads (os:Os) {H:Type} (enc:TypeId × Value→H):∃places,DataW.whole enc Tryz.prog ((dV os).forCall (fun _ _=>0) ⟨#[],#[.agg #[.slice none 0 0,.slice none 0 0],.int .i64 0],[]⟩).memory Tryz.f8.params.toList Rows.valueItemsSpec.vars false #[Value.agg #[.slice none 0 0,.slice none 0 0],Value.int .i64 0].toList 8=some ([.agg [.nil,.nil],.lit (.int .i64 0)],[],places):=
 ⟨[],by kernel_rfl⟩
theorem lifted (os:Os) (started:os.Started) (H:Type) (enc:TypeId × Value→H) (F:Stop.Interp) :
 ReturnsInHanded {} Tryz.checked os 8 .any ((Rows.OpenSpec.upto Rows.valueItemsSpec).preRow enc Tryz.prog Tryz.f8 Rows.valueItemsUptoRow.domain false Rows.valueItemsUptoRow.laid) (((Rows.OpenSpec.upto Rows.valueItemsSpec).at F).post enc Tryz.prog Tryz.f8 false true false false):=by
 obtain⟨places,hx⟩:=reads os enc;refine returnsInHanded_of_row (C:=Tryz.checked) (s:=Rows.OpenSpec.upto Rows.valueItemsSpec) oQ started (by kernel_rfl) Tryz.func8
  (witness_row_at (enc:=enc) (C:=Tryz.checked) false (dV os) #[.agg #[.slice none 0 0,.slice none 0 0],.int .i64 0] rfl (by kernel_rfl) (by kernel_rfl) (by kernel_rfl)
   (OpenSpec.preRow_of_cond 8 hx (by kernel_rfl) (fun k hk=>by cases hk;kernel_rfl) (by kernel_rfl) (laid_met os))) ?_
 intro W base args ds gs before hval hW _ hcond _ hL _ _;exact contract H enc W base args ds gs before hval hW (hcond _ rfl) hL
theorem f_inPlace:Tryz.prog.inPlace 8=Rows.valueItemsUptoRow.inPlace:=by kernel_rfl
theorem f_unfollowed:Tryz.prog.unfollowed 8=Rows.valueItemsUptoRow.unfollowed:=by kernel_rfl
theorem f_recurses:Tryz.prog.recurses 8=Rows.valueItemsUptoRow.recurses:=by kernel_rfl
theorem f_named:Tryz.prog.varsNamed 8=Rows.valueItemsUptoRow.named:=by kernel_rfl
theorem closed:joinedFacts Tryz.prog 8 Tryz.f8 (Rows.OpenSpec.upto Rows.valueItemsSpec).bare Rows.valueItemsUptoRow=true:=by
 unfold joinedFacts;rw[f_inPlace,f_unfollowed,f_recurses,f_named]
 kernel_rfl
theorem said:Rows.ValueItemsUptoSaid:=
 OpenClaim.holds_of_cond 8 Tryz.f8 rfl rfl rfl rfl rfl rfl rfl ⟨rfl,rfl,rfl,rfl,rfl⟩ rfl rfl rfl rfl rfl (by kernel_rfl) Tryz.func8 closed
  (of_decide_eq_true (by kernel_rfl)) (by unfold Func.isWrapper;first | (rw[if_pos (by decide +kernel)];kernel_rfl) | (rw[if_neg (by decide +kernel)];exact⟨rfl,rfl⟩))
  (fun os started H enc _ F=>by rw[OpenClaim.pre_eq_preRow];exact lifted os started H enc F)
theorem plain (f : FuncId) (fn : Func) (hf : Tryz.pinned.checked.prog.funcNamed "configlang/configlanglaw12.ValueItems" = some f) (hfn : Tryz.pinned.checked.prog.funcs[f]? = some fn) :
 false=Tryz.pinned.checked.prog.looks []∧∀(j:Nat) t,fn.params[j]?=some t→Tryz.pinned.checked.prog.wantsStandIn t=false:=by
 obtain rfl : f = 8 := Option.some.inj ((show Tryz.prog.funcNamed "configlang/configlanglaw12.ValueItems" = some 8 by kernel_rfl).symm.trans hf) |>.symm
 obtain rfl:fn=Tryz.f8:=(Option.some.inj (Tryz.func8.symm.trans hfn)).symm;refine ⟨by kernel_rfl,fun j t ht=>?_⟩;have hall:Tryz.f8.params.all (fun t => !Tryz.prog.wantsStandIn t)=true:=by kernel_rfl
 have:=Array.all_eq_true_iff_forall_mem.1 hall t (Array.mem_of_getElem? ht);show Tryz.prog.wantsStandIn t=false;simpa using this
theorem c_wf:Rows.valueItemsUptoRow.wfByText (Rows.OpenSpec.upto Rows.valueItemsSpec)=true:=by kernel_rfl
theorem c_main:Tryz.pinned.checked.prog.mainIs=some (Rows.valueItemsUptoCard.stood.harness.1,Rows.valueItemsUptoCard.stood.harness.2.toList):=by kernel_rfl
theorem c_goes:false=Rows.valueItemsUptoRow.goesBy Tryz.pinned.checked.prog:=by kernel_rfl
theorem valueItems_holds:Rows.ValueItemsUptoCardSaid:=
 Claim7.holds_tied_plain_at .later [] _ _ _ _ said (fun _ h=>by cases h) c_wf (fun _ h=>by cases h) valueItemsUpto_row_tie rfl ⟨rfl,rfl⟩ c_main rfl plain c_goes
end Go.Proofs.YtdgjplfcpcphoaaGreatDoor.valueItems
