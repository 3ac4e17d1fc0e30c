/- RefineTurns. For every input the law returns true, and each argument reads afterwards as it did before. Conditions: those of the row, none of ours. -/
import Derived.Test.YtbbnjopkjbhpbaaGreatDoorPkT28
import Derived.Test.YtbbnjopkjbhpbaaGreatDoorPkT26
import Derived.Test.YtbbnjopkjbhpbaaGreatDoorPQCard13Turns
set_option maxRecDepth 99999
set_option maxHeartbeats 9999999
namespace Go.Proofs.YtbbnjopkjbhpbaaGreatDoor.refineTurns
open Go Go.RowKit Go.Proofs Go.ChangeShapes Go.WideShapes Go.ChangeAt Cl
abbrev V:Array Value:=#[.agg #[.bool false,.bool false,.bool false,.bool false,.slice none 0 0,.slice none 0 0,.slice none 0 0,.slice none 0 0,.slice none 0 0,.bool false,.bool false,.bool false,.bool false,.slice none 0 0,.slice none 0 0,.slice none 0 0,.slice none 0 0,.slice none 0 0]]
abbrev O:=OpenSpec.ofChange Rows.refineTurnsSpec
abbrev R:=Rows.refineTurnsRow
theorem ct (H:Type)(enc:TypeId × Value→H)(W:World)(base:Nat)(args:Array Value)(ds gs:List (DataW H))(bf:List MemPlace)
 (h':∀(j:Nat) t v,Tryz.f5.params[j]?=some t→args[j]?=some v→Value.okWide Tryz.prog W .any base t v)
 (hW:DataW.Whole enc Tryz.prog Tryz.f5.params.toList Rows.refineTurnsSpec.vars false W args.toList ds gs bf)(hL:laidMetH Tryz.prog GN W) :
 Calls Tryz.prog 5 args W fun e W'=>∃v,e=.returned v∧Rows.refineTurnsSpec.post enc Tryz.prog Tryz.f5 false true false false W args v W':=by
 have hval:=h';have hW':=hW;obtain⟨p,q,hA0,hV,rfl,hfz,hnd⟩:=hW;have hA:DataW.TrodAll enc Tryz.prog W 0 (fun _=>true) true Tryz.f5.params.toList args.toList ds p:=hA0;rw[Tryz.params5] at hA hval;obtain⟨v0,d0,rfl,rfl,h0⟩:=trodAll_one hA;obtain⟨rfl,rfl⟩:=trodVars_none hV;obtain⟨n0,x0,y0,A0,rfl,hT0,hU0,-⟩:=Y2 fzz (hval 0 _ _ rfl rfl) h0;refine (FR A0 x0 y0 (Mem.of W) n0 W (ezr W) (Zr hL) ⟨hT0,hU0⟩).mono fun e W' ⟨he,hb⟩=>?_;subst he;exact⟨_,rfl,azd rfl zk zk rfl hW' hb⟩
theorem l1 (os:Os):laidMet Tryz.prog R.laid ((En os).forCall (fun _ _=>0) ⟨#[],V,[]⟩).memory:=
 laidMet_of_run' 8 zk zk
theorem rd (os:Os) {H:Type} (enc:TypeId × Value→H):∃pl,DataW.whole enc Tryz.prog ((En os).forCall (fun _ _=>0) ⟨#[],V,[]⟩).memory Tryz.f5.params.toList Rows.refineTurnsSpec.vars false V.toList 8=some ([.agg [.agg [.lit (.bool false),.agg [.lit (.bool false),.lit (.bool false),.lit (.bool false),.agg [.nil,.nil],.agg [.nil]],.nil,.nil],.agg [.lit (.bool false),.agg [.lit (.bool false),.lit (.bool false),.lit (.bool false),.agg [.nil,.nil],.agg [.nil]],.nil,.nil]]],[],pl):=
 ⟨[],by kernel_rfl⟩
theorem lifted (os:Os)(started:os.Started)(H:Type)(enc:TypeId × Value→H)(F:Stop.Interp) :
 ReturnsInHanded {} Tryz.checked os 5 .any (O.preRow enc Tryz.prog Tryz.f5 R.domain false R.laid) ((O.at F).post enc Tryz.prog Tryz.f5 false true false false):=by
 obtain⟨pl,hx⟩:=rd os enc;refine returnsInHanded_of_row (C:=Tryz.checked) (s:=O) Zt started zk Tryz.func5
  (witness_row_at (enc:=enc) (C:=Tryz.checked) false (En os) V rfl zk zk zk
   (OpenSpec.preRow_of_cond 8 hx zk (fun k hk=>by cases hk) zk (l1 os))) ?_
 intro W base args ds gs bf hval hW _ _ _ hL _ _;exact ct H enc W base args ds gs bf hval hW hL
theorem f1:Tryz.prog.inPlace 5=R.inPlace:=by kernel_rfl
theorem f2:Tryz.prog.unfollowed 5=R.unfollowed:=by kernel_rfl
theorem f3:Tryz.prog.recurses 5=R.recurses:=by kernel_rfl
theorem f4:Tryz.prog.varsNamed 5=R.named:=by kernel_rfl
theorem cl:joinedFacts Tryz.prog 5 Tryz.f5 O.bare R=true:=by
 unfold joinedFacts;rw[f1,f2,f3,f4]
 kernel_rfl
theorem said:Rows.RefineTurnsSaid:=
 OpenClaim.holds_of_cond 5 Tryz.f5 rfl rfl rfl rfl rfl rfl rfl ⟨rfl,rfl,rfl,rfl,rfl⟩ rfl rfl rfl rfl rfl zk Tryz.func5 cl
  (of_decide_eq_true zk) (by unfold Func.isWrapper;first | (rw[if_pos (by decide +kernel)];kernel_rfl) | (rw[if_neg (by decide +kernel)];exact⟨rfl,rfl⟩))
  (fun os started H enc _ F=>by rw[OpenClaim.pre_eq_preRow];exact lifted os started H enc F)
theorem plain(f:FuncId)(fn:Func)(hf:Tryz.pinned.checked.prog.funcNamed "configlang/configlanglaw13.RefineTurns"=some f)(hfn:Tryz.pinned.checked.prog.funcs[f]?=some fn) :
 false=Tryz.pinned.checked.prog.looks []∧∀(j:Nat) t,fn.params[j]?=some t→Tryz.pinned.checked.prog.wantsStandIn t=false:=by
 obtain rfl:f=5 := Option.some.inj ((show Tryz.prog.funcNamed "configlang/configlanglaw13.RefineTurns"=some 5 by kernel_rfl).symm.trans hf) |>.symm
 obtain rfl:fn=Tryz.f5:=(Option.some.inj (Tryz.func5.symm.trans hfn)).symm;refine ⟨by kernel_rfl,fun j t ht=>?_⟩;have hall:Tryz.f5.params.all (fun t=>!Tryz.prog.wantsStandIn t)=true:=by kernel_rfl
 have:=Array.all_eq_true_iff_forall_mem.1 hall t (Array.mem_of_getElem? ht);show Tryz.prog.wantsStandIn t=false;simpa using this
theorem c1:R.wfByText O=true:=by kernel_rfl
theorem c2:Tryz.pinned.checked.prog.mainIs=some (Rows.refineTurnsCard.stood.harness.1,Rows.refineTurnsCard.stood.harness.2.toList):=by kernel_rfl
theorem c3:false=R.goesBy Tryz.pinned.checked.prog:=by kernel_rfl
theorem refineTurns_holds:Rows.RefineTurnsCardSaid:=
 Claim7.holds_tied_plain_at .later [] _ _ _ _ said (fun _ h=>by cases h) c1 (fun _ h=>by cases h) refineTurns_row_tie rfl ⟨rfl,rfl⟩ c2 rfl plain c3
end Go.Proofs.YtbbnjopkjbhpbaaGreatDoor.refineTurns
