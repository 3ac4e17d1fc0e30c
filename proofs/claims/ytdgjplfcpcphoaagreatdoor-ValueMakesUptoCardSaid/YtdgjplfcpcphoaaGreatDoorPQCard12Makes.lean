/- The law's walk. -/
import Derived.WalkKit
import Derived.Deep.QuietTactic
import Derived.Test.YtdgjplfcpcphoaaGreatDoorProg
import Derived.Deep.Slices
import Derived.Lib.SmallJoins
import Derived.ChangeMaps5
import Derived.Carry
import Derived.KernelRfl
import Derived.ChangeArms
import Derived.BigQuiet
import Derived.Deep.Cut
import Derived.Laws.StructEq
import Derived.Lib.AppendStr
import Derived.Lib.Builder
import Derived.Lib.Hide
import Derived.Lib.ItoaLen
import Derived.Maps.OwnOps
import Derived.Maps.OwnSet
import Derived.OrdersHeld
import Derived.Outline
import Derived.StillTailTactics
import Derived.StringKeys
import Derived.WalkLawsBesides
import Derived.WalkSpells
import Derived.Deep.RegionHeld
import Derived.Laws.CopyRow
import Derived.Laws.Tables
import Derived.BigFrame
import Derived.Shelf.Strings.Builder1
import Derived.Shelf.Small.Wraps
import Derived.Shelf.LaysM
import Derived.Shelf.Strconv.Itoa3
import Derived.Laws.EntriesVeiled
import Derived.RegionTactic
import Derived.RangeFuncNested
import Derived.RangeFuncBound
import Derived.RangeFuncCalls
import Derived.RangeFuncLeaves
import Derived.OwnWalkIn
import Derived.TacticsInMore
import Derived.LoopNIn
import Derived.LoopIn
import Derived.Shelf.Strconv.AppendIntPublic10
import Derived.Shelf.Spec.SlicesGrow
import Derived.Shelf.SlSortCmp.WholeK
import Derived.ChangeAlike
import Derived.Laws.BytesArg
import Derived.Laws.CopyOwn
import Derived.WalkMore
import Derived.Test.YtdgjplfcpcphoaaGreatDoorRows
import Derived.Test.YtdgjplfcpcphoaaGreatDoorCards
import Derived.Test.YtdgjplfcpcphoaaGreatDoorTie
import Derived.ProofKit
import Derived.OpenShut
import Derived.Deep.DeepHandedRow
import Derived.Lib.LaidTab
import Derived.Stop.LaidErr
import Derived.Test.YtdgjplfcpcphoaaGreatDoorZz
import Derived.Test.YtdgjplfcpcphoaaGreatDoorPkX3
import Derived.Test.YtdgjplfcpcphoaaGreatDoorPkX1
import Derived.Test.YtdgjplfcpcphoaaGreatDoorPkX2
import Derived.Test.YtdgjplfcpcphoaaGreatDoorPkX4
import Derived.Test.YtdgjplfcpcphoaaGreatDoorPkX14
import Derived.Test.YtdgjplfcpcphoaaGreatDoorPkX7
import Derived.Test.YtdgjplfcpcphoaaGreatDoorPkX8
import Derived.Test.YtdgjplfcpcphoaaGreatDoorPkX15
import Derived.Test.YtdgjplfcpcphoaaGreatDoorPkX21
import Derived.Test.YtdgjplfcpcphoaaGreatDoorPkX5
import Derived.Test.YtdgjplfcpcphoaaGreatDoorPkX10
import Derived.Test.YtdgjplfcpcphoaaGreatDoorPkX13
import Derived.Test.YtdgjplfcpcphoaaGreatDoorPkX18
import Derived.Test.YtdgjplfcpcphoaaGreatDoorPkX9
import Derived.Test.YtdgjplfcpcphoaaGreatDoorPkX16
import Derived.Test.YtdgjplfcpcphoaaGreatDoorPkX6
import Derived.Test.YtdgjplfcpcphoaaGreatDoorPkX11
import Derived.Test.YtdgjplfcpcphoaaGreatDoorPkX12
import Derived.Test.YtdgjplfcpcphoaaGreatDoorPkX17
import Derived.Test.YtdgjplfcpcphoaaGreatDoorPkX19
import Derived.Test.YtdgjplfcpcphoaaGreatDoorPkX20
import Derived.Test.YtdgjplfcpcphoaaGreatDoorPkX22
set_option maxRecDepth 100000
set_option maxHeartbeats 16000000
namespace Cl
open Go Go.RowKit Go.Proofs Go.WideShapes Go.ChangeShapes Go.Deep Go.Joins
section
variable {H:Type} {enc:TypeId × Value→H} {w:World} {spare:Nat→Bool} {held:Bool}
theorem Ja {r:Reach} {b0:Nat} {v:Value} {d:DataW H} {p:List MemPlace} (hv:Value.okWide Tryz.prog w r b0 29 v) (h:DataW.Trod enc Tryz.prog w 0 spare held 29 v d p) :
 ∃vi vf vt s,v=s.val vi vf vt∧ScAt (Mem.of w) vi vf vt s:=by
 obtain⟨cs,rfl,hsz⟩:=okWide_struct Tryz.underlying29 hv;obtain⟨fuel,hf⟩:=h;obtain⟨x0,x1,x2,vi,vf,vt,l,f,t,e,hs⟩:=zP hf;refine ⟨vi,vf,vt,⟨x0,x1,x2,l,f,t⟩,?_,hs⟩;have:cs=#[.bool x0,.bool x1,.bool x2,vi,vf,vt]:=by
  have e':cs.toList=[.bool x0,.bool x1,.bool x2,vi,vf,vt]:=e;obtain⟨l⟩:=cs;exact congrArg Array.mk e'
 rw[this];rfl
end
section
variable {H:Type} {enc:TypeId × Value→H} {w:World} {spare:Nat→Bool} {held:Bool} {B:DataW H→Nat}
theorem Fy (hB:mM B) {r:Reach} {b0:Nat} {v:Value} {d:DataW H} {p:List MemPlace} (hv:Value.okWide Tryz.prog w r b0 33 v) (h:DataW.Trod enc Tryz.prog w 0 spare held 33 v d p) :
 ∃n s x,v=Vl.val x s∧VAt (Mem.of w) n s x∧vcnt n x≤B d:=by
 obtain⟨cs,rfl,hsz⟩:=okWide_struct Tryz.underlying33 hv;obtain⟨fuel,hf⟩:=h;obtain⟨x,s,e,hs,hb⟩:=vX hB fuel _ _ hf;refine ⟨_,s,x,?_,hs,hb⟩;have:cs=(nine x s).toArray:=by
  have e':cs.toList=nine x s:=e;obtain⟨l⟩:=cs;exact congrArg Array.mk e'
 rw[this];rfl
end
end Cl
namespace Cl
open Go Go.RowKit Go.Proofs
theorem xD (s:RS) (vi vf vt:Value) (m:Mem) (w:World) (hm:m.inn w) (hs:ScAt m vi vf vt s) :
 Calls Tryz.prog 40 #[s.val vi vf vt] w fun e w'=>e=.returned (bz (.mk false s [] [],.mk false s [] []) ⟨vi,vf,vt,.slice none 0 0,.slice none 0 0⟩ ⟨vi,vf,vt,.slice none 0 0,.slice none 0 0⟩)∧Below w.heap.size w w':=by
 have hO:=((Own.start hm).al #[.bool s.nul,.bool s.fal,.bool s.tru,vi,vf,vt] 29).al zcD 35;simp only[bB] at hO;have hv:VAt m 1 ⟨vi,vf,vt,.slice none 0 0,.slice none 0 0⟩ (.mk false s [] []):=⟨hs,cu _ _,cu _ _⟩;have HP:=zh (fB _ _ m 1 _ hO.inn hv);have h1:=cK (d:=(Vl.mk false s [] [],Vl.mk false s [] [])) hv hv;have q0:=hO.swap.obj.all (cs:=[.bool s.nul,.bool s.fal,.bool s.tru,vi,vf,vt]);have HO:=zh hO;clear hO;unfold bz at *
 unfold RS.val;have hl:(dcs (Vl.mk false s [] [],Vl.mk false s [] []) ⟨vi,vf,vt,.slice none 0 0,.slice none 0 0⟩ ⟨vi,vf,vt,.slice none 0 0,.slice none 0 0⟩).length=18:=rfl;generalize dcs (Vl.mk false s [] [],Vl.mk false s [] []) ⟨vi,vf,vt,.slice none 0 0,.slice none 0 0⟩ ⟨vi,vf,vt,.slice none 0 0,.slice none 0 0⟩=N at *
 refine ay fun R hR=>?_
 go_enter Tryz.func40,Tryz.ntmps40
 go_wp2_with (refine ae tyS rfl (.tmp 1) rfl rfl [.bool s.nul,.bool s.fal,.bool s.tru,vi,vf,vt] rfl q0 ?_)
 refine HP.out.mono ?_;rintro e w1 ⟨rfl,hb1⟩;have HO1:=zh (HO.out.move hb1);clear HO HP hb1 q0
 go_wp2_with (refine aH tyD rfl (.tmp 2) (.tmp 5) rfl (cs:=N.toArray) rfl rfl rfl (by simpa using hl) (fun u hu=>h1 u hu) HO1.out.obj ?_)
 intro w' ho hg;have HF:=zh (HO1.out.setObj ho hg);have hr:=tyD.load hl ho.all;clear HO1 hg ho;go_wp2;exact bodyPost_ret (v:=.agg N.toArray) (gJ Tryz.results40 rfl hr) rfl (hR.out _ _ ⟨rfl,HF.out.below⟩)
theorem xV (s:RS) (vi vf vt:Value) (m:Mem) (w:World) (hm:m.inn w) (hs:ScAt m vi vf vt s) :
 Calls Tryz.prog 41 #[s.val vi vf vt] w fun e w'=>e=.returned (bz (.mk false s [] [],.mk false s [] []) ⟨vi,vf,vt,.slice none 0 0,.slice none 0 0⟩ ⟨vi,vf,vt,.slice none 0 0,.slice none 0 0⟩)∧Below w.heap.size w w':=by
 have hO:=((Own.start hm).al #[.bool s.nul,.bool s.fal,.bool s.tru,vi,vf,vt] 29).al zcD 35;simp only[bB] at hO;have hv:VAt m 1 ⟨vi,vf,vt,.slice none 0 0,.slice none 0 0⟩ (.mk false s [] []):=⟨hs,cu _ _,cu _ _⟩;have HP:=zh (lm _ _ m 1 _ hO.inn hv);have h1:=cK (d:=(Vl.mk false s [] [],Vl.mk false s [] [])) hv hv;have q0:=hO.swap.obj.all (cs:=[.bool s.nul,.bool s.fal,.bool s.tru,vi,vf,vt]);have HO:=zh hO;clear hO;unfold bz at *
 unfold RS.val;have hl:(dcs (Vl.mk false s [] [],Vl.mk false s [] []) ⟨vi,vf,vt,.slice none 0 0,.slice none 0 0⟩ ⟨vi,vf,vt,.slice none 0 0,.slice none 0 0⟩).length=18:=rfl;generalize dcs (Vl.mk false s [] [],Vl.mk false s [] []) ⟨vi,vf,vt,.slice none 0 0,.slice none 0 0⟩ ⟨vi,vf,vt,.slice none 0 0,.slice none 0 0⟩=N at *
 refine ay fun R hR=>?_
 go_enter Tryz.func41,Tryz.ntmps41
 go_wp2_with (refine ae tyS rfl (.tmp 1) rfl rfl [.bool s.nul,.bool s.fal,.bool s.tru,vi,vf,vt] rfl q0 ?_)
 refine HP.out.mono ?_;rintro e w1 ⟨rfl,hb1⟩;have HO1:=zh (HO.out.move hb1);clear HO HP hb1 q0
 go_wp2_with (refine aH tyD rfl (.tmp 2) (.tmp 5) rfl (cs:=N.toArray) rfl rfl rfl (by simpa using hl) (fun u hu=>h1 u hu) HO1.out.obj ?_)
 intro w' ho hg;have HF:=zh (HO1.out.setObj ho hg);have hr:=tyD.load hl ho.all;clear HO1 hg ho;go_wp2;exact bodyPost_ret (v:=.agg N.toArray) (gJ Tryz.results41 rfl hr) rfl (hR.out _ _ ⟨rfl,HF.out.below⟩)
def sclV (s:RS):Vl:=.mk false s [] []
theorem vL (v:Vl) (x:Sl) (vi vf vt:Value) (s:RS) (m:Mem) (n:Nat) (w:World) (hm:m.inn w) (htab:TabM m) (h1:VAt m n x v) (t1:vcnt n v≤1048576) (hs:ScAt m vi vf vt s) :
 Calls Tryz.prog 12 #[v.val x,s.val vi vf vt] w fun e w'=>e=.returned (.bool true)∧Below w.heap.size w w':=by
 obtain⟨m1,l1,c1,hO1⟩:=gu 33 (nine v x).toArray (Own.start hm);obtain⟨m2,l2,c2,hO2⟩:=gu 29 #[.bool s.nul,.bool s.fal,.bool s.tru,vi,vf,vt] hO1;simp only[bB] at c2;have l12:=Mem.le_trans l1 l2;have HT:=zh (htab.le l12);have hv1:VAt m2 1 ⟨vi,vf,vt,.slice none 0 0,.slice none 0 0⟩ (sclV s):=⟨hs.le l12,cu _ _,cu _ _⟩;have hc1:vcnt 1 (sclV s)≤1048576:=by simp[vcnt,sclV,Vl.kids,Vl.lists,Vl.structs]
 have HV1:=zh (zi hv1 (show dG 1 (sclV s,sclV s) from ⟨hc1,hc1⟩));have HV:=zh (zi (h1.le l12) (show dG n (v,v) from ⟨t1,t1⟩));have HLT:=zh (zi (VAt.leaf m2 true) (show dG 1 (topV,topV) from by unfold dG;simp[vcnt,topV,Vl.kids,Vl.lists,Vl.structs]));have HLB:=zh (zi (VAt.leaf m2 false) (show dG 1 (botV,botV) from by unfold dG;simp[vcnt,botV,Vl.kids,Vl.lists,Vl.structs]));have HSC:=zh (hs.le l12);have HS:=zh (fun (w':World) (h:m2.inn w')=>fH n v x m2 w' h HV.out.1 t1);have hS2:=fun (w':World) (h:m2.inn w')=>fH 1 (sclV s) ⟨vi,vf,vt,.slice none 0 0,.slice none 0 0⟩ m2 w' h hv1 hc1;rw[show (sclV s).val ⟨vi,vf,vt,.slice none 0 0,.slice none 0 0⟩=.agg #[.bool false,.bool s.nul,.bool s.fal,.bool s.tru,vi,vf,vt,.slice none 0 0,.slice none 0 0] from rfl] at hS2;have HS2:=zh hS2;have HP:=zh (fun (w':World) (h:m2.inn w')=>fB v x m2 n w' h HV.out.1);have HP2:=zh (fun (w':World) (h:m2.inn w')=>lm v x m2 n w' h HV.out.1);have HC:=zh (fun (w':World) (h:m2.inn w') j u (hj:(nine v x)[j]?=some u)=>Mem.aj h (Mem.aA l2 (c1 j u (by simpa using hj))));have HC2:=zh (fun (w':World) (h:m2.inn w') j u (hj:([.bool s.nul,.bool s.fal,.bool s.tru,vi,vf,vt]:List Value)[j]?=some u)=>Mem.aj h (c2 j u (by simpa using hj)));have C0:m2.cell w.heap.size 0=some (.bool v.any):=Mem.aA l2 (c1 0 _ rfl);have C1:m2.cell (w.heap.size+1) 0=some (.bool s.nul):=c2 0 _ rfl;have hl:(nine v x).length=9:=rfl;have HO:=zh hO2;unfold Vl.val at *
 unfold RS.val;generalize nine v x=D at *
 clear hO1 hO2 htab h1 l1 c1 l2 c2 l12 hv1 hc1 hS2 hs;refine ay fun R hR=>?_
 go_enter Tryz.func12,Tryz.ntmps12
 go_wp2_with (first | refine ae tyV rfl (.tmp 2) rfl rfl D hl (fun j u hj=>by rw[Nat.zero_add];exact HC.out _ HO.out.inn j u hj) ?_ | refine ae tyS rfl (.tmp 3) rfl rfl [.bool s.nul,.bool s.fal,.bool s.tru,vi,vf,vt] rfl (fun j u hj=>by rw[Nat.zero_add];exact HC2.out _ HO.out.inn j u hj) ?_)
 refine (HS.out _ HO.out.inn).mono ?_;rintro e w1 ⟨rfl,hb1⟩;have HO0:=zh (HO.out.move hb1);clear HO hb1;cases hb0:gD n v
 case false=>
  clear hb0
  go_wp2_with fail
  refine (bv m2 _ HO0.out.inn HT.out).mono ?_;rintro e wz ⟨rfl,hbz⟩;have HB:=zh (HO0.out.move hbz).below;clear HO0 hbz;go_wp2;exact hR.out _ _ ⟨rfl,HB.out⟩
 clear hb0
 go_wp2_with (first | refine ae tyV rfl (.tmp 2) rfl rfl D hl (fun j u hj=>by rw[Nat.zero_add];exact HC.out _ HO0.out.inn j u hj) ?_ | refine ae tyS rfl (.tmp 3) rfl rfl [.bool s.nul,.bool s.fal,.bool s.tru,vi,vf,vt] rfl (fun j u hj=>by rw[Nat.zero_add];exact HC2.out _ HO0.out.inn j u hj) ?_)
 refine (HS2.out _ HO0.out.inn).mono ?_;rintro e w2 ⟨rfl,hb1⟩;have HO1:=zh (HO0.out.move hb1);clear HO0 hb1;cases hb1:gD 1 (sclV s)
 case false=>
  clear hb1
  go_wp2_with fail
  refine (bv m2 _ HO1.out.inn HT.out).mono ?_;rintro e wz ⟨rfl,hbz⟩;have HB:=zh (HO1.out.move hbz).below;clear HO1 hbz;go_wp2;exact hR.out _ _ ⟨rfl,HB.out⟩
 clear hb1
 go_upto_region 3 with (fail)
 refine aN [4] (fun vs w'=>vs=[.bool true]∧Own w m w' m2 []) ?_ ?_
 ·intro Y hY;refine aX 25 8 (fun j=>[Fact.is (·=bz (topV,topV) bq bq),Fact.is (·=bz (topV,topV) bq bq),Fact.is (·=.bool true),Fact.is (·=.bool true),Fact.is (·=bz (botV,botV) bq bq),Fact.is (·=bz (botV,botV) bq bq),Fact.is (·=.bool true),Fact.is (·=.bool true),Fact.is (·=.bool true),Fact.is (·=.agg D.toArray),Fact.is (·=bz (v,v) x x),Fact.is (·=.agg D.toArray),Fact.is (·=bz (v,v) x x),Fact.is (·=.bool true),Fact.is (·=.bool true),Fact.is (·=.bool true),Fact.is (·=.agg ([.bool s.nul,.bool s.fal,.bool s.tru,vi,vf,vt]:List Value).toArray),Fact.is (·=bz (sclV s,sclV s) ⟨vi,vf,vt,.slice none 0 0,.slice none 0 0⟩ ⟨vi,vf,vt,.slice none 0 0,.slice none 0 0⟩),Fact.is (·=.agg ([.bool s.nul,.bool s.fal,.bool s.tru,vi,vf,vt]:List Value).toArray),Fact.is (·=bz (sclV s,sclV s) ⟨vi,vf,vt,.slice none 0 0,.slice none 0 0⟩ ⟨vi,vf,vt,.slice none 0 0,.slice none 0 0⟩),Fact.is (·=.bool true),Fact.is (·=.bool true),Fact.is (·=.bool true),Fact.is (·=.bool true),Fact.is (·=.bool true)].getD j Fact.any) zk zk ?_ ?_
  ·intro i hi o win a wr ho RA;have HO2:=HO1.out.dr.move RA.below;have y3:=Mem.av HO2.inn C0;have y4:=Mem.av HO2.inn C1;rcases (show i=0∨i=1∨i=2∨i=3∨i=4∨i=5∨i=6∨i=7∨i=8∨i=9∨i=10∨i=11∨i=12∨i=13∨i=14∨i=15∨i=16∨i=17∨i=18∨i=19∨i=20∨i=21∨i=22∨i=23∨i=24 by omega) with rfl | rfl | rfl | rfl | rfl | rfl | rfl | rfl | rfl | rfl | rfl | rfl | rfl | rfl | rfl | rfl | rfl | rfl | rfl | rfl | rfl | rfl | rfl | rfl | rfl
   ·cases ho;refine we rfl rfl (lW wr) ?_;rintro e w' ⟨rfl,hb⟩;exact⟨_,rfl,_,rfl,hb,rfl⟩
   ·cases ho;refine we rfl rfl (qA wr) ?_;rintro e w' ⟨rfl,hb⟩;exact⟨_,rfl,_,rfl,hb,rfl⟩
   ·have e15:a.tmps.getD 15 undef=_:=RA.d 0 rfl;have e16:a.tmps.getD 16 undef=_:=RA.d 1 rfl;cases ho;refine we rfl rfl (@fI 1 (topV,topV) (topV,topV) bq bq bq bq m2 wr HO2.inn HLT.out.1 HLT.out.1 HLT.out.1 HLT.out.1 HLT.out.2 HLT.out.2) ?_;rintro e w' ⟨rfl,hb⟩;exact⟨_,rfl,_,rfl,hb,congrArg Value.bool (aI rfl)⟩
   ·have e17:a.tmps.getD 17 undef=_:=RA.d 2 rfl;cases ho;exact wv rfl rfl rfl
   ·have e18:a.tmps.getD 18 undef=_:=RA.d 3 rfl;cases ho;refine we2 rfl rfl rfl e18 (iI wr) ?_;rintro e w' ⟨rfl,hb⟩;exact⟨_,rfl,_,rfl,hb,rfl⟩
   ·have e18:a.tmps.getD 18 undef=_:=RA.d 3 rfl;have f18:=(Array.getD_eq_getD_getElem? (xs:=a.tmps) (i:=18) (d:=undef)).symm.trans e18;cases ho;exact wy rfl rfl rfl e18 rfl
   ·have e19:a.tmps.getD 19 undef=_:=RA.d 4 rfl;have e20:a.tmps.getD 20 undef=_:=RA.d 5 rfl;have e18:a.tmps.getD 18 undef=_:=RA.d 3 rfl;cases ho;refine we2 rfl rfl rfl e18 (@fI 1 (botV,botV) (botV,botV) bq bq bq bq m2 wr HO2.inn HLB.out.1 HLB.out.1 HLB.out.1 HLB.out.1 HLB.out.2 HLB.out.2) ?_;rintro e w' ⟨rfl,hb⟩;exact⟨_,rfl,_,rfl,hb,congrArg Value.bool (aI rfl)⟩
   ·have e18:a.tmps.getD 18 undef=_:=RA.d 3 rfl;have e21:a.tmps.getD 21 undef=_:=RA.d 6 rfl;cases ho;exact wv rfl rfl rfl
   ·have e22:a.tmps.getD 22 undef=_:=RA.d 7 rfl;cases ho;exact wv rfl rfl rfl
   ·have e2:=RA.k 2;have e23:a.tmps.getD 23 undef=_:=RA.d 8 rfl;cases ho;refine dn rfl (bQ rfl rfl e23) (aK (tyV.exec (b:=w.heap.size) (off:=0) rfl zg hl (fun j u hj=>by rw[Nat.zero_add];exact HC.out _ HO2.inn j u hj)) ⟨_,rfl,Below.refl _ _,rfl⟩)
   ·have e24:a.tmps.getD 24 undef=_:=RA.d 9 rfl;have e23:a.tmps.getD 23 undef=_:=RA.d 8 rfl;cases ho;refine we2 rfl rfl rfl e23 (HP.out wr HO2.inn) ?_;rintro e w' ⟨rfl,hb⟩;exact⟨_,rfl,_,rfl,hb,rfl⟩
   ·have e2:=RA.k 2;have e23:a.tmps.getD 23 undef=_:=RA.d 8 rfl;cases ho;refine dn rfl (bQ rfl rfl e23) (aK (tyV.exec (b:=w.heap.size) (off:=0) rfl zg hl (fun j u hj=>by rw[Nat.zero_add];exact HC.out _ HO2.inn j u hj)) ⟨_,rfl,Below.refl _ _,rfl⟩)
   ·have e26:a.tmps.getD 26 undef=_:=RA.d 11 rfl;have e23:a.tmps.getD 23 undef=_:=RA.d 8 rfl;cases ho;refine we2 rfl rfl rfl e23 (HP2.out wr HO2.inn) ?_;rintro e w' ⟨rfl,hb⟩;exact⟨_,rfl,_,rfl,hb,rfl⟩
   ·have e25:a.tmps.getD 25 undef=_:=RA.d 10 rfl;have e27:a.tmps.getD 27 undef=_:=RA.d 12 rfl;have e23:a.tmps.getD 23 undef=_:=RA.d 8 rfl;cases ho;refine we2 rfl rfl rfl e23 (@fI n (v,v) (v,v) x x x x m2 wr HO2.inn HV.out.1 HV.out.1 HV.out.1 HV.out.1 HV.out.2 HV.out.2) ?_;rintro e w' ⟨rfl,hb⟩;exact⟨_,rfl,_,rfl,hb,congrArg Value.bool (aI rfl)⟩
   ·have e23:a.tmps.getD 23 undef=_:=RA.d 8 rfl;have e28:a.tmps.getD 28 undef=_:=RA.d 13 rfl;cases ho;exact wv rfl rfl rfl
   ·have e29:a.tmps.getD 29 undef=_:=RA.d 14 rfl;cases ho;exact wv rfl rfl rfl
   ·have e3:=RA.k 3;have e30:a.tmps.getD 30 undef=_:=RA.d 15 rfl;cases ho;refine dn rfl (bQ rfl rfl e30) (aK (tyS.exec (b:=w.heap.size+1) (off:=0) rfl zg (cs:=[.bool s.nul,.bool s.fal,.bool s.tru,vi,vf,vt]) rfl (fun j u hj=>by rw[Nat.zero_add];exact HC2.out _ HO2.inn j u hj)) ⟨_,rfl,Below.refl _ _,rfl⟩)
   ·have e31:a.tmps.getD 31 undef=_:=RA.d 16 rfl;have e30:a.tmps.getD 30 undef=_:=RA.d 15 rfl;cases ho;refine we2 rfl rfl rfl e30 (xD s vi vf vt m2 wr HO2.inn HSC.out) ?_;rintro e w' ⟨rfl,hb⟩;exact⟨_,rfl,_,rfl,hb,rfl⟩
   ·have e3:=RA.k 3;have e30:a.tmps.getD 30 undef=_:=RA.d 15 rfl;cases ho;refine dn rfl (bQ rfl rfl e30) (aK (tyS.exec (b:=w.heap.size+1) (off:=0) rfl zg (cs:=[.bool s.nul,.bool s.fal,.bool s.tru,vi,vf,vt]) rfl (fun j u hj=>by rw[Nat.zero_add];exact HC2.out _ HO2.inn j u hj)) ⟨_,rfl,Below.refl _ _,rfl⟩)
   ·have e33:a.tmps.getD 33 undef=_:=RA.d 18 rfl;have e30:a.tmps.getD 30 undef=_:=RA.d 15 rfl;cases ho;refine we2 rfl rfl rfl e30 (xV s vi vf vt m2 wr HO2.inn HSC.out) ?_;rintro e w' ⟨rfl,hb⟩;exact⟨_,rfl,_,rfl,hb,rfl⟩
   ·have e32:a.tmps.getD 32 undef=_:=RA.d 17 rfl;have e34:a.tmps.getD 34 undef=_:=RA.d 19 rfl;have e30:a.tmps.getD 30 undef=_:=RA.d 15 rfl;cases ho;refine we2 rfl rfl rfl e30 (@fI 1 (sclV s,sclV s) (sclV s,sclV s) ⟨vi,vf,vt,.slice none 0 0,.slice none 0 0⟩ ⟨vi,vf,vt,.slice none 0 0,.slice none 0 0⟩ ⟨vi,vf,vt,.slice none 0 0,.slice none 0 0⟩ ⟨vi,vf,vt,.slice none 0 0,.slice none 0 0⟩ m2 wr HO2.inn HV1.out.1 HV1.out.1 HV1.out.1 HV1.out.1 HV1.out.2 HV1.out.2) ?_;rintro e w' ⟨rfl,hb⟩;exact⟨_,rfl,_,rfl,hb,congrArg Value.bool (aI rfl)⟩
   ·have e30:a.tmps.getD 30 undef=_:=RA.d 15 rfl;have e35:a.tmps.getD 35 undef=_:=RA.d 20 rfl;cases ho;exact wv rfl rfl rfl
   ·have e36:a.tmps.getD 36 undef=_:=RA.d 21 rfl;cases ho;exact wv rfl rfl rfl
   ·have e37:a.tmps.getD 37 undef=_:=RA.d 22 rfl;cases ho;refine we2 rfl rfl rfl e37 (bv m2 wr HO2.inn HT.out) ?_;rintro e w' ⟨rfl,hb⟩;exact⟨_,rfl,_,rfl,hb,rfl⟩
   ·have e37:a.tmps.getD 37 undef=_:=RA.d 22 rfl;have e38:a.tmps.getD 38 undef=_:=RA.d 23 rfl;cases ho;exact wv rfl rfl rfl
  ·intro win a wr E;have e39:a.tmps.getD 39 undef=.bool true:=E.fact 24 _ zo rfl;have hZ:=HO1.out.dr.move E.below;obtain⟨t1,dd⟩:=a;obtain rfl:dd=[]:=E.defers;refine jB 25 zk (aO rfl rfl (aK (by go_simp;first | done | exact⟨rfl,rfl⟩ | rfl) ?_));refine di zk (hY.out _ _ (by simpa using E.size) ⟨?_,hZ⟩) _;have hsz:t1.size=40:=E.size;simp[hsz] at e39;simp[hsz]
 rintro z vs w2 - ⟨rfl,hO⟩;simp[litL,lk];have HB:=zh hO.below;clear hO HO1 HT HC HC2 HS HS2 HP HP2 HV HV1 HLT HLB HSC;go_wp2;exact hR.out _ _ ⟨rfl,HB.out⟩
end Cl
