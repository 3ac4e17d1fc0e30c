/- The law's walk. -/
import Derived.Test.YtdgjplfcpcphoaaGreatDoorProg
import Derived.BigQuiet
import Derived.Deep.Cut
import Derived.Deep.QuietTactic
import Derived.Laws.StructEq
import Derived.Lib.AppendStr
import Derived.Lib.Builder
import Derived.Lib.Hide
import Derived.Lib.ItoaLen
import Derived.Maps.OwnOps
import Derived.Maps.OwnSet
import Derived.OrdersHeld
import Derived.Outline
import Derived.StillTailTactics
import Derived.StringKeys
import Derived.WalkKit
import Derived.WalkLawsBesides
import Derived.WalkSpells
import Derived.Deep.RegionHeld
import Derived.RangeFuncNested
import Derived.RangeFuncBound
import Derived.RangeFuncCalls
import Derived.RangeFuncLeaves
import Derived.OwnWalkIn
import Derived.TacticsInMore
import Derived.LoopNIn
import Derived.LoopIn
import Derived.Shelf.SlSortCmp.WholeK
import Derived.Laws.EntriesVeiled
import Derived.Laws.CopyOwn
import Derived.RegionTactic
import Derived.Shelf.Strings.Builder1
import Derived.Shelf.Small.Wraps
import Derived.Shelf.LaysM
import Derived.Shelf.Strconv.Itoa3
import Derived.Shelf.Spec.SlicesGrow
import Derived.ChangeAlike
import Derived.Laws.BytesArg
import Derived.Laws.CopyRow
import Derived.Laws.Tables
import Derived.BigFrame
import Derived.Shelf.Strconv.AppendIntPublic10
import Derived.WalkMore
import Derived.Test.YtdgjplfcpcphoaaGreatDoorRows
import Derived.Deep.Slices
import Derived.Lib.SmallJoins
import Derived.ChangeMaps5
import Derived.Carry
import Derived.KernelRfl
import Derived.ChangeArms
import Derived.Test.YtdgjplfcpcphoaaGreatDoorCards
import Derived.Test.YtdgjplfcpcphoaaGreatDoorTie
import Derived.ProofKit
import Derived.OpenShut
import Derived.Deep.DeepHandedRow
import Derived.Lib.LaidTab
import Derived.Stop.LaidErr
import Derived.Test.YtdgjplfcpcphoaaGreatDoorZz
import Derived.Test.YtdgjplfcpcphoaaGreatDoorPkV1
import Derived.Test.YtdgjplfcpcphoaaGreatDoorPkV2
import Derived.Test.YtdgjplfcpcphoaaGreatDoorPkV4
import Derived.Test.YtdgjplfcpcphoaaGreatDoorPkV3
import Derived.Test.YtdgjplfcpcphoaaGreatDoorPkV5
import Derived.Test.YtdgjplfcpcphoaaGreatDoorPkV7
import Derived.Test.YtdgjplfcpcphoaaGreatDoorPkV8
import Derived.Test.YtdgjplfcpcphoaaGreatDoorPkV10
import Derived.Test.YtdgjplfcpcphoaaGreatDoorPkV9
import Derived.Test.YtdgjplfcpcphoaaGreatDoorPkV6
import Derived.Test.YtdgjplfcpcphoaaGreatDoorPkV11
import Derived.Test.YtdgjplfcpcphoaaGreatDoorPkV13
import Derived.Test.YtdgjplfcpcphoaaGreatDoorPkV12
import Derived.Test.YtdgjplfcpcphoaaGreatDoorPkV14
import Derived.Test.YtdgjplfcpcphoaaGreatDoorPkV15
import Derived.Test.YtdgjplfcpcphoaaGreatDoorPkV17
import Derived.Test.YtdgjplfcpcphoaaGreatDoorPkV16
import Derived.Test.YtdgjplfcpcphoaaGreatDoorPkV18
import Derived.Test.YtdgjplfcpcphoaaGreatDoorPkV19
import Derived.Test.YtdgjplfcpcphoaaGreatDoorPkV20
import Derived.Test.YtdgjplfcpcphoaaGreatDoorPkV21
import Derived.Test.YtdgjplfcpcphoaaGreatDoorPkV30
import Derived.Test.YtdgjplfcpcphoaaGreatDoorPkV22
import Derived.Test.YtdgjplfcpcphoaaGreatDoorPkV23
import Derived.Test.YtdgjplfcpcphoaaGreatDoorPkV29
set_option maxRecDepth 100000
set_option maxHeartbeats 16000000
namespace Cl
theorem CB (s:RS):(iE s).fK:=by
 unfold iE
 split
 ·rename_i h;exact vC.1 h
 ·exact gz
end Cl
namespace Cl
open Go Go.RowKit Go.Proofs
theorem zA (vi vf:Value) (I F:List Spn) (m:Mem) (w:World) (hm:m.inn w) (h1:eu m vi vf I F) (hI:I.length≤100000) (hF:F.length≤100000) :
 Calls Tryz.prog 66 #[.agg #[vi,vf]] w fun e w'=>e=.returned (.bool (tf (mkN I F=lm)))∧Below w.heap.size w w':=by
 have hO:=(Own.start hm).al #[vi,vf] 24;have HM:=zh (sI _ _ I F m _ hO.inn h1 hI hF);obtain⟨a1,c1,b1,d1,rfl,rfl⟩:=h1.spell;have HO:=zh hO;clear hO h1;have HE:=zh (show mkN I F=lm↔(mkN I F).i.length=0∧(mkN I F).rf.length=0 from ⟨fun h=>by rw[h];exact⟨rfl,rfl⟩,fun ⟨h1,h2⟩=>by
  rw[NS.Mg] at h2;have e1:=List.eq_nil_of_length_eq_zero h1;have e2:=List.eq_nil_of_length_eq_zero h2;generalize mkN I F=x at *
  obtain⟨i,f⟩:=x;simp only at e1 e2;rw[e1,e2];rfl⟩)
 generalize mkN I F=x at *
 refine av fun R hR=>?_
 go_enter Tryz.func66,Tryz.ntmps66
 go_wp2_with fail
 refine HM.out.mono ?_;rintro e w1 ⟨ri,rf,rfl,hb1,hr1⟩;obtain⟨xa,xc,ya,yc,rfl,rfl⟩:=hr1.spell;have HB:=zh (((HO.out.move hb1).al #[.slice xa x.i.length xc,.slice ya x.rf.length yc] 24).below);clear HM HO hb1 hr1;by_cases e1:x.i.length=0
 ·have E1:=zh e1;have hd1:((x.i.length:Int)==0)=true:=beq_iff_eq.2 zo;clear e1;by_cases e2:x.rf.length=0
  ·have E2:=zh e2;have hd2:((x.rf.length:Int)==0)=true:=beq_iff_eq.2 zo;clear e2;go_wp2;exact hR.out _ _ ⟨aJ (by rw[aH (HE.out.2 ⟨E1.out,E2.out⟩)]),HB.out⟩
  ·have E2:=zh e2;have hd:((x.rf.length:Int)==0)=false:=beq_eq_false_iff_ne.2 (fun h=>e2 zo);clear e2;go_wp2;exact hR.out _ _ ⟨aJ (by rw[az (fun h=>E2.out (HE.out.1 h).2)]),HB.out⟩
 ·have E1:=zh e1;have hd:((x.i.length:Int)==0)=false:=beq_eq_false_iff_ne.2 (fun h=>e1 zo);clear e1;go_wp2;exact hR.out _ _ ⟨aJ (by rw[az (fun h=>E1.out (HE.out.1 h).1)]),HB.out⟩
theorem uL (vi vf vt:Value) (s:RS) (m:Mem) (w:World) (hm:m.inn w) (htab:TabM m) (hs:ScAt m vi vf vt s) (hl:ScLe s 100000 1000000) :
 Calls Tryz.prog 65 #[s.val vi vf vt] w fun e w'=>∃ui uf ut,e=.returned ((iE s).val ui uf ut)∧Below w.heap.size w w'∧ScAt (m.grow w w') ui uf ut (iE s):=by
 have hO:=((Own.start hm).al #[.bool s.nul,.bool s.fal,.bool s.tru,vi,vf,vt] 29).al #[.bool false,.bool false,.bool false,.slice none 0 0,.slice none 0 0,.slice none 0 0] 29;simp only[cz] at hO;have HV:=zh (kW vi vf vt s m _ hO.inn htab hs hl);have HG:=zh (zi (fun h:s.fK=>xJ h) (fun h:¬ s.fK=>tK h));have HS:=zh hs;obtain⟨a1,b1,a2,b2,a3,b3,rfl,rfl,rfl⟩:=hs.spell;unfold RS.val at HV ⊢;have HO:=zh hO;clear hO hs;refine av fun R hR=>?_
 go_enter Tryz.func65,Tryz.ntmps65
 go_wp2_with fail
 refine HV.out.mono ?_;rintro e w1 ⟨rfl,hb1⟩;have hO:=HO.out.move hb1;clear HV HO hb1;obtain⟨g0,g1,g2,g3,g4,g5,f0,f1,f2,f3,f4,f5⟩:=hO.obj.cf6;have gl:=hO.obj.lt;by_cases hv:s.fK
 ·rw[aH hv];obtain⟨q0,q1,q2,q3,q4,q5⟩:=hO.swap.obj.cs6;have ql:=hO.swap.obj.lt;have hO2:=(((((hO.set 0 (.bool s.nul)).set 1 (.bool s.fal)).set 2 (.bool s.tru)).set 3 (.slice a1 s.i.length b1)).set 4 (.slice a2 s.f.length b2)).set 5 (.slice a3 s.t.length b3);obtain⟨k0,k1,k2,k3,k4,k5⟩:=hO2.obj.cs6;have Hk:=zh (zi hO2.below (zi (HS.out.le hO2.done) (HG.out.1 hv)));clear hO hO2 HG hv;go_wp2;refine bodyPost_ret (v:=.agg #[.bool s.nul,.bool s.fal,.bool s.tru,.slice a1 s.i.length b1,.slice a2 s.f.length b2,.slice a3 s.t.length b3]) (by simp[results,Tryz.results65,go_sem,k0,k1,k2,k3,k4,k5]) rfl ?_;exact hR.out _ _ ⟨_,_,_,by rw[Hk.out.2.2],Hk.out.1,by rw[Hk.out.2.2];exact Hk.out.2.1⟩
 ·rw[az hv];have hO2:=(((((hO.set 0 (.bool false)).set 1 (.bool false)).set 2 (.bool false)).set 3 (.slice none 0 0)).set 4 (.slice none 0 0)).set 5 (.slice none 0 0);obtain⟨k0,k1,k2,k3,k4,k5⟩:=hO2.obj.cs6;have Hk:=zh (zi hO2.below (HG.out.2 hv));clear hO hO2 HG hv;go_wp2;refine bodyPost_ret (v:=.agg #[.bool false,.bool false,.bool false,.slice none 0 0,.slice none 0 0,.slice none 0 0]) (by simp[results,Tryz.results65,go_sem,k0,k1,k2,k3,k4,k5]) rfl ?_;exact hR.out _ _ ⟨_,_,_,by rw[Hk.out.2];rfl,Hk.out.1,by rw[Hk.out.2];exact ScAt.empty _⟩
theorem xx (n:Nat):((n:Int)==0)=decide (n=0):=by
 rw[Bool.eq_iff_iff,beq_iff_eq,decide_eq_true_eq];omega
theorem CV (x:RS) (hx:x.fK):tf (∀e,¬ x.has e)=(!x.nul && !x.fal && !x.tru&&tf (x.ns=lm)&&decide (x.t.length=0)):=by
 rw[Bool.eq_iff_iff];simp only[Bool.and_eq_true,Bool.not_eq_true',decide_eq_true_eq,vC];constructor
 ·intro h;have h1:=h .nul;have h2:=h .fal;have h3:=h .tru;simp only[RS.has,Bool.not_eq_true] at h1 h2 h3;refine ⟨⟨⟨⟨h1,h2⟩,h3⟩,Mi x.M0 Az fun u=>⟨fun hu=>absurd hu (h (.num u)),fun hu=>absurd hu (l6 u)⟩⟩,?_⟩;have:x.t=[]:=qH hx.ct iq fun z=>by
   have hz:=h (.str z);simp only[RS.has,Bool.not_eq_true,kS hx.ct] at hz;rw[hz,gZ]
  rw[this];rfl
 ·rintro ⟨⟨⟨⟨h1,h2⟩,h3⟩,h4⟩,h5⟩ e;have h5':=List.eq_nil_of_length_eq_zero h5
  cases e with
  | nul=>simp[RS.has,h1]
  | fal=>simp[RS.has,h2]
  | tru=>simp[RS.has,h3]
  | num u=>simp only[RS.has,h4];exact l6 u
  | str z=>simp only[RS.has,h5',kS iq,gZ];simp
theorem zw (vi vf vt:Value) (s:RS) (m:Mem) (w:World) (hm:m.inn w) (htab:TabM m) (hs:ScAt m vi vf vt s) (hl:ScLe s 30000 100000) :
 Calls Tryz.prog 46 #[s.val vi vf vt] w fun e w'=>e=.returned (.bool (gB s))∧Below w.heap.size w w':=by
 have hO:=(Own.start hm).al #[.bool s.nul,.bool s.fal,.bool s.tru,vi,vf,vt] 29;have HG:=zh (uL vi vf vt s m _ hO.inn htab hs (hl.mono zo zo));have HE:=zh (show gB s=(!(iE s).nul && !(iE s).fal && !(iE s).tru&&tf ((iE s).ns=lm)&&decide ((iE s).t.length=0)) from CV _ (CB s));have lx:=Ei hl;obtain⟨a1,b1,a2,b2,a3,b3,rfl,rfl,rfl⟩:=hs.spell;unfold RS.val at HG ⊢;have HO:=zh hO;clear hO hs hl;generalize gB s=EB at *
 generalize iE s=x at *
 have hli:=lx.i;have hlf:=lx.f;have hlt:=lx.t;clear lx;refine av fun R hR=>?_
 go_enter Tryz.func46,Tryz.ntmps46
 go_wp2_with fail
 refine HG.out.mono ?_;rintro e w1 ⟨ri,rf,rt,rfl,hb1,hx⟩;have hO1:=HO.out.call hb1;obtain⟨ra,rb,rc,rd,re,rf',rfl,rfl,rfl⟩:=hx.spell;have hO2:=hO1.al #[.bool x.nul,.bool x.fal,.bool x.tru,.slice ra x.i.length rb,.slice rc x.f.length rd,.slice re x.t.length rf'] 29;have HN:=zh (zA _ _ x.i x.f _ _ hO2.inn hx.nums zo zo);have hns:tf (mkN x.i x.f=lm)=tf (x.ns=lm):=rfl;rw[hns] at HN;have HO2:=zh hO2;generalize hnE:tf (x.ns=lm)=bE at *
 generalize hnT:decide (x.t.length=0)=bT at *
 have HT:=zh (show ((x.t.length:Int)==0)=bT by rw[← hnT,xx]);generalize x.nul=bn at *
 generalize x.fal=bf at *
 generalize x.tru=bt at *
 clear hO1 hO2 HG HO hb1 hx hns hnE hnT
 cases bn with
 | true=>
  have HE2:=zh (show EB=false by rw[HE.out];simp);have HB:=zh HO2.out.below;clear HN HO2 HE HT;go_wp2
  exact hR.out _ _ ⟨aJ (by rw[HE2.out]),HB.out⟩
 | false=>
  cases bf with
  | true=>
   have HE2:=zh (show EB=false by rw[HE.out];simp);have HB:=zh HO2.out.below;clear HN HO2 HE HT;go_wp2
   exact hR.out _ _ ⟨aJ (by rw[HE2.out]),HB.out⟩
  | false=>
   cases bt with
   | true=>
    have HE2:=zh (show EB=false by rw[HE.out];simp);have HB:=zh HO2.out.below;clear HN HO2 HE HT;go_wp2
    exact hR.out _ _ ⟨aJ (by rw[HE2.out]),HB.out⟩
   | false=>
    go_wp2_with fail
    refine HN.out.mono ?_;rintro e w2 ⟨rfl,hb2⟩;have hO:=HO2.out.move hb2;have q5:=hO.obj.cell (i:=5) rfl;have q6:=hO.obj.lt;have HB:=zh hO.below;clear HN HO2 hb2 hO
    cases bE with
    | false=>
     have HE2:=zh (show EB=false by rw[HE.out];simp);clear HE HT;go_wp2
     exact hR.out _ _ ⟨aJ (by rw[HE2.out]),HB.out⟩
    | true=>
     have HE2:=zh (show EB=bT by rw[HE.out];simp);have ht2:=HT.out;clear HE HT;generalize x.t.length=lt at *
     go_wp2;exact hR.out _ _ ⟨aJ (by rw[HE2.out,← ht2]),HB.out⟩
theorem Gw {s:RS} (h:¬ s.fK):gB s=true:=by unfold gB;rw[tK h];exact aH fun e h=>(Ay.mem e).1 h
theorem Fx {s:RS} (h:¬ s.fK):gB s=true:=Gw h
theorem sH (v:Vl) (x:Sl) (m:Mem) (n:Nat) (w:World) (hm:m.inn w) (htab:TabM m) (hv:VAt m n x v) (hl:ScLe v.s 30000 100000) (_:v.lists.length≤1000000) (_:v.structs.length≤1000000) :
 Calls Tryz.prog 17 #[v.val x] w fun e w'=>e=.returned (.bool (qO v))∧Below w.heap.size w w':=by
 have hO:=(Own.start hm).al (nine v x).toArray 33;have hs:=hv.sc;have HN:=zh (kW x.i x.f x.t v.s m _ hO.inn htab hs (hl.mono zo zo));have HS:=zh (hO.obj.sub (kZ v x));have HE:=zh (fun w' (h:Below (w.alloc (.cells (nine v x).toArray 33)).heap.size (w.alloc (.cells (nine v x).toArray 33)) w')=>zw x.i x.f x.t v.s m w' (hO.move h).inn htab hs hl);have HB:=zh hO.below;have HO:=zh hO;obtain⟨a1,b1,a2,b2,a3,b3,a4,b4,a5,b5,rfl,-⟩:=hv.spell;have c0:=hO.obj.cell (i:=0) (v:=.bool v.any) rfl;have c7:=hO.obj.cell (i:=7) (v:=.slice a4 v.lists.length b4) rfl;have c8:=hO.obj.cell (i:=8) (v:=.slice a5 v.structs.length b5) rfl;have HI:=zh (show qO v=(!v.any&&decide (v.lists.length=0)&&decide (v.structs.length=0)&&gB v.s) from rfl);have HV:=zh (@Fx v.s);have gl:=hO.obj.lt;unfold Vl.val;clear hO hs hv;generalize (nine v _).toArray=N at *
 generalize v.lists.length=l4 at *
 generalize v.structs.length=l5 at *
 generalize v.any=p at *
 generalize qO v=IB at *
 refine av fun R hR=>?_;have key:∀(eb:Bool),gB v.s=eb→((!false&&eb&&((l4:Int)==0))&&((l5:Int)==0))=(!false&&decide (l4=0)&&decide (l5=0)&&gB v.s):=fun eb h=>by
  rw[h,xx,xx];cases eb <;> simp
 have HK:=zh key;clear key
 cases p with
 | true=>
  go_enter Tryz.func17,Tryz.ntmps17
  go_wp2
  exact hR.out _ _ ⟨by rw[HI.out];rfl,HB.out⟩
 | false=>
  go_enter Tryz.func17,Tryz.ntmps17
  go_wp2_with (refine ae tyS rfl (.tmp 7) rfl rfl _ rfl HS.out ?_)
  refine HN.out.mono ?_;rintro e w1 ⟨rfl,hb1⟩;have HE1:=zh (HE.out w1 hb1);have HS1:=zh (fun j u hj=>(dW hb1 gl (HS.out j u hj):w1.cell? _=_));have d7:=dW hb1 gl c7;have d8:=dW hb1 gl c8;have HB1:=zh (bM HB.out hb1);by_cases hva:v.s.fK
  ·rw[aH hva];have HO:=zh (HO.out.move hb1);clear HE HN HS hb1 HB hva HV c0 c7 c8
   go_wp2_with (refine ae tyS rfl (.tmp 12) rfl rfl _ rfl HS1.out ?_)
   refine HE1.out.mono ?_;rintro e w2 ⟨rfl,hb2⟩;have gl1:=(Array.getElem?_eq_some_iff.1 HO.out.obj.get).1;have c7:=dW hb2 gl1 d7;have c8:=dW hb2 gl1 d8;have HB2:=zh (bM HB1.out hb2);have HK2:=zh (HI.out.trans (HK.out _ rfl).symm);generalize gB v.s=eb at *
   clear HK HI HS1 HE1 HB1 d7 d8 hb2 gl gl1 HO;by_cases e4:l4=0
   ·subst e4;cases eb
    all_goals
     go_wp2;exact hR.out _ _ ⟨by rw[HK2.out];rfl,HB2.out⟩
   ·have e4':((l4:Int)==0)=false:=beq_eq_false_iff_ne.2 zo;have HK3:=zh (HK2.out.trans (by rw[e4'];cases eb <;> rfl:_=false));cases eb
    all_goals
     go_wp2;exact hR.out _ _ ⟨by rw[HK3.out];rfl,HB2.out⟩
  ·have HK2:=zh (HI.out.trans (HK.out true (HV.out hva)).symm);rw[az hva];clear HE HN HE1 HS HS1 HI HK hb1 HB HV hva c0 c7 c8;by_cases e4:l4=0
   ·subst e4;go_wp2;exact hR.out _ _ ⟨by rw[HK2.out];rfl,HB1.out⟩
   ·have e4':((l4:Int)==0)=false:=beq_eq_false_iff_ne.2 zo;have HK3:=zh (HK2.out.trans (by rw[e4'];rfl:_=false));go_wp2;exact hR.out _ _ ⟨by rw[HK3.out];rfl,HB1.out⟩
theorem pV {n:Nat} {v:Vl} (h:FewV n v):ScLe v.s 30000 100000∧v.lists.length≤1000000∧v.structs.length≤1000000:=by
 cases n with
 | zero=>exact h.elim
 | succ n=>exact⟨⟨by have:=h.1.sc.1;omega,by have:=h.1.sc.2.1;omega,by have:=h.1.sc.2.2.2;omega⟩,by have:=h.1.l;omega,by have:=h.1.s;omega⟩
theorem uV (d:Vd) (x y:Sl) (m:Mem) (n:Nat) (w:World) (hm:m.inn w) (htab:TabM m) (h1:VAt m n x d.1) (h2:VAt m n y d.2) (t1:vcnt n d.1≤1048576) (t2:vcnt n d.2≤1048576) :
 Calls Tryz.prog 3 #[cZ d x y] w fun e w'=>e=.returned (.bool true)∧Below w.heap.size w w':=by
 obtain⟨m1,l1,c1,hO⟩:=kg 35 (dcs d x y).toArray (Own.start hm);have HT:=zh (htab.le l1);have HS:=zh (kV n d x y m1 _ hO.inn (h1.le l1) (h2.le l1) t1 t2);have HC:=zh (fun (w':World) (h:m1.inn w') j u (hj:(dcs d x y)[j]?=some u)=>Mem.aj h (c1 j u (by simpa using hj)));have HD:=zh (zi (fun j u=>@lw d x y j u) (fun j u=>@lu d x y j u));have C0:m1.cell w.heap.size 0=some (.bool d.1.any):=c1 0 _ rfl;have C9:m1.cell w.heap.size 9=some (.bool d.2.any):=c1 9 _ rfl;have hl:(dcs d x y).length=18:=rfl;have hN:(nine d.1 x).length=9:=rfl;have HV1:=zh (h1.le l1);have HV2:=zh (h2.le l1);have HIT:=zh (fun w'=>jd d x y w');have HB1:=zh (fun (w':World) (h:m1.inn w') (f:FewV n d.1)=>kN d.1 x m1 n w' h HT.out HV1.out (pV f).1 (pV f).2.1 (pV f).2.2);have HB2:=zh (fun (w':World) (h:m1.inn w') (f:FewV n d.1)=>sH d.1 x m1 n w' h HT.out HV1.out (pV f).1 (pV f).2.1 (pV f).2.2);have HO:=zh hO;unfold cZ at *
 generalize dcs d x y=D at *
 unfold Vl.val at *
 generalize nine d.1 x=N at *
 clear hO htab h1 h2 l1 c1;refine av fun R hR=>?_
 go_enter Tryz.func3,Tryz.ntmps3
 have q0:∀j u,D[j]?=some u→World.cell? _ ⟨w.heap.size,0+j,none⟩=some u:=fun j u hj=>by rw[Nat.zero_add];exact HC.out _ HO.out.inn j u hj
 have HQ:=zh q0;clear q0
 go_wp2_with (refine ae tyD rfl (.tmp 1) rfl rfl D hl HQ.out ?_)
 refine HS.out.mono ?_;rintro e w1 ⟨rfl,hb1⟩;have HO1:=zh (HO.out.move hb1);clear HO HS HQ hb1;by_cases hsm:fP n d.1=true∧fP n d.2=true
 case neg=>
  have hb:(fP n d.1&&fP n d.2)=false:=by
   cases a:fP n d.1 <;> cases b:fP n d.2 <;> simp[a,b] at hsm ⊢
  rw[hb];clear hsm hb
  go_wp2_with fail
  refine (dZ m1 _ HO1.out.inn HT.out).mono ?_;rintro e w2 ⟨rfl,hb2⟩;have HB:=zh (HO1.out.move hb2).below;clear HO1 hb2;go_wp2;exact hR.out _ _ ⟨rfl,HB.out⟩
 rw[hsm.1,hsm.2];have HF:=zh (zi (kQ hsm.1).few (kQ hsm.2).few);clear hsm
 go_upto_region 3 with (fail)
 refine aR [2] (fun vs w'=>vs=[.bool true]∧Own w m w' m1 []) ?_ ?_
 ·intro Y hY;cases hany:d.1.any
  all_goals rw[hany] at C0
  ·
   refine bv 23 6 (fun j=>[Fact.is (·=.agg D.toArray),Fact.is (·=.bool false),Fact.is (·=.pointer (some ⟨w.heap.size,0,none⟩)),Fact.is (·=.pointer (some ⟨w.heap.size,0,none⟩)),Fact.is (·=.bool false),Fact.is (·=.bool false),Fact.is (·=Go.undef),Fact.is (·=Go.undef),Fact.is (·=Go.undef),Fact.is (·=.bool false),Fact.is (·=.bool true),Fact.is (·=.bool true),Fact.is (·=.pointer (some ⟨w.heap.size,0,none⟩)),Fact.is (·=.agg N.toArray),Fact.is (·=.bool (qO d.1)),Fact.is (·=.pointer (some ⟨w.heap.size,0,none⟩)),Fact.is (·=.agg N.toArray),Fact.is (·=.bool (qO d.1)),Fact.is (·=.bool true),Fact.is (·=.bool true),Fact.is (·=.bool true),Fact.is (·=.bool true),Fact.is (·=.bool true)].getD j Fact.any) zk zk ?_ ?_
   ·intro i hi o win a wr ho RA;have HO2:=HO1.out.dr.move RA.below;have y1:=Mem.aj HO2.inn C0;have y2:=Mem.aj HO2.inn C9;have y3:=Mem.ay HO2.inn C0;rcases (show i=0∨i=1∨i=2∨i=3∨i=4∨i=5∨i=6∨i=7∨i=8∨i=9∨i=10∨i=11∨i=12∨i=13∨i=14∨i=15∨i=16∨i=17∨i=18∨i=19∨i=20∨i=21∨i=22 by omega) with rfl | rfl | rfl | rfl | rfl | rfl | rfl | rfl | rfl | rfl | rfl | rfl | rfl | rfl | rfl | rfl | rfl | rfl | rfl | rfl | rfl | rfl | rfl
    ·have e1:=RA.k 1;cases ho;refine aP rfl rfl (aM (tyD.exec (b:=w.heap.size) (off:=0) rfl zg hl (fun j u hj=>by rw[Nat.zero_add];exact HC.out _ HO2.inn j u hj)) ⟨_,rfl,Below.refl _ _,rfl⟩)
    ·have e7:a.tmps.getD 7 undef=_:=RA.d 0 rfl;cases ho;refine we rfl rfl (HIT.out wr) ?_;rintro e w' ⟨rfl,hb⟩;exact⟨_,rfl,_,rfl,hb,by rw[hany];rfl⟩
    ·have e1:=RA.k 1;cases ho;exact wv rfl rfl rfl
    ·have e9:a.tmps.getD 9 undef=_:=RA.d 2 rfl;cases ho;exact wv rfl rfl rfl
    ·have e10:a.tmps.getD 10 undef=_:=RA.d 3 rfl;cases ho;exact wv rfl rfl rfl
    ·have e11:a.tmps.getD 11 undef=_:=RA.d 4 rfl;cases ho;exact wv rfl rfl rfl
    ·have e1:=RA.k 1;have e12:a.tmps.getD 12 undef=_:=RA.d 5 rfl;cases ho;exact wn rfl rfl rfl e12 rfl rfl
    ·have e13:a.tmps.getD 13 undef=_:=RA.d 6 rfl;have e12:a.tmps.getD 12 undef=_:=RA.d 5 rfl;cases ho;exact wn rfl rfl rfl e12 rfl rfl
    ·have e14:a.tmps.getD 14 undef=_:=RA.d 7 rfl;have e12:a.tmps.getD 12 undef=_:=RA.d 5 rfl;cases ho;exact wn rfl rfl rfl e12 rfl rfl
    ·have e12:a.tmps.getD 12 undef=_:=RA.d 5 rfl;have e15:a.tmps.getD 15 undef=_:=RA.d 8 rfl;cases ho;exact wv rfl rfl rfl
    ·have e8:a.tmps.getD 8 undef=_:=RA.d 1 rfl;have e16:a.tmps.getD 16 undef=_:=RA.d 9 rfl;cases ho;exact wv rfl rfl rfl
    ·have e17:a.tmps.getD 17 undef=_:=RA.d 10 rfl;cases ho;exact wv rfl rfl rfl
    ·have e1:=RA.k 1;have e18:a.tmps.getD 18 undef=_:=RA.d 11 rfl;cases ho;exact wy rfl rfl rfl e18 rfl
    ·have e19:a.tmps.getD 19 undef=_:=RA.d 12 rfl;have e18:a.tmps.getD 18 undef=_:=RA.d 11 rfl;cases ho;refine dx rfl (bS rfl rfl e18) (aM (tyV.exec (b:=w.heap.size) (off:=0) rfl zg hN (fun j u hj=>by rw[Nat.zero_add];exact HC.out _ HO2.inn j u (by simpa using HD.out.1 j u hj))) ⟨_,rfl,Below.refl _ _,rfl⟩)
    ·have e20:a.tmps.getD 20 undef=_:=RA.d 13 rfl;have e18:a.tmps.getD 18 undef=_:=RA.d 11 rfl;cases ho;refine we2 rfl rfl rfl e18 (HB1.out wr HO2.inn HF.out.1) ?_;rintro e w' ⟨rfl,hb⟩;exact⟨_,rfl,_,rfl,hb,rfl⟩
    ·have e1:=RA.k 1;have e18:a.tmps.getD 18 undef=_:=RA.d 11 rfl;cases ho;exact wy rfl rfl rfl e18 rfl
    ·have e22:a.tmps.getD 22 undef=_:=RA.d 15 rfl;have e18:a.tmps.getD 18 undef=_:=RA.d 11 rfl;cases ho;refine dx rfl (bS rfl rfl e18) (aM (tyV.exec (b:=w.heap.size) (off:=0) rfl zg hN (fun j u hj=>by rw[Nat.zero_add];exact HC.out _ HO2.inn j u (by simpa using HD.out.1 j u hj))) ⟨_,rfl,Below.refl _ _,rfl⟩)
    ·have e23:a.tmps.getD 23 undef=_:=RA.d 16 rfl;have e18:a.tmps.getD 18 undef=_:=RA.d 11 rfl;cases ho;refine we2 rfl rfl rfl e18 (HB2.out wr HO2.inn HF.out.1) ?_;rintro e w' ⟨rfl,hb⟩;exact⟨_,rfl,_,rfl,hb,rfl⟩
    ·have e21:a.tmps.getD 21 undef=_:=RA.d 14 rfl;have e24:a.tmps.getD 24 undef=_:=RA.d 17 rfl;have e18:a.tmps.getD 18 undef=_:=RA.d 11 rfl;cases ho;exact wy rfl rfl rfl e18 rfl
    ·have e18:a.tmps.getD 18 undef=_:=RA.d 11 rfl;have e25:a.tmps.getD 25 undef=_:=RA.d 18 rfl;cases ho;exact wv rfl rfl rfl
    ·have e26:a.tmps.getD 26 undef=_:=RA.d 19 rfl;cases ho;exact wv rfl rfl rfl
    ·have e27:a.tmps.getD 27 undef=_:=RA.d 20 rfl;cases ho;refine we2 rfl rfl rfl e27 (dZ m1 wr HO2.inn HT.out) ?_;rintro e w' ⟨rfl,hb⟩;exact⟨_,rfl,_,rfl,hb,rfl⟩
    ·have e27:a.tmps.getD 27 undef=_:=RA.d 20 rfl;have e28:a.tmps.getD 28 undef=_:=RA.d 21 rfl;cases ho;exact wv rfl rfl rfl
   ·intro win a wr E;have e29:a.tmps.getD 29 undef=.bool true:=E.fact 22 _ zo rfl;have hZ:=HO1.out.dr.move E.below;obtain⟨t1,dd⟩:=a;obtain rfl:dd=[]:=E.defers;refine il 23 zk (aP rfl rfl (aM (by go_simp;first | done | exact⟨rfl,rfl⟩ | rfl) ?_));refine dH zk (hY.out _ _ (by simpa using E.size) ⟨?_,hZ⟩) _;have hsz:t1.size=30:=E.size;simp[hsz] at e29;simp[hsz]
  ·
   refine bv 23 6 (fun j=>[Fact.is (·=.agg D.toArray),Fact.is (·=.bool d.2.any),Fact.is (·=.pointer (some ⟨w.heap.size,0,none⟩)),Fact.is (·=.pointer (some ⟨w.heap.size,0,none⟩)),Fact.is (·=.bool true),Fact.is (·=.bool true),Fact.is (·=.pointer (some ⟨w.heap.size,9,none⟩)),Fact.is (·=.pointer (some ⟨w.heap.size,9,none⟩)),Fact.is (·=.bool d.2.any),Fact.is (·=.bool d.2.any),Fact.is (·=.bool true),Fact.is (·=.bool true),Fact.is (·=.pointer (some ⟨w.heap.size,0,none⟩)),Fact.is (·=.agg N.toArray),Fact.is (·=.bool (qO d.1)),Fact.is (·=.pointer (some ⟨w.heap.size,0,none⟩)),Fact.is (·=.agg N.toArray),Fact.is (·=.bool (qO d.1)),Fact.is (·=.bool true),Fact.is (·=.bool true),Fact.is (·=.bool true),Fact.is (·=.bool true),Fact.is (·=.bool true)].getD j Fact.any) zk zk ?_ ?_
   ·intro i hi o win a wr ho RA;have HO2:=HO1.out.dr.move RA.below;have y1:=Mem.aj HO2.inn C0;have y2:=Mem.aj HO2.inn C9;have y3:=Mem.ay HO2.inn C0;rcases (show i=0∨i=1∨i=2∨i=3∨i=4∨i=5∨i=6∨i=7∨i=8∨i=9∨i=10∨i=11∨i=12∨i=13∨i=14∨i=15∨i=16∨i=17∨i=18∨i=19∨i=20∨i=21∨i=22 by omega) with rfl | rfl | rfl | rfl | rfl | rfl | rfl | rfl | rfl | rfl | rfl | rfl | rfl | rfl | rfl | rfl | rfl | rfl | rfl | rfl | rfl | rfl | rfl
    ·have e1:=RA.k 1;cases ho;refine aP rfl rfl (aM (tyD.exec (b:=w.heap.size) (off:=0) rfl zg hl (fun j u hj=>by rw[Nat.zero_add];exact HC.out _ HO2.inn j u hj)) ⟨_,rfl,Below.refl _ _,rfl⟩)
    ·have e7:a.tmps.getD 7 undef=_:=RA.d 0 rfl;cases ho;refine we rfl rfl (HIT.out wr) ?_;rintro e w' ⟨rfl,hb⟩;exact⟨_,rfl,_,rfl,hb,by rw[hany];rfl⟩
    ·have e1:=RA.k 1;cases ho;exact wv rfl rfl rfl
    ·have e9:a.tmps.getD 9 undef=_:=RA.d 2 rfl;cases ho;exact wv rfl rfl rfl
    ·have e10:a.tmps.getD 10 undef=_:=RA.d 3 rfl;cases ho;exact wv rfl rfl rfl
    ·have e11:a.tmps.getD 11 undef=_:=RA.d 4 rfl;cases ho;exact wv rfl rfl rfl
    ·have e1:=RA.k 1;have e12:a.tmps.getD 12 undef=_:=RA.d 5 rfl;cases ho;exact wy rfl rfl rfl e12 rfl
    ·have e13:a.tmps.getD 13 undef=_:=RA.d 6 rfl;have e12:a.tmps.getD 12 undef=_:=RA.d 5 rfl;cases ho;exact wy rfl rfl rfl e12 rfl
    ·have e14:a.tmps.getD 14 undef=_:=RA.d 7 rfl;have e12:a.tmps.getD 12 undef=_:=RA.d 5 rfl;cases ho;exact wy rfl rfl rfl e12 rfl
    ·have e12:a.tmps.getD 12 undef=_:=RA.d 5 rfl;have e15:a.tmps.getD 15 undef=_:=RA.d 8 rfl;cases ho;exact wv rfl rfl rfl
    ·have e8:a.tmps.getD 8 undef=_:=RA.d 1 rfl;have e16:a.tmps.getD 16 undef=_:=RA.d 9 rfl;cases ho;exact wv rfl rfl rfl
    ·have e17:a.tmps.getD 17 undef=_:=RA.d 10 rfl;cases ho;exact wv rfl rfl rfl
    ·have e1:=RA.k 1;have e18:a.tmps.getD 18 undef=_:=RA.d 11 rfl;cases ho;exact wy rfl rfl rfl e18 rfl
    ·have e19:a.tmps.getD 19 undef=_:=RA.d 12 rfl;have e18:a.tmps.getD 18 undef=_:=RA.d 11 rfl;cases ho;refine dx rfl (bS rfl rfl e18) (aM (tyV.exec (b:=w.heap.size) (off:=0) rfl zg hN (fun j u hj=>by rw[Nat.zero_add];exact HC.out _ HO2.inn j u (by simpa using HD.out.1 j u hj))) ⟨_,rfl,Below.refl _ _,rfl⟩)
    ·have e20:a.tmps.getD 20 undef=_:=RA.d 13 rfl;have e18:a.tmps.getD 18 undef=_:=RA.d 11 rfl;cases ho;refine we2 rfl rfl rfl e18 (HB1.out wr HO2.inn HF.out.1) ?_;rintro e w' ⟨rfl,hb⟩;exact⟨_,rfl,_,rfl,hb,rfl⟩
    ·have e1:=RA.k 1;have e18:a.tmps.getD 18 undef=_:=RA.d 11 rfl;cases ho;exact wy rfl rfl rfl e18 rfl
    ·have e22:a.tmps.getD 22 undef=_:=RA.d 15 rfl;have e18:a.tmps.getD 18 undef=_:=RA.d 11 rfl;cases ho;refine dx rfl (bS rfl rfl e18) (aM (tyV.exec (b:=w.heap.size) (off:=0) rfl zg hN (fun j u hj=>by rw[Nat.zero_add];exact HC.out _ HO2.inn j u (by simpa using HD.out.1 j u hj))) ⟨_,rfl,Below.refl _ _,rfl⟩)
    ·have e23:a.tmps.getD 23 undef=_:=RA.d 16 rfl;have e18:a.tmps.getD 18 undef=_:=RA.d 11 rfl;cases ho;refine we2 rfl rfl rfl e18 (HB2.out wr HO2.inn HF.out.1) ?_;rintro e w' ⟨rfl,hb⟩;exact⟨_,rfl,_,rfl,hb,rfl⟩
    ·have e21:a.tmps.getD 21 undef=_:=RA.d 14 rfl;have e24:a.tmps.getD 24 undef=_:=RA.d 17 rfl;have e18:a.tmps.getD 18 undef=_:=RA.d 11 rfl;cases ho;exact wy rfl rfl rfl e18 rfl
    ·have e18:a.tmps.getD 18 undef=_:=RA.d 11 rfl;have e25:a.tmps.getD 25 undef=_:=RA.d 18 rfl;cases ho;exact wv rfl rfl rfl
    ·have e26:a.tmps.getD 26 undef=_:=RA.d 19 rfl;cases ho;exact wv rfl rfl rfl
    ·have e27:a.tmps.getD 27 undef=_:=RA.d 20 rfl;cases ho;refine we2 rfl rfl rfl e27 (dZ m1 wr HO2.inn HT.out) ?_;rintro e w' ⟨rfl,hb⟩;exact⟨_,rfl,_,rfl,hb,rfl⟩
    ·have e27:a.tmps.getD 27 undef=_:=RA.d 20 rfl;have e28:a.tmps.getD 28 undef=_:=RA.d 21 rfl;cases ho;exact wv rfl rfl rfl
   ·intro win a wr E;have e29:a.tmps.getD 29 undef=.bool true:=E.fact 22 _ zo rfl;have hZ:=HO1.out.dr.move E.below;obtain⟨t1,dd⟩:=a;obtain rfl:dd=[]:=E.defers;refine il 23 zk (aP rfl rfl (aM (by go_simp;first | done | exact⟨rfl,rfl⟩ | rfl) ?_));refine dH zk (hY.out _ _ (by simpa using E.size) ⟨?_,hZ⟩) _;have hsz:t1.size=30:=E.size;simp[hsz] at e29;simp[hsz]
 rintro z vs w2 - ⟨rfl,hO⟩;simp[litL,lk];have HB:=zh hO.below;clear hO HO1 HT HC HD HIT HB1 HB2 HF HV1 HV2;go_wp2;exact hR.out _ _ ⟨rfl,HB.out⟩
end Cl
