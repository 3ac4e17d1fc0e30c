/- The law's walk. -/
import Derived.Test.YtajbfioncdnkcaaGreatDoorProg
import Derived.BigQuiet
import Derived.Deep.Cut
import Derived.Deep.QuietTactic
import Derived.Laws.StructEq
import Derived.Lib.AppendStr
import Derived.Lib.Builder
import Derived.Lib.Hide
import Derived.Lib.ItoaLen
import Derived.Maps.OwnOps
import Derived.Maps.OwnSet
import Derived.OrdersHeld
import Derived.Outline
import Derived.StillTailTactics
import Derived.StringKeys
import Derived.WalkKit
import Derived.WalkLawsBesides
import Derived.WalkSpells
import Derived.Deep.RegionHeld
import Derived.RangeFuncNested
import Derived.RangeFuncBound
import Derived.RangeFuncCalls
import Derived.RangeFuncLeaves
import Derived.OwnWalkIn
import Derived.TacticsInMore
import Derived.LoopNIn
import Derived.LoopIn
import Derived.Shelf.SlSortCmp.WholeK
import Derived.Laws.EntriesVeiled
import Derived.Laws.CopyOwn
import Derived.RegionTactic
import Derived.Shelf.Strings.Builder1
import Derived.Shelf.Small.Wraps
import Derived.Shelf.LaysM
import Derived.Shelf.Strconv.Itoa3
import Derived.ChangeAlike
import Derived.Shelf.Spec.SlicesGrow
import Derived.Laws.BytesArg
import Derived.Deep.Slices
import Derived.Lib.SmallJoins
import Derived.ChangeMaps5
import Derived.Carry
import Derived.KernelRfl
import Derived.ChangeArms
import Derived.Test.YtajbfioncdnkcaaGreatDoorCards
import Derived.Test.YtajbfioncdnkcaaGreatDoorTie
import Derived.ProofKit
import Derived.OpenShut
import Derived.Deep.DeepHandedRow
import Derived.Lib.LaidTab
import Derived.Stop.LaidErr
import Derived.Test.YtajbfioncdnkcaaGreatDoorZz
import Derived.Test.YtajbfioncdnkcaaGreatDoorPkM4
import Derived.Test.YtajbfioncdnkcaaGreatDoorPkM3
import Derived.Test.YtajbfioncdnkcaaGreatDoorPkM32
import Derived.Test.YtajbfioncdnkcaaGreatDoorPkM1
import Derived.Test.YtajbfioncdnkcaaGreatDoorPkM34
import Derived.Test.YtajbfioncdnkcaaGreatDoorPkM2
import Derived.Test.YtajbfioncdnkcaaGreatDoorPkM46
import Derived.Test.YtajbfioncdnkcaaGreatDoorPkM19
import Derived.Test.YtajbfioncdnkcaaGreatDoorPkM27
import Derived.Test.YtajbfioncdnkcaaGreatDoorPkM29
import Derived.Test.YtajbfioncdnkcaaGreatDoorPkM41
import Derived.Test.YtajbfioncdnkcaaGreatDoorPkM5
import Derived.Test.YtajbfioncdnkcaaGreatDoorPkM42
import Derived.Test.YtajbfioncdnkcaaGreatDoorPkM47
import Derived.Test.YtajbfioncdnkcaaGreatDoorPkM10
import Derived.Test.YtajbfioncdnkcaaGreatDoorPkM11
import Derived.Test.YtajbfioncdnkcaaGreatDoorPkM43
import Derived.Test.YtajbfioncdnkcaaGreatDoorPkM49
import Derived.Test.YtajbfioncdnkcaaGreatDoorPkM8
import Derived.Test.YtajbfioncdnkcaaGreatDoorPkM7
import Derived.Test.YtajbfioncdnkcaaGreatDoorPkM33
import Derived.Test.YtajbfioncdnkcaaGreatDoorPkM12
import Derived.Test.YtajbfioncdnkcaaGreatDoorPkM6
import Derived.Test.YtajbfioncdnkcaaGreatDoorPkM20
import Derived.Test.YtajbfioncdnkcaaGreatDoorPkM9
import Derived.Test.YtajbfioncdnkcaaGreatDoorPkM35
import Derived.Test.YtajbfioncdnkcaaGreatDoorPkM48
import Derived.Test.YtajbfioncdnkcaaGreatDoorPkM21
import Derived.Test.YtajbfioncdnkcaaGreatDoorPkM16
import Derived.Test.YtajbfioncdnkcaaGreatDoorPkM44
import Derived.Test.YtajbfioncdnkcaaGreatDoorPkM50
import Derived.Test.YtajbfioncdnkcaaGreatDoorPkM24
import Derived.Test.YtajbfioncdnkcaaGreatDoorPkM13
import Derived.Test.YtajbfioncdnkcaaGreatDoorPkM14
import Derived.Test.YtajbfioncdnkcaaGreatDoorPkM31
import Derived.Test.YtajbfioncdnkcaaGreatDoorPkM18
import Derived.Test.YtajbfioncdnkcaaGreatDoorPkM26
import Derived.Test.YtajbfioncdnkcaaGreatDoorPkM56
import Derived.Test.YtajbfioncdnkcaaGreatDoorPkM28
import Derived.Test.YtajbfioncdnkcaaGreatDoorPkM15
import Derived.Test.YtajbfioncdnkcaaGreatDoorPkM22
import Derived.Test.YtajbfioncdnkcaaGreatDoorPkM25
import Derived.Test.YtajbfioncdnkcaaGreatDoorPkM17
import Derived.Test.YtajbfioncdnkcaaGreatDoorPkM23
import Derived.Test.YtajbfioncdnkcaaGreatDoorPkM38
import Derived.Test.YtajbfioncdnkcaaGreatDoorPkM30
set_option maxRecDepth 100000
set_option maxHeartbeats 16000000
namespace Cl
open Go Go.RowKit Go.Proofs
theorem EC (m:Mem) (w:World) (hm:m.inn w) :
 Calls Tryz.prog 57 #[] w fun e w'=>∃ri,e=.returned (.agg #[ri,.slice none 0 0])∧Below w.heap.size w w'∧bW (m.grow w w') ri eY:=by
 have hO:=(Own.start hm).al #[.slice none 0 0,.slice none 0 0] 24;have HI:=zh (vS m _ hO.inn);have HO:=zh hO;clear hO;refine aj fun R hR=>?_
 go_enter Tryz.func57,Tryz.ntmps57
 go_wp2_with fail
 refine HI.out.mono ?_;rintro e w1 ⟨ri,rf,rfl,hb1,hr1⟩;have hO1:=HO.out.call hb1;obtain⟨a,c,b,d,rfl,rfl⟩:=hr1.spell;have g0:=hO1.obj.cell (i:=0) rfl;have g1:=hO1.obj.cell (i:=1) rfl;have g2:=hO1.obj.frozen 0;have g3:=hO1.obj.frozen 1;have g4:=hO1.obj.lt;have hO4:=(hO1.set 0 (.slice a eY.length c)).set 1 (.slice none 0 0);have g5:=hO4.obj.cell (i:=0) rfl;have g6:=hO4.obj.cell (i:=1) rfl;have Hk:=zh (zi hO4.below (aY hO4.done hr1.i));have hfd:∀w:World,(Instr.field 24 (.agg #[.slice a eY.length c,.slice b nU.length d]) 0).run Tryz.prog w=.ok (.slice a eY.length c) w:=fun _=>by kernel_rfl
 clear hO1 hO4 hr1 hb1 HI HO;go_wp2;refine bodyPost_ret (v:=.agg #[.slice a eY.length c,.slice none 0 0]) (by simp[results,Tryz.results57,go_sem,g5,g6]) rfl ?_;exact hR.out _ _ ⟨_,rfl,Hk.out.1,Hk.out.2⟩
theorem GJ (n:ByteArray) (m:Mem) (w:World) (hm:m.inn w) :
 Calls Tryz.prog 16 #[.string n] w fun e w'=>∃si sf st,e=.returned (.tuple #[(typS n.toList).val si sf st,.int .i64 (typE n.toList)])∧Below w.heap.size w w'∧ScAt (m.grow w w') si sf st (typS n.toList):=by
 have hO:=(Own.start hm).al #[.bool false,.bool false,.bool false,.slice none 0 0,.slice none 0 0,.slice none 0 0] 29;have HO:=zh hO;clear hO;refine aj fun R hR=>?_
 go_enter Tryz.func16,Tryz.ntmps16
 go_upto_region 1 with (fail)
 refine aA [2,4] (fun vs w'=>vs=[.pointer (some ⟨w.heap.size,0,none⟩),.string n]∧Own w m w' m [.obj w.heap.size 29 #[.bool false,.bool false,.bool false,.slice none 0 0,.slice none 0 0,.slice none 0 0]]) ?_ ?_
 ·intro Y hY;go_wp2;exact hY.out _ _ rfl ⟨rfl,HO.out⟩
 rintro z0 vs w0 - ⟨rfl,hO⟩;simp[litL,lk];have HI:=zh (EC m _ hO.inn);have HA:=zh (vS m _ hO.inn);have HL:=zh (yR m _ hO.inn);clear HO;have HO:=zh hO;clear hO;by_cases h0:n.toList=[110,117,108,108]
 ·have b0:(n.toList==[110,117,108,108])=true:=by simp[h0]
  have HF:=zh (show typS n.toList=⟨true,false,false,[],[],[]⟩∧typE n.toList=0 from ⟨by unfold typS;simp[h0],by unfold typE;simp[h0]⟩);clear h0;have hO:=HO.out;have hS:ScAt m (.slice none 0 0) (.slice none 0 0) (.slice none 0 0) ⟨true,false,false,[],[],[]⟩:=⟨aR m,aR m,aZ m⟩;clear HO HI HA HL;obtain⟨g0,g1,g2,g3,g4,g5,gf0,gf1,gf2,gf3,gf4,gf5⟩:=hO.obj.cf6;have gl:=hO.obj.lt;have hO2:Own _ _ _ _ (.obj _ 29 #[.bool true,.bool false,.bool false,.slice none 0 0,.slice none 0 0,.slice none 0 0]::_):=((((((hO.set 0 (.bool true)).set 1 (.bool false)).set 2 (.bool false)).set 3 (.slice none 0 0)).set 4 (.slice none 0 0)).set 5 (.slice none 0 0));obtain⟨k0,k1,k2,k3,k4,k5⟩:=hO2.obj.cs6;have Hk:=zh (zi hO2.below (hS.le hO2.done));clear hO hO2 hS;go_wp2;refine bodyPost_ret (v:=.tuple #[.agg #[.bool true,.bool false,.bool false,.slice none 0 0,.slice none 0 0,.slice none 0 0],.int .i64 0]) (by simp[results,Tryz.results16,go_sem,k0,k1,k2,k3,k4,k5]) rfl ?_;exact hR.out _ _ ⟨_,_,_,by rw[HF.out.1,HF.out.2];rfl,Hk.out.1,by rw[HF.out.1];exact Hk.out.2⟩
 ·have b0:(n.toList==[110,117,108,108])=false:=by simp[h0]
  by_cases h1:n.toList=[98,111,111,108]
  ·have b1:(n.toList==[98,111,111,108])=true:=by simp[h1]
   have HF:=zh (show typS n.toList=⟨false,true,true,[],[],[]⟩∧typE n.toList=0 from ⟨by unfold typS;simp[h1],by unfold typE;simp[h1]⟩);clear h0 h1;have hO:=HO.out;have hS:ScAt m (.slice none 0 0) (.slice none 0 0) (.slice none 0 0) ⟨false,true,true,[],[],[]⟩:=⟨aR m,aR m,aZ m⟩;clear HO HI HA HL;obtain⟨g0,g1,g2,g3,g4,g5,gf0,gf1,gf2,gf3,gf4,gf5⟩:=hO.obj.cf6;have gl:=hO.obj.lt;have hO2:Own _ _ _ _ (.obj _ 29 #[.bool false,.bool true,.bool true,.slice none 0 0,.slice none 0 0,.slice none 0 0]::_):=((((((hO.set 0 (.bool false)).set 1 (.bool true)).set 2 (.bool true)).set 3 (.slice none 0 0)).set 4 (.slice none 0 0)).set 5 (.slice none 0 0));obtain⟨k0,k1,k2,k3,k4,k5⟩:=hO2.obj.cs6;have Hk:=zh (zi hO2.below (hS.le hO2.done));clear hO hO2 hS;go_wp2;refine bodyPost_ret (v:=.tuple #[.agg #[.bool false,.bool true,.bool true,.slice none 0 0,.slice none 0 0,.slice none 0 0],.int .i64 0]) (by simp[results,Tryz.results16,go_sem,k0,k1,k2,k3,k4,k5]) rfl ?_;exact hR.out _ _ ⟨_,_,_,by rw[HF.out.1,HF.out.2];rfl,Hk.out.1,by rw[HF.out.1];exact Hk.out.2⟩
  ·have b1:(n.toList==[98,111,111,108])=false:=by simp[h1]
   by_cases h2:n.toList=[105,110,116]
   ·have b2:(n.toList==[105,110,116])=true:=by simp[h2]
    have HF:=zh (show typS n.toList=⟨false,false,false,eY,[],[]⟩∧typE n.toList=0 from ⟨by unfold typS;simp[h2],by unfold typE;simp[h2]⟩);clear h0 h1 h2
    go_wp2_with fail
    refine HI.out.mono ?_;rintro e w1 ⟨ri,rfl,hb1,hr⟩;have hO:=HO.out.call hb1;have hS:ScAt _ ri (.slice none 0 0) (.slice none 0 0) ⟨false,false,false,eY,[],[]⟩:=⟨hr,aR _,aZ _⟩;obtain⟨xa,xc,rfl⟩:=bZ hr;clear HO HI HA HL hb1 hr;obtain⟨g0,g1,g2,g3,g4,g5,gf0,gf1,gf2,gf3,gf4,gf5⟩:=hO.obj.cf6;have gl:=hO.obj.lt;have hO2:Own _ _ _ _ (.obj _ 29 #[.bool false,.bool false,.bool false,.slice xa eY.length xc,.slice none 0 0,.slice none 0 0]::_):=((((((hO.set 0 (.bool false)).set 1 (.bool false)).set 2 (.bool false)).set 3 (.slice xa eY.length xc)).set 4 (.slice none 0 0)).set 5 (.slice none 0 0));obtain⟨k0,k1,k2,k3,k4,k5⟩:=hO2.obj.cs6;have Hk:=zh (zi hO2.below (hS.le hO2.done));clear hO hO2 hS;go_wp2;refine bodyPost_ret (v:=.tuple #[.agg #[.bool false,.bool false,.bool false,.slice xa eY.length xc,.slice none 0 0,.slice none 0 0],.int .i64 0]) (by simp[results,Tryz.results16,go_sem,k0,k1,k2,k3,k4,k5]) rfl ?_;exact hR.out _ _ ⟨_,_,_,by rw[HF.out.1,HF.out.2];rfl,Hk.out.1,by rw[HF.out.1];exact Hk.out.2⟩
   ·have b2:(n.toList==[105,110,116])=false:=by simp[h2]
    by_cases h3:n.toList=[110,117,109,98,101,114]
    ·have b3:(n.toList==[110,117,109,98,101,114])=true:=by simp[h3]
     have HF:=zh (show typS n.toList=⟨false,false,false,eY,nU,[]⟩∧typE n.toList=0 from ⟨by unfold typS;simp[h3],by unfold typE;simp[h3]⟩);clear h0 h1 h2 h3
     go_wp2_with fail
     refine HA.out.mono ?_;rintro e w1 ⟨ri,rf,rfl,hb1,hr⟩;have hO:=HO.out.call hb1;have hS:ScAt _ ri rf (.slice none 0 0) ⟨false,false,false,eY,nU,[]⟩:=⟨hr.i,hr.f,aZ _⟩;obtain⟨xa,xc,ya,yc,rfl,rfl⟩:=hr.spell;clear HO HI HA HL hb1 hr;obtain⟨g0,g1,g2,g3,g4,g5,gf0,gf1,gf2,gf3,gf4,gf5⟩:=hO.obj.cf6;have gl:=hO.obj.lt;have hO2:Own _ _ _ _ (.obj _ 29 #[.bool false,.bool false,.bool false,.slice xa eY.length xc,.slice ya nU.length yc,.slice none 0 0]::_):=((((((hO.set 0 (.bool false)).set 1 (.bool false)).set 2 (.bool false)).set 3 (.slice xa eY.length xc)).set 4 (.slice ya nU.length yc)).set 5 (.slice none 0 0));obtain⟨k0,k1,k2,k3,k4,k5⟩:=hO2.obj.cs6;have Hk:=zh (zi hO2.below (hS.le hO2.done));clear hO hO2 hS;go_wp2;refine bodyPost_ret (v:=.tuple #[.agg #[.bool false,.bool false,.bool false,.slice xa eY.length xc,.slice ya nU.length yc,.slice none 0 0],.int .i64 0]) (by simp[results,Tryz.results16,go_sem,k0,k1,k2,k3,k4,k5]) rfl ?_;exact hR.out _ _ ⟨_,_,_,by rw[HF.out.1,HF.out.2];rfl,Hk.out.1,by rw[HF.out.1];exact Hk.out.2⟩
    ·have b3:(n.toList==[110,117,109,98,101,114])=false:=by simp[h3]
     by_cases h4:n.toList=[115,116,114,105,110,103]
     ·have b4:(n.toList==[115,116,114,105,110,103])=true:=by simp[h4]
      have HF:=zh (show typS n.toList=⟨false,false,false,[],[],allT⟩∧typE n.toList=0 from ⟨by unfold typS;simp[h4],by unfold typE;simp[h4]⟩);clear h0 h1 h2 h3 h4
      go_wp2_with fail
      refine HL.out.mono ?_;rintro e w1 ⟨rt,rfl,hb1,hr⟩;have hO:=HO.out.call hb1;have hS:ScAt _ (.slice none 0 0) (.slice none 0 0) rt ⟨false,false,false,[],[],allT⟩:=⟨aR _,aR _,hr⟩;obtain⟨za,zc,rfl⟩:=eU hr;clear HO HI HA HL hb1 hr;obtain⟨g0,g1,g2,g3,g4,g5,gf0,gf1,gf2,gf3,gf4,gf5⟩:=hO.obj.cf6;have gl:=hO.obj.lt;have hO2:Own _ _ _ _ (.obj _ 29 #[.bool false,.bool false,.bool false,.slice none 0 0,.slice none 0 0,.slice za (List.length allT) zc]::_):=((((((hO.set 0 (.bool false)).set 1 (.bool false)).set 2 (.bool false)).set 3 (.slice none 0 0)).set 4 (.slice none 0 0)).set 5 (.slice za (List.length allT) zc));obtain⟨k0,k1,k2,k3,k4,k5⟩:=hO2.obj.cs6;have Hk:=zh (zi hO2.below (hS.le hO2.done));clear hO hO2 hS;go_wp2;refine bodyPost_ret (v:=.tuple #[.agg #[.bool false,.bool false,.bool false,.slice none 0 0,.slice none 0 0,.slice za (List.length allT) zc],.int .i64 0]) (by simp[results,Tryz.results16,go_sem,k0,k1,k2,k3,k4,k5]) rfl ?_;exact hR.out _ _ ⟨_,_,_,by rw[HF.out.1,HF.out.2];rfl,Hk.out.1,by rw[HF.out.1];exact Hk.out.2⟩
     ·have b4:(n.toList==[115,116,114,105,110,103])=false:=by simp[h4]
      have HF:=zh (show typS n.toList=dO∧typE n.toList=5 from ⟨by unfold typS;simp[h0,h1,h2,h3,h4],by unfold typE;simp[h0,h1,h2,h3,h4]⟩);clear h0 h1 h2 h3 h4;have hO:=HO.out;have hS:ScAt m (.slice none 0 0) (.slice none 0 0) (.slice none 0 0) dO:=⟨aR m,aR m,aZ m⟩;clear HO HI HA HL;obtain⟨g0,g1,g2,g3,g4,g5,gf0,gf1,gf2,gf3,gf4,gf5⟩:=hO.obj.cf6;have gl:=hO.obj.lt;have hO2:Own _ _ _ _ (.obj _ 29 #[.bool false,.bool false,.bool false,.slice none 0 0,.slice none 0 0,.slice none 0 0]::_):=((((((hO.set 0 (.bool false)).set 1 (.bool false)).set 2 (.bool false)).set 3 (.slice none 0 0)).set 4 (.slice none 0 0)).set 5 (.slice none 0 0));obtain⟨k0,k1,k2,k3,k4,k5⟩:=hO2.obj.cs6;have Hk:=zh (zi hO2.below (hS.le hO2.done));clear hO hO2 hS;go_wp2;refine bodyPost_ret (v:=.tuple #[.agg #[.bool false,.bool false,.bool false,.slice none 0 0,.slice none 0 0,.slice none 0 0],.int .i64 5]) (by simp[results,Tryz.results16,go_sem,k0,k1,k2,k3,k4,k5]) rfl ?_;exact hR.out _ _ ⟨_,_,_,by rw[HF.out.1,HF.out.2];rfl,Hk.out.1,by rw[HF.out.1];exact Hk.out.2⟩
theorem xO (S1 S2 S3:Value) (S:RS) (nm:ByteArray) (d1 d2:Value) (d:Dt) (m:Mem) (w:World) (hm:m.inn w) (htab:TabM m) (hS:ScAt m S1 S2 S3 S) (hd:DtAt m d1 d2 d) :
 Calls Tryz.prog 3 #[S.val S1 S2 S3,.string nm,d.val d1 d2] w fun e w'=>e=.returned (.bool true)∧Below w.heap.size w w':=by
 obtain⟨sa,sb,sc,sd,se,sf,rfl,rfl,rfl⟩:=hS.spell;obtain⟨qda,qdb,qdc,qdd,rfl,rfl⟩:=hd.slices;have hO:=Own.start hm;have l0:=Mem.le_refl m;obtain⟨m1,k1,bS,hO⟩:=kZ 29 hO (hS.le l0);have l1:=Mem.le_trans l0 k1;obtain⟨m2,k2,bd,hO⟩:=lC 33 hO (hd.le l1);have l2:=Mem.le_trans l1 k2;have bS:=bS.le k2;have HT:=zh (htab.le l2);simp only[df] at hO bd;have HO:=zh hO;clear hO htab hS hd l1 k1 l2 k2 l0;unfold RS.val;unfold Dt.val;refine aj fun R hR=>?_
 go_enter Tryz.func3,Tryz.ntmps3
 go_upto_region 1 with (fail)
 generalize hW:((w.alloc (.cells #[.bool S.nul,.bool S.fal,.bool S.tru,.slice sa S.i.length sb,.slice sc S.f.length sd,.slice se S.t.length sf] 29)).alloc (.cells #[.int .i64 d.kind,.int .i64 d.num,.string d.str,.slice qda d.items.length qdb,.slice qdc d.bv.length qdd] 33))=w0 at *
 clear hW;refine aA [3,1,5,29] (fun vs w'=>∃c:Bool,vs=[.pointer (some ⟨w.heap.size,0,none⟩),.string nm,.pointer (some ⟨w.heap.size+1,0,none⟩),.bool c]∧Own w m w' m2 []∧(c=false→(∀s∈[S],gZ s)∧kr d=true∧d.str.size≤100)) ?_ ?_
 ·intro X hX;obtain⟨yS0,yS1,yS2,yS3,yS4,yS5⟩:=bS.cw HO.out.inn;have ySl:=Mem.ak HO.out.inn bS.c0;have hO2:=HO.out.al #[.bool S.nul,.bool S.fal,.bool S.tru,.slice sa S.i.length sb,.slice sc S.f.length sd,.slice se S.t.length sf] 29;have HB:=zh (jc _ [S] _ _ hO2.ib.inn (MO hO2 bS.at'));have HO:=zh hO2.tail;clear hO2
  go_wp2_with fail
  refine HB.out.mono ?_;rintro e w3 ⟨rfl,hb⟩;have HO:=zh (HO.out.move hb);clear HB hb;clear yS0 yS1 yS2 yS3 yS4 yS5 ySl;by_cases h:∀s∈[S],gZ s
  case neg=>
   rw[aL h];clear h;go_wp2;exact hX.out _ _ rfl ⟨true,rfl,HO.out,fun h=>by cases h⟩
  rw[aN h];have HG0:=zh h;clear h;obtain⟨yd0,yd1,yd2,yd3,yd4⟩:=bd.cw HO.out.inn;have ydl:=Mem.ak HO.out.inn bd.c0;have HB:=zh (jq _ _ d m2 _ HO.out.inn bd.at')
  go_wp2_with fail
  refine HB.out.mono ?_;rintro e w3 ⟨rfl,hb⟩;have HO:=zh (HO.out.move hb);clear HB hb;clear yd0 yd1 yd2 yd3 yd4 ydl;by_cases h:kr d=true
  case neg=>
   rw[Bool.eq_false_iff.2 h];clear h;go_wp2;exact hX.out _ _ rfl ⟨true,rfl,HO.out,fun h=>by cases h⟩
  rw[h];have HG1:=zh h;clear h;have y2:=Mem.av HO.out.inn bd.c2;have y0:=Mem.ak HO.out.inn bd.c0;by_cases h:d.str.size≤100
  case neg=>
   have hd:decide ((100:Int)<(d.str.size:Int))=true:=decide_eq_true zo;clear h;go_wp2;exact hX.out _ _ rfl ⟨true,rfl,HO.out,fun h=>by cases h⟩
  have hd2:decide ((100:Int)<(d.str.size:Int))=false:=decide_eq_false zo;have HG2:=zh h;clear h;go_wp2;exact hX.out _ _ rfl ⟨false,rfl,HO.out,fun _=>⟨HG0.out,HG1.out,HG2.out⟩⟩
 rintro z vs w1 - ⟨c,rfl,hO,hc⟩;simp[litL,lk];clear HO;have HO:=zh hO;have HC:=zh hc;clear hO hc
 cases c with
 | true=>
  clear HC
  go_wp2_with fail
  refine (bJ m2 _ HO.out.inn HT.out).mono ?_;rintro e w2 ⟨rfl,hb⟩;have HE:=zh (HO.out.move hb).below;clear hb HO;go_wp2
  exact hR.out _ _ ⟨rfl,HE.out⟩
 | false=>
  obtain⟨g0,g1,g2⟩:=HC.out rfl;clear HC;have LS:=zh (Eg g0);clear g0;have Cd:=zh (kS g1);clear g1;have Zd:=zh g2;clear g2;have HY:=zh (fun mk w' (h:Mem.inn mk w')=>Bp nm mk w' h);have HZ:=zh (fun mk w' (h:Mem.inn mk w')=>GJ nm mk w' h);generalize typS nm.toList=T1 at *
  generalize typE nm.toList=E1 at *
  have HB:=zh (HY.out m2 _ HO.out.inn)
  go_wp2_with fail
  refine HB.out.mono ?_;rintro e w4 ⟨si,sf,st,rfl,hb,hn⟩;obtain⟨T2,hnm⟩:∃s:RS,s=T1:=⟨_,rfl⟩;rw[← hnm] at hn;rw[← hnm];have QT2:=zh hnm;clear hnm;obtain⟨ua,ub,uc,ud,ue,uf,rfl,rfl,rfl⟩:=hn.spell;unfold RS.val;obtain⟨m3,lk,bT2,hO⟩:=iJ 29 HO.out hb hn;have HT:=zh (HT.out.le lk);have bS:=bS.le lk;have bd:=bd.le lk
  go_upto_region 4 with (fail)
  generalize hW:w4.alloc (.cells #[.bool T2.nul,.bool T2.fal,.bool T2.tru,.slice ua T2.i.length ub,.slice uc T2.f.length ud,.slice ue T2.t.length uf] 29)=w4' at *
  generalize w4.heap.size=gT2 at *
  have HO:=zh hO;clear hb hn hO HB hW lk;have HB:=zh (HZ.out m3 _ HO.out.inn)
  go_wp2_with fail
  refine HB.out.mono ?_;rintro e w5 ⟨si,sf,st,rfl,hb,hn⟩;obtain⟨T3,hnm⟩:∃s:RS,s=T1:=⟨_,rfl⟩;rw[← hnm] at hn;rw[← hnm];have QT3:=zh hnm;clear hnm;obtain⟨va,vb,vc,vd,ve,vf,rfl,rfl,rfl⟩:=hn.spell;unfold RS.val;obtain⟨m4,lk,bT3,hO⟩:=iJ 29 HO.out hb hn;have HT:=zh (HT.out.le lk);have bS:=bS.le lk;have bd:=bd.le lk;have bT2:=bT2.le lk
  go_upto_region 5 with (fail)
  generalize hW:w5.alloc (.cells #[.bool T3.nul,.bool T3.fal,.bool T3.tru,.slice va T3.i.length vb,.slice vc T3.f.length vd,.slice ve T3.t.length vf] 29)=w5' at *
  generalize w5.heap.size=gT3 at *
  have HO:=zh hO;clear hb hn hO HB hW lk;obtain⟨yd0,yd1,yd2,yd3,yd4⟩:=bd.cw HO.out.inn;have ydl:=Mem.ak HO.out.inn bd.c0;have HB:=zh (nK _ _ d m4 _ HO.out.inn HT.out bd.at' (by have:=Cd.out;omega) (by have:=Zd.out;omega));unfold Dt.val at HB
  go_wp2_with fail
  refine HB.out.mono ?_;rintro e w6 ⟨s1,si,sf,st,rfl,hb,hn,hS,-⟩;clear yd0 yd1 yd2 yd3 yd4 ydl;have Is1:=zh hS;clear hS;obtain⟨pa,pb,pc,pd,pe,pf,rfl,rfl,rfl⟩:=hn.spell;unfold RS.val;obtain⟨m5,lk,bs1,hO⟩:=iJ 29 HO.out hb hn;have HT:=zh (HT.out.le lk);have bS:=bS.le lk;have bd:=bd.le lk;have bT2:=bT2.le lk;have bT3:=bT3.le lk
  go_upto_region 6 with (fail)
  generalize hW:w6.alloc (.cells #[.bool s1.nul,.bool s1.fal,.bool s1.tru,.slice pa s1.i.length pb,.slice pc s1.f.length pd,.slice pe s1.t.length pf] 29)=w6' at *
  generalize w6.heap.size=gs1 at *
  have HO:=zh hO;clear hb hn hO HB hW lk;obtain⟨yd0,yd1,yd2,yd3,yd4⟩:=bd.cw HO.out.inn;have ydl:=Mem.ak HO.out.inn bd.c0;have HB:=zh (Ev _ _ d m5 _ HO.out.inn HT.out bd.at' (by have:=Cd.out;omega) (by have:=Zd.out;omega));unfold Dt.val at HB
  go_wp2_with fail
  refine HB.out.mono ?_;rintro e w7 ⟨s2,si,sf,st,rfl,hb,hn,hS,-⟩;clear yd0 yd1 yd2 yd3 yd4 ydl;have Is2:=zh hS;clear hS;obtain⟨qa,qb,qc,qd,qe,qf,rfl,rfl,rfl⟩:=hn.spell;unfold RS.val;obtain⟨m6,lk,bs2,hO⟩:=iJ 29 HO.out hb hn;have HT:=zh (HT.out.le lk);have bS:=bS.le lk;have bd:=bd.le lk;have bT2:=bT2.le lk;have bT3:=bT3.le lk;have bs1:=bs1.le lk
  go_upto_region 7 with (fail)
  generalize hW:w7.alloc (.cells #[.bool s2.nul,.bool s2.fal,.bool s2.tru,.slice qa s2.i.length qb,.slice qc s2.f.length qd,.slice qe s2.t.length qf] 29)=w7' at *
  generalize w7.heap.size=gs2 at *
  have HO:=zh hO;clear hb hn hO HB hW lk
  go_upto_region 7 with (fail)
  refine aA [6] (fun vs w'=>vs=[.bool true]∧Own w m w' m6 []) ?_ ?_
  ·intro X hX;refine aM 34 6 (fun j=>[Fact.is (·=.agg #[.bool S.nul,.bool S.fal,.bool S.tru,.slice sa S.i.length sb,.slice sc S.f.length sd,.slice se S.t.length sf]),Fact.is (·=.bool (tf S.gK)),Fact.is (·=.agg #[.bool S.nul,.bool S.fal,.bool S.tru,.slice sa S.i.length sb,.slice sc S.f.length sd,.slice se S.t.length sf]),Fact.is (·=.bool (tf S.gK)),Fact.is (·=.bool true),Fact.is (·=.bool true),Fact.is (·=.agg #[.bool T2.nul,.bool T2.fal,.bool T2.tru,.slice ua T2.i.length ub,.slice uc T2.f.length ud,.slice ue T2.t.length uf]),Fact.is (·=.agg #[.bool T3.nul,.bool T3.fal,.bool T3.tru,.slice va T3.i.length vb,.slice vc T3.f.length vd,.slice ve T3.t.length vf]),Fact.is (·=.bool true),Fact.is (·=.bool true),Fact.is (·=.bool true),Fact.is (·=.int .i64 E1),Fact.is (·=.int .i64 E1),Fact.is (·=.bool true),Fact.is (·=.bool true),Fact.is (·=.bool true),Fact.is (·=.agg #[.bool s1.nul,.bool s1.fal,.bool s1.tru,.slice pa s1.i.length pb,.slice pc s1.f.length pd,.slice pe s1.t.length pf]),Fact.is (·=.agg #[.bool s2.nul,.bool s2.fal,.bool s2.tru,.slice qa s2.i.length qb,.slice qc s2.f.length qd,.slice qe s2.t.length qf]),Fact.is (·=.bool true),Fact.is (·=.bool true),Fact.is (·=.bool true),Fact.is (·=.int .i64 (ofE d)),Fact.is (·=.int .i64 (ofE d)),Fact.is (·=.bool true),Fact.is (·=.bool true),Fact.is (·=.bool true),Fact.mem m6 [26] (ScRV elOk 1 1),Fact.mem m6 [27] (ScRV elOk 1 1),Fact.is (·=.bool true),Fact.is (·=.bool true),Fact.is (·=.bool true),Fact.is (·=.bool true),Fact.is (·=.bool true),Fact.is (·=.bool true)].getD j Fact.any) zk zk ?_ ?_
   ·intro i hi o win a wr ho RA;have HO2:=HO.out.dr.move RA.below;obtain⟨y30,y31,y32,y33,y34,y35⟩:=bS.cw HO2.inn;have y3l:=Mem.ak HO2.inn bS.c0;obtain⟨y70,y71,y72,y73,y74,y75⟩:=bT2.cw HO2.inn;have y7l:=Mem.ak HO2.inn bT2.c0;obtain⟨y90,y91,y92,y93,y94,y95⟩:=bT3.cw HO2.inn;have y9l:=Mem.ak HO2.inn bT3.c0;obtain⟨y110,y111,y112,y113,y114,y115⟩:=bs1.cw HO2.inn;have y11l:=Mem.ak HO2.inn bs1.c0;obtain⟨y130,y131,y132,y133,y134,y135⟩:=bs2.cw HO2.inn;have y13l:=Mem.ak HO2.inn bs2.c0;rcases (show i=0∨i=1∨i=2∨i=3∨i=4∨i=5∨i=6∨i=7∨i=8∨i=9∨i=10∨i=11∨i=12∨i=13∨i=14∨i=15∨i=16∨i=17∨i=18∨i=19∨i=20∨i=21∨i=22∨i=23∨i=24∨i=25∨i=26∨i=27∨i=28∨i=29∨i=30∨i=31∨i=32∨i=33 by omega) with rfl | rfl | rfl | rfl | rfl | rfl | rfl | rfl | rfl | rfl | rfl | rfl | rfl | rfl | rfl | rfl | rfl | rfl | rfl | rfl | rfl | rfl | rfl | rfl | rfl | rfl | rfl | rfl | rfl | rfl | rfl | rfl | rfl | rfl
    ·have e3:=RA.k 3;cases ho;exact wv rfl rfl rfl
    ·have e51:a.tmps.getD 51 undef=_:=RA.d 0 rfl;cases ho;refine we rfl rfl (fC _ _ _ S m6 wr HO2.inn HT.out bS.at' ((LS.out).mono zo zo)) ?_;rintro e w' ⟨rfl,hb⟩;exact⟨_,rfl,_,rfl,hb,rfl⟩
    ·have e3:=RA.k 3;cases ho;exact wv rfl rfl rfl
    ·have e53:a.tmps.getD 53 undef=_:=RA.d 2 rfl;cases ho;refine we rfl rfl (wS _ _ _ S m6 wr HO2.inn HT.out bS.at' ((LS.out).mono zo zo)) ?_;rintro e w' ⟨rfl,hb⟩;exact⟨_,rfl,_,rfl,hb,rfl⟩
    ·have e52:a.tmps.getD 52 undef=_:=RA.d 1 rfl;have e54:a.tmps.getD 54 undef=_:=RA.d 3 rfl;cases ho;exact wv rfl rfl rfl
    ·have e55:a.tmps.getD 55 undef=_:=RA.d 4 rfl;cases ho;exact wv rfl rfl rfl
    ·have e7:=RA.k 7;have e56:a.tmps.getD 56 undef=_:=RA.d 5 rfl;cases ho;exact wy rfl rfl rfl e56 rfl
    ·have e9:=RA.k 9;have e56:a.tmps.getD 56 undef=_:=RA.d 5 rfl;cases ho;exact wy rfl rfl rfl e56 rfl
    ·have e57:a.tmps.getD 57 undef=_:=RA.d 6 rfl;have e58:a.tmps.getD 58 undef=_:=RA.d 7 rfl;have e56:a.tmps.getD 56 undef=_:=RA.d 5 rfl;cases ho;refine we2 rfl rfl rfl e56 (dB _ _ _ _ _ _ T2 T3 m6 wr HO2.inn bT2.at' bT3.at') ?_;rintro e w' ⟨rfl,hb⟩;exact⟨_,rfl,_,rfl,hb,congrArg Value.bool (aN (QT2.out.trans QT3.out.symm))⟩
    ·have e56:a.tmps.getD 56 undef=_:=RA.d 5 rfl;have e59:a.tmps.getD 59 undef=_:=RA.d 8 rfl;cases ho;exact wv rfl rfl rfl
    ·have e60:a.tmps.getD 60 undef=_:=RA.d 9 rfl;cases ho;exact wv rfl rfl rfl
    ·have e8:=RA.k 8;have e61:a.tmps.getD 61 undef=_:=RA.d 10 rfl;cases ho;exact wy rfl rfl rfl e61 rfl
    ·have e10:=RA.k 10;have e61:a.tmps.getD 61 undef=_:=RA.d 10 rfl;cases ho;exact wy rfl rfl rfl e61 rfl
    ·have e62:a.tmps.getD 62 undef=_:=RA.d 11 rfl;have e63:a.tmps.getD 63 undef=_:=RA.d 12 rfl;have e61:a.tmps.getD 61 undef=_:=RA.d 10 rfl;cases ho;exact wy rfl rfl rfl e61 rfl
    ·have e61:a.tmps.getD 61 undef=_:=RA.d 10 rfl;have e64:a.tmps.getD 64 undef=_:=RA.d 13 rfl;cases ho;exact wv rfl rfl rfl
    ·have e65:a.tmps.getD 65 undef=_:=RA.d 14 rfl;cases ho;exact wv rfl rfl rfl
    ·have e11:=RA.k 11;have e66:a.tmps.getD 66 undef=_:=RA.d 15 rfl;cases ho;exact wy rfl rfl rfl e66 rfl
    ·have e13:=RA.k 13;have e66:a.tmps.getD 66 undef=_:=RA.d 15 rfl;cases ho;exact wy rfl rfl rfl e66 rfl
    ·have e67:a.tmps.getD 67 undef=_:=RA.d 16 rfl;have e68:a.tmps.getD 68 undef=_:=RA.d 17 rfl;have e66:a.tmps.getD 66 undef=_:=RA.d 15 rfl;cases ho;refine we2 rfl rfl rfl e66 (dB _ _ _ _ _ _ s1 s2 m6 wr HO2.inn bs1.at' bs2.at') ?_;rintro e w' ⟨rfl,hb⟩;exact⟨_,rfl,_,rfl,hb,congrArg Value.bool (aN (Is1.out.unique Is2.out))⟩
    ·have e66:a.tmps.getD 66 undef=_:=RA.d 15 rfl;have e69:a.tmps.getD 69 undef=_:=RA.d 18 rfl;cases ho;exact wv rfl rfl rfl
    ·have e70:a.tmps.getD 70 undef=_:=RA.d 19 rfl;cases ho;exact wv rfl rfl rfl
    ·have e12:=RA.k 12;have e71:a.tmps.getD 71 undef=_:=RA.d 20 rfl;cases ho;exact wy rfl rfl rfl e71 rfl
    ·have e14:=RA.k 14;have e71:a.tmps.getD 71 undef=_:=RA.d 20 rfl;cases ho;exact wy rfl rfl rfl e71 rfl
    ·have e72:a.tmps.getD 72 undef=_:=RA.d 21 rfl;have e73:a.tmps.getD 73 undef=_:=RA.d 22 rfl;have e71:a.tmps.getD 71 undef=_:=RA.d 20 rfl;cases ho;exact wy rfl rfl rfl e71 rfl
    ·have e71:a.tmps.getD 71 undef=_:=RA.d 20 rfl;have e74:a.tmps.getD 74 undef=_:=RA.d 23 rfl;cases ho;exact wv rfl rfl rfl
    ·have e75:a.tmps.getD 75 undef=_:=RA.d 24 rfl;cases ho;exact wv rfl rfl rfl
    ·have e76:a.tmps.getD 76 undef=_:=RA.d 25 rfl;cases ho;refine we2 rfl rfl rfl e76 (oh m6 wr HO2.inn) ?_;rintro e w' ⟨ri,rf,rt,rfl,hb,hn⟩;exact⟨_,rfl,_,rfl,hb,bH (R:=ScRV elOk 1 1) ScRV.le HO2.inn hb (d9 hn nX qF)⟩
    ·have e76:a.tmps.getD 76 undef=_:=RA.d 25 rfl;cases ho;refine we2 rfl rfl rfl e76 (Bu m6 wr HO2.inn) ?_;rintro e w' ⟨ri,rf,rt,rfl,hb,hn⟩;exact⟨_,rfl,_,rfl,hb,bH (R:=ScRV elOk 1 1) ScRV.le HO2.inn hb (d9 hn nX qF)⟩
    ·have e77:(Fact.mem m6 [26] (ScRV elOk 1 1)).holds (a.tmps.getD 77 undef) win wr:=RA.d 26 rfl;have e78:(Fact.mem m6 [27] (ScRV elOk 1 1)).holds (a.tmps.getD 78 undef) win wr:=RA.d 27 rfl;have e76:a.tmps.getD 76 undef=_:=RA.d 25 rfl;cases ho;obtain⟨s26,⟨a26,b26,c26,d26,x26,y26,k26,t26⟩,S26,L26⟩:ScRV _ _ _ _ _:=e77;obtain⟨s27,⟨a27,b27,c27,d27,x27,y27,k27,t27⟩,S27,L27⟩:ScRV _ _ _ _ _:=e78;refine we2 rfl rfl rfl e76 (dB _ _ _ _ _ _ s26 s27 (m6.wins wr win [26,27]) wr (Mem.bK HO2.inn win [26,27]) (t26.le (Mem.cO (es:=[26,27]) HO2.inn win zS)) (t27.le (Mem.cO (es:=[26,27]) HO2.inn win zS))) ?_;rintro e w' ⟨rfl,hb⟩;exact⟨_,rfl,_,rfl,hb,congrArg Value.bool (aN (S26.unique S27))⟩
    ·have e76:a.tmps.getD 76 undef=_:=RA.d 25 rfl;have e79:a.tmps.getD 79 undef=_:=RA.d 28 rfl;cases ho;exact wv rfl rfl rfl
    ·have e80:a.tmps.getD 80 undef=_:=RA.d 29 rfl;cases ho;exact wv rfl rfl rfl
    ·have e81:a.tmps.getD 81 undef=_:=RA.d 30 rfl;cases ho;refine we2 rfl rfl rfl e81 (bJ m6 wr HO2.inn HT.out) ?_;rintro e w' ⟨rfl,hb⟩;exact⟨_,rfl,_,rfl,hb,rfl⟩
    ·have e81:a.tmps.getD 81 undef=_:=RA.d 30 rfl;have e82:a.tmps.getD 82 undef=_:=RA.d 31 rfl;cases ho;exact wv rfl rfl rfl
    ·have e83:a.tmps.getD 83 undef=_:=RA.d 32 rfl;cases ho;exact wv rfl rfl rfl
   ·intro win a wr E;have e6:a.tmps.getD 6 undef=.bool true:=E.fact 33 _ zo rfl;obtain⟨t,d⟩:=a;obtain rfl:d=[]:=E.defers;refine aV zk (hX.out _ _ E.size ⟨?_,HO.out.dr.move E.below⟩) _;simp only[List.map_cons,List.map_nil,e6]
    first | done | rfl
  rintro z' vs w9 - ⟨rfl,hO⟩;simp[litL,lk];have HE:=zh hO.below;clear hO HO;go_wp2;exact hR.out _ _ ⟨rfl,HE.out⟩
end Cl
