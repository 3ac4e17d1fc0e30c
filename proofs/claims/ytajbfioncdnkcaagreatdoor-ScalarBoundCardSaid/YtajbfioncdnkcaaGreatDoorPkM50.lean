/- Lemmas for the proofs of chapter 11. -/
import Derived.Test.YtajbfioncdnkcaaGreatDoorProg
import Derived.BigQuiet
import Derived.Deep.Cut
import Derived.Deep.QuietTactic
import Derived.Laws.StructEq
import Derived.Lib.AppendStr
import Derived.Lib.Builder
import Derived.Lib.Hide
import Derived.Lib.ItoaLen
import Derived.Maps.OwnOps
import Derived.Maps.OwnSet
import Derived.OrdersHeld
import Derived.Outline
import Derived.StillTailTactics
import Derived.StringKeys
import Derived.WalkKit
import Derived.WalkLawsBesides
import Derived.WalkSpells
import Derived.Deep.RegionHeld
import Derived.RangeFuncNested
import Derived.RangeFuncBound
import Derived.RangeFuncCalls
import Derived.RangeFuncLeaves
import Derived.OwnWalkIn
import Derived.TacticsInMore
import Derived.LoopNIn
import Derived.LoopIn
import Derived.Shelf.Strings.Builder1
import Derived.Shelf.Small.Wraps
import Derived.Shelf.LaysM
import Derived.Shelf.Strconv.Itoa3
import Derived.Shelf.SlSortCmp.WholeK
import Derived.RegionTactic
import Derived.ChangeAlike
import Derived.Laws.EntriesVeiled
import Derived.Laws.CopyOwn
import Derived.Shelf.Spec.SlicesGrow
import Derived.Test.YtajbfioncdnkcaaGreatDoorZz
import Derived.Test.YtajbfioncdnkcaaGreatDoorPkM3
import Derived.Test.YtajbfioncdnkcaaGreatDoorPkM4
import Derived.Test.YtajbfioncdnkcaaGreatDoorPkM32
import Derived.Test.YtajbfioncdnkcaaGreatDoorPkM1
import Derived.Test.YtajbfioncdnkcaaGreatDoorPkM34
import Derived.Test.YtajbfioncdnkcaaGreatDoorPkM2
import Derived.Test.YtajbfioncdnkcaaGreatDoorPkM8
import Derived.Test.YtajbfioncdnkcaaGreatDoorPkM46
import Derived.Test.YtajbfioncdnkcaaGreatDoorPkM19
import Derived.Test.YtajbfioncdnkcaaGreatDoorPkM27
import Derived.Test.YtajbfioncdnkcaaGreatDoorPkM29
import Derived.Test.YtajbfioncdnkcaaGreatDoorPkM41
import Derived.Test.YtajbfioncdnkcaaGreatDoorPkM7
import Derived.Test.YtajbfioncdnkcaaGreatDoorPkM33
import Derived.Test.YtajbfioncdnkcaaGreatDoorPkM12
import Derived.Test.YtajbfioncdnkcaaGreatDoorPkM6
import Derived.Test.YtajbfioncdnkcaaGreatDoorPkM20
import Derived.Test.YtajbfioncdnkcaaGreatDoorPkM9
import Derived.Test.YtajbfioncdnkcaaGreatDoorPkM35
import Derived.Test.YtajbfioncdnkcaaGreatDoorPkM48
import Derived.Test.YtajbfioncdnkcaaGreatDoorPkM5
import Derived.Test.YtajbfioncdnkcaaGreatDoorPkM42
import Derived.Test.YtajbfioncdnkcaaGreatDoorPkM47
import Derived.Test.YtajbfioncdnkcaaGreatDoorPkM10
import Derived.Test.YtajbfioncdnkcaaGreatDoorPkM11
import Derived.Test.YtajbfioncdnkcaaGreatDoorPkM43
import Derived.Test.YtajbfioncdnkcaaGreatDoorPkM21
import Derived.Test.YtajbfioncdnkcaaGreatDoorPkM49
import Derived.Test.YtajbfioncdnkcaaGreatDoorPkM16
import Derived.Test.YtajbfioncdnkcaaGreatDoorPkM44
import Derived.Test.YtajbfioncdnkcaaGreatDoorPkM13
import Derived.Test.YtajbfioncdnkcaaGreatDoorPkM14
import Derived.Test.YtajbfioncdnkcaaGreatDoorPkM15
set_option maxRecDepth 100000
set_option maxHeartbeats 16000000
namespace Cl
open Go Go.RowKit Go.Proofs
theorem yR (m:Mem) (w:World) (_:m.inn w) :
 Calls Tryz.prog 59 #[] w fun e w'=>∃r,e=.returned (.agg #[r])∧Below w.heap.size w w'∧aI (m.grow w w') r allT:=by
 refine (Bz w).mono ?_;rintro e w' ⟨g1,g2,rfl,hb,h1,h2,h3,h4,h5⟩;refine ⟨_,rfl,hb,?_⟩;refine ⟨some ⟨g2,0,none⟩,1,rfl,Nat.le_refl _,by simp[maxLen],fun _=>⟨g2,0,rfl,fun i hi=>?_⟩⟩;obtain rfl:i=0:=by simp[allT] at hi;omega
 refine ⟨dH h2 (h5.cell (i:=0) rfl),.slice (some ⟨g1,0,none⟩) 1 1,dH h2 (h5.cell (i:=1) rfl),?_⟩;refine ⟨some ⟨g1,0,none⟩,1,rfl,Nat.le_refl _,by simp[maxLen],fun _=>⟨g1,0,rfl,fun i hi=>?_⟩⟩;obtain rfl:i=0:=by simp[allT] at hi;omega
 exact⟨dH h1 (h4.cell (i:=0) rfl),dH h1 (h4.cell (i:=1) rfl),dH h1 (h4.cell (i:=2) rfl),by simp[allT]⟩
theorem Bu (m:Mem) (w:World) (hm:m.inn w) :
 Calls Tryz.prog 23 #[] w fun e w'=>∃ui uf ut,e=.returned (allS.val ui uf ut)∧Below w.heap.size w w'∧ScAt (m.grow w w') ui uf ut allS:=by
 have hO:=(Own.start hm).al #[.bool false,.bool false,.bool false,.slice none 0 0,.slice none 0 0,.slice none 0 0] 29;have HI:=zh (vS m _ hO.inn);have HO:=zh hO;clear hO;refine aj fun R hR=>?_
 go_enter Tryz.func23,Tryz.ntmps23
 go_wp2_with fail
 refine HI.out.mono ?_;rintro e w1 ⟨ri,rf,rfl,hb1,hr1⟩;have hO1:=HO.out.call hb1;have HT:=zh (yR _ w1 hO1.inn);obtain⟨a,c,b,d,rfl,rfl⟩:=hr1.spell;have HO1:=zh (zi hr1 hO1);clear HI HO hb1 hr1 hO1
 go_wp2_with fail
 refine HT.out.mono ?_;rintro e w2 ⟨rt,rfl,hb2,hr2⟩;have hO:=HO1.out.2.call hb2;have hN:=HO1.out.1.le (Mem.eO HO1.out.2.inn (w:=w2));obtain⟨ta,tc,rfl⟩:=eU hr2;obtain⟨g0,g1,g2,g3,g4,g5,f0,f1,f2,f3,f4,f5⟩:=hO.obj.cf6;have gl:=hO.obj.lt;have hO2:=(((((hO.set 0 (.bool true)).set 1 (.bool true)).set 2 (.bool true)).set 3 (.slice a eY.length c)).set 4 (.slice b nU.length d)).set 5 (.slice ta allT.length tc);obtain⟨k0,k1,k2,k3,k4,k5⟩:=hO2.obj.cs6;have hS:ScAt _ _ _ _ allS:=⟨hN.i,hN.f,hr2⟩;have Hk:=zh (zi hO2.below (hS.le hO2.done));clear hO hO2 hS hN hr2 hb2 HT HO1;go_wp2;refine bodyPost_ret (v:=.agg #[.bool true,.bool true,.bool true,.slice a eY.length c,.slice b nU.length d,.slice ta allT.length tc]) (by simp[results,Tryz.results23,go_sem,k0,k1,k2,k3,k4,k5]) rfl ?_;exact hR.out _ _ ⟨_,_,_,rfl,Hk.out.1,Hk.out.2⟩
theorem Ev (vi vm:Value) (d:Dt) (m:Mem) (w:World) (hm:m.inn w) (htab:TabM m) (hd:DtAt m vi vm d) (hc:cnt d≤1000000) (hs:d.str.size≤1000) :
 Calls Tryz.prog 18 #[d.val vi vm] w fun e w'=>∃s si sf st,e=.returned (.tuple #[s.val si sf st,.int .i64 (ofE d)])∧Below w.heap.size w w'∧ScAt (m.grow w w') si sf st s∧ScIs (fun e=>dtEl d=some e) s∧ScLe s 1 (d.str.size+1):=by
 have hO:=((Own.start hm).al #[.int .i64 d.kind,.int .i64 d.num,.string d.str,vi,vm] 33).al #[.bool false,.bool false,.bool false,.slice none 0 0,.slice none 0 0,.slice none 0 0] 29;simp only[df] at hO;have HC:=zh (wW vi vm d m _ hO.inn hd hc);have HOK:=zh (zi (fun h:chkD d 1=0=>uD h) (fun h:chkD d 1≠0=>CQ h));have hnr:=hd.ok.n;obtain⟨ai,ci,am,cm,rfl,rfl⟩:=hd.slices;have HT:=zh htab;unfold Dt.val at HC ⊢;have HO:=zh hO;clear hO hd hc htab;generalize chkD d 1=cx at *
 generalize ofE d=er at *
 generalize dtEl d=de at *
 generalize d.kind=k at *
 generalize d.num=n at *
 generalize d.str=s0 at *
 generalize d.items.length=li at *
 generalize d.bv.length=lm at *
 refine aj fun R hR=>?_
 go_enter Tryz.func18,Tryz.ntmps18
 go_wp2_with fail
 refine HC.out.mono ?_;rintro e w1 ⟨rfl,hb1⟩;have hO:=HO.out.move hb1;clear HC HO hb1;by_cases hcx:cx=0
 ·have hq:=HOK.out.1 hcx;subst hcx;obtain⟨q0,q1,q2,q3,q4⟩:=hO.swap.obj.cs5;have q5:=hO.swap.obj.lt;clear HOK
  cases hq with
  | nul hk h he=>
   subst hk;subst h;subst he;have hS:ScAt m (.slice none 0 0) (.slice none 0 0) (.slice none 0 0) ⟨true,false,false,[],[],[]⟩:=⟨aR m,aR m,aZ m⟩;clear HT;obtain⟨g0,g1,g2,g3,g4,g5,gf0,gf1,gf2,gf3,gf4,gf5⟩:=hO.obj.cf6;have gl:=hO.obj.lt;have hO2:Own _ _ _ _ (.obj _ 29 #[.bool true,.bool false,.bool false,.slice none 0 0,.slice none 0 0,.slice none 0 0]::_):=((((((hO.set 0 (.bool true)).set 1 (.bool false)).set 2 (.bool false)).set 3 (.slice none 0 0)).set 4 (.slice none 0 0)).set 5 (.slice none 0 0));obtain⟨k0,k1,k2,k3,k4,k5⟩:=hO2.obj.cs6;have Hk:=zh (zi hO2.below (hS.le hO2.done));clear hO2 hS hO;go_wp2;refine bodyPost_ret (v:=.tuple #[.agg #[.bool true,.bool false,.bool false,.slice none 0 0,.slice none 0 0,.slice none 0 0],.int .i64 0]) (by simp[results,Tryz.results18,go_sem,k0,k1,k2,k3,k4,k5]) rfl ?_
   exact hR.out _ _ ⟨⟨true,false,false,[],[],[]⟩,_,_,_,rfl,Hk.out.1,Hk.out.2,Nl,⟨zS,zS,zS⟩⟩
  | fal hk hn h he=>
   subst hk;subst hn;subst h;subst he;have hS:ScAt m (.slice none 0 0) (.slice none 0 0) (.slice none 0 0) ⟨false,true,false,[],[],[]⟩:=⟨aR m,aR m,aZ m⟩;clear HT;obtain⟨g0,g1,g2,g3,g4,g5,gf0,gf1,gf2,gf3,gf4,gf5⟩:=hO.obj.cf6;have gl:=hO.obj.lt;have hO2:Own _ _ _ _ (.obj _ 29 #[.bool false,.bool true,.bool false,.slice none 0 0,.slice none 0 0,.slice none 0 0]::_):=((((((hO.set 0 (.bool false)).set 1 (.bool true)).set 2 (.bool false)).set 3 (.slice none 0 0)).set 4 (.slice none 0 0)).set 5 (.slice none 0 0));obtain⟨k0,k1,k2,k3,k4,k5⟩:=hO2.obj.cs6;have Hk:=zh (zi hO2.below (hS.le hO2.done));clear hO2 hS hO;go_wp2;refine bodyPost_ret (v:=.tuple #[.agg #[.bool false,.bool true,.bool false,.slice none 0 0,.slice none 0 0,.slice none 0 0],.int .i64 0]) (by simp[results,Tryz.results18,go_sem,k0,k1,k2,k3,k4,k5]) rfl ?_
   exact hR.out _ _ ⟨⟨false,true,false,[],[],[]⟩,_,_,_,rfl,Hk.out.1,Hk.out.2,Np,⟨zS,zS,zS⟩⟩
  | tru hk hn h he=>
   subst hk;subst hn;subst h;subst he;have hS:ScAt m (.slice none 0 0) (.slice none 0 0) (.slice none 0 0) ⟨false,false,true,[],[],[]⟩:=⟨aR m,aR m,aZ m⟩;clear HT;obtain⟨g0,g1,g2,g3,g4,g5,gf0,gf1,gf2,gf3,gf4,gf5⟩:=hO.obj.cf6;have gl:=hO.obj.lt;have hO2:Own _ _ _ _ (.obj _ 29 #[.bool false,.bool false,.bool true,.slice none 0 0,.slice none 0 0,.slice none 0 0]::_):=((((((hO.set 0 (.bool false)).set 1 (.bool false)).set 2 (.bool true)).set 3 (.slice none 0 0)).set 4 (.slice none 0 0)).set 5 (.slice none 0 0));obtain⟨k0,k1,k2,k3,k4,k5⟩:=hO2.obj.cs6;have Hk:=zh (zi hO2.below (hS.le hO2.done));clear hO2 hS hO;go_wp2;refine bodyPost_ret (v:=.tuple #[.agg #[.bool false,.bool false,.bool true,.slice none 0 0,.slice none 0 0,.slice none 0 0],.int .i64 0]) (by simp[results,Tryz.results18,go_sem,k0,k1,k2,k3,k4,k5]) rfl ?_
   exact hR.out _ _ ⟨⟨false,false,true,[],[],[]⟩,_,_,_,rfl,Hk.out.1,Hk.out.2,Nh,⟨zS,zS,zS⟩⟩
  | num hk hv h he=>
   subst hk h he;have HB:=zh (wZ ⟨#[61,61]⟩ n m _ hO.inn hnr.1 hnr.2);rw[(JC hv).1,(JC hv).2] at HB;have HI:=zh (Nk hv);have HEL:=zh (show (eqN n).i.length≤1∧(eqN n).rf.length≤1 from ⟨(fF (k:=1) zS zS).i,by rw[NS.ky];exact (fF (k:=1) zS zS).f⟩);have HO:=zh hO;clear hO HT hv;generalize eqN n=x at *
   go_wp2_with fail
   refine HB.out.mono ?_;rintro e w2 ⟨ri,rf,rfl,hb2,hn⟩;obtain⟨xa,xc,ya,yc,rfl,rfl⟩:=hn.spell;have hO1:=((HO.out.call hb2).al #[.slice xa x.i.length xc,.slice ya x.rf.length yc] 24).swap;have HS:Hid _:=zh (show ScAt _ (.slice xa x.i.length xc) (.slice ya x.rf.length yc) (.slice none 0 0) ⟨false,false,false,x.i,x.rf,[]⟩ from ⟨hn.i,hn.f,aZ _⟩);have HO1:=zh hO1;clear HB HO hb2 hn hO1 q0 q1 q2 q3 q4 q5
   go_upto_region 11 with (fail)
   generalize hW:w2.alloc (.cells #[.slice xa x.i.length xc,.slice ya x.rf.length yc] 24)=w3 at *
   generalize w2.heap.size=gx at *
   have hO:=HO1.out;have hS:=HS.out;have q0:=hO.swap.obj.cell (i:=0) rfl;have q1:=hO.swap.obj.cell (i:=1) rfl;have q2:=hO.swap.obj.lt;clear HO1 HS hW;obtain⟨g0,g1,g2,g3,g4,g5,gf0,gf1,gf2,gf3,gf4,gf5⟩:=hO.obj.cf6;have gl:=hO.obj.lt;have hO2:Own _ _ _ _ (.obj _ 29 #[.bool false,.bool false,.bool false,.slice xa x.i.length xc,.slice ya x.rf.length yc,.slice none 0 0]::_):=((((((hO.set 0 (.bool false)).set 1 (.bool false)).set 2 (.bool false)).set 3 (.slice xa x.i.length xc)).set 4 (.slice ya x.rf.length yc)).set 5 (.slice none 0 0));obtain⟨k0,k1,k2,k3,k4,k5⟩:=hO2.obj.cs6;have Hk:=zh (zi hO2.below (hS.le hO2.done));clear hO2 hS hO;go_wp2;refine bodyPost_ret (v:=.tuple #[.agg #[.bool false,.bool false,.bool false,.slice xa x.i.length xc,.slice ya x.rf.length yc,.slice none 0 0],.int .i64 0]) (by simp[results,Tryz.results18,go_sem,k0,k1,k2,k3,k4,k5]) rfl ?_
   exact hR.out _ _ ⟨⟨false,false,false,x.i,x.rf,[]⟩,_,_,_,rfl,Hk.out.1,Hk.out.2,HI.out,⟨HEL.out.1,HEL.out.2,zS⟩⟩
  | str hk h he=>
   subst hk h he;have HB:=zh (yP s0 m _ hO.inn hs);rw[tN] at HB;have HI:=zh (zi (Ni (pV s0.data.toList)) (IQ (pV s0.data.toList)));generalize kK s0.data.toList=C at *
   have HO:=zh hO;clear hO HT
   go_wp2_with fail
   refine HB.out.mono ?_;rintro e w2 ⟨rt,rfl,hb2,hst⟩;obtain⟨xa,xc,rfl⟩:=eU hst;have hO:=HO.out.call hb2;have hS:ScAt _ (.slice none 0 0) (.slice none 0 0) (.slice xa C.length xc) ⟨false,false,false,[],[],C⟩:=⟨aR _,aR _,hst⟩;clear HB HO hb2 hst;obtain⟨g0,g1,g2,g3,g4,g5,gf0,gf1,gf2,gf3,gf4,gf5⟩:=hO.obj.cf6;have gl:=hO.obj.lt;have hO2:Own _ _ _ _ (.obj _ 29 #[.bool false,.bool false,.bool false,.slice none 0 0,.slice none 0 0,.slice xa C.length xc]::_):=((((((hO.set 0 (.bool false)).set 1 (.bool false)).set 2 (.bool false)).set 3 (.slice none 0 0)).set 4 (.slice none 0 0)).set 5 (.slice xa C.length xc));obtain⟨k0,k1,k2,k3,k4,k5⟩:=hO2.obj.cs6;have Hk:=zh (zi hO2.below (hS.le hO2.done));clear hO2 hS hO;go_wp2;refine bodyPost_ret (v:=.tuple #[.agg #[.bool false,.bool false,.bool false,.slice none 0 0,.slice none 0 0,.slice xa C.length xc],.int .i64 0]) (by simp[results,Tryz.results18,go_sem,k0,k1,k2,k3,k4,k5]) rfl ?_
   exact hR.out _ _ ⟨⟨false,false,false,[],[],C⟩,_,_,_,rfl,Hk.out.1,Hk.out.2,HI.out.1,⟨zS,zS,by show C.length≤_;rw[HI.out.2];exact Nat.le_refl _⟩⟩
  | parts hk h he=>
   subst h he;have hS:ScAt m (.slice none 0 0) (.slice none 0 0) (.slice none 0 0) dO:=ScAt.empty m;clear HT;rcases hk with rfl | rfl
   ·have g0:=hO.obj.cell (i:=0) rfl;have g1:=hO.obj.cell (i:=1) rfl;have g2:=hO.obj.cell (i:=2) rfl;have g3:=hO.obj.cell (i:=3) rfl;have g4:=hO.obj.cell (i:=4) rfl;have g5:=hO.obj.cell (i:=5) rfl;obtain⟨gf0,gf1,gf2,gf3,gf4,gf5⟩:=hO.obj.fr6;have gl:=hO.obj.lt;have hO2:Own _ _ _ _ (.obj _ 29 #[.bool false,.bool false,.bool false,.slice none 0 0,.slice none 0 0,.slice none 0 0]::_):=((((((hO.set 0 (.bool false)).set 1 (.bool false)).set 2 (.bool false)).set 3 (.slice none 0 0)).set 4 (.slice none 0 0)).set 5 (.slice none 0 0));obtain⟨k0,k1,k2,k3,k4,k5⟩:=hO2.obj.cs6;have Hk:=zh (zi hO2.below (hS.le hO2.done));clear hO2 hS hO;go_wp2;refine bodyPost_ret (v:=.tuple #[.agg #[.bool false,.bool false,.bool false,.slice none 0 0,.slice none 0 0,.slice none 0 0],.int .i64 11]) (by simp[results,Tryz.results18,go_sem,k0,k1,k2,k3,k4,k5]) rfl ?_;exact hR.out _ _ ⟨dO,_,_,_,rfl,Hk.out.1,Hk.out.2,qY,fK _ _⟩
   ·have g0:=hO.obj.cell (i:=0) rfl;have g1:=hO.obj.cell (i:=1) rfl;have g2:=hO.obj.cell (i:=2) rfl;have g3:=hO.obj.cell (i:=3) rfl;have g4:=hO.obj.cell (i:=4) rfl;have g5:=hO.obj.cell (i:=5) rfl;obtain⟨gf0,gf1,gf2,gf3,gf4,gf5⟩:=hO.obj.fr6;have gl:=hO.obj.lt;have hO2:Own _ _ _ _ (.obj _ 29 #[.bool false,.bool false,.bool false,.slice none 0 0,.slice none 0 0,.slice none 0 0]::_):=((((((hO.set 0 (.bool false)).set 1 (.bool false)).set 2 (.bool false)).set 3 (.slice none 0 0)).set 4 (.slice none 0 0)).set 5 (.slice none 0 0));obtain⟨k0,k1,k2,k3,k4,k5⟩:=hO2.obj.cs6;have Hk:=zh (zi hO2.below (hS.le hO2.done));clear hO2 hS hO;go_wp2;refine bodyPost_ret (v:=.tuple #[.agg #[.bool false,.bool false,.bool false,.slice none 0 0,.slice none 0 0,.slice none 0 0],.int .i64 11]) (by simp[results,Tryz.results18,go_sem,k0,k1,k2,k3,k4,k5]) rfl ?_;exact hR.out _ _ ⟨dO,_,_,_,rfl,Hk.out.1,Hk.out.2,qY,fK _ _⟩
 ·obtain⟨h1,h2⟩:=HOK.out.2 hcx;subst h1 h2;have hne:(er != 0)=true:=by simpa using hcx
  have hS:ScAt m (.slice none 0 0) (.slice none 0 0) (.slice none 0 0) dO:=ScAt.empty m;clear HT HOK hcx;obtain⟨g0,g1,g2,g3,g4,g5,gf0,gf1,gf2,gf3,gf4,gf5⟩:=hO.obj.cf6;have gl:=hO.obj.lt;have hO2:Own _ _ _ _ (.obj _ 29 #[.bool false,.bool false,.bool false,.slice none 0 0,.slice none 0 0,.slice none 0 0]::_):=((((((hO.set 0 (.bool false)).set 1 (.bool false)).set 2 (.bool false)).set 3 (.slice none 0 0)).set 4 (.slice none 0 0)).set 5 (.slice none 0 0));obtain⟨k0,k1,k2,k3,k4,k5⟩:=hO2.obj.cs6;have Hk:=zh (zi hO2.below (hS.le hO2.done));clear hO2 hS hO;go_wp2;refine bodyPost_ret (v:=.tuple #[.agg #[.bool false,.bool false,.bool false,.slice none 0 0,.slice none 0 0,.slice none 0 0],.int .i64 er]) (by simp[results,Tryz.results18,go_sem,k0,k1,k2,k3,k4,k5]) rfl ?_;exact hR.out _ _ ⟨dO,_,_,_,rfl,Hk.out.1,Hk.out.2,qY,fK _ _⟩
end Cl
