/- Lemmas for the proofs of chapter 11. -/
import Derived.Test.YtjhipmdamaocmaaGreatDoorPkN23
set_option maxRecDepth 100000
set_option maxHeartbeats 16000000
namespace Cl
open Go Go.RowKit Go.Proofs
theorem wV:(⟨#[61,61]⟩:ByteArray).toList=[61,61]:=by rw[ByteArray.toList_eq]
theorem Jp {n:Int} (h:bG n):bndE (⟨#[61,61]⟩:ByteArray).toList n=0∧bndN (⟨#[61,61]⟩:ByteArray).toList n=eqN n:=by
 rw[wV];obtain⟨h1,h2⟩:=vP (op:=[61,61]) zD h;exact⟨h1,h2.trans (by simp[dZ,opLt,opLe,opGt,opGe,opEq])⟩
theorem P8 (z:List UInt8):eF (⟨#[61,61]⟩:ByteArray).toList z=some fun v=>decide (v=z):=by
 rw[wV];simp[eF]
theorem Im {z:ByteArray} {C:Table} (h:eQ (fun v=>decide (v=z.data.toList)) C):C.length=z.size+1:=by
 rw[Gx h (sP _),iA];rfl
theorem vG (vi vm:Value) (d:Dt) (m:Mem) (w:World) (hm:m.inn w) (htab:TabM m) (hd:DtAt m vi vm d) (hc:cnt d≤1000000) (hs:d.str.size≤1000) :
 Calls Tryz.prog 81 #[d.val vi vm] w fun e w'=>∃s si sf st,e=.returned (.tuple #[s.val si sf st,.int .i64 (ofE d)])∧Below w.heap.size w w'∧ScAt (m.grow w w') si sf st s∧ScIs (fun e=>dtEl d=some e) s∧ScLe s 1 (d.str.size+1):=by
 have hO:=((Own.start hm).al #[.int .i64 d.kind,.int .i64 d.num,.string d.str,vi,vm] 68).al #[.bool false,.bool false,.bool false,.slice none 0 0,.slice none 0 0,.slice none 0 0] 29;simp only[bZ] at hO;have HC:=zh (Cu vi vm d m _ hO.inn hd hc);have HOK:=zh (zi (fun h:chkD d 1=0=>IL h) (fun h:chkD d 1≠0=>Pg h));have hnr:=hd.ok.n;obtain⟨ai,ci,am,cm,rfl,rfl⟩:=hd.slices;have HT:=zh htab;unfold Dt.val at HC ⊢;have HO:=zh hO;clear hO hd hc htab;generalize chkD d 1=cx at *
 generalize ofE d=er at *
 generalize dtEl d=de at *
 generalize d.kind=k at *
 generalize d.num=n at *
 generalize d.str=s0 at *
 generalize d.items.length=li at *
 generalize d.bK.length=lm at *
 refine aj fun R hR=>?_
 go_enter Tryz.func81,Tryz.ntmps81
 go_wp2_with fail
 refine HC.out.mono ?_;rintro e w1 ⟨rfl,hb1⟩;have hO:=HO.out.move hb1;clear HC HO hb1;by_cases hcx:cx=0
 ·have hq:=HOK.out.1 hcx;subst hcx;obtain⟨q0,q1,q2,q3,q4⟩:=hO.swap.obj.cs5;have q5:=hO.swap.obj.lt;clear HOK
  cases hq with
  | nul hk h he=>
   subst hk;subst h;subst he;have hS:ScAt m (.slice none 0 0) (.slice none 0 0) (.slice none 0 0) ⟨true,false,false,[],[],[]⟩:=⟨aV m,aV m,bC m⟩;clear HT;obtain⟨g0,g1,g2,g3,g4,g5,gf0,gf1,gf2,gf3,gf4,gf5⟩:=hO.obj.cf6;have gl:=hO.obj.lt;have hO2:Own _ _ _ _ (.obj _ 29 #[.bool true,.bool false,.bool false,.slice none 0 0,.slice none 0 0,.slice none 0 0]::_):=((((((hO.set 0 (.bool true)).set 1 (.bool false)).set 2 (.bool false)).set 3 (.slice none 0 0)).set 4 (.slice none 0 0)).set 5 (.slice none 0 0));obtain⟨k0,k1,k2,k3,k4,k5⟩:=hO2.obj.cs6;have Hk:=zh (zi hO2.below (hS.le hO2.done));clear hO2 hS hO;go_wp2;refine yQ (v:=.tuple #[.agg #[.bool true,.bool false,.bool false,.slice none 0 0,.slice none 0 0,.slice none 0 0],.int .i64 0]) (by simp[results,Tryz.results81,go_sem,k0,k1,k2,k3,k4,k5]) rfl ?_
   exact hR.out _ _ ⟨⟨true,false,false,[],[],[]⟩,_,_,_,rfl,Hk.out.1,Hk.out.2,MK,⟨zS,zS,zS⟩⟩
  | fal hk hn h he=>
   subst hk;subst hn;subst h;subst he;have hS:ScAt m (.slice none 0 0) (.slice none 0 0) (.slice none 0 0) ⟨false,true,false,[],[],[]⟩:=⟨aV m,aV m,bC m⟩;clear HT;obtain⟨g0,g1,g2,g3,g4,g5,gf0,gf1,gf2,gf3,gf4,gf5⟩:=hO.obj.cf6;have gl:=hO.obj.lt;have hO2:Own _ _ _ _ (.obj _ 29 #[.bool false,.bool true,.bool false,.slice none 0 0,.slice none 0 0,.slice none 0 0]::_):=((((((hO.set 0 (.bool false)).set 1 (.bool true)).set 2 (.bool false)).set 3 (.slice none 0 0)).set 4 (.slice none 0 0)).set 5 (.slice none 0 0));obtain⟨k0,k1,k2,k3,k4,k5⟩:=hO2.obj.cs6;have Hk:=zh (zi hO2.below (hS.le hO2.done));clear hO2 hS hO;go_wp2;refine yQ (v:=.tuple #[.agg #[.bool false,.bool true,.bool false,.slice none 0 0,.slice none 0 0,.slice none 0 0],.int .i64 0]) (by simp[results,Tryz.results81,go_sem,k0,k1,k2,k3,k4,k5]) rfl ?_
   exact hR.out _ _ ⟨⟨false,true,false,[],[],[]⟩,_,_,_,rfl,Hk.out.1,Hk.out.2,ML,⟨zS,zS,zS⟩⟩
  | tru hk hn h he=>
   subst hk;subst hn;subst h;subst he;have hS:ScAt m (.slice none 0 0) (.slice none 0 0) (.slice none 0 0) ⟨false,false,true,[],[],[]⟩:=⟨aV m,aV m,bC m⟩;clear HT;obtain⟨g0,g1,g2,g3,g4,g5,gf0,gf1,gf2,gf3,gf4,gf5⟩:=hO.obj.cf6;have gl:=hO.obj.lt;have hO2:Own _ _ _ _ (.obj _ 29 #[.bool false,.bool false,.bool true,.slice none 0 0,.slice none 0 0,.slice none 0 0]::_):=((((((hO.set 0 (.bool false)).set 1 (.bool false)).set 2 (.bool true)).set 3 (.slice none 0 0)).set 4 (.slice none 0 0)).set 5 (.slice none 0 0));obtain⟨k0,k1,k2,k3,k4,k5⟩:=hO2.obj.cs6;have Hk:=zh (zi hO2.below (hS.le hO2.done));clear hO2 hS hO;go_wp2;refine yQ (v:=.tuple #[.agg #[.bool false,.bool false,.bool true,.slice none 0 0,.slice none 0 0,.slice none 0 0],.int .i64 0]) (by simp[results,Tryz.results81,go_sem,k0,k1,k2,k3,k4,k5]) rfl ?_
   exact hR.out _ _ ⟨⟨false,false,true,[],[],[]⟩,_,_,_,rfl,Hk.out.1,Hk.out.2,MH,⟨zS,zS,zS⟩⟩
  | num hk hv h he=>
   subst hk h he;have HB:=zh (uC ⟨#[61,61]⟩ n s0 ai am li ci lm cm m _ hO.inn hnr.1 hnr.2);rw[(Jp hv).1,(Jp hv).2] at HB;have HI:=zh (MJ hv);have HEL:=zh (show (eqN n).i.length≤1∧(eqN n).rf.length≤1 from ⟨(eu (k:=1) zS zS).i,by rw[NS.jR];exact (eu (k:=1) zS zS).f⟩);have HO:=zh hO;clear hO HT hv;generalize eqN n=x at *
   go_wp2_with fail
   refine HB.out.mono ?_;rintro e w2 ⟨ri,rf,rfl,hb2,hn⟩;obtain⟨xa,xc,ya,yc,rfl,rfl⟩:=hn.spell;have hO:=HO.out.call hb2;have hS:ScAt _ (.slice xa x.i.length xc) (.slice ya x.rf.length yc) (.slice none 0 0) ⟨false,false,false,x.i,x.rf,[]⟩:=⟨hn.i,hn.f,bC _⟩;clear HB HO hb2 hn;obtain⟨g0,g1,g2,g3,g4,g5,gf0,gf1,gf2,gf3,gf4,gf5⟩:=hO.obj.cf6;have gl:=hO.obj.lt;have hO2:Own _ _ _ _ (.obj _ 29 #[.bool false,.bool false,.bool false,.slice xa x.i.length xc,.slice ya x.rf.length yc,.slice none 0 0]::_):=((((((hO.set 0 (.bool false)).set 1 (.bool false)).set 2 (.bool false)).set 3 (.slice xa x.i.length xc)).set 4 (.slice ya x.rf.length yc)).set 5 (.slice none 0 0));obtain⟨k0,k1,k2,k3,k4,k5⟩:=hO2.obj.cs6;have Hk:=zh (zi hO2.below (hS.le hO2.done));clear hO2 hS hO;go_wp2;refine yQ (v:=.tuple #[.agg #[.bool false,.bool false,.bool false,.slice xa x.i.length xc,.slice ya x.rf.length yc,.slice none 0 0],.int .i64 0]) (by simp[results,Tryz.results81,go_sem,k0,k1,k2,k3,k4,k5]) rfl ?_
   exact hR.out _ _ ⟨⟨false,false,false,x.i,x.rf,[]⟩,_,_,_,rfl,Hk.out.1,Hk.out.2,HI.out,⟨HEL.out.1,HEL.out.2,zS⟩⟩
  | str hk h he=>
   subst hk h he;have HB:=zh (yY ⟨#[61,61]⟩ wV 4 n s0 ai am li ci lm cm m _ hO.inn zD hs);rw[P8] at HB;have HO:=zh hO;clear hO HT
   go_wp2_with fail
   refine HB.out.mono ?_;rintro e w2 ⟨rt,C,rfl,hb2,hst,hl,-⟩;have HI:=zh (zi (MI (hl _ rfl)) (Im (hl _ rfl)));obtain⟨xa,xc,rfl⟩:=fB hst;have hO:=HO.out.call hb2;have hS:ScAt _ (.slice none 0 0) (.slice none 0 0) (.slice xa C.length xc) ⟨false,false,false,[],[],C⟩:=⟨aV _,aV _,hst⟩;clear HB HO hb2 hst hl;obtain⟨g0,g1,g2,g3,g4,g5,gf0,gf1,gf2,gf3,gf4,gf5⟩:=hO.obj.cf6;have gl:=hO.obj.lt;have hO2:Own _ _ _ _ (.obj _ 29 #[.bool false,.bool false,.bool false,.slice none 0 0,.slice none 0 0,.slice xa C.length xc]::_):=((((((hO.set 0 (.bool false)).set 1 (.bool false)).set 2 (.bool false)).set 3 (.slice none 0 0)).set 4 (.slice none 0 0)).set 5 (.slice xa C.length xc));obtain⟨k0,k1,k2,k3,k4,k5⟩:=hO2.obj.cs6;have Hk:=zh (zi hO2.below (hS.le hO2.done));clear hO2 hS hO;go_wp2;refine yQ (v:=.tuple #[.agg #[.bool false,.bool false,.bool false,.slice none 0 0,.slice none 0 0,.slice xa C.length xc],.int .i64 0]) (by simp[results,Tryz.results81,go_sem,k0,k1,k2,k3,k4,k5]) rfl ?_
   exact hR.out _ _ ⟨⟨false,false,false,[],[],C⟩,_,_,_,rfl,Hk.out.1,Hk.out.2,HI.out.1,⟨zS,zS,by show C.length≤_;rw[HI.out.2];exact zG _⟩⟩
  | parts hk h he=>
   subst h he;have hS:ScAt m (.slice none 0 0) (.slice none 0 0) (.slice none 0 0) dY:=ScAt.empty m;clear HT;rcases hk with rfl | rfl
   ·have g0:=hO.obj.c 0;have g1:=hO.obj.c 1;have g2:=hO.obj.c 2;have g3:=hO.obj.c 3;have g4:=hO.obj.c 4;have g5:=hO.obj.c 5;obtain⟨gf0,gf1,gf2,gf3,gf4,gf5⟩:=hO.obj.fr6;have gl:=hO.obj.lt;have hO2:Own _ _ _ _ (.obj _ 29 #[.bool false,.bool false,.bool false,.slice none 0 0,.slice none 0 0,.slice none 0 0]::_):=((((((hO.set 0 (.bool false)).set 1 (.bool false)).set 2 (.bool false)).set 3 (.slice none 0 0)).set 4 (.slice none 0 0)).set 5 (.slice none 0 0));obtain⟨k0,k1,k2,k3,k4,k5⟩:=hO2.obj.cs6;have Hk:=zh (zi hO2.below (hS.le hO2.done));clear hO2 hS hO;go_wp2;refine yQ (v:=.tuple #[.agg #[.bool false,.bool false,.bool false,.slice none 0 0,.slice none 0 0,.slice none 0 0],.int .i64 11]) (by simp[results,Tryz.results81,go_sem,k0,k1,k2,k3,k4,k5]) rfl ?_;exact hR.out _ _ ⟨dY,_,_,_,rfl,Hk.out.1,Hk.out.2,oU,gI _ _⟩
   ·have g0:=hO.obj.c 0;have g1:=hO.obj.c 1;have g2:=hO.obj.c 2;have g3:=hO.obj.c 3;have g4:=hO.obj.c 4;have g5:=hO.obj.c 5;obtain⟨gf0,gf1,gf2,gf3,gf4,gf5⟩:=hO.obj.fr6;have gl:=hO.obj.lt;have hO2:Own _ _ _ _ (.obj _ 29 #[.bool false,.bool false,.bool false,.slice none 0 0,.slice none 0 0,.slice none 0 0]::_):=((((((hO.set 0 (.bool false)).set 1 (.bool false)).set 2 (.bool false)).set 3 (.slice none 0 0)).set 4 (.slice none 0 0)).set 5 (.slice none 0 0));obtain⟨k0,k1,k2,k3,k4,k5⟩:=hO2.obj.cs6;have Hk:=zh (zi hO2.below (hS.le hO2.done));clear hO2 hS hO;go_wp2;refine yQ (v:=.tuple #[.agg #[.bool false,.bool false,.bool false,.slice none 0 0,.slice none 0 0,.slice none 0 0],.int .i64 11]) (by simp[results,Tryz.results81,go_sem,k0,k1,k2,k3,k4,k5]) rfl ?_;exact hR.out _ _ ⟨dY,_,_,_,rfl,Hk.out.1,Hk.out.2,oU,gI _ _⟩
 ·obtain⟨h1,h2⟩:=HOK.out.2 hcx;subst h1 h2;have hne:(er != 0)=true:=by simpa using hcx
  have hS:ScAt m (.slice none 0 0) (.slice none 0 0) (.slice none 0 0) dY:=ScAt.empty m;clear HT HOK hcx;obtain⟨g0,g1,g2,g3,g4,g5,gf0,gf1,gf2,gf3,gf4,gf5⟩:=hO.obj.cf6;have gl:=hO.obj.lt;have hO2:Own _ _ _ _ (.obj _ 29 #[.bool false,.bool false,.bool false,.slice none 0 0,.slice none 0 0,.slice none 0 0]::_):=((((((hO.set 0 (.bool false)).set 1 (.bool false)).set 2 (.bool false)).set 3 (.slice none 0 0)).set 4 (.slice none 0 0)).set 5 (.slice none 0 0));obtain⟨k0,k1,k2,k3,k4,k5⟩:=hO2.obj.cs6;have Hk:=zh (zi hO2.below (hS.le hO2.done));clear hO2 hS hO;go_wp2;refine yQ (v:=.tuple #[.agg #[.bool false,.bool false,.bool false,.slice none 0 0,.slice none 0 0,.slice none 0 0],.int .i64 er]) (by simp[results,Tryz.results81,go_sem,k0,k1,k2,k3,k4,k5]) rfl ?_;exact hR.out _ _ ⟨dY,_,_,_,rfl,Hk.out.1,Hk.out.2,oU,gI _ _⟩
theorem Ms (vi vm:Value) (d:Dt) (m:Mem) (w:World) (hm:m.inn w) (htab:TabM m) (hd:DtAt m vi vm d) (hc:cnt d≤1000000) (hs:d.str.size≤1000) :
 Calls Tryz.prog 86 #[d.val vi vm] w fun e w'=>∃s si sf st,e=.returned (.tuple #[s.val si sf st,.int .i64 (ofE d)])∧Below w.heap.size w w'∧ScAt (m.grow w w') si sf st s∧ScIs (fun e=>dtEl d=some e) s∧ScLe s 1 (d.str.size+1):=by
 have hO:=((Own.start hm).al #[.int .i64 d.kind,.int .i64 d.num,.string d.str,vi,vm] 68).al #[.bool false,.bool false,.bool false,.slice none 0 0,.slice none 0 0,.slice none 0 0] 29;simp only[bZ] at hO;have HC:=zh (nP vi vm d m _ hO.inn hd hc);have HOK:=zh (zi (fun h:chkD d 1=0=>IL h) (fun h:chkD d 1≠0=>Pg h));have hnr:=hd.ok.n;obtain⟨ai,ci,am,cm,rfl,rfl⟩:=hd.slices;have HT:=zh htab;unfold Dt.val at HC ⊢;have HO:=zh hO;clear hO hd hc htab;generalize chkD d 1=cx at *
 generalize ofE d=er at *
 generalize dtEl d=de at *
 generalize d.kind=k at *
 generalize d.num=n at *
 generalize d.str=s0 at *
 generalize d.items.length=li at *
 generalize d.bK.length=lm at *
 refine aj fun R hR=>?_
 go_enter Tryz.func86,Tryz.ntmps86
 go_wp2_with fail
 refine HC.out.mono ?_;rintro e w1 ⟨rfl,hb1⟩;have hO:=HO.out.move hb1;clear HC HO hb1;by_cases hcx:cx=0
 ·have hq:=HOK.out.1 hcx;subst hcx;obtain⟨q0,q1,q2,q3,q4⟩:=hO.swap.obj.cs5;have q5:=hO.swap.obj.lt;clear HOK
  cases hq with
  | nul hk h he=>
   subst hk;subst h;subst he;have hS:ScAt m (.slice none 0 0) (.slice none 0 0) (.slice none 0 0) ⟨true,false,false,[],[],[]⟩:=⟨aV m,aV m,bC m⟩;clear HT;obtain⟨g0,g1,g2,g3,g4,g5,gf0,gf1,gf2,gf3,gf4,gf5⟩:=hO.obj.cf6;have gl:=hO.obj.lt;have hO2:Own _ _ _ _ (.obj _ 29 #[.bool true,.bool false,.bool false,.slice none 0 0,.slice none 0 0,.slice none 0 0]::_):=((((((hO.set 0 (.bool true)).set 1 (.bool false)).set 2 (.bool false)).set 3 (.slice none 0 0)).set 4 (.slice none 0 0)).set 5 (.slice none 0 0));obtain⟨k0,k1,k2,k3,k4,k5⟩:=hO2.obj.cs6;have Hk:=zh (zi hO2.below (hS.le hO2.done));clear hO2 hS hO;go_wp2;refine yQ (v:=.tuple #[.agg #[.bool true,.bool false,.bool false,.slice none 0 0,.slice none 0 0,.slice none 0 0],.int .i64 0]) (by simp[results,Tryz.results86,go_sem,k0,k1,k2,k3,k4,k5]) rfl ?_
   exact hR.out _ _ ⟨⟨true,false,false,[],[],[]⟩,_,_,_,rfl,Hk.out.1,Hk.out.2,MK,⟨zS,zS,zS⟩⟩
  | fal hk hn h he=>
   subst hk;subst hn;subst h;subst he;have hS:ScAt m (.slice none 0 0) (.slice none 0 0) (.slice none 0 0) ⟨false,true,false,[],[],[]⟩:=⟨aV m,aV m,bC m⟩;clear HT;obtain⟨g0,g1,g2,g3,g4,g5,gf0,gf1,gf2,gf3,gf4,gf5⟩:=hO.obj.cf6;have gl:=hO.obj.lt;have hO2:Own _ _ _ _ (.obj _ 29 #[.bool false,.bool true,.bool false,.slice none 0 0,.slice none 0 0,.slice none 0 0]::_):=((((((hO.set 0 (.bool false)).set 1 (.bool true)).set 2 (.bool false)).set 3 (.slice none 0 0)).set 4 (.slice none 0 0)).set 5 (.slice none 0 0));obtain⟨k0,k1,k2,k3,k4,k5⟩:=hO2.obj.cs6;have Hk:=zh (zi hO2.below (hS.le hO2.done));clear hO2 hS hO;go_wp2;refine yQ (v:=.tuple #[.agg #[.bool false,.bool true,.bool false,.slice none 0 0,.slice none 0 0,.slice none 0 0],.int .i64 0]) (by simp[results,Tryz.results86,go_sem,k0,k1,k2,k3,k4,k5]) rfl ?_
   exact hR.out _ _ ⟨⟨false,true,false,[],[],[]⟩,_,_,_,rfl,Hk.out.1,Hk.out.2,ML,⟨zS,zS,zS⟩⟩
  | tru hk hn h he=>
   subst hk;subst hn;subst h;subst he;have hS:ScAt m (.slice none 0 0) (.slice none 0 0) (.slice none 0 0) ⟨false,false,true,[],[],[]⟩:=⟨aV m,aV m,bC m⟩;clear HT;obtain⟨g0,g1,g2,g3,g4,g5,gf0,gf1,gf2,gf3,gf4,gf5⟩:=hO.obj.cf6;have gl:=hO.obj.lt;have hO2:Own _ _ _ _ (.obj _ 29 #[.bool false,.bool false,.bool true,.slice none 0 0,.slice none 0 0,.slice none 0 0]::_):=((((((hO.set 0 (.bool false)).set 1 (.bool false)).set 2 (.bool true)).set 3 (.slice none 0 0)).set 4 (.slice none 0 0)).set 5 (.slice none 0 0));obtain⟨k0,k1,k2,k3,k4,k5⟩:=hO2.obj.cs6;have Hk:=zh (zi hO2.below (hS.le hO2.done));clear hO2 hS hO;go_wp2;refine yQ (v:=.tuple #[.agg #[.bool false,.bool false,.bool true,.slice none 0 0,.slice none 0 0,.slice none 0 0],.int .i64 0]) (by simp[results,Tryz.results86,go_sem,k0,k1,k2,k3,k4,k5]) rfl ?_
   exact hR.out _ _ ⟨⟨false,false,true,[],[],[]⟩,_,_,_,rfl,Hk.out.1,Hk.out.2,MH,⟨zS,zS,zS⟩⟩
  | num hk hv h he=>
   subst hk h he;have HB:=zh (DY ⟨#[61,61]⟩ n m _ hO.inn hnr.1 hnr.2);rw[(Jp hv).1,(Jp hv).2] at HB;have HI:=zh (MJ hv);have HEL:=zh (show (eqN n).i.length≤1∧(eqN n).rf.length≤1 from ⟨(eu (k:=1) zS zS).i,by rw[NS.jR];exact (eu (k:=1) zS zS).f⟩);have HO:=zh hO;clear hO HT hv;generalize eqN n=x at *
   go_wp2_with fail
   refine HB.out.mono ?_;rintro e w2 ⟨ri,rf,rfl,hb2,hn⟩;obtain⟨xa,xc,ya,yc,rfl,rfl⟩:=hn.spell;have hO1:=((HO.out.call hb2).al #[.slice xa x.i.length xc,.slice ya x.rf.length yc] 24).swap;have HS:Hid _:=zh (show ScAt _ (.slice xa x.i.length xc) (.slice ya x.rf.length yc) (.slice none 0 0) ⟨false,false,false,x.i,x.rf,[]⟩ from ⟨hn.i,hn.f,bC _⟩);have HO1:=zh hO1;clear HB HO hb2 hn hO1 q0 q1 q2 q3 q4 q5
   go_upto_region 11 with (fail)
   generalize hW:w2.alloc (.cells #[.slice xa x.i.length xc,.slice ya x.rf.length yc] 24)=w3 at *
   generalize w2.heap.size=gx at *
   have hO:=HO1.out;have hS:=HS.out;have q0:=hO.swap.obj.c 0;have q1:=hO.swap.obj.c 1;have q2:=hO.swap.obj.lt;clear HO1 HS hW;obtain⟨g0,g1,g2,g3,g4,g5,gf0,gf1,gf2,gf3,gf4,gf5⟩:=hO.obj.cf6;have gl:=hO.obj.lt;have hO2:Own _ _ _ _ (.obj _ 29 #[.bool false,.bool false,.bool false,.slice xa x.i.length xc,.slice ya x.rf.length yc,.slice none 0 0]::_):=((((((hO.set 0 (.bool false)).set 1 (.bool false)).set 2 (.bool false)).set 3 (.slice xa x.i.length xc)).set 4 (.slice ya x.rf.length yc)).set 5 (.slice none 0 0));obtain⟨k0,k1,k2,k3,k4,k5⟩:=hO2.obj.cs6;have Hk:=zh (zi hO2.below (hS.le hO2.done));clear hO2 hS hO;go_wp2;refine yQ (v:=.tuple #[.agg #[.bool false,.bool false,.bool false,.slice xa x.i.length xc,.slice ya x.rf.length yc,.slice none 0 0],.int .i64 0]) (by simp[results,Tryz.results86,go_sem,k0,k1,k2,k3,k4,k5]) rfl ?_
   exact hR.out _ _ ⟨⟨false,false,false,x.i,x.rf,[]⟩,_,_,_,rfl,Hk.out.1,Hk.out.2,HI.out,⟨HEL.out.1,HEL.out.2,zS⟩⟩
  | str hk h he=>
   subst hk h he;have HB:=zh (F7 s0 m _ hO.inn hs);rw[BF] at HB;have HI:=zh (zi (MI (sP s0.data.toList)) (Im (sP s0.data.toList)));generalize jZ s0.data.toList=C at *
   have HO:=zh hO;clear hO HT
   go_wp2_with fail
   refine HB.out.mono ?_;rintro e w2 ⟨rt,rfl,hb2,hst⟩;obtain⟨xa,xc,rfl⟩:=fB hst;have hO:=HO.out.call hb2;have hS:ScAt _ (.slice none 0 0) (.slice none 0 0) (.slice xa C.length xc) ⟨false,false,false,[],[],C⟩:=⟨aV _,aV _,hst⟩;clear HB HO hb2 hst;obtain⟨g0,g1,g2,g3,g4,g5,gf0,gf1,gf2,gf3,gf4,gf5⟩:=hO.obj.cf6;have gl:=hO.obj.lt;have hO2:Own _ _ _ _ (.obj _ 29 #[.bool false,.bool false,.bool false,.slice none 0 0,.slice none 0 0,.slice xa C.length xc]::_):=((((((hO.set 0 (.bool false)).set 1 (.bool false)).set 2 (.bool false)).set 3 (.slice none 0 0)).set 4 (.slice none 0 0)).set 5 (.slice xa C.length xc));obtain⟨k0,k1,k2,k3,k4,k5⟩:=hO2.obj.cs6;have Hk:=zh (zi hO2.below (hS.le hO2.done));clear hO2 hS hO;go_wp2;refine yQ (v:=.tuple #[.agg #[.bool false,.bool false,.bool false,.slice none 0 0,.slice none 0 0,.slice xa C.length xc],.int .i64 0]) (by simp[results,Tryz.results86,go_sem,k0,k1,k2,k3,k4,k5]) rfl ?_
   exact hR.out _ _ ⟨⟨false,false,false,[],[],C⟩,_,_,_,rfl,Hk.out.1,Hk.out.2,HI.out.1,⟨zS,zS,by show C.length≤_;rw[HI.out.2];exact zG _⟩⟩
  | parts hk h he=>
   subst h he;have hS:ScAt m (.slice none 0 0) (.slice none 0 0) (.slice none 0 0) dY:=ScAt.empty m;clear HT;rcases hk with rfl | rfl
   ·have g0:=hO.obj.c 0;have g1:=hO.obj.c 1;have g2:=hO.obj.c 2;have g3:=hO.obj.c 3;have g4:=hO.obj.c 4;have g5:=hO.obj.c 5;obtain⟨gf0,gf1,gf2,gf3,gf4,gf5⟩:=hO.obj.fr6;have gl:=hO.obj.lt;have hO2:Own _ _ _ _ (.obj _ 29 #[.bool false,.bool false,.bool false,.slice none 0 0,.slice none 0 0,.slice none 0 0]::_):=((((((hO.set 0 (.bool false)).set 1 (.bool false)).set 2 (.bool false)).set 3 (.slice none 0 0)).set 4 (.slice none 0 0)).set 5 (.slice none 0 0));obtain⟨k0,k1,k2,k3,k4,k5⟩:=hO2.obj.cs6;have Hk:=zh (zi hO2.below (hS.le hO2.done));clear hO2 hS hO;go_wp2;refine yQ (v:=.tuple #[.agg #[.bool false,.bool false,.bool false,.slice none 0 0,.slice none 0 0,.slice none 0 0],.int .i64 11]) (by simp[results,Tryz.results86,go_sem,k0,k1,k2,k3,k4,k5]) rfl ?_;exact hR.out _ _ ⟨dY,_,_,_,rfl,Hk.out.1,Hk.out.2,oU,gI _ _⟩
   ·have g0:=hO.obj.c 0;have g1:=hO.obj.c 1;have g2:=hO.obj.c 2;have g3:=hO.obj.c 3;have g4:=hO.obj.c 4;have g5:=hO.obj.c 5;obtain⟨gf0,gf1,gf2,gf3,gf4,gf5⟩:=hO.obj.fr6;have gl:=hO.obj.lt;have hO2:Own _ _ _ _ (.obj _ 29 #[.bool false,.bool false,.bool false,.slice none 0 0,.slice none 0 0,.slice none 0 0]::_):=((((((hO.set 0 (.bool false)).set 1 (.bool false)).set 2 (.bool false)).set 3 (.slice none 0 0)).set 4 (.slice none 0 0)).set 5 (.slice none 0 0));obtain⟨k0,k1,k2,k3,k4,k5⟩:=hO2.obj.cs6;have Hk:=zh (zi hO2.below (hS.le hO2.done));clear hO2 hS hO;go_wp2;refine yQ (v:=.tuple #[.agg #[.bool false,.bool false,.bool false,.slice none 0 0,.slice none 0 0,.slice none 0 0],.int .i64 11]) (by simp[results,Tryz.results86,go_sem,k0,k1,k2,k3,k4,k5]) rfl ?_;exact hR.out _ _ ⟨dY,_,_,_,rfl,Hk.out.1,Hk.out.2,oU,gI _ _⟩
 ·obtain⟨h1,h2⟩:=HOK.out.2 hcx;subst h1 h2;have hne:(er != 0)=true:=by simpa using hcx
  have hS:ScAt m (.slice none 0 0) (.slice none 0 0) (.slice none 0 0) dY:=ScAt.empty m;clear HT HOK hcx;obtain⟨g0,g1,g2,g3,g4,g5,gf0,gf1,gf2,gf3,gf4,gf5⟩:=hO.obj.cf6;have gl:=hO.obj.lt;have hO2:Own _ _ _ _ (.obj _ 29 #[.bool false,.bool false,.bool false,.slice none 0 0,.slice none 0 0,.slice none 0 0]::_):=((((((hO.set 0 (.bool false)).set 1 (.bool false)).set 2 (.bool false)).set 3 (.slice none 0 0)).set 4 (.slice none 0 0)).set 5 (.slice none 0 0));obtain⟨k0,k1,k2,k3,k4,k5⟩:=hO2.obj.cs6;have Hk:=zh (zi hO2.below (hS.le hO2.done));clear hO2 hS hO;go_wp2;refine yQ (v:=.tuple #[.agg #[.bool false,.bool false,.bool false,.slice none 0 0,.slice none 0 0,.slice none 0 0],.int .i64 er]) (by simp[results,Tryz.results86,go_sem,k0,k1,k2,k3,k4,k5]) rfl ?_;exact hR.out _ _ ⟨dY,_,_,_,rfl,Hk.out.1,Hk.out.2,oU,gI _ _⟩
def Ab (p:El→Prop) (r:Option El):Prop:=(∃e,r=some e∧p e∧∀x,p x→x=e)∨(r=none∧¬ ∃e,p e∧∀x,p x→x=e)
theorem uz {p:El→Prop} {r s:Option El} (h:Ab p r) (k:Ab p s):r=s:=by
 rcases h with ⟨e,rfl,h1,h2⟩ | ⟨rfl,h1⟩ <;> rcases k with ⟨f,rfl,k1,k2⟩ | ⟨rfl,k1⟩
 ·rw[k2 e h1]
 ·exact absurd ⟨e,h1,h2⟩ k1
 ·exact absurd ⟨f,k1,k2⟩ h1
 ·rfl
theorem Al {p:El→Prop} (h:fJ p none):Ab p none:=.inr ⟨rfl,fun ⟨e,he,_⟩=>h e he⟩
theorem Ak {p:El→Prop} {e:El} (h:fJ p (some e)) (k:∀x,p x→x=e):Ab p (some e):=.inl ⟨e,rfl,h.1,k⟩
theorem Du {p:El→Prop} {e:El} (h:fJ p (some e)) (k:¬ ∀x,p x→x=e):Ab p none:=.inr ⟨rfl,fun ⟨_,_,hx⟩=>k fun x hp=>(hx x hp).trans (hx e h.1).symm⟩
theorem kR {e:El} (h:elOk e):dtEl (lstD (some e))=some e:=oh e h
theorem ic (r:Option El):(lstD r).items=[]∧(lstD r).bK=[]∧cnt (lstD r)=1:=by
 cases r with
 | none=>exact⟨rfl,rfl,rfl⟩
 | some e=>cases e <;> exact⟨rfl,rfl,rfl⟩
theorem M7 {s:RS} {n t:Nat} (hl:ScLe s n t) {z:List UInt8} (h:fJ (dJ s).has (some (.str z))):z.length<t:=by
 have hc:=(GI s).ct;have h1:aC (dJ s).t 0 z=true:=by rw[← fF hc];exact h.1
 have h2:=(rP hl).t;apply zN;intro hn;obtain⟨y,hy,hlt,-⟩:=pump h1 zo;rcases h.2 (.str y) (by show Sem _ _=true;rw[fF hc];exact hy) with e | e
 ·injection e with e;rw[e] at hlt;omega
 ·rcases (show slt z y from e) with k | k <;> omega
theorem oV {s:RS} {n t:Nat} (hl:ScLe s n t) {e:El} (h:fJ (dJ s).has (some e)):(lstD (some e)).str.size≤t:=by
 cases e with
 | str z=>have:=M7 hl h;show z.length≤t;omega
 | _=>exact zC _
theorem Gt (m:Mem) {e:El} (h:elOk e) (hz:(lstD (some e)).str.size≤maxLen):DtAt m (.slice none 0 0) (.slice none 0 0) (lstD (some e)):=by
 cases e with
 | num u=>have hu:bG u:=h;unfold bG maxU at hu;exact DtAt.leaf m 3 u _ zo zo hz
 | nul=>exact DtAt.leaf m 1 0 _ zo zo hz
 | fal=>exact DtAt.leaf m 2 0 _ zo zo hz
 | tru=>exact DtAt.leaf m 2 1 _ zo zo hz
 | str z=>exact DtAt.leaf m 4 0 _ zo zo hz
theorem JP {s one:RS} {e:El} (hk:elOk e) (ho:ScIs (fun x=>dtEl (lstD (some e))=some x) one):subB s one=tf (∀x,(dJ s).has x→x=e):=by
 unfold subB;refine fK ⟨fun h x hx=>?_,fun h x hx=>?_⟩
 ·have:=(ho.mem x).1 (by rw[← iX ho.valid];exact h x hx);rw[kR hk] at this;cases this;rfl
 ·rw[iX ho.valid,ho.mem,h x hx,kR hk]
theorem FL {s one:RS} {e:El} (hl:fJ (dJ s).has (some e)) (ho:ScIs (fun x=>dtEl (lstD (some e))=some x) one):tf (one=s)=tf (∀x,(dJ s).has x→x=e):=by
 have hk:=Be hl.1;have hv:s.gK:=by
  apply zN;intro hn;have:=hl.1;rw[rQ hn] at this;exact tQ _ this
 rw[iX hv] at hl ⊢;refine fK ?_;rw[FQ ho (Mg hv),kR hk];constructor
 ·intro h x hx;have:=(h x).2 hx;cases this;rfl
 ·intro h x;constructor
  ·intro hx;cases hx;exact hl.1
  ·intro hx;rw[h x hx]
theorem uB (vi vf vt:Value) (s:RS) (n t:Nat) (m:Mem) (w:World) (hm:m.inn w) (htab:TabM m) (hs:ScAt m vi vf vt s) (hl:ScLe s n t) (hn:n≤250) (ht:(t+2)*(t+3)≤99999) :
 Calls Tryz.prog 46 #[s.val vi vf vt] w fun e w'=>∃r,e=.returned (.tuple #[(lstD r).val (.slice none 0 0) (.slice none 0 0),.bool r.isSome])∧Below w.heap.size w w'∧Ab (dJ s).has r:=by
 have htt:t≤400:=by
  have:(t+2)*1≤(t+2)*(t+3):=Nat.mul_le_mul_left _ zo;apply zN;intro h;have:=Nat.mul_le_mul (show 403≤t+2 by omega) (show 404≤t+3 by omega);omega
 have hO:=((Own.start hm).al #[.bool s.nul,.bool s.fal,.bool s.tru,vi,vf,vt] 29).al #[.int .i64 0,.int .i64 0,.string ⟨#[]⟩,.slice none 0 0,.slice none 0 0] 68;simp only[bZ] at hO;have HL:=zh (mJ vi vf vt s m _ hO.inn htab hs (hl.mono zo zo));have HF:=zh (fun e (h:fJ (dJ s).has (some e)) w' (hi:m.inn w')=>vG (.slice none 0 0) (.slice none 0 0) (lstD (some e)) m w' hi htab (Gt m (Be h.1) (yE (oV hl h) (by simp[maxLen];omega))) (by rw[(ic _).2.2];omega) (yE (oV hl h) zo));have HS:=zh (fun e (h:fJ (dJ s).has (some e)) (one:RS) si sf st (mk:Mem) w' (hi:mk.inn w') (hle:m.le mk) (h1:ScAt mk si sf st one) (h2:ScIs (fun x=>dtEl (lstD (some e))=some x) one) (h3:ScLe one 1 ((lstD (some e)).str.size+1))=>by
  have h4:=uA vi vf vt s si sf st one n t 1 (t+1) mk w' hi (htab.le hle) (hs.le hle) h1 hl (h3.mono (zG _) (by have:=oV hl h;omega)) hn zo ht;rw[JP (Be h.1) h2] at h4;exact h4)
 obtain⟨a1,b1,a2,b2,a3,b3,rfl,rfl,rfl⟩:=hs.spell;unfold RS.val at HL HS ⊢;unfold Dt.val at HF;have HO:=zh hO;clear hO hs hl htab;refine aj fun R hR=>?_
 go_enter Tryz.func46,Tryz.ntmps46
 go_wp2_with fail
 refine HL.out.mono ?_;rintro e w1 ⟨r,rfl,hb1,hr⟩;have hO1:=(HO.out.move hb1);unfold Dt.val
 cases r with
 | none=>
  have hO:=(hO1.al #[.int .i64 0,.int .i64 0,.string ⟨#[]⟩,.slice none 0 0,.slice none 0 0] 68).swap;have HC:=zh (Al hr);have e1:(lstD none).kind=0:=rfl;have e2:(lstD none).num=0:=rfl;have e3:(lstD none).str=⟨#[]⟩:=rfl;have e4:(none:Option El).isSome=false:=rfl;rw[e1,e2,e3,e4];clear HL HO HF HS hb1 hr hO1 e1 e2 e3 e4;obtain⟨g0,g1,g2,g3,g4,f0,f1,f2,f3,f4⟩:=hO.obj.cf5;have gl:=hO.obj.lt;have hO2:=((((hO.set 0 (.int .i64 0)).set 1 (.int .i64 0)).set 2 (.string ⟨#[]⟩)).set 3 (.slice none 0 0)).set 4 (.slice none 0 0);have hO2:Own _ _ _ _ (.obj _ 68 #[.int .i64 0,.int .i64 0,.string ⟨#[]⟩,.slice none 0 0,.slice none 0 0]::_):=hO2;obtain⟨k0,k1,k2,k3,k4⟩:=hO2.obj.cs5;have Hk:=zh (zi hO2.below (HC.out));clear hO hO2;go_wp2;refine yQ (v:=.tuple #[.agg #[.int .i64 0,.int .i64 0,.string ⟨#[]⟩,.slice none 0 0,.slice none 0 0],.bool false]) (by simp[results,Tryz.results46,go_sem,k0,k1,k2,k3,k4]) rfl ?_
  exact hR.out _ _ ⟨none,rfl,Hk.out.1,Hk.out.2⟩
 | some e0=>
  have hO2:=hO1.al #[.int .i64 (lstD (some e0)).kind,.int .i64 (lstD (some e0)).num,.string (lstD (some e0)).str,.slice none 0 0,.slice none 0 0] 68;have HF2:=zh (HF.out e0 hr _ hO2.inn);have HS2:=zh (HS.out e0 hr);have HC:=zh (zi (fun h=>Ak hr h) (fun h=>Du hr h));generalize hk:(lstD (some e0)).kind=dk at *
  generalize hn0:(lstD (some e0)).num=dn at *
  generalize hz:(lstD (some e0)).str=dz at *
  have HE:=zh (zi hk (zi hn0 hz));have e4:(some e0:Option El).isSome=true:=rfl;rw[e4];obtain⟨q0,q1,q2,q3,q4⟩:=hO2.obj.cs5;have HO2:=zh hO2;clear HL HO HF HS hb1 hr hO1 hk hn0 hz hO2 e4
  go_wp2_with fail
  refine HF2.out.mono ?_;rintro e w2 ⟨one,si,sf,st,rfl,hb2,h1,h2,h3⟩;obtain⟨xa,xb,xc,xd,xe,xf,rfl,rfl,rfl⟩:=h1.spell;unfold RS.val;have hO3:=(HO2.out.call hb2).al #[.bool one.nul,.bool one.fal,.bool one.tru,.slice xa one.i.length xb,.slice xc one.f.length xd,.slice xe one.t.length xf] 29;have HS3:=zh (HS2.out one _ _ _ _ _ hO3.inn hO3.ext.1 h1 h2 h3);clear HS2 HF2 q0 q1 q2 q3 q4;obtain⟨q0,q1,q2,q3,q4,q5⟩:=hO3.obj.cs6;have q6:=hO3.obj.lt;have p0:=(HO2.out.call hb2).third.obj.c 0;have p1:=(HO2.out.call hb2).third.obj.c 1;have p2:=(HO2.out.call hb2).third.obj.c 2;have p3:=(HO2.out.call hb2).third.obj.c 3;have p4:=(HO2.out.call hb2).third.obj.c 4;have p5:=(HO2.out.call hb2).third.obj.c 5;have p6:=(HO2.out.call hb2).third.obj.lt;have HO3:=zh hO3;clear HO2 hb2 h1 h2 h3 hO3
  go_wp2_with fail
  refine HS3.out.mono ?_;rintro e w3 ⟨rfl,hb3⟩;have hO4:=(HO3.out.move hb3);have HC2:=zh (zi (fun h:tf (∀x,(dJ s).has x→x=e0)=true=>HC.out.1 (Di.1 h)) (fun h:tf (∀x,(dJ s).has x→x=e0)=false=>HC.out.2 (fun k=>by rw[aN k] at h;cases h)));generalize tf (∀x,(dJ s).has x→x=e0)=bo at *
  have hO5:=hO4.swap;have hO:=hO4.third;clear HS3 HO3 hb3 HC q0 q1 q2 q3 q4 q5 q6 p0 p1 p2 p3 p4 p5 p6
  cases bo with
  | true=>
   obtain⟨z0,z1,z2,z3,z4⟩:=hO5.obj.cs5;clear hO4 hO5;obtain⟨g0,g1,g2,g3,g4,f0,f1,f2,f3,f4⟩:=hO.obj.cf5;have gl:=hO.obj.lt;have hO2:=((((hO.set 0 (.int .i64 dk)).set 1 (.int .i64 dn)).set 2 (.string dz)).set 3 (.slice none 0 0)).set 4 (.slice none 0 0);have hO2:Own _ _ _ _ (.obj _ 68 #[.int .i64 dk,.int .i64 dn,.string dz,.slice none 0 0,.slice none 0 0]::_):=hO2;obtain⟨k0,k1,k2,k3,k4⟩:=hO2.obj.cs5;have Hk:=zh (zi hO2.below (HC2.out.1 rfl));clear hO hO2;go_wp2;refine yQ (v:=.tuple #[.agg #[.int .i64 dk,.int .i64 dn,.string dz,.slice none 0 0,.slice none 0 0],.bool true]) (by simp[results,Tryz.results46,go_sem,k0,k1,k2,k3,k4]) rfl ?_
   exact hR.out _ _ ⟨some e0,by unfold Dt.val;rw[HE.out.1,HE.out.2.1,HE.out.2.2];rfl,Hk.out.1,Hk.out.2⟩
  | false=>
   clear hO4 hO5;obtain⟨g0,g1,g2,g3,g4,f0,f1,f2,f3,f4⟩:=hO.obj.cf5;have gl:=hO.obj.lt;have hO2:=((((hO.set 0 (.int .i64 0)).set 1 (.int .i64 0)).set 2 (.string ⟨#[]⟩)).set 3 (.slice none 0 0)).set 4 (.slice none 0 0);have hO2:Own _ _ _ _ (.obj _ 68 #[.int .i64 0,.int .i64 0,.string ⟨#[]⟩,.slice none 0 0,.slice none 0 0]::_):=hO2;obtain⟨k0,k1,k2,k3,k4⟩:=hO2.obj.cs5;have Hk:=zh (zi hO2.below (HC2.out.2 rfl));clear hO hO2;go_wp2;refine yQ (v:=.tuple #[.agg #[.int .i64 0,.int .i64 0,.string ⟨#[]⟩,.slice none 0 0,.slice none 0 0],.bool false]) (by simp[results,Tryz.results46,go_sem,k0,k1,k2,k3,k4]) rfl ?_;exact hR.out _ _ ⟨none,rfl,Hk.out.1,Hk.out.2⟩
theorem BV (vi vf vt:Value) (s:RS) (n t:Nat) (m:Mem) (w:World) (hm:m.inn w) (htab:TabM m) (hs:ScAt m vi vf vt s) (hl:ScLe s n t) (hn:n≤250) (ht:(t+2)*(t+3)≤99999) :
 Calls Tryz.prog 47 #[s.val vi vf vt] w fun e w'=>∃r,e=.returned (.tuple #[(lstD r).val (.slice none 0 0) (.slice none 0 0),.bool r.isSome])∧Below w.heap.size w w'∧Ab (dJ s).has r:=by
 have htt:t≤400:=by
  have:(t+2)*1≤(t+2)*(t+3):=Nat.mul_le_mul_left _ zo;apply zN;intro h;have:=Nat.mul_le_mul (show 403≤t+2 by omega) (show 404≤t+3 by omega);omega
 have hO:=((Own.start hm).al #[.bool s.nul,.bool s.fal,.bool s.tru,vi,vf,vt] 29).al #[.int .i64 0,.int .i64 0,.string ⟨#[]⟩,.slice none 0 0,.slice none 0 0] 68;simp only[bZ] at hO;have HL:=zh (uD vi vf vt s m _ hO.inn htab hs (hl.mono zo zo));have HF:=zh (fun e (h:fJ (dJ s).has (some e)) w' (hi:m.inn w')=>Ms (.slice none 0 0) (.slice none 0 0) (lstD (some e)) m w' hi htab (Gt m (Be h.1) (yE (oV hl h) (by simp[maxLen];omega))) (by rw[(ic _).2.2];omega) (yE (oV hl h) zo));have HS:=zh (fun e (h:fJ (dJ s).has (some e)) (one:RS) si sf st (mk:Mem) w' (hi:mk.inn w') (hle:m.le mk) (h1:ScAt mk si sf st one) (h2:ScIs (fun x=>dtEl (lstD (some e))=some x) one) (h3:ScLe one 1 ((lstD (some e)).str.size+1))=>by
  have h4:=F5 si sf st vi vf vt one s mk w' hi h1 (hs.le hle);rw[FL h h2] at h4;exact h4)
 obtain⟨a1,b1,a2,b2,a3,b3,rfl,rfl,rfl⟩:=hs.spell;unfold RS.val at HL HS ⊢;unfold Dt.val at HF;have HO:=zh hO;clear hO hs hl htab;refine aj fun R hR=>?_
 go_enter Tryz.func47,Tryz.ntmps47
 go_wp2_with fail
 refine HL.out.mono ?_;rintro e w1 ⟨r,rfl,hb1,hr⟩;have hO1:=(HO.out.move hb1);unfold Dt.val
 cases r with
 | none=>
  have hO:=(hO1.al #[.int .i64 0,.int .i64 0,.string ⟨#[]⟩,.slice none 0 0,.slice none 0 0] 68).swap;have HC:=zh (Al hr);have e1:(lstD none).kind=0:=rfl;have e2:(lstD none).num=0:=rfl;have e3:(lstD none).str=⟨#[]⟩:=rfl;have e4:(none:Option El).isSome=false:=rfl;rw[e1,e2,e3,e4];clear HL HO HF HS hb1 hr hO1 e1 e2 e3 e4;obtain⟨g0,g1,g2,g3,g4,f0,f1,f2,f3,f4⟩:=hO.obj.cf5;have gl:=hO.obj.lt;have hO2:=((((hO.set 0 (.int .i64 0)).set 1 (.int .i64 0)).set 2 (.string ⟨#[]⟩)).set 3 (.slice none 0 0)).set 4 (.slice none 0 0);have hO2:Own _ _ _ _ (.obj _ 68 #[.int .i64 0,.int .i64 0,.string ⟨#[]⟩,.slice none 0 0,.slice none 0 0]::_):=hO2;obtain⟨k0,k1,k2,k3,k4⟩:=hO2.obj.cs5;have Hk:=zh (zi hO2.below (HC.out));clear hO hO2;go_wp2;refine yQ (v:=.tuple #[.agg #[.int .i64 0,.int .i64 0,.string ⟨#[]⟩,.slice none 0 0,.slice none 0 0],.bool false]) (by simp[results,Tryz.results47,go_sem,k0,k1,k2,k3,k4]) rfl ?_
  exact hR.out _ _ ⟨none,rfl,Hk.out.1,Hk.out.2⟩
 | some e0=>
  have hO2:=hO1.al #[.int .i64 (lstD (some e0)).kind,.int .i64 (lstD (some e0)).num,.string (lstD (some e0)).str,.slice none 0 0,.slice none 0 0] 68;have HF2:=zh (HF.out e0 hr _ hO2.inn);have HS2:=zh (HS.out e0 hr);have HC:=zh (zi (fun h=>Ak hr h) (fun h=>Du hr h));generalize hk:(lstD (some e0)).kind=dk at *
  generalize hn0:(lstD (some e0)).num=dn at *
  generalize hz:(lstD (some e0)).str=dz at *
  have HE:=zh (zi hk (zi hn0 hz));have e4:(some e0:Option El).isSome=true:=rfl;rw[e4];obtain⟨q0,q1,q2,q3,q4⟩:=hO2.obj.cs5;have HO2:=zh hO2;clear HL HO HF HS hb1 hr hO1 hk hn0 hz hO2 e4
  go_wp2_with fail
  refine HF2.out.mono ?_;rintro e w2 ⟨one,si,sf,st,rfl,hb2,h1,h2,h3⟩;obtain⟨xa,xb,xc,xd,xe,xf,rfl,rfl,rfl⟩:=h1.spell;unfold RS.val;have hO3:=(HO2.out.call hb2).al #[.bool one.nul,.bool one.fal,.bool one.tru,.slice xa one.i.length xb,.slice xc one.f.length xd,.slice xe one.t.length xf] 29;have HS3:=zh (HS2.out one _ _ _ _ _ hO3.inn hO3.ext.1 h1 h2 h3);clear HS2 HF2 q0 q1 q2 q3 q4;obtain⟨q0,q1,q2,q3,q4,q5⟩:=hO3.obj.cs6;have q6:=hO3.obj.lt;have p0:=(HO2.out.call hb2).third.obj.c 0;have p1:=(HO2.out.call hb2).third.obj.c 1;have p2:=(HO2.out.call hb2).third.obj.c 2;have p3:=(HO2.out.call hb2).third.obj.c 3;have p4:=(HO2.out.call hb2).third.obj.c 4;have p5:=(HO2.out.call hb2).third.obj.c 5;have p6:=(HO2.out.call hb2).third.obj.lt;have HO3:=zh hO3;clear HO2 hb2 h1 h2 h3 hO3
  go_wp2_with fail
  refine HS3.out.mono ?_;rintro e w3 ⟨rfl,hb3⟩;have hO4:=(HO3.out.move hb3);have HC2:=zh (zi (fun h:tf (∀x,(dJ s).has x→x=e0)=true=>HC.out.1 (Di.1 h)) (fun h:tf (∀x,(dJ s).has x→x=e0)=false=>HC.out.2 (fun k=>by rw[aN k] at h;cases h)));generalize tf (∀x,(dJ s).has x→x=e0)=bo at *
  have hO5:=hO4.swap;have hO:=hO4.third;clear HS3 HO3 hb3 HC q0 q1 q2 q3 q4 q5 q6 p0 p1 p2 p3 p4 p5 p6
  cases bo with
  | true=>
   obtain⟨z0,z1,z2,z3,z4⟩:=hO5.obj.cs5;clear hO4 hO5;obtain⟨g0,g1,g2,g3,g4,f0,f1,f2,f3,f4⟩:=hO.obj.cf5;have gl:=hO.obj.lt;have hO2:=((((hO.set 0 (.int .i64 dk)).set 1 (.int .i64 dn)).set 2 (.string dz)).set 3 (.slice none 0 0)).set 4 (.slice none 0 0);have hO2:Own _ _ _ _ (.obj _ 68 #[.int .i64 dk,.int .i64 dn,.string dz,.slice none 0 0,.slice none 0 0]::_):=hO2;obtain⟨k0,k1,k2,k3,k4⟩:=hO2.obj.cs5;have Hk:=zh (zi hO2.below (HC2.out.1 rfl));clear hO hO2;go_wp2;refine yQ (v:=.tuple #[.agg #[.int .i64 dk,.int .i64 dn,.string dz,.slice none 0 0,.slice none 0 0],.bool true]) (by simp[results,Tryz.results47,go_sem,k0,k1,k2,k3,k4]) rfl ?_
   exact hR.out _ _ ⟨some e0,by unfold Dt.val;rw[HE.out.1,HE.out.2.1,HE.out.2.2];rfl,Hk.out.1,Hk.out.2⟩
  | false=>
   clear hO4 hO5;obtain⟨g0,g1,g2,g3,g4,f0,f1,f2,f3,f4⟩:=hO.obj.cf5;have gl:=hO.obj.lt;have hO2:=((((hO.set 0 (.int .i64 0)).set 1 (.int .i64 0)).set 2 (.string ⟨#[]⟩)).set 3 (.slice none 0 0)).set 4 (.slice none 0 0);have hO2:Own _ _ _ _ (.obj _ 68 #[.int .i64 0,.int .i64 0,.string ⟨#[]⟩,.slice none 0 0,.slice none 0 0]::_):=hO2;obtain⟨k0,k1,k2,k3,k4⟩:=hO2.obj.cs5;have Hk:=zh (zi hO2.below (HC2.out.2 rfl));clear hO hO2;go_wp2;refine yQ (v:=.tuple #[.agg #[.int .i64 0,.int .i64 0,.string ⟨#[]⟩,.slice none 0 0,.slice none 0 0],.bool false]) (by simp[results,Tryz.results47,go_sem,k0,k1,k2,k3,k4]) rfl ?_;exact hR.out _ _ ⟨none,rfl,Hk.out.1,Hk.out.2⟩
theorem QP {op:ByteArray} {l:List UInt8} (h:op.toList=l) (hl:l.length≤1000):op.size≤1000:=by
 rw[ByteArray.toList_eq] at h;have:op.size=op.data.toList.length:=rfl;rw[this,h];exact hl
theorem mK (op:ByteArray) (vi vm:Value) (d:Dt) (m:Mem) (w:World) (hm:m.inn w) (htab:TabM m) (hd:DtAt m vi vm d) (hc:cnt d≤1000000) (hs:d.str.size≤300) :
 Calls Tryz.prog 77 #[.string op,d.val vi vm] w fun e w'=>∃s si sf st,e=.returned (.tuple #[s.val si sf st,.int .i64 (oq op.toList d)])∧Below w.heap.size w w'∧ScAt (m.grow w w') si sf st s∧ScIs (jy op.toList d) s∧ScLe s 6 (3*(d.str.size+5)+1):=by
 have hO:=((Own.start hm).al #[.int .i64 d.kind,.int .i64 d.num,.string d.str,vi,vm] 68).al #[.bool false,.bool false,.bool false,.slice none 0 0,.slice none 0 0,.slice none 0 0] 29;simp only[bZ] at hO;have HF:=zh (vG vi vm d m _ hO.inn htab hd hc zo);have HOK:=zh (zi (fun h:chkD d 1=0=>IL h) (fun h:chkD d 1≠0=>Pg h));have hnr:=hd.ok.n;have HB0:=zh (show oq op.toList d=if ofE d≠0 then ofE d else if op.toList=[33,61] then 0 else if mM op.toList=true then (if d.kind=3∨d.kind=4 then 0 else 11) else 8 from rfl);have HP:=zh (zi (fun (h:dtEl d=none)=>Hy (op:=op.toList) h) (zi (fun a (h:dtEl d=some a) e=>Fg h e) (zi (fun u (ho:mM op.toList=true) (h:dtEl d=some (.num u))=>Oi ho h)
  (zi (fun z f C (ho:mM op.toList=true) (h:dtEl d=some (.str z)) (hf:eF op.toList z=some f) (hC:eQ f C)=>Oh ho h hf hC) (zi (fun a (ho:mM op.toList=true) (h:dtEl d=some a) (ha:a=.nul∨a=.fal∨a=.tru)=>La ho h ha) (fun (ho:mM op.toList=false) (hne:op.toList≠[33,61])=>Og (d:=d) ho hne))))))
 obtain⟨ai,ci,am,cm,rfl,rfl⟩:=hd.slices;have HT:=zh htab;unfold Dt.val at HF ⊢;have HO:=zh hO;clear hO hd hc htab;generalize oq op.toList d=BE at *
 generalize hBP:jy op.toList d=BP at *
 generalize chkD d 1=cx at *
 generalize ofE d=er at *
 generalize hde:dtEl d=de at *
 generalize d.kind=k at *
 generalize d.num=n at *
 generalize d.str=s0 at *
 generalize d.items.length=li at *
 generalize d.bK.length=lm at *
 refine aj fun R hR=>?_
 go_enter Tryz.func77,Tryz.ntmps77
 go_wp2_with fail
 refine HF.out.mono ?_;rintro e w1 ⟨one,si,sf,st,rfl,hb1,h1,h2,h3⟩;obtain⟨xa,xb,xc,xd,xe,xf,rfl,rfl,rfl⟩:=h1.spell;unfold RS.val;have hO1:=(HO.out.call hb1).al #[.bool one.nul,.bool one.fal,.bool one.tru,.slice xa one.i.length xb,.slice xc one.f.length xd,.slice xe one.t.length xf] 29;have hle:=hO1.ext.1;have HO1:=zh hO1;clear HF HO hb1 hO1
 go_upto_region 2 with (fail)
 generalize hW:w1.alloc (.cells #[.bool one.nul,.bool one.fal,.bool one.tru,.slice xa one.i.length xb,.slice xc one.f.length xd,.slice xe one.t.length xf] 29)=w2 at *
 generalize w1.heap.size=g6 at *
 generalize m.grow _ w1=mk at *
 clear hW;by_cases her:er=0
 ·subst her;have hq:uW k n s0 de 0:=by
   by_cases hcx:cx=0
   ·exact HOK.out.1 hcx
   ·exact absurd (HOK.out.2 hcx).2.symm hcx
  have HQ:=zh hq;clear hq HOK;have q0:=HO1.out.third.obj.c 0;have q1:=HO1.out.third.obj.lt
  go_upto_region 4 with (fail)
  refine aI [0,3,4,6,8] (fun vs w'=>vs=[.string op,.pointer (some ⟨w.heap.size,0,none⟩),.pointer (some ⟨w.heap.size+1,0,none⟩),.pointer (some ⟨g6,0,none⟩),.bool (decide (k=3∨k=4))] ∧
   Own w m w' mk [.obj g6 29 #[.bool one.nul,.bool one.fal,.bool one.tru,.slice xa one.i.length xb,.slice xc one.f.length xd,.slice xe one.t.length xf],.obj (w.heap.size+1) 29 #[.bool false,.bool false,.bool false,.slice none 0 0,.slice none 0 0,.slice none 0 0],.obj w.heap.size 68 #[.int .i64 k,.int .i64 n,.string s0,.slice ai li ci,.slice am lm cm]]) ?_ ?_
  ·intro Y hY;by_cases e3:k=3
   ·have d3:(k==3)=true:=beq_iff_eq.2 e3;have HD:=zh (show decide (k=3∨k=4)=true by simp[e3]);clear e3;go_wp2;exact hY.out _ _ rfl ⟨by rw[HD.out];rfl,HO1.out⟩
   ·have d3:(k==3)=false:=beq_eq_false_iff_ne.2 e3;have HD:=zh (show decide (k=3∨k=4)=(k==4) by rw[Bool.eq_iff_iff];simp[e3]);clear e3;go_wp2
    all_goals refine hY.out _ _ rfl ⟨?_,HO1.out⟩
    all_goals rw[HD.out]
    all_goals first
     | rfl
     | (simp_all [lk];done)
  clear HO1 q0 q1;rintro z0 vs w3 - ⟨rfl,hO⟩;simp[litL,lk];by_cases h33:op.toList=[33,61]
  ·have b33:(op.toList==[33,61])=true:=beq_iff_eq.2 h33;have HBE:=zh (show BE=0 by rw[HB0.out];simp[h33]);obtain⟨a0,ha0⟩:∃a0,de=some a0:=by
    cases HQ.out with
    | nul hk h he=>exact⟨_,h⟩
    | fal hk hn h he=>exact⟨_,h⟩
    | tru hk hn h he=>exact⟨_,h⟩
    | num hk hv h he=>exact⟨_,h⟩
    | str hk h he=>exact⟨_,h⟩
    | parts hk h he=>exact absurd he zD
   have HI:=zh (fun s (h:ScIs (fun e=>(dJ allS).has e∧¬ (dJ one).has e) s)=>show ScIs BP s from h.congr fun e=>by
    rw[iX Ie.valid,iX h2.valid,Ie.mem,h2.mem,← hBP,h33,HP.out.2.1 a0 ha0 e,ha0];constructor
    ·rintro ⟨p,q⟩;exact⟨fun e1=>q (by rw[e1]),p⟩
    ·rintro ⟨p,q⟩;exact⟨q,fun e1=>p (by cases e1;rfl)⟩)
   have HT2:=zh (HT.out.le hle);have H1:=zh (zi h1 h3);have HO:=zh hO;clear HB0 HP HT HQ h1 h2 h3 hO h33 ha0 hBP
   go_upto_region 7 with (fail)
   refine aI [4,5] (fun vs w'=>∃(mk':Mem) (s:RS) (ra rc re:Option Addr) (rb rd rf:Nat),vs=[.pointer (some ⟨w.heap.size+1,0,none⟩),.int .i64 0] ∧
    ScAt mk' (.slice ra s.i.length rb) (.slice rc s.f.length rd) (.slice re s.t.length rf) s∧ScIs BP s∧ScLe s 6 (3*(s0.size+5)+1) ∧
    Own w m w' mk' [.obj (w.heap.size+1) 29 #[.bool s.nul,.bool s.fal,.bool s.tru,.slice ra s.i.length rb,.slice rc s.f.length rd,.slice re s.t.length rf]]) ?_ ?_
   ·intro X hX;refine aU 3 5 (fun j=>[Fact.mem mk [0] (ScV allS),Fact.is (·=.agg #[.bool one.nul,.bool one.fal,.bool one.tru,.slice xa one.i.length xb,.slice xc one.f.length xd,.slice xe one.t.length xf]),Fact.mem mk [2,0] (ScRV BP 6 (3*(s0.size+5)+1))].getD j Fact.any) zk zk ?_ ?_
    ·intro i hi o win a wr ho RA;have HO2:=HO.out.dr.move RA.below;obtain⟨p0,p1,p2,p3,p4,p5⟩:=HO2.obj.cs6;rcases (show i=0∨i=1∨i=2 by omega) with rfl | rfl | rfl
     ·cases ho;refine we rfl rfl (Dz mk wr HO2.inn) ?_;rintro e w' ⟨ri,rf,rt,rfl,hb,hn⟩;exact⟨_,rfl,_,rfl,hb,fQ ScV.le HO2.inn hb (Mf hn)⟩
     ·have e6:=RA.k 6;cases ho;exact wv rfl rfl rfl
     ·have e29:(Fact.mem mk [0] (ScV allS)).holds (a.tmps.getD 29 undef) win wr:=RA.d 0 rfl;have e30:a.tmps.getD 30 undef=_:=RA.d 1 rfl;cases ho;obtain⟨r1,r2,r3,r4,r5,r6,k1,t1⟩:ScV _ _ _:=e29;refine we rfl rfl (ww _ _ _ allS _ _ _ one 1 1 1 (s0.size+1) (mk.wins wr win [0]) wr (Mem.eB HO2.inn win [0]) (HT2.out.le (Mem.jq HO2.inn win [0])) t1 (H1.out.1.le (Mem.jq HO2.inn win [0])) OC H1.out.2 zo zo zo) ?_;rintro e w' ⟨s,si,sf,st,rfl,hb,hn,hS,hL⟩;obtain⟨y1,y2,y3,y4,y5,y6,rfl,rfl,rfl⟩:=hn.spell;refine ⟨_,rfl,_,rfl,hb,fZ (R:=ScRV BP 6 (3*(s0.size+5)+1)) (ds:=[0]) (fun hle v k=>?_) HO2.inn zS (fun d hd=>(RA.rng d (by simp at hd;subst hd;kernel_rfl)).2.2) hb ⟨s,⟨_,_,_,_,_,_,rfl,hn⟩,HI.out s hS,hL.mono zo zo⟩⟩;obtain⟨s',k1,k2⟩:=k;exact⟨s',k1.le hle,k2⟩
    ·intro win a wr E;have e4:=E.keep 4 zk;have e31:(Fact.mem mk [2,0] (ScRV BP 6 (3*(s0.size+5)+1))).holds (a.tmps.getD 31 undef) win wr:=E.fact 2 _ zo rfl;obtain⟨s,⟨ra,rb,rc,rd,re,rf,k1,st1⟩,hS,hL⟩:ScRV _ _ _ _ _:=e31;have hO1:=(HO.out.dr.region E.below win [2,0] (fun d hd=>(E.rng d (by simp at hd;omega)).1)).swap;have HE:=zh E;generalize mk.wins wr win [2,0]=mk2 at *
     have HK:=zh (zi st1 (zi hS hL));clear E st1 hS hL;obtain⟨p0,p1,p2,p3,p4,p5,pf0,pf1,pf2,pf3,pf4,pf5⟩:=hO1.obj.cf6;have pl:=hO1.obj.lt;have HO4:Hid (Own _ _ _ _ (.obj _ 29 #[.bool s.nul,.bool s.fal,.bool s.tru,.slice ra s.i.length rb,.slice rc s.f.length rd,.slice re s.t.length rf]::_)):=zh ((((((hO1.set 0 (.bool s.nul)).set 1 (.bool s.fal)).set 2 (.bool s.tru)).set 3 (.slice ra s.i.length rb)).set 4 (.slice rc s.f.length rd)).set 5 (.slice re s.t.length rf));clear hO1;refine dQ 3 zk (aF rfl rfl (aZ zg ?_));clear p0 p1 p2 p3 p4 p5 pl pf0 pf1 pf2 pf3 pf4 pf5;refine dQ 4 zk (aF rfl rfl (aP (v:=.int .i64 0) rfl ?_));obtain⟨t,d⟩:=a;obtain rfl:d=[]:=HE.out.defers;have hsz:t.size=46:=HE.out.size;have hg4:(t.setIfInBounds 5 (Value.int .i64 0)).getD 4 undef=t.getD 4 undef:=by simp
     have hg5:(t.setIfInBounds 5 (Value.int .i64 0)).getD 5 undef=.int .i64 0:=by simp[hsz]
     refine bS zk (hX.out (t.setIfInBounds 5 (Value.int .i64 0)) _ ((Array.size_setIfInBounds ..).trans HE.out.size) ⟨mk2,s,ra,rc,re,rb,rd,rf,?_,HK.out.1,HK.out.2.1,HK.out.2.2,HO4.out.drop2.drop2⟩) _;simp only[yG,List.map_nil];rw[hg4,hg5,e4]
     rfl
   rintro z3 vs w4 - ⟨mk',s,ra,rc,re,rb,rd,rf,rfl,hs,hS,hL,hO⟩;simp[litL,lk];obtain⟨g0,g1,g2,g3,g4,g5⟩:=hO.obj.cs6;have gl:=hO.obj.lt;have Hk:=zh (zi hO.below (zi (hs.le hO.done) (zi hS hL)));clear hO hs hS hL HO H1 HT2 HI;go_wp2;refine yQ (v:=.tuple #[.agg #[.bool s.nul,.bool s.fal,.bool s.tru,.slice ra s.i.length rb,.slice rc s.f.length rd,.slice re s.t.length rf],.int .i64 0]) (by simp[results,Tryz.results77,go_sem,g0,g1,g2,g3,g4,g5]) rfl ?_;exact hR.out _ _ ⟨s,_,_,_,by rw[HBE.out];rfl,Hk.out.1,Hk.out.2.1,Hk.out.2.2.1,Hk.out.2.2.2⟩
  ·have b33:(op.toList==[33,61])=false:=beq_eq_false_iff_ne.2 h33;by_cases ho:mM op.toList=true
   ·have hb:(op.toList==[60])=true∨((op.toList==[60])=false∧(op.toList==[60,61])=true)∨((op.toList==[60])=false∧(op.toList==[60,61])=false∧(op.toList==[62])=true) ∨
     ((op.toList==[60])=false∧(op.toList==[60,61])=false∧(op.toList==[62])=false∧(op.toList==[62,61])=true):=by
     rcases wT ho with h | h | h | h <;> rw[h] <;> decide
    have hops:op.size≤1000:=by
     rcases wT ho with h | h | h | h <;> exact QP h zS
    have HO3:=zh ho;have HB1:=zh (show BE=if k=3∨k=4 then 0 else 11 by rw[HB0.out];simp[h33,ho]);clear h33 HB0;have HQ2:=HQ.out
    cases HQ2 with
    | num hk hv h he=>
     subst hk;have HBE:=zh (show BE=0 by rw[HB1.out];simp);have HI:=zh (zi (HP.out.2.2.1 n ho h) (Ol op.toList n));have hbn:=vP (Ec ho) hv;have HRN:=zh (uC op n s0 ai am li ci lm cm mk w3 hO.inn hnr.1 hnr.2);rw[hbn.1,hbn.2] at HRN;have HO:=zh hO;obtain⟨q0,q1,q2,q3,q4⟩:=hO.third.obj.cs5;have q5:=hO.third.obj.lt;have hd:decide ((3:Int)=3∨(3:Int)=4)=true:=by decide
     generalize dZ op.toList n=x at *
     clear hO HP HQ HT HB1 HO3 h1 h2 h3 hv h ho hbn he hops;rcases hb with b0 | ⟨b0,b1⟩ | ⟨b0,b1,b2⟩ | ⟨b0,b1,b2,b3⟩
     all_goals go_wp2_with fail
     all_goals refine HRN.out.mono ?_
     all_goals rintro e w4 ⟨ri,rf,rfl,hb4,hn⟩
     all_goals obtain⟨ya,yc,za,zc,rfl,rfl⟩:=hn.spell
     all_goals have hO:=(HO.out.call hb4).swap
     all_goals have hS:ScAt _ (.slice ya x.i.length yc) (.slice za x.rf.length zc) (.slice none 0 0) ⟨false,false,false,x.i,x.rf,[]⟩:=⟨hn.i,hn.f,bC _⟩
     all_goals clear HRN HO hb4 hn q0 q1 q2 q3 q4 q5
     all_goals have g0:=hO.obj.c 0
     all_goals have g1:=hO.obj.c 1
     all_goals have g2:=hO.obj.c 2
     all_goals have g3:=hO.obj.c 3
     all_goals have g4:=hO.obj.c 4
     all_goals have g5:=hO.obj.c 5
     all_goals have gf0:=hO.obj.frozen 0
     all_goals have gf1:=hO.obj.frozen 1
     all_goals have gf2:=hO.obj.frozen 2
     all_goals have gf3:=hO.obj.frozen 3
     all_goals have gf4:=hO.obj.frozen 4
     all_goals have gf5:=hO.obj.frozen 5
     all_goals have gl:=hO.obj.lt
     all_goals have hO2:Own _ _ _ _ (.obj _ 29 #[.bool false,.bool false,.bool false,.slice ya x.i.length yc,.slice za x.rf.length zc,.slice none 0 0]::_):=((((((hO.set 0 (.bool false)).set 1 (.bool false)).set 2 (.bool false)).set 3 (.slice ya x.i.length yc)).set 4 (.slice za x.rf.length zc)).set 5 (.slice none 0 0))
     all_goals have k0:=hO2.obj.c 0
     all_goals have k1:=hO2.obj.c 1
     all_goals have k2:=hO2.obj.c 2
     all_goals have k3:=hO2.obj.c 3
     all_goals have k4:=hO2.obj.c 4
     all_goals have k5:=hO2.obj.c 5
     all_goals have Hk:=zh (zi hO2.below (hS.le hO2.done))
     all_goals clear hO2 hS hO
     all_goals go_wp2
     all_goals refine yQ (v:=.tuple #[.agg #[.bool false,.bool false,.bool false,.slice ya x.i.length yc,.slice za x.rf.length zc,.slice none 0 0],.int .i64 0]) (by simp[results,Tryz.results77,go_sem,k0,k1,k2,k3,k4,k5]) rfl ?_
     all_goals exact hR.out _ _ ⟨⟨false,false,false,x.i,x.rf,[]⟩,_,_,_,by rw[HBE.out];rfl,Hk.out.1,Hk.out.2,HI.out.1,⟨yE HI.out.2.1 zo,yE HI.out.2.2 zo,zS⟩⟩
    | str hk h he=>
     subst hk;have HBE:=zh (show BE=0 by rw[HB1.out];simp);have HI:=zh (fun f C (hf:eF op.toList s0.data.toList=some f) (hC:eQ f C)=>HP.out.2.2.2.1 s0.data.toList f C ho h hf hC);have hsome:∃f,eF op.toList s0.data.toList=some f:=by
      rcases wT ho with h | h | h | h <;> rw[h] <;> exact⟨_,rfl⟩
     obtain⟨f,hf⟩:=hsome;have HRN:=zh (Dx op 4 n s0 ai am li ci lm cm mk w3 hO.inn (HT.out.le hle) zD hops zo);rw[hf] at HRN;have HI2:=zh (fun C (hC:eQ f C)=>HI.out f C hf hC);have HO:=zh hO;obtain⟨q0,q1,q2,q3,q4⟩:=hO.third.obj.cs5;have q5:=hO.third.obj.lt;have hd:decide ((4:Int)=3∨(4:Int)=4)=true:=by decide
     clear hO HP HQ HT HB1 HO3 h1 h2 h3 h ho he hops HI hf;rcases hb with b0 | ⟨b0,b1⟩ | ⟨b0,b1,b2⟩ | ⟨b0,b1,b2,b3⟩
     all_goals go_wp2_with fail
     all_goals refine HRN.out.mono ?_
     all_goals rintro e w4 ⟨rt,C,rfl,hb4,hst,hl,-,hlen⟩
     all_goals have HI3:=zh (zi (HI2.out C (hl f rfl)) hlen)
     all_goals obtain⟨ya,yc,rfl⟩:=fB hst
     all_goals have hO:=(HO.out.call hb4).swap
     all_goals have hS:ScAt _ (.slice none 0 0) (.slice none 0 0) (.slice ya C.length yc) ⟨false,false,false,[],[],C⟩:=⟨aV _,aV _,hst⟩
     all_goals clear HRN HO hb4 hst hl hlen q0 q1 q2 q3 q4 q5
     all_goals have g0:=hO.obj.c 0
     all_goals have g1:=hO.obj.c 1
     all_goals have g2:=hO.obj.c 2
     all_goals have g3:=hO.obj.c 3
     all_goals have g4:=hO.obj.c 4
     all_goals have g5:=hO.obj.c 5
     all_goals have gf0:=hO.obj.frozen 0
     all_goals have gf1:=hO.obj.frozen 1
     all_goals have gf2:=hO.obj.frozen 2
     all_goals have gf3:=hO.obj.frozen 3
     all_goals have gf4:=hO.obj.frozen 4
     all_goals have gf5:=hO.obj.frozen 5
     all_goals have gl:=hO.obj.lt
     all_goals have hO2:Own _ _ _ _ (.obj _ 29 #[.bool false,.bool false,.bool false,.slice none 0 0,.slice none 0 0,.slice ya C.length yc]::_):=((((((hO.set 0 (.bool false)).set 1 (.bool false)).set 2 (.bool false)).set 3 (.slice none 0 0)).set 4 (.slice none 0 0)).set 5 (.slice ya C.length yc))
     all_goals have k0:=hO2.obj.c 0
     all_goals have k1:=hO2.obj.c 1
     all_goals have k2:=hO2.obj.c 2
     all_goals have k3:=hO2.obj.c 3
     all_goals have k4:=hO2.obj.c 4
     all_goals have k5:=hO2.obj.c 5
     all_goals have Hk:=zh (zi hO2.below (hS.le hO2.done))
     all_goals clear hO2 hS hO
     all_goals go_wp2
     all_goals refine yQ (v:=.tuple #[.agg #[.bool false,.bool false,.bool false,.slice none 0 0,.slice none 0 0,.slice ya C.length yc],.int .i64 0]) (by simp[results,Tryz.results77,go_sem,k0,k1,k2,k3,k4,k5]) rfl ?_
     all_goals exact hR.out _ _ ⟨⟨false,false,false,[],[],C⟩,_,_,_,by rw[HBE.out];rfl,Hk.out.1,Hk.out.2,HI3.out.1,⟨zS,zS,HI3.out.2⟩⟩
    | parts hk h he=>exact absurd he zD
    | nul hk h he=>
     subst hk;have HBE:=zh (show BE=11 by rw[HB1.out];simp);have HI:=zh (rX (HP.out.2.2.2.2.1 .nul ho h (.inl rfl)));have hO:=hO.swap;have hS:ScAt mk (.slice none 0 0) (.slice none 0 0) (.slice none 0 0) dY:=ScAt.empty mk;clear HP HQ HT HB1 HO3 h1 h2 h3 h ho he hops;rcases hb with b0 | ⟨b0,b1⟩ | ⟨b0,b1,b2⟩ | ⟨b0,b1,b2,b3⟩
     all_goals have g0:=hO.obj.c 0
     all_goals have g1:=hO.obj.c 1
     all_goals have g2:=hO.obj.c 2
     all_goals have g3:=hO.obj.c 3
     all_goals have g4:=hO.obj.c 4
     all_goals have g5:=hO.obj.c 5
     all_goals have gf0:=hO.obj.frozen 0
     all_goals have gf1:=hO.obj.frozen 1
     all_goals have gf2:=hO.obj.frozen 2
     all_goals have gf3:=hO.obj.frozen 3
     all_goals have gf4:=hO.obj.frozen 4
     all_goals have gf5:=hO.obj.frozen 5
     all_goals have gl:=hO.obj.lt
     all_goals have hO2:Own _ _ _ _ (.obj _ 29 #[.bool false,.bool false,.bool false,.slice none 0 0,.slice none 0 0,.slice none 0 0]::_):=((((((hO.set 0 (.bool false)).set 1 (.bool false)).set 2 (.bool false)).set 3 (.slice none 0 0)).set 4 (.slice none 0 0)).set 5 (.slice none 0 0))
     all_goals have k0:=hO2.obj.c 0
     all_goals have k1:=hO2.obj.c 1
     all_goals have k2:=hO2.obj.c 2
     all_goals have k3:=hO2.obj.c 3
     all_goals have k4:=hO2.obj.c 4
     all_goals have k5:=hO2.obj.c 5
     all_goals have Hk:=zh (zi hO2.below (hS.le hO2.done))
     all_goals clear hO2 hS hO
     all_goals go_wp2
     all_goals refine yQ (v:=.tuple #[.agg #[.bool false,.bool false,.bool false,.slice none 0 0,.slice none 0 0,.slice none 0 0],.int .i64 11]) (by simp[results,Tryz.results77,go_sem,k0,k1,k2,k3,k4,k5]) rfl ?_
     all_goals exact hR.out _ _ ⟨dY,_,_,_,by rw[HBE.out];rfl,Hk.out.1,Hk.out.2,HI.out,gI _ _⟩
    | fal hk hn h he=>
     subst hk;have HBE:=zh (show BE=11 by rw[HB1.out];simp);have HI:=zh (rX (HP.out.2.2.2.2.1 .fal ho h (.inr (.inl rfl))));have hO:=hO.swap;have hS:ScAt mk (.slice none 0 0) (.slice none 0 0) (.slice none 0 0) dY:=ScAt.empty mk;clear HP HQ HT HB1 HO3 h1 h2 h3 h ho he hops;rcases hb with b0 | ⟨b0,b1⟩ | ⟨b0,b1,b2⟩ | ⟨b0,b1,b2,b3⟩
     all_goals have g0:=hO.obj.c 0
     all_goals have g1:=hO.obj.c 1
     all_goals have g2:=hO.obj.c 2
     all_goals have g3:=hO.obj.c 3
     all_goals have g4:=hO.obj.c 4
     all_goals have g5:=hO.obj.c 5
     all_goals have gf0:=hO.obj.frozen 0
     all_goals have gf1:=hO.obj.frozen 1
     all_goals have gf2:=hO.obj.frozen 2
     all_goals have gf3:=hO.obj.frozen 3
     all_goals have gf4:=hO.obj.frozen 4
     all_goals have gf5:=hO.obj.frozen 5
     all_goals have gl:=hO.obj.lt
     all_goals have hO2:Own _ _ _ _ (.obj _ 29 #[.bool false,.bool false,.bool false,.slice none 0 0,.slice none 0 0,.slice none 0 0]::_):=((((((hO.set 0 (.bool false)).set 1 (.bool false)).set 2 (.bool false)).set 3 (.slice none 0 0)).set 4 (.slice none 0 0)).set 5 (.slice none 0 0))
     all_goals have k0:=hO2.obj.c 0
     all_goals have k1:=hO2.obj.c 1
     all_goals have k2:=hO2.obj.c 2
     all_goals have k3:=hO2.obj.c 3
     all_goals have k4:=hO2.obj.c 4
     all_goals have k5:=hO2.obj.c 5
     all_goals have Hk:=zh (zi hO2.below (hS.le hO2.done))
     all_goals clear hO2 hS hO
     all_goals go_wp2
     all_goals refine yQ (v:=.tuple #[.agg #[.bool false,.bool false,.bool false,.slice none 0 0,.slice none 0 0,.slice none 0 0],.int .i64 11]) (by simp[results,Tryz.results77,go_sem,k0,k1,k2,k3,k4,k5]) rfl ?_
     all_goals exact hR.out _ _ ⟨dY,_,_,_,by rw[HBE.out];rfl,Hk.out.1,Hk.out.2,HI.out,gI _ _⟩
    | tru hk hn h he=>
     subst hk;have HBE:=zh (show BE=11 by rw[HB1.out];simp);have HI:=zh (rX (HP.out.2.2.2.2.1 .tru ho h (.inr (.inr rfl))));have hO:=hO.swap;have hS:ScAt mk (.slice none 0 0) (.slice none 0 0) (.slice none 0 0) dY:=ScAt.empty mk;clear HP HQ HT HB1 HO3 h1 h2 h3 h ho he hops;rcases hb with b0 | ⟨b0,b1⟩ | ⟨b0,b1,b2⟩ | ⟨b0,b1,b2,b3⟩
     all_goals have g0:=hO.obj.c 0
     all_goals have g1:=hO.obj.c 1
     all_goals have g2:=hO.obj.c 2
     all_goals have g3:=hO.obj.c 3
     all_goals have g4:=hO.obj.c 4
     all_goals have g5:=hO.obj.c 5
     all_goals have gf0:=hO.obj.frozen 0
     all_goals have gf1:=hO.obj.frozen 1
     all_goals have gf2:=hO.obj.frozen 2
     all_goals have gf3:=hO.obj.frozen 3
     all_goals have gf4:=hO.obj.frozen 4
     all_goals have gf5:=hO.obj.frozen 5
     all_goals have gl:=hO.obj.lt
     all_goals have hO2:Own _ _ _ _ (.obj _ 29 #[.bool false,.bool false,.bool false,.slice none 0 0,.slice none 0 0,.slice none 0 0]::_):=((((((hO.set 0 (.bool false)).set 1 (.bool false)).set 2 (.bool false)).set 3 (.slice none 0 0)).set 4 (.slice none 0 0)).set 5 (.slice none 0 0))
     all_goals have k0:=hO2.obj.c 0
     all_goals have k1:=hO2.obj.c 1
     all_goals have k2:=hO2.obj.c 2
     all_goals have k3:=hO2.obj.c 3
     all_goals have k4:=hO2.obj.c 4
     all_goals have k5:=hO2.obj.c 5
     all_goals have Hk:=zh (zi hO2.below (hS.le hO2.done))
     all_goals clear hO2 hS hO
     all_goals go_wp2
     all_goals refine yQ (v:=.tuple #[.agg #[.bool false,.bool false,.bool false,.slice none 0 0,.slice none 0 0,.slice none 0 0],.int .i64 11]) (by simp[results,Tryz.results77,go_sem,k0,k1,k2,k3,k4,k5]) rfl ?_
     all_goals exact hR.out _ _ ⟨dY,_,_,_,by rw[HBE.out];rfl,Hk.out.1,Hk.out.2,HI.out,gI _ _⟩
   ·have hof:mM op.toList=false:=by simpa using ho
    have hb:(op.toList==[60])=false∧(op.toList==[60,61])=false∧(op.toList==[62])=false∧(op.toList==[62,61])=false:=by
     obtain⟨h0,h1,h2,h3⟩:=QO hof;exact⟨beq_eq_false_iff_ne.2 h0,beq_eq_false_iff_ne.2 h1,beq_eq_false_iff_ne.2 h2,beq_eq_false_iff_ne.2 h3⟩
    obtain⟨b0,b1,b2,b3⟩:=hb;have HBE:=zh (show BE=8 by rw[HB0.out];simp[h33,hof]);have HI:=zh (rX (HP.out.2.2.2.2.2 hof h33));have hO:=hO.swap;have hS:ScAt mk (.slice none 0 0) (.slice none 0 0) (.slice none 0 0) dY:=ScAt.empty mk;clear h33 ho hof HB0 HP HT HQ h1 h2 h3;obtain⟨g0,g1,g2,g3,g4,g5,gf0,gf1,gf2,gf3,gf4,gf5⟩:=hO.obj.cf6;have gl:=hO.obj.lt;have hO2:Own _ _ _ _ (.obj _ 29 #[.bool false,.bool false,.bool false,.slice none 0 0,.slice none 0 0,.slice none 0 0]::_):=((((((hO.set 0 (.bool false)).set 1 (.bool false)).set 2 (.bool false)).set 3 (.slice none 0 0)).set 4 (.slice none 0 0)).set 5 (.slice none 0 0));obtain⟨k0,k1,k2,k3,k4,k5⟩:=hO2.obj.cs6;have Hk:=zh (zi hO2.below (hS.le hO2.done));clear hO2 hS hO;go_wp2;refine yQ (v:=.tuple #[.agg #[.bool false,.bool false,.bool false,.slice none 0 0,.slice none 0 0,.slice none 0 0],.int .i64 8]) (by simp[results,Tryz.results77,go_sem,k0,k1,k2,k3,k4,k5]) rfl ?_;exact hR.out _ _ ⟨dY,_,_,_,by rw[HBE.out];rfl,Hk.out.1,Hk.out.2,HI.out,gI _ _⟩
 ·have hno:de=none:=by
   by_cases hcx:cx=0
   ·cases HOK.out.1 hcx with
    | parts hk h he=>exact h
    | nul hk h he=>exact absurd he her
    | fal hk hn h he=>exact absurd he her
    | tru hk hn h he=>exact absurd he her
    | num hk hv h he=>exact absurd he her
    | str hk h he=>exact absurd he her
   ·exact (HOK.out.2 hcx).1
  have HBE:=zh (show BE=er by rw[HB0.out];simp[her]);have HI:=zh (rX (HP.out.1 hno));have hne:(er != 0)=true:=by simpa using her
  have hO:=HO1.out.swap;have hS:ScAt mk (.slice none 0 0) (.slice none 0 0) (.slice none 0 0) dY:=ScAt.empty mk;clear HOK HB0 HP HT HO1 h1 h2 h3 her;obtain⟨g0,g1,g2,g3,g4,g5,gf0,gf1,gf2,gf3,gf4,gf5⟩:=hO.obj.cf6;have gl:=hO.obj.lt;have hO2:Own _ _ _ _ (.obj _ 29 #[.bool false,.bool false,.bool false,.slice none 0 0,.slice none 0 0,.slice none 0 0]::_):=((((((hO.set 0 (.bool false)).set 1 (.bool false)).set 2 (.bool false)).set 3 (.slice none 0 0)).set 4 (.slice none 0 0)).set 5 (.slice none 0 0));obtain⟨k0,k1,k2,k3,k4,k5⟩:=hO2.obj.cs6;have Hk:=zh (zi hO2.below (hS.le hO2.done));clear hO2 hS hO;go_wp2;refine yQ (v:=.tuple #[.agg #[.bool false,.bool false,.bool false,.slice none 0 0,.slice none 0 0,.slice none 0 0],.int .i64 er]) (by simp[results,Tryz.results77,go_sem,k0,k1,k2,k3,k4,k5]) rfl ?_;exact hR.out _ _ ⟨dY,_,_,_,by rw[HBE.out];rfl,Hk.out.1,Hk.out.2,HI.out,gI _ _⟩
theorem QE {s one:RS} {d:Dt} {e:El} (h:dtEl d=some e) (ho:ScIs (fun e=>dtEl d=some e) one):subB one s=hasD s d:=by
 rw[nZ h];unfold subB;refine fK ?_;rw[iX ho.valid];constructor
 ·intro k;exact k e ((ho.mem e).2 h)
 ·intro k e' he';have:=(ho.mem e').1 he';rw[h] at this;cases this;exact k
theorem q9 (vi vf vt:Value) (S:RS) (ui um:Value) (d:Dt) (n t:Nat) (m:Mem) (w:World) (hm:m.inn w) (htab:TabM m) (hs:ScAt m vi vf vt S) (hd:DtAt m ui um d) (hc:cnt d≤1000000) (hz:d.str.size≤1000) (hl:ScLe S n t) (hn:n≤250) (ht:(d.str.size+1+2)*(t+2)≤99999) :
 Calls Tryz.prog 51 #[S.val vi vf vt,d.val ui um] w fun e w'=>e=.returned (.bool (hasD S d))∧Below w.heap.size w w':=by
 have hO:=((Own.start hm).al #[.bool S.nul,.bool S.fal,.bool S.tru,vi,vf,vt] 29).al #[.int .i64 d.kind,.int .i64 d.num,.string d.str,ui,um] 68;simp only[bZ] at hO;have HF:=zh (vG ui um d m _ hO.inn htab hd hc hz);have HS:=zh (fun (one:RS) si sf st (mk:Mem) w' (h:mk.inn w') (hle:m.le mk) (h1:ScAt mk si sf st one) (h2:ScLe one 1 (d.str.size+1))=>uA si sf st one vi vf vt S 1 (d.str.size+1) n t mk w' h (htab.le hle) h1 (hs.le hle) h2 hl zo hn ht);have HE:=zh (show ofE d=0↔∃e,dtEl d=some e from j6);have HH:=zh (fun (one:RS) e (h:dtEl d=some e) (ho:ScIs (fun e=>dtEl d=some e) one)=>QE (s:=S) h ho);have HN:=zh (fun h:dtEl d=none=>xG (s:=S) h);obtain⟨a1,b1,a2,b2,a3,b3,rfl,rfl,rfl⟩:=hs.spell;obtain⟨c1,d1,c2,d2,rfl,rfl⟩:=hd.slices;unfold RS.val at HS ⊢;unfold Dt.val at HF ⊢;have HO:=zh hO;clear hO hs hd hc hz hl hn ht htab;generalize hasD S d=hs at *
 generalize d.kind=dk at *
 generalize d.num=dn at *
 generalize d.str=ds at *
 refine aj fun R hR=>?_
 go_enter Tryz.func51,Tryz.ntmps51
 go_wp2_with fail
 refine HF.out.mono ?_;rintro e w1 ⟨one,si,sf,st,rfl,hb1,h1,h2,h3⟩;obtain⟨xa,xb,xc,xd,xe,xf,rfl,rfl,rfl⟩:=h1.spell;unfold RS.val;have hO1:=(HO.out.call hb1).al #[.bool one.nul,.bool one.fal,.bool one.tru,.slice xa one.i.length xb,.slice xc one.f.length xd,.slice xe one.t.length xf] 29;by_cases hof:ofE d=0
 ·obtain⟨e0,he0⟩:=HE.out.1 hof;have HS2:=zh (HS.out one _ _ _ _ _ hO1.inn hO1.ext.1 h1 h3);rw[HH.out one e0 he0 h2] at HS2;rw[hof];obtain⟨q0,q1,q2,q3,q4,q5⟩:=hO1.third.obj.cs6;have q6:=hO1.third.obj.lt;have p0:=(HO.out.call hb1).swap.obj.c 0;have p1:=(HO.out.call hb1).swap.obj.c 1;have p2:=(HO.out.call hb1).swap.obj.c 2;have p3:=(HO.out.call hb1).swap.obj.c 3;have p4:=(HO.out.call hb1).swap.obj.c 4;have p5:=(HO.out.call hb1).swap.obj.c 5;have p6:=(HO.out.call hb1).swap.obj.lt;have HO1:=zh hO1;clear HF HO hb1 h1 h2 h3 hO1 HE HH HN hof he0 HS
  go_wp2_with fail
  refine HS2.out.mono ?_;rintro e w2 ⟨rfl,hb2⟩;have HB:=zh (HO1.out.move hb2).below;clear HS2 HO1 hb2;go_wp2;exact hR.out _ _ ⟨rfl,HB.out⟩
 ·have hne:(ofE d==0)=false:=beq_eq_false_iff_ne.2 hof;have hdn:dtEl d=none:=by
   cases h:dtEl d with
   | none=>rfl
   | some e0=>exact absurd (HE.out.2 ⟨e0,h⟩) hof
  have HN2:=zh (HN.out hdn);have HB:=zh hO1.below;clear HF HO hb1 h1 h2 h3 hO1 HE HH HN hof hdn HS;generalize ofE d=er at *
  go_wp2;exact hR.out _ _ ⟨aL (by rw[HN2.out]),HB.out⟩
theorem PE {S:RS} (h:¬ S.gK) (d:Dt):hasD S d=false:=aK (by rintro ⟨e,-,h2⟩;rw[rQ h] at h2;exact tQ e h2)
theorem Nl {S:RS} (h:S.gK) {d:Dt} {e:El} (he:dtEl d=some e):hasD S d=tf (S.has e):=by rw[nZ he,iX h]
theorem BI (b:Bool):tf (b=true)=b:=by cases b <;> simp[tf]
theorem J6 (vi vf vt:Value) (S:RS) (ui um:Value) (d:Dt) (m:Mem) (w:World) (hm:m.inn w) (htab:TabM m) (hs:ScAt m vi vf vt S) (hd:DtAt m ui um d) (hc:cnt d≤1000000) (hl:ScLe S 100000 1000000) :
 Calls Tryz.prog 52 #[S.val vi vf vt,d.val ui um] w fun e w'=>e=.returned (.bool (hasD S d))∧Below w.heap.size w w':=by
 have hO:=((Own.start hm).al #[.bool S.nul,.bool S.fal,.bool S.tru,vi,vf,vt] 29).al #[.int .i64 d.kind,.int .i64 d.num,.string d.str,ui,um] 68;simp only[bZ] at hO;have HV:=zh (lu vi vf vt S m _ hO.inn htab hs hl);have HK:=zh (fun w' (h:m.inn w')=>nP ui um d m w' h hd hc);have HN:=zh (fun w' (h:m.inn w')=>Aw vi vf S.i S.f d.num m w' h hs.nums hd.ok.n.1 hd.ok.n.2);have HA:=zh (fun w' (h:m.inn w')=>zf vt S.t d.str m w' h hs.t hd.ok.s);have HOK:=zh (zi (fun h:chkD d 1=0=>IL h) (fun h:chkD d 1≠0=>Pg h));have HH:=zh (zi (fun h:¬ S.gK=>PE h d) (zi (fun (h:S.gK) e (he:dtEl d=some e)=>Nl h he) (fun h:dtEl d=none=>xG (s:=S) h)));obtain⟨a1,b1,a2,b2,a3,b3,rfl,rfl,rfl⟩:=hs.spell;obtain⟨c1,d1,c2,d2,rfl,rfl⟩:=hd.slices;unfold RS.val at HV ⊢;unfold Dt.val at HK ⊢;have HO:=zh hO;clear hO hs hd hc hl htab;generalize hasD S d=hs at *
 generalize chkD d 1=cx at *
 generalize ofE d=er at *
 generalize dtEl d=de at *
 generalize d.kind=k at *
 generalize d.num=n at *
 generalize d.str=s0 at *
 generalize d.items.length=li at *
 generalize d.bK.length=lm at *
 refine aj fun R hR=>?_
 go_enter Tryz.func52,Tryz.ntmps52
 go_wp2_with fail
 refine HV.out.mono ?_;rintro e w1 ⟨rfl,hb1⟩;have hO:=HO.out.move hb1;clear HV HO hb1;by_cases hv:S.gK
 ·rw[aN hv];have HG:=zh (fun e he=>HH.out.2.1 hv e he);have HZ:=zh HH.out.2.2;have HVA:=zh hv;obtain⟨q0,q1,q2,q3,q4⟩:=hO.obj.cs5;have q5:=hO.obj.lt;have HO:=zh hO;clear hO HH hv
  go_wp2_with fail
  refine (HK.out _ HO.out.inn).mono ?_;rintro e w2 ⟨rfl,hb2⟩;have hO:=HO.out.move hb2;clear HK HO hb2 q0 q1 q2 q3 q4 q5;by_cases hcx:cx=0
  ·have hq:=HOK.out.1 hcx;subst hcx;have q0:=hO.obj.c 0;have q1:=hO.obj.c 1;have q2:=hO.obj.c 2;have q5:=hO.obj.lt;obtain⟨p0,p1,p2,p3,p4,p5⟩:=hO.swap.obj.cs6;have p6:=hO.swap.obj.lt;have HB:=zh hO.below;have HI:=zh hO.inn;have HM:=zh (fun w3 (hb:Below w2.heap.size w2 w3)=>(hO.move hb).below);clear HOK hO
   cases hq with
   | nul hk h he=>
    subst hk he;have HF:=zh (show hs=S.nul by rw[HG.out .nul h];exact BI _);clear HG HZ HVA HN HA h;generalize S.nul=bn at *
    go_wp2
    exact hR.out _ _ ⟨aL (by rw[HF.out]),HB.out⟩
   | fal hk hn h he=>
    subst hk he hn;have HF:=zh (show hs=S.fal by rw[HG.out .fal h];exact BI _);clear HG HZ HVA HN HA h;generalize S.fal=bn at *
    cases bn with
    | true=>
     go_wp2
     exact hR.out _ _ ⟨aL (by rw[HF.out]),HB.out⟩
    | false=>
     go_wp2
     exact hR.out _ _ ⟨aL (by rw[HF.out]),HB.out⟩
   | tru hk hn h he=>
    subst hk he hn;have HF:=zh (show hs=S.tru by rw[HG.out .tru h];exact BI _);clear HG HZ HVA HN HA h;generalize S.tru=bn at *
    cases bn with
    | true=>
     go_wp2
     exact hR.out _ _ ⟨aL (by rw[HF.out]),HB.out⟩
    | false=>
     go_wp2
     exact hR.out _ _ ⟨aL (by rw[HF.out]),HB.out⟩
   | num hk hv h he=>
    subst hk he;have HF:=zh (show hs=tf ((mkN S.i S.f).has n) from HG.out (.num n) h);have HN2:=zh (HN.out w2 HI.out);clear HG HZ HVA HN HA h hv;generalize tf ((mkN S.i S.f).has n)=bn at *
    go_wp2_with fail
    refine HN2.out.mono ?_;rintro e w3 ⟨rfl,hb3⟩;have HB2:=zh (HM.out w3 hb3);clear HN2 hb3;go_wp2
    exact hR.out _ _ ⟨aL (by rw[HF.out]),HB2.out⟩
   | str hk h he=>
    subst hk he;have HF:=zh (show hs=(tf (WF S.t)&&aC S.t 0 s0.data.toList) by
     rw[HG.out (.str s0.data.toList) h];simp only[RS.has];rw[BI,fF HVA.out.ct,aN HVA.out.ct.wf];rfl)
    have HN2:=zh (HA.out w2 HI.out);clear HG HZ HVA HN HA h;generalize (tf (WF S.t)&&aC S.t 0 s0.data.toList)=bn at *
    go_wp2_with fail
    refine HN2.out.mono ?_;rintro e w3 ⟨rfl,hb3⟩;have HB2:=zh (HM.out w3 hb3);clear HN2 hb3;go_wp2
    exact hR.out _ _ ⟨aL (by rw[HF.out]),HB2.out⟩
   | parts hk h he=>
    subst he;have HF:=zh (HZ.out h);clear HG HZ HVA HN HA h;rcases hk with rfl | rfl
    ·go_wp2;exact hR.out _ _ ⟨aL (by rw[HF.out]),HB.out⟩
    ·go_wp2;exact hR.out _ _ ⟨aL (by rw[HF.out]),HB.out⟩
  ·have HF:=zh (HZ.out (HOK.out.2 hcx).1);have hne:(cx != 0)=true:=by simpa using hcx
   have HB:=zh hO.below;clear HOK HG HZ HVA HN HA hO hcx;go_wp2;exact hR.out _ _ ⟨aL (by rw[HF.out]),HB.out⟩
 ·rw[aK hv];have HF:=zh (HH.out.1 hv);have HB:=zh hO.below;clear HH HK HN HA HOK hO hv;go_wp2;exact hR.out _ _ ⟨aL (by rw[HF.out]),HB.out⟩
def CmpS (a b:RS) (c:Int):Prop:=(a.gK∧b.gK∧CmpE a.has b.has c)∨(¬ (a.gK∧b.gK)∧c=0)
theorem G8 {a b:RS} {c d:Int} (h:CmpS a b c) (k:CmpS a b d):c=d:=by
 rcases h with ⟨h1,h2,h3⟩ | ⟨h1,rfl⟩
 ·rcases k with ⟨-,-,k3⟩ | ⟨k1,-⟩
  ·exact xY h3 k3
  ·exact absurd ⟨h1,h2⟩ k1
 ·rcases k with ⟨k1,k2,-⟩ | ⟨-,rfl⟩
  ·exact absurd ⟨k1,k2⟩ h1
  ·rfl
theorem tK:Tryz.prog.eqGuardType Tryz.prog.depth 113=false:=by kernel_rfl
theorem tC (a b a' b':Bool) (w:World):(Op.equalIn 10000 113 (.agg #[.bool a,.bool b]) (.agg #[.bool a',.bool b'])).run Tryz.prog w=.ok (a==a'&&b==b') w:=by
 cases a <;> cases b <;> cases a' <;> cases b' <;> kernel_rfl
theorem RI (a b c d e f:Bool) (w:World):(Instr.index 114 (.agg #[.bool a,.bool b,.bool c,.bool d,.bool e,.bool f]) (.int .i64 0)).run Tryz.prog w=.ok (.agg #[.bool a,.bool b]) w:=by kernel_rfl
theorem RH (a b c d e f:Bool) (w:World):(Instr.index 114 (.agg #[.bool a,.bool b,.bool c,.bool d,.bool e,.bool f]) (.int .i64 1)).run Tryz.prog w=.ok (.agg #[.bool c,.bool d]) w:=by kernel_rfl
theorem RG (a b c d e f:Bool) (w:World):(Instr.index 114 (.agg #[.bool a,.bool b,.bool c,.bool d,.bool e,.bool f]) (.int .i64 2)).run Tryz.prog w=.ok (.agg #[.bool e,.bool f]) w:=by kernel_rfl
theorem BR (vi vf vt:Value) (A:RS) (ui uf ut:Value) (B:RS) (na ta nb tb:Nat) (m:Mem) (w:World) (hm:m.inn w) (htab:TabM m) (ha:ScAt m vi vf vt A) (hb:ScAt m ui uf ut B) (la:ScLe A na ta) (lb:ScLe B nb tb) (hn1:na≤250) (hn2:nb≤250) (ht:(ta+2)*(tb+2)≤300000) :
 Calls Tryz.prog 53 #[A.val vi vf vt,B.val ui uf ut] w fun e w'=>∃c,e=.returned (.int .i64 c)∧Below w.heap.size w w'∧CmpS A B c:=by
 have hta:ta+2≤(ta+2)*(tb+2):=Nat.le_mul_of_pos_right _ zo;have htb:tb+2≤(ta+2)*(tb+2):=Nat.le_mul_of_pos_left _ zo;have htt:(A.t.length+2)*(B.t.length+2)≤300000:=yE (Nat.mul_le_mul (Nat.add_le_add_right la.t 2) (Nat.add_le_add_right lb.t 2)) ht;have hO:=((Own.start hm).al #[.bool A.nul,.bool A.fal,.bool A.tru,vi,vf,vt] 29).al #[.bool B.nul,.bool B.fal,.bool B.tru,ui,uf,ut] 29;simp only[bZ] at hO;have HVA:=zh (mI vi vf vt A m _ hO.inn htab ha (la.mono zo zo));have HVB:=zh (fun w' (h:m.inn w')=>mI ui uf ut B m w' h htab hb (lb.mono zo zo));have HN:=zh (fun w' (h:m.inn w')=>Cc vi vf ui uf A.i A.f B.i B.f m w' h ha.nums hb.nums (yE la.i hn1) (yE la.f hn1) (yE lb.i hn2) (yE lb.f hn2));have HL:=zh (fun w' (h:m.inn w')=>xy vt ut A.t B.t m w' h htab ha.t hb.t htt);obtain⟨a1,b1,a2,b2,a3,b3,rfl,rfl,rfl⟩:=ha.spell;obtain⟨c1,d1,c2,d2,c3,d3,rfl,rfl,rfl⟩:=hb.spell;unfold RS.val;have HO:=zh hO;clear hO ha hb htab hta htb htt ht;refine aj fun R hR=>?_
 go_enter Tryz.func53,Tryz.ntmps53
 go_wp2_with fail
 refine HVA.out.mono ?_;rintro e w1 ⟨rfl,hb1⟩;have hO:=HO.out.move hb1;clear HVA HO hb1;by_cases hva:A.gK
 case neg=>
  rw[aK hva];have HB:=zh hO.below;have HC:=zh (show CmpS A B 0 from .inr ⟨fun h=>hva h.1,rfl⟩);clear hO hva HVB HN HL;go_wp2;exact hR.out _ _ ⟨0,rfl,HB.out,HC.out⟩
 rw[aN hva];have HA:=zh hva;clear hva;obtain⟨q0,q1,q2,q3,q4,q5⟩:=hO.obj.cs6;have q6:=hO.obj.lt;have HO:=zh hO;clear hO
 go_wp2_with fail
 refine (HVB.out _ HO.out.inn).mono ?_;rintro e w2 ⟨rfl,hb2⟩;have hO:=HO.out.move hb2;clear HVB HO hb2 q0 q1 q2 q3 q4 q5 q6;by_cases hvb:B.gK
 case neg=>
  rw[aK hvb];have HB:=zh hO.below;have HC:=zh (show CmpS A B 0 from .inr ⟨fun h=>hvb h.2,rfl⟩);clear hO hvb HN HL;go_wp2;exact hR.out _ _ ⟨0,rfl,HB.out,HC.out⟩
 rw[aN hvb];have HS:=zh (fun (c:Int) (h:CmpE A.has B.has c)=>show CmpS A B c from .inl ⟨HA.out,hvb,h⟩);clear hvb HA;have HE1:=zh (fun (h:A.nul≠B.nul)=>HS.out _ (Jm h));have HE2:=zh (fun (h0:A.nul=B.nul) (h:A.fal≠B.fal)=>HS.out _ (Jn h0 h));have HE3:=zh (fun (h0:A.nul=B.nul) (h1:A.fal=B.fal) (h:A.tru≠B.tru)=>HS.out _ (Jj h0 h1 h));have HE4:=zh (fun (h0:A.nul=B.nul) (h1:A.fal=B.fal) (h2:A.tru=B.tru) (h:cmpN A.ns B.ns≠0)=>HS.out _ (Jl h0 h1 h2 h));have HE5:=zh (fun (h0:A.nul=B.nul) (h1:A.fal=B.fal) (h2:A.tru=B.tru) (h:cmpN A.ns B.ns=0) (c:Int) (k:gX (Sem A.t) (Sem B.t) c)=>HS.out _ (Jk h0 h1 h2 h k));have hn0:cmpN (mkN A.i A.f) (mkN B.i B.f)=cmpN A.ns B.ns:=rfl;rw[hn0] at HN;clear HS hn0;generalize CmpS A B=CS at *
 generalize cmpN A.ns B.ns=cn at *
 generalize gX (Sem A.t) (Sem B.t)=CI at *
 generalize A.nul=x0 at *
 generalize A.fal=x1 at *
 generalize A.tru=x2 at *
 generalize B.nul=y0 at *
 generalize B.fal=y1 at *
 generalize B.tru=y2 at *
 have q0:=hO.obj.c 0;have q1:=hO.obj.c 1;have q2:=hO.obj.c 2;have q6:=hO.obj.lt;have p0:=hO.swap.obj.c 0;have p1:=hO.swap.obj.c 1;have p2:=hO.swap.obj.c 2;have p6:=hO.swap.obj.lt;have HO:=zh hO;clear hO;go_wp2;refine au [2,3,32,33] (fun n vs wr=>∃k:Nat,k≤3∧n=3 - k∧vs=[.pointer (some ⟨w.heap.size,0,none⟩),.pointer (some ⟨w.heap.size+1,0,none⟩),.agg #[.bool x0,.bool y0,.bool x1,.bool y1,.bool x2,.bool y2],.int .i64 k] ∧
  (1≤k→x0=y0)∧(2≤k→x1=y1)∧(3≤k→x2=y2)∧Own w m wr m [.obj (w.heap.size+1) 29 #[.bool y0,.bool y1,.bool y2,.slice c1 B.i.length d1,.slice c2 B.f.length d2,.slice c3 B.t.length d3],.obj w.heap.size 29 #[.bool x0,.bool x1,.bool x2,.slice a1 A.i.length b1,.slice a2 A.f.length b2,.slice a3 A.t.length b3]]) ?_ ?_
 ·exact⟨_,0,zo,rfl,rfl,fun h=>zo,fun h=>zo,fun h=>zo,HO.out⟩
 rintro X z n vs wr hX - ⟨k,hk,rfl,rfl,h1,h2,h3,hO⟩;clear HO q0 q1 q2 q6 p0 p1 p2 p6;simp[litL,lk];have H1:=zh h1;have H2:=zh h2;have H3:=zh h3;have HO:=zh hO;clear h1 h2 h3;rcases (show k=0∨k=1∨k=2∨k=3 by omega) with rfl | rfl | rfl | rfl
 ·have hO2:=hO.al #[.bool x0,.bool y0] 113;have q1:=hO2.obj.c 0;have q2:=hO2.obj.c 1;have q3:=hO2.obj.lt;have HO2:=zh hO2.tail;have hq:=tC;have hgd:=tK;have hix:=RI;clear hO hO2;cases x0 <;> cases y0
  all_goals go_wp2
  ·exact hX.out _ _ _ zo rfl ⟨1,zo,rfl,rfl,fun _=>zS,fun h=>zo,fun h=>zo,HO2.out⟩
  ·exact hR.out _ _ ⟨_,rfl,HO2.out.below,HE1.out zD⟩
  ·exact hR.out _ _ ⟨_,rfl,HO2.out.below,HE1.out zD⟩
  ·exact hX.out _ _ _ zo rfl ⟨1,zo,rfl,rfl,fun _=>zS,fun h=>zo,fun h=>zo,HO2.out⟩
 ·have hO2:=hO.al #[.bool x1,.bool y1] 113;have q1:=hO2.obj.c 0;have q2:=hO2.obj.c 1;have q3:=hO2.obj.lt;have HO2:=zh hO2.tail;have hq:=tC;have hgd:=tK;have hix:=RH;clear hO hO2;cases x1 <;> cases y1
  all_goals go_wp2
  ·exact hX.out _ _ _ zo rfl ⟨2,zo,rfl,rfl,fun _=>H1.out zo,fun h=>zS,fun h=>zo,HO2.out⟩
  ·exact hR.out _ _ ⟨_,rfl,HO2.out.below,HE2.out (H1.out zo) zD⟩
  ·exact hR.out _ _ ⟨_,rfl,HO2.out.below,HE2.out (H1.out zo) zD⟩
  ·exact hX.out _ _ _ zo rfl ⟨2,zo,rfl,rfl,fun _=>H1.out zo,fun h=>zS,fun h=>zo,HO2.out⟩
 ·have hO2:=hO.al #[.bool x2,.bool y2] 113;have q1:=hO2.obj.c 0;have q2:=hO2.obj.c 1;have q3:=hO2.obj.lt;have HO2:=zh hO2.tail;have hq:=tC;have hgd:=tK;have hix:=RG;clear hO hO2;cases x2 <;> cases y2
  all_goals go_wp2
  ·exact hX.out _ _ _ zo rfl ⟨3,zo,rfl,rfl,fun _=>H1.out zo,fun h=>H2.out zo,fun h=>zS,HO2.out⟩
  ·exact hR.out _ _ ⟨_,rfl,HO2.out.below,HE3.out (H1.out zo) (H2.out zo) zD⟩
  ·exact hR.out _ _ ⟨_,rfl,HO2.out.below,HE3.out (H1.out zo) (H2.out zo) zD⟩
  ·exact hX.out _ _ _ zo rfl ⟨3,zo,rfl,rfl,fun _=>H1.out zo,fun h=>H2.out zo,fun h=>zS,HO2.out⟩
 ·have q3:=hO.obj.c 3;have q4:=hO.obj.c 4;have q6:=hO.obj.lt;have p3:=hO.swap.obj.c 3;have p4:=hO.swap.obj.c 4;have p6:=hO.swap.obj.lt;clear hO
  go_wp2_with fail
  refine (HN.out _ HO.out.inn).mono ?_;rintro e w4 ⟨rfl,hb4⟩;have hO4:=HO.out.move hb4;clear HN HO hb4 q3 q4 q6 p3 p4 p6;by_cases hc:cn=0
  ·subst hc;have q5:=hO4.obj.c 5;have q6:=hO4.obj.lt;have p5:=hO4.swap.obj.c 5;have p6:=hO4.swap.obj.lt;have HO:=zh hO4;clear hO4
   go_wp2_with fail
   refine (HL.out _ HO.out.inn).mono ?_;rintro e w5 ⟨c,rfl,hb5,hc⟩;have HB:=zh (HO.out.move hb5).below;have HC:=zh (HE5.out (H1.out zo) (H2.out zo) (H3.out zo) zS c hc);clear HL HO hb5 q5 q6 p5 p6 hc;go_wp2;exact hR.out _ _ ⟨_,rfl,HB.out,HC.out⟩
  ·have HC:=zh (HE4.out (H1.out zo) (H2.out zo) (H3.out zo) hc);have HB:=zh hO4.below;have hcn:(cn != 0)=true:=by simpa using hc
   clear hO4 hc HL;go_wp2;exact hR.out _ _ ⟨_,rfl,HB.out,HC.out⟩
end Cl
