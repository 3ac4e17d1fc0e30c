/- Lemmas for the proofs of chapter 11. -/
import Derived.Test.YtajbfioncdnkcaaGreatDoorProg
import Derived.BigQuiet
import Derived.Deep.Cut
import Derived.Deep.QuietTactic
import Derived.Laws.StructEq
import Derived.Lib.AppendStr
import Derived.Lib.Builder
import Derived.Lib.Hide
import Derived.Lib.ItoaLen
import Derived.Maps.OwnOps
import Derived.Maps.OwnSet
import Derived.OrdersHeld
import Derived.Outline
import Derived.StillTailTactics
import Derived.StringKeys
import Derived.WalkKit
import Derived.WalkLawsBesides
import Derived.WalkSpells
import Derived.Deep.RegionHeld
import Derived.RangeFuncNested
import Derived.RangeFuncBound
import Derived.RangeFuncCalls
import Derived.RangeFuncLeaves
import Derived.OwnWalkIn
import Derived.TacticsInMore
import Derived.LoopNIn
import Derived.LoopIn
import Derived.Shelf.Strings.Builder1
import Derived.Shelf.Small.Wraps
import Derived.Shelf.LaysM
import Derived.Shelf.Strconv.Itoa3
import Derived.Shelf.Spec.SlicesGrow
import Derived.Shelf.SlSortCmp.WholeK
import Derived.RegionTactic
import Derived.ChangeAlike
import Derived.Laws.EntriesVeiled
import Derived.Laws.CopyOwn
import Derived.Laws.BytesArg
import Derived.Test.YtajbfioncdnkcaaGreatDoorZz
import Derived.Test.YtajbfioncdnkcaaGreatDoorPkM3
import Derived.Test.YtajbfioncdnkcaaGreatDoorPkM4
import Derived.Test.YtajbfioncdnkcaaGreatDoorPkM1
import Derived.Test.YtajbfioncdnkcaaGreatDoorPkM2
import Derived.Test.YtajbfioncdnkcaaGreatDoorPkM8
import Derived.Test.YtajbfioncdnkcaaGreatDoorPkM7
import Derived.Test.YtajbfioncdnkcaaGreatDoorPkM12
import Derived.Test.YtajbfioncdnkcaaGreatDoorPkM6
import Derived.Test.YtajbfioncdnkcaaGreatDoorPkM13
import Derived.Test.YtajbfioncdnkcaaGreatDoorPkM9
import Derived.Test.YtajbfioncdnkcaaGreatDoorPkM14
import Derived.Test.YtajbfioncdnkcaaGreatDoorPkM5
import Derived.Test.YtajbfioncdnkcaaGreatDoorPkM10
import Derived.Test.YtajbfioncdnkcaaGreatDoorPkM15
import Derived.Test.YtajbfioncdnkcaaGreatDoorPkM11
import Derived.Test.YtajbfioncdnkcaaGreatDoorPkM16
set_option maxRecDepth 100000
set_option maxHeartbeats 16000000
namespace Cl
open Go Go.RowKit Go.Proofs
theorem Ri {op:ByteArray} {l:List UInt8} (h:op.toList=l) (hl:l.length≤1000):op.size≤1000:=by
 rw[ByteArray.toList_eq] at h;have:op.size=op.data.toList.length:=rfl;rw[this,h];exact hl
theorem kT (op:ByteArray) (vi vm:Value) (d:Dt) (m:Mem) (w:World) (hm:m.inn w) (htab:TabM m) (hd:DtAt m vi vm d) (hc:cnt d≤1000000) (hs:d.str.size≤300) :
 Calls Tryz.prog 24 #[.string op,d.val vi vm] w fun e w'=>∃s si sf st,e=.returned (.tuple #[s.val si sf st,.int .i64 (jL op.toList d)])∧Below w.heap.size w w'∧ScAt (m.grow w w') si sf st s∧ScIs (gV op.toList d) s∧ScLe s 6 (3*(d.str.size+5)+1):=by
 have hO:=((Own.start hm).al #[.int .i64 d.kind,.int .i64 d.num,.string d.str,vi,vm] 33).al #[.bool false,.bool false,.bool false,.slice none 0 0,.slice none 0 0,.slice none 0 0] 29;simp only[df] at hO;have HF:=zh (nK vi vm d m _ hO.inn htab hd hc zo);have HOK:=zh (zi (fun h:chkD d 1=0=>uD h) (fun h:chkD d 1≠0=>CQ h));have hnr:=hd.ok.n;have HB0:=zh (show jL op.toList d=if ofE d≠0 then ofE d else if op.toList=[33,61] then 0 else if jI op.toList=true then (if d.kind=3∨d.kind=4 then 0 else 11) else 8 from rfl);have HP:=zh (zi (fun (h:dtEl d=none)=>tJ (op:=op.toList) h) (zi (fun a (h:dtEl d=some a) e=>vz h e) (zi (fun u (ho:jI op.toList=true) (h:dtEl d=some (.num u))=>F4 ho h)
  (zi (fun z f C (ho:jI op.toList=true) (h:dtEl d=some (.str z)) (hf:dx op.toList z=some f) (hC:dX f C)=>F3 ho h hf hC) (zi (fun a (ho:jI op.toList=true) (h:dtEl d=some a) (ha:a=.nul∨a=.fal∨a=.tru)=>ww ho h ha) (fun (ho:jI op.toList=false) (hne:op.toList≠[33,61])=>Ah (d:=d) ho hne))))))
 obtain⟨ai,ci,am,cm,rfl,rfl⟩:=hd.slices;have HT:=zh htab;unfold Dt.val at HF ⊢;have HO:=zh hO;clear hO hd hc htab;generalize jL op.toList d=BE at *
 generalize hBP:gV op.toList d=BP at *
 generalize chkD d 1=cx at *
 generalize ofE d=er at *
 generalize hde:dtEl d=de at *
 generalize d.kind=k at *
 generalize d.num=n at *
 generalize d.str=s0 at *
 generalize d.items.length=li at *
 generalize d.bv.length=lm at *
 refine aj fun R hR=>?_
 go_enter Tryz.func24,Tryz.ntmps24
 go_wp2_with fail
 refine HF.out.mono ?_;rintro e w1 ⟨one,si,sf,st,rfl,hb1,h1,h2,h3⟩;obtain⟨xa,xb,xc,xd,xe,xf,rfl,rfl,rfl⟩:=h1.spell;unfold RS.val;have hO1:=(HO.out.call hb1).al #[.bool one.nul,.bool one.fal,.bool one.tru,.slice xa one.i.length xb,.slice xc one.f.length xd,.slice xe one.t.length xf] 29;have hle:=hO1.ext.1;have HO1:=zh hO1;clear HF HO hb1 hO1
 go_upto_region 2 with (fail)
 generalize hW:w1.alloc (.cells #[.bool one.nul,.bool one.fal,.bool one.tru,.slice xa one.i.length xb,.slice xc one.f.length xd,.slice xe one.t.length xf] 29)=w2 at *
 generalize w1.heap.size=g6 at *
 generalize m.grow _ w1=mk at *
 clear hW;by_cases her:er=0
 ·subst her;have hq:vE k n s0 de 0:=by
   by_cases hcx:cx=0
   ·exact HOK.out.1 hcx
   ·exact absurd (HOK.out.2 hcx).2.symm hcx
  have HQ:=zh hq;clear hq HOK;have q0:=HO1.out.third.obj.cell (i:=0) rfl;have q1:=HO1.out.third.obj.lt
  go_upto_region 4 with (fail)
  refine aA [0,3,4,6,8] (fun vs w'=>vs=[.string op,.pointer (some ⟨w.heap.size,0,none⟩),.pointer (some ⟨w.heap.size+1,0,none⟩),.pointer (some ⟨g6,0,none⟩),.bool (decide (k=3∨k=4))] ∧
   Own w m w' mk [.obj g6 29 #[.bool one.nul,.bool one.fal,.bool one.tru,.slice xa one.i.length xb,.slice xc one.f.length xd,.slice xe one.t.length xf],.obj (w.heap.size+1) 29 #[.bool false,.bool false,.bool false,.slice none 0 0,.slice none 0 0,.slice none 0 0],.obj w.heap.size 33 #[.int .i64 k,.int .i64 n,.string s0,.slice ai li ci,.slice am lm cm]]) ?_ ?_
  ·intro Y hY;by_cases e3:k=3
   ·have d3:(k==3)=true:=beq_iff_eq.2 e3;have HD:=zh (show decide (k=3∨k=4)=true by simp[e3]);clear e3;go_wp2;exact hY.out _ _ rfl ⟨by rw[HD.out];rfl,HO1.out⟩
   ·have d3:(k==3)=false:=beq_eq_false_iff_ne.2 e3;have HD:=zh (show decide (k=3∨k=4)=(k==4) by rw[Bool.eq_iff_iff];simp[e3]);clear e3;go_wp2
    all_goals refine hY.out _ _ rfl ⟨?_,HO1.out⟩
    all_goals rw[HD.out]
    all_goals first
     | rfl
     | (simp_all;done)
  clear HO1 q0 q1;rintro z0 vs w3 - ⟨rfl,hO⟩;simp[litL,lk];by_cases h33:op.toList=[33,61]
  ·have b33:(op.toList==[33,61])=true:=beq_iff_eq.2 h33;have HBE:=zh (show BE=0 by rw[HB0.out];simp[h33]);obtain⟨a0,ha0⟩:∃a0,de=some a0:=by
    cases HQ.out with
    | nul hk h he=>exact⟨_,h⟩
    | fal hk hn h he=>exact⟨_,h⟩
    | tru hk hn h he=>exact⟨_,h⟩
    | num hk hv h he=>exact⟨_,h⟩
    | str hk h he=>exact⟨_,h⟩
    | parts hk h he=>exact absurd he zD
   have HI:=zh (fun s (h:ScIs (fun e=>(bU allS).has e∧¬ (bU one).has e) s)=>show ScIs BP s from h.congr fun e=>by
    rw[jJ nX.valid,jJ h2.valid,nX.mem,h2.mem,← hBP,h33,HP.out.2.1 a0 ha0 e,ha0];constructor
    ·rintro ⟨p,q⟩;exact⟨fun e1=>q (by rw[e1]),p⟩
    ·rintro ⟨p,q⟩;exact⟨q,fun e1=>p (by cases e1;rfl)⟩)
   have HT2:=zh (HT.out.le hle);have H1:=zh (zi h1 h3);have HO:=zh hO;clear HB0 HP HT HQ h1 h2 h3 hO h33 ha0 hBP
   go_upto_region 7 with (fail)
   refine aA [4,5] (fun vs w'=>∃(mk':Mem) (s:RS) (ra rc re:Option Addr) (rb rd rf:Nat),vs=[.pointer (some ⟨w.heap.size+1,0,none⟩),.int .i64 0] ∧
    ScAt mk' (.slice ra s.i.length rb) (.slice rc s.f.length rd) (.slice re s.t.length rf) s∧ScIs BP s∧ScLe s 6 (3*(s0.size+5)+1) ∧
    Own w m w' mk' [.obj (w.heap.size+1) 29 #[.bool s.nul,.bool s.fal,.bool s.tru,.slice ra s.i.length rb,.slice rc s.f.length rd,.slice re s.t.length rf]]) ?_ ?_
   ·intro X hX;refine aM 3 5 (fun j=>[Fact.mem mk [0] (ScV allS),Fact.is (·=.agg #[.bool one.nul,.bool one.fal,.bool one.tru,.slice xa one.i.length xb,.slice xc one.f.length xd,.slice xe one.t.length xf]),Fact.mem mk [2,0] (ScRV BP 6 (3*(s0.size+5)+1))].getD j Fact.any) zk zk ?_ ?_
    ·intro i hi o win a wr ho RA;have HO2:=HO.out.dr.move RA.below;obtain⟨p0,p1,p2,p3,p4,p5⟩:=HO2.obj.cs6;rcases (show i=0∨i=1∨i=2 by omega) with rfl | rfl | rfl
     ·cases ho;refine we rfl rfl (oh mk wr HO2.inn) ?_;rintro e w' ⟨ri,rf,rt,rfl,hb,hn⟩;exact⟨_,rfl,_,rfl,hb,bH ScV.le HO2.inn hb (qh hn)⟩
     ·have e6:=RA.k 6;cases ho;exact wv rfl rfl rfl
     ·have e29:(Fact.mem mk [0] (ScV allS)).holds (a.tmps.getD 29 undef) win wr:=RA.d 0 rfl;have e30:a.tmps.getD 30 undef=_:=RA.d 1 rfl;cases ho;obtain⟨r1,r2,r3,r4,r5,r6,k1,t1⟩:ScV _ _ _:=e29;refine we rfl rfl (jU _ _ _ allS _ _ _ one 1 1 1 (s0.size+1) (mk.wins wr win [0]) wr (Mem.bK HO2.inn win [0]) (HT2.out.le (Mem.dw HO2.inn win [0])) t1 (H1.out.1.le (Mem.dw HO2.inn win [0])) qF H1.out.2 zo zo zo) ?_;rintro e w' ⟨s,si,sf,st,rfl,hb,hn,hS,hL⟩;obtain⟨y1,y2,y3,y4,y5,y6,rfl,rfl,rfl⟩:=hn.spell;refine ⟨_,rfl,_,rfl,hb,fG (R:=ScRV BP 6 (3*(s0.size+5)+1)) (ds:=[0]) (fun hle v k=>?_) HO2.inn zS (fun d hd=>(RA.rng d (by simp at hd;subst hd;kernel_rfl)).2.2) hb ⟨s,⟨_,_,_,_,_,_,rfl,hn⟩,HI.out s hS,hL.mono zo zo⟩⟩;obtain⟨s',k1,k2⟩:=k;exact⟨s',k1.le hle,k2⟩
    ·intro win a wr E;have e4:=E.keep 4 zk;have e31:(Fact.mem mk [2,0] (ScRV BP 6 (3*(s0.size+5)+1))).holds (a.tmps.getD 31 undef) win wr:=E.fact 2 _ zo rfl;obtain⟨s,⟨ra,rb,rc,rd,re,rf,k1,st1⟩,hS,hL⟩:ScRV _ _ _ _ _:=e31;have hO1:=(HO.out.dr.region E.below win [2,0] (fun d hd=>(E.rng d (by simp at hd;omega)).1)).swap;have HE:=zh E;generalize mk.wins wr win [2,0]=mk2 at *
     have HK:=zh (zi st1 (zi hS hL));clear E st1 hS hL;obtain⟨p0,p1,p2,p3,p4,p5,pf0,pf1,pf2,pf3,pf4,pf5⟩:=hO1.obj.cf6;have pl:=hO1.obj.lt;have HO4:Hid (Own _ _ _ _ (.obj _ 29 #[.bool s.nul,.bool s.fal,.bool s.tru,.slice ra s.i.length rb,.slice rc s.f.length rd,.slice re s.t.length rf]::_)):=zh ((((((hO1.set 0 (.bool s.nul)).set 1 (.bool s.fal)).set 2 (.bool s.tru)).set 3 (.slice ra s.i.length rb)).set 4 (.slice rc s.f.length rd)).set 5 (.slice re s.t.length rf));clear hO1;refine bR 3 zk (aB rfl rfl (aS zg ?_));clear p0 p1 p2 p3 p4 p5 pl pf0 pf1 pf2 pf3 pf4 pf5;refine bR 4 zk (aB rfl rfl (aD (v:=.int .i64 0) rfl ?_));obtain⟨t,d⟩:=a;obtain rfl:d=[]:=HE.out.defers;have hsz:t.size=46:=HE.out.size;have hg4:(t.setIfInBounds 5 (Value.int .i64 0)).getD 4 undef=t.getD 4 undef:=by simp[Array.getD_eq_getD_getElem?]
     have hg5:(t.setIfInBounds 5 (Value.int .i64 0)).getD 5 undef=.int .i64 0:=by simp[Array.getD_eq_getD_getElem?,hsz]
     refine aV zk (hX.out (t.setIfInBounds 5 (Value.int .i64 0)) _ ((Array.size_setIfInBounds ..).trans HE.out.size) ⟨mk2,s,ra,rc,re,rb,rd,rf,?_,HK.out.1,HK.out.2.1,HK.out.2.2,HO4.out.drop2.drop2⟩) _;simp only[List.map_cons,List.map_nil];rw[hg4,hg5,e4]
     rfl
   rintro z3 vs w4 - ⟨mk',s,ra,rc,re,rb,rd,rf,rfl,hs,hS,hL,hO⟩;simp[litL,lk];obtain⟨g0,g1,g2,g3,g4,g5⟩:=hO.obj.cs6;have gl:=hO.obj.lt;have Hk:=zh (zi hO.below (zi (hs.le hO.done) (zi hS hL)));clear hO hs hS hL HO H1 HT2 HI;go_wp2;refine bodyPost_ret (v:=.tuple #[.agg #[.bool s.nul,.bool s.fal,.bool s.tru,.slice ra s.i.length rb,.slice rc s.f.length rd,.slice re s.t.length rf],.int .i64 0]) (by simp[results,Tryz.results24,go_sem,g0,g1,g2,g3,g4,g5]) rfl ?_;exact hR.out _ _ ⟨s,_,_,_,by rw[HBE.out];rfl,Hk.out.1,Hk.out.2.1,Hk.out.2.2.1,Hk.out.2.2.2⟩
  ·have b33:(op.toList==[33,61])=false:=beq_eq_false_iff_ne.2 h33;by_cases ho:jI op.toList=true
   ·have hb:(op.toList==[60])=true∨((op.toList==[60])=false∧(op.toList==[60,61])=true)∨((op.toList==[60])=false∧(op.toList==[60,61])=false∧(op.toList==[62])=true) ∨
     ((op.toList==[60])=false∧(op.toList==[60,61])=false∧(op.toList==[62])=false∧(op.toList==[62,61])=true):=by
     rcases lH ho with h | h | h | h <;> rw[h] <;> decide
    have hops:op.size≤1000:=by
     rcases lH ho with h | h | h | h <;> exact Ri h zS
    have HO3:=zh ho;have HB1:=zh (show BE=if k=3∨k=4 then 0 else 11 by rw[HB0.out];simp[h33,ho]);clear h33 HB0;have HQ2:=HQ.out
    cases HQ2 with
    | num hk hv h he=>
     subst hk;have HBE:=zh (show BE=0 by rw[HB1.out];simp);have HI:=zh (zi (HP.out.2.2.1 n ho h) (F5 op.toList n));have hbn:=vB (yY ho) hv;have HRN:=zh (wR op n s0 ai am li ci lm cm mk w3 hO.inn hnr.1 hnr.2);rw[hbn.1,hbn.2] at HRN;have HO:=zh hO;obtain⟨q0,q1,q2,q3,q4⟩:=hO.third.obj.cs5;have q5:=hO.third.obj.lt;have hd:decide ((3:Int)=3∨(3:Int)=4)=true:=by decide
     generalize fo op.toList n=x at *
     clear hO HP HQ HT HB1 HO3 h1 h2 h3 hv h ho hbn he hops;rcases hb with b0 | ⟨b0,b1⟩ | ⟨b0,b1,b2⟩ | ⟨b0,b1,b2,b3⟩
     all_goals go_wp2_with fail
     all_goals refine HRN.out.mono ?_
     all_goals rintro e w4 ⟨ri,rf,rfl,hb4,hn⟩
     all_goals obtain⟨ya,yc,za,zc,rfl,rfl⟩:=hn.spell
     all_goals have hO:=(HO.out.call hb4).swap
     all_goals have hS:ScAt _ (.slice ya x.i.length yc) (.slice za x.rf.length zc) (.slice none 0 0) ⟨false,false,false,x.i,x.rf,[]⟩:=⟨hn.i,hn.f,aZ _⟩
     all_goals clear HRN HO hb4 hn q0 q1 q2 q3 q4 q5
     all_goals have g0:=hO.obj.cell (i:=0) rfl
     all_goals have g1:=hO.obj.cell (i:=1) rfl
     all_goals have g2:=hO.obj.cell (i:=2) rfl
     all_goals have g3:=hO.obj.cell (i:=3) rfl
     all_goals have g4:=hO.obj.cell (i:=4) rfl
     all_goals have g5:=hO.obj.cell (i:=5) rfl
     all_goals have gf0:=hO.obj.frozen 0
     all_goals have gf1:=hO.obj.frozen 1
     all_goals have gf2:=hO.obj.frozen 2
     all_goals have gf3:=hO.obj.frozen 3
     all_goals have gf4:=hO.obj.frozen 4
     all_goals have gf5:=hO.obj.frozen 5
     all_goals have gl:=hO.obj.lt
     all_goals have hO2:Own _ _ _ _ (.obj _ 29 #[.bool false,.bool false,.bool false,.slice ya x.i.length yc,.slice za x.rf.length zc,.slice none 0 0]::_):=((((((hO.set 0 (.bool false)).set 1 (.bool false)).set 2 (.bool false)).set 3 (.slice ya x.i.length yc)).set 4 (.slice za x.rf.length zc)).set 5 (.slice none 0 0))
     all_goals have k0:=hO2.obj.cell (i:=0) rfl
     all_goals have k1:=hO2.obj.cell (i:=1) rfl
     all_goals have k2:=hO2.obj.cell (i:=2) rfl
     all_goals have k3:=hO2.obj.cell (i:=3) rfl
     all_goals have k4:=hO2.obj.cell (i:=4) rfl
     all_goals have k5:=hO2.obj.cell (i:=5) rfl
     all_goals have Hk:=zh (zi hO2.below (hS.le hO2.done))
     all_goals clear hO2 hS hO
     all_goals go_wp2
     all_goals refine bodyPost_ret (v:=.tuple #[.agg #[.bool false,.bool false,.bool false,.slice ya x.i.length yc,.slice za x.rf.length zc,.slice none 0 0],.int .i64 0]) (by simp[results,Tryz.results24,go_sem,k0,k1,k2,k3,k4,k5]) rfl ?_
     all_goals exact hR.out _ _ ⟨⟨false,false,false,x.i,x.rf,[]⟩,_,_,_,by rw[HBE.out];rfl,Hk.out.1,Hk.out.2,HI.out.1,⟨Nat.le_trans HI.out.2.1 zo,Nat.le_trans HI.out.2.2 zo,zS⟩⟩
    | str hk h he=>
     subst hk;have HBE:=zh (show BE=0 by rw[HB1.out];simp);have HI:=zh (fun f C (hf:dx op.toList s0.data.toList=some f) (hC:dX f C)=>HP.out.2.2.2.1 s0.data.toList f C ho h hf hC);have hsome:∃f,dx op.toList s0.data.toList=some f:=by
      rcases lH ho with h | h | h | h <;> rw[h] <;> exact⟨_,rfl⟩
     obtain⟨f,hf⟩:=hsome;have HRN:=zh (Em op 4 n s0 ai am li ci lm cm mk w3 hO.inn (HT.out.le hle) zD hops zo);rw[hf] at HRN;have HI2:=zh (fun C (hC:dX f C)=>HI.out f C hf hC);have HO:=zh hO;obtain⟨q0,q1,q2,q3,q4⟩:=hO.third.obj.cs5;have q5:=hO.third.obj.lt;have hd:decide ((4:Int)=3∨(4:Int)=4)=true:=by decide
     clear hO HP HQ HT HB1 HO3 h1 h2 h3 h ho he hops HI hf;rcases hb with b0 | ⟨b0,b1⟩ | ⟨b0,b1,b2⟩ | ⟨b0,b1,b2,b3⟩
     all_goals go_wp2_with fail
     all_goals refine HRN.out.mono ?_
     all_goals rintro e w4 ⟨rt,C,rfl,hb4,hst,hl,-,hlen⟩
     all_goals have HI3:=zh (zi (HI2.out C (hl f rfl)) hlen)
     all_goals obtain⟨ya,yc,rfl⟩:=eU hst
     all_goals have hO:=(HO.out.call hb4).swap
     all_goals have hS:ScAt _ (.slice none 0 0) (.slice none 0 0) (.slice ya C.length yc) ⟨false,false,false,[],[],C⟩:=⟨aR _,aR _,hst⟩
     all_goals clear HRN HO hb4 hst hl hlen q0 q1 q2 q3 q4 q5
     all_goals have g0:=hO.obj.cell (i:=0) rfl
     all_goals have g1:=hO.obj.cell (i:=1) rfl
     all_goals have g2:=hO.obj.cell (i:=2) rfl
     all_goals have g3:=hO.obj.cell (i:=3) rfl
     all_goals have g4:=hO.obj.cell (i:=4) rfl
     all_goals have g5:=hO.obj.cell (i:=5) rfl
     all_goals have gf0:=hO.obj.frozen 0
     all_goals have gf1:=hO.obj.frozen 1
     all_goals have gf2:=hO.obj.frozen 2
     all_goals have gf3:=hO.obj.frozen 3
     all_goals have gf4:=hO.obj.frozen 4
     all_goals have gf5:=hO.obj.frozen 5
     all_goals have gl:=hO.obj.lt
     all_goals have hO2:Own _ _ _ _ (.obj _ 29 #[.bool false,.bool false,.bool false,.slice none 0 0,.slice none 0 0,.slice ya C.length yc]::_):=((((((hO.set 0 (.bool false)).set 1 (.bool false)).set 2 (.bool false)).set 3 (.slice none 0 0)).set 4 (.slice none 0 0)).set 5 (.slice ya C.length yc))
     all_goals have k0:=hO2.obj.cell (i:=0) rfl
     all_goals have k1:=hO2.obj.cell (i:=1) rfl
     all_goals have k2:=hO2.obj.cell (i:=2) rfl
     all_goals have k3:=hO2.obj.cell (i:=3) rfl
     all_goals have k4:=hO2.obj.cell (i:=4) rfl
     all_goals have k5:=hO2.obj.cell (i:=5) rfl
     all_goals have Hk:=zh (zi hO2.below (hS.le hO2.done))
     all_goals clear hO2 hS hO
     all_goals go_wp2
     all_goals refine bodyPost_ret (v:=.tuple #[.agg #[.bool false,.bool false,.bool false,.slice none 0 0,.slice none 0 0,.slice ya C.length yc],.int .i64 0]) (by simp[results,Tryz.results24,go_sem,k0,k1,k2,k3,k4,k5]) rfl ?_
     all_goals exact hR.out _ _ ⟨⟨false,false,false,[],[],C⟩,_,_,_,by rw[HBE.out];rfl,Hk.out.1,Hk.out.2,HI3.out.1,⟨zS,zS,HI3.out.2⟩⟩
    | parts hk h he=>exact absurd he zD
    | nul hk h he=>
     subst hk;have HBE:=zh (show BE=11 by rw[HB1.out];simp);have HI:=zh (lu (HP.out.2.2.2.2.1 .nul ho h (.inl rfl)));have hO:=hO.swap;have hS:ScAt mk (.slice none 0 0) (.slice none 0 0) (.slice none 0 0) dO:=ScAt.empty mk;clear HP HQ HT HB1 HO3 h1 h2 h3 h ho he hops;rcases hb with b0 | ⟨b0,b1⟩ | ⟨b0,b1,b2⟩ | ⟨b0,b1,b2,b3⟩
     all_goals have g0:=hO.obj.cell (i:=0) rfl
     all_goals have g1:=hO.obj.cell (i:=1) rfl
     all_goals have g2:=hO.obj.cell (i:=2) rfl
     all_goals have g3:=hO.obj.cell (i:=3) rfl
     all_goals have g4:=hO.obj.cell (i:=4) rfl
     all_goals have g5:=hO.obj.cell (i:=5) rfl
     all_goals have gf0:=hO.obj.frozen 0
     all_goals have gf1:=hO.obj.frozen 1
     all_goals have gf2:=hO.obj.frozen 2
     all_goals have gf3:=hO.obj.frozen 3
     all_goals have gf4:=hO.obj.frozen 4
     all_goals have gf5:=hO.obj.frozen 5
     all_goals have gl:=hO.obj.lt
     all_goals have hO2:Own _ _ _ _ (.obj _ 29 #[.bool false,.bool false,.bool false,.slice none 0 0,.slice none 0 0,.slice none 0 0]::_):=((((((hO.set 0 (.bool false)).set 1 (.bool false)).set 2 (.bool false)).set 3 (.slice none 0 0)).set 4 (.slice none 0 0)).set 5 (.slice none 0 0))
     all_goals have k0:=hO2.obj.cell (i:=0) rfl
     all_goals have k1:=hO2.obj.cell (i:=1) rfl
     all_goals have k2:=hO2.obj.cell (i:=2) rfl
     all_goals have k3:=hO2.obj.cell (i:=3) rfl
     all_goals have k4:=hO2.obj.cell (i:=4) rfl
     all_goals have k5:=hO2.obj.cell (i:=5) rfl
     all_goals have Hk:=zh (zi hO2.below (hS.le hO2.done))
     all_goals clear hO2 hS hO
     all_goals go_wp2
     all_goals refine bodyPost_ret (v:=.tuple #[.agg #[.bool false,.bool false,.bool false,.slice none 0 0,.slice none 0 0,.slice none 0 0],.int .i64 11]) (by simp[results,Tryz.results24,go_sem,k0,k1,k2,k3,k4,k5]) rfl ?_
     all_goals exact hR.out _ _ ⟨dO,_,_,_,by rw[HBE.out];rfl,Hk.out.1,Hk.out.2,HI.out,fK _ _⟩
    | fal hk hn h he=>
     subst hk;have HBE:=zh (show BE=11 by rw[HB1.out];simp);have HI:=zh (lu (HP.out.2.2.2.2.1 .fal ho h (.inr (.inl rfl))));have hO:=hO.swap;have hS:ScAt mk (.slice none 0 0) (.slice none 0 0) (.slice none 0 0) dO:=ScAt.empty mk;clear HP HQ HT HB1 HO3 h1 h2 h3 h ho he hops;rcases hb with b0 | ⟨b0,b1⟩ | ⟨b0,b1,b2⟩ | ⟨b0,b1,b2,b3⟩
     all_goals have g0:=hO.obj.cell (i:=0) rfl
     all_goals have g1:=hO.obj.cell (i:=1) rfl
     all_goals have g2:=hO.obj.cell (i:=2) rfl
     all_goals have g3:=hO.obj.cell (i:=3) rfl
     all_goals have g4:=hO.obj.cell (i:=4) rfl
     all_goals have g5:=hO.obj.cell (i:=5) rfl
     all_goals have gf0:=hO.obj.frozen 0
     all_goals have gf1:=hO.obj.frozen 1
     all_goals have gf2:=hO.obj.frozen 2
     all_goals have gf3:=hO.obj.frozen 3
     all_goals have gf4:=hO.obj.frozen 4
     all_goals have gf5:=hO.obj.frozen 5
     all_goals have gl:=hO.obj.lt
     all_goals have hO2:Own _ _ _ _ (.obj _ 29 #[.bool false,.bool false,.bool false,.slice none 0 0,.slice none 0 0,.slice none 0 0]::_):=((((((hO.set 0 (.bool false)).set 1 (.bool false)).set 2 (.bool false)).set 3 (.slice none 0 0)).set 4 (.slice none 0 0)).set 5 (.slice none 0 0))
     all_goals have k0:=hO2.obj.cell (i:=0) rfl
     all_goals have k1:=hO2.obj.cell (i:=1) rfl
     all_goals have k2:=hO2.obj.cell (i:=2) rfl
     all_goals have k3:=hO2.obj.cell (i:=3) rfl
     all_goals have k4:=hO2.obj.cell (i:=4) rfl
     all_goals have k5:=hO2.obj.cell (i:=5) rfl
     all_goals have Hk:=zh (zi hO2.below (hS.le hO2.done))
     all_goals clear hO2 hS hO
     all_goals go_wp2
     all_goals refine bodyPost_ret (v:=.tuple #[.agg #[.bool false,.bool false,.bool false,.slice none 0 0,.slice none 0 0,.slice none 0 0],.int .i64 11]) (by simp[results,Tryz.results24,go_sem,k0,k1,k2,k3,k4,k5]) rfl ?_
     all_goals exact hR.out _ _ ⟨dO,_,_,_,by rw[HBE.out];rfl,Hk.out.1,Hk.out.2,HI.out,fK _ _⟩
    | tru hk hn h he=>
     subst hk;have HBE:=zh (show BE=11 by rw[HB1.out];simp);have HI:=zh (lu (HP.out.2.2.2.2.1 .tru ho h (.inr (.inr rfl))));have hO:=hO.swap;have hS:ScAt mk (.slice none 0 0) (.slice none 0 0) (.slice none 0 0) dO:=ScAt.empty mk;clear HP HQ HT HB1 HO3 h1 h2 h3 h ho he hops;rcases hb with b0 | ⟨b0,b1⟩ | ⟨b0,b1,b2⟩ | ⟨b0,b1,b2,b3⟩
     all_goals have g0:=hO.obj.cell (i:=0) rfl
     all_goals have g1:=hO.obj.cell (i:=1) rfl
     all_goals have g2:=hO.obj.cell (i:=2) rfl
     all_goals have g3:=hO.obj.cell (i:=3) rfl
     all_goals have g4:=hO.obj.cell (i:=4) rfl
     all_goals have g5:=hO.obj.cell (i:=5) rfl
     all_goals have gf0:=hO.obj.frozen 0
     all_goals have gf1:=hO.obj.frozen 1
     all_goals have gf2:=hO.obj.frozen 2
     all_goals have gf3:=hO.obj.frozen 3
     all_goals have gf4:=hO.obj.frozen 4
     all_goals have gf5:=hO.obj.frozen 5
     all_goals have gl:=hO.obj.lt
     all_goals have hO2:Own _ _ _ _ (.obj _ 29 #[.bool false,.bool false,.bool false,.slice none 0 0,.slice none 0 0,.slice none 0 0]::_):=((((((hO.set 0 (.bool false)).set 1 (.bool false)).set 2 (.bool false)).set 3 (.slice none 0 0)).set 4 (.slice none 0 0)).set 5 (.slice none 0 0))
     all_goals have k0:=hO2.obj.cell (i:=0) rfl
     all_goals have k1:=hO2.obj.cell (i:=1) rfl
     all_goals have k2:=hO2.obj.cell (i:=2) rfl
     all_goals have k3:=hO2.obj.cell (i:=3) rfl
     all_goals have k4:=hO2.obj.cell (i:=4) rfl
     all_goals have k5:=hO2.obj.cell (i:=5) rfl
     all_goals have Hk:=zh (zi hO2.below (hS.le hO2.done))
     all_goals clear hO2 hS hO
     all_goals go_wp2
     all_goals refine bodyPost_ret (v:=.tuple #[.agg #[.bool false,.bool false,.bool false,.slice none 0 0,.slice none 0 0,.slice none 0 0],.int .i64 11]) (by simp[results,Tryz.results24,go_sem,k0,k1,k2,k3,k4,k5]) rfl ?_
     all_goals exact hR.out _ _ ⟨dO,_,_,_,by rw[HBE.out];rfl,Hk.out.1,Hk.out.2,HI.out,fK _ _⟩
   ·have hof:jI op.toList=false:=by simpa using ho
    have hb:(op.toList==[60])=false∧(op.toList==[60,61])=false∧(op.toList==[62])=false∧(op.toList==[62,61])=false:=by
     obtain⟨h0,h1,h2,h3⟩:=Nb hof;exact⟨beq_eq_false_iff_ne.2 h0,beq_eq_false_iff_ne.2 h1,beq_eq_false_iff_ne.2 h2,beq_eq_false_iff_ne.2 h3⟩
    obtain⟨b0,b1,b2,b3⟩:=hb;have HBE:=zh (show BE=8 by rw[HB0.out];simp[h33,hof]);have HI:=zh (lu (HP.out.2.2.2.2.2 hof h33));have hO:=hO.swap;have hS:ScAt mk (.slice none 0 0) (.slice none 0 0) (.slice none 0 0) dO:=ScAt.empty mk;clear h33 ho hof HB0 HP HT HQ h1 h2 h3;obtain⟨g0,g1,g2,g3,g4,g5,gf0,gf1,gf2,gf3,gf4,gf5⟩:=hO.obj.cf6;have gl:=hO.obj.lt;have hO2:Own _ _ _ _ (.obj _ 29 #[.bool false,.bool false,.bool false,.slice none 0 0,.slice none 0 0,.slice none 0 0]::_):=((((((hO.set 0 (.bool false)).set 1 (.bool false)).set 2 (.bool false)).set 3 (.slice none 0 0)).set 4 (.slice none 0 0)).set 5 (.slice none 0 0));obtain⟨k0,k1,k2,k3,k4,k5⟩:=hO2.obj.cs6;have Hk:=zh (zi hO2.below (hS.le hO2.done));clear hO2 hS hO;go_wp2;refine bodyPost_ret (v:=.tuple #[.agg #[.bool false,.bool false,.bool false,.slice none 0 0,.slice none 0 0,.slice none 0 0],.int .i64 8]) (by simp[results,Tryz.results24,go_sem,k0,k1,k2,k3,k4,k5]) rfl ?_;exact hR.out _ _ ⟨dO,_,_,_,by rw[HBE.out];rfl,Hk.out.1,Hk.out.2,HI.out,fK _ _⟩
 ·have hno:de=none:=by
   by_cases hcx:cx=0
   ·cases HOK.out.1 hcx with
    | parts hk h he=>exact h
    | nul hk h he=>exact absurd he her
    | fal hk hn h he=>exact absurd he her
    | tru hk hn h he=>exact absurd he her
    | num hk hv h he=>exact absurd he her
    | str hk h he=>exact absurd he her
   ·exact (HOK.out.2 hcx).1
  have HBE:=zh (show BE=er by rw[HB0.out];simp[her]);have HI:=zh (lu (HP.out.1 hno));have hne:(er != 0)=true:=by simpa using her
  have hO:=HO1.out.swap;have hS:ScAt mk (.slice none 0 0) (.slice none 0 0) (.slice none 0 0) dO:=ScAt.empty mk;clear HOK HB0 HP HT HO1 h1 h2 h3 her;obtain⟨g0,g1,g2,g3,g4,g5,gf0,gf1,gf2,gf3,gf4,gf5⟩:=hO.obj.cf6;have gl:=hO.obj.lt;have hO2:Own _ _ _ _ (.obj _ 29 #[.bool false,.bool false,.bool false,.slice none 0 0,.slice none 0 0,.slice none 0 0]::_):=((((((hO.set 0 (.bool false)).set 1 (.bool false)).set 2 (.bool false)).set 3 (.slice none 0 0)).set 4 (.slice none 0 0)).set 5 (.slice none 0 0));obtain⟨k0,k1,k2,k3,k4,k5⟩:=hO2.obj.cs6;have Hk:=zh (zi hO2.below (hS.le hO2.done));clear hO2 hS hO;go_wp2;refine bodyPost_ret (v:=.tuple #[.agg #[.bool false,.bool false,.bool false,.slice none 0 0,.slice none 0 0,.slice none 0 0],.int .i64 er]) (by simp[results,Tryz.results24,go_sem,k0,k1,k2,k3,k4,k5]) rfl ?_;exact hR.out _ _ ⟨dO,_,_,_,by rw[HBE.out];rfl,Hk.out.1,Hk.out.2,HI.out,fK _ _⟩
theorem Mt {s one:RS} {d:Dt} {e:El} (h:dtEl d=some e) (ho:ScIs (fun e=>dtEl d=some e) one):subB one s=hasD s d:=by
 rw[jy h];unfold subB;refine fT ?_;rw[jJ ho.valid];constructor
 ·intro k;exact k e ((ho.mem e).2 h)
 ·intro k e' he';have:=(ho.mem e').1 he';rw[h] at this;cases this;exact k
theorem ek (vi vf vt:Value) (S:RS) (ui um:Value) (d:Dt) (n t:Nat) (m:Mem) (w:World) (hm:m.inn w) (htab:TabM m) (hs:ScAt m vi vf vt S) (hd:DtAt m ui um d) (hc:cnt d≤1000000) (hz:d.str.size≤1000) (hl:ScLe S n t) (hn:n≤250) (ht:(d.str.size+1+2)*(t+2)≤99999) :
 Calls Tryz.prog 30 #[S.val vi vf vt,d.val ui um] w fun e w'=>e=.returned (.bool (hasD S d))∧Below w.heap.size w w':=by
 have hO:=((Own.start hm).al #[.bool S.nul,.bool S.fal,.bool S.tru,vi,vf,vt] 29).al #[.int .i64 d.kind,.int .i64 d.num,.string d.str,ui,um] 33;simp only[df] at hO;have HF:=zh (nK ui um d m _ hO.inn htab hd hc hz);have HS:=zh (fun (one:RS) si sf st (mk:Mem) w' (h:mk.inn w') (hle:m.le mk) (h1:ScAt mk si sf st one) (h2:ScLe one 1 (d.str.size+1))=>ik si sf st one vi vf vt S 1 (d.str.size+1) n t mk w' h (htab.le hle) h1 (hs.le hle) h2 hl zo hn ht);have HE:=zh (show ofE d=0↔∃e,dtEl d=some e from iI);have HH:=zh (fun (one:RS) e (h:dtEl d=some e) (ho:ScIs (fun e=>dtEl d=some e) one)=>Mt (s:=S) h ho);have HN:=zh (fun h:dtEl d=none=>jA (s:=S) h);obtain⟨a1,b1,a2,b2,a3,b3,rfl,rfl,rfl⟩:=hs.spell;obtain⟨c1,d1,c2,d2,rfl,rfl⟩:=hd.slices;unfold RS.val at HS ⊢;unfold Dt.val at HF ⊢;have HO:=zh hO;clear hO hs hd hc hz hl hn ht htab;generalize hasD S d=hs at *
 generalize d.kind=dk at *
 generalize d.num=dn at *
 generalize d.str=ds at *
 refine aj fun R hR=>?_
 go_enter Tryz.func30,Tryz.ntmps30
 go_wp2_with fail
 refine HF.out.mono ?_;rintro e w1 ⟨one,si,sf,st,rfl,hb1,h1,h2,h3⟩;obtain⟨xa,xb,xc,xd,xe,xf,rfl,rfl,rfl⟩:=h1.spell;unfold RS.val;have hO1:=(HO.out.call hb1).al #[.bool one.nul,.bool one.fal,.bool one.tru,.slice xa one.i.length xb,.slice xc one.f.length xd,.slice xe one.t.length xf] 29;by_cases hof:ofE d=0
 ·obtain⟨e0,he0⟩:=HE.out.1 hof;have HS2:=zh (HS.out one _ _ _ _ _ hO1.inn hO1.ext.1 h1 h3);rw[HH.out one e0 he0 h2] at HS2;rw[hof];obtain⟨q0,q1,q2,q3,q4,q5⟩:=hO1.third.obj.cs6;have q6:=hO1.third.obj.lt;have p0:=(HO.out.call hb1).swap.obj.cell (i:=0) rfl;have p1:=(HO.out.call hb1).swap.obj.cell (i:=1) rfl;have p2:=(HO.out.call hb1).swap.obj.cell (i:=2) rfl;have p3:=(HO.out.call hb1).swap.obj.cell (i:=3) rfl;have p4:=(HO.out.call hb1).swap.obj.cell (i:=4) rfl;have p5:=(HO.out.call hb1).swap.obj.cell (i:=5) rfl;have p6:=(HO.out.call hb1).swap.obj.lt;have HO1:=zh hO1;clear HF HO hb1 h1 h2 h3 hO1 HE HH HN hof he0 HS
  go_wp2_with fail
  refine HS2.out.mono ?_;rintro e w2 ⟨rfl,hb2⟩;have HB:=zh (HO1.out.move hb2).below;clear HS2 HO1 hb2;go_wp2;exact hR.out _ _ ⟨rfl,HB.out⟩
 ·have hne:(ofE d==0)=false:=beq_eq_false_iff_ne.2 hof;have hdn:dtEl d=none:=by
   cases h:dtEl d with
   | none=>rfl
   | some e0=>exact absurd (HE.out.2 ⟨e0,h⟩) hof
  have HN2:=zh (HN.out hdn);have HB:=zh hO1.below;clear HF HO hb1 h1 h2 h3 hO1 HE HH HN hof hdn HS;generalize ofE d=er at *
  go_wp2;exact hR.out _ _ ⟨aQ (by rw[HN2.out]),HB.out⟩
end Cl
