/- Lemmas for the proofs of chapter 11. -/
import Derived.Test.YtajbfioncdnkcaaGreatDoorProg
import Derived.BigQuiet
import Derived.Deep.Cut
import Derived.Deep.QuietTactic
import Derived.Laws.StructEq
import Derived.Lib.AppendStr
import Derived.Lib.Builder
import Derived.Lib.Hide
import Derived.Lib.ItoaLen
import Derived.Maps.OwnOps
import Derived.Maps.OwnSet
import Derived.OrdersHeld
import Derived.Outline
import Derived.StillTailTactics
import Derived.StringKeys
import Derived.WalkKit
import Derived.WalkLawsBesides
import Derived.WalkSpells
import Derived.Deep.RegionHeld
import Derived.RangeFuncNested
import Derived.RangeFuncBound
import Derived.RangeFuncCalls
import Derived.RangeFuncLeaves
import Derived.OwnWalkIn
import Derived.TacticsInMore
import Derived.LoopNIn
import Derived.LoopIn
import Derived.Shelf.Spec.SlicesGrow
import Derived.Shelf.SlSortCmp.WholeK
import Derived.Laws.EntriesVeiled
import Derived.Laws.CopyOwn
import Derived.RegionTactic
import Derived.Test.YtajbfioncdnkcaaGreatDoorZz
import Derived.Test.YtajbfioncdnkcaaGreatDoorPkM4
import Derived.Test.YtajbfioncdnkcaaGreatDoorPkM3
import Derived.Test.YtajbfioncdnkcaaGreatDoorPkM1
import Derived.Test.YtajbfioncdnkcaaGreatDoorPkM2
import Derived.Test.YtajbfioncdnkcaaGreatDoorPkM8
import Derived.Test.YtajbfioncdnkcaaGreatDoorPkM9
import Derived.Test.YtajbfioncdnkcaaGreatDoorPkM5
import Derived.Test.YtajbfioncdnkcaaGreatDoorPkM10
import Derived.Test.YtajbfioncdnkcaaGreatDoorPkM11
set_option maxRecDepth 100000
set_option maxHeartbeats 16000000
namespace Cl
open Go Go.RowKit Go.Proofs
def opsL:List ByteArray:=[⟨#[60]⟩,⟨#[60,61]⟩,⟨#[62]⟩,⟨#[62,61]⟩,⟨#[61,61]⟩,⟨#[33,61]⟩]
def opsV:Array Value:=#[.string ⟨#[60]⟩,.string ⟨#[60,61]⟩,.string ⟨#[62]⟩,.string ⟨#[62,61]⟩,.string ⟨#[61,61]⟩,.string ⟨#[33,61]⟩]
theorem Nf (op:ByteArray):(∃y∈opsL,op.toList=y.toList)↔known op.toList=true:=by
 unfold opsL;simp only[List.mem_cons,List.not_mem_nil,or_false,exists_eq_or_imp,exists_eq_left,ByteArray.toList_eq,known,Bool.or_eq_true,decide_eq_true_eq,opLt,opLe,opGt,opGe,opEq,opNe];simp only[or_assoc]
theorem Sw {w:World} {g:Nat} {t:TypeId} {mk:Mem} (h:bI w g t opsV):rG (mk.add w g) (.slice (some ⟨g,0,none⟩) 6 6) opsL:=
 ⟨_,6,rfl,Nat.le_refl _,by simp[maxLen],fun _=>⟨g,0,rfl,fun i hi=>by
  have hi':i<6:=hi;rcases (show i=0∨i=1∨i=2∨i=3∨i=4∨i=5 by omega) with rfl | rfl | rfl | rfl | rfl | rfl <;> exact⟨Mem.cz h rfl,by first | (show (1:Nat)≤maxLen;simp[maxLen]) | (show (2:Nat)≤maxLen;simp[maxLen])⟩⟩⟩
theorem GX (op:ByteArray) (u:Int) (m:Mem) (w:World) (hm:m.inn w) (hu1 : -9223372036854775808≤u) (hu2:u≤9223372036854775807) :
 Calls Tryz.prog 109 #[.string op,.int .i64 u] w fun e w'=>∃ri rf,e=.returned (.tuple #[.agg #[ri,rf],.int .i64 (bndE op.toList u)])∧Below w.heap.size w w'∧bF (m.grow w w') ri rf (bndN op.toList u).i (bndN op.toList u).rf:=by
 have hO:=((Own.start hm).al #[.slice none 0 0,.slice none 0 0] 24).al opsV 9;simp only[df] at hO;have hs:=Sw (mk:=m) hO.obj;have hO1:=hO.ib;have HK:=zh (xQ _ opsL op _ _ hO1.inn hs);rw[fT (Nf op)] at HK;have HO:=zh hO.tail;have HV:=zh (fun w'=>rT u w');clear hO hO1 hs;unfold opsV at HK HO;refine aj fun R hR=>?_
 go_enter Tryz.func109,Tryz.ntmps109
 go_wp2_with fail
 refine HK.out.mono ?_;rintro e w1 ⟨rfl,hb1⟩;have HO1:=zh (HO.out.move hb1);clear HK HO hb1;by_cases hkn:known op.toList=true
 ·rw[aN hkn];have Hkn:=zh hkn;clear hkn
  go_wp2_with fail
  refine (HV.out _).mono ?_;rintro e w2 ⟨rfl,hb2⟩;have hO:=HO1.out.move hb2;by_cases hv:bP u
  ·rw[decide_eq_true hv];have HG:=zh (vB Hkn.out hv);have hv2 : -1000000000000000≤u∧u≤1000000000000000:=by simpa [bP,maxU] using hv
   have HF1:=zh (fun w'=>sJ (u - 1) w' zo zo);have HF2:=zh (fun w'=>sJ (-u) w' zo zo);have HF3:=zh (fun w'=>sJ u w' zo zo);have HOK:=zh (show spOk (-100000000000,(u - 1) / 10000)∧spOk (-1000000000000000,u - 1)∧spOk (-(-u / 10000),u / 10000)∧spOk (u,u) by unfold spOk;dsimp only;omega);have HEL0:=zh (show ((eqN u).i.length≤1∧(eqN u).rf.length≤1)∧((ltN u).i.length≤1∧(ltN u).rf.length≤1)∧(leN u).i.length≤1∧(leN u).rf.length≤1 from
    ⟨⟨(fF (k:=1) zS zS).i,by rw[NS.ky];exact (fF (k:=1) zS zS).f⟩,⟨(fF (k:=1) zS zS).i,by rw[NS.ky];exact (fF (k:=1) zS zS).f⟩,(fF (k:=1) zS zS).i,by rw[NS.ky];exact (fF (k:=1) zS zS).f⟩)
   have HLT0:=zh (show mkN [(-100000000000,(u - 1) / 10000)] [(-1000000000000000,u - 1)]=ltN u from rfl);have HEQ0:=zh (show mkN [(-(-u / 10000),u / 10000)] [(u,u)]=eqN u from rfl);have HO2:=zh hO;have HB1:=zh (show -100000000001≤(u - 1) / 10000∧(u - 1) / 10000≤100000000000 ∧ -100000000000 ≤ -u / 10000 ∧ -u / 10000≤100000000000 by omega);clear hb2 HO1 HV hO hv
   go_wp2_with fail
   refine (HF1.out _).mono ?_;rintro e w3 ⟨rfl,hb3⟩;have hO3:=HO2.out.move hb3;have hO4:=((hO3.al #[.int .i64 (-100000000000),.int .i64 ((u - 1) / 10000)] 104).al #[.int .i64 (-1000000000000000),.int .i64 (u - 1)] 104);simp only[df] at hO4;obtain⟨mk1,l1,p1,hO5⟩:=qO hO4 HOK.out.2.1;obtain⟨mk2,l2,p2,hO6⟩:=qO hO5 HOK.out.1;have HM:=zh (jb _ _ _ _ mk2 _ hO6.inn ⟨p2,aY l2 p1⟩ zS zS);rw[HLT0.out] at HM;have HO6:=zh hO6;clear HF1 HO2 hb3 hO3 hO4 hO5 hO6 l1 l2 p1 p2;generalize (u - 1) / 10000=f1 at *
   go_wp2_with fail
   refine HM.out.mono ?_;rintro e w4 ⟨ri,rf,rfl,hb4,hn⟩;obtain⟨la1,lc1,lb1,ld1,rfl,rfl⟩:=hn.spell;have hO7:=(HO6.out.call hb4).al #[.slice la1 (ltN u).i.length lc1,.slice lb1 (ltN u).rf.length ld1] 24;have HO7:=zh (zi hn hO7);generalize mk2.grow _ w4=mk3 at HO7;clear HM HO6 hb4 hn hO7
   go_upto_region 6 with (fail)
   generalize hW:w4.alloc (.cells #[.slice la1 (ltN u).i.length lc1,.slice lb1 (ltN u).rf.length ld1] 24)=w5 at *
   generalize w4.heap.size=g6 at *
   refine aA [0,4,6,7] (fun vs w'=>∃(mk2:Mem) (g7:Nat) (x3 x4:Value),vs=[.string op,.pointer (some ⟨w.heap.size,0,none⟩),.pointer (some ⟨g6,0,none⟩),.pointer (some ⟨g7,0,none⟩)] ∧
    bF mk2 (.slice la1 (ltN u).i.length lc1) (.slice lb1 (ltN u).rf.length ld1) (ltN u).i (ltN u).rf∧bF mk2 x3 x4 (eqN u).i (eqN u).rf ∧
    Own w m w' mk2 [.obj g7 24 #[x3,x4],.obj g6 24 #[.slice la1 (ltN u).i.length lc1,.slice lb1 (ltN u).rf.length ld1],.obj w.heap.size 24 #[.slice none 0 0,.slice none 0 0]]) ?_ ?_
   ·intro Y hY
    go_wp2_with fail
    refine (HF2.out _).mono ?_;rintro e w6 ⟨rfl,hb6⟩;have HO8:=zh (HO7.out.2.move hb6);generalize hfm : -u / 10000=fm at *
    have hfm2:=HB1.out.2.2;clear HF2 hb6
    go_wp2_with fail
    refine (HF3.out _).mono ?_;rintro e w7 ⟨rfl,hb7⟩;have hO4:=(((HO8.out.move hb7).al #[.int .i64 (-fm),.int .i64 (u / 10000)] 104).al #[.int .i64 u,.int .i64 u] 104);simp only[df] at hO4;obtain⟨mk1,l1,p1,hO5⟩:=qO hO4 HOK.out.2.2.2;obtain⟨mk2,l2,p2,hO6⟩:=qO hO5 HOK.out.2.2.1;have HM:=zh (jb _ _ _ _ mk2 _ hO6.inn ⟨p2,aY l2 p1⟩ zS zS);rw[HEQ0.out] at HM;have HO6:=zh (zi ((HO7.out.1.le l1).le l2) hO6);clear HF3 HO8 hb7 hO4 hO5 hO6 l1 l2 p1 p2;generalize u / 10000=f2 at *
    go_wp2_with fail
    refine HM.out.mono ?_;rintro e w8 ⟨ri,rf,rfl,hb8,hn⟩;obtain⟨la2,lc2,lb2,ld2,rfl,rfl⟩:=hn.spell;have hO7:=(HO6.out.2.call hb8).al #[.slice la2 (eqN u).i.length lc2,.slice lb2 (eqN u).rf.length ld2] 24;have HO9:=zh (zi (HO6.out.1.le (Mem.eO HO6.out.2.inn (w:=w8))) (zi hn hO7));clear HM HO6 hb8 hn hO7;go_wp2;exact hY.out _ _ rfl ⟨_,_,_,_,rfl,HO9.out.1,HO9.out.2.1,HO9.out.2.2⟩
   rintro z vs w4 - ⟨mk2,g7,x3,x4,rfl,n1,n2,hO⟩;simp[litL,lk];obtain⟨la2,lc2,lb2,ld2,rfl,rfl⟩:=n2.spell;have HO5:=zh hO;have HN1:=zh n1;have HN2:=zh n2;clear hO n1 n2 HF2 HF3 HO7;have s1:=HO5.out.obj.cell (i:=0) rfl;have s2:=HO5.out.obj.cell (i:=1) rfl;have s3:=HO5.out.obj.lt;have s4:=HO5.out.swap.obj.cell (i:=0) rfl;have s5:=HO5.out.swap.obj.cell (i:=1) rfl;have s6:=HO5.out.swap.obj.lt;have s7:=HO5.out.third.obj.cell (i:=0) rfl;have s8:=HO5.out.third.obj.cell (i:=1) rfl;have s9:=HO5.out.third.obj.frozen 0;have s10:=HO5.out.third.obj.frozen 1;have s11:=HO5.out.third.obj.lt
   go_wp2_with fail
   ·
    have h0:(op.toList==[60])=true:=by assumption
    have hf:fo op.toList u=ltN u:=by simp[fo,opLt,beq_iff_eq.1 h0]
    have hO:=HO5.out;have hn:=HN1.out;have hO:=HO5.out.third;have g1:=hO.obj.cell (i:=0) rfl;have g2:=hO.obj.cell (i:=1) rfl;have g3:=hO.obj.frozen 0;have g4:=hO.obj.frozen 1;have g5:=hO.obj.lt;have hO2:=(hO.set 0 (.slice la1 (ltN u).i.length lc1)).set 1 (.slice lb1 (ltN u).rf.length ld1);have g6:=hO2.obj.cell (i:=0) rfl;have g7:=hO2.obj.cell (i:=1) rfl;have Hk:=zh (zi hO2.below (zi (hn.le hO2.done) hf));clear hO hO2 hn hf h0;refine bodyPost_ret (v:=.tuple #[.agg #[.slice la1 (ltN u).i.length lc1,.slice lb1 (ltN u).rf.length ld1],.int .i64 0]) (by simp[results,Tryz.results109,go_sem,g6,g7]) rfl ?_;exact hR.out _ _ ⟨_,_,by rw[HG.out.1],Hk.out.1,by rw[HG.out.2,Hk.out.2.2];exact Hk.out.2.1⟩
   ·
    have h0:(op.toList==[60])=false:=by assumption
    have h1:(op.toList==[60,61])=true:=by assumption
    have hf:fo op.toList u=leN u:=by simp[fo,opLt,opLe,beq_iff_eq.1 h1]
    have hO:=HO5.out;have HC:=zh (CU _ _ _ _ _ _ _ _ mk2 w4 hO.inn HN1.out HN2.out (by have:=HEL0.out;omega) (by have:=HEL0.out;omega) (by have:=HEL0.out;omega) (by have:=HEL0.out;omega));rw[jv (uK u),jv (rU u),SL] at HC;have HF:=zh hf;clear hO hf h0 h1;refine HC.out.mono ?_;rintro e w5 ⟨ri,rf,rfl,hb5,hn⟩;have hO:=HO5.out.call hb5;clear hb5 HC;have hO:=hO.third;have hf:=HF.out;obtain⟨xa,xc,ya,yc,rfl,rfl⟩:=hn.spell;have g1:=hO.obj.cell (i:=0) rfl;have g2:=hO.obj.cell (i:=1) rfl;have g3:=hO.obj.frozen 0;have g4:=hO.obj.frozen 1;have g5:=hO.obj.lt;have hO2:=(hO.set 0 (.slice xa (leN u).i.length xc)).set 1 (.slice ya (leN u).rf.length yc);have g6:=hO2.obj.cell (i:=0) rfl;have g7:=hO2.obj.cell (i:=1) rfl;have Hk:=zh (zi hO2.below (zi (hn.le hO2.done) hf));clear hO hO2 hn hf;go_wp2;refine bodyPost_ret (v:=.tuple #[.agg #[.slice xa (leN u).i.length xc,.slice ya (leN u).rf.length yc],.int .i64 0]) (by simp[results,Tryz.results109,go_sem,g6,g7]) rfl ?_;exact hR.out _ _ ⟨_,_,by rw[HG.out.1],Hk.out.1,by rw[HG.out.2,Hk.out.2.2];exact Hk.out.2.1⟩
   ·
    have h0:(op.toList==[60])=false:=by assumption
    have h1:(op.toList==[60,61])=false:=by assumption
    have h2:(op.toList==[62])=true:=by assumption
    have hf:fo op.toList u=notN (leN u):=by simp[fo,opLt,opLe,opGt,beq_iff_eq.1 h2]
    have hO:=HO5.out;have HC:=zh (CU _ _ _ _ _ _ _ _ mk2 w4 hO.inn HN1.out HN2.out (by have:=HEL0.out;omega) (by have:=HEL0.out;omega) (by have:=HEL0.out;omega) (by have:=HEL0.out;omega));rw[jv (uK u),jv (rU u),SL] at HC;have HF:=zh hf;clear hO hf h0 h1 h2;refine HC.out.mono ?_;rintro e w5 ⟨ri,rf,rfl,hb5,hn⟩;have hO:=HO5.out.call hb5;have HM:=zh (uE _ _ (leN u).i (leN u).rf _ w5 hO.inn hn (by have:=HEL0.out;omega) (by have:=HEL0.out;omega));rw[jv (zx u)] at HM;obtain⟨ya1,yc1,yb1,yd1,rfl,rfl⟩:=hn.spell;have HO6:=zh hO;clear hO hn hb5 HC
    go_wp2_with fail
    refine HM.out.mono ?_;rintro e w6 ⟨ri,rf,rfl,hb6,hn⟩;have hO:=HO6.out.call hb6;clear hb6 HM HO6;have hO:=hO.third;have hf:=HF.out;obtain⟨xa,xc,ya,yc,rfl,rfl⟩:=hn.spell;have g1:=hO.obj.cell (i:=0) rfl;have g2:=hO.obj.cell (i:=1) rfl;have g3:=hO.obj.frozen 0;have g4:=hO.obj.frozen 1;have g5:=hO.obj.lt;have hO2:=(hO.set 0 (.slice xa (notN (leN u)).i.length xc)).set 1 (.slice ya (notN (leN u)).rf.length yc);have g6:=hO2.obj.cell (i:=0) rfl;have g7:=hO2.obj.cell (i:=1) rfl;have Hk:=zh (zi hO2.below (zi (hn.le hO2.done) hf));clear hO hO2 hn hf;go_wp2;refine bodyPost_ret (v:=.tuple #[.agg #[.slice xa (notN (leN u)).i.length xc,.slice ya (notN (leN u)).rf.length yc],.int .i64 0]) (by simp[results,Tryz.results109,go_sem,g6,g7]) rfl ?_;exact hR.out _ _ ⟨_,_,by rw[HG.out.1],Hk.out.1,by rw[HG.out.2,Hk.out.2.2];exact Hk.out.2.1⟩
   ·
    have h0:(op.toList==[60])=false:=by assumption
    have h1:(op.toList==[60,61])=false:=by assumption
    have h2:(op.toList==[62])=false:=by assumption
    have h3:(op.toList==[62,61])=true:=by assumption
    have hf:fo op.toList u=notN (ltN u):=by simp[fo,opLt,opLe,opGt,opGe,beq_iff_eq.1 h3]
    have hO:=HO5.out;have HC:=zh (uE _ _ _ _ mk2 w4 hO.inn HN1.out (by have:=HEL0.out;omega) (by have:=HEL0.out;omega));rw[jv (uK u)] at HC;have HF:=zh hf;clear hO hf h0 h1 h2 h3;refine HC.out.mono ?_;rintro e w5 ⟨ri,rf,rfl,hb5,hn⟩;have hO:=HO5.out.call hb5;clear hb5 HC;have hO:=hO.third;have hf:=HF.out;obtain⟨xa,xc,ya,yc,rfl,rfl⟩:=hn.spell;have g1:=hO.obj.cell (i:=0) rfl;have g2:=hO.obj.cell (i:=1) rfl;have g3:=hO.obj.frozen 0;have g4:=hO.obj.frozen 1;have g5:=hO.obj.lt;have hO2:=(hO.set 0 (.slice xa (notN (ltN u)).i.length xc)).set 1 (.slice ya (notN (ltN u)).rf.length yc);have g6:=hO2.obj.cell (i:=0) rfl;have g7:=hO2.obj.cell (i:=1) rfl;have Hk:=zh (zi hO2.below (zi (hn.le hO2.done) hf));clear hO hO2 hn hf;go_wp2;refine bodyPost_ret (v:=.tuple #[.agg #[.slice xa (notN (ltN u)).i.length xc,.slice ya (notN (ltN u)).rf.length yc],.int .i64 0]) (by simp[results,Tryz.results109,go_sem,g6,g7]) rfl ?_;exact hR.out _ _ ⟨_,_,by rw[HG.out.1],Hk.out.1,by rw[HG.out.2,Hk.out.2.2];exact Hk.out.2.1⟩
   ·
    have h0:(op.toList==[60])=false:=by assumption
    have h1:(op.toList==[60,61])=false:=by assumption
    have h2:(op.toList==[62])=false:=by assumption
    have h3:(op.toList==[62,61])=false:=by assumption
    have h4:(op.toList==[61,61])=true:=by assumption
    have hf:fo op.toList u=eqN u:=by simp[fo,opLt,opLe,opGt,opGe,opEq,beq_iff_eq.1 h4]
    have hO:=HO5.out;have hn:=HN2.out;have hO:=HO5.out.third;have g1:=hO.obj.cell (i:=0) rfl;have g2:=hO.obj.cell (i:=1) rfl;have g3:=hO.obj.frozen 0;have g4:=hO.obj.frozen 1;have g5:=hO.obj.lt;have hO2:=(hO.set 0 (.slice la2 (eqN u).i.length lc2)).set 1 (.slice lb2 (eqN u).rf.length ld2);have g6:=hO2.obj.cell (i:=0) rfl;have g7:=hO2.obj.cell (i:=1) rfl;have Hk:=zh (zi hO2.below (zi (hn.le hO2.done) hf));clear hO hO2 hn hf h0 h1 h2 h3 h4;refine bodyPost_ret (v:=.tuple #[.agg #[.slice la2 (eqN u).i.length lc2,.slice lb2 (eqN u).rf.length ld2],.int .i64 0]) (by simp[results,Tryz.results109,go_sem,g6,g7]) rfl ?_;exact hR.out _ _ ⟨_,_,by rw[HG.out.1],Hk.out.1,by rw[HG.out.2,Hk.out.2.2];exact Hk.out.2.1⟩
   ·
    have h0:(op.toList==[60])=false:=by assumption
    have h1:(op.toList==[60,61])=false:=by assumption
    have h2:(op.toList==[62])=false:=by assumption
    have h3:(op.toList==[62,61])=false:=by assumption
    have h4:(op.toList==[61,61])=false:=by assumption
    have hf:fo op.toList u=notN (eqN u):=by simp[fo,opLt,opLe,opGt,opGe,opEq,beq_eq_false_iff_ne.1 h0,beq_eq_false_iff_ne.1 h1,beq_eq_false_iff_ne.1 h2,beq_eq_false_iff_ne.1 h3,beq_eq_false_iff_ne.1 h4]
    have hO:=HO5.out;have HC:=zh (uE _ _ _ _ mk2 w4 hO.inn HN2.out (by have:=HEL0.out;omega) (by have:=HEL0.out;omega));rw[jv (rU u)] at HC;have HF:=zh hf;clear hO hf h0 h1 h2 h3 h4;refine HC.out.mono ?_;rintro e w5 ⟨ri,rf,rfl,hb5,hn⟩;have hO:=HO5.out.call hb5;clear hb5 HC;have hO:=hO.third;have hf:=HF.out;obtain⟨xa,xc,ya,yc,rfl,rfl⟩:=hn.spell;have g1:=hO.obj.cell (i:=0) rfl;have g2:=hO.obj.cell (i:=1) rfl;have g3:=hO.obj.frozen 0;have g4:=hO.obj.frozen 1;have g5:=hO.obj.lt;have hO2:=(hO.set 0 (.slice xa (notN (eqN u)).i.length xc)).set 1 (.slice ya (notN (eqN u)).rf.length yc);have g6:=hO2.obj.cell (i:=0) rfl;have g7:=hO2.obj.cell (i:=1) rfl;have Hk:=zh (zi hO2.below (zi (hn.le hO2.done) hf));clear hO hO2 hn hf;go_wp2;refine bodyPost_ret (v:=.tuple #[.agg #[.slice xa (notN (eqN u)).i.length xc,.slice ya (notN (eqN u)).rf.length yc],.int .i64 0]) (by simp[results,Tryz.results109,go_sem,g6,g7]) rfl ?_;exact hR.out _ _ ⟨_,_,by rw[HG.out.1],Hk.out.1,by rw[HG.out.2,Hk.out.2.2];exact Hk.out.2.1⟩
  ·rw[decide_eq_false hv];have HG:=zh (OZ Hkn.out hv);have hO2:=(hO.set 0 (.slice none 0 0)).set 1 (.slice none 0 0);have g1:=hO.obj.cell (i:=0) rfl;have g2:=hO.obj.cell (i:=1) rfl;have g3:=hO.obj.frozen 0;have g4:=hO.obj.frozen 1;have g5:=hO.obj.lt;have g6:=hO2.obj.cell (i:=0) rfl;have g7:=hO2.obj.cell (i:=1) rfl;have Hk:=zh hO2.below;clear hO hO2 HO1 hb2 hv;go_wp2;refine bodyPost_ret (v:=.tuple #[.agg #[.slice none 0 0,.slice none 0 0],.int .i64 1]) (by simp[results,Tryz.results109,go_sem,g6,g7]) rfl ?_;exact hR.out _ _ ⟨_,_,by rw[HG.out.1],Hk.out,by rw[HG.out.2];exact bF.nil _⟩
 ·have hkn2:known op.toList=false:=by simpa using hkn
  rw[aL hkn];have HG:=zh (Ai (u:=u) hkn2);have hO:=HO1.out;have hO2:=(hO.set 0 (.slice none 0 0)).set 1 (.slice none 0 0);have g1:=hO.obj.cell (i:=0) rfl;have g2:=hO.obj.cell (i:=1) rfl;have g3:=hO.obj.frozen 0;have g4:=hO.obj.frozen 1;have g5:=hO.obj.lt;have g6:=hO2.obj.cell (i:=0) rfl;have g7:=hO2.obj.cell (i:=1) rfl;have Hk:=zh hO2.below;clear hO hO2 HO1 hkn hkn2;go_wp2;refine bodyPost_ret (v:=.tuple #[.agg #[.slice none 0 0,.slice none 0 0],.int .i64 8]) (by simp[results,Tryz.results109,go_sem,g6,g7]) rfl ?_;exact hR.out _ _ ⟨_,_,by rw[HG.out.1],Hk.out,by rw[HG.out.2];exact bF.nil _⟩
end Cl
