/- Lemmas for the proofs of chapter 11. -/
import Derived.Test.YtajbfioncdnkcaaGreatDoorProg
import Derived.BigQuiet
import Derived.Deep.Cut
import Derived.Deep.QuietTactic
import Derived.Laws.StructEq
import Derived.Lib.AppendStr
import Derived.Lib.Builder
import Derived.Lib.Hide
import Derived.Lib.ItoaLen
import Derived.Maps.OwnOps
import Derived.Maps.OwnSet
import Derived.OrdersHeld
import Derived.Outline
import Derived.StillTailTactics
import Derived.StringKeys
import Derived.WalkKit
import Derived.WalkLawsBesides
import Derived.WalkSpells
import Derived.Deep.RegionHeld
import Derived.RangeFuncNested
import Derived.RangeFuncBound
import Derived.RangeFuncCalls
import Derived.RangeFuncLeaves
import Derived.OwnWalkIn
import Derived.TacticsInMore
import Derived.LoopNIn
import Derived.LoopIn
import Derived.Shelf.SlSortCmp.WholeK
import Derived.Laws.EntriesVeiled
import Derived.Laws.CopyOwn
import Derived.RegionTactic
import Derived.Shelf.Spec.SlicesGrow
import Derived.Test.YtajbfioncdnkcaaGreatDoorZz
import Derived.Test.YtajbfioncdnkcaaGreatDoorPkM4
import Derived.Test.YtajbfioncdnkcaaGreatDoorPkM3
import Derived.Test.YtajbfioncdnkcaaGreatDoorPkM32
import Derived.Test.YtajbfioncdnkcaaGreatDoorPkM1
import Derived.Test.YtajbfioncdnkcaaGreatDoorPkM34
import Derived.Test.YtajbfioncdnkcaaGreatDoorPkM2
import Derived.Test.YtajbfioncdnkcaaGreatDoorPkM46
import Derived.Test.YtajbfioncdnkcaaGreatDoorPkM19
import Derived.Test.YtajbfioncdnkcaaGreatDoorPkM27
import Derived.Test.YtajbfioncdnkcaaGreatDoorPkM29
import Derived.Test.YtajbfioncdnkcaaGreatDoorPkM41
import Derived.Test.YtajbfioncdnkcaaGreatDoorPkM5
import Derived.Test.YtajbfioncdnkcaaGreatDoorPkM42
import Derived.Test.YtajbfioncdnkcaaGreatDoorPkM47
import Derived.Test.YtajbfioncdnkcaaGreatDoorPkM10
import Derived.Test.YtajbfioncdnkcaaGreatDoorPkM11
import Derived.Test.YtajbfioncdnkcaaGreatDoorPkM43
import Derived.Test.YtajbfioncdnkcaaGreatDoorPkM8
set_option maxRecDepth 100000
set_option maxHeartbeats 16000000
namespace Cl
open Go Go.RowKit Go.Proofs
theorem vS (m:Mem) (w:World) (hm:m.inn w) :
 Calls Tryz.prog 58 #[] w fun e w'=>∃ri rf,e=.returned (.agg #[ri,rf])∧Below w.heap.size w w'∧bF (m.grow w w') ri rf eY nU:=by
 have hO:=(((Own.start hm).al #[.slice (some ⟨w.heap.size+1,0,none⟩) 1 1,.slice (some ⟨w.heap.size+1+1,0,none⟩) 1 1] 24).al #[.int .i64 (-100000000000),.int .i64 100000000000] 104).al #[.int .i64 (-999999999999999),.int .i64 999999999999999] 104;simp only[df] at hO;have HO:=zh hO;have g1:=hO.third.obj.cell (i:=0) rfl;have g2:=hO.third.obj.cell (i:=1) rfl;clear hO;refine aj fun R hR=>?_
 go_enter Tryz.func58,Tryz.ntmps58
 go_wp2;refine bodyPost_ret (v:=.agg #[.slice (some ⟨w.heap.size+1,0,none⟩) 1 1,.slice (some ⟨w.heap.size+1+1,0,none⟩) 1 1]) (by simp[results,Tryz.results58,go_sem]) rfl ?_;exact hR.out _ _ ⟨_,_,rfl,HO.out.below,uC (dH zo (HO.out.swap.obj.cell (i:=0) rfl)) (dH zo (HO.out.swap.obj.cell (i:=1) rfl)) (by unfold spOk;omega),
  uC (dH zo (HO.out.obj.cell (i:=0) rfl)) (dH zo (HO.out.obj.cell (i:=1) rfl)) (by unfold spOk;omega)⟩
theorem D5 {w0 w:World} {m mk:Mem} {L:List Item} (h:Own w0 m w mk L) {a b c d:Int} (h1:spOk (a,b)) (h2:spOk (c,d)) :
 ∃mk',mk.le mk'∧bF mk' (.slice (some ⟨w.heap.size,0,none⟩) 1 1) (.slice (some ⟨w.heap.size+1,0,none⟩) 1 1) [(a,b)] [(c,d)] ∧
  Own w0 m (((w.alloc (.cells #[.int .i64 a,.int .i64 b] 104)).alloc (.cells #[.int .i64 c,.int .i64 d] 104)).alloc (.cells #[.slice (some ⟨w.heap.size,0,none⟩) 1 1,.slice (some ⟨w.heap.size+1,0,none⟩) 1 1] 24)) mk'
   (.obj (w.heap.size+1+1) 24 #[.slice (some ⟨w.heap.size,0,none⟩) 1 1,.slice (some ⟨w.heap.size+1,0,none⟩) 1 1]::L):=by
 have hO:=((h.al #[.int .i64 a,.int .i64 b] 104).al #[.int .i64 c,.int .i64 d] 104).al #[.slice (some ⟨w.heap.size,0,none⟩) 1 1,.slice (some ⟨w.heap.size+1,0,none⟩) 1 1] 24;simp only[df] at hO;obtain⟨mk1,l1,p1,hO1⟩:=qO hO.swap h2;obtain⟨mk2,l2,p2,hO2⟩:=qO hO1.swap h1;exact⟨mk2,Mem.le_trans l1 l2,⟨p2,aY l2 p1⟩,hO2⟩
theorem wZ (op:ByteArray) (u:Int) (m:Mem) (w:World) (hm:m.inn w) (hu1 : -9223372036854775808≤u) (hu2:u≤9223372036854775807) :
 Calls Tryz.prog 62 #[.string op,.int .i64 u] w fun e w'=>∃ri rf,e=.returned (.tuple #[.agg #[ri,rf],.int .i64 (bndE op.toList u)])∧Below w.heap.size w w'∧bF (m.grow w w') ri rf (bndN op.toList u).i (bndN op.toList u).rf:=by
 have hO:=(Own.start hm).al #[.slice none 0 0,.slice none 0 0] 24;have HO:=zh hO;have HV:=zh (fun w'=>vR u w');have HKN:=zh (show known op.toList=(op.toList==[60] || op.toList==[60,61] || op.toList==[62] || op.toList==[62,61] || op.toList==[61,61] || op.toList==[33,61]) by
  unfold known opLt opLe opGt opGe opEq opNe;rw[Bool.eq_iff_iff];simp only[Bool.or_eq_true,decide_eq_true_eq,beq_iff_eq])
 clear hO;refine aj fun R hR=>?_
 go_enter Tryz.func62,Tryz.ntmps62
 go_upto_region 1 with (fail)
 refine aA [0,1,4,6] (fun vs w'=>vs=[.string op,.int .i64 u,.pointer (some ⟨w.heap.size,0,none⟩),.bool (known op.toList)]∧Own w m w' m [.obj w.heap.size 24 #[.slice none 0 0,.slice none 0 0]]) ?_ ?_
 ·intro Y hY;go_wp2
  all_goals refine hY.out _ _ rfl ⟨?_,HO.out⟩
  all_goals first
   | (simp[known,opLt,opLe,opGt,opGe,opEq,opNe, *];done)
   | (simp_all [known,opLt,opLe,opGt,opGe,opEq,opNe];done)
   | (rw[HKN.out];rfl)
 rintro z vs w1 - ⟨rfl,hO⟩;simp[litL,lk];have HO1:=zh hO;clear HO hO;by_cases hkn:known op.toList=true
 ·rw[hkn];have Hkn:=zh hkn;clear hkn
  go_wp2_with fail
  refine (HV.out _).mono ?_;rintro e w2 ⟨rfl,hb2⟩;have hO:=HO1.out.move hb2;by_cases hv:bP u
  ·rw[decide_eq_true hv];have HG:=zh (vB Hkn.out hv);have hv2 : -1000000000000000≤u∧u≤1000000000000000:=by simpa [bP,maxU] using hv
   have HF1:=zh (fun w'=>qp (u - 1) w' zo zo);have HF2:=zh (fun w'=>qp u w' zo zo);have HOK:=zh (show spOk (-100000000000,(u - 1) / 10000)∧spOk (-1000000000000000,u - 1)∧spOk (-100000000000,u / 10000)∧spOk (-1000000000000000,u) by unfold spOk;dsimp only;omega);have HLT0:=zh (show mkN [(-100000000000,(u - 1) / 10000)] [(-1000000000000000,u - 1)]=ltN u from rfl);have HLE0:=zh (show mkN [(-100000000000,u / 10000)] [(-1000000000000000,u)]=leN u from rfl);have HEL0:=zh (show (eqN u).i.length≤1∧(eqN u).rf.length≤1 from ⟨(fF (k:=1) zS zS).i,by rw[NS.ky];exact (fF (k:=1) zS zS).f⟩);have HO2:=zh hO;clear hb2 HO1 HV hO hv
   go_wp2_with fail
   refine (HF1.out _).mono ?_;rintro e w3 ⟨rfl,hb3⟩;obtain⟨mk1,l1,n1,hO3⟩:=D5 (HO2.out.move hb3) HOK.out.1 HOK.out.2.1;generalize hf1:(u - 1) / 10000=f1 at *
   clear hf1 HF1 HO2 hb3;have HO3:=zh hO3;clear hO3
   go_upto_region 7 with (fail)
   refine aA [0,4,7,8] (fun vs w'=>∃(mk2:Mem) (g7 g8:Nat) (x1 x2 x3 x4:Value),vs=[.string op,.pointer (some ⟨w.heap.size,0,none⟩),.pointer (some ⟨g7,0,none⟩),.pointer (some ⟨g8,0,none⟩)] ∧
    bF mk2 x1 x2 [(-100000000000,f1)] [(-1000000000000000,u - 1)]∧bF mk2 x3 x4 [(-100000000000,u / 10000)] [(-1000000000000000,u)] ∧
    Own w m w' mk2 [.obj g8 24 #[x3,x4],.obj g7 24 #[x1,x2],.obj w.heap.size 24 #[.slice none 0 0,.slice none 0 0]]) ?_ ?_
   ·intro Y hY
    go_wp2_with fail
    refine (HF2.out _).mono ?_;rintro e w4 ⟨rfl,hb4⟩;obtain⟨mk2,l2,n2,hO5⟩:=D5 (HO3.out.move hb4) HOK.out.2.2.1 HOK.out.2.2.2;have HO5:=zh (zi (n1.le l2) (zi n2 hO5));clear HF2 HO3 hb4 hO5 n1 n2;go_wp2;exact hY.out _ _ rfl ⟨mk2,_,_,_,_,_,_,rfl,HO5.out.1,HO5.out.2.1,HO5.out.2.2⟩
   rintro z vs w4 - ⟨mk2,g7,g8,x1,x2,x3,x4,rfl,n1,n2,hO⟩;simp[litL,lk];generalize u / 10000=f2 at *
   obtain⟨la1,lc1,lb1,ld1,rfl,rfl⟩:=n1.spell;obtain⟨la2,lc2,lb2,ld2,rfl,rfl⟩:=n2.spell;simp only[List.length_cons,List.length_nil,Nat.zero_add] at *
   have s1:=hO.obj.cell (i:=0) rfl;have s2:=hO.obj.cell (i:=1) rfl;have s3:=hO.obj.lt;have s4:=hO.swap.obj.cell (i:=0) rfl;have s5:=hO.swap.obj.cell (i:=1) rfl;have s6:=hO.swap.obj.lt;have HO5:=zh hO;have HN1:=zh n1;have HN2:=zh n2;clear hO n1 n2 HF2 HO3 s1 s2 s3 s4 s5 s6;have s1:=HO5.out.obj.cell (i:=0) rfl;have s2:=HO5.out.obj.cell (i:=1) rfl;have s3:=HO5.out.obj.lt;have s4:=HO5.out.swap.obj.cell (i:=0) rfl;have s5:=HO5.out.swap.obj.cell (i:=1) rfl;have s6:=HO5.out.swap.obj.lt
   go_wp2_with fail
   ·
    have h0:(op.toList==[60])=true:=by assumption
    have hf:fo op.toList u=ltN u:=by simp[fo,opLt,beq_iff_eq.1 h0]
    have hO:=HO5.out;have HC:=zh (mU _ _ _ _ mk2 w4 hO.inn HN1.out zS zS);rw[HLT0.out] at HC;have HF:=zh hf;clear hO hf h0;refine HC.out.mono ?_;rintro e w5 ⟨ri,rf,rfl,hb5,hn⟩;have hO:=HO5.out.call hb5;clear hb5 HC;have hO:=hO.third;have hf:=HF.out;obtain⟨xa,xc,ya,yc,rfl,rfl⟩:=hn.spell;have g1:=hO.obj.cell (i:=0) rfl;have g2:=hO.obj.cell (i:=1) rfl;have g3:=hO.obj.frozen 0;have g4:=hO.obj.frozen 1;have g5:=hO.obj.lt;have hO2:=(hO.set 0 (.slice xa (ltN u).i.length xc)).set 1 (.slice ya (ltN u).rf.length yc);have g6:=hO2.obj.cell (i:=0) rfl;have g7:=hO2.obj.cell (i:=1) rfl;have Hk:=zh (zi hO2.below (zi (hn.le hO2.done) hf));clear hO hO2 hn hf;go_wp2;refine bodyPost_ret (v:=.tuple #[.agg #[.slice xa (ltN u).i.length xc,.slice ya (ltN u).rf.length yc],.int .i64 0]) (by simp[results,Tryz.results62,go_sem,g6,g7]) rfl ?_;exact hR.out _ _ ⟨_,_,by rw[HG.out.1],Hk.out.1,by rw[HG.out.2,Hk.out.2.2];exact Hk.out.2.1⟩
   ·
    have h0:(op.toList==[60])=false:=by assumption
    have h1:(op.toList==[60,61])=true:=by assumption
    have hf:fo op.toList u=leN u:=by simp[fo,opLt,opLe,beq_iff_eq.1 h1]
    have hO:=HO5.out;have HC:=zh (mU _ _ _ _ mk2 w4 hO.inn HN2.out zS zS);rw[HLE0.out] at HC;have HF:=zh hf;clear hO hf h0 h1;refine HC.out.mono ?_;rintro e w5 ⟨ri,rf,rfl,hb5,hn⟩;have hO:=HO5.out.call hb5;clear hb5 HC;have hO:=hO.third;have hf:=HF.out;obtain⟨xa,xc,ya,yc,rfl,rfl⟩:=hn.spell;have g1:=hO.obj.cell (i:=0) rfl;have g2:=hO.obj.cell (i:=1) rfl;have g3:=hO.obj.frozen 0;have g4:=hO.obj.frozen 1;have g5:=hO.obj.lt;have hO2:=(hO.set 0 (.slice xa (leN u).i.length xc)).set 1 (.slice ya (leN u).rf.length yc);have g6:=hO2.obj.cell (i:=0) rfl;have g7:=hO2.obj.cell (i:=1) rfl;have Hk:=zh (zi hO2.below (zi (hn.le hO2.done) hf));clear hO hO2 hn hf;go_wp2;refine bodyPost_ret (v:=.tuple #[.agg #[.slice xa (leN u).i.length xc,.slice ya (leN u).rf.length yc],.int .i64 0]) (by simp[results,Tryz.results62,go_sem,g6,g7]) rfl ?_;exact hR.out _ _ ⟨_,_,by rw[HG.out.1],Hk.out.1,by rw[HG.out.2,Hk.out.2.2];exact Hk.out.2.1⟩
   ·
    have h0:(op.toList==[60])=false:=by assumption
    have h1:(op.toList==[60,61])=false:=by assumption
    have h2:(op.toList==[62])=true:=by assumption
    have hf:fo op.toList u=notN (leN u):=by simp[fo,opLt,opLe,opGt,beq_iff_eq.1 h2]
    have hO:=HO5.out;have HC:=zh (kU _ _ _ _ mk2 w4 hO.inn HN2.out zS zS);rw[HLE0.out] at HC;have HF:=zh hf;clear hO hf h0 h1 h2;refine HC.out.mono ?_;rintro e w5 ⟨ri,rf,rfl,hb5,hn⟩;have hO:=HO5.out.call hb5;clear hb5 HC;have hO:=hO.third;have hf:=HF.out;obtain⟨xa,xc,ya,yc,rfl,rfl⟩:=hn.spell;have g1:=hO.obj.cell (i:=0) rfl;have g2:=hO.obj.cell (i:=1) rfl;have g3:=hO.obj.frozen 0;have g4:=hO.obj.frozen 1;have g5:=hO.obj.lt;have hO2:=(hO.set 0 (.slice xa (notN (leN u)).i.length xc)).set 1 (.slice ya (notN (leN u)).rf.length yc);have g6:=hO2.obj.cell (i:=0) rfl;have g7:=hO2.obj.cell (i:=1) rfl;have Hk:=zh (zi hO2.below (zi (hn.le hO2.done) hf));clear hO hO2 hn hf;go_wp2;refine bodyPost_ret (v:=.tuple #[.agg #[.slice xa (notN (leN u)).i.length xc,.slice ya (notN (leN u)).rf.length yc],.int .i64 0]) (by simp[results,Tryz.results62,go_sem,g6,g7]) rfl ?_;exact hR.out _ _ ⟨_,_,by rw[HG.out.1],Hk.out.1,by rw[HG.out.2,Hk.out.2.2];exact Hk.out.2.1⟩
   ·
    have h0:(op.toList==[60])=false:=by assumption
    have h1:(op.toList==[60,61])=false:=by assumption
    have h2:(op.toList==[62])=false:=by assumption
    have h3:(op.toList==[62,61])=true:=by assumption
    have hf:fo op.toList u=notN (ltN u):=by simp[fo,opLt,opLe,opGt,opGe,beq_iff_eq.1 h3]
    have hO:=HO5.out;have HC:=zh (kU _ _ _ _ mk2 w4 hO.inn HN1.out zS zS);rw[HLT0.out] at HC;have HF:=zh hf;clear hO hf h0 h1 h2 h3;refine HC.out.mono ?_;rintro e w5 ⟨ri,rf,rfl,hb5,hn⟩;have hO:=HO5.out.call hb5;clear hb5 HC;have hO:=hO.third;have hf:=HF.out;obtain⟨xa,xc,ya,yc,rfl,rfl⟩:=hn.spell;have g1:=hO.obj.cell (i:=0) rfl;have g2:=hO.obj.cell (i:=1) rfl;have g3:=hO.obj.frozen 0;have g4:=hO.obj.frozen 1;have g5:=hO.obj.lt;have hO2:=(hO.set 0 (.slice xa (notN (ltN u)).i.length xc)).set 1 (.slice ya (notN (ltN u)).rf.length yc);have g6:=hO2.obj.cell (i:=0) rfl;have g7:=hO2.obj.cell (i:=1) rfl;have Hk:=zh (zi hO2.below (zi (hn.le hO2.done) hf));clear hO hO2 hn hf;go_wp2;refine bodyPost_ret (v:=.tuple #[.agg #[.slice xa (notN (ltN u)).i.length xc,.slice ya (notN (ltN u)).rf.length yc],.int .i64 0]) (by simp[results,Tryz.results62,go_sem,g6,g7]) rfl ?_;exact hR.out _ _ ⟨_,_,by rw[HG.out.1],Hk.out.1,by rw[HG.out.2,Hk.out.2.2];exact Hk.out.2.1⟩
   ·
    have h0:(op.toList==[60])=false:=by assumption
    have h1:(op.toList==[60,61])=false:=by assumption
    have h2:(op.toList==[62])=false:=by assumption
    have h3:(op.toList==[62,61])=false:=by assumption
    have h4:(op.toList==[61,61])=true:=by assumption
    have hf:fo op.toList u=eqN u:=by simp[fo,opLt,opLe,opGt,opGe,opEq,beq_iff_eq.1 h4]
    have hO:=HO5.out;have HC:=zh (qm _ _ _ _ _ _ _ _ mk2 w4 hO.inn HN2.out HN1.out zS zS zS zS);rw[HLE0.out,HLT0.out,Jw] at HC;have HF:=zh hf;clear hO hf h0 h1 h2 h3 h4;refine HC.out.mono ?_;rintro e w5 ⟨ri,rf,rfl,hb5,hn⟩;have hO:=HO5.out.call hb5;clear hb5 HC;have hO:=hO.third;have hf:=HF.out;obtain⟨xa,xc,ya,yc,rfl,rfl⟩:=hn.spell;have g1:=hO.obj.cell (i:=0) rfl;have g2:=hO.obj.cell (i:=1) rfl;have g3:=hO.obj.frozen 0;have g4:=hO.obj.frozen 1;have g5:=hO.obj.lt;have hO2:=(hO.set 0 (.slice xa (eqN u).i.length xc)).set 1 (.slice ya (eqN u).rf.length yc);have g6:=hO2.obj.cell (i:=0) rfl;have g7:=hO2.obj.cell (i:=1) rfl;have Hk:=zh (zi hO2.below (zi (hn.le hO2.done) hf));clear hO hO2 hn hf;go_wp2;refine bodyPost_ret (v:=.tuple #[.agg #[.slice xa (eqN u).i.length xc,.slice ya (eqN u).rf.length yc],.int .i64 0]) (by simp[results,Tryz.results62,go_sem,g6,g7]) rfl ?_;exact hR.out _ _ ⟨_,_,by rw[HG.out.1],Hk.out.1,by rw[HG.out.2,Hk.out.2.2];exact Hk.out.2.1⟩
   ·
    have h0:(op.toList==[60])=false:=by assumption
    have h1:(op.toList==[60,61])=false:=by assumption
    have h2:(op.toList==[62])=false:=by assumption
    have h3:(op.toList==[62,61])=false:=by assumption
    have h4:(op.toList==[61,61])=false:=by assumption
    have hf:fo op.toList u=notN (eqN u):=by simp[fo,opLt,opLe,opGt,opGe,opEq,beq_eq_false_iff_ne.1 h0,beq_eq_false_iff_ne.1 h1,beq_eq_false_iff_ne.1 h2,beq_eq_false_iff_ne.1 h3,beq_eq_false_iff_ne.1 h4]
    have hO:=HO5.out;have HC:=zh (qm _ _ _ _ _ _ _ _ mk2 w4 hO.inn HN2.out HN1.out zS zS zS zS);rw[HLE0.out,HLT0.out,Jw] at HC;have HF:=zh hf;clear hO hf h0 h1 h2 h3 h4;refine HC.out.mono ?_;rintro e w5 ⟨ri,rf,rfl,hb5,hn⟩;have hO:=HO5.out.call hb5;have HM:=zh (kU _ _ (eqN u).i (eqN u).rf _ w5 hO.inn hn (by have:=HEL0.out.1;omega) (by have:=HEL0.out.2;omega));rw[jv (rU u)] at HM;obtain⟨ya1,yc1,yb1,yd1,rfl,rfl⟩:=hn.spell;have HO6:=zh hO;clear hO hn hb5 HC
    go_wp2_with fail
    refine HM.out.mono ?_;rintro e w6 ⟨ri,rf,rfl,hb6,hn⟩;have hO:=HO6.out.call hb6;clear hb6 HM HO6;have hO:=hO.third;have hf:=HF.out;obtain⟨xa,xc,ya,yc,rfl,rfl⟩:=hn.spell;have g1:=hO.obj.cell (i:=0) rfl;have g2:=hO.obj.cell (i:=1) rfl;have g3:=hO.obj.frozen 0;have g4:=hO.obj.frozen 1;have g5:=hO.obj.lt;have hO2:=(hO.set 0 (.slice xa (notN (eqN u)).i.length xc)).set 1 (.slice ya (notN (eqN u)).rf.length yc);have g6:=hO2.obj.cell (i:=0) rfl;have g7:=hO2.obj.cell (i:=1) rfl;have Hk:=zh (zi hO2.below (zi (hn.le hO2.done) hf));clear hO hO2 hn hf;go_wp2;refine bodyPost_ret (v:=.tuple #[.agg #[.slice xa (notN (eqN u)).i.length xc,.slice ya (notN (eqN u)).rf.length yc],.int .i64 0]) (by simp[results,Tryz.results62,go_sem,g6,g7]) rfl ?_;exact hR.out _ _ ⟨_,_,by rw[HG.out.1],Hk.out.1,by rw[HG.out.2,Hk.out.2.2];exact Hk.out.2.1⟩
  ·rw[decide_eq_false hv];have HG:=zh (OZ Hkn.out hv);have hO2:=(hO.set 0 (.slice none 0 0)).set 1 (.slice none 0 0);have g1:=hO.obj.cell (i:=0) rfl;have g2:=hO.obj.cell (i:=1) rfl;have g3:=hO.obj.frozen 0;have g4:=hO.obj.frozen 1;have g5:=hO.obj.lt;have g6:=hO2.obj.cell (i:=0) rfl;have g7:=hO2.obj.cell (i:=1) rfl;have Hk:=zh hO2.below;clear hO hO2 HO1 hb2 hv;go_wp2;refine bodyPost_ret (v:=.tuple #[.agg #[.slice none 0 0,.slice none 0 0],.int .i64 1]) (by simp[results,Tryz.results62,go_sem,g6,g7]) rfl ?_;exact hR.out _ _ ⟨_,_,by rw[HG.out.1],Hk.out,by rw[HG.out.2];exact bF.nil _⟩
 ·have hkn2:known op.toList=false:=by simpa using hkn
  rw[hkn2];have HG:=zh (Ai (u:=u) hkn2);have hO:=HO1.out;have hO2:=(hO.set 0 (.slice none 0 0)).set 1 (.slice none 0 0);have g1:=hO.obj.cell (i:=0) rfl;have g2:=hO.obj.cell (i:=1) rfl;have g3:=hO.obj.frozen 0;have g4:=hO.obj.frozen 1;have g5:=hO.obj.lt;have g6:=hO2.obj.cell (i:=0) rfl;have g7:=hO2.obj.cell (i:=1) rfl;have Hk:=zh hO2.below;clear hO hO2 HO1 hkn hkn2;go_wp2;refine bodyPost_ret (v:=.tuple #[.agg #[.slice none 0 0,.slice none 0 0],.int .i64 8]) (by simp[results,Tryz.results62,go_sem,g6,g7]) rfl ?_;exact hR.out _ _ ⟨_,_,by rw[HG.out.1],Hk.out,by rw[HG.out.2];exact bF.nil _⟩
end Cl
