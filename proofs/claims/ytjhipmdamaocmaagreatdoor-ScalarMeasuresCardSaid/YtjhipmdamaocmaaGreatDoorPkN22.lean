/- Lemmas for the proofs of chapter 11. -/
import Derived.Test.YtjhipmdamaocmaaGreatDoorPkN21
set_option maxRecDepth 100000
set_option maxHeartbeats 16000000
namespace Cl
open Go Go.RowKit Go.Proofs
def opsL:List ByteArray:=[⟨#[60]⟩,⟨#[60,61]⟩,⟨#[62]⟩,⟨#[62,61]⟩,⟨#[61,61]⟩,⟨#[33,61]⟩]
def opsV:Array Value:=#[.string ⟨#[60]⟩,.string ⟨#[60,61]⟩,.string ⟨#[62]⟩,.string ⟨#[62,61]⟩,.string ⟨#[61,61]⟩,.string ⟨#[33,61]⟩]
theorem MG (op:ByteArray):(∃y∈opsL,op.toList=y.toList)↔known op.toList=true:=by
 unfold opsL;simp only[zV,List.not_mem_nil,or_false,exists_eq_or_imp,exists_eq_left,ByteArray.toList_eq,known,Bool.or_eq_true,decide_eq_true_eq,opLt,opLe,opGt,opGe,opEq,opNe];simp only[or_assoc]
theorem RX {w:World} {g:Nat} {t:TypeId} {mk:Mem} (h:bE w g t opsV):pG (mk.add w g) (.slice (some ⟨g,0,none⟩) 6 6) opsL:=
 ⟨_,6,rfl,zG _,by simp[maxLen],fun _=>⟨g,0,rfl,fun i hi=>by
  have hi':i<6:=hi;rcases (show i=0∨i=1∨i=2∨i=3∨i=4∨i=5 by omega) with rfl | rfl | rfl | rfl | rfl | rfl <;> exact⟨Mem.bW h rfl,by first | (show (1:Nat)≤maxLen;simp[maxLen]) | (show (2:Nat)≤maxLen;simp[maxLen])⟩⟩⟩
theorem Gi (op:ByteArray) (u:Int) (m:Mem) (w:World) (hm:m.inn w) (hu1 : -9223372036854775808≤u) (hu2:u≤9223372036854775807) :
 Calls Tryz.prog 201 #[.string op,.int .i64 u] w fun e w'=>∃ri rf,e=.returned (.tuple #[.agg #[ri,rf],.int .i64 (bndE op.toList u)])∧Below w.heap.size w w'∧bu (m.grow w w') ri rf (bndN op.toList u).i (bndN op.toList u).rf:=by
 have hO:=((Own.start hm).al #[.slice none 0 0,.slice none 0 0] 24).al opsV 9;simp only[bZ] at hO;have hs:=RX (mk:=m) hO.obj;have hO1:=hO.iY;have HK:=zh (vE _ opsL op _ _ hO1.inn hs);rw[fK (MG op)] at HK;have HO:=zh hO.tail;have HV:=zh (fun w'=>pV u w');clear hO hO1 hs;unfold opsV at HK HO;refine aj fun R hR=>?_
 go_enter Tryz.func201,Tryz.ntmps201
 go_wp2_with fail
 refine HK.out.mono ?_;rintro e w1 ⟨rfl,hb1⟩;have HO1:=zh (HO.out.move hb1);clear HK HO hb1;by_cases hkn:known op.toList=true
 ·rw[aN hkn];have Hkn:=zh hkn;clear hkn
  go_wp2_with fail
  refine (HV.out _).mono ?_;rintro e w2 ⟨rfl,hb2⟩;have hO:=HO1.out.move hb2;by_cases hv:bG u
  ·rw[zL hv];have HG:=zh (vP Hkn.out hv);have hv2 : -1000000000000000≤u∧u≤1000000000000000:=by simpa [bG,maxU] using hv
   have HF1:=zh (fun w'=>qA (u - 1) w' zo zo);have HF2:=zh (fun w'=>qA (-u) w' zo zo);have HF3:=zh (fun w'=>qA u w' zo zo);have HOK:=zh (show spOk (-100000000000,(u - 1) / 10000)∧spOk (-1000000000000000,u - 1)∧spOk (-(-u / 10000),u / 10000)∧spOk (u,u) by unfold spOk;dsimp only;omega);have HEL0:=zh (show ((eqN u).i.length≤1∧(eqN u).rf.length≤1)∧((ltN u).i.length≤1∧(ltN u).rf.length≤1)∧(leN u).i.length≤1∧(leN u).rf.length≤1 from
    ⟨⟨(eu (k:=1) zS zS).i,by rw[NS.jR];exact (eu (k:=1) zS zS).f⟩,⟨(eu (k:=1) zS zS).i,by rw[NS.jR];exact (eu (k:=1) zS zS).f⟩,(eu (k:=1) zS zS).i,by rw[NS.jR];exact (eu (k:=1) zS zS).f⟩)
   have HLT0:=zh (show mkN [(-100000000000,(u - 1) / 10000)] [(-1000000000000000,u - 1)]=ltN u from rfl);have HEQ0:=zh (show mkN [(-(-u / 10000),u / 10000)] [(u,u)]=eqN u from rfl);have HO2:=zh hO;have HB1:=zh (show -100000000001≤(u - 1) / 10000∧(u - 1) / 10000≤100000000000 ∧ -100000000000 ≤ -u / 10000 ∧ -u / 10000≤100000000000 by omega);clear hb2 HO1 HV hO hv
   go_wp2_with fail
   refine (HF1.out _).mono ?_;rintro e w3 ⟨rfl,hb3⟩;have hO3:=HO2.out.move hb3;have hO4:=((hO3.al #[.int .i64 (-100000000000),.int .i64 ((u - 1) / 10000)] 153).al #[.int .i64 (-1000000000000000),.int .i64 (u - 1)] 153);simp only[bZ] at hO4;obtain⟨mk1,l1,p1,hO5⟩:=oI hO4 HOK.out.2.1;obtain⟨mk2,l2,p2,hO6⟩:=oI hO5 HOK.out.1;have HM:=zh (ib _ _ _ _ mk2 _ hO6.inn ⟨p2,aW l2 p1⟩ zS zS);rw[HLT0.out] at HM;have HO6:=zh hO6;clear HF1 HO2 hb3 hO3 hO4 hO5 hO6 l1 l2 p1 p2;generalize (u - 1) / 10000=f1 at *
   go_wp2_with fail
   refine HM.out.mono ?_;rintro e w4 ⟨ri,rf,rfl,hb4,hn⟩;obtain⟨la1,lc1,lb1,ld1,rfl,rfl⟩:=hn.spell;have hO7:=(HO6.out.call hb4).al #[.slice la1 (ltN u).i.length lc1,.slice lb1 (ltN u).rf.length ld1] 24;have HO7:=zh (zi hn hO7);generalize mk2.grow _ w4=mk3 at HO7;clear HM HO6 hb4 hn hO7
   go_upto_region 6 with (fail)
   generalize hW:w4.alloc (.cells #[.slice la1 (ltN u).i.length lc1,.slice lb1 (ltN u).rf.length ld1] 24)=w5 at *
   generalize w4.heap.size=g6 at *
   refine aI [0,4,6,7] (fun vs w'=>∃(mk2:Mem) (g7:Nat) (x3 x4:Value),vs=[.string op,.pointer (some ⟨w.heap.size,0,none⟩),.pointer (some ⟨g6,0,none⟩),.pointer (some ⟨g7,0,none⟩)] ∧
    bu mk2 (.slice la1 (ltN u).i.length lc1) (.slice lb1 (ltN u).rf.length ld1) (ltN u).i (ltN u).rf∧bu mk2 x3 x4 (eqN u).i (eqN u).rf ∧
    Own w m w' mk2 [.obj g7 24 #[x3,x4],.obj g6 24 #[.slice la1 (ltN u).i.length lc1,.slice lb1 (ltN u).rf.length ld1],.obj w.heap.size 24 #[.slice none 0 0,.slice none 0 0]]) ?_ ?_
   ·intro Y hY
    go_wp2_with fail
    refine (HF2.out _).mono ?_;rintro e w6 ⟨rfl,hb6⟩;have HO8:=zh (HO7.out.2.move hb6);generalize hfm : -u / 10000=fm at *
    have hfm2:=HB1.out.2.2;clear HF2 hb6
    go_wp2_with fail
    refine (HF3.out _).mono ?_;rintro e w7 ⟨rfl,hb7⟩;have hO4:=(((HO8.out.move hb7).al #[.int .i64 (-fm),.int .i64 (u / 10000)] 153).al #[.int .i64 u,.int .i64 u] 153);simp only[bZ] at hO4;obtain⟨mk1,l1,p1,hO5⟩:=oI hO4 HOK.out.2.2.2;obtain⟨mk2,l2,p2,hO6⟩:=oI hO5 HOK.out.2.2.1;have HM:=zh (ib _ _ _ _ mk2 _ hO6.inn ⟨p2,aW l2 p1⟩ zS zS);rw[HEQ0.out] at HM;have HO6:=zh (zi ((HO7.out.1.le l1).le l2) hO6);clear HF3 HO8 hb7 hO4 hO5 hO6 l1 l2 p1 p2;generalize u / 10000=f2 at *
    go_wp2_with fail
    refine HM.out.mono ?_;rintro e w8 ⟨ri,rf,rfl,hb8,hn⟩;obtain⟨la2,lc2,lb2,ld2,rfl,rfl⟩:=hn.spell;have hO7:=(HO6.out.2.call hb8).al #[.slice la2 (eqN u).i.length lc2,.slice lb2 (eqN u).rf.length ld2] 24;have HO9:=zh (zi (HO6.out.1.le (Mem.dF HO6.out.2.inn (w:=w8))) (zi hn hO7));clear HM HO6 hb8 hn hO7;go_wp2;exact hY.out _ _ rfl ⟨_,_,_,_,rfl,HO9.out.1,HO9.out.2.1,HO9.out.2.2⟩
   rintro z vs w4 - ⟨mk2,g7,x3,x4,rfl,n1,n2,hO⟩;simp[litL,lk];obtain⟨la2,lc2,lb2,ld2,rfl,rfl⟩:=n2.spell;have HO5:=zh hO;have HN1:=zh n1;have HN2:=zh n2;clear hO n1 n2 HF2 HF3 HO7;have s1:=HO5.out.obj.c 0;have s2:=HO5.out.obj.c 1;have s3:=HO5.out.obj.lt;have s4:=HO5.out.swap.obj.c 0;have s5:=HO5.out.swap.obj.c 1;have s6:=HO5.out.swap.obj.lt;have s7:=HO5.out.third.obj.c 0;have s8:=HO5.out.third.obj.c 1;have s9:=HO5.out.third.obj.frozen 0;have s10:=HO5.out.third.obj.frozen 1;have s11:=HO5.out.third.obj.lt
   go_wp2_with fail
   ·
    have h0:(op.toList==[60])=true:=zA;have hf:dZ op.toList u=ltN u:=by simp[dZ,opLt,beq_iff_eq.1 h0]
    have hO:=HO5.out;have hn:=HN1.out;have hO:=HO5.out.third;have g1:=hO.obj.c 0;have g2:=hO.obj.c 1;have g3:=hO.obj.frozen 0;have g4:=hO.obj.frozen 1;have g5:=hO.obj.lt;have hO2:=(hO.set 0 (.slice la1 (ltN u).i.length lc1)).set 1 (.slice lb1 (ltN u).rf.length ld1);have g6:=hO2.obj.c 0;have g7:=hO2.obj.c 1;have Hk:=zh (zi hO2.below (zi (hn.le hO2.done) hf));clear hO hO2 hn hf h0;refine yQ (v:=.tuple #[.agg #[.slice la1 (ltN u).i.length lc1,.slice lb1 (ltN u).rf.length ld1],.int .i64 0]) (by simp[results,Tryz.results201,go_sem,g6,g7]) rfl ?_;exact hR.out _ _ ⟨_,_,by rw[HG.out.1],Hk.out.1,by rw[HG.out.2,Hk.out.2.2];exact Hk.out.2.1⟩
   ·
    have h0:(op.toList==[60])=false:=zA;have h1:(op.toList==[60,61])=true:=zA;have hf:dZ op.toList u=leN u:=by simp[dZ,opLt,opLe,beq_iff_eq.1 h1]
    have hO:=HO5.out;have HC:=zh (IM _ _ _ _ _ _ _ _ mk2 w4 hO.inn HN1.out HN2.out (by have:=HEL0.out;omega) (by have:=HEL0.out;omega) (by have:=HEL0.out;omega) (by have:=HEL0.out;omega));rw[gF (rJ u),gF (pW u),R8] at HC;have HF:=zh hf;clear hO hf h0 h1;refine HC.out.mono ?_;rintro e w5 ⟨ri,rf,rfl,hb5,hn⟩;have hO:=HO5.out.call hb5;clear hb5 HC;have hO:=hO.third;have hf:=HF.out;obtain⟨xa,xc,ya,yc,rfl,rfl⟩:=hn.spell;have g1:=hO.obj.c 0;have g2:=hO.obj.c 1;have g3:=hO.obj.frozen 0;have g4:=hO.obj.frozen 1;have g5:=hO.obj.lt;have hO2:=(hO.set 0 (.slice xa (leN u).i.length xc)).set 1 (.slice ya (leN u).rf.length yc);have g6:=hO2.obj.c 0;have g7:=hO2.obj.c 1;have Hk:=zh (zi hO2.below (zi (hn.le hO2.done) hf));clear hO hO2 hn hf;go_wp2;refine yQ (v:=.tuple #[.agg #[.slice xa (leN u).i.length xc,.slice ya (leN u).rf.length yc],.int .i64 0]) (by simp[results,Tryz.results201,go_sem,g6,g7]) rfl ?_;exact hR.out _ _ ⟨_,_,by rw[HG.out.1],Hk.out.1,by rw[HG.out.2,Hk.out.2.2];exact Hk.out.2.1⟩
   ·
    have h0:(op.toList==[60])=false:=zA;have h1:(op.toList==[60,61])=false:=zA;have h2:(op.toList==[62])=true:=zA;have hf:dZ op.toList u=notN (leN u):=by simp[dZ,opLt,opLe,opGt,beq_iff_eq.1 h2]
    have hO:=HO5.out;have HC:=zh (IM _ _ _ _ _ _ _ _ mk2 w4 hO.inn HN1.out HN2.out (by have:=HEL0.out;omega) (by have:=HEL0.out;omega) (by have:=HEL0.out;omega) (by have:=HEL0.out;omega));rw[gF (rJ u),gF (pW u),R8] at HC;have HF:=zh hf;clear hO hf h0 h1 h2;refine HC.out.mono ?_;rintro e w5 ⟨ri,rf,rfl,hb5,hn⟩;have hO:=HO5.out.call hb5;have HM:=zh (rE _ _ (leN u).i (leN u).rf _ w5 hO.inn hn (by have:=HEL0.out;omega) (by have:=HEL0.out;omega));rw[gF (xu u)] at HM;obtain⟨ya1,yc1,yb1,yd1,rfl,rfl⟩:=hn.spell;have HO6:=zh hO;clear hO hn hb5 HC
    go_wp2_with fail
    refine HM.out.mono ?_;rintro e w6 ⟨ri,rf,rfl,hb6,hn⟩;have hO:=HO6.out.call hb6;clear hb6 HM HO6;have hO:=hO.third;have hf:=HF.out;obtain⟨xa,xc,ya,yc,rfl,rfl⟩:=hn.spell;have g1:=hO.obj.c 0;have g2:=hO.obj.c 1;have g3:=hO.obj.frozen 0;have g4:=hO.obj.frozen 1;have g5:=hO.obj.lt;have hO2:=(hO.set 0 (.slice xa (notN (leN u)).i.length xc)).set 1 (.slice ya (notN (leN u)).rf.length yc);have g6:=hO2.obj.c 0;have g7:=hO2.obj.c 1;have Hk:=zh (zi hO2.below (zi (hn.le hO2.done) hf));clear hO hO2 hn hf;go_wp2;refine yQ (v:=.tuple #[.agg #[.slice xa (notN (leN u)).i.length xc,.slice ya (notN (leN u)).rf.length yc],.int .i64 0]) (by simp[results,Tryz.results201,go_sem,g6,g7]) rfl ?_;exact hR.out _ _ ⟨_,_,by rw[HG.out.1],Hk.out.1,by rw[HG.out.2,Hk.out.2.2];exact Hk.out.2.1⟩
   ·
    have h0:(op.toList==[60])=false:=zA;have h1:(op.toList==[60,61])=false:=zA;have h2:(op.toList==[62])=false:=zA;have h3:(op.toList==[62,61])=true:=zA;have hf:dZ op.toList u=notN (ltN u):=by simp[dZ,opLt,opLe,opGt,opGe,beq_iff_eq.1 h3]
    have hO:=HO5.out;have HC:=zh (rE _ _ _ _ mk2 w4 hO.inn HN1.out (by have:=HEL0.out;omega) (by have:=HEL0.out;omega));rw[gF (rJ u)] at HC;have HF:=zh hf;clear hO hf h0 h1 h2 h3;refine HC.out.mono ?_;rintro e w5 ⟨ri,rf,rfl,hb5,hn⟩;have hO:=HO5.out.call hb5;clear hb5 HC;have hO:=hO.third;have hf:=HF.out;obtain⟨xa,xc,ya,yc,rfl,rfl⟩:=hn.spell;have g1:=hO.obj.c 0;have g2:=hO.obj.c 1;have g3:=hO.obj.frozen 0;have g4:=hO.obj.frozen 1;have g5:=hO.obj.lt;have hO2:=(hO.set 0 (.slice xa (notN (ltN u)).i.length xc)).set 1 (.slice ya (notN (ltN u)).rf.length yc);have g6:=hO2.obj.c 0;have g7:=hO2.obj.c 1;have Hk:=zh (zi hO2.below (zi (hn.le hO2.done) hf));clear hO hO2 hn hf;go_wp2;refine yQ (v:=.tuple #[.agg #[.slice xa (notN (ltN u)).i.length xc,.slice ya (notN (ltN u)).rf.length yc],.int .i64 0]) (by simp[results,Tryz.results201,go_sem,g6,g7]) rfl ?_;exact hR.out _ _ ⟨_,_,by rw[HG.out.1],Hk.out.1,by rw[HG.out.2,Hk.out.2.2];exact Hk.out.2.1⟩
   ·
    have h0:(op.toList==[60])=false:=zA;have h1:(op.toList==[60,61])=false:=zA;have h2:(op.toList==[62])=false:=zA;have h3:(op.toList==[62,61])=false:=zA;have h4:(op.toList==[61,61])=true:=zA;have hf:dZ op.toList u=eqN u:=by simp[dZ,opLt,opLe,opGt,opGe,opEq,beq_iff_eq.1 h4]
    have hO:=HO5.out;have hn:=HN2.out;have hO:=HO5.out.third;have g1:=hO.obj.c 0;have g2:=hO.obj.c 1;have g3:=hO.obj.frozen 0;have g4:=hO.obj.frozen 1;have g5:=hO.obj.lt;have hO2:=(hO.set 0 (.slice la2 (eqN u).i.length lc2)).set 1 (.slice lb2 (eqN u).rf.length ld2);have g6:=hO2.obj.c 0;have g7:=hO2.obj.c 1;have Hk:=zh (zi hO2.below (zi (hn.le hO2.done) hf));clear hO hO2 hn hf h0 h1 h2 h3 h4;refine yQ (v:=.tuple #[.agg #[.slice la2 (eqN u).i.length lc2,.slice lb2 (eqN u).rf.length ld2],.int .i64 0]) (by simp[results,Tryz.results201,go_sem,g6,g7]) rfl ?_;exact hR.out _ _ ⟨_,_,by rw[HG.out.1],Hk.out.1,by rw[HG.out.2,Hk.out.2.2];exact Hk.out.2.1⟩
   ·
    have h0:(op.toList==[60])=false:=zA;have h1:(op.toList==[60,61])=false:=zA;have h2:(op.toList==[62])=false:=zA;have h3:(op.toList==[62,61])=false:=zA;have h4:(op.toList==[61,61])=false:=zA;have hf:dZ op.toList u=notN (eqN u):=by simp[dZ,opLt,opLe,opGt,opGe,opEq,beq_eq_false_iff_ne.1 h0,beq_eq_false_iff_ne.1 h1,beq_eq_false_iff_ne.1 h2,beq_eq_false_iff_ne.1 h3,beq_eq_false_iff_ne.1 h4]
    have hO:=HO5.out;have HC:=zh (rE _ _ _ _ mk2 w4 hO.inn HN2.out (by have:=HEL0.out;omega) (by have:=HEL0.out;omega));rw[gF (pW u)] at HC;have HF:=zh hf;clear hO hf h0 h1 h2 h3 h4;refine HC.out.mono ?_;rintro e w5 ⟨ri,rf,rfl,hb5,hn⟩;have hO:=HO5.out.call hb5;clear hb5 HC;have hO:=hO.third;have hf:=HF.out;obtain⟨xa,xc,ya,yc,rfl,rfl⟩:=hn.spell;have g1:=hO.obj.c 0;have g2:=hO.obj.c 1;have g3:=hO.obj.frozen 0;have g4:=hO.obj.frozen 1;have g5:=hO.obj.lt;have hO2:=(hO.set 0 (.slice xa (notN (eqN u)).i.length xc)).set 1 (.slice ya (notN (eqN u)).rf.length yc);have g6:=hO2.obj.c 0;have g7:=hO2.obj.c 1;have Hk:=zh (zi hO2.below (zi (hn.le hO2.done) hf));clear hO hO2 hn hf;go_wp2;refine yQ (v:=.tuple #[.agg #[.slice xa (notN (eqN u)).i.length xc,.slice ya (notN (eqN u)).rf.length yc],.int .i64 0]) (by simp[results,Tryz.results201,go_sem,g6,g7]) rfl ?_;exact hR.out _ _ ⟨_,_,by rw[HG.out.1],Hk.out.1,by rw[HG.out.2,Hk.out.2.2];exact Hk.out.2.1⟩
  ·rw[zK hv];have HG:=zh (Oq Hkn.out hv);have hO2:=(hO.set 0 (.slice none 0 0)).set 1 (.slice none 0 0);have g1:=hO.obj.c 0;have g2:=hO.obj.c 1;have g3:=hO.obj.frozen 0;have g4:=hO.obj.frozen 1;have g5:=hO.obj.lt;have g6:=hO2.obj.c 0;have g7:=hO2.obj.c 1;have Hk:=zh hO2.below;clear hO hO2 HO1 hb2 hv;go_wp2;refine yQ (v:=.tuple #[.agg #[.slice none 0 0,.slice none 0 0],.int .i64 1]) (by simp[results,Tryz.results201,go_sem,g6,g7]) rfl ?_;exact hR.out _ _ ⟨_,_,by rw[HG.out.1],Hk.out,by rw[HG.out.2];exact bu.nil _⟩
 ·have hkn2:known op.toList=false:=by simpa using hkn
  rw[aK hkn];have HG:=zh (yh (u:=u) hkn2);have hO:=HO1.out;have hO2:=(hO.set 0 (.slice none 0 0)).set 1 (.slice none 0 0);have g1:=hO.obj.c 0;have g2:=hO.obj.c 1;have g3:=hO.obj.frozen 0;have g4:=hO.obj.frozen 1;have g5:=hO.obj.lt;have g6:=hO2.obj.c 0;have g7:=hO2.obj.c 1;have Hk:=zh hO2.below;clear hO hO2 HO1 hkn hkn2;go_wp2;refine yQ (v:=.tuple #[.agg #[.slice none 0 0,.slice none 0 0],.int .i64 8]) (by simp[results,Tryz.results201,go_sem,g6,g7]) rfl ?_;exact hR.out _ _ ⟨_,_,by rw[HG.out.1],Hk.out,by rw[HG.out.2];exact bu.nil _⟩
theorem Ci {x:NS} (h:NSok x):Gb (bR x):=fun u hu=>by
 have:=h.jr ((gq h).one u hu).1;unfold bG maxU at this;omega
theorem Cc (vi vf ui uf:Value) (I F J G:List Spn) (m:Mem) (w:World) (hm:m.inn w) (h1:bu m vi vf I F) (h2:bu m ui uf J G) (hI:I.length≤250) (hF:F.length≤250) (hJ:J.length≤250) (hG:G.length≤250) :
 Calls Tryz.prog 98 #[.agg #[vi,vf],.agg #[ui,uf]] w fun e w'=>e=.returned (.int .i64 (cmpN (mkN I F) (mkN J G)))∧Below w.heap.size w w':=by
 have hO:=((Own.start hm).al #[vi,vf] 24).al #[ui,uf] 24;have hsz1:(w.alloc (.cells #[vi,vf] 24)).heap.size=w.heap.size+1:=by simp
 rw[hsz1] at hO;have HA:=zh (qy vi vf I F ui uf J G m _ hO.inn h1 h2 zo zo zo zo);have HB:=zh (fun (mk:Mem) w' (h:mk.inn w') (hl:m.le mk)=>qy ui uf J G vi vf I F mk w' h (h2.le hl) (h1.le hl) zo zo zo zo);obtain⟨a1,c1,b1,d1,rfl,rfl⟩:=h1.spell;obtain⟨a2,c2,b2,d2,rfl,rfl⟩:=h2.spell;have hxo:=gG I F;have hyo:=gG J G;have hl1:=nW (eu hI hF) (eu hJ hG);have hl2:=nW (eu hJ hG) (eu hI hF);have l1:=hl1.i;have l2:=hl1.f;have l3:=hl2.i;have l4:=hl2.f;rw[← NS.jR] at l2 l4;have hr1:=gF (dX hxo hyo);have hr2:=gF (dX hyo hxo);have hi1:=Ci (dX hxo hyo);have hi2:=Ci (dX hyo hxo);have hcmp:cmpN (mkN I F) (mkN J G)=cmpU (bR (bY (mkN I F) (mkN J G))) (bR (bY (mkN J G) (mkN I F))):=rfl;have HO:=zh hO;have HX:=zh (zi hr1 (zi hr2 (zi hi1 (zi hi2 hcmp))));clear hO h1 h2 hsz1 hr1 hr2 hi1 hi2 hcmp hl1 hl2 hxo hyo;refine aj fun R hR=>?_;generalize bY (mkN I F) (mkN J G)=x at *
 generalize bY (mkN J G) (mkN I F)=y at *
 go_enter Tryz.func98,Tryz.ntmps98
 go_wp2_with fail
 refine HA.out.mono ?_;rintro e w1 ⟨ri,rf,rfl,hb1,hn1⟩;have hO1:=HO.out.call hb1;have HL:=zh (qz _ _ x.i x.rf _ w1 hO1.inn hn1 zo zo);obtain⟨xa,xc,ya,yc,rfl,rfl⟩:=hn1.spell;have HO1:=zh hO1;clear HA HO hO1 hb1 hn1
 go_wp2_with fail
 refine HL.out.mono ?_;rintro e w2 ⟨rfl,hb2⟩;rw[HX.out.1];have hO2:=HO1.out.move hb2;have HM:=zh (HB.out _ w2 hO2.inn hO2.ext.1);have d1:=hO2.obj.c 0;have d2:=hO2.obj.c 1;have d3:=hO2.obj.lt;have d4:=hO2.swap.obj.c 0;have d5:=hO2.swap.obj.c 1;have d6:=hO2.swap.obj.lt;have HO2:=zh hO2;clear hO2 hb2 HO1 HB HL
 go_wp2_with fail
 refine HM.out.mono ?_;rintro e w3 ⟨ri,rf,rfl,hb3,hn3⟩;have hO3:=HO2.out.call hb3;have HL:=zh (qz _ _ y.i y.rf _ w3 hO3.inn hn3 zo zo);obtain⟨xa,xc,ya,yc,rfl,rfl⟩:=hn3.spell;have HO3:=zh hO3;clear HM HO2 hO3 hb3 hn3 d1 d2 d3 d4 d5 d6
 go_wp2_with fail
 refine HL.out.mono ?_;rintro e w4 ⟨rfl,hb4⟩;rw[HX.out.2.1];have HE:=zh (HO3.out.move hb4).below;have HI:=zh HX.out.2.2;clear HL HO3 hb4 HX;rw[HI.out.2.2] at hR;have hp:=HI.out.1;have hq:=HI.out.2.1;clear HI;generalize bR x=r at *
 generalize bR y=s at *
 cases r with
 | none=>
  cases s with
  | none=>
   go_wp2
   exact hR.out _ _ ⟨rfl,HE.out⟩
  | some v=>
   go_wp2
   exact hR.out _ _ ⟨rfl,HE.out⟩
 | some u=>
  cases s with
  | none=>
   go_wp2
   exact hR.out _ _ ⟨rfl,HE.out⟩
  | some v=>
   have hu:=hp u rfl;have hv:=hq v rfl;have HN:=zh (uK u v w4 hu.1 hu.2 hv.1 hv.2);clear hu hv hp hq
   go_wp2_with fail
   refine HN.out.mono ?_;rintro e w5 ⟨rfl,hb5⟩;have HF:=zh (bU HE.out hb5);have hc:cmpU (some u) (some v)=if near u v then -1 else 1:=rfl;rw[hc] at hR;clear HN hb5 HE hc;by_cases hn:near u v
   ·rw[zL hn];rw[zI hn] at hR;clear hn;go_wp2;exact hR.out _ _ ⟨rfl,HF.out⟩
   ·rw[zK hn];rw[zH hn] at hR;clear hn;go_wp2;exact hR.out _ _ ⟨rfl,HF.out⟩
end Cl
