/- Lemmas for the proofs of chapter 11. -/
import Derived.Test.YtjhipmdamaocmaaGreatDoorPkN13
set_option maxRecDepth 100000
set_option maxHeartbeats 16000000
namespace Cl
open Go Go.RowKit Go.Proofs
theorem oI {w0 w:World} {m mk:Mem} {L:List Item} {g:Nat} {t:TypeId} {lo hi:Int} (h:Own w0 m w mk (.obj g t #[.int .i64 lo,.int .i64 hi]::L)) (hk:spOk (lo,hi)) :
 ∃mk',mk.le mk'∧bM mk' (.slice (some ⟨g,0,none⟩) 1 1) [(lo,hi)]∧Own w0 m w mk' L:=
 ⟨_,Mem.jE h.iO,Ca (Mem.bW h.obj rfl) (Mem.bW h.obj rfl) hk,h.iY⟩
theorem Df {w0 w:World} {m mk:Mem} {L:List Item} (h:Own w0 m w mk L) {a b c d:Int} (h1:spOk (a,b)) (h2:spOk (c,d)) :
 ∃mk',mk.le mk'∧bu mk' (.slice (some ⟨w.heap.size,0,none⟩) 1 1) (.slice (some ⟨w.heap.size+1,0,none⟩) 1 1) [(a,b)] [(c,d)] ∧
  Own w0 m (((w.alloc (.cells #[.int .i64 a,.int .i64 b] 153)).alloc (.cells #[.int .i64 c,.int .i64 d] 153)).alloc (.cells #[.slice (some ⟨w.heap.size,0,none⟩) 1 1,.slice (some ⟨w.heap.size+1,0,none⟩) 1 1] 24)) mk'
   (.obj (w.heap.size+1+1) 24 #[.slice (some ⟨w.heap.size,0,none⟩) 1 1,.slice (some ⟨w.heap.size+1,0,none⟩) 1 1]::L):=by
 have hO:=((h.al #[.int .i64 a,.int .i64 b] 153).al #[.int .i64 c,.int .i64 d] 153).al #[.slice (some ⟨w.heap.size,0,none⟩) 1 1,.slice (some ⟨w.heap.size+1,0,none⟩) 1 1] 24;simp only[bZ] at hO;obtain⟨mk1,l1,p1,hO1⟩:=oI hO.swap h2;obtain⟨mk2,l2,p2,hO2⟩:=oI hO1.swap h1;exact⟨mk2,Mem.le_trans l1 l2,⟨p2,aW l2 p1⟩,hO2⟩
theorem DY (op:ByteArray) (u:Int) (m:Mem) (w:World) (hm:m.inn w) (hu1 : -9223372036854775808≤u) (hu2:u≤9223372036854775807) :
 Calls Tryz.prog 142 #[.string op,.int .i64 u] w fun e w'=>∃ri rf,e=.returned (.tuple #[.agg #[ri,rf],.int .i64 (bndE op.toList u)])∧Below w.heap.size w w'∧bu (m.grow w w') ri rf (bndN op.toList u).i (bndN op.toList u).rf:=by
 have hO:=(Own.start hm).al #[.slice none 0 0,.slice none 0 0] 24;have HO:=zh hO;have HV:=zh (fun w'=>lT u w');have HKN:=zh (show known op.toList=(op.toList==[60] || op.toList==[60,61] || op.toList==[62] || op.toList==[62,61] || op.toList==[61,61] || op.toList==[33,61]) by
  unfold known opLt opLe opGt opGe opEq opNe;rw[Bool.eq_iff_iff];simp only[Bool.or_eq_true,decide_eq_true_eq,beq_iff_eq])
 clear hO;refine aj fun R hR=>?_
 go_enter Tryz.func142,Tryz.ntmps142
 go_upto_region 1 with (fail)
 refine aI [0,1,4,6] (fun vs w'=>vs=[.string op,.int .i64 u,.pointer (some ⟨w.heap.size,0,none⟩),.bool (known op.toList)]∧Own w m w' m [.obj w.heap.size 24 #[.slice none 0 0,.slice none 0 0]]) ?_ ?_
 ·intro Y hY;go_wp2
  all_goals refine hY.out _ _ rfl ⟨?_,HO.out⟩
  all_goals first
   | (simp[known,opLt,opLe,opGt,opGe,opEq,opNe, *];done)
   | (simp_all [known,opLt,opLe,opGt,opGe,opEq,opNe];done)
   | (rw[HKN.out];rfl)
 rintro z vs w1 - ⟨rfl,hO⟩;simp[litL,lk];have HO1:=zh hO;clear HO hO;by_cases hkn:known op.toList=true
 ·rw[hkn];have Hkn:=zh hkn;clear hkn
  go_wp2_with fail
  refine (HV.out _).mono ?_;rintro e w2 ⟨rfl,hb2⟩;have hO:=HO1.out.move hb2;by_cases hv:bG u
  ·rw[zL hv];have HG:=zh (vP Hkn.out hv);have hv2 : -1000000000000000≤u∧u≤1000000000000000:=by simpa [bG,maxU] using hv
   have HF1:=zh (fun w'=>nR (u - 1) w' zo zo);have HF2:=zh (fun w'=>nR u w' zo zo);have HOK:=zh (show spOk (-100000000000,(u - 1) / 10000)∧spOk (-1000000000000000,u - 1)∧spOk (-100000000000,u / 10000)∧spOk (-1000000000000000,u) by unfold spOk;dsimp only;omega);have HLT0:=zh (show mkN [(-100000000000,(u - 1) / 10000)] [(-1000000000000000,u - 1)]=ltN u from rfl);have HLE0:=zh (show mkN [(-100000000000,u / 10000)] [(-1000000000000000,u)]=leN u from rfl);have HEL0:=zh (show (eqN u).i.length≤1∧(eqN u).rf.length≤1 from ⟨(eu (k:=1) zS zS).i,by rw[NS.jR];exact (eu (k:=1) zS zS).f⟩);have HO2:=zh hO;clear hb2 HO1 HV hO hv
   go_wp2_with fail
   refine (HF1.out _).mono ?_;rintro e w3 ⟨rfl,hb3⟩;obtain⟨mk1,l1,n1,hO3⟩:=Df (HO2.out.move hb3) HOK.out.1 HOK.out.2.1;generalize hf1:(u - 1) / 10000=f1 at *
   clear hf1 HF1 HO2 hb3;have HO3:=zh hO3;clear hO3
   go_upto_region 7 with (fail)
   refine aI [0,4,7,8] (fun vs w'=>∃(mk2:Mem) (g7 g8:Nat) (x1 x2 x3 x4:Value),vs=[.string op,.pointer (some ⟨w.heap.size,0,none⟩),.pointer (some ⟨g7,0,none⟩),.pointer (some ⟨g8,0,none⟩)] ∧
    bu mk2 x1 x2 [(-100000000000,f1)] [(-1000000000000000,u - 1)]∧bu mk2 x3 x4 [(-100000000000,u / 10000)] [(-1000000000000000,u)] ∧
    Own w m w' mk2 [.obj g8 24 #[x3,x4],.obj g7 24 #[x1,x2],.obj w.heap.size 24 #[.slice none 0 0,.slice none 0 0]]) ?_ ?_
   ·intro Y hY
    go_wp2_with fail
    refine (HF2.out _).mono ?_;rintro e w4 ⟨rfl,hb4⟩;obtain⟨mk2,l2,n2,hO5⟩:=Df (HO3.out.move hb4) HOK.out.2.2.1 HOK.out.2.2.2;have HO5:=zh (zi (n1.le l2) (zi n2 hO5));clear HF2 HO3 hb4 hO5 n1 n2;go_wp2;exact hY.out _ _ rfl ⟨mk2,_,_,_,_,_,_,rfl,HO5.out.1,HO5.out.2.1,HO5.out.2.2⟩
   rintro z vs w4 - ⟨mk2,g7,g8,x1,x2,x3,x4,rfl,n1,n2,hO⟩;simp[litL,lk];generalize u / 10000=f2 at *
   obtain⟨la1,lc1,lb1,ld1,rfl,rfl⟩:=n1.spell;obtain⟨la2,lc2,lb2,ld2,rfl,rfl⟩:=n2.spell;simp only[yJ,List.length_nil,Nat.zero_add] at *
   have s1:=hO.obj.c 0;have s2:=hO.obj.c 1;have s3:=hO.obj.lt;have s4:=hO.swap.obj.c 0;have s5:=hO.swap.obj.c 1;have s6:=hO.swap.obj.lt;have HO5:=zh hO;have HN1:=zh n1;have HN2:=zh n2;clear hO n1 n2 HF2 HO3 s1 s2 s3 s4 s5 s6;have s1:=HO5.out.obj.c 0;have s2:=HO5.out.obj.c 1;have s3:=HO5.out.obj.lt;have s4:=HO5.out.swap.obj.c 0;have s5:=HO5.out.swap.obj.c 1;have s6:=HO5.out.swap.obj.lt
   go_wp2_with fail
   ·
    have h0:(op.toList==[60])=true:=zA;have hf:dZ op.toList u=ltN u:=by simp[dZ,opLt,beq_iff_eq.1 h0]
    have hO:=HO5.out;have HC:=zh (kK _ _ _ _ mk2 w4 hO.inn HN1.out zS zS);rw[HLT0.out] at HC;have HF:=zh hf;clear hO hf h0;refine HC.out.mono ?_;rintro e w5 ⟨ri,rf,rfl,hb5,hn⟩;have hO:=HO5.out.call hb5;clear hb5 HC;have hO:=hO.third;have hf:=HF.out;obtain⟨xa,xc,ya,yc,rfl,rfl⟩:=hn.spell;have g1:=hO.obj.c 0;have g2:=hO.obj.c 1;have g3:=hO.obj.frozen 0;have g4:=hO.obj.frozen 1;have g5:=hO.obj.lt;have hO2:=(hO.set 0 (.slice xa (ltN u).i.length xc)).set 1 (.slice ya (ltN u).rf.length yc);have g6:=hO2.obj.c 0;have g7:=hO2.obj.c 1;have Hk:=zh (zi hO2.below (zi (hn.le hO2.done) hf));clear hO hO2 hn hf;go_wp2;refine yQ (v:=.tuple #[.agg #[.slice xa (ltN u).i.length xc,.slice ya (ltN u).rf.length yc],.int .i64 0]) (by simp[results,Tryz.results142,go_sem,g6,g7]) rfl ?_;exact hR.out _ _ ⟨_,_,by rw[HG.out.1],Hk.out.1,by rw[HG.out.2,Hk.out.2.2];exact Hk.out.2.1⟩
   ·
    have h0:(op.toList==[60])=false:=zA;have h1:(op.toList==[60,61])=true:=zA;have hf:dZ op.toList u=leN u:=by simp[dZ,opLt,opLe,beq_iff_eq.1 h1]
    have hO:=HO5.out;have HC:=zh (kK _ _ _ _ mk2 w4 hO.inn HN2.out zS zS);rw[HLE0.out] at HC;have HF:=zh hf;clear hO hf h0 h1;refine HC.out.mono ?_;rintro e w5 ⟨ri,rf,rfl,hb5,hn⟩;have hO:=HO5.out.call hb5;clear hb5 HC;have hO:=hO.third;have hf:=HF.out;obtain⟨xa,xc,ya,yc,rfl,rfl⟩:=hn.spell;have g1:=hO.obj.c 0;have g2:=hO.obj.c 1;have g3:=hO.obj.frozen 0;have g4:=hO.obj.frozen 1;have g5:=hO.obj.lt;have hO2:=(hO.set 0 (.slice xa (leN u).i.length xc)).set 1 (.slice ya (leN u).rf.length yc);have g6:=hO2.obj.c 0;have g7:=hO2.obj.c 1;have Hk:=zh (zi hO2.below (zi (hn.le hO2.done) hf));clear hO hO2 hn hf;go_wp2;refine yQ (v:=.tuple #[.agg #[.slice xa (leN u).i.length xc,.slice ya (leN u).rf.length yc],.int .i64 0]) (by simp[results,Tryz.results142,go_sem,g6,g7]) rfl ?_;exact hR.out _ _ ⟨_,_,by rw[HG.out.1],Hk.out.1,by rw[HG.out.2,Hk.out.2.2];exact Hk.out.2.1⟩
   ·
    have h0:(op.toList==[60])=false:=zA;have h1:(op.toList==[60,61])=false:=zA;have h2:(op.toList==[62])=true:=zA;have hf:dZ op.toList u=notN (leN u):=by simp[dZ,opLt,opLe,opGt,beq_iff_eq.1 h2]
    have hO:=HO5.out;have HC:=zh (jI _ _ _ _ mk2 w4 hO.inn HN2.out zS zS);rw[HLE0.out] at HC;have HF:=zh hf;clear hO hf h0 h1 h2;refine HC.out.mono ?_;rintro e w5 ⟨ri,rf,rfl,hb5,hn⟩;have hO:=HO5.out.call hb5;clear hb5 HC;have hO:=hO.third;have hf:=HF.out;obtain⟨xa,xc,ya,yc,rfl,rfl⟩:=hn.spell;have g1:=hO.obj.c 0;have g2:=hO.obj.c 1;have g3:=hO.obj.frozen 0;have g4:=hO.obj.frozen 1;have g5:=hO.obj.lt;have hO2:=(hO.set 0 (.slice xa (notN (leN u)).i.length xc)).set 1 (.slice ya (notN (leN u)).rf.length yc);have g6:=hO2.obj.c 0;have g7:=hO2.obj.c 1;have Hk:=zh (zi hO2.below (zi (hn.le hO2.done) hf));clear hO hO2 hn hf;go_wp2;refine yQ (v:=.tuple #[.agg #[.slice xa (notN (leN u)).i.length xc,.slice ya (notN (leN u)).rf.length yc],.int .i64 0]) (by simp[results,Tryz.results142,go_sem,g6,g7]) rfl ?_;exact hR.out _ _ ⟨_,_,by rw[HG.out.1],Hk.out.1,by rw[HG.out.2,Hk.out.2.2];exact Hk.out.2.1⟩
   ·
    have h0:(op.toList==[60])=false:=zA;have h1:(op.toList==[60,61])=false:=zA;have h2:(op.toList==[62])=false:=zA;have h3:(op.toList==[62,61])=true:=zA;have hf:dZ op.toList u=notN (ltN u):=by simp[dZ,opLt,opLe,opGt,opGe,beq_iff_eq.1 h3]
    have hO:=HO5.out;have HC:=zh (jI _ _ _ _ mk2 w4 hO.inn HN1.out zS zS);rw[HLT0.out] at HC;have HF:=zh hf;clear hO hf h0 h1 h2 h3;refine HC.out.mono ?_;rintro e w5 ⟨ri,rf,rfl,hb5,hn⟩;have hO:=HO5.out.call hb5;clear hb5 HC;have hO:=hO.third;have hf:=HF.out;obtain⟨xa,xc,ya,yc,rfl,rfl⟩:=hn.spell;have g1:=hO.obj.c 0;have g2:=hO.obj.c 1;have g3:=hO.obj.frozen 0;have g4:=hO.obj.frozen 1;have g5:=hO.obj.lt;have hO2:=(hO.set 0 (.slice xa (notN (ltN u)).i.length xc)).set 1 (.slice ya (notN (ltN u)).rf.length yc);have g6:=hO2.obj.c 0;have g7:=hO2.obj.c 1;have Hk:=zh (zi hO2.below (zi (hn.le hO2.done) hf));clear hO hO2 hn hf;go_wp2;refine yQ (v:=.tuple #[.agg #[.slice xa (notN (ltN u)).i.length xc,.slice ya (notN (ltN u)).rf.length yc],.int .i64 0]) (by simp[results,Tryz.results142,go_sem,g6,g7]) rfl ?_;exact hR.out _ _ ⟨_,_,by rw[HG.out.1],Hk.out.1,by rw[HG.out.2,Hk.out.2.2];exact Hk.out.2.1⟩
   ·
    have h0:(op.toList==[60])=false:=zA;have h1:(op.toList==[60,61])=false:=zA;have h2:(op.toList==[62])=false:=zA;have h3:(op.toList==[62,61])=false:=zA;have h4:(op.toList==[61,61])=true:=zA;have hf:dZ op.toList u=eqN u:=by simp[dZ,opLt,opLe,opGt,opGe,opEq,beq_iff_eq.1 h4]
    have hO:=HO5.out;have HC:=zh (lw _ _ _ _ _ _ _ _ mk2 w4 hO.inn HN2.out HN1.out zS zS zS zS);rw[HLE0.out,HLT0.out,Je] at HC;have HF:=zh hf;clear hO hf h0 h1 h2 h3 h4;refine HC.out.mono ?_;rintro e w5 ⟨ri,rf,rfl,hb5,hn⟩;have hO:=HO5.out.call hb5;clear hb5 HC;have hO:=hO.third;have hf:=HF.out;obtain⟨xa,xc,ya,yc,rfl,rfl⟩:=hn.spell;have g1:=hO.obj.c 0;have g2:=hO.obj.c 1;have g3:=hO.obj.frozen 0;have g4:=hO.obj.frozen 1;have g5:=hO.obj.lt;have hO2:=(hO.set 0 (.slice xa (eqN u).i.length xc)).set 1 (.slice ya (eqN u).rf.length yc);have g6:=hO2.obj.c 0;have g7:=hO2.obj.c 1;have Hk:=zh (zi hO2.below (zi (hn.le hO2.done) hf));clear hO hO2 hn hf;go_wp2;refine yQ (v:=.tuple #[.agg #[.slice xa (eqN u).i.length xc,.slice ya (eqN u).rf.length yc],.int .i64 0]) (by simp[results,Tryz.results142,go_sem,g6,g7]) rfl ?_;exact hR.out _ _ ⟨_,_,by rw[HG.out.1],Hk.out.1,by rw[HG.out.2,Hk.out.2.2];exact Hk.out.2.1⟩
   ·
    have h0:(op.toList==[60])=false:=zA;have h1:(op.toList==[60,61])=false:=zA;have h2:(op.toList==[62])=false:=zA;have h3:(op.toList==[62,61])=false:=zA;have h4:(op.toList==[61,61])=false:=zA;have hf:dZ op.toList u=notN (eqN u):=by simp[dZ,opLt,opLe,opGt,opGe,opEq,beq_eq_false_iff_ne.1 h0,beq_eq_false_iff_ne.1 h1,beq_eq_false_iff_ne.1 h2,beq_eq_false_iff_ne.1 h3,beq_eq_false_iff_ne.1 h4]
    have hO:=HO5.out;have HC:=zh (lw _ _ _ _ _ _ _ _ mk2 w4 hO.inn HN2.out HN1.out zS zS zS zS);rw[HLE0.out,HLT0.out,Je] at HC;have HF:=zh hf;clear hO hf h0 h1 h2 h3 h4;refine HC.out.mono ?_;rintro e w5 ⟨ri,rf,rfl,hb5,hn⟩;have hO:=HO5.out.call hb5;have HM:=zh (jI _ _ (eqN u).i (eqN u).rf _ w5 hO.inn hn (by have:=HEL0.out.1;omega) (by have:=HEL0.out.2;omega));rw[gF (pW u)] at HM;obtain⟨ya1,yc1,yb1,yd1,rfl,rfl⟩:=hn.spell;have HO6:=zh hO;clear hO hn hb5 HC
    go_wp2_with fail
    refine HM.out.mono ?_;rintro e w6 ⟨ri,rf,rfl,hb6,hn⟩;have hO:=HO6.out.call hb6;clear hb6 HM HO6;have hO:=hO.third;have hf:=HF.out;obtain⟨xa,xc,ya,yc,rfl,rfl⟩:=hn.spell;have g1:=hO.obj.c 0;have g2:=hO.obj.c 1;have g3:=hO.obj.frozen 0;have g4:=hO.obj.frozen 1;have g5:=hO.obj.lt;have hO2:=(hO.set 0 (.slice xa (notN (eqN u)).i.length xc)).set 1 (.slice ya (notN (eqN u)).rf.length yc);have g6:=hO2.obj.c 0;have g7:=hO2.obj.c 1;have Hk:=zh (zi hO2.below (zi (hn.le hO2.done) hf));clear hO hO2 hn hf;go_wp2;refine yQ (v:=.tuple #[.agg #[.slice xa (notN (eqN u)).i.length xc,.slice ya (notN (eqN u)).rf.length yc],.int .i64 0]) (by simp[results,Tryz.results142,go_sem,g6,g7]) rfl ?_;exact hR.out _ _ ⟨_,_,by rw[HG.out.1],Hk.out.1,by rw[HG.out.2,Hk.out.2.2];exact Hk.out.2.1⟩
  ·rw[zK hv];have HG:=zh (Oq Hkn.out hv);have hO2:=(hO.set 0 (.slice none 0 0)).set 1 (.slice none 0 0);have g1:=hO.obj.c 0;have g2:=hO.obj.c 1;have g3:=hO.obj.frozen 0;have g4:=hO.obj.frozen 1;have g5:=hO.obj.lt;have g6:=hO2.obj.c 0;have g7:=hO2.obj.c 1;have Hk:=zh hO2.below;clear hO hO2 HO1 hb2 hv;go_wp2;refine yQ (v:=.tuple #[.agg #[.slice none 0 0,.slice none 0 0],.int .i64 1]) (by simp[results,Tryz.results142,go_sem,g6,g7]) rfl ?_;exact hR.out _ _ ⟨_,_,by rw[HG.out.1],Hk.out,by rw[HG.out.2];exact bu.nil _⟩
 ·have hkn2:known op.toList=false:=by simpa using hkn
  rw[hkn2];have HG:=zh (yh (u:=u) hkn2);have hO:=HO1.out;have hO2:=(hO.set 0 (.slice none 0 0)).set 1 (.slice none 0 0);have g1:=hO.obj.c 0;have g2:=hO.obj.c 1;have g3:=hO.obj.frozen 0;have g4:=hO.obj.frozen 1;have g5:=hO.obj.lt;have g6:=hO2.obj.c 0;have g7:=hO2.obj.c 1;have Hk:=zh hO2.below;clear hO hO2 HO1 hkn hkn2;go_wp2;refine yQ (v:=.tuple #[.agg #[.slice none 0 0,.slice none 0 0],.int .i64 8]) (by simp[results,Tryz.results142,go_sem,g6,g7]) rfl ?_;exact hR.out _ _ ⟨_,_,by rw[HG.out.1],Hk.out,by rw[HG.out.2];exact bu.nil _⟩
theorem Aw (vi vf:Value) (I F:List Spn) (u:Int) (m:Mem) (w:World) (hm:m.inn w) (h1:bu m vi vf I F) (hu1 : -9223372036854775808≤u) (hu2:u≤9223372036854775807) :
 Calls Tryz.prog 97 #[.agg #[vi,vf],.int .i64 u] w fun e w'=>e=.returned (.bool (tf ((mkN I F).has u)))∧Below w.heap.size w w':=by
 have HE:=zh (kQ I F u);have hO:=(Own.start hm).al #[vi,vf] 24;have HI:=zh h1.i;have HF:=zh h1.f;obtain⟨a1,c1,b1,d1,rfl,rfl⟩:=h1.spell;have HV:=zh (fun w'=>lT u w');have HW:=zh (fun w'=>nQ u w');have HO:=zh hO;clear hO h1;refine aj fun R hR=>?_
 go_enter Tryz.func97,Tryz.ntmps97
 go_wp2_with fail
 refine (HV.out _).mono ?_;rintro e w1 ⟨rfl,hb1⟩;have hO1:=HO.out.move hb1;by_cases hv:bG u
 ·rw[zL hv];have q1:=hO1.obj.c 0;have q2:=hO1.obj.c 1;have q3:=hO1.obj.lt;have HO1:=zh hO1;have Hv:=zh hv;clear hO1 hb1 HO HV hv
  go_wp2_with fail
  refine (HW.out _).mono ?_;rintro e w2 ⟨rfl,hb2⟩;have hO1:=HO1.out.move hb2;have q1:=hO1.obj.c 0;have q2:=hO1.obj.c 1;have q3:=hO1.obj.lt;have HB1:=zh trivial;have HO1:=zh hO1.tail;clear hO1 hb2 HW;by_cases hw:u % 10000=0
  ·rw[zL hw];have hdv:u.tdiv 10000=u / 10000:=by rw[QD,zI (.inl hw)]
   have HM:=zh (show (mkN I F).has u↔mems I (u / 10000) by
    rw[HE.out];unfold nO;simp[hw,Hv.out])
   have hub : -9223372036854775808≤u / 10000∧u / 10000≤9223372036854775807:=zo;clear hw;generalize hxx:u / 10000=x at *
   clear hxx;obtain⟨_,_,e0,I1,I2,I3⟩:=HI.out;injection e0 with e1 _ e3;subst e1 e3;unfold maxLen at I2;clear HB1;go_wp2;refine au [6,21,22,23] (fun n vs wr=>∃k:Nat,k≤I.length∧n=I.length - k∧vs=[.int .i64 (x),.slice a1 I.length c1,.int .i64 I.length,.int .i64 k] ∧
    (mems I (x)↔mems (I.drop k) (x))∧Own w m wr m []) ?_ ?_
   ·exact⟨_,0,zC _,rfl,rfl,Iff.rfl,HO1.out⟩
   rintro X z n vs wr hX - ⟨k,hk,rfl,rfl,hrel,hO⟩;have Hrel:=zh hrel;clear hrel HO1;simp[litL,lk];by_cases hlt:k<I.length
   ·obtain⟨b,off,rfl,h4⟩:=I3 (by intro h;simp[h] at hlt);have hg:=h4 k hlt;have r1:=Mem.ak hO.inn hg.1;have r2:=Mem.ak hO.inn hg.2.1;have rl:=Mem.ay hO.inn hg.1;have HD:=zh (show mems (I.drop k) (x)↔((I[k]).1≤x∧x≤(I[k]).2)∨mems (I.drop (k+1)) (x) by rw[zZ hlt,bH]);clear h4 hg;generalize I[k]=q at *
    obtain⟨qa,qb⟩:=q;simp only at r1 r2;have hO2:=hO.al #[.int .i64 qa,.int .i64 qb] 153;have q1:=hO2.obj.c 0;have q2:=hO2.obj.c 1;have q3:=hO2.obj.lt;have HO2:=zh hO2.tail;clear hO hO2;by_cases ha:qa≤x
    ·have Ha:=zh ha;have hda:decide (qa≤x)=true:=zL ha;by_cases hb:x≤qb
     ·have Hb:=zh hb;have hdb:decide (x≤qb)=true:=zL hb;clear ha hb;go_wp2;exact hR.out _ _ ⟨aL (by rw[aN (HM.out.2 (Hrel.out.2 (HD.out.2 (.inl ⟨Ha.out,Hb.out⟩))))]),HO2.out.below⟩
     ·have Hb:=zh hb;have hdb:decide (x≤qb)=false:=zK hb;clear ha hb;go_wp2;exact hX.out _ _ _ zo rfl ⟨k+1,zo,rfl,rfl,Hrel.out.trans (HD.out.trans ⟨fun h=>h.elim (fun h=>absurd h.2 (by have:=Hb.out;omega)) id,.inr⟩),HO2.out⟩
    ·have Ha:=zh ha;have hda:decide (qa≤x)=false:=zK ha;clear ha;go_wp2;exact hX.out _ _ _ zo rfl ⟨k+1,zo,rfl,rfl,Hrel.out.trans (HD.out.trans ⟨fun h=>h.elim (fun h=>absurd h.1 (by have:=Ha.out;omega)) id,.inr⟩),HO2.out⟩
   ·have hk2:k=I.length:=zo;subst hk2;have Hk:=zh hO.below;have HN:=zh (show ¬ mems (I.drop I.length) (x) by rw[List.drop_length];exact fV _);clear hO;go_wp2;exact hR.out _ _ ⟨aL (by rw[aK (fun h=>HN.out (Hrel.out.1 (HM.out.1 h)))]),Hk.out⟩
  ·rw[zK hw];have HM:=zh (show (mkN I F).has u↔mems F u by
    rw[HE.out];unfold nO;simp[hw,Hv.out])
   clear hw;obtain⟨_,_,e0,F1,F2,F3⟩:=HF.out;injection e0 with e1 _ e3;subst e1 e3;unfold maxLen at F2;clear HB1;go_wp2;refine au [6,21,22,23] (fun n vs wr=>∃k:Nat,k≤F.length∧n=F.length - k∧vs=[.int .i64 (u),.slice b1 F.length d1,.int .i64 F.length,.int .i64 k] ∧
    (mems F (u)↔mems (F.drop k) (u))∧Own w m wr m []) ?_ ?_
   ·exact⟨_,0,zC _,rfl,rfl,Iff.rfl,HO1.out⟩
   rintro X z n vs wr hX - ⟨k,hk,rfl,rfl,hrel,hO⟩;have Hrel:=zh hrel;clear hrel HO1;simp[litL,lk];by_cases hlt:k<F.length
   ·obtain⟨b,off,rfl,h4⟩:=F3 (by intro h;simp[h] at hlt);have hg:=h4 k hlt;have r1:=Mem.ak hO.inn hg.1;have r2:=Mem.ak hO.inn hg.2.1;have rl:=Mem.ay hO.inn hg.1;have HD:=zh (show mems (F.drop k) (u)↔((F[k]).1≤u∧u≤(F[k]).2)∨mems (F.drop (k+1)) (u) by rw[zZ hlt,bH]);clear h4 hg;generalize F[k]=q at *
    obtain⟨qa,qb⟩:=q;simp only at r1 r2;have hO2:=hO.al #[.int .i64 qa,.int .i64 qb] 153;have q1:=hO2.obj.c 0;have q2:=hO2.obj.c 1;have q3:=hO2.obj.lt;have HO2:=zh hO2.tail;clear hO hO2;by_cases ha:qa≤u
    ·have Ha:=zh ha;have hda:decide (qa≤u)=true:=zL ha;by_cases hb:u≤qb
     ·have Hb:=zh hb;have hdb:decide (u≤qb)=true:=zL hb;clear ha hb;go_wp2;exact hR.out _ _ ⟨aL (by rw[aN (HM.out.2 (Hrel.out.2 (HD.out.2 (.inl ⟨Ha.out,Hb.out⟩))))]),HO2.out.below⟩
     ·have Hb:=zh hb;have hdb:decide (u≤qb)=false:=zK hb;clear ha hb;go_wp2;exact hX.out _ _ _ zo rfl ⟨k+1,zo,rfl,rfl,Hrel.out.trans (HD.out.trans ⟨fun h=>h.elim (fun h=>absurd h.2 (by have:=Hb.out;omega)) id,.inr⟩),HO2.out⟩
    ·have Ha:=zh ha;have hda:decide (qa≤u)=false:=zK ha;clear ha;go_wp2;exact hX.out _ _ _ zo rfl ⟨k+1,zo,rfl,rfl,Hrel.out.trans (HD.out.trans ⟨fun h=>h.elim (fun h=>absurd h.1 (by have:=Ha.out;omega)) id,.inr⟩),HO2.out⟩
   ·have hk2:k=F.length:=zo;subst hk2;have Hk:=zh hO.below;have HN:=zh (show ¬ mems (F.drop F.length) (u) by rw[List.drop_length];exact fV _);clear hO;go_wp2;exact hR.out _ _ ⟨aL (by rw[aK (fun h=>HN.out (Hrel.out.1 (HM.out.1 h)))]),Hk.out⟩
 ·rw[zK hv];have Hk:=zh hO1.below;have Hv:=zh hv;clear hO1 hb1 HO hv;go_wp2;exact hR.out _ _ ⟨aL (by rw[aK (fun h=>Hv.out (HE.out.1 h).1)]),Hk.out⟩
end Cl
