/- Lemmas for the proofs of chapter 11. -/
import Derived.Test.YtjhipmdamaocmaaGreatDoorPkN18
set_option maxRecDepth 100000
set_option maxHeartbeats 16000000
namespace Cl
open Go Go.RowKit Go.Proofs
theorem nT (v0:Value) (A:Table) (m:Mem) (w:World) (hm:m.inn w) (hA:aG m v0 A) (hlen:A.length≤100000) :
 Calls Tryz.prog 93 #[.agg #[v0]] w fun e w'=>∃o,e=.returned (optV o)∧Below w.heap.size w w'∧fT (Sem A) o:=by
 have hO:=(Own.start hm).al #[v0] 27;have HW:=zh (D5 v0 A 1 m _ hO.inn hA zo zo hlen (by have:gN 1=1:=rfl;rw[this];omega));have HO:=zh hO;clear hO;refine aj fun R hR=>?_
 go_enter Tryz.func93,Tryz.ntmps93
 go_wp2_with fail
 refine HW.out.mono ?_;rintro e w1 ⟨r,ws,rfl,hb1,hst,hfirst⟩;have hO1:=HO.out.call hb1;have hl:=xq hfirst
 cases ws with
 | nil=>
  obtain⟨ra,rc,rfl,r2,r3,r4⟩:=hst;have Hk:=zh (zi hO1.below hl);clear hO1 hl hfirst HW HO hb1 r4;go_wp2
  exact hR.out _ _ ⟨none,rfl,Hk.out.1,Hk.out.2⟩
 | cons x ws=>
  obtain⟨ra,rc,rfl,r2,r3,r4⟩:=hst;obtain⟨rb,ro,rfl,r5⟩:=r4 zS;have z:=(r5 0 zS).1;rw[Nat.add_zero] at z;have z1:=Mem.ak hO1.inn z;have z2:=Mem.ay hO1.inn z;simp only[yG,List.getElem_cons_zero] at z1;have hw0:0<(List.map bstr (x::ws)).length:=by simp
  have hdec:(((List.map bstr (x::ws)).length:Int)==0)=false:=beq_eq_false_iff_ne.2 zo;have Hk:=zh (zi hO1.below hl);clear hO1 hl hfirst HW HO hb1 r4 r5 z;generalize (List.map bstr (x::ws)).length=N at *
  go_wp2;exact hR.out _ _ ⟨some x,rfl,Hk.out.1,Hk.out.2⟩
theorem QI {x y:List UInt8}:slt x y↔x.length<y.length∨x.length=y.length∧Op.bytesLess x y=true:=by
 unfold slt;constructor
 ·rintro (h | ⟨h1,h2⟩)
  ·exact .inl h
  ·exact .inr ⟨h1,(Fh x y h1).2 h2⟩
 ·rintro (h | ⟨h1,h2⟩)
  ·exact .inl h
  ·exact .inr ⟨h1,(Fh x y h1).1 h2⟩
def Rz (f g:List UInt8→Bool):Option (List UInt8)→Option (List UInt8)→Prop
 | none,none=>gX f g 0
 | some _,none=>gX f g (-1)
 | none,some _=>gX f g 1
 | some x,some y=>x≠y∧(slt x y→gX f g (-1))∧(slt y x→gX f g 1)
theorem PS {f g:List UInt8→Bool} {a b:Option (List UInt8)} (h:fT (fun w=>f w && !g w) a) (k:fT (fun w=>g w && !f w) b):Rz f g a b:=by
 have q:=uR h k;cases a <;> cases b <;> exact q
def slxV (s t:ByteArray):Int:=if s.size=t.size then cmpS s.data.toList t.data.toList else if s.size<t.size then -1 else 1
theorem QH (x y:List UInt8):slxV (bstr x) (bstr y)<0↔slt x y:=by
 rw[QI];have h1:(bstr x).size=x.length:=by simp[bstr,ByteArray.size]
 have h2:(bstr y).size=y.length:=by simp[bstr,ByteArray.size]
 unfold slxV;rw[h1,h2];show (if x.length=y.length then cmpS x y else _)<0↔_;by_cases h:x.length=y.length
 ·rw[zI h];unfold cmpS;constructor
  ·intro hx;refine .inr ⟨h,?_⟩
   split at hx
   ·assumption
   ·split at hx <;> omega
  ·rintro (hx | ⟨-,hx⟩)
   ·omega
   ·rw[zI hx];decide
 ·rw[zH h];constructor
  ·intro hx
   split at hx
   ·exact .inl ‹_›
   ·omega
  ·rintro (hx | ⟨hx,-⟩)
   ·rw[zI hx];decide
   ·exact absurd hx h
theorem uU (s t:ByteArray) (w:World):Calls Tryz.prog 168 #[.string s,.string t] w fun e w'=>e=.returned (.int .i64 (slxV s t))∧w'=w:=by
 unfold slxV;rw[← ByteArray.toList_eq s,← ByteArray.toList_eq t];refine aj fun R hR=>?_;by_cases h:s.size=t.size
 ·have hd:((s.size:Int) != (t.size:Int))=false:=by simp[h]
  have H:=zh h;clear h
  go_enter Tryz.func168,Tryz.ntmps168
  go_wp2
  ·have q:Op.bytesLess s.toList t.toList=true:=zA;exact hR.out _ _ ⟨by rw[zI H.out,cmpS,zI q];rfl,rfl⟩
  ·have q:Op.bytesLess s.toList t.toList=false:=zA;have q2:(!s.toList==t.toList)=true:=zA;have hne:¬ s.toList=t.toList:=by simpa using q2
   exact hR.out _ _ ⟨by rw[zI H.out,cmpS,zH (by rw[q];simp),zH hne];rfl,rfl⟩
  ·have q:Op.bytesLess s.toList t.toList=false:=zA;have q2:(!s.toList==t.toList)=false:=zA;have he:s.toList=t.toList:=by simpa using q2
   exact hR.out _ _ ⟨by rw[zI H.out,cmpS,zH (by rw[q];simp),zI he];rfl,rfl⟩
 ·have hd:((s.size:Int) != (t.size:Int))=true:=bne_iff_ne.2 zo;by_cases h2:s.size<t.size
  ·have hd2:decide (s.size<t.size)=true:=zL zo;have H:=zh (zi h h2);clear h h2
   go_enter Tryz.func168,Tryz.ntmps168
   go_wp2;exact hR.out _ _ ⟨by rw[zH H.out.1,zI H.out.2];rfl,rfl⟩
  ·have hd2:decide (s.size<t.size)=false:=zK zo;have H:=zh (zi h h2);clear h h2
   go_enter Tryz.func168,Tryz.ntmps168
   go_wp2;exact hR.out _ _ ⟨by rw[zH H.out.1,zH H.out.2];rfl,rfl⟩
theorem ze (v0 v1:Value) (A B:Table) (m:Mem) (w:World) (hm:m.inn w) (hA:aG m v0 A) (hB:aG m v1 B) (hlen:(A.length+2)*(B.length+2)≤90000) :
 Calls Tryz.prog 102 #[.agg #[v0],.agg #[v1]] w fun e w'=>∃c,e=.returned (.int .i64 c)∧Below w.heap.size w w'∧gX (Sem A) (Sem B) c:=by
 have hF:=Fits.of (A:=A) (B:=B) (zG _) (zG _) zo;have hlen2:(B.length+2)*(A.length+2)≤90000:=by rw[Nat.mul_comm];exact hlen
 have hF2:=Fits.of (A:=B) (B:=A) (zG _) (zG _) zo;have hO:=((Own.start hm).al #[v0] 27).al #[v1] 27;have hsz1:(w.alloc (.cells #[v0] 27)).heap.size=w.heap.size+1:=by simp
 rw[hsz1] at hO;have HM:=zh (uH v0 v1 A B m _ hO.inn hA hB hF);have HM2:=zh (fun mk w (hi:mk.inn w) (hle:m.le mk)=>uH v1 v0 B A mk w hi (aJ hle hB) (aJ hle hA) hF2);have HO:=zh hO;have g1:=hO.obj.c 0;have g2:=hO.swap.obj.c 0;obtain⟨va,vc,rfl,-⟩:=hA;obtain⟨vb,vd,rfl,-⟩:=hB;clear hO hsz1 hF hF2;refine aj fun R hR=>?_
 go_enter Tryz.func102,Tryz.ntmps102
 go_wp2_with fail
 refine HM.out.mono ?_;rintro e w2 ⟨d1,D1,rfl,hb2,hd1,hl1,hlen1⟩;clear HM g1 g2;have hO2:=HO.out.call hb2;have hle2:=Mem.dF (w:=w2) HO.out.inn;have HL:=zh (nT d1 D1 _ _ hO2.inn hd1 zo);have HO2:=zh (zi hO2 hle2);have Hl1:=zh hl1;clear hO2 hle2 hb2 HO hd1 hl1 hlen1
 go_wp2_with fail
 refine HL.out.mono ?_;rintro e w3 ⟨o1,rfl,hb3,hle1⟩;have hO3:=HO2.out.1.call hb3;have hq:=Mem.dF (w:=w3) HO2.out.1.inn;have HO3:=zh (zi hO3 (Mem.le_trans HO2.out.2 hq));have Hl1':=zh (show fT (fun x=>Sem A x && !Sem B x) o1 by
  have e:Sem D1=fun x=>Sem A x && !Sem B x:=funext Hl1.out.sem;rw[← e];exact hle1)
 clear hle1 Hl1 HL HO2 hb3 hq hO3 D1;generalize hmm:(m.grow _ w2).grow w2 w3=mk3 at *
 clear hmm;have g1:=HO3.out.1.obj.c 0;have g2:=HO3.out.1.swap.obj.c 0;have HM:=zh (HM2.out _ _ HO3.out.1.inn HO3.out.2);obtain⟨s1,b1,e1⟩:∃s1 b1,optV o1=.tuple #[.string s1,.bool b1]:=⟨_,_,rfl⟩;have E1:=zh e1;rw[e1];clear e1
 go_wp2_with fail
 refine HM.out.mono ?_;rintro e w4 ⟨d2,D2,rfl,hb4,hd2,hl2,hlen3⟩;clear HM g1 g2;have hO4:=HO3.out.1.call hb4;have HL:=zh (nT d2 D2 _ _ hO4.inn hd2 zo);have HO4:=zh hO4;have Hl2:=zh hl2;clear hO4 hb4 HO3 hd2 hl2 hlen3
 go_wp2_with fail
 refine HL.out.mono ?_;rintro e w5 ⟨o2,rfl,hb5,hle2⟩;have HO5:=zh (HO4.out.call hb5).below;have HC:=zh (PS Hl1'.out (show fT (fun x=>Sem B x && !Sem A x) o2 by
  have e:Sem D2=fun x=>Sem B x && !Sem A x:=funext Hl2.out.sem;rw[← e];exact hle2))
 clear hle2 Hl2 HL HO4 hb5 D2 Hl1' HM2;have E1:=E1.out
 cases o1 with
 | none=>
  rw[lW] at E1;cases E1
  cases o2 with
  | none=>
   rw[lW];go_wp2
   exact hR.out _ _ ⟨_,rfl,HO5.out,HC.out⟩
  | some y=>
   rw[lV];go_wp2
   exact hR.out _ _ ⟨_,rfl,HO5.out,HC.out⟩
 | some x=>
  rw[lV] at E1;cases E1
  cases o2 with
  | none=>
   rw[lW];go_wp2
   exact hR.out _ _ ⟨_,rfl,HO5.out,HC.out⟩
  | some y=>
   rw[lV];obtain⟨hne,hc1,hc2⟩:=HC.out;obtain⟨sv,hsv⟩:∃c,slxV (bstr x) (bstr y)=c:=⟨_,rfl⟩;have hlt:=QH x y;rw[hsv] at hlt;have HS:=zh hsv;by_cases h:sv<0
   ·have hd:decide (sv<0)=true:=zL h;have HX:=zh (hc1 (hlt.1 h));clear hc1 hc2 hlt hsv HC
    go_wp2_with fail
    refine (uU _ _ _).mono ?_;rintro e w7 ⟨rfl,rfl⟩;rw[HS.out];go_wp2;exact hR.out _ _ ⟨_,rfl,HO5.out,HX.out⟩
   ·have hd:decide (sv<0)=false:=zK h;have hyx:slt y x:=by
     rcases nL x y with t | t | t
     ·exact absurd (hlt.2 t) h
     ·exact absurd t hne
     ·exact t
    have HX:=zh (hc2 hyx);clear hc1 hc2 hlt hsv HC hyx
    go_wp2_with fail
    refine (uU _ _ _).mono ?_;rintro e w7 ⟨rfl,rfl⟩;rw[HS.out];go_wp2;exact hR.out _ _ ⟨_,rfl,HO5.out,HX.out⟩
end Cl
