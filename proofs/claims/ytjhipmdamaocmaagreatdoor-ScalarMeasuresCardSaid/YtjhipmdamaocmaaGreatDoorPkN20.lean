/- Lemmas for the proofs of chapter 11. -/
import Derived.Test.YtjhipmdamaocmaaGreatDoorPkN17
set_option maxRecDepth 100000
set_option maxHeartbeats 16000000
namespace Cl
open Go Go.RowKit Go.Proofs
theorem BF (s:ByteArray):nJ s.data.toList s.size ++ [⟨true,[]⟩]=jZ s.data.toList:=by
 unfold nJ jZ;simp
theorem Gy (op s:ByteArray) (m:Mem) (w:World) (hm:m.inn w) (htab:TabM m) (_:op.size≤1000) (hs:s.size≤1000) :
 Calls Tryz.prog 202 #[.string op,.string s] w fun e w'=>∃r C,e=.returned (.tuple #[.agg #[r],.int .i64 (if (eF op.toList s.data.toList).isSome then 0 else 8)])∧Below w.heap.size w w'∧aG (m.grow w w') r C ∧
  (∀f,eF op.toList s.data.toList=some f→eQ f C)∧(eF op.toList s.data.toList=none→C=[])∧C.length≤3*(s.size+5)+1:=by
 have hO:=(Own.start hm).al #[.slice none 0 0] 27;have HO:=zh hO;have HB:=zh (fun self=>Co s self m _ hO.inn htab hs);have HW:=zh (Bw s m _ hO.inn hs);clear hO;refine aj fun R hR=>?_
 go_enter Tryz.func202,Tryz.ntmps202
 have hnc:∀x:ByteArray,Hid (x=x):=fun x=>zh rfl;clear hnc
 go_wp2_with fail
 ·
  have h0:(op.toList==[60])=true:=zA;have hf:eF op.toList s.data.toList=some (mr false · s.data.toList):=by simp[eF,beq_iff_eq.1 h0]
  refine (HB.out false).mono ?_;rintro e w1 ⟨r,C,rfl,hb1,hst,hlang,hClen⟩;have hO1:=HO.out.call hb1;obtain⟨ra,rc,rfl⟩:∃ra rc,r=.slice ra C.length rc:=by obtain⟨x,y,e,-⟩:=hst;exact⟨x,y,e⟩
  clear h0 hb1;have g1:=hO1.obj.c 0;have g2:=hO1.obj.frozen 0;have g3:=hO1.obj.lt;have hO2:=hO1.set 0 (.slice ra C.length rc);have g4:=hO2.obj.c 0;have Hk:=zh (zi hO2.below (zi (aJ hO2.done hst) (zi hlang (zi hClen hf))));clear hO2 hO1 hst hlang hClen hf;go_wp2;refine yQ (v:=.tuple #[.agg #[.slice ra C.length rc],.int .i64 0]) (by simp[results,Tryz.results202,go_sem,g4]) rfl ?_;refine hR.out _ _ ⟨_,C,by rw[Hk.out.2.2.2.2];rfl,Hk.out.1,Hk.out.2.1,fun f h=>?_,fun h=>?_,?_⟩
  ·rw[Hk.out.2.2.2.2] at h;cases h;exact Hk.out.2.2.1
  ·rw[Hk.out.2.2.2.2] at h;cases h
  ·have:=Hk.out.2.2.2.1;omega
 ·
  have h0:(op.toList==[60])=false:=zA;have h1:(op.toList==[60,61])=true:=zA;have hf:eF op.toList s.data.toList=some (mr true · s.data.toList):=by simp[eF,beq_iff_eq.1 h1]
  refine (HB.out true).mono ?_;rintro e w1 ⟨r,C,rfl,hb1,hst,hlang,hClen⟩;have hO1:=HO.out.call hb1;obtain⟨ra,rc,rfl⟩:∃ra rc,r=.slice ra C.length rc:=by obtain⟨x,y,e,-⟩:=hst;exact⟨x,y,e⟩
  clear h0 h1 hb1;have g1:=hO1.obj.c 0;have g2:=hO1.obj.frozen 0;have g3:=hO1.obj.lt;have hO2:=hO1.set 0 (.slice ra C.length rc);have g4:=hO2.obj.c 0;have Hk:=zh (zi hO2.below (zi (aJ hO2.done hst) (zi hlang (zi hClen hf))));clear hO2 hO1 hst hlang hClen hf;go_wp2;refine yQ (v:=.tuple #[.agg #[.slice ra C.length rc],.int .i64 0]) (by simp[results,Tryz.results202,go_sem,g4]) rfl ?_;refine hR.out _ _ ⟨_,C,by rw[Hk.out.2.2.2.2];rfl,Hk.out.1,Hk.out.2.1,fun f h=>?_,fun h=>?_,?_⟩
  ·rw[Hk.out.2.2.2.2] at h;cases h;exact Hk.out.2.2.1
  ·rw[Hk.out.2.2.2.2] at h;cases h
  ·have:=Hk.out.2.2.2.1;omega
 ·
  have h0:(op.toList==[60])=false:=zA;have h1:(op.toList==[60,61])=false:=zA;have h2:(op.toList==[62])=true:=zA;have hf:eF op.toList s.data.toList=some fun v => !mr true v s.data.toList:=by simp[eF,beq_iff_eq.1 h2]
  refine (HB.out true).mono ?_;rintro e w1 ⟨r,C,rfl,hb1,hst,hlang,hClen⟩;have hO1:=HO.out.call hb1;obtain⟨ra,rc,rfl⟩:∃ra rc,r=.slice ra C.length rc:=by obtain⟨x,y,e,-⟩:=hst;exact⟨x,y,e⟩
  have HN:=zh (qD (.slice ra C.length rc) C _ w1 hO1.inn (htab.le hO1.ext.le) hst zo);have Hf:=zh (zi hf (zi hlang hClen));have HO1:=zh hO1;clear hf hlang hClen hst hO1 hb1 h0 h1 h2
  go_wp2_with fail
  refine HN.out.mono ?_;rintro e w2 ⟨r2,C2,rfl,hb2,hst,hlang2,hClen2⟩;have hO1:=HO1.out.call hb2;have hf:=Hf.out.1;have hlang:=hlang2.congr fun x=>by rw[Hf.out.2.1.sem x]
  have hClen:C2.length≤3*(s.size+5)+1:=by have:=Hf.out.2.2;omega
  clear hlang2 hClen2 HN Hf HO1 hb2;generalize C2=C at *
  obtain⟨ra,rc,rfl⟩:∃ra rc,r2=.slice ra C.length rc:=by obtain⟨x,y,e,-⟩:=hst;exact⟨x,y,e⟩
  have g1:=hO1.obj.c 0;have g2:=hO1.obj.frozen 0;have g3:=hO1.obj.lt;have hO2:=hO1.set 0 (.slice ra C.length rc);have g4:=hO2.obj.c 0;have Hk:=zh (zi hO2.below (zi (aJ hO2.done hst) (zi hlang (zi hClen hf))));clear hO2 hO1 hst hlang hClen hf;go_wp2;refine yQ (v:=.tuple #[.agg #[.slice ra C.length rc],.int .i64 0]) (by simp[results,Tryz.results202,go_sem,g4]) rfl ?_;refine hR.out _ _ ⟨_,C,by rw[Hk.out.2.2.2.2];rfl,Hk.out.1,Hk.out.2.1,fun f h=>?_,fun h=>?_,?_⟩
  ·rw[Hk.out.2.2.2.2] at h;cases h;exact Hk.out.2.2.1
  ·rw[Hk.out.2.2.2.2] at h;cases h
  ·have:=Hk.out.2.2.2.1;omega
 ·
  have h0:(op.toList==[60])=false:=zA;have h1:(op.toList==[60,61])=false:=zA;have h2:(op.toList==[62])=false:=zA;have h3:(op.toList==[62,61])=true:=zA;have hf:eF op.toList s.data.toList=some fun v => !mr false v s.data.toList:=by simp[eF,beq_iff_eq.1 h3]
  refine (HB.out false).mono ?_;rintro e w1 ⟨r,C,rfl,hb1,hst,hlang,hClen⟩;have hO1:=HO.out.call hb1;obtain⟨ra,rc,rfl⟩:∃ra rc,r=.slice ra C.length rc:=by obtain⟨x,y,e,-⟩:=hst;exact⟨x,y,e⟩
  have HN:=zh (qD (.slice ra C.length rc) C _ w1 hO1.inn (htab.le hO1.ext.le) hst zo);have Hf:=zh (zi hf (zi hlang hClen));have HO1:=zh hO1;clear hf hlang hClen hst hO1 hb1 h0 h1 h2 h3
  go_wp2_with fail
  refine HN.out.mono ?_;rintro e w2 ⟨r2,C2,rfl,hb2,hst,hlang2,hClen2⟩;have hO1:=HO1.out.call hb2;have hf:=Hf.out.1;have hlang:=hlang2.congr fun x=>by rw[Hf.out.2.1.sem x]
  have hClen:C2.length≤3*(s.size+5)+1:=by have:=Hf.out.2.2;omega
  clear hlang2 hClen2 HN Hf HO1 hb2;generalize C2=C at *
  obtain⟨ra,rc,rfl⟩:∃ra rc,r2=.slice ra C.length rc:=by obtain⟨x,y,e,-⟩:=hst;exact⟨x,y,e⟩
  have g1:=hO1.obj.c 0;have g2:=hO1.obj.frozen 0;have g3:=hO1.obj.lt;have hO2:=hO1.set 0 (.slice ra C.length rc);have g4:=hO2.obj.c 0;have Hk:=zh (zi hO2.below (zi (aJ hO2.done hst) (zi hlang (zi hClen hf))));clear hO2 hO1 hst hlang hClen hf;go_wp2;refine yQ (v:=.tuple #[.agg #[.slice ra C.length rc],.int .i64 0]) (by simp[results,Tryz.results202,go_sem,g4]) rfl ?_;refine hR.out _ _ ⟨_,C,by rw[Hk.out.2.2.2.2];rfl,Hk.out.1,Hk.out.2.1,fun f h=>?_,fun h=>?_,?_⟩
  ·rw[Hk.out.2.2.2.2] at h;cases h;exact Hk.out.2.2.1
  ·rw[Hk.out.2.2.2.2] at h;cases h
  ·have:=Hk.out.2.2.2.1;omega
 ·
  have h0:(op.toList==[60])=false:=zA;have h1:(op.toList==[60,61])=false:=zA;have h2:(op.toList==[62])=false:=zA;have h3:(op.toList==[62,61])=false:=zA;have h4:(op.toList==[61,61])=true:=zA;have hf:eF op.toList s.data.toList=some fun v=>decide (v=s.data.toList):=by simp[eF,beq_iff_eq.1 h4]
  refine HW.out.mono ?_;rintro e w1 ⟨r,rfl,hb1,hst⟩;rw[BF] at hst;have hlang:=sP s.data.toList;have hClen:(jZ s.data.toList).length≤s.size+3:=by rw[iA];simp
  obtain⟨C,hCC⟩:∃C,jZ s.data.toList=C:=⟨_,rfl⟩;rw[hCC] at hst hlang hClen;have hO1:=HO.out.call hb1;obtain⟨ra,rc,rfl⟩:∃ra rc,r=.slice ra C.length rc:=by obtain⟨x,y,e,-⟩:=hst;exact⟨x,y,e⟩
  clear h0 h1 h2 h3 h4 hCC hb1;have g1:=hO1.obj.c 0;have g2:=hO1.obj.frozen 0;have g3:=hO1.obj.lt;have hO2:=hO1.set 0 (.slice ra C.length rc);have g4:=hO2.obj.c 0;have Hk:=zh (zi hO2.below (zi (aJ hO2.done hst) (zi hlang (zi hClen hf))));clear hO2 hO1 hst hlang hClen hf;go_wp2;refine yQ (v:=.tuple #[.agg #[.slice ra C.length rc],.int .i64 0]) (by simp[results,Tryz.results202,go_sem,g4]) rfl ?_;refine hR.out _ _ ⟨_,C,by rw[Hk.out.2.2.2.2];rfl,Hk.out.1,Hk.out.2.1,fun f h=>?_,fun h=>?_,?_⟩
  ·rw[Hk.out.2.2.2.2] at h;cases h;exact Hk.out.2.2.1
  ·rw[Hk.out.2.2.2.2] at h;cases h
  ·have:=Hk.out.2.2.2.1;omega
 ·
  have h0:(op.toList==[60])=false:=zA;have h1:(op.toList==[60,61])=false:=zA;have h2:(op.toList==[62])=false:=zA;have h3:(op.toList==[62,61])=false:=zA;have h4:(op.toList==[61,61])=false:=zA;have h5:(op.toList==[33,61])=true:=zA;have hf:eF op.toList s.data.toList=some fun v => !decide (v=s.data.toList):=by simp[eF,beq_iff_eq.1 h5]
  refine HW.out.mono ?_;rintro e w1 ⟨r,rfl,hb1,hst⟩;rw[BF] at hst;have hlang:=sP s.data.toList;have hClen:(jZ s.data.toList).length≤s.size+3:=by rw[iA];simp
  obtain⟨C,hCC⟩:∃C,jZ s.data.toList=C:=⟨_,rfl⟩;rw[hCC] at hst hlang hClen;have hO1:=HO.out.call hb1;obtain⟨ra,rc,rfl⟩:∃ra rc,r=.slice ra C.length rc:=by obtain⟨x,y,e,-⟩:=hst;exact⟨x,y,e⟩
  have HN:=zh (qD (.slice ra C.length rc) C _ w1 hO1.inn (htab.le hO1.ext.le) hst zo);have Hf:=zh (zi hf (zi hlang hClen));have HO1:=zh hO1;clear hf hlang hClen hst hO1 hb1 h0 h1 h2 h3 h4 h5 hCC
  go_wp2_with fail
  refine HN.out.mono ?_;rintro e w2 ⟨r2,C2,rfl,hb2,hst,hlang2,hClen2⟩;have hO1:=HO1.out.call hb2;have hf:=Hf.out.1;have hlang:=hlang2.congr fun x=>by rw[Hf.out.2.1.sem x]
  have hClen:C2.length≤3*(s.size+5)+1:=by have:=Hf.out.2.2;omega
  clear hlang2 hClen2 HN Hf HO1 hb2;generalize C2=C at *
  obtain⟨ra,rc,rfl⟩:∃ra rc,r2=.slice ra C.length rc:=by obtain⟨x,y,e,-⟩:=hst;exact⟨x,y,e⟩
  have g1:=hO1.obj.c 0;have g2:=hO1.obj.frozen 0;have g3:=hO1.obj.lt;have hO2:=hO1.set 0 (.slice ra C.length rc);have g4:=hO2.obj.c 0;have Hk:=zh (zi hO2.below (zi (aJ hO2.done hst) (zi hlang (zi hClen hf))));clear hO2 hO1 hst hlang hClen hf;go_wp2;refine yQ (v:=.tuple #[.agg #[.slice ra C.length rc],.int .i64 0]) (by simp[results,Tryz.results202,go_sem,g4]) rfl ?_;refine hR.out _ _ ⟨_,C,by rw[Hk.out.2.2.2.2];rfl,Hk.out.1,Hk.out.2.1,fun f h=>?_,fun h=>?_,?_⟩
  ·rw[Hk.out.2.2.2.2] at h;cases h;exact Hk.out.2.2.1
  ·rw[Hk.out.2.2.2.2] at h;cases h
  ·have:=Hk.out.2.2.2.1;omega
 ·
  have h0:(op.toList==[60])=false:=zA;have h1:(op.toList==[60,61])=false:=zA;have h2:(op.toList==[62])=false:=zA;have h3:(op.toList==[62,61])=false:=zA;have h4:(op.toList==[61,61])=false:=zA;have h5:(op.toList==[33,61])=false:=zA;have hf:eF op.toList s.data.toList=none:=by simp[eF,beq_eq_false_iff_ne.1 h0,beq_eq_false_iff_ne.1 h1,beq_eq_false_iff_ne.1 h2,beq_eq_false_iff_ne.1 h3,beq_eq_false_iff_ne.1 h4,beq_eq_false_iff_ne.1 h5]
  have Hf:=zh hf;clear h0 h1 h2 h3 h4 h5 hf;go_wp2;refine yQ (v:=.tuple #[.agg #[.slice none 0 0],.int .i64 8]) (by simp[results,Tryz.results202,go_sem]) rfl ?_;refine hR.out _ _ ⟨_,[],by rw[Hf.out];rfl,HO.out.below,bC _,fun f h=>?_,fun _=>rfl,zS⟩;rw[Hf.out] at h;cases h
theorem Lj (s:ByteArray):nJ s.data.toList s.size ++ [⟨true,[]⟩]=jZ s.data.toList:=by
 unfold nJ jZ;simp
theorem Cn (op s:ByteArray) (he:op.toList=[61,61]) (m:Mem) (w:World) (hm:m.inn w) (hs:s.size≤1000) :
 Calls Tryz.prog 202 #[.string op,.string s] w fun e w'=>∃r C,e=.returned (.tuple #[.agg #[r],.int .i64 (if (eF op.toList s.data.toList).isSome then 0 else 8)])∧Below w.heap.size w w'∧aG (m.grow w w') r C ∧
  (∀f,eF op.toList s.data.toList=some f→eQ f C)∧(eF op.toList s.data.toList=none→C=[])∧C.length≤3*(s.size+5)+1:=by
 have hO:=(Own.start hm).al #[.slice none 0 0] 27;have HO:=zh hO;have HW:=zh (Bw s m _ hO.inn hs);clear hO;have h0:(op.toList==[60])=false:=by rw[he];decide
 have h1:(op.toList==[60,61])=false:=by rw[he];decide
 have h2:(op.toList==[62])=false:=by rw[he];decide
 have h3:(op.toList==[62,61])=false:=by rw[he];decide
 have h4:(op.toList==[61,61])=true:=by rw[he];decide
 have hf:eF op.toList s.data.toList=some fun v=>decide (v=s.data.toList):=by rw[he];simp[eF]
 have HF:=zh hf;clear hf he;refine aj fun R hR=>?_
 go_enter Tryz.func202,Tryz.ntmps202
 go_wp2_with fail
 refine HW.out.mono ?_;rintro e w1 ⟨r,rfl,hb1,hst⟩;rw[Lj] at hst;have hlang:=sP s.data.toList;have hClen:(jZ s.data.toList).length≤s.size+3:=by rw[iA];simp
 obtain⟨C,hCC⟩:∃C,jZ s.data.toList=C:=⟨_,rfl⟩;rw[hCC] at hst hlang hClen;have hO1:=HO.out.call hb1;obtain⟨ra,rc,rfl⟩:∃ra rc,r=.slice ra C.length rc:=by obtain⟨x,y,e,-⟩:=hst;exact⟨x,y,e⟩
 have hf:=HF.out;clear h0 h1 h2 h3 h4 hCC hb1 HF;have g1:=hO1.obj.c 0;have g2:=hO1.obj.frozen 0;have g3:=hO1.obj.lt;have hO2:=hO1.set 0 (.slice ra C.length rc);have g4:=hO2.obj.c 0;have Hk:=zh (zi hO2.below (zi (aJ hO2.done hst) (zi hlang (zi hClen hf))));clear hO2 hO1 hst hlang hClen hf;go_wp2;refine yQ (v:=.tuple #[.agg #[.slice ra C.length rc],.int .i64 0]) (by simp[results,Tryz.results202,go_sem,g4]) rfl ?_;refine hR.out _ _ ⟨_,C,by rw[Hk.out.2.2.2.2];rfl,Hk.out.1,Hk.out.2.1,fun f h=>?_,fun h=>?_,?_⟩
 ·rw[Hk.out.2.2.2.2] at h;cases h;exact Hk.out.2.2.1
 ·rw[Hk.out.2.2.2.2] at h;cases h
 ·have:=Hk.out.2.2.2.1;omega
end Cl
