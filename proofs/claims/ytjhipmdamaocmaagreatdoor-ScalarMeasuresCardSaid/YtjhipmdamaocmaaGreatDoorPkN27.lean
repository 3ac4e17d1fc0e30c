/- Lemmas for the proofs of chapter 11. -/
import Derived.Test.YtjhipmdamaocmaaGreatDoorPkN26
import Derived.Test.YtjhipmdamaocmaaGreatDoorPkN24
set_option maxRecDepth 100000
set_option maxHeartbeats 16000000
namespace Cl
open Go Go.RowKit Go.Proofs
theorem tN {a b:Bool} (h:firB a b≠0):a≠b∧firB a b=if a then -1 else 1:=by
 cases a <;> cases b <;> simp_all [firB]
theorem mY {a b:Bool} (h:firB a b=0):a=b:=by
 cases a <;> cases b <;> simp_all [firB]
theorem Rm {A B:RS} (hA:A.gK) (hB:B.gK) (cl:Int) (hl:gX (Sem A.t) (Sem B.t) cl) :
 (firB A.nul B.nul≠0→CmpS A B (firB A.nul B.nul))∧(firB A.nul B.nul=0→firB A.fal B.fal≠0→CmpS A B (firB A.fal B.fal))∧(firB A.nul B.nul=0→firB A.fal B.fal=0→firB A.tru B.tru≠0→CmpS A B (firB A.tru B.tru)) ∧
 (firB A.nul B.nul=0→firB A.fal B.fal=0→firB A.tru B.tru=0→cmpN A.ns B.ns≠0→CmpS A B (cmpN A.ns B.ns))∧(firB A.nul B.nul=0→firB A.fal B.fal=0→firB A.tru B.tru=0→cmpN A.ns B.ns=0→CmpS A B cl):=by
 refine ⟨fun h=>?_,fun h0 h=>?_,fun h0 h1 h=>?_,fun h0 h1 h2 h=>?_,fun h0 h1 h2 h3=>?_⟩
 ·rw[(tN h).2];exact .inl ⟨hA,hB,Jm (tN h).1⟩
 ·rw[(tN h).2];exact .inl ⟨hA,hB,Jn (mY h0) (tN h).1⟩
 ·rw[(tN h).2];exact .inl ⟨hA,hB,Jj (mY h0) (mY h1) (tN h).1⟩
 ·exact .inl ⟨hA,hB,Jl (mY h0) (mY h1) (mY h2) h⟩
 ·exact .inl ⟨hA,hB,Jk (mY h0) (mY h1) (mY h2) h3 hl⟩
theorem y8 (vi vf vt:Value) (A:RS) (ui uf ut:Value) (B:RS) (na ta nb tb:Nat) (m:Mem) (w:World) (hm:m.inn w) (htab:TabM m) (ha:ScAt m vi vf vt A) (hb:ScAt m ui uf ut B) (la:ScLe A na ta) (lb:ScLe B nb tb) (hn1:na≤250) (hn2:nb≤250) (ht:(ta+2)*(tb+2)≤90000) :
 Calls Tryz.prog 54 #[A.val vi vf vt,B.val ui uf ut] w fun e w'=>∃c,e=.returned (.int .i64 c)∧Below w.heap.size w w'∧CmpS A B c:=by
 have hta:ta+2≤(ta+2)*(tb+2):=Nat.le_mul_of_pos_right _ zo;have htb:tb+2≤(ta+2)*(tb+2):=Nat.le_mul_of_pos_left _ zo;have htt:(A.t.length+2)*(B.t.length+2)≤90000:=yE (Nat.mul_le_mul (Nat.add_le_add_right la.t 2) (Nat.add_le_add_right lb.t 2)) ht;have hO:=((Own.start hm).al #[.bool A.nul,.bool A.fal,.bool A.tru,vi,vf,vt] 29).al #[.bool B.nul,.bool B.fal,.bool B.tru,ui,uf,ut] 29;simp only[bZ] at hO;have HVA:=zh (lu vi vf vt A m _ hO.inn htab ha (la.mono zo zo));have HVB:=zh (fun w' (h:m.inn w')=>lu ui uf ut B m w' h htab hb (lb.mono zo zo));have HN:=zh (fun w' (h:m.inn w')=>y9 vi vf A.i A.f ui uf B.i B.f m w' h ha.nums hb.nums (yE la.i zo) (yE la.f zo) (yE lb.i zo) (yE lb.f zo));obtain⟨cl,hcl⟩:∃cl,∀c,gX (Sem A.t) (Sem B.t) c→c=cl:=⟨Classical.epsilon (gX (Sem A.t) (Sem B.t)),fun c h=>Bn h (Classical.epsilon_spec ⟨c,h⟩)⟩;have HL:=zh (fun w' (h:m.inn w')=>ze vt ut A.t B.t m w' h ha.t hb.t htt);have HU:=zh hcl;have HC:=zh (fun h1 h2=>Rm (A:=A) (B:=B) h1 h2 cl);obtain⟨a1,b1,a2,b2,a3,b3,rfl,rfl,rfl⟩:=ha.spell;obtain⟨c1,d1,c2,d2,c3,d3,rfl,rfl,rfl⟩:=hb.spell;unfold RS.val;have HO:=zh hO;clear hO ha hb htab hta htb htt ht hcl;refine aj fun R hR=>?_
 go_enter Tryz.func54,Tryz.ntmps54
 go_wp2_with fail
 refine HVA.out.mono ?_;rintro e w1 ⟨rfl,hb1⟩;have hO:=HO.out.move hb1;clear HVA HO hb1;by_cases hva:A.gK
 case neg=>
  rw[aK hva];have HB:=zh hO.below;have HC:=zh (show CmpS A B 0 from .inr ⟨fun h=>hva h.1,rfl⟩);clear hO hva HVB HN HL HU;go_wp2;exact hR.out _ _ ⟨0,rfl,HB.out,HC.out⟩
 rw[aN hva];have HA:=zh hva;clear hva;obtain⟨q0,q1,q2,q3,q4,q5⟩:=hO.obj.cs6;have q6:=hO.obj.lt;have HO:=zh hO;clear hO
 go_wp2_with fail
 refine (HVB.out _ HO.out.inn).mono ?_;rintro e w2 ⟨rfl,hb2⟩;have hO:=HO.out.move hb2;clear HVB HO hb2 q0 q1 q2 q3 q4 q5 q6;by_cases hvb:B.gK
 case neg=>
  rw[aK hvb];have HB:=zh hO.below;have HC:=zh (show CmpS A B 0 from .inr ⟨fun h=>hvb h.2,rfl⟩);clear hO hvb HN HL HU;go_wp2;exact hR.out _ _ ⟨0,rfl,HB.out,HC.out⟩
 rw[aN hvb];have HC:=zh (HC.out HA.out hvb);clear hvb HA;have hn0:cmpN (mkN A.i A.f) (mkN B.i B.f)=cmpN A.ns B.ns:=rfl;rw[hn0] at HN;clear hn0;generalize CmpS A B=CS at *
 generalize cmpN A.ns B.ns=cn at *
 generalize gX (Sem A.t) (Sem B.t)=CI at *
 have HF:=zh (fun a b w=>DN a b w);generalize hf0:firB A.nul B.nul=f0 at *
 generalize hf1:firB A.fal B.fal=f1 at *
 generalize hf2:firB A.tru B.tru=f2 at *
 have HF0:=zh (zi hf0 (zi hf1 hf2));clear hf0 hf1 hf2;have HO:=zh hO;clear hO
 go_upto_region 3 with (fail)
 refine aI [40,41,42] (fun vs w'=>∃b,vs=[.slice (some ⟨b,0,none⟩) 5 5,.int .i64 5,.int .i64 0]∧bE w' b 3 #[.int .i64 f0,.int .i64 f1,.int .i64 f2,.int .i64 cn,.int .i64 cl]∧CI cl∧Below w.heap.size w w') ?_ ?_
 ·intro Y hY;refine aU 28 6 (fun j=>[Fact.is (·=.pointer (some ⟨w.heap.size,0,none⟩)),Fact.is (·=.bool A.nul),Fact.is (·=.pointer (some ⟨w.heap.size+1,0,none⟩)),Fact.is (·=.bool B.nul),Fact.is (·=.int .i64 f0),Fact.is (·=.pointer (some ⟨w.heap.size,1,none⟩)),Fact.is (·=.bool A.fal),Fact.is (·=.pointer (some ⟨w.heap.size+1,1,none⟩)),Fact.is (·=.bool B.fal),Fact.is (·=.int .i64 f1),Fact.is (·=.pointer (some ⟨w.heap.size,2,none⟩)),Fact.is (·=.bool A.tru),Fact.is (·=.pointer (some ⟨w.heap.size+1,2,none⟩)),Fact.is (·=.bool B.tru),Fact.is (·=.int .i64 f2),Fact.is (·=.pointer (some ⟨w.heap.size,3,none⟩)),Fact.is (·=.agg #[.slice a1 A.i.length b1,.slice a2 A.f.length b2]),Fact.is (·=.pointer (some ⟨w.heap.size+1,3,none⟩)),Fact.is (·=.agg #[.slice c1 B.i.length d1,.slice c2 B.f.length d2]),Fact.is (·=.int .i64 cn),Fact.is (·=.pointer (some ⟨w.heap.size,5,none⟩)),Fact.is (·=.agg #[.slice a3 A.t.length b3]),Fact.is (·=.pointer (some ⟨w.heap.size+1,5,none⟩)),Fact.is (·=.agg #[.slice c3 B.t.length d3]),Fact.is (fun v=>v=.int .i64 cl∧CI cl),Fact.sl 25 3 #[.int .i64 f0,.int .i64 f1,.int .i64 f2,.int .i64 cn,.int .i64 cl] 5,Fact.is (·=.int .i64 5),Fact.is (·=.int .i64 0)].getD j Fact.any) zk zk ?_ ?_
  ·intro i hi o win a wr ho RA;have HO2:=HO.out.dr.move RA.below;obtain⟨p0,p1,p2,p3,p4,p5⟩:=HO2.swap.obj.cs6;obtain⟨s0,s1,s2,s3,s4,s5⟩:=HO2.obj.cs6;have p6:=HO2.swap.obj.lt;have s6:=HO2.obj.lt;rcases (show i=0∨i=1∨i=2∨i=3∨i=4∨i=5∨i=6∨i=7∨i=8∨i=9∨i=10∨i=11∨i=12∨i=13∨i=14∨i=15∨i=16∨i=17∨i=18∨i=19∨i=20∨i=21∨i=22∨i=23∨i=24∨i=25∨i=26∨i=27 by omega) with rfl | rfl | rfl | rfl | rfl | rfl | rfl | rfl | rfl | rfl | rfl | rfl | rfl | rfl | rfl | rfl | rfl | rfl | rfl | rfl | rfl | rfl | rfl | rfl | rfl | rfl | rfl | rfl
   ·have e2:=RA.k 2;cases ho;exact wv rfl rfl rfl
   ·have e15:a.tmps.getD 15 undef=_:=RA.d 0 rfl;cases ho;exact wv rfl rfl rfl
   ·have e3:=RA.k 3;cases ho;exact wv rfl rfl rfl
   ·have e17:a.tmps.getD 17 undef=_:=RA.d 2 rfl;cases ho;exact wv rfl rfl rfl
   ·have e16:a.tmps.getD 16 undef=_:=RA.d 1 rfl;have e18:a.tmps.getD 18 undef=_:=RA.d 3 rfl;cases ho;refine we rfl rfl (HF.out _ _ wr) ?_;rintro e w' ⟨rfl,rfl⟩;exact⟨_,rfl,_,rfl,zP _ _,congrArg (Value.int .i64) HF0.out.1⟩
   ·have e2:=RA.k 2;cases ho;exact wv rfl rfl rfl
   ·have e20:a.tmps.getD 20 undef=_:=RA.d 5 rfl;cases ho;exact wv rfl rfl rfl
   ·have e3:=RA.k 3;cases ho;exact wv rfl rfl rfl
   ·have e22:a.tmps.getD 22 undef=_:=RA.d 7 rfl;cases ho;exact wv rfl rfl rfl
   ·have e21:a.tmps.getD 21 undef=_:=RA.d 6 rfl;have e23:a.tmps.getD 23 undef=_:=RA.d 8 rfl;cases ho;refine we rfl rfl (HF.out _ _ wr) ?_;rintro e w' ⟨rfl,rfl⟩;exact⟨_,rfl,_,rfl,zP _ _,congrArg (Value.int .i64) HF0.out.2.1⟩
   ·have e2:=RA.k 2;cases ho;exact wv rfl rfl rfl
   ·have e25:a.tmps.getD 25 undef=_:=RA.d 10 rfl;cases ho;exact wv rfl rfl rfl
   ·have e3:=RA.k 3;cases ho;exact wv rfl rfl rfl
   ·have e27:a.tmps.getD 27 undef=_:=RA.d 12 rfl;cases ho;exact wv rfl rfl rfl
   ·have e26:a.tmps.getD 26 undef=_:=RA.d 11 rfl;have e28:a.tmps.getD 28 undef=_:=RA.d 13 rfl;cases ho;refine we rfl rfl (HF.out _ _ wr) ?_;rintro e w' ⟨rfl,rfl⟩;exact⟨_,rfl,_,rfl,zP _ _,congrArg (Value.int .i64) HF0.out.2.2⟩
   ·have e2:=RA.k 2;cases ho;exact wv rfl rfl rfl
   ·have e30:a.tmps.getD 30 undef=_:=RA.d 15 rfl;cases ho;exact wv rfl rfl rfl
   ·have e3:=RA.k 3;cases ho;exact wv rfl rfl rfl
   ·have e32:a.tmps.getD 32 undef=_:=RA.d 17 rfl;cases ho;exact wv rfl rfl rfl
   ·have e31:a.tmps.getD 31 undef=_:=RA.d 16 rfl;have e33:a.tmps.getD 33 undef=_:=RA.d 18 rfl;cases ho;refine we rfl rfl (HN.out wr HO2.inn) ?_;rintro e w' ⟨rfl,hb⟩;exact⟨_,rfl,_,rfl,hb,rfl⟩
   ·have e2:=RA.k 2;cases ho;exact wv rfl rfl rfl
   ·have e35:a.tmps.getD 35 undef=_:=RA.d 20 rfl;cases ho;exact wv rfl rfl rfl
   ·have e3:=RA.k 3;cases ho;exact wv rfl rfl rfl
   ·have e37:a.tmps.getD 37 undef=_:=RA.d 22 rfl;cases ho;exact wv rfl rfl rfl
   ·have e36:a.tmps.getD 36 undef=_:=RA.d 21 rfl;have e38:a.tmps.getD 38 undef=_:=RA.d 23 rfl;cases ho;refine we rfl rfl (HL.out wr HO2.inn) ?_;rintro e w' ⟨c,rfl,hb,hc⟩;have hcc:=HU.out c hc;subst hcc;exact⟨_,rfl,_,rfl,hb,rfl,hc⟩
   ·have e19:a.tmps.getD 19 undef=_:=RA.d 4 rfl;have e24:a.tmps.getD 24 undef=_:=RA.d 9 rfl;have e29:a.tmps.getD 29 undef=_:=RA.d 14 rfl;have e34:a.tmps.getD 34 undef=_:=RA.d 19 rfl;have e39:(Fact.is (fun v=>v=.int .i64 cl∧CI cl)).holds (a.tmps.getD 39 undef) win wr:=RA.d 24 rfl;have f34:=(zT (xs:=a.tmps) (i:=34) (d:=undef)).symm.trans e34;have f19:=(zT (xs:=a.tmps) (i:=19) (d:=undef)).symm.trans e19;have f24:=(zT (xs:=a.tmps) (i:=24) (d:=undef)).symm.trans e24;have f29:=(zT (xs:=a.tmps) (i:=29) (d:=undef)).symm.trans e29;cases ho;obtain⟨e39,-⟩:_∧_:=e39;have f39:=(zT (xs:=a.tmps) (i:=39) (d:=undef)).symm.trans e39;exact aF rfl rfl (aP zg ⟨_,rfl,aR (zP _ _) _,O4 win⟩)
   ·have e40:(Fact.sl 25 3 #[.int .i64 f0,.int .i64 f1,.int .i64 f2,.int .i64 cn,.int .i64 cl] 5).holds (a.tmps.getD 40 undef) win wr:=RA.d 25 rfl;cases ho;obtain⟨k1,n1,o1⟩:_∧_∧_:=e40;exact wv rfl rfl rfl
   ·cases ho;exact wv rfl rfl rfl
  ·intro win a wr E;have e39:(Fact.is (fun v=>v=.int .i64 cl∧CI cl)).holds (a.tmps.getD 39 undef) win wr:=E.fact 24 _ zo rfl;have e40:(Fact.sl 25 3 #[.int .i64 f0,.int .i64 f1,.int .i64 f2,.int .i64 cn,.int .i64 cl] 5).holds (a.tmps.getD 40 undef) win wr:=E.fact 25 _ zo rfl;have e41:a.tmps.getD 41 undef=.int .i64 5:=E.fact 26 _ zo rfl;have e42:a.tmps.getD 42 undef=.int .i64 0:=E.fact 27 _ zo rfl;obtain⟨k1,n1,o1⟩:_∧_∧_:=e40;obtain⟨-,k2⟩:_∧_:=e39;obtain⟨t1,d⟩:=a;obtain rfl:d=[]:=E.defers;refine bS zk (hY.out _ _ E.size ⟨_,?_,o1,k2,(HO.out.dr.move E.below).below⟩) _;simp only[yG,List.map_nil,k1,e41,e42]
 rintro z0 vs w3 - ⟨b,rfl,ho,hci,hbl⟩;simp[litL,lk];have HOB:=zh ho;have HC:=zh (HC.out hci);have HBL:=zh hbl;clear ho hbl hci HO HN HL HU HF HF0;go_wp2;refine au [40,41,42] (fun n vs wr=>∃k:Nat,k≤5∧n=5 - k∧vs=[.slice (some ⟨b,0,none⟩) 5 5,.int .i64 5,.int .i64 k]∧wr=w3∧(1≤k→f0=0)∧(2≤k→f1=0)∧(3≤k→f2=0)∧(4≤k→cn=0)∧(5≤k→cl=0)) ?_ ?_
 ·exact⟨_,0,zo,rfl,rfl,rfl,fun h=>zo,fun h=>zo,fun h=>zo,fun h=>zo,fun h=>zo⟩
 rintro X z n vs wr hX - ⟨k,hk,rfl,rfl,rfl,h1,h2,h3,h4,h5⟩;have H:=zh (zi h1 (zi h2 (zi h3 (zi h4 h5))));clear h1 h2 h3 h4 h5;simp[litL,lk];have ho:=HOB.out;obtain⟨r0,r1,r2,r3,r4⟩:=ho.cs5;have rl:=ho.lt;clear ho;rcases (show k=0∨k=1∨k=2∨k=3∨k=4∨k=5 by omega) with rfl | rfl | rfl | rfl | rfl | rfl
 ·by_cases h:f0=0
  ·have hne:(f0 != 0)=false:=by simp[h]
   have Hh:=zh h;clear h;go_wp2;exact hX.out _ _ _ zo rfl ⟨1,zo,rfl,rfl,rfl,fun _=>Hh.out,fun h=>zo,fun h=>zo,fun h=>zo,fun h=>zo⟩
  ·have hne:(f0 != 0)=true:=by simpa using h
   have Hh:=zh (HC.out.1 h);clear h;go_wp2;exact hR.out _ _ ⟨_,rfl,HBL.out,Hh.out⟩
 ·by_cases h:f1=0
  ·have hne:(f1 != 0)=false:=by simp[h]
   have Hh:=zh h;clear h;go_wp2;exact hX.out _ _ _ zo rfl ⟨2,zo,rfl,rfl,rfl,fun _=>H.out.1 zo,fun h=>Hh.out,fun h=>zo,fun h=>zo,fun h=>zo⟩
  ·have hne:(f1 != 0)=true:=by simpa using h
   have Hh:=zh (HC.out.2.1 (H.out.1 zo) h);clear h;go_wp2;exact hR.out _ _ ⟨_,rfl,HBL.out,Hh.out⟩
 ·by_cases h:f2=0
  ·have hne:(f2 != 0)=false:=by simp[h]
   have Hh:=zh h;clear h;go_wp2;exact hX.out _ _ _ zo rfl ⟨3,zo,rfl,rfl,rfl,fun _=>H.out.1 zo,fun h=>H.out.2.1 zo,fun h=>Hh.out,fun h=>zo,fun h=>zo⟩
  ·have hne:(f2 != 0)=true:=by simpa using h
   have Hh:=zh (HC.out.2.2.1 (H.out.1 zo) (H.out.2.1 zo) h);clear h;go_wp2;exact hR.out _ _ ⟨_,rfl,HBL.out,Hh.out⟩
 ·by_cases h:cn=0
  ·have hne:(cn != 0)=false:=by simp[h]
   have Hh:=zh h;clear h;go_wp2;exact hX.out _ _ _ zo rfl ⟨4,zo,rfl,rfl,rfl,fun _=>H.out.1 zo,fun h=>H.out.2.1 zo,fun h=>H.out.2.2.1 zo,fun h=>Hh.out,fun h=>zo⟩
  ·have hne:(cn != 0)=true:=by simpa using h
   have Hh:=zh (HC.out.2.2.2.1 (H.out.1 zo) (H.out.2.1 zo) (H.out.2.2.1 zo) h);clear h;go_wp2;exact hR.out _ _ ⟨_,rfl,HBL.out,Hh.out⟩
 ·by_cases h:cl=0
  ·have hne:(cl != 0)=false:=by simp[h]
   have Hh:=zh h;clear h;go_wp2;exact hX.out _ _ _ zo rfl ⟨5,zo,rfl,rfl,rfl,fun _=>H.out.1 zo,fun h=>H.out.2.1 zo,fun h=>H.out.2.2.1 zo,fun h=>H.out.2.2.2.1 zo,fun h=>Hh.out⟩
  ·have hne:(cl != 0)=true:=by simpa using h
   have Hh:=zh (HC.out.2.2.2.2 (H.out.1 zo) (H.out.2.1 zo) (H.out.2.2.1 zo) (H.out.2.2.2.1 zo));clear h;go_wp2;exact hR.out _ _ ⟨_,rfl,HBL.out,Hh.out⟩
 ·have Hh:=zh (show CS 0 by
   have:=HC.out.2.2.2.2 (H.out.1 zo) (H.out.2.1 zo) (H.out.2.2.1 zo) (H.out.2.2.2.1 zo);rw[H.out.2.2.2.2 zo] at this;exact this)
  go_wp2;exact hR.out _ _ ⟨_,rfl,HBL.out,Hh.out⟩
end Cl
