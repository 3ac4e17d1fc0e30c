/- Lemmas for the proofs of chapter 11. -/
import Derived.Test.YtjhipmdamaocmaaGreatDoorPkN22
set_option maxRecDepth 100000
set_option maxHeartbeats 16000000
namespace Cl
open Go Go.RowKit Go.Proofs
theorem y9 (vi vf:Value) (I F:List Spn) (ui uf:Value) (J G:List Spn) (m:Mem) (w:World) (hm:m.inn w) (h1:bu m vi vf I F) (h2:bu m ui uf J G) (hI:I.length≤10000) (hF:F.length≤10000) (hJ:J.length≤10000) (hG:G.length≤10000) :
 Calls Tryz.prog 101 #[.agg #[vi,vf],.agg #[ui,uf]] w fun e w'=>e=.returned (.int .i64 (cmpN (mkN I F) (mkN J G)))∧Below w.heap.size w w':=by
 have hO:=((Own.start hm).al #[vi,vf] 24).al #[ui,uf] 24;simp only[bZ] at hO;have HA:=zh (fun u (h : -9223372036854775808≤u∧u≤9223372036854775807) w' (hw:m.inn w')=>Aw vi vf I F u m w' hw h1 h.1 h.2);obtain⟨a1,c1,b1,d1,rfl,rfl⟩:=h1.spell;obtain⟨a2,c2,b2,d2,rfl,rfl⟩:=h2.spell;have hxo:=gG I F;have hyo:=gG J G;have hpo:=dX hxo hyo;have hqo:=dX hyo hxo;have hl1:=nW (eu hI hF) (eu hJ hG);have hl2:=nW (eu hJ hG) (eu hI hF);have hl3:=ME hl1 hl2;have l1:=hl1.i;have l2:=hl1.f;have l3:=hl2.i;have l4:=hl2.f;have l5:=hl3.i;have l6:=hl3.f;rw[← NS.jR] at l2 l4 l6;have hraw:=show orN (mkN (bY (mkN I F) (mkN J G)).i (bY (mkN I F) (mkN J G)).rf) (mkN (bY (mkN J G) (mkN I F)).i (bY (mkN J G) (mkN I F)).rf)=orN (bY (mkN I F) (mkN J G)) (bY (mkN J G) (mkN I F)) by rw[gF hpo,gF hqo]
 have hraw2:=gF (uJ hpo hqo);have hin:=Ci (uJ hpo hqo);have hcr:=Rl hxo hyo;have HN:=zh (zi h1 h2);have HO:=zh hO;clear hO h1 h2 hxo hyo hpo hqo hl1 hl2 hl3;generalize hp:bY (mkN I F) (mkN J G)=p at *
 generalize hq:bY (mkN J G) (mkN I F)=q at *
 generalize orN p q=ox at *
 have H1:=zh (zi hraw (zi hraw2 (zi hp hq)));have HC:=zh (zi hcr hin);clear hraw hraw2 hcr hin hp hq;refine aj fun R hR=>?_
 go_enter Tryz.func101,Tryz.ntmps101
 go_upto_region 1 with (fail)
 refine aI [2,5,6] (fun vs w'=>vs=[.pointer (some ⟨w.heap.size,0,none⟩),.int .i64 ((bR ox).getD 0),.bool (bR ox).isSome]∧Own w m w' m [.obj (w.heap.size+1) 24 #[.slice a2 J.length c2,.slice b2 G.length d2],.obj w.heap.size 24 #[.slice a1 I.length c1,.slice b1 F.length d1]]) ?_ ?_
 ·intro Y hY;refine aU 13 6 (fun j=>[Fact.is (·=.agg #[.slice a1 I.length c1,.slice b1 F.length d1]),Fact.is (·=.agg #[.slice a2 J.length c2,.slice b2 G.length d2]),Fact.mem m [2] (NumV p.i p.rf),Fact.is (·=.agg #[.slice a2 J.length c2,.slice b2 G.length d2]),Fact.is (·=.agg #[.slice a1 I.length c1,.slice b1 F.length d1]),Fact.mem m [5] (NumV q.i q.rf),Fact.mem m [6,2,5] (NumV ox.i ox.rf),Fact.is (·=.tuple #[.int .i64 ((bR ox).getD 0),.bool (bR ox).isSome]),Fact.is (·=.tuple #[.int .i64 ((bR ox).getD 0),.bool (bR ox).isSome]),Fact.is (·=.int .i64 ((bR ox).getD 0)),Fact.is (·=.bool (bR ox).isSome),Fact.is (·=.int .i64 ((bR ox).getD 0)),Fact.is (·=.bool (bR ox).isSome)].getD j Fact.any) zk zk ?_ ?_
  ·intro i hi o win a wr ho RA;have HO2:=HO.out.dr.move RA.below;have p1:=HO2.swap.obj.c 0;have p2:=HO2.swap.obj.c 1;have p3:=HO2.obj.c 0;have p4:=HO2.obj.c 1;rcases (show i=0∨i=1∨i=2∨i=3∨i=4∨i=5∨i=6∨i=7∨i=8∨i=9∨i=10∨i=11∨i=12 by omega) with rfl | rfl | rfl | rfl | rfl | rfl | rfl | rfl | rfl | rfl | rfl | rfl | rfl
   ·have e2:=RA.k 2;cases ho;exact wv rfl rfl rfl
   ·have e3:=RA.k 3;cases ho;exact wv rfl rfl rfl
   ·have e8:a.tmps.getD 8 undef=_:=RA.d 0 rfl;have e9:a.tmps.getD 9 undef=_:=RA.d 1 rfl;cases ho;refine we rfl rfl (lw _ _ I F _ _ J G m wr HO2.inn HN.out.1 HN.out.2 zo zo zo zo) ?_;rintro e w' ⟨ri,rf,rfl,hb,hn⟩;rw[H1.out.2.2.1] at hn;exact⟨_,rfl,_,rfl,hb,fQ NumV.le HO2.inn hb (gB hn)⟩
   ·have e3:=RA.k 3;cases ho;exact wv rfl rfl rfl
   ·have e2:=RA.k 2;cases ho;exact wv rfl rfl rfl
   ·have e11:a.tmps.getD 11 undef=_:=RA.d 3 rfl;have e12:a.tmps.getD 12 undef=_:=RA.d 4 rfl;cases ho;refine we rfl rfl (lw _ _ J G _ _ I F m wr HO2.inn HN.out.2 HN.out.1 zo zo zo zo) ?_;rintro e w' ⟨ri,rf,rfl,hb,hn⟩;rw[H1.out.2.2.2] at hn;exact⟨_,rfl,_,rfl,hb,fQ NumV.le HO2.inn hb (gB hn)⟩
   ·have e10:(Fact.mem m [2] (NumV p.i p.rf)).holds (a.tmps.getD 10 undef) win wr:=RA.d 2 rfl;have e13:(Fact.mem m [5] (NumV q.i q.rf)).holds (a.tmps.getD 13 undef) win wr:=RA.d 5 rfl;cases ho;obtain⟨r1,s1,r2,s2,k1,t1⟩:NumV _ _ _ _:=e10;obtain⟨r3,s3,r4,s4,k2,t2⟩:NumV _ _ _ _:=e13;refine we rfl rfl (DX _ _ p.i p.rf _ _ q.i q.rf (m.wins wr win [2,5]) wr (Mem.eB HO2.inn win [2,5]) (t1.le (Mem.fE (es:=[2,5]) HO2.inn win zS)) (t2.le (Mem.fE (es:=[2,5]) HO2.inn win zS)) zo zo zo zo) ?_;rintro e w' ⟨ri,rf,rfl,hb,hn⟩;rw[H1.out.1] at hn;exact⟨_,rfl,_,rfl,hb,fZ (ds:=[2,5]) NumV.le HO2.inn zS (fun d hd=>(RA.rng d (by simp at hd;rcases hd with rfl | rfl <;> kernel_rfl)).2.2) hb (gB hn)⟩
   ·have e14:(Fact.mem m [6,2,5] (NumV ox.i ox.rf)).holds (a.tmps.getD 14 undef) win wr:=RA.d 6 rfl;cases ho;obtain⟨r1,s1,r2,s2,k1,t1⟩:NumV _ _ _ _:=e14;refine we rfl rfl (uF _ _ ox.i ox.rf (m.wins wr win [6,2,5]) wr (Mem.eB HO2.inn win [6,2,5]) t1 zo zo) ?_;rintro e w' ⟨rfl,hb⟩;rw[H1.out.2.1];exact⟨_,rfl,_,rfl,hb,rfl⟩
   ·have e15:a.tmps.getD 15 undef=_:=RA.d 7 rfl;cases ho;exact wv rfl rfl rfl
   ·have e7:a.tmps.getD 7 undef=_:=RA.d 8 rfl;cases ho;exact wv rfl rfl rfl
   ·have e7:a.tmps.getD 7 undef=_:=RA.d 8 rfl;cases ho;exact wv rfl rfl rfl
   ·have e16:a.tmps.getD 16 undef=_:=RA.d 9 rfl;cases ho;exact wv rfl rfl rfl
   ·have e17:a.tmps.getD 17 undef=_:=RA.d 10 rfl;cases ho;exact wv rfl rfl rfl
  ·intro win a wr E;have e2:=E.keep 2 zk;have e5:a.tmps.getD 5 undef=.int .i64 ((bR ox).getD 0):=E.fact 11 _ zo rfl;have e6:a.tmps.getD 6 undef=.bool (bR ox).isSome:=E.fact 12 _ zo rfl;obtain⟨t1,d⟩:=a;obtain rfl:d=[]:=E.defers;refine bS zk (hY.out _ _ E.size ⟨?_,HO.out.dr.move E.below⟩) _;simp only[yG,List.map_nil,e2,e5,e6]
   rfl
 rintro z vs w1 - ⟨rfl,hO⟩;simp[litL,lk];have hcr:=HC.out.1;have hin:=HC.out.2;generalize bR ox=r at *
 cases r with
 | none=>
  have hF:=zh (zi (hcr.1 rfl) hO.below);clear hO HO hcr hin;go_wp2
  exact hR.out _ _ ⟨by rw[hF.out.1],hF.out.2⟩
 | some u=>
  have hu:=hin u rfl;have hk:=HA.out u zo w1 hO.inn;have hcr2:=hcr.2 u rfl;have HK:=zh hk;have HO1:=zh hO;have q1:=hO.swap.obj.c 0;have q2:=hO.swap.obj.c 1;have q3:=hO.swap.obj.lt;clear hO hk hcr hin HA hu
  go_wp2_with fail
  refine HK.out.mono ?_;rintro e w2 ⟨rfl,hb2⟩;have hF:=zh (HO1.out.move hb2).below;by_cases hh:(mkN I F).has u
  ·rw[aN hh];have HV:=zh (hcr2.1 hh);clear hb2 HO1 HK hcr2 hh;go_wp2;exact hR.out _ _ ⟨by rw[HV.out];rfl,hF.out⟩
  ·rw[aK hh];have HV:=zh (hcr2.2 hh);clear hb2 HO1 HK hcr2 hh;go_wp2;exact hR.out _ _ ⟨by rw[HV.out];rfl,hF.out⟩
end Cl
