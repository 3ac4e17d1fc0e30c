/- The law's walk. -/
import Derived.Test.YtbbnjopkjbhpbaaGreatDoorPkP32
set_option maxRecDepth 100000
set_option maxHeartbeats 16000000
namespace Cl
theorem hzQ(n:Nat)(v:Vl):dz (n+1) fE v↔v.any=true:=by
 rw[dz,zK (.inl rfl)]
end Cl
namespace Cl
theorem bD.izl{d:Vd}(h:bD d):bD (d.2,dB):=mX h.s2 (A9 h.can).2.1
theorem hzJ:bD (dB,dB):=FK (dzT 15) (dzU 15)
theorem hzU(d:Vd):Cj d (fE,fE):=⟨Ow 15 _,Ow 15 _⟩
theorem hzV(d:Vd):Cj (dB,dB) d:=⟨bz9 15 _,bz9 15 _⟩
theorem hzK(d:Vd):Cj (fE,fE) d↔(d.1.any&&d.2.any)=true:=by
 unfold Cj qi;rw[hzQ,hzQ,xG]
theorem hzL{d:Vd}(h:bD d):dz 16 d.1 dB↔ja d.1=true:=fzu h.s1.1.sc
theorem hzP{d:Vd}(h:bD d):dz 16 d.2 d.1:=(A9 h.can).2.2
end Cl
namespace Cl
open Go Go.RowKit Go.Proofs Tryz
theorem hzM(w:zW):
 zX 13 #[] w (bP (dB,dB) dR dR):=by
 have d:=(Own.start qfF).al oz 35;have b:=zh d;clear d;refine au fun R g=>?_
 go_enter func13,ntmps13
 go_wp2_with (refine aB dU rfl (.tmp 0) (.tmp 1) rfl (cs:=oz) rfl rfl rfl rfl zD b.o.obj ?_)
 intro w' a c;have h:=zh (b.o.aW a c);have f:=dU.load (cs:=oz.toList) rfl a.all;clear b c a;go_wp2;exact yV (v:=.agg oz) (kC results13 rfl f) rfl (g.o _ _ ⟨rfl,h.o.az⟩)
theorem hz8(b:Bool):tf (b=true)=b:=by cases b<;>simp[tf]
theorem fQ.few{d:Vd}(h:fQ d):jS d.1.s 30000 100000/\d.1.aN.length<=1000000/\d.1.aA.length<=1000000:=by
 have k:=h.1.src.1;exact⟨⟨by have:=k.i;omega,by have:=k.fr;omega,by have:=k.t;omega⟩,by have:=k.l;omega,by have:=k.s;omega⟩
theorem hzE(d:Vd)(x y:Sl)(m:Mem)(n:Nat)(w:zW)(hm:m.ay w)(P:dV m)(h:Kq n d x y m):
 zX 4 #[bP d x y] w (.bool true):=by
 obtain⟨c,l1,c1,hO⟩:=jv 35 (dC d x y).toArray (Own.start hm);have B:=zh (P.le l1);have l:=zh (h.le l1);have HE:=zh (fun w' (h:c.ay w')=>Q9 c w' h B.o);have HS:=zh (fun w' (h:c.ay w')=>wX d x y c w' h l.o.h1 l.o.h2);have H':=zh (fun(s:fQ d) w' (h:c.ay w')=>nC d x y c w' h B.o (l.o.low s).h1 (l.o.low s).h2 s.jH);have HC:=zh (fun(w':zW) (h:c.ay w') j u (hj:(dC d x y)[j]?=some u)=>Mem_cell_w h (c1 j u qdU));have HD:=zh qiv;have C0:c.cell w.heap.size 0=some (.bool d.1.any):=c1 0 _ rfl;have L':=zh (fun w'=>Td w');have K':=zh (fun w'=>hzM w');have I':=zh (fun w' (h:c.ay w')=>kI XB (nC (N:=1) (fE,fE) dR dR c w' h B.o (bq.leaf _ _) (bq.leaf _ _) ⟨Og,Og⟩));have J':=zh (fun w' (h:c.ay w')=>kI hzJ (nC (N:=1) (dB,dB) dR dR c w' h B.o (bq.leaf _ _) (bq.leaf _ _) ⟨.lF 0,.lF 0⟩));have P':=zh (fun(s:fQ d) (v:bD d) w' (h:c.ay w')=>kI ⟨v,XB,hzU d⟩ (j4 (N':=1) d (fE,fE) x y dR dR c w' h B.o (l.o.low s).h1 (l.o.low s).h2 s.jH (bq.leaf _ _) (bq.leaf _ _) ⟨Og,Og⟩));have O':=zh (fun(s:fQ d) (v:bD d) w' (h:c.ay w')=>kI ⟨hzJ,v,hzV d⟩ (j4 (N:=1) (dB,dB) d dR dR x y c w' h B.o (bq.leaf _ _) (bq.leaf _ _) ⟨.lF 0,.lF 0⟩ (l.o.low s).h1 (l.o.low s).h2 s.jH));have s':=zh (fun(s:fQ d) (v:bD d) w' (h:c.ay w')=>Zp (q:=(d.1.any&&d.2.any)=true) ⟨fun k=>(hzK d).1 k.2.2,fun k=>⟨XB,v,(hzK d).2 k⟩⟩ (j4 (N:=1) (fE,fE) d dR dR x y c w' h B.o (bq.leaf _ _) (bq.leaf _ _) ⟨Og,Og⟩ (l.o.low s).h1 (l.o.low s).h2 s.jH));have Q':=zh (fun w'=>Da d x y w');have t':=zh (fun(s:fQ d) (v:bD d) w' (h:c.ay w')=>Zp (q:=bzk d.1=true) ⟨fun k=>(hzL v).1 k.2.2,fun k=>⟨v.gzp,hzJ,(hzL v).2 k⟩⟩ (lI (N':=1) d.1 dB x dR c w' h B.o (l.o.low s).h1 s.jH.1 (bq.leaf _ _) (.lF 0)));have R':=zh (fun(s:fQ d) w' (h:c.ay w')=>Gl d.1 x c n w' h B.o l.o.h1 s.few.1 s.few.2.1 s.few.2.2);have U':=zh (fun(s:fQ d) (v:bD d) w' (h:c.ay w')=>kI ⟨v.izl,v.gzp,hzP v⟩ (lI d.2 d.1 y x c w' h B.o (l.o.low s).h2 s.jH.2 (l.o.low s).h1 s.jH.1));simp only[hz8]at s' t';have hl:(dC d x y).length=18:=rfl;have H:(dC (fE,fE) dR dR).length=18:=rfl;have S:(dC (dB,dB) dR dR).length=18:=rfl;have hN1:(bu d.1 x).length=9:=rfl;have C':(bu d.2 y).length=9:=rfl;have B':(bu dB dR).length=9:=rfl;have z':=fZ (d:=(fE,fE)) (bq.leaf c true) (bq.leaf c true);have A':=fZ (d:=(dB,dB)) (bq.leaf c false) (bq.leaf c false);have S':=zh (fun j u=>@lh (dB,dB) dR dR j u);have L:=zh hO;unfold bP Vl.val at*
 generalize dC d x y=D at*
 generalize dC (fE,fE) dR dR=W at*
 generalize dC (dB,dB) dR dR=X at*
 generalize bu d.1 x=N1 at*
 generalize bu d.2 y=N2 at*
 generalize bu dB dR=NB at*
 clear hO P h l1 c1 l B;refine au fun R hR=>?_
 go_enter func4,ntmps4
 have r:=fun j u (hj:D[j]?=some u)=>HC.o _ L.o.ay j u hj;have r':∀j u,D[j]?=some u->World.cell? _ ⟨w.heap.size,0+j,none⟩=some u:=fun j u hj=>by rw[yZ];exact r j u hj
 go_wp2_with (first
  |refine aj dU rfl (.tmp 1) rfl rfl D hl r' ?_
  | fail)
 refine(HS.o _ L.o.ay).mono ?_;rintro e w1 ⟨b,rfl,hb,hs⟩;have t:=zh (L.o.aS hb);clear L hb r r'
 cases b with
 |false=>
  clear hs
  go_wp2_with fail
  refine(HE.o _ t.o.ay).mono ?_;rintro e wz ⟨rfl,z⟩;have HB:=zh (t.o.aS z).az;clear t z;go_wp2
  exact qao
 |true=>
 have p:=zh (hs rfl);clear hs;have r':∀j u,D[j]?=some u->w1.cell? ⟨w.heap.size,0+j,none⟩=some u:=fun j u hj=>by rw[yZ];exact HC.o _ t.o.ay j u hj
 go_wp2_with (first
  |refine aj dU rfl (.tmp 1) rfl rfl D hl r' ?_
  | fail)
 refine(H'.o p.o _ t.o.ay).mono ?_;rintro e w2 ⟨rfl,hb⟩;have C:=zh (t.o.aS hb);clear t hb r';by_cases v:bD d
 case neg=>
  rw[aF v];clear v
  go_wp2_with fail
  refine(HE.o _ C.o.ay).mono ?_;rintro e wz ⟨rfl,z⟩;have HB:=zh (C.o.aS z).az;clear C z;exact qak
 rw[aM v];have A:=zh v;clear v
 go_wp2_with fail
 refine(L'.o _).mono ?_;rintro e w3 ⟨rfl,hb⟩;have q':=zh (C.o.aS hb);clear C hb
 go_wp2_with fail
 refine(K'.o _).mono ?_;rintro e M ⟨rfl,hb⟩;have I:=((q'.o.aS hb).al oz 35).al oz 35;simp only[bC]at I;have p':=zh I;have r4:=I.av.obj;clear q' hb I
 go_upto_region 4 with(first
  |(refine aB dU rfl (.tmp 3) (.tmp 14) rfl (cs:=W.toArray) rfl rfl rfl (by simpa using H) (fun u hu=>z' u qdQ) r4 ?_;intro w5 e' i';have T:=(p'.o.av.aW e' i').av;have o':=zh T;have r5:=T.obj;clear p' r4 e' i' T)
  | (refine aB dU rfl (.tmp 4) (.tmp 15) rfl (cs:=X.toArray) rfl rfl rfl (by simpa using S) (fun u hu=>A' u qdQ) r5 ?_;intro w6 d' h';have n':=zh (o'.o.aW d' h');clear o' r5 d' h'))
 obtain⟨M2,k',f',c2⟩:=n'.o.Dn;obtain⟨M3,j',G,c3⟩:=k'.Dn;have HLE:=zh (Mem.le_trans f' G);have V:=zh (fun(w':zW) (h:M3.ay w') j u (hj:X[j]?=some u)=>Mem_cell_w h (Mem_cell_le G (c2 j u qdU)));have U:=zh (fun(w':zW) (h:M3.ay w') j u (hj:W[j]?=some u)=>Mem_cell_w h (c3 j u qdU));have M':=zh (fun(w':zW) (h:M3.ay w')=>show M.heap.size+1<w'.heap.size from by
  have hx:∃u,X[0]?=some u:=⟨_,yH zo⟩;obtain⟨u,hu⟩:=hx;exact Mem_cell_lt h (Mem_cell_le G (c2 0 u qdQ)))
 have K:=zh j';clear n' k' j' f' G c2 c3;have qt:∀j u,W[j]?=some u->w6.cell? ⟨M.heap.size,0+j,none⟩=some u:=fun j u hj=>by rw[yZ];exact U.o _ K.o.ay j u hj
 go_wp2_with (first
  |refine aj dU rfl (.tmp 3) rfl rfl W H qt ?_
  | fail)
 refine(I'.o _ (Mem_inn_le HLE.o K.o.ay)).mono ?_;rintro e w8 ⟨rfl,hb⟩;have J:=zh (K.o.aS hb);clear K hb qt;have O:∀j u,X[j]?=some u->w8.cell? ⟨M.heap.size+1,0+j,none⟩=some u:=fun j u hj=>by rw[yZ];exact V.o _ J.o.ay j u hj
 go_wp2_with (first
  |refine aj dU rfl (.tmp 4) rfl rfl X S O ?_
  | fail)
 refine(J'.o _ (Mem_inn_le HLE.o J.o.ay)).mono ?_;rintro e w9 ⟨rfl,hb⟩;have g:=zh (J.o.aS hb);clear J hb O;have qv:∀j u,D[j]?=some u->w9.cell? ⟨w.heap.size,0+j,none⟩=some u:=fun j u hj=>by rw[yZ];exact HC.o _ (Mem_inn_le HLE.o g.o.ay) j u hj
 have qt:∀j u,W[j]?=some u->w9.cell? ⟨M.heap.size,0+j,none⟩=some u:=fun j u hj=>by rw[yZ];exact U.o _ g.o.ay j u hj
 go_wp2_with (first
  |refine aj dU rfl (.tmp 1) rfl rfl D hl qv ?_
  |refine aj dU rfl (.tmp 3) rfl rfl W H qt ?_
  | fail)
 refine(P'.o p.o A.o _ (Mem_inn_le HLE.o g.o.ay)).mono ?_;rintro e Z ⟨rfl,hb⟩;have f:=zh (g.o.aS hb);clear g hb qv qt;have O:∀j u,X[j]?=some u->Z.cell? ⟨M.heap.size+1,0+j,none⟩=some u:=fun j u hj=>by rw[yZ];exact V.o _ f.o.ay j u hj
 have qv:∀j u,D[j]?=some u->Z.cell? ⟨w.heap.size,0+j,none⟩=some u:=fun j u hj=>by rw[yZ];exact HC.o _ (Mem_inn_le HLE.o f.o.ay) j u hj
 go_wp2_with (first
  |refine aj dU rfl (.tmp 4) rfl rfl X S O ?_
  |refine aj dU rfl (.tmp 1) rfl rfl D hl qv ?_
  | fail)
 refine(O'.o p.o A.o _ (Mem_inn_le HLE.o f.o.ay)).mono ?_;rintro e w11 ⟨rfl,hb⟩;have F:=zh (f.o.aS hb);clear f hb O qv
 go_upto_region 6 with(fail)
 refine aV [2] (fun vs w'=>vs=[.bool true]/\Own w m w' M3 []) ?_ ?_
 .intro Y hY;generalize (d.1.any&&d.2.any)=O at*
  generalize bzk d.1=ib at*
  refine bF 27 6 (fun j=>[aI.is (·=.agg W.toArray),aI.is (·=.agg D.toArray),aI.is (·=.bool O),aI.is (·=.agg D.toArray),aI.is (·=.bool O),aI.is (·=.bool true),aI.is (·=.bool true),aI.is (·=.pointer (some ⟨w.heap.size,0,none⟩)),aI.is (·=.agg N1.toArray),aI.is (·=.pointer (some ⟨M.heap.size+1,0,none⟩)),aI.is (·=.agg NB.toArray),aI.is (·=.bool ib),aI.is (·=.pointer (some ⟨w.heap.size,0,none⟩)),aI.is (·=.agg N1.toArray),aI.is (·=.bool ib),aI.is (·=.bool true),aI.is (·=.bool true),aI.is (·=.bool true),aI.is (·=.pointer (some ⟨w.heap.size,9,none⟩)),aI.is (·=.agg N2.toArray),aI.is (·=.pointer (some ⟨w.heap.size,0,none⟩)),aI.is (·=.agg N1.toArray),aI.is (·=.bool true),aI.is (·=.bool true),aI.is (·=.bool true),aI.is (·=.bool true),aI.is (·=.bool true)].getD j aI.any) zk zk ?_ ?_
  .intro i hi o v' a Q ho RA;have HOX:=F.o.dr.aS RA.az;have y1:=Mem_cell_lt qiz C0;have y2:=M'.o _ HOX.ay;rcases(show i=0\/i=1\/i=2\/i=3\/i=4\/i=5\/i=6\/i=7\/i=8\/i=9\/i=10\/i=11\/i=12\/i=13\/i=14\/i=15\/i=16\/i=17\/i=18\/i=19\/i=20\/i=21\/i=22\/i=23\/i=24\/i=25\/i=26 by omega)with rfl|rfl|rfl|rfl|rfl|rfl|rfl|rfl|rfl|rfl|rfl|rfl|rfl|rfl|rfl|rfl|rfl|rfl|rfl|rfl|rfl|rfl|rfl|rfl|rfl|rfl|rfl
   .have e3:=RA.k 3;cases ho;refine aJ rfl rfl (aO (dU.exec (b:=M.heap.size) (off:=0) rfl zg H (fun j u hj=>by rw[yZ];exact U.o _ HOX.ay j u hj)) ⟨_,rfl,zR _ _,rfl⟩)
   .exact qg4
   .have e36:zt a 36 _:=RA.d 0 rfl;have e37:zt a 37 _:=RA.d 1 rfl;cases ho;refine we rfl rfl (s'.o p.o A.o Q qiz) ?_;exact qab
   .exact qg4
   .have e39:zt a 39 _:=RA.d 3 rfl;cases ho;refine we rfl rfl (Q'.o Q) ?_;exact qab
   .have e38:zt a 38 _:=RA.d 2 rfl;have e40:zt a 40 _:=RA.d 4 rfl;exact qaa
   .have e41:zt a 41 _:=RA.d 5 rfl;exact qaa
   .have e1:=RA.k 1;exact qaN
   .have e43:zt a 43 _:=RA.d 7 rfl;exact qgR
   .have e4:=RA.k 4;exact qaN
   .have e45:zt a 45 _:=RA.d 9 rfl;have e42:zt a 42 _:=RA.d 6 rfl;cases ho;refine fH rfl (eX rfl rfl e42) (aO (kK.exec (b:=M.heap.size+1) (off:=0) rfl zg B' (fun j u hj=>by rw[yZ];exact V.o _ HOX.ay j u (by simpa using S'.o j u hj))) ⟨_,rfl,zR _ _,rfl⟩)
   .have e44:zt a 44 _:=RA.d 8 rfl;have e46:zt a 46 _:=RA.d 10 rfl;have e42:zt a 42 _:=RA.d 6 rfl;cases ho;refine we2 rfl rfl rfl e42 (t'.o p.o A.o Q qiz) ?_;exact qab
   .have e1:=RA.k 1;exact qaN
   .have e48:zt a 48 _:=RA.d 12 rfl;exact qgR
   .have e49:zt a 49 _:=RA.d 13 rfl;have e42:zt a 42 _:=RA.d 6 rfl;cases ho;refine we2 rfl rfl rfl e42 (R'.o p.o Q qiz) ?_;exact qab
   .have e47:zt a 47 _:=RA.d 11 rfl;have e50:zt a 50 _:=RA.d 14 rfl;exact qaN
   .have e42:zt a 42 _:=RA.d 6 rfl;have e51:zt a 51 _:=RA.d 15 rfl;exact qaa
   .have e52:zt a 52 _:=RA.d 16 rfl;exact qaa
   .exact qb6
   .have e54:zt a 54 _:=RA.d 18 rfl;have e53:zt a 53 _:=RA.d 17 rfl;cases ho;refine fH rfl (eX rfl rfl e53) (aO (kK.exec (b:=w.heap.size) (off:=9) rfl zg C' (fun j u hj=>HC.o _ qiz (9+j) u (HD.o.2 j u hj))) ⟨_,rfl,zR _ _,rfl⟩)
   .exact qb6
   .have e56:zt a 56 _:=RA.d 20 rfl;have e53:zt a 53 _:=RA.d 17 rfl;cases ho;refine fH rfl (eX rfl rfl e53) (aO (kK.exec (b:=w.heap.size) (off:=0) rfl zg hN1 (fun j u hj=>by rw[yZ];exact HC.o _ qiz j u (by simpa using HD.o.1 j u hj))) ⟨_,rfl,zR _ _,rfl⟩)
   .have e55:zt a 55 _:=RA.d 19 rfl;have e57:zt a 57 _:=RA.d 21 rfl;have e53:zt a 53 _:=RA.d 17 rfl;cases ho;refine we2 rfl rfl rfl e53 (U'.o p.o A.o Q qiz) ?_;exact qab
   .have e53:zt a 53 _:=RA.d 17 rfl;have e58:zt a 58 _:=RA.d 22 rfl;exact qaa
   .have e59:zt a 59 _:=RA.d 23 rfl;exact qaa
   .have m':a.tmps.getD 60 undef=_:=RA.d 24 rfl;cases ho;refine we2 rfl rfl rfl m' (HE.o Q qiz) ?_;exact qab
   .have m':a.tmps.getD 60 undef=_:=RA.d 24 rfl;have e61:zt a 61 _:=RA.d 25 rfl;exact qaa
  .intro v' a Q E;have D':a.tmps.getD 62 undef=.bool true:=E.fact 26 _ zo rfl;have hZ:=F.o.dr.aS E.az;obtain⟨t1,dd⟩:=a;obtain rfl:dd=[]:=E.defers;refine dX 27 zk (aJ rfl rfl (aO qdV ?_));refine dx zk (hY.o _ _ qeR ⟨?_,hZ⟩) _;have g':t1.size=63:=E.size;simp[g']at D';simp[g']
 clear F;rintro z2 vs wE-⟨rfl,hO⟩;simp[bB,lk];have HB:=zh hO.az;clear hO;exact qak
end Cl
