/- The law's walk. -/
import Derived.Test.YtbbnjopkjbhpbaaGreatDoorPkP32
import Derived.Test.YtbbnjopkjbhpbaaGreatDoorPkP34
set_option maxRecDepth 100000
set_option maxHeartbeats 16000000
namespace Cl
theorem bD.gzu{d:Vd}(h:bD d):KF 16 d:=Ad (D9 16) h.s1 h.s2 h.can
end Cl
namespace Cl
theorem bzZ{n:Nat}{p q:Vd}(hp:KF n p)(hq:KF n q)(h1:qi (dz n) p q)(h2:qi (dz n) q p):p=q:=
 Prod.ext qjb qja
end Cl
namespace Cl
theorem Jj{a:Vd}(h:bD a):Cj a a:=⟨jm h.ht.1,jm h.ht.2⟩
theorem Yq{a b c:Vd}(f:bD a)(e:bD b)(d:bD c)(h:Cj a b)(k:Cj b c):Cj a c:=
 ⟨uE 16 _ _ _ f.s1 e.s1 d.s1 h.1 k.1,uE 16 _ _ _ f.s2 e.s2 d.s2 h.2 k.2⟩
theorem QI{a b:Vd}(c:bD a)(d:bD b):(Cj a b/\Cj b a)↔a=b:=by
 constructor
 .rintro⟨h,k⟩;exact bzZ c.gzu d.gzu h k
 .rintro rfl;exact⟨Jj c,Jj c⟩
end Cl
namespace Cl
open Go Go.RowKit Go.Proofs Tryz
theorem Rc{d b:Vd}{x y f c:Sl}{m:Mem}{n j:Nat}(a:dV m)(h:Kq n d x y m)(i:Kq j b f c m)(s:fQ d)(g:fQ b)(w:zW)(k:m.ay w):
 zX 11 #[bP d x y,bP b f c] w (.bool (tf (d=b)&&(tf (jR d.1)&&tf (jR d.2)))):=
 hzW d b x y f c m 3 w k a (h.low s).h1 (h.low s).h2 (i.low g).h1 (i.low g).h2 s.cnt g.cnt s.1.src.fit s.2.1.src.fit
theorem Ej(A B C:Vd)(Q N P M O L:Sl)(m:Mem)(n0 n1 n2:Nat)(w:zW)(hm:m.ay w)(c:dV m)(y:Kq n0 A Q N m)(x:Kq n1 B P M m)(D:Kq n2 C O L m):
 zX 3 #[bP A Q N,bP B P M,bP C O L] w (.bool true):=by
 have hO:=(((Own.start hm).al (dC A Q N).toArray 35).al (dC B P M).toArray 35).al (dC C O L).toArray 35;simp only[bC]at hO;have HE:=zh (fun w' (h:m.ay w')=>Q9 m w' h c);have W':=zh (fun w' (h:m.ay w')=>wX A Q N m w' h y.h1 y.h2);have T':=zh (fun(s:fQ A) w' (h:m.ay w')=>nC A Q N m w' h c (y.low s).h1 (y.low s).h2 s.jH);have V':=zh (fun w' (h:m.ay w')=>wX B P M m w' h x.h1 x.h2);have S':=zh (fun(s:fQ B) w' (h:m.ay w')=>nC B P M m w' h c (x.low s).h1 (x.low s).h2 s.jH);have U':=zh (fun w' (h:m.ay w')=>wX C O L m w' h D.h1 D.h2);have R':=zh (fun(s:fQ C) w' (h:m.ay w')=>nC C O L m w' h c (D.low s).h1 (D.low s).h2 s.jH);have C':=zh (fun(s:fQ A) (t:fQ A) w' (h:m.ay w')=>j4 A A Q N Q N m w' h c (y.low s).h1 (y.low s).h2 s.jH (y.low t).h1 (y.low t).h2 t.jH);have Z:=zh (fun(s:fQ A) (t:fQ B) w' (h:m.ay w')=>j4 A B Q N P M m w' h c (y.low s).h1 (y.low s).h2 s.jH (x.low t).h1 (x.low t).h2 t.jH);have B':=zh (fun(s:fQ A) (t:fQ C) w' (h:m.ay w')=>j4 A C Q N O L m w' h c (y.low s).h1 (y.low s).h2 s.jH (D.low t).h1 (D.low t).h2 t.jH);have A':=zh (fun(s:fQ B) (t:fQ A) w' (h:m.ay w')=>j4 B A P M Q N m w' h c (x.low s).h1 (x.low s).h2 s.jH (y.low t).h1 (y.low t).h2 t.jH);have HL11:=zh (fun(s:fQ B) (t:fQ B) w' (h:m.ay w')=>j4 B B P M P M m w' h c (x.low s).h1 (x.low s).h2 s.jH (x.low t).h1 (x.low t).h2 t.jH);have z':=zh (fun(s:fQ B) (t:fQ C) w' (h:m.ay w')=>j4 B C P M O L m w' h c (x.low s).h1 (x.low s).h2 s.jH (D.low t).h1 (D.low t).h2 t.jH);have HL20:=zh (fun(s:fQ C) (t:fQ A) w' (h:m.ay w')=>j4 C A O L Q N m w' h c (D.low s).h1 (D.low s).h2 s.jH (y.low t).h1 (y.low t).h2 t.jH);have HL21:=zh (fun(s:fQ C) (t:fQ B) w' (h:m.ay w')=>j4 C B O L P M m w' h c (D.low s).h1 (D.low s).h2 s.jH (x.low t).h1 (x.low t).h2 t.jH);have HL22:=zh (fun(s:fQ C) (t:fQ C) w' (h:m.ay w')=>j4 C C O L O L m w' h c (D.low s).h1 (D.low s).h2 s.jH (D.low t).h1 (D.low t).h2 t.jH);have g':=zh (fun(s:fQ A) (t:fQ B) w' (h:m.ay w')=>Rc c y x s t w' h);have l0:(dC A Q N).length=18:=rfl;have l1:(dC B P M).length=18:=rfl;have l2:(dC C O L).length=18:=rfl;have c':=zh hO;unfold bP at*
 generalize dC A Q N=U at*
 generalize dC B P M=D1 at*
 generalize dC C O L=D2 at*
 clear hO c y x D;refine au fun R hR=>?_
 go_enter func3,ntmps3
 have r:=c'.o.aP.obj.all
 go_wp2_with (first
  |refine aj dU rfl (.tmp 3) rfl rfl U l0 r ?_
  | fail)
 refine(W'.o _ c'.o.ay).mono ?_;rintro e w1 ⟨b,rfl,hb,V⟩;have K:=zh (c'.o.aS hb);clear c' hb r
 cases b with
 |false=>
  clear V
  go_wp2_with fail
  refine(HE.o _ K.o.ay).mono ?_;rintro e wz ⟨rfl,f⟩;have HB:=zh (K.o.aS f).az;clear K f;go_wp2
  exact qao
 |true=>
 have l:=zh (V rfl);clear V;have r:=K.o.av.obj.all
 go_wp2_with (first
  |refine aj dU rfl (.tmp 4) rfl rfl D1 l1 r ?_
  | fail)
 refine(V'.o _ K.o.ay).mono ?_;rintro e w2 ⟨b,rfl,hb,V⟩;have J:=zh (K.o.aS hb);clear K hb r
 cases b with
 |false=>
  clear V
  go_wp2_with fail
  refine(HE.o _ J.o.ay).mono ?_;rintro e wz ⟨rfl,f⟩;have HB:=zh (J.o.aS f).az;clear J f;go_wp2
  exact qao
 |true=>
 have n:=zh (V rfl);clear V;have r:=J.o.obj.all
 go_wp2_with (first
  |refine aj dU rfl (.tmp 5) rfl rfl D2 l2 r ?_
  | fail)
 refine(U'.o _ J.o.ay).mono ?_;rintro e w3 ⟨b,rfl,hb,V⟩;have I:=zh (J.o.aS hb);clear J hb r
 cases b with
 |false=>
  clear V
  go_wp2_with fail
  refine(HE.o _ I.o.ay).mono ?_;rintro e wz ⟨rfl,f⟩;have HB:=zh (I.o.aS f).az;clear I f;go_wp2
  exact qao
 |true=>
 have X:=zh (V rfl);clear V;have r:=I.o.aP.obj.all
 go_wp2_with (first
  |refine aj dU rfl (.tmp 3) rfl rfl U l0 r ?_
  | fail)
 refine(T'.o l.o _ I.o.ay).mono ?_;rintro e w4 ⟨rfl,hb⟩;have H:=zh (I.o.aS hb);clear I hb r;by_cases v0:bD A
 case neg=>
  rw[aF v0];clear v0
  go_wp2_with fail
  refine(HE.o _ H.o.ay).mono ?_;rintro e wz ⟨rfl,f⟩;have HB:=zh (H.o.aS f).az;clear H f;exact qak
 rw[aM v0];have g:=zh v0;clear v0;have r:=H.o.av.obj.all
 go_wp2_with (first
  |refine aj dU rfl (.tmp 4) rfl rfl D1 l1 r ?_
  | fail)
 refine(S'.o n.o _ H.o.ay).mono ?_;rintro e w5 ⟨rfl,hb⟩;have G:=zh (H.o.aS hb);clear H hb r;by_cases v1:bD B
 case neg=>
  rw[aF v1];clear v1
  go_wp2_with fail
  refine(HE.o _ G.o.ay).mono ?_;rintro e wz ⟨rfl,f⟩;have HB:=zh (G.o.aS f).az;clear G f;exact qak
 rw[aM v1];have v:=zh v1;clear v1;have r:=G.o.obj.all
 go_wp2_with (first
  |refine aj dU rfl (.tmp 5) rfl rfl D2 l2 r ?_
  | fail)
 refine(R'.o X.o _ G.o.ay).mono ?_;rintro e w6 ⟨rfl,hb⟩;have F:=zh (G.o.aS hb);clear G hb r;by_cases v2:bD C
 case neg=>
  rw[aF v2];clear v2
  go_wp2_with fail
  refine(HE.o _ F.o.ay).mono ?_;rintro e wz ⟨rfl,f⟩;have HB:=zh (F.o.aS f).az;clear F f;exact qak
 rw[aM v2];have f':=zh v2;clear v2
 go_upto_region 3 with(fail)
 refine aV [3,4,5,55] (fun vs w'=>vs=[.pointer (some ⟨w.heap.size,0,none⟩),.pointer (some ⟨w.heap.size+1,0,none⟩),.pointer (some ⟨w.heap.size+1+1,0,none⟩),.bool false]/\Own w m w' m [.obj (w.heap.size+1+1) 35 D2.toArray,.obj (w.heap.size+1) 35 D1.toArray,.obj w.heap.size 35 U.toArray]) ?_ ?_
 .intro Y hY;have T:=zh (fun w' (h:m.ay w')=>kI ⟨g.o,g.o,Jj g.o⟩ (C'.o l.o l.o w' h));have r0:=F.o.aP.obj.all
  go_wp2_with (first
   |refine aj dU rfl (.tmp 3) rfl rfl U l0 r0 ?_
   | fail)
  refine(T.o _ F.o.ay).mono ?_;rintro e w7 ⟨rfl,hb⟩;have HO7:=zh (F.o.aS hb);clear F hb r0 T;have r0:=HO7.o.aP.obj.all;have r1:=HO7.o.av.obj.all
  go_wp2_with (first
   |refine aj dU rfl (.tmp 3) rfl rfl U l0 r0 ?_
   |refine aj dU rfl (.tmp 4) rfl rfl D1 l1 r1 ?_
   | fail)
  refine(Z.o l.o n.o _ HO7.o.ay).mono ?_;rintro e w8 ⟨rfl,hb⟩;have HO8:=zh (HO7.o.aS hb);clear HO7 hb r0 r1;by_cases p:bD A/\bD B/\Cj A B
  case neg=>
   rw[aF p];clear p;go_wp2;exact hY.o _ _ rfl ⟨rfl,HO8.o⟩
  rw[aM p];have HP:=zh p;clear p;have r1:=HO8.o.av.obj.all;have r2:=HO8.o.obj.all
  go_wp2_with (first
   |refine aj dU rfl (.tmp 4) rfl rfl D1 l1 r1 ?_
   |refine aj dU rfl (.tmp 5) rfl rfl D2 l2 r2 ?_
   | fail)
  refine(z'.o n.o X.o _ HO8.o.ay).mono ?_;rintro e w9 ⟨rfl,hb⟩;have S:=zh (HO8.o.aS hb);clear HO8 hb r1 r2;by_cases q:bD B/\bD C/\Cj B C
  case neg=>
   rw[aF q];clear q;go_wp2;exact hY.o _ _ rfl ⟨rfl,S.o⟩
  rw[aM q];have y':=zh (fun w' (h:m.ay w')=>kI ⟨g.o,f'.o,Yq g.o v.o f'.o HP.o.2.2 q.2.2⟩ (B'.o l.o X.o w' h));clear q;have r0:=S.o.aP.obj.all;have r2:=S.o.obj.all
  go_wp2_with (first
   |refine aj dU rfl (.tmp 3) rfl rfl U l0 r0 ?_
   |refine aj dU rfl (.tmp 5) rfl rfl D2 l2 r2 ?_
   | fail)
  refine(y'.o _ S.o.ay).mono ?_;rintro e w10 ⟨rfl,hb⟩;have x':=zh (S.o.aS hb);clear S hb r0 r2 y';go_wp2;exact hY.o _ _ rfl ⟨rfl,x'.o⟩
 clear F;rintro z vs w11-⟨rfl,hO⟩;simp[bB,lk];obtain⟨M1,v',s',c1⟩:=hO.Dn;obtain⟨M2,u',r',c2⟩:=v'.Dn;obtain⟨M3,t',i',c3⟩:=u'.Dn;have HLE:=zh (Mem.le_trans s' (Mem.le_trans r' i'));have HCA:=zh (fun(w':zW) (h:M3.ay w') j u (hj:U[j]?=some u)=>Mem_cell_w h (c3 j u qdU));have HCB:=zh (fun(w':zW) (h:M3.ay w') j u (hj:D1[j]?=some u)=>Mem_cell_w h (Mem_cell_le i' (c2 j u qdU)));have HO7:=zh t';clear hO v' u' t' s' r' i' c1 c2 c3
 go_upto_region 5 with(fail)
 refine aV [6] (fun vs w'=>vs=[.bool true]/\Own w m w' M3 []) ?_ ?_
 .intro Y hY;by_cases p:Cj A B
  .have hp:=QI g.o v.o;have T:=zh (fun w' (h:M3.ay w')=>kI ⟨g.o,v.o,p⟩ (Z.o l.o n.o w' qfV));have Y':=zh (fun w' (h:M3.ay w')=>Zp (q:=A=B) ⟨fun k=>hp.1 ⟨p,k.2.2⟩,fun k=>⟨v.o,g.o,(hp.2 k).2⟩⟩ (A'.o n.o l.o w' qfV));have HQ:=zh (fun w' (h:M3.ay w')=>R7 g.o v.o (g'.o l.o n.o w' qfV));generalize tf (A=B)=qb at*
   clear hp p;refine bF 15 6 (fun j=>[aI.is (·=.agg U.toArray),aI.is (·=.agg D1.toArray),aI.is (·=.bool true),aI.is (·=.bool true),aI.is (·=.agg D1.toArray),aI.is (·=.agg U.toArray),aI.is (·=.bool qb),aI.is (·=.bool qb),aI.is (·=.agg U.toArray),aI.is (·=.agg D1.toArray),aI.is (·=.bool qb),aI.is (·=.bool true),aI.is (·=.bool true),aI.is (·=.bool true),aI.is (·=.bool true)].getD j aI.any) zk zk ?_ ?_
   .intro i hi o win a wr ho RA;have HO8:=HO7.o.dr.aS RA.az;rcases(show i=0\/i=1\/i=2\/i=3\/i=4\/i=5\/i=6\/i=7\/i=8\/i=9\/i=10\/i=11\/i=12\/i=13\/i=14 by omega)with rfl|rfl|rfl|rfl|rfl|rfl|rfl|rfl|rfl|rfl|rfl|rfl|rfl|rfl|rfl
    .exact qgA
    .exact qgz
    .have Q':a.tmps.getD 56 undef=_:=RA.d 0 rfl;have P':a.tmps.getD 57 undef=_:=RA.d 1 rfl;cases ho;refine we rfl rfl (T.o wr HO8.ay) ?_;exact qab
    .have O':a.tmps.getD 58 undef=_:=RA.d 2 rfl;exact qaa
    .have e4:=RA.k 4;have e59:zt a 59 _:=RA.d 3 rfl;cases ho;refine fH rfl (eX rfl rfl e59) (aO (dU.exec (b:=w.heap.size+1) (off:=0) rfl zg l1 (fun j u hj=>by rw[yZ];exact HCB.o _ HO8.ay j u hj)) ⟨_,rfl,zR _ _,rfl⟩)
    .have e3:=RA.k 3;have e59:zt a 59 _:=RA.d 3 rfl;cases ho;refine fH rfl (eX rfl rfl e59) (aO (dU.exec (b:=w.heap.size) (off:=0) rfl zg l0 (fun j u hj=>by rw[yZ];exact HCA.o _ HO8.ay j u hj)) ⟨_,rfl,zR _ _,rfl⟩)
    .have N':a.tmps.getD 60 undef=_:=RA.d 4 rfl;have M':a.tmps.getD 61 undef=_:=RA.d 5 rfl;have e59:zt a 59 _:=RA.d 3 rfl;cases ho;refine we2 rfl rfl rfl e59 (Y'.o wr HO8.ay) ?_;exact qab
    .have e59:zt a 59 _:=RA.d 3 rfl;have L':a.tmps.getD 62 undef=_:=RA.d 6 rfl;exact qaa
    .exact qgA
    .exact qgz
    .have J':a.tmps.getD 64 undef=_:=RA.d 8 rfl;have I':a.tmps.getD 65 undef=_:=RA.d 9 rfl;cases ho;refine we rfl rfl (HQ.o wr HO8.ay) ?_;exact qab
    .have K':a.tmps.getD 63 undef=_:=RA.d 7 rfl;have H':a.tmps.getD 66 undef=_:=RA.d 10 rfl;exact qaa
    .have G':a.tmps.getD 67 undef=_:=RA.d 11 rfl;exact qaa
    .have W:zt a 68 _:=RA.d 12 rfl;cases ho;refine we2 rfl rfl rfl W (HE.o wr (Mem_inn_le HLE.o HO8.ay)) ?_;exact qab
    .have W:zt a 68 _:=RA.d 12 rfl;have F':a.tmps.getD 69 undef=_:=RA.d 13 rfl;exact qaa
   .exact qgE
  .have hp:=QI g.o v.o;have T:=zh (fun w' (h:M3.ay w')=>nM (fun k=>p k.2.2) (Z.o l.o n.o w' qfV));have HQ:=zh (fun w' (h:M3.ay w')=>nM (fun k=>p (hp.2 k).1) (R7 g.o v.o (g'.o l.o n.o w' qfV)));clear hp p;refine bF 15 6 (fun j=>[aI.is (·=.agg U.toArray),aI.is (·=.agg D1.toArray),aI.is (·=.bool false),aI.is (·=.bool false),aI.is (·=Go.undef),aI.is (·=Go.undef),aI.is (·=Go.undef),aI.is (·=.bool false),aI.is (·=.agg U.toArray),aI.is (·=.agg D1.toArray),aI.is (·=.bool false),aI.is (·=.bool true),aI.is (·=.bool true),aI.is (·=.bool true),aI.is (·=.bool true)].getD j aI.any) zk zk ?_ ?_
   .intro i hi o win a wr ho RA;have HO8:=HO7.o.dr.aS RA.az;rcases(show i=0\/i=1\/i=2\/i=3\/i=4\/i=5\/i=6\/i=7\/i=8\/i=9\/i=10\/i=11\/i=12\/i=13\/i=14 by omega)with rfl|rfl|rfl|rfl|rfl|rfl|rfl|rfl|rfl|rfl|rfl|rfl|rfl|rfl|rfl
    .exact qgA
    .exact qgz
    .have Q':a.tmps.getD 56 undef=_:=RA.d 0 rfl;have P':a.tmps.getD 57 undef=_:=RA.d 1 rfl;cases ho;refine we rfl rfl (T.o wr HO8.ay) ?_;exact qab
    .have O':a.tmps.getD 58 undef=_:=RA.d 2 rfl;exact qaa
    .have e4:=RA.k 4;exact qbl
    .have e3:=RA.k 3;exact qbl
    .have N':a.tmps.getD 60 undef=_:=RA.d 4 rfl;have M':a.tmps.getD 61 undef=_:=RA.d 5 rfl;exact qbl
    .have e59:zt a 59 _:=RA.d 3 rfl;have L':a.tmps.getD 62 undef=_:=RA.d 6 rfl;exact qaa
    .exact qgA
    .exact qgz
    .have J':a.tmps.getD 64 undef=_:=RA.d 8 rfl;have I':a.tmps.getD 65 undef=_:=RA.d 9 rfl;cases ho;refine we rfl rfl (HQ.o wr HO8.ay) ?_;exact qab
    .have K':a.tmps.getD 63 undef=_:=RA.d 7 rfl;have H':a.tmps.getD 66 undef=_:=RA.d 10 rfl;exact qaa
    .have G':a.tmps.getD 67 undef=_:=RA.d 11 rfl;exact qaa
    .have W:zt a 68 _:=RA.d 12 rfl;cases ho;refine we2 rfl rfl rfl W (HE.o wr (Mem_inn_le HLE.o HO8.ay)) ?_;exact qab
    .have W:zt a 68 _:=RA.d 12 rfl;have F':a.tmps.getD 69 undef=_:=RA.d 13 rfl;exact qaa
   .exact qgE
 clear HO7;rintro z2 vs w12-⟨rfl,hO⟩;simp[bB,lk];have HB:=zh hO.az;clear hO;exact qak
end Cl
