/- The law's walk. -/
import Derived.Test.YtdgjplfcpcphoaaGreatDoorPkE36
set_option maxRecDepth 100000
set_option maxHeartbeats 16000000
namespace Cl
open Go Go.RowKit Go.Proofs Tryz
theorem EN(d:Vd)(x y:Sl)(c:Vd)(s B:Sl)(m:Mem)(n:Nat)(w:zW)(hm:m.ay w)(F:gD m)(hn:16<=n)(h1:bG m n x d.1)(h2:bG m n y d.2)(O:bG m n s c.1)(N:bG m n B c.2)(H:jc n d)(r:jc n c):
 zX 6 #[dE d x y,dE c s B] w (.bool true):=by
 obtain⟨m1,l1,c1,M⟩:=dM 35 (fK d x y).toArray (Own.start hm);obtain⟨l,X,Z,L⟩:=dM 35 (fK c s B).toArray M;simp only[bR]at Z;have t:=Mem.le_trans l1 X;have G:=zh (F.le t);have q:=zh (zi (zi (h1.le t) (h2.le t)) (zi (O.le t) (N.le t)));have HS:=zh (fun(w':zW) (h:l.ay w')=>uJ n d x y l w' h q.o.1.1 q.o.1.2 H.1 H.2);have S:=zh (fun(w':zW) (h:l.ay w')=>uJ n c s B l w' h q.o.2.1 q.o.2.2 r.1 r.2);have HE:=zh (fun(w':zW) (h:l.ay w') (f:eT n d.1/\eT n d.2) (J:eT n c.1/\eT n c.2)=>jR d.1 c.1 x s l n w' h G.o hn q.o.1.1 q.o.2.1 f.1 J.1 H.1 r.1);have W:=zh (fun(w':zW) (h:l.ay w') (f:eT n d.1/\eT n d.2) (J:eT n c.1/\eT n c.2)=>FQ d.1 c.1 x s l n w' h G.o hn q.o.1.1 q.o.2.1 f.1 J.1 H.1 r.1);have HN:=zh (fun(w':zW) (h:l.ay w') (f:eT n d.1/\eT n d.2)=>sW d c x y s B l n w' h G.o q.o.1.1 q.o.1.2 q.o.2.1 q.o.2.2 H r f.1 f.2);have U:=zh (fun(w':zW) (h:l.ay w') (f:eT n d.1/\eT n d.2) (J:eT n c.1/\eT n c.2)=>Lj d c x y s B l n w' h G.o hn q.o.1.1 q.o.1.2 q.o.2.1 q.o.2.2 H r f.1 f.2 J.1 J.2);have HD1:=zh (fun j u=>@lW d x y j u);have HD2:=zh (fun j u=>@lW c s B j u);have hl1:(bu d.1 x).length=9:=rfl;have hl1':(bu c.1 s).length=9:=rfl;have HC:=zh (fun(w':zW) (h:l.ay w') j u (hj:(fK d x y)[j]?=some u)=>Mem_cell_w h (Mem_cell_le X (c1 j u qeb)));have HC':=zh (fun(w':zW) (h:l.ay w') j u (hj:(fK c s B)[j]?=some u)=>Mem_cell_w h (Z j u qeb));have C0:l.cell w.heap.size 0=some (.bool d.1.any):=Mem_cell_le X (c1 0 _ rfl);have C1:l.cell (w.heap.size+1) 0=some (.bool c.1.any):=Z 0 _ rfl;have hl:(fK d x y).length=18:=rfl;have hl':(fK c s B).length=18:=rfl;have T:=zh L;unfold dE at*
 unfold Vl.val at*
 generalize bu d.1 x=N1 at*
 generalize bu c.1 s=Q at*
 generalize fK d x y=D at*
 generalize fK c s B=E at*
 clear M L F h1 h2 O N l1 c1 X Z t H r;refine aj fun R hR=>?_
 go_enter func6,ntmps6
 go_wp2_with (first|refine ae iY rfl (.tmp 2) rfl rfl D hl (fun j u hj=>by rw[yZ];exact HC.o _ T.o.ay j u hj) ?_|refine ae iY rfl (.tmp 3) rfl rfl E hl' (fun j u hj=>by rw[yZ];exact HC'.o _ T.o.ay j u hj) ?_)
 refine(HS.o _ T.o.ay).mono ?_;rintro e w1 ⟨rfl,g⟩;have p:=zh (T.o.aP g);clear T g;cases hb0:(lH n d.1&&lH n d.2)
 case false=>
  clear hb0
  go_wp2_with fail
  refine(fV l _ p.o.ay G.o).mono ?_;rintro e wz ⟨rfl,A⟩;have HB:=zh (p.o.aP A).az;clear p A;exact qag
 have V:=zh (show eT n d.1/\eT n d.2 from by
  rw[xG]at hb0;exact⟨(nL hb0.1).few,(nL hb0.2).few⟩)
 clear hb0
 go_wp2_with (first|refine ae iY rfl (.tmp 2) rfl rfl D hl (fun j u hj=>by rw[yZ];exact HC.o _ p.o.ay j u hj) ?_|refine ae iY rfl (.tmp 3) rfl rfl E hl' (fun j u hj=>by rw[yZ];exact HC'.o _ p.o.ay j u hj) ?_)
 refine(S.o _ p.o.ay).mono ?_;rintro e w2 ⟨rfl,g⟩;have v:=zh (p.o.aP g);clear p g;cases g:(lH n c.1&&lH n c.2)
 case false=>
  clear g
  go_wp2_with fail
  refine(fV l _ v.o.ay G.o).mono ?_;rintro e wz ⟨rfl,A⟩;have HB:=zh (v.o.aP A).az;clear v A;exact qag
 have C:=zh (show eT n c.1/\eT n c.2 from by
  rw[xG]at g;exact⟨(nL g.1).few,(nL g.2).few⟩)
 clear g
 go_upto_region 3 with(fail)
 refine aR [4] (fun vs w'=>vs=[.bool true]/\Own w m w' l []) ?_ ?_
 .intro Y hY;generalize wN n d.1 c.1=cc at*
  generalize (tf (d=c)&&(tf (eQ d.1)&&tf (eQ d.2)))=sb at*
  refine bz 23 8 (fun j=>[aD.is (·=.pointer (some ⟨w.heap.size,0,none⟩)),aD.is (·=.agg N1.toArray),aD.is (·=.pointer (some ⟨w.heap.size+1,0,none⟩)),aD.is (·=.agg Q.toArray),aD.is (·=.int .i64 cc),aD.is (·=.pointer (some ⟨w.heap.size,0,none⟩)),aD.is (·=.agg N1.toArray),aD.is (·=.pointer (some ⟨w.heap.size+1,0,none⟩)),aD.is (·=.agg Q.toArray),aD.is (·=.int .i64 cc),aD.is (·=.bool true),aD.is (·=.bool true),aD.is (·=.agg D.toArray),aD.is (·=.agg E.toArray),aD.is (·=.bool sb),aD.is (·=.agg D.toArray),aD.is (·=.agg E.toArray),aD.is (·=.bool sb),aD.is (·=.bool true),aD.is (·=.bool true),aD.is (·=.bool true),aD.is (·=.bool true),aD.is (·=.bool true)].getD j aD.any) zk zk ?_ ?_
  .intro i hi o a' a I ho RA;have HO2:=v.o.dr.aP RA.az;have y3:=Mem_cell_lt HO2.ay C0;have y4:=Mem_cell_lt HO2.ay C1;rcases(show i=0\/i=1\/i=2\/i=3\/i=4\/i=5\/i=6\/i=7\/i=8\/i=9\/i=10\/i=11\/i=12\/i=13\/i=14\/i=15\/i=16\/i=17\/i=18\/i=19\/i=20\/i=21\/i=22 by omega)with rfl|rfl|rfl|rfl|rfl|rfl|rfl|rfl|rfl|rfl|rfl|rfl|rfl|rfl|rfl|rfl|rfl|rfl|rfl|rfl|rfl|rfl|rfl
   .have e2:=RA.k 2;exact qaa
   .have S':a.tmps.getD 14 undef=_:=RA.d 0 rfl;exact qbc
   .have e3:=RA.k 3;exact qaa
   .have Q':a.tmps.getD 16 undef=_:=RA.d 2 rfl;exact qa9
   .have R':a.tmps.getD 15 undef=_:=RA.d 1 rfl;have P':a.tmps.getD 17 undef=_:=RA.d 3 rfl;cases ho;refine we rfl rfl (HE.o I HO2.ay V.o C.o) ?_;exact qab
   .have e2:=RA.k 2;exact qaa
   .have N':a.tmps.getD 19 undef=_:=RA.d 5 rfl;exact qbc
   .have e3:=RA.k 3;exact qaa
   .have L':a.tmps.getD 21 undef=_:=RA.d 7 rfl;exact qa9
   .have M':a.tmps.getD 20 undef=_:=RA.d 6 rfl;have K':a.tmps.getD 22 undef=_:=RA.d 8 rfl;cases ho;refine we rfl rfl (W.o I HO2.ay V.o C.o) ?_;exact qab
   .have O':a.tmps.getD 18 undef=_:=RA.d 4 rfl;have J':a.tmps.getD 23 undef=_:=RA.d 9 rfl;exact qaa
   .have I':a.tmps.getD 24 undef=_:=RA.d 10 rfl;exact qaa
   .exact qaR
   .exact qaP
   .have H':a.tmps.getD 26 undef=_:=RA.d 12 rfl;have G':a.tmps.getD 27 undef=_:=RA.d 13 rfl;have e25:zt a 25 _:=RA.d 11 rfl;cases ho;refine we2 rfl rfl rfl e25 (HN.o I HO2.ay V.o) ?_;exact qab
   .exact qaR
   .exact qaP
   .have E':a.tmps.getD 29 undef=_:=RA.d 15 rfl;have D':a.tmps.getD 30 undef=_:=RA.d 16 rfl;have e25:zt a 25 _:=RA.d 11 rfl;cases ho;refine we2 rfl rfl rfl e25 (U.o I HO2.ay V.o C.o) ?_;exact qab
   .have F':a.tmps.getD 28 undef=_:=RA.d 14 rfl;have C':a.tmps.getD 31 undef=_:=RA.d 17 rfl;have e25:zt a 25 _:=RA.d 11 rfl;cases ho;exact wy rfl rfl rfl e25 rfl
   .have e25:zt a 25 _:=RA.d 11 rfl;have B':a.tmps.getD 32 undef=_:=RA.d 18 rfl;exact qaa
   .have A':a.tmps.getD 33 undef=_:=RA.d 19 rfl;exact qaa
   .have P:zt a 34 _:=RA.d 20 rfl;cases ho;refine we2 rfl rfl rfl P (fV l I HO2.ay G.o) ?_;exact qab
   .have P:zt a 34 _:=RA.d 20 rfl;have z':a.tmps.getD 35 undef=_:=RA.d 21 rfl;exact qaa
  .intro a' a I E;have c':a.tmps.getD 36 undef=.bool true:=E.fact 22 _ zo rfl;have hZ:=v.o.dr.aP E.az;obtain⟨t1,dd⟩:=a;obtain rfl:dd=[]:=E.defers;refine eF 23 zk (aJ rfl rfl (aN qd1 ?_));refine bY zk (hY.o _ _ qef ⟨?_,hZ⟩) _;have K:t1.size=37:=E.size;simp[K]at c';simp[K]
 rintro z vs w2-⟨rfl,hO⟩;simp[aX,lk];have HB:=zh hO.az;clear hO v G HC HC' HS S HN U HE W V C q HD1 HD2;exact qag
theorem Cq(d:Vd)(x y:Sl)(c:Vd)(l k:Sl)(m:Mem)(b a:Nat)(w:zW)(q:m.ay w)(f:gD m)(p:bG m b x d.1)(o:bG m b y d.2)(h:bG m a l c.1)(g:bG m a k c.2)
(t:dw b d.1<=1048576/\dw b d.2<=1048576)(n:dw a c.1<=1048576/\dw a c.2<=1048576):
 zX 6 #[dE d x y,dE c l k] w (.bool true):=by
 have j:b<=b+a+16:=zo;have i:a<=b+a+16:=zo;exact EN d x y c l k m (b+a+16) w q f zo (p.mono j) (o.mono j) (h.mono i) (g.mono i)
  ⟨by rw[lm p.ht j];exact t.1,by rw[lm o.ht j];exact t.2⟩ ⟨by rw[lm h.ht i];exact n.1,by rw[lm g.ht i];exact n.2⟩
end Cl
