/- Lemmas for the proofs of chapter 11. -/
import Derived.Test.YtdgjplfcpcphoaaGreatDoorPkE31
import Derived.Test.YtdgjplfcpcphoaaGreatDoorPkE32
import Derived.Test.YtdgjplfcpcphoaaGreatDoorPkE16
set_option maxRecDepth 100000
set_option maxHeartbeats 16000000
namespace Cl
open Go Go.RowKit Go.Proofs Tryz
theorem xy{a b:Bool}(h:pz a b≠0):a≠b/\pz a b=if a then -1 else 1:=by
 cases a<;>cases b<;>simp_all [pz]
theorem pu{a b:Bool}(h:pz a b=0):a=b:=by
 cases a<;>cases b<;>simp_all [pz]
theorem ZC{A B:RS}(c:A.gB)(b:B.gB)(cl:Int)(f:fC (Sem A.t) (Sem B.t) cl):
 (pz A.gY B.gY≠0->Bf A B (pz A.gY B.gY))/\(pz A.gY B.gY=0->pz A.iF B.iF≠0->Bf A B (pz A.iF B.iF))/\(pz A.gY B.gY=0->pz A.iF B.iF=0->pz A.iZ B.iZ≠0->Bf A B (pz A.iZ B.iZ)) /\
 (pz A.gY B.gY=0->pz A.iF B.iF=0->pz A.iZ B.iZ=0->lC A.ns B.ns≠0->Bf A B (lC A.ns B.ns))/\(pz A.gY B.gY=0->pz A.iF B.iF=0->pz A.iZ B.iZ=0->lC A.ns B.ns=0->Bf A B cl):=by
 refine⟨fun h=>?_,fun a h=>?_,fun a d h=>?_,fun a d e h=>?_,fun a d e g=>?_⟩
 .rw[(xy h).2];exact .inl ⟨c,b,Ib (xy h).1⟩
 .rw[(xy h).2];exact .inl ⟨c,b,Ic (pu a) (xy h).1⟩
 .rw[(xy h).2];exact .inl ⟨c,b,Hz (pu a) (pu d) (xy h).1⟩
 .exact .inl ⟨c,b,Ia (pu a) (pu d) (pu e) h⟩
 .exact .inl ⟨c,b,H9 (pu a) (pu d) (pu e) g f⟩
theorem FT(M N K:zV)(A:RS)(P Q O:zV)(B:RS)(na S nb tb:Nat)(m:Mem)(w:zW)(hm:m.ay w)(x:gD m)(ha:nU m M N K A)(hb:nU m P Q O B)(la:uW A na S)(lb:uW B nb tb)(X':na<=250)(W':nb<=250)(ht:(S+2)*(tb+2)<=90000):
 zC 82 #[A.val M N K,B.val P Q O] w fun e w'=>∃c,e=.returned (.int .i64 c)/\zB w w'/\Bf A B c:=by
 have t':S+2<=(S+2)*(tb+2):=Nat.le_mul_of_pos_right _ zo;have s':tb+2<=(S+2)*(tb+2):=Nat.le_mul_of_pos_left _ zo;have T:(A.t.length+2)*(B.t.length+2)<=90000:=yJ (xV (Nat.add_le_add_right la.t 2) (Nat.add_le_add_right lb.t 2)) ht;have p:=((Own.start hm).al #[.bool A.gY,.bool A.iF,.bool A.iZ,M,N,K] 29).al #[.bool B.gY,.bool B.iF,.bool B.iZ,P,Q,O] 29;simp only[bR]at p;have h':=zh (tK M N K A m _ p.ay x ha (la.mono zo zo));have J:=zh (fun w' (h:m.ay w')=>tK P Q O B m w' h x hb (lb.mono zo zo));have HN:=zh (fun w' (h:m.ay w')=>FU M N A.i A.f P Q B.i B.f m w' h ha.nums hb.nums (yJ la.i zo) (yJ la.f zo) (yJ lb.i zo) (yJ lb.f zo));obtain⟨cl,a'⟩:∃cl,∀c,fC (Sem A.t) (Sem B.t) c->c=cl:=⟨Classical.epsilon (fC (Sem A.t) (Sem B.t)),fun c h=>nS h (Classical.epsilon_spec ⟨c,h⟩)⟩;have HL:=zh (fun w' (h:m.ay w')=>vV K O A.t B.t m w' h ha.t hb.t T);have HU:=zh a';have HC:=zh (fun h1 h2=>ZC (A:=A) (B:=B) h1 h2 cl);obtain⟨a1,b1,a2,b2,a3,b3,rfl,rfl,rfl⟩:=ha.eG;obtain⟨c1,d1,c2,d2,c3,d3,rfl,rfl,rfl⟩:=hb.eG;unfold RS.val;have C:=zh p;clear p ha hb x t' s' T ht a';refine aj fun R hR=>?_
 go_enter func82,ntmps82
 go_wp2_with fail
 refine h'.o.mono ?_;rintro e w1 ⟨rfl,e'⟩;have p:=C.o.aP e';clear h' C e';by_cases s:A.gB
 case neg=>
  rw[aA s];have HB:=zh p.az;have HC:=zh (show Bf A B 0 from .inr ⟨fun h=>s h.1,rfl⟩);clear p s J HN HL HU;exact qbY
 rw[aO s];have HA:=zh s;clear s;obtain⟨q0,q1,q2,q3,q4,q5⟩:=p.obj.cs6;have q6:=p.obj.lt;have C:=zh p;clear p
 go_wp2_with fail
 refine(J.o _ C.o.ay).mono ?_;rintro e w2 ⟨rfl,d'⟩;have p:=C.o.aP d';clear J C d' q0 q1 q2 q3 q4 q5 q6;by_cases r:B.gB
 case neg=>
  rw[aA r];have HB:=zh p.az;have HC:=zh (show Bf A B 0 from .inr ⟨fun h=>r h.2,rfl⟩);clear p r HN HL HU;exact qbY
 rw[aO r];have HC:=zh (HC.o HA.o r);clear r HA;have U:lC (dz A.i A.f) (dz B.i B.f)=lC A.ns B.ns:=rfl;rw[U]at HN;clear U;generalize Bf A B=CS at*
 generalize lC A.ns B.ns=F at*
 generalize fC (Sem A.t) (Sem B.t)=CI at*
 have HF:=zh (fun a b w=>Lm a b w);generalize Z:pz A.gY B.gY=D at*
 generalize W:pz A.iF B.iF=f1 at*
 generalize V:pz A.iZ B.iZ=f2 at*
 have G:=zh (zi Z (zi W V));clear Z W V;have C:=zh p;clear p
 go_upto_region 3 with(fail)
 refine aR [40,41,42] (fun L w'=>∃b,L=[.slice (some ⟨b,0,none⟩) 5 5,.int .i64 5,.int .i64 0]/\bH w' b 3 #[.int .i64 D,.int .i64 f1,.int .i64 f2,.int .i64 F,.int .i64 cl]/\CI cl/\zB w w') ?_ ?_
 .intro Y hY;refine bz 28 6 (fun j=>[aD.is (·=.pointer (some ⟨w.heap.size,0,none⟩)),aD.is (·=.bool A.gY),aD.is (·=.pointer (some ⟨w.heap.size+1,0,none⟩)),aD.is (·=.bool B.gY),aD.is (·=.int .i64 D),aD.is (·=.pointer (some ⟨w.heap.size,1,none⟩)),aD.is (·=.bool A.iF),aD.is (·=.pointer (some ⟨w.heap.size+1,1,none⟩)),aD.is (·=.bool B.iF),aD.is (·=.int .i64 f1),aD.is (·=.pointer (some ⟨w.heap.size,2,none⟩)),aD.is (·=.bool A.iZ),aD.is (·=.pointer (some ⟨w.heap.size+1,2,none⟩)),aD.is (·=.bool B.iZ),aD.is (·=.int .i64 f2),aD.is (·=.pointer (some ⟨w.heap.size,3,none⟩)),aD.is (·=.agg #[.slice a1 A.i.length b1,.slice a2 A.f.length b2]),aD.is (·=.pointer (some ⟨w.heap.size+1,3,none⟩)),aD.is (·=.agg #[.slice c1 B.i.length d1,.slice c2 B.f.length d2]),aD.is (·=.int .i64 F),aD.is (·=.pointer (some ⟨w.heap.size,5,none⟩)),aD.is (·=.agg #[.slice a3 A.t.length b3]),aD.is (·=.pointer (some ⟨w.heap.size+1,5,none⟩)),aD.is (·=.agg #[.slice c3 B.t.length d3]),aD.is (fun v=>v=.int .i64 cl/\CI cl),aD.sl 25 3 #[.int .i64 D,.int .i64 f1,.int .i64 f2,.int .i64 F,.int .i64 cl] 5,aD.is (·=.int .i64 5),aD.is (·=.int .i64 0)].getD j aD.any) zk zk ?_ ?_
  .intro i hi o win a q ho g;have u:=C.o.dr.aP g.az;obtain⟨p0,p1,p2,p3,p4,p5⟩:=u.au.obj.cs6;obtain⟨s0,s1,s2,s3,s4,s5⟩:=u.obj.cs6;have p6:=u.au.obj.lt;have s6:=u.obj.lt;rcases(show i=0\/i=1\/i=2\/i=3\/i=4\/i=5\/i=6\/i=7\/i=8\/i=9\/i=10\/i=11\/i=12\/i=13\/i=14\/i=15\/i=16\/i=17\/i=18\/i=19\/i=20\/i=21\/i=22\/i=23\/i=24\/i=25\/i=26\/i=27 by omega)with rfl|rfl|rfl|rfl|rfl|rfl|rfl|rfl|rfl|rfl|rfl|rfl|rfl|rfl|rfl|rfl|rfl|rfl|rfl|rfl|rfl|rfl|rfl|rfl|rfl|rfl|rfl|rfl
   .have e2:=g.k 2;exact qaa
   .have e15:zt a 15 _:=g.d 0 rfl;exact qaa
   .have e3:=g.k 3;exact qaa
   .have e17:zt a 17 _:=g.d 2 rfl;exact qaa
   .have e16:zt a 16 _:=g.d 1 rfl;have e18:zt a 18 _:=g.d 3 rfl;cases ho;refine we rfl rfl (HF.o _ _ q) ?_;rintro e w' ⟨rfl,rfl⟩;exact⟨_,rfl,_,rfl,zR _ _,congrArg (Value.int .i64) G.o.1⟩
   .have e2:=g.k 2;exact qaa
   .have e20:zt a 20 _:=g.d 5 rfl;exact qaa
   .have e3:=g.k 3;exact qaa
   .have e22:zt a 22 _:=g.d 7 rfl;exact qaa
   .have e21:zt a 21 _:=g.d 6 rfl;have e23:zt a 23 _:=g.d 8 rfl;cases ho;refine we rfl rfl (HF.o _ _ q) ?_;rintro e w' ⟨rfl,rfl⟩;exact⟨_,rfl,_,rfl,zR _ _,congrArg (Value.int .i64) G.o.2.1⟩
   .have e2:=g.k 2;exact qaa
   .have e25:zt a 25 _:=g.d 10 rfl;exact qaa
   .have e3:=g.k 3;exact qaa
   .have e27:zt a 27 _:=g.d 12 rfl;exact qaa
   .have e26:zt a 26 _:=g.d 11 rfl;have e28:zt a 28 _:=g.d 13 rfl;cases ho;refine we rfl rfl (HF.o _ _ q) ?_;rintro e w' ⟨rfl,rfl⟩;exact⟨_,rfl,_,rfl,zR _ _,congrArg (Value.int .i64) G.o.2.2⟩
   .have e2:=g.k 2;exact qaa
   .have e30:zt a 30 _:=g.d 15 rfl;exact qaa
   .have e3:=g.k 3;exact qaa
   .have e32:zt a 32 _:=g.d 17 rfl;exact qaa
   .have e31:zt a 31 _:=g.d 16 rfl;have e33:zt a 33 _:=g.d 18 rfl;cases ho;refine we rfl rfl (HN.o q u.ay) ?_;exact qab
   .have e2:=g.k 2;exact qaa
   .have e35:zt a 35 _:=g.d 20 rfl;exact qaa
   .have e3:=g.k 3;exact qaa
   .have e37:zt a 37 _:=g.d 22 rfl;exact qaa
   .have e36:zt a 36 _:=g.d 21 rfl;have e38:zt a 38 _:=g.d 23 rfl;cases ho;refine we rfl rfl (HL.o q u.ay) ?_;rintro e w' ⟨c,rfl,hb,hc⟩;have u':=HU.o c hc;subst u';exact⟨_,rfl,_,rfl,hb,rfl,hc⟩
   .have B':a.tmps.getD 19 undef=_:=g.d 4 rfl;have A':a.tmps.getD 24 undef=_:=g.d 9 rfl;have z':a.tmps.getD 29 undef=_:=g.d 14 rfl;have y':a.tmps.getD 34 undef=_:=g.d 19 rfl;have y:(aD.is (fun v=>v=.int .i64 cl/\CI cl)).holds (a.tmps.getD 39 undef) win q:=g.d 24 rfl;have f34:=(zY (xs:=a.tmps) (i:=34) (d:=undef)).symm.trans y';have f19:=(zY (xs:=a.tmps) (i:=19) (d:=undef)).symm.trans B';have f24:=(zY (xs:=a.tmps) (i:=24) (d:=undef)).symm.trans A';have f29:=(zY (xs:=a.tmps) (i:=29) (d:=undef)).symm.trans z';cases ho;obtain⟨y,-⟩:_/\_:=y;have f39:=(zY (xs:=a.tmps) (i:=39) (d:=undef)).symm.trans y;exact qdH
   .have I:(aD.sl 25 3 #[.int .i64 D,.int .i64 f1,.int .i64 f2,.int .i64 F,.int .i64 cl] 5).holds (a.tmps.getD 40 undef) win q:=g.d 25 rfl;cases ho;obtain⟨k1,n1,o1⟩:_/\_/\_:=I;exact wv rfl rfl rfl
   .exact qaa
  .intro win a q E;have y:(aD.is (fun v=>v=.int .i64 cl/\CI cl)).holds (a.tmps.getD 39 undef) win q:=E.fact 24 _ zo rfl;have I:(aD.sl 25 3 #[.int .i64 D,.int .i64 f1,.int .i64 f2,.int .i64 F,.int .i64 cl] 5).holds (a.tmps.getD 40 undef) win q:=E.fact 25 _ zo rfl;have x':a.tmps.getD 41 undef=.int .i64 5:=E.fact 26 _ zo rfl;have v':a.tmps.getD 42 undef=.int .i64 0:=E.fact 27 _ zo rfl;obtain⟨k1,n1,o1⟩:_/\_/\_:=I;obtain⟨-,k2⟩:_/\_:=y;obtain⟨t1,d⟩:=a;obtain rfl:d=[]:=E.defers;refine bY zk (hY.o _ _ E.size ⟨_,?_,o1,k2,(C.o.dr.aP E.az).az⟩) _;simp only[yL,xB,k1,x',v']
 rintro z0 L w3-⟨b,rfl,ho,b',c'⟩;simp[aX,lk];have C':=zh ho;have HC:=zh (HC.o b');have HBL:=zh c';clear ho c' b' C HN HL HU HF G;go_wp2;refine av [40,41,42] (fun n L q=>∃k:Nat,k<=5/\n=5-k/\L=[.slice (some ⟨b,0,none⟩) 5 5,.int .i64 5,.int .i64 k]/\q=w3/\(1<=k->D=0)/\(2<=k->f1=0)/\(3<=k->f2=0)/\(4<=k->F=0)/\(5<=k->cl=0)) ?_ ?_
 .exact⟨_,0,zo,rfl,rfl,rfl,fun h=>zo,fun h=>zo,fun h=>zo,fun h=>zo,fun h=>zo⟩
 rintro X z n L q hX-⟨k,hk,rfl,rfl,rfl,h1,h2,h3,h4,h5⟩;have H:=zh (zi h1 (zi h2 (zi h3 (zi h4 h5))));clear h1 h2 h3 h4 h5;simp[aX,lk];have ho:=C'.o;obtain⟨r0,r1,r2,r3,r4⟩:=ho.cs5;have rl:=ho.lt;clear ho;rcases(show k=0\/k=1\/k=2\/k=3\/k=4\/k=5 by omega)with rfl|rfl|rfl|rfl|rfl|rfl
 .by_cases h:D=0
  .have l:(D != 0)=false:=by simp[h]
   have Hh:=zh h;clear h;go_wp2;exact hX.o _ _ _ zo rfl ⟨1,zo,rfl,rfl,rfl,fun _=>Hh.o,fun h=>zo,fun h=>zo,fun h=>zo,fun h=>zo⟩
  .have l:(D != 0)=true:=by simpa using h
   have Hh:=zh (HC.o.1 h);clear h;exact qa6
 .by_cases h:f1=0
  .have l:(f1 != 0)=false:=by simp[h]
   have Hh:=zh h;clear h;go_wp2;exact hX.o _ _ _ zo rfl ⟨2,zo,rfl,rfl,rfl,fun _=>H.o.1 zo,fun h=>Hh.o,fun h=>zo,fun h=>zo,fun h=>zo⟩
  .have l:(f1 != 0)=true:=by simpa using h
   have Hh:=zh (HC.o.2.1 (H.o.1 zo) h);clear h;exact qa6
 .by_cases h:f2=0
  .have l:(f2 != 0)=false:=by simp[h]
   have Hh:=zh h;clear h;go_wp2;exact hX.o _ _ _ zo rfl ⟨3,zo,rfl,rfl,rfl,fun _=>H.o.1 zo,fun h=>H.o.2.1 zo,fun h=>Hh.o,fun h=>zo,fun h=>zo⟩
  .have l:(f2 != 0)=true:=by simpa using h
   have Hh:=zh (HC.o.2.2.1 (H.o.1 zo) (H.o.2.1 zo) h);clear h;exact qa6
 .by_cases h:F=0
  .have l:(F != 0)=false:=by simp[h]
   have Hh:=zh h;clear h;go_wp2;exact hX.o _ _ _ zo rfl ⟨4,zo,rfl,rfl,rfl,fun _=>H.o.1 zo,fun h=>H.o.2.1 zo,fun h=>H.o.2.2.1 zo,fun h=>Hh.o,fun h=>zo⟩
  .have l:(F != 0)=true:=by simpa using h
   have Hh:=zh (HC.o.2.2.2.1 (H.o.1 zo) (H.o.2.1 zo) (H.o.2.2.1 zo) h);clear h;exact qa6
 .by_cases h:cl=0
  .have l:(cl != 0)=false:=by simp[h]
   have Hh:=zh h;clear h;go_wp2;exact hX.o _ _ _ zo rfl ⟨5,zo,rfl,rfl,rfl,fun _=>H.o.1 zo,fun h=>H.o.2.1 zo,fun h=>H.o.2.2.1 zo,fun h=>H.o.2.2.2.1 zo,fun h=>Hh.o⟩
  .have l:(cl != 0)=true:=by simpa using h
   have Hh:=zh (HC.o.2.2.2.2 (H.o.1 zo) (H.o.2.1 zo) (H.o.2.2.1 zo) (H.o.2.2.2.1 zo));clear h;exact qa6
 .have Hh:=zh (show CS 0 by
   have:=HC.o.2.2.2.2 (H.o.1 zo) (H.o.2.1 zo) (H.o.2.2.1 zo) (H.o.2.2.2.1 zo);rw[H.o.2.2.2.2 zo]at this;exact this)
  exact qa6
end Cl
