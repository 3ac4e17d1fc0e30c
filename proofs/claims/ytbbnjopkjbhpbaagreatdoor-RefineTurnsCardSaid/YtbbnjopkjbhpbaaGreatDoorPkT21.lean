/- Lemmas. -/
import Derived.Test.YtbbnjopkjbhpbaaGreatDoorPkT18
import Derived.Test.YtbbnjopkjbhpbaaGreatDoorPkT19
import Derived.Test.YtbbnjopkjbhpbaaGreatDoorPkT20
set_option maxRecDepth 99999
set_option maxHeartbeats 9999999
namespace Cl
open Go Go.RowKit Go.Proofs Tryz
def YB(s:RS)(M:Mem)(v:zV):Prop:=∃g e d c b a,v=.agg #[.bool s.dL,.bool s.dS,.bool s.dW,.slice g s.i.length e,.slice d s.f.length c,.slice b s.t.length a]/\gJ M (.slice g s.i.length e) (.slice d s.f.length c) (.slice b s.t.length a) s
theorem Na{M:Mem}{i j g:zV}{s:RS}(h:gJ M i j g s):YB s M (s.val i j g):=by
 obtain⟨a,b,c,d,e,f,rfl,rfl,rfl⟩:=h.dm;exact⟨a,b,c,d,e,f,rfl,h⟩
theorem YB.le{s:RS}{m m':Mem}(h:m.le m'){v:zV}(k:YB s m v):YB s m' v:=by
 obtain⟨a,b,c,d,e,f,i,g⟩:=k;exact⟨a,b,c,d,e,f,i,g.le h⟩
def uz(p:El->Prop)(n t:Nat)(M:Mem)(v:zV):Prop:=∃s,YB s M v/\oK p s/\jW s n t
structure OQ (f1 f2 f3:FuncId) (bop:Bool->Bool->Bool) (nop:NS->NS->NS) (lop:Bool->Bool->Bool) (pop:Prop->Prop->Prop):Prop where
 c1:∀p q w,zC f1 #[.bool p,.bool q] w fun e w'=>e=.returned (.bool (bop p q))/\w'=w
 c2:∀(vi vf ui uf:zV) (I F J G:List dh) (m:Mem) (w:zW),m.az w->dA m vi vf I F->dA m ui uf J G->I.length<=250->F.length<=250->J.length<=250->G.length<=250 ->
  zC f2 #[.agg #[vi,vf],.agg #[ui,uf]] w fun e w'=>∃ri rf,e=.returned (.agg #[ri,rf])/\zB w w'/\dA (m.grow w w') ri rf (nop (gz I F) (gz J G)).i (nop (gz I F) (gz J G)).rf
 c3:∀(v0 v1:zV) (A B:aK) (m:Mem) (w:zW),m.az w->eD m->aV m v0 A->aV m v1 B->Fits A B ->
  zC f3 #[.agg #[v0],.agg #[v1]] w fun e w'=>∃r C,e=.returned (.agg #[r])/\zB w w'/\aV (m.grow w w') r C/\eP (fun z=>lop (Sem A z) (Sem B z)) C/\C.length<=(A.length+2)*(B.length+2)+1
 e1:∀(args:Array Value) (w:zW),(callFunc f1 args).run prog w=.ok (.enter f1 args) w
 e2:∀(args:Array Value) (w:zW),(callFunc f2 args).run prog w=.ok (.enter f2 args) w
 e3:∀(args:Array Value) (w:zW),(callFunc f3 args).run prog w=.ok (.enter f3 args) w
 ok:∀{x y:NS},fH x->fH y->fH (nop x y)
 has:∀{x y:NS},fH x->fH y->∀u,(nop x y).has u↔pop (x.has u) (y.has u)
 le:∀{x y:NS} {k n:Nat},x.Le k->y.Le n->(nop x y).Le (k+n+4)
 bp:∀p q,bop p q=true↔pop (p=true) (q=true)
 lp:∀p q,lop p q=true↔pop (p=true) (q=true)
theorem Bw{f1 f2 f3:FuncId}{D:Bool->Bool->Bool}{p:NS->NS->NS}{f':Bool->Bool->Bool}{pop:Prop->Prop->Prop}(l:OQ f1 f2 f3 D p f' pop)(vi vf vt:zV)(A:RS)(ui uf ut:zV)(B:RS)(na F nb tb:Nat)(m:Mem)(w:zW)(hm:m.az w)(H:eD m)(ha:gJ m vi vf vt A)(hb:gJ m ui uf ut B)(la:jW A na F)(lb:jW B nb tb)(hn1:na<=250)(hn2:nb<=250)(ht:(F+2)*(tb+2)<=1000000):
 zC 42 #[A.val vi vf vt,B.val ui uf ut,.func (.func f1) #[] #[],.func (.func f2) #[] #[],.func (.func f3) #[] #[]] w fun e w'=>∃s si sf st,e=.returned (s.val si sf st)/\zB w w'/\gJ (m.grow w w') si sf st s/\oK (fun e=>pop ((iV A).has e) ((iV B).has e)) s/\jW s (na+nb+4) ((F+2)*(tb+2)+1):=by
 have hta:F+2<=(F+2)*(tb+2):=Nat.le_mul_of_pos_right _ zo;have htb:tb+2<=(F+2)*(tb+2):=Nat.le_mul_of_pos_left _ zo;have G:=(((Own.start hm).al #[.bool A.dL,.bool A.dS,.bool A.dW,vi,vf,vt] 29).al #[.bool B.dL,.bool B.dS,.bool B.dW,ui,uf,ut] 29).al #[.bool false,.bool false,.bool false,.slice none 0 0,.slice none 0 0,.slice none 0 0] 29;simp only[bB]at G;have o':=zh (fun w' (h:m.az w')=>Bv vi vf vt A m w' h H ha (la.mono zo zo));have n':=zh (fun w' (h:m.az w')=>Bv ui uf ut B m w' h H hb (lb.mono zo zo));have lx:=IL la;have ly:=IL lb;have HT:=zh H;have l:=zh l;obtain⟨aa,ab,ac,ad,ae,af,rfl,rfl,rfl⟩:=ha.dm;obtain⟨ba,bb,bc,bd,be,bf,rfl,rfl,rfl⟩:=hb.dm;unfold RS.val at o' n'⊢;have HO:=zh G;clear G ha hb la lb hta htb;generalize iV A=x at*
 generalize iV B=y at*
 refine au fun R hR=>?_
 go_enter func42,ntmps42
 go_upto_region 1 with(fail)
 refine aW [2,3,4,5,6,10] (fun vs w'=>∃(mk:Mem) (Y V T Q O M:Option Addr) (W U S P N L:Nat),vs=[.func (.func f1) #[] #[],.func (.func f2) #[] #[],.func (.func f3) #[] #[],.p w.heap.size,.p (w.heap.size+1),.p (w.heap.size+1+1)] /\
  gJ mk (.slice Y x.i.length W) (.slice V x.f.length U) (.slice T x.t.length S) x/\gJ mk (.slice Q y.i.length P) (.slice O y.f.length N) (.slice M y.t.length L) y/\m.le mk /\
  Own w m w' mk [.obj (w.heap.size+1) 29 #[.bool y.dL,.bool y.dS,.bool y.dW,.slice Q y.i.length P,.slice O y.f.length N,.slice M y.t.length L],.obj w.heap.size 29 #[.bool x.dL,.bool x.dS,.bool x.dW,.slice Y x.i.length W,.slice V x.f.length U,.slice T x.t.length S],.obj (w.heap.size+1+1) 29 #[.bool false,.bool false,.bool false,.slice none 0 0,.slice none 0 0,.slice none 0 0]]) ?_ ?_
 .intro X hX;refine bE 4 5 (fun j=>[aI.is (·=.agg #[.bool A.dL,.bool A.dS,.bool A.dW,.slice aa A.i.length ab,.slice ac A.f.length ad,.slice ae A.t.length af]),aI.mem m [1] (YB x),aI.is (·=.agg #[.bool B.dL,.bool B.dS,.bool B.dW,.slice ba B.i.length bb,.slice bc B.f.length bd,.slice be B.t.length bf]),aI.mem m [3] (YB y)].getD j aI.any) zk zk ?_ ?_
  .intro i hi o g a q ho c;have HO2:=HO.o.dr.aT c.aF;obtain⟨p0,p1,p2,p3,p4,p5⟩:=HO2.aR.obj.cs6;have pl:=HO2.aR.obj.lt;obtain⟨q0,q1,q2,q3,q4,q5⟩:=HO2.av.obj.cs6;have ql:=HO2.av.obj.lt;rcases(show i=0\/i=1\/i=2\/i=3 by omega)with rfl|rfl|rfl|rfl
   .have e5:=c.k 5;exact qaa
   .have e11:zt a 11 _:=c.d 0 rfl;cases ho;refine we rfl rfl (o'.o q HO2.az) ?_;exact qhd
   .have e6:=c.k 6;exact qaa
   .have e13:zt a 13 _:=c.d 2 rfl;cases ho;refine we rfl rfl (n'.o q HO2.az) ?_;exact qhd
  .intro g a q E;have e2:=E.keep 2 zk;have e3:=E.keep 3 zk;have e4:=E.keep 4 zk;have e5:=E.keep 5 zk;have e6:=E.keep 6 zk;have k':=E.keep 10 zk;have e12:(aI.mem m [1] (YB x)).holds (a.tmps.getD 12 undef) g q:=E.fact 1 _ zo rfl;have e14:(aI.mem m [3] (YB y)).holds (a.tmps.getD 14 undef) g q:=E.fact 3 _ zo rfl;obtain⟨Y,W,V,U,T,S,k1,u⟩:YB _ _ _:=e12;obtain⟨Q,P,O,N,M,L,k2,J⟩:YB _ _ _:=e14;have K:=(HO.o.dr.aT E.aF).az;have u:=u.le (cz7 (es:=[1,3]) K g zS);have J:=J.le (cz7 (es:=[1,3]) K g zS);have I:=dzF K g [1,3];have n:=HO.o.dr.region E.aF g [1,3] (fun d hd=>(E.iQ d qd8).1);have HE:=zh E;generalize m.fJ q g [1,3]=e' at*
   have HK:=zh (zi u (zi J I));clear E u J I K;obtain⟨p0,p1,p2,p3,p4,p5,T',S',R',Q',P',O'⟩:=n.aR.obj.cf6;have pl:=n.aR.obj.lt;obtain⟨q0,q1,q2,q3,q4,q5,qf0,qf1,qf2,qf3,qf4,qf5⟩:=n.av.obj.cf6;have ql:=n.av.obj.lt;have z':=((((((n.aR.set 0 (.bool x.dL)).set 1 (.bool x.dS)).set 2 (.bool x.dW)).set 3 (.slice Y x.i.length W)).set 4 (.slice V x.f.length U)).set 5 (.slice T x.t.length S));have l':=zh ((((((z'.aR.set 0 (.bool y.dL)).set 1 (.bool y.dS)).set 2 (.bool y.dW)).set 3 (.slice Q y.i.length P)).set 4 (.slice O y.f.length N)).set 5 (.slice M y.t.length L));clear n z';refine eQ 4 zk (aM rfl rfl (dx zg ?_));refine eQ 5 zk (aM rfl rfl (dx zg ?_));obtain⟨t,d⟩:=a;obtain rfl:d=[]:=HE.o.defers;refine dB zk (hX.o _ _ HE.o.size ⟨e',Y,V,T,Q,O,M,W,U,S,P,N,L,?_,HK.o.1,HK.o.2.1,HK.o.2.2,l'.o⟩) _;simp only[yL,xB,e2,e3,e4,e5,e6,k']
   rfl
 rintro z2 vs w2-⟨mk,Y,V,T,Q,O,M,W,U,S,P,N,L,rfl,hx,hy,I,G⟩;simp[bz,lk];have HX:=zh (zi hx (zi hy (HT.o.le I)));have HO2:=zh G;have HL:=zh (zi lx ly);have v':(x.t.length+2)*(y.t.length+2)<=(F+2)*(tb+2):=xV (Nat.add_le_add_right lx.t 2) (Nat.add_le_add_right ly.t 2);have hF:Fits x.t y.t:=Fits.of lx.t ly.t ht;have HF:=zh hF;have hli:=lx.i;have hlf:=lx.f;have x':=ly.i;have y':=ly.f;have h':=l.o.le (jP hli hlf) (jP x' y');have hN1:=h'.i;have A':=h'.f;rw[<-NS.sG]at A';clear G hx hy I HO o' n' HT lx ly hF h'
 go_upto_region 2 with(fail)
 refine aW [10] (fun vs w'=>∃(mk':Mem) (s:RS) (ra rc Z:Option Addr) (rb rd rf:Nat),vs=[.p (w.heap.size+1+1)] /\
  gJ mk' (.slice ra s.i.length rb) (.slice rc s.f.length rd) (.slice Z s.t.length rf) s/\oK (fun e=>pop (x.has e) (y.has e)) s/\jW s (na+nb+4) ((F+2)*(tb+2)+1) /\
  Own w m w' mk' [.obj (w.heap.size+1+1) 29 #[.bool s.dL,.bool s.dS,.bool s.dW,.slice ra s.i.length rb,.slice rc s.f.length rd,.slice Z s.t.length rf]]) ?_ ?_
 .intro X hX;refine bE 31 6 (fun j=>[aI.is (·=.func (.func f1) #[] #[]),aI.is (·=.p w.heap.size),aI.is (·=.bool x.dL),aI.is (·=.p (w.heap.size+1)),aI.is (·=.bool y.dL),aI.is (·=.bool (D x.dL y.dL)),aI.is (·=.func (.func f1) #[] #[]),aI.is (·=.pointer (some ⟨w.heap.size,1,none⟩)),aI.is (·=.bool x.dS),aI.is (·=.pointer (some ⟨w.heap.size+1,1,none⟩)),aI.is (·=.bool y.dS),aI.is (·=.bool (D x.dS y.dS)),aI.is (·=.func (.func f1) #[] #[]),aI.is (·=.pointer (some ⟨w.heap.size,2,none⟩)),aI.is (·=.bool x.dW),aI.is (·=.pointer (some ⟨w.heap.size+1,2,none⟩)),aI.is (·=.bool y.dW),aI.is (·=.bool (D x.dW y.dW)),aI.is (·=.func (.func f2) #[] #[]),aI.is (·=.pointer (some ⟨w.heap.size,3,none⟩)),aI.is (·=.agg #[.slice Y x.i.length W,.slice V x.f.length U]),aI.is (·=.pointer (some ⟨w.heap.size+1,3,none⟩)),aI.is (·=.agg #[.slice Q y.i.length P,.slice O y.f.length N]),aI.mem mk [23] (iJ (p x.ns y.ns).i (p x.ns y.ns).rf),aI.is (·=.func (.func f3) #[] #[]),aI.is (·=.pointer (some ⟨w.heap.size,5,none⟩)),aI.is (·=.agg #[.slice T x.t.length S]),aI.is (·=.pointer (some ⟨w.heap.size+1,5,none⟩)),aI.is (·=.agg #[.slice M y.t.length L]),aI.mem mk [29] (Rw (fun z=>f' (Sem x.t z) (Sem y.t z)) ((F+2)*(tb+2)+1)),aI.mem mk [23,29] (uz (fun e=>pop (x.has e) (y.has e)) (na+nb+4) ((F+2)*(tb+2)+1))].getD j aI.any) zk zk ?_ ?_
  .intro i hi o g a q ho c;have HO3:=HO2.o.dr.aT c.aF;have cf1:=l.o.e1;have cf2:=l.o.e2;have cf3:=l.o.e3;obtain⟨p0,p1,p2,p3,p4,p5⟩:=HO3.av.obj.cs6;have pl:=HO3.av.obj.lt;obtain⟨q0,q1,q2,q3,q4,q5⟩:=HO3.obj.cs6;have ql:=HO3.obj.lt;rcases(show i=0\/i=1\/i=2\/i=3\/i=4\/i=5\/i=6\/i=7\/i=8\/i=9\/i=10\/i=11\/i=12\/i=13\/i=14\/i=15\/i=16\/i=17\/i=18\/i=19\/i=20\/i=21\/i=22\/i=23\/i=24\/i=25\/i=26\/i=27\/i=28\/i=29\/i=30 by omega)with rfl|rfl|rfl|rfl|rfl|rfl|rfl|rfl|rfl|rfl|rfl|rfl|rfl|rfl|rfl|rfl|rfl|rfl|rfl|rfl|rfl|rfl|rfl|rfl|rfl|rfl|rfl|rfl|rfl|rfl|rfl
   .have e2:=c.k 2;exact qaa
   .have e5:=c.k 5;exact qaa
   .have e16:zt a 16 _:=c.d 1 rfl;exact qaa
   .have e6:=c.k 6;exact qaa
   .have e18:zt a 18 _:=c.d 3 rfl;exact qaa
   .have e15:zt a 15 _:=c.d 0 rfl;have e17:zt a 17 _:=c.d 2 rfl;have e19:zt a 19 _:=c.d 4 rfl;cases ho;refine we rfl rfl (l.o.c1 x.dL y.dL q) ?_;exact qbN
   .have e2:=c.k 2;exact qaa
   .have e5:=c.k 5;exact qaa
   .have e22:zt a 22 _:=c.d 7 rfl;exact qaa
   .have e6:=c.k 6;exact qaa
   .have e24:zt a 24 _:=c.d 9 rfl;exact qaa
   .have e21:zt a 21 _:=c.d 6 rfl;have e23:zt a 23 _:=c.d 8 rfl;have e25:zt a 25 _:=c.d 10 rfl;cases ho;refine we rfl rfl (l.o.c1 x.dS y.dS q) ?_;exact qbN
   .have e2:=c.k 2;exact qaa
   .have e5:=c.k 5;exact qaa
   .have e28:zt a 28 _:=c.d 13 rfl;exact qaa
   .have e6:=c.k 6;exact qaa
   .have e30:zt a 30 _:=c.d 15 rfl;exact qaa
   .have e27:zt a 27 _:=c.d 12 rfl;have e29:zt a 29 _:=c.d 14 rfl;have e31:zt a 31 _:=c.d 16 rfl;cases ho;refine we rfl rfl (l.o.c1 x.dW y.dW q) ?_;exact qbN
   .have e3:=c.k 3;exact qaa
   .have e5:=c.k 5;exact qaa
   .have e34:zt a 34 _:=c.d 19 rfl;exact qaa
   .have e6:=c.k 6;exact qaa
   .have e36:zt a 36 _:=c.d 21 rfl;exact qaa
   .have e33:zt a 33 _:=c.d 18 rfl;have e35:zt a 35 _:=c.d 20 rfl;have e37:zt a 37 _:=c.d 22 rfl;cases ho;refine we rfl rfl (l.o.c2 _ _ _ _ x.i x.f y.i y.f mk q HO3.az HX.o.1.nums HX.o.2.1.nums zo zo zo zo) ?_;exact qhf
   .have e4:=c.k 4;exact qaa
   .have e5:=c.k 5;exact qaa
   .have e40:zt a 40 _:=c.d 25 rfl;exact qaa
   .have e6:=c.k 6;exact qaa
   .have e42:zt a 42 _:=c.d 27 rfl;exact qaa
   .have e39:zt a 39 _:=c.d 24 rfl;have e41:zt a 41 _:=c.d 26 rfl;have e43:zt a 43 _:=c.d 28 rfl;cases ho;refine we rfl rfl (l.o.c3 _ _ x.t y.t mk q HO3.az HX.o.2.2 HX.o.1.t HX.o.2.1.t HF.o) ?_;rintro e w' ⟨r,C,rfl,hb,hst,hl,hn⟩;exact⟨_,rfl,_,rfl,hb,azh HO3.az hb hst hl zo⟩
   .have e20:zt a 20 _:=c.d 5 rfl;have e26:zt a 26 _:=c.d 11 rfl;have e32:zt a 32 _:=c.d 17 rfl;have e38:(aI.mem mk [23] (iJ (p x.ns y.ns).i (p x.ns y.ns).rf)).holds (a.tmps.getD 38 undef) g q:=c.d 23 rfl;have e44:(aI.mem mk [29] (Rw (fun z=>f' (Sem x.t z) (Sem y.t z)) ((F+2)*(tb+2)+1))).holds (a.tmps.getD 44 undef) g q:=c.d 29 rfl;have f32:=(zY (xs:=a.tmps) (i:=32) (d:=undef)).symm.trans e32;have f20:=(zY (xs:=a.tmps) (i:=20) (d:=undef)).symm.trans e20;have f26:=(zY (xs:=a.tmps) (i:=26) (d:=undef)).symm.trans e26;cases ho;obtain⟨r1,s1,r2,s2,k1,t1⟩:iJ _ _ _ _:=e38;obtain⟨r3,s3,C,k2,t2,l2,n2⟩:Rw _ _ _ _:=e44;have f38:=(zY (xs:=a.tmps) (i:=38) (d:=undef)).symm.trans k1;have f44:=(zY (xs:=a.tmps) (i:=44) (d:=undef)).symm.trans k2;have t1:=t1.le (cz7 (es:=[23,29]) HO3.az g zS);have t2:=bq (cz7 (es:=[23,29]) HO3.az g zS) t2;have hS:oK (fun e=>pop (x.has e) (y.has e)) ⟨D x.dL y.dL,D x.dS y.dS,D x.dW y.dW,(p x.ns y.ns).i,(p x.ns y.ns).rf,C⟩:=bzS (a:=x) (b:=y) pop (l.o.bp _ _) (l.o.bp _ _) (l.o.bp _ _) (l.o.ok x.qQ y.qQ) (l.o.has x.qQ y.qQ) l2.canon (fun z=>by rw[l2.KO];exact l.o.lp _ _);exact aM rfl rfl (aS zg ⟨_,rfl,zR _ _,qU [23,29] (R:=uz _ _ _) g zS (fun d hd=>(c.iQ d qd6).2.2) ⟨_,⟨r1,s1,r2,s2,r3,s3,rfl,⟨t1.i,t1.f,t2⟩⟩,hS,⟨by show(p x.ns y.ns).i.length<=_;unfold RS.ns;omega,by show(p x.ns y.ns).rf.length<=_;unfold RS.ns;omega,n2⟩⟩⟩)
  .intro g a q E;have k':=E.keep 10 zk;have e45:(aI.mem mk [23,29] (uz (fun e=>pop (x.has e) (y.has e)) (na+nb+4) ((F+2)*(tb+2)+1))).holds (a.tmps.getD 45 undef) g q:=E.fact 30 _ zo rfl;obtain⟨s,⟨ra,rb,rc,rd,Z,rf,k1,u⟩,hS,hL⟩:uz _ _ _ _ _:=e45;have n:=HO2.o.dr.region E.aF g [23,29] (fun d hd=>(E.iQ d qd8).1);have HE:=zh E;generalize mk.fJ q g [23,29]=e' at*
   have HK:=zh (zi u (zi hS hL));clear E u hS hL;obtain⟨p0,p1,p2,p3,p4,p5,T',S',R',Q',P',O'⟩:=n.aR.obj.cf6;have pl:=n.aR.obj.lt;have l':=zh ((((((n.aR.set 0 (.bool s.dL)).set 1 (.bool s.dS)).set 2 (.bool s.dW)).set 3 (.slice ra s.i.length rb)).set 4 (.slice rc s.f.length rd)).set 5 (.slice Z s.t.length rf));clear n;refine eQ 31 zk (aM rfl rfl (dx zg ?_));obtain⟨t,d⟩:=a;obtain rfl:d=[]:=HE.o.defers;refine dB zk (hX.o _ _ HE.o.size ⟨e',s,ra,rc,Z,rb,rd,rf,?_,HK.o.1,HK.o.2.1,HK.o.2.2,l'.o.bM.bM⟩) _;simp only[yL,xB,k']
   rfl
 rintro z3 vs w3-⟨mk',s,ra,rc,Z,rb,rd,rf,rfl,hs,hS,hL,G⟩;simp[bz,lk];obtain⟨g0,g1,g2,g3,g4,g5⟩:=G.obj.cs6;have gl:=G.obj.lt;have Hk:=zh (zi G.aF (zi (hs.le G.done) (zi hS hL)));clear G hs hS hL HO2 HX HF HL v' hN1 A';go_wp2;refine yV (v:=.agg #[.bool s.dL,.bool s.dS,.bool s.dW,.slice ra s.i.length rb,.slice rc s.f.length rd,.slice Z s.t.length rf]) (by simp[results,results42,go_sem,g0,g1,g2,g3,g4,g5]) rfl ?_;exact qa0
theorem Sm(p q:Bool)(w:zW):zC 43 #[.bool p,.bool q] w fun e w'=>e=.returned (.bool (p&&q))/\w'=w:=by
 refine au fun R hR=>?_;cases p
 .go_enter func43,ntmps43
  exact qby
 .go_enter func43,ntmps43
  exact qci
theorem fzh:OQ 43 44 45 (fun p q=>(p&&q)) qA (fun p q=>(p&&q)) (fun p q=>p/\q) where
 c1:=Sm
 c2:=fun d e h i I F J G m w c o n v t s r=>K4 d e h i I F J G m w c o n zo zo zo zo
 c3:=fun g f A B m w c ht l k j=>Fe g f A B m w c ht l k j
 e1:=fun _ _=>by go_simp
 e2:=fun _ _=>by go_simp
 e3:=fun _ _=>by go_simp
 ok:=fun b a=>OC b a
 has:=fun b a u=>JA b a u
 le:=fun b a=>(V4 b a).mono zo
 bp:=by intro p q;cases p<;>cases q<;>simp
 lp:=by intro p q;cases p<;>cases q<;>simp
theorem KP(g h d:zV)(A:RS)(k l j:zV)(B:RS)(q n p tb:Nat)(m:Mem)(w:zW)(T:m.az w)(b:eD m)(D:gJ m g h d A)(C:gJ m k l j B)(K:jW A q n)(lb:jW B p tb)(z:q<=250)(y:p<=250)(ht:(n+2)*(tb+2)<=1000000):
 zC 27 #[A.val g h d,B.val k l j] w fun e w'=>∃s u x st,e=.returned (s.val u x st)/\zB w w'/\gJ (m.grow w w') u x st s/\oK (fun e=>(iV A).has e/\(iV B).has e) s/\jW s (q+p+4) ((n+2)*(tb+2)+1):=by
 have r:=(((Own.start T).al #[.bool A.dL,.bool A.dS,.bool A.dW,g,h,d] 29).al #[.bool B.dL,.bool B.dS,.bool B.dW,k,l,j] 29).al #[.bool false,.bool false,.bool false,.slice none 0 0,.slice none 0 0,.slice none 0 0] 29;simp only[bB]at r;have E:=zh (Bw fzh g h d A k l j B q n p tb m _ r.az b D C K lb z y ht);obtain⟨aa,ab,ac,ad,ae,af,rfl,rfl,rfl⟩:=D.dm;obtain⟨ba,bb,bc,bd,be,bf,rfl,rfl,rfl⟩:=C.dm;unfold RS.val at E⊢;have L:=zh r;clear r D C K lb;refine au fun R hR=>?_
 go_enter func27,ntmps27
 go_wp2_with fail
 refine E.o.mono ?_;rintro e w1 ⟨s,u,x,st,rfl,c,hs,hS,hL⟩;obtain⟨J,I,H,G,F,rf,rfl,rfl,rfl⟩:=hs.dm;have a:=L.o.call c;obtain⟨p0,p1,p2,p3,p4,p5,S,Q,P,O,N,M⟩:=a.obj.cf6;have pl:=a.obj.lt;have hO4:=((((((a.set 0 (.bool s.dL)).set 1 (.bool s.dS)).set 2 (.bool s.dW)).set 3 (.slice J s.i.length I)).set 4 (.slice H s.f.length G)).set 5 (.slice F s.t.length rf));obtain⟨Z,Y,X,W,V,U⟩:=hO4.obj.cs6;have gl:=hO4.obj.lt;have Hk:=zh qfG;clear a hO4 hs hS hL E L c;go_wp2;refine yV (v:=.agg #[.bool s.dL,.bool s.dS,.bool s.dW,.slice J s.i.length I,.slice H s.f.length G,.slice F s.t.length rf]) (by simp[results,results27,go_sem,Z,Y,X,W,V,U]) rfl ?_;exact qa0
theorem WW(p q:Bool)(w:zW):zC 164 #[.bool p,.bool q] w fun e w'=>e=.returned (.bool (p||q))/\w'=w:=by
 refine au fun R hR=>?_;cases p
 .go_enter func164,ntmps164
  exact qby
 .go_enter func164,ntmps164
  exact qci
theorem fzV:OQ 164 143 124 (fun p q=>(p||q)) ZC (fun p q=>(p||q)) (fun p q=>p\/q) where
 c1:=WW
 c2:=fun d e h i I F J G m w c o n v t s r=>Hu d e h i I F J G m w c o n zo zo zo zo
 c3:=fun g f A B m w c ht l k j=>BG g f A B m w c ht l k j
 e1:=fun _ _=>by go_simp
 e2:=fun _ _=>by go_simp
 e3:=fun _ _=>by go_simp
 ok:=fun b a=>G9 b a
 has:=fun b a u=>CF _ _ u
 le:=fun b a=>(ZB b a).mono zo
 bp:=by intro p q;cases p<;>cases q<;>simp
 lp:=by intro p q;cases p<;>cases q<;>simp
theorem Zu(g h d:zV)(A:RS)(k l j:zV)(B:RS)(q n p tb:Nat)(m:Mem)(w:zW)(T:m.az w)(b:eD m)(D:gJ m g h d A)(C:gJ m k l j B)(K:jW A q n)(lb:jW B p tb)(z:q<=250)(y:p<=250)(ht:(n+2)*(tb+2)<=1000000):
 zC 121 #[A.val g h d,B.val k l j] w fun e w'=>∃s u x st,e=.returned (s.val u x st)/\zB w w'/\gJ (m.grow w w') u x st s/\oK (fun e=>(iV A).has e\/(iV B).has e) s/\jW s (q+p+4) ((n+2)*(tb+2)+1):=by
 have r:=(((Own.start T).al #[.bool A.dL,.bool A.dS,.bool A.dW,g,h,d] 29).al #[.bool B.dL,.bool B.dS,.bool B.dW,k,l,j] 29).al #[.bool false,.bool false,.bool false,.slice none 0 0,.slice none 0 0,.slice none 0 0] 29;simp only[bB]at r;have E:=zh (Bw fzV g h d A k l j B q n p tb m _ r.az b D C K lb z y ht);obtain⟨aa,ab,ac,ad,ae,af,rfl,rfl,rfl⟩:=D.dm;obtain⟨ba,bb,bc,bd,be,bf,rfl,rfl,rfl⟩:=C.dm;unfold RS.val at E⊢;have L:=zh r;clear r D C K lb;refine au fun R hR=>?_
 go_enter func121,ntmps121
 go_wp2_with fail
 refine E.o.mono ?_;rintro e w1 ⟨s,u,x,st,rfl,c,hs,hS,hL⟩;obtain⟨J,I,H,G,F,rf,rfl,rfl,rfl⟩:=hs.dm;have a:=L.o.call c;obtain⟨p0,p1,p2,p3,p4,p5,S,Q,P,O,N,M⟩:=a.obj.cf6;have pl:=a.obj.lt;have hO4:=((((((a.set 0 (.bool s.dL)).set 1 (.bool s.dS)).set 2 (.bool s.dW)).set 3 (.slice J s.i.length I)).set 4 (.slice H s.f.length G)).set 5 (.slice F s.t.length rf));obtain⟨Z,Y,X,W,V,U⟩:=hO4.obj.cs6;have gl:=hO4.obj.lt;have Hk:=zh qfG;clear a hO4 hs hS hL E L c;go_wp2;refine yV (v:=.agg #[.bool s.dL,.bool s.dS,.bool s.dW,.slice J s.i.length I,.slice H s.f.length G,.slice F s.t.length rf]) (by simp[results,results121,go_sem,Z,Y,X,W,V,U]) rfl ?_;exact qa0
theorem Nf(p q:Bool)(w:zW):zC 88 #[.bool p,.bool q] w fun e w'=>e=.returned (.bool (p && !q))/\w'=w:=by
 refine au fun R hR=>?_;cases p
 .go_enter func88,ntmps88
  exact qby
 .go_enter func88,ntmps88
  exact qci
theorem bz4:OQ 88 89 90 (fun p q=>(p && !q)) gH (fun p q=>(p && !q)) (fun p q=>p/\¬q) where
 c1:=Nf
 c2:=fun d e h i I F J G m w c o n v t s r=>wQ d e I F h i J G m w c o n zo zo zo zo
 c3:=fun g f A B m w c ht l k j=>sJ g f A B m w c ht l k j
 e1:=fun _ _=>by go_simp
 e2:=fun _ _=>by go_simp
 e3:=fun _ _=>by go_simp
 ok:=fun b a=>ji b a
 has:=fun b a u=>iM b a u
 le:=fun b a=>(Ec b a).mono zo
 bp:=by intro p q;cases p<;>cases q<;>simp
 lp:=by intro p q;cases p<;>cases q<;>simp
theorem Pq(g h d:zV)(A:RS)(k l j:zV)(B:RS)(q n p tb:Nat)(m:Mem)(w:zW)(T:m.az w)(b:eD m)(D:gJ m g h d A)(C:gJ m k l j B)(K:jW A q n)(lb:jW B p tb)(z:q<=250)(y:p<=250)(ht:(n+2)*(tb+2)<=1000000):
 zC 59 #[A.val g h d,B.val k l j] w fun e w'=>∃s u x st,e=.returned (s.val u x st)/\zB w w'/\gJ (m.grow w w') u x st s/\oK (fun e=>(iV A).has e/\¬(iV B).has e) s/\jW s (q+p+4) ((n+2)*(tb+2)+1):=by
 have r:=(((Own.start T).al #[.bool A.dL,.bool A.dS,.bool A.dW,g,h,d] 29).al #[.bool B.dL,.bool B.dS,.bool B.dW,k,l,j] 29).al #[.bool false,.bool false,.bool false,.slice none 0 0,.slice none 0 0,.slice none 0 0] 29;simp only[bB]at r;have E:=zh (Bw bz4 g h d A k l j B q n p tb m _ r.az b D C K lb z y ht);obtain⟨aa,ab,ac,ad,ae,af,rfl,rfl,rfl⟩:=D.dm;obtain⟨ba,bb,bc,bd,be,bf,rfl,rfl,rfl⟩:=C.dm;unfold RS.val at E⊢;have L:=zh r;clear r D C K lb;refine au fun R hR=>?_
 go_enter func59,ntmps59
 go_wp2_with fail
 refine E.o.mono ?_;rintro e w1 ⟨s,u,x,st,rfl,c,hs,hS,hL⟩;obtain⟨J,I,H,G,F,rf,rfl,rfl,rfl⟩:=hs.dm;have a:=L.o.call c;obtain⟨p0,p1,p2,p3,p4,p5,S,Q,P,O,N,M⟩:=a.obj.cf6;have pl:=a.obj.lt;have hO4:=((((((a.set 0 (.bool s.dL)).set 1 (.bool s.dS)).set 2 (.bool s.dW)).set 3 (.slice J s.i.length I)).set 4 (.slice H s.f.length G)).set 5 (.slice F s.t.length rf));obtain⟨Z,Y,X,W,V,U⟩:=hO4.obj.cs6;have gl:=hO4.obj.lt;have Hk:=zh qfG;clear a hO4 hs hS hL E L c;go_wp2;refine yV (v:=.agg #[.bool s.dL,.bool s.dS,.bool s.dW,.slice J s.i.length I,.slice H s.f.length G,.slice F s.t.length rf]) (by simp[results,results59,go_sem,Z,Y,X,W,V,U]) rfl ?_;exact qa0
def cze:Option El->Dt
 |none=>.mk 0 0 ⟨#[]⟩ [] [] []
 |some e=>fz5 e
def ezg(o:Option (List UInt8)):ByteArray:=match o with|some x=>kI x|none=>⟨#[]⟩
theorem bz0(o:Option (List UInt8)):ZE o=.tuple #[.string (ezg o),.bool o.isSome]:=rfl
theorem Qx{x:RS}(d:x.dL=false)(c:x.dS=false)(b:x.dW=false)(a:fF x.ns=none){r:Option (List UInt8)}(h:kS (Sem x.t) r):oL x.has (r.map .str):=Ty d c b a h
theorem Ps(P Q O:zV)(s:RS)(m:Mem)(w:zW)(hm:m.az w)(g:eD m)(hs:gJ m P Q O s)(hl:jW s 30000 100000):
 zC 53 #[s.val P Q O] w fun e w'=>∃r,e=.returned (.tuple #[(cze r).val (.slice none 0 0) (.slice none 0 0),.bool r.isSome])/\zB w w'/\oL (iV s).has r:=by
 have b:=((Own.start hm).al #[.bool s.dL,.bool s.dS,.bool s.dW,P,Q,O] 29).al #[.int .i64 0,.int .i64 0,.string ⟨#[]⟩,.slice none 0 0,.slice none 0 0] 76;simp only[bB]at b;have HG:=zh (Bv P Q O s m _ b.az g hs (hl.mono zo zo));have S:=IL hl;obtain⟨a1,b1,a2,b2,a3,b3,rfl,rfl,rfl⟩:=hs.dm;unfold RS.val at HG⊢;have n:=zh b;clear b hs hl;generalize iV s=x at*
 have p:=zh (zi (fun h:x.dL=true=>TA h) (zi (fun(h:x.dL=false) (l:x.dS=true)=>TB h l) (zi (fun(h:x.dL=false) (l:x.dS=false) (E:x.dW=true)=>Tx h l E)
  (zi (fun(h:x.dL=false) (l:x.dS=false) (E:x.dW=false) u (h3:fF x.ns=some u)=>Tz h l E h3) (fun(h:x.dL=false) (l:x.dS=false) (E:x.dW=false) (h3:fF x.ns=none) r (h4:kS (Sem x.t) r)=>Qx h l E h3 h4)))))
 have c':=S.i;have d':=S.f;have B':=S.t;clear S;refine au fun R q=>?_
 go_enter func53,ntmps53
 go_wp2_with fail
 refine HG.o.mono ?_;rintro e w1 ⟨ri,rf,rt,rfl,D,T⟩;have j:=(n.o.call D).av;obtain⟨ra,rb,rc,rd,re,y,rfl,rfl,rfl⟩:=T.dm;obtain⟨p0,p1,p2,p3,p4,p5,Z,Y,X,W,V,U⟩:=j.obj.cf6;have pl:=j.obj.lt;have a:=((((((j.set 0 (.bool x.dL)).set 1 (.bool x.dS)).set 2 (.bool x.dW)).set 3 (.slice ra x.i.length rb)).set 4 (.slice rc x.f.length rd)).set 5 (.slice re x.t.length y));have a:Own _ _ _ _ (.obj _ 29 #[.bool x.dL,.bool x.dS,.bool x.dW,.slice ra x.i.length rb,.slice rc x.f.length rd,.slice re x.t.length y]::_):=a;have HN:=zh (wR _ _ x.i x.f _ _ a.az T.nums c' d');have HL:=zh (fun w' (h:Mem.az _ w')=>sK _ x.t _ w' h (g.le (bzx n.o.az)) T.t zo);have N:=zh a;generalize A:fF (gz x.i x.f)=rn at*
 have k:fF x.ns=rn:=A;rw[k]at p;clear j a HG n D T g A k
 go_wp2_with fail
 refine HN.o.mono ?_;rintro e w2 ⟨rfl,C⟩;have b:=N.o.aT C;have q5:=b.obj.c 5;have q6:=b.obj.lt;have n:=zh b;clear b HN N C p0 p1 p2 p3 p4 p5 Z Y X W V U pl
 go_wp2_with fail
 refine(HL.o _ n.o.az).mono ?_;rintro e w3 ⟨o,rfl,B,ho⟩;rw[bz0];have b:=n.o.aT B;have M:=zh ho;have q0:=b.obj.c 0;have q1:=b.obj.c 1;have q2:=b.obj.c 2;have q6:=b.obj.lt;have b:=b.av;clear HL n B ho q5;generalize x.dL=bn at*
 generalize x.dS=bf at*
 generalize x.dW=bt at*
 cases bn with
 |true=>
  obtain⟨K,J,I,H,G,L,f1,f2,f3,f4⟩:=b.obj.cf5;have F:=b.obj.lt;have a:=((((b.set 0 (.j 1)).set 1 (.j 0)).set 2 (.string ⟨#[]⟩)).set 3 (.n)).set 4 (.n);have a:Own _ _ _ _ (.obj _ 76 #[.int .i64 1,.int .i64 0,.string ⟨#[]⟩,.slice none 0 0,.slice none 0 0]::_):=a;obtain⟨k0,k1,k2,k3,k4⟩:=a.obj.cs5;have d:=zh (zi a.aF (p.o.1 rfl));clear b a;go_wp2;refine yV (v:=.tuple #[.agg #[.int .i64 1,.int .i64 0,.string ⟨#[]⟩,.slice none 0 0,.slice none 0 0],.bool true]) qd1 rfl ?_
  exact q.o _ _ ⟨some .dL,rfl,d.o.1,d.o.2⟩
 |false=>
  cases bf with
  |true=>
   obtain⟨K,J,I,H,G,L,f1,f2,f3,f4⟩:=b.obj.cf5;have F:=b.obj.lt;have a:=((((b.set 0 (.j 2)).set 1 (.j 0)).set 2 (.string ⟨#[]⟩)).set 3 (.n)).set 4 (.n);have a:Own _ _ _ _ (.obj _ 76 #[.int .i64 2,.int .i64 0,.string ⟨#[]⟩,.slice none 0 0,.slice none 0 0]::_):=a;obtain⟨k0,k1,k2,k3,k4⟩:=a.obj.cs5;have d:=zh (zi a.aF (p.o.2.1 rfl rfl));clear b a;go_wp2;refine yV (v:=.tuple #[.agg #[.int .i64 2,.int .i64 0,.string ⟨#[]⟩,.slice none 0 0,.slice none 0 0],.bool true]) qd1 rfl ?_
   exact q.o _ _ ⟨some .dS,rfl,d.o.1,d.o.2⟩
  |false=>
   cases bt with
   |true=>
    obtain⟨K,J,I,H,G,L,f1,f2,f3,f4⟩:=b.obj.cf5;have F:=b.obj.lt;have a:=((((b.set 0 (.j 2)).set 1 (.j 1)).set 2 (.string ⟨#[]⟩)).set 3 (.n)).set 4 (.n);have a:Own _ _ _ _ (.obj _ 76 #[.int .i64 2,.int .i64 1,.string ⟨#[]⟩,.slice none 0 0,.slice none 0 0]::_):=a;obtain⟨k0,k1,k2,k3,k4⟩:=a.obj.cs5;have d:=zh (zi a.aF (p.o.2.2.1 rfl rfl rfl));clear b a;go_wp2;refine yV (v:=.tuple #[.agg #[.int .i64 2,.int .i64 1,.string ⟨#[]⟩,.slice none 0 0,.slice none 0 0],.bool true]) qd1 rfl ?_
    exact q.o _ _ ⟨some .dW,rfl,d.o.1,d.o.2⟩
   |false=>
    cases rn with
    |some u=>
     obtain⟨K,J,I,H,G,L,f1,f2,f3,f4⟩:=b.obj.cf5;have F:=b.obj.lt;have a:=((((b.set 0 (.j 3)).set 1 (.j u)).set 2 (.string ⟨#[]⟩)).set 3 (.n)).set 4 (.n);have a:Own _ _ _ _ (.obj _ 76 #[.int .i64 3,.int .i64 u,.string ⟨#[]⟩,.slice none 0 0,.slice none 0 0]::_):=a;obtain⟨k0,k1,k2,k3,k4⟩:=a.obj.cs5;have d:=zh (zi a.aF (p.o.2.2.2.1 rfl rfl rfl u rfl));clear b a;go_wp2;refine yV (v:=.tuple #[.agg #[.int .i64 3,.int .i64 u,.string ⟨#[]⟩,.slice none 0 0,.slice none 0 0],.bool true]) qd1 rfl ?_
     exact q.o _ _ ⟨some (.num u),rfl,d.o.1,d.o.2⟩
    |none=>
     cases o with
     |some z=>
      have hz:ezg (some z)=kI z:=rfl;rw[hz];obtain⟨K,J,I,H,G,L,f1,f2,f3,f4⟩:=b.obj.cf5;have F:=b.obj.lt;have a:=((((b.set 0 (.j 4)).set 1 (.j 0)).set 2 (.string (kI z))).set 3 (.n)).set 4 (.n);have a:Own _ _ _ _ (.obj _ 76 #[.int .i64 4,.int .i64 0,.string (kI z),.slice none 0 0,.slice none 0 0]::_):=a;obtain⟨k0,k1,k2,k3,k4⟩:=a.obj.cs5;have d:=zh (zi a.aF (p.o.2.2.2.2 rfl rfl rfl rfl (some z) M.o));clear b a;go_wp2;refine yV (v:=.tuple #[.agg #[.int .i64 4,.int .i64 0,.string (kI z),.slice none 0 0,.slice none 0 0],.bool true]) qd1 rfl ?_
      exact q.o _ _ ⟨some (.str z),rfl,d.o.1,d.o.2⟩
     |none=>
      have hz:ezg none=⟨#[]⟩:=rfl;rw[hz];obtain⟨K,J,I,H,G,L,f1,f2,f3,f4⟩:=b.obj.cf5;have F:=b.obj.lt;have a:=((((b.set 0 (.j 0)).set 1 (.j 0)).set 2 (.string ⟨#[]⟩)).set 3 (.n)).set 4 (.n);have a:Own _ _ _ _ (.obj _ 76 #[.int .i64 0,.int .i64 0,.string ⟨#[]⟩,.slice none 0 0,.slice none 0 0]::_):=a;obtain⟨k0,k1,k2,k3,k4⟩:=a.obj.cs5;have d:=zh (zi a.aF (p.o.2.2.2.2 rfl rfl rfl rfl none M.o));clear b a;go_wp2;refine yV (v:=.tuple #[.agg #[.int .i64 0,.int .i64 0,.string ⟨#[]⟩,.slice none 0 0,.slice none 0 0],.bool false]) qd1 rfl ?_;exact q.o _ _ ⟨none,rfl,d.o.1,d.o.2⟩
theorem NM{s:RS}{r:Option El}(h:oL (iV s).has r):mR s = !r.isSome:=by
 cases r with
 |none=>rw[QS h];rfl
 |some e=>rw[QR h];rfl
theorem EY(f g d:zV)(s:RS)(m:Mem)(w:zW)(q:m.az w)(a:eD m)(h:gJ m f g d s)(t:jW s 30000 100000):
 zX 34 #[s.val f g d] w (.bool (mR s)):=by
 have i:=(Own.start q).al #[.bool s.dL,.bool s.dS,.bool s.dW,f,g,d] 29;have j:=zh (Ps f g d s m _ i.az a h t);obtain⟨E,B,D,A,C,z,rfl,rfl,rfl⟩:=h.dm;unfold RS.val at j⊢;have p:=zh i;clear i h;refine au fun R u=>?_
 go_enter func34,ntmps34
 go_wp2_with fail
 refine j.o.mono ?_;rintro e y ⟨r,rfl,c,l⟩;have v:=zh (NM l);have x:=zh (p.o.aT c).aF;unfold Dt.val;generalize r.isSome=b at*
 generalize (cze r).kind=k at*
 generalize (cze r).num=n at*
 generalize (cze r).str=st at*
 clear p j c l;go_wp2;exact u.o _ _ ⟨aP (by rw[v.o]),bY x.o _⟩
theorem Nb(h i g:zV)(A:RS)(k l j:zV)(B:RS)(t q r tb:Nat)(m:Mem)(w:zW)(K:m.az w)(b:eD m)(z:gJ m h i g A)(y:gJ m k l j B)(D:jW A t q)(lb:jW B r tb)(x:t<=250)(v:r<=250)(ht:(q+2)*(tb+2)<=99999):
 zX 48 #[A.val h i g,B.val k l j] w (.bool (Zb A B)):=by
 have n:=((Own.start K).al #[.bool A.dL,.bool A.dS,.bool A.dW,h,i,g] 29).al #[.bool B.dL,.bool B.dS,.bool B.dW,k,l,j] 29;simp only[bB]at n;have C:=zh (Pq h i g A k l j B t q r tb m _ n.az b z y D lb x v zo);obtain⟨aa,ab,ac,ad,ae,Z,rfl,rfl,rfl⟩:=z.dm;obtain⟨Y,X,W,V,U,T,rfl,rfl,rfl⟩:=y.dm;unfold RS.val at C⊢;have G:=zh n;clear n z y D lb;refine au fun R hR=>?_
 go_enter func48,ntmps48
 go_wp2_with fail
 refine C.o.mono ?_;rintro e H ⟨s,I,J,st,rfl,d,u,E,F⟩;have a:=G.o.call d;have p:=zh (EY I J st s _ H a.az (b.le a.ext.1) u (F.mono zo zo));rw[WG E]at p;obtain⟨Q,P,O,N,M,rf,rfl,rfl,rfl⟩:=u.dm;unfold RS.val at p;have f:=zh a;clear C G d u E F a
 go_wp2_with fail
 refine p.o.mono ?_;rintro e L ⟨rfl,c⟩;have HB:=zh (f.o.aT c).aF;clear p f c;generalize Zb A B=S at*
 exact qaD
def RB(a b:RS)(c:Int):Prop:=(a.iB/\b.iB/\mX a.has b.has c)\/(¬(a.iB/\b.iB)/\c=0)
theorem BM:prog.eqGuardType prog.depth 211=false:=by kernel_rfl
theorem BC(a b d c:Bool)(w:zW):(Op.equalIn 10000 211 (.agg #[.bool a,.bool b]) (.agg #[.bool d,.bool c])).run prog w=.ok (a==d&&b==c) w:=by
 cases a<;>cases b<;>cases d<;>cases c<;>kernel_rfl
theorem dz2(a b c d e f:Bool)(w:zW):(Instr.index 212 (.agg #[.bool a,.bool b,.bool c,.bool d,.bool e,.bool f]) (.j 0)).run prog w=.ok (.agg #[.bool a,.bool b]) w:=by kernel_rfl
theorem dz1(a b c d e f:Bool)(w:zW):(Instr.index 212 (.agg #[.bool a,.bool b,.bool c,.bool d,.bool e,.bool f]) (.j 1)).run prog w=.ok (.agg #[.bool c,.bool d]) w:=by kernel_rfl
theorem dz0(a b c d e f:Bool)(w:zW):(Instr.index 212 (.agg #[.bool a,.bool b,.bool c,.bool d,.bool e,.bool f]) (.j 2)).run prog w=.ok (.agg #[.bool e,.bool f]) w:=by kernel_rfl
theorem AZ(O P N:zV)(A:RS)(S T Q:zV)(B:RS)(na U nb tb:Nat)(m:Mem)(w:zW)(hm:m.az w)(j:eD m)(ha:gJ m O P N A)(hb:gJ m S T Q B)(la:jW A na U)(lb:jW B nb tb)(Z:na<=250)(Y:nb<=250)(ht:(U+2)*(tb+2)<=900000):
 zC 133 #[A.val O P N,B.val S T Q] w fun e w'=>∃c,e=.returned (.j c)/\zB w w'/\RB A B c:=by
 have t':U+2<=(U+2)*(tb+2):=Nat.le_mul_of_pos_right _ zo;have s':tb+2<=(U+2)*(tb+2):=Nat.le_mul_of_pos_left _ zo;have W:(A.t.length+2)*(B.t.length+2)<=900000:=yJ (xV (Nat.add_le_add_right la.t 2) (Nat.add_le_add_right lb.t 2)) ht;have a:=((Own.start hm).al #[.bool A.dL,.bool A.dS,.bool A.dW,O,P,N] 29).al #[.bool B.dL,.bool B.dS,.bool B.dW,S,T,Q] 29;simp only[bB]at a;have j':=zh (rP O P N A m _ a.az j ha (la.mono zo zo));have v:=zh (fun w' (h:m.az w')=>rP S T Q B m w' h j hb (lb.mono zo zo));have HN:=zh (fun w' (h:m.az w')=>J3 O P S T A.i A.f B.i B.f m w' h ha.nums hb.nums (yJ la.i Z) (yJ la.f Z) (yJ lb.i Y) (yJ lb.f Y));have HL:=zh (fun w' (h:m.az w')=>pV N Q A.t B.t m w' h j ha.t hb.t W);obtain⟨a1,b1,a2,b2,a3,b3,rfl,rfl,rfl⟩:=ha.dm;obtain⟨c1,d1,c2,d2,c3,d3,rfl,rfl,rfl⟩:=hb.dm;unfold RS.val;have g:=zh a;clear a ha hb j t' s' W ht;refine au fun R hR=>?_
 go_enter func133,ntmps133
 go_wp2_with fail
 refine j'.o.mono ?_;rintro e w1 ⟨rfl,g'⟩;have a:=g.o.aT g';clear j' g g';by_cases p:A.iB
 case neg=>
  rw[aG p];have y:=zh a.aF;have x:=zh (show RB A B 0 from .inr ⟨fun h=>p h.1,rfl⟩);clear a p v HN HL;go_wp2;exact hR.o _ _ ⟨0,rfl,y.o,x.o⟩
 rw[aN p];have HA:=zh p;clear p;obtain⟨q0,E,D,C,q4,q5⟩:=a.obj.cs6;have r:=a.obj.lt;have g:=zh a;clear a
 go_wp2_with fail
 refine(v.o _ g.o.az).mono ?_;rintro e w2 ⟨rfl,f'⟩;have a:=g.o.aT f';clear v g f' q0 E D C q4 q5 r;by_cases l:B.iB
 case neg=>
  rw[aG l];have y:=zh a.aF;have x:=zh (show RB A B 0 from .inr ⟨fun h=>l h.2,rfl⟩);clear a l HN HL;go_wp2;exact hR.o _ _ ⟨0,rfl,y.o,x.o⟩
 rw[aN l];have G:=zh (fun(c:Int) (h:mX A.has B.has c)=>show RB A B c from .inl ⟨HA.o,l,h⟩);clear l HA;have n':=zh (fun(h:A.dL≠B.dL)=>G.o _ (Ra h));have m':=zh (fun(u:A.dL=B.dL) (h:A.dS≠B.dS)=>G.o _ (Rb u h));have HE3:=zh (fun(u:A.dL=B.dL) (q:A.dS=B.dS) (h:A.dW≠B.dW)=>G.o _ (Q7 u q h));have v':=zh (fun(u:A.dL=B.dL) (q:A.dS=B.dS) (F:A.dW=B.dW) (h:rz A.ns B.ns≠0)=>G.o _ (Q9 u q F h));have u':=zh (fun(u:A.dL=B.dL) (q:A.dS=B.dS) (F:A.dW=B.dW) (h:rz A.ns B.ns=0) (c:Int) (k:gY (Sem A.t) (Sem B.t) c)=>G.o _ (Q8 u q F h k));have a':rz (gz A.i A.f) (gz B.i B.f)=rz A.ns B.ns:=rfl;rw[a']at HN;clear G a';generalize RB A B=CS at*
 generalize rz A.ns B.ns=cn at*
 generalize gY (Sem A.t) (Sem B.t)=CI at*
 generalize A.dL=M at*
 generalize A.dS=L at*
 generalize A.dW=K at*
 generalize B.dL=J at*
 generalize B.dS=I at*
 generalize B.dW=H at*
 have q0:=a.obj.c 0;have E:=a.obj.c 1;have D:=a.obj.c 2;have r:=a.obj.lt;have p0:=a.av.obj.c 0;have p1:=a.av.obj.c 1;have p2:=a.av.obj.c 2;have V:=a.av.obj.lt;have g:=zh a;clear a;go_wp2;refine aB [2,3,32,33] (fun n vs wr=>∃k:Nat,k<=3/\n=3-k/\vs=[.p w.heap.size,.p (w.heap.size+1),.agg #[.bool M,.bool J,.bool L,.bool I,.bool K,.bool H],.j k] /\
  (1<=k->M=J)/\(2<=k->L=I)/\(3<=k->K=H)/\Own w m wr m [.obj (w.heap.size+1) 29 #[.bool J,.bool I,.bool H,.slice c1 B.i.length d1,.slice c2 B.f.length d2,.slice c3 B.t.length d3],.obj w.heap.size 29 #[.bool M,.bool L,.bool K,.slice a1 A.i.length b1,.slice a2 A.f.length b2,.slice a3 A.t.length b3]]) ?_ ?_
 .exact⟨_,0,zo,rfl,rfl,fun h=>zo,fun h=>zo,fun h=>zo,g.o⟩
 rintro X z n vs wr hX-⟨k,hk,rfl,rfl,q,F,h3,a⟩;clear g q0 E D r p0 p1 p2 V;simp[bz,lk];have H1:=zh q;have H2:=zh F;have H3:=zh h3;have g:=zh a;clear q F h3;rcases(show k=0\/k=1\/k=2\/k=3 by omega)with rfl|rfl|rfl|rfl
 .have b:=a.al #[.bool M,.bool J] 211;have E:=b.obj.c 0;have D:=b.obj.c 1;have C:=b.obj.lt;have HO2:=zh b.tail;have hq:=BC;have c':=BM;have b':=dz2;clear a b;cases M<;>cases J
  all_goals go_wp2
  .exact qcr
  .exact hR.o _ _ ⟨_,rfl,HO2.o.aF,n'.o zD⟩
  .exact hR.o _ _ ⟨_,rfl,HO2.o.aF,n'.o zD⟩
  .exact qcr
 .have b:=a.al #[.bool L,.bool I] 211;have E:=b.obj.c 0;have D:=b.obj.c 1;have C:=b.obj.lt;have HO2:=zh b.tail;have hq:=BC;have c':=BM;have b':=dz1;clear a b;cases L<;>cases I
  all_goals go_wp2
  .exact qcl
  .exact hR.o _ _ ⟨_,rfl,HO2.o.aF,m'.o (H1.o zo) zD⟩
  .exact hR.o _ _ ⟨_,rfl,HO2.o.aF,m'.o (H1.o zo) zD⟩
  .exact qcl
 .have b:=a.al #[.bool K,.bool H] 211;have E:=b.obj.c 0;have D:=b.obj.c 1;have C:=b.obj.lt;have HO2:=zh b.tail;have hq:=BC;have c':=BM;have b':=dz0;clear a b;cases K<;>cases H
  all_goals go_wp2
  .exact qcf
  .exact qda
  .exact qda
  .exact qcf
 .have C:=a.obj.c 3;have q4:=a.obj.c 4;have r:=a.obj.lt;have p3:=a.av.obj.c 3;have p4:=a.av.obj.c 4;have V:=a.av.obj.lt;clear a
  go_wp2_with fail
  refine(HN.o _ g.o.az).mono ?_;rintro e w4 ⟨rfl,e'⟩;have d:=g.o.aT e';clear HN g e' C q4 r p3 p4 V;by_cases s:cn=0
  .subst s;have q5:=d.obj.c 5;have r:=d.obj.lt;have p5:=d.av.obj.c 5;have V:=d.av.obj.lt;have g:=zh d;clear d
   go_wp2_with fail
   refine(HL.o _ g.o.az).mono ?_;rintro e w5 ⟨c,rfl,d',s⟩;have y:=zh (g.o.aT d').aF;have x:=zh (u'.o (H1.o zo) (H2.o zo) (H3.o zo) zS c s);clear HL g d' q5 r p5 V s;go_wp2;exact hR.o _ _ ⟨_,rfl,y.o,x.o⟩
  .have x:=zh (v'.o (H1.o zo) (H2.o zo) (H3.o zo) s);have y:=zh d.aF;have N':(cn != 0)=true:=by simpa using s
   clear d s HL;go_wp2;exact hR.o _ _ ⟨_,rfl,y.o,x.o⟩
theorem UR(m:Mem)(w:zW)(_:m.az w):
 zC 38 #[] w fun e w'=>∃r,e=.returned (.agg #[r])/\zB w w'/\aV (m.grow w w') r allT:=by
 refine(Yw w).mono ?_;rintro e w' ⟨c,g,rfl,h,b,f,j,a,d⟩;refine⟨_,rfl,h,?_⟩;refine⟨some ⟨g,0,none⟩,1,rfl,zI _,by simp[maxLen],fun _=>⟨g,0,rfl,fun i hi=>?_⟩⟩;obtain rfl:i=0:=by simp[allT]at hi;omega
 refine⟨gQ f (d.cell (i:=0) rfl),.slice (some ⟨c,0,none⟩) 1 1,gQ f (d.cell (i:=1) rfl),?_⟩;refine⟨some ⟨c,0,none⟩,1,rfl,zI _,by simp[maxLen],fun _=>⟨c,0,rfl,fun i hi=>?_⟩⟩;obtain rfl:i=0:=by simp[allT]at hi;omega
 exact⟨gQ b (a.cell (i:=0) rfl),gQ b (a.cell (i:=1) rfl),gQ b (a.cell (i:=2) rfl),by simp[allT]⟩
def mW:RS:=⟨true,true,true,l7,LK,allT⟩
theorem czW:mW=⟨true,true,true,OE.i,OE.rf,allT⟩:=by rw[azx,Wi];rfl
theorem Av:oK Ob mW:=by
 rw[czW];exact qO (by simp[Ob]) (by simp[Ob]) (by simp[Ob]) OD bzg V5.canon (fun w=>by simp[bzf,Ob])
theorem czV:jW mW 1 1:=⟨zI _,zI _,zI _⟩
theorem DX(m:Mem)(w:zW)(M:m.az w):
 zC 20 #[] w fun e w'=>∃t u s,e=.returned (mW.val t u s)/\zB w w'/\gJ (m.grow w w') t u s mW:=by
 have j:=(Own.start M).al #[.bool false,.bool false,.bool false,.slice none 0 0,.slice none 0 0,.slice none 0 0] 29;have D:=zh (K5 m _ j.az);have C:=zh j;clear j;refine au fun R N=>?_
 go_enter func20,ntmps20
 go_wp2_with fail
 refine D.o.mono ?_;rintro e F ⟨P,rf,rfl,q,l⟩;have n:=C.o.call q;have B:=zh (UR _ F n.az);obtain⟨a,c,b,d,rfl,rfl⟩:=l.dm;have h:=zh (zi l n);clear D C q l n
 go_wp2_with fail
 refine B.o.mono ?_;rintro e E ⟨O,rfl,p,k⟩;have j:=h.o.2.call p;have r:=h.o.1.le (bzx h.o.2.az (w:=E));obtain⟨y,x,rfl⟩:=wG k;obtain⟨X,W,V,U,T,S,Z,f1,f2,f3,f4,Y⟩:=j.obj.cf6;have Q:=j.obj.lt;have g:=(((((j.set 0 (.bool true)).set 1 (.bool true)).set 2 (.bool true)).set 3 (.slice a l7.length c)).set 4 (.slice b LK.length d)).set 5 (.slice y allT.length x);obtain⟨L,K,J,I,H,G⟩:=g.obj.cs6;have z:gJ _ _ _ _ mW:=⟨r.i,r.f,k⟩;have A:=zh (zi g.aF (z.le g.done));clear j g z r k p B h;go_wp2;refine yV (v:=.agg #[.bool true,.bool true,.bool true,.slice a l7.length c,.slice b LK.length d,.slice y allT.length x]) (by simp[results,results20,go_sem,L,K,J,I,H,G]) rfl ?_;exact N.o _ _ ⟨_,_,_,rfl,A.o.1,A.o.2⟩
end Cl
