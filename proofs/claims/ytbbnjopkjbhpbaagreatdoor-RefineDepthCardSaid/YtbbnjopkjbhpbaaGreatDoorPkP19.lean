/- Lemmas for the proofs of chapter 11. -/
import Derived.Test.YtbbnjopkjbhpbaaGreatDoorPkP17
import Derived.Test.YtbbnjopkjbhpbaaGreatDoorPkP16
import Derived.Test.YtbbnjopkjbhpbaaGreatDoorPkP18
set_option maxRecDepth 100000
set_option maxHeartbeats 16000000
namespace Cl
open Go Go.RowKit Go.Proofs Tryz
def Sj(s:RS)(M:Mem)(v:zV):Prop:=∃g e d c b a,v=.agg #[.bool s.dI,.bool s.dM,.bool s.dO,.slice g s.i.length e,.slice d s.f.length c,.slice b s.t.length a]/\dD M (.slice g s.i.length e) (.slice d s.f.length c) (.slice b s.t.length a) s
theorem Iz{M:Mem}{i j g:zV}{s:RS}(h:dD M i j g s):Sj s M (s.val i j g):=by
 obtain⟨a,b,c,d,e,f,rfl,rfl,rfl⟩:=h.df;exact⟨a,b,c,d,e,f,rfl,h⟩
theorem Sj.le{s:RS}{m m':Mem}(h:m.le m'){v:zV}(k:Sj s m v):Sj s m' v:=by
 obtain⟨a,b,c,d,e,f,i,g⟩:=k;exact⟨a,b,c,d,e,f,i,g.le h⟩
def qM(p:El->Prop)(n t:Nat)(M:Mem)(v:zV):Prop:=∃s,Sj s M v/\jT p s/\jS s n t
structure Pj (f1 f2 f3:FuncId) (bop:Bool->Bool->Bool) (nop:NS->NS->NS) (lop:Bool->Bool->Bool) (pop:Prop->Prop->Prop):Prop where
 c1:∀p q w,zC f1 #[.bool p,.bool q] w fun e w'=>e=.returned (.bool (bop p q))/\w'=w
 c2:∀(vi vf ui uf:zV) (I F J G:List dm) (m:Mem) (w:zW),m.ay w->dH m vi vf I F->dH m ui uf J G->I.length<=250->F.length<=250->J.length<=250->G.length<=250 ->
  zC f2 #[.agg #[vi,vf],.agg #[ui,uf]] w fun e w'=>∃ri rf,e=.returned (.agg #[ri,rf])/\zB w w'/\dH (m.grow w w') ri rf (nop (gG I F) (gG J G)).i (nop (gG I F) (gG J G)).rf
 c3:∀(v0 v1:zV) (A B:aK) (m:Mem) (w:zW),m.ay w->dV m->aU m v0 A->aU m v1 B->Fits A B ->
  zC f3 #[.agg #[v0],.agg #[v1]] w fun e w'=>∃r C,e=.returned (.agg #[r])/\zB w w'/\aU (m.grow w w') r C/\dw (fun z=>lop (Sem A z) (Sem B z)) C/\C.length<=(A.length+2)*(B.length+2)+1
 e1:∀(args:Array Value) (w:zW),(callFunc f1 args).run prog w=.ok (.enter f1 args) w
 e2:∀(args:Array Value) (w:zW),(callFunc f2 args).run prog w=.ok (.enter f2 args) w
 e3:∀(args:Array Value) (w:zW),(callFunc f3 args).run prog w=.ok (.enter f3 args) w
 ok:∀{x y:NS},fT x->fT y->fT (nop x y)
 has:∀{x y:NS},fT x->fT y->∀u,(nop x y).has u↔pop (x.has u) (y.has u)
 le:∀{x y:NS} {k n:Nat},x.Le k->y.Le n->(nop x y).Le (k+n+4)
 bp:∀p q,bop p q=true↔pop (p=true) (q=true)
 lp:∀p q,lop p q=true↔pop (p=true) (q=true)
theorem Ca{f1 f2 f3:FuncId}{u:Bool->Bool->Bool}{n:NS->NS->NS}{e':Bool->Bool->Bool}{pop:Prop->Prop->Prop}(g:Pj f1 f2 f3 u n e' pop)(vi vf vt:zV)(A:RS)(ui uf ut:zV)(B:RS)(na D nb tb:Nat)(m:Mem)(w:zW)(hm:m.ay w)(G:dV m)(ha:dD m vi vf vt A)(hb:dD m ui uf ut B)(la:jS A na D)(lb:jS B nb tb)(hn1:na<=250)(hn2:nb<=250)(ht:(D+2)*(tb+2)<=1000000):
 zC 42 #[A.val vi vf vt,B.val ui uf ut,.func (.func f1) #[] #[],.func (.func f2) #[] #[],.func (.func f3) #[] #[]] w fun e w'=>∃s si sf st,e=.returned (s.val si sf st)/\zB w w'/\dD (m.grow w w') si sf st s/\jT (fun e=>pop ((iV A).has e) ((iV B).has e)) s/\jS s (na+nb+4) ((D+2)*(tb+2)+1):=by
 have hta:D+2<=(D+2)*(tb+2):=Nat.le_mul_of_pos_right _ zo;have htb:tb+2<=(D+2)*(tb+2):=Nat.le_mul_of_pos_left _ zo;have F:=(((Own.start hm).al #[.bool A.dI,.bool A.dM,.bool A.dO,vi,vf,vt] 29).al #[.bool B.dI,.bool B.dM,.bool B.dO,ui,uf,ut] 29).al #[.bool false,.bool false,.bool false,.slice none 0 0,.slice none 0 0,.slice none 0 0] 29;simp only[bC]at F;have n':=zh (fun w' (h:m.ay w')=>BZ vi vf vt A m w' h G ha (la.mono zo zo));have m':=zh (fun w' (h:m.ay w')=>BZ ui uf ut B m w' h G hb (lb.mono zo zo));have lx:=Jt la;have ly:=Jt lb;have HT:=zh G;have g:=zh g;obtain⟨aa,ab,ac,ad,ae,af,rfl,rfl,rfl⟩:=ha.df;obtain⟨ba,bb,bc,bd,be,bf,rfl,rfl,rfl⟩:=hb.df;unfold RS.val at n' m'⊢;have HO:=zh F;clear F ha hb la lb hta htb;generalize iV A=x at*
 generalize iV B=y at*
 refine au fun R hR=>?_
 go_enter func42,ntmps42
 go_upto_region 1 with(fail)
 refine aV [2,3,4,5,6,10] (fun vs w'=>∃(mk:Mem) (W U S P N L:Option Addr) (V T Q O M K:Nat),vs=[.func (.func f1) #[] #[],.func (.func f2) #[] #[],.func (.func f3) #[] #[],.pointer (some ⟨w.heap.size,0,none⟩),.pointer (some ⟨w.heap.size+1,0,none⟩),.pointer (some ⟨w.heap.size+1+1,0,none⟩)] /\
  dD mk (.slice W x.i.length V) (.slice U x.f.length T) (.slice S x.t.length Q) x/\dD mk (.slice P y.i.length O) (.slice N y.f.length M) (.slice L y.t.length K) y/\m.le mk /\
  Own w m w' mk [.obj (w.heap.size+1) 29 #[.bool y.dI,.bool y.dM,.bool y.dO,.slice P y.i.length O,.slice N y.f.length M,.slice L y.t.length K],.obj w.heap.size 29 #[.bool x.dI,.bool x.dM,.bool x.dO,.slice W x.i.length V,.slice U x.f.length T,.slice S x.t.length Q],.obj (w.heap.size+1+1) 29 #[.bool false,.bool false,.bool false,.slice none 0 0,.slice none 0 0,.slice none 0 0]]) ?_ ?_
 .intro X hX;refine bF 4 5 (fun j=>[aI.is (·=.agg #[.bool A.dI,.bool A.dM,.bool A.dO,.slice aa A.i.length ab,.slice ac A.f.length ad,.slice ae A.t.length af]),aI.mem m [1] (Sj x),aI.is (·=.agg #[.bool B.dI,.bool B.dM,.bool B.dO,.slice ba B.i.length bb,.slice bc B.f.length bd,.slice be B.t.length bf]),aI.mem m [3] (Sj y)].getD j aI.any) zk zk ?_ ?_
  .intro i hi o win a p ho c;have HO2:=HO.o.dr.aS c.az;obtain⟨p0,p1,p2,p3,p4,p5⟩:=HO2.aP.obj.cs6;have pl:=HO2.aP.obj.lt;obtain⟨q0,q1,q2,q3,q4,q5⟩:=HO2.av.obj.cs6;have ql:=HO2.av.obj.lt;rcases(show i=0\/i=1\/i=2\/i=3 by omega)with rfl|rfl|rfl|rfl
   .have e5:=c.k 5;exact qaa
   .have e11:zt a 11 _:=c.d 0 rfl;cases ho;refine we rfl rfl (n'.o p HO2.ay) ?_;exact qhx
   .have e6:=c.k 6;exact qaa
   .have e13:zt a 13 _:=c.d 2 rfl;cases ho;refine we rfl rfl (m'.o p HO2.ay) ?_;exact qhx
  .intro win a p E;have e2:=E.keep 2 zk;have e3:=E.keep 3 zk;have e4:=E.keep 4 zk;have e5:=E.keep 5 zk;have e6:=E.keep 6 zk;have j':=E.keep 10 zk;have e12:(aI.mem m [1] (Sj x)).holds (a.tmps.getD 12 undef) win p:=E.fact 1 _ zo rfl;have e14:(aI.mem m [3] (Sj y)).holds (a.tmps.getD 14 undef) win p:=E.fact 3 _ zo rfl;obtain⟨W,V,U,T,S,Q,k1,q⟩:Sj _ _ _:=e12;obtain⟨P,O,N,M,L,K,k2,I⟩:Sj _ _ _:=e14;have J:=(HO.o.dr.aS E.az).ay;have q:=q.le (Mem_wins_le (es:=[1,3]) J win zS);have I:=I.le (Mem_wins_le (es:=[1,3]) J win zS);have H:=Mem_le_wins J win [1,3];have l:=HO.o.dr.region E.az win [1,3] (fun d hd=>(E.iZ d qec).1);have HE:=zh E;generalize m.fJ p win [1,3]=d' at*
   have HK:=zh (zi q (zi I H));clear E q I H J;obtain⟨p0,p1,p2,p3,p4,p5,S',R',Q',P',O',N'⟩:=l.aP.obj.cf6;have pl:=l.aP.obj.lt;obtain⟨q0,q1,q2,q3,q4,q5,qf0,qf1,qf2,qf3,qf4,qf5⟩:=l.av.obj.cf6;have ql:=l.av.obj.lt;have y':=((((((l.aP.set 0 (.bool x.dI)).set 1 (.bool x.dM)).set 2 (.bool x.dO)).set 3 (.slice W x.i.length V)).set 4 (.slice U x.f.length T)).set 5 (.slice S x.t.length Q));have k':=zh ((((((y'.aP.set 0 (.bool y.dI)).set 1 (.bool y.dM)).set 2 (.bool y.dO)).set 3 (.slice P y.i.length O)).set 4 (.slice N y.f.length M)).set 5 (.slice L y.t.length K));clear l y';refine dX 4 zk (aJ rfl rfl (bT zg ?_));refine dX 5 zk (aJ rfl rfl (bT zg ?_));obtain⟨t,d⟩:=a;obtain rfl:d=[]:=HE.o.defers;refine dx zk (hX.o _ _ HE.o.size ⟨d',W,U,S,P,N,L,V,T,Q,O,M,K,?_,HK.o.1,HK.o.2.1,HK.o.2.2,k'.o⟩) _;simp only[yL,xB,e2,e3,e4,e5,e6,j']
   rfl
 rintro z2 vs w2-⟨mk,W,U,S,P,N,L,V,T,Q,O,M,K,rfl,hx,hy,H,F⟩;simp[bB,lk];have HX:=zh (zi hx (zi hy (HT.o.le H)));have HO2:=zh F;have HL:=zh (zi lx ly);have u':(x.t.length+2)*(y.t.length+2)<=(D+2)*(tb+2):=xV (Nat.add_le_add_right lx.t 2) (Nat.add_le_add_right ly.t 2);have hF:Fits x.t y.t:=Fits.of lx.t ly.t ht;have HF:=zh hF;have hli:=lx.i;have hlf:=lx.f;have v':=ly.i;have x':=ly.f;have g':=g.o.le (jy hli hlf) (jy v' x');have hN1:=g'.i;have z':=g'.f;rw[<-NS.rC]at z';clear F hx hy H HO n' m' HT lx ly hF g'
 go_upto_region 2 with(fail)
 refine aV [10] (fun vs w'=>∃(mk':Mem) (s:RS) (ra rc Y:Option Addr) (rb Z rf:Nat),vs=[.pointer (some ⟨w.heap.size+1+1,0,none⟩)] /\
  dD mk' (.slice ra s.i.length rb) (.slice rc s.f.length Z) (.slice Y s.t.length rf) s/\jT (fun e=>pop (x.has e) (y.has e)) s/\jS s (na+nb+4) ((D+2)*(tb+2)+1) /\
  Own w m w' mk' [.obj (w.heap.size+1+1) 29 #[.bool s.dI,.bool s.dM,.bool s.dO,.slice ra s.i.length rb,.slice rc s.f.length Z,.slice Y s.t.length rf]]) ?_ ?_
 .intro X hX;refine bF 31 6 (fun j=>[aI.is (·=.func (.func f1) #[] #[]),aI.is (·=.pointer (some ⟨w.heap.size,0,none⟩)),aI.is (·=.bool x.dI),aI.is (·=.pointer (some ⟨w.heap.size+1,0,none⟩)),aI.is (·=.bool y.dI),aI.is (·=.bool (u x.dI y.dI)),aI.is (·=.func (.func f1) #[] #[]),aI.is (·=.pointer (some ⟨w.heap.size,1,none⟩)),aI.is (·=.bool x.dM),aI.is (·=.pointer (some ⟨w.heap.size+1,1,none⟩)),aI.is (·=.bool y.dM),aI.is (·=.bool (u x.dM y.dM)),aI.is (·=.func (.func f1) #[] #[]),aI.is (·=.pointer (some ⟨w.heap.size,2,none⟩)),aI.is (·=.bool x.dO),aI.is (·=.pointer (some ⟨w.heap.size+1,2,none⟩)),aI.is (·=.bool y.dO),aI.is (·=.bool (u x.dO y.dO)),aI.is (·=.func (.func f2) #[] #[]),aI.is (·=.pointer (some ⟨w.heap.size,3,none⟩)),aI.is (·=.agg #[.slice W x.i.length V,.slice U x.f.length T]),aI.is (·=.pointer (some ⟨w.heap.size+1,3,none⟩)),aI.is (·=.agg #[.slice P y.i.length O,.slice N y.f.length M]),aI.mem mk [23] (iR (n x.ns y.ns).i (n x.ns y.ns).rf),aI.is (·=.func (.func f3) #[] #[]),aI.is (·=.pointer (some ⟨w.heap.size,5,none⟩)),aI.is (·=.agg #[.slice S x.t.length Q]),aI.is (·=.pointer (some ⟨w.heap.size+1,5,none⟩)),aI.is (·=.agg #[.slice L y.t.length K]),aI.mem mk [29] (Sm (fun z=>e' (Sem x.t z) (Sem y.t z)) ((D+2)*(tb+2)+1)),aI.mem mk [23,29] (qM (fun e=>pop (x.has e) (y.has e)) (na+nb+4) ((D+2)*(tb+2)+1))].getD j aI.any) zk zk ?_ ?_
  .intro i hi o win a p ho c;have HO3:=HO2.o.dr.aS c.az;have cf1:=g.o.e1;have cf2:=g.o.e2;have cf3:=g.o.e3;obtain⟨p0,p1,p2,p3,p4,p5⟩:=HO3.av.obj.cs6;have pl:=HO3.av.obj.lt;obtain⟨q0,q1,q2,q3,q4,q5⟩:=HO3.obj.cs6;have ql:=HO3.obj.lt;rcases(show i=0\/i=1\/i=2\/i=3\/i=4\/i=5\/i=6\/i=7\/i=8\/i=9\/i=10\/i=11\/i=12\/i=13\/i=14\/i=15\/i=16\/i=17\/i=18\/i=19\/i=20\/i=21\/i=22\/i=23\/i=24\/i=25\/i=26\/i=27\/i=28\/i=29\/i=30 by omega)with rfl|rfl|rfl|rfl|rfl|rfl|rfl|rfl|rfl|rfl|rfl|rfl|rfl|rfl|rfl|rfl|rfl|rfl|rfl|rfl|rfl|rfl|rfl|rfl|rfl|rfl|rfl|rfl|rfl|rfl|rfl
   .have e2:=c.k 2;exact qaa
   .have e5:=c.k 5;exact qaa
   .have e16:zt a 16 _:=c.d 1 rfl;exact qaa
   .have e6:=c.k 6;exact qaa
   .have e18:zt a 18 _:=c.d 3 rfl;exact qaa
   .have e15:zt a 15 _:=c.d 0 rfl;have e17:zt a 17 _:=c.d 2 rfl;have e19:zt a 19 _:=c.d 4 rfl;cases ho;refine we rfl rfl (g.o.c1 x.dI y.dI p) ?_;exact qbR
   .have e2:=c.k 2;exact qaa
   .have e5:=c.k 5;exact qaa
   .have e22:zt a 22 _:=c.d 7 rfl;exact qaa
   .have e6:=c.k 6;exact qaa
   .have e24:zt a 24 _:=c.d 9 rfl;exact qaa
   .have e21:zt a 21 _:=c.d 6 rfl;have e23:zt a 23 _:=c.d 8 rfl;have e25:zt a 25 _:=c.d 10 rfl;cases ho;refine we rfl rfl (g.o.c1 x.dM y.dM p) ?_;exact qbR
   .have e2:=c.k 2;exact qaa
   .have e5:=c.k 5;exact qaa
   .have e28:zt a 28 _:=c.d 13 rfl;exact qaa
   .have e6:=c.k 6;exact qaa
   .have e30:zt a 30 _:=c.d 15 rfl;exact qaa
   .have e27:zt a 27 _:=c.d 12 rfl;have e29:zt a 29 _:=c.d 14 rfl;have e31:zt a 31 _:=c.d 16 rfl;cases ho;refine we rfl rfl (g.o.c1 x.dO y.dO p) ?_;exact qbR
   .have e3:=c.k 3;exact qaa
   .have e5:=c.k 5;exact qaa
   .have e34:zt a 34 _:=c.d 19 rfl;exact qaa
   .have e6:=c.k 6;exact qaa
   .have e36:zt a 36 _:=c.d 21 rfl;exact qaa
   .have e33:zt a 33 _:=c.d 18 rfl;have e35:zt a 35 _:=c.d 20 rfl;have e37:zt a 37 _:=c.d 22 rfl;cases ho;refine we rfl rfl (g.o.c2 _ _ _ _ x.i x.f y.i y.f mk p HO3.ay HX.o.1.nums HX.o.2.1.nums zo zo zo zo) ?_;exact qhA
   .have e4:=c.k 4;exact qaa
   .have e5:=c.k 5;exact qaa
   .have e40:zt a 40 _:=c.d 25 rfl;exact qaa
   .have e6:=c.k 6;exact qaa
   .have e42:zt a 42 _:=c.d 27 rfl;exact qaa
   .have e39:zt a 39 _:=c.d 24 rfl;have e41:zt a 41 _:=c.d 26 rfl;have e43:zt a 43 _:=c.d 28 rfl;cases ho;refine we rfl rfl (g.o.c3 _ _ x.t y.t mk p HO3.ay HX.o.2.2 HX.o.1.t HX.o.2.1.t HF.o) ?_;rintro e w' ⟨r,C,rfl,hb,hst,hl,hn⟩;exact⟨_,rfl,_,rfl,hb,bzc HO3.ay hb hst hl zo⟩
   .have e20:zt a 20 _:=c.d 5 rfl;have e26:zt a 26 _:=c.d 11 rfl;have e32:zt a 32 _:=c.d 17 rfl;have e38:(aI.mem mk [23] (iR (n x.ns y.ns).i (n x.ns y.ns).rf)).holds (a.tmps.getD 38 undef) win p:=c.d 23 rfl;have e44:(aI.mem mk [29] (Sm (fun z=>e' (Sem x.t z) (Sem y.t z)) ((D+2)*(tb+2)+1))).holds (a.tmps.getD 44 undef) win p:=c.d 29 rfl;have f32:=(zY (xs:=a.tmps) (i:=32) (d:=undef)).symm.trans e32;have f20:=(zY (xs:=a.tmps) (i:=20) (d:=undef)).symm.trans e20;have f26:=(zY (xs:=a.tmps) (i:=26) (d:=undef)).symm.trans e26;cases ho;obtain⟨r1,s1,r2,s2,k1,t1⟩:iR _ _ _ _:=e38;obtain⟨r3,s3,C,k2,t2,l2,n2⟩:Sm _ _ _ _:=e44;have f38:=(zY (xs:=a.tmps) (i:=38) (d:=undef)).symm.trans k1;have f44:=(zY (xs:=a.tmps) (i:=44) (d:=undef)).symm.trans k2;have t1:=t1.le qjd;have t2:=aX qjd t2;have hS:jT (fun e=>pop (x.has e) (y.has e)) ⟨u x.dI y.dI,u x.dM y.dM,u x.dO y.dO,(n x.ns y.ns).i,(n x.ns y.ns).rf,C⟩:=czO (a:=x) (b:=y) pop (g.o.bp _ _) (g.o.bp _ _) (g.o.bp _ _) (g.o.ok x.rD y.rD) (g.o.has x.rD y.rD) l2.canon (fun z=>by rw[l2.Ir];exact g.o.lp _ _);exact aJ rfl rfl (aO zg ⟨_,rfl,zR _ _,rF [23,29] (R:=qM _ _ _) win zS (fun d hd=>(c.iZ d qea).2.2) ⟨_,⟨r1,s1,r2,s2,r3,s3,rfl,⟨t1.i,t1.f,t2⟩⟩,hS,⟨by show(n x.ns y.ns).i.length<=_;unfold RS.ns;omega,by show(n x.ns y.ns).rf.length<=_;unfold RS.ns;omega,n2⟩⟩⟩)
  .intro win a p E;have j':=E.keep 10 zk;have e45:(aI.mem mk [23,29] (qM (fun e=>pop (x.has e) (y.has e)) (na+nb+4) ((D+2)*(tb+2)+1))).holds (a.tmps.getD 45 undef) win p:=E.fact 30 _ zo rfl;obtain⟨s,⟨ra,rb,rc,Z,Y,rf,k1,q⟩,hS,hL⟩:qM _ _ _ _ _:=e45;have l:=HO2.o.dr.region E.az win [23,29] (fun d hd=>(E.iZ d qec).1);have HE:=zh E;generalize mk.fJ p win [23,29]=d' at*
   have HK:=zh (zi q (zi hS hL));clear E q hS hL;obtain⟨p0,p1,p2,p3,p4,p5,S',R',Q',P',O',N'⟩:=l.aP.obj.cf6;have pl:=l.aP.obj.lt;have k':=zh ((((((l.aP.set 0 (.bool s.dI)).set 1 (.bool s.dM)).set 2 (.bool s.dO)).set 3 (.slice ra s.i.length rb)).set 4 (.slice rc s.f.length Z)).set 5 (.slice Y s.t.length rf));clear l;refine dX 31 zk (aJ rfl rfl (bT zg ?_));obtain⟨t,d⟩:=a;obtain rfl:d=[]:=HE.o.defers;refine dx zk (hX.o _ _ HE.o.size ⟨d',s,ra,rc,Y,rb,Z,rf,?_,HK.o.1,HK.o.2.1,HK.o.2.2,k'.o.bK.bK⟩) _;simp only[yL,xB,j']
   rfl
 rintro z3 vs w3-⟨mk',s,ra,rc,Y,rb,Z,rf,rfl,hs,hS,hL,F⟩;simp[bB,lk];obtain⟨g0,g1,g2,g3,g4,g5⟩:=F.obj.cs6;have gl:=F.obj.lt;have Hk:=zh (zi F.az (zi (hs.le F.done) (zi hS hL)));clear F hs hS hL HO2 HX HF HL u' hN1 z';go_wp2;refine yV (v:=.agg #[.bool s.dI,.bool s.dM,.bool s.dO,.slice ra s.i.length rb,.slice rc s.f.length Z,.slice Y s.t.length rf]) (by simp[results,results42,go_sem,g0,g1,g2,g3,g4,g5]) rfl ?_;exact qa1
theorem Tx(p q:Bool)(w:zW):zC 43 #[.bool p,.bool q] w fun e w'=>e=.returned (.bool (p&&q))/\w'=w:=by
 refine au fun R hR=>?_;cases p
 .go_enter func43,ntmps43
  exact qbD
 .go_enter func43,ntmps43
  exact qco
theorem gzd:Pj 43 44 45 (fun p q=>(p&&q)) qL (fun p q=>(p&&q)) (fun p q=>p/\q) where
 c1:=Tx
 c2:=fun d e h i I F J G m w c o n v t s r=>Mg d e h i I F J G m w c o n zo zo zo zo
 c3:=fun g f A B m w c ht l k j=>F4 g f A B m w c ht l k j
 e1:=fun _ _=>by go_simp
 e2:=fun _ _=>by go_simp
 e3:=fun _ _=>by go_simp
 ok:=fun b a=>O6 b a
 has:=fun b a u=>Km b a u
 le:=fun b a=>(WZ b a).mono zo
 bp:=by intro p q;cases p<;>cases q<;>simp
 lp:=by intro p q;cases p<;>cases q<;>simp
theorem LY(g h d:zV)(A:RS)(k l j:zV)(B:RS)(q n p tb:Nat)(m:Mem)(w:zW)(T:m.ay w)(b:dV m)(D:dD m g h d A)(C:dD m k l j B)(K:jS A q n)(lb:jS B p tb)(z:q<=250)(y:p<=250)(ht:(n+2)*(tb+2)<=1000000):
 zC 27 #[A.val g h d,B.val k l j] w fun e w'=>∃s u x st,e=.returned (s.val u x st)/\zB w w'/\dD (m.grow w w') u x st s/\jT (fun e=>(iV A).has e/\(iV B).has e) s/\jS s (q+p+4) ((n+2)*(tb+2)+1):=by
 have r:=(((Own.start T).al #[.bool A.dI,.bool A.dM,.bool A.dO,g,h,d] 29).al #[.bool B.dI,.bool B.dM,.bool B.dO,k,l,j] 29).al #[.bool false,.bool false,.bool false,.slice none 0 0,.slice none 0 0,.slice none 0 0] 29;simp only[bC]at r;have E:=zh (Ca gzd g h d A k l j B q n p tb m _ r.ay b D C K lb z y ht);obtain⟨aa,ab,ac,ad,ae,af,rfl,rfl,rfl⟩:=D.df;obtain⟨ba,bb,bc,bd,be,bf,rfl,rfl,rfl⟩:=C.df;unfold RS.val at E⊢;have L:=zh r;clear r D C K lb;refine au fun R hR=>?_
 go_enter func27,ntmps27
 go_wp2_with fail
 refine E.o.mono ?_;rintro e w1 ⟨s,u,x,st,rfl,c,hs,hS,hL⟩;obtain⟨J,I,H,G,F,rf,rfl,rfl,rfl⟩:=hs.df;have a:=L.o.call c;obtain⟨p0,p1,p2,p3,p4,p5,S,Q,P,O,N,M⟩:=a.obj.cf6;have pl:=a.obj.lt;have hO4:=((((((a.set 0 (.bool s.dI)).set 1 (.bool s.dM)).set 2 (.bool s.dO)).set 3 (.slice J s.i.length I)).set 4 (.slice H s.f.length G)).set 5 (.slice F s.t.length rf));obtain⟨Z,Y,X,W,V,U⟩:=hO4.obj.cs6;have gl:=hO4.obj.lt;have Hk:=zh qiI;clear a hO4 hs hS hL E L c;go_wp2;refine yV (v:=.agg #[.bool s.dI,.bool s.dM,.bool s.dO,.slice J s.i.length I,.slice H s.f.length G,.slice F s.t.length rf]) (by simp[results,results27,go_sem,Z,Y,X,W,V,U]) rfl ?_;exact qa1
theorem XW(p q:Bool)(w:zW):zC 164 #[.bool p,.bool q] w fun e w'=>e=.returned (.bool (p||q))/\w'=w:=by
 refine au fun R hR=>?_;cases p
 .go_enter func164,ntmps164
  exact qbD
 .go_enter func164,ntmps164
  exact qco
theorem gzO:Pj 164 143 124 (fun p q=>(p||q)) p8 (fun p q=>(p||q)) (fun p q=>p\/q) where
 c1:=XW
 c2:=fun d e h i I F J G m w c o n v t s r=>IZ d e h i I F J G m w c o n zo zo zo zo
 c3:=fun g f A B m w c ht l k j=>Ck g f A B m w c ht l k j
 e1:=fun _ _=>by go_simp
 e2:=fun _ _=>by go_simp
 e3:=fun _ _=>by go_simp
 ok:=fun b a=>IQ b a
 has:=fun b a u=>Dq _ _ u
 le:=fun b a=>(azA b a).mono zo
 bp:=by intro p q;cases p<;>cases q<;>simp
 lp:=by intro p q;cases p<;>cases q<;>simp
theorem azs(g h d:zV)(A:RS)(k l j:zV)(B:RS)(q n p tb:Nat)(m:Mem)(w:zW)(T:m.ay w)(b:dV m)(D:dD m g h d A)(C:dD m k l j B)(K:jS A q n)(lb:jS B p tb)(z:q<=250)(y:p<=250)(ht:(n+2)*(tb+2)<=1000000):
 zC 121 #[A.val g h d,B.val k l j] w fun e w'=>∃s u x st,e=.returned (s.val u x st)/\zB w w'/\dD (m.grow w w') u x st s/\jT (fun e=>(iV A).has e\/(iV B).has e) s/\jS s (q+p+4) ((n+2)*(tb+2)+1):=by
 have r:=(((Own.start T).al #[.bool A.dI,.bool A.dM,.bool A.dO,g,h,d] 29).al #[.bool B.dI,.bool B.dM,.bool B.dO,k,l,j] 29).al #[.bool false,.bool false,.bool false,.slice none 0 0,.slice none 0 0,.slice none 0 0] 29;simp only[bC]at r;have E:=zh (Ca gzO g h d A k l j B q n p tb m _ r.ay b D C K lb z y ht);obtain⟨aa,ab,ac,ad,ae,af,rfl,rfl,rfl⟩:=D.df;obtain⟨ba,bb,bc,bd,be,bf,rfl,rfl,rfl⟩:=C.df;unfold RS.val at E⊢;have L:=zh r;clear r D C K lb;refine au fun R hR=>?_
 go_enter func121,ntmps121
 go_wp2_with fail
 refine E.o.mono ?_;rintro e w1 ⟨s,u,x,st,rfl,c,hs,hS,hL⟩;obtain⟨J,I,H,G,F,rf,rfl,rfl,rfl⟩:=hs.df;have a:=L.o.call c;obtain⟨p0,p1,p2,p3,p4,p5,S,Q,P,O,N,M⟩:=a.obj.cf6;have pl:=a.obj.lt;have hO4:=((((((a.set 0 (.bool s.dI)).set 1 (.bool s.dM)).set 2 (.bool s.dO)).set 3 (.slice J s.i.length I)).set 4 (.slice H s.f.length G)).set 5 (.slice F s.t.length rf));obtain⟨Z,Y,X,W,V,U⟩:=hO4.obj.cs6;have gl:=hO4.obj.lt;have Hk:=zh qiI;clear a hO4 hs hS hL E L c;go_wp2;refine yV (v:=.agg #[.bool s.dI,.bool s.dM,.bool s.dO,.slice J s.i.length I,.slice H s.f.length G,.slice F s.t.length rf]) (by simp[results,results121,go_sem,Z,Y,X,W,V,U]) rfl ?_;exact qa1
theorem NP(p q:Bool)(w:zW):zC 88 #[.bool p,.bool q] w fun e w'=>e=.returned (.bool (p && !q))/\w'=w:=by
 refine au fun R hR=>?_;cases p
 .go_enter func88,ntmps88
  exact qbD
 .go_enter func88,ntmps88
  exact qco
theorem cz1:Pj 88 89 90 (fun p q=>(p && !q)) gK (fun p q=>(p && !q)) (fun p q=>p/\¬q) where
 c1:=NP
 c2:=fun d e h i I F J G m w c o n v t s r=>xw d e I F h i J G m w c o n zo zo zo zo
 c3:=fun g f A B m w c ht l k j=>pF g f A B m w c ht l k j
 e1:=fun _ _=>by go_simp
 e2:=fun _ _=>by go_simp
 e3:=fun _ _=>by go_simp
 ok:=fun b a=>jB b a
 has:=fun b a u=>iW b a u
 le:=fun b a=>(EO b a).mono zo
 bp:=by intro p q;cases p<;>cases q<;>simp
 lp:=by intro p q;cases p<;>cases q<;>simp
theorem FR(g h d:zV)(A:RS)(k l j:zV)(B:RS)(q n p tb:Nat)(m:Mem)(w:zW)(T:m.ay w)(b:dV m)(D:dD m g h d A)(C:dD m k l j B)(K:jS A q n)(lb:jS B p tb)(z:q<=250)(y:p<=250)(ht:(n+2)*(tb+2)<=1000000):
 zC 59 #[A.val g h d,B.val k l j] w fun e w'=>∃s u x st,e=.returned (s.val u x st)/\zB w w'/\dD (m.grow w w') u x st s/\jT (fun e=>(iV A).has e/\¬(iV B).has e) s/\jS s (q+p+4) ((n+2)*(tb+2)+1):=by
 have r:=(((Own.start T).al #[.bool A.dI,.bool A.dM,.bool A.dO,g,h,d] 29).al #[.bool B.dI,.bool B.dM,.bool B.dO,k,l,j] 29).al #[.bool false,.bool false,.bool false,.slice none 0 0,.slice none 0 0,.slice none 0 0] 29;simp only[bC]at r;have E:=zh (Ca cz1 g h d A k l j B q n p tb m _ r.ay b D C K lb z y ht);obtain⟨aa,ab,ac,ad,ae,af,rfl,rfl,rfl⟩:=D.df;obtain⟨ba,bb,bc,bd,be,bf,rfl,rfl,rfl⟩:=C.df;unfold RS.val at E⊢;have L:=zh r;clear r D C K lb;refine au fun R hR=>?_
 go_enter func59,ntmps59
 go_wp2_with fail
 refine E.o.mono ?_;rintro e w1 ⟨s,u,x,st,rfl,c,hs,hS,hL⟩;obtain⟨J,I,H,G,F,rf,rfl,rfl,rfl⟩:=hs.df;have a:=L.o.call c;obtain⟨p0,p1,p2,p3,p4,p5,S,Q,P,O,N,M⟩:=a.obj.cf6;have pl:=a.obj.lt;have hO4:=((((((a.set 0 (.bool s.dI)).set 1 (.bool s.dM)).set 2 (.bool s.dO)).set 3 (.slice J s.i.length I)).set 4 (.slice H s.f.length G)).set 5 (.slice F s.t.length rf));obtain⟨Z,Y,X,W,V,U⟩:=hO4.obj.cs6;have gl:=hO4.obj.lt;have Hk:=zh qiI;clear a hO4 hs hS hL E L c;go_wp2;refine yV (v:=.agg #[.bool s.dI,.bool s.dM,.bool s.dO,.slice J s.i.length I,.slice H s.f.length G,.slice F s.t.length rf]) (by simp[results,results59,go_sem,Z,Y,X,W,V,U]) rfl ?_;exact qa1
def dze:Option El->Dt
 |none=>.mk 0 0 ⟨#[]⟩ [] [] []
 |some e=>YR e
def fzg(o:Option (List UInt8)):ByteArray:=match o with|some x=>kV x|none=>⟨#[]⟩
theorem czX(o:Option (List UInt8)):azC o=.tuple #[.string (fzg o),.bool o.isSome]:=rfl
theorem QW{x:RS}(d:x.dI=false)(c:x.dM=false)(b:x.dO=false)(a:fP x.ns=none){r:Option (List UInt8)}(h:ll (Sem x.t) r):o8 x.has (r.map .str):=Uo d c b a h
theorem PW(P Q O:zV)(s:RS)(m:Mem)(w:zW)(hm:m.ay w)(g:dV m)(hs:dD m P Q O s)(hl:jS s 30000 100000):
 zC 53 #[s.val P Q O] w fun e w'=>∃r,e=.returned (.tuple #[(dze r).val (.slice none 0 0) (.slice none 0 0),.bool r.isSome])/\zB w w'/\o8 (iV s).has r:=by
 have b:=((Own.start hm).al #[.bool s.dI,.bool s.dM,.bool s.dO,P,Q,O] 29).al #[.int .i64 0,.int .i64 0,.string ⟨#[]⟩,.slice none 0 0,.slice none 0 0] 76;simp only[bC]at b;have HG:=zh (BZ P Q O s m _ b.ay g hs (hl.mono zo zo));have S:=Jt hl;obtain⟨a1,b1,a2,b2,a3,b3,rfl,rfl,rfl⟩:=hs.df;unfold RS.val at HG⊢;have n:=zh b;clear b hs hl;generalize iV s=x at*
 have p:=zh (zi (fun h:x.dI=true=>Ur h) (zi (fun(h:x.dI=false) (l:x.dM=true)=>Us h l) (zi (fun(h:x.dI=false) (l:x.dM=false) (E:x.dO=true)=>Un h l E)
  (zi (fun(h:x.dI=false) (l:x.dM=false) (E:x.dO=false) u (h3:fP x.ns=some u)=>Uq h l E h3) (fun(h:x.dI=false) (l:x.dM=false) (E:x.dO=false) (h3:fP x.ns=none) r (h4:ll (Sem x.t) r)=>QW h l E h3 h4)))))
 have c':=S.i;have d':=S.f;have B':=S.t;clear S;refine au fun R q=>?_
 go_enter func53,ntmps53
 go_wp2_with fail
 refine HG.o.mono ?_;rintro e w1 ⟨ri,rf,rt,rfl,D,T⟩;have j:=(n.o.call D).av;obtain⟨ra,rb,rc,rd,re,y,rfl,rfl,rfl⟩:=T.df;obtain⟨p0,p1,p2,p3,p4,p5,Z,Y,X,W,V,U⟩:=j.obj.cf6;have pl:=j.obj.lt;have a:=((((((j.set 0 (.bool x.dI)).set 1 (.bool x.dM)).set 2 (.bool x.dO)).set 3 (.slice ra x.i.length rb)).set 4 (.slice rc x.f.length rd)).set 5 (.slice re x.t.length y));have a:Own _ _ _ _ (.obj _ 29 #[.bool x.dI,.bool x.dM,.bool x.dO,.slice ra x.i.length rb,.slice rc x.f.length rd,.slice re x.t.length y]::_):=a;have HN:=zh (xx _ _ x.i x.f _ _ a.ay T.nums c' d');have HL:=zh (fun w' (h:Mem.ay _ w')=>tC _ x.t _ w' h (g.le (Mem_le_grow n.o.ay)) T.t zo);have N:=zh a;generalize A:fP (gG x.i x.f)=rn at*
 have k:fP x.ns=rn:=A;rw[k]at p;clear j a HG n D T g A k
 go_wp2_with fail
 refine HN.o.mono ?_;rintro e w2 ⟨rfl,C⟩;have b:=N.o.aS C;have q5:=b.obj.c 5;have q6:=b.obj.lt;have n:=zh b;clear b HN N C p0 p1 p2 p3 p4 p5 Z Y X W V U pl
 go_wp2_with fail
 refine(HL.o _ n.o.ay).mono ?_;rintro e w3 ⟨o,rfl,B,ho⟩;rw[czX];have b:=n.o.aS B;have M:=zh ho;have q0:=b.obj.c 0;have q1:=b.obj.c 1;have q2:=b.obj.c 2;have q6:=b.obj.lt;have b:=b.av;clear HL n B ho q5;generalize x.dI=bn at*
 generalize x.dM=bf at*
 generalize x.dO=bt at*
 cases bn with
 |true=>
  obtain⟨K,J,I,H,G,L,f1,f2,f3,f4⟩:=b.obj.cf5;have F:=b.obj.lt;have a:=((((b.set 0 (.int .i64 1)).set 1 (.int .i64 0)).set 2 (.string ⟨#[]⟩)).set 3 (.slice none 0 0)).set 4 (.slice none 0 0);have a:Own _ _ _ _ (.obj _ 76 #[.int .i64 1,.int .i64 0,.string ⟨#[]⟩,.slice none 0 0,.slice none 0 0]::_):=a;obtain⟨k0,k1,k2,k3,k4⟩:=a.obj.cs5;have d:=zh (zi a.az (p.o.1 rfl));clear b a;go_wp2;refine yV (v:=.tuple #[.agg #[.int .i64 1,.int .i64 0,.string ⟨#[]⟩,.slice none 0 0,.slice none 0 0],.bool true]) qd6 rfl ?_
  exact q.o _ _ ⟨some .dI,rfl,d.o.1,d.o.2⟩
 |false=>
  cases bf with
  |true=>
   obtain⟨K,J,I,H,G,L,f1,f2,f3,f4⟩:=b.obj.cf5;have F:=b.obj.lt;have a:=((((b.set 0 (.int .i64 2)).set 1 (.int .i64 0)).set 2 (.string ⟨#[]⟩)).set 3 (.slice none 0 0)).set 4 (.slice none 0 0);have a:Own _ _ _ _ (.obj _ 76 #[.int .i64 2,.int .i64 0,.string ⟨#[]⟩,.slice none 0 0,.slice none 0 0]::_):=a;obtain⟨k0,k1,k2,k3,k4⟩:=a.obj.cs5;have d:=zh (zi a.az (p.o.2.1 rfl rfl));clear b a;go_wp2;refine yV (v:=.tuple #[.agg #[.int .i64 2,.int .i64 0,.string ⟨#[]⟩,.slice none 0 0,.slice none 0 0],.bool true]) qd6 rfl ?_
   exact q.o _ _ ⟨some .dM,rfl,d.o.1,d.o.2⟩
  |false=>
   cases bt with
   |true=>
    obtain⟨K,J,I,H,G,L,f1,f2,f3,f4⟩:=b.obj.cf5;have F:=b.obj.lt;have a:=((((b.set 0 (.int .i64 2)).set 1 (.int .i64 1)).set 2 (.string ⟨#[]⟩)).set 3 (.slice none 0 0)).set 4 (.slice none 0 0);have a:Own _ _ _ _ (.obj _ 76 #[.int .i64 2,.int .i64 1,.string ⟨#[]⟩,.slice none 0 0,.slice none 0 0]::_):=a;obtain⟨k0,k1,k2,k3,k4⟩:=a.obj.cs5;have d:=zh (zi a.az (p.o.2.2.1 rfl rfl rfl));clear b a;go_wp2;refine yV (v:=.tuple #[.agg #[.int .i64 2,.int .i64 1,.string ⟨#[]⟩,.slice none 0 0,.slice none 0 0],.bool true]) qd6 rfl ?_
    exact q.o _ _ ⟨some .dO,rfl,d.o.1,d.o.2⟩
   |false=>
    cases rn with
    |some u=>
     obtain⟨K,J,I,H,G,L,f1,f2,f3,f4⟩:=b.obj.cf5;have F:=b.obj.lt;have a:=((((b.set 0 (.int .i64 3)).set 1 (.int .i64 u)).set 2 (.string ⟨#[]⟩)).set 3 (.slice none 0 0)).set 4 (.slice none 0 0);have a:Own _ _ _ _ (.obj _ 76 #[.int .i64 3,.int .i64 u,.string ⟨#[]⟩,.slice none 0 0,.slice none 0 0]::_):=a;obtain⟨k0,k1,k2,k3,k4⟩:=a.obj.cs5;have d:=zh (zi a.az (p.o.2.2.2.1 rfl rfl rfl u rfl));clear b a;go_wp2;refine yV (v:=.tuple #[.agg #[.int .i64 3,.int .i64 u,.string ⟨#[]⟩,.slice none 0 0,.slice none 0 0],.bool true]) qd6 rfl ?_
     exact q.o _ _ ⟨some (.num u),rfl,d.o.1,d.o.2⟩
    |none=>
     cases o with
     |some z=>
      have hz:fzg (some z)=kV z:=rfl;rw[hz];obtain⟨K,J,I,H,G,L,f1,f2,f3,f4⟩:=b.obj.cf5;have F:=b.obj.lt;have a:=((((b.set 0 (.int .i64 4)).set 1 (.int .i64 0)).set 2 (.string (kV z))).set 3 (.slice none 0 0)).set 4 (.slice none 0 0);have a:Own _ _ _ _ (.obj _ 76 #[.int .i64 4,.int .i64 0,.string (kV z),.slice none 0 0,.slice none 0 0]::_):=a;obtain⟨k0,k1,k2,k3,k4⟩:=a.obj.cs5;have d:=zh (zi a.az (p.o.2.2.2.2 rfl rfl rfl rfl (some z) M.o));clear b a;go_wp2;refine yV (v:=.tuple #[.agg #[.int .i64 4,.int .i64 0,.string (kV z),.slice none 0 0,.slice none 0 0],.bool true]) qd6 rfl ?_
      exact q.o _ _ ⟨some (.str z),rfl,d.o.1,d.o.2⟩
     |none=>
      have hz:fzg none=⟨#[]⟩:=rfl;rw[hz];obtain⟨K,J,I,H,G,L,f1,f2,f3,f4⟩:=b.obj.cf5;have F:=b.obj.lt;have a:=((((b.set 0 (.int .i64 0)).set 1 (.int .i64 0)).set 2 (.string ⟨#[]⟩)).set 3 (.slice none 0 0)).set 4 (.slice none 0 0);have a:Own _ _ _ _ (.obj _ 76 #[.int .i64 0,.int .i64 0,.string ⟨#[]⟩,.slice none 0 0,.slice none 0 0]::_):=a;obtain⟨k0,k1,k2,k3,k4⟩:=a.obj.cs5;have d:=zh (zi a.az (p.o.2.2.2.2 rfl rfl rfl rfl none M.o));clear b a;go_wp2;refine yV (v:=.tuple #[.agg #[.int .i64 0,.int .i64 0,.string ⟨#[]⟩,.slice none 0 0,.slice none 0 0],.bool false]) qd6 rfl ?_;exact q.o _ _ ⟨none,rfl,d.o.1,d.o.2⟩
theorem Ov{s:RS}{r:Option El}(h:o8 (iV s).has r):mZ s = !r.isSome:=by
 cases r with
 |none=>rw[Rm h];rfl
 |some e=>rw[Rl h];rfl
theorem FT(f g d:zV)(s:RS)(m:Mem)(w:zW)(q:m.ay w)(a:dV m)(h:dD m f g d s)(t:jS s 30000 100000):
 zX 34 #[s.val f g d] w (.bool (mZ s)):=by
 have i:=(Own.start q).al #[.bool s.dI,.bool s.dM,.bool s.dO,f,g,d] 29;have j:=zh (PW f g d s m _ i.ay a h t);obtain⟨E,B,D,A,C,z,rfl,rfl,rfl⟩:=h.df;unfold RS.val at j⊢;have p:=zh i;clear i h;refine au fun R u=>?_
 go_enter func34,ntmps34
 go_wp2_with fail
 refine j.o.mono ?_;rintro e y ⟨r,rfl,c,l⟩;have v:=zh (Ov l);have x:=zh (p.o.aS c).az;unfold Dt.val;generalize r.isSome=b at*
 generalize (dze r).kind=k at*
 generalize (dze r).num=n at*
 generalize (dze r).str=st at*
 clear p j c l;go_wp2;exact u.o _ _ ⟨aR (by rw[v.o]),cu x.o _⟩
theorem NL(h i g:zV)(A:RS)(k l j:zV)(B:RS)(t q r tb:Nat)(m:Mem)(w:zW)(K:m.ay w)(b:dV m)(z:dD m h i g A)(y:dD m k l j B)(D:jS A t q)(lb:jS B r tb)(x:t<=250)(v:r<=250)(ht:(q+2)*(tb+2)<=99999):
 zX 48 #[A.val h i g,B.val k l j] w (.bool (azb A B)):=by
 have n:=((Own.start K).al #[.bool A.dI,.bool A.dM,.bool A.dO,h,i,g] 29).al #[.bool B.dI,.bool B.dM,.bool B.dO,k,l,j] 29;simp only[bC]at n;have C:=zh (FR h i g A k l j B t q r tb m _ n.ay b z y D lb x v zo);obtain⟨aa,ab,ac,ad,ae,Z,rfl,rfl,rfl⟩:=z.df;obtain⟨Y,X,W,V,U,T,rfl,rfl,rfl⟩:=y.df;unfold RS.val at C⊢;have G:=zh n;clear n z y D lb;refine au fun R hR=>?_
 go_enter func48,ntmps48
 go_wp2_with fail
 refine C.o.mono ?_;rintro e H ⟨s,I,J,st,rfl,d,u,E,F⟩;have a:=G.o.call d;have p:=zh (FT I J st s _ H a.ay (b.le a.ext.1) u (F.mono zo zo));rw[XF E]at p;obtain⟨Q,P,O,N,M,rf,rfl,rfl,rfl⟩:=u.df;unfold RS.val at p;have f:=zh a;clear C G d u E F a
 go_wp2_with fail
 refine p.o.mono ?_;rintro e L ⟨rfl,c⟩;have HB:=zh (f.o.aS c).az;clear p f c;generalize azb A B=S at*
 exact qak
def Sw(a b:RS)(c:Int):Prop:=(a.iG/\b.iG/\ny a.has b.has c)\/(¬(a.iG/\b.iG)/\c=0)
theorem Cr:prog.eqGuardType prog.depth 211=false:=by kernel_rfl
theorem Cf(a b d c:Bool)(w:zW):(Op.equalIn 10000 211 (.agg #[.bool a,.bool b]) (.agg #[.bool d,.bool c])).run prog w=.ok (a==d&&b==c) w:=by
 cases a<;>cases b<;>cases d<;>cases c<;>kernel_rfl
theorem ez3(a b c d e f:Bool)(w:zW):(Instr.index 212 (.agg #[.bool a,.bool b,.bool c,.bool d,.bool e,.bool f]) (.int .i64 0)).run prog w=.ok (.agg #[.bool a,.bool b]) w:=by kernel_rfl
theorem ez2(a b c d e f:Bool)(w:zW):(Instr.index 212 (.agg #[.bool a,.bool b,.bool c,.bool d,.bool e,.bool f]) (.int .i64 1)).run prog w=.ok (.agg #[.bool c,.bool d]) w:=by kernel_rfl
theorem ez1(a b c d e f:Bool)(w:zW):(Instr.index 212 (.agg #[.bool a,.bool b,.bool c,.bool d,.bool e,.bool f]) (.int .i64 2)).run prog w=.ok (.agg #[.bool e,.bool f]) w:=by kernel_rfl
theorem Bu(O P N:zV)(A:RS)(S T Q:zV)(B:RS)(na U nb tb:Nat)(m:Mem)(w:zW)(hm:m.ay w)(j:dV m)(ha:dD m O P N A)(hb:dD m S T Q B)(la:jS A na U)(lb:jS B nb tb)(Z:na<=250)(Y:nb<=250)(ht:(U+2)*(tb+2)<=900000):
 zC 133 #[A.val O P N,B.val S T Q] w fun e w'=>∃c,e=.returned (.int .i64 c)/\zB w w'/\Sw A B c:=by
 have t':U+2<=(U+2)*(tb+2):=Nat.le_mul_of_pos_right _ zo;have s':tb+2<=(U+2)*(tb+2):=Nat.le_mul_of_pos_left _ zo;have W:(A.t.length+2)*(B.t.length+2)<=900000:=yJ (xV (Nat.add_le_add_right la.t 2) (Nat.add_le_add_right lb.t 2)) ht;have a:=((Own.start hm).al #[.bool A.dI,.bool A.dM,.bool A.dO,O,P,N] 29).al #[.bool B.dI,.bool B.dM,.bool B.dO,S,T,Q] 29;simp only[bC]at a;have j':=zh (sH O P N A m _ a.ay j ha (la.mono zo zo));have v:=zh (fun w' (h:m.ay w')=>sH S T Q B m w' h j hb (lb.mono zo zo));have HN:=zh (fun w' (h:m.ay w')=>KU O P S T A.i A.f B.i B.f m w' h ha.nums hb.nums (yJ la.i Z) (yJ la.f Z) (yJ lb.i Y) (yJ lb.f Y));have HL:=zh (fun w' (h:m.ay w')=>qp N Q A.t B.t m w' h j ha.t hb.t W);obtain⟨a1,b1,a2,b2,a3,b3,rfl,rfl,rfl⟩:=ha.df;obtain⟨c1,d1,c2,d2,c3,d3,rfl,rfl,rfl⟩:=hb.df;unfold RS.val;have g:=zh a;clear a ha hb j t' s' W ht;refine au fun R hR=>?_
 go_enter func133,ntmps133
 go_wp2_with fail
 refine j'.o.mono ?_;rintro e w1 ⟨rfl,g'⟩;have a:=g.o.aS g';clear j' g g';by_cases p:A.iG
 case neg=>
  rw[aF p];have y:=zh a.az;have x:=zh (show Sw A B 0 from .inr ⟨fun h=>p h.1,rfl⟩);clear a p v HN HL;go_wp2;exact hR.o _ _ ⟨0,rfl,y.o,x.o⟩
 rw[aM p];have HA:=zh p;clear p;obtain⟨q0,E,D,C,q4,q5⟩:=a.obj.cs6;have r:=a.obj.lt;have g:=zh a;clear a
 go_wp2_with fail
 refine(v.o _ g.o.ay).mono ?_;rintro e w2 ⟨rfl,f'⟩;have a:=g.o.aS f';clear v g f' q0 E D C q4 q5 r;by_cases l:B.iG
 case neg=>
  rw[aF l];have y:=zh a.az;have x:=zh (show Sw A B 0 from .inr ⟨fun h=>l h.2,rfl⟩);clear a l HN HL;go_wp2;exact hR.o _ _ ⟨0,rfl,y.o,x.o⟩
 rw[aM l];have G:=zh (fun(c:Int) (h:ny A.has B.has c)=>show Sw A B c from .inl ⟨HA.o,l,h⟩);clear l HA;have n':=zh (fun(h:A.dI≠B.dI)=>G.o _ (RL h));have m':=zh (fun(u:A.dI=B.dI) (h:A.dM≠B.dM)=>G.o _ (RN u h));have HE3:=zh (fun(u:A.dI=B.dI) (q:A.dM=B.dM) (h:A.dO≠B.dO)=>G.o _ (RH u q h));have v':=zh (fun(u:A.dI=B.dI) (q:A.dM=B.dM) (F:A.dO=B.dO) (h:rW A.ns B.ns≠0)=>G.o _ (RJ u q F h));have u':=zh (fun(u:A.dI=B.dI) (q:A.dM=B.dM) (F:A.dO=B.dO) (h:rW A.ns B.ns=0) (c:Int) (k:ik (Sem A.t) (Sem B.t) c)=>G.o _ (RI u q F h k));have a':rW (gG A.i A.f) (gG B.i B.f)=rW A.ns B.ns:=rfl;rw[a']at HN;clear G a';generalize Sw A B=CS at*
 generalize rW A.ns B.ns=cn at*
 generalize ik (Sem A.t) (Sem B.t)=CI at*
 generalize A.dI=M at*
 generalize A.dM=L at*
 generalize A.dO=K at*
 generalize B.dI=J at*
 generalize B.dM=I at*
 generalize B.dO=H at*
 have q0:=a.obj.c 0;have E:=a.obj.c 1;have D:=a.obj.c 2;have r:=a.obj.lt;have p0:=a.av.obj.c 0;have p1:=a.av.obj.c 1;have p2:=a.av.obj.c 2;have V:=a.av.obj.lt;have g:=zh a;clear a;go_wp2;refine aC [2,3,32,33] (fun n vs wr=>∃k:Nat,k<=3/\n=3-k/\vs=[.pointer (some ⟨w.heap.size,0,none⟩),.pointer (some ⟨w.heap.size+1,0,none⟩),.agg #[.bool M,.bool J,.bool L,.bool I,.bool K,.bool H],.int .i64 k] /\
  (1<=k->M=J)/\(2<=k->L=I)/\(3<=k->K=H)/\Own w m wr m [.obj (w.heap.size+1) 29 #[.bool J,.bool I,.bool H,.slice c1 B.i.length d1,.slice c2 B.f.length d2,.slice c3 B.t.length d3],.obj w.heap.size 29 #[.bool M,.bool L,.bool K,.slice a1 A.i.length b1,.slice a2 A.f.length b2,.slice a3 A.t.length b3]]) ?_ ?_
 .exact⟨_,0,zo,rfl,rfl,fun h=>zo,fun h=>zo,fun h=>zo,g.o⟩
 rintro X z n vs wr hX-⟨k,hk,rfl,rfl,q,F,h3,a⟩;clear g q0 E D r p0 p1 p2 V;simp[bB,lk];have H1:=zh q;have H2:=zh F;have H3:=zh h3;have g:=zh a;clear q F h3;rcases(show k=0\/k=1\/k=2\/k=3 by omega)with rfl|rfl|rfl|rfl
 .have b:=a.al #[.bool M,.bool J] 211;have E:=b.obj.c 0;have D:=b.obj.c 1;have C:=b.obj.lt;have HO2:=zh b.tail;have hq:=Cf;have c':=Cr;have b':=ez3;clear a b;cases M<;>cases J
  all_goals go_wp2
  .exact qcx
  .exact hR.o _ _ ⟨_,rfl,HO2.o.az,n'.o zD⟩
  .exact hR.o _ _ ⟨_,rfl,HO2.o.az,n'.o zD⟩
  .exact qcx
 .have b:=a.al #[.bool L,.bool I] 211;have E:=b.obj.c 0;have D:=b.obj.c 1;have C:=b.obj.lt;have HO2:=zh b.tail;have hq:=Cf;have c':=Cr;have b':=ez2;clear a b;cases L<;>cases I
  all_goals go_wp2
  .exact qcr
  .exact hR.o _ _ ⟨_,rfl,HO2.o.az,m'.o (H1.o zo) zD⟩
  .exact hR.o _ _ ⟨_,rfl,HO2.o.az,m'.o (H1.o zo) zD⟩
  .exact qcr
 .have b:=a.al #[.bool K,.bool H] 211;have E:=b.obj.c 0;have D:=b.obj.c 1;have C:=b.obj.lt;have HO2:=zh b.tail;have hq:=Cf;have c':=Cr;have b':=ez1;clear a b;cases K<;>cases H
  all_goals go_wp2
  .exact qcl
  .exact qhU
  .exact qhU
  .exact qcl
 .have C:=a.obj.c 3;have q4:=a.obj.c 4;have r:=a.obj.lt;have p3:=a.av.obj.c 3;have p4:=a.av.obj.c 4;have V:=a.av.obj.lt;clear a
  go_wp2_with fail
  refine(HN.o _ g.o.ay).mono ?_;rintro e w4 ⟨rfl,e'⟩;have d:=g.o.aS e';clear HN g e' C q4 r p3 p4 V;by_cases s:cn=0
  .subst s;have q5:=d.obj.c 5;have r:=d.obj.lt;have p5:=d.av.obj.c 5;have V:=d.av.obj.lt;have g:=zh d;clear d
   go_wp2_with fail
   refine(HL.o _ g.o.ay).mono ?_;rintro e w5 ⟨c,rfl,d',s⟩;have y:=zh (g.o.aS d').az;have x:=zh (u'.o (H1.o zo) (H2.o zo) (H3.o zo) zS c s);clear HL g d' q5 r p5 V s;go_wp2;exact hR.o _ _ ⟨_,rfl,y.o,x.o⟩
  .have x:=zh (v'.o (H1.o zo) (H2.o zo) (H3.o zo) s);have y:=zh d.az;have N':(cn != 0)=true:=by simpa using s
   clear d s HL;go_wp2;exact hR.o _ _ ⟨_,rfl,y.o,x.o⟩
end Cl
