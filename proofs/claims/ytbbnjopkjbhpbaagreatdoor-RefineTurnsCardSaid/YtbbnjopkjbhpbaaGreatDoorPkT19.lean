/- Lemmas. -/
import Derived.Test.YtbbnjopkjbhpbaaGreatDoorPkT14
set_option maxRecDepth 99999
set_option maxHeartbeats 9999999
namespace Cl
open Go Go.RowKit Go.Proofs Tryz
theorem Gd(z:Array Value)(n:Nat):(Builtin.zeroCells z n).size=n*z.size:=by simp[Builtin.zeroCells]
theorem bzp{w0 w:zW}{m mk:Mem}{L:List bA}(h:Own w0 m w mk L)(n:Nat)(p:n<=1000000):
 zC 241 #[.slice none 0 0,.int .i64 n] w fun e w'=>∃a c,e=.returned (.slice a 0 c)/\Own w0 m w' mk (.row (.slice a 0 c) 100 2 0 []::L):=by
 by_cases l:n=0
 .subst l;refine Calls.mono (Any8.slices_Grow_room Tryz.azt none 0 0 0 w (zI _) zo zo zo) ?_;exact qhA
 .obtain⟨i,hi,g,o,hb⟩:=info_parts CX;refine Calls.mono (Any8.slices_Grow_grow Tryz.azt i (.agg #[.int .i64 0,.int .i64 0]) hi g zo none 0 0 n [] w (zI _) zo qeK zo zS (fun _=>rfl) (fun a e=>by cases e)) ?_;rintro e w' ⟨rfl,rfl⟩;have q:=grownCap_ge w (0+n) 0 100;have j:=grownCap_le_maxLen w (0+n) 0 100 qdM;have d:=h.dr.al (([]:List Value).toArray++Builtin.zeroCells (Value.agg #[.int .i64 0,.int .i64 0]).cells (0+n-0)++Builtin.zeroCells (Value.agg #[.int .i64 0,.int .i64 0]).cells (grownCap w (0+n) 0 100-(0+n))) 100;refine⟨_,_,rfl,?_⟩;refine d.tail.cons (it:=.row _ _ _ _ _) ⟨rfl,.inr ⟨w.heap.size,grownCap w (0+n) 0 100,_,rfl,zG _,d.obj.get,zG _,j,?_,?_⟩⟩ (fun k hk=>d.ik _ (yF ..) k hk) (fun b f=>(yS.1 d.apart).1 b f)
  .simp only[Array.size_append,Gd,List.size_toArray,List.length_nil];have:(Value.agg #[.int .i64 0,.int .i64 0]).cells.size=2:=rfl;rw[this];generalize grownCap w (0+n) 0 100=c at*
   omega
  .simp
def rH(xs:List (List dh))(k:Nat):List dh:=(xs.take k).flatten
theorem Mi(xs:List (List dh))(k:Nat)(h:k<xs.length):rH xs (k+1)=rH xs k++xs[k]:=by
 unfold rH;rw[zH h,List.flatten_append];simp
theorem Jk(xs:List (List dh))(k:Nat):(rH xs k).length<=(rH xs xs.length).length:=by
 unfold rH;rw[yG];have:xs=xs.take k++xs.drop k:=(List.take_append_drop k xs).symm
 conv=>rhs;rw[this]
 rw[List.flatten_append,zL];omega
theorem az2(xs:List (List dh)):rH xs xs.length=xs.flatten:=by unfold rH;rw[yG]
theorem Ym(xs:List (List dh)):rH xs 0=[]:=rfl
theorem U5(g c:Nat)(xs:List (List dh))(m:Mem)(w:zW)(hm:m.az w)(M:∀i (h:i<xs.length),∃u,m.cell g i=some u/\dD m u xs[i])(I:(rH xs xs.length).length<=1000000)(hn:xs.length<=1000000):
 zC 183 #[.slice (some ⟨g,0,none⟩) xs.length c] w fun e w'=>∃r,e=.returned r/\zB w w'/\dD (m.grow w w') r (rH xs xs.length):=by
 have U:=zh M;have H:∀s∈rH xs xs.length,pR s:=fun s K=>by
  rw[az2]at K;obtain⟨l,hl,K⟩:=List.mem_flatten.1 K;obtain⟨i,hi,rfl⟩:=yX hl;obtain⟨u,-,C⟩:=M i hi;exact BB C s K
 have O:=zh H;clear M H;refine au fun R hR=>?_
 go_enter func183,ntmps183
 go_wp2;refine aB [0,3,9,10,11] (fun n G F=>∃k:Nat,k<=xs.length/\n=xs.length-k/\G=[.slice (some ⟨g,0,none⟩) xs.length c,.j (rH xs k).length,.slice (some ⟨g,0,none⟩) xs.length c,.j xs.length,.j k] /\
  Own w m F m []) ?_ ?_
 .exact⟨_,0,zG _,rfl,by rw[Ym];rfl,Own.start hm⟩
 rintro X z n G F hX-⟨k,hk,rfl,rfl,hO⟩;simp[bz,lk];have d':=Jk xs k;by_cases B:k<xs.length
 .obtain⟨u,E,C⟩:=U.o k B;have r1:=azk hO.az E;have rl:=bzu hO.az E;obtain⟨a,Q,rfl⟩:=eT C;have f:=congrArg List.length (Mi xs k B);rw[zL]at f;have t:=Jk xs (k+1);have HO:=zh hO;have Hst:=zh f;have hb:(rH xs k).length+xs[k].length<=1000000:=zo;generalize (rH xs k).length=T at*
  generalize xs[k].length=N at*
  clear C E hO f t;exact qcQ
 .obtain rfl:k=xs.length:=zo;have W:=zh (bzp hO (rH xs xs.length).length I);clear hO hX
  go_wp2_with fail
  refine W.o.mono ?_;rintro e w2 ⟨a,d,rfl,hO⟩;have HO:=zh hO;clear W hO;go_wp2;refine aB [6,25,26,27] (fun n G F=>∃(k:Nat) (v:zV),k<=xs.length/\n=xs.length-k/\G=[v,.slice (some ⟨g,0,none⟩) xs.length c,.j xs.length,.j k] /\
   Own w m F m [.row v 100 2 (rH xs k).length (bN (rH xs k))]) ?_ ?_
  .exact⟨_,0,_,zG _,rfl,rfl,HO.o⟩
  clear HO;rintro X z n G F hX-⟨k,v,hk,rfl,rfl,hO⟩;simp[bz,lk];obtain⟨va,Z,rfl⟩:=bv hO.row;by_cases B:k<xs.length
  .obtain⟨u,E,C⟩:=U.o k B;have r1:=azk hO.az E;have rl:=bzu hO.az E;obtain⟨a,Q,rfl⟩:=eT C;have f:=Mi xs k B;have t:=Jk xs (k+1);rw[f,zL]at t;have A:0<xs[k].length->∃S,a=some S/\∀j u,(bN xs[k])[j]?=some u->F.cell? (S.add j)=some u:=fun h=>by
    obtain⟨b,off,e,h2⟩:=G5 hO.az C (by intro e;rw[e]at h;simp at h);exact⟨_,e,h2⟩
   have D:∀v∈bN xs[k],v.oneCell'=true:=fun v hv=>by
    exact qcJ
   have Hst:=zh f;have V:=zh (zi A D);clear f A D C E;generalize rH xs k=L at*
   generalize xs[k]=q at*
   go_wp2_with (at_builtin;refine Bn qi rfl (.tmp 31) (.tmp 32) rfl (.slice va L.length Z) L.length _ rfl hO.row a q.length Q (bN q) rfl (dN q) V.o.1 V.o.2 qdM zo ?_)
   intro a' Y w7 y p x;have J:=hO.app y p x (zI _);have P:=zh J;clear J hO y p x;go_wp2;refine hX.o _ _ _ zo rfl ⟨k+1,_,zo,rfl,rfl,?_⟩;rw[Hst.o,zL];have e:bN (L++q)=bN L++bN q:=by simp[bN]
   rw[e];exact P.o
  .obtain rfl:k=xs.length:=zo;have f:=jO (m:=m) (l:=(rH xs xs.length)) hO.row O.o;have hfin:=bS hO.bP.done f;have Hfin:=zh qgd;clear hO f hfin;go_wp2;exact qa5
theorem zu{m:Mem}{w:zW}{g:Nat}{t:TypeId}{arr:Array Value}(a:pY){ds:List Nat}{d:Nat}(c:d∈ds)(h:(a d).1<=g)(f:g<(a d).2)(b:bg w g t arr){i:Nat}{v:zV}(hi:arr[i]?=some v):
 (m.fJ w a ds).cell g i=some v:=by
 have:ds.any (fun d=>decide ((a d).1<=g/\g<(a d).2))=true:=List.any_eq_true.2 ⟨d,c,by simp[h,f]⟩;have e:m.fJ w a ds g=some (.cells arr t (0,0)):=by
  unfold Mem.fJ;rw[zK this];exact b.get
 unfold Mem.cell;rw[e];exact hi
theorem VQ(g:Nat)(c b:zV)(I J:List dh)(M:Mem)(w:zW)(d:M.az w)(h:dD M c I)(f:dD M b J)(k:M.cell g 0=some c)(j:M.cell g 1=some b)(a:I.length+J.length<=1000000):
 zC 183 #[.slice (some ⟨g,0,none⟩) 2 2] w fun e w'=>∃r,e=.returned r/\zB w w'/\dD (M.grow w w') r (I++J):=by
 have e:rH [I,J] [I,J].length=I++J:=by simp[rH]
 have:=U5 g 2 [I,J] M w d (fun i hi=>by
  simp only[yO,List.length_nil]at hi;rcases(show i=0\/i=1 by omega)with rfl|rfl
  .exact⟨c,k,h⟩
  .exact⟨b,j,f⟩) (by rw[e,zL];exact a) zS
 rw[e]at this;exact this
theorem Hu(D H N O:zV)(I F J G:List dh)(m:Mem)(w:zW)(hm:m.az w)(Y:dA m D H I F)(W:dA m N O J G)(hI:I.length<=30000)(hF:F.length<=30000)(hJ:J.length<=30000)(hG:G.length<=30000):
 zC 143 #[.agg #[D,H],.agg #[N,O]] w fun e w'=>∃T rf,e=.returned (.agg #[T,rf])/\zB w w'/\dA (m.grow w w') T rf (ZC (gz I F) (gz J G)).i (ZC (gz I F) (gz J G)).rf:=by
 have hO:=(((Own.start hm).al #[D,H] 24).al #[N,O] 24).al #[.slice none 0 0,.slice none 0 0] 24;have p:(w.alloc (.cells #[D,H] 24)).heap.size=w.heap.size+1:=by simp
 have n:((w.alloc (.cells #[D,H] 24)).alloc (.cells #[N,O] 24)).heap.size=w.heap.size+1+1:=by simp
 rw[n,p]at hO;obtain⟨a1,c1,S,d1,rfl,rfl⟩:=Y.dm;obtain⟨a2,c2,Q,d2,rfl,rfl⟩:=W.dm;have q:=ezh I F J G;have HO:=zh hO;have M:=zh (zi Y (zi W q));clear hO Y W p n q;refine au fun R hR=>?_;generalize ZC (gz I F) (gz J G)=x at*
 go_enter func143,ntmps143
 go_upto_region 1 with(fail)
 refine aW [4] (fun vs w'=>∃(mk':Mem) (A z:Option Addr) (y u:Nat),vs=[.p (w.heap.size+1+1)] /\
  Own w m w' mk' [.obj (w.heap.size+1+1) 24 #[.slice A x.i.length y,.slice z x.rf.length u]] /\
  dA mk' (.slice A x.i.length y) (.slice z x.rf.length u) x.i x.rf) ?_ ?_
 .intro X hX;refine bE 14 6 (fun j=>[aI.is (·=.p w.heap.size),aI.is (·=.slice a1 I.length c1),aI.is (·=.p (w.heap.size+1)),aI.is (·=.slice a2 J.length c2),aI.sl 4 22 #[.slice a1 I.length c1,.slice a2 J.length c2] 2,aI.mem m [5,4] (DI (I++J)),aI.is (·=.pointer (some ⟨w.heap.size,1,none⟩)),aI.is (·=.slice S F.length d1),aI.is (·=.pointer (some ⟨w.heap.size+1,1,none⟩)),aI.is (·=.slice Q G.length d2),aI.sl 10 22 #[.slice S F.length d1,.slice Q G.length d2] 2,aI.mem m [11,10] (DI (F++G)),aI.mem m [5,4,11,10] (iJ (I++J) (F++G)),aI.mem m [13,5,4,11,10] (iJ x.i x.rf)].getD j aI.any) zk zk ?_ ?_
  .intro i hi o win a h ho g;have b:=HO.o.dr.aT g.aF;have q1:=b.av.obj.c 0;have q2:=b.av.obj.c 1;have q3:=b.aR.obj.c 0;have q4:=b.aR.obj.c 1;rcases(show i=0\/i=1\/i=2\/i=3\/i=4\/i=5\/i=6\/i=7\/i=8\/i=9\/i=10\/i=11\/i=12\/i=13 by omega)with rfl|rfl|rfl|rfl|rfl|rfl|rfl|rfl|rfl|rfl|rfl|rfl|rfl|rfl
   .have e2:=g.k 2;exact qaa
   .have e5:zt a 5 _:=g.d 0 rfl;exact qaa
   .have e3:=g.k 3;exact qaa
   .have e7:zt a 7 _:=g.d 2 rfl;exact qaa
   .have e6:zt a 6 _:=g.d 1 rfl;have e8:zt a 8 _:=g.d 3 rfl;have f8:=(zY (xs:=a.tmps) (i:=8) (d:=undef)).symm.trans e8;have f6:=(zY (xs:=a.tmps) (i:=6) (d:=undef)).symm.trans e6;exact qhq
   .have e9:(aI.sl 4 22 #[.slice a1 I.length c1,.slice a2 J.length c2] 2).holds (a.tmps.getD 9 undef) win h:=g.d 4 rfl;cases ho;obtain⟨L,n1,o1⟩:_/\_/\_:=e9;refine we rfl rfl (VQ (win 4).1 _ _ I J (m.fJ h win [4]) h (dzd b.az win [4]) (bS (dzF b.az win [4]) M.o.1.i) (bS (dzF b.az win [4]) M.o.2.1.i) qhY qhY zo) ?_;rintro e w' ⟨r,rfl,s,C⟩;exact⟨_,rfl,_,rfl,s,lh (ds:=[4]) DI.le b.az zS (fun d hd=>(g.iQ d qed).2.2) s (DW C)⟩
   .have e2:=g.k 2;exact qaa
   .have L':a.tmps.getD 11 undef=_:=g.d 6 rfl;exact qaa
   .have e3:=g.k 3;exact qaa
   .have K':a.tmps.getD 13 undef=_:=g.d 8 rfl;exact qaa
   .have g':a.tmps.getD 12 undef=_:=g.d 7 rfl;have f':a.tmps.getD 14 undef=_:=g.d 9 rfl;have D':=(zY (xs:=a.tmps) (i:=12) (d:=undef)).symm.trans g';have C':=(zY (xs:=a.tmps) (i:=14) (d:=undef)).symm.trans f';exact qhq
   .have e':(aI.sl 10 22 #[.slice S F.length d1,.slice Q G.length d2] 2).holds (a.tmps.getD 15 undef) win h:=g.d 10 rfl;cases ho;obtain⟨L,n1,o1⟩:_/\_/\_:=e';refine we rfl rfl (VQ (win 10).1 _ _ F G (m.fJ h win [10]) h (dzd b.az win [10]) (bS (dzF b.az win [10]) M.o.1.f) (bS (dzF b.az win [10]) M.o.2.1.f) qhY qhY zo) ?_;rintro e w' ⟨r,rfl,s,C⟩;exact⟨_,rfl,_,rfl,s,lh (ds:=[10]) DI.le b.az zS (fun d hd=>(g.iQ d qed).2.2) s (DW C)⟩
   .have h':(aI.mem m [5,4] (DI (I++J))).holds (a.tmps.getD 10 undef) win h:=g.d 5 rfl;have d':(aI.mem m [11,10] (DI (F++G))).holds (a.tmps.getD 16 undef) win h:=g.d 11 rfl;cases ho;obtain⟨r1,s1,L,B⟩:DI _ _ _:=h';obtain⟨r2,s2,k2,P⟩:DI _ _ _:=d';have a':=(zY (xs:=a.tmps) (i:=10) (d:=undef)).symm.trans L;have Z:=(zY (xs:=a.tmps) (i:=16) (d:=undef)).symm.trans k2;have B:=bS (cz7 (es:=[5,4,11,10]) b.az win zS) B;have P:=bS (cz7 (es:=[5,4,11,10]) b.az win zS) P;rw[zL]at L k2 a' Z B P;exact aM rfl rfl (aS zg ⟨_,rfl,zR _ _,qU [5,4,11,10] (R:=iJ (I++J) (F++G)) win zS (fun d hd=>(g.iQ d qd2).2.2) ⟨r1,s1,r2,s2,by rw[zL,zL],by rw[zL,zL];exact⟨B,P⟩⟩⟩)
   .have c':(aI.mem m [5,4,11,10] (iJ (I++J) (F++G))).holds (a.tmps.getD 17 undef) win h:=g.d 12 rfl;cases ho;obtain⟨r1,s1,r2,s2,L,B⟩:iJ _ _ _ _:=c';refine we rfl rfl (jD _ _ _ _ _ h (dzd b.az win [5,4,11,10]) B (by rw[zL];omega) (by rw[zL];omega)) ?_;rintro e w' ⟨T,rf,rfl,s,C⟩;rw[M.o.2.2]at C;exact⟨_,rfl,_,rfl,s,lh (ds:=[5,4,11,10]) iJ.le b.az zS (fun d hd=>(g.iQ d qd2).2.2) s (qj C)⟩
  .intro win a h E;have e4:=E.keep 4 zk;have b':(aI.mem m [13,5,4,11,10] (iJ x.i x.rf)).holds (a.tmps.getD 18 undef) win h:=E.fact 13 _ zo rfl;obtain⟨A,y,z,u,f1,K⟩:iJ _ _ _ _:=b';have l:=HO.o.bM.bM.dr.region E.aF win [13,5,4,11,10] (fun d hd=>(E.iQ d qd8).1);have HE:=zh E;generalize m.fJ h win [13,5,4,11,10]=U at*
   have HK:=zh K;clear E K;have S:=l.obj.frozen 0;have N':=l.obj.frozen 1;have Q:=l.obj.c 0;have M':=l.obj.c 1;have b3:=l.obj.lt;have V:=(l.set 0 (.slice A x.i.length y)).set 1 (.slice z x.rf.length u);refine eQ 14 zk (aM rfl rfl (dx zg ?_));obtain⟨t,d⟩:=a;obtain rfl:d=[]:=HE.o.defers;refine dB zk (hX.o _ _ HE.o.size ⟨U,A,z,y,u,?_,V,HK.o⟩) _;simp only[yL,xB,e4]
   rfl
 rintro z2 vs w2-⟨mk',A,z,y,u,rfl,hO,hr⟩;simp[bz,lk];have g5:=hO.obj.c 0;have g6:=hO.obj.c 1;have Hk:=zh qfR;clear hO hr HO;go_wp2;refine yV (v:=.agg #[.slice A x.i.length y,.slice z x.rf.length u]) (by simp[results,results143,go_sem,g5,g6]) rfl ?_;exact qaU
theorem KZ{m:Mem}{v:zV}{lo hi:Int}(h:dD m v [(lo,hi)]):∃b off c,v=.slice (some ⟨b,off,none⟩) 1 c/\m.cell b off=some (.j lo)/\m.cell b (off+1)=some (.j hi)/\1<=c:=by
 obtain⟨a,c,rfl,g,i,f⟩:=h;obtain⟨b,off,rfl,e⟩:=f zS;have d:=e 0 zS;simp only[Nat.zero_mul,Nat.add_zero]at d;exact⟨b,off,c,rfl,d.1,d.2.1,g⟩
theorem Ai(vi vf:zV)(I F:List dh)(m:Mem)(w:zW)(hm:m.az w)(h1:dA m vi vf I F)(hI:I.length<=30000)(hF:F.length<=30000):
 zC 137 #[.agg #[vi,vf]] w fun e w'=>∃P rf,e=.returned (.agg #[P,rf])/\zB w w'/\dA (m.grow w w') P rf (iF (gz I F)).i (iF (gz I F)).rf:=by
 have hO:=((Own.start hm).al #[vi,vf] 24).al #[.slice none 0 0,.slice none 0 0] 24;have A:(w.alloc (.cells #[vi,vf] 24)).heap.size=w.heap.size+1:=by simp
 rw[A]at hO;obtain⟨a1,c1,b1,d1,rfl,rfl⟩:=h1.dm;have HM:=zh (jD _ _ I F m _ hO.az h1 zo zo);have p:=zh hO;clear hO h1 A;have J:=jP hI hF;have q:=kH I F;have l1:=J.i;have l2:=J.f;rw[<-NS.sG]at l2;have B:gz (gq (fun n=>n+1) (fun n=>n-1) (gz I F).i (-100000000000) 100000000000) (gq jh iU (gz I F).rf (-999999999999999) 999999999999999)=iF (gz I F):=bz9 q;have c':=q.inI;have d':=q.inF;have Y:∀s∈gq (fun n=>n+1) (fun n=>n-1) (gz I F).i (-100000000000) 100000000000,pR s:=by
  rw[xq];exact fun s hs=>Cx ((kL q).inI s hs)
 have W:∀s∈gq jh iU (gz I F).rf (-999999999999999) 999999999999999,pR s:=by
  have e:gq jh iU (gz I F).rf (-999999999999999) 999999999999999=(iF (gz I F)).rf:=VM _;rw[e];exact fun s hs=>Cx ((kL q).inF s hs)
 have L':=Am (fun n=>n+1) (fun n=>n-1) (gz I F).i (-100000000000) 100000000000;have K':=Am jh iU (gz I F).rf (-999999999999999) 999999999999999;refine au fun R hR=>?_;generalize gz I F=x at*
 have HX:=zh (zi B (zi c' (zi d' (zi Y W))));clear B c' d' Y W J q
 go_enter func137,ntmps137
 go_wp2_with fail
 refine HM.o.mono ?_;rintro e w1 ⟨P,rf,rfl,a',u⟩;have h:=p.o.call a';have HA:=zh (K5 _ w1 h.az);have z:=zh (zi h u);obtain⟨xa,xc,ya,yc,rfl,rfl⟩:=u.dm;clear HM h u a' p
 go_wp2_with fail
 refine HA.o.mono ?_;rintro e L ⟨P,rf,rfl,Z,K⟩;have b':=z.o.1.call Z;have u:=z.o.2.le (bzx z.o.1.az (w:=L));obtain⟨q1,o1,N,rfl,z1,z2,z3⟩:=KZ K.i;obtain⟨q2,o2,Q,rfl,z4,z5,z6⟩:=KZ K.f;have y:=(b'.al #[.slice xa x.i.length xc,.slice ya x.rf.length yc] 24).al #[.slice (some ⟨q1,o1,none⟩) 1 N,.slice (some ⟨q2,o2,none⟩) 1 Q] 24;have e1:(L.alloc (.cells #[.slice xa x.i.length xc,.slice ya x.rf.length yc] 24)).heap.size=L.heap.size+1:=by simp
 rw[e1]at y;generalize ((m.grow (((w.alloc (.cells #[.slice a1 I.length c1,.slice b1 F.length d1] 24)).alloc (.cells #[.slice none 0 0,.slice none 0 0] 24))) w1).grow w1 L)=mk at*
 have p:=zh (zi y (zi u (zi z1 (zi z2 (zi z4 z5)))));clear b' u y K Z HA z z1 z2 z4 z5 e1
 go_upto_region 2 with(fail)
 generalize W':(L.alloc (.cells #[.slice xa x.i.length xc,.slice ya x.rf.length yc] 24)).alloc (.cells #[.slice (some ⟨q1,o1,none⟩) 1 N,.slice (some ⟨q2,o2,none⟩) 1 Q] 24)=w3 at*
 generalize L.heap.size=S at*
 refine aW [2] (fun vs w'=>∃(mk':Mem) (H G:Option Addr) (D C:Nat),vs=[.p (w.heap.size+1)] /\
  Own w m w' mk' [.obj (w.heap.size+1) 24 #[.slice H (iF x).i.length D,.slice G (iF x).rf.length C]] /\
  dA mk' (.slice H (iF x).i.length D) (.slice G (iF x).rf.length C) (iF x).i (iF x).rf) ?_ ?_
 .intro X hX;refine bE 18 6 (fun j=>[aI.is (·=.p S),aI.is (·=.slice xa x.i.length xc),aI.is (·=.p (S+1)),aI.is (·=.slice (some ⟨q1,o1,none⟩) 1 N),aI.is (·=.pointer (some ⟨q1,o1,none⟩)),aI.is (·=.agg #[.int .i64 (-100000000000),.int .i64 100000000000]),aI.mem mk [6] (EJ 95 179 x.i (-100000000000) 100000000000),aI.mem mk [7,6] (DI (gq (fun n=>n+1) (fun n=>n-1) x.i (-100000000000) 100000000000)),aI.is (·=.pointer (some ⟨S,1,none⟩)),aI.is (·=.slice ya x.rf.length yc),aI.is (·=.pointer (some ⟨S+1,1,none⟩)),aI.is (·=.slice (some ⟨q2,o2,none⟩) 1 Q),aI.is (·=.pointer (some ⟨q2,o2,none⟩)),aI.is (·=.agg #[.int .i64 (-999999999999999),.int .i64 999999999999999]),aI.mem mk [14] (EJ 96 180 x.rf (-999999999999999) 999999999999999),aI.mem mk [15,14] (DI (gq jh iU x.rf (-999999999999999) 999999999999999)),aI.mem mk [7,6,15,14] (iJ (gq (fun n=>n+1) (fun n=>n-1) x.i (-100000000000) 100000000000) (gq jh iU x.rf (-999999999999999) 999999999999999)),aI.mem mk [17,7,6,15,14] (iJ (iF x).i (iF x).rf)].getD j aI.any) zk zk ?_ ?_
  .intro i hi o b a l ho g;have HO2:=p.o.1.dr.aT g.aF;have p1:=HO2.obj.c 0;have p2:=HO2.obj.c 1;have p3:=HO2.av.obj.c 0;have p4:=HO2.av.obj.c 1;have M:=azk HO2.az p.o.2.2.1;have t2:=azk HO2.az p.o.2.2.2.1;have t3:=azk HO2.az p.o.2.2.2.2.1;have t4:=azk HO2.az p.o.2.2.2.2.2;have t5:=bzu HO2.az p.o.2.2.1;have t6:=bzu HO2.az p.o.2.2.2.2.1;rcases(show i=0\/i=1\/i=2\/i=3\/i=4\/i=5\/i=6\/i=7\/i=8\/i=9\/i=10\/i=11\/i=12\/i=13\/i=14\/i=15\/i=16\/i=17 by omega)with rfl|rfl|rfl|rfl|rfl|rfl|rfl|rfl|rfl|rfl|rfl|rfl|rfl|rfl|rfl|rfl|rfl|rfl
   .have e3:=g.k 3;exact qaa
   .have e8:zt a 8 _:=g.d 0 rfl;exact qaa
   .have e4:=g.k 4;exact qaa
   .have e10:zt a 10 _:=g.d 2 rfl;exact qaa
   .have e11:zt a 11 _:=g.d 3 rfl;exact qaa
   .have e12:zt a 12 _:=g.d 4 rfl;exact qaa
   .have e9:zt a 9 _:=g.d 1 rfl;have e13:zt a 13 _:=g.d 5 rfl;cases ho;refine we rfl rfl (Qy _ x.i (-100000000000) 100000000000 179 95 mk l HO2.az p.o.2.1.i) ?_;exact qhj
   .have B':(aI.mem mk [6] (EJ 95 179 x.i (-100000000000) 100000000000)).holds (a.tmps.getD 14 undef) b l:=g.d 6 rfl;cases ho;have T:EJ 95 179 x.i (-100000000000) 100000000000 (mk.fJ l b [6]) (a.tmps.getD 14 undef):=B';obtain⟨S',V⟩:∃v,a.tmps.getD 14 undef=v:=⟨_,rfl⟩;rw[V]at T;refine we rfl rfl (FB Ia Xm _ l (dzd HO2.az b [6]) T HX.o.2.1 zo HX.o.2.2.2.1) ?_;rintro e w' ⟨r,rfl,hb,hn⟩;exact⟨_,rfl,_,rfl,hb,lh (ds:=[6]) DI.le HO2.az zS (fun d hd=>(g.iQ d qed).2.2) hb (DW hn)⟩
   .have e3:=g.k 3;exact qaa
   .have e16:zt a 16 _:=g.d 8 rfl;exact qaa
   .have e4:=g.k 4;exact qaa
   .have e18:zt a 18 _:=g.d 10 rfl;exact qaa
   .have e19:zt a 19 _:=g.d 11 rfl;exact qaa
   .have e20:zt a 20 _:=g.d 12 rfl;exact qaa
   .have e17:zt a 17 _:=g.d 9 rfl;have e21:zt a 21 _:=g.d 13 rfl;cases ho;refine we rfl rfl (Qy _ x.rf (-999999999999999) 999999999999999 180 96 mk l HO2.az p.o.2.1.f) ?_;exact qhj
   .have z':(aI.mem mk [14] (EJ 96 180 x.rf (-999999999999999) 999999999999999)).holds (a.tmps.getD 22 undef) b l:=g.d 14 rfl;cases ho;have T:EJ 96 180 x.rf (-999999999999999) 999999999999999 (mk.fJ l b [14]) (a.tmps.getD 22 undef):=z';obtain⟨R',U⟩:∃v,a.tmps.getD 22 undef=v:=⟨_,rfl⟩;rw[U]at T;refine we rfl rfl (FB Ib PY _ l (dzd HO2.az b [14]) T HX.o.2.2.1 zo HX.o.2.2.2.2) ?_;rintro e w' ⟨r,rfl,hb,hn⟩;exact⟨_,rfl,_,rfl,hb,lh (ds:=[14]) DI.le HO2.az zS (fun d hd=>(g.iQ d qed).2.2) hb (DW hn)⟩
   .have A':(aI.mem mk [7,6] (DI (gq (fun n=>n+1) (fun n=>n-1) x.i (-100000000000) 100000000000))).holds (a.tmps.getD 15 undef) b l:=g.d 7 rfl;have y':(aI.mem mk [15,14] (DI (gq jh iU x.rf (-999999999999999) 999999999999999))).holds (a.tmps.getD 23 undef) b l:=g.d 15 rfl;cases ho;obtain⟨r1,s1,N,M⟩:DI _ _ _:=A';obtain⟨r2,s2,Q,t2⟩:DI _ _ _:=y';have f15:=(zY (xs:=a.tmps) (i:=15) (d:=undef)).symm.trans N;have f20:=(zY (xs:=a.tmps) (i:=23) (d:=undef)).symm.trans Q;have M:=bS (cz7 (es:=[7,6,15,14]) HO2.az b zS) M;have t2:=bS (cz7 (es:=[7,6,15,14]) HO2.az b zS) t2;exact aM rfl rfl (aS zg ⟨_,rfl,zR _ _,qU [7,6,15,14] (R:=iJ _ _) b zS (fun d hd=>(g.iQ d qd2).2.2) ⟨r1,s1,r2,s2,rfl,M,t2⟩⟩)
   .have x':(aI.mem mk [7,6,15,14] (iJ (gq (fun n=>n+1) (fun n=>n-1) x.i (-100000000000) 100000000000) (gq jh iU x.rf (-999999999999999) 999999999999999))).holds (a.tmps.getD 24 undef) b l:=g.d 16 rfl;cases ho;obtain⟨r1,s1,r2,s2,N,M⟩:iJ _ _ _ _:=x';refine we rfl rfl (jD _ _ _ _ _ l (dzd HO2.az b [7,6,15,14]) M zo zo) ?_;rintro e w' ⟨P,rf,rfl,hb,hn⟩;rw[HX.o.1]at hn;exact⟨_,rfl,_,rfl,hb,lh (ds:=[7,6,15,14]) iJ.le HO2.az zS (fun d hd=>(g.iQ d qd2).2.2) hb (qj hn)⟩
  .intro b a l E;have e2:=E.keep 2 zk;have v':(aI.mem mk [17,7,6,15,14] (iJ (iF x).i (iF x).rf)).holds (a.tmps.getD 25 undef) b l:=E.fact 17 _ zo rfl;obtain⟨H,D,G,C,f1,O⟩:iJ _ _ _ _:=v';have h:=p.o.1.tail.tail.bM.dr.region E.aF b [17,7,6,15,14] (fun d hd=>(E.iQ d qd8).1);have HE:=zh E;generalize mk.fJ l b [17,7,6,15,14]=s' at*
   have HK:=zh O;clear E O;have b1:=h.obj.frozen 0;have b1':=h.obj.frozen 1;have b2:=h.obj.c 0;have b2':=h.obj.c 1;have b3:=h.obj.lt;have y:=(h.set 0 (.slice H (iF x).i.length D)).set 1 (.slice G (iF x).rf.length C);refine eQ 18 zk (aM rfl rfl (dx zg ?_));obtain⟨t,d⟩:=a;obtain rfl:d=[]:=HE.o.defers;refine dB zk (hX.o _ _ HE.o.size ⟨s',H,G,D,C,?_,y,HK.o⟩) _;simp only[yL,xB,e2]
   rfl
 rintro z2 vs w4-⟨mk',H,G,D,C,rfl,hO,hr⟩;simp[bz,lk];have g5:=hO.obj.c 0;have g6:=hO.obj.c 1;have Hk:=zh qfR;clear hO hr p;go_wp2;refine yV (v:=.agg #[.slice H (iF x).i.length D,.slice G (iF x).rf.length C]) (by simp[results,results137,go_sem,g5,g6]) rfl ?_;exact qaU
theorem wQ(B C:zV)(I F:List dh)(L M:zV)(J G:List dh)(m:Mem)(w:zW)(hm:m.az w)(T:dA m B C I F)(S:dA m L M J G)(hI:I.length<=290)(hF:F.length<=290)(hJ:J.length<=290)(hG:G.length<=290):
 zC 89 #[.agg #[B,C],.agg #[L,M]] w fun e w'=>∃N rf,e=.returned (.agg #[N,rf])/\zB w w'/\dA (m.grow w w') N rf (gH (gz I F) (gz J G)).i (gH (gz I F) (gz J G)).rf:=by
 have hO:=(((Own.start hm).al #[B,C] 24).al #[L,M] 24).al #[.slice none 0 0,.slice none 0 0] 24;have n:(w.alloc (.cells #[B,C] 24)).heap.size=w.heap.size+1:=by simp
 have l:((w.alloc (.cells #[B,C] 24)).alloc (.cells #[L,M] 24)).heap.size=w.heap.size+1+1:=by simp
 rw[l,n]at hO;obtain⟨a1,c1,Z,d1,rfl,rfl⟩:=T.dm;obtain⟨a2,c2,Y,d2,rfl,rfl⟩:=S.dm;have H:=kH J G;have y:=rR (jP hJ hG);have l1:=y.i;have l2:=y.f;rw[<-NS.sG]at l2;have p:qA (gz I F) (gz (iF (gz J G)).i (iF (gz J G)).rf)=gH (gz I F) (gz J G):=by rw[mI (kL H)];rfl
 clear H y;have U:=zh hO;have V:=zh (zi p (zi T S));clear hO T S n l p;refine au fun R hR=>?_;generalize gH (gz I F) (gz J G)=x at*
 go_enter func89,ntmps89
 go_upto_region 1 with(fail)
 refine aW [4] (fun W w'=>∃(mk':Mem) (u s:Option Addr) (r q:Nat),W=[.p (w.heap.size+1+1)] /\
  Own w m w' mk' [.obj (w.heap.size+1+1) 24 #[.slice u x.i.length r,.slice s x.rf.length q]] /\
  dA mk' (.slice u x.i.length r) (.slice s x.rf.length q) x.i x.rf) ?_ ?_
 .intro X hX;refine bE 4 5 (fun j=>[aI.is (·=.agg #[.slice a1 I.length c1,.slice Z F.length d1]),aI.is (·=.agg #[.slice a2 J.length c2,.slice Y G.length d2]),aI.mem m [2] (iJ (iF (gz J G)).i (iF (gz J G)).rf),aI.mem m [3,2] (iJ x.i x.rf)].getD j aI.any) zk zk ?_ ?_
  .intro i hi o g a A ho z;have b:=U.o.dr.aT z.aF;have p1:=b.av.obj.c 0;have p2:=b.av.obj.c 1;have p3:=b.aR.obj.c 0;have p4:=b.aR.obj.c 1;rcases(show i=0\/i=1\/i=2\/i=3 by omega)with rfl|rfl|rfl|rfl
   .have e2:=z.k 2;exact qaa
   .have e3:=z.k 3;exact qaa
   .have e6:zt a 6 _:=z.d 1 rfl;cases ho;refine we rfl rfl (Ai _ _ J G m A b.az V.o.2.2 zo zo) ?_;rintro e w' ⟨N,rf,rfl,K,O⟩;exact⟨_,rfl,_,rfl,K,fM iJ.le b.az K (qj O)⟩
   .have e5:zt a 5 _:=z.d 0 rfl;have e7:(aI.mem m [2] (iJ (iF (gz J G)).i (iF (gz J G)).rf)).holds (a.tmps.getD 7 undef) g A:=z.d 2 rfl;cases ho;obtain⟨r1,s1,r2,s2,k1,t1⟩:iJ _ _ _ _:=e7;refine we rfl rfl (K4 _ _ _ _ I F _ _ _ A (dzd b.az g [2]) (V.o.2.1.le (dzF b.az g [2])) t1 zo zo zo zo) ?_;rintro e w' ⟨N,rf,rfl,K,O⟩;rw[V.o.1]at O;exact⟨_,rfl,_,rfl,K,lh (ds:=[2]) iJ.le b.az zS (fun d hd=>(z.iQ d qed).2.2) K (qj O)⟩
  .intro g a A E;have e4:=E.keep 4 zk;have e8:(aI.mem m [3,2] (iJ x.i x.rf)).holds (a.tmps.getD 8 undef) g A:=E.fact 3 _ zo rfl;obtain⟨u,r,s,q,f1,D⟩:iJ _ _ _ _:=e8;have h:=U.o.bM.bM.dr.region E.aF g [3,2] (fun d hd=>(E.iQ d qd8).1);have HE:=zh E;generalize m.fJ A g [3,2]=P at*
   have HK:=zh D;clear E D;have Z:=h.obj.frozen 0;have r':=h.obj.frozen 1;have Y:=h.obj.c 0;have q':=h.obj.c 1;have b3:=h.obj.lt;have Q:=(h.set 0 (.slice u x.i.length r)).set 1 (.slice s x.rf.length q);refine eQ 4 zk (aM rfl rfl (dx zg ?_));obtain⟨t,d⟩:=a;obtain rfl:d=[]:=HE.o.defers;refine dB zk (hX.o _ _ HE.o.size ⟨P,u,s,r,q,?_,Q,HK.o⟩) _;simp only[yL,xB,e4]
   rfl
 rintro z2 W w2-⟨mk',u,s,r,q,rfl,hO,hr⟩;simp[bz,lk];have g5:=hO.obj.c 0;have g6:=hO.obj.c 1;have Hk:=zh qfR;clear hO hr U;go_wp2;refine yV (v:=.agg #[.slice u x.i.length r,.slice s x.rf.length q]) (by simp[results,results89,go_sem,g5,g6]) rfl ?_;exact qaU
theorem Qh{x:NS}(h:fH x):KY (fF x):=fun u a=>by
 have:=h.lV ((lQ h).one u a).1;unfold cO iH at this;omega
theorem J3(A B D E:zV)(I F J G:List dh)(m:Mem)(w:zW)(hm:m.az w)(h1:dA m A B I F)(Z:dA m D E J G)(hI:I.length<=250)(hF:F.length<=250)(hJ:J.length<=250)(hG:G.length<=250):
 zX 174 #[.agg #[A,B],.agg #[D,E]] w (.j (rz (gz I F) (gz J G))):=by
 have Y:=((Own.start hm).al #[A,B] 24).al #[D,E] 24;have j:(w.alloc (.cells #[A,B] 24)).heap.size=w.heap.size+1:=by simp
 rw[j]at Y;have HA:=zh (wQ A B I F D E J G m _ Y.az h1 Z zo zo zo zo);have HB:=zh (fun(mk:Mem) w' (h:mk.az w') (hl:m.le mk)=>wQ D E J G A B I F mk w' h (Z.le hl) (h1.le hl) zo zo zo zo);obtain⟨a1,c1,b1,d1,rfl,rfl⟩:=h1.dm;obtain⟨a2,c2,b2,d2,rfl,rfl⟩:=Z.dm;have d:=kH I F;have b:=kH J G;have q:=Ec (jP hI hF) (jP hJ hG);have p:=Ec (jP hJ hG) (jP hI hF);have l1:=q.i;have l2:=q.f;have l3:=p.i;have l4:=p.f;rw[<-NS.sG]at l2 l4;have K:=mI (ji d b);have H:=mI (ji b d);have M:=Qh (ji d b);have L:=Qh (ji b d);have k:rz (gz I F) (gz J G)=Ez (fF (gH (gz I F) (gz J G))) (fF (gH (gz J G) (gz I F))):=rfl;have HO:=zh Y;have HX:=zh (zi K (zi H (zi M (zi L k))));clear Y h1 Z j K H M L k q p d b;refine au fun R g=>?_;generalize gH (gz I F) (gz J G)=x at*
 generalize gH (gz J G) (gz I F)=y at*
 go_enter func174,ntmps174
 go_wp2_with fail
 refine HA.o.mono ?_;rintro e w1 ⟨ri,rf,rfl,S,n⟩;have z:=HO.o.call S;have W:=zh (wR _ _ x.i x.rf _ w1 z.az n zo zo);obtain⟨xa,xc,ya,yc,rfl,rfl⟩:=n.dm;have V:=zh z;clear HA HO z S n
 go_wp2_with fail
 refine W.o.mono ?_;rintro e w2 ⟨rfl,Q⟩;rw[HX.o.1];have a:=V.o.aT Q;have HM:=zh (HB.o _ w2 a.az a.ext.1);have d1:=a.obj.c 0;have d2:=a.obj.c 1;have d3:=a.obj.lt;have d4:=a.av.obj.c 0;have d5:=a.av.obj.c 1;have d6:=a.av.obj.lt;have U:=zh a;clear a Q V HB W
 go_wp2_with fail
 refine HM.o.mono ?_;rintro e w3 ⟨ri,rf,rfl,P,l⟩;have t:=U.o.call P;have W:=zh (wR _ _ y.i y.rf _ w3 t.az l zo zo);obtain⟨xa,xc,ya,yc,rfl,rfl⟩:=l.dm;have T:=zh t;clear HM U t P l d1 d2 d3 d4 d5 d6
 go_wp2_with fail
 refine W.o.mono ?_;rintro e w4 ⟨rfl,O⟩;rw[HX.o.2.1];have X:=zh (T.o.aT O).aF;have HI:=zh HX.o.2.2;clear W T O HX;rw[HI.o.2.2]at g;have hp:=HI.o.1;have hq:=HI.o.2.1;clear HI;generalize fF x=r at*
 generalize fF y=s at*
 cases r with
 |none=>
  cases s with
  |none=>
   go_wp2
   exact g.o _ _ ⟨rfl,X.o⟩
  |some v=>
   go_wp2
   exact g.o _ _ ⟨rfl,X.o⟩
 |some u=>
  cases s with
  |none=>
   go_wp2
   exact g.o _ _ ⟨rfl,X.o⟩
  |some v=>
   have hu:=hp u rfl;have hv:=hq v rfl;have HN:=zh (CG u v w4 hu.1 hu.2 hv.1 hv.2);clear hu hv hp hq
   go_wp2_with fail
   refine HN.o.mono ?_;rintro e w5 ⟨rfl,N⟩;have HF:=zh (iO X.o N);have hc:Ez (some u) (some v)=if kr u v then -1 else 1:=rfl;rw[hc]at g;clear HN N X hc;by_cases C:kr u v
   .rw[zN C];rw[zK C]at g;clear C;go_wp2;exact g.o _ _ ⟨rfl,HF.o⟩
   .rw[zM C];rw[zJ C]at g;clear C;go_wp2;exact g.o _ _ ⟨rfl,HF.o⟩
theorem Fg{α:Type}(p:α->Prop):∀(l:List α) (k:Nat),0<=firstIdx p l k↔∃x∈l,p x
 |[],k=>by unfold firstIdx;simp
 |x::l,k=>by
  unfold firstIdx;by_cases h:p x
  .rw[zK (aN h)];simp[h]
  .rw[zJ (by rw[aG h];simp),Fg p l (k+1)];simp[h]
theorem Kn(v:zV)(l:List ByteArray)(x:ByteArray)(m:Mem)(w:zW)(C:m.az w)(D:Bu m v l):
 zX 182 #[v,.string x] w (.j (firstIdx (fun y=>x.toList=y.toList) l 0)):=by
 obtain⟨a,c,rfl,H,G,F⟩:=D;unfold maxLen at G;refine au fun R t=>?_
 go_enter func182,ntmps182
 go_wp2;refine aB [0,1,7,8] (fun n s r=>∃k:Nat,k<=l.length/\n=l.length-k/\s=[.slice a l.length c,.string x,.j l.length,.j k]/\firstIdx (fun y=>x.toList=y.toList) l 0=firstIdx (fun y=>x.toList=y.toList) (l.drop k) k/\zB w r) ?_ ?_
 .exact qcW
 rintro X z n s r E-⟨k,hk,rfl,rfl,g,d⟩;have f:=zh g;clear g;simp[bz,lk];have j:=dzE C d;by_cases hlt:k<l.length
 .obtain⟨b,off,rfl,u⟩:=F qdJ;obtain⟨A,-⟩:=u k hlt;have I:=azk j A;have cl:=bzu j A;have B:=zh (sP (fun y=>x.toList=y.toList) l k hlt);clear u;by_cases i:x.toList=l[k].toList
  .have p:(x.toList==l[k].toList)=true:=by simp[i]
   have q:=zh i;clear i;go_wp2;exact t.o _ _ ⟨je (by rw[f.o,B.o,zK (aN q.o)]),d⟩
  .have p:(x.toList==l[k].toList)=false:=by simp[i]
   have q:=zh i;clear i;go_wp2;exact E.o _ _ _ zo rfl ⟨k+1,zo,rfl,rfl,by rw[f.o,B.o,zJ (by rw[aG q.o];simp)],d⟩
 .go_wp2;exact t.o _ _ ⟨je (by rw[f.o,zQ zo];rfl),d⟩
theorem EM(v:zV)(l:List ByteArray)(x:ByteArray)(m:Mem)(w:zW)(j:m.az w)(b:Bu m v l):
 zX 140 #[v,.string x] w (.bool (tf (∃y∈l,x.toList=y.toList))):=by
 have n:=zh (Kn v l x m w j b);have g:=zh (Fg (fun y:ByteArray=>x.toList=y.toList) l 0);obtain⟨a,c,rfl,s,f,r⟩:=b;refine au fun R k=>?_
 go_enter func140,ntmps140
 go_wp2_with fail
 refine n.o.mono ?_;rintro e q ⟨rfl,d⟩;have p:=zh d;clear d;generalize firstIdx (fun y:ByteArray=>x.toList=y.toList) l 0=i at*
 go_wp2;refine k.o _ _ ⟨aP ?_,p.o⟩;by_cases h:∃y∈l,x.toList=y.toList
 .rw[aN h];exact zN (g.o.2 h)
 .rw[aG h];exact zM (fun f=>h (g.o.1 f))
end Cl
