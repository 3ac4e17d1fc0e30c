/- Lemmas for the proofs of chapter 11. -/
import Derived.Test.YtbbnjopkjbhpbaaGreatDoorPkP12
set_option maxRecDepth 100000
set_option maxHeartbeats 16000000
namespace Cl
open Go Go.RowKit Go.Proofs Tryz
theorem G8(z:Array Value)(n:Nat):(Builtin.zeroCells z n).size=n*z.size:=by simp[Builtin.zeroCells]
theorem czo{w0 w:zW}{m mk:Mem}{L:List bA}(h:Own w0 m w mk L)(n:Nat)(p:n<=1000000):
 zC 241 #[.slice none 0 0,.int .i64 n] w fun e w'=>∃a c,e=.returned (.slice a 0 c)/\Own w0 m w' mk (.row (.slice a 0 c) 100 2 0 []::L):=by
 by_cases l:n=0
 .subst l;refine Calls.mono (Any8.slices_Grow_room Tryz.bzp none 0 0 0 w (zI _) zo zo zo) ?_;exact qh4
 .obtain⟨i,hi,g,o,hb⟩:=info_parts DR;refine Calls.mono (Any8.slices_Grow_grow Tryz.bzp i (.agg #[.int .i64 0,.int .i64 0]) hi g zo none 0 0 n [] w (zI _) zo qeO zo zS (fun _=>rfl) (fun a e=>by cases e)) ?_;rintro e w' ⟨rfl,rfl⟩;have q:=grownCap_ge w (0+n) 0 100;have j:=grownCap_le_maxLen w (0+n) 0 100 qdR;have d:=h.dr.al (([]:List Value).toArray++Builtin.zeroCells (Value.agg #[.int .i64 0,.int .i64 0]).cells (0+n-0)++Builtin.zeroCells (Value.agg #[.int .i64 0,.int .i64 0]).cells (grownCap w (0+n) 0 100-(0+n))) 100;refine⟨_,_,rfl,?_⟩;refine d.tail.cons (it:=.row _ _ _ _ _) ⟨rfl,.inr ⟨w.heap.size,grownCap w (0+n) 0 100,_,rfl,zG _,d.obj.get,zG _,j,?_,?_⟩⟩ (fun k hk=>d.iA _ (yF ..) k hk) (fun b f=>(yS.1 d.apart).1 b f)
  .simp only[Array.size_append,G8,List.size_toArray,List.length_nil];have:(Value.agg #[.int .i64 0,.int .i64 0]).cells.size=2:=rfl;rw[this];generalize grownCap w (0+n) 0 100=c at*
   omega
  .simp
def sF(xs:List (List dm))(k:Nat):List dm:=(xs.take k).flatten
theorem Nb(xs:List (List dm))(k:Nat)(h:k<xs.length):sF xs (k+1)=sF xs k++xs[k]:=by
 unfold sF;rw[zH h,List.flatten_append];simp
theorem J2(xs:List (List dm))(k:Nat):(sF xs k).length<=(sF xs xs.length).length:=by
 unfold sF;rw[yG];have:xs=xs.take k++xs.drop k:=(List.take_append_drop k xs).symm
 conv=>rhs;rw[this]
 rw[List.flatten_append,zL];omega
theorem bzX(xs:List (List dm)):sF xs xs.length=xs.flatten:=by unfold sF;rw[yG]
theorem Ze(xs:List (List dm)):sF xs 0=[]:=rfl
theorem VT(g c:Nat)(xs:List (List dm))(m:Mem)(w:zW)(hm:m.ay w)(M:∀i (h:i<xs.length),∃u,m.cell g i=some u/\dK m u xs[i])(I:(sF xs xs.length).length<=1000000)(hn:xs.length<=1000000):
 zC 183 #[.slice (some ⟨g,0,none⟩) xs.length c] w fun e w'=>∃r,e=.returned r/\zB w w'/\dK (m.grow w w') r (sF xs xs.length):=by
 have U:=zh M;have H:∀s∈sF xs xs.length,qj s:=fun s K=>by
  rw[bzX]at K;obtain⟨l,hl,K⟩:=List.mem_flatten.1 K;obtain⟨i,hi,rfl⟩:=yX hl;obtain⟨u,-,C⟩:=M i hi;exact Ce C s K
 have O:=zh H;clear M H;refine au fun R hR=>?_
 go_enter func183,ntmps183
 go_wp2;refine aC [0,3,9,10,11] (fun n G F=>∃k:Nat,k<=xs.length/\n=xs.length-k/\G=[.slice (some ⟨g,0,none⟩) xs.length c,.int .i64 (sF xs k).length,.slice (some ⟨g,0,none⟩) xs.length c,.int .i64 xs.length,.int .i64 k] /\
  Own w m F m []) ?_ ?_
 .exact⟨_,0,zG _,rfl,by rw[Ze];rfl,Own.start hm⟩
 rintro X z n G F hX-⟨k,hk,rfl,rfl,hO⟩;simp[bB,lk];have d':=J2 xs k;by_cases B:k<xs.length
 .obtain⟨u,E,C⟩:=U.o k B;have r1:=Mem_cell_w hO.ay E;have rl:=Mem_cell_lt hO.ay E;obtain⟨a,Q,rfl⟩:=eG C;have f:=congrArg List.length (Nb xs k B);rw[zL]at f;have t:=J2 xs (k+1);have HO:=zh hO;have Hst:=zh f;have hb:(sF xs k).length+xs[k].length<=1000000:=zo;generalize (sF xs k).length=T at*
  generalize xs[k].length=N at*
  clear C E hO f t;exact qcW
 .obtain rfl:k=xs.length:=zo;have W:=zh (czo hO (sF xs xs.length).length I);clear hO hX
  go_wp2_with fail
  refine W.o.mono ?_;rintro e w2 ⟨a,d,rfl,hO⟩;have HO:=zh hO;clear W hO;go_wp2;refine aC [6,25,26,27] (fun n G F=>∃(k:Nat) (v:zV),k<=xs.length/\n=xs.length-k/\G=[v,.slice (some ⟨g,0,none⟩) xs.length c,.int .i64 xs.length,.int .i64 k] /\
   Own w m F m [.row v 100 2 (sF xs k).length (bM (sF xs k))]) ?_ ?_
  .exact⟨_,0,_,zG _,rfl,rfl,HO.o⟩
  clear HO;rintro X z n G F hX-⟨k,v,hk,rfl,rfl,hO⟩;simp[bB,lk];obtain⟨va,Z,rfl⟩:=bz hO.row;by_cases B:k<xs.length
  .obtain⟨u,E,C⟩:=U.o k B;have r1:=Mem_cell_w hO.ay E;have rl:=Mem_cell_lt hO.ay E;obtain⟨a,Q,rfl⟩:=eG C;have f:=Nb xs k B;have t:=J2 xs (k+1);rw[f,zL]at t;have A:0<xs[k].length->∃S,a=some S/\∀j u,(bM xs[k])[j]?=some u->F.cell? (S.add j)=some u:=fun h=>by
    obtain⟨b,off,e,h2⟩:=IK hO.ay C (by intro e;rw[e]at h;simp at h);exact⟨_,e,h2⟩
   have D:∀v∈bM xs[k],v.oneCell'=true:=fun v hv=>by
    exact qcP
   have Hst:=zh f;have V:=zh (zi A D);clear f A D C E;generalize sF xs k=L at*
   generalize xs[k]=q at*
   go_wp2_with (at_builtin;refine BO qE rfl (.tmp 31) (.tmp 32) rfl (.slice va L.length Z) L.length _ rfl hO.row a q.length Q (bM q) rfl (dP q) V.o.1 V.o.2 qdR zo ?_)
   intro a' Y w7 y p x;have J:=hO.app y p x (zI _);have P:=zh J;clear J hO y p x;go_wp2;refine hX.o _ _ _ zo rfl ⟨k+1,_,zo,rfl,rfl,?_⟩;rw[Hst.o,zL];have e:bM (L++q)=bM L++bM q:=by simp[bM]
   rw[e];exact P.o
  .obtain rfl:k=xs.length:=zo;have f:=j3 (m:=m) (l:=(sF xs xs.length)) hO.row O.o;have hfin:=bZ hO.bO.done f;have Hfin:=zh qi2;clear hO f hfin;go_wp2;exact qa7
theorem Au{m:Mem}{w:zW}{g:Nat}{t:TypeId}{arr:Array Value}(a:qy){ds:List Nat}{d:Nat}(c:d∈ds)(h:(a d).1<=g)(f:g<(a d).2)(b:aZ w g t arr){i:Nat}{v:zV}(hi:arr[i]?=some v):
 (m.fJ w a ds).cell g i=some v:=by
 have:ds.any (fun d=>decide ((a d).1<=g/\g<(a d).2))=true:=List.any_eq_true.2 ⟨d,c,by simp[h,f]⟩;have e:m.fJ w a ds g=some (.cells arr t (0,0)):=by
  unfold Mem.fJ;rw[zK this];exact b.get
 unfold Mem.cell;rw[e];exact hi
theorem WQ(g:Nat)(c b:zV)(I J:List dm)(M:Mem)(w:zW)(d:M.ay w)(h:dK M c I)(f:dK M b J)(k:M.cell g 0=some c)(j:M.cell g 1=some b)(a:I.length+J.length<=1000000):
 zC 183 #[.slice (some ⟨g,0,none⟩) 2 2] w fun e w'=>∃r,e=.returned r/\zB w w'/\dK (M.grow w w') r (I++J):=by
 have e:sF [I,J] [I,J].length=I++J:=by simp[sF]
 have:=VT g 2 [I,J] M w d (fun i hi=>by
  simp only[yO,List.length_nil]at hi;rcases(show i=0\/i=1 by omega)with rfl|rfl
  .exact⟨c,k,h⟩
  .exact⟨b,j,f⟩) (by rw[e,zL];exact a) zS
 rw[e]at this;exact this
theorem IZ(C D M N:zV)(I F J G:List dm)(m:Mem)(w:zW)(hm:m.ay w)(W:dH m C D I F)(V:dH m M N J G)(hI:I.length<=30000)(hF:F.length<=30000)(hJ:J.length<=30000)(hG:G.length<=30000):
 zC 143 #[.agg #[C,D],.agg #[M,N]] w fun e w'=>∃S rf,e=.returned (.agg #[S,rf])/\zB w w'/\dH (m.grow w w') S rf (p8 (gG I F) (gG J G)).i (p8 (gG I F) (gG J G)).rf:=by
 have hO:=(((Own.start hm).al #[C,D] 24).al #[M,N] 24).al #[.slice none 0 0,.slice none 0 0] 24;have n:(w.alloc (.cells #[C,D] 24)).heap.size=w.heap.size+1:=by simp
 have l:((w.alloc (.cells #[C,D] 24)).alloc (.cells #[M,N] 24)).heap.size=w.heap.size+1+1:=by simp
 rw[l,n]at hO;obtain⟨a1,c1,Q,d1,rfl,rfl⟩:=W.df;obtain⟨a2,c2,P,d2,rfl,rfl⟩:=V.df;have p:=fzh I F J G;have HO:=zh hO;have L:=zh (zi W (zi V p));clear hO W V n l p;refine au fun R hR=>?_;generalize p8 (gG I F) (gG J G)=x at*
 go_enter func143,ntmps143
 go_upto_region 1 with(fail)
 refine aV [4] (fun vs w'=>∃(mk':Mem) (z y:Option Addr) (u s:Nat),vs=[.pointer (some ⟨w.heap.size+1+1,0,none⟩)] /\
  Own w m w' mk' [.obj (w.heap.size+1+1) 24 #[.slice z x.i.length u,.slice y x.rf.length s]] /\
  dH mk' (.slice z x.i.length u) (.slice y x.rf.length s) x.i x.rf) ?_ ?_
 .intro X hX;refine bF 14 6 (fun j=>[aI.is (·=.pointer (some ⟨w.heap.size,0,none⟩)),aI.is (·=.slice a1 I.length c1),aI.is (·=.pointer (some ⟨w.heap.size+1,0,none⟩)),aI.is (·=.slice a2 J.length c2),aI.sl 4 22 #[.slice a1 I.length c1,.slice a2 J.length c2] 2,aI.mem m [5,4] (Ev (I++J)),aI.is (·=.pointer (some ⟨w.heap.size,1,none⟩)),aI.is (·=.slice Q F.length d1),aI.is (·=.pointer (some ⟨w.heap.size+1,1,none⟩)),aI.is (·=.slice P G.length d2),aI.sl 10 22 #[.slice Q F.length d1,.slice P G.length d2] 2,aI.mem m [11,10] (Ev (F++G)),aI.mem m [5,4,11,10] (iR (I++J) (F++G)),aI.mem m [13,5,4,11,10] (iR x.i x.rf)].getD j aI.any) zk zk ?_ ?_
  .intro i hi o win a g ho b;have HO2:=HO.o.dr.aS b.az;have q1:=HO2.av.obj.c 0;have q2:=HO2.av.obj.c 1;have q3:=HO2.aP.obj.c 0;have q4:=HO2.aP.obj.c 1;rcases(show i=0\/i=1\/i=2\/i=3\/i=4\/i=5\/i=6\/i=7\/i=8\/i=9\/i=10\/i=11\/i=12\/i=13 by omega)with rfl|rfl|rfl|rfl|rfl|rfl|rfl|rfl|rfl|rfl|rfl|rfl|rfl|rfl
   .have e2:=b.k 2;exact qaa
   .have e5:zt a 5 _:=b.d 0 rfl;exact qaa
   .have e3:=b.k 3;exact qaa
   .have e7:zt a 7 _:=b.d 2 rfl;exact qaa
   .have e6:zt a 6 _:=b.d 1 rfl;have e8:zt a 8 _:=b.d 3 rfl;have f8:=(zY (xs:=a.tmps) (i:=8) (d:=undef)).symm.trans e8;have f6:=(zY (xs:=a.tmps) (i:=6) (d:=undef)).symm.trans e6;exact qhQ
   .have e9:(aI.sl 4 22 #[.slice a1 I.length c1,.slice a2 J.length c2] 2).holds (a.tmps.getD 9 undef) win g:=b.d 4 rfl;cases ho;obtain⟨K,n1,o1⟩:_/\_/\_:=e9;refine we rfl rfl (WQ (win 4).1 _ _ I J (m.fJ g win [4]) g (Mem_wins_inn HO2.ay win [4]) (bZ (Mem_le_wins HO2.ay win [4]) L.o.1.i) (bZ (Mem_le_wins HO2.ay win [4]) L.o.2.1.i) qiL qiL zo) ?_;rintro e w' ⟨r,rfl,q,B⟩;exact⟨_,rfl,_,rfl,q,kN (ds:=[4]) Ev.le HO2.ay zS (fun d hd=>(b.iZ d qeg).2.2) q (ED B)⟩
   .have e2:=b.k 2;exact qaa
   .have K':a.tmps.getD 11 undef=_:=b.d 6 rfl;exact qaa
   .have e3:=b.k 3;exact qaa
   .have J':a.tmps.getD 13 undef=_:=b.d 8 rfl;exact qaa
   .have f':a.tmps.getD 12 undef=_:=b.d 7 rfl;have e':a.tmps.getD 14 undef=_:=b.d 9 rfl;have C':=(zY (xs:=a.tmps) (i:=12) (d:=undef)).symm.trans f';have B':=(zY (xs:=a.tmps) (i:=14) (d:=undef)).symm.trans e';exact qhQ
   .have d':(aI.sl 10 22 #[.slice Q F.length d1,.slice P G.length d2] 2).holds (a.tmps.getD 15 undef) win g:=b.d 10 rfl;cases ho;obtain⟨K,n1,o1⟩:_/\_/\_:=d';refine we rfl rfl (WQ (win 10).1 _ _ F G (m.fJ g win [10]) g (Mem_wins_inn HO2.ay win [10]) (bZ (Mem_le_wins HO2.ay win [10]) L.o.1.f) (bZ (Mem_le_wins HO2.ay win [10]) L.o.2.1.f) qiL qiL zo) ?_;rintro e w' ⟨r,rfl,q,B⟩;exact⟨_,rfl,_,rfl,q,kN (ds:=[10]) Ev.le HO2.ay zS (fun d hd=>(b.iZ d qeg).2.2) q (ED B)⟩
   .have g':(aI.mem m [5,4] (Ev (I++J))).holds (a.tmps.getD 10 undef) win g:=b.d 5 rfl;have c':(aI.mem m [11,10] (Ev (F++G))).holds (a.tmps.getD 16 undef) win g:=b.d 11 rfl;cases ho;obtain⟨r1,s1,K,A⟩:Ev _ _ _:=g';obtain⟨r2,s2,k2,O⟩:Ev _ _ _:=c';have Z:=(zY (xs:=a.tmps) (i:=10) (d:=undef)).symm.trans K;have Y:=(zY (xs:=a.tmps) (i:=16) (d:=undef)).symm.trans k2;have A:=bZ qi9 A;have O:=bZ qi9 O;rw[zL]at K k2 Z Y A O;exact aJ rfl rfl (aO zg ⟨_,rfl,zR _ _,rF [5,4,11,10] (R:=iR (I++J) (F++G)) win zS (fun d hd=>(b.iZ d qd7).2.2) ⟨r1,s1,r2,s2,by rw[zL,zL],by rw[zL,zL];exact⟨A,O⟩⟩⟩)
   .have b':(aI.mem m [5,4,11,10] (iR (I++J) (F++G))).holds (a.tmps.getD 17 undef) win g:=b.d 12 rfl;cases ho;obtain⟨r1,s1,r2,s2,K,A⟩:iR _ _ _ _:=b';refine we rfl rfl (jL _ _ _ _ _ g (Mem_wins_inn HO2.ay win [5,4,11,10]) A (by rw[zL];omega) (by rw[zL];omega)) ?_;rintro e w' ⟨S,rf,rfl,q,B⟩;rw[L.o.2.2]at B;exact⟨_,rfl,_,rfl,q,kN (ds:=[5,4,11,10]) iR.le HO2.ay zS (fun d hd=>(b.iZ d qd7).2.2) q (qF B)⟩
  .intro win a g E;have e4:=E.keep 4 zk;have a':(aI.mem m [13,5,4,11,10] (iR x.i x.rf)).holds (a.tmps.getD 18 undef) win g:=E.fact 13 _ zo rfl;obtain⟨z,u,y,s,f1,H⟩:iR _ _ _ _:=a';have h:=HO.o.bK.bK.dr.region E.az win [13,5,4,11,10] (fun d hd=>(E.iZ d qec).1);have HE:=zh E;generalize m.fJ g win [13,5,4,11,10]=T at*
   have HK:=zh H;clear E H;have Q:=h.obj.frozen 0;have M':=h.obj.frozen 1;have P:=h.obj.c 0;have L':=h.obj.c 1;have b3:=h.obj.lt;have U:=(h.set 0 (.slice z x.i.length u)).set 1 (.slice y x.rf.length s);refine dX 14 zk (aJ rfl rfl (bT zg ?_));obtain⟨t,d⟩:=a;obtain rfl:d=[]:=HE.o.defers;refine dx zk (hX.o _ _ HE.o.size ⟨T,z,y,u,s,?_,U,HK.o⟩) _;simp only[yL,xB,e4]
   rfl
 rintro z2 vs w2-⟨mk',z,y,u,s,rfl,hO,hr⟩;simp[bB,lk];have g5:=hO.obj.c 0;have g6:=hO.obj.c 1;have Hk:=zh qi5;clear hO hr HO;go_wp2;refine yV (v:=.agg #[.slice z x.i.length u,.slice y x.rf.length s]) (by simp[results,results143,go_sem,g5,g6]) rfl ?_;exact qaW
theorem Me{m:Mem}{v:zV}{lo hi:Int}(h:dK m v [(lo,hi)]):∃b off c,v=.slice (some ⟨b,off,none⟩) 1 c/\m.cell b off=some (.int .i64 lo)/\m.cell b (off+1)=some (.int .i64 hi)/\1<=c:=by
 obtain⟨a,c,rfl,g,i,f⟩:=h;obtain⟨b,off,rfl,e⟩:=f zS;have d:=e 0 zS;simp only[Nat.zero_mul,Nat.add_zero]at d;exact⟨b,off,c,rfl,d.1,d.2.1,g⟩
theorem AU(vi vf:zV)(I F:List dm)(m:Mem)(w:zW)(hm:m.ay w)(h1:dH m vi vf I F)(hI:I.length<=30000)(hF:F.length<=30000):
 zC 137 #[.agg #[vi,vf]] w fun e w'=>∃O rf,e=.returned (.agg #[O,rf])/\zB w w'/\dH (m.grow w w') O rf (iO (gG I F)).i (iO (gG I F)).rf:=by
 have hO:=((Own.start hm).al #[vi,vf] 24).al #[.slice none 0 0,.slice none 0 0] 24;have z:(w.alloc (.cells #[vi,vf] 24)).heap.size=w.heap.size+1:=by simp
 rw[z]at hO;obtain⟨a1,c1,b1,d1,rfl,rfl⟩:=h1.df;have HM:=zh (jL _ _ I F m _ hO.ay h1 zo zo);have l:=zh hO;clear hO h1 z;have H:=jy hI hF;have p:=kU I F;have l1:=H.i;have l2:=H.f;rw[<-NS.rC]at l2;have A:gG (gB (fun n=>n+1) (fun n=>n-1) (gG I F).i (-100000000000) 100000000000) (gB jA je (gG I F).rf (-999999999999999) 999999999999999)=iO (gG I F):=dza p;have b':=p.inI;have c':=p.inF;have W:∀s∈gB (fun n=>n+1) (fun n=>n-1) (gG I F).i (-100000000000) 100000000000,qj s:=by
  rw[yx];exact fun s hs=>Di ((kX p).inI s hs)
 have V:∀s∈gB jA je (gG I F).rf (-999999999999999) 999999999999999,qj s:=by
  have e:gB jA je (gG I F).rf (-999999999999999) 999999999999999=(iO (gG I F)).rf:=WL _;rw[e];exact fun s hs=>Di ((kX p).inF s hs)
 have K':=AY (fun n=>n+1) (fun n=>n-1) (gG I F).i (-100000000000) 100000000000;have J':=AY jA je (gG I F).rf (-999999999999999) 999999999999999;refine au fun R hR=>?_;generalize gG I F=x at*
 have HX:=zh (zi A (zi b' (zi c' (zi W V))));clear A b' c' W V H p
 go_enter func137,ntmps137
 go_wp2_with fail
 refine HM.o.mono ?_;rintro e w1 ⟨O,rf,rfl,Z,q⟩;have g:=l.o.call Z;have HA:=zh (EN _ w1 g.ay);have y:=zh (zi g q);obtain⟨xa,xc,ya,yc,rfl,rfl⟩:=q.df;clear HM g q Z l
 go_wp2_with fail
 refine HA.o.mono ?_;rintro e K ⟨O,rf,rfl,Y,J⟩;have a':=y.o.1.call Y;have q:=y.o.2.le (Mem_le_grow y.o.1.ay (w:=K));obtain⟨q1,o1,M,rfl,z1,z2,z3⟩:=Me J.i;obtain⟨q2,o2,P,rfl,z4,z5,z6⟩:=Me J.f;have u:=(a'.al #[.slice xa x.i.length xc,.slice ya x.rf.length yc] 24).al #[.slice (some ⟨q1,o1,none⟩) 1 M,.slice (some ⟨q2,o2,none⟩) 1 P] 24;have e1:(K.alloc (.cells #[.slice xa x.i.length xc,.slice ya x.rf.length yc] 24)).heap.size=K.heap.size+1:=by simp
 rw[e1]at u;generalize ((m.grow (((w.alloc (.cells #[.slice a1 I.length c1,.slice b1 F.length d1] 24)).alloc (.cells #[.slice none 0 0,.slice none 0 0] 24))) w1).grow w1 K)=mk at*
 have l:=zh (zi u (zi q (zi z1 (zi z2 (zi z4 z5)))));clear a' q u J Y HA y z1 z2 z4 z5 e1
 go_upto_region 2 with(fail)
 generalize V':(K.alloc (.cells #[.slice xa x.i.length xc,.slice ya x.rf.length yc] 24)).alloc (.cells #[.slice (some ⟨q1,o1,none⟩) 1 M,.slice (some ⟨q2,o2,none⟩) 1 P] 24)=w3 at*
 generalize K.heap.size=S at*
 refine aV [2] (fun vs w'=>∃(mk':Mem) (G D:Option Addr) (C B:Nat),vs=[.pointer (some ⟨w.heap.size+1,0,none⟩)] /\
  Own w m w' mk' [.obj (w.heap.size+1) 24 #[.slice G (iO x).i.length C,.slice D (iO x).rf.length B]] /\
  dH mk' (.slice G (iO x).i.length C) (.slice D (iO x).rf.length B) (iO x).i (iO x).rf) ?_ ?_
 .intro X hX;refine bF 18 6 (fun j=>[aI.is (·=.pointer (some ⟨S,0,none⟩)),aI.is (·=.slice xa x.i.length xc),aI.is (·=.pointer (some ⟨S+1,0,none⟩)),aI.is (·=.slice (some ⟨q1,o1,none⟩) 1 M),aI.is (·=.pointer (some ⟨q1,o1,none⟩)),aI.is (·=.agg #[.int .i64 (-100000000000),.int .i64 100000000000]),aI.mem mk [6] (FC 95 179 x.i (-100000000000) 100000000000),aI.mem mk [7,6] (Ev (gB (fun n=>n+1) (fun n=>n-1) x.i (-100000000000) 100000000000)),aI.is (·=.pointer (some ⟨S,1,none⟩)),aI.is (·=.slice ya x.rf.length yc),aI.is (·=.pointer (some ⟨S+1,1,none⟩)),aI.is (·=.slice (some ⟨q2,o2,none⟩) 1 P),aI.is (·=.pointer (some ⟨q2,o2,none⟩)),aI.is (·=.agg #[.int .i64 (-999999999999999),.int .i64 999999999999999]),aI.mem mk [14] (FC 96 180 x.rf (-999999999999999) 999999999999999),aI.mem mk [15,14] (Ev (gB jA je x.rf (-999999999999999) 999999999999999)),aI.mem mk [7,6,15,14] (iR (gB (fun n=>n+1) (fun n=>n-1) x.i (-100000000000) 100000000000) (gB jA je x.rf (-999999999999999) 999999999999999)),aI.mem mk [17,7,6,15,14] (iR (iO x).i (iO x).rf)].getD j aI.any) zk zk ?_ ?_
  .intro i hi o win a h ho b;have HO2:=l.o.1.dr.aS b.az;have p1:=HO2.obj.c 0;have p2:=HO2.obj.c 1;have p3:=HO2.av.obj.c 0;have p4:=HO2.av.obj.c 1;have L:=Mem_cell_w HO2.ay l.o.2.2.1;have t2:=Mem_cell_w HO2.ay l.o.2.2.2.1;have t3:=Mem_cell_w HO2.ay l.o.2.2.2.2.1;have t4:=Mem_cell_w HO2.ay l.o.2.2.2.2.2;have t5:=Mem_cell_lt HO2.ay l.o.2.2.1;have t6:=Mem_cell_lt HO2.ay l.o.2.2.2.2.1;rcases(show i=0\/i=1\/i=2\/i=3\/i=4\/i=5\/i=6\/i=7\/i=8\/i=9\/i=10\/i=11\/i=12\/i=13\/i=14\/i=15\/i=16\/i=17 by omega)with rfl|rfl|rfl|rfl|rfl|rfl|rfl|rfl|rfl|rfl|rfl|rfl|rfl|rfl|rfl|rfl|rfl|rfl
   .have e3:=b.k 3;exact qaa
   .have e8:zt a 8 _:=b.d 0 rfl;exact qaa
   .have e4:=b.k 4;exact qaa
   .have e10:zt a 10 _:=b.d 2 rfl;exact qaa
   .have e11:zt a 11 _:=b.d 3 rfl;exact qaa
   .have e12:zt a 12 _:=b.d 4 rfl;exact qaa
   .have e9:zt a 9 _:=b.d 1 rfl;have e13:zt a 13 _:=b.d 5 rfl;cases ho;refine we rfl rfl (QX _ x.i (-100000000000) 100000000000 179 95 mk h HO2.ay l.o.2.1.i) ?_;exact qhD
   .have A':(aI.mem mk [6] (FC 95 179 x.i (-100000000000) 100000000000)).holds (a.tmps.getD 14 undef) win h:=b.d 6 rfl;cases ho;have Q:FC 95 179 x.i (-100000000000) 100000000000 (mk.fJ h win [6]) (a.tmps.getD 14 undef):=A';obtain⟨R',U⟩:∃v,a.tmps.getD 14 undef=v:=⟨_,rfl⟩;rw[U]at Q;refine we rfl rfl (Gj I6 Yh _ h (Mem_wins_inn HO2.ay win [6]) Q HX.o.2.1 zo HX.o.2.2.2.1) ?_;rintro e w' ⟨r,rfl,hb,hn⟩;exact⟨_,rfl,_,rfl,hb,kN (ds:=[6]) Ev.le HO2.ay zS (fun d hd=>(b.iZ d qeg).2.2) hb (ED hn)⟩
   .have e3:=b.k 3;exact qaa
   .have e16:zt a 16 _:=b.d 8 rfl;exact qaa
   .have e4:=b.k 4;exact qaa
   .have e18:zt a 18 _:=b.d 10 rfl;exact qaa
   .have e19:zt a 19 _:=b.d 11 rfl;exact qaa
   .have e20:zt a 20 _:=b.d 12 rfl;exact qaa
   .have e17:zt a 17 _:=b.d 9 rfl;have e21:zt a 21 _:=b.d 13 rfl;cases ho;refine we rfl rfl (QX _ x.rf (-999999999999999) 999999999999999 180 96 mk h HO2.ay l.o.2.1.f) ?_;exact qhD
   .have y':(aI.mem mk [14] (FC 96 180 x.rf (-999999999999999) 999999999999999)).holds (a.tmps.getD 22 undef) win h:=b.d 14 rfl;cases ho;have Q:FC 96 180 x.rf (-999999999999999) 999999999999999 (mk.fJ h win [14]) (a.tmps.getD 22 undef):=y';obtain⟨Q',T⟩:∃v,a.tmps.getD 22 undef=v:=⟨_,rfl⟩;rw[T]at Q;refine we rfl rfl (Gj I7 Qo _ h (Mem_wins_inn HO2.ay win [14]) Q HX.o.2.2.1 zo HX.o.2.2.2.2) ?_;rintro e w' ⟨r,rfl,hb,hn⟩;exact⟨_,rfl,_,rfl,hb,kN (ds:=[14]) Ev.le HO2.ay zS (fun d hd=>(b.iZ d qeg).2.2) hb (ED hn)⟩
   .have z':(aI.mem mk [7,6] (Ev (gB (fun n=>n+1) (fun n=>n-1) x.i (-100000000000) 100000000000))).holds (a.tmps.getD 15 undef) win h:=b.d 7 rfl;have x':(aI.mem mk [15,14] (Ev (gB jA je x.rf (-999999999999999) 999999999999999))).holds (a.tmps.getD 23 undef) win h:=b.d 15 rfl;cases ho;obtain⟨r1,s1,M,L⟩:Ev _ _ _:=z';obtain⟨r2,s2,P,t2⟩:Ev _ _ _:=x';have f15:=(zY (xs:=a.tmps) (i:=15) (d:=undef)).symm.trans M;have f20:=(zY (xs:=a.tmps) (i:=23) (d:=undef)).symm.trans P;have L:=bZ qi8 L;have t2:=bZ qi8 t2;exact aJ rfl rfl (aO zg ⟨_,rfl,zR _ _,rF [7,6,15,14] (R:=iR _ _) win zS (fun d hd=>(b.iZ d qd7).2.2) ⟨r1,s1,r2,s2,rfl,L,t2⟩⟩)
   .have v':(aI.mem mk [7,6,15,14] (iR (gB (fun n=>n+1) (fun n=>n-1) x.i (-100000000000) 100000000000) (gB jA je x.rf (-999999999999999) 999999999999999))).holds (a.tmps.getD 24 undef) win h:=b.d 16 rfl;cases ho;obtain⟨r1,s1,r2,s2,M,L⟩:iR _ _ _ _:=v';refine we rfl rfl (jL _ _ _ _ _ h (Mem_wins_inn HO2.ay win [7,6,15,14]) L zo zo) ?_;rintro e w' ⟨O,rf,rfl,hb,hn⟩;rw[HX.o.1]at hn;exact⟨_,rfl,_,rfl,hb,kN (ds:=[7,6,15,14]) iR.le HO2.ay zS (fun d hd=>(b.iZ d qd7).2.2) hb (qF hn)⟩
  .intro win a h E;have e2:=E.keep 2 zk;have u':(aI.mem mk [17,7,6,15,14] (iR (iO x).i (iO x).rf)).holds (a.tmps.getD 25 undef) win h:=E.fact 17 _ zo rfl;obtain⟨G,C,D,B,f1,N⟩:iR _ _ _ _:=u';have g:=l.o.1.tail.tail.bK.dr.region E.az win [17,7,6,15,14] (fun d hd=>(E.iZ d qec).1);have HE:=zh E;generalize mk.fJ h win [17,7,6,15,14]=r' at*
   have HK:=zh N;clear E N;have b1:=g.obj.frozen 0;have b1':=g.obj.frozen 1;have b2:=g.obj.c 0;have b2':=g.obj.c 1;have b3:=g.obj.lt;have u:=(g.set 0 (.slice G (iO x).i.length C)).set 1 (.slice D (iO x).rf.length B);refine dX 18 zk (aJ rfl rfl (bT zg ?_));obtain⟨t,d⟩:=a;obtain rfl:d=[]:=HE.o.defers;refine dx zk (hX.o _ _ HE.o.size ⟨r',G,D,C,B,?_,u,HK.o⟩) _;simp only[yL,xB,e2]
   rfl
 rintro z2 vs w4-⟨mk',G,D,C,B,rfl,hO,hr⟩;simp[bB,lk];have g5:=hO.obj.c 0;have g6:=hO.obj.c 1;have Hk:=zh qi5;clear hO hr l;go_wp2;refine yV (v:=.agg #[.slice G (iO x).i.length C,.slice D (iO x).rf.length B]) (by simp[results,results137,go_sem,g5,g6]) rfl ?_;exact qaW
theorem xw(B C:zV)(I F:List dm)(L M:zV)(J G:List dm)(m:Mem)(w:zW)(hm:m.ay w)(T:dH m B C I F)(S:dH m L M J G)(hI:I.length<=290)(hF:F.length<=290)(hJ:J.length<=290)(hG:G.length<=290):
 zC 89 #[.agg #[B,C],.agg #[L,M]] w fun e w'=>∃N rf,e=.returned (.agg #[N,rf])/\zB w w'/\dH (m.grow w w') N rf (gK (gG I F) (gG J G)).i (gK (gG I F) (gG J G)).rf:=by
 have hO:=(((Own.start hm).al #[B,C] 24).al #[L,M] 24).al #[.slice none 0 0,.slice none 0 0] 24;have n:(w.alloc (.cells #[B,C] 24)).heap.size=w.heap.size+1:=by simp
 have l:((w.alloc (.cells #[B,C] 24)).alloc (.cells #[L,M] 24)).heap.size=w.heap.size+1+1:=by simp
 rw[l,n]at hO;obtain⟨a1,c1,Z,d1,rfl,rfl⟩:=T.df;obtain⟨a2,c2,Y,d2,rfl,rfl⟩:=S.df;have H:=kU J G;have y:=sJ (jy hJ hG);have l1:=y.i;have l2:=y.f;rw[<-NS.rC]at l2;have p:qL (gG I F) (gG (iO (gG J G)).i (iO (gG J G)).rf)=gK (gG I F) (gG J G):=by rw[mR (kX H)];rfl
 clear H y;have U:=zh hO;have V:=zh (zi p (zi T S));clear hO T S n l p;refine au fun R hR=>?_;generalize gK (gG I F) (gG J G)=x at*
 go_enter func89,ntmps89
 go_upto_region 1 with(fail)
 refine aV [4] (fun W w'=>∃(mk':Mem) (u s:Option Addr) (r q:Nat),W=[.pointer (some ⟨w.heap.size+1+1,0,none⟩)] /\
  Own w m w' mk' [.obj (w.heap.size+1+1) 24 #[.slice u x.i.length r,.slice s x.rf.length q]] /\
  dH mk' (.slice u x.i.length r) (.slice s x.rf.length q) x.i x.rf) ?_ ?_
 .intro X hX;refine bF 4 5 (fun j=>[aI.is (·=.agg #[.slice a1 I.length c1,.slice Z F.length d1]),aI.is (·=.agg #[.slice a2 J.length c2,.slice Y G.length d2]),aI.mem m [2] (iR (iO (gG J G)).i (iO (gG J G)).rf),aI.mem m [3,2] (iR x.i x.rf)].getD j aI.any) zk zk ?_ ?_
  .intro i hi o g a A ho z;have b:=U.o.dr.aS z.az;have p1:=b.av.obj.c 0;have p2:=b.av.obj.c 1;have p3:=b.aP.obj.c 0;have p4:=b.aP.obj.c 1;rcases(show i=0\/i=1\/i=2\/i=3 by omega)with rfl|rfl|rfl|rfl
   .have e2:=z.k 2;exact qaa
   .have e3:=z.k 3;exact qaa
   .have e6:zt a 6 _:=z.d 1 rfl;cases ho;refine we rfl rfl (AU _ _ J G m A b.ay V.o.2.2 zo zo) ?_;rintro e w' ⟨N,rf,rfl,K,O⟩;exact⟨_,rfl,_,rfl,K,fO iR.le b.ay K (qF O)⟩
   .have e5:zt a 5 _:=z.d 0 rfl;have e7:(aI.mem m [2] (iR (iO (gG J G)).i (iO (gG J G)).rf)).holds (a.tmps.getD 7 undef) g A:=z.d 2 rfl;cases ho;obtain⟨r1,s1,r2,s2,k1,t1⟩:iR _ _ _ _:=e7;refine we rfl rfl (Mg _ _ _ _ I F _ _ _ A (Mem_wins_inn b.ay g [2]) (V.o.2.1.le (Mem_le_wins b.ay g [2])) t1 zo zo zo zo) ?_;rintro e w' ⟨N,rf,rfl,K,O⟩;rw[V.o.1]at O;exact⟨_,rfl,_,rfl,K,kN (ds:=[2]) iR.le b.ay zS (fun d hd=>(z.iZ d qeg).2.2) K (qF O)⟩
  .intro g a A E;have e4:=E.keep 4 zk;have e8:(aI.mem m [3,2] (iR x.i x.rf)).holds (a.tmps.getD 8 undef) g A:=E.fact 3 _ zo rfl;obtain⟨u,r,s,q,f1,D⟩:iR _ _ _ _:=e8;have h:=U.o.bK.bK.dr.region E.az g [3,2] (fun d hd=>(E.iZ d qec).1);have HE:=zh E;generalize m.fJ A g [3,2]=P at*
   have HK:=zh D;clear E D;have Z:=h.obj.frozen 0;have r':=h.obj.frozen 1;have Y:=h.obj.c 0;have q':=h.obj.c 1;have b3:=h.obj.lt;have Q:=(h.set 0 (.slice u x.i.length r)).set 1 (.slice s x.rf.length q);refine dX 4 zk (aJ rfl rfl (bT zg ?_));obtain⟨t,d⟩:=a;obtain rfl:d=[]:=HE.o.defers;refine dx zk (hX.o _ _ HE.o.size ⟨P,u,s,r,q,?_,Q,HK.o⟩) _;simp only[yL,xB,e4]
   rfl
 rintro z2 W w2-⟨mk',u,s,r,q,rfl,hO,hr⟩;simp[bB,lk];have g5:=hO.obj.c 0;have g6:=hO.obj.c 1;have Hk:=zh qi5;clear hO hr U;go_wp2;refine yV (v:=.agg #[.slice u x.i.length r,.slice s x.rf.length q]) (by simp[results,results89,go_sem,g5,g6]) rfl ?_;exact qaW
theorem QC{x:NS}(h:fT x):Md (fP x):=fun u a=>by
 have:=h.mF ((mD h).one u a).1;unfold dh iX at this;omega
theorem KU(A B D E:zV)(I F J G:List dm)(m:Mem)(w:zW)(hm:m.ay w)(h1:dH m A B I F)(Z:dH m D E J G)(hI:I.length<=250)(hF:F.length<=250)(hJ:J.length<=250)(hG:G.length<=250):
 zX 174 #[.agg #[A,B],.agg #[D,E]] w (.int .i64 (rW (gG I F) (gG J G))):=by
 have Y:=((Own.start hm).al #[A,B] 24).al #[D,E] 24;have j:(w.alloc (.cells #[A,B] 24)).heap.size=w.heap.size+1:=by simp
 rw[j]at Y;have HA:=zh (xw A B I F D E J G m _ Y.ay h1 Z zo zo zo zo);have HB:=zh (fun(mk:Mem) w' (h:mk.ay w') (hl:m.le mk)=>xw D E J G A B I F mk w' h (Z.le hl) (h1.le hl) zo zo zo zo);obtain⟨a1,c1,b1,d1,rfl,rfl⟩:=h1.df;obtain⟨a2,c2,b2,d2,rfl,rfl⟩:=Z.df;have d:=kU I F;have b:=kU J G;have q:=EO (jy hI hF) (jy hJ hG);have p:=EO (jy hJ hG) (jy hI hF);have l1:=q.i;have l2:=q.f;have l3:=p.i;have l4:=p.f;rw[<-NS.rC]at l2 l4;have K:=mR (jB d b);have H:=mR (jB b d);have M:=QC (jB d b);have L:=QC (jB b d);have k:rW (gG I F) (gG J G)=Fj (fP (gK (gG I F) (gG J G))) (fP (gK (gG J G) (gG I F))):=rfl;have HO:=zh Y;have HX:=zh (zi K (zi H (zi M (zi L k))));clear Y h1 Z j K H M L k q p d b;refine au fun R g=>?_;generalize gK (gG I F) (gG J G)=x at*
 generalize gK (gG J G) (gG I F)=y at*
 go_enter func174,ntmps174
 go_wp2_with fail
 refine HA.o.mono ?_;rintro e w1 ⟨ri,rf,rfl,S,n⟩;have z:=HO.o.call S;have W:=zh (xx _ _ x.i x.rf _ w1 z.ay n zo zo);obtain⟨xa,xc,ya,yc,rfl,rfl⟩:=n.df;have V:=zh z;clear HA HO z S n
 go_wp2_with fail
 refine W.o.mono ?_;rintro e w2 ⟨rfl,Q⟩;rw[HX.o.1];have a:=V.o.aS Q;have HM:=zh (HB.o _ w2 a.ay a.ext.1);have d1:=a.obj.c 0;have d2:=a.obj.c 1;have d3:=a.obj.lt;have d4:=a.av.obj.c 0;have d5:=a.av.obj.c 1;have d6:=a.av.obj.lt;have U:=zh a;clear a Q V HB W
 go_wp2_with fail
 refine HM.o.mono ?_;rintro e w3 ⟨ri,rf,rfl,P,l⟩;have t:=U.o.call P;have W:=zh (xx _ _ y.i y.rf _ w3 t.ay l zo zo);obtain⟨xa,xc,ya,yc,rfl,rfl⟩:=l.df;have T:=zh t;clear HM U t P l d1 d2 d3 d4 d5 d6
 go_wp2_with fail
 refine W.o.mono ?_;rintro e w4 ⟨rfl,O⟩;rw[HX.o.2.1];have X:=zh (T.o.aS O).az;have HI:=zh HX.o.2.2;clear W T O HX;rw[HI.o.2.2]at g;have hp:=HI.o.1;have hq:=HI.o.2.1;clear HI;generalize fP x=r at*
 generalize fP y=s at*
 cases r with
 |none=>
  cases s with
  |none=>
   go_wp2
   exact g.o _ _ ⟨rfl,X.o⟩
  |some v=>
   go_wp2
   exact g.o _ _ ⟨rfl,X.o⟩
 |some u=>
  cases s with
  |none=>
   go_wp2
   exact g.o _ _ ⟨rfl,X.o⟩
  |some v=>
   have hu:=hp u rfl;have hv:=hq v rfl;have HN:=zh (Dx u v w4 hu.1 hu.2 hv.1 hv.2);clear hu hv hp hq
   go_wp2_with fail
   refine HN.o.mono ?_;rintro e w5 ⟨rfl,N⟩;have HF:=zh (iY X.o N);have hc:Fj (some u) (some v)=if kG u v then -1 else 1:=rfl;rw[hc]at g;clear HN N X hc;by_cases C:kG u v
   .rw[zN C];rw[zK C]at g;clear C;go_wp2;exact g.o _ _ ⟨rfl,HF.o⟩
   .rw[zM C];rw[zJ C]at g;clear C;go_wp2;exact g.o _ _ ⟨rfl,HF.o⟩
theorem F6{α:Type}(p:α->Prop):∀(l:List α) (k:Nat),0<=firstIdx p l k↔∃x∈l,p x
 |[],k=>by unfold firstIdx;simp
 |x::l,k=>by
  unfold firstIdx;by_cases h:p x
  .rw[zK (aM h)];simp[h]
  .rw[zJ (by rw[aF h];simp),F6 p l (k+1)];simp[h]
theorem Lj(v:zV)(l:List ByteArray)(x:ByteArray)(m:Mem)(w:zW)(C:m.ay w)(D:BX m v l):
 zX 182 #[v,.string x] w (.int .i64 (firstIdx (fun y=>x.toList=y.toList) l 0)):=by
 obtain⟨a,c,rfl,H,G,F⟩:=D;unfold maxLen at G;refine au fun R t=>?_
 go_enter func182,ntmps182
 go_wp2;refine aC [0,1,7,8] (fun n s r=>∃k:Nat,k<=l.length/\n=l.length-k/\s=[.slice a l.length c,.string x,.int .i64 l.length,.int .i64 k]/\firstIdx (fun y=>x.toList=y.toList) l 0=firstIdx (fun y=>x.toList=y.toList) (l.drop k) k/\zB w r) ?_ ?_
 .exact qc8
 rintro X z n s r E-⟨k,hk,rfl,rfl,g,d⟩;have f:=zh g;clear g;simp[bB,lk];have j:=Mem_inn_below C d;by_cases hlt:k<l.length
 .obtain⟨b,off,rfl,u⟩:=F qdP;obtain⟨A,-⟩:=u k hlt;have I:=Mem_cell_w j A;have cl:=Mem_cell_lt j A;have B:=zh (tK (fun y=>x.toList=y.toList) l k hlt);clear u;by_cases i:x.toList=l[k].toList
  .have p:(x.toList==l[k].toList)=true:=by simp[i]
   have q:=zh i;clear i;go_wp2;exact t.o _ _ ⟨jq (by rw[f.o,B.o,zK (aM q.o)]),d⟩
  .have p:(x.toList==l[k].toList)=false:=by simp[i]
   have q:=zh i;clear i;go_wp2;exact E.o _ _ _ zo rfl ⟨k+1,zo,rfl,rfl,by rw[f.o,B.o,zJ (by rw[aF q.o];simp)],d⟩
 .go_wp2;exact t.o _ _ ⟨jq (by rw[f.o,zQ zo];rfl),d⟩
theorem FE(v:zV)(l:List ByteArray)(x:ByteArray)(m:Mem)(w:zW)(j:m.ay w)(b:BX m v l):
 zX 140 #[v,.string x] w (.bool (tf (∃y∈l,x.toList=y.toList))):=by
 have n:=zh (Lj v l x m w j b);have g:=zh (F6 (fun y:ByteArray=>x.toList=y.toList) l 0);obtain⟨a,c,rfl,s,f,r⟩:=b;refine au fun R k=>?_
 go_enter func140,ntmps140
 go_wp2_with fail
 refine n.o.mono ?_;rintro e q ⟨rfl,d⟩;have p:=zh d;clear d;generalize firstIdx (fun y:ByteArray=>x.toList=y.toList) l 0=i at*
 go_wp2;refine k.o _ _ ⟨aR ?_,p.o⟩;by_cases h:∃y∈l,x.toList=y.toList
 .rw[aM h];exact zN (g.o.2 h)
 .rw[aF h];exact zM (fun f=>h (g.o.1 f))
end Cl
