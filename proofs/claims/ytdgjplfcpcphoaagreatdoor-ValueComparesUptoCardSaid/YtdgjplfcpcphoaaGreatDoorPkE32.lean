/- Lemmas for the proofs of chapter 11. -/
import Derived.Test.YtdgjplfcpcphoaaGreatDoorPkE29
import Derived.Test.YtdgjplfcpcphoaaGreatDoorPkE15
set_option maxRecDepth 100000
set_option maxHeartbeats 16000000
namespace Cl
open Go Go.RowKit Go.Proofs Tryz
structure bzR (w:zW) (a:Option Addr) (q:List bT):Prop where
 at':0<q.length->∃ad,a=some ad/\∀j u,(bI q)[j]?=some u->w.cell? (ad.add j)=some u
 one:∀v∈bI q,v.oneCell'=true
theorem EZ{m:Mem}{w:zW}(i:m.ay w){a:Option Addr}{c:Nat}{q:List bT}(h:df m (.slice a q.length c) q):bzR w a q:=
 ⟨fun f=>by
  obtain⟨b,off,e,j⟩:=F5 i h (by intro e;rw[e]at f;simp at f);exact⟨_,e,j⟩,fun v g=>by
  obtain⟨q,-,d⟩:=xW.1 g;simp at d;rcases d with rfl|rfl<;>rfl⟩
theorem Ta{w0 w:zW}{m mk:Mem}{L:List bF}{v:zV}{t:TypeId}{l:List bT}(h:Own w0 m w mk (.row v t 2 l.length (bI l)::L))(a:∀p∈l,kM p):
 ∃mk',df mk' v l/\mk.le mk'/\Own w0 m w mk' L:=⟨_,eH (m:=mk) h.row a,Mem_le_addv h.free,h.bJ⟩
theorem JO(vi vf:zV)(I F:List bT)(ui uf:zV)(J G:List bT)(m:Mem)(w:zW)(hm:m.ay w)(Q:bZ m vi vf I F)(X:bZ m ui uf J G)(hI:I.length<=50000)(hF:F.length<=50000)(hJ:J.length<=50000)(hG:G.length<=50000):
 zC 168 #[.agg #[vi,vf],.agg #[ui,uf]] w fun e w'=>∃ri rf,e=.returned (.agg #[ri,rf])/\zB w w'/\bZ (m.grow w w') ri rf (LH (dz I F) (dz J G)).i (LH (dz I F) (dz J G)).rf:=by
 have hO:=((((Own.start hm).al #[vi,vf] 24).al #[ui,uf] 24).al #[.slice none 0 0,.slice none 0 0] 24).al #[.slice none 0 0,.slice none 0 0] 24;simp only[bR]at hO;obtain⟨a1,c1,b1,d1,rfl,rfl⟩:=Q.eG;obtain⟨a2,c2,b2,d2,rfl,rfl⟩:=X.eG;have H1:=zh (zi (azN I F J G) (zi Q X));have k1:∀s∈I++J,kM s:=fun s hs=>(yP.1 hs).elim (l7 Q.i s) (l7 X.i s);have k2:∀s∈F++G,kM s:=fun s hs=>(yP.1 hs).elim (l7 Q.f s) (l7 X.f s);have HK:=zh (zi k1 k2);have HO:=zh (hO.dL 139 2);have n1:=EZ hO.ay Q.i;clear hO Q X k1 k2;refine aj fun R hR=>?_;generalize LH (dz I F) (dz J G)=x at*
 go_enter func168,ntmps168
 go_wp2_with (at_builtin;refine iA gu rfl (.tmp 7) (.tmp 9) rfl (.slice none 0 0) 0 [] rfl HO.o.row a1 I.length c1 (bI I) rfl (dA I) n1.at' n1.one qdY zo ?_)
 intro va vc w1 C D z
 try simp only[yZ,xN]at C
 try simp only[yZ]at z⊢
 have a:=(HO.o.app C D z zS).au;have N:=a.obj.c 0;have M:=a.obj.c 1;have L:=a.obj.frozen 0;have K:=a.obj.frozen 1;have H:=a.obj.lt;have W:=a.dZ.obj.c 0;have V:=a.dZ.obj.c 1;have U:=a.dZ.obj.lt;have b:=a.set 0 (.slice va I.length vc);have n2:=EZ b.ay H1.o.2.2.i;have l:=zh b;clear a b C D z HO n1
 go_wp2_with (at_builtin;refine iA gu rfl (.tmp 13) (.tmp 15) rfl (.slice va I.length vc) I.length (bI I) rfl l.o.au.row a2 J.length c2 (bI J) rfl (dA J) n2.at' n2.one qdY zo ?_)
 intro i' g' w2 B q y;have a:=(l.o.au.app B q y qeT).au;clear N M L K H W V U;have N:=a.obj.c 0;have M:=a.obj.c 1;have L:=a.obj.frozen 0;have K:=a.obj.frozen 1;have H:=a.obj.lt;have W:=a.fifth.obj.c 0;have V:=a.fifth.obj.c 1;have U:=a.fifth.obj.lt;have b:=(a.set 0 (.slice i' (I.length+J.length) g')).au;have Y:bI I++bI J=bI (I++J):=by simp[bI]
 have O:I.length+J.length=(I++J).length:=by simp
 rw[Y,O]at b;obtain⟨G',g,r,d⟩:=Ta b HK.o.1;rw[<-O]at g d;have n3:=EZ (Mem_inn_le r d.ay) H1.o.2.1.f;have t:=zh (d.dL 139 2);have a':=zh (zi g r);clear a b d B q y l n2 g r Y O
 go_wp2_with (at_builtin;refine iA gu rfl (.tmp 19) (.tmp 21) rfl (.slice none 0 0) 0 [] rfl t.o.row b1 F.length d1 (bI F) rfl (dA F) n3.at' n3.one qdY zo ?_)
 intro T S w3 j p h
 try simp only[yZ,xN]at j
 try simp only[yZ]at h⊢
 have a:=(t.o.app j p h qeT).au;clear N M L K H W V U;have N:=a.obj.c 0;have M:=a.obj.c 1;have L:=a.obj.frozen 0;have K:=a.obj.frozen 1;have H:=a.obj.lt;have W:=a.dZ.obj.c 0;have V:=a.dZ.obj.c 1;have U:=a.dZ.obj.lt;have b:=a.set 1 (.slice T F.length S);have n4:=EZ (Mem_inn_le a'.o.2 b.ay) H1.o.2.2.f;have l:=zh b;clear a b j p h t n3
 go_wp2_with (at_builtin;refine iA gu rfl (.tmp 25) (.tmp 27) rfl (.slice T F.length S) F.length (bI F) rfl l.o.au.row b2 G.length d2 (bI G) rfl (dA G) n4.at' n4.one qdY zo ?_)
 intro h' f' w4 A n u;have a:=(l.o.au.app A n u qeT).au;clear N M L K H W V U;have N:=a.obj.c 0;have M:=a.obj.c 1;have L:=a.obj.frozen 0;have K:=a.obj.frozen 1;have H:=a.obj.lt;have b:=(a.set 1 (.slice h' (F.length+G.length) f')).au;have Z:bI F++bI G=bI (F++G):=by simp[bI]
 have P:F.length+G.length=(F++G).length:=by simp
 rw[Z,P]at b;obtain⟨F',g,r,d⟩:=Ta b HK.o.2;rw[<-P]at g d;have hN:bZ _ _ _ (I++J) (F++G):=⟨bV r a'.o.1,g⟩;have HM:=zh (vU _ _ (I++J) (F++G) _ _ d.ay hN qd4 qd4);rw[H1.o.1]at HM;have t:=zh d.au;clear a b d A n u l n4 g r Z P hN
 go_wp2_with fail
 refine HM.o.mono ?_;rintro e w5 ⟨ri,rf,rfl,hb,hn⟩;have k:=t.o.call hb;obtain⟨xa,xc,ya,yc,rfl,rfl⟩:=hn.eG;clear N M L K H;have L:=k.obj.frozen 0;have K:=k.obj.frozen 1;have H:=k.obj.lt;have E:=(k.set 0 (.slice xa x.i.length xc)).set 1 (.slice ya x.rf.length yc);have g5:=E.obj.c 0;have g6:=E.obj.c 1;have N:=k.obj.c 0;have M:=k.obj.c 1;have Hk:=zh (zi E.az (hn.le E.done));clear k E HM t hb hn;go_wp2;refine yV (v:=.agg #[.slice xa x.i.length xc,.slice ya x.rf.length yc]) (by simp[results,results168,go_sem,g5,g6]) rfl ?_;exact qax
theorem OO:∀{l:List bT} {lo hi:Int},(∀s∈l,lI s) -> -1000000000000003<=lo->lo<=1000000000000003 -> -1000000000000003<=hi->hi<=1000000000000003->∀s∈jO l lo hi,kM s
 |[],lo,hi,_,h1,h2,h3,h4,s,a=>by
  unfold jO at a
  split at a
  .rw[zZ]at a;subst a;unfold kM;dsimp only;omega
  .cases a
 |t::l,lo,hi,hl,h1,h2,h3,h4,s,a=>by
  have ht:=hl t (yF ..);unfold lI at ht;unfold jO at a;rcases yP.1 a with a|a
  .split at a
   .rw[zZ]at a;subst a;unfold kM;dsimp only;omega
   .cases a
  .exact OO (fun s a=>hl s (zU _ a)) zo zo h3 h4 s a
theorem DW(va:zV)(l:List bT)(lo hi:Int)(m:Mem)(w:zW)(hm:m.ay w)(hl:df m va l)(J:∀s∈l,lI s)(W:l.length<=1000000)
(P : -1000000000000003<=lo)(O:lo<=1000000000000003)(h3 : -1000000000000003<=hi)(L:hi<=1000000000000003):
 zC 239 #[va,.int .i64 lo,.int .i64 hi] w fun e w'=>∃r,e=.returned r/\zB w w'/\df (m.grow w w') r (jO l lo hi):=by
 have K:=zh (OO J P O h3 L);have N:=xq l lo hi;obtain⟨aa,ac,rfl,a1,a2,a3⟩:=hl;unfold maxLen at a2;have HO:=zh ((Own.start hm).dL 139 2);have Q:=zh (zi P O);clear P O;refine aj fun R hR=>?_
 go_enter func239,ntmps239
 go_wp2;generalize Z:jO l lo hi=G at*
 refine av [1,2,7,10,11,12] (fun n U S=>∃(k:Nat) (a:Int) (d:List bT) (M:zV),k<=l.length/\n=l.length-k/\U=[.int .i64 a,.int .i64 hi,M,.slice aa l.length ac,.int .i64 l.length,.int .i64 k] /\
  d++jO (l.drop k) a hi=G /\ -1000000000000003<=a/\a<=1000000000000003/\Own w m S m [.row M 139 2 d.length (bI d)]) ?_ ?_
 .exact⟨_,0,lo,[],.slice none 0 0,zG _,rfl,rfl,Z,Q.o.1,Q.o.2,HO.o⟩
 clear HO Q Z;rintro X z n U S Y-⟨k,a,d,M,hk,rfl,rfl,y,j',i',hO⟩;simp[aX,lk];have f':d.length<=l.length+1:=by rw[<-y,zL]at N;omega
 obtain⟨H,F,rfl⟩:=aT hO.row;by_cases hlt:k<l.length
 .obtain⟨b,off,rfl,L⟩:=a3 qdX;have B:=L k hlt;have r1:=Mem_cell_w hO.ay B.1;have r2:=Mem_cell_w hO.ay B.2.1;have rl:=Mem_cell_lt hO.ay B.1;have I:=J l[k] (zF hlt);rw[Ro l k hlt]at y;have HG:=zh y;clear L B y;generalize l[k]=q at*
  obtain⟨A,qb⟩:=q;unfold lI at I;simp only at r1 r2 I;have C:=hO.al #[.int .i64 A,.int .i64 qb] 139;by_cases g:a<A
  .have x:decide (a<A)=true:=zN g;have t:=(C.al #[.int .i64 a,.int .i64 (A-1)] 139).bA
   try simp only[bR]at t
   have p:=t.au.obj.cZ rfl;have D:=zh g;clear g hO C
   go_wp2_with (at_builtin;refine aG gu rfl (.tmp 20) (.tmp 26) rfl (.slice H d.length F) d.length _ rfl t.row ⟨_,0,none⟩ 1 1 [.int .i64 a,.int .i64 (A-1)] rfl rfl p qdZ qdY zo ?_)
   intro va V T j f i;have u:=(t.app j f i zS).bL.au;have d1:=u.obj.c 0;have d2:=u.obj.c 1;have d3:=u.obj.lt;have E:=zh u;clear u t j f i p;go_wp2;refine Y.o _ _ _ zo rfl ⟨k+1,_,d++[(a,A-1)],_,zo,rfl,rfl,?_,zo,zo,?_⟩
   .rw[<-HG.o,zK (show a<A from D.o),xD]
   .rw[bM,zL];exact E.o.tail
  .have x:decide (a<A)=false:=zM g;have E:=zh C.tail;have D:=zh g;clear g hO C;go_wp2;refine Y.o _ _ _ zo rfl ⟨k+1,_,d,_,zo,rfl,rfl,?_,zo,zo,E.o⟩;rw[<-HG.o,zJ (show ¬a<A by have:=D.o;omega),xN]
 .obtain rfl:k=l.length:=zo;rw[Vp]at y;by_cases g:a<=hi
  .have x:decide (a<=hi)=true:=zN g;rw[zK g]at y;have t:=(hO.al #[.int .i64 a,.int .i64 hi] 139).au
   try simp only[bR]at t
   have p:=t.au.obj.cZ rfl;clear g hO
   go_wp2_with (at_builtin;refine aG gu rfl (.tmp 35) (.tmp 39) rfl (.slice H d.length F) d.length _ rfl t.row ⟨_,0,none⟩ 1 1 [.int .i64 a,.int .i64 hi] rfl rfl p qdZ qdY zo ?_)
   intro va V T j f i;have u:=(t.app j f i zS).bL;have hO4:Own w m T m [.row (.slice va (d.length+1) V) 139 2 G.length (bI G)]:=by
    rw[<-y,bM,zL];exact u
   have e:d.length+1=G.length:=by rw[<-y,zL];rfl
   rw[e]at hO4⊢;have v:=eH (m:=m) (l:=G) hO4.row K.o;have hfin:=bV hO4.bJ.done v;have Hfin:=zh qfU;clear u t j f i p hO4 v hfin;go_wp2;exact qai
  .have x:decide (a<=hi)=false:=zM g;rw[zJ g,yR]at y;subst y;have v:=eH (m:=m) (l:=d) hO.row K.o;have hfin:=bV hO.bJ.done v;have Hfin:=zh qfM;clear hO v hfin g;go_wp2;exact qai
theorem tN(G H:zV)(I F:List bT)(m:Mem)(w:zW)(hm:m.ay w)(O:bZ m G H I F)(M:I.length<=90000)(N:F.length<=90000):
 zC 206 #[.agg #[G,H]] w fun e w'=>∃U rf,e=.returned (.agg #[U,rf])/\zB w w'/\bZ (m.grow w w') U rf (gP (dz I F)).i (gP (dz I F)).rf:=by
 have hO:=((Own.start hm).al #[G,H] 24).al #[.slice none 0 0,.slice none 0 0] 24;have p:(w.alloc (.cells #[G,H] 24)).heap.size=w.heap.size+1:=by simp
 rw[p]at hO;obtain⟨a1,c1,P,Z,rfl,rfl⟩:=O.eG;have C:=(ky (jf I F)).rk;have Y:=(o9 (jL M N)).f;have q:(gP (dz I F)).i=jO (mZ I) (-100000000000) 100000000000/\(gP (dz I F)).f=jO (lw F) (-999900000000000) 999899999999999:=⟨rfl,rfl⟩;have n:=zh (zi C (zi Y (zi (jf I F).inI (jf I F).inR)));have D:=zh (zi (jL M N).i (jL M N).f);clear C Y;have Q:=zh hO;have J:=zh (zi q O);clear hO O p q;refine aj fun R hR=>?_;generalize gP (dz I F)=x at*
 go_enter func206,ntmps206
 go_upto_region 1 with(fail)
 refine aR [2] (fun S w'=>∃(mk':Mem) (z y:Option Addr) (u s:Nat),S=[.pointer (some ⟨w.heap.size+1,0,none⟩)] /\
  Own w m w' mk' [.obj (w.heap.size+1) 24 #[.slice z x.i.length u,.slice y x.rf.length s]] /\
  bZ mk' (.slice z x.i.length u) (.slice y x.rf.length s) x.i x.rf) ?_ ?_
 .intro X hX;refine bz 7 5 (fun j=>[aD.is (·=.agg #[.slice a1 I.length c1,.slice P F.length Z]),aD.mem m [1] (qZ (mZ I)),aD.mem m [2,1] (qZ x.i),aD.is (·=.agg #[.slice a1 I.length c1,.slice P F.length Z]),aD.mem m [4] (qZ (lw F)),aD.mem m [5,4] (qZ x.f),aD.mem m [6,2,1,5,4] (dY x.i x.rf)].getD j aD.any) zk zk ?_ ?_
  .intro i hi o win a b ho l;have HO2:=Q.o.dr.aP l.az;have p1:=HO2.au.obj.c 0;have p2:=HO2.au.obj.c 1;rcases(show i=0\/i=1\/i=2\/i=3\/i=4\/i=5\/i=6 by omega)with rfl|rfl|rfl|rfl|rfl|rfl|rfl
   .have e1:=l.k 1;exact qaa
   .have e3:zt a 3 _:=l.d 0 rfl;cases ho;refine we rfl rfl (DV _ _ I F m b HO2.ay J.o.2 zo) ?_;exact qaQ
   .have e4:(aD.mem m [1] (qZ (mZ I))).holds (a.tmps.getD 4 undef) win b:=l.d 1 rfl;cases ho;obtain⟨V,T,W,A⟩:qZ _ _ _:=e4;refine we rfl rfl (DW _ (mZ I) (-100000000000) 100000000000 (m.gU b win [1]) b (Mem_wins_inn HO2.ay win [1]) A n.o.2.2.1 (by have h:(mZ I).length<=90000:=D.o.1;omega) zo zo zo zo) ?_;rintro e w' ⟨r,rfl,hb,hn⟩;rw[<-J.o.1.1]at hn;exact⟨_,rfl,_,rfl,hb,jV (ds:=[1]) qZ.le HO2.ay zS (fun d hd=>(l.ik d qer).2.2) hb (ry hn)⟩
   .have e1:=l.k 1;exact qaa
   .have e6:zt a 6 _:=l.d 3 rfl;cases ho;refine we rfl rfl (BG _ _ I F m b HO2.ay J.o.2 zo) ?_;exact qaQ
   .have e7:(aD.mem m [4] (qZ (lw F))).holds (a.tmps.getD 7 undef) win b:=l.d 4 rfl;cases ho;obtain⟨V,T,W,A⟩:qZ _ _ _:=e7;refine we rfl rfl (DW _ (lw F) (-999900000000000) 999899999999999 (m.gU b win [4]) b (Mem_wins_inn HO2.ay win [4]) A n.o.2.2.2 (by have h:(lw F).length<=90000:=D.o.2;omega) zo zo zo zo) ?_;rintro e w' ⟨r,rfl,hb,hn⟩;rw[<-J.o.1.2]at hn;exact⟨_,rfl,_,rfl,hb,jV (ds:=[4]) qZ.le HO2.ay zS (fun d hd=>(l.ik d qer).2.2) hb (ry hn)⟩
   .have e5:(aD.mem m [2,1] (qZ x.i)).holds (a.tmps.getD 5 undef) win b:=l.d 2 rfl;have e8:(aD.mem m [5,4] (qZ x.f)).holds (a.tmps.getD 8 undef) win b:=l.d 5 rfl;cases ho;obtain⟨V,T,W,A⟩:qZ _ _ _:=e5;obtain⟨r2,s2,k2,t2⟩:qZ _ _ _:=e8;refine we rfl rfl (JN _ _ x.i x.f (m.gU b win [2,1,5,4]) b (Mem_wins_inn HO2.ay win [2,1,5,4]) (bV qfT A) (bV qfT t2) n.o.1 (by have:=n.o.2.1;omega)) ?_;rintro e w' ⟨rf,rfl,hb,hn⟩;exact⟨_,rfl,_,rfl,hb,jV (ds:=[2,1,5,4]) dY.le HO2.ay zS (fun d hd=>(l.ik d qek).2.2) hb (je hn)⟩
  .intro win a b E;have e2:=E.keep 2 zk;have e9:(aD.mem m [6,2,1,5,4] (dY x.i x.rf)).holds (a.tmps.getD 9 undef) win b:=E.fact 6 _ zo rfl;obtain⟨z,u,y,s,f1,B⟩:dY _ _ _ _:=e9;have g:=Q.o.bL.dr.region E.az win [6,2,1,5,4] (fun d hd=>(E.ik d qeg).1);have HE:=zh E;generalize m.gU b win [6,2,1,5,4]=K at*
   have HK:=zh B;clear E B;have P:=g.obj.frozen 0;have q':=g.obj.frozen 1;have b2:=g.obj.c 0;have p':=g.obj.c 1;have b3:=g.obj.lt;have L:=(g.set 0 (.slice z x.i.length u)).set 1 (.slice y x.rf.length s);refine eF 7 zk (aJ rfl rfl (cO zg ?_));obtain⟨t,d⟩:=a;obtain rfl:d=[]:=HE.o.defers;refine bY zk (hX.o _ _ HE.o.size ⟨K,z,y,u,s,?_,L,HK.o⟩) _;simp only[yL,xB,e2]
   rfl
 rintro z2 S w2-⟨mk',z,y,u,s,rfl,hO,hr⟩;simp[aX,lk];have g5:=hO.obj.c 0;have g6:=hO.obj.c 1;have Hk:=zh qfn;clear hO hr Q;go_wp2;refine yV (v:=.agg #[.slice z x.i.length u,.slice y x.rf.length s]) (by simp[results,results206,go_sem,g5,g6]) rfl ?_;exact qax
theorem Qx(A B:zV)(I F:List bT)(K L:zV)(J G:List bT)(m:Mem)(w:zW)(hm:m.ay w)(Y:bZ m A B I F)(W:bZ m K L J G)(hI:I.length<=20000)(hF:F.length<=20000)(hJ:J.length<=20000)(hG:G.length<=20000):
 zC 205 #[.agg #[A,B],.agg #[K,L]] w fun e w'=>∃u rf,e=.returned (.agg #[u,rf])/\zB w w'/\bZ (m.grow w w') u rf (nG (dz I F) (dz J G)).i (nG (dz I F) (dz J G)).rf:=by
 have hO:=(((Own.start hm).al #[A,B] 24).al #[K,L] 24).al #[.slice none 0 0,.slice none 0 0] 24;have l:(w.alloc (.cells #[A,B] 24)).heap.size=w.heap.size+1:=by simp
 have h:((w.alloc (.cells #[A,B] 24)).alloc (.cells #[K,L] 24)).heap.size=w.heap.size+1+1:=by simp
 rw[h,l]at hO;obtain⟨a1,c1,b1,d1,rfl,rfl⟩:=Y.eG;obtain⟨a2,c2,b2,d2,rfl,rfl⟩:=W.eG;have T:=ky (jf I F);have S:=ky (jf J G);have N:=o9 (jL hI hF);have M:=o9 (jL hJ hG);have V:=QG N M;have n:LH (dz (gP (dz I F)).i (gP (dz I F)).rf) (dz (gP (dz J G)).i (gP (dz J G)).rf)=LH (gP (dz I F)) (gP (dz J G))/\gP (dz (LH (gP (dz I F)) (gP (dz J G))).i (LH (gP (dz I F)) (gP (dz J G))).rf)=nG (dz I F) (dz J G):=⟨by rw[mX T,mX S],by rw[mX (AL T S)];rfl⟩;have l1:=N.i;have l2:=N.f;have l3:=M.i;have l4:=M.f;have l5:=V.i;have l6:=V.f;rw[<-NS.tH]at l2 l4 l6;clear T S N M V;generalize LH (gP (dz I F)) (gP (dz J G))=y at*
 generalize H:gP (dz I F)=nx at*
 generalize D:gP (dz J G)=z at*
 have HN:=zh (zi H D);clear H D;have HO:=zh hO;have O:=zh (zi n (zi Y W));clear hO Y W l h n;refine aj fun R hR=>?_;generalize nG (dz I F) (dz J G)=x at*
 go_enter func205,ntmps205
 go_upto_region 1 with(fail)
 refine aR [4] (fun vs w'=>∃(mk':Mem) (s r:Option Addr) (q p:Nat),vs=[.pointer (some ⟨w.heap.size+1+1,0,none⟩)] /\
  Own w m w' mk' [.obj (w.heap.size+1+1) 24 #[.slice s x.i.length q,.slice r x.rf.length p]] /\
  bZ mk' (.slice s x.i.length q) (.slice r x.rf.length p) x.i x.rf) ?_ ?_
 .intro X hX;refine bz 6 5 (fun j=>[aD.is (·=.agg #[.slice a1 I.length c1,.slice b1 F.length d1]),aD.mem m [1] (dY nx.i nx.rf),aD.is (·=.agg #[.slice a2 J.length c2,.slice b2 G.length d2]),aD.mem m [3] (dY z.i z.rf),aD.mem m [4,1,3] (dY y.i y.rf),aD.mem m [5,4,1,3] (dY x.i x.rf)].getD j aD.any) zk zk ?_ ?_
  .intro i hi o win a g ho RA;have HO2:=HO.o.dr.aP RA.az;have p1:=HO2.au.obj.c 0;have p2:=HO2.au.obj.c 1;have p3:=HO2.bA.obj.c 0;have p4:=HO2.bA.obj.c 1;rcases(show i=0\/i=1\/i=2\/i=3\/i=4\/i=5 by omega)with rfl|rfl|rfl|rfl|rfl|rfl
   .have e2:=RA.k 2;exact qaa
   .have e5:zt a 5 _:=RA.d 0 rfl;cases ho;refine we rfl rfl (tN _ _ I F m g HO2.ay O.o.2.1 zo zo) ?_;rintro e w' ⟨u,rf,rfl,hb,hn⟩;rw[HN.o.1]at hn;exact qav
   .have e3:=RA.k 3;exact qaa
   .have e7:zt a 7 _:=RA.d 2 rfl;cases ho;refine we rfl rfl (tN _ _ J G m g HO2.ay O.o.2.2 zo zo) ?_;rintro e w' ⟨u,rf,rfl,hb,hn⟩;rw[HN.o.2]at hn;exact qav
   .have e6:(aD.mem m [1] (dY nx.i nx.rf)).holds (a.tmps.getD 6 undef) win g:=RA.d 1 rfl;have e8:(aD.mem m [3] (dY z.i z.rf)).holds (a.tmps.getD 8 undef) win g:=RA.d 3 rfl;cases ho;obtain⟨r1,s1,r2,s2,k1,P⟩:dY _ _ _ _:=e6;obtain⟨r3,s3,r4,s4,k2,t2⟩:dY _ _ _ _:=e8;refine we rfl rfl (JO _ _ nx.i nx.rf _ _ z.i z.rf (m.gU g win [1,3]) g qfF (P.le qfr) (t2.le qfr) zo zo zo zo) ?_;rintro e w' ⟨u,rf,rfl,hb,hn⟩;rw[O.o.1.1]at hn;exact qby
   .have e9:(aD.mem m [4,1,3] (dY y.i y.rf)).holds (a.tmps.getD 9 undef) win g:=RA.d 4 rfl;cases ho;obtain⟨r1,s1,r2,s2,k1,P⟩:dY _ _ _ _:=e9;refine we rfl rfl (tN _ _ y.i y.rf (m.gU g win [4,1,3]) g (Mem_wins_inn HO2.ay win [4,1,3]) P zo zo) ?_;rintro e w' ⟨u,rf,rfl,hb,hn⟩;rw[O.o.1.2]at hn;exact⟨_,rfl,_,rfl,hb,jV (ds:=[4,1,3]) dY.le HO2.ay zS (fun d hd=>(RA.ik d (by simp at hd;rcases hd with rfl|rfl|rfl<;>kernel_rfl)).2.2) hb (je hn)⟩
  .intro win a g E;have e4:=E.keep 4 zk;have Z:(aD.mem m [5,4,1,3] (dY x.i x.rf)).holds (a.tmps.getD 10 undef) win g:=E.fact 5 _ zo rfl;obtain⟨s,q,r,p,f1,C⟩:dY _ _ _ _:=Z;have b:=HO.o.bL.bL.dr.region E.az win [5,4,1,3] (fun d hd=>(E.ik d qeg).1);have HE:=zh E;generalize m.gU g win [5,4,1,3]=Q at*
   have HK:=zh C;clear E C;have b1:=b.obj.frozen 0;have H':=b.obj.frozen 1;have b2:=b.obj.c 0;have G':=b.obj.c 1;have b3:=b.obj.lt;have U:=(b.set 0 (.slice s x.i.length q)).set 1 (.slice r x.rf.length p);refine eF 6 zk (aJ rfl rfl (cO zg ?_));obtain⟨t,d⟩:=a;obtain rfl:d=[]:=HE.o.defers;refine bY zk (hX.o _ _ HE.o.size ⟨Q,s,r,q,p,?_,U,HK.o⟩) _;simp only[yL,xB,e4]
   rfl
 rintro z2 vs w2-⟨mk',s,r,q,p,rfl,hO,hr⟩;simp[aX,lk];have g5:=hO.obj.c 0;have g6:=hO.obj.c 1;have Hk:=zh qfn;clear hO hr HO;go_wp2;refine yV (v:=.agg #[.slice s x.i.length q,.slice r x.rf.length p]) (by simp[results,results205,go_sem,g5,g6]) rfl ?_;exact qax
theorem BF(z A:zV)(I F:List bT)(D H:zV)(J G:List bT)(m:Mem)(w:zW)(W:m.ay w)(N:bZ m z A I F)(M:bZ m D H J G)(hI:I.length<=15000)(hF:F.length<=15000)(Z:J.length<=15000)(hG:G.length<=15000):
 zC 169 #[.agg #[z,A],.agg #[D,H]] w fun e w'=>∃ri rf,e=.returned (.agg #[ri,rf])/\zB w w'/\bZ (m.grow w w') ri rf (dC (dz I F) (dz J G)).i (dC (dz I F) (dz J G)).rf:=by
 have hO:=(((Own.start W).al #[z,A] 24).al #[D,H] 24).al #[.slice none 0 0,.slice none 0 0] 24;have l:(w.alloc (.cells #[z,A] 24)).heap.size=w.heap.size+1:=by simp
 have h:((w.alloc (.cells #[z,A] 24)).alloc (.cells #[D,H] 24)).heap.size=w.heap.size+1+1:=by simp
 rw[h,l]at hO;obtain⟨a1,c1,S,d1,rfl,rfl⟩:=N.eG;obtain⟨a2,c2,Q,d2,rfl,rfl⟩:=M.eG;have C:=jf J G;have u:=o9 (jL Z hG);have l1:=u.i;have V:=u.f;rw[<-NS.tH]at V;have n:nG (dz I F) (dz (gP (dz J G)).i (gP (dz J G)).rf)=dC (dz I F) (dz J G):=by rw[mX (ky C)];rfl
 clear C u;have O:=zh hO;have H1:=zh (zi n (zi N M));clear hO N M l h n;refine aj fun R hR=>?_;generalize dC (dz I F) (dz J G)=x at*
 go_enter func169,ntmps169
 go_upto_region 1 with(fail)
 refine aR [4] (fun P w'=>∃(mk':Mem) (s r:Option Addr) (q p:Nat),P=[.pointer (some ⟨w.heap.size+1+1,0,none⟩)] /\
  Own w m w' mk' [.obj (w.heap.size+1+1) 24 #[.slice s x.i.length q,.slice r x.rf.length p]] /\
  bZ mk' (.slice s x.i.length q) (.slice r x.rf.length p) x.i x.rf) ?_ ?_
 .intro X Y;refine bz 4 5 (fun j=>[aD.is (·=.agg #[.slice a1 I.length c1,.slice S F.length d1]),aD.is (·=.agg #[.slice a2 J.length c2,.slice Q G.length d2]),aD.mem m [2] (dY (gP (dz J G)).i (gP (dz J G)).rf),aD.mem m [3,2] (dY x.i x.rf)].getD j aD.any) zk zk ?_ ?_
  .intro i hi o b a y ho RA;have HO2:=O.o.dr.aP RA.az;have p1:=HO2.au.obj.c 0;have p2:=HO2.au.obj.c 1;have p3:=HO2.bA.obj.c 0;have p4:=HO2.bA.obj.c 1;rcases(show i=0\/i=1\/i=2\/i=3 by omega)with rfl|rfl|rfl|rfl
   .have e2:=RA.k 2;exact qaa
   .have e3:=RA.k 3;exact qaa
   .have e6:zt a 6 _:=RA.d 1 rfl;cases ho;refine we rfl rfl (tN _ _ J G m y HO2.ay H1.o.2.2 zo zo) ?_;rintro e w' ⟨ri,rf,rfl,hb,hn⟩;exact qav
   .have e5:zt a 5 _:=RA.d 0 rfl;have e7:(aD.mem m [2] (dY (gP (dz J G)).i (gP (dz J G)).rf)).holds (a.tmps.getD 7 undef) b y:=RA.d 2 rfl;cases ho;obtain⟨r1,s1,r2,s2,k1,U⟩:dY _ _ _ _:=e7;refine we rfl rfl (Qx _ _ I F _ _ _ _ _ y (Mem_wins_inn HO2.ay b [2]) (H1.o.2.1.le (Mem_le_wins HO2.ay b [2])) U zo zo zo zo) ?_;exact qbd
  .intro b a y E;have e4:=E.keep 4 zk;have e8:(aD.mem m [3,2] (dY x.i x.rf)).holds (a.tmps.getD 8 undef) b y:=E.fact 3 _ zo rfl;obtain⟨s,q,r,p,f1,B⟩:dY _ _ _ _:=e8;have g:=O.o.bL.bL.dr.region E.az b [3,2] (fun d hd=>(E.ik d qeg).1);have T:=zh E;generalize m.gU y b [3,2]=K at*
   have HK:=zh B;clear E B;have S:=g.obj.frozen 0;have l':=g.obj.frozen 1;have Q:=g.obj.c 0;have k':=g.obj.c 1;have b3:=g.obj.lt;have L:=(g.set 0 (.slice s x.i.length q)).set 1 (.slice r x.rf.length p);refine eF 4 zk (aJ rfl rfl (cO zg ?_));obtain⟨t,d⟩:=a;obtain rfl:d=[]:=T.o.defers;refine bY zk (Y.o _ _ T.o.size ⟨K,s,r,q,p,?_,L,HK.o⟩) _;simp only[yL,xB,e4]
   rfl
 rintro z2 P w2-⟨mk',s,r,q,p,rfl,hO,hr⟩;simp[aX,lk];have g5:=hO.obj.c 0;have g6:=hO.obj.c 1;have Hk:=zh qfn;clear hO hr O;go_wp2;refine yV (v:=.agg #[.slice s x.i.length q,.slice r x.rf.length p]) (by simp[results,results169,go_sem,g5,g6]) rfl ?_;exact qax
theorem Qw(L M:zV)(I F:List bT)(u:Int)(m:Mem)(w:zW)(hm:m.ay w)(J:bZ m L M I F)(d' : -9223372036854775808<=u)(c':u<=9223372036854775807):
 zX 170 #[.agg #[L,M],.int .i64 u] w (.bool (tf ((dz I F).has u))):=by
 have W:=zh (qJ I F u);have hO:=(Own.start hm).al #[L,M] 24;have HI:=zh J.i;have HF:=zh J.f;obtain⟨a1,c1,b1,d1,rfl,rfl⟩:=J.eG;have Z:=zh (fun w'=>BD u w');have Y:=zh (fun w'=>tL u w');have V:=zh hO;clear hO J;refine aj fun R hR=>?_
 go_enter func170,ntmps170
 go_wp2_with fail
 refine(Z.o _).mono ?_;rintro e w1 ⟨rfl,A⟩;have a:=V.o.aP A;by_cases B:iW u
 .rw[zN B];have S:=a.obj.c 0;have Q:=a.obj.c 1;have P:=a.obj.lt;have j:=zh a;have K:=zh B;clear a A V Z B
  go_wp2_with fail
  refine(Y.o _).mono ?_;rintro e w2 ⟨rfl,E⟩;have a:=j.o.aP E;have S:=a.obj.c 0;have Q:=a.obj.c 1;have P:=a.obj.lt;have H:=zh trivial;have j:=zh a.tail;clear a E Y;by_cases s:u%10000=0
  .rw[zN s];have g':u.tdiv 10000=u/10000:=by rw[azk,zK (.inl s)]
   have HM:=zh (show(dz I F).has u↔fU I (u/10000)by
    rw[W.o];unfold vR;simp[s,K.o])
   have b' : -9223372036854775808<=u/10000/\u/10000<=9223372036854775807:=zo;clear s;generalize T:u/10000=x at*
   clear T;obtain⟨_,_,U,I1,I2,I3⟩:=HI.o;injection U with e1 _ e3;subst e1 e3;unfold maxLen at I2;clear H;go_wp2;refine av [6,21,22,23] (fun n D C=>∃k:Nat,k<=I.length/\n=I.length-k/\D=[.int .i64 (x),.slice a1 I.length c1,.int .i64 I.length,.int .i64 k] /\
    (fU I (x)↔fU (I.drop k) (x))/\Own w m C m []) ?_ ?_
   .exact⟨_,0,zG _,rfl,rfl,Iff.rfl,j.o⟩
   rintro X z n D C hX-⟨k,hk,rfl,rfl,g,hO⟩;have Hrel:=zh g;clear g j;simp[aX,lk];by_cases hlt:k<I.length
   .obtain⟨b,off,rfl,G⟩:=I3 qdX;have r:=G k hlt;have O:=Mem_cell_w hO.ay r.1;have N:=Mem_cell_w hO.ay r.2.1;have rl:=Mem_cell_lt hO.ay r.1;have HD:=zh (show fU (I.drop k) (x)↔((I[k]).1<=x/\x<=(I[k]).2)\/fU (I.drop (k+1)) (x)by rw[yE hlt,cz]);clear G r;generalize I[k]=q at*
    obtain⟨p,l⟩:=q;simp only at O N;have d:=hO.al #[.int .i64 p,.int .i64 l] 139;have S:=d.obj.c 0;have Q:=d.obj.c 1;have P:=d.obj.lt;have HO2:=zh d.tail;clear hO d;by_cases ha:p<=x
    .have Ha:=zh ha;have y:decide (p<=x)=true:=zN ha;by_cases hb:x<=l
     .have Hb:=zh hb;have v:decide (x<=l)=true:=zN hb;exact qbV
     .have Hb:=zh hb;have v:decide (x<=l)=false:=zM hb;exact qbm
    .have Ha:=zh ha;have y:decide (p<=x)=false:=zM ha;exact qbn
   .have t:k=I.length:=zo;subst t;have Hk:=zh hO.az;have HN:=zh (show ¬fU (I.drop I.length) (x)by rw[List.drop_length];exact jm _);exact qcr
  .rw[zM s];have HM:=zh (show(dz I F).has u↔fU F u by
    rw[W.o];unfold vR;simp[s,K.o])
   clear s;obtain⟨_,_,U,F1,F2,F3⟩:=HF.o;injection U with e1 _ e3;subst e1 e3;unfold maxLen at F2;clear H;go_wp2;refine av [6,21,22,23] (fun n D C=>∃k:Nat,k<=F.length/\n=F.length-k/\D=[.int .i64 (u),.slice b1 F.length d1,.int .i64 F.length,.int .i64 k] /\
    (fU F (u)↔fU (F.drop k) (u))/\Own w m C m []) ?_ ?_
   .exact⟨_,0,zG _,rfl,rfl,Iff.rfl,j.o⟩
   rintro X z n D C hX-⟨k,hk,rfl,rfl,g,hO⟩;have Hrel:=zh g;clear g j;simp[aX,lk];by_cases hlt:k<F.length
   .obtain⟨b,off,rfl,G⟩:=F3 qdX;have r:=G k hlt;have O:=Mem_cell_w hO.ay r.1;have N:=Mem_cell_w hO.ay r.2.1;have rl:=Mem_cell_lt hO.ay r.1;have HD:=zh (show fU (F.drop k) (u)↔((F[k]).1<=u/\u<=(F[k]).2)\/fU (F.drop (k+1)) (u)by rw[yE hlt,cz]);clear G r;generalize F[k]=q at*
    obtain⟨p,l⟩:=q;simp only at O N;have d:=hO.al #[.int .i64 p,.int .i64 l] 139;have S:=d.obj.c 0;have Q:=d.obj.c 1;have P:=d.obj.lt;have HO2:=zh d.tail;clear hO d;by_cases ha:p<=u
    .have Ha:=zh ha;have y:decide (p<=u)=true:=zN ha;by_cases hb:u<=l
     .have Hb:=zh hb;have v:decide (u<=l)=true:=zN hb;exact qbV
     .have Hb:=zh hb;have v:decide (u<=l)=false:=zM hb;exact qbm
    .have Ha:=zh ha;have y:decide (p<=u)=false:=zM ha;exact qbn
   .have t:k=F.length:=zo;subst t;have Hk:=zh hO.az;have HN:=zh (show ¬fU (F.drop F.length) (u)by rw[List.drop_length];exact jm _);exact qcr
 .rw[zM B];have Hk:=zh a.az;have K:=zh B;clear a A V B;go_wp2;exact hR.o _ _ ⟨aS (by rw[aA (fun h=>K.o (W.o.1 h).1)]),Hk.o⟩
theorem FU(M N:zV)(I F:List bT)(T U:zV)(J G:List bT)(m:Mem)(w:zW)(hm:m.ay w)(P:bZ m M N I F)(V:bZ m T U J G)(hI:I.length<=10000)(hF:F.length<=10000)(hJ:J.length<=10000)(hG:G.length<=10000):
 zX 129 #[.agg #[M,N],.agg #[T,U]] w (.int .i64 (lC (dz I F) (dz J G))):=by
 have t:=((Own.start hm).al #[M,N] 24).al #[T,U] 24;simp only[bR]at t;have HA:=zh (fun u (h : -9223372036854775808<=u/\u<=9223372036854775807) w' (hw:m.ay w')=>Qw M N I F u m w' hw P h.1 h.2);obtain⟨a1,c1,b1,d1,rfl,rfl⟩:=P.eG;obtain⟨a2,c2,b2,d2,rfl,rfl⟩:=V.eG;have A:=jf I F;have y:=jf J G;have C:=gI A y;have B:=gI y A;have H:=xk (jL hI hF) (jL hJ hG);have D:=xk (jL hJ hG) (jL hI hF);have L:=QG H D;have l1:=H.i;have l2:=H.f;have l3:=D.i;have l4:=D.f;have l5:=L.i;have l6:=L.f;rw[<-NS.tH]at l2 l4 l6;have K:=show LH (dz (dC (dz I F) (dz J G)).i (dC (dz I F) (dz J G)).rf) (dz (dC (dz J G) (dz I F)).i (dC (dz J G) (dz I F)).rf)=LH (dC (dz I F) (dz J G)) (dC (dz J G) (dz I F))by rw[mX C,mX B]
 have v:=mX (AL C B);have s:=Gs (AL C B);have n:=ZB A y;have Q:=zh (zi P V);have HO:=zh t;clear t P V A y C B H D L;generalize hp:dC (dz I F) (dz J G)=p at*
 generalize hq:dC (dz J G) (dz I F)=q at*
 generalize LH p q=g at*
 have S:=zh (zi K (zi v (zi hp hq)));have HC:=zh (zi n s);clear K v n s hp hq;refine aj fun R hR=>?_
 go_enter func129,ntmps129
 go_upto_region 1 with(fail)
 refine aR [2,5,6] (fun vs w'=>vs=[.pointer (some ⟨w.heap.size,0,none⟩),.int .i64 ((dm g).getD 0),.bool (dm g).isSome]/\Own w m w' m [.obj (w.heap.size+1) 24 #[.slice a2 J.length c2,.slice b2 G.length d2],.obj w.heap.size 24 #[.slice a1 I.length c1,.slice b1 F.length d1]]) ?_ ?_
 .intro Y hY;refine bz 13 6 (fun j=>[aD.is (·=.agg #[.slice a1 I.length c1,.slice b1 F.length d1]),aD.is (·=.agg #[.slice a2 J.length c2,.slice b2 G.length d2]),aD.mem m [2] (dY p.i p.rf),aD.is (·=.agg #[.slice a2 J.length c2,.slice b2 G.length d2]),aD.is (·=.agg #[.slice a1 I.length c1,.slice b1 F.length d1]),aD.mem m [5] (dY q.i q.rf),aD.mem m [6,2,5] (dY g.i g.rf),aD.is (·=.tuple #[.int .i64 ((dm g).getD 0),.bool (dm g).isSome]),aD.is (·=.tuple #[.int .i64 ((dm g).getD 0),.bool (dm g).isSome]),aD.is (·=.int .i64 ((dm g).getD 0)),aD.is (·=.bool (dm g).isSome),aD.is (·=.int .i64 ((dm g).getD 0)),aD.is (·=.bool (dm g).isSome)].getD j aD.any) zk zk ?_ ?_
  .intro i hi o b a x ho l;have HO2:=HO.o.dr.aP l.az;have p1:=HO2.au.obj.c 0;have p2:=HO2.au.obj.c 1;have p3:=HO2.obj.c 0;have p4:=HO2.obj.c 1;rcases(show i=0\/i=1\/i=2\/i=3\/i=4\/i=5\/i=6\/i=7\/i=8\/i=9\/i=10\/i=11\/i=12 by omega)with rfl|rfl|rfl|rfl|rfl|rfl|rfl|rfl|rfl|rfl|rfl|rfl|rfl
   .have W:=l.k 2;exact qaa
   .have e3:=l.k 3;exact qaa
   .have e8:zt a 8 _:=l.d 0 rfl;have e9:zt a 9 _:=l.d 1 rfl;cases ho;refine we rfl rfl (BF _ _ I F _ _ J G m x HO2.ay Q.o.1 Q.o.2 zo zo zo zo) ?_;rintro e w' ⟨ri,rf,rfl,hb,hn⟩;rw[S.o.2.2.1]at hn;exact qav
   .have e3:=l.k 3;exact qaa
   .have W:=l.k 2;exact qaa
   .have R':a.tmps.getD 11 undef=_:=l.d 3 rfl;have Q':a.tmps.getD 12 undef=_:=l.d 4 rfl;cases ho;refine we rfl rfl (BF _ _ J G _ _ I F m x HO2.ay Q.o.2 Q.o.1 zo zo zo zo) ?_;rintro e w' ⟨ri,rf,rfl,hb,hn⟩;rw[S.o.2.2.2]at hn;exact qav
   .have a':(aD.mem m [2] (dY p.i p.rf)).holds (a.tmps.getD 10 undef) b x:=l.d 2 rfl;have Z:(aD.mem m [5] (dY q.i q.rf)).holds (a.tmps.getD 13 undef) b x:=l.d 5 rfl;cases ho;obtain⟨r1,s1,r2,s2,k1,O⟩:dY _ _ _ _:=a';obtain⟨r3,s3,r4,s4,k2,t2⟩:dY _ _ _ _:=Z;refine we rfl rfl (JO _ _ p.i p.rf _ _ q.i q.rf (m.gU x b [2,5]) x (Mem_wins_inn HO2.ay b [2,5]) (O.le (Mem_wins_le (es:=[2,5]) HO2.ay b zS)) (t2.le (Mem_wins_le (es:=[2,5]) HO2.ay b zS)) zo zo zo zo) ?_;rintro e w' ⟨ri,rf,rfl,hb,hn⟩;rw[S.o.1]at hn;exact⟨_,rfl,_,rfl,hb,jV (ds:=[2,5]) dY.le HO2.ay zS (fun d hd=>(l.ik d qep).2.2) hb (je hn)⟩
   .have X:(aD.mem m [6,2,5] (dY g.i g.rf)).holds (a.tmps.getD 14 undef) b x:=l.d 6 rfl;cases ho;obtain⟨r1,s1,r2,s2,k1,O⟩:dY _ _ _ _:=X;refine we rfl rfl (Lu _ _ g.i g.rf (m.gU x b [6,2,5]) x (Mem_wins_inn HO2.ay b [6,2,5]) O zo zo) ?_;rintro e w' ⟨rfl,hb⟩;rw[S.o.2.1];exact⟨_,rfl,_,rfl,hb,rfl⟩
   .have P':a.tmps.getD 15 undef=_:=l.d 7 rfl;exact qaa
   .have e7:zt a 7 _:=l.d 8 rfl;exact qaa
   .have e7:zt a 7 _:=l.d 8 rfl;exact qaa
   .have O':a.tmps.getD 16 undef=_:=l.d 9 rfl;exact qaa
   .have N':a.tmps.getD 17 undef=_:=l.d 10 rfl;exact qaa
  .intro b a x E;have W:=E.keep 2 zk;have e5:a.tmps.getD 5 undef=.int .i64 ((dm g).getD 0):=E.fact 11 _ zo rfl;have e6:a.tmps.getD 6 undef=.bool (dm g).isSome:=E.fact 12 _ zo rfl;obtain⟨O,d⟩:=a;obtain rfl:d=[]:=E.defers;refine bY zk (hY.o _ _ E.size ⟨?_,HO.o.dr.aP E.az⟩) _;simp only[yL,xB,W,e5,e6]
   rfl
 rintro z vs w1-⟨rfl,t⟩;simp[aX,lk];have n:=HC.o.1;have s:=HC.o.2;generalize dm g=r at*
 cases r with
 |none=>
  have hF:=zh (zi (n.1 rfl) t.az);clear t HO n s;go_wp2
  exact hR.o _ _ ⟨by rw[hF.o.1],hF.o.2⟩
 |some u=>
  have hu:=s u rfl;have hk:=HA.o u zo w1 t.ay;have hcr2:=n.2 u rfl;have HK:=zh hk;have HO1:=zh t;have q1:=t.au.obj.c 0;have q2:=t.au.obj.c 1;have q3:=t.au.obj.lt;clear t hk n s HA hu
  go_wp2_with fail
  refine HK.o.mono ?_;rintro e w2 ⟨rfl,hb2⟩;have hF:=zh (HO1.o.aP hb2).az;by_cases hh:(dz I F).has u
  .rw[aO hh];have HV:=zh (hcr2.1 hh);exact qc7
  .rw[aA hh];have HV:=zh (hcr2.2 hh);exact qc7
end Cl
