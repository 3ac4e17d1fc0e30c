/- The law's walk. -/
import Derived.Test.YtbbnjopkjbhpbaaGreatDoorPkT28
import Derived.Test.YtbbnjopkjbhpbaaGreatDoorPkT26
set_option maxRecDepth 99999
set_option maxHeartbeats 9999999
namespace Cl
open Go Go.RowKit Go.Proofs Tryz
theorem cz0(op:ByteArray)(N:op=⟨#[60,61]⟩\/op=⟨#[62,61]⟩\/op=⟨#[61,61]⟩)(u:Int)(hv:cO u)(m:Mem)(w:zW)(hm:m.az w):
 zC 91 #[.string op,.int .i64 u] w fun e w'=>∃I rf,e=.returned (.tuple #[.agg #[I,rf],.int .i64 0])/\zB w w'/\dA (m.grow w w') I rf (jc op.toList u).i (jc op.toList u).rf:=by
 have a:=((Own.start hm).al #[.slice none 0 0,.slice none 0 0] 24).al opsV 9;simp only[bB]at a;have hs:=ezn (mk:=m) a.obj;have X:=a.iC;have HK:=zh (EM _ opsL op _ _ X.az hs);rw[dY (Xk op),aN (show known op.toList=true by rw[xE];rcases N with rfl|rfl|rfl<;>decide)]at HK;have HO:=zh a.tail;have HV:=zh (fun w'=>xx u w');clear a X hs;unfold opsV at HK HO;refine au fun R hR=>?_
 go_enter func91,ntmps91
 go_wp2_with fail
 refine HK.o.mono ?_;rintro e w1 ⟨rfl,V⟩;have b':=zh (HO.o.aT V);clear HK HO V
 go_wp2_with fail
 refine(HV.o _).mono ?_;rintro e w2 ⟨rfl,U⟩;have a:=b'.o.aT U;rw[zN hv];have G' : -1000000000000000<=u/\u<=1000000000000000:=by simpa [cO,iH]using hv
 have f':=zh (fun w'=>wS (u-1) w' zo zo);have F:=zh (fun w'=>wS (-u) w' zo zo);have E:=zh (fun w'=>wS u w' zo zo);have A:=zh (show pR (-100000000000,(u-1)/10000)/\pR (-1000000000000000,u-1)/\pR (-(-u/10000),u/10000)/\pR (u,u)by unfold pR;dsimp only;omega);have HEL0:=zh (show((F7 u).i.length<=1/\(F7 u).rf.length<=1)/\((Ch u).i.length<=1/\(Ch u).rf.length<=1)/\(J4 u).i.length<=1/\(J4 u).rf.length<=1 from
  ⟨⟨(jP (k:=1) zS zS).i,by rw[NS.sG];exact(jP (k:=1) zS zS).f⟩,⟨(jP (k:=1) zS zS).i,by rw[NS.sG];exact(jP (k:=1) zS zS).f⟩,(jP (k:=1) zS zS).i,by rw[NS.sG];exact(jP (k:=1) zS zS).f⟩)
 have e':=zh (show gz [(-100000000000,(u-1)/10000)] [(-1000000000000000,u-1)]=Ch u from rfl);have g':=zh (show gz [(-(-u/10000),u/10000)] [(u,u)]=F7 u from rfl);have a':=zh a;have p':=zh (show -100000000001<=(u-1)/10000/\(u-1)/10000<=100000000000 /\ -100000000000 <= -u/10000 /\ -u/10000<=100000000000 by omega);clear U b' HV a
 go_wp2_with fail
 refine(f'.o _).mono ?_;rintro e w3 ⟨rfl,T⟩;have W:=a'.o.aT T;have d:=((W.al #[.int .i64 (-100000000000),.int .i64 ((u-1)/10000)] 100).al #[.int .i64 (-1000000000000000),.int .i64 (u-1)] 100);simp only[bB]at d;obtain⟨m',l1,p1,l⟩:=CE d A.o.2.1;obtain⟨mk2,l2,p2,hO6⟩:=CE l A.o.1;have D:=zh qib;rw[e'.o]at D;have g:=zh hO6;clear f' a' T W d l hO6 l1 l2 p1 p2;generalize (u-1)/10000=f1 at*
 go_wp2_with fail
 refine D.o.mono ?_;rintro e H ⟨I,rf,rfl,S,hn⟩;obtain⟨y,r,t,p,rfl,rfl⟩:=hn.dm;have j:=(g.o.call S).al #[.slice y (Ch u).i.length r,.slice t (Ch u).rf.length p] 24;have B:=zh (zi hn j);generalize mk2.grow _ H=lH at B;clear D g S hn j
 go_upto_region 6 with(fail)
 generalize hW:H.alloc (.cells #[.slice y (Ch u).i.length r,.slice t (Ch u).rf.length p] 24)=w5 at*
 generalize H.heap.size=g6 at*
 refine aW [0,4,6,7] (fun vs w'=>∃(mk2:Mem) (g7:Nat) (x3 x4:zV),vs=[.string op,.p w.heap.size,.p g6,.p g7] /\
  dA mk2 (.slice y (Ch u).i.length r) (.slice t (Ch u).rf.length p) (Ch u).i (Ch u).rf/\dA mk2 x3 x4 (F7 u).i (F7 u).rf /\
  Own w m w' mk2 [.obj g7 24 #[x3,x4],.obj g6 24 #[.slice y (Ch u).i.length r,.slice t (Ch u).rf.length p],.obj w.heap.size 24 #[.slice none 0 0,.slice none 0 0]]) ?_ ?_
 .intro Y hY
  go_wp2_with fail
  refine(F.o _).mono ?_;rintro e w6 ⟨rfl,Q⟩;have Z:=zh (B.o.2.aT Q);generalize I' : -u/10000=fm at*
  have v':=p'.o.2.2;clear F Q
  go_wp2_with fail
  refine(E.o _).mono ?_;rintro e w7 ⟨rfl,P⟩;have d:=(((Z.o.aT P).al #[.int .i64 (-fm),.int .i64 (u/10000)] 100).al #[.int .i64 u,.int .i64 u] 100);simp only[bB]at d;obtain⟨m',l1,p1,l⟩:=CE d A.o.2.2.2;obtain⟨mk2,l2,p2,hO6⟩:=CE l A.o.2.2.1;have D:=zh qib;rw[g'.o]at D;have g:=zh (zi ((B.o.1.le l1).le l2) hO6);clear E Z P d l hO6 l1 l2 p1 p2;generalize u/10000=f2 at*
  go_wp2_with fail
  refine D.o.mono ?_;rintro e w8 ⟨I,rf,rfl,O,hn⟩;obtain⟨x,q,s,n,rfl,rfl⟩:=hn.dm;have j:=(g.o.2.call O).al #[.slice x (F7 u).i.length q,.slice s (F7 u).rf.length n] 24;have C:=zh (zi (g.o.1.le (bzx g.o.2.az (w:=w8))) (zi hn j));clear D g O hn j;go_wp2;exact hY.o _ _ rfl ⟨_,_,_,_,rfl,C.o.1,C.o.2.1,C.o.2.2⟩
 rintro z vs H-⟨mk2,g7,x3,x4,rfl,n1,n2,a⟩;simp[bz,lk];obtain⟨x,q,s,n,rfl,rfl⟩:=n2.dm;have b:=zh a;have d':=zh n1;have c':=zh n2;clear a n1 n2 F E B;have s1:=b.o.obj.c 0;have s2:=b.o.obj.c 1;have s3:=b.o.obj.lt;have s4:=b.o.av.obj.c 0;have s5:=b.o.av.obj.c 1;have s6:=b.o.av.obj.lt;have s7:=b.o.aR.obj.c 0;have s8:=b.o.aR.obj.c 1;have s9:=b.o.aR.obj.frozen 0;have F':=b.o.aR.obj.frozen 1;have E':=b.o.aR.obj.lt;rcases N with rfl|rfl|rfl
 .go_wp2_with fail
  have hf:jc (⟨#[60,61]⟩:ByteArray).toList u=J4 u:=by rw[xE];simp[jc,Hg,J2]
  have a:=b.o;have G:=zh (Hu _ _ _ _ _ _ _ _ mk2 H a.az d'.o c'.o qdY qdY qdY qdY);rw[mI (BF u),mI (BP u),dzK]at G;have HF:=zh hf;clear a hf;refine G.o.mono ?_;rintro e w5 ⟨I,rf,rfl,h,hn⟩;have a:=b.o.call h;clear h G;have a:=a.aR;have hf:=HF.o;obtain⟨M,L,K,J,rfl,rfl⟩:=hn.dm;have g1:=a.obj.c 0;have g2:=a.obj.c 1;have g3:=a.obj.frozen 0;have g4:=a.obj.frozen 1;have g5:=a.obj.lt;have hO2:=(a.set 0 (.slice M (J4 u).i.length L)).set 1 (.slice K (J4 u).rf.length J);have g6:=hO2.obj.c 0;have g7:=hO2.obj.c 1;have Hk:=zh qfv;clear a hO2 hn hf;go_wp2;refine yV (v:=.tuple #[.agg #[.slice M (J4 u).i.length L,.slice K (J4 u).rf.length J],.int .i64 0]) qdX rfl ?_;exact qig
 .go_wp2_with fail
  have hf:jc (⟨#[62,61]⟩:ByteArray).toList u=iF (Ch u):=by rw[xE];simp[jc,Hg,J2,Ns,PQ]
  have a:=b.o;have G:=zh (Ai _ _ _ _ mk2 H a.az d'.o qdY qdY);rw[mI (BF u)]at G;have HF:=zh hf;clear a hf;refine G.o.mono ?_;rintro e w5 ⟨I,rf,rfl,h,hn⟩;have a:=b.o.call h;clear h G;have a:=a.aR;have hf:=HF.o;obtain⟨M,L,K,J,rfl,rfl⟩:=hn.dm;have g1:=a.obj.c 0;have g2:=a.obj.c 1;have g3:=a.obj.frozen 0;have g4:=a.obj.frozen 1;have g5:=a.obj.lt;have hO2:=(a.set 0 (.slice M (iF (Ch u)).i.length L)).set 1 (.slice K (iF (Ch u)).rf.length J);have g6:=hO2.obj.c 0;have g7:=hO2.obj.c 1;have Hk:=zh qfv;clear a hO2 hn hf;go_wp2;refine yV (v:=.tuple #[.agg #[.slice M (iF (Ch u)).i.length L,.slice K (iF (Ch u)).rf.length J],.int .i64 0]) qdX rfl ?_;exact qig
 .go_wp2_with fail
  have hf:jc (⟨#[61,61]⟩:ByteArray).toList u=F7 u:=by rw[xE];simp[jc,Hg,J2,Ns,PQ,SQ]
  have a:=b.o;have hn:=c'.o;have a:=b.o.aR;have g1:=a.obj.c 0;have g2:=a.obj.c 1;have g3:=a.obj.frozen 0;have g4:=a.obj.frozen 1;have g5:=a.obj.lt;have hO2:=(a.set 0 (.slice x (F7 u).i.length q)).set 1 (.slice s (F7 u).rf.length n);have g6:=hO2.obj.c 0;have g7:=hO2.obj.c 1;have Hk:=zh qfv;clear a hO2 hn hf;refine yV (v:=.tuple #[.agg #[.slice x (F7 u).i.length q,.slice s (F7 u).rf.length n],.int .i64 0]) qdX rfl ?_;exact qig
abbrev zcS:Array Value:=#[.bool false,.bool false,.bool false,.slice none 0 0,.slice none 0 0,.slice none 0 0]
abbrev Db:Array Value:=#[.int .i64 3,.int .i64 10000,.string ⟨#[]⟩,.slice none 0 0,.slice none 0 0]
theorem fzg(w:zW):zX 175 #[.agg Db] w (.j 0):=by
 have a:=(Own.start (ezr w)).al Db 76;have r:=zh (fun w'=>xx 10000 w');have s:=zh (fun w'=>Oi 3 10000 ⟨#[]⟩ none none 0 0 0 0 w');have m:=zh a;clear a;refine au fun R p=>?_
 go_enter func175,ntmps175
 go_wp2_with fail
 refine(s.o _).mono ?_;rintro e u ⟨rfl,l⟩;have a:=m.o.aT l;have x:=a.obj.c 0;have v:=a.obj.c 1;have g:=a.obj.c 4;have k:=a.obj.lt;have t:=zh a.aF;clear m l;have f:=zh a;clear a
 go_wp2_with fail
 have a:=f.o;clear f g k;refine(r.o _).mono ?_;rintro e n ⟨rfl,d⟩;rw[show decide (cO 10000)=true from zN (by unfold cO iH;omega)];have g:=a.obj.c 4;have b:=a.aT d;have g:=b.obj.c 4;have k:=b.obj.lt;have h:=zh b.aF;clear t d a b;go_wp2;refine aB [1,3] (fun q j i=>q=0/\j=[.p w.heap.size,.j 1]/\i=n) ?_ ?_
 .exact⟨_,rfl,rfl,rfl⟩
 rintro X z q j i y-⟨rfl,rfl,rfl⟩;simp[bz,lk];go_wp2;exact p.o _ _ ⟨rfl,h.o⟩
theorem fzy(w:zW):zX 176 #[.agg Db] w (.n):=by
 have a:=(Own.start (ezr w)).al Db 76;have i:=a.obj.c 3;have h:=a.obj.c 4;have g:=a.obj.lt;have HB:=zh a.aF;have f:=fun w=>Lib.run_eql_slice_nil (P:=prog) w 73 76 none 0 0 0 0 underlying73;clear a;refine au fun R hR=>?_
 go_enter func176,ntmps176
 go_wp2;refine aB [3,10,11,12] (fun q d b=>q=0/\d=[.n,.n,.j 0,.j 0]/\b=w.alloc (.cells Db 76)) ?_ ?_
 .exact⟨_,rfl,rfl,rfl⟩
 rintro X z q d b j-⟨rfl,rfl,rfl⟩;simp[bz,lk];exact qaD
theorem czO(w:zW):zX 136 #[.agg Db,.int .i64 1] w (.j 0):=by
 have a:=(Own.start (ezr w)).al Db 76;have p:=zh (fun w'=>fzg w');have r:=zh (fun w'=>fzy w');have g:=zh a;clear a;refine au fun R hR=>?_
 go_enter func136,ntmps136
 go_wp2_with fail
 refine(p.o _).mono ?_;rintro e s ⟨rfl,b⟩;have a:=g.o.aT b;obtain⟨n,m,l,k,j⟩:=a.obj.cs5;have i:=a.obj.lt;have c:=zh a;clear g b a
 go_wp2_with fail
 refine(r.o _).mono ?_;rintro e h ⟨rfl,b⟩;have HB:=zh (c.o.aT b).aF;clear c b n m l k j i;go_wp2;refine aB [17,18,19] (fun q f d=>q=0/\f=[.n,.j 0,.j 0]/\d=h) ?_ ?_
 .exact⟨_,rfl,rfl,rfl⟩
 rintro X z q f d t-⟨rfl,rfl,rfl⟩;simp[bz,lk];exact qaD
theorem azK(w:zW):zX 87 #[.agg Db] w (.j 0):=by
 have b:=(Own.start (ezr w)).al Db 76;have d:=zh (fun w'=>czO w');have c:=zh b;clear b;refine au fun R hR=>?_
 go_enter func87,ntmps87
 go_wp2_with fail
 refine(d.o _).mono ?_;rintro e f ⟨rfl,a⟩;have HB:=zh (c.o.aT a).aF;clear c a;exact qaD
theorem Vf:cO 10000:=by unfold cO iH;omega
theorem czA(op:ByteArray)(q:op=⟨#[60,61]⟩\/op=⟨#[62,61]⟩\/op=⟨#[61,61]⟩)(m:Mem)(w:zW)(E:m.az w):
 zC 60 #[.string op,.agg Db] w fun e w'=>∃p rf,e=.returned (.tuple #[.agg #[.bool false,.bool false,.bool false,p,rf,.slice none 0 0],.int .i64 0])/\zB w w'/\dA (m.grow w w') p rf (jc op.toList 10000).i (jc op.toList 10000).rf:=by
 have a:=((Own.start E).al Db 76).al #[.bool false,.bool false,.bool false,.slice none 0 0,.slice none 0 0,.slice none 0 0] 29;simp only[bB]at a;have u:=zh (cz0 op q 10000 Vf m _ a.az);have t:=zh a;clear a;refine au fun R hR=>?_;generalize jc op.toList 10000=x at*
 go_enter func60,ntmps60
 go_wp2_with fail
 refine u.o.mono ?_;rintro e r ⟨p,rf,rfl,k,d⟩;obtain⟨j,h,g,f,rfl,rfl⟩:=d.dm;have l:=((t.o.call k).al #[.slice j x.i.length h,.slice g x.rf.length f] 24).av;have s:=zh d;have n:=zh l;clear u t k d l
 go_upto_region 3 with(fail)
 generalize F:r.alloc (.cells #[.slice j x.i.length h,.slice g x.rf.length f] 24)=M at*
 generalize r.heap.size=Q at*
 have a:=n.o;have d:=s.o;have P:=a.av.obj.c 0;have O:=a.av.obj.c 1;have N:=a.av.obj.lt;clear n s F;obtain⟨Y,X,W,V,U,T,L,K,J,I,H,G⟩:=a.obj.cf6;have S:=a.obj.lt;have b:Own _ _ _ _ (.obj _ 29 #[.bool false,.bool false,.bool false,.slice j x.i.length h,.slice g x.rf.length f,.slice none 0 0]::_):=((((((a.set 0 (.bool false)).set 1 (.bool false)).set 2 (.bool false)).set 3 (.slice j x.i.length h)).set 4 (.slice g x.rf.length f)).set 5 (.n));obtain⟨D,C,B,A,z,y⟩:=b.obj.cs6;have Hk:=zh (zi b.aF (d.le b.done));clear b d a;go_wp2;refine yV (v:=.tuple #[.agg #[.bool false,.bool false,.bool false,.slice j x.i.length h,.slice g x.rf.length f,.slice none 0 0],.int .i64 0]) (by simp[results,results60,go_sem,D,C,B,A,z,y]) rfl ?_;exact qaU
def fzD(op:List UInt8)(M:Mem)(cs:List Value):Prop:=∃d c b a,cs=[.bool false,.bool false,.bool false,.slice d (jc op 10000).i.length c,.slice b (jc op 10000).rf.length a,.n]/\dA M (.slice d (jc op 10000).i.length c) (.slice b (jc op 10000).rf.length a) (jc op 10000).i (jc op 10000).rf
theorem dzD(op:ByteArray)(a:op=⟨#[60,61]⟩\/op=⟨#[62,61]⟩\/op=⟨#[61,61]⟩)(m:Mem)(w:zW)(b:m.az w):
 zC 60 #[.string op,.agg Db] w fun e w'=>∃cs:List Value,e=.returned (.tuple #[.agg cs.toArray,.int .i64 0])/\zB w w'/\cs.length=6/\(∀u∈cs,u.oneCell'=true)/\fzD op.toList (m.grow w w') cs:=by
 refine(czA op a m w b).mono ?_;rintro e w' ⟨j,rf,rfl,c,h⟩;obtain⟨i,g,f,d,rfl,rfl⟩:=h.dm;exact⟨[_,_,_,_,_,_],rfl,c,rfl,by simp[Value.oneCell'],_,_,_,_,rfl,h⟩
theorem fzW(w:zW):zC 58 #[.agg Db] w fun e w'=>∃cs:List Value,e=.returned (.tuple #[.agg cs.toArray,.int .i64 0])/\zB w w'/\cs.length=6/\∀u∈cs,u.oneCell'=true:=by
 have a:=((Own.start (ezr w)).al Db 76).al zcS 29;simp only[bB]at a;have t:=zh (fun w'=>azK w');have x:=zh (fun w' (h:(Mem.of w).az w')=>dzD ⟨#[61,61]⟩ (.inr (.inr rfl)) (Mem.of w) w' h);have j:=zh a;clear a;refine au fun R s=>?_
 go_enter func58,ntmps58
 go_wp2_with fail
 refine(t.o _).mono ?_;rintro e B ⟨rfl,g⟩;have a:=(j.o.aT g).av;obtain⟨q,p,n,m,l⟩:=a.obj.cs5;have k:=a.obj.lt;have d:=zh a;clear j g a
 go_wp2_with fail
 refine(x.o _ d.o.az).mono ?_;rintro e A ⟨cs,rfl,g,hl,i,-⟩;have c:=zh (d.o.aT g);clear d g q p n m l k
 go_wp2_with (refine aA rO rfl (.tmp 2) (.tmp 30) rfl (cs:=cs.toArray) rfl rfl rfl qdR (fun u hu=>i u qdL) c.o.av.obj ?_)
 intro z b f;have y:=zh (c.o.av.aQ b f).aF;have r:=rO.load (P:=prog) (cs:=cs) hl b.all;clear c b f;go_wp2;refine yV (v:=.tuple #[.agg cs.toArray,.int .i64 0]) (dz results58 rfl r) rfl ?_;exact s.o _ _ ⟨cs,rfl,y.o,hl,i⟩
theorem fzA(c:UInt8)(E:c=60\/c=62)(m:Mem)(w:zW)(J:m.az w):zC 41 #[.string ⟨#[c,61]⟩,.agg Db] w fun e w'=>∃cs:List Value,e=.returned (.tuple #[.agg cs.toArray,.int .i64 0])/\zB w w'/\cs.length=6/\(∀u∈cs,u.oneCell'=true)/\fzD [c,61] (m.grow w w') cs:=by
 have B:=((Own.start J).al Db 76).al zcS 29;simp only[bB]at B;have N:=zh (fun w'=>fzW w');have H:=zh (fun(M:Mem) w' (h:M.az w')=>dzD ⟨#[c,61]⟩ (by rcases E with rfl|rfl<;>simp) M w' h);rw[xE]at H;have F:=zh B;clear B;refine au fun R K=>?_
 go_enter func41,ntmps41
 go_wp2_with fail
 refine(N.o _).mono ?_;rintro e Y ⟨L,rfl,n,A,z⟩;have a:=(F.o.aT n).al zcS 29;obtain⟨y,x,t,s,r⟩:=a.aR.obj.cs5;have q:=a.aR.obj.lt;have i:=zh a;clear F n a
 go_upto_region 2 with(refine aA rO rfl (.tmp 6) (.tmp 12) rfl (cs:=L.toArray) rfl rfl rfl (by simpa using A) (fun u hu=>z u qdL) i.o.obj ?_;intro X j l;have a:=(i.o.aQ j l).tail;clear y x t s r q j l)
 have a:=a.av;obtain⟨y,x,t,s,r⟩:=a.obj.cs5;have q:=a.obj.lt;have g:=zh a;clear i a;rcases E with rfl|rfl
 all_goals
  go_wp2_with fail
  refine(H.o m _ g.o.az).mono ?_;rintro e W ⟨cs,rfl,n,hl,C,D⟩;have p:=g.o.call n;have f:=zh p;have O:=zh D;clear g n p D y x t s r q
  go_wp2_with (refine aA rO rfl (.tmp 4) (.tmp 43) rfl (cs:=cs.toArray) rfl rfl rfl qdR (fun u hu=>C u qdL) f.o.av.obj ?_)
  intro V b k;have d:=f.o.av.aQ b k;have I:=rO.load (P:=prog) (cs:=cs) hl b.all;have G:=zh (zi d.aF d.done);clear f b k d;go_wp2;refine yV (v:=.tuple #[.agg cs.toArray,.int .i64 0]) (dz results41 rfl I) rfl ?_;obtain⟨U,T,S,Q,rfl,h⟩:=O.o;exact K.o _ _ ⟨_,rfl,G.o.1,hl,C,_,_,_,_,rfl,h.le G.o.2⟩
structure UX (p:El->Prop) (M:Mem) (s:RS) (ui uf ut:zV):Prop where
 at':gJ M ui uf ut s
 is:oK p s
 le:jW s 8 8
theorem UX.up{p:El->Prop}{m M:Mem}{s:RS}{c d b:zV}(h:UX p m s c d b)(a:m.le M):UX p M s c d b:=⟨h.at'.le a,h.is,h.le⟩
def RI(e:El):Prop:=∃u,e=.num u/\cO u/\u<=10000
def VL(e:El):Prop:=∃u,e=.num u/\cO u/\10000<=u
def Tc(op:List UInt8):RS:=⟨false,false,false,(jc op 10000).i,(jc op 10000).rf,[]⟩
theorem bz8{op:List UInt8}{p:El->Prop}(hk:known op=true)(a:∀e,p e↔(match e with|.num v=>cO v/\Xb op v 10000|_=>False)):oK p (Tc op):=by
 unfold Tc;exact qO (x:=jc op 10000) (by rw[a];simp) (by rw[a];simp) (by rw[a];simp) (Yt op _) (fun v=>by rw[UN hk,a]) iy (fun w=>by rw[a];simp[dG iy,gK])
theorem bz7(op:List UInt8):jW (Tc op) 8 8:=by
 have h:=Yu op 10000;unfold Tc;exact⟨by simp only;omega,by simp only;omega,zG _⟩
theorem fzY(e:El):RI e↔(match e with|.num v=>cO v/\Xb [60,61] v 10000|_=>False):=by
 unfold RI
 cases e with
 |num u=>exact⟨fun⟨v,e,b,a⟩=>(by cases e;exact⟨b,a⟩),fun h=>⟨u,rfl,h.1,h.2⟩⟩
 |_=>exact⟨fun⟨v,e,_⟩=>(by cases e),fun h=>h.elim⟩
theorem fz3(e:El):VL e↔(match e with|.num v=>cO v/\Xb [62,61] v 10000|_=>False):=by
 unfold VL
 cases e with
 |num u=>exact⟨fun⟨v,e,b,a⟩=>(by cases e;exact⟨b,a⟩),fun h=>⟨u,rfl,h.1,h.2⟩⟩
 |_=>exact⟨fun⟨v,e,_⟩=>(by cases e),fun h=>h.elim⟩
theorem bza(w:zW):(Instr.build 76 #[(0,.int .i64 3),(1,.int .i64 10000)]).run prog w=.ok (.agg #[.int .i64 3,.int .i64 10000,.string ⟨#[]⟩,.slice none 0 0,.slice none 0 0]) w:=by kernel_rfl
theorem dzG{c:UInt8}{p:El->Prop}(I:c=60\/c=62)(N:∀e,p e↔(match e with|.num v=>cO v/\Xb [c,61] v 10000|_=>False))(m:Mem)(w:zW)(Q:m.az w):zC 26 #[.string ⟨#[c,61]⟩,.int .i64 10000] w fun e w'=>∃s F G E,e=.returned ((Vl.mk false s [] []).val ⟨F,G,E,.n,.n⟩)/\zB w w'/\UX p (m.grow w w') s F G E:=by
 have J:=(Own.start Q).al FV 33;have hk:known [c,61]=true:=by rcases I with rfl|rfl<;>decide
 have K:=zh (fun w' (h:m.az w')=>fzA c I m w' h);have C:=zh J;have A:=bza;have S:=fun a0 Y X W V U w=>Js a0 Y X W V U w;clear J;refine au fun R T=>?_
 go_enter func26,ntmps26
 go_wp2_with fail
 refine(K.o _ C.o.az).mono ?_;rintro e w1 ⟨cs,rfl,x,hl,O,H⟩;have z:=(C.o.call x).al zcS 29;have f:=zh z;have D:=zh H;clear C K x H z A;obtain⟨l,k,j,g,rfl,h⟩:=D.o;have D:=zh h;clear h
 go_wp2_with (first
  |(refine aA rO rfl (.tmp 5) (.tmp 12) rfl (cs:=#[.bool false,.bool false,.bool false,.slice l (jc [c,61] 10000).i.length k,.slice j (jc [c,61] 10000).rf.length g,.slice none 0 0]) rfl rfl rfl rfl (fun u L=>O u L) f.o.obj ?_;intro w2 q t;have b:=f.o.aQ q t;have y:=b.obj.all (cs:=[.bool false,.bool false,.bool false,.slice l (jc [c,61] 10000).i.length k,.slice j (jc [c,61] 10000).rf.length g,.n]);have d:=zh b;clear f b q t)
  |refine aj rO rfl (.tmp 5) rfl rfl [.bool false,.bool false,.bool false,.slice l (jc [c,61] 10000).i.length k,.slice j (jc [c,61] 10000).rf.length g,.n] rfl y ?_
  | refine aA jI rfl (.tmp 4) (.tmp 15) rfl (cs:=(aZ (.mk false (Tc [c,61]) [] []) ⟨.slice l (jc [c,61] 10000).i.length k,.slice j (jc [c,61] 10000).rf.length g,.n,.n,.n⟩).toArray) rfl rfl rfl rfl (by simp[aZ,Value.oneCell']) d.o.av.obj ?_)
 intro Z n r;have a:=d.o.av.aQ n r;have M:=jI.load (P:=prog) (cs:=aZ (.mk false (Tc [c,61]) [] []) ⟨.slice l (jc [c,61] 10000).i.length k,.slice j (jc [c,61] 10000).rf.length g,.n,.n,.n⟩) rfl n.all;have B:=zh (zi a.aF (D.o.le a.done));clear d a r y;go_wp2;refine yV (jq results26 rfl M) rfl ?_;exact T.o _ _ ⟨Tc [c,61],_,_,_,rfl,B.o.1,⟨B.o.2.1,B.o.2.2,fq _ _⟩,bz8 hk N,bz7 _⟩
def XE:RS:=⟨false,false,false,l7,[],[]⟩
theorem dzX(m:Mem)(w:zW)(r:m.az w):
 zC 24 #[.string ⟨#[105,110,116]⟩] w fun e w'=>∃k l st,e=.returned (.tuple #[XE.val k l st,.int .i64 0])/\zB w w'/\gJ (m.grow w w') k l st XE:=by
 have p:=(Own.start r).al zcS 29;have u:=zh (fun w' (h:m.az w')=>Hy m w' h);have j:=zh p;clear p;refine au fun R s=>?_
 go_enter func24,ntmps24
 go_wp2_with fail
 refine(u.o _ j.o.az).mono ?_;rintro e y ⟨z,rfl,n,d⟩;obtain⟨i,g,rfl,-⟩:=id d;have c:=zh (j.o.call n);have t:=zh d;clear j n d
 go_wp2_with (refine aA rO rfl (.tmp 2) (.tmp 14) rfl (cs:=#[.bool false,.bool false,.bool false,.slice i l7.length g,.slice none 0 0,.slice none 0 0]) rfl rfl rfl rfl qdN c.o.obj ?_)
 intro x a f;have b:=c.o.aQ a f;have d:=rO.load (P:=prog) (cs:=[.bool false,.bool false,.bool false,.slice i l7.length g,.n,.n]) rfl a.all;have q:=zh (zi b.aF (bS b.done t.o));clear c a f b;go_wp2;refine yV (v:=.tuple #[.agg #[.bool false,.bool false,.bool false,.slice i l7.length g,.slice none 0 0,.slice none 0 0],.int .i64 0]) (dz results24 rfl d) rfl ?_;exact s.o _ _ ⟨_,_,_,rfl,q.o.1,q.o.2,pq _,jo _⟩
theorem OV(m:Mem)(w:zW)(hm:m.az w):
 zC 46 #[.string ⟨#[97]⟩] w fun e w'=>∃r,e=.returned (.agg #[r])/\zB w w'/\aV (m.grow w w') r vZ:=by
 have hO:=((((((Own.start hm).al #[.slice (some ⟨w.heap.size+1+1+1+1,0,none⟩) 3 3] 27).al #[.int .u8 0,.int .u8 96,.int .i64 1,.int .u8 97,.int .u8 97,.int .i64 2,.int .u8 98,.int .u8 255,.int .i64 1] 102).al #[.int .u8 0,.int .u8 255,.int .i64 1] 102).al #[.int .u8 0,.int .u8 255,.int .i64 1] 102).al #[.bool true,.slice (some ⟨w.heap.size+1,0,none⟩) 3 3,.bool true,.slice (some ⟨w.heap.size+1+1,0,none⟩) 1 1,.bool false,.slice (some ⟨w.heap.size+1+1+1,0,none⟩) 1 1] 105);simp only[bB]at hO;have g0:=hO.fifth.obj.c 0;have gl:=hO.fifth.obj.lt;have c4:=fun(i:Nat) (u:zV) hi=>bzv hO.iC.done qix;have c3:=fun(i:Nat) (u:zV) hi=>bzv hO.av.iC.done (bzy (m:=m) hO.av.obj (i:=i) (v:=u) hi);have c2:=fun(i:Nat) (u:zV) hi=>bzv hO.aR.iC.done (bzy (m:=m) hO.aR.obj (i:=i) (v:=u) hi);have c1:=fun(i:Nat) (u:zV) hi=>bzv hO.bV.iC.done (bzy (m:=m) hO.bV.obj (i:=i) (v:=u) hi);have one:∀(M:Mem) (g:Nat),(∀(i:Nat) (u:zV),(#[.int .u8 0,.int .u8 255,.int .i64 1]:Array Value)[i]?=some u->M.cell g i=some u)->lW M (.slice (some ⟨g,0,none⟩) 1 1) [⟨0,255,1⟩]:=fun M g h=>
  ⟨_,1,rfl,zI _,by simp[maxLen],fun _=>⟨g,0,rfl,fun i hi=>by
   obtain rfl:i=0:=by simpa using hi
   exact⟨h 0 _ rfl,h 1 _ rfl,h 2 _ rfl,(by decide:(0:Nat)<256),(by decide:(255:Nat)<256),(by decide:(-9223372036854775808:Int)<=1),(by decide:(1:Int)<=9223372036854775807)⟩⟩⟩
 have HS:=zh (show aV (m.grow w _) (.slice (some ⟨w.heap.size+1+1+1+1,0,none⟩) 3 3) vZ from
  ⟨_,3,rfl,zI _,by simp[maxLen],fun _=>⟨_,0,rfl,fun i hi=>by
   have hi:i<3:=hi
   match i,hi with
   |0,_=>
    refine⟨c4 0 _ rfl,_,c4 1 _ rfl,_,3,rfl,zI _,by simp[maxLen],fun _=>⟨_,0,rfl,fun i hi=>?_⟩⟩;have hi:i<3:=hi
    match i,hi with
    |0,_=>exact⟨c1 0 _ rfl,c1 1 _ rfl,c1 2 _ rfl,(by decide:(0:Nat)<256),(by decide:(96:Nat)<256),(by decide:(-9223372036854775808:Int)<=1),(by decide:(1:Int)<=9223372036854775807)⟩
    |1,_=>exact⟨c1 3 _ rfl,c1 4 _ rfl,c1 5 _ rfl,(by decide:(97:Nat)<256),(by decide:(97:Nat)<256),(by decide:(-9223372036854775808:Int)<=2),(by decide:(2:Int)<=9223372036854775807)⟩
    |2,_=>exact⟨c1 6 _ rfl,c1 7 _ rfl,c1 8 _ rfl,(by decide:(98:Nat)<256),(by decide:(255:Nat)<256),(by decide:(-9223372036854775808:Int)<=1),(by decide:(1:Int)<=9223372036854775807)⟩
   |1,_=>exact⟨c4 2 _ rfl,_,c4 3 _ rfl,one _ _ c2⟩
   | 2,_=>exact⟨c4 4 _ rfl,_,c4 5 _ rfl,one _ _ c3⟩⟩⟩)
 have HB:=zh hO.aF;have hb:(({ data:=#[97] }:ByteArray)[0]'zD).toNat=97:=rfl;clear hO c1 c2 c3 c4 one;refine au fun R hR=>?_
 go_enter func46,ntmps46
 go_wp2;refine yV (v:=.agg #[.slice (some ⟨w.heap.size+1+1+1+1,0,none⟩) 3 3]) (by simp[results,results46,go_sem,g0]) rfl ?_;exact hR.o _ _ ⟨_,rfl,HB.o,HS.o⟩
def AL(n:Nat)(l:List Fd)(M:Mem)(v:zV):Prop:=gG (aY M n) M v l
def Cf(n:Nat)(l:List Kl)(M:Mem)(v:zV):Prop:=gM (aY M n) M v l
def UV(T:aK)(M:Mem)(v:zV):Prop:=∃r,v=.agg #[r]/\aV M r T
def KlV(T:aK)(D:List Value)(M:Mem)(v:zV):Prop:=∃r,v=.agg (r::D).toArray/\aV M r T
theorem AL.le{n:Nat}{l:List Fd}{m M:Mem}(h:m.le M){v:zV}(k:AL n l m v):AL n l M v:=gG.le h (fun _ _ k=>k.le h) k
theorem Cf.le{n:Nat}{l:List Kl}{m M:Mem}(h:m.le M){v:zV}(k:Cf n l m v):Cf n l M v:=gM.le h (fun _ _ k=>k.le h) k
theorem UV.le{T:aK}{m M:Mem}(h:m.le M){v:zV}(k:UV T m v):UV T M v:=by obtain⟨r,e,k⟩:=k;exact⟨r,e,bq h k⟩
theorem KlV.le{T:aK}{D:List Value}{m M:Mem}(h:m.le M){v:zV}(k:KlV T D m v):KlV T D M v:=by obtain⟨r,e,k⟩:=k;exact⟨r,e,bq h k⟩
theorem ezB{m:Mem}{w:zW}(d:m.az w){n:Nat}{f:Fd}{x y:Sl}(c:aY m n x f.2.1)(b:aY m n y f.2.2)(g:f.1.1.size<=maxLen)(e : -9223372036854775808<=f.1.2/\f.1.2<=9223372036854775807):
 AL n [f] (m.grow w (w.alloc (.cells (qx f x y).toArray 82))) (.slice (some ⟨w.heap.size,0,none⟩) 1 1):=by
 have hO:=(Own.start d).al (qx f x y).toArray 82;have a:=fun(i:Nat) (u:zV) hi=>bzv hO.iC.done qix;refine⟨_,1,rfl,zI _,by simp[maxLen],fun _=>⟨_,0,rfl,fun i hi=>?_⟩⟩;obtain rfl:i=0:=by simpa using hi
 exact⟨a 0 _ rfl,g,a 1 _ rfl,e,.of (fun j u hj=>by have:=a (2+j) u qhL;simpa using this) (c.le hO.done) (b.le hO.done)⟩
theorem ezx{m:Mem}{w:zW}(e:m.az w){n:Nat}{k:Kl}{r:zV}{x y:Sl}(d:aV m r k.1)(c:aY m n x k.2.1)(b:aY m n y k.2.2):
 Cf n [k] (m.grow w (w.alloc (.cells (nE k r x y).toArray 68))) (.slice (some ⟨w.heap.size,0,none⟩) 1 1):=by
 have hO:=(Own.start e).al (nE k r x y).toArray 68;have a:=fun(i:Nat) (u:zV) hi=>bzv hO.iC.done qix;refine⟨_,1,rfl,zI _,by simp[maxLen],fun _=>⟨_,0,rfl,fun i hi=>?_⟩⟩;obtain rfl:i=0:=by simpa using hi
 exact⟨⟨r,a 0 _ rfl,bq hO.done d⟩,.of (fun j u hj=>by have:=a (1+j) u qhM;simpa using this) (c.le hO.done) (b.le hO.done)⟩
theorem Yq(s:ByteArray)(p:Int)(a0 r q o n m l k j i h g f e d c b a:zV)(w:zW):(Instr.build 82 #[(0,.string s),(1,.int .i64 p),(2,.agg #[a0,r,q,o,n,m,l,k,j,i,h,g,f,e,d,c,b,a])]).run prog w=.ok (.agg #[.string s,.int .i64 p,a0,r,q,o,n,m,l,k,j,i,h,g,f,e,d,c,b,a]) w:=by kernel_rfl
theorem czQ(s:ByteArray)(p:Int){D:List Value}(a:D.length=18)(w:zW):(Instr.build 82 #[(0,.string s),(1,.int .i64 p),(2,.agg D.toArray)]).run prog w=.ok (.agg (.string s::.j p::D).toArray) w:=by
 match D,a with
 |[a0,a1,a2,a3,a4,a5,a6,a7,a8,b0,b1,b2,b3,b4,b5,b6,b7,b8],_=>exact Yq s p a0 a1 a2 a3 a4 a5 a6 a7 a8 b0 b1 b2 b3 b4 b5 b6 b7 b8 w
theorem QH{P:Program}{w:zW}{o:Oper}{d:Operand->Value}{t:TypeId}{x y z:Operand}{a b c r:zV}(e:o.op=Op.build t #[(0,x),(1,y),(2,z)])(h:d x=a)(g:d y=b)(f:d z=c)(i:(Instr.build t #[(0,a),(1,b),(2,c)]).run P w=.ok r w):(execOp d o).run P w=.ok (.value r) w:=by
 simp[execOp,e,h,g,f,i,Result.andThen]
theorem az5(a b:Option Addr)(n k c e:Nat)(w:zW):(Instr.build 62 #[(0,.slice a n c),(1,.slice b k e)]).run prog w=.ok (.agg #[.slice a n c,.slice b k e]) w:=by kernel_rfl
theorem PO{n:Nat}(p:Int)(hp:p=1\/p=2)(d:Vd)(x y:Sl)(m:Mem)(w:zW)(hm:m.az w)(h1:aY m (n+1) x d.1)(h2:aY m (n+1) y d.2):
 zC 29 #[.string ⟨#[97]⟩,.int .i64 p,bQ d x y] w fun e w'=>∃u S,e=.returned (.agg #[u,S])/\zB w w'/\AL (n+1) (opC p d).1 (m.grow w w') u/\Cf (n+1) (opC p d).2 (m.grow w w') S:=by
 have F:=((Own.start hm).al (dw d x y).toArray 35).al #[.slice none 0 0,.slice none 0 0] 62;simp only[bB]at F;have hl:(dw d x y).length=18:=rfl;have c':FM.size<=maxLen:=by decide
 have b' : -9223372036854775808<=p/\p<=9223372036854775807:=zo;have Q:=zh (fun(w':zW) (h:m.az w')=>ezB (f:=((FM,p),d)) h h1 h2 c' b');have O:=zh (fun(M:Mem) (w':zW) (h:M.az w') r (T:aV M r vZ)=>ezx (n:=n+1) (k:=(vZ,(eX,eX))) (x:=dI) (y:=dI) h T ezl ezl);have X:=zh F;have lT:(dw (eX,eX) dI dI).length=18:=rfl;unfold bQ;rw[show qx ((FM,p),d) x y=.string ⟨#[97]⟩::.j p::dw d x y from rfl]at Q;simp only[show ∀r,nE (vZ,(eX,eX)) r dI dI=r::dw (eX,eX) dI dI from fun r=>rfl]at O;generalize dw d x y=D at*
 clear F h1 h2;refine au fun R hR=>?_
 go_enter func29,ntmps29
 go_upto_region 1 with(fail)
 refine aW [6] (fun vs w'=>∃(W:Mem) (u S:zV),vs=[.p (w.heap.size+1)]/\Own w m w' W [.obj (w.heap.size+1) 62 #[u,S]]/\AL (n+1) (opC p d).1 W u/\Cf (n+1) (opC p d).2 W S) ?_ ?_
 .intro Y hY;refine bE 10 8 (fun j=>[aI.is (·=.string ⟨#[97]⟩),aI.is (·=.j p),aI.is (·=.agg D.toArray),aI.is (·=.agg (.string ⟨#[97]⟩::.j p::D).toArray),aI.mem m [4] (AL (n+1) (opC p d).1),aI.is (·=.string ⟨#[97]⟩),aI.mem m [6] (UV vZ),aI.is (·=bQ (eX,eX) dI dI),aI.mem m [6] (KlV vZ (dw (eX,eX) dI dI)),aI.mem m [9,6] (Cf (n+1) (opC p d).2)].getD j aI.any) zk zk ?_ ?_
  .intro i hi o g a v ho q;have s:=X.o.dr.aT q.aF;rcases(show i=0\/i=1\/i=2\/i=3\/i=4\/i=5\/i=6\/i=7\/i=8\/i=9 by omega)with rfl|rfl|rfl|rfl|rfl|rfl|rfl|rfl|rfl|rfl
   .have e0:=q.k 0;exact qaa
   .have e1:=q.k 1;exact qaa
   .have e5:=q.k 5;cases ho;refine aM rfl rfl (aS (ek.exec (b:=w.heap.size) (off:=0) rfl zg hl s.av.obj.all) ⟨_,rfl,zR _ _,rfl⟩)
   .have e7:zt a 7 _:=q.d 0 rfl;have e8:zt a 8 _:=q.d 1 rfl;have e9:zt a 9 _:=q.d 2 rfl;have f8:=(zY (xs:=a.tmps) (i:=8) (d:=undef)).symm.trans e8;have f9:=(zY (xs:=a.tmps) (i:=9) (d:=undef)).symm.trans e9;have f7:=(zY (xs:=a.tmps) (i:=7) (d:=undef)).symm.trans e7;cases ho;refine aM rfl rfl (aS (QH rfl zg zg zg (czQ _ _ hl v)) ⟨_,rfl,zR _ _,rfl⟩)
   .have j':a.tmps.getD 10 undef=_:=q.d 3 rfl;have C':=(zY (xs:=a.tmps) (i:=10) (d:=undef)).symm.trans j';cases ho;refine aM rfl rfl (uG R6 tu U8 rfl zo (.tmp 10) rfl (cs:=(Value.string ⟨#[97]⟩::Value.int .i64 p::D).toArray) zg qek ⟨_,rfl,bY (zR _ _) _,fM AL.le s.az qhZ (show AL (n+1) (opC p d).1 _ _ from Q.o v s.az)⟩)
   .have e0:=q.k 0;exact qaa
   .have H':a.tmps.getD 12 undef=_:=q.d 5 rfl;cases ho;refine we rfl rfl (OV m v s.az) ?_;rintro e w' ⟨r,rfl,hb,T⟩;exact⟨_,rfl,_,rfl,hb,fM UV.le s.az hb ⟨r,rfl,T⟩⟩
   .cases ho;refine we rfl rfl (R3 v) ?_;exact qag
   .have i':(aI.mem m [6] (UV vZ)).holds (a.tmps.getD 13 undef) g v:=q.d 6 rfl;have h':a.tmps.getD 14 undef=_:=q.d 7 rfl;have z':=(zY (xs:=a.tmps) (i:=14) (d:=undef)).symm.trans h';cases ho;obtain⟨r,A,L⟩:UV vZ _ _:=i';have A':=(zY (xs:=a.tmps) (i:=13) (d:=undef)).symm.trans A;exact aM rfl rfl (aS (jA rfl zg zg (Rl r lT v)) ⟨_,rfl,zR _ _,qU [6] (R:=KlV vZ (dw (eX,eX) dI dI)) g zS (fun d hd=>(q.iQ d qee).2.2) ⟨r,rfl,L⟩⟩)
   .have g':(aI.mem m [6] (KlV vZ (dw (eX,eX) dI dI))).holds (a.tmps.getD 15 undef) g v:=q.d 8 rfl;cases ho;obtain⟨r,A,L⟩:KlV vZ _ _ _:=g';have y':=(zY (xs:=a.tmps) (i:=15) (d:=undef)).symm.trans A;refine aM rfl rfl (uG Gs qB ME rfl zo (.tmp 15) rfl (cs:=(r::dw (eX,eX) dI dI).toArray) zg (by simp[lT]) ⟨_,rfl,bY (zR _ _) _,lh (ds:=[6]) Cf.le s.az zS (fun d hd=>(q.iQ d qee).2.2) qhZ (O.o _ v (dzd s.az g [6]) r L)⟩)
  .intro g a v E;have V:(aI.mem m [4] (AL (n+1) (opC p d).1)).holds (a.tmps.getD 11 undef) g v:=E.fact 4 _ zo rfl;have U:(aI.mem m [9,6] (Cf (n+1) (opC p d).2)).holds (a.tmps.getD 16 undef) g v:=E.fact 9 _ zo rfl;have e6:=E.keep 6 zk;have N:=(X.o.dr.aT E.aF).az;have C:=AL.le (cz7 (es:=[4,9,6]) N g zS) (show AL _ _ _ _ from V);have B:=Cf.le (cz7 (es:=[4,9,6]) N g zS) (show Cf _ _ _ _ from U);obtain⟨J,I,A,-⟩:=id C;obtain⟨H,G,K,-⟩:=id B;rw[A]at C;rw[K]at B;have l:=X.o.dr.region E.aF g [4,9,6] (fun d hd=>(E.iQ d qd8).1);have HE:=zh E;generalize m.fJ v g [4,9,6]=a' at*
   have HK:=zh (zi C B);have B':=(zY (xs:=a.tmps) (i:=11) (d:=undef)).symm.trans A;have x':=(zY (xs:=a.tmps) (i:=16) (d:=undef)).symm.trans K;clear E C B N V U;have b1:=l.obj.frozen 0;have L':=l.obj.frozen 1;have b2:=l.obj.c 0;have K':=l.obj.c 1;have b3:=l.obj.lt;have v':=(l.set 0 (.slice J 1 I)).set 1 (.slice H 1 G);have r':a.tmps.size=18:=HE.o.size;refine eQ 10 zk (aM rfl rfl (aS (jA rfl (show a.eval (.tmp 11)=_ from A) (show a.eval (.tmp 16)=_ from K) (az5 J H 1 1 I G v)) ?_));obtain⟨t,dd⟩:=a;obtain rfl:dd=[]:=HE.o.defers;simp only[Act.put]at*
   have g6:(t.setIfInBounds 17 (Value.agg #[.slice J 1 I,.slice H 1 G])).getD 6 undef=.p (w.heap.size+1):=by
    rw[zY,Array.getElem?_setIfInBounds_ne zo,<-zY];exact e6
   have f':(t.setIfInBounds 17 (Value.agg #[.slice J 1 I,.slice H 1 G])).getD 17 undef=Value.agg #[.slice J 1 I,.slice H 1 G]:=by
    rw[zY,Array.getElem?_setIfInBounds_self_of_lt zo];rfl
   refine eQ 11 zk (aM rfl rfl (kF Cs (.tmp 6) (.tmp 17) rfl (cs:=#[.slice J 1 I,.slice H 1 G]) g6 f' rfl rfl qdN l.obj fun w5 Z d'=>?_));have e':=(l.aQ Z d').sub (.cons_cons _ (List.nil_sublist _));refine dB zk (hY.o _ _ (by simpa using HE.o.size) ⟨a',.slice J 1 I,.slice H 1 G,?_,e',HK.o⟩) _;simp only[yL,xB];exact congrArg (fun z=>[z]) g6
 clear X Q O;rintro z1 vs w2-⟨W,u,S,rfl,F,A,K⟩;simp[bz,lk];obtain⟨J,I,rfl,-⟩:=id A;obtain⟨H,G,rfl,-⟩:=id K;have T:=Cs.load (P:=prog) rfl F.obj.all;have HF:=zh (zi F.aF (zi (A.le F.done) (K.le F.done)));clear F A K;go_wp2;refine yV (jq results29 rfl T) rfl ?_;exact hR.o _ _ ⟨_,_,rfl,HF.o.1,HF.o.2.1,HF.o.2.2⟩
end Cl
namespace Cl
def Az(e:El):Prop:=∃u,e=.num u/\cO u/\u%10000=0
theorem Wv:oK Az (XE):=by
 have c:XE=⟨false,false,false,Gh.i,Gh.rf,[]⟩:=rfl;rw[c];refine qO qhK qhK qhK Wh (fun u=>?_) iy (fun w=>by simp[dG iy,gK,Az]);rw[RP];constructor
 .rintro⟨b,a⟩;exact⟨u,rfl,b,a⟩
 .rintro⟨v,h,b,a⟩;cases h;exact⟨b,a⟩
abbrev gW(s:RS):Vl:=.mk false s [] []
theorem FZ{s:RS}(a:s.iB){e:El}(b:s.has e):iP (gW s)=false:=ZN a b 0
theorem VJ{n:Nat}{c:Lc}(e:lC (bR (n+1)) (df (n+1)) c=some (c,true)):bR (n+2) (lI c)=some (lI c):=by
 have d:mh (uF (df (n+1))) [c]=[c]:=La zS fun x a y b _=>by rw[zZ.1 a,zZ.1 b]
 have f:jC (n+1) (lI c) [c] []=lI c:=by
  unfold jC;rw[d]
  rfl
 have ev:¬J8 (lI c):=by
  rintro⟨x,y,_,h,_⟩;simp[lI,Vl.ay]at h
 rw[bR,zJ (by simp[lI,Vl.any])];show(eZ (lC (bR (n+1)) (df (n+1))) [c]).bind _=_;rw[NH (g:=fun x=>(x,true)) (l:=[c]) fun x a=>by rw[zZ.1 a];exact e];show some (if tf (J8 (jC (n+1) (lI c) [c] []))=true then eX else jC (n+1) (lI c) [c] [])=some (lI c);rw[f,zJ qeB]
theorem VI{n:Nat}{c:Lc}(b:c.2.length<=1)(hk:∀d∈aX c,ib n d.1/\ib n d.2):ib (n+1) (lI c):=
 ⟨⟨fun h=>by simp[lI,Vl.any]at h,fun x a=>by simp only[lI,Vl.aJ,zZ]at a;rw[a];exact b,fun x a=>by simp[lI,Vl.ay]at a,gD⟩,fun d e=>hk d (by simpa [lI,Vl.kids,Vl.aJ,Vl.ay]using e)⟩
theorem Z9{n:Nat}{c d:Lc}:df (n+1) (lI c) (lI d)↔lI c=lI d\/uF (df n) c d:=by
 rw[df,zJ (by simp[lI,Vl.any])];constructor
 .rintro(h|h)
  .exact .inl h
  .obtain⟨y,f,b⟩:=h.2.1 c (by simp[lI,Vl.aJ]);simp only[lI,Vl.aJ,zZ]at f;rw[f]at b;exact .inr b
 .rintro(h|h)
  .exact .inl h
  .exact .inr ⟨fun e h=>h,fun x a=>⟨d,by simp[lI,Vl.aJ],by simp only[lI,Vl.aJ,zZ]at a;rw[a];exact h⟩,fun x a=>by simp[lI,Vl.ay]at a⟩
def YM(s:RS):Vl:=lI ([(gW s,gW s)],[])
def YL(s:RS):Vl:=lI ([],[(gW s,gW s)])
def DF(p:Int)(s:RS):Vl:=Cg p (gW s,gW s)
structure ExF (s1 s4 N:RS):Prop where
 b1:bK (gW s4,dn)/\bK (gW s1,dn)/\df 16 (gW s4) (gW s1)
 b2:¬(bK (gW s1,dn)/\bK (gW s4,dn)/\df 16 (gW s1) (gW s4))
 b3:bK (gW N,dn)/\bK (gW N,gW N)/\Xw (gW N,dn) (gW N,gW N)
 b4:¬(bK (gW N,gW N)/\bK (gW N,dn)/\Xw (gW N,gW N) (gW N,dn))
 b5:bK (YM s4,dn)/\bK (YL s1,dn)/\df 16 (YM s4) (YL s1)
 b6:¬(bK (YL s1,dn)/\bK (YM s4,dn)/\df 16 (YL s1) (YM s4))
 b7:bK (DF 1 s1,dn)
 b8:bK (DF 1 s1,dn)/\bK (DF 2 s1,dn)/\df 16 (DF 1 s1) (DF 2 s1)
 b9:¬(bK (DF 2 s1,dn)/\bK (DF 1 s1,dn)/\df 16 (DF 2 s1) (DF 1 s1))
 b10:bK (DF 2 s1,dn)/\bK (eX,dn)/\df 16 (DF 2 s1) eX
theorem ezD{a b N:RS}(h1:oK Az a)(c:oK (fun e=>Az e/\RI e/\VL e) b)(g:oK RI N):ExF a b N:=by
 have B:b.has (.num 10000):=(c.mem _).2 ⟨⟨10000,rfl,by decide,by decide⟩,⟨10000,rfl,by decide,by decide⟩,10000,rfl,by decide,by decide⟩;have m:a.has (.num 0):=(h1.mem _).2 ⟨0,rfl,by decide,by decide⟩;have A:¬b.has (.num 0):=fun h=>by obtain⟨_,_,u,e,_,h⟩:=(c.mem _).1 h;cases e;exact absurd h zD
 have z:N.has (.num 0):=(g.mem _).2 ⟨0,rfl,by decide,by decide⟩;have sub:∀e,b.has e->a.has e:=fun e h=>(h1.mem e).2 ((c.mem e).1 h).1;have y:bK (gW a,dn):=mP (iZ h1.valid 15) (mE 15 a);have w:bK (gW b,dn):=mP (iZ c.valid 15) (mE 15 b);have q:bK (gW N,dn):=mP (iZ g.valid 15) (mE 15 N);have k:bK (gW N,gW N):=EQ (iZ g.valid 15) (mE 15 N);have F:∀n,fO (bR (n+1)) (df (n+1)) (gW a,gW a)=some (gW a,gW a):=fun n=>uw (mE n a) (mE n a) (jR (iZ h1.valid n).ht);have E:∀n,fO (bR (n+1)) (df (n+1)) (gW b,gW b)=some (gW b,gW b):=fun n=>uw (mE n b) (mE n b) (jR (iZ c.valid n).ht);have t:bK (YM b,dn):=mP (VI (n:=15) zS fun d f=>by simp[aX]at f;rw[f];exact⟨iZ c.valid 14,iZ c.valid 14⟩) (VJ (n:=14) (by
  unfold lC;rw[ug (l:=[(gW b,gW b)]) (fun x o=>by rw[zZ.1 o];exact E 14)];show some (([(gW b,gW b)],[]),[(gW b,gW b)].all fun d => !iP d.1)=_;simp[FZ c.valid B]))
 have s:bK (YL a,dn):=mP (VI (n:=15) zS fun d f=>by simp[aX]at f;rw[f];exact⟨iZ h1.valid 14,iZ h1.valid 14⟩) (VJ (n:=14) (by
  unfold lC;show((eZ (fO (bR 15) (df 15)) [(gW a,gW a)]).map fun r=>(([],r.filter fun d => !iP d.1),true))=_;rw[ug (l:=[(gW a,gW a)]) (fun x o=>by rw[zZ.1 o];exact F 14)];show some (([],[(gW a,gW a)].filter fun d => !iP d.1),true)=_;simp[FZ h1.valid m]))
 have j:∀p,p=1\/p=2->bK (DF p a,dn):=fun p C=>mP (bz1 (n:=14) C qh8 qh8) (bz2 (n:=14) (mE 14 a) (mE 14 a) (jR (iZ h1.valid 14).ht) (FZ h1.valid m));refine⟨⟨w,y,(FY 15).2 sub⟩,fun h=>A ((FY 15).1 h.2.2 _ m),⟨q,k,jR q.ht.1,bzb 15 _⟩,fun h=>?_,⟨t,s,?_⟩,fun h=>?_,j 1 (.inl rfl),⟨j 1 (.inl rfl),j 2 (.inr rfl),?_⟩,fun h=>?_,j 2 (.inr rfl),WA.fzt,NP 15 _⟩
 .have:=(ezw (n:=15) (v:=gW N) g.valid).1 h.2.2.2;rw[FZ g.valid z]at this;cases this
 .refine(Z9 (n:=15)).2 (.inr ⟨zG _,fun h=>by simp at h,fun i hi=>?_,fun D=>absurd D zS⟩);obtain rfl:i=0:=by simpa using hi
  exact⟨(FY 14).2 sub,(FY 14).2 sub⟩
 .rcases(Z9 (n:=15)).1 h.2.2 with h|h
  .simp[lI]at h
  .exact absurd h.len zS
 .exact(ZG (n:=14)).2 (.inr ⟨by decide,jR (iZ h1.valid 14).ht,jR (iZ h1.valid 14).ht⟩)
 .rcases(ZG (n:=14)).1 h.2.2 with h|h
  .simp[Cg,opC]at h
  .exact absurd h.1 zD
end Cl
namespace Cl
open Go Go.RowKit Go.Proofs Tryz
theorem azB(a0 e d c b a x y z:zV)(w:zW):(Instr.field 33 (.agg #[x,a0,e,d,c,b,a,y,z]) 1).run prog w=.ok (.agg #[a0,e,d,c,b,a]) w:=by kernel_rfl
theorem qN{M:Mem}{b c a:zV}{s:RS}{n:Nat}(h:gJ M b c a s):aY M (n+1) ⟨b,c,a,.n,.n⟩ (gW s):=⟨h,fq _ _,fq _ _⟩
def YO(p:El->Prop)(M:Mem)(v:zV):Prop:=∃(s:RS) (a:Option Addr) (b:Nat) (c:Option Addr) (d:Nat) (e:Option Addr) (f:Nat),v=.agg #[.bool false,.bool s.dL,.bool s.dS,.bool s.dW,.slice a s.i.length b,.slice c s.f.length d,.slice e s.t.length f,.slice none 0 0,.slice none 0 0]/\UX p M s (.slice a s.i.length b) (.slice c s.f.length d) (.slice e s.t.length f)
theorem YO.le{p:El->Prop}{m M:Mem}(h:m.le M){v:zV}(k:YO p m v):YO p M v:=by
 obtain⟨s,a,b,c,d,e,f,i,g⟩:=k;exact⟨s,a,b,c,d,e,f,i,g.up h⟩
theorem ZM{p:El->Prop}{M:Mem}{s:RS}{i j g:zV}(h:UX p M s i j g):YO p M ((Vl.mk false s [] []).val ⟨i,j,g,.n,.n⟩):=by
 obtain⟨a,b,c,d,e,f,rfl,rfl,rfl⟩:=h.at'.dm;exact⟨s,a,b,c,d,e,f,rfl,h⟩
theorem ScRX.le{p:El->Prop}{n t:Nat}{m m':Mem}(h:m.le m'){v:zV}(k:uz p n t m v):uz p n t m' v:=by
 obtain⟨s,b,a⟩:=k;exact⟨s,b.le h,a⟩
theorem UX.good{p:El->Prop}{s:RS}(h:oK p s)(e:El):(iV s).has e↔p e:=by rw[mG h.valid];exact h.mem e
def SY:NS:=⟨[(1,1)],[]⟩
theorem ezq:fH SY:=by
 have:=kH [(1,1)] []
 rwa [show gz [(1,1)] []=SY from rfl]at this
theorem Zw{s:RS}(h:oK (fun e=>Az e/\RI e/\VL e) s):jW s 8 8:=by
 have e:s=⟨false,false,false,SY.i,SY.rf,[]⟩:=h.unique (qO qhK qhK qhK ezq (fun u=>by
  constructor
  .rintro(⟨g,b⟩|⟨g,b⟩)
   .obtain⟨d,a,c,f⟩:=b;simp only[SY,zZ]at a;subst a;have:u=10000:=by simp only at c f;omega
    subst this;exact⟨⟨10000,rfl,by decide,by decide⟩,⟨10000,rfl,by decide,by decide⟩,10000,rfl,by decide,by decide⟩
   .obtain⟨d,a,_⟩:=b;simp[SY]at a
  .rintro⟨_,⟨v,k,_,b⟩,w,j,_,c⟩;cases k;cases j;have:u=10000:=zo;subst this;exact .inl ⟨by decide,(1,1),by simp[SY],by decide,by decide⟩) iy (fun w=>by simp[dG iy,gK,Az]))
 rw[e];exact⟨by decide,by decide,by decide⟩
theorem oz{s:RS}(h:jW s 8 8):Mv 1 (gW s):=
 ⟨⟨⟨h.i,h.f,h.t,zG _,zG _,fun c b=>by simp[Vl.ay]at b⟩,fun x a=>by simp[Vl.kids,Vl.aJ,Vl.ay]at a⟩,by simp[di,Vl.kids,Vl.aJ,Vl.ay]⟩
theorem ZR{c:Lc}(hk:∀d∈aX c,Wd 1 d)(f:(aX c).length<=1):Mv 2 (lI c):=by
 refine⟨⟨⟨zG _,zG _,zG _,by simp[lI,Vl.aJ],zG _,fun x b=>by simp[lI,Vl.ay]at b⟩,fun d a=>by rw[Iq]at a;exact⟨(hk d a).1.src,(hk d a).2.src⟩⟩,?_⟩;rw[VT]
 match h:aX c,f with
 |[],_=>simp[dK]
 |[d],_=>
  have z:∀l:List Vd,(l.map fun x=>di 0 x.1+di 0 x.2).sum=0:=fun l=>by
   induction l with
   |nil=>rfl
   |cons x l ih=>rw[yL,vG,ih];rfl
  have e:∀v,di 1 v<=1:=fun v=>by show 1+_<=1;rw[z];exact zI 1
  have:=e d.1;have:=e d.2;rw[cK,mr];unfold cv;omega
theorem Co(v:Vl):di 1 v<=1:=by
 have z:∀l:List Vd,(l.map fun x=>di 0 x.1+di 0 x.2).sum=0:=fun l=>by
  induction l with
  |nil=>rfl
  |cons x l ih=>rw[yL,vG,ih];rfl
 show 1+_<=1;rw[z];exact zI 1
theorem NC:Mv 1 eX:=⟨⟨⟨zG _,zG _,zG _,zG _,zG _,fun c h=>by simp[eX,Vl.ay]at h⟩,fun x a=>by simp[eX,Vl.kids,Vl.aJ,Vl.ay]at a⟩,yJ (Co _) zD⟩
theorem ZQ{p:Int}{d:Vd}(h:Wd 1 d):Mv 2 (Cg p d):=by
 refine⟨⟨⟨zG _,zG _,zG _,zG _,by simp[Cg,Vl.ay],fun c i=>?_⟩,fun x e=>?_⟩,?_⟩
 .simp only[Cg,Vl.ay,zZ]at i;subst i;exact⟨by simp[opC],by simp[opC],fun f g=>by simp only[opC,zZ]at g;subst g;exact(by decide:FM.size<=60),fun k hk=>by simp only[opC,zZ]at hk;subst hk;exact(by decide:vZ.length<=8)⟩
 .rw[PP]at e;simp only[yA,List.not_mem_nil,or_false]at e;rcases e with rfl|rfl
  .exact⟨h.1.src,h.2.src⟩
  .exact⟨NC.src,NC.src⟩
 .have:=VR 1 (opC p d);rw[ZH,cK,cK,mr]at this;show di 2 (uP (opC p d))<=_;rw[this];have a:=Co d.1;have b:=Co d.2;have c:=Co eX;unfold cv;exact qdu
theorem oJ{P:Program}{f:FuncId}{args:Array Value}{w:zW}{p:Prop}(h:p)(k:Calls P f args w fun e w'=>e=.returned (.bool (tf p))/\zB w w'):Calls P f args w fun e w'=>e=.returned (.bool true)/\zB w w':=by rw[aN h]at k;exact k
theorem su{P:Program}{f:FuncId}{args:Array Value}{w:zW}{p:Prop}(h:¬p)(k:Calls P f args w fun e w'=>e=.returned (.bool (tf p))/\zB w w'):Calls P f args w fun e w'=>e=.returned (.bool false)/\zB w w':=by rw[aG h]at k;exact k
theorem Own.EX{w0 w:zW}{m mk:Mem}{L:List bA}{g:Nat}{t:TypeId}{arr:Array Value}(h:Own w0 m w mk (.obj g t arr::L)):∃M,Own w0 m w M L/\mk.le M/\∀i v,arr[i]?=some v->M.cell g i=some v:=⟨_,h.iC,dz9 h.j6,fun _ _ hi=>bzy h.obj hi⟩
theorem ez3{M:Mem}{n g:Nat}{d:Vd}{x y:Sl}(e:∀j u,(dw d x y)[j]?=some u->M.cell g j=some u)(b:aY M n x d.1)(a:aY M n y d.2):bD (aY M n) M (.slice (some ⟨g,0,none⟩) 1 1) [d]:=
 ⟨_,1,rfl,zI _,by simp[maxLen],fun _=>⟨g,0,rfl,fun i hi=>by
  obtain rfl:i=0:=by simpa using hi
  exact .of (fun j u c=>by simpa using e j u c) b a⟩⟩
theorem az7(a:Option Addr)(n c:Nat)(w:zW):(Instr.build 50 #[(0,.slice a n c)]).run prog w=.ok (.agg #[.slice a n c,.slice none 0 0]) w:=by kernel_rfl
theorem az6(a:Option Addr)(n c:Nat)(w:zW):(Instr.build 50 #[(1,.slice a n c)]).run prog w=.ok (.agg #[.slice none 0 0,.slice a n c]) w:=by kernel_rfl
theorem az4(a:Option Addr)(n c:Nat)(w:zW):(Instr.build 33 #[(2,.slice a n c)]).run prog w=.ok (.agg #[.bool false,.bool false,.bool false,.bool false,.slice none 0 0,.slice none 0 0,.slice none 0 0,.slice a n c,.slice none 0 0]) w:=by kernel_rfl
theorem Rj(a:Option Addr)(n c:Nat)(w:zW):(Instr.build 33 #[(3,.slice a n c)]).run prog w=.ok (.agg #[.bool false,.bool false,.bool false,.bool false,.slice none 0 0,.slice none 0 0,.slice none 0 0,.slice none 0 0,.slice a n c]) w:=by kernel_rfl
theorem QZ{a b c d h g f e:zV}(l:a=h)(k:b=g)(j:c=f)(i:d=e):[a,b,c,d]=[h,g,f,e]:=by rw[l,k,j,i]
theorem QI(m:Mem)(w:zW)(hm:m.az w)(htab:eD m):
 zX 9 #[] w (.bool true):=by
 have hTY:=dzX m w hm;have hI:=Wv;have hIl:jW (XE) 8 8:=⟨by decide,by decide,by decide⟩;generalize XE=l at*
 have HTY:=zh hTY;have HI:=zh (zi hI hIl);have HO:=zh (Own.start hm);have HN:=zh (fun(M:Mem) w' (h:M.az w') (F:m.le M)=>dzG (.inl rfl) fzY M w' h);have hbl:=fun a0 a1 a2 a3 a4 a5 w=>Js a0 a1 a2 a3 a4 a5 w;have hfl:=fun a0 a1 a2 a3 a4 a5 x y z w=>azB a0 a1 a2 a3 a4 a5 x y z w;have HT:=zh htab;clear hTY hI hIl htab;refine au fun R hR=>?_
 go_enter func9,ntmps9
 go_wp2_with fail
 refine HTY.o.mono ?_;rintro e w1 ⟨si,sf,st,rfl,hb1,G'⟩;obtain⟨M1,I',hle1,G'⟩:=dzS (P:=fun M=>gJ M si sf st l) HO.o hb1 G';obtain⟨za,zb,zc,zd,ze,Z,rfl,rfl,rfl⟩:=G'.dm;simp only[RS.val];have HO1:=zh (I'.al #[.bool l.dL,.bool l.dS,.bool l.dW,.slice za l.i.length zb,.slice zc l.f.length zd,.slice ze l.t.length Z] 29);have HA:=zh (zi hle1 (show UX Az M1 l _ _ _ from⟨G',HI.o.1,HI.o.2⟩));clear HO HTY HI hb1 I' hle1 G'
 go_wp2_with fail
 refine(HN.o M1 _ HO1.o.az HA.o.1).mono ?_;rintro e w2 ⟨q,ui,uf,ut,rfl,hb2,y'⟩;obtain⟨B,H',hle2,y'⟩:=dzS (P:=fun M=>UX RI M q ui uf ut) HO1.o hb2 y';obtain⟨ya,yb,yc,yd,ye,yf,rfl,rfl,rfl⟩:=y'.at'.dm;simp only[Vl.val,aZ,Vl.any,Vl.s];have A':=zh (zi hle2 y');have HPL:=zh (fun w' (h:B.az w')=>uM (gW q) ⟨_,_,_,.n,.n⟩ B 1 w' h (qN y'.at'));have HO2:=zh H';clear HO1 hb2 H' hle2 y'
 go_wp2_with fail
 refine(HPL.o _ HO2.o.az).mono ?_;rintro e w3 ⟨rfl,hb3⟩;have HO3:=zh ((HO2.o.aT hb3).al lZ 35);have HV:=zh (show aY B 1 ⟨.slice ya q.i.length yb,.slice yc q.f.length yd,.slice ye q.t.length yf,.n,.n⟩ (gW q) from qN A'.o.2.at');have hl:(dw (gW q,gW q) ⟨.slice ya q.i.length yb,.slice yc q.f.length yd,.slice ye q.t.length yf,.n,.n⟩ ⟨.slice ya q.i.length yb,.slice yc q.f.length yd,.slice ye q.t.length yf,.n,.n⟩).length=18:=rfl;have ho:=fG (d:=(gW q,gW q)) HV.o HV.o;have HDD:=zh (fun j u=>@ku (gW q,gW q) ⟨.slice ya q.i.length yb,.slice yc q.f.length yd,.slice ye q.t.length yf,.n,.n⟩ ⟨.slice ya q.i.length yb,.slice yc q.f.length yd,.slice ye q.t.length yf,.n,.n⟩ j u);unfold bQ;generalize hD:dw (gW q,gW q) _ _=D at*
 have HD:=zh hD;clear HO2 HPL hb3 hD
 go_upto_region 3 with(first
  | (refine aA ek rfl (.tmp 3) (.tmp 17) rfl (cs:=D.toArray) rfl rfl rfl qdR (fun u hu=>ho u qdL) HO3.o.obj ?_;intro w4 ob4 hg4;have h':=zh (HO3.o.aQ ob4 hg4);clear HO3 ob4 hg4))
 refine aW [1,2,3,4] (fun vs w'=>∃(O:Mem) (g:Nat) (p:RS) (xa:Option Addr) (xb:Nat) (xc:Option Addr) (xd:Nat) (xe:Option Addr) (xf:Nat),vs=[.p w1.heap.size,.j 0,.p w3.heap.size,.p g]/\B.le O/\UX (fun e=>Az e/\RI e/\VL e) O p (.slice xa p.i.length xb) (.slice xc p.f.length xd) (.slice xe p.t.length xf) /\
  Own w m w' O [.obj g 29 #[.bool p.dL,.bool p.dS,.bool p.dW,.slice xa p.i.length xb,.slice xc p.f.length xd,.slice xe p.t.length xf],.obj w3.heap.size 35 D.toArray,.obj w1.heap.size 29 #[.bool l.dL,.bool l.dS,.bool l.dW,.slice za l.i.length zb,.slice zc l.f.length zd,.slice ze l.t.length Z]]) ?_ ?_
 .intro Y hY;have HA1:=zh (HA.o.2.up A'.o.1);have HTM:=zh (HT.o.le (Mem.le_trans HA.o.1 A'.o.1));refine bE 8 8 (fun j=>[aI.is (·=.agg #[.bool l.dL,.bool l.dS,.bool l.dW,.slice za l.i.length zb,.slice zc l.f.length zd,.slice ze l.t.length Z]),aI.mem B [1] (YO RI),aI.mem B [1] (uz RI 8 8),aI.mem B [3] (YO VL),aI.mem B [3] (uz VL 8 8),aI.mem B [5,1,3] (uz (fun e=>RI e/\VL e) 20 101),aI.mem B [6,5,1,3] (uz (fun e=>Az e/\RI e/\VL e) 32 1031),aI.obj 7 29 #[.bool false,.bool false,.bool false,.slice none 0 0,.slice none 0 0,.slice none 0 0]].getD j aI.any) zk zk ?_ ?_
  .intro i hi o win a wr ho RA;have HO5:=h'.o.dr.aT RA.aF;rcases(show i=0\/i=1\/i=2\/i=3\/i=4\/i=5\/i=6\/i=7 by omega)with rfl|rfl|rfl|rfl|rfl|rfl|rfl|rfl
   .have e1:=RA.k 1;cases ho;refine aM rfl rfl (aS (rO.exec (b:=w1.heap.size) (off:=0) (cs:=[.bool l.dL,.bool l.dS,.bool l.dW,.slice za l.i.length zb,.slice zc l.f.length zd,.slice ze l.t.length Z]) rfl zg rfl HO5.av.obj.all) ⟨_,rfl,zR _ _,rfl⟩)
   .cases ho;refine we rfl rfl (dzG (.inl rfl) fzY B wr HO5.az) ?_;exact qhc
   .have e19:(aI.mem B [1] (YO RI)).holds (a.tmps.getD 19 undef) win wr:=RA.d 1 rfl;cases ho;obtain⟨s,a1,b1,c1,d1,e1,f1,k1,h⟩:YO _ _ _:=e19;have f19:=(zY (xs:=a.tmps) (i:=19) (d:=undef)).symm.trans k1;exact aM rfl rfl (aS zg ⟨_,rfl,zR _ _,qU [1] (R:=uz RI 8 8) win zS (fun d hd=>(RA.iQ d qee).2.2) ⟨s,⟨_,_,_,_,_,_,rfl,h.at'⟩,h.is,h.le⟩⟩)
   .cases ho;refine we rfl rfl (dzG (.inr rfl) fz3 B wr HO5.az) ?_;exact qhc
   .have e21:(aI.mem B [3] (YO VL)).holds (a.tmps.getD 21 undef) win wr:=RA.d 3 rfl;cases ho;obtain⟨s,a1,b1,c1,d1,e1,f1,k1,h⟩:YO _ _ _:=e21;have f21:=(zY (xs:=a.tmps) (i:=21) (d:=undef)).symm.trans k1;exact aM rfl rfl (aS zg ⟨_,rfl,zR _ _,qU [3] (R:=uz VL 8 8) win zS (fun d hd=>(RA.iQ d qee).2.2) ⟨s,⟨_,_,_,_,_,_,rfl,h.at'⟩,h.is,h.le⟩⟩)
   .have e20:(aI.mem B [1] (uz RI 8 8)).holds (a.tmps.getD 20 undef) win wr:=RA.d 2 rfl;have e22:(aI.mem B [3] (uz VL 8 8)).holds (a.tmps.getD 22 undef) win wr:=RA.d 4 rfl;cases ho;obtain⟨sA,⟨a1,b1,c1,d1,x1,y1,k1,t1⟩,S1,L1⟩:uz _ _ _ _ _:=e20;obtain⟨sB,⟨a2,b2,c2,d2,x2,y2,k2,t2⟩,S2,L2⟩:uz _ _ _ _ _:=e22;have f20:=(zY (xs:=a.tmps) (i:=20) (d:=undef)).symm.trans k1;have f22:=(zY (xs:=a.tmps) (i:=22) (d:=undef)).symm.trans k2;refine we rfl rfl (KP _ _ _ sA _ _ _ sB 8 8 8 8 (B.fJ wr win [1,3]) wr (dzd HO5.az win [1,3]) (HTM.o.le (dzF HO5.az win [1,3])) (t1.le (cz7 (es:=[1,3]) HO5.az win zS)) (t2.le (cz7 (es:=[1,3]) HO5.az win zS)) L1 L2 zo zo zo) ?_;rintro e w' ⟨s,si,sf,st,rfl,hb,hn,hS,hL⟩;exact⟨_,rfl,_,rfl,hb,lh (ds:=[1,3]) ScRX.le HO5.az zS (fun d hd=>(RA.iQ d qd6).2.2) hb ⟨s,Na hn,hS.congr fun e=>and_congr (UX.good S1 e) (UX.good S2 e),hL⟩⟩
   .have e18:zt a 18 _:=RA.d 0 rfl;have e23:(aI.mem B [5,1,3] (uz (fun e=>RI e/\VL e) 20 101)).holds (a.tmps.getD 23 undef) win wr:=RA.d 5 rfl;cases ho;obtain⟨sB,⟨a2,b2,c2,d2,x2,y2,k2,t2⟩,S2,L2⟩:uz _ _ _ _ _:=e23;have f23:=(zY (xs:=a.tmps) (i:=23) (d:=undef)).symm.trans k2;refine we rfl rfl (KP _ _ _ l _ _ _ sB 8 8 20 101 (B.fJ wr win [5,1,3]) wr (dzd HO5.az win [5,1,3]) (HTM.o.le (dzF HO5.az win [5,1,3])) (HA1.o.at'.le (dzF HO5.az win [5,1,3])) t2 HA1.o.le L2 zo zo zo) ?_;rintro e w' ⟨s,si,sf,st,rfl,hb,hn,hS,hL⟩;exact⟨_,rfl,_,rfl,hb,lh (ds:=[5,1,3]) ScRX.le HO5.az zS (fun d hd=>(RA.iQ d (by simp at hd;rcases hd with rfl|rfl|rfl<;>kernel_rfl)).2.2) hb ⟨s,Na hn,hS.congr fun e=>and_congr (UX.good HA1.o.is e) (UX.good S2 e),hL⟩⟩
   .exact qgU
  .intro win a wr E;have e1:=E.keep 1 zk;have e2:=E.keep 2 zk;have e3:=E.keep 3 zk;have e4:(aI.obj 7 29 #[.bool false,.bool false,.bool false,.slice none 0 0,.slice none 0 0,.slice none 0 0]).holds (a.tmps.getD 4 undef) win wr:=E.fact 7 _ zo rfl;have e24:(aI.mem B [6,5,1,3] (uz (fun e=>Az e/\RI e/\VL e) 32 1031)).holds (a.tmps.getD 24 undef) win wr:=E.fact 6 _ zo rfl;obtain⟨p,⟨xa,xb,xc,xd,xe,xf,k4,t4⟩,S4,L4⟩:uz _ _ _ _ _:=e24;obtain⟨p7,n7,o7⟩:_/\_/\_:=e4;have g7:=E.iQ 7 zo;have I':=h'.o.dr.region E.aF win [6,5,1,3] (fun d hd=>(E.iQ d qd8).1);have hin:=(h'.o.dr.aT E.aF).az;have no:B.fJ wr win [6,5,1,3] (win 7).1=none:=ezV (eza h'.o.dr.az g7.1) fun d hd=>by
    have hd':d=6\/d=5\/d=1\/d=3:=by simpa using hd
    have:=E.apart 7 d zo zo zo;omega
   have hL7:=h'.o.dr.Oy g7.1;have hge:=h'.o.dr.aF.size;have H':=I'.newObj o7 zo no hL7;have F:=dzF hin win [6,5,1,3];have HK:=zh (show UX _ _ p _ _ _ from⟨t4,S4,Zw S4⟩);have HE:=zh E;generalize B.fJ wr win [6,5,1,3]=mq at*
   generalize (win 7).1=r7 at*
   clear E S4 L4 t4 n7 o7 no hL7 hge I' hin g7;refine eQ 8 zk (aM rfl rfl (kF rO (.tmp 4) (.tmp 24) rfl (cs:=#[.bool p.dL,.bool p.dS,.bool p.dW,.slice xa p.i.length xb,.slice xc p.f.length xd,.slice xe p.t.length xf]) p7 k4 rfl rfl qdN H'.obj fun w5 ob5 hg5=>?_));have hO3:=H'.aQ ob5 hg5;obtain⟨t,dd⟩:=a;obtain rfl:dd=[]:=HE.o.defers;refine dB zk (hY.o _ _ (by simpa using HE.o.size) ⟨mq,r7,p,xa,xb,xc,xd,xe,xf,?_,F,HK.o,hO3⟩) _;simp only[yL,xB];exact QZ e1 e2 e3 p7
 clear h' HN;rintro z1 vs w5-⟨O,g,p,xa,xb,xc,xd,xe,xf,rfl,F,h4,hO⟩;simp[bz,lk];have HM:=zh (zi (HA.o.2.up (Mem.le_trans A'.o.1 F)) (zi h4 (zi (A'.o.2.up F) (HT.o.le (Mem.le_trans HA.o.1 (Mem.le_trans A'.o.1 F))))));have HF:=zh (ezD HM.o.1.is HM.o.2.1.is HM.o.2.2.1.is);have HB1:=zh (fun w' (h:O.az w')=>oJ HF.o.b1 (kY (gW p) (gW l) _ _ O w' h HM.o.2.2.2 qic (oz HM.o.2.1.le) qhX (oz HM.o.1.le)));have HB2:=zh (fun w' (h:O.az w')=>su HF.o.b2 (kY (gW l) (gW p) _ _ O w' h HM.o.2.2.2 qhX (oz HM.o.1.le) qic (oz HM.o.2.1.le)));simp only[Vl.val,aZ,Vl.any,Vl.s]at HB1 HB2;have HO:=zh hO;have r4:=hO.obj.all (cs:=[.bool p.dL,.bool p.dS,.bool p.dW,.slice xa p.i.length xb,.slice xc p.f.length xd,.slice xe p.t.length xf]);have r1:=hO.aR.obj.all (cs:=[.bool l.dL,.bool l.dS,.bool l.dW,.slice za l.i.length zb,.slice zc l.f.length zd,.slice ze l.t.length Z]);clear hO F h4
 go_wp2_with (first
  |refine aj rO rfl (.tmp 4) rfl rfl [.bool p.dL,.bool p.dS,.bool p.dW,.slice xa p.i.length xb,.slice xc p.f.length xd,.slice xe p.t.length xf] rfl r4 ?_
  |refine aj rO rfl (.tmp 1) rfl rfl [.bool l.dL,.bool l.dS,.bool l.dW,.slice za l.i.length zb,.slice zc l.f.length zd,.slice ze l.t.length Z] rfl r1 ?_
  | fail)
 refine(HB1.o _ HO.o.az).mono ?_;rintro e w6 ⟨rfl,hb6⟩;have Q':=zh (HO.o.aT hb6);clear HO HB1 hb6 r4 r1;have r4:=Q'.o.obj.all (cs:=[.bool p.dL,.bool p.dS,.bool p.dW,.slice xa p.i.length xb,.slice xc p.f.length xd,.slice xe p.t.length xf]);have r1:=Q'.o.aR.obj.all (cs:=[.bool l.dL,.bool l.dS,.bool l.dW,.slice za l.i.length zb,.slice zc l.f.length zd,.slice ze l.t.length Z])
 go_wp2_with (first
  |refine aj rO rfl (.tmp 4) rfl rfl [.bool p.dL,.bool p.dS,.bool p.dW,.slice xa p.i.length xb,.slice xc p.f.length xd,.slice xe p.t.length xf] rfl r4 ?_
  |refine aj rO rfl (.tmp 1) rfl rfl [.bool l.dL,.bool l.dS,.bool l.dW,.slice za l.i.length zb,.slice zc l.f.length zd,.slice ze l.t.length Z] rfl r1 ?_
  | fail)
 refine(HB2.o _ Q'.o.az).mono ?_;rintro e w7 ⟨rfl,hb7⟩;have HO7:=zh (Q'.o.aT hb7);clear Q' HB2 hb7 r4 r1;have HVK:=zh (HV.o.le (Mem.le_refl B));obtain⟨A,hsl⟩:∃x:Sl,x=⟨.slice ya q.i.length yb,.slice yc q.f.length yd,.slice ye q.t.length yf,.n,.n⟩:=⟨_,rfl⟩;have C:aY O 1 A (gW q):=by rw[hsl];exact qN HM.o.2.2.1.at'
 rw[<-hsl]at HD HDD;clear hsl HVK HV;have mN:=oz HM.o.2.2.1.le;have hN9:(aZ (gW q) A).length=9:=rfl;have hl5:(dw (gW q,dn) A dI).length=18:=rfl;have ho5:=fG (d:=(gW q,dn)) C (ezl (M:=O) (n:=0) (a:=false));have HBG:=zh (fun w=>VZ hN9 w);rw[show aZ (gW q) A++aZ dn dI=dw (gW q,dn) A dI from rfl]at HBG;have HL1:=zh (fun w' (h:O.az w')=>oJ HF.o.b3 (KQ (N:=1) (N':=1) (gW q,dn) (gW q,gW q) A dI A A O w' h HM.o.2.2.2 C ezl ⟨mN,.bot 0⟩ C C ⟨mN,mN⟩));have HL2:=zh (fun w' (h:O.az w')=>su HF.o.b4 (KQ (N:=1) (N':=1) (gW q,gW q) (gW q,dn) A A A dI O w' h HM.o.2.2.2 C C ⟨mN,mN⟩ C ezl ⟨mN,.bot 0⟩));have HM2:=zh (zi C mN);unfold bQ at HL1 HL2;rw[HD.o]at HL1 HL2;have q3:=HO7.o.av.obj.sub (o:=0) (cs:=aZ (gW q) A) (fun j u hj=>by simpa using HDD.o j u hj);generalize aZ (gW q) A=N9 at*
 generalize dw (gW q,dn) A dI=D5 at*
 clear C mN
 go_upto_region 9 with(first
  |refine aj jI rfl (.tmp 42) rfl rfl N9 hN9 q3 ?_
  |refine AQ (.tmp 43) (a0:=.agg N9.toArray) (r:=.agg D5.toArray) rfl rfl rfl (HBG.o _) ?_
  |(refine aA ek rfl (.tmp 5) (.tmp 44) rfl (cs:=D5.toArray) rfl rfl rfl (by simpa using hl5) (fun u hu=>ho5 u qdL) (HO7.o.al lZ 35).obj ?_;intro w8 ob8 hg8;have P':=zh ((HO7.o.al lZ 35).aQ ob8 hg8);have r5:=P'.o.obj.all;have r3:=P'.o.aR.obj.all;clear HO7 ob8 hg8 q3)
  |refine aj ek rfl (.tmp 5) rfl rfl D5 hl5 r5 ?_
  |refine aj ek rfl (.tmp 3) rfl rfl D hl r3 ?_
  |(go_at_call 10;refine(HL1.o _ P'.o.az).mono ?_;rintro e w9 ⟨rfl,hb9⟩;have O':=zh (P'.o.aT hb9);clear P' HL1 hb9 r5 r3;have r5:=O'.o.obj.all;have r3:=O'.o.aR.obj.all)
  | (go_at_call 10;refine(HL2.o _ O'.o.az).mono ?_;rintro e w10 ⟨rfl,hb10⟩;have x':=zh (O'.o.aT hb10);clear O' HL2 hb10 r5 r3))
 have HSA:=zh (fun w' (h:O.az w')=>AU p _ _ _ O w' h HM.o.2.1.at');have HSB:=zh (fun(M:Mem) w' (h:M.az w') (F:O.le M)=>AU l _ _ _ M w' h (HM.o.1.at'.le F));have hl0:=az7;have hl1:=az6;have hv2:=az4;have r4:=x'.o.av.obj.all (cs:=[.bool p.dL,.bool p.dS,.bool p.dW,.slice xa p.i.length xb,.slice xc p.f.length xd,.slice xe p.t.length xf]);unfold bQ at HSA HSB;have l4:(dw (gW p,gW p) ⟨.slice xa p.i.length xb,.slice xc p.f.length xd,.slice xe p.t.length xf,.n,.n⟩ ⟨.slice xa p.i.length xb,.slice xc p.f.length xd,.slice xe p.t.length xf,.n,.n⟩).length=18:=rfl;generalize hD4:dw (gW p,gW p) _ _=D4 at*
 have HD4:=zh hD4;clear hD4 hfl
 go_upto_region 10 with(first
  |refine aj rO rfl (.tmp 4) rfl rfl [.bool p.dL,.bool p.dS,.bool p.dW,.slice xa p.i.length xb,.slice xc p.f.length xd,.slice xe p.t.length xf] rfl r4 ?_
  |(go_at_call 28;refine(HSA.o _ x'.o.az).mono ?_;rintro e D' ⟨rfl,L⟩;have HO11:=zh (x'.o.aT L);clear x' HSA L r4)
  | (refine fU jN ek qh rfl zo rfl (.tmp 55) rfl (cs:=D4.toArray) rfl (by simpa using l4) ?_))
 have h12:=((HO11.o.al D4.toArray 35).al #[.slice (some ⟨D'.heap.size,0,none⟩) 1 1,.slice none 0 0] 50).al (aZ (YM p) (Ej (D'.heap.size+1))).toArray 33;simp only[bB]at h12;obtain⟨MB,h13,v,c1⟩:=h12.aR.EX;obtain⟨MA,hOA,g',c2⟩:=h13.av.EX;have r':=Mem.le_trans v g';have hv4:=(qN (n:=0) HM.o.2.1.at').le r';have z':aY MA 2 (Ej (D'.heap.size+1)) (YM p):=TC (n:=1) (c:=([(gW p,gW p)],[])) (c2 0 _ rfl) (c2 1 _ rfl) (ez3 (d:=(gW p,gW p)) (fun j u hj=>bzv g' (c1 j u (by rw[HD4.o]at hj;simpa using hj))) hv4 hv4) (fq _ _);have HOA:=zh hOA;have HV6:=zh z';have HLA:=zh r';have HSB2:=zh (fun w' (h:MA.az w')=>HSB.o MA w' h r');have r1:=hOA.fifth.obj.all (cs:=[.bool l.dL,.bool l.dS,.bool l.dW,.slice za l.i.length zb,.slice zc l.f.length zd,.slice ze l.t.length Z]);have l6:(dw (gW l,gW l) ⟨.slice za l.i.length zb,.slice zc l.f.length zd,.slice ze l.t.length Z,.n,.n⟩ ⟨.slice za l.i.length zb,.slice zc l.f.length zd,.slice ze l.t.length Z,.n,.n⟩).length=18:=rfl;generalize hD6:dw (gW l,gW l) _ _=D6 at*
 have HD6:=zh hD6;clear hD6 h12 h13 v g' c1 c2 hv4 z' hOA r' HO11
 go_upto_region 11 with(first
  |refine aj rO rfl (.tmp 1) rfl rfl [.bool l.dL,.bool l.dS,.bool l.dW,.slice za l.i.length zb,.slice zc l.f.length zd,.slice ze l.t.length Z] rfl r1 ?_
  |(go_at_call 28;refine(HSB2.o _ HOA.o.az).mono ?_;rintro e C' ⟨rfl,K⟩;have HO12:=zh (HOA.o.aT K);clear HOA HSB2 K r1)
  | (refine fU jN ek qh rfl zo rfl (.tmp 61) rfl (cs:=D6.toArray) rfl (by simpa using l6) ?_))
 have h15:=((HO12.o.al D6.toArray 35).al #[.slice none 0 0,.slice (some ⟨C'.heap.size,0,none⟩) 1 1] 50).al (aZ (YL l) (Ej (C'.heap.size+1))).toArray 33;simp only[bB]at h15;obtain⟨MD,h16,v,c1⟩:=h15.aR.EX;obtain⟨MC,X',g',c2⟩:=h16.av.EX;have H:=Mem.le_trans v g';have hv1:=(qN (n:=0) HM.o.1.at').le (Mem.le_trans HLA.o H);have hV7:aY MC 2 (Ej (C'.heap.size+1)) (YL l):=TC (n:=1) (c:=([],[(gW l,gW l)])) (c2 0 _ rfl) (c2 1 _ rfl) (fq _ _) (ez3 (d:=(gW l,gW l)) (fun j u hj=>bzv g' (c1 j u (by rw[HD6.o]at hj;simpa using hj))) hv1 hv1);have z':=HV6.o.le H;have k6:Mv 2 (YM p):=ZR (fun d hd=>by simp[aX]at hd;rw[hd];exact⟨oz HM.o.2.1.le,oz HM.o.2.1.le⟩) (by simp[aX]);have k7:Mv 2 (YL l):=ZR (fun d hd=>by simp[aX]at hd;rw[hd];exact⟨oz HM.o.1.le,oz HM.o.1.le⟩) (by simp[aX]);have HTC:=zh (HM.o.2.2.2.le (Mem.le_trans HLA.o H));have HB5:=zh (fun w' (h:MC.az w')=>oJ HF.o.b5 (kY (YM p) (YL l) _ _ MC w' h HTC.o z' k6 hV7 k7));have HB6:=zh (fun w' (h:MC.az w')=>su HF.o.b6 (kY (YL l) (YM p) _ _ MC w' h HTC.o hV7 k7 z' k6));have HLC:=zh (Mem.le_trans HLA.o H);have HOC:=zh X';have l6':(aZ (YM p) (Ej (D'.heap.size+1))).length=9:=rfl;have l7':(aZ (YL l) (Ej (C'.heap.size+1))).length=9:=rfl;have r7:=X'.obj.all;have r6:=X'.av.obj.all;unfold Vl.val at HB5 HB6;clear h15 h16 v g' c1 c2 hv1 z' hV7 H X' k6 k7 HV6 HLA HO12
 go_upto_region 13 with(first
  |refine aj jI rfl (.tmp 6) rfl rfl (aZ (YM p) (Ej (D'.heap.size+1))) l6' r6 ?_
  |refine aj jI rfl (.tmp 7) rfl rfl (aZ (YL l) (Ej (C'.heap.size+1))) l7' r7 ?_
  |(go_at_call 15;refine(HB5.o _ HOC.o.az).mono ?_;rintro e w13 ⟨rfl,hb13⟩;have V:=zh (HOC.o.aT hb13);clear HOC HB5 hb13 r6 r7;have r7:=V.o.obj.all;have r6:=V.o.av.obj.all)
  | (go_at_call 15;refine(HB6.o _ V.o.az).mono ?_;rintro e w14 ⟨rfl,hb14⟩;have v':=zh (V.o.aT hb14);clear V HB6 hb14 r6 r7))
 have F':=(qN (n:=0) HM.o.1.at').le HLC.o;have HSC1:=zh (fun w' (h:MC.az w')=>HSB.o MC w' h HLC.o);have u':=zh (fun w' (h:MC.az w')=>PO (n:=0) 1 zD (gW l,gW l) _ _ MC w' h F' F');unfold bQ at u';rw[HD6.o]at u';have r1:=v'.o.tail.fifth.obj.all (cs:=[.bool l.dL,.bool l.dS,.bool l.dW,.slice za l.i.length zb,.slice zc l.f.length zd,.slice ze l.t.length Z]);clear F'
 go_wp2_with (first
  |refine aj rO rfl (.tmp 1) rfl rfl [.bool l.dL,.bool l.dS,.bool l.dW,.slice za l.i.length zb,.slice zc l.f.length zd,.slice ze l.t.length Z] rfl r1 ?_
  |(go_at_call 28;refine(HSC1.o _ v'.o.az).mono ?_;rintro e w15 ⟨rfl,L⟩;have M':=zh (v'.o.aT L);clear v' HSC1 L r1)
  | fail)
 refine(u'.o _ M'.o.az).mono ?_;rintro e W' ⟨u1,v1,rfl,J,kF1,kK1⟩;obtain⟨MP1,hOR1,hlr1,q'⟩:=dzS (P:=fun M=>AL 1 (opC 1 (gW l,gW l)).1 M u1/\Cf 1 (opC 1 (gW l,gW l)).2 M v1) M'.o J ⟨kF1,kK1⟩;obtain⟨fa1,fc1,rfl,-⟩:=id q'.1;obtain⟨ka1,kc1,rfl,-⟩:=id q'.2;have X:=zh (zi hlr1 q');have HOR1:=zh hOR1;have hv3:=Rj;clear M' u' J kF1 kK1 hOR1 hlr1 q'
 go_upto_region 14 with(fail)
 have hs1:=(HOR1.o.al #[.slice fa1 1 fc1,.slice ka1 1 kc1] 62).al (aZ (DF 1 l) (DV W'.heap.size)).toArray 33;simp only[bB]at hs1;obtain⟨J',hOS1,v,c1⟩:=hs1.av.EX;have hVO1:aY J' 2 (DV W'.heap.size) (DF 1 l):=Sa (n:=1) (c:=opC 1 (gW l,gW l)) (c1 0 _ rfl) (c1 1 _ rfl) (AL.le v X.o.2.1) (Cf.le v X.o.2.2);have HVO1:=zh hVO1;have R':=zh (Mem.le_trans HLC.o (Mem.le_trans X.o.1 v));have HMS1:=zh (Mem.le_trans X.o.1 v);have s':=zh hOS1;clear hs1 hOS1 v c1 hVO1 X HOR1;have E':=(qN (n:=0) HM.o.1.at').le R'.o;have HSC2:=zh (fun w' (h:J'.az w')=>HSB.o J' w' h R'.o);have t':=zh (fun w' (h:J'.az w')=>PO (n:=0) 2 zD (gW l,gW l) _ _ J' w' h E' E');unfold bQ at t';rw[HD6.o]at t';have r1:=s'.o.tail.tail.fifth.obj.all (cs:=[.bool l.dL,.bool l.dS,.bool l.dW,.slice za l.i.length zb,.slice zc l.f.length zd,.slice ze l.t.length Z]);clear E'
 go_wp2_with (first
  |refine aj rO rfl (.tmp 1) rfl rfl [.bool l.dL,.bool l.dS,.bool l.dW,.slice za l.i.length zb,.slice zc l.f.length zd,.slice ze l.t.length Z] rfl r1 ?_
  |(go_at_call 28;refine(HSC2.o _ s'.o.az).mono ?_;rintro e w17 ⟨rfl,K⟩;have L':=zh (s'.o.aT K);clear s' HSC2 K r1)
  | fail)
 refine(t'.o _ L'.o.az).mono ?_;rintro e V' ⟨u2,v2,rfl,I,kF2,kK2⟩;obtain⟨MP2,hOR2,hlr2,p'⟩:=dzS (P:=fun M=>AL 1 (opC 2 (gW l,gW l)).1 M u2/\Cf 1 (opC 2 (gW l,gW l)).2 M v2) L'.o I ⟨kF2,kK2⟩;obtain⟨fa2,fc2,rfl,-⟩:=id p'.1;obtain⟨ka2,kc2,rfl,-⟩:=id p'.2;have W:=zh (zi hlr2 p');have HOR2:=zh hOR2;have hv3:=Rj;clear L' t' I kF2 kK2 hOR2 hlr2 p'
 go_upto_region 15 with(fail)
 have hs2:=(HOR2.o.al #[.slice fa2 1 fc2,.slice ka2 1 kc2] 62).al (aZ (DF 2 l) (DV V'.heap.size)).toArray 33;simp only[bB]at hs2;obtain⟨G,hOS2,v,c1⟩:=hs2.av.EX;have hVO2:aY G 2 (DV V'.heap.size) (DF 2 l):=Sa (n:=1) (c:=opC 2 (gW l,gW l)) (c1 0 _ rfl) (c1 1 _ rfl) (AL.le v W.o.2.1) (Cf.le v W.o.2.2);have HVO2:=zh hVO2;have HLS2:=zh (Mem.le_trans R'.o (Mem.le_trans W.o.1 v));have HMS2:=zh (Mem.le_trans W.o.1 v);have Q:=zh hOS2;clear hs2 hOS2 v c1 hVO2 W HOR2;have k1:Mv 2 (DF 1 l):=ZQ ⟨oz HM.o.1.le,oz HM.o.1.le⟩;have k2:Mv 2 (DF 2 l):=ZQ ⟨oz HM.o.1.le,oz HM.o.1.le⟩;have v1:=HVO1.o.le HMS2.o;have v2:=HVO2.o;have K':=HM.o.2.2.2.le HLS2.o;have HC7:=zh (fun w' (h:G.az w')=>oJ HF.o.b7 (Bz (DF 1 l) _ G w' h K' v1 k1));have HC8:=zh (fun w' (h:G.az w')=>oJ HF.o.b8 (kY (DF 1 l) (DF 2 l) _ _ G w' h K' v1 k1 v2 k2));have HC9:=zh (fun w' (h:G.az w')=>su HF.o.b9 (kY (DF 2 l) (DF 1 l) _ _ G w' h K' v2 k2 v1 k1));have S':=zh (fun w' (h:G.az w')=>oJ HF.o.b10 (kY (DF 2 l) eX _ dI G w' h K' v2 k2 (ezl (n:=0)) NC));have hb0:=Rk;have l8:(aZ (DF 1 l) (DV W'.heap.size)).length=9:=rfl;have l9:(aZ (DF 2 l) (DV V'.heap.size)).length=9:=rfl;have r9:=Q.o.obj.all;have r8:=Q.o.av.obj.all;unfold Vl.val at HC7 HC8 HC9 S';clear k1 k2 v1 v2 K' HVO1 HVO2 HMS2
 go_wp2_with (first
  |refine aj jI rfl (.tmp 8) rfl rfl (aZ (DF 1 l) (DV W'.heap.size)) l8 r8 ?_
  |refine aj jI rfl (.tmp 9) rfl rfl (aZ (DF 2 l) (DV V'.heap.size)) l9 r9 ?_
  |(go_at_call 21;refine(HC7.o _ Q.o.az).mono ?_;rintro e w19 ⟨rfl,hb19⟩;have U:=zh (Q.o.aT hb19);clear Q HC7 hb19 r8 r9;have r9:=U.o.obj.all;have r8:=U.o.av.obj.all)
  |(go_at_call 15;refine(HC8.o _ U.o.az).mono ?_;rintro e w20 ⟨rfl,hb20⟩;have T:=zh (U.o.aT hb20);clear U HC8 hb20 r8 r9;have r9:=T.o.obj.all;have r8:=T.o.av.obj.all)
  |(go_at_call 15;refine(HC9.o _ T.o.az).mono ?_;rintro e w21 ⟨rfl,J⟩;have S:=zh (T.o.aT J);clear T HC9 J r8 r9;have r9:=S.o.obj.all;have r8:=S.o.av.obj.all)
  | (go_at_call 15;refine(S'.o _ S.o.az).mono ?_;rintro e w22 ⟨rfl,I⟩;have HO22:=zh (S.o.aT I);clear S S' I r8 r9))
 exact hR.o _ _ ⟨rfl,HO22.o.aF⟩
end Cl
namespace Cl
open Go Go.RowKit Go.Proofs
theorem kw.lH{d:Vd}(h:kw d):Wd 3 d:=by
 have:=h.2.2;unfold cv at this;exact⟨⟨h.1.src,zo⟩,h.2.1.src,zo⟩
theorem kw.ht{d:Vd}(h:kw d):Ht 3 d.1/\Ht 3 d.2:=⟨h.1.src.ht,h.2.1.src.ht⟩
structure UU (n:Nat) (d:Vd) (x y:Sl) (M:Mem):Prop where
 h1:aY M n x d.1
 h2:aY M n y d.2
theorem UU.le{n:Nat}{d:Vd}{x y:Sl}{m M:Mem}(h:UU n d x y m)(a:m.le M):UU n d x y M:=⟨h.h1.le a,h.h2.le a⟩
theorem UU.low{n:Nat}{d:Vd}{x y:Sl}{M:Mem}(h:UU n d x y M)(s:kw d):UU 3 d x y M:=⟨h.h1.low s.ht.1,h.h2.low s.ht.2⟩
theorem kw.cnt{d:Vd}(h:kw d):jg 3 d:=by
 have:=h.2.2;unfold cv at this;exact⟨zo,zo⟩
theorem kw.few{d:Vd}(h:kw d):jW d.1.s 30000 100000/\d.1.aJ.length<=1000000/\d.1.ay.length<=1000000:=by
 have k:=h.1.src.1;exact⟨⟨by have:=k.i;omega,by have:=k.fr;omega,by have:=k.t;omega⟩,by have:=k.l;omega,by have:=k.s;omega⟩
end Cl
namespace Cl
open Go Go.RowKit Go.Proofs Tryz
def LcQ(n:Nat)(m:Mem)(cs:List Value)(c:Lc):Prop:=∃u a,cs=[u,a]/\bD (aY m n) m u c.1/\bD (aY m n) m a c.2
def StQ(n:Nat)(m:Mem)(cs:List Value)(c:St):Prop:=∃u a,cs=[u,a]/\gG (aY m n) m u c.1/\gM (aY m n) m a c.2
theorem LcQ.le{n:Nat}{m M:Mem}(hle:m.le M){cs:List Value}{c:Lc}(h:LcQ n m cs c):LcQ n M cs c:=by
 exact qbS
theorem StQ.le{n:Nat}{m M:Mem}(hle:m.le M){cs:List Value}{c:St}(h:StQ n m cs c):StQ n M cs c:=by
 exact qbS
theorem Z8{n:Nat}{mk M:Mem}{w:zW}{t:TypeId}{v:zV}{l:List Lc}{xs:List Value}(hown:w.ownsRow 0 t 2 v l.length xs)(hx:jd 2 (LcQ n mk) xs l)(hm:mk.le M)(hM:(mk.iA w v).le M):vT (aY M n) M v l:=
 eY hown fun g hg i h=>by
  exact qik
theorem Zc{n:Nat}{mk M:Mem}{w:zW}{t:TypeId}{v:zV}{l:List St}{xs:List Value}(hown:w.ownsRow 0 t 2 v l.length xs)(hx:jd 2 (StQ n mk) xs l)(hm:mk.le M)(hM:(mk.iA w v).le M):vQ (aY M n) M v l:=
 eY hown fun g hg i h=>by
  exact qik
theorem Yp(p:Bool)(a0 e d c b a:zV)(w:zW):(Instr.build 33 #[(0,.bool p),(1,.agg #[a0,e,d,c,b,a])]).run prog w=.ok (.agg #[.bool p,a0,e,d,c,b,a,.slice none 0 0,.slice none 0 0]) w:=by kernel_rfl
abbrev ouA(v:Vl)(aa ac ae:Option Addr)(ab ad af:Nat)(l s:zV):Array Value:=#[.bool v.any,.bool v.s.dL,.bool v.s.dS,.bool v.s.dW,.slice aa v.s.i.length ab,.slice ac v.s.f.length ad,.slice ae v.s.t.length af,l,s]
theorem Px{α β:Type}(f:α->List β)(l:List α){i j:Nat}(h:l.length=i+j+1)(hi:i<l.length):(l.reverse.take (j+1)).flatMap f=(l.reverse.take j).flatMap f++f l[i]:=by
 have a:j<l.reverse.length:=by rw[List.length_reverse];omega
 rw[DR f a,List.getElem_reverse];have:l.length-1-j=i:=zo;simp only[this]
theorem F4{α β:Type}(f:α->List β)(b:∀a,(f a).length=2)(l:List α){j:Nat}(h:j<=l.length):((l.reverse.take j).flatMap f).length=2*j:=by
 have:∀k:List α,(k.flatMap f).length=2*k.length:=fun k=>by
  induction k with
  |nil=>rfl
  |cons a k ih=>rw[xO,zL,b,ih,yO];omega
 rw[this,List.length_take,List.length_reverse];omega
theorem R7{n:Nat}(v:Vl)(x:Sl)(m:Mem)(w:zW)(hm:m.az w)(hv:aY m (n+1) x v)(hl8:v.aJ.length<=8)(hs8:v.ay.length<=8)(Q':∀c∈v.ay,c.2.length<=8):
 zC 19 #[v.val x] w fun e w'=>∃y,e=.returned ((dR v).val y)/\zB w w'/\aY (m.grow w w') (n+1) y (dR v):=by
 obtain⟨u',hls,Z'⟩:=id hv;obtain⟨la,lc,els,p1,q1,k1⟩:=id hls;obtain⟨sa,sc,ess,p2,q2,k2⟩:=id Z';obtain⟨aa,ab,ac,ad,Z,W,ei,ef,et⟩:=u'.dm;unfold maxLen at q1 q2;have n0:(aZ v x).toArray[0]?=some (.bool v.any):=rfl;have n7:(aZ v x).toArray[7]?=some x.l:=rfl;have n8:(aZ v x).toArray[8]?=some x.s:=rfl;have L':∀j u,([.bool v.s.dL,.bool v.s.dS,.bool v.s.dW,x.i,x.f,x.t]:List Value)[j]?=some u->(aZ v x).toArray[1+j]?=some u:=Aj v x;rw[els]at n7;rw[ess]at n8;rw[ei,ef,et]at L';rw[ei,ef,et]at u';have HAT:=zh u';obtain⟨m1,l1,c1,hO0⟩:=iL 33 (aZ v x).toArray (Own.start hm);have C0:=c1 0 _ n0;have C7:=c1 7 _ n7;have C8:=c1 8 _ n8;have HS:=zh (fun(w':zW) (h:m1.az w') j u hj=>azk h (c1 (1+j) u (L' j u hj)));have n':=hO0.al FV 33;have d:=n'.al FV 33;simp only[bB]at d;have HK:=zh (zi k1 k2);have HV:=zh (zi hv l1);have HO:=zh d;have H8:=zh Q';have y0:=azk n'.az C0;have yl:=bzu n'.az C0;have qs:=HS.o _ n'.az;have hbv:=fun p a0 a1 a2 a3 a4 a5 w=>Yp p a0 a1 a2 a3 a4 a5 w;have O':IntKind.i64.wrap ((v.aJ.length:Int)-1)=(v.aJ.length:Int)-1:=IntWalk.i64_in _ zo;unfold Vl.val;generalize aZ v x=N at*
 clear d n' hO0 k1 k2 hv Q' c1 l1 hls Z' n0 n7 n8 L' u' els ess ei ef et;refine au fun R hR=>?_
 go_enter func19,ntmps19
 go_wp2_with (first
  |refine aj rO rfl (.tmp 10) rfl rfl [.bool v.s.dL,.bool v.s.dS,.bool v.s.dW,.slice aa v.s.i.length ab,.slice ac v.s.f.length ad,.slice Z v.s.t.length W] rfl qs ?_
  | (refine aA jI rfl (.tmp 3) (.tmp 12) rfl (cs:=(ouA v aa ac Z ab ad W (.n) (.n))) rfl rfl rfl rfl qdN HO.o.obj ?_;intro w2 g' m';have G:=(HO.o.aQ g' m').fE 50 2;have y7:=azk G.az C7;have M:=zh G;clear HO g' m' G))
 refine aB [1,2,3,4] (fun q I O=>∃(j:Nat) (rv:zV) (xs:List Value),j<=v.aJ.length/\q=v.aJ.length-j/\I=[.p w.heap.size,.p (w.heap.size+1),.p (w.heap.size+1+1),.j ((v.aJ.length:Int)-1-(j:Int))]/\jd 2 (LcQ n m1) xs ((v.aJ.reverse.take j).flatMap fun c=>[c,c]) /\
  Own w m O m1 [.row rv 50 2 (2*j) xs,.obj (w.heap.size+1+1) 33 (ouA v aa ac Z ab ad W rv (.n)),.obj (w.heap.size+1) 33 FV]) ?_ ?_
 .exact⟨_,0,_,[],zG _,rfl,zS,.nil,M.o⟩
 clear M y0 yl qs y7 hbv O';rintro X z q I O hX-⟨j,rv,xs,hj,rfl,rfl,hx,d⟩;simp[bz,lk];obtain⟨va,J,rfl⟩:=bv d.row;by_cases hlt:j<v.aJ.length
 case neg=>
  obtain rfl:j=v.aJ.length:=zo;rw[show(v.aJ.length:Int)-1-(v.aJ.length:Int) = -1 by omega];have HXL:=zh (show jd 2 (LcQ n m1) xs (dR v).aJ from by rw[xH zS]at hx;exact hx);have M:=zh (d.fE 62 2);have y8:=azk d.az C8;have yl:=bzu d.az C8;have O':IntKind.i64.wrap ((v.ay.length:Int)-1)=(v.ay.length:Int)-1:=IntWalk.i64_in _ zo;clear hX d hx hlt hj;go_wp2;refine aB [1,2,3,5] (fun q I O=>∃(j:Nat) (MK:Mem) (rs:zV) (ys:List Value),j<=v.ay.length/\q=v.ay.length-j/\I=[.p w.heap.size,.p (w.heap.size+1),.p (w.heap.size+1+1),.j ((v.ay.length:Int)-1-(j:Int))]/\m1.le MK/\jd 2 (StQ n MK) ys ((v.ay.reverse.take j).flatMap fun c=>[(c.1,c.2.reverse),c]) /\
   Own w m O MK [.row rs 62 2 (2*j) ys,.row (.slice va (2*v.aJ.length) J) 50 2 (2*v.aJ.length) xs,.obj (w.heap.size+1+1) 33 (ouA v aa ac Z ab ad W (.slice va (2*v.aJ.length) J) rs),.obj (w.heap.size+1) 33 FV]) ?_ ?_
  .exact⟨_,0,m1,_,[],zG _,rfl,zS,Mem.le_refl _,.nil,M.o⟩
  clear M y8 yl O';rintro X2 z2 q I O hX2-⟨j,MK,rs,ys,hj,rfl,rfl,H,hx,d⟩;simp[bz,lk];obtain⟨D,C,rfl⟩:=bv d.row;have HLE:=zh H;by_cases hlt:j<v.ay.length
  case neg=>
   obtain rfl:j=v.ay.length:=zo;rw[show(v.ay.length:Int)-1-(v.ay.length:Int) = -1 by omega];have e1:(dR v).aJ.length=2*v.aJ.length:=by have:=F4 (fun c:Lc=>[c,c]) (fun _=>rfl) v.aJ (zI _);rwa [xH zS]at this
   have e2:(dR v).ay.length=2*v.ay.length:=by have:=F4 (fun c:St=>[(c.1,c.2.reverse),c]) (fun _=>rfl) v.ay (zI _);rwa [xH zS]at this
   have Y':jd 2 (StQ n MK) ys (dR v).ay:=by rw[xH zS]at hx;exact hx
   have z':=czS (w:=O) d.free;have o':=czS (w:=O) d.bP.free;have KS:=Zc (by rw[e2];exact d.row) Y' (Mem.le_trans z' o') o';have KL:=Z8 (by rw[e1];exact d.av.row) (HXL.o.mono fun _ _ h=>(h.le H).le z') o' (Mem.le_refl _);have D':=Mem.le_trans HV.o.2 (Mem.le_trans H (Mem.le_trans z' o'));have G:=d.bP.bP;generalize (MK.iA O _).iA O _=M2 at*
   have HF:=zh (show aY M2 (n+1) ⟨_,_,_,.slice va (2*v.aJ.length) J,.slice D (2*v.ay.length) C⟩ (dR v) from⟨HAT.o.le D',KL,KS⟩);have M:=zh G;have q0:=G.obj.all (cs:=(ouA v aa ac Z ab ad W (.slice va (2*v.aJ.length) J) (.slice D (2*v.ay.length) C)).toList);clear hX2 d hx Y' hlt hj H z' o' KS KL D' G e1 e2
   go_wp2_with (first
    |refine aj jI rfl (.tmp 3) rfl rfl ((ouA v aa ac Z ab ad W (.slice va (2*v.aJ.length) J) (.slice D (2*v.ay.length) C)).toList) rfl q0 ?_
    | (refine aA jI rfl (.tmp 2) (.tmp 88) rfl (cs:=(ouA v aa ac Z ab ad W (.slice va (2*v.aJ.length) J) (.slice D (2*v.ay.length) C))) rfl rfl rfl rfl qdN M.o.av.obj ?_;intro w5 K' hg5;have HO3:=zh (M.o.av.aQ K' hg5);have hr:=jI.load (P:=prog) (cs:=(ouA v aa ac Z ab ad W (.slice va (2*v.aJ.length) J) (.slice D (2*v.ay.length) C)).toList) rfl K'.all;clear K' hg5))
   refine yV (v:=.agg (ouA v aa ac Z ab ad W (.slice va (2*v.aJ.length) J) (.slice D (2*v.ay.length) C))) (jq results19 rfl hr) rfl ?_;exact hR.o _ _ ⟨_,rfl,HO3.o.aF,HF.o.le HO3.o.done⟩
  obtain⟨i,hi⟩:∃i,v.ay.length=i+j+1:=⟨v.ay.length-1-j,zo⟩;rw[show(v.ay.length:Int)-1-(j:Int)=(i:Int)by omega];have V:i<v.ay.length:=zo;obtain⟨b,off,rfl,h4⟩:=HK.o.2 qdJ;obtain⟨u,u2,e0,e1,hu,U⟩:=h4 i V;have HCM:=zh (zF V);have U0:=bzv HV.o.2 e0;have U1:=bzv HV.o.2 e1;obtain⟨L,K,rfl,-⟩:=id hu;obtain⟨T,S,rfl,up,uq,kk⟩:=id U;unfold maxLen at uq;have HU:=zh (zi hu (zi U kk));obtain⟨c,hc⟩:∃c,c=v.ay[i]:=⟨_,rfl⟩;rw[<-hc]at HU U0 U1 HCM;have HX:=zh (zi (Px (fun c:St=>[(c.1,c.2.reverse),c]) _ hi V) hx);rw[<-hc]at HX;have Q':=H8.o c HCM.o;have E:=zh (d.al #[.slice none 0 0,.slice none 0 0] 62);have y8:=azk (bzw H d.az) C8;have yl:=bzu (bzw H d.az) C8;have yu:=azk (bzw H d.az) U0;have yu':=bzu (bzw H d.az) U0;have hw1:IntKind.i64.wrap ((i:Int)-1)=(i:Int)-1:=IntWalk.i64_in _ zo;have hge:(0:Int)<=(i:Int):=zo;have hw2:IntKind.i64.wrap ((c.2.length:Int)-1)=(c.2.length:Int)-1:=IntWalk.i64_in _ zo;have HI:=zh hi;rw[<-hc]at up;clear hi hc hu U kk h4 e0 e1 hx d H
  go_wp2_with (first
   | (refine aA Cs rfl (.tmp 6) (.tmp 50) rfl (cs:=#[.slice L c.1.length K,.slice none 0 0]) rfl rfl rfl rfl qdN E.o.obj ?_;intro w2 g' m';have hO6:=(E.o.aQ g' m').fE 68 19;have y8:=azk qiz C8;have yl:=bzu qiz C8;have y1:=azk qiz U1;have y1':=bzu qiz U1;have HO6:=zh hO6;clear E g' m' hO6))
  refine aB [1,2,3,5,6,7] (fun q I wi=>∃(k:Nat) (rk:zV) (zs:List Value),k<=c.2.length/\q=c.2.length-k/\I=[.p w.heap.size,.p (w.heap.size+1),.p (w.heap.size+1+1),.j (i:Int),.p O.heap.size,.j ((c.2.length:Int)-1-(k:Int))]/\jd 19 (JG n MK) zs (c.2.reverse.take k) /\
   Own w m wi MK [.row rk 68 19 k zs,.obj O.heap.size 62 #[.slice L c.1.length K,rk],.row (.slice D (2*j) C) 62 2 (2*j) ys,.row (.slice va (2*v.aJ.length) J) 50 2 (2*v.aJ.length) xs,.obj (w.heap.size+1+1) 33 (ouA v aa ac Z ab ad W (.slice va (2*v.aJ.length) J) (.slice D (2*j) C)),.obj (w.heap.size+1) 33 FV]) ?_ ?_
  .exact⟨_,0,_,[],zG _,rfl,zS,.nil,HO6.o⟩
  clear HO6 y8 yl yu yu' y1 y1' hw2;rintro X3 z3 q I wi hX3-⟨k,rk,zs,hk,rfl,rfl,hz,d⟩;simp[bz,lk];obtain⟨ka,kc,rfl⟩:=bv d.row;have C8':=bzv HLE.o C8;have U1':=bzv HLE.o U1;have U0':=bzv HLE.o U0;have hgt:i<v.ay.length:=V;by_cases hlt3:k<c.2.length
  case neg=>
   obtain rfl:k=c.2.length:=zo;rw[show(c.2.length:Int)-1-(c.2.length:Int) = -1 by omega];have W':jd 19 (JG n MK) zs c.2.reverse:=by rw[xH zS]at hz;exact hz
   have hM:=czS (w:=wi) d.free;have KK:=IA (l:=c.2.reverse) (by simpa using d.row) W' hM (Mem.le_refl _);have G:=d.bP;generalize MK.iA wi _=M2 at*
   have B:=Mem.le_trans HV.o.2 (Mem.le_trans HLE.o hM);have Q1:StQ n M2 [.slice L c.1.length K,.slice ka c.2.length kc] (c.1,c.2.reverse):=⟨_,_,rfl,HU.o.1.le B fun _ _ h=>h.le B,KK⟩;have Q2:StQ n M2 [.slice L c.1.length K,.slice T c.2.length S] c:=⟨_,_,rfl,HU.o.1.le B fun _ _ h=>h.le B,HU.o.2.1.le B fun _ _ h=>h.le B⟩;have HX':=zh (show jd 2 (StQ n M2) (ys++[.slice L c.1.length K,.slice ka c.2.length kc,.slice L c.1.length K,.slice T c.2.length S]) ((v.ay.reverse.take (j+1)).flatMap fun c=>[(c.1,c.2.reverse),c]) from by
    rw[HX.o.1];have:=((HX.o.2.mono fun _ _ h=>h.le hM).push rfl qdN Q1).push rfl qdN Q2
    rwa [xD,xD]at this)
   have C8:=bzv hM C8';have U0:=bzv hM U0';have U1:=bzv hM U1';have HLE2:=zh (Mem.le_trans HLE.o hM);have E:=zh G;clear G d Q1 Q2 B KK hM hz W' hX3 hlt3 hk C8' U0' U1'
   go_upto_region 14 with(fail)
   refine aW [1,2,3,5] (fun I w'=>∃(r:Option Addr) (g:Nat),I=[.p w.heap.size,.p (w.heap.size+1),.p (w.heap.size+1+1),.j (i:Int)] /\
    Own w m w' M2 [.row (.slice r (2*j+2) g) 62 2 (2*j+2) (ys++[.slice L c.1.length K,.slice ka c.2.length kc,.slice L c.1.length K,.slice T c.2.length S]),.row (.slice va (2*v.aJ.length) J) 50 2 (2*v.aJ.length) xs,.obj (w.heap.size+1+1) 33 (ouA v aa ac Z ab ad W (.slice va (2*v.aJ.length) J) (.slice r (2*j+2) g)),.obj (w.heap.size+1) 33 FV]) ?_ ?_
   .intro Y hY;refine gV (fun j' w'=>j'≠11->(bg w' (w.heap.size+1+1) 33 (ouA v aa ac Z ab ad W (.slice va (2*v.aJ.length) J) (.slice D (2*j) C))/\bg w' O.heap.size 62 #[.slice L c.1.length K,.slice ka c.2.length kc]/\M2.az w')) zk ?_;have hO6:=E.o.dr;have A:=zi hO6.bV.obj (zi hO6.obj hO6.az);refine aD 0 16 _ rfl zk qe7 qfg A qir ?_;go_simp;refine aD 1 16 _ rfl zk qe7 qfg A qir ?_;go_simp;refine aD 2 16 _ rfl zk qe7 qfg A qir ?_;go_simp;refine aD 3 16 _ rfl zk qe7 qfg A qir ?_;go_simp;refine aD 4 16 _ rfl zk qe7 qfg A qir ?_;go_simp;refine aD 5 16 _ rfl zk qe7 qfg A qir ?_;go_simp;refine aD 6 16 _ rfl zk qe7 qfg A qir ?_;go_simp;refine aD 7 16 _ rfl zk qe7 qfg A qir ?_;go_simp;have hO7:=hO6.al #[.slice L c.1.length K,.slice ka c.2.length kc,.slice L c.1.length K,.slice T c.2.length S] 62;refine aO 8 zk (aM rfl rfl (aS qdK ⟨.inr fun _=>zi hO7.fifth.obj (zi hO7.av.obj hO7.az),?_⟩));go_simp;refine aO 9 zk (aM rfl rfl (fQ Y5 (.tmp 78) (.tmp 85) rfl (.slice D (2*j) C) (2*j) ys zg hO7.aR.row ⟨wi.heap.size,0,none⟩ 2 2 [.slice L c.1.length K,.slice ka c.2.length kc,.slice L c.1.length K,.slice T c.2.length S] zg zS qe1 qdN qdM zo (fun r g w8 k' l' i'=>?_)));have a:=(hO7.aR.app k' l' i' zS).bM;refine⟨.inr fun _=>zi a.bV.obj (zi a.av.obj a.az),?_⟩;go_simp;have v':=a.bM;have p1:=v'.aR.obj.c 8;have p2:=v'.aR.obj.lt;refine aO 10 zk (aM rfl rfl (aS qdK ⟨.inl rfl,?_⟩));go_simp;have yf:=v'.aR.obj.frozen 8;refine aO 11 zk (aM rfl rfl (dx zg ⟨.inr fun h=>absurd rfl h,?_⟩));refine dE zk ?_ _;have HO10:=zh (v'.aR.set 8 (.slice r (2*j+2) g)).av.R8;exact hY.o _ _ rfl ⟨_,_,rfl,HO10.o⟩
   clear E;rintro z1 I w6-⟨r,g,rfl,d⟩;simp[bz,lk];have HO:=zh d;clear d;go_wp2;exact hX2.o _ _ _ zo rfl ⟨j+1,M2,_,_,zo,rfl,by rw[show(v.ay.length:Int)-1-((j+1:Nat):Int)=(i:Int)-1 by have:=HI.o;omega];rfl,HLE2.o,HX'.o,HO.o⟩
  obtain⟨Q,hi3⟩:∃Q,c.2.length=Q+k+1:=⟨c.2.length-1-k,zo⟩;rw[show(c.2.length:Int)-1-(k:Int)=(Q:Int)by omega];have hil3:Q<c.2.length:=zo;obtain⟨bk,ofk,rfl,h4⟩:=HU.o.2.2 qey;obtain⟨cv,x',y',P',hc3,N',M'⟩:=(h4 Q hil3).cells;have B:=Mem.le_trans HV.o.2 HLE.o;have lF:(nE c.2[Q] cv x' y').length=19:=rfl;have oF:=mK P' N' M';have HC:=fun j u hj=>bzv B (hc3 j u hj);have HX3:=zh (show jd 19 (JG n MK) (zs++nE c.2[Q] cv x' y') (c.2.reverse.take (k+1)) from by
   have e:(c.2.reverse.take (k+1))=c.2.reverse.take k++[c.2[Q]]:=by
    have hj:k<c.2.reverse.length:=by rw[List.length_reverse];omega
    rw[zH hj,List.getElem_reverse];have:c.2.length-1-k=Q:=zo;simp only[this]
   rw[e];exact hz.push rfl oF ⟨_,_,_,rfl,bq B P',N'.le B,M'.le B⟩)
  have H0:MK.cell bk (ofk+Q*19)=some cv:=HC 0 cv rfl;generalize nE c.2[Q] cv x' y'=F at*
  have E:=zh d;have hw3:IntKind.i64.wrap ((Q:Int)-1)=(Q:Int)-1:=IntWalk.i64_in _ zo;have hge3:(0:Int)<=(Q:Int):=zo;have HI3:=zh hi3;have HCC:=zh HC;clear hi3 h4 P' hc3 N' M' B HC hz d
  go_upto_region 13 with(fail)
  refine aW [1,2,3,5,6,7] (fun I w'=>∃(r:Option Addr) (g:Nat),I=[.p w.heap.size,.p (w.heap.size+1),.p (w.heap.size+1+1),.j (i:Int),.p O.heap.size,.j (Q:Int)] /\
   Own w m w' MK [.row (.slice r (k+1) g) 68 19 (k+1) (zs++F),.obj O.heap.size 62 #[.slice L c.1.length K,.slice r (k+1) g],.row (.slice D (2*j) C) 62 2 (2*j) ys,.row (.slice va (2*v.aJ.length) J) 50 2 (2*v.aJ.length) xs,.obj (w.heap.size+1+1) 33 (ouA v aa ac Z ab ad W (.slice va (2*v.aJ.length) J) (.slice D (2*j) C)),.obj (w.heap.size+1) 33 FV]) ?_ ?_
  .intro Y hY;refine gV (fun j' w'=>j'≠14->(bg w' O.heap.size 62 #[.slice L c.1.length K,.slice ka k kc]/\MK.az w')) zk ?_;have hO6:=E.o.dr;have A:=zi hO6.av.obj hO6.az;refine aD 0 16 _ rfl zk qe7 qfg A qis ?_;go_simp;refine aD 1 16 _ rfl zk qe7 qfg A qis ?_;go_simp;refine aD 2 16 _ rfl zk qe7 qfg A qis ?_;go_simp;refine aD 3 16 _ rfl zk qe7 qfg A qis ?_;go_simp;refine aD 4 16 _ rfl zk qe7 qfg A qis ?_;go_simp;refine aD 5 16 _ rfl zk qe7 qfg A qis ?_;go_simp;refine aD 6 16 _ rfl zk qe7 qfg A qis ?_;go_simp;refine aD 7 16 _ rfl zk qe7 qfg A qis ?_;go_simp;refine aD 8 16 _ rfl zk qe7 qfg A qis ?_;go_simp;refine aD 9 16 _ rfl zk qe7 qfg A qis ?_;go_simp;refine aD 10 16 _ rfl zk qe7 qfg A (ax rfl fun w' hS'=>by exact qB.exec rfl zg lF (fun j u hj=>azk hS'.2 (HCC.o j u hj))) ?_;go_simp;have hO7:=hO6.al F.toArray 68;refine aO 11 zk (aM rfl rfl (uG Gs qB ME rfl zo (.tmp 73) rfl (cs:=F.toArray) zg (by simp[lF]) ⟨.inr fun _=>zi hO7.aR.obj hO7.az,?_⟩));go_simp;refine aO 12 zk (aM rfl rfl (fQ Gs (.tmp 64) (.tmp 74) rfl (.slice ka k kc) k zs zg hO7.av.row ⟨wi.heap.size,0,none⟩ 1 1 F zg (by simp[lF]) qe1 oF qdM zo (fun r g w8 k' l' i'=>?_)));have a:=(hO7.av.app k' l' i' zS).bM;refine⟨.inr fun _=>zi a.av.obj a.az,?_⟩;go_simp;have A:=zi a.av.obj a.az;have p1:=a.av.obj.c 1;have p2:=a.av.obj.lt;refine aO 13 zk (aM rfl rfl (aS qdK ⟨.inl rfl,?_⟩));go_simp;have yf:=a.av.obj.frozen 1;refine aO 14 zk (aM rfl rfl (dx zg ⟨.inr fun h=>absurd rfl h,?_⟩));refine dE zk ?_ _;have S':=zh (a.av.set 1 (.slice r (k+1) g)).av;exact hY.o _ _ rfl ⟨_,_,rfl,S'.o⟩
  clear E;rintro z1 I w6-⟨r,g,rfl,d⟩;simp[bz,lk];have HO:=zh d;clear d;go_wp2;exact hX3.o _ _ _ zo rfl ⟨k+1,_,_,zo,rfl,by rw[show(c.2.length:Int)-1-((k+1:Nat):Int)=(Q:Int)-1 by have:=HI3.o;omega];rfl,HX3.o,HO.o⟩
 obtain⟨i,hi⟩:∃i,v.aJ.length=i+j+1:=⟨v.aJ.length-1-j,zo⟩;rw[show(v.aJ.length:Int)-1-(j:Int)=(i:Int)by omega];have V:i<v.aJ.length:=zo;obtain⟨b,off,rfl,h4⟩:=HK.o.1 qdJ;obtain⟨u,u2,e0,e1,hu,U⟩:=h4 i V;have U0:=bzv HV.o.2 e0;have U1:=bzv HV.o.2 e1;obtain⟨L,K,rfl,-⟩:=id hu;obtain⟨T,S,rfl,-⟩:=id U;have HQ:LcQ n m1 [_,_] v.aJ[i]:=⟨_,_,rfl,hu.le HV.o.2 fun _ _ h=>h.le HV.o.2,U.le HV.o.2 fun _ _ h=>h.le HV.o.2⟩;have HX:=zh (show jd 2 (LcQ n m1) _ ((v.aJ.reverse.take (j+1)).flatMap fun c=>[c,c]) from by
  rw[Px _ _ hi V];have:=(hx.push rfl qdN HQ).push rfl qdN HQ
  rwa [xD,xD]at this)
 obtain⟨u,s'⟩:∃u,u=Value.slice L v.aJ[i].1.length K:=⟨_,rfl⟩;obtain⟨u2,e'⟩:∃u,u=Value.slice T v.aJ[i].2.length S:=⟨_,rfl⟩;rw[<-s',<-e']at HX;rw[<-s']at U0;rw[<-e']at U1;have HU:=zh (zi HX.o (show ∀z∈[u,u2,u,u2],z.oneCell'=true from by rw[s',e'];simp[Value.oneCell']));have E:=zh d;have hw1:IntKind.i64.wrap ((i:Int)-1)=(i:Int)-1:=IntWalk.i64_in _ zo;have hge:(0:Int)<=(i:Int):=zo;have HI:=zh hi;clear hi s' e' hu U HQ h4 e0 e1 hx d HX
 go_upto_region 5 with(fail)
 refine aW [1,2,3,4] (fun I w'=>∃(r:Option Addr) (g:Nat),I=[.p w.heap.size,.p (w.heap.size+1),.p (w.heap.size+1+1),.j (i:Int)] /\
  Own w m w' m1 [.row (.slice r (2*j+2) g) 50 2 (2*j+2) (xs++[u,u2,u,u2]),.obj (w.heap.size+1+1) 33 (ouA v aa ac Z ab ad W (.slice r (2*j+2) g) (.n)),.obj (w.heap.size+1) 33 FV]) ?_ ?_
 .intro Y hY;refine gV (fun j' w'=>j'≠15->(bg w' (w.heap.size+1+1) 33 (ouA v aa ac Z ab ad W (.slice va (2*j) J) (.n))/\m1.az w')) zk ?_;have hO6:=E.o.dr;have A:=zi hO6.av.obj hO6.az;refine aD 0 16 _ rfl zk qe7 qfg A qip ?_;go_simp;refine aD 1 16 _ rfl zk qe7 qfg A qip ?_;go_simp;refine aD 2 16 _ rfl zk qe7 qfg A qip ?_;go_simp;refine aD 3 16 _ rfl zk qe7 qfg A qip ?_;go_simp;refine aD 4 16 _ rfl zk qe7 qfg A qip ?_;go_simp;refine aD 5 16 _ rfl zk qe7 qfg A qip ?_;go_simp;refine aD 6 16 _ rfl zk qe7 qfg A qip ?_;go_simp;refine aD 7 16 _ rfl zk qe7 qfg A qip ?_;go_simp;refine aD 8 16 _ rfl zk qe7 qfg A qip ?_;go_simp;refine aD 9 16 _ rfl zk qe7 qfg A qip ?_;go_simp;refine aD 10 16 _ rfl zk qe7 qfg A qip ?_;go_simp;refine aD 11 16 _ rfl zk qe7 qfg A qip ?_;go_simp;refine aO 12 zk (aM rfl rfl (aS qdK ⟨.inr fun _=>zi (hO6.al' (.cells #[u,u2,u,u2] 50)).av.obj (hO6.al' (.cells #[u,u2,u,u2] 50)).az,?_⟩));go_simp;have hO7:=hO6.al #[u,u2,u,u2] 50;refine aO 13 zk (aM rfl rfl (fQ Y6 (.tmp 22) (.tmp 33) rfl (.slice va (2*j) J) (2*j) xs zg hO7.av.row ⟨O.heap.size,0,none⟩ 2 2 [u,u2,u,u2] zg zS qe1 (fun u hu=>HU.o.2 u hu) qdM zo (fun r g w8 k' l' i'=>?_)));have a:=(hO7.av.app k' l' i' zS).bM;refine⟨.inr fun _=>zi a.av.obj a.az,?_⟩;go_simp;have A:=zi a.av.obj a.az;have p1:=a.av.obj.c 7;have p2:=a.av.obj.lt;refine aO 14 zk (aM rfl rfl (aS qdK ⟨.inl rfl,?_⟩));go_simp;have yf:=a.av.obj.frozen 7;refine aO 15 zk (aM rfl rfl (dx zg ⟨.inr fun h=>absurd rfl h,?_⟩));refine dE zk ?_ _;have S':=zh (a.av.set 7 (.slice r (2*j+2) g)).av;exact hY.o _ _ rfl ⟨_,_,rfl,S'.o⟩
 clear E;rintro z1 I w6-⟨r,g,rfl,d⟩;simp[bz,lk];have HO:=zh d;clear d;go_wp2;exact hX.o _ _ _ zo rfl ⟨j+1,_,_,zo,rfl,by rw[show(v.aJ.length:Int)-1-((j+1:Nat):Int)=(i:Int)-1 by have:=HI.o;omega];rfl,HU.o.1,HO.o⟩
noncomputable def jr(d:Vd):Vd:=(kN d).getD (dn,dn)
noncomputable def XW(d:Vd):Int:=match kN d with
 |some _=>0
 |none=>11
theorem MkR.res{d:Vd}{M:Mem}{e:Ending}(h:MkR d M e):∃cs:List Value,e=.returned (.tuple #[.agg cs.toArray,.int .i64 (XW d)])/\cs.length=18/\(∀u∈cs,u.oneCell'=true)/\∃x y,cs=dw (jr d) x y/\aY M 16 x (jr d).1/\aY M 16 y (jr d).2:=by
 unfold MkR at h;unfold XW jr
 cases hc:kN d with
 |none=>
  rw[hc]at h
  exact⟨lZ.toList,h,rfl,by simp[Value.oneCell'],dI,dI,rfl,ezl,ezl⟩
 |some u=>
  rw[hc]at h;obtain⟨x,y,rfl,b,a⟩:=h;exact⟨dw u x y,rfl,rfl,fG b a,x,y,rfl,b,a⟩
theorem bzX{N:Nat}{d:Vd}(k:Wd N d):vW 16 (jr d):=by
 unfold jr
 cases hc:kN d with
 |none=>
  have b:kC 16 dn:=⟨V3 15,(Mv.bot 15).src.fit,(Mv.bot 15).cnt⟩
  exact⟨b,b⟩
 |some u=>
  obtain⟨c,a,h⟩:=Ih hc;exact(k.cnd ⟨c,a⟩).OA h
theorem Qc{N:Nat}(d:Vd)(x y:Sl)(m:Mem)(w:zW)(b:m.az w)(a:eD m)(g:aY m N x d.1)(f:aY m N y d.2)(k:Wd N d):
 zC 18 #[bQ d x y] w fun e w'=>∃cs:List Value,e=.returned (.tuple #[.agg cs.toArray,.int .i64 (XW d)])/\zB w w'/\cs.length=18/\(∀u∈cs,u.oneCell'=true)/\∃x y,cs=dw (jr d) x y/\aY (m.grow w w') 16 x (jr d).1/\aY (m.grow w w') 16 y (jr d).2:=by
 refine(Qb d x y m w b a g f k).mono ?_;rintro e w' ⟨c,h⟩;obtain⟨cs,e,h⟩:=h.res;exact⟨cs,e,c,h⟩
theorem EW(v:Vl)(x:Sl)(m:Mem)(w:zW)(b:m.az w)(a:aY m 3 x v)(s:OH 3 v):
 zC 19 #[.agg (aZ v x).toArray] w fun e w'=>∃T:List Value,e=.returned (.agg T.toArray)/\zB w w'/\T.length=9/\∃y,T=aZ (dR v) y/\aY (m.grow w w') 3 y (dR v):=by
 refine(R7 v x m w b a (by have:=s.l;omega) (by have:=s.s;omega) (fun c d=>by have:=(s.src.1.st c d).k;omega)).mono ?_;rintro e w' ⟨y,rfl,f,h⟩;exact⟨_,rfl,f,rfl,y,rfl,h⟩
theorem UM(a0 q p o n m l k j i h g f e d c b a:zV)(w:zW):(Instr.build 35 #[(0,.agg #[a0,q,p,o,n,m,l,k,j]),(1,.agg #[i,h,g,f,e,d,c,b,a])]).run prog w=.ok (.agg #[a0,q,p,o,n,m,l,k,j,i,h,g,f,e,d,c,b,a]) w:=by kernel_rfl
theorem Jt{A B:List Value}(b:A.length=9)(a:B.length=9)(w:zW):(Instr.build 35 #[(0,.agg A.toArray),(1,.agg B.toArray)]).run prog w=.ok (.agg (A++B).toArray) w:=by
 match A,b,B,a with
 |[a0,a1,a2,a3,a4,a5,a6,a7,a8],_,[b0,b1,b2,b3,b4,b5,b6,b7,b8],_=>exact UM a0 a1 a2 a3 a4 a5 a6 a7 a8 b0 b1 b2 b3 b4 b5 b6 b7 b8 w
theorem Gv{α:Type}(g:α->Nat)(l:List α):dK g l.reverse=dK g l:=by
 induction l with
 |nil=>rfl
 |cons x l ih=>rw[List.reverse_cons,fK,ih,cK,cK,mr];omega
theorem O6{n:Nat}{v:Vl}(s:OH (n+1) v):rJ (n+1) (dR v):=by
 have j:(dR v).aJ.length=2*v.aJ.length:=by have:=F4 (fun c:Lc=>[c,c]) (fun _=>rfl) v.aJ (zI _);rwa [xH zS]at this
 have g:(dR v).ay.length=2*v.ay.length:=by have:=F4 (fun c:St=>[(c.1,c.2.reverse),c]) (fun _=>rfl) v.ay (zI _);rwa [xH zS]at this
 have h:=s.src.1;refine⟨⟨h.i,h.fr,h.t,by have:=s.l;omega,by have:=s.s;omega,fun c d=>?_⟩,fun x a=>s.src.2 x (Kz a)⟩;obtain⟨e,b,rfl|rfl⟩:=o5.1 d
 .have k:=h.st e b;exact⟨k.f,by have:=k.k;simpa using this,k.lab,fun x a=>k.set x (by simpa using a)⟩
 .exact h.st _ b
theorem O8(n:Nat)(v:Vl):di (n+1) (dR v)<=2*di (n+1) v:=by
 rw[mo,mo];have a:dK (fun c=>dK (cv n) (aX c)) (dR v).aJ=2*dK (fun c=>dK (cv n) (aX c)) v.aJ:=by
  show dK _ (v.aJ.reverse.flatMap fun c=>[c,c])=_;rw[tC,Gv]
  induction v.aJ with
  |nil=>rfl
  |cons c l ih=>rw[cK,ih,cK,cK,cK,mr];omega
 have b:dK (fun c=>dK (cv n) (bJ c)) (dR v).ay=2*dK (fun c=>dK (cv n) (bJ c)) v.ay:=by
  show dK _ (v.ay.reverse.flatMap fun c=>[(c.1,c.2.reverse),c])=_;rw[tC,Gv]
  induction v.ay with
  |nil=>rfl
  |cons c l ih=>
   have e:dK (cv n) (bJ (c.1,c.2.reverse))=dK (cv n) (bJ c):=by
    unfold bJ;rw[fK,fK,List.map_reverse,Gv]
   rw[cK,ih,cK,cK,cK,mr,e];omega
 omega
theorem bzH{d:Vd}(s:kw d):Wd 3 (dR d.1,dR d.2):=by
 have h:=s.2.2;unfold cv at h;have a:di 3 (dR d.1)<=2*di 3 d.1:=O8 2 d.1;have b:di 3 (dR d.2)<=2*di 3 d.2:=O8 2 d.2;exact⟨⟨O6 s.1,by simp only;omega⟩,O6 s.2.1,by simp only;omega⟩
theorem Xu(d:Vd)(s:kw d)(k:iI d.1/\iI d.2)(M:Mem)(w:zW)(h:M.az w)(a:eD M)(c b:List Value)(g:∃y,c=aZ (dR d.1) y/\aY M 3 y (dR d.1))(f:∃y,b=aZ (dR d.2) y/\aY M 3 y (dR d.2)):
 zC 18 #[.agg (c++b).toArray] w fun e w'=>∃cs:List Value,e=.returned (.tuple #[.agg cs.toArray,.int .i64 (XW d)])/\zB w w'/\cs.length=18/\(∀u∈cs,u.oneCell'=true)/\∃x y,cs=dw (jr d) x y/\aY (M.grow w w') 16 x (jr d).1/\aY (M.grow w w') 16 y (jr d).2:=by
 obtain⟨x,rfl,j⟩:=g;obtain⟨y,rfl,i⟩:=f;have:=Qc (dR d.1,dR d.2) x y M w h a j i (bzH s);unfold XW jr at this⊢
 rwa [azc k.1 k.2]at this
theorem XX(d:Vd)(s:kw d)(h f g c:Sl)(M:Mem)(w:zW)(m:M.az w)(a:eD M)(l:aY M 16 h (jr d).1)(k:aY M 16 f (jr d).2)(j:aY M 16 g (jr d).1)(i:aY M 16 c (jr d).2):
 zX 11 #[bQ (jr d) h f,bQ (jr d) g c] w (.bool true):=by
 have b:=bzX s.lH;have:=MP (jr d) (jr d) h f g c M 16 w m a l k j i ⟨b.1.cnt,b.2.cnt⟩ ⟨b.1.cnt,b.2.cnt⟩ b.1.fit b.2.fit
 rwa [aN rfl,aN (show iI (jr d).1 from b.1.snd),aN (show iI (jr d).2 from b.2.snd)]at this
theorem FR(d:Vd)(x y:Sl)(m:Mem)(n:Nat)(w:zW)(hm:m.az w)(f':eD m)(h:UU n d x y m):
 zX 5 #[bQ d x y] w (.bool true):=by
 obtain⟨H,l1,c1,hO⟩:=iL 35 (dw d x y).toArray (Own.start hm);have HT:=zh (f'.le l1);have Z:=zh (h.le l1);have HE:=zh (fun w' (h:H.az w')=>QI H w' h HT.o);have HS:=zh (fun w' (h:H.az w')=>Pw d x y H w' h Z.o.h1 Z.o.h2);have HSO:=zh (fun(s:kw d) w' (h:H.az w')=>uJ d x y H 3 w' h HT.o (Z.o.low s).h1 (Z.o.low s).h2 s.1.src.fit s.2.1.src.fit s.cnt.1 s.cnt.2);have HM:=zh (fun(s:kw d) w' (h:H.az w')=>Qc d x y H w' h HT.o (Z.o.low s).h1 (Z.o.low s).h2 s.lH);have F':=zh (fun(s:kw d) (M:Mem) w' (h:M.az w') (t:H.le M)=>EW d.1 x M w' h ((Z.o.low s).h1.le t) s.1);have o':=zh (fun(s:kw d) (M:Mem) w' (h:M.az w') (t:H.le M)=>EW d.2 y M w' h ((Z.o.low s).h2.le t) s.2.1);have b':=zh (fun(s:kw d) (k:iI d.1/\iI d.2) (M:Mem) w' (h:M.az w') (t:H.le M) U J (k1:∃y,U=aZ (dR d.1) y/\aY M 3 y (dR d.1)) (k2:∃y,J=aZ (dR d.2) y/\aY M 3 y (dR d.2))=>Xu d s k M w' h (HT.o.le t) U J k1 k2);have HC:=zh (fun(w':zW) (h:H.az w') j u (hj:(dw d x y)[j]?=some u)=>azk h (c1 j u qdP));have HD:=zh qhN;have C0:H.cell w.heap.size 0=some (.bool d.1.any):=c1 0 _ rfl;have hl:(dw d x y).length=18:=rfl;have hN1:(aZ d.1 x).length=9:=rfl;have hN2:(aZ d.2 y).length=9:=rfl;have a':=zh hO;unfold bQ at*
 generalize dw d x y=D at*
 generalize aZ d.1 x=N1 at*
 generalize aZ d.2 y=N2 at*
 clear hO f' h l1 c1 Z;refine au fun R hR=>?_
 go_enter func5,ntmps5
 have r':∀j u,D[j]?=some u->World.cell? _ ⟨w.heap.size,0+j,none⟩=some u:=fun j u hj=>by rw[yZ];exact HC.o _ a'.o.az j u hj
 go_wp2_with (first
  |refine aj ek rfl (.tmp 1) rfl rfl D hl r' ?_
  | fail)
 refine(HS.o _ a'.o.az).mono ?_;rintro e w1 ⟨b,rfl,c,hs⟩;have G:=zh (a'.o.aT c);clear a' c r'
 cases b with
 |false=>
  clear hs
  go_wp2_with fail
  refine(HE.o _ G.o.az).mono ?_;rintro e wz ⟨rfl,K⟩;have HB:=zh (G.o.aT K).aF;clear G K;go_wp2
  exact hR.o _ _ ⟨rfl,HB.o⟩
 |true=>
 have i:=zh (hs rfl);clear hs;have r':∀j u,D[j]?=some u->World.cell? w1 ⟨w.heap.size,0+j,none⟩=some u:=fun j u hj=>by rw[yZ];exact HC.o _ G.o.az j u hj
 go_wp2_with (first
  |refine aj ek rfl (.tmp 1) rfl rfl D hl r' ?_
  | fail)
 refine(HSO.o i.o _ G.o.az).mono ?_;rintro e w2 ⟨rfl,c⟩;have F:=zh (G.o.aT c);clear G c r';by_cases v:iI d.1/\iI d.2
 case neg=>
  rw[show(tf (iI d.1)&&tf (iI d.2))=false from by rw[<-dz3];exact aG v];clear v
  go_wp2_with fail
  refine(HE.o _ F.o.az).mono ?_;rintro e wz ⟨rfl,K⟩;have HB:=zh (F.o.aT K).aF;clear F K;exact qaD
 rw[aN v.1,aN v.2];have X:=zh v;clear v;have r':∀j u,D[j]?=some u->World.cell? w2 ⟨w.heap.size,0+j,none⟩=some u:=fun j u hj=>by rw[yZ];exact HC.o _ F.o.az j u hj
 go_wp2_with (first
  |refine aj ek rfl (.tmp 1) rfl rfl D hl r' ?_
  | fail)
 refine(HM.o i.o _ F.o.az).mono ?_;rintro e w3 ⟨cs,rfl,c,sW,W',W⟩;obtain⟨Mx,A',lex,W⟩:=dzS (P:=fun M=>∃x y,cs=dw (jr d) x y/\aY M 16 x (jr d).1/\aY M 16 y (jr d).2) F.o c W;have s':=zh (A'.al lZ 35);have HX:=zh (zi lex W);obtain⟨er,i'⟩:∃er,er=XW d:=⟨_,rfl⟩;rw[<-i'];have c':=zh i';clear F c A' lex W r' i'
 go_upto_region 4 with(first
  | (refine aA ek rfl (.tmp 3) (.tmp 19) rfl (cs:=cs.toArray) rfl rfl rfl qhG (fun u hu=>W' u qdL) s'.o.obj ?_;intro w4 x' y';have I':=zh (s'.o.aQ x' y');clear s' x' y'))
 obtain⟨T,z',V,c2⟩:=I'.o.EX;have f:=zh (Mem.le_trans HX.o.1 V);have G':=zh (show ∃x y,cs=dw (jr d) x y/\aY T 16 x (jr d).1/\aY T 16 y (jr d).2 from by obtain⟨x,y,e,h1,h2⟩:=HX.o.2;exact⟨x,y,e,h1.le V,h2.le V⟩);have L':=zh (fun(w':zW) (h:T.az w') j u (hj:cs[j]?=some u)=>azk h (c2 j u qdP));have H':=zh z';clear I' z' V c2 HX;have D0:=bzv f.o C0;refine aW [3,4,5,6] (fun vs w'=>∃(M:Mem) (g:Nat) (cs2:List Value),vs=[.p w3.heap.size,.j er,.p g,.j er]/\T.le M/\(∃x y,cs2=dw (jr d) x y/\aY M 16 x (jr d).1/\aY M 16 y (jr d).2) /\
  Own w m w' M [.obj g 35 cs2.toArray]) ?_ ?_
 .intro Y hY;refine gV (fun j' w'=>j'≠12->T.az w') zk ?_;have p:=H'.o.dr;have hS:=p.az;refine aD 0 16 T.az rfl zk qe7 qfg hS qiw ?_;go_simp;refine aD 1 16 T.az rfl zk qe7 qfg hS (ax rfl fun w' hS'=>jI.exec (b:=w.heap.size) (off:=0) rfl zg hN1 (fun j u hj=>by rw[yZ];exact HC.o _ (bzw f.o hS') j u (by simpa using HD.o.1 j u hj))) ?_;go_simp;refine aD 3 16 T.az rfl zk qe7 qfg hS qiw ?_;go_simp;refine aD 4 16 T.az rfl zk qe7 qfg hS (ax rfl fun w' hS'=>jI.exec (b:=w.heap.size) (off:=9) rfl zg hN2 (fun j u hj=>HC.o _ (bzw f.o hS') (9+j) u (HD.o.2 j u hj))) ?_;go_simp;refine Bp 2 11 zk ?_ ?_
  .skip
   refine we rfl rfl (F'.o i.o T _ p.az f.o) ?_;rintro e U' ⟨U,rfl,c,lT1,r⟩;obtain⟨Ma,S,l,hv1⟩:=dzS (P:=fun M=>∃y,U=aZ (dR d.1) y/\aY M 3 y (dR d.1)) p c r;refine⟨_,rfl,.inr fun _=>bzw l S.az,?_⟩;go_simp;refine Bp 5 11 zk ?_ ?_
   .skip
    refine we rfl rfl (o'.o i.o Ma _ S.az (Mem.le_trans f.o l)) ?_;rintro e v' ⟨J,rfl,c,lT2,r⟩;obtain⟨Mb,L,le3,I⟩:=dzS (P:=fun M=>∃y,J=aZ (dR d.2) y/\aY M 3 y (dR d.2)) S c r;have a:=Mem.le_trans l le3;refine⟨_,rfl,.inr fun _=>bzw a L.az,?_⟩;go_simp;refine aD 6 16 (fun _=>True) rfl zk qe7 qfo trivial qhU ?_;go_simp;refine Bp 7 11 zk ?_ ?_
    .skip
     refine we rfl rfl (b'.o i.o X.o Mb _ L.az (Mem.le_trans f.o a) U J qd9 I) ?_;rintro e h' ⟨cs2,rfl,c,lc2,A,r⟩;rw[<-c'.o];obtain⟨Mc,n',C,hv3⟩:=dzS (P:=fun M=>∃x y,cs2=dw (jr d) x y/\aY M 16 x (jr d).1/\aY M 16 y (jr d).2) L c r;have le6:=Mem.le_trans a C;refine⟨_,rfl,.inr fun _=>bzw le6 n'.az,?_⟩;go_simp;refine aD 8 16 (fun _=>True) rfl zk qe7 qfo trivial qfn ?_;go_simp;refine aD 9 16 (fun _=>True) rfl zk qe7 qfo trivial qfn ?_;go_simp;refine aD 10 16 (fun _=>True) rfl zk qe7 qfo trivial qfn ?_;go_simp;refine aO 11 zk ?_;refine aM rfl rfl (aS zg ⟨.inr fun _=>bzw (le6) (n'.al lZ 35).az,?_⟩);have E':=n'.al lZ 35;go_simp;refine aO 12 zk (aM rfl rfl (kF ek (.tmp 5) (.tmp 30) rfl (cs:=cs2.toArray) zg zg rfl qes (fun u hu=>A u qdL) E'.obj (fun wq B E=>?_)));have hZ:=zh (E'.aQ B E);exact qgt
    .skip
     refine aM rfl rfl (aS zg ⟨.inr fun _=>bzw (a) (L.al lZ 35).az,?_⟩);have D':=L.al lZ 35;go_simp;refine aO 7 zk ?_;refine we rfl rfl (b'.o i.o X.o Mb _ D'.az (Mem.le_trans f.o a) U J qd9 I) ?_;rintro e h' ⟨cs2,rfl,c,lc2,A,r⟩;rw[<-c'.o];obtain⟨Mc,m',C,hv3⟩:=dzS (P:=fun M=>∃x y,cs2=dw (jr d) x y/\aY M 16 x (jr d).1/\aY M 16 y (jr d).2) D' c r;have le6:=Mem.le_trans a C;refine⟨_,rfl,.inr fun _=>bzw le6 m'.az,?_⟩;go_simp;refine aD 8 16 (fun _=>True) rfl zk qe7 qfo trivial qfn ?_;go_simp;refine aD 9 16 (fun _=>True) rfl zk qe7 qfo trivial qfn ?_;go_simp;refine aD 10 16 (fun _=>True) rfl zk qe7 qfo trivial qfn ?_;go_simp;refine aO 12 zk (aM rfl rfl (kF ek (.tmp 5) (.tmp 30) rfl (cs:=cs2.toArray) zg zg rfl qes (fun u hu=>A u qdL) m'.obj (fun wq B E=>?_)));have hZ:=zh (m'.aQ B E);exact qgt
   .skip
    refine aM rfl rfl (aS zg ⟨.inr fun _=>bzw (l) (S.al lZ 35).az,?_⟩);have C':=S.al lZ 35;go_simp;refine aO 5 zk ?_;refine we rfl rfl (o'.o i.o Ma _ C'.az (Mem.le_trans f.o l)) ?_;rintro e v' ⟨J,rfl,c,lT2,r⟩;obtain⟨Mb,l',le3,I⟩:=dzS (P:=fun M=>∃y,J=aZ (dR d.2) y/\aY M 3 y (dR d.2)) C' c r;have a:=Mem.le_trans l le3;refine⟨_,rfl,.inr fun _=>bzw a l'.az,?_⟩;go_simp;refine aD 6 16 (fun _=>True) rfl zk qe7 qfo trivial qhU ?_;go_simp;refine aO 7 zk ?_;refine we rfl rfl (b'.o i.o X.o Mb _ l'.az (Mem.le_trans f.o a) U J qd9 I) ?_;rintro e h' ⟨cs2,rfl,c,lc2,A,r⟩;rw[<-c'.o];obtain⟨Mc,k',C,hv3⟩:=dzS (P:=fun M=>∃x y,cs2=dw (jr d) x y/\aY M 16 x (jr d).1/\aY M 16 y (jr d).2) l' c r;have le6:=Mem.le_trans a C;refine⟨_,rfl,.inr fun _=>bzw le6 k'.az,?_⟩;go_simp;refine aD 8 16 (fun _=>True) rfl zk qe7 qfo trivial qfn ?_;go_simp;refine aD 9 16 (fun _=>True) rfl zk qe7 qfo trivial qfn ?_;go_simp;refine aD 10 16 (fun _=>True) rfl zk qe7 qfo trivial qfn ?_;go_simp;refine aO 12 zk (aM rfl rfl (kF ek (.tmp 5) (.tmp 30) rfl (cs:=cs2.toArray) zg zg rfl qes (fun u hu=>A u qdL) k'.obj (fun wq B E=>?_)));have hZ:=zh (k'.aQ B E);exact qgt
  .skip
   refine aM rfl rfl (aS zg ⟨.inr fun _=>bzw (Mem.le_refl _) (p.al lZ 35).az,?_⟩);have g':=p.al lZ 35;go_simp;refine aO 2 zk ?_;refine we rfl rfl (F'.o i.o T _ g'.az f.o) ?_;rintro e U' ⟨U,rfl,c,lT1,r⟩;obtain⟨Ma,Q,l,hv1⟩:=dzS (P:=fun M=>∃y,U=aZ (dR d.1) y/\aY M 3 y (dR d.1)) g' c r;refine⟨_,rfl,.inr fun _=>bzw l Q.az,?_⟩;go_simp;refine aO 5 zk ?_;refine we rfl rfl (o'.o i.o Ma _ Q.az (Mem.le_trans f.o l)) ?_;rintro e v' ⟨J,rfl,c,lT2,r⟩;obtain⟨Mb,O,le3,I⟩:=dzS (P:=fun M=>∃y,J=aZ (dR d.2) y/\aY M 3 y (dR d.2)) Q c r;have a:=Mem.le_trans l le3;refine⟨_,rfl,.inr fun _=>bzw a O.az,?_⟩;go_simp;refine aD 6 16 (fun _=>True) rfl zk qe7 qfo trivial qhU ?_;go_simp;refine aO 7 zk ?_;refine we rfl rfl (b'.o i.o X.o Mb _ O.az (Mem.le_trans f.o a) U J qd9 I) ?_;rintro e h' ⟨cs2,rfl,c,lc2,A,r⟩;rw[<-c'.o];obtain⟨Mc,N,C,hv3⟩:=dzS (P:=fun M=>∃x y,cs2=dw (jr d) x y/\aY M 16 x (jr d).1/\aY M 16 y (jr d).2) O c r;have le6:=Mem.le_trans a C;refine⟨_,rfl,.inr fun _=>bzw le6 N.az,?_⟩;go_simp;refine aD 8 16 (fun _=>True) rfl zk qe7 qfo trivial qfn ?_;go_simp;refine aD 9 16 (fun _=>True) rfl zk qe7 qfo trivial qfn ?_;go_simp;refine aD 10 16 (fun _=>True) rfl zk qe7 qfo trivial qfn ?_;go_simp;refine aO 12 zk (aM rfl rfl (kF ek (.tmp 5) (.tmp 30) rfl (cs:=cs2.toArray) zg zg rfl qes (fun u hu=>A u qdL) N.obj (fun wq B E=>?_)));have hZ:=zh (N.aQ B E);exact qgt
 clear H';rintro z vs w5-⟨M3,g,cs2,rfl,t,Z',hO⟩;simp[bz,lk];obtain⟨M4,p,a,c4⟩:=hO.EX;have q:=Mem.le_trans t a;obtain⟨x1,y1,e1,k1,k2⟩:=G'.o;obtain⟨x2,y2,e2,k3,k4⟩:=Z';have d':=zh (fun w' (h:M4.az w')=>XX d i.o x1 y1 x2 y2 M4 w' h (HT.o.le (Mem.le_trans f.o q)) (k1.le q) (k2.le q) (k3.le a) (k4.le a));have J':=zh (fun w' (h:M4.az w')=>HE.o w' (bzw (Mem.le_trans f.o q) h));have K':=zh (fun(w':zW) (h:M4.az w') j u (hj:cs2[j]?=some u)=>azk h (c4 j u qdP));have l2:cs2.length=18:=by rw[e2];rfl
 unfold bQ at d';rw[<-e1,<-e2]at d';have q1:∀j u,cs[j]?=some u->World.cell? w5 ⟨w3.heap.size,0+j,none⟩=some u:=fun j u hj=>by rw[yZ];exact L'.o _ (bzw q p.az) j u hj
 have q2:∀j u,cs2[j]?=some u->World.cell? w5 ⟨g,0+j,none⟩=some u:=fun j u hj=>by rw[yZ];exact K'.o _ p.az j u hj
 have q':=zh p;clear hO p t a c4 q e1 k1 k2 e2 k3 k4 HE G' HT L' K'
 go_wp2_with (first
  |refine aj ek rfl (.tmp 3) rfl rfl cs sW q1 ?_
  |refine aj ek rfl (.tmp 5) rfl rfl cs2 l2 q2 ?_
  | fail)
 refine(d'.o _ q'.o.az).mono ?_;rintro e w6 ⟨rfl,c⟩;have p':=zh (q'.o.aT c);clear q' d' c q1 q2
 go_wp2_with fail
 refine(J'.o _ p'.o.az).mono ?_;rintro e w7 ⟨rfl,c⟩;have HB:=zh (p'.o.aT c).aF;clear p' J' c;exact qaD
end Cl
