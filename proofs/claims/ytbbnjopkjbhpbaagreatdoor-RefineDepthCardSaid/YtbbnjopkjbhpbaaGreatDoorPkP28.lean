/- Lemmas for the proofs of chapter 11. -/
import Derived.Test.YtbbnjopkjbhpbaaGreatDoorPkP27
import Derived.Test.YtbbnjopkjbhpbaaGreatDoorPkP25
set_option maxRecDepth 100000
set_option maxHeartbeats 16000000
namespace Cl
open Go Go.RowKit Go.Proofs Tryz
theorem ize(op:ByteArray)(N:op=⟨#[60,61]⟩\/op=⟨#[62,61]⟩\/op=⟨#[61,61]⟩)(u:Int)(hv:dh u)(m:Mem)(w:zW)(hm:m.ay w):
 zC 91 #[.string op,.int .i64 u] w fun e w'=>∃I rf,e=.returned (.tuple #[.agg #[I,rf],.int .i64 0])/\zB w w'/\dH (m.grow w w') I rf (iF op.toList u).i (iF op.toList u).rf:=by
 have a:=((Own.start hm).al #[.slice none 0 0,.slice none 0 0] 24).al opsV 9;simp only[bC]at a;have hs:=fzl (mk:=m) a.obj;have X:=a.gU;have HK:=zh (FE _ opsL op _ _ X.ay hs);rw[dY (Yf op),aM (show known op.toList=true by rw[xE];rcases N with rfl|rfl|rfl<;>decide)]at HK;have HO:=zh a.tail;have HV:=zh (fun w'=>zn u w');clear a X hs;unfold opsV at HK HO;refine au fun R hR=>?_
 go_enter func91,ntmps91
 go_wp2_with fail
 refine HK.o.mono ?_;rintro e w1 ⟨rfl,V⟩;have b':=zh (HO.o.aS V);clear HK HO V
 go_wp2_with fail
 refine(HV.o _).mono ?_;rintro e w2 ⟨rfl,U⟩;have a:=b'.o.aS U;rw[zN hv];have G' : -1000000000000000<=u/\u<=1000000000000000:=by simpa [dh,iX]using hv
 have f':=zh (fun w'=>xy (u-1) w' zo zo);have F:=zh (fun w'=>xy (-u) w' zo zo);have E:=zh (fun w'=>xy u w' zo zo);have A:=zh (show qj (-100000000000,(u-1)/10000)/\qj (-1000000000000000,u-1)/\qj (-(-u/10000),u/10000)/\qj (u,u)by unfold qj;dsimp only;omega);have HEL0:=zh (show((Cu u).i.length<=1/\(Cu u).rf.length<=1)/\((CR u).i.length<=1/\(CR u).rf.length<=1)/\(KV u).i.length<=1/\(KV u).rf.length<=1 from
  ⟨⟨(jy (k:=1) zS zS).i,by rw[NS.rC];exact(jy (k:=1) zS zS).f⟩,⟨(jy (k:=1) zS zS).i,by rw[NS.rC];exact(jy (k:=1) zS zS).f⟩,(jy (k:=1) zS zS).i,by rw[NS.rC];exact(jy (k:=1) zS zS).f⟩)
 have e':=zh (show gG [(-100000000000,(u-1)/10000)] [(-1000000000000000,u-1)]=CR u from rfl);have g':=zh (show gG [(-(-u/10000),u/10000)] [(u,u)]=Cu u from rfl);have a':=zh a;have p':=zh (show -100000000001<=(u-1)/10000/\(u-1)/10000<=100000000000 /\ -100000000000 <= -u/10000 /\ -u/10000<=100000000000 by omega);clear U b' HV a
 go_wp2_with fail
 refine(f'.o _).mono ?_;rintro e w3 ⟨rfl,T⟩;have W:=a'.o.aS T;have d:=((W.al #[.int .i64 (-100000000000),.int .i64 ((u-1)/10000)] 100).al #[.int .i64 (-1000000000000000),.int .i64 (u-1)] 100);simp only[bC]at d;obtain⟨m',l1,p1,l⟩:=Dm d A.o.2.1;obtain⟨mk2,l2,p2,hO6⟩:=Dm l A.o.1;have D:=zh qi6;rw[e'.o]at D;have g:=zh hO6;clear f' a' T W d l hO6 l1 l2 p1 p2;generalize (u-1)/10000=f1 at*
 go_wp2_with fail
 refine D.o.mono ?_;rintro e H ⟨I,rf,rfl,S,hn⟩;obtain⟨y,r,t,p,rfl,rfl⟩:=hn.df;have j:=(g.o.call S).al #[.slice y (CR u).i.length r,.slice t (CR u).rf.length p] 24;have B:=zh (zi hn j);generalize mk2.grow _ H=jH at B;clear D g S hn j
 go_upto_region 6 with(fail)
 generalize hW:H.alloc (.cells #[.slice y (CR u).i.length r,.slice t (CR u).rf.length p] 24)=w5 at*
 generalize H.heap.size=g6 at*
 refine aV [0,4,6,7] (fun vs w'=>∃(mk2:Mem) (g7:Nat) (x3 x4:zV),vs=[.string op,.pointer (some ⟨w.heap.size,0,none⟩),.pointer (some ⟨g6,0,none⟩),.pointer (some ⟨g7,0,none⟩)] /\
  dH mk2 (.slice y (CR u).i.length r) (.slice t (CR u).rf.length p) (CR u).i (CR u).rf/\dH mk2 x3 x4 (Cu u).i (Cu u).rf /\
  Own w m w' mk2 [.obj g7 24 #[x3,x4],.obj g6 24 #[.slice y (CR u).i.length r,.slice t (CR u).rf.length p],.obj w.heap.size 24 #[.slice none 0 0,.slice none 0 0]]) ?_ ?_
 .intro Y hY
  go_wp2_with fail
  refine(F.o _).mono ?_;rintro e w6 ⟨rfl,Q⟩;have Z:=zh (B.o.2.aS Q);generalize I' : -u/10000=fm at*
  have v':=p'.o.2.2;clear F Q
  go_wp2_with fail
  refine(E.o _).mono ?_;rintro e w7 ⟨rfl,P⟩;have d:=(((Z.o.aS P).al #[.int .i64 (-fm),.int .i64 (u/10000)] 100).al #[.int .i64 u,.int .i64 u] 100);simp only[bC]at d;obtain⟨m',l1,p1,l⟩:=Dm d A.o.2.2.2;obtain⟨mk2,l2,p2,hO6⟩:=Dm l A.o.2.2.1;have D:=zh qi6;rw[g'.o]at D;have g:=zh (zi ((B.o.1.le l1).le l2) hO6);clear E Z P d l hO6 l1 l2 p1 p2;generalize u/10000=f2 at*
  go_wp2_with fail
  refine D.o.mono ?_;rintro e w8 ⟨I,rf,rfl,O,hn⟩;obtain⟨x,q,s,n,rfl,rfl⟩:=hn.df;have j:=(g.o.2.call O).al #[.slice x (Cu u).i.length q,.slice s (Cu u).rf.length n] 24;have C:=zh (zi (g.o.1.le (Mem_le_grow g.o.2.ay (w:=w8))) (zi hn j));clear D g O hn j;go_wp2;exact hY.o _ _ rfl ⟨_,_,_,_,rfl,C.o.1,C.o.2.1,C.o.2.2⟩
 rintro z vs H-⟨mk2,g7,x3,x4,rfl,n1,n2,a⟩;simp[bB,lk];obtain⟨x,q,s,n,rfl,rfl⟩:=n2.df;have b:=zh a;have d':=zh n1;have c':=zh n2;clear a n1 n2 F E B;have s1:=b.o.obj.c 0;have s2:=b.o.obj.c 1;have s3:=b.o.obj.lt;have s4:=b.o.av.obj.c 0;have s5:=b.o.av.obj.c 1;have s6:=b.o.av.obj.lt;have s7:=b.o.aP.obj.c 0;have s8:=b.o.aP.obj.c 1;have s9:=b.o.aP.obj.frozen 0;have F':=b.o.aP.obj.frozen 1;have E':=b.o.aP.obj.lt;rcases N with rfl|rfl|rfl
 .go_wp2_with fail
  have hf:iF (⟨#[60,61]⟩:ByteArray).toList u=KV u:=by rw[xE];simp[iF,Dr,Du]
  have a:=b.o;have G:=zh (IZ _ _ _ _ _ _ _ _ mk2 H a.ay d'.o c'.o qd5 qd5 qd5 qd5);rw[mR (Ci u),mR (zw u),ezN]at G;have HF:=zh hf;clear a hf;refine G.o.mono ?_;rintro e w5 ⟨I,rf,rfl,h,hn⟩;have a:=b.o.call h;clear h G;have a:=a.aP;have hf:=HF.o;obtain⟨M,L,K,J,rfl,rfl⟩:=hn.df;have g1:=a.obj.c 0;have g2:=a.obj.c 1;have g3:=a.obj.frozen 0;have g4:=a.obj.frozen 1;have g5:=a.obj.lt;have hO2:=(a.set 0 (.slice M (KV u).i.length L)).set 1 (.slice K (KV u).rf.length J);have g6:=hO2.obj.c 0;have g7:=hO2.obj.c 1;have Hk:=zh qiy;clear a hO2 hn hf;go_wp2;refine yV (v:=.tuple #[.agg #[.slice M (KV u).i.length L,.slice K (KV u).rf.length J],.int .i64 0]) qd4 rfl ?_;exact qje
 .go_wp2_with fail
  have hf:iF (⟨#[62,61]⟩:ByteArray).toList u=iO (CR u):=by rw[xE];simp[iF,Dr,Du,Dv,Dw]
  have a:=b.o;have G:=zh (AU _ _ _ _ mk2 H a.ay d'.o qd5 qd5);rw[mR (Ci u)]at G;have HF:=zh hf;clear a hf;refine G.o.mono ?_;rintro e w5 ⟨I,rf,rfl,h,hn⟩;have a:=b.o.call h;clear h G;have a:=a.aP;have hf:=HF.o;obtain⟨M,L,K,J,rfl,rfl⟩:=hn.df;have g1:=a.obj.c 0;have g2:=a.obj.c 1;have g3:=a.obj.frozen 0;have g4:=a.obj.frozen 1;have g5:=a.obj.lt;have hO2:=(a.set 0 (.slice M (iO (CR u)).i.length L)).set 1 (.slice K (iO (CR u)).rf.length J);have g6:=hO2.obj.c 0;have g7:=hO2.obj.c 1;have Hk:=zh qiy;clear a hO2 hn hf;go_wp2;refine yV (v:=.tuple #[.agg #[.slice M (iO (CR u)).i.length L,.slice K (iO (CR u)).rf.length J],.int .i64 0]) qd4 rfl ?_;exact qje
 .go_wp2_with fail
  have hf:iF (⟨#[61,61]⟩:ByteArray).toList u=Cu u:=by rw[xE];simp[iF,Dr,Du,Dv,Dw,Gt]
  have a:=b.o;have hn:=c'.o;have a:=b.o.aP;have g1:=a.obj.c 0;have g2:=a.obj.c 1;have g3:=a.obj.frozen 0;have g4:=a.obj.frozen 1;have g5:=a.obj.lt;have hO2:=(a.set 0 (.slice x (Cu u).i.length q)).set 1 (.slice s (Cu u).rf.length n);have g6:=hO2.obj.c 0;have g7:=hO2.obj.c 1;have Hk:=zh qiy;clear a hO2 hn hf;refine yV (v:=.tuple #[.agg #[.slice x (Cu u).i.length q,.slice s (Cu u).rf.length n],.int .i64 0]) qd4 rfl ?_;exact qje
abbrev zcS:Array Value:=#[.bool false,.bool false,.bool false,.slice none 0 0,.slice none 0 0,.slice none 0 0]
abbrev xk:Array Value:=#[.int .i64 3,.int .i64 10000,.string ⟨#[]⟩,.slice none 0 0,.slice none 0 0]
theorem gzz(w:zW):zX 175 #[.agg xk] w (.int .i64 0):=by
 have a:=(Own.start qfF).al xk 76;have r:=zh (fun w'=>zn 10000 w');have s:=zh (fun w'=>OT 3 10000 ⟨#[]⟩ none none 0 0 0 0 w');have m:=zh a;clear a;refine au fun R p=>?_
 go_enter func175,ntmps175
 go_wp2_with fail
 refine(s.o _).mono ?_;rintro e u ⟨rfl,l⟩;have a:=m.o.aS l;have x:=a.obj.c 0;have v:=a.obj.c 1;have g:=a.obj.c 4;have k:=a.obj.lt;have t:=zh a.az;clear m l;have f:=zh a;clear a
 go_wp2_with fail
 have a:=f.o;clear f g k;refine(r.o _).mono ?_;rintro e n ⟨rfl,d⟩;rw[show decide (dh 10000)=true from zN (by unfold dh iX;omega)];have g:=a.obj.c 4;have b:=a.aS d;have g:=b.obj.c 4;have k:=b.obj.lt;have h:=zh b.az;clear t d a b;go_wp2;refine aC [1,3] (fun q j i=>q=0/\j=[.pointer (some ⟨w.heap.size,0,none⟩),.int .i64 1]/\i=n) ?_ ?_
 .exact⟨_,rfl,rfl,rfl⟩
 rintro X z q j i y-⟨rfl,rfl,rfl⟩;simp[bB,lk];go_wp2;exact p.o _ _ ⟨rfl,h.o⟩
theorem gzX(w:zW):zX 176 #[.agg xk] w (.slice none 0 0):=by
 have a:=(Own.start qfF).al xk 76;have i:=a.obj.c 3;have h:=a.obj.c 4;have g:=a.obj.lt;have HB:=zh a.az;have f:=fun w=>Lib.run_eql_slice_nil (P:=prog) w 73 76 none 0 0 0 0 underlying73;clear a;refine au fun R hR=>?_
 go_enter func176,ntmps176
 go_wp2;refine aC [3,10,11,12] (fun q d b=>q=0/\d=[.slice none 0 0,.slice none 0 0,.int .i64 0,.int .i64 0]/\b=w.alloc (.cells xk 76)) ?_ ?_
 .exact⟨_,rfl,rfl,rfl⟩
 rintro X z q d b j-⟨rfl,rfl,rfl⟩;simp[bB,lk];exact qak
theorem ezd(w:zW):zX 136 #[.agg xk,.int .i64 1] w (.int .i64 0):=by
 have a:=(Own.start qfF).al xk 76;have p:=zh (fun w'=>gzz w');have r:=zh (fun w'=>gzX w');have g:=zh a;clear a;refine au fun R hR=>?_
 go_enter func136,ntmps136
 go_wp2_with fail
 refine(p.o _).mono ?_;rintro e s ⟨rfl,b⟩;have a:=g.o.aS b;obtain⟨n,m,l,k,j⟩:=a.obj.cs5;have i:=a.obj.lt;have c:=zh a;clear g b a
 go_wp2_with fail
 refine(r.o _).mono ?_;rintro e h ⟨rfl,b⟩;have HB:=zh (c.o.aS b).az;clear c b n m l k j i;go_wp2;refine aC [17,18,19] (fun q f d=>q=0/\f=[.slice none 0 0,.int .i64 0,.int .i64 0]/\d=h) ?_ ?_
 .exact⟨_,rfl,rfl,rfl⟩
 rintro X z q f d t-⟨rfl,rfl,rfl⟩;simp[bB,lk];exact qak
theorem czt(w:zW):zX 87 #[.agg xk] w (.int .i64 0):=by
 have b:=(Own.start qfF).al xk 76;have d:=zh (fun w'=>ezd w');have c:=zh b;clear b;refine au fun R hR=>?_
 go_enter func87,ntmps87
 go_wp2_with fail
 refine(d.o _).mono ?_;rintro e f ⟨rfl,a⟩;have HB:=zh (c.o.aS a).az;clear c a;exact qak
theorem BP:dh 10000:=by unfold dh iX;omega
theorem hz6(op:ByteArray)(q:op=⟨#[60,61]⟩\/op=⟨#[62,61]⟩\/op=⟨#[61,61]⟩)(m:Mem)(w:zW)(E:m.ay w):
 zC 60 #[.string op,.agg xk] w fun e w'=>∃p rf,e=.returned (.tuple #[.agg #[.bool false,.bool false,.bool false,p,rf,.slice none 0 0],.int .i64 0])/\zB w w'/\dH (m.grow w w') p rf (iF op.toList 10000).i (iF op.toList 10000).rf:=by
 have a:=((Own.start E).al xk 76).al #[.bool false,.bool false,.bool false,.slice none 0 0,.slice none 0 0,.slice none 0 0] 29;simp only[bC]at a;have u:=zh (ize op q 10000 BP m _ a.ay);have t:=zh a;clear a;refine au fun R hR=>?_;generalize iF op.toList 10000=x at*
 go_enter func60,ntmps60
 go_wp2_with fail
 refine u.o.mono ?_;rintro e r ⟨p,rf,rfl,k,d⟩;obtain⟨j,h,g,f,rfl,rfl⟩:=d.df;have l:=((t.o.call k).al #[.slice j x.i.length h,.slice g x.rf.length f] 24).av;have s:=zh d;have n:=zh l;clear u t k d l
 go_upto_region 3 with(fail)
 generalize F:r.alloc (.cells #[.slice j x.i.length h,.slice g x.rf.length f] 24)=M at*
 generalize r.heap.size=Q at*
 have a:=n.o;have d:=s.o;have P:=a.av.obj.c 0;have O:=a.av.obj.c 1;have N:=a.av.obj.lt;clear n s F;obtain⟨Y,X,W,V,U,T,L,K,J,I,H,G⟩:=a.obj.cf6;have S:=a.obj.lt;have b:Own _ _ _ _ (.obj _ 29 #[.bool false,.bool false,.bool false,.slice j x.i.length h,.slice g x.rf.length f,.slice none 0 0]::_):=((((((a.set 0 (.bool false)).set 1 (.bool false)).set 2 (.bool false)).set 3 (.slice j x.i.length h)).set 4 (.slice g x.rf.length f)).set 5 (.slice none 0 0));obtain⟨D,C,B,A,z,y⟩:=b.obj.cs6;have Hk:=zh (zi b.az (d.le b.done));clear b d a;go_wp2;refine yV (v:=.tuple #[.agg #[.bool false,.bool false,.bool false,.slice j x.i.length h,.slice g x.rf.length f,.slice none 0 0],.int .i64 0]) (by simp[results,results60,go_sem,D,C,B,A,z,y]) rfl ?_;exact qaW
def fzT(op:List UInt8)(M:Mem)(cs:List Value):Prop:=∃d c b a,cs=[.bool false,.bool false,.bool false,.slice d (iF op 10000).i.length c,.slice b (iF op 10000).rf.length a,.slice none 0 0]/\dH M (.slice d (iF op 10000).i.length c) (.slice b (iF op 10000).rf.length a) (iF op 10000).i (iF op 10000).rf
theorem azB(op:ByteArray)(a:op=⟨#[60,61]⟩\/op=⟨#[62,61]⟩\/op=⟨#[61,61]⟩)(m:Mem)(w:zW)(b:m.ay w):
 zC 60 #[.string op,.agg xk] w fun e w'=>∃cs:List Value,e=.returned (.tuple #[.agg cs.toArray,.int .i64 0])/\zB w w'/\cs.length=6/\(∀u∈cs,u.oneCell'=true)/\fzT op.toList (m.grow w w') cs:=by
 refine(hz6 op a m w b).mono ?_;rintro e w' ⟨j,rf,rfl,c,h⟩;obtain⟨i,g,f,d,rfl,rfl⟩:=h.df;exact⟨[_,_,_,_,_,_],rfl,c,rfl,by simp[Value.oneCell'],_,_,_,_,rfl,h⟩
theorem gzJ(w:zW):zC 58 #[.agg xk] w fun e w'=>∃cs:List Value,e=.returned (.tuple #[.agg cs.toArray,.int .i64 0])/\zB w w'/\cs.length=6/\∀u∈cs,u.oneCell'=true:=by
 have a:=((Own.start qfF).al xk 76).al zcS 29;simp only[bC]at a;have t:=zh (fun w'=>czt w');have x:=zh (fun w' (h:(Mem.of w).ay w')=>azB ⟨#[61,61]⟩ (.inr (.inr rfl)) (Mem.of w) w' h);have j:=zh a;clear a;refine au fun R s=>?_
 go_enter func58,ntmps58
 go_wp2_with fail
 refine(t.o _).mono ?_;rintro e B ⟨rfl,g⟩;have a:=(j.o.aS g).av;obtain⟨q,p,n,m,l⟩:=a.obj.cs5;have k:=a.obj.lt;have d:=zh a;clear j g a
 go_wp2_with fail
 refine(x.o _ d.o.ay).mono ?_;rintro e A ⟨cs,rfl,g,hl,i,-⟩;have c:=zh (d.o.aS g);clear d g q p n m l k
 go_wp2_with (refine aB wQ rfl (.tmp 2) (.tmp 30) rfl (cs:=cs.toArray) rfl rfl rfl qdY (fun u hu=>i u qdQ) c.o.av.obj ?_)
 intro z b f;have y:=zh (c.o.av.aW b f).az;have r:=wQ.load (P:=prog) (cs:=cs) hl b.all;clear c b f;go_wp2;refine yV (v:=.tuple #[.agg cs.toArray,.int .i64 0]) (ek results58 rfl r) rfl ?_;exact s.o _ _ ⟨cs,rfl,y.o,hl,i⟩
theorem izL(c:UInt8)(E:c=60\/c=62)(m:Mem)(w:zW)(J:m.ay w):zC 41 #[.string ⟨#[c,61]⟩,.agg xk] w fun e w'=>∃cs:List Value,e=.returned (.tuple #[.agg cs.toArray,.int .i64 0])/\zB w w'/\cs.length=6/\(∀u∈cs,u.oneCell'=true)/\fzT [c,61] (m.grow w w') cs:=by
 have B:=((Own.start J).al xk 76).al zcS 29;simp only[bC]at B;have N:=zh (fun w'=>gzJ w');have H:=zh (fun(M:Mem) w' (h:M.ay w')=>azB ⟨#[c,61]⟩ (by rcases E with rfl|rfl<;>simp) M w' h);rw[xE]at H;have F:=zh B;clear B;refine au fun R K=>?_
 go_enter func41,ntmps41
 go_wp2_with fail
 refine(N.o _).mono ?_;rintro e Y ⟨L,rfl,n,A,z⟩;have a:=(F.o.aS n).al zcS 29;obtain⟨y,x,t,s,r⟩:=a.aP.obj.cs5;have q:=a.aP.obj.lt;have i:=zh a;clear F n a
 go_upto_region 2 with(refine aB wQ rfl (.tmp 6) (.tmp 12) rfl (cs:=L.toArray) rfl rfl rfl (by simpa using A) (fun u hu=>z u qdQ) i.o.obj ?_;intro X j l;have a:=(i.o.aW j l).tail;clear y x t s r q j l)
 have a:=a.av;obtain⟨y,x,t,s,r⟩:=a.obj.cs5;have q:=a.obj.lt;have g:=zh a;clear i a;rcases E with rfl|rfl
 all_goals
  go_wp2_with fail
  refine(H.o m _ g.o.ay).mono ?_;rintro e W ⟨cs,rfl,n,hl,C,D⟩;have p:=g.o.call n;have f:=zh p;have O:=zh D;clear g n p D y x t s r q
  go_wp2_with (refine aB wQ rfl (.tmp 4) (.tmp 43) rfl (cs:=cs.toArray) rfl rfl rfl qdY (fun u hu=>C u qdQ) f.o.av.obj ?_)
  intro V b k;have d:=f.o.av.aW b k;have I:=wQ.load (P:=prog) (cs:=cs) hl b.all;have G:=zh (zi d.az d.done);clear f b k d;go_wp2;refine yV (v:=.tuple #[.agg cs.toArray,.int .i64 0]) (ek results41 rfl I) rfl ?_;obtain⟨U,T,S,Q,rfl,h⟩:=O.o;exact K.o _ _ ⟨_,rfl,G.o.1,hl,C,_,_,_,_,rfl,h.le G.o.2⟩
structure SF (p:El->Prop) (M:Mem) (s:RS) (ui uf ut:zV):Prop where
 at':dD M ui uf ut s
 is:jT p s
 le:jS s 8 8
theorem SF.up{p:El->Prop}{m M:Mem}{s:RS}{c d b:zV}(h:SF p m s c d b)(a:m.le M):SF p M s c d b:=⟨h.at'.le a,h.is,h.le⟩
def QE(e:El):Prop:=∃u,e=.num u/\dh u/\u<=10000
def UM(e:El):Prop:=∃u,e=.num u/\dh u/\10000<=u
def xm(op:List UInt8):RS:=⟨false,false,false,(iF op 10000).i,(iF op 10000).rf,[]⟩
theorem Hf{op:List UInt8}{p:El->Prop}(hk:known op=true)(a:∀e,p e↔(match e with|.num v=>dh v/\czT op v 10000|_=>False)):jT p (xm op):=by
 unfold xm;exact jk (x:=iF op 10000) (by rw[a];simp) (by rw[a];simp) (by rw[a];simp) (Zn op _) (fun v=>by rw[VC hk,a]) eD (fun w=>by rw[a];simp[dn eD,hzR])
theorem DV(op:List UInt8):jS (xm op) 8 8:=by
 have h:=Zo op 10000;unfold xm;exact⟨by simp only;omega,by simp only;omega,zG _⟩
theorem gzQ(e:El):QE e↔(match e with|.num v=>dh v/\czT [60,61] v 10000|_=>False):=by
 unfold QE
 cases e with
 |num u=>exact⟨fun⟨v,e,b,a⟩=>(by cases e;exact⟨b,a⟩),fun h=>⟨u,rfl,h.1,h.2⟩⟩
 |_=>exact⟨fun⟨v,e,_⟩=>(by cases e),fun h=>h.elim⟩
theorem gzV(e:El):UM e↔(match e with|.num v=>dh v/\czT [62,61] v 10000|_=>False):=by
 unfold UM
 cases e with
 |num u=>exact⟨fun⟨v,e,b,a⟩=>(by cases e;exact⟨b,a⟩),fun h=>⟨u,rfl,h.1,h.2⟩⟩
 |_=>exact⟨fun⟨v,e,_⟩=>(by cases e),fun h=>h.elim⟩
theorem bz7(w:zW):(Instr.build 76 #[(0,.int .i64 3),(1,.int .i64 10000)]).run prog w=.ok (.agg #[.int .i64 3,.int .i64 10000,.string ⟨#[]⟩,.slice none 0 0,.slice none 0 0]) w:=by kernel_rfl
theorem izu{c:UInt8}{p:El->Prop}(I:c=60\/c=62)(N:∀e,p e↔(match e with|.num v=>dh v/\czT [c,61] v 10000|_=>False))(m:Mem)(w:zW)(Q:m.ay w):zC 26 #[.string ⟨#[c,61]⟩,.int .i64 10000] w fun e w'=>∃s F G E,e=.returned ((Vl.mk false s [] []).val ⟨F,G,E,.slice none 0 0,.slice none 0 0⟩)/\zB w w'/\SF p (m.grow w w') s F G E:=by
 have J:=(Own.start Q).al Sz 33;have hk:known [c,61]=true:=by rcases I with rfl|rfl<;>decide
 have K:=zh (fun w' (h:m.ay w')=>izL c I m w' h);have C:=zh J;have A:=bz7;have S:=fun a0 Y X W V U w=>J8 a0 Y X W V U w;clear J;refine au fun R T=>?_
 go_enter func26,ntmps26
 go_wp2_with fail
 refine(K.o _ C.o.ay).mono ?_;rintro e w1 ⟨cs,rfl,x,hl,O,H⟩;have z:=(C.o.call x).al zcS 29;have f:=zh z;have D:=zh H;clear C K x H z A;obtain⟨l,k,j,g,rfl,h⟩:=D.o;have D:=zh h;clear h
 go_wp2_with (first
  |(refine aB wQ rfl (.tmp 5) (.tmp 12) rfl (cs:=#[.bool false,.bool false,.bool false,.slice l (iF [c,61] 10000).i.length k,.slice j (iF [c,61] 10000).rf.length g,.slice none 0 0]) rfl rfl rfl rfl (fun u L=>O u L) f.o.obj ?_;intro w2 q t;have b:=f.o.aW q t;have y:=b.obj.all (cs:=[.bool false,.bool false,.bool false,.slice l (iF [c,61] 10000).i.length k,.slice j (iF [c,61] 10000).rf.length g,.slice none 0 0]);have d:=zh b;clear f b q t)
  |refine aj wQ rfl (.tmp 5) rfl rfl [.bool false,.bool false,.bool false,.slice l (iF [c,61] 10000).i.length k,.slice j (iF [c,61] 10000).rf.length g,.slice none 0 0] rfl y ?_
  | refine aB kK rfl (.tmp 4) (.tmp 15) rfl (cs:=(bu (.mk false (xm [c,61]) [] []) ⟨.slice l (iF [c,61] 10000).i.length k,.slice j (iF [c,61] 10000).rf.length g,.slice none 0 0,.slice none 0 0,.slice none 0 0⟩).toArray) rfl rfl rfl rfl (by simp[bu,Value.oneCell']) d.o.av.obj ?_)
 intro Z n r;have a:=d.o.av.aW n r;have M:=kK.load (P:=prog) (cs:=bu (.mk false (xm [c,61]) [] []) ⟨.slice l (iF [c,61] 10000).i.length k,.slice j (iF [c,61] 10000).rf.length g,.slice none 0 0,.slice none 0 0,.slice none 0 0⟩) rfl n.all;have B:=zh (zi a.az (D.o.le a.done));clear d a r y;go_wp2;refine yV (kC results26 rfl M) rfl ?_;exact T.o _ _ ⟨xm [c,61],_,_,_,rfl,B.o.1,⟨B.o.2.1,B.o.2.2,fM _ _⟩,Hf hk N,DV _⟩
def czm:RS:=⟨false,false,false,jb,[],[]⟩
theorem fzM(m:Mem)(w:zW)(r:m.ay w):
 zC 24 #[.string ⟨#[105,110,116]⟩] w fun e w'=>∃k l st,e=.returned (.tuple #[czm.val k l st,.int .i64 0])/\zB w w'/\dD (m.grow w w') k l st czm:=by
 have p:=(Own.start r).al zcS 29;have u:=zh (fun w' (h:m.ay w')=>I1 m w' h);have j:=zh p;clear p;refine au fun R s=>?_
 go_enter func24,ntmps24
 go_wp2_with fail
 refine(u.o _ j.o.ay).mono ?_;rintro e y ⟨z,rfl,n,d⟩;obtain⟨i,g,rfl,-⟩:=id d;have c:=zh (j.o.call n);have t:=zh d;clear j n d
 go_wp2_with (refine aB wQ rfl (.tmp 2) (.tmp 14) rfl (cs:=#[.bool false,.bool false,.bool false,.slice i jb.length g,.slice none 0 0,.slice none 0 0]) rfl rfl rfl rfl qdS c.o.obj ?_)
 intro x a f;have b:=c.o.aW a f;have d:=wQ.load (P:=prog) (cs:=[.bool false,.bool false,.bool false,.slice i jb.length g,.slice none 0 0,.slice none 0 0]) rfl a.all;have q:=zh (zi b.az (bZ b.done t.o));clear c a f b;go_wp2;refine yV (v:=.tuple #[.agg #[.bool false,.bool false,.bool false,.slice i jb.length g,.slice none 0 0,.slice none 0 0],.int .i64 0]) (ek results24 rfl d) rfl ?_;exact s.o _ _ ⟨_,_,_,rfl,q.o.1,q.o.2,bQ _,dJ _⟩
theorem Pt(m:Mem)(w:zW)(hm:m.ay w):
 zC 46 #[.string ⟨#[97]⟩] w fun e w'=>∃r,e=.returned (.agg #[r])/\zB w w'/\aU (m.grow w w') r wJ:=by
 have hO:=((((((Own.start hm).al #[.slice (some ⟨w.heap.size+1+1+1+1,0,none⟩) 3 3] 27).al #[.int .u8 0,.int .u8 96,.int .i64 1,.int .u8 97,.int .u8 97,.int .i64 2,.int .u8 98,.int .u8 255,.int .i64 1] 102).al #[.int .u8 0,.int .u8 255,.int .i64 1] 102).al #[.int .u8 0,.int .u8 255,.int .i64 1] 102).al #[.bool true,.slice (some ⟨w.heap.size+1,0,none⟩) 3 3,.bool true,.slice (some ⟨w.heap.size+1+1,0,none⟩) 1 1,.bool false,.slice (some ⟨w.heap.size+1+1+1,0,none⟩) 1 1] 105);simp only[bC]at hO;have g0:=hO.fifth.obj.c 0;have gl:=hO.fifth.obj.lt;have c4:=fun(i:Nat) (u:zV) hi=>Mem_cell_le hO.gU.done qfH;have c3:=fun(i:Nat) (u:zV) hi=>Mem_cell_le hO.av.gU.done (Mem_add_cell (m:=m) hO.av.obj (i:=i) (v:=u) hi);have c2:=fun(i:Nat) (u:zV) hi=>Mem_cell_le hO.aP.gU.done (Mem_add_cell (m:=m) hO.aP.obj (i:=i) (v:=u) hi);have c1:=fun(i:Nat) (u:zV) hi=>Mem_cell_le hO.bR.gU.done (Mem_add_cell (m:=m) hO.bR.obj (i:=i) (v:=u) hi);have one:∀(M:Mem) (g:Nat),(∀(i:Nat) (u:zV),(#[.int .u8 0,.int .u8 255,.int .i64 1]:Array Value)[i]?=some u->M.cell g i=some u)->kH M (.slice (some ⟨g,0,none⟩) 1 1) [⟨0,255,1⟩]:=fun M g h=>
  ⟨_,1,rfl,zI _,by simp[maxLen],fun _=>⟨g,0,rfl,fun i hi=>by
   obtain rfl:i=0:=by simpa using hi
   exact⟨h 0 _ rfl,h 1 _ rfl,h 2 _ rfl,(by decide:(0:Nat)<256),(by decide:(255:Nat)<256),(by decide:(-9223372036854775808:Int)<=1),(by decide:(1:Int)<=9223372036854775807)⟩⟩⟩
 have HS:=zh (show aU (m.grow w _) (.slice (some ⟨w.heap.size+1+1+1+1,0,none⟩) 3 3) wJ from
  ⟨_,3,rfl,zI _,by simp[maxLen],fun _=>⟨_,0,rfl,fun i hi=>by
   have hi:i<3:=hi
   match i,hi with
   |0,_=>
    refine⟨c4 0 _ rfl,_,c4 1 _ rfl,_,3,rfl,zI _,by simp[maxLen],fun _=>⟨_,0,rfl,fun i hi=>?_⟩⟩;have hi:i<3:=hi
    match i,hi with
    |0,_=>exact⟨c1 0 _ rfl,c1 1 _ rfl,c1 2 _ rfl,(by decide:(0:Nat)<256),(by decide:(96:Nat)<256),(by decide:(-9223372036854775808:Int)<=1),(by decide:(1:Int)<=9223372036854775807)⟩
    |1,_=>exact⟨c1 3 _ rfl,c1 4 _ rfl,c1 5 _ rfl,(by decide:(97:Nat)<256),(by decide:(97:Nat)<256),(by decide:(-9223372036854775808:Int)<=2),(by decide:(2:Int)<=9223372036854775807)⟩
    |2,_=>exact⟨c1 6 _ rfl,c1 7 _ rfl,c1 8 _ rfl,(by decide:(98:Nat)<256),(by decide:(255:Nat)<256),(by decide:(-9223372036854775808:Int)<=1),(by decide:(1:Int)<=9223372036854775807)⟩
   |1,_=>exact⟨c4 2 _ rfl,_,c4 3 _ rfl,one _ _ c2⟩
   | 2,_=>exact⟨c4 4 _ rfl,_,c4 5 _ rfl,one _ _ c3⟩⟩⟩)
 have HB:=zh hO.az;have hb:(({ data:=#[97] }:ByteArray)[0]'zD).toNat=97:=rfl;clear hO c1 c2 c3 c4 one;refine au fun R hR=>?_
 go_enter func46,ntmps46
 go_wp2;refine yV (v:=.agg #[.slice (some ⟨w.heap.size+1+1+1+1,0,none⟩) 3 3]) (by simp[results,results46,go_sem,g0]) rfl ?_;exact hR.o _ _ ⟨_,rfl,HB.o,HS.o⟩
def Bi(n:Nat)(l:List Fd)(M:Mem)(v:zV):Prop:=gN (bq M n) M v l
def CP(n:Nat)(l:List Kl)(M:Mem)(v:zV):Prop:=gP (bq M n) M v l
def VJ(T:aK)(M:Mem)(v:zV):Prop:=∃r,v=.agg #[r]/\aU M r T
def KlV(T:aK)(D:List Value)(M:Mem)(v:zV):Prop:=∃r,v=.agg (r::D).toArray/\aU M r T
theorem Bi.le{n:Nat}{l:List Fd}{m M:Mem}(h:m.le M){v:zV}(k:Bi n l m v):Bi n l M v:=gN.le h (fun _ _ k=>k.le h) k
theorem CP.le{n:Nat}{l:List Kl}{m M:Mem}(h:m.le M){v:zV}(k:CP n l m v):CP n l M v:=gP.le h (fun _ _ k=>k.le h) k
theorem VJ.le{T:aK}{m M:Mem}(h:m.le M){v:zV}(k:VJ T m v):VJ T M v:=by obtain⟨r,e,k⟩:=k;exact⟨r,e,aX h k⟩
theorem KlV.le{T:aK}{D:List Value}{m M:Mem}(h:m.le M){v:zV}(k:KlV T D m v):KlV T D M v:=by obtain⟨r,e,k⟩:=k;exact⟨r,e,aX h k⟩
theorem fzz{m:Mem}{w:zW}(d:m.ay w){n:Nat}{f:Fd}{x y:Sl}(c:bq m n x f.2.1)(b:bq m n y f.2.2)(g:f.1.1.size<=maxLen)(e : -9223372036854775808<=f.1.2/\f.1.2<=9223372036854775807):
 Bi n [f] (m.grow w (w.alloc (.cells (qI f x y).toArray 82))) (.slice (some ⟨w.heap.size,0,none⟩) 1 1):=by
 have hO:=(Own.start d).al (qI f x y).toArray 82;have a:=fun(i:Nat) (u:zV) hi=>Mem_cell_le hO.gU.done qfH;refine⟨_,1,rfl,zI _,by simp[maxLen],fun _=>⟨_,0,rfl,fun i hi=>?_⟩⟩;obtain rfl:i=0:=by simpa using hi
 exact⟨a 0 _ rfl,g,a 1 _ rfl,e,.of (fun j u hj=>by have:=a (2+j) u qij;simpa using this) (c.le hO.done) (b.le hO.done)⟩
theorem fzv{m:Mem}{w:zW}(e:m.ay w){n:Nat}{k:Kl}{r:zV}{x y:Sl}(d:aU m r k.1)(c:bq m n x k.2.1)(b:bq m n y k.2.2):
 CP n [k] (m.grow w (w.alloc (.cells (ow k r x y).toArray 68))) (.slice (some ⟨w.heap.size,0,none⟩) 1 1):=by
 have hO:=(Own.start e).al (ow k r x y).toArray 68;have a:=fun(i:Nat) (u:zV) hi=>Mem_cell_le hO.gU.done qfH;refine⟨_,1,rfl,zI _,by simp[maxLen],fun _=>⟨_,0,rfl,fun i hi=>?_⟩⟩;obtain rfl:i=0:=by simpa using hi
 exact⟨⟨r,a 0 _ rfl,aX hO.done d⟩,.of (fun j u hj=>by have:=a (1+j) u qik;simpa using this) (c.le hO.done) (b.le hO.done)⟩
theorem Zh(s:ByteArray)(p:Int)(a0 r q o n m l k j i h g f e d c b a:zV)(w:zW):(Instr.build 82 #[(0,.string s),(1,.int .i64 p),(2,.agg #[a0,r,q,o,n,m,l,k,j,i,h,g,f,e,d,c,b,a])]).run prog w=.ok (.agg #[.string s,.int .i64 p,a0,r,q,o,n,m,l,k,j,i,h,g,f,e,d,c,b,a]) w:=by kernel_rfl
theorem dzS(s:ByteArray)(p:Int){D:List Value}(a:D.length=18)(w:zW):(Instr.build 82 #[(0,.string s),(1,.int .i64 p),(2,.agg D.toArray)]).run prog w=.ok (.agg (.string s::.int .i64 p::D).toArray) w:=by
 match D,a with
 |[a0,a1,a2,a3,a4,a5,a6,a7,a8,b0,b1,b2,b3,b4,b5,b6,b7,b8],_=>exact Zh s p a0 a1 a2 a3 a4 a5 a6 a7 a8 b0 b1 b2 b3 b4 b5 b6 b7 b8 w
theorem Q8{P:Program}{w:zW}{o:Oper}{d:Operand->Value}{t:TypeId}{x y z:Operand}{a b c r:zV}(e:o.op=Op.build t #[(0,x),(1,y),(2,z)])(h:d x=a)(g:d y=b)(f:d z=c)(i:(Instr.build t #[(0,a),(1,b),(2,c)]).run P w=.ok r w):(execOp d o).run P w=.ok (.value r) w:=by
 simp[execOp,e,h,g,f,i,Result.andThen]
theorem bz2(a b:Option Addr)(n k c e:Nat)(w:zW):(Instr.build 62 #[(0,.slice a n c),(1,.slice b k e)]).run prog w=.ok (.agg #[.slice a n c,.slice b k e]) w:=by kernel_rfl
theorem Qf{n:Nat}(p:Int)(hp:p=1\/p=2)(d:Vd)(x y:Sl)(m:Mem)(w:zW)(hm:m.ay w)(h1:bq m (n+1) x d.1)(h2:bq m (n+1) y d.2):
 zC 29 #[.string ⟨#[97]⟩,.int .i64 p,bP d x y] w fun e w'=>∃u S,e=.returned (.agg #[u,S])/\zB w w'/\Bi (n+1) (opC p d).1 (m.grow w w') u/\CP (n+1) (opC p d).2 (m.grow w w') S:=by
 have F:=((Own.start hm).al (dC d x y).toArray 35).al #[.slice none 0 0,.slice none 0 0] 62;simp only[bC]at F;have hl:(dC d x y).length=18:=rfl;have c':Gu.size<=maxLen:=by decide
 have b' : -9223372036854775808<=p/\p<=9223372036854775807:=zo;have Q:=zh (fun(w':zW) (h:m.ay w')=>fzz (f:=((Gu,p),d)) h h1 h2 c' b');have O:=zh (fun(M:Mem) (w':zW) (h:M.ay w') r (T:aU M r wJ)=>fzv (n:=n+1) (k:=(wJ,(fE,fE))) (x:=dR) (y:=dR) h T VAt_up_leaf VAt_up_leaf);have X:=zh F;have lT:(dC (fE,fE) dR dR).length=18:=rfl;unfold bP;rw[show qI ((Gu,p),d) x y=.string ⟨#[97]⟩::.int .i64 p::dC d x y from rfl]at Q;simp only[show ∀r,ow (wJ,(fE,fE)) r dR dR=r::dC (fE,fE) dR dR from fun r=>rfl]at O;generalize dC d x y=D at*
 clear F h1 h2;refine au fun R hR=>?_
 go_enter func29,ntmps29
 go_upto_region 1 with(fail)
 refine aV [6] (fun vs w'=>∃(W:Mem) (u S:zV),vs=[.pointer (some ⟨w.heap.size+1,0,none⟩)]/\Own w m w' W [.obj (w.heap.size+1) 62 #[u,S]]/\Bi (n+1) (opC p d).1 W u/\CP (n+1) (opC p d).2 W S) ?_ ?_
 .intro Y hY;refine bF 10 8 (fun j=>[aI.is (·=.string ⟨#[97]⟩),aI.is (·=.int .i64 p),aI.is (·=.agg D.toArray),aI.is (·=.agg (.string ⟨#[97]⟩::.int .i64 p::D).toArray),aI.mem m [4] (Bi (n+1) (opC p d).1),aI.is (·=.string ⟨#[97]⟩),aI.mem m [6] (VJ wJ),aI.is (·=bP (fE,fE) dR dR),aI.mem m [6] (KlV wJ (dC (fE,fE) dR dR)),aI.mem m [9,6] (CP (n+1) (opC p d).2)].getD j aI.any) zk zk ?_ ?_
  .intro i hi o g a v ho q;have s:=X.o.dr.aS q.az;rcases(show i=0\/i=1\/i=2\/i=3\/i=4\/i=5\/i=6\/i=7\/i=8\/i=9 by omega)with rfl|rfl|rfl|rfl|rfl|rfl|rfl|rfl|rfl|rfl
   .have e0:=q.k 0;exact qaa
   .have e1:=q.k 1;exact qaa
   .have e5:=q.k 5;cases ho;refine aJ rfl rfl (aO (dU.exec (b:=w.heap.size) (off:=0) rfl zg hl s.av.obj.all) ⟨_,rfl,zR _ _,rfl⟩)
   .have e7:zt a 7 _:=q.d 0 rfl;have e8:zt a 8 _:=q.d 1 rfl;have e9:zt a 9 _:=q.d 2 rfl;have f8:=(zY (xs:=a.tmps) (i:=8) (d:=undef)).symm.trans e8;have f9:=(zY (xs:=a.tmps) (i:=9) (d:=undef)).symm.trans e9;have f7:=(zY (xs:=a.tmps) (i:=7) (d:=undef)).symm.trans e7;cases ho;refine aJ rfl rfl (aO (Q8 rfl zg zg zg (dzS _ _ hl v)) ⟨_,rfl,zR _ _,rfl⟩)
   .have j':a.tmps.getD 10 undef=_:=q.d 3 rfl;have C':=(zY (xs:=a.tmps) (i:=10) (d:=undef)).symm.trans j';cases ho;refine aJ rfl rfl (BN Ti uh VX rfl zo (.tmp 10) rfl (cs:=(Value.string ⟨#[97]⟩::Value.int .i64 p::D).toArray) zg qeo ⟨_,rfl,cu (zR _ _) _,fO Bi.le s.ay qiN (show Bi (n+1) (opC p d).1 _ _ from Q.o v s.ay)⟩)
   .have e0:=q.k 0;exact qaa
   .have H':a.tmps.getD 12 undef=_:=q.d 5 rfl;cases ho;refine we rfl rfl (Pt m v s.ay) ?_;rintro e w' ⟨r,rfl,hb,T⟩;exact⟨_,rfl,_,rfl,hb,fO VJ.le s.ay hb ⟨r,rfl,T⟩⟩
   .cases ho;refine we rfl rfl (Td v) ?_;exact qab
   .have i':(aI.mem m [6] (VJ wJ)).holds (a.tmps.getD 13 undef) g v:=q.d 6 rfl;have h':a.tmps.getD 14 undef=_:=q.d 7 rfl;have z':=(zY (xs:=a.tmps) (i:=14) (d:=undef)).symm.trans h';cases ho;obtain⟨r,A,L⟩:VJ wJ _ _:=i';have A':=(zY (xs:=a.tmps) (i:=13) (d:=undef)).symm.trans A;exact aJ rfl rfl (aO (nL rfl zg zg (R3 r lT v)) ⟨_,rfl,zR _ _,rF [6] (R:=KlV wJ (dC (fE,fE) dR dR)) g zS (fun d hd=>(q.iZ d qeh).2.2) ⟨r,rfl,L⟩⟩)
   .have g':(aI.mem m [6] (KlV wJ (dC (fE,fE) dR dR))).holds (a.tmps.getD 15 undef) g v:=q.d 8 rfl;cases ho;obtain⟨r,A,L⟩:KlV wJ _ _ _:=g';have y':=(zY (xs:=a.tmps) (i:=15) (d:=undef)).symm.trans A;refine aJ rfl rfl (BN Tg sw VW rfl zo (.tmp 15) rfl (cs:=(r::dC (fE,fE) dR dR).toArray) zg (by simp[lT]) ⟨_,rfl,cu (zR _ _) _,kN (ds:=[6]) CP.le s.ay zS (fun d hd=>(q.iZ d qeh).2.2) qiN (O.o _ v (Mem_wins_inn s.ay g [6]) r L)⟩)
  .intro g a v E;have V:(aI.mem m [4] (Bi (n+1) (opC p d).1)).holds (a.tmps.getD 11 undef) g v:=E.fact 4 _ zo rfl;have U:(aI.mem m [9,6] (CP (n+1) (opC p d).2)).holds (a.tmps.getD 16 undef) g v:=E.fact 9 _ zo rfl;have e6:=E.keep 6 zk;have N:=(X.o.dr.aS E.az).ay;have C:=Bi.le (Mem_wins_le (es:=[4,9,6]) N g zS) (show Bi _ _ _ _ from V);have B:=CP.le (Mem_wins_le (es:=[4,9,6]) N g zS) (show CP _ _ _ _ from U);obtain⟨J,I,A,-⟩:=id C;obtain⟨H,G,K,-⟩:=id B;rw[A]at C;rw[K]at B;have l:=X.o.dr.region E.az g [4,9,6] (fun d hd=>(E.iZ d qec).1);have HE:=zh E;generalize m.fJ v g [4,9,6]=a' at*
   have HK:=zh (zi C B);have B':=(zY (xs:=a.tmps) (i:=11) (d:=undef)).symm.trans A;have x':=(zY (xs:=a.tmps) (i:=16) (d:=undef)).symm.trans K;clear E C B N V U;have b1:=l.obj.frozen 0;have L':=l.obj.frozen 1;have b2:=l.obj.c 0;have K':=l.obj.c 1;have b3:=l.obj.lt;have v':=(l.set 0 (.slice J 1 I)).set 1 (.slice H 1 G);have r':a.tmps.size=18:=HE.o.size;refine dX 10 zk (aJ rfl rfl (aO (nL rfl (show a.eval (.tmp 11)=_ from A) (show a.eval (.tmp 16)=_ from K) (bz2 J H 1 1 I G v)) ?_));obtain⟨t,dd⟩:=a;obtain rfl:dd=[]:=HE.o.defers;simp only[Act.put]at*
   have g6:(t.setIfInBounds 17 (Value.agg #[.slice J 1 I,.slice H 1 G])).getD 6 undef=.pointer (some ⟨w.heap.size+1,0,none⟩):=by
    rw[zY,Array.getElem?_setIfInBounds_ne zo,<-zY];exact e6
   have f':(t.setIfInBounds 17 (Value.agg #[.slice J 1 I,.slice H 1 G])).getD 17 undef=Value.agg #[.slice J 1 I,.slice H 1 G]:=by
    rw[zY,Array.getElem?_setIfInBounds_self_of_lt zo];rfl
   refine dX 11 zk (aJ rfl rfl (qN Et (.tmp 6) (.tmp 17) rfl (cs:=#[.slice J 1 I,.slice H 1 G]) g6 f' rfl rfl qdS l.obj fun w5 Z d'=>?_));have e':=(l.aW Z d').sub (.cons_cons _ (List.nil_sublist _));refine dx zk (hY.o _ _ (by simpa using HE.o.size) ⟨a',.slice J 1 I,.slice H 1 G,?_,e',HK.o⟩) _;simp only[yL,xB];exact congrArg (fun z=>[z]) g6
 clear X Q O;rintro z1 vs w2-⟨W,u,S,rfl,F,A,K⟩;simp[bB,lk];obtain⟨J,I,rfl,-⟩:=id A;obtain⟨H,G,rfl,-⟩:=id K;have T:=Et.load (P:=prog) rfl F.obj.all;have HF:=zh (zi F.az (zi (A.le F.done) (K.le F.done)));clear F A K;go_wp2;refine yV (kC results29 rfl T) rfl ?_;exact hR.o _ _ ⟨_,_,rfl,HF.o.1,HF.o.2.1,HF.o.2.2⟩
end Cl
namespace Cl
def Be(e:El):Prop:=∃u,e=.num u/\dh u/\u%10000=0
theorem Xv:jT Be (czm):=by
 have c:czm=⟨false,false,false,Hg.i,Hg.rf,[]⟩:=rfl;rw[c];refine jk qii qii qii Xi (fun u=>?_) eD (fun w=>by simp[dn eD,hzR,Be]);rw[SN];constructor
 .rintro⟨b,a⟩;exact⟨u,rfl,b,a⟩
 .rintro⟨v,h,b,a⟩;cases h;exact⟨b,a⟩
abbrev ic(s:RS):Vl:=.mk false s [] []
theorem GL{s:RS}(a:s.iG){e:El}(b:s.has e):ja (ic s)=false:=azN a b 0
theorem WJ{n:Nat}{c:Lc}(e:mG (cz (n+1)) (dz (n+1)) c=some (c,true)):cz (n+2) (lZ c)=some (lZ c):=by
 have d:oN (AV (dz (n+1))) [c]=[c]:=Ml zS fun x a y b _=>by rw[zZ.1 a,zZ.1 b]
 have f:lu (n+1) (lZ c) [c] []=lZ c:=by
  unfold lu;rw[d]
  rfl
 have ev:¬OG (lZ c):=by
  rintro⟨x,y,_,h,_⟩;simp[lZ,Vl.aA]at h
 rw[cz,zJ (by simp[lZ,Vl.any])];show(gQ (mG (cz (n+1)) (dz (n+1))) [c]).bind _=_;rw[Om (g:=fun x=>(x,true)) (l:=[c]) fun x a=>by rw[zZ.1 a];exact e];show some (if tf (OG (lu (n+1) (lZ c) [c] []))=true then fE else lu (n+1) (lZ c) [c] [])=some (lZ c);rw[f,zJ qig]
theorem WI{n:Nat}{c:Lc}(b:c.2.length<=1)(hk:∀d∈aY c,iQ n d.1/\iQ n d.2):iQ (n+1) (lZ c):=
 ⟨⟨fun h=>by simp[lZ,Vl.any]at h,fun x a=>by simp only[lZ,Vl.aN,zZ]at a;rw[a];exact b,fun x a=>by simp[lZ,Vl.aA]at a,gI⟩,fun d e=>hk d (by simpa [lZ,Vl.kids,Vl.aN,Vl.aA]using e)⟩
theorem az5{n:Nat}{c d:Lc}:dz (n+1) (lZ c) (lZ d)↔lZ c=lZ d\/AV (dz n) c d:=by
 rw[dz,zJ (by simp[lZ,Vl.any])];constructor
 .rintro(h|h)
  .exact .inl h
  .obtain⟨y,f,b⟩:=h.2.1 c (by simp[lZ,Vl.aN]);simp only[lZ,Vl.aN,zZ]at f;rw[f]at b;exact .inr b
 .rintro(h|h)
  .exact .inl h
  .exact .inr ⟨fun e h=>h,fun x a=>⟨d,by simp[lZ,Vl.aN],by simp only[lZ,Vl.aN,zZ]at a;rw[a];exact h⟩,fun x a=>by simp[lZ,Vl.aA]at a⟩
def ZK(s:RS):Vl:=lZ ([(ic s,ic s)],[])
def ZJ(s:RS):Vl:=lZ ([],[(ic s,ic s)])
def Eu(p:Int)(s:RS):Vl:=CQ p (ic s,ic s)
structure ExF (s1 s4 N:RS):Prop where
 b1:bD (ic s4,dB)/\bD (ic s1,dB)/\dz 16 (ic s4) (ic s1)
 b2:¬(bD (ic s1,dB)/\bD (ic s4,dB)/\dz 16 (ic s1) (ic s4))
 b3:bD (ic N,dB)/\bD (ic N,ic N)/\Cj (ic N,dB) (ic N,ic N)
 b4:¬(bD (ic N,ic N)/\bD (ic N,dB)/\Cj (ic N,ic N) (ic N,dB))
 b5:bD (ZK s4,dB)/\bD (ZJ s1,dB)/\dz 16 (ZK s4) (ZJ s1)
 b6:¬(bD (ZJ s1,dB)/\bD (ZK s4,dB)/\dz 16 (ZJ s1) (ZK s4))
 b7:bD (Eu 1 s1,dB)
 b8:bD (Eu 1 s1,dB)/\bD (Eu 2 s1,dB)/\dz 16 (Eu 1 s1) (Eu 2 s1)
 b9:¬(bD (Eu 2 s1,dB)/\bD (Eu 1 s1,dB)/\dz 16 (Eu 2 s1) (Eu 1 s1))
 b10:bD (Eu 2 s1,dB)/\bD (fE,dB)/\dz 16 (Eu 2 s1) fE
theorem fzB{a b N:RS}(h1:jT Be a)(c:jT (fun e=>Be e/\QE e/\UM e) b)(g:jT QE N):ExF a b N:=by
 have B:b.has (.num 10000):=(c.mem _).2 ⟨⟨10000,rfl,by decide,by decide⟩,⟨10000,rfl,by decide,by decide⟩,10000,rfl,by decide,by decide⟩;have m:a.has (.num 0):=(h1.mem _).2 ⟨0,rfl,by decide,by decide⟩;have A:¬b.has (.num 0):=fun h=>by obtain⟨_,_,u,e,_,h⟩:=(c.mem _).1 h;cases e;exact absurd h zD
 have z:N.has (.num 0):=(g.mem _).2 ⟨0,rfl,by decide,by decide⟩;have sub:∀e,b.has e->a.has e:=fun e h=>(h1.mem e).2 ((c.mem e).1 h).1;have y:bD (ic a,dB):=mX (ji h1.valid 15) (mM 15 a);have w:bD (ic b,dB):=mX (ji c.valid 15) (mM 15 b);have q:bD (ic N,dB):=mX (ji g.valid 15) (mM 15 N);have k:bD (ic N,ic N):=FK (ji g.valid 15) (mM 15 N);have F:∀n,gD (cz (n+1)) (dz (n+1)) (ic a,ic a)=some (ic a,ic a):=fun n=>uH (mM n a) (mM n a) (jm (ji h1.valid n).ht);have E:∀n,gD (cz (n+1)) (dz (n+1)) (ic b,ic b)=some (ic b,ic b):=fun n=>uH (mM n b) (mM n b) (jm (ji c.valid n).ht);have t:bD (ZK b,dB):=mX (WI (n:=15) zS fun d f=>by simp[aY]at f;rw[f];exact⟨ji c.valid 14,ji c.valid 14⟩) (WJ (n:=14) (by
  unfold mG;rw[uB (l:=[(ic b,ic b)]) (fun x o=>by rw[zZ.1 o];exact E 14)];show some (([(ic b,ic b)],[]),[(ic b,ic b)].all fun d => !ja d.1)=_;simp[GL c.valid B]))
 have s:bD (ZJ a,dB):=mX (WI (n:=15) zS fun d f=>by simp[aY]at f;rw[f];exact⟨ji h1.valid 14,ji h1.valid 14⟩) (WJ (n:=14) (by
  unfold mG;show((gQ (gD (cz 15) (dz 15)) [(ic a,ic a)]).map fun r=>(([],r.filter fun d => !ja d.1),true))=_;rw[uB (l:=[(ic a,ic a)]) (fun x o=>by rw[zZ.1 o];exact F 14)];show some (([],[(ic a,ic a)].filter fun d => !ja d.1),true)=_;simp[GL h1.valid m]))
 have j:∀p,p=1\/p=2->bD (Eu p a,dB):=fun p C=>mX (czZ (n:=14) C qiY qiY) (cz0 (n:=14) (mM 14 a) (mM 14 a) (jm (ji h1.valid 14).ht) (GL h1.valid m));refine⟨⟨w,y,(GK 15).2 sub⟩,fun h=>A ((GK 15).1 h.2.2 _ m),⟨q,k,jm q.ht.1,bz9 15 _⟩,fun h=>?_,⟨t,s,?_⟩,fun h=>?_,j 1 (.inl rfl),⟨j 1 (.inl rfl),j 2 (.inr rfl),?_⟩,fun h=>?_,j 2 (.inr rfl),XB.gzp,Ow 15 _⟩
 .have:=(fzu (n:=15) (v:=ic N) g.valid).1 h.2.2.2;rw[GL g.valid z]at this;cases this
 .refine(az5 (n:=15)).2 (.inr ⟨zG _,fun h=>by simp at h,fun i hi=>?_,fun D=>absurd D zS⟩);obtain rfl:i=0:=by simpa using hi
  exact⟨(GK 14).2 sub,(GK 14).2 sub⟩
 .rcases(az5 (n:=15)).1 h.2.2 with h|h
  .simp[lZ]at h
  .exact absurd h.len zS
 .exact(azE (n:=14)).2 (.inr ⟨by decide,jm (ji h1.valid 14).ht,jm (ji h1.valid 14).ht⟩)
 .rcases(azE (n:=14)).1 h.2.2 with h|h
  .simp[CQ,opC]at h
  .exact absurd h.1 zD
end Cl
namespace Cl
open Go Go.RowKit Go.Proofs Tryz
theorem bzx(a0 e d c b a x y z:zV)(w:zW):(Instr.field 33 (.agg #[x,a0,e,d,c,b,a,y,z]) 1).run prog w=.ok (.agg #[a0,e,d,c,b,a]) w:=by kernel_rfl
theorem ry{M:Mem}{b c a:zV}{s:RS}{n:Nat}(h:dD M b c a s):bq M (n+1) ⟨b,c,a,.slice none 0 0,.slice none 0 0⟩ (ic s):=⟨h,fM _ _,fM _ _⟩
def ZM(p:El->Prop)(M:Mem)(v:zV):Prop:=∃(s:RS) (a:Option Addr) (b:Nat) (c:Option Addr) (d:Nat) (e:Option Addr) (f:Nat),v=.agg #[.bool false,.bool s.dI,.bool s.dM,.bool s.dO,.slice a s.i.length b,.slice c s.f.length d,.slice e s.t.length f,.slice none 0 0,.slice none 0 0]/\SF p M s (.slice a s.i.length b) (.slice c s.f.length d) (.slice e s.t.length f)
theorem ZM.le{p:El->Prop}{m M:Mem}(h:m.le M){v:zV}(k:ZM p m v):ZM p M v:=by
 obtain⟨s,a,b,c,d,e,f,i,g⟩:=k;exact⟨s,a,b,c,d,e,f,i,g.up h⟩
theorem azM{p:El->Prop}{M:Mem}{s:RS}{i j g:zV}(h:SF p M s i j g):ZM p M ((Vl.mk false s [] []).val ⟨i,j,g,.slice none 0 0,.slice none 0 0⟩):=by
 obtain⟨a,b,c,d,e,f,rfl,rfl,rfl⟩:=h.at'.df;exact⟨s,a,b,c,d,e,f,rfl,h⟩
theorem ScRX.le{p:El->Prop}{n t:Nat}{m m':Mem}(h:m.le m'){v:zV}(k:qM p n t m v):qM p n t m' v:=by
 obtain⟨s,b,a⟩:=k;exact⟨s,b.le h,a⟩
theorem SF.good{p:El->Prop}{s:RS}(h:jT p s)(e:El):(iV s).has e↔p e:=by rw[bzg h.valid];exact h.mem e
def TT:NS:=⟨[(1,1)],[]⟩
theorem fzo:fT TT:=by
 have:=kU [(1,1)] []
 rwa [show gG [(1,1)] []=TT from rfl]at this
theorem azv{s:RS}(h:jT (fun e=>Be e/\QE e/\UM e) s):jS s 8 8:=by
 have e:s=⟨false,false,false,TT.i,TT.rf,[]⟩:=h.unique (jk qii qii qii fzo (fun u=>by
  constructor
  .rintro(⟨g,b⟩|⟨g,b⟩)
   .obtain⟨d,a,c,f⟩:=b;simp only[TT,zZ]at a;subst a;have:u=10000:=by simp only at c f;omega
    subst this;exact⟨⟨10000,rfl,by decide,by decide⟩,⟨10000,rfl,by decide,by decide⟩,10000,rfl,by decide,by decide⟩
   .obtain⟨d,a,_⟩:=b;simp[TT]at a
  .rintro⟨_,⟨v,k,_,b⟩,w,j,_,c⟩;cases k;cases j;have:u=10000:=zo;subst this;exact .inl ⟨by decide,(1,1),by simp[TT],by decide,by decide⟩) eD (fun w=>by simp[dn eD,hzR,Be]))
 rw[e];exact⟨by decide,by decide,by decide⟩
theorem oM{s:RS}(h:jS s 8 8):Pp 1 (ic s):=
 ⟨⟨⟨h.i,h.f,h.t,zG _,zG _,fun c b=>by simp[Vl.aA]at b⟩,fun x a=>by simp[Vl.kids,Vl.aN,Vl.aA]at a⟩,by simp[dA,Vl.kids,Vl.aN,Vl.aA]⟩
theorem azR{c:Lc}(hk:∀d∈aY c,oF 1 d)(f:(aY c).length<=1):Pp 2 (lZ c):=by
 refine⟨⟨⟨zG _,zG _,zG _,by simp[lZ,Vl.aN],zG _,fun x b=>by simp[lZ,Vl.aA]at b⟩,fun d a=>by rw[Ji]at a;exact⟨(hk d a).1.src,(hk d a).2.src⟩⟩,?_⟩;rw[WS]
 match h:aY c,f with
 |[],_=>simp[fw]
 |[d],_=>
  have z:∀l:List Vd,(l.map fun x=>dA 0 x.1+dA 0 x.2).sum=0:=fun l=>by
   induction l with
   |nil=>rfl
   |cons x l ih=>rw[yL,vG,ih];rfl
  have e:∀v,dA 1 v<=1:=fun v=>by show 1+_<=1;rw[z];exact zI 1
  have:=e d.1;have:=e d.2;rw[fq,ru];unfold cv;omega
theorem CZ(v:Vl):dA 1 v<=1:=by
 have z:∀l:List Vd,(l.map fun x=>dA 0 x.1+dA 0 x.2).sum=0:=fun l=>by
  induction l with
  |nil=>rfl
  |cons x l ih=>rw[yL,vG,ih];rfl
 show 1+_<=1;rw[z];exact zI 1
theorem Og:Pp 1 fE:=⟨⟨⟨zG _,zG _,zG _,zG _,zG _,fun c h=>by simp[fE,Vl.aA]at h⟩,fun x a=>by simp[fE,Vl.kids,Vl.aN,Vl.aA]at a⟩,yJ (CZ _) zD⟩
theorem azQ{p:Int}{d:Vd}(h:oF 1 d):Pp 2 (CQ p d):=by
 refine⟨⟨⟨zG _,zG _,zG _,zG _,by simp[CQ,Vl.aA],fun c i=>?_⟩,fun x e=>?_⟩,?_⟩
 .simp only[CQ,Vl.aA,zZ]at i;subst i;exact⟨by simp[opC],by simp[opC],fun f g=>by simp only[opC,zZ]at g;subst g;exact(by decide:Gu.size<=60),fun k hk=>by simp only[opC,zZ]at hk;subst hk;exact(by decide:wJ.length<=8)⟩
 .rw[Qg]at e;simp only[yA,List.not_mem_nil,or_false]at e;rcases e with rfl|rfl
  .exact⟨h.1.src,h.2.src⟩
  .exact⟨Og.src,Og.src⟩
 .have:=WR 1 (opC p d);rw[azF,fq,fq,ru]at this;show dA 2 (uX (opC p d))<=_;rw[this];have a:=CZ d.1;have b:=CZ d.2;have c:=CZ fE;unfold cv;exact qdA
theorem kI{P:Program}{f:FuncId}{args:Array Value}{w:zW}{p:Prop}(h:p)(k:Calls P f args w fun e w'=>e=.returned (.bool (tf p))/\zB w w'):Calls P f args w fun e w'=>e=.returned (.bool true)/\zB w w':=by rw[aM h]at k;exact k
theorem nM{P:Program}{f:FuncId}{args:Array Value}{w:zW}{p:Prop}(h:¬p)(k:Calls P f args w fun e w'=>e=.returned (.bool (tf p))/\zB w w'):Calls P f args w fun e w'=>e=.returned (.bool false)/\zB w w':=by rw[aF h]at k;exact k
theorem Own.Dn{w0 w:zW}{m mk:Mem}{L:List bA}{g:Nat}{t:TypeId}{arr:Array Value}(h:Own w0 m w mk (.obj g t arr::L)):∃M,Own w0 m w M L/\mk.le M/\∀i v,arr[i]?=some v->M.cell g i=some v:=⟨_,h.gU,Mem_le_add h.jG,fun _ _ hi=>Mem_add_cell h.obj hi⟩
theorem fz0{M:Mem}{n g:Nat}{d:Vd}{x y:Sl}(e:∀j u,(dC d x y)[j]?=some u->M.cell g j=some u)(b:bq M n x d.1)(a:bq M n y d.2):bG (bq M n) M (.slice (some ⟨g,0,none⟩) 1 1) [d]:=
 ⟨_,1,rfl,zI _,by simp[maxLen],fun _=>⟨g,0,rfl,fun i hi=>by
  obtain rfl:i=0:=by simpa using hi
  exact .of (fun j u c=>by simpa using e j u c) b a⟩⟩
theorem bz4(a:Option Addr)(n c:Nat)(w:zW):(Instr.build 50 #[(0,.slice a n c)]).run prog w=.ok (.agg #[.slice a n c,.slice none 0 0]) w:=by kernel_rfl
theorem bz3(a:Option Addr)(n c:Nat)(w:zW):(Instr.build 50 #[(1,.slice a n c)]).run prog w=.ok (.agg #[.slice none 0 0,.slice a n c]) w:=by kernel_rfl
theorem bz1(a:Option Addr)(n c:Nat)(w:zW):(Instr.build 33 #[(2,.slice a n c)]).run prog w=.ok (.agg #[.bool false,.bool false,.bool false,.bool false,.slice none 0 0,.slice none 0 0,.slice none 0 0,.slice a n c,.slice none 0 0]) w:=by kernel_rfl
theorem RY(a:Option Addr)(n c:Nat)(w:zW):(Instr.build 33 #[(3,.slice a n c)]).run prog w=.ok (.agg #[.bool false,.bool false,.bool false,.bool false,.slice none 0 0,.slice none 0 0,.slice none 0 0,.slice none 0 0,.slice a n c]) w:=by kernel_rfl
theorem Ry{a b c d h g f e:zV}(l:a=h)(k:b=g)(j:c=f)(i:d=e):[a,b,c,d]=[h,g,f,e]:=by rw[l,k,j,i]
theorem Q9(m:Mem)(w:zW)(hm:m.ay w)(htab:dV m):
 zX 9 #[] w (.bool true):=by
 have hTY:=fzM m w hm;have hI:=Xv;have hIl:jS (czm) 8 8:=⟨by decide,by decide,by decide⟩;generalize czm=l at*
 have HTY:=zh hTY;have HI:=zh (zi hI hIl);have HO:=zh (Own.start hm);have HN:=zh (fun(M:Mem) w' (h:M.ay w') (F:m.le M)=>izu (.inl rfl) gzQ M w' h);have hbl:=fun a0 a1 a2 a3 a4 a5 w=>J8 a0 a1 a2 a3 a4 a5 w;have hfl:=fun a0 a1 a2 a3 a4 a5 x y z w=>bzx a0 a1 a2 a3 a4 a5 x y z w;have HT:=zh htab;clear hTY hI hIl htab;refine au fun R hR=>?_
 go_enter func9,ntmps9
 go_wp2_with fail
 refine HTY.o.mono ?_;rintro e w1 ⟨si,sf,st,rfl,hb1,G'⟩;obtain⟨M1,I',hle1,G'⟩:=Own_called (P:=fun M=>dD M si sf st l) HO.o hb1 G';obtain⟨za,zb,zc,zd,ze,Z,rfl,rfl,rfl⟩:=G'.df;simp only[RS.val];have HO1:=zh (I'.al #[.bool l.dI,.bool l.dM,.bool l.dO,.slice za l.i.length zb,.slice zc l.f.length zd,.slice ze l.t.length Z] 29);have HA:=zh (zi hle1 (show SF Be M1 l _ _ _ from⟨G',HI.o.1,HI.o.2⟩));clear HO HTY HI hb1 I' hle1 G'
 go_wp2_with fail
 refine(HN.o M1 _ HO1.o.ay HA.o.1).mono ?_;rintro e w2 ⟨q,ui,uf,ut,rfl,hb2,y'⟩;obtain⟨B,H',hle2,y'⟩:=Own_called (P:=fun M=>SF QE M q ui uf ut) HO1.o hb2 y';obtain⟨ya,yb,yc,yd,ye,yf,rfl,rfl,rfl⟩:=y'.at'.df;simp only[Vl.val,bu,Vl.any,Vl.s];have A':=zh (zi hle2 y');have HPL:=zh (fun w' (h:B.ay w')=>uU (ic q) ⟨_,_,_,.slice none 0 0,.slice none 0 0⟩ B 1 w' h (ry y'.at'));have HO2:=zh H';clear HO1 hb2 H' hle2 y'
 go_wp2_with fail
 refine(HPL.o _ HO2.o.ay).mono ?_;rintro e w3 ⟨rfl,hb3⟩;have HO3:=zh ((HO2.o.aS hb3).al oz 35);have HV:=zh (show bq B 1 ⟨.slice ya q.i.length yb,.slice yc q.f.length yd,.slice ye q.t.length yf,.slice none 0 0,.slice none 0 0⟩ (ic q) from ry A'.o.2.at');have hl:(dC (ic q,ic q) ⟨.slice ya q.i.length yb,.slice yc q.f.length yd,.slice ye q.t.length yf,.slice none 0 0,.slice none 0 0⟩ ⟨.slice ya q.i.length yb,.slice yc q.f.length yd,.slice ye q.t.length yf,.slice none 0 0,.slice none 0 0⟩).length=18:=rfl;have ho:=fZ (d:=(ic q,ic q)) HV.o HV.o;have HDD:=zh (fun j u=>@lh (ic q,ic q) ⟨.slice ya q.i.length yb,.slice yc q.f.length yd,.slice ye q.t.length yf,.slice none 0 0,.slice none 0 0⟩ ⟨.slice ya q.i.length yb,.slice yc q.f.length yd,.slice ye q.t.length yf,.slice none 0 0,.slice none 0 0⟩ j u);unfold bP;generalize hD:dC (ic q,ic q) _ _=D at*
 have HD:=zh hD;clear HO2 HPL hb3 hD
 go_upto_region 3 with(first
  | (refine aB dU rfl (.tmp 3) (.tmp 17) rfl (cs:=D.toArray) rfl rfl rfl qdY (fun u hu=>ho u qdQ) HO3.o.obj ?_;intro w4 ob4 hg4;have h':=zh (HO3.o.aW ob4 hg4);clear HO3 ob4 hg4))
 refine aV [1,2,3,4] (fun vs w'=>∃(O:Mem) (g:Nat) (p:RS) (xa:Option Addr) (xb:Nat) (xc:Option Addr) (xd:Nat) (xe:Option Addr) (xf:Nat),vs=[.pointer (some ⟨w1.heap.size,0,none⟩),.int .i64 0,.pointer (some ⟨w3.heap.size,0,none⟩),.pointer (some ⟨g,0,none⟩)]/\B.le O/\SF (fun e=>Be e/\QE e/\UM e) O p (.slice xa p.i.length xb) (.slice xc p.f.length xd) (.slice xe p.t.length xf) /\
  Own w m w' O [.obj g 29 #[.bool p.dI,.bool p.dM,.bool p.dO,.slice xa p.i.length xb,.slice xc p.f.length xd,.slice xe p.t.length xf],.obj w3.heap.size 35 D.toArray,.obj w1.heap.size 29 #[.bool l.dI,.bool l.dM,.bool l.dO,.slice za l.i.length zb,.slice zc l.f.length zd,.slice ze l.t.length Z]]) ?_ ?_
 .intro Y hY;have HA1:=zh (HA.o.2.up A'.o.1);have HTM:=zh (HT.o.le (Mem.le_trans HA.o.1 A'.o.1));refine bF 8 8 (fun j=>[aI.is (·=.agg #[.bool l.dI,.bool l.dM,.bool l.dO,.slice za l.i.length zb,.slice zc l.f.length zd,.slice ze l.t.length Z]),aI.mem B [1] (ZM QE),aI.mem B [1] (qM QE 8 8),aI.mem B [3] (ZM UM),aI.mem B [3] (qM UM 8 8),aI.mem B [5,1,3] (qM (fun e=>QE e/\UM e) 20 101),aI.mem B [6,5,1,3] (qM (fun e=>Be e/\QE e/\UM e) 32 1031),aI.obj 7 29 #[.bool false,.bool false,.bool false,.slice none 0 0,.slice none 0 0,.slice none 0 0]].getD j aI.any) zk zk ?_ ?_
  .intro i hi o win a wr ho RA;have HO5:=h'.o.dr.aS RA.az;rcases(show i=0\/i=1\/i=2\/i=3\/i=4\/i=5\/i=6\/i=7 by omega)with rfl|rfl|rfl|rfl|rfl|rfl|rfl|rfl
   .have e1:=RA.k 1;cases ho;refine aJ rfl rfl (aO (wQ.exec (b:=w1.heap.size) (off:=0) (cs:=[.bool l.dI,.bool l.dM,.bool l.dO,.slice za l.i.length zb,.slice zc l.f.length zd,.slice ze l.t.length Z]) rfl zg rfl HO5.av.obj.all) ⟨_,rfl,zR _ _,rfl⟩)
   .cases ho;refine we rfl rfl (izu (.inl rfl) gzQ B wr HO5.ay) ?_;exact qhw
   .have e19:(aI.mem B [1] (ZM QE)).holds (a.tmps.getD 19 undef) win wr:=RA.d 1 rfl;cases ho;obtain⟨s,a1,b1,c1,d1,e1,f1,k1,h⟩:ZM _ _ _:=e19;have f19:=(zY (xs:=a.tmps) (i:=19) (d:=undef)).symm.trans k1;exact aJ rfl rfl (aO zg ⟨_,rfl,zR _ _,rF [1] (R:=qM QE 8 8) win zS (fun d hd=>(RA.iZ d qeh).2.2) ⟨s,⟨_,_,_,_,_,_,rfl,h.at'⟩,h.is,h.le⟩⟩)
   .cases ho;refine we rfl rfl (izu (.inr rfl) gzV B wr HO5.ay) ?_;exact qhw
   .have e21:(aI.mem B [3] (ZM UM)).holds (a.tmps.getD 21 undef) win wr:=RA.d 3 rfl;cases ho;obtain⟨s,a1,b1,c1,d1,e1,f1,k1,h⟩:ZM _ _ _:=e21;have f21:=(zY (xs:=a.tmps) (i:=21) (d:=undef)).symm.trans k1;exact aJ rfl rfl (aO zg ⟨_,rfl,zR _ _,rF [3] (R:=qM UM 8 8) win zS (fun d hd=>(RA.iZ d qeh).2.2) ⟨s,⟨_,_,_,_,_,_,rfl,h.at'⟩,h.is,h.le⟩⟩)
   .have e20:(aI.mem B [1] (qM QE 8 8)).holds (a.tmps.getD 20 undef) win wr:=RA.d 2 rfl;have e22:(aI.mem B [3] (qM UM 8 8)).holds (a.tmps.getD 22 undef) win wr:=RA.d 4 rfl;cases ho;obtain⟨sA,⟨a1,b1,c1,d1,x1,y1,k1,t1⟩,S1,L1⟩:qM _ _ _ _ _:=e20;obtain⟨sB,⟨a2,b2,c2,d2,x2,y2,k2,t2⟩,S2,L2⟩:qM _ _ _ _ _:=e22;have f20:=(zY (xs:=a.tmps) (i:=20) (d:=undef)).symm.trans k1;have f22:=(zY (xs:=a.tmps) (i:=22) (d:=undef)).symm.trans k2;refine we rfl rfl (LY _ _ _ sA _ _ _ sB 8 8 8 8 (B.fJ wr win [1,3]) wr (Mem_wins_inn HO5.ay win [1,3]) (HTM.o.le (Mem_le_wins HO5.ay win [1,3])) (t1.le (Mem_wins_le (es:=[1,3]) HO5.ay win zS)) (t2.le (Mem_wins_le (es:=[1,3]) HO5.ay win zS)) L1 L2 zo zo zo) ?_;rintro e w' ⟨s,si,sf,st,rfl,hb,hn,hS,hL⟩;exact⟨_,rfl,_,rfl,hb,kN (ds:=[1,3]) ScRX.le HO5.ay zS (fun d hd=>(RA.iZ d qea).2.2) hb ⟨s,Iz hn,hS.congr fun e=>and_congr (SF.good S1 e) (SF.good S2 e),hL⟩⟩
   .have e18:zt a 18 _:=RA.d 0 rfl;have e23:(aI.mem B [5,1,3] (qM (fun e=>QE e/\UM e) 20 101)).holds (a.tmps.getD 23 undef) win wr:=RA.d 5 rfl;cases ho;obtain⟨sB,⟨a2,b2,c2,d2,x2,y2,k2,t2⟩,S2,L2⟩:qM _ _ _ _ _:=e23;have f23:=(zY (xs:=a.tmps) (i:=23) (d:=undef)).symm.trans k2;refine we rfl rfl (LY _ _ _ l _ _ _ sB 8 8 20 101 (B.fJ wr win [5,1,3]) wr (Mem_wins_inn HO5.ay win [5,1,3]) (HTM.o.le (Mem_le_wins HO5.ay win [5,1,3])) (HA1.o.at'.le (Mem_le_wins HO5.ay win [5,1,3])) t2 HA1.o.le L2 zo zo zo) ?_;rintro e w' ⟨s,si,sf,st,rfl,hb,hn,hS,hL⟩;exact⟨_,rfl,_,rfl,hb,kN (ds:=[5,1,3]) ScRX.le HO5.ay zS (fun d hd=>(RA.iZ d (by simp at hd;rcases hd with rfl|rfl|rfl<;>kernel_rfl)).2.2) hb ⟨s,Iz hn,hS.congr fun e=>and_congr (SF.good HA1.o.is e) (SF.good S2 e),hL⟩⟩
   .exact qhT
  .intro win a wr E;have e1:=E.keep 1 zk;have e2:=E.keep 2 zk;have e3:=E.keep 3 zk;have e4:(aI.obj 7 29 #[.bool false,.bool false,.bool false,.slice none 0 0,.slice none 0 0,.slice none 0 0]).holds (a.tmps.getD 4 undef) win wr:=E.fact 7 _ zo rfl;have e24:(aI.mem B [6,5,1,3] (qM (fun e=>Be e/\QE e/\UM e) 32 1031)).holds (a.tmps.getD 24 undef) win wr:=E.fact 6 _ zo rfl;obtain⟨p,⟨xa,xb,xc,xd,xe,xf,k4,t4⟩,S4,L4⟩:qM _ _ _ _ _:=e24;obtain⟨p7,n7,o7⟩:_/\_/\_:=e4;have g7:=E.iZ 7 zo;have I':=h'.o.dr.region E.az win [6,5,1,3] (fun d hd=>(E.iZ d qec).1);have hin:=(h'.o.dr.aS E.az).ay;have no:B.fJ wr win [6,5,1,3] (win 7).1=none:=Mem_wins_none (Mem_none_of_ge h'.o.dr.ay g7.1) fun d hd=>by
    have hd':d=6\/d=5\/d=1\/d=3:=by simpa using hd
    have:=E.apart 7 d zo zo zo;omega
   have hL7:=h'.o.dr.VE g7.1;have hge:=h'.o.dr.az.size;have H':=I'.newObj o7 zo no hL7;have F:=Mem_le_wins hin win [6,5,1,3];have HK:=zh (show SF _ _ p _ _ _ from⟨t4,S4,azv S4⟩);have HE:=zh E;generalize B.fJ wr win [6,5,1,3]=mq at*
   generalize (win 7).1=r7 at*
   clear E S4 L4 t4 n7 o7 no hL7 hge I' hin g7;refine dX 8 zk (aJ rfl rfl (qN wQ (.tmp 4) (.tmp 24) rfl (cs:=#[.bool p.dI,.bool p.dM,.bool p.dO,.slice xa p.i.length xb,.slice xc p.f.length xd,.slice xe p.t.length xf]) p7 k4 rfl rfl qdS H'.obj fun w5 ob5 hg5=>?_));have hO3:=H'.aW ob5 hg5;obtain⟨t,dd⟩:=a;obtain rfl:dd=[]:=HE.o.defers;refine dx zk (hY.o _ _ (by simpa using HE.o.size) ⟨mq,r7,p,xa,xb,xc,xd,xe,xf,?_,F,HK.o,hO3⟩) _;simp only[yL,xB];exact Ry e1 e2 e3 p7
 clear h' HN;rintro z1 vs w5-⟨O,g,p,xa,xb,xc,xd,xe,xf,rfl,F,h4,hO⟩;simp[bB,lk];have HM:=zh (zi (HA.o.2.up (Mem.le_trans A'.o.1 F)) (zi h4 (zi (A'.o.2.up F) (HT.o.le (Mem.le_trans HA.o.1 (Mem.le_trans A'.o.1 F))))));have HF:=zh (fzB HM.o.1.is HM.o.2.1.is HM.o.2.2.1.is);have HB1:=zh (fun w' (h:O.ay w')=>kI HF.o.b1 (lI (ic p) (ic l) _ _ O w' h HM.o.2.2.2 qi7 (oM HM.o.2.1.le) qiK (oM HM.o.1.le)));have HB2:=zh (fun w' (h:O.ay w')=>nM HF.o.b2 (lI (ic l) (ic p) _ _ O w' h HM.o.2.2.2 qiK (oM HM.o.1.le) qi7 (oM HM.o.2.1.le)));simp only[Vl.val,bu,Vl.any,Vl.s]at HB1 HB2;have HO:=zh hO;have r4:=hO.obj.all (cs:=[.bool p.dI,.bool p.dM,.bool p.dO,.slice xa p.i.length xb,.slice xc p.f.length xd,.slice xe p.t.length xf]);have r1:=hO.aP.obj.all (cs:=[.bool l.dI,.bool l.dM,.bool l.dO,.slice za l.i.length zb,.slice zc l.f.length zd,.slice ze l.t.length Z]);clear hO F h4
 go_wp2_with (first
  |refine aj wQ rfl (.tmp 4) rfl rfl [.bool p.dI,.bool p.dM,.bool p.dO,.slice xa p.i.length xb,.slice xc p.f.length xd,.slice xe p.t.length xf] rfl r4 ?_
  |refine aj wQ rfl (.tmp 1) rfl rfl [.bool l.dI,.bool l.dM,.bool l.dO,.slice za l.i.length zb,.slice zc l.f.length zd,.slice ze l.t.length Z] rfl r1 ?_
  | fail)
 refine(HB1.o _ HO.o.ay).mono ?_;rintro e w6 ⟨rfl,hb6⟩;have Q':=zh (HO.o.aS hb6);clear HO HB1 hb6 r4 r1;have r4:=Q'.o.obj.all (cs:=[.bool p.dI,.bool p.dM,.bool p.dO,.slice xa p.i.length xb,.slice xc p.f.length xd,.slice xe p.t.length xf]);have r1:=Q'.o.aP.obj.all (cs:=[.bool l.dI,.bool l.dM,.bool l.dO,.slice za l.i.length zb,.slice zc l.f.length zd,.slice ze l.t.length Z])
 go_wp2_with (first
  |refine aj wQ rfl (.tmp 4) rfl rfl [.bool p.dI,.bool p.dM,.bool p.dO,.slice xa p.i.length xb,.slice xc p.f.length xd,.slice xe p.t.length xf] rfl r4 ?_
  |refine aj wQ rfl (.tmp 1) rfl rfl [.bool l.dI,.bool l.dM,.bool l.dO,.slice za l.i.length zb,.slice zc l.f.length zd,.slice ze l.t.length Z] rfl r1 ?_
  | fail)
 refine(HB2.o _ Q'.o.ay).mono ?_;rintro e w7 ⟨rfl,hb7⟩;have HO7:=zh (Q'.o.aS hb7);clear Q' HB2 hb7 r4 r1;have HVK:=zh (HV.o.le (Mem.le_refl B));obtain⟨A,hsl⟩:∃x:Sl,x=⟨.slice ya q.i.length yb,.slice yc q.f.length yd,.slice ye q.t.length yf,.slice none 0 0,.slice none 0 0⟩:=⟨_,rfl⟩;have C:bq O 1 A (ic q):=by rw[hsl];exact ry HM.o.2.2.1.at'
 rw[<-hsl]at HD HDD;clear hsl HVK HV;have mN:=oM HM.o.2.2.1.le;have hN9:(bu (ic q) A).length=9:=rfl;have hl5:(dC (ic q,dB) A dR).length=18:=rfl;have ho5:=fZ (d:=(ic q,dB)) C (VAt_up_leaf (M:=O) (n:=0) (a:=false));have HBG:=zh (fun w=>WY hN9 w);rw[show bu (ic q) A++bu dB dR=dC (ic q,dB) A dR from rfl]at HBG;have HL1:=zh (fun w' (h:O.ay w')=>kI HF.o.b3 (j4 (N:=1) (N':=1) (ic q,dB) (ic q,ic q) A dR A A O w' h HM.o.2.2.2 C VAt_up_leaf ⟨mN,.lF 0⟩ C C ⟨mN,mN⟩));have HL2:=zh (fun w' (h:O.ay w')=>nM HF.o.b4 (j4 (N:=1) (N':=1) (ic q,ic q) (ic q,dB) A A A dR O w' h HM.o.2.2.2 C C ⟨mN,mN⟩ C VAt_up_leaf ⟨mN,.lF 0⟩));have HM2:=zh (zi C mN);unfold bP at HL1 HL2;rw[HD.o]at HL1 HL2;have q3:=HO7.o.av.obj.sub (o:=0) (cs:=bu (ic q) A) (fun j u hj=>by simpa using HDD.o j u hj);generalize bu (ic q) A=N9 at*
 generalize dC (ic q,dB) A dR=D5 at*
 clear C mN
 go_upto_region 9 with(first
  |refine aj kK rfl (.tmp 42) rfl rfl N9 hN9 q3 ?_
  |refine Bn (.tmp 43) (a0:=.agg N9.toArray) (r:=.agg D5.toArray) rfl rfl rfl (HBG.o _) ?_
  |(refine aB dU rfl (.tmp 5) (.tmp 44) rfl (cs:=D5.toArray) rfl rfl rfl (by simpa using hl5) (fun u hu=>ho5 u qdQ) (HO7.o.al oz 35).obj ?_;intro w8 ob8 hg8;have P':=zh ((HO7.o.al oz 35).aW ob8 hg8);have r5:=P'.o.obj.all;have r3:=P'.o.aP.obj.all;clear HO7 ob8 hg8 q3)
  |refine aj dU rfl (.tmp 5) rfl rfl D5 hl5 r5 ?_
  |refine aj dU rfl (.tmp 3) rfl rfl D hl r3 ?_
  |(go_at_call 10;refine(HL1.o _ P'.o.ay).mono ?_;rintro e w9 ⟨rfl,hb9⟩;have O':=zh (P'.o.aS hb9);clear P' HL1 hb9 r5 r3;have r5:=O'.o.obj.all;have r3:=O'.o.aP.obj.all)
  | (go_at_call 10;refine(HL2.o _ O'.o.ay).mono ?_;rintro e w10 ⟨rfl,hb10⟩;have x':=zh (O'.o.aS hb10);clear O' HL2 hb10 r5 r3))
 have HSA:=zh (fun w' (h:O.ay w')=>Bp p _ _ _ O w' h HM.o.2.1.at');have HSB:=zh (fun(M:Mem) w' (h:M.ay w') (F:O.le M)=>Bp l _ _ _ M w' h (HM.o.1.at'.le F));have hl0:=bz4;have hl1:=bz3;have hv2:=bz1;have r4:=x'.o.av.obj.all (cs:=[.bool p.dI,.bool p.dM,.bool p.dO,.slice xa p.i.length xb,.slice xc p.f.length xd,.slice xe p.t.length xf]);unfold bP at HSA HSB;have l4:(dC (ic p,ic p) ⟨.slice xa p.i.length xb,.slice xc p.f.length xd,.slice xe p.t.length xf,.slice none 0 0,.slice none 0 0⟩ ⟨.slice xa p.i.length xb,.slice xc p.f.length xd,.slice xe p.t.length xf,.slice none 0 0,.slice none 0 0⟩).length=18:=rfl;generalize hD4:dC (ic p,ic p) _ _=D4 at*
 have HD4:=zh hD4;clear hD4 hfl
 go_upto_region 10 with(first
  |refine aj wQ rfl (.tmp 4) rfl rfl [.bool p.dI,.bool p.dM,.bool p.dO,.slice xa p.i.length xb,.slice xc p.f.length xd,.slice xe p.t.length xf] rfl r4 ?_
  |(go_at_call 28;refine(HSA.o _ x'.o.ay).mono ?_;rintro e D' ⟨rfl,L⟩;have HO11:=zh (x'.o.aS L);clear x' HSA L r4)
  | (refine gu jZ dU qD rfl zo rfl (.tmp 55) rfl (cs:=D4.toArray) rfl (by simpa using l4) ?_))
 have h12:=((HO11.o.al D4.toArray 35).al #[.slice (some ⟨D'.heap.size,0,none⟩) 1 1,.slice none 0 0] 50).al (bu (ZK p) (ES (D'.heap.size+1))).toArray 33;simp only[bC]at h12;obtain⟨MB,h13,v,c1⟩:=h12.aP.Dn;obtain⟨MA,hOA,g',c2⟩:=h13.av.Dn;have r':=Mem.le_trans v g';have hv4:=(ry (n:=0) HM.o.2.1.at').le r';have z':bq MA 2 (ES (D'.heap.size+1)) (ZK p):=Ut (n:=1) (c:=([(ic p,ic p)],[])) (c2 0 _ rfl) (c2 1 _ rfl) (fz0 (d:=(ic p,ic p)) (fun j u hj=>Mem_cell_le g' (c1 j u (by rw[HD4.o]at hj;simpa using hj))) hv4 hv4) (fM _ _);have HOA:=zh hOA;have HV6:=zh z';have HLA:=zh r';have HSB2:=zh (fun w' (h:MA.ay w')=>HSB.o MA w' h r');have r1:=hOA.fifth.obj.all (cs:=[.bool l.dI,.bool l.dM,.bool l.dO,.slice za l.i.length zb,.slice zc l.f.length zd,.slice ze l.t.length Z]);have l6:(dC (ic l,ic l) ⟨.slice za l.i.length zb,.slice zc l.f.length zd,.slice ze l.t.length Z,.slice none 0 0,.slice none 0 0⟩ ⟨.slice za l.i.length zb,.slice zc l.f.length zd,.slice ze l.t.length Z,.slice none 0 0,.slice none 0 0⟩).length=18:=rfl;generalize hD6:dC (ic l,ic l) _ _=D6 at*
 have HD6:=zh hD6;clear hD6 h12 h13 v g' c1 c2 hv4 z' hOA r' HO11
 go_upto_region 11 with(first
  |refine aj wQ rfl (.tmp 1) rfl rfl [.bool l.dI,.bool l.dM,.bool l.dO,.slice za l.i.length zb,.slice zc l.f.length zd,.slice ze l.t.length Z] rfl r1 ?_
  |(go_at_call 28;refine(HSB2.o _ HOA.o.ay).mono ?_;rintro e C' ⟨rfl,K⟩;have HO12:=zh (HOA.o.aS K);clear HOA HSB2 K r1)
  | (refine gu jZ dU qD rfl zo rfl (.tmp 61) rfl (cs:=D6.toArray) rfl (by simpa using l6) ?_))
 have h15:=((HO12.o.al D6.toArray 35).al #[.slice none 0 0,.slice (some ⟨C'.heap.size,0,none⟩) 1 1] 50).al (bu (ZJ l) (ES (C'.heap.size+1))).toArray 33;simp only[bC]at h15;obtain⟨MD,h16,v,c1⟩:=h15.aP.Dn;obtain⟨MC,X',g',c2⟩:=h16.av.Dn;have H:=Mem.le_trans v g';have hv1:=(ry (n:=0) HM.o.1.at').le (Mem.le_trans HLA.o H);have hV7:bq MC 2 (ES (C'.heap.size+1)) (ZJ l):=Ut (n:=1) (c:=([],[(ic l,ic l)])) (c2 0 _ rfl) (c2 1 _ rfl) (fM _ _) (fz0 (d:=(ic l,ic l)) (fun j u hj=>Mem_cell_le g' (c1 j u (by rw[HD6.o]at hj;simpa using hj))) hv1 hv1);have z':=HV6.o.le H;have k6:Pp 2 (ZK p):=azR (fun d hd=>by simp[aY]at hd;rw[hd];exact⟨oM HM.o.2.1.le,oM HM.o.2.1.le⟩) (by simp[aY]);have k7:Pp 2 (ZJ l):=azR (fun d hd=>by simp[aY]at hd;rw[hd];exact⟨oM HM.o.1.le,oM HM.o.1.le⟩) (by simp[aY]);have HTC:=zh (HM.o.2.2.2.le (Mem.le_trans HLA.o H));have HB5:=zh (fun w' (h:MC.ay w')=>kI HF.o.b5 (lI (ZK p) (ZJ l) _ _ MC w' h HTC.o z' k6 hV7 k7));have HB6:=zh (fun w' (h:MC.ay w')=>nM HF.o.b6 (lI (ZJ l) (ZK p) _ _ MC w' h HTC.o hV7 k7 z' k6));have HLC:=zh (Mem.le_trans HLA.o H);have HOC:=zh X';have l6':(bu (ZK p) (ES (D'.heap.size+1))).length=9:=rfl;have l7':(bu (ZJ l) (ES (C'.heap.size+1))).length=9:=rfl;have r7:=X'.obj.all;have r6:=X'.av.obj.all;unfold Vl.val at HB5 HB6;clear h15 h16 v g' c1 c2 hv1 z' hV7 H X' k6 k7 HV6 HLA HO12
 go_upto_region 13 with(first
  |refine aj kK rfl (.tmp 6) rfl rfl (bu (ZK p) (ES (D'.heap.size+1))) l6' r6 ?_
  |refine aj kK rfl (.tmp 7) rfl rfl (bu (ZJ l) (ES (C'.heap.size+1))) l7' r7 ?_
  |(go_at_call 15;refine(HB5.o _ HOC.o.ay).mono ?_;rintro e w13 ⟨rfl,hb13⟩;have V:=zh (HOC.o.aS hb13);clear HOC HB5 hb13 r6 r7;have r7:=V.o.obj.all;have r6:=V.o.av.obj.all)
  | (go_at_call 15;refine(HB6.o _ V.o.ay).mono ?_;rintro e w14 ⟨rfl,hb14⟩;have v':=zh (V.o.aS hb14);clear V HB6 hb14 r6 r7))
 have F':=(ry (n:=0) HM.o.1.at').le HLC.o;have HSC1:=zh (fun w' (h:MC.ay w')=>HSB.o MC w' h HLC.o);have u':=zh (fun w' (h:MC.ay w')=>Qf (n:=0) 1 zD (ic l,ic l) _ _ MC w' h F' F');unfold bP at u';rw[HD6.o]at u';have r1:=v'.o.tail.fifth.obj.all (cs:=[.bool l.dI,.bool l.dM,.bool l.dO,.slice za l.i.length zb,.slice zc l.f.length zd,.slice ze l.t.length Z]);clear F'
 go_wp2_with (first
  |refine aj wQ rfl (.tmp 1) rfl rfl [.bool l.dI,.bool l.dM,.bool l.dO,.slice za l.i.length zb,.slice zc l.f.length zd,.slice ze l.t.length Z] rfl r1 ?_
  |(go_at_call 28;refine(HSC1.o _ v'.o.ay).mono ?_;rintro e w15 ⟨rfl,L⟩;have M':=zh (v'.o.aS L);clear v' HSC1 L r1)
  | fail)
 refine(u'.o _ M'.o.ay).mono ?_;rintro e W' ⟨u1,v1,rfl,J,kF1,kK1⟩;obtain⟨MP1,hOR1,hlr1,q'⟩:=Own_called (P:=fun M=>Bi 1 (opC 1 (ic l,ic l)).1 M u1/\CP 1 (opC 1 (ic l,ic l)).2 M v1) M'.o J ⟨kF1,kK1⟩;obtain⟨fa1,fc1,rfl,-⟩:=id q'.1;obtain⟨ka1,kc1,rfl,-⟩:=id q'.2;have X:=zh (zi hlr1 q');have HOR1:=zh hOR1;have hv3:=RY;clear M' u' J kF1 kK1 hOR1 hlr1 q'
 go_upto_region 14 with(fail)
 have hs1:=(HOR1.o.al #[.slice fa1 1 fc1,.slice ka1 1 kc1] 62).al (bu (Eu 1 l) (EC W'.heap.size)).toArray 33;simp only[bC]at hs1;obtain⟨J',hOS1,v,c1⟩:=hs1.av.Dn;have hVO1:bq J' 2 (EC W'.heap.size) (Eu 1 l):=Tm (n:=1) (c:=opC 1 (ic l,ic l)) (c1 0 _ rfl) (c1 1 _ rfl) (Bi.le v X.o.2.1) (CP.le v X.o.2.2);have HVO1:=zh hVO1;have R':=zh (Mem.le_trans HLC.o (Mem.le_trans X.o.1 v));have HMS1:=zh (Mem.le_trans X.o.1 v);have s':=zh hOS1;clear hs1 hOS1 v c1 hVO1 X HOR1;have E':=(ry (n:=0) HM.o.1.at').le R'.o;have HSC2:=zh (fun w' (h:J'.ay w')=>HSB.o J' w' h R'.o);have t':=zh (fun w' (h:J'.ay w')=>Qf (n:=0) 2 zD (ic l,ic l) _ _ J' w' h E' E');unfold bP at t';rw[HD6.o]at t';have r1:=s'.o.tail.tail.fifth.obj.all (cs:=[.bool l.dI,.bool l.dM,.bool l.dO,.slice za l.i.length zb,.slice zc l.f.length zd,.slice ze l.t.length Z]);clear E'
 go_wp2_with (first
  |refine aj wQ rfl (.tmp 1) rfl rfl [.bool l.dI,.bool l.dM,.bool l.dO,.slice za l.i.length zb,.slice zc l.f.length zd,.slice ze l.t.length Z] rfl r1 ?_
  |(go_at_call 28;refine(HSC2.o _ s'.o.ay).mono ?_;rintro e w17 ⟨rfl,K⟩;have L':=zh (s'.o.aS K);clear s' HSC2 K r1)
  | fail)
 refine(t'.o _ L'.o.ay).mono ?_;rintro e V' ⟨u2,v2,rfl,I,kF2,kK2⟩;obtain⟨MP2,hOR2,hlr2,p'⟩:=Own_called (P:=fun M=>Bi 1 (opC 2 (ic l,ic l)).1 M u2/\CP 1 (opC 2 (ic l,ic l)).2 M v2) L'.o I ⟨kF2,kK2⟩;obtain⟨fa2,fc2,rfl,-⟩:=id p'.1;obtain⟨ka2,kc2,rfl,-⟩:=id p'.2;have W:=zh (zi hlr2 p');have HOR2:=zh hOR2;have hv3:=RY;clear L' t' I kF2 kK2 hOR2 hlr2 p'
 go_upto_region 15 with(fail)
 have hs2:=(HOR2.o.al #[.slice fa2 1 fc2,.slice ka2 1 kc2] 62).al (bu (Eu 2 l) (EC V'.heap.size)).toArray 33;simp only[bC]at hs2;obtain⟨G,hOS2,v,c1⟩:=hs2.av.Dn;have hVO2:bq G 2 (EC V'.heap.size) (Eu 2 l):=Tm (n:=1) (c:=opC 2 (ic l,ic l)) (c1 0 _ rfl) (c1 1 _ rfl) (Bi.le v W.o.2.1) (CP.le v W.o.2.2);have HVO2:=zh hVO2;have HLS2:=zh (Mem.le_trans R'.o (Mem.le_trans W.o.1 v));have HMS2:=zh (Mem.le_trans W.o.1 v);have Q:=zh hOS2;clear hs2 hOS2 v c1 hVO2 W HOR2;have k1:Pp 2 (Eu 1 l):=azQ ⟨oM HM.o.1.le,oM HM.o.1.le⟩;have k2:Pp 2 (Eu 2 l):=azQ ⟨oM HM.o.1.le,oM HM.o.1.le⟩;have v1:=HVO1.o.le HMS2.o;have v2:=HVO2.o;have K':=HM.o.2.2.2.le HLS2.o;have HC7:=zh (fun w' (h:G.ay w')=>kI HF.o.b7 (Cb (Eu 1 l) _ G w' h K' v1 k1));have HC8:=zh (fun w' (h:G.ay w')=>kI HF.o.b8 (lI (Eu 1 l) (Eu 2 l) _ _ G w' h K' v1 k1 v2 k2));have HC9:=zh (fun w' (h:G.ay w')=>nM HF.o.b9 (lI (Eu 2 l) (Eu 1 l) _ _ G w' h K' v2 k2 v1 k1));have S':=zh (fun w' (h:G.ay w')=>kI HF.o.b10 (lI (Eu 2 l) fE _ dR G w' h K' v2 k2 (VAt_up_leaf (n:=0)) Og));have hb0:=RZ;have l8:(bu (Eu 1 l) (EC W'.heap.size)).length=9:=rfl;have l9:(bu (Eu 2 l) (EC V'.heap.size)).length=9:=rfl;have r9:=Q.o.obj.all;have r8:=Q.o.av.obj.all;unfold Vl.val at HC7 HC8 HC9 S';clear k1 k2 v1 v2 K' HVO1 HVO2 HMS2
 go_wp2_with (first
  |refine aj kK rfl (.tmp 8) rfl rfl (bu (Eu 1 l) (EC W'.heap.size)) l8 r8 ?_
  |refine aj kK rfl (.tmp 9) rfl rfl (bu (Eu 2 l) (EC V'.heap.size)) l9 r9 ?_
  |(go_at_call 21;refine(HC7.o _ Q.o.ay).mono ?_;rintro e w19 ⟨rfl,hb19⟩;have U:=zh (Q.o.aS hb19);clear Q HC7 hb19 r8 r9;have r9:=U.o.obj.all;have r8:=U.o.av.obj.all)
  |(go_at_call 15;refine(HC8.o _ U.o.ay).mono ?_;rintro e w20 ⟨rfl,hb20⟩;have T:=zh (U.o.aS hb20);clear U HC8 hb20 r8 r9;have r9:=T.o.obj.all;have r8:=T.o.av.obj.all)
  |(go_at_call 15;refine(HC9.o _ T.o.ay).mono ?_;rintro e w21 ⟨rfl,J⟩;have S:=zh (T.o.aS J);clear T HC9 J r8 r9;have r9:=S.o.obj.all;have r8:=S.o.av.obj.all)
  | (go_at_call 15;refine(S'.o _ S.o.ay).mono ?_;rintro e w22 ⟨rfl,I⟩;have HO22:=zh (S.o.aS I);clear S S' I r8 r9))
 exact hR.o _ _ ⟨rfl,HO22.o.az⟩
end Cl
namespace Cl
open Go Go.RowKit Go.Proofs
theorem fQ.ht{d:Vd}(h:fQ d):Ht 3 d.1/\Ht 3 d.2:=⟨h.1.src.ht,h.2.1.src.ht⟩
structure Kq (n:Nat) (d:Vd) (x y:Sl) (M:Mem):Prop where
 h1:bq M n x d.1
 h2:bq M n y d.2
theorem Kq.le{n:Nat}{d:Vd}{x y:Sl}{m M:Mem}(h:Kq n d x y m)(a:m.le M):Kq n d x y M:=⟨h.h1.le a,h.h2.le a⟩
theorem Kq.low{n:Nat}{d:Vd}{x y:Sl}{M:Mem}(h:Kq n d x y M)(s:fQ d):Kq 3 d x y M:=⟨h.h1.low s.ht.1,h.h2.low s.ht.2⟩
theorem fQ.cnt{d:Vd}(h:fQ d):jw 3 d:=by
 have:=h.2.2;unfold cv at this;exact⟨zo,zo⟩
end Cl
