/- Lemmas for the proofs of chapter 11. -/
import Derived.Test.YtbbnjopkjbhpbaaGreatDoorPkP29
import Derived.Test.YtbbnjopkjbhpbaaGreatDoorPkP30
import Derived.Test.YtbbnjopkjbhpbaaGreatDoorPkP25
set_option maxRecDepth 100000
set_option maxHeartbeats 16000000
namespace Cl
open Go Go.RowKit Go.Proofs Tryz
theorem FV(v:zV)(l:aK)(m:Mem)(w:zW)(B:m.ay w)(C:aU m v l):
 zC 57 #[.agg #[v]] w fun e w'=>∃b,e=.returned (.bool b)/\zB w w'/\(b=true->l.length<=8):=by
 obtain⟨a,c,rfl,P,E,x⟩:=C;unfold maxLen at E;have d:=(Own.start B).al #[.slice a l.length c] 27;have H:=zh x;have HO:=zh d;clear x d;refine au fun R hR=>?_
 go_enter func57,ntmps57
 go_wp2;refine aC [1,3] (fun q s r=>∃i:Nat,i<=l.length/\q=l.length-i/\s=[.pointer (some ⟨w.heap.size,0,none⟩),.int .i64 (i:Int)]/\Own w m r m [.obj w.heap.size 27 #[.slice a l.length c]]) ?_ ?_
 .exact qbt
 clear HO;rintro X z q s r p-⟨i,hi,rfl,rfl,d⟩;simp[bB,lk];have J:=d.obj.c 0;have I:=d.obj.lt;by_cases hlt:i<l.length
 case neg=>
  have y:=zh d.az;by_cases D:l.length<=8
  .have n:decide ((l.length:Int)<=8)=true:=zN zo;clear d p;go_wp2;exact hR.o _ _ ⟨_,rfl,y.o,fun _=>D⟩
  .have n:decide ((l.length:Int)<=8)=false:=zM zo;clear d p;go_wp2;exact hR.o _ _ ⟨_,rfl,y.o,fun h=>by simp at h⟩
 obtain⟨b,off,rfl,t⟩:=H.o qdP;obtain⟨f,u,g,A⟩:=t i hlt;obtain⟨O,N,rfl,Q,G,-⟩:=A;unfold maxLen at G;have M:=Mem_cell_w d.ay f;have L:=Mem_cell_w d.ay g;have K:=Mem_cell_lt d.ay f;have HO:=zh d;generalize l[i].bv.length=j at*
 clear d t f g;by_cases F:j<=12
 .have n:decide ((12:Int)<(j:Int))=false:=zM zo;have k:decide (12<j)=false:=zM zo;go_wp2;exact p.o _ _ _ zo rfl ⟨i+1,zo,rfl,rfl,HO.o⟩
 .have n:decide ((12:Int)<(j:Int))=true:=zN zo;have k:decide (12<j)=true:=zN zo;exact qhn
theorem Qq(q r p:zV)(s:RS)(m:Mem)(w:zW)(B:m.ay w)(l:dD m q r p s):
 zC 56 #[s.val q r p] w fun e w'=>∃b,e=.returned (.bool b)/\zB w w'/\(b=true->s.i.length<=8/\s.f.length<=8/\s.t.length<=8):=by
 have g:=(Own.start B).al #[.bool s.dI,.bool s.dM,.bool s.dO,q,r,p] 29;have z:=zh (fun w' (h:m.ay w')=>FV p s.t m w' h l.t);have D:s.i.length<=maxLen:=by obtain⟨a,c,-,y,x,-⟩:=l.i;omega
 have C:s.f.length<=maxLen:=by obtain⟨a,c,-,y,x,-⟩:=l.f;omega
 unfold maxLen at D C;obtain⟨O,N,ac,M,L,K,rfl,rfl,rfl⟩:=l.df;unfold RS.val;have H:=g.obj.c 3;have G:=g.obj.c 4;have F:=g.obj.c 5;have E:=g.obj.lt;have HO:=zh g;generalize s.i.length=k at*
 generalize s.f.length=j at*
 generalize s.t.length=J at*
 clear g l;refine au fun R hR=>?_
 go_enter func56,ntmps56
 by_cases y:k<=5
 case neg=>
  have u:decide ((k:Int)<=5)=false:=zM zo;have d:decide (k<=5)=false:=zM zo;exact qhn
 have u:decide ((k:Int)<=5)=true:=zN zo;have d:decide (k<=5)=true:=zN zo;by_cases x:j<=5
 case neg=>
  have u:decide ((j:Int)<=5)=false:=zM zo;have d:decide (j<=5)=false:=zM zo;exact qhn
 have u:decide ((j:Int)<=5)=true:=zN zo;have d:decide (j<=5)=true:=zN zo
 go_wp2_with fail
 refine(z.o _ HO.o.ay).mono ?_;rintro e I ⟨b,rfl,n,v⟩;have A:=zh (zi (HO.o.aS n).az v);clear HO z n v;go_wp2;exact hR.o _ _ ⟨b,rfl,A.o.1,fun h=>⟨zo,zo,A.o.2 h⟩⟩
def czn(lv:Nat):Prop:=∀(v:Vl) (s:Sl) (N:Nat) (m:Mem) (w:zW) (a:Int),m.ay w->bq m N s v->0<=a->a<=60 ->
 zC 39 #[v.val s,.int .i64 (lv:Int),.int .i64 a] w fun e w'=>∃r,e=.returned (.int .i64 r)/\zB w w'/\VO lv v a r
theorem BA{lv:Nat}(_:lv<=100)(H:czn lv)(v:zV)(l:List Vd)(N:Nat)(m:Mem)(w:zW)(f:Int)(hm:m.ay w)(hl:bG (bq m N) m v l)(n' : -1000<=f)(p':f<=60):
 zC 22 #[v,.int .i64 (lv:Int),.int .i64 f] w fun e w'=>∃r,e=.returned (.int .i64 r)/\zB w w'/\CL lv l f r:=by
 obtain⟨a,c,rfl,h1,T,h3⟩:=hl;unfold maxLen at T;have hO:=Own.start hm;have HK:=zh h3;have HH:=zh H;have C:=zh hO;clear h3 hO H;refine au fun R hR=>?_
 go_enter func22,ntmps22
 go_wp2;refine aC [0,1,2,7,8] (fun q W M=>∃(i:Nat) (n:Int),i<=l.length/\q=l.length-i/\W=[.slice a l.length c,.int .i64 (lv:Int),.int .i64 f,.int .i64 n,.int .i64 (i:Int)]/\CL lv (l.take i) f n/\Own w m M m []) ?_ ?_
 .exact⟨_,0,0,zG _,rfl,rfl,.zero,C.o⟩
 clear C;rintro X z q W M hX-⟨i,n,hi,rfl,rfl,L,hO⟩;simp[bB,lk];have n1:=L.lo;have n2:=L.hi;have HM:=zh L;clear L;by_cases hlt:i<l.length
 case neg=>
  obtain rfl:i=l.length:=zo;have HF:=zh (show CL lv l f n from by have:=HM.o;rwa [yG]at this);exact qgY
 by_cases E:n<=f
 case neg=>
  have S:decide (n<=f)=false:=zM E;have q':decide (f<n)=true:=zN zo;have HF:=zh (show CL lv l f n from HM.o.grow E);exact qgY
 have S:decide (n<=f)=true:=zN E;have l':IntKind.i64.wrap (f-n)=f-n:=IntWalk.i64_in _ zo;obtain⟨b,off,rfl,h4⟩:=HK.o qdP;obtain⟨x,y,K,hx,hy⟩:=(h4 i hlt).cells;have s':=Mem_cell_lt hO.ay (K 0 _ rfl);have V:=zh (fun(w':zW) (h:m.ay w') (j:Nat) (u:zV) (Q:(bu l[i].1 x)[j]?=some u)=>Mem_cell_w h (by have:=K (0+j) u (lh Q);rwa [yZ]at this));have B:=zh (fun(w':zW) (h:m.ay w') (j:Nat) (u:zV) (Q:(bu l[i].2 y)[j]?=some u)=>Mem_cell_w h (by have:=K (9+j) u (pI Q);rwa [<-Nat.add_assoc]at this));have A:=zh (fun w' (h:m.ay w')=>HH.o l[i].1 x N m w' (f-n) h hx zo zo);have s:=zh (fun w' (h:m.ay w') k (h1:0<=k) (T:k<=60)=>HH.o l[i].2 y N m w' k h hy h1 T);have HT:=zh (show l.take (i+1)=l.take i++[l[i]] from zH hlt);have P:(bu l[i].1 x).length=9:=rfl;have O:(bu l[i].2 y).length=9:=rfl;have C:=zh hO;have Z:=V.o M hO.ay;unfold Vl.val at A s;generalize bu l[i].1 x=D at*
 generalize bu l[i].2 y=D' at*
 generalize l[i]=d at*
 clear hO h4 K hx hy
 go_wp2_with (first
  |refine aj kK rfl (.tmp 24) rfl rfl D P Z ?_
  | fail)
 refine(A.o _ C.o.ay).mono ?_;rintro e w1 ⟨r,rfl,G,J⟩;have r1:=J.lo;have r2:=J.hi;have t:=zh J;have g:=zh (C.o.aS G);have k':IntKind.i64.wrap (n+r)=n+r:=IntWalk.i64_in _ zo;clear J G C A Z;by_cases hk:n+r<=f
 case neg=>
  have S:decide (n+r<=f)=false:=zM hk;have HF:=zh (show CL lv (l.take (i+1)) f (n+r) from by rw[HT.o];have:=HM.o.step E t.o (y:=0) (fun h=>absurd h hk) (fun _=>rfl);rwa [Int.add_zero]at this);clear HM t s B;go_wp2;exact hX.o _ _ _ zo rfl ⟨i+1,n+r,zo,rfl,rfl,HF.o,g.o⟩
 have S:decide (n+r<=f)=true:=zN hk;have j':IntKind.i64.wrap (f-(n+r))=f-(n+r):=IntWalk.i64_in _ zo;have Y:=B.o w1 g.o.ay
 go_wp2_with (first
  |refine aj kK rfl (.tmp 39) rfl rfl D' O Y ?_
  | fail)
 refine(s.o _ g.o.ay (f-(n+r)) zo zo).mono ?_;rintro e w2 ⟨I,rfl,F,p⟩;have r3:=p.lo;have r4:=p.hi;have HF:=zh (show CL lv (l.take (i+1)) f (n+r+I) from by rw[HT.o];exact HM.o.step E t.o (fun _=>p) (fun h=>absurd hk h));have U:=zh (g.o.aS F);have i':IntKind.i64.wrap (n+r+I)=n+r+I:=IntWalk.i64_in _ zo;clear HM t s B Y p F g;go_wp2;exact hX.o _ _ _ zo rfl ⟨i+1,n+r+I,zo,rfl,rfl,HF.o,U.o⟩
theorem Own.row0{w0 w:zW}{m mk:Mem}{L:List bA}(h:Own w0 m w mk L)(t:TypeId)(size:Nat):Own w0 m (w.alloc (.cells #[] t)) mk (.row (.slice (some ⟨w.heap.size,0,none⟩) 0 0) t size 0 []::L):=
 (h.al' (.cells #[] t)).cons (it:=.row (.slice (some ⟨w.heap.size,0,none⟩) 0 0) t size 0 [])
  ⟨zS,.inr ⟨w.heap.size,0,#[],rfl,zG _,(aZ.new _ _ _).get,zI _,by simp[maxLen],zS,zS⟩⟩
  (fun k hk=>by simp only[bA.blk,Value.ownBlock,Option.some.injEq]at hk;subst hk;exact⟨h.az.size,Mem_none_of_ge h.ay (zI _)⟩)
  (fun b c k a d=>by simp only[bA.blk,Value.ownBlock,Option.some.injEq]at a;subst a;exact absurd (bA.lt (h.ok b c) d) (Nat.lt_irrefl _))
theorem Bl{P:Program}{t e:TypeId}{size bytes:Nat}(S:fB P t e size bytes){w:zW}{o:Oper}{a:Act}{K:Act->World->Prop}{Q:Exit->Act->World->Prop}(s x:Operand)
(ho:o.op=.call { callee:=.builtin .append,args:=#[s,x],argTypes:=#[t,t] })
(v:zV)(n:Nat)(xs:List Value)(hs:a.eval s=v)(hown:w.ownsRow 0 e size v n xs)
(ad:Option Addr)(m c:Nat)(dF:List Value)(hx:a.eval x=.slice ad m c)(hl:dF.length=m*size)(hn:ad=none->m=0)(hnews:∀A,ad=some A->∀j u,dF[j]?=some u->w.cell? (A.add j)=some u)(h1:∀u∈dF,u.oneCell'=true)
(h63:n+m<=maxLen)(hbytes:(n+m)*bytes<=140737488355328)
(h:∀va vc w',w'.ownsRow 0 e size (.slice va (n+m) vc) (n+m) (xs++dF)->w.grownBy w' v.ownBlock->(∀k,(Value.slice va (n+m) vc).ownBlock=some k->v.ownBlock=some k\/w.heap.size<=k)->K (a.put o.dst (.slice va (n+m) vc)) w'):o.wp P a w K Q:=by
 cases ad with
 |some A=>exact gq S s x ho v n xs hs hown A m c dF hx hl (hnews A rfl) h1 h63 hbytes h
 |none=>
  obtain rfl:=hn rfl;have hz:dF=[]:=yM zo;subst hz;obtain⟨i,z,hi,-⟩:=S.info;obtain⟨va,vc,rfl⟩:=bz hown;have hr:=fun ty=>vX (P:=P) t ty e i size c S.ht hi _ n xs hown;unfold Oper.wp execOp;simp only[ho,resolve,invoke,builtin,Sem.run_bind,Sem.run_pure,Result.andThen_ok,List.map_toArray,yL,xB,hs,hx,hr];exact h va vc w (by simpa using hown) ⟨rfl,rfl,rfl,zI _,fun _ _ _=>rfl⟩ (fun k hk=>.inl qeE)
theorem LH{α β:Type}(g:α->List β){l:List α}{i:Nat}(h:i<l.length):(l.take (i+1)).flatMap g=(l.take i).flatMap g++g l[i]:=by
 exact qcu
theorem PK{α β:Type}(g:α->β){l:List α}{i:Nat}(h:i<l.length):(l.take (i+1)).map g=(l.take i).map g++[g l[i]]:=by
 rw[zH h,yI];simp
theorem Ol:czn 0:=by
 intro v s N m w most d c h0 e;have a:=(Own.start d).al (bu v s).toArray 33;have b:IntKind.i64.wrap (most+1)=most+1:=IntWalk.i64_in _ zo;have HO:=zh a;unfold Vl.val;generalize bu v s=D at*
 clear a c;refine au fun R hR=>?_
 go_enter func39,ntmps39
 exact qgN
theorem Uf{lv:Nat}(hlv:lv<=100)(H:czn lv):czn (lv+1):=by
 intro v s N m w most hm C h0 h60;obtain⟨N',rfl⟩:∃n,N=n+1:=by cases N with|zero=>exact C.elim|succ n=>exact⟨n,rfl⟩
 obtain⟨v',T',M'⟩:=id C;obtain⟨la,lc,els,p1,q1,k1⟩:=id T';obtain⟨sa,sc,ess,p2,q2,k2⟩:=id M';unfold maxLen at q1 q2;obtain⟨aa,ab,ac,ad,ae,af,ei,ef,et⟩:=v'.df;have hO:=(Own.start hm).al (bu v s).toArray 33;have j':=zh (fun w' (h:m.ay w')=>Qq s.i s.f s.t v.s m w' h v');have HK:=zh (zi k1 k2);have HA:=zh (fun(v:zV) (l:List Vd) (M:Mem) w' (most:Int) (h:M.ay w') (hl:bG (bq M N') M v l) h1 h2=>BA hlv H v l N' M w' most h hl h1 h2);have hw1:IntKind.i64.wrap (most+1)=most+1:=IntWalk.i64_in _ zo;have hw2:IntKind.i64.wrap ((lv:Int)+1-1)=(lv:Int):=by rw[IntWalk.i64_in _ zo];omega
 have hw3:IntKind.i64.wrap (lv:Int)=(lv:Int):=IntWalk.i64_in _ zo;have elv:((lv+1:Nat):Int)=(lv:Int)+1:=zo;have hdl:decide ((lv:Int)+1<1)=false:=zM zo;have n7:(bu v s).toArray[7]?=some s.l:=rfl;have n8:(bu v s).toArray[8]?=some s.s:=rfl;have J':∀j u,([.bool v.s.dI,.bool v.s.dM,.bool v.s.dO,s.i,s.f,s.t]:List Value)[j]?=some u->(bu v s).toArray[1+j]?=some u:=fun j u hj=>by rw[Nat.add_comm];match j,hj with|0,hj=>exact hj|1,hj=>exact hj|2,hj=>exact hj|3,hj=>exact hj|4,hj=>exact hj|5,hj=>exact hj
 have qs:=hO.obj.sub (o:=1) J';rw[elv];rw[els]at n7;rw[ess]at n8;unfold RS.val at j';rw[ei,ef,et]at j' qs;have HO:=zh hO;unfold Vl.val;generalize bu v s=D at*
 clear hO C k1 k2 els ess ei ef et v' T' M' J' elv H;refine au fun R hR=>?_
 go_enter func39,ntmps39
 by_cases Q':most<1
 .have hd:decide (most<1)=true:=zN Q';clear qs;exact qgN
 have hd:decide (most<1)=false:=zM Q'
 go_wp2_with (first
  |refine aj wQ rfl (.tmp 22) rfl rfl [.bool v.s.dI,.bool v.s.dM,.bool v.s.dO,.slice aa v.s.i.length ab,.slice ac v.s.f.length ad,.slice ae v.s.t.length af] rfl qs ?_
  | fail)
 refine(j'.o _ HO.o.ay).mono ?_;rintro e w1 ⟨b,rfl,hb1,hb⟩;have HO1:=zh (HO.o.aS hb1);clear HO j' hb1 qs hd
 cases b with
 |false=>
  clear hb;go_wp2
  exact qhy
 |true=>
 have C':=zh (hb rfl);clear hb;have y7:=HO1.o.obj.cell n7;have y8:=HO1.o.obj.cell n8;have yl:=HO1.o.obj.lt;by_cases U':3<v.aN.length
 .have hd:decide ((3:Int)<(v.aN.length:Int))=true:=zN zo;have E:decide (3<v.aN.length)=true:=zN U';go_wp2;exact qhy
 have hd:decide ((3:Int)<(v.aN.length:Int))=false:=zM zo;have E:decide (3<v.aN.length)=false:=zM U';by_cases P':3<v.aA.length
 .have hd:decide ((3:Int)<(v.aA.length:Int))=true:=zN zo;have E:decide (3<v.aA.length)=true:=zN P';go_wp2;exact qhy
 have hd:decide ((3:Int)<(v.aA.length:Int))=false:=zM zo;have E:decide (3<v.aA.length)=false:=zM P';go_wp2;refine aC [1,2,3,7,8] (fun q J wr=>∃(i:Nat) (n:Int),i<=v.aN.length/\q=v.aN.length-i/\J=[.int .i64 ((lv:Int)+1),.int .i64 most,.pointer (some ⟨w.heap.size,0,none⟩),.int .i64 n,.int .i64 (i:Int)]/\Lh lv ((v.aN.take i).flatMap aY) most n/\Own w m wr m [.obj w.heap.size 33 D.toArray]) ?_ ?_
 .exact⟨_,0,1,zG _,rfl,rfl,.start h0,HO1.o⟩
 clear HO1 y7 y8 yl;rintro X z q J wr hX-⟨i,n,hi,rfl,rfl,hM,hO⟩;simp[bB,lk];have y7:=hO.obj.cell n7;have y8:=hO.obj.cell n8;have yl:=hO.obj.lt;have na:=hM.lo;have nb:=hM.hi;have HM:=zh hM;clear hM;by_cases hlt:i<v.aN.length
 case neg=>
  obtain rfl:i=v.aN.length:=zo;have HM1:=zh (show Lh lv (v.aN.flatMap aY++(v.aA.take 0).flatMap bN) most n from by have:=HM.o;rw[yG]at this;simpa using this);have HO1:=zh hO;clear hO hX HM hlt hi;go_wp2;refine aC [1,2,3,7,10] (fun q J wr=>∃(i:Nat) (n:Int),i<=v.aA.length/\q=v.aA.length-i/\J=[.int .i64 ((lv:Int)+1),.int .i64 most,.pointer (some ⟨w.heap.size,0,none⟩),.int .i64 n,.int .i64 (i:Int)]/\Lh lv (v.aN.flatMap aY++(v.aA.take i).flatMap bN) most n/\(∀c∈v.aA.take i,Ak c)/\Own w m wr m [.obj w.heap.size 33 D.toArray]) ?_ ?_
  .exact⟨_,0,n,zG _,rfl,rfl,HM1.o,zS,HO1.o⟩
  clear HO1 HM1 y7 y8 yl na nb;rintro X z q J wr hX-⟨i,n,hi,rfl,rfl,hM,O',hO⟩;simp[bB,lk];have y8:=hO.obj.cell n8;have yl:=hO.obj.lt;have na:=hM.lo;have nb:=hM.hi;have HM:=zh (zi hM O');clear hM O';by_cases hlt:i<v.aA.length
  case neg=>
   obtain rfl:i=v.aA.length:=zo;have HF:=zh (HM.o.1.done (fun _=>rfl) C'.o.1 C'.o.2.1 C'.o.2.2 zo zo HM.o.2);exact qgY
  by_cases hn:n<=most
  case neg=>
   have hdn:decide (n<=most)=false:=zM hn;have HF:=zh (show VO (lv+1) v most n from⟨na,nb,fun e=>absurd e hn⟩);exact qgY
  have hdn:decide (n<=most)=true:=zN hn;obtain⟨b,off,rfl,F⟩:=HK.o.2 qdP;obtain⟨u,u2,d,G,S,Q⟩:=F i hlt;obtain⟨a1,c1,rfl,s1,s2,s3⟩:=S;obtain⟨a2,c2,rfl,t1,t2,t3⟩:=Q;unfold maxLen at s2 t2;have x1:=Mem_cell_w hO.ay d;have x2:=Mem_cell_w hO.ay G;have xl:=Mem_cell_lt hO.ay d;have HT:=zh (show(v.aA.take (i+1)).flatMap bN=(v.aA.take i).flatMap bN++(v.aA[i].1.map (·.2)++v.aA[i].2.map (·.2)) from LH bN hlt);have HTS:=zh (show Ak v.aA[i]->∀c∈v.aA.take (i+1),Ak c from fun h c L=>by
   rw[zH hlt]at L;rcases yP.1 L with L|L
   .exact HM.o.2 c L
   .rw[zZ.1 L];exact h)
  have HO:=zh (hO.al #[.slice a1 v.aA[i].1.length c1,.slice a2 v.aA[i].2.length c2] 62);have HFK:=zh (zi s3 t3);generalize v.aA[i]=a at*
  have y0:=HO.o.obj.c 0;have y1:=HO.o.obj.c 1;have ym:=HO.o.obj.lt;clear hO F d G s3 t3;by_cases g1:4<a.1.length
  .have Z':decide ((4:Int)<(a.1.length:Int))=true:=zN zo;have p':decide (4<a.1.length)=true:=zN g1;exact qgN
  have Z':decide ((4:Int)<(a.1.length:Int))=false:=zM zo;have p':decide (4<a.1.length)=false:=zM g1;by_cases g2:4<a.2.length
  .have Y':decide ((4:Int)<(a.2.length:Int))=true:=zN zo;have o':decide (4<a.2.length)=true:=zN g2;exact qgN
  have Y':decide ((4:Int)<(a.2.length:Int))=false:=zM zo;have o':decide (4<a.2.length)=false:=zM g2;have HO1:=zh (HO.o.fC 35 18);clear HO;go_wp2;clear y0 y1 ym x1 x2 xl y8 yl Z' p' Y' o';refine aC [1,2,3,7,10,11,12,13] (fun q J wj=>∃(j:Nat) (rv:zV) (xs:List Value),j<=a.1.length/\q=a.1.length-j/\J=[.int .i64 ((lv:Int)+1),.int .i64 most,.pointer (some ⟨w.heap.size,0,none⟩),.int .i64 n,.int .i64 (i:Int),.pointer (some ⟨wr.heap.size,0,none⟩),rv,.int .i64 (j:Int)]/\kW (bq m N') xs ((a.1.take j).map (·.2))/\(∀f∈a.1.take j,f.1.1.size<=60) /\
   Own w m wj m [.row rv 35 18 j xs,.obj wr.heap.size 62 #[.slice a1 a.1.length c1,.slice a2 a.2.length c2],.obj w.heap.size 33 D.toArray]) ?_ ?_
  .exact⟨_,0,_,[],zG _,rfl,rfl,.nil _,zS,HO1.o⟩
  clear HO1;rintro X3 z3 q3 vs3 wj hX3-⟨j,rv,xs,hj,rfl,rfl,C,p,hO⟩;simp[bB,lk];have y0:=hO.av.obj.c 0;have y1:=hO.av.obj.c 1;have ym:=hO.av.obj.lt;by_cases g:j<a.1.length
  case neg=>
   obtain rfl:j=a.1.length:=zo;have HVR:=zh (show kW (bq m N') xs (a.1.map (·.2)++(a.2.take 0).map (·.2)) from by rw[yG]at C;simpa using C);have HSZ:=zh (show ∀f∈a.1,f.1.1.size<=60 from by rw[yG]at p;exact p);have HO1:=zh hO;clear hO hX3 C p g hj;go_wp2;clear y0 y1 ym;refine aC [1,2,3,7,10,11,12,14] (fun q J wj=>∃(j:Nat) (rv:zV) (xs:List Value),j<=a.2.length/\q=a.2.length-j/\J=[.int .i64 ((lv:Int)+1),.int .i64 most,.pointer (some ⟨w.heap.size,0,none⟩),.int .i64 n,.int .i64 (i:Int),.pointer (some ⟨wr.heap.size,0,none⟩),rv,.int .i64 (j:Int)]/\kW (bq m N') xs (a.1.map (·.2)++(a.2.take j).map (·.2))/\(∀k∈a.2.take j,k.1.length<=8) /\
    Own w m wj m [.row rv 35 18 (a.1.length+j) xs,.obj wr.heap.size 62 #[.slice a1 a.1.length c1,.slice a2 a.2.length c2],.obj w.heap.size 33 D.toArray]) ?_ ?_
   .exact⟨_,0,_,xs,zG _,rfl,rfl,HVR.o,zS,HO1.o⟩
   clear HO1 HVR;rintro X4 z4 q4 vs4 wk hX4-⟨j,rv,xs,hj,rfl,rfl,C,p,hO⟩;simp[bB,lk];have y0:=hO.av.obj.c 0;have y1:=hO.av.obj.c 1;have ym:=hO.av.obj.lt;by_cases g:j<a.2.length
   case neg=>
    obtain rfl:j=a.2.length:=zo;rw[yG]at C p;have HSR:=zh (HTS.o ⟨zo,zo,HSZ.o,p⟩);obtain⟨va,vc,rfl⟩:=bz hO.row;have W:=bG.Iy (m:=m.iH wk (.slice va (a.1.length+a.2.length) vc)) (l:=a.1.map (·.2)++a.2.map (·.2)) (by rw[zL,xC,xC];exact hO.row) C hO.free (Mem.le_refl _);have HC:=zh (HA.o _ _ _ wk (most-n) hO.bO.ay W zo zo);have HO:=zh hO;have hw4:IntKind.i64.wrap (most-n)=most-n:=IntWalk.i64_in _ zo;clear hO W C p hX4
    go_wp2_with fail
    refine HC.o.mono ?_;rintro e w7 ⟨r,rfl,B,hr⟩;have ra:=hr.lo;have rb:=hr.hi;have E':=zh (HM.o.1.step hr);have A:=zh (HO.o.tail.tail.aS B);have hw5:IntKind.i64.wrap (n+r)=n+r:=IntWalk.i64_in _ zo;clear HO HC B hr HM y0 y1 ym;go_wp2;exact hX.o _ _ _ zo rfl ⟨i+1,n+r,zo,rfl,rfl,by rw[HT.o,<-xD];exact E'.o,HSR.o,A.o⟩
   obtain⟨b2,off2,rfl,F⟩:=HFK.o.2 (by intro h;simp[h]at g);obtain⟨u,d,u'⟩:=(F j g).s;obtain⟨x,y,L,hx,hy⟩:=(F j g).v.cells;obtain⟨ua,uc,rfl,-⟩:=id u';have x1:=Mem_cell_w hO.ay d;have xl:=Mem_cell_lt hO.ay d;have HC:=zh (fun(w':zW) (h:m.ay w') (k:Nat) (u:zV) (hk:(dC a.2[j].2 x y)[k]?=some u)=>Mem_cell_w h (L k u hk));have hlD:(dC a.2[j].2 x y).length=18:=rfl;have oD:=fZ hx hy;have HLG:=zh (fun w' (h:m.ay w')=>FV _ a.2[j].1 m w' h u');have z':=zh (show kW (bq m N') (xs++dC a.2[j].2 x y) (a.1.map (·.2)++(a.2.take (j+1)).map (·.2)) from by rw[PK (·.2) g,<-xD];exact C.push hx hy);have A':=zh (show a.2[j].1.length<=8->∀k∈a.2.take (j+1),k.1.length<=8 from fun h k hk=>by
    rw[zH g]at hk;rcases yP.1 hk with hk|hk
    .exact p k hk
    .rw[zZ.1 hk];exact h)
   have HO:=zh hO;generalize dC a.2[j].2 x y=DD at*
   generalize a.2[j].1.length=ul at*
   clear hO F d u' L hx hy C p
   go_wp2_with fail
   refine(HLG.o _ HO.o.ay).mono ?_;rintro e w7 ⟨bb,rfl,B,hbb⟩;have A:=zh (HO.o.aS B);clear HO HLG B x1 xl y0 y1 ym
   cases bb with
   |false=>
    clear hbb;go_wp2
    exact hR.o _ _ ⟨most+1,rfl,A.o.az,.over h0⟩
   |true=>
   have B':=zh (A'.o (hbb rfl));have y0:=A.o.av.obj.c 0;have y1:=A.o.av.obj.c 1;have ym:=A.o.av.obj.lt;have q1:=HC.o w7 A.o.ay;have hj4:a.1.length+j<=8:=zo
   go_wp2_with (first
    |refine aj dU rfl (.tmp 169) rfl rfl DD hlD q1 ?_
    |(refine gu jZ dU qD rfl zo rfl (.tmp 170) rfl (cs:=DD.toArray) rfl qes ?_;have HO8:=zh (A.o.al DD.toArray 35))
    | (at_builtin;refine aT jZ rfl (.tmp 164) (.tmp 171) rfl rv (a.1.length+j) xs rfl HO8.o.av.row ⟨w7.heap.size,0,none⟩ 1 1 DD rfl hlD qe5 oD qdR zo ?_))
   intro va vc w8 U V T;have D':=zh (HO8.o.av.app U V T zS).bK;clear A HO8 U V T y0 y1 ym q1;go_wp2;exact hX4.o _ _ _ zo rfl ⟨j+1,_,_,zo,rfl,rfl,z'.o,B'.o,by simpa [Nat.add_assoc]using D'.o⟩
  obtain⟨b1,off1,rfl,F⟩:=HFK.o.1 (by intro h;simp[h]at g);have d:=(F j g).s;have hsb:=(F j g).sz;unfold maxLen at hsb;obtain⟨x,y,L,hx,hy⟩:=(F j g).v.cells;have x1:=Mem_cell_w hO.ay d;have xl:=Mem_cell_lt hO.ay d;have q1:=fun(k:Nat) (u:zV) (hk:(dC a.1[j].2 x y)[k]?=some u)=>Mem_cell_w hO.ay (L k u hk);have hlD:(dC a.1[j].2 x y).length=18:=rfl;have oD:=fZ hx hy;have z':=zh (show kW (bq m N') (xs++dC a.1[j].2 x y) ((a.1.take (j+1)).map (·.2)) from by rw[PK (·.2) g];exact C.push hx hy);have A':=zh (show a.1[j].1.1.size<=60->∀k∈a.1.take (j+1),k.1.1.size<=60 from fun h k hk=>by
   rw[zH g]at hk;rcases yP.1 hk with hk|hk
   .exact p k hk
   .rw[zZ.1 hk];exact h)
  have HO:=zh hO;generalize dC a.1[j].2 x y=DD at*
  generalize a.1[j].1.1=P at*
  clear hO F d L hx hy C p;by_cases g60:60<P.size
  .have hdh:decide ((60:Int)<(P.size:Int))=true:=zN zo;have X':decide (60<P.size)=true:=zN g60;clear q1;exact qgN
  have hdh:decide ((60:Int)<(P.size:Int))=false:=zM zo;have X':decide (60<P.size)=false:=zM g60;have B':=zh (A'.o zo)
  go_wp2_with (first
   |refine aj dU rfl (.tmp 143) rfl rfl DD hlD q1 ?_
   |(refine gu jZ dU qD rfl zo rfl (.tmp 144) rfl (cs:=DD.toArray) rfl qes ?_;have HO8:=zh (HO.o.al DD.toArray 35))
   | (at_builtin;refine aT jZ rfl (.tmp 138) (.tmp 145) rfl rv j xs rfl HO8.o.av.row ⟨wj.heap.size,0,none⟩ 1 1 DD rfl hlD qe5 oD qdR zo ?_))
  intro va vc w8 U V T;have D':=zh (HO8.o.av.app U V T zS).bK;clear HO HO8 U V T y0 y1 ym q1 x1 xl;go_wp2;exact hX3.o _ _ _ zo rfl ⟨j+1,_,_,zo,rfl,rfl,z'.o,B'.o,by simpa using D'.o⟩
 obtain⟨b,off,rfl,F⟩:=HK.o.1 qdP;obtain⟨u,u2,d,G,S,Q⟩:=F i hlt;have HVA:=zh (zi S Q);obtain⟨a1,c1,xs,rfl,s1,s2,s3,s4,s5⟩:=S.seg;obtain⟨a2,c2,ys,rfl,t1,t2,t3,t4,t5⟩:=Q.seg;unfold maxLen at s2 t2;have x1:=Mem_cell_w hO.ay d;have x2:=Mem_cell_w hO.ay G;have xl:=Mem_cell_lt hO.ay d;have HT:=zh (show(v.aN.take (i+1)).flatMap aY=(v.aN.take i).flatMap aY++(v.aN[i].1++v.aN[i].2) from LH aY hlt);have HO:=zh hO;have HX:=zh (zi d G);have HR3:=zh (zi s3 t3);have S':=s3.len;have R':=t3.len;have HV:=zh (kW.append s3 t3);have o1:=s3.one_cell;have o2:=t3.one_cell;have H5:=zh (zi s5 t5);generalize v.aN[i].1=k1 at*
 generalize v.aN[i].2=k2 at*
 have HLN:=zh (zi S' R');clear hO F d G S Q s3 t3 s5 t5 HVA S' R';generalize W':k1.length=K at*
 generalize V':k2.length=l2 at*
 have HL1:=zh (zi W' V');clear W' V';by_cases g3:3<K
 .have hd:decide ((3:Int)<(K:Int))=true:=zN zo;have E:decide (3<K)=true:=zN g3;exact qgN
 have hd:decide ((3:Int)<(K:Int))=false:=zM zo;have E:decide (3<K)=false:=zM g3;by_cases g2:2<l2
 .have hd:decide ((2:Int)<(l2:Int))=true:=zN zo;have E:decide (2<l2)=true:=zN g2;exact qgN
 have hd:decide ((2:Int)<(l2:Int))=false:=zM zo;have E:decide (2<l2)=false:=zM g2
 go_upto_region 9 with(fail)
 refine aV [1,2,3,7,8,9] (fun J w'=>∃(va:Option Addr) (vc:Nat),J=[.int .i64 ((lv:Int)+1),.int .i64 most,.pointer (some ⟨w.heap.size,0,none⟩),.int .i64 n,.int .i64 (i:Int),.slice va (K+l2) vc]/\Own w m w' m [.row (.slice va (K+l2) vc) 35 18 (K+l2) (xs++ys),.obj w.heap.size 33 D.toArray]) ?_ ?_
 .intro Y hY;refine kz (fun j w'=>j≠15->(aZ w' w.heap.size 33 D.toArray/\m.ay w')) zk ?_;have y':=HO.o.dr;have O:=zi y'.obj y'.ay;refine aL 1 17 _ rfl zk qfd qis O qin ?_;go_simp;refine aL 2 17 _ rfl zk qfd qis O qin ?_;go_simp;refine aL 3 17 _ rfl zk qfd qis O qin ?_;go_simp;refine aL 4 17 _ rfl zk qfd qis O qin ?_;go_simp;refine aL 5 17 _ rfl zk qfd qis O qin ?_;go_simp;refine aL 6 17 _ rfl zk qfd qis O qin ?_;go_simp;refine aL 8 17 _ rfl zk qfd qis O qin ?_;go_simp;refine aL 9 17 _ rfl zk qfd qis O qin ?_;go_simp;refine aL 10 17 _ rfl zk qfd qis O qin ?_;go_simp;refine aL 11 17 _ rfl zk qfd qis O qin ?_;go_simp;refine aL 12 17 _ rfl zk qfd qis O qin ?_;go_simp;refine aL 13 17 _ rfl zk qfd qis O qin ?_;go_simp;have Z:=y'.row0 35 18;refine bg 0 zk (aJ rfl rfl (aO qdT ⟨.inr fun _=>zi Z.av.obj Z.ay,?_⟩));go_simp;refine bg 7 zk (aJ rfl rfl (Bl jZ (.tmp 68) (.tmp 74) rfl (.slice (some ⟨wr.heap.size,0,none⟩) 0 0) 0 [] zg Z.row a1 K c1 xs zg HLN.o.1 s4 (H5.o.1 _ Z.ay) o1 qdR zo (fun va vc w4 ho4 hg4 hr4=>?_)));have I:=Z.app ho4 hg4 hr4 zS;simp only[yZ,xN]at I;refine⟨.inr fun _=>zi I.av.obj I.ay,?_⟩;go_simp;refine bg 14 zk (aJ rfl rfl (Bl jZ (.tmp 75) (.tmp 81) rfl (.slice va K vc) K xs zg I.row a2 l2 c2 ys zg HLN.o.2 t4 (H5.o.2 _ I.ay) o2 qdR zo (fun va5 vc5 w5 ho5 hg5 hr5=>?_)));have x':=I.app ho5 hg5 hr5 zS;refine⟨.inr fun _=>zi x'.av.obj x'.ay,?_⟩;go_simp;refine bg 15 zk (aJ rfl rfl (aO qdT ⟨.inl rfl,?_⟩));refine gM zk ?_ _;exact hY.o _ _ rfl ⟨va5,vc5,rfl,x'⟩
 clear HO x1 x2 xl y7 y8 yl;rintro z1 J w6-⟨va,vc,rfl,hO⟩;simp[bB,lk];have W:=bG.Iy (m:=m.iH w6 (.slice va (K+l2) vc)) (l:=k1++k2) (by rw[zL,HL1.o.1,HL1.o.2];exact hO.row) HV.o hO.free (Mem.le_refl _);have HC:=zh (HA.o _ _ _ w6 (most-n) hO.bO.ay W zo zo);have HO:=zh hO;have hw4:IntKind.i64.wrap (most-n)=most-n:=IntWalk.i64_in _ zo;clear hO W
 go_wp2_with fail
 refine HC.o.mono ?_;rintro e w7 ⟨r,rfl,B,hr⟩;have ra:=hr.lo;have rb:=hr.hi;have E':=zh (HM.o.step hr);have A:=zh (HO.o.tail.aS B);have hw5:IntKind.i64.wrap (n+r)=n+r:=IntWalk.i64_in _ zo;clear HO HC B hr HM;go_wp2;exact hX.o _ _ _ zo rfl ⟨i+1,n+r,zo,rfl,rfl,by rw[HT.o];exact E'.o,A.o⟩
theorem FY:∀lv,lv<=100->czn lv
 |0,_=>Ol
 |lv+1,h=>Uf zo (FY lv zo)
theorem wX{N:Nat}(d:Vd)(x y:Sl)(m:Mem)(w:zW)(E:m.ay w)(A:bq m N x d.1)(z:bq m N y d.2):
 zC 7 #[bP d x y] w fun e w'=>∃b,e=.returned (.bool b)/\zB w w'/\(b=true->fQ d):=by
 have p:=(Own.start E).al (dC d x y).toArray 35;have c:=p.al (dC d x y).toArray 35;simp only[bC]at c;have s:=fun j u (hj:(dC d x y)[j]?=some u)=>Mem_add_cell (m:=m) c.obj (i:=j) qdU;have f:=Mem_le_add (m:=m) (w:=(w.alloc (.cells (dC d x y).toArray 35)).alloc (.cells (dC d x y).toArray 35)) c.jG;have t:bG (bq (m.add ((w.alloc (.cells (dC d x y).toArray 35)).alloc (.cells (dC d x y).toArray 35)) (w.heap.size+1)) N) (m.add ((w.alloc (.cells (dC d x y).toArray 35)).alloc (.cells (dC d x y).toArray 35)) (w.heap.size+1)) (.slice (some ⟨w.heap.size+1,0,none⟩) 1 1) [d]:=
  ⟨some ⟨w.heap.size+1,0,none⟩,1,rfl,zI _,by simp[maxLen],fun _=>⟨w.heap.size+1,0,rfl,fun i hi=>by
   obtain rfl:i=0:=by simpa using hi
   exact .of (fun j u hj=>by have:=s j u hj;simpa using this) (A.le f) (z.le f)⟩⟩
 have B:=zh (BA zD (FY 3 zD) _ _ N _ _ 60 c.gU.ay t zD zD);have hl:(dC d x y).length=18:=rfl;have q:=p.obj.all;have l:=zh c;unfold bP;generalize dC d x y=D at*
 clear p c s f t A z;refine au fun R v=>?_
 go_enter func7,ntmps7
 go_wp2_with (first
  |refine aj dU rfl (.tmp 1) rfl rfl D hl q ?_
  |(refine gu jZ dU qD rfl zo rfl (.tmp 3) rfl (cs:=D.toArray) rfl qdY ?_)
  | fail)
 refine B.o.mono ?_;rintro e H ⟨r,rfl,k,n⟩;have J:=n.lo;have I:=n.hi;have C:=zh (l.o.aS k).az;have G:=zh (show r<=60->fQ d from fun h=>by
  obtain⟨a,b⟩:=n.ok h;have a:=a d zS;rw[fq,ru]at b;exact⟨a.1,a.2,zo⟩)
 clear B l k n q;by_cases g:r<=60
 .have F:decide (r<=60)=true:=zN g;go_wp2;exact v.o _ _ ⟨true,rfl,C.o,fun _=>G.o g⟩
 .have F:decide (r<=60)=false:=zM g;go_wp2;exact v.o _ _ ⟨false,rfl,C.o,fun h=>by cases h⟩
end Cl
