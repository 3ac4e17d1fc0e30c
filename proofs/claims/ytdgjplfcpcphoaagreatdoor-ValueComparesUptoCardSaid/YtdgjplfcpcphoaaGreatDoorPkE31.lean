/- Lemmas for the proofs of chapter 11. -/
import Derived.Test.YtdgjplfcpcphoaaGreatDoorPkE14
import Derived.Test.YtdgjplfcpcphoaaGreatDoorPkE30
import Derived.Test.YtdgjplfcpcphoaaGreatDoorPkE29
set_option maxRecDepth 100000
set_option maxHeartbeats 16000000
namespace Cl
open Go Go.RowKit Go.Proofs Tryz
def Aq(m:Mem)(v:zV)(l:List aC):Prop:=Mem.qc (fun b o T=>∃u,m.cell b o=some u/\aQ m u T) v l
theorem TE(v N:zV)(Ls:List aC)(ps:List Int)(b:Nat)(m:Mem)(w:zW)(Z:m.ay w)(hv:Aq m v Ls)(hp:eU m N ps)(hl:Ls.length=ps.length)
(V:∀i,i<ps.length -> -1<=ps.getD i (-1)/\ps.getD i (-1)<(Ls.getD i []).length)(hb:b<256):
 zX 190 #[v,N,.int .i64 b] w (.int .i64 (nz Ls ps b Ls.length)):=by
 obtain⟨la,lc,rfl,h1,h2,h3⟩:=hv;obtain⟨pa,P,rfl,p1,p2,Q⟩:=hp;unfold maxLen at h2 p2;have J:=zh (zi hl (zi V Z));have l:Ls.length<=ps.length:=zo;have H3:=zh h3;have P3:=zh Q;clear hl V Z h3 Q;refine aj fun R hR=>?_
 go_enter func190,ntmps190
 go_wp2;refine av [0,1,2,7,8] (fun n A M=>∃(k:Nat),k<=Ls.length/\n=Ls.length-k/\A=[.slice la Ls.length lc,.slice pa ps.length P,.int .i64 b,.int .i64 (nz Ls ps b k),.int .i64 k]/\zB w M) ?_ ?_
 .exact⟨_,0,zG _,rfl,rfl,zR _ _⟩
 rintro X z n A M hX-⟨k,hk,rfl,rfl,q⟩;simp[aX,lk];have a:=Mem_inn_below J.o.2.2 q;have HB:=zh q;clear q;have y':=Cb Ls ps b k;by_cases hlt:k<Ls.length
 .obtain⟨gb,go,rfl,hg⟩:=H3.o qdX;obtain⟨qb,qo,rfl,W⟩:=P3.o (by intro h;rw[h]at l;simp at l;simp[l]at hlt);obtain⟨u,g1,ua,uc,rfl,g2,g3,F⟩:=hg k hlt;obtain⟨s,O,q3⟩:=W k zo;have B:=J.o.2.1 k zo;have H:Ls.getD k []=Ls[k]:=by simp[hlt]
  have C:k<ps.length:=zo;have G:ps.getD k (-1)=ps[k]:=by simp[C]
  have t:nz Ls ps b (k+1)=Ce b (mK Ls[k] ps[k]) (nz Ls ps b k):=by rw[<-H,<-G];rfl
  rw[H,G]at B;have y:=zh t;have D:=Cc (Ls:=Ls) (ps:=ps) hb k;clear t H G hg W;have c1:=Mem_cell_w a g1;have c2:=Mem_cell_w a s;have c3:=Mem_cell_lt a g1;have c4:=Mem_cell_lt a s;generalize Ls[k]=T at*
  generalize ps[k]=p at*
  generalize nz Ls ps b k=o at*
  by_cases f:p<0
  .have hd:decide (p<0)=true:=zN f;have he:nz Ls ps b (k+1)=o:=by rw[y.o,mK,zK f,XW]
   have HE:=zh he;clear he F;go_wp2;refine hX.o _ _ _ zo rfl ⟨k+1,zo,rfl,by rw[HE.o];rfl,HB.o⟩
  .obtain⟨p,rfl⟩:=zT (by omega:0<=p);have g:p<T.length:=zo;obtain⟨b',S,rfl,d⟩:=F (by intro h;simp[h]at g);obtain⟨-,ve,e2,ea,ec,rfl,e4,e5,e6⟩:=d p g;have x:mK T (p:Int)=(T[p]).aH:=by
    have E:¬((p:Int)<0):=zo;simp[mK,E,g]
   rw[x]at y;have y:=zh y.o;clear x d;generalize T[p].aH=es at*
   unfold maxLen at e5 g3;have c5:=Mem_cell_w a e2;have c6:=Mem_cell_lt a e2;have E6:=zh e6;clear e6 F;go_wp2
   go_quiet (fail)
   go_wp2;refine av [0,1,2,7,8,9,10] (fun n A L=>∃(j:Nat),j<=es.length/\n=es.length-j/\A=[.slice (some ⟨gb,go,none⟩) Ls.length lc,.slice (some ⟨qb,qo,none⟩) ps.length P,.int .i64 b,.int .i64 (Ce b (es.take j) o),.int .i64 k,.slice ea es.length ec,.int .i64 j]/\zB w L) ?_ ?_
   .exact⟨_,0,zG _,rfl,rfl,below_drewN HB.o _⟩
   clear c1 c2 c3 c4 c5 c6 a HB;rintro Y z1 n1 l' L hY-⟨j,hj,rfl,rfl,r⟩;simp[aX,lk];have a:=Mem_inn_below J.o.2.2 r;have HB:=zh r;clear r;by_cases c:j<es.length
   .obtain⟨eb,eo,rfl,d⟩:=E6.o (by intro h;simp[h]at c);obtain⟨K,x2,-,x4,x5,-⟩:=d j c;have d1:=Mem_cell_w a K;have d2:=Mem_cell_w a x2;have d3:=Mem_cell_lt a K;have U:=VL b o c;have u':=x9 b (es.take j) o;have t':=Mo (es.take j) o D;generalize es[j]=e at*
    generalize Ce b (es.take j) o=o1 at*
    have I:=zh U;clear U d;by_cases s:b<e.lo<;>by_cases O:b<=e.hi
    all_goals
     have y1:decide ((b:Int)<(e.lo:Int))=decide (b<e.lo):=by simp
     simp only[s,decide_true,decide_false]at y1;go_wp2;refine hY.o _ _ _ zo rfl ⟨j+1,zo,rfl,?_,HB.o⟩;rw[I.o];simp[EI,s,O]
     try omega
   .obtain rfl:j=es.length:=zo;clear hj;go_wp2;refine hX.o _ _ _ zo rfl ⟨k+1,zo,rfl,by rw[y.o,yG];rfl,HB.o⟩
 .obtain rfl:k=Ls.length:=zo;clear hk;exact qag
theorem WP:gz prog 228 227 2 16:=⟨underlying228,zo,by
 obtain⟨i,d,c,b,a⟩:=info_parts (P:=prog) (e:=227) (z:=.agg #[.int .i64 0,.int .i64 0]) (size:=2) (bytes:=16) zk;exact⟨i,_,d,c,b,a,rfl⟩⟩
def st0(l:aC):Int:=if l.length=0 then -1 else 0
theorem Nf{l:aC}(x:List UInt8):aK l (st0 l) x=aK l 0 x:=by
 unfold st0
 split
 .rename_i h;rw[yM h,gK,dQ zo]
 .rfl
theorem EW(l:aC): -1<=st0 l/\st0 l<l.length:=by
 unfold st0
 split<;>omega
theorem YF{op:Nat}{f:Bool->Bool->Bool}(h:op=38/\f=(fun x y=>x&&y)\/op=124/\f=(fun x y=>x||y)\/op=45/\f=(fun x y=>x && !y)):f false false=false:=by
 rcases h with⟨-,rfl⟩|⟨-,rfl⟩|⟨-,rfl⟩<;>rfl
theorem GY(l:List (Int×Int))(x:Int×Int):firstIdx (fun y=>y=x) l 0=if gL l x<l.length then((gL l x:Nat):Int)else -1:=by
 rw[<-z8]
 congr 1
 funext y;exact propext eq_comm
theorem XV{w0 w:zW}{m mk:Mem}{L:List Cl.bF}{b a:Nat}{v v':zV}{A B:aC}{f d:Int}{c:Nat}
(g:Own w0 m w mk (.obj a 3 #[.int .i64 f,.int .i64 d]::.obj b 27 #[v,v']::L))(s:aQ mk v A)(r:aQ mk v' B)
(y : -1<=f)(x:f<A.length)(u : -1<=d)(t:d<B.length)(q:c<256)(p:A.length<=1000000)(o:B.length<=1000000):
 zX 190 #[.slice (some ⟨b,0,none⟩) 2 2,.slice (some ⟨a,0,none⟩) 2 2,.int .i64 c] w (.int .i64 (nz [A,B] [f,d] c 2)):=by
 have n:=Mem_le_add (w:=w) g.au.lV;have h:=g.au.lU;have j:=Mem_le_add (w:=w) h.lV;have k:=h.lU;have E:((mk.add w b).add w a).cell b 0=some v:=Mem_cell_le j (Mem_add_cell g.au.obj rfl);have D:((mk.add w b).add w a).cell b 1=some v':=Mem_cell_le j (Mem_add_cell g.au.obj rfl);have C:((mk.add w b).add w a).cell a 0=some (.int .i64 f):=Mem_add_cell g.obj rfl;have z:((mk.add w b).add w a).cell a 1=some (.int .i64 d):=Mem_add_cell g.obj rfl;have l:=Mem.le_trans n j;refine TE (.slice (some ⟨b,0,none⟩) 2 2) (.slice (some ⟨a,0,none⟩) 2 2) [A,B] [f,d] c _ w k.ay ?_ ?_ rfl ?_ q
 .refine⟨_,2,rfl,zI _,by simp[maxLen],fun _=>⟨b,0,rfl,fun i hi=>?_⟩⟩;have:i=0\/i=1:=by simp at hi;omega
  rcases this with rfl|rfl
  .exact⟨v,E,aW l s⟩
  .exact⟨v',D,aW l r⟩
 .refine⟨_,2,rfl,zI _,by simp[maxLen],fun _=>⟨a,0,rfl,fun i hi=>?_⟩⟩;have:i=0\/i=1:=by simp at hi;omega
  rcases this with rfl|rfl
  .exact⟨C,by simp only[xL];omega,by simp only[xL];omega⟩
  .exact⟨z,by simp only[List.getElem_cons_succ,xL];omega,by simp only[List.getElem_cons_succ,xL];omega⟩
 .intro i hi;have:i=0\/i=1:=by simp at hi;omega
  rcases this with rfl|rfl
  .exact⟨y,x⟩
  .exact⟨u,t⟩
theorem Pb(op:Nat)(f:Bool->Bool->Bool)(hw:op=38/\f=(fun x y=>x&&y)\/op=124/\f=(fun x y=>x||y)\/op=45/\f=(fun x y=>x && !y))
(v0 v1:zV)(A B:aC)(m:Mem)(w:zW)(hm:m.ay w)(hA:aQ m v0 A)(hB:aQ m v1 B)(hlen:(A.length+2)*(B.length+2)<=1000000)(hlA:A.length<=1000000)(hlB:B.length<=1000000):
 zC 209 #[.agg #[v0],.agg #[v1],.int .u8 op] w fun e w'=>∃r C,e=.returned (.agg #[r])/\zB w w'/\aQ (m.grow w w') r C /\
  j3 (fun x=>f (Sem A x) (Sem B x)) C/\C.length<=(A.length+2)*(B.length+2)+1:=by
 have G:=(((Own.start hm).al #[v0] 27).al #[v1] 27).al #[.slice none 0 0] 27;have hsz1:(w.alloc (.cells #[v0] 27)).heap.size=w.heap.size+1:=by simp
 have hsz2:((w.alloc (.cells #[v0] 27)).alloc (.cells #[v1] 27)).heap.size=w.heap.size+1+1:=by simp
 rw[hsz2,hsz1]at G;have HO:=zh G;have HA:=zh hA;have HB:=zh hB;have HW:=zh hw;clear G hsz1 hsz2 hw hm;refine aj fun R hR=>?_;obtain⟨va,vc,rfl,-⟩:=hA;obtain⟨vb,vd,rfl,-⟩:=hB
 go_enter func209,ntmps209
 go_wp2;refine aR [2,6,7,8] (fun vs w'=>∃(g1 g2:Nat) (mk:Mem) (xa ya:Option Addr) (xc yc:Nat),vs=[.int .u8 op,.pointer (some ⟨w.heap.size+1+1,0,none⟩),.pointer (some ⟨g1,0,none⟩),.pointer (some ⟨g2,0,none⟩)] /\
  Own w m w' mk [.obj g2 27 #[.slice ya (bX B).length yc],.obj g1 27 #[.slice xa (bX A).length xc],.obj (w.heap.size+1+1) 27 #[.slice none 0 0]]/\m.le mk /\
  aQ mk (.slice xa (bX A).length xc) (bX A)/\aQ mk (.slice ya (bX B).length yc) (bX B)) ?_ ?_
 .intro X hX;refine bz 6 6 (fun j=>[aD.is (·=.agg #[.slice va A.length vc]),aD.mem m [1] (Sm (bX A)),aD.is (·=.agg #[.slice vb B.length vd]),aD.mem m [3] (Sm (bX B)),aD.obj 4 27 #[.slice none 0 0],aD.obj 5 27 #[.slice none 0 0]].getD j aD.any) zk zk ?_ ?_
  .intro i hi o win a T ho J;have HO2:=HO.o.dr.aP J.az;have q1:=HO2.au.obj.c 0;have q2:=HO2.bA.obj.c 0;rcases(show i=0\/i=1\/i=2\/i=3\/i=4\/i=5 by omega)with rfl|rfl|rfl|rfl|rfl|rfl
   .have e3:=J.k 3;exact qaa
   .have e20:zt a 20 _:=J.d 0 rfl;cases ho;refine we rfl rfl (CR (.slice va A.length vc) A m T HO2.ay HA.o hlA) ?_;exact qcX
   .have e4:=J.k 4;exact qaa
   .have e22:zt a 22 _:=J.d 2 rfl;cases ho;refine we rfl rfl (CR (.slice vb B.length vd) B m T HO2.ay HB.o hlB) ?_;exact qcX
   .exact qay
   .exact qay
  .intro win a T E;have e2:=E.keep 2 zk;have e6:=E.keep 6 zk;have e7:(aD.obj 4 27 #[.slice none 0 0]).holds (a.tmps.getD 7 undef) win T:=E.fact 4 _ zo rfl;have e8:(aD.obj 5 27 #[.slice none 0 0]).holds (a.tmps.getD 8 undef) win T:=E.fact 5 _ zo rfl;have e21:(aD.mem m [1] (Sm (bX A))).holds (a.tmps.getD 21 undef) win T:=E.fact 1 _ zo rfl;have e23:(aD.mem m [3] (Sm (bX B))).holds (a.tmps.getD 23 undef) win T:=E.fact 3 _ zo rfl;obtain⟨xa,xc,f1,st1⟩:Sm _ _ _:=e21;obtain⟨ya,yc,f2,Z'⟩:Sm _ _ _:=e23;obtain⟨p1,n1,o1⟩:_/\_/\_:=e7;obtain⟨p2,n2,o2⟩:_/\_/\_:=e8;have g1:=E.ik 4 zo;have g2:=E.ik 5 zo;have far:∀j,j=4\/j=5->∀d∈[1,3],¬((win d).1<=(win j).1/\(win j).1<(win d).2):=by
    intro j hj d hd;have hd':d=1\/d=3:=by simpa using hd
    have:=E.apart j d zo zo zo;have:(win j).2=(win j).1+1:=by rcases hj with rfl|rfl<;>assumption
    omega
   have hO1:=(HO.o.dr.bL.bL).region E.az win [1,3] (fun d hd=>(E.ik d qeg).1);have no:∀j,j=4\/j=5->m.gU T win [1,3] (win j).1=none:=fun j hj=>
    Mem_wins_none qfV (far j hj)
   have hL1:=(HO.o.dr.bL.bL).A9 g1.1;have hL2:=(HO.o.dr.bL.bL).A9 g2.1;have a12:=E.apart 4 5 zo zo zo;have E':=HO.o.dr.az.size;have F:=hO1.newObj o1 zo (no 4 zo) hL1;have F:=F.newObj o2 zo (no 5 zo) (Ps zo hL2);have st1:=aW qfq st1;have Z':=aW qfq Z';have hle:=Mem_le_wins hO1.XB win [1,3];have HK:=zh (zi hle (zi st1 Z'));generalize m.gU T win [1,3]=mk at*
   generalize (win 4).1=q1 at*
   generalize (win 5).1=q2 at*
   have HE:=zh E;clear st1 Z' hle hL1 hL2 no far hO1 a12 g1 g2 o1 o2 n1 n2 E' E;have b1:=F.au.obj.frozen 0;have b2:=F.au.obj.c 0;have b3:=F.au.obj.lt;have I:=F.au.set 0 (.slice xa (bX A).length xc);refine eF 6 zk (aJ rfl rfl (cO zg ?_));clear b1 b2 b3;have b1:=I.au.obj.frozen 0;have b2:=I.au.obj.c 0;have b3:=I.au.obj.lt;have a':=I.au.set 0 (.slice ya (bX B).length yc);refine eF 7 zk (aJ rfl rfl (cO zg ?_));obtain⟨t,d⟩:=a;obtain rfl:d=[]:=HE.o.defers;refine bY zk (hX.o _ _ HE.o.size ⟨q1,q2,mk,xa,ya,xc,yc,?_,a',HK.o.1,HK.o.2⟩) _;simp only[yL,xB,e2,e6,p1,p2]
   rfl
 rintro z vs w1-⟨G1,G2,mk,xa,ya,xc,yc,rfl,G,hmk,hr1,hr2⟩;simp[aX,lk];clear HO HA HB;have hgA:=jG A;have hgB:=jG B;have hgAl:=jY A;have hgBl:=jY B;have J':∀x,aK (bX A) 0 x=Sem A x:=fun x=>by
  unfold bX Sem;by_cases h:dG A
  .simp[aO h]
  .exact qde
 have I':∀x,aK (bX B) 0 x=Sem B x:=fun x=>by
  unfold bX Sem;by_cases h:dG B
  .simp[aO h]
  .exact qde
 have HG:=zh (zi hgA (zi hgB (zi J' I')));clear hgA hgB J' I';have hmul:((bX A).length+2)*((bX B).length+2)<=(A.length+2)*(B.length+2):=xV zo zo;generalize bX A=D at*
 generalize bX B=u at*
 have HO:=zh G;have s':=zh (zi hr1 hr2);clear G hr1 hr2;go_wp2;refine aR [2,6,7,8,9] (fun vs w'=>∃(g3:Nat),vs=[.int .u8 op,.pointer (some ⟨w.heap.size+1+1,0,none⟩),.pointer (some ⟨G1,0,none⟩),.pointer (some ⟨G2,0,none⟩),.slice (some ⟨g3,0,none⟩) 1 1] /\
  Own w m w' mk [.obj g3 227 #[.int .i64 (st0 D),.int .i64 (st0 u)],.obj G2 27 #[.slice ya u.length yc],.obj G1 27 #[.slice xa D.length xc],.obj (w.heap.size+1+1) 27 #[.slice none 0 0]]) ?_ ?_
 .intro X hX;refine bz 7 6 (fun j=>[aD.is (·=.agg #[.slice xa D.length xc]),aD.is (·=.int .i64 (st0 D)),aD.is (·=.agg #[.slice ya u.length yc]),aD.is (·=.int .i64 (st0 u)),aD.is (·=.agg #[.int .i64 (st0 D),.int .i64 (st0 u)]),aD.sl 5 227 #[.int .i64 (st0 D),.int .i64 (st0 u)] 1,aD.sl 5 227 #[.int .i64 (st0 D),.int .i64 (st0 u)] 1].getD j aD.any) zk zk ?_ ?_
  .intro i hi o win a T ho J;have HO2:=HO.o.dr.aP J.az;have q1:=HO2.obj.c 0;have q2:=HO2.au.obj.c 0;rcases(show i=0\/i=1\/i=2\/i=3\/i=4\/i=5\/i=6 by omega)with rfl|rfl|rfl|rfl|rfl|rfl|rfl
   .have e7:=J.k 7;exact qaa
   .have e24:zt a 24 _:=J.d 0 rfl;cases ho;refine we rfl rfl (JE (.slice xa D.length xc) D mk T s'.o.1) ?_;exact qab
   .have e8:=J.k 8;exact qaa
   .have e26:zt a 26 _:=J.d 2 rfl;cases ho;refine we rfl rfl (JE (.slice ya u.length yc) u mk T s'.o.2) ?_;exact qab
   .have e25:zt a 25 _:=J.d 1 rfl;have e27:zt a 27 _:=J.d 3 rfl;have f25:=(zY (xs:=a.tmps) (i:=25) (d:=undef)).symm.trans e25;have f27:=(zY (xs:=a.tmps) (i:=27) (d:=undef)).symm.trans e27;exact qaa
   .have e28:zt a 28 _:=J.d 4 rfl;have f28:=(zY (xs:=a.tmps) (i:=28) (d:=undef)).symm.trans e28;cases ho;exact qdH
   .have e29:(aD.sl 5 227 #[.int .i64 (st0 D),.int .i64 (st0 u)] 1).holds (a.tmps.getD 29 undef) win T:=J.d 5 rfl;cases ho;obtain⟨f1,f2,f3⟩:_/\_/\_:=e29;exact aJ rfl rfl (aN zg ⟨_,rfl,zR _ _,(aD.sl 5 227 #[.int .i64 (st0 D),.int .i64 (st0 u)] 1).mono _ win _ T T (fun d hd=>⟨(oV.tQ win _ (by simp[aD.sl]at hd;omega)).symm,(J.ik d (by simp[aD.sl]at hd;subst hd;kernel_rfl)).2.2⟩) (zR _ _) ⟨rfl,f2,f3⟩⟩)
  .intro win a T E;have e2:=E.keep 2 zk;have e6:=E.keep 6 zk;have e7:=E.keep 7 zk;have e8:=E.keep 8 zk;have e9:(aD.sl 5 227 #[.int .i64 (st0 D),.int .i64 (st0 u)] 1).holds (a.tmps.getD 9 undef) win T:=E.fact 6 _ zo rfl;obtain⟨p1,n1,o1⟩:_/\_/\_:=e9;have g1:=E.ik 5 zo;have hO1:=HO.o.dr.aP E.az;have E':=HO.o.dr.az.size;have F:=hO1.newObj o1 zo (Mem_none_of_ge HO.o.dr.ay g1.1) (HO.o.dr.A9 g1.1);obtain⟨t,d⟩:=a;obtain rfl:d=[]:=E.defers;refine bY zk (hX.o _ _ E.size ⟨(win 5).1,?_,F⟩) _;simp only[yL,xB,e2,e6,e7,e8,p1]
   rfl
 rintro z2 vs w2-⟨g3,rfl,G⟩;simp[aX,lk];clear HO;have F:=(G.Yl).dL 80 2;have HO2:=zh (zi F (zi (FY (A:=D) (B:=u) (op:=f) (st:=(st0 D,st0 u)) (by have:=EW D;have:=EW u;simp only;omega)) (zi (EW D) (EW u))));clear G F;go_wp2;refine av [2,6,7,8,9,10,11] (fun n vs T=>∃(k:Nat) (l:List (Int×Int)) (out:aC) (vl vo:zV) (xs:List Value) (mk':Mem),n=1000001-k /\
  vs=[.int .u8 op,.pointer (some ⟨w.heap.size+1+1,0,none⟩),.pointer (some ⟨G1,0,none⟩),.pointer (some ⟨G2,0,none⟩),vl,vo,.int .i64 k] /\
  Own w m T mk' [.row vo 80 2 k xs,.row vl 227 2 l.length (ek l),.obj G2 27 #[.slice ya u.length yc],.obj G1 27 #[.slice xa D.length xc],.obj (w.heap.size+1+1) 27 #[.slice none 0 0]] /\
  kJ mk' xs out/\mk.le mk'/\jI D u f (st0 D,st0 u) l out/\out.length=k/\(∀q∈l,q.1<D.length/\q.2<u.length)) ?_ ?_
 .refine⟨_,0,[(st0 D,st0 u)],[],.slice (some ⟨g3,0,none⟩) 1 1,.slice none 0 0,[],mk,rfl,rfl,HO2.o.1,kJ.nil _,Mem.le_refl _,HO2.o.2.1,rfl,fun q hq=>?_⟩;simp only[zZ]at hq;subst hq;exact⟨HO2.o.2.2.1.2,HO2.o.2.2.2.2⟩
 clear HO2;rintro X z3 n vs T hX-⟨k,l,out,vl,vo,xs,mk',rfl,rfl,G,L',q',c',M',x'⟩;simp[aX,lk];obtain⟨vla,vlc,rfl⟩:=aT G.au.row;have hpl:=nN c'.nodup c'.ik;have hkl:=c'.le;by_cases hlt:k<l.length
 .obtain⟨vlb,rfl⟩:=kH G.au.row zo;have hpc:=nX l k hlt;have r1:=bg G.au.row hpc.1;have r2:=bg G.au.row hpc.2;have rl:=(World.ownsRow.lt G.au.row _ rfl).2;have O':l[k]?=some l[k]:=by simp[hlt]
  have hrng:=c'.ik l[k] (zF hlt);have hrn2:=x' l[k] (zF hlt);have HP:=zh (zi c' (zi M' (zi O' x')));generalize l[k]=p at*
  obtain⟨L,K⟩:=p;simp only at r1 r2 hrng hrn2;have F:=G.al #[.int .i64 L,.int .i64 K] 227;have HO2:=zh F;clear F G c' M' O' hpc x';go_wp2;generalize hW2:T.alloc (.cells #[.int .i64 L,.int .i64 K] 227)=w2 at*
  generalize T.heap.size=P at*
  refine aR [2,6,7,8,9,10,11,12,13] (fun vs w'=>∃S:Nat,
   vs=[.int .u8 op,.pointer (some ⟨w.heap.size+1+1,0,none⟩),.pointer (some ⟨G1,0,none⟩),.pointer (some ⟨G2,0,none⟩),.slice (some ⟨vlb,0,none⟩) l.length vlc,vo,.int .i64 k,.pointer (some ⟨P,0,none⟩),.pointer (some ⟨S,0,none⟩)] /\
   Own w m w' mk' [.obj S 80 #[.bool (f (bB D L) (bB u K)),.slice none 0 0],.obj P 227 #[.int .i64 L,.int .i64 K],.row vo 80 2 k xs,.row (.slice (some ⟨vlb,0,none⟩) l.length vlc) 227 2 l.length (ek l),.obj G2 27 #[.slice ya u.length yc],.obj G1 27 #[.slice xa D.length xc],.obj (w.heap.size+1+1) 27 #[.slice none 0 0]]) ?_ ?_
  .intro Y hY;refine bz 12 6 (fun j=>[aD.is (·=.int .u8 op),aD.is (·=.agg #[.slice xa D.length xc]),aD.is (·=.pointer (some ⟨P,0,none⟩)),aD.is (·=.int .i64 L),aD.is (·=.bool (bB D L)),aD.is (·=.agg #[.slice ya u.length yc]),aD.is (·=.pointer (some ⟨P,1,none⟩)),aD.is (·=.int .i64 K),aD.is (·=.bool (bB u K)),aD.is (·=.bool (f (bB D L) (bB u K))),aD.is (·=.agg #[.bool (f (bB D L) (bB u K)),.slice none 0 0]),aD.obj 11 80 #[.bool false,.slice none 0 0]].getD j aD.any) zk zk ?_ ?_
   .intro i hi o win a T ho J;have b':=HO2.o.dr.aP J.az;have q1:=(b'.eO (g:=G1) (t:=27) (arr:=#[.slice xa D.length xc]) zS).cell (i:=0) rfl;have q2:=(b'.eO (g:=G2) (t:=27) (arr:=#[.slice ya u.length yc]) zS).cell (i:=0) rfl;have q3:=b'.obj.c 0;have q4:=b'.obj.c 1;have P':=Mem_inn_le q' b'.ay;rcases(show i=0\/i=1\/i=2\/i=3\/i=4\/i=5\/i=6\/i=7\/i=8\/i=9\/i=10\/i=11 by omega)with rfl|rfl|rfl|rfl|rfl|rfl|rfl|rfl|rfl|rfl|rfl|rfl
    .have e2:=J.k 2;exact qaa
    .have e7:=J.k 7;exact qaa
    .have y':=J.k 12;exact qaa
    .have e42:zt a 42 _:=J.d 2 rfl;exact qaa
    .have e41:zt a 41 _:=J.d 1 rfl;have e43:zt a 43 _:=J.d 3 rfl;cases ho;refine we rfl rfl (uK (.slice xa D.length xc) D L mk T P' s'.o.1 zo zo) ?_;exact qab
    .have e8:=J.k 8;exact qaa
    .have y':=J.k 12;exact qaa
    .have e46:zt a 46 _:=J.d 6 rfl;exact qaa
    .have e45:zt a 45 _:=J.d 5 rfl;have e47:zt a 47 _:=J.d 7 rfl;cases ho;refine we rfl rfl (uK (.slice ya u.length yc) u K mk T P' s'.o.2 zo zo) ?_;exact qab
    .have e40:zt a 40 _:=J.d 0 rfl;have e44:zt a 44 _:=J.d 4 rfl;have e48:zt a 48 _:=J.d 8 rfl;cases ho;refine we rfl rfl (WC op (bB D L) (bB u K) T f HW.o) ?_;exact qab
    .have e49:zt a 49 _:=J.d 9 rfl;have f49:=(zY (xs:=a.tmps) (i:=49) (d:=undef)).symm.trans e49;exact qaa
    .exact qay
   .intro win a T E;have e2:=E.keep 2 zk;have e6:=E.keep 6 zk;have e7:=E.keep 7 zk;have e8:=E.keep 8 zk;have e9:=E.keep 9 zk;have e10:=E.keep 10 zk;have e11:=E.keep 11 zk;have y':=E.keep 12 zk;have e13:(aD.obj 11 80 #[.bool false,.slice none 0 0]).holds (a.tmps.getD 13 undef) win T:=E.fact 11 _ zo rfl;have e50:a.tmps.getD 50 undef=.agg #[.bool (f (bB D L) (bB u K)),.slice none 0 0]:=E.fact 10 _ zo rfl;obtain⟨p1,n1,o1⟩:_/\_/\_:=e13;have g1:=E.ik 11 zo;have hO1:=HO2.o.dr.aP E.az;have E':=HO2.o.dr.az.size;have hF:=hO1.newObj o1 zo (Mem_none_of_ge HO2.o.dr.ay g1.1) (HO2.o.dr.A9 g1.1);generalize (win 11).1=S at*
    have HE:=zh E;clear E g1 E' o1 n1 hO1;have b0:=hF.obj.frozen 0;have b1:=hF.obj.frozen 1;have b2:=hF.obj.c 0;have b3:=hF.obj.c 1;have b4:=hF.obj.lt;have hZ:=(hF.set 0 (.bool (f (bB D L) (bB u K)))).set 1 (.slice none 0 0);refine eF 12 zk (aJ rfl rfl (cO zg ?_));obtain⟨t,d⟩:=a;obtain rfl:d=[]:=HE.o.defers;refine bY zk (hY.o _ _ HE.o.size ⟨S,?_,hZ⟩) _;simp only[yL,xB,e2,e6,e7,e8,e9,e10,e11,y',p1]
    rfl
  rintro z4 vs w3-⟨S,rfl,G⟩;simp[aX,lk];have HO:=zh (G.dL 104 3);clear G HO2 hW2;go_wp2;refine av [2,6,7,8,9,10,11,12,13,14] (fun n vs w'=>∃(c:Nat) (H:List (Int×Int)) (Y' ve:zV) (es:List Ed),c<=256/\n=256-c /\
   vs=[.int .u8 op,.pointer (some ⟨w.heap.size+1+1,0,none⟩),.pointer (some ⟨G1,0,none⟩),.pointer (some ⟨G2,0,none⟩),Y',vo,.int .i64 k,.pointer (some ⟨P,0,none⟩),.pointer (some ⟨S,0,none⟩),.int .i64 c] /\
   Own w m w' mk' [.row ve 104 3 es.length (dx es),.obj S 80 #[.bool (f (bB D L) (bB u K)),ve],.obj P 227 #[.int .i64 L,.int .i64 K],.row vo 80 2 k xs,.row Y' 227 2 H.length (ek H),.obj G2 27 #[.slice ya u.length yc],.obj G1 27 #[.slice xa D.length xc],.obj (w.heap.size+1+1) 27 #[.slice none 0 0]] /\
   mO D u (L,K) H es c/\jI D u f (st0 D,st0 u) H out/\H[k]?=some (L,K)/\(∀q∈H,q.1<D.length/\q.2<u.length)) ?_ ?_
  .exact⟨_,0,l,.slice (some ⟨vlb,0,none⟩) l.length vlc,.slice none 0 0,[],zo,rfl,rfl,HO.o,mO.start _ _ _ _,HP.o.1,HP.o.2.2.1,HP.o.2.2.2⟩
  clear HO;rintro Y z5 n vs w6 hY-⟨c,H,Y',ve,es,hc,rfl,rfl,G,R',c',O',x'⟩;simp[aX,lk];obtain⟨k',j',rfl⟩:=aT (G.kP (v:=Y') (t:=227) (size:=2) (n:=H.length) (xs:=ek H) zS);obtain⟨n',m',rfl⟩:=aT G.row;have hpl2:=nN c'.nodup c'.ik;have hok:=R'.ok zo;have hel:=hok.2;have HC:=zh (zi R' (zi c' (zi O' (zi hok.1 x'))));clear R' O' hok c' x';by_cases hlt2:c<256
  .have hgt:=Cc (Ls:=[D,u]) (ps:=[L,K]) hlt2 2;have hle:=Cb [D,u] [L,K] c 2;have HQ:=zh (fun b (h1:c<=b) (h2:b<nz [D,u] [L,K] c 2)=>RY (A:=D) (B:=u) (p:=(L,K)) h1 h2);have q1:=(G.eO (g:=G1) (t:=27) (arr:=#[.slice xa D.length xc]) zS).cell (i:=0) rfl;have q1l:=(G.eO (g:=G1) (t:=27) (arr:=#[.slice xa D.length xc]) zS).lt;have q2:=(G.eO (g:=G2) (t:=27) (arr:=#[.slice ya u.length yc]) zS).cell (i:=0) rfl;have q2l:=(G.eO (g:=G2) (t:=27) (arr:=#[.slice ya u.length yc]) zS).lt;have q3:=(G.eO (g:=P) (t:=227) (arr:=#[.int .i64 L,.int .i64 K]) zS).cell (i:=0) rfl;have q4:=(G.eO (g:=P) (t:=227) (arr:=#[.int .i64 L,.int .i64 K]) zS).cell (i:=1) rfl;have q3l:=(G.eO (g:=P) (t:=227) (arr:=#[.int .i64 L,.int .i64 K]) zS).lt;have I:=(G.al #[.slice xa D.length xc,.slice ya u.length yc] 27).al #[.int .i64 L,.int .i64 K] 3;have hsz:(w6.alloc (.cells #[.slice xa D.length xc,.slice ya u.length yc] 27)).heap.size=w6.heap.size+1:=by simp
   rw[hsz]at I;have hOm:=G.aP (bE (bE (zR _ _) (.cells #[.slice xa D.length xc,.slice ya u.length yc] 27)) (.cells #[.int .i64 L,.int .i64 K] 3));have HCut:=zh (XV (v:=.slice xa D.length xc) (v':=.slice ya u.length yc) I (aW q' s'.o.1) (aW q' s'.o.2) zo zo zo zo hlt2 zo zo);have HO:=zh hOm;clear G I hsz hOm
   go_wp2_with fail
   refine HCut.o.mono ?_;rintro e w7 ⟨rfl,hb7⟩;have HO:=zh (HO.o.aP hb7);clear HCut hb7 q1 q1l q2 q2l q3 q4 q3l;generalize nz [D,u] [L,K] c 2=ed at*
   go_wp2;refine aR [2,6,7,8,9,10,11,12,13,14,15,16] (fun vs w'=>∃Z:Nat,vs=[.int .u8 op,.pointer (some ⟨w.heap.size+1+1,0,none⟩),.pointer (some ⟨G1,0,none⟩),.pointer (some ⟨G2,0,none⟩),.slice k' H.length j',vo,.int .i64 k,.pointer (some ⟨P,0,none⟩),.pointer (some ⟨S,0,none⟩),.int .i64 c,.int .i64 ed,.pointer (some ⟨Z,0,none⟩)] /\
    Own w m w' mk' [.obj Z 227 #[.int .i64 (bC D L c),.int .i64 (bC u K c)],.row (.slice n' es.length m') 104 3 es.length (dx es),.obj S 80 #[.bool (f (bB D L) (bB u K)),.slice n' es.length m'],.obj P 227 #[.int .i64 L,.int .i64 K],.row vo 80 2 k xs,.row (.slice k' H.length j') 227 2 H.length (ek H),.obj G2 27 #[.slice ya u.length yc],.obj G1 27 #[.slice xa D.length xc],.obj (w.heap.size+1+1) 27 #[.slice none 0 0]]) ?_ ?_
   .intro V hV;refine bz 12 6 (fun j=>[aD.is (·=.agg #[.slice xa D.length xc]),aD.is (·=.pointer (some ⟨P,0,none⟩)),aD.is (·=.int .i64 L),aD.is (·=.int .i64 c),aD.is (·=.int .i64 (bC D L c)),aD.is (·=.agg #[.slice ya u.length yc]),aD.is (·=.pointer (some ⟨P,1,none⟩)),aD.is (·=.int .i64 K),aD.is (·=.int .i64 c),aD.is (·=.int .i64 (bC u K c)),aD.is (·=.agg #[.int .i64 (bC D L c),.int .i64 (bC u K c)]),aD.obj 11 227 #[.int .i64 0,.int .i64 0]].getD j aD.any) zk zk ?_ ?_
    .intro i hi o win a T ho J;have b':=HO.o.dr.aP J.az;have q1:=(b'.eO (g:=G1) (t:=27) (arr:=#[.slice xa D.length xc]) zS).cell (i:=0) rfl;have q2:=(b'.eO (g:=G2) (t:=27) (arr:=#[.slice ya u.length yc]) zS).cell (i:=0) rfl;have q3:=(b'.eO (g:=P) (t:=227) (arr:=#[.int .i64 L,.int .i64 K]) zS).cell (i:=0) rfl;have q4:=(b'.eO (g:=P) (t:=227) (arr:=#[.int .i64 L,.int .i64 K]) zS).cell (i:=1) rfl;have P':=Mem_inn_le q' b'.ay;rcases(show i=0\/i=1\/i=2\/i=3\/i=4\/i=5\/i=6\/i=7\/i=8\/i=9\/i=10\/i=11 by omega)with rfl|rfl|rfl|rfl|rfl|rfl|rfl|rfl|rfl|rfl|rfl|rfl
     .have e7:=J.k 7;exact qaa
     .have y':=J.k 12;exact qaa
     .have e64:zt a 64 _:=J.d 1 rfl;exact qaa
     .have e14:=J.k 14;exact qaa
     .have e63:zt a 63 _:=J.d 0 rfl;have e65:zt a 65 _:=J.d 2 rfl;have e66:zt a 66 _:=J.d 3 rfl;cases ho;refine we rfl rfl (N7 (.slice xa D.length xc) D L c mk T P' s'.o.1 zo zo) ?_;exact qab
     .have e8:=J.k 8;exact qaa
     .have y':=J.k 12;exact qaa
     .have e69:zt a 69 _:=J.d 6 rfl;exact qaa
     .have e14:=J.k 14;exact qaa
     .have e68:zt a 68 _:=J.d 5 rfl;have e70:zt a 70 _:=J.d 7 rfl;have e71:zt a 71 _:=J.d 8 rfl;cases ho;refine we rfl rfl (N7 (.slice ya u.length yc) u K c mk T P' s'.o.2 zo zo) ?_;exact qab
     .have e67:zt a 67 _:=J.d 4 rfl;have e72:zt a 72 _:=J.d 9 rfl;have f72:=(zY (xs:=a.tmps) (i:=72) (d:=undef)).symm.trans e72;have f67:=(zY (xs:=a.tmps) (i:=67) (d:=undef)).symm.trans e67;exact qaa
     .exact qay
    .intro win a T E;have e2:=E.keep 2 zk;have e6:=E.keep 6 zk;have e7:=E.keep 7 zk;have e8:=E.keep 8 zk;have e9:=E.keep 9 zk;have e10:=E.keep 10 zk;have e11:=E.keep 11 zk;have y':=E.keep 12 zk;have e13:=E.keep 13 zk;have e14:=E.keep 14 zk;have e15:=E.keep 15 zk;have e16:(aD.obj 11 227 #[.int .i64 0,.int .i64 0]).holds (a.tmps.getD 16 undef) win T:=E.fact 11 _ zo rfl;have e73:a.tmps.getD 73 undef=.agg #[.int .i64 (bC D L c),.int .i64 (bC u K c)]:=E.fact 10 _ zo rfl;obtain⟨p1,n1,o1⟩:_/\_/\_:=e16;have g1:=E.ik 11 zo;have hO1:=HO.o.dr.aP E.az;have E':=HO.o.dr.az.size;have hF:=hO1.newObj o1 zo (Mem_none_of_ge HO.o.dr.ay g1.1) (HO.o.dr.A9 g1.1);generalize (win 11).1=Z at*
     have HE:=zh E;clear E g1 E' o1 n1 hO1;have b0:=hF.obj.frozen 0;have b1:=hF.obj.frozen 1;have b2:=hF.obj.c 0;have b3:=hF.obj.c 1;have b4:=hF.obj.lt;have hZ:=(hF.set 0 (.int .i64 (bC D L c))).set 1 (.int .i64 (bC u K c));refine eF 12 zk (aJ rfl rfl (cO zg ?_));obtain⟨t,d⟩:=a;obtain rfl:d=[]:=HE.o.defers;refine bY zk (hV.o _ _ HE.o.size ⟨Z,?_,hZ⟩) _;simp only[yL,xB,e2,e6,e7,e8,e9,e10,e11,y',e13,e14,e15,p1]
     rfl
   rintro z6 vs w8-⟨Z,rfl,G⟩;simp[aX,lk];clear HO;have hrA:=fQ HG.o.1.wf L c;have hrB:=fQ HG.o.2.1.wf K c;have hps:jU D u (L,K) c=(bC D L c,bC u K c):=rfl;obtain⟨W,hqa⟩:∃x,bC D L c=x:=⟨_,rfl⟩;obtain⟨U,hqb⟩:∃x,bC u K c=x:=⟨_,rfl⟩;rw[hqa,hqb]at hps;rw[hqa]at hrA;rw[hqb]at hrB;rw[hqa,hqb]at G;have hPI2:=HC.o.2.1.add (q:=(W,U)) (by simp only;omega);have hpk:∀q∈H,F6 q:=fun q hq=>by
    have:=HC.o.2.1.ik q hq;exact⟨zo,zo,zo,zo⟩
   have hgt2:=DZ H (W,U);have hpre:=DY H (W,U);have hcs:=(HC.o.1.mono hpre).YA (h:=ed-1) (t:=gL H (W,U)) zo zo (by rw[hps];exact hgt2) (fun b h1 h2=>HQ.o b h1 zo);have hlk2:(fw H (W,U))[k]?=some (L,K):=by
    exact qcY
   have hlr2:∀q∈fw H (W,U),q.1<D.length/\q.2<u.length:=fun q hq=>by
    unfold fw at hq
    split at hq
    .exact HC.o.2.2.2.2 q hq
    .rcases yP.1 hq with h|h
     .exact HC.o.2.2.2.2 q h
     .simp only[zZ]at h;subst h;simp only;omega
   have hpno:=xg H (W,U);have HK2:=zh (zi hcs (zi hPI2 (zi hlk2 hlr2)));have hq:=G.AB (l₁:=[_,_,_,_,_]);have HPl:=zh (Uu (.slice k' H.length j') H (W,U) _ w8 hq.bJ.ay (vY hq.row hpk));have b0:=G.obj.c 0;have b1:=G.obj.c 1;have b2:=G.obj.lt;have HO:=zh G;clear G hq hpk hcs hPI2 hlk2 hlr2 hgt2 hpre hrA hrB hps HQ
   go_wp2_with fail
   refine HPl.o.mono ?_;rintro e w9 ⟨rfl,hb9⟩;rw[GY];have HO:=zh (HO.o.aP hb9);clear HPl hb9 b0 b1 b2;obtain⟨bq,hbq⟩:∃b,decide (gL H (W,U)<H.length)=b:=⟨_,rfl⟩;have hto:(if gL H (W,U)<H.length then((gL H (W,U):Nat):Int)else -1)=if bq=true then((gL H (W,U):Nat):Int)else -1:=by rw[<-hbq];simp
   rw[hto];have HBQ:=zh hbq;clear hto hbq;obtain⟨vv,o'⟩:∃v:Int,(if bq=true then((gL H (W,U):Nat):Int)else -1)=v:=⟨_,rfl⟩;rw[o'];have HVV:=zh o';clear o'
   go_upto_if 78 with(fail)
   refine aR [2,6,7,8,9,10,11,12,13,14,15,17] (fun vs w'=>∃X':Value,vs=[.int .u8 op,.pointer (some ⟨w.heap.size+1+1,0,none⟩),.pointer (some ⟨G1,0,none⟩),.pointer (some ⟨G2,0,none⟩),X',vo,.int .i64 k,.pointer (some ⟨P,0,none⟩),.pointer (some ⟨S,0,none⟩),.int .i64 c,.int .i64 ed,.int .i64 (gL H (W,U))] /\
    Own w m w' mk' [.row (.slice n' es.length m') 104 3 es.length (dx es),.obj S 80 #[.bool (f (bB D L) (bB u K)),.slice n' es.length m'],.obj P 227 #[.int .i64 L,.int .i64 K],.row vo 80 2 k xs,.row X' 227 2 (fw H (W,U)).length (ek (fw H (W,U))),.obj G2 27 #[.slice ya u.length yc],.obj G1 27 #[.slice xa D.length xc],.obj (w.heap.size+1+1) 27 #[.slice none 0 0]]) ?_ ?_
   .intro V hV
    cases bq with
    |true=>
     have o':((gL H (W,U):Nat):Int)=vv:=HVV.o;have z':gL H (W,U)<H.length:=of_decide_eq_true HBQ.o;have he:fw H (W,U)=H:=by unfold fw;rw[zK z']
     have hng:¬vv<0:=zo;have hd:decide (vv<0)=false:=zM hng;have HE:=zh (zi he o');clear he o';go_wp2;refine hV.o _ _ rfl ⟨.slice k' H.length j',?_,?_⟩
     .rw[HE.o.2];rfl
     .rw[HE.o.1];exact HO.o.tail
    |false=>
     have o' : -1=vv:=HVV.o;have z':¬gL H (W,U)<H.length:=of_decide_eq_false HBQ.o;have he:fw H (W,U)=H++[(W,U)]:=by unfold fw;rw[zJ z']
     have hn:gL H (W,U)=H.length:=zo;have hng:vv<0:=zo;have hd:decide (vv<0)=true:=zN hng;have HE:=zh (zi he hn);have F:=HO.o.al #[.int .i64 W,.int .i64 U] 227;have Q:=F.obj.cZ rfl;have b0:=HO.o.obj.c 0;have b1:=HO.o.obj.c 1;have b2:=HO.o.obj.lt;have I:=F.AB (l₁:=[_,_,_,_,_,_]);have p':=I.row;have b':=zh I;clear he hn o' z' F I
     go_wp2_with (at_builtin;refine aG WP rfl (.tmp 81) (.tmp 83) rfl (.slice k' H.length j') H.length (ek H) rfl p' ⟨w9.heap.size,0,none⟩ 1 1 [.int .i64 W,.int .i64 U] rfl rfl Q qdZ qdY zo ?_)
     intro xa' xc' w10 O M N;have h':=((b'.o.app O M N zS).Ao (l₁:=[_,_,_,_,_,_])).tail.tail;have HO5:=zh h';clear O M N h' p' Q b0 b1 b2 b';go_wp2;refine hV.o _ _ rfl ⟨.slice xa' (H.length+1) xc',?_,?_⟩
     .rw[HE.o.2];rfl
     .rw[HE.o.1];have:=HO5.o;simpa [sj]using this
   rintro z7 vs w10-⟨X',rfl,G⟩;simp[aX,lk];clear HO HVV HBQ;obtain⟨vla3,vlc3,rfl⟩:=aT (G.kP (v:=X') (t:=227) (size:=2) (n:=(fw H (W,U)).length) (xs:=ek (fw H (W,U))) zS);generalize gL H (W,U)=t at*
   generalize fw H (W,U)=l2 at*
   have hwu:IntKind.u8.wrap (c:Int)=(c:Int):=IntWalk.u8_in _ zo;have hwv:IntKind.u8.wrap ((ed:Int)-1)=(ed:Int)-1:=IntWalk.u8_in _ zo;have s1:=G.au.obj.c 1;have s2:=G.au.obj.lt;have s3:=G.au.obj.frozen 1;have F:=G.al #[.int .u8 c,.int .u8 ((ed:Int)-1),.int .i64 t] 104;have Q:=F.obj.cZ rfl;have p':=F.au.row;have HO2:=zh F.au;clear G F
   go_wp2_with (at_builtin;refine aG tq rfl (.tmp 86) (.tmp 94) rfl (.slice n' es.length m') es.length (dx es) rfl p' ⟨w10.heap.size,0,none⟩ 1 1 [.int .u8 c,.int .u8 ((ed:Int)-1),.int .i64 t] rfl rfl Q qdZ qdY zo ?_)
   intro na' nc' w11 O M N;have I:=(HO2.o.app O M N zS).bL;have s1:=I.au.obj.c 1;have s2:=I.au.obj.lt;have s3:=I.au.obj.frozen 1;have a':=(I.au.set 1 (.slice na' (es.length+1) nc')).au;have HO4:=zh a';clear O M N I a' p' Q HO2;go_wp2;have hed:(((ed-1:Nat):Int))=(ed:Int)-1:=zo;refine hY.o _ _ _ zo rfl ⟨ed,l2,.slice vla3 l2.length vlc3,.slice na' (es.length+1) nc',es++[⟨c,ed-1,t⟩],zo,rfl,?_,?_,?_,HK2.o.2.1,HK2.o.2.2.1,HK2.o.2.2.2⟩
   .rfl
   .have:=HO4.o;rw[<-hed]at this;simpa [iN]using this
   .have:=HK2.o.1
    rwa [show ed-1+1=ed by omega]at this
  .obtain rfl:c=256:=zo;have hPIn:=HC.o.2.1.push (p:=(L,K)) (by rw[HP.o.2.1];exact HC.o.2.2.1) HC.o.1;have hes:=jq (l:=es) (m:=mk') G.row HC.o.2.2.2.1;have N':=Mem_le_addv (w:=w6) G.free;have K':=(L'.mono N').push (s:=⟨(f (bB D L) (bB u K)),es⟩) hes;have F:=G.bJ;have s0:=F.obj.c 0;have s1:=F.obj.c 1;have sl:=F.obj.lt;obtain⟨voa,voc,rfl⟩:=aT (F.kP (v:=vo) (t:=80) (size:=2) (n:=k) (xs:=xs) zS);have I:=F.al #[.bool (f (bB D L) (bB u K)),.slice n' es.length m'] 80;have a':=I.AB (l₁:=[_,_,_]);have p':=a'.row;have Q:=I.obj.cZ rfl;have Hk:=zh (zi K' (zi (Mem.le_trans q' N') (zi hPIn HC.o.2.2.2.2)));clear K' hes N' F G hPIn I;generalize mk'.iw w6 (.slice n' es.length m')=mk2 at*
   go_wp2_with (at_builtin;refine aG mU rfl (.tmp 98) (.tmp 100) rfl (.slice voa k voc) k xs rfl p' ⟨w6.heap.size,0,none⟩ 1 1 [.bool (f (bB D L) (bB u K)),.slice n' es.length m'] rfl rfl Q qdZ qdY zo ?_)
   intro xa' xc' w7 O M N;have h':=(a'.app O M N zS).bL.bL.bL;have HO5:=zh h';clear O M N a' h' p' Q;go_wp2;refine hX.o _ _ _ zo rfl ⟨k+1,H,out++[⟨(f (bB D L) (bB u K)),es⟩],.slice k' H.length j',.slice xa' (k+1) xc',_,mk2,rfl,rfl,HO5.o,Hk.o.1,Hk.o.2.1,Hk.o.2.2.1,?_,Hk.o.2.2.2⟩;rw[zL,HP.o.2.1];rfl
 .have hkl2:k=l.length:=zo;have Q':=c'.done (YF HW.o) zo;obtain⟨voa,voc,rfl⟩:=aT G.row;have hst:=gZ (l:=out) (m:=mk') (by rw[M'];exact G.row) L' G.free;have F:=G.bJ;have HM:=zh (vW (.slice voa k voc) out _ T F.ay hst zo);have HO2:=zh F;have HD:=zh (zi Q' M');clear F hst G Q' M' c' L' hkl2 x'
  go_wp2_with fail
  refine HM.o.mono ?_;rintro e w2 ⟨r,C,rfl,hb2,hst,S',hmin,hnot⟩;have hwf:=HD.o.1.1;rw[aO hwf];obtain⟨ra,rc,rfl⟩:∃ra rc,r=.slice ra C.length rc:=by obtain⟨x,y,e,-⟩:=hst;exact⟨x,y,e⟩
  have I:=HO2.o.call hb2;have a':=(I.AB (l₁:=[_,_,_])).al #[.slice ra C.length rc] 27;have g1:=a'.au.obj.c 0;have g2:=a'.au.obj.frozen 0;have g3:=a'.au.obj.lt;have h':=a'.au.set 0 (.slice ra C.length rc);have g4:=h'.obj.c 0;have hfin:=aW h'.done hst;have Hk:=zh (zi h'.az (zi hfin (zi (hmin hwf) S')));clear h' a' I hfin hmin hnot hst S' HO2 hwf;go_wp2;refine yV (v:=.agg #[.slice ra C.length rc]) (by simp[results,results209,go_sem,g4]) rfl ?_;refine hR.o _ _ ⟨_,C,rfl,Hk.o.1,Hk.o.2.1,⟨Hk.o.2.2.1.canon,fun x=>?_⟩,?_⟩
  .rw[Hk.o.2.2.1.rC,HD.o.1.2.2.2.2];rw[Nf,Nf,HG.o.2.2.1,HG.o.2.2.2]
  .have h1:=Hk.o.2.2.2;have h2:=HD.o.2;omega
theorem BH(h i:zV)(A B:aC)(m:Mem)(w:zW)(z:m.ay w)(s:aQ m h A)(q:aQ m i B)(p:Fits A B):
 zC 172 #[.agg #[h],.agg #[i]] w fun e w'=>∃r C,e=.returned (.agg #[r])/\zB w w'/\aQ (m.grow w w') r C /\
  j3 (fun x=>Sem A x && !Sem B x) C/\C.length<=(A.length+2)*(B.length+2)+1:=by
 have n:=(((Own.start z).al #[h] 27).al #[i] 27).al #[.slice none 0 0] 27;have g:(w.alloc (.cells #[h] 27)).heap.size=w.heap.size+1:=by simp
 have f:((w.alloc (.cells #[h] 27)).alloc (.cells #[i] 27)).heap.size=w.heap.size+2:=by simp
 rw[f,g]at n;have t:=zh (Pb 45 (fun x y=>x && !y) zS h i A B m _ n.ay s q p.mul p.a p.b);have u:=zh n;obtain⟨va,G,rfl,-⟩:=s;obtain⟨H,F,rfl,-⟩:=q;clear n g f;refine aj fun R hR=>?_
 go_enter func172,ntmps172
 go_wp2_with fail
 refine t.o.mono ?_;rintro e E ⟨r,C,rfl,j,hst,hlang,hClen⟩;have d:=u.o.call j;obtain⟨l,k,rfl⟩:∃l k,r=.slice l C.length k:=by obtain⟨x,y,e,-⟩:=hst;exact⟨x,y,e⟩
 have K:=d.obj.c 0;have J:=d.obj.frozen 0;have I:=d.obj.lt;have hO2:=d.set 0 (.slice l C.length k);have D:=hO2.obj.c 0;have Hk:=zh qfL;clear hO2 d hst hlang hClen t u j;go_wp2;refine yV (v:=.agg #[.slice l C.length k]) (by simp[results,results172,go_sem,D]) rfl ?_;exact qdq
theorem Xk:IG prog 199 147 24 (.slice none 0 0):=⟨underlying199,zk,rfl⟩
def kE(A:aC)(M:Nat):List (List Bool):=(List.range A.length).map fun s=>(List.range (M+1)).map fun n=>cb A s n
theorem Qy(v:zV)(A:aC)(M:Nat)(m:Mem)(w:zW)(hm:m.ay w)(hA:aQ m v A)(hw:WF A)(hb:Bytes A)(hM:M<=1000000)(hl:A.length<=100000):
 zC 241 #[.agg #[v],.int .i64 M] w fun e w'=>∃r,e=.returned r/\zB w w'/\Pq (m.grow w w') r (kE A M):=by
 have l:=(Own.start hm).al #[v] 27;have HO:=zh l;obtain⟨va,C,rfl,a1,a2,a3⟩:=hA;unfold maxLen at a2;have HA:=zh a3;have HW:=zh (zi hw hb);clear l a3 hw hb;refine aj fun R hR=>?_;have b0:=HO.o.obj.c 0
 go_enter func241,ntmps241
 go_wp2_with (refine wpList_make_row Xk rfl (.tmp 12) (.tmp 12) rfl A.length rfl rfl zo qdY ?_)
 intro w1 D L;have P:=HO.o.make (by simpa using D) L;have j':(w.alloc (.cells #[.slice va A.length C] 27)).heap.size=w.heap.size+1:=by simp
 rw[j']at P;have k':List.replicate A.length (Value.slice none 0 0)=outer (fun _=>0) M 0 A.length:=by
  apply vF<;>simp[outer]
 rw[k']at P;have Q:=zh P;clear D L P j' k' b0 HO;generalize w.heap.size+1=y at*
 have I':=Q.o.au.obj.c 0;have H':=Q.o.au.obj.lt;go_wp2;refine av [1,2,5,6] (fun n J w2=>∃(k:Nat) (g:Nat->Nat),k<=A.length/\n=A.length-k/\J=[.int .i64 M,.pointer (some ⟨w.heap.size,0,none⟩),.slice (some ⟨y,0,none⟩) A.length A.length,.int .i64 k] /\
  Own w m w2 m (dV 4 g (f1 A) M k++[.row (.slice (some ⟨y,0,none⟩) A.length A.length) 147 1 A.length (outer g M k A.length),.obj w.heap.size 27 #[.slice va A.length C]])) ?_ ?_
 .exact⟨_,0,fun _=>0,zG _,rfl,rfl,Q.o⟩
 clear Q I' H';rintro X z n J w2 hX-⟨k,g,hk,rfl,rfl,l⟩;simp[aX,lk];have d:=l.eO (g:=w.heap.size) (t:=27) (arr:=#[.slice va A.length C]) zS;have c1:=d.cell (i:=0) rfl;have c2:=d.lt;by_cases hlt:k<A.length
 .obtain⟨tb,q,rfl,h4⟩:=HA.o qdX;obtain⟨e1,-⟩:=h4 k hlt;have n':=ZG hlt;rw[<-n']at e1;obtain⟨ac,c'⟩:∃x,cb A k 0=x:=⟨_,rfl⟩;rw[c']at e1;have x':=zh c';have d1:=Mem_cell_w l.ay e1;have d2:=Mem_cell_lt l.ay e1;have HO:=zh l;clear l n' c' h4 d
  go_wp2_with (refine wpList_make_row E5 rfl (.tmp 24) (.tmp 24) rfl (M+1) rfl rfl zo qdY ?_)
  intro w3 D L;have f:=HO.o.make D L;generalize w2.heap.size=G at*
  have I:=f.Zo (l₁:=.row (.slice (some ⟨G,0,none⟩) (M+1) (M+1)) 4 1 (M+1) (List.replicate (M+1) (.bool false))::dV 4 g (f1 A) M k) (a:=.row (.slice (some ⟨y,0,none⟩) A.length A.length) 147 1 A.length (outer g M k A.length));have V:=bg I.row (nO (g:=g) (M:=M) (k:=k) hlt);have S:=dK I.row k;have x3:=(World.ownsRow.lt I.row _ rfl).2;have hQ:=(I.setRow k (.slice (some ⟨G,0,none⟩) (M+1) (M+1))).azy (l₁:=.row (.slice (some ⟨G,0,none⟩) (M+1) (M+1)) 4 1 (M+1) (List.replicate (M+1) (.bool false))::dV 4 g (f1 A) M k);rw[Ux]at hQ;have D':¬k<k:=Nat.lt_irrefl k;simp only[D',if_false]at V;have HQ:=zh hQ;clear D L f I hQ HO c1 c2 d1 d2;go_wp2;generalize w3.setCell ⟨y,k,none⟩ (.slice (some ⟨G,0,none⟩) (M+1) (M+1))=W at*
  clear V S x3;have p':=HQ.o.Zo (l₁:=.row (.slice (some ⟨G,0,none⟩) (M+1) (M+1)) 4 1 (M+1) (List.replicate (M+1) (.bool false))::dV 4 g (f1 A) M k);have V:=bg p'.row (nO (g:=fun s=>if s=k then G else g s) (M:=M) (k:=k+1) hlt);have F':k<k+1:=Nat.lt_succ_self k;simp only[F',if_true,Xa]at V;have S:=HQ.o.row;have x3:=bg S (j:=0) (u:=.bool false) zS;have x4:=dK S 0;have x5:=(World.ownsRow.lt S _ rfl).2;have d:=HQ.o.eO (g:=w.heap.size) (t:=27) (arr:=#[.slice (some ⟨tb,q,none⟩) A.length C]) zS;have c1:=d.cell (i:=0) rfl;have d1:=Mem_cell_w HQ.o.ay e1;clear p' S d;refine aR [1,2,5,6] (fun J w'=>J=[.int .i64 M,.pointer (some ⟨w.heap.size,0,none⟩),.slice (some ⟨y,0,none⟩) A.length A.length,.int .i64 k]/\w'=(W.setCell ⟨G,0,none⟩ (.bool ac)).drew) ?_ ?_
  .intro Y hY
   go_region
   exact qb3
  rintro z1 J w5-⟨rfl,rfl⟩;simp[aX,lk];have hF:=(HQ.o.setRow 0 (.bool ac)).dr;have U:(List.replicate (M+1) (Value.bool false)).set 0 (.bool ac)=yu (f1 A) M k:=by
   apply List.ext_getElem?;intro i;rw[List.getElem?_set];by_cases h:0=i
   .subst h;rw[zK rfl,Im _ (zG _),zK zS];simp[f1,x'.o]
   .rw[zJ h];by_cases h2:i<=M
    .rw[Im _ h2];have h0:¬i=0:=fun x=>h x.symm;have h3:i<M+1:=zo;simp[f1,h0,h3]
    .rw[vC qd4,vC (by simp[yu];omega)]
  rw[U]at hF;have m':dV 4 g (f1 A) M k=dV 4 (fun s=>if s=k then G else g s) (f1 A) M k:=jE (fun s O=>by show g s=if s=k then G else g s;rw[zJ zo]) (fun _ _ _ _=>rfl);rw[m']at hF;have q':Own w m (W.setCell ⟨G,0,none⟩ (.bool ac)).drew m (zm 4 (fun s=>if s=k then G else g s) (f1 A) M k::(dV 4 (fun s=>if s=k then G else g s) (f1 A) M k++[.row (.slice (some ⟨y,0,none⟩) A.length A.length) 147 1 A.length (outer (fun s=>if s=k then G else g s) M (k+1) A.length),.obj w.heap.size 27 #[.slice (some ⟨tb,q,none⟩) A.length C]])):=by
   have e:zm 4 (fun s=>if s=k then G else g s) (f1 A) M k=.row (.slice (some ⟨G,0,none⟩) (M+1) (M+1)) 4 1 (M+1) (yu (f1 A) M k):=by simp[zm,Xa]
   rw[e];exact hF
  have HF:=zh q'.Y6;clear hF q' U m' HQ V x3 x4 x5 c1 d1 x';go_wp2;exact hX.o _ _ _ zo rfl ⟨k+1,fun s=>if s=k then G else g s,zo,rfl,rfl,HF.o⟩
 .obtain rfl:k=A.length:=zo;have f:Own w m w2 m (dV 4 g (f2 A 1) M A.length++[.row (.slice (some ⟨y,0,none⟩) A.length A.length) 147 1 A.length (outer g M A.length A.length),.obj w.heap.size 27 #[.slice va A.length C]]):=by
   rw[<-jE (fun _ _=>rfl) (fun s n _ _=>bzr A s n)];exact l
  have HO:=zh f;clear l f hk;go_wp2;refine av [1,2,5,7] (fun n J w3=>∃j:Nat,j<=M/\n=M-j/\J=[.int .i64 M,.pointer (some ⟨w.heap.size,0,none⟩),.slice (some ⟨y,0,none⟩) A.length A.length,.int .i64 ((j+1:Nat):Int)] /\
   Own w m w3 m (dV 4 g (f2 A (j+1)) M A.length++[.row (.slice (some ⟨y,0,none⟩) A.length A.length) 147 1 A.length (outer g M A.length A.length),.obj w.heap.size 27 #[.slice va A.length C]])) ?_ ?_
  .exact qbj
  clear HO c1 c2 d;rintro X1 z1 n1 vs1 w3 K'-⟨j,hj,rfl,rfl,l⟩;simp[aX,lk];by_cases S':j<M
  .have hd:decide ((j:Int)+1<=(M:Int))=true:=zN zo;have f:Own w m w3 m (dV 4 g (f3 A (j+1) 0) M A.length++[.row (.slice (some ⟨y,0,none⟩) A.length A.length) 147 1 A.length (outer g M A.length A.length),.obj w.heap.size 27 #[.slice va A.length C]]):=by
    rw[<-jE (fun _ _=>rfl) (fun s n _ _=>bzp A (j+1) s n)];exact l
   have HO:=zh f;clear l f;go_wp2;refine av [1,2,5,7,8] (fun n J W=>∃t:Nat,t<=A.length/\n=A.length-t/\J=[.int .i64 M,.pointer (some ⟨w.heap.size,0,none⟩),.slice (some ⟨y,0,none⟩) A.length A.length,.int .i64 ((j+1:Nat):Int),.int .i64 t] /\
    Own w m W m (dV 4 g (f3 A (j+1) t) M A.length++[.row (.slice (some ⟨y,0,none⟩) A.length A.length) 147 1 A.length (outer g M A.length A.length),.obj w.heap.size 27 #[.slice va A.length C]])) ?_ ?_
   .exact qbj
   clear HO;rintro X2 z2 n2 vs2 W J'-⟨t,ht,rfl,rfl,l⟩;simp[aX,lk];have d:=l.eO (g:=w.heap.size) (t:=27) (arr:=#[.slice va A.length C]) zS;have c1:=d.cell (i:=0) rfl;have c2:=d.lt;clear d;by_cases p:t<A.length
   .obtain⟨tb,q,rfl,h4⟩:=HA.o (by intro h;simp[h]at p);obtain⟨-,ve,g2,ea,ec,rfl,g4,g5,g6⟩:=h4 t p;unfold maxLen at g5;have l':=fun s n=>bzm HW.o.1 HW.o.2 (k:=j+1) zo p s n;have i':=fP (HW.o.1 _ (zF p));have f:Own w m W m (dV 4 g (f4 A (j+1) t ((A[t]).aH.take 0)) M A.length++[.row (.slice (some ⟨y,0,none⟩) A.length A.length) 147 1 A.length (outer g M A.length A.length),.obj w.heap.size 27 #[.slice (some ⟨tb,q,none⟩) A.length C]]):=by
     rw[<-jE (fun _ _=>rfl) (fun s n _ _=>(show f3 A (j+1) t s n=f4 A (j+1) t ((A[t]).aH.take 0) s n from bzn A (j+1) t s n))];exact l
    have HO:=zh (zi f (zi l' i'));have P':=zh g6;clear l f l' i' h4 g6;generalize (A[t]).aH=es at*
    go_wp2;refine av [1,2,5,7,8,9] (fun n J w5=>∃i:Nat,i<=es.length/\n=es.length-i/\J=[.int .i64 M,.pointer (some ⟨w.heap.size,0,none⟩),.slice (some ⟨y,0,none⟩) A.length A.length,.int .i64 ((j+1:Nat):Int),.int .i64 t,.int .i64 i] /\
     Own w m w5 m (dV 4 g (f4 A (j+1) t (es.take i)) M A.length++[.row (.slice (some ⟨y,0,none⟩) A.length A.length) 147 1 A.length (outer g M A.length A.length),.obj w.heap.size 27 #[.slice (some ⟨tb,q,none⟩) A.length C]])) ?_ ?_
    .exact⟨_,0,zG _,rfl,rfl,HO.o.1⟩
    have v':=zh HO.o.2;clear HO c1 c2;rintro X3 z3 n3 vs3 w5 o'-⟨i,hi,rfl,rfl,l⟩;simp[aX,lk];have d:=l.eO (g:=w.heap.size) (t:=27) (arr:=#[.slice (some ⟨tb,q,none⟩) A.length C]) zS;have c1:=d.cell (i:=0) rfl;have c2:=d.lt;have d1:=Mem_cell_w l.ay g2;have d2:=Mem_cell_lt l.ay g2;clear d;by_cases F:i<es.length
    .obtain⟨eb,eo,rfl,s'⟩:=P'.o (by intro h;simp[h]at F);obtain⟨-,-,e3,-⟩:=s' i F;have K:=v'.o.2 es[i] (zF F);have B:=fun s n=>Zq A (j+1) t (es.take i) es[i] s n;rw[<-zH F]at B;obtain⟨to,Z⟩:=zT K.2.2.1;have N:to<A.length:=by have:=K.2.2.2;omega
     have T:(es[i]).to.toNat=to:=by rw[Z];rfl
     rw[T]at B;rw[Z]at e3;have d3:=Mem_cell_w l.ay e3;have d4:=Mem_cell_lt l.ay e3;have I:=l.Zo (l₁:=dV 4 g (f4 A (j+1) t (es.take i)) M A.length);have V:=bg I.row (nO (g:=g) (M:=M) (k:=A.length) N);have S:=bg I.row (nO (g:=g) (M:=M) (k:=A.length) p);simp only[N,p,if_true,Xa]at V S;have x3:=(World.ownsRow.lt I.row _ rfl).2;have y1:=l.LZ N (n:=j) zo;rw[azV (Nat.lt_succ_self j)]at y1;have y2:=l.azp N;have y3:=l.LZ p (n:=j+1) zo;have y4:=l.azp p;have y5:=l.UQ p (j+1);obtain⟨bc,b'⟩:∃x,cb A to j=x:=⟨_,rfl⟩;rw[b']at y1;have HS:=zh (zi B (zi b' l));clear B b' K Z T I s' l
     cases bc with
     |false=>
      have f:Own w m w5 m (dV 4 g (f4 A (j+1) t (es.take (i+1))) M A.length++[.row (.slice (some ⟨y,0,none⟩) A.length A.length) 147 1 A.length (outer g M A.length A.length),.obj w.heap.size 27 #[.slice (some ⟨tb,q,none⟩) A.length C]]):=by
       rw[<-jE (fun _ _=>rfl) (fun s n _ _=>(show f4 A (j+1) t (es.take i) s n=f4 A (j+1) t (es.take (i+1)) s n by
        rw[HS.o.1 s n,Nat.add_sub_cancel,HS.o.2.1,Bool.or_false]
        split<;>rfl))]
       exact HS.o.2.2
      have E:=zh f;clear f;go_wp2
      exact o'.o _ _ _ zo rfl ⟨i+1,zo,rfl,rfl,E.o⟩
     |true=>
      have f:Own w m (w5.setCell ⟨g t,j+1,none⟩ (.bool true)) m (dV 4 g (f4 A (j+1) t (es.take (i+1))) M A.length++[.row (.slice (some ⟨y,0,none⟩) A.length A.length) 147 1 A.length (outer g M A.length A.length),.obj w.heap.size 27 #[.slice (some ⟨tb,q,none⟩) A.length C]]):=by
       rw[<-jE (g:=g) (b:=Pp (f4 A (j+1) t (es.take i)) t (j+1) true) (fun _ _=>rfl) (fun s n _ _=>(show _=f4 A (j+1) t (es.take (i+1)) s n by
        rw[HS.o.1 s n,Nat.add_sub_cancel,HS.o.2.1,Bool.or_true]
        rfl))]
       exact HS.o.2.2.azR p true
      have E:=zh f;clear f;go_wp2;exact o'.o _ _ _ zo rfl ⟨i+1,zo,rfl,rfl,E.o⟩
    .obtain rfl:i=es.length:=zo;have f:Own w m w5 m (dV 4 g (f3 A (j+1) (t+1)) M A.length++[.row (.slice (some ⟨y,0,none⟩) A.length A.length) 147 1 A.length (outer g M A.length A.length),.obj w.heap.size 27 #[.slice (some ⟨tb,q,none⟩) A.length C]]):=by
      rw[<-jE (fun _ _=>rfl) (fun s n _ _=>(show f4 A (j+1) t (es.take es.length) s n=f3 A (j+1) (t+1) s n by
       rw[yG];exact v'.o.1 s n))]
      exact l
     have E:=zh f;clear f l hi;go_wp2;exact J'.o _ _ _ zo rfl ⟨t+1,zo,rfl,rfl,E.o⟩
   .obtain rfl:t=A.length:=zo;have f:Own w m W m (dV 4 g (f2 A (j+1+1)) M A.length++[.row (.slice (some ⟨y,0,none⟩) A.length A.length) 147 1 A.length (outer g M A.length A.length),.obj w.heap.size 27 #[.slice va A.length C]]):=by
     rw[<-jE (fun _ _=>rfl) (fun s n O _=>bzo A (j+1) s n O)];exact l
    have E:=zh f;clear f l ht;go_wp2;refine K'.o _ _ _ zo rfl ⟨j+1,zo,rfl,rfl,E.o⟩
  .obtain rfl:j=M:=zo;have hd:decide ((j:Int)+1<=(j:Int))=false:=zM zo;have HO:=zh l;clear l hj;go_wp2;refine hR.o _ _ ⟨_,rfl,HO.o.az,?_⟩;have I:=HO.o.Zo (l₁:=dV 4 g (f2 A (j+1)) j A.length);have M':=(I.gV _ (yF ..) y rfl).1;have H:(kE A j).length=A.length:=by simp[kE]
   rw[<-H];refine⟨_,_,rfl,zI _,by rw[H];unfold maxLen;omega,fun _=>⟨y,0,rfl,fun s O=>?_⟩⟩;rw[H]at O;rw[yZ];have h1:=bg I.row (nO (g:=g) (M:=j) (k:=A.length) O);rw[zK O]at h1;refine⟨Xa g j s,Dj M' h1,?_⟩;have e:(kE A j)[s]'(by rw[H];exact O)=(List.range (j+1)).map fun n=>cb A s n:=by simp[kE]
   rw[e];have a':((List.range (j+1)).map fun n=>cb A s n).length=j+1:=by simp
   have G':=HO.o.azS O;refine⟨some ⟨g s,0,none⟩,j+1,by rw[a'];rfl,zo,by unfold maxLen;omega,fun _=>⟨g s,0,rfl,fun n hn=>?_⟩⟩;rw[a']at hn;rw[yZ];have h2:=HO.o.LZ O (n:=n) zo;rw[bzq hn]at h2;have e2:((List.range (j+1)).map fun n=>cb A s n)[n]'(by rw[a'];exact hn)=cb A s n:=by simp
   rw[e2];exact Dj G' h2
def iQ(p:List UInt8)(l:List (List UInt8)):List ByteArray:=l.map fun x=>fo (p++x)
theorem rX(p:List UInt8)(l:List (List UInt8)):(iQ p l).length=l.length:=by simp[iQ]
theorem Yj(a b:List UInt8):fo a++fo b=fo (a++b):=by
 unfold fo;apply ByteArray.ext;simp
theorem VN(w:zW)(x:Int)(b:UInt8)(a:x=b.toNat):
 (convert 185 9 (.slice (some ⟨w.heap.size,0,none⟩) 1 1)).run prog (w.alloc (.cells #[.int .u8 x] 5))=.ok (.string (fo [b])) (w.alloc (.cells #[.int .u8 x] 5)):=by
 subst a;have:=run_convert_bytes_arg (w.alloc (.cells #[.int .u8 (b.toNat:Int)] 5)) 185 5 underlying185 underlying5 w.heap.size 0 1 1 [(b.toNat:Int)] rfl (fun i hi=>by
  obtain rfl:i=0:=zo;simp) _ underlying9
 rw[this];have:=strOfNums_bytes [b];simp only[yL,xB]at this;rw[this]
 rfl
theorem LA(v vt:zV)(A:aC)(M:Nat)(m:Mem)(hA:aQ m v A)(ht:Pq m vt (kE A M))(hw:WF A)(hb:Bytes A)(hM:M<=1000000)(_:A.length<=100000):
 ∀(len:Nat),len<=M->∀(s:Nat) (n:Int) (p:List UInt8) (O:Mem) (w:zW),s<A.length -> -9223372036854775808<=n->n<=1000->p.length+len<=2000000->m.le O->O.ay w ->
  zC 242 #[.agg #[v],vt,.int .i64 s,.int .i64 len,.int .i64 n,.string (fo p)] w fun e w'=>∃r,e=.returned r/\zB w w'/\Au (O.grow w w') r (iQ p ((oQ A len s).take n.toNat)):=by
 have hA':=hA;have ht':=ht;obtain⟨va,vc,rfl,a1,a2,a3⟩:=hA;obtain⟨ta,tc,rfl,t1,t2,t3⟩:=ht;unfold maxLen at a2 t2;have I':(kE A M).length=A.length:=by simp[kE]
 rw[I']at t1 ht'⊢;have HA:=zh (zi a3 (zi t3 (zi hw hb)));clear a3 t3 hw hb I';intro len
 induction len with
 |zero=>
  intro F' s n p O w hs hn1 hn2 hp hmm J;refine aj fun R hR=>?_;obtain⟨tb,D,rfl,G⟩:=HA.o.2.1 qeu;obtain⟨u,u1,ua,uc,rfl,u2,u3,P⟩:=G s qeE;have e1:(kE A M)[s]'qeE=(List.range (M+1)).map fun n=>cb A s n:=by simp[kE]
  rw[e1]at u1 u2 P;simp only[xC,List.length_range]at u1 u2 P;obtain⟨ub,s',rfl,u5⟩:=P zS;have u6:=u5 0 zo;simp at u6;unfold Si at u6;have d1:=Mem_cell_w J qfK;have d2:=Mem_cell_lt J qfK;have d3:=Mem_cell_w J qfJ;have d4:=Mem_cell_lt J qfJ;unfold maxLen at u3;obtain⟨bb,t⟩:∃x,cb A s 0=x:=⟨_,rfl⟩;rw[t]at d3 u6;have hO:=(Own.start J).al #[.slice va A.length vc] 27;have HO:=zh hO;have U:=zh t;clear hO t G P u5 e1
  cases bb with
  |false=>
   have f:oQ A 0 s=[]:=by
    have:=U.o;unfold cb at this;exact qa5
   have HN:=zh f;clear f
   go_enter func242,ntmps242
   go_wp2;refine hR.o _ _ ⟨_,rfl,HO.o.az,?_⟩;rw[HN.o]
   exact qaX
  |true=>
   by_cases hn:n<=0
   .have hd:decide (n<=0)=true:=zN hn
    go_enter func242,ntmps242
    go_wp2;refine hR.o _ _ ⟨_,rfl,HO.o.az,?_⟩;have:n.toNat=0:=zo;rw[this];exact qaX
   .have hd:decide (n<=0)=false:=zM hn;have z':oQ A 0 s=[[]]:=by
     have h1:=U.o;unfold cb at h1;have h2:∀x∈oQ A 0 s,x=[]:=fun x hx=>yM ((lu A 0 s x).1 hx).1;have h3:=(Aj A 0 s)
     match hq:oQ A 0 s,h1,h2,h3 with
     |[],h1,_,_=>simp at h1
     |[x],_,h2,_=>rw[h2 x zS]
     |x::y::r,_,h2,h3=>
      have e1:=h2 x zS;have e2:=h2 y zS;rw[e1,e2]at h3;simp at h3;exact absurd h3.1.1 (kr [])
    have HN:=zh z';have B:=HO.o.al #[.string (fo p)] 9;have B':(w.alloc (.cells #[.slice va A.length vc] 27)).heap.size=w.heap.size+1:=by simp
    rw[B']at B;have C:=zh B;clear z' B B'
    go_enter func242,ntmps242
    go_wp2;refine hR.o _ _ ⟨_,rfl,C.o.az,?_⟩;have hge:=(C.o.gV _ (yF ..) _ rfl).1;have e:iQ p ((oQ A 0 s).take n.toNat)=[fo p]:=by
     rw[HN.o];have:1<=n.toNat:=zo;rw[xH (by simpa using this)];simp[iQ]
    rw[e];refine⟨_,_,rfl,zI _,by simp[maxLen],fun _=>⟨_,0,rfl,fun i hi=>?_⟩⟩;obtain rfl:i=0:=by simpa using hi
    exact⟨Dj hge (C.o.obj.c 0),by simp[fo,ByteArray.size,maxLen];omega⟩
 |succ len ih=>
  intro F' s n p O w hs hn1 hn2 hp hmm J;have IH:=zh ih;clear ih;refine aj fun R hR=>?_;obtain⟨tb,D,rfl,G⟩:=HA.o.2.1 qeu;obtain⟨u,u1,ua,uc,rfl,u2,u3,P⟩:=G s qeE;have e1:(kE A M)[s]'qeE=(List.range (M+1)).map fun n=>cb A s n:=by simp[kE]
  rw[e1]at u1 u2 P;simp only[xC,List.length_range]at u1 u2 P;obtain⟨ub,s',rfl,u5⟩:=P zS;have u6:=u5 (len+1) zo;simp at u6;unfold Si at u6;have d1:=Mem_cell_w J qfK;have d2:=Mem_cell_lt J qfK;have d3:=Mem_cell_w J qfJ;have d4:=Mem_cell_lt J qfJ;unfold maxLen at u3;obtain⟨bb,t⟩:∃x,cb A s (len+1)=x:=⟨_,rfl⟩;rw[t]at d3 u6;have hO:=(Own.start J).al #[.slice va A.length vc] 27;have HO:=zh hO;have U:=zh t;clear hO t G P u5 e1
  cases bb with
  |false=>
   have f:oQ A (len+1) s=[]:=by
    have:=U.o;unfold cb at this;exact qa5
   have HN:=zh f;clear f
   go_enter func242,ntmps242
   go_wp2;refine hR.o _ _ ⟨_,rfl,HO.o.az,?_⟩;rw[HN.o]
   exact qaX
  |true=>
   by_cases hn:n<=0
   .have hd:decide (n<=0)=true:=zN hn
    go_enter func242,ntmps242
    go_wp2;refine hR.o _ _ ⟨_,rfl,HO.o.az,?_⟩;have:n.toNat=0:=zo;rw[this];exact qaX
   .have hd:decide (n<=0)=false:=zM hn;have h':(((len+1:Nat):Int)==0)=false:=zO.2 zo;obtain⟨sb,V,rfl,h4⟩:=HA.o.1 qec;obtain⟨-,ve,g2,ea,ec,rfl,g4,g5,g6⟩:=h4 s hs;have y':=KS HA.o.2.2.1 HA.o.2.2.2 hs len;have W:=fP (HA.o.2.2.1 _ (zF hs));have N':=HA.o.2.2.2 _ (zF hs);generalize (A[s]).aH=es at*
    have HX:=zh (zi y' (zi W N'));have G6:=zh g6;have V':=Mem_cell_le hmm g2;have S:=HO.o.obj.c 0;unfold maxLen at g5;obtain⟨k,rfl⟩:∃k:Nat,n=k:=⟨n.toNat,zo⟩;have B:=HO.o.dL 9 1;have C:=zh B;clear y' W N' g6 h4 B HO
    go_enter func242,ntmps242
    go_wp2;refine av [1,2,3,4,5,6,13,14] (fun n vs w2=>∃(i:Nat) (vo:zV) (out:List (List UInt8)) (mk:Mem),i<=es.length/\n=es.length-i/\vs=[.slice (some ⟨tb,D,none⟩) A.length tc,.int .i64 s,.int .i64 ((len+1:Nat):Int),.int .i64 k,.string (fo p),.pointer (some ⟨w.heap.size,0,none⟩),vo,.int .i64 i] /\
     out=(yo A len (es.take i)).take k/\Own w O w2 mk [.row vo 9 1 out.length ((iQ p out).map Value.string),.obj w.heap.size 27 #[.slice (some ⟨sb,V,none⟩) A.length vc]]/\O.le mk) ?_ ?_
    .exact⟨_,0,.slice none 0 0,[],O,zG _,rfl,rfl,by simp[yo],C.o,Mem.le_refl _⟩
    clear C d1 d2 d3 d4 S;rintro X z n vs w2 hX-⟨i,vo,out,mk,hi,rfl,rfl,hout,hO,b⟩;simp[aX,lk];obtain⟨q',p',rfl⟩:=aT hO.row;have S:=hO.au.obj.c 0;have R':=hO.au.obj.lt;have d1:=Mem_cell_w hO.ay (Mem_cell_le b V');have d2:=Mem_cell_lt hO.ay (Mem_cell_le b V');have D':out.length<=k:=by rw[hout];exact List.length_take_le _ _
    by_cases hlt:i<es.length
    .by_cases g':out.length<k
     .obtain⟨eb,eo,rfl,U'⟩:=G6.o qdX;obtain⟨x1,x2,x3,x4,x5,-⟩:=U' i hlt;have f1:=Mem_cell_w hO.ay (Mem_cell_le b (Mem_cell_le hmm x1));have f2:=Mem_cell_w hO.ay (Mem_cell_le b (Mem_cell_le hmm x2));have f3:=Mem_cell_w hO.ay (Mem_cell_le b (Mem_cell_le hmm x3));have f4:=Mem_cell_lt hO.ay (Mem_cell_le b (Mem_cell_le hmm x1));have Q:=HX.o.2.1 es[i] (zF hlt);have J':=fun c (hc:c<=(es[i]).hi+1-(es[i]).lo)=>Ye A len es hlt hc;have L':=Yf A len es hlt;have M':=V3 A len es i es[i];generalize es[i]=e at*
      obtain⟨to,F⟩:=zT Q.2.2.1;have htl:to<A.length:=by have:=Q.2.2.2;omega
      have hlh:=Q.2.1;have S':=(hO.al #[.int .u8 e.lo,.int .u8 e.hi,.int .i64 e.to] 104).au;have X':=zh S';have N:=zh (zi J' (zi L' (zi (show out=(EK A len es i e 0).take k by rw[M'];exact hout) F)));clear J' L' M' F hO S' hout U' Q;go_wp2;generalize w2.alloc (.cells #[.int .u8 e.lo,.int .u8 e.hi,.int .i64 e.to] 104)=w3 at*
      generalize w2.heap.size=E at*
      refine av [1,2,3,4,5,6,13,14,15,16] (fun n vs w4=>∃(c:Nat) (vo:zV) (out:List (List UInt8)) (mk:Mem),c<=e.hi+1-e.lo/\n=e.hi+1-e.lo-c/\vs=[.slice (some ⟨tb,D,none⟩) A.length tc,.int .i64 s,.int .i64 ((len+1:Nat):Int),.int .i64 k,.string (fo p),.pointer (some ⟨w.heap.size,0,none⟩),vo,.int .i64 i,.pointer (some ⟨E,0,none⟩),.int .i64 ((e.lo+c:Nat):Int)] /\
       out=(EK A len es i e c).take k/\Own w O w4 mk [.row vo 9 1 out.length ((iQ p out).map Value.string),.obj E 104 #[.int .u8 e.lo,.int .u8 e.hi,.int .i64 e.to],.obj w.heap.size 27 #[.slice (some ⟨sb,V,none⟩) A.length vc]]/\O.le mk) ?_ ?_
      .exact⟨_,0,_,out,mk,zG _,rfl,rfl,N.o.2.2.1,X'.o,b⟩
      have HC:=zh (zi N.o.1 (zi N.o.2.1 N.o.2.2.2));clear N X' f1 f2 f3 f4 S R' d1 d2 g' D' b;rintro Y z1 n1 vs1 w4 hY-⟨c,vo,out,mk,hc,rfl,rfl,hout,hO,b⟩;simp[aX,lk];obtain⟨q',p',rfl⟩:=aT hO.row;have S:=hO.bA.obj.c 0;have R':=hO.bA.obj.lt;have q0:=hO.au.obj.c 0;have q1:=hO.au.obj.c 1;have q2:=hO.au.obj.c 2;have q3:=hO.au.obj.lt;have D':out.length<=k:=by rw[hout];exact List.length_take_le _ _
      by_cases hcl:c<e.hi+1-e.lo
      .by_cases g':out.length<k
       .have H':decide ((e.lo:Int)+(c:Int)<=(e.hi:Int))=true:=zN zo;have h':decide ((out.length:Int)<(k:Int))=true:=zN zo;have HO:=zh hO;have d:=zh hout;have F:=HC.o.2.2;rw[F]at q2;clear hO hout F;obtain⟨bt,O'⟩:=byteOf (e.lo+c) zo;have hcv:=VN w4 ((e.lo:Int)+(c:Int)) bt zo;have K':=Yj p [bt];have hwu:IntKind.u8.wrap ((e.lo:Int)+(c:Int))=(e.lo:Int)+(c:Int):=IntWalk.u8_in _ zo;have i':=HO.o.al' (.cells #[.int .u8 ((e.lo:Int)+(c:Int))] 5);have HI:=zh (IH.o zo to ((k-out.length:Nat):Int) (p++[bt]) mk _ htl zo zo qd4 (Mem.le_trans hmm b) i'.ay);have I:((k-out.length:Nat):Int)=(k:Int)-(out.length:Int):=zo;rw[I]at HI;have m':=zh i';have HBT:=zh (zi O' I);clear O' I i' HO;have hns:¬9223372036854775807<(fo p).size+(fo [bt]).size:=by
         have h1:(fo p).size=p.length:=by simp[fo,ByteArray.size]
         have h2:(fo [bt]).size=1:=rfl;omega
        go_wp2_with fail
        refine HI.o.mono ?_;rintro e' w5 ⟨r,rfl,Q',hst⟩;have T:=m'.o.call Q';have c':=Mem_le_grow (w:=w5) m'.o.ay;have G':((k:Int)-(out.length:Int)).toNat=k-out.length:=zo;rw[G']at hst;obtain⟨q,hq⟩:∃q,(oQ A len to).take (k-out.length)=q:=⟨_,rfl⟩;rw[hq]at hst;have hql:q.length<=k-out.length:=by rw[<-hq];exact List.length_take_le _ _
        obtain⟨ra,rc,rfl⟩:∃ra rc,r=.slice ra (iQ (p++[bt]) q).length rc:=by obtain⟨x,y,e,-⟩:=hst;exact⟨x,y,e⟩
        have g:=JD T.ay hst;have A':=T.row;have hpl:(iQ (p++[bt]) q).length=q.length:=rX _ _;rw[hpl]at g⊢;have W':=zh T;have HQ:=zh (zi hq (zi hpl c'));clear HI m' hst T Q' hcv K' hns hq hpl G' c'
        go_wp2_with (at_builtin;refine iA P8 rfl (.tmp 75) (.tmp 92) rfl (.slice q' out.length p') out.length ((iQ p out).map Value.string) rfl A' ra q.length rc ((iQ (p++[bt]) q).map Value.string) rfl (by rw[xC,HQ.o.2.1,Nat.mul_one]) g qdZ qdY zo ?_)
        intro na nc w6 a' L Z;have j':=W'.o.app a' L Z (zI _);have b':(iQ p out).map Value.string++(iQ (p++[bt]) q).map Value.string=(iQ p (out++q.map (bt::·))).map Value.string:=by
         simp[iQ]
        rw[b']at j';have f':(out++q.map (bt::·)).length=out.length+q.length:=by simp
        have H:=V4 A len es i e c;have P':uO A len e.to (e.lo+c)=(oQ A len to).map (bt::·):=by
         unfold uO;rw[HC.o.2.2,<-HBT.o.1,azh]
        have a:out++q.map (bt::·)=(EK A len es i e (c+1)).take k:=by
         rw[H,P',<-HQ.o.1,d.o,List.map_take];refine Jw ?_;rw[<-d.o];exact g'
        have n':=zh (zi j' (zi a (Mem.le_trans b HQ.o.2.2)));clear a' L Z j' b' H P' a A' g W';go_wp2;refine hY.o _ _ _ zo rfl ⟨c+1,.slice na (out.length+q.length) nc,out++q.map (bt::·),_,zo,rfl,?_,n'.o.2.1,?_,n'.o.2.2⟩
        .rfl
        .rw[f'];exact n'.o.1
       .have H':decide ((e.lo:Int)+(c:Int)<=(e.hi:Int))=true:=zN zo;have h':decide ((out.length:Int)<(k:Int))=false:=zM zo;have K:k<=(EK A len es i e c).length:=by
         exact qbP
        have a:out=(yo A len (es.take (i+1))).take k:=by rw[hout];exact M7 (HC.o.1 c hc) K
        have HO:=zh (zi hO.bL (zi a b));clear hO hout a K;exact qcC
      .have H':decide ((e.lo:Int)+(c:Int)<=(e.hi:Int))=false:=zM zo;have a:out=(yo A len (es.take (i+1))).take k:=by
        rw[hout,<-HC.o.2.1,show c=e.hi+1-e.lo by omega]
       have HO:=zh (zi hO.bL (zi a b));clear hO hout a;exact qcC
     .have h':decide ((out.length:Int)<(k:Int))=false:=zM zo;have K:k<=(yo A len (es.take i)).length:=by
       exact qbP
      have a:out=(yo A len es).take k:=by
       have:=M7 (Zr A len es (i:=i) (j:=es.length) zo (zI _)) K;rw[yG]at this;rw[hout];exact this
      have d:=zh a;clear hout K a;have hall:(oQ A (len+1) s).take k=out:=by rw[HX.o.1];exact d.o.symm
      have hmem:∀x∈iQ p out,x.size<=maxLen:=fun x hx=>by
       obtain⟨y,hy,rfl⟩:=yD.1 hx;rw[<-hall]at hy;have:=((lu A (len+1) s y).1 (xX hy)).1;have h1:(fo (p++y)).size=p.length+y.length:=by simp[fo,ByteArray.size]
       exact qdy
      exact qaw
    .obtain rfl:i=es.length:=zo;have a:out=(yo A len es).take k:=by rw[hout,yG]
     have d:=zh a;clear hout a hi;have hall:(oQ A (len+1) s).take k=out:=by rw[HX.o.1];exact d.o.symm
     have hmem:∀x∈iQ p out,x.size<=maxLen:=fun x hx=>by
      obtain⟨y,hy,rfl⟩:=yD.1 hx;rw[<-hall]at hy;have:=((lu A (len+1) s y).1 (xX hy)).1;have h1:(fo (p++y)).size=p.length+y.length:=by simp[fo,ByteArray.size]
      exact qdy
     exact qaw
theorem Vz{f:List UInt8->Bool}{k:Nat}(h:k=0\/∀x,f x=false):iV f k []:=by
 refine⟨.nil,(fun x a=>by cases a),zG _,fun y b _=>?_⟩;rcases h with h|h
 .exact⟨(by rw[h];rfl),fun x a=>by cases a⟩
 .rw[h y]at b;cases b
theorem Vk(A:aC)(x:List UInt8):aK (bX A) 0 x=Sem A x:=by
 unfold bX Sem;by_cases h:dG A
 .simp[aO h]
 .exact qde
theorem LB(v0:zV)(A:aC)(a:Int)(m:Mem)(w:zW)(hm:m.ay w)(hA:aQ m v0 A)(hn1 : -9223372036854775808<=a)(hn2:a<=9223372036854775807)(hlA:A.length<=100000)(O':(A.length+1)*(gN a+1)<=1000000):
 zC 208 #[.agg #[v0],.int .i64 a] w fun e w'=>∃r ws,e=.returned r/\zB w w'/\Au (m.grow w w') r (ws.map fo)/\iV (Sem A) (gN a) ws:=by
 have hO:=(Own.start hm).al #[v0] 27;have HM:=zh (CR v0 A m _ hO.ay hA zo);have k:=zh hO;obtain⟨va,vc,rfl,-⟩:=hA;have Z:=jG A;have D':=jY A;have t:aK (bX A) 0=Sem A:=funext (Vk A);have S:((bX A).length+1)*(gN a+1)<=(A.length+1)*(gN a+1):=xV zo (zI _);generalize bX A=T at*
 clear hO;refine aj fun R hR=>?_
 go_enter func208,ntmps208
 go_wp2_with fail
 refine HM.o.mono ?_;rintro e w1 ⟨r,rfl,d',hst⟩;obtain⟨s,p,rfl⟩:∃s p,r=.slice s T.length p:=by obtain⟨x,y,e,-⟩:=hst;exact⟨x,y,e⟩
 have g':=(k.o.call d').al #[.slice s T.length p] 27;have V:=Mem_le_grow (w:=w1) k.o.ay;have b:=zh g';have j:=zh (zi hst (zi Z t));clear g' HM k d' hst Z t V;generalize m.grow _ w1=mk at*
 have c1:=b.o.obj.c 0;have c2:=b.o.obj.lt;have c3:=b.o.obj.frozen 0;by_cases h0:T.length=0
 .have hd:((T.length:Int)==0)=true:=by simp[h0]
  have H0:=zh h0;clear h0;go_wp2;refine hR.o _ _ ⟨_,[],rfl,b.o.az,⟨none,0,rfl,zI _,zG _,fun h=>absurd rfl h⟩,Vz (.inr fun x=>?_)⟩;rw[<-j.o.2.2,yM H0.o];exact gK x
 .have hd:((T.length:Int)==0)=false:=zO.2 zo;obtain⟨wv,z'⟩:∃x:Int,min a 1000=x:=⟨_,rfl⟩;have A':max wv 0=((gN a:Nat):Int):=by unfold gN;omega
  obtain⟨M,hM⟩:∃x:Nat,(T.length+1)*(gN a+1)=x:=⟨_,rfl⟩;have hMi:((T.length:Int)+1)*(((gN a:Nat):Int)+1)=(M:Int):=by
   rw[<-hM,Int.natCast_mul];rfl
  have hMb:M<=1000000:=zo;have hTl:T.length<=100000:=zo;have X':wrap64 (M:Int)=(M:Int):=by unfold wrap64;omega
  have E:gN a*T.length<=M:=by
   rw[<-hM,Nat.mul_comm];exact xV zo zo
  have N':wv<=1000:=zo;have M' : -9223372036854775808<=wv:=zo;have HK:=zh (zi E A');have hkw:gN a<=1000:=by unfold gN;omega
  have W:wv<=0\/wv=((gN a:Nat):Int):=zo;have l':=zh W;have F:=zh (fun w (hw:mk.ay w)=>Qy (.slice s T.length p) T M mk w hw j.o.1 j.o.2.1.wf j.o.2.1.bytes zo zo);have H0:=zh (show 0<T.length by omega);clear hM E S D' h0 W
  go_wp2_with fail
  refine(F.o _ b.o.ay).mono ?_;rintro e w2 ⟨vt,rfl,c',I⟩;obtain⟨tb,tc,rfl⟩:∃x y,vt=.slice x T.length y:=by obtain⟨x,y,e,-⟩:=I;exact⟨x,y,by rw[e];simp[kE]⟩
  have f':=(b.o.call c').dL 9 1;have D:=Mem_le_grow (w:=w2) b.o.ay;have G':=zh (LA (.slice s T.length p) (.slice tb T.length tc) T M _ (aW D j.o.1) I j.o.2.1.wf j.o.2.1.bytes zo zo);have k':=zh f';have h':=zh j.o.2;clear f' I F b c' c1 c2 c3 D j z';generalize mk.grow _ w2=N at*
  generalize w1.heap.size=G at*
  go_wp2;refine av [5,6,7,8,9,10] (fun n vs w3=>∃(L:Nat) (vo:zV) (out:List (List UInt8)) (mk':Mem),L<=M+1/\n=M+1-L/\vs=[.pointer (some ⟨G,0,none⟩),.int .i64 wv,.int .i64 M,.slice tb T.length tc,vo,.int .i64 L] /\
   out=(kC T 0 L).take (gN a)/\Own w m w3 mk' [.row vo 9 1 out.length ((iQ [] out).map Value.string),.obj G 27 #[.slice s T.length p],.obj w.heap.size 27 #[.slice va A.length vc]]/\N.le mk') ?_ ?_
  .exact⟨_,0,.slice none 0 0,[],N,zG _,rfl,rfl,by simp[kC],k'.o,Mem.le_refl _⟩
  clear k';rintro X z n vs w3 hX-⟨L,vo,out,mk',hL,rfl,rfl,hout,hO,U⟩;simp[aX,lk];obtain⟨t',s',rfl⟩:=aT hO.row;have b0:=hO.au.obj.c 0;have b1:=hO.au.obj.lt;have hok:out.length<=gN a:=by rw[hout];exact List.length_take_le _ _
  by_cases hlt:L<=M
  .by_cases C':out.length<gN a
   .have P:wv=((gN a:Nat):Int):=by have:=l'.o;omega
    have a':decide ((L:Int)<=(M:Int))=true:=zN zo;have E':decide ((out.length:Int)<wv)=true:=zN zo;have HI:=zh (G'.o L zo 0 (wv-(out.length:Int)) [] mk' w3 H0.o zo zo qd4 U hO.ay);have Y:(wv-(out.length:Int)).toNat=gN a-out.length:=zo;have k:=zh (zi hO (zi hout Y));clear hO hout Y P
    go_wp2_with fail
    refine HI.o.mono ?_;rintro e' w5 ⟨r,rfl,b',hst⟩;have i:=k.o.1.call b';have C:=Mem_le_grow (w:=w5) k.o.1.ay;rw[k.o.2.2]at hst;obtain⟨q,hq⟩:∃q,(oQ T L ((0:Nat):Int)).take (gN a-out.length)=q:=⟨_,rfl⟩;rw[hq]at hst;have Z':q.length<=gN a-out.length:=by rw[<-hq];exact List.length_take_le _ _
    obtain⟨x',v',rfl⟩:∃s p,r=.slice s (iQ [] q).length p:=by obtain⟨x,y,e,-⟩:=hst;exact⟨x,y,e⟩
    have d:=JD i.ay hst;have Q:=i.row;have hpl:(iQ [] q).length=q.length:=rX _ _;rw[hpl]at d⊢;have j':=zh i;have HQ:=zh (zi hq (zi hpl (zi C k.o.2.1)));clear HI k hst i b' hq hpl C
    go_wp2_with (at_builtin;refine iA P8 rfl (.tmp 41) (.tmp 49) rfl (.slice t' out.length s') out.length ((iQ [] out).map Value.string) rfl Q x' q.length v' ((iQ [] q).map Value.string) rfl (by rw[xC,HQ.o.2.1,Nat.mul_one]) d qdZ qdY zo ?_)
    intro na nc w6 v g u;have J:=j'.o.app v g u (zI _);have B:(iQ [] out).map Value.string++(iQ [] q).map Value.string=(iQ [] (out++q)).map Value.string:=by simp[iQ]
    rw[B]at J;have H:(out++q).length=out.length+q.length:=by simp
    have f:out++q=(kC T 0 (L+1)).take (gN a):=by
     rw[Dl,<-HQ.o.1,HQ.o.2.2.2];refine Jw ?_;rw[<-HQ.o.2.2.2];exact C'
    have K:=zh (zi J (zi f (Mem.le_trans U HQ.o.2.2.1)));clear v g u J B f Q d j';go_wp2;refine hX.o _ _ _ zo rfl ⟨L+1,.slice na (out.length+q.length) nc,out++q,_,zo,rfl,rfl,K.o.2.1,?_,K.o.2.2⟩;rw[H];exact K.o.1
   .have a':decide ((L:Int)<=(M:Int))=true:=zN zo;have E':decide ((out.length:Int)<wv)=false:=zM (by have:=l'.o;omega);have B':gN a<=(kC T 0 L).length:=by
     exact qbP
    have hmem:∀x∈iQ [] out,x.size<=maxLen:=fun x hx=>by
     obtain⟨y,O,rfl⟩:=yD.1 hx;rw[hout]at O;have:=((lM T 0 L y).1 (xX O)).1;have h1:(fo ([]++y)).size=y.length:=by simp[fo,ByteArray.size]
     exact qdy
    have hpl:(iQ [] out).length=out.length:=rX _ _;have hst:=kK (m:=mk') (l:=iQ [] out) (by rw[hpl];exact hO.row) hmem;have hst:=pJ hO.bJ.done hst;have hpe:iQ [] out=out.map fo:=by simp[iQ]
    rw[hpe]at hst;have hfi:iV (Sem A) (gN a) out:=by
     rw[hout,<-h'.o.2];exact uq (.inl B')
    exact qbK
  .obtain rfl:L=M+1:=zo;have a':decide (((M+1:Nat):Int)<=(M:Int))=false:=zM zo;have hmem:∀x∈iQ [] out,x.size<=maxLen:=fun x hx=>by
    obtain⟨y,O,rfl⟩:=yD.1 hx;rw[hout]at O;have:=((lM T 0 (M+1) y).1 (xX O)).1;have h1:(fo ([]++y)).size=y.length:=by simp[fo,ByteArray.size]
    exact qdy
   have hpl:(iQ [] out).length=out.length:=rX _ _;have hst:=kK (m:=mk') (l:=iQ [] out) (by rw[hpl];exact hO.row) hmem;have hst:=pJ hO.bJ.done hst;have hpe:iQ [] out=out.map fo:=by simp[iQ]
   rw[hpe]at hst;have hfi:iV (Sem A) (gN a) out:=by
    rw[hout,<-h'.o.2];exact GU (by have:=HK.o.1;omega)
   exact qbK
theorem BI(h:zV)(A:aC)(m:Mem)(w:zW)(C:m.ay w)(D:aQ m h A)(g:A.length<=100000):
 zC 171 #[.agg #[h]] w fun e w'=>∃o,e=.returned (QH o)/\zB w w'/\ji (Sem A) o:=by
 have k:=(Own.start C).al #[h] 27;have l:=zh (LB h A 1 m _ k.ay D zo zo g qe6);have n:=zh k;clear k;refine aj fun R hR=>?_
 go_enter func171,ntmps171
 go_wp2_with fail
 refine l.o.mono ?_;rintro e F ⟨r,d,rfl,c,f,a⟩;have b:=n.o.call c;have j:=D9 a
 cases d with
 |nil=>
  obtain⟨u,t,rfl,y,v,i⟩:=f;have Hk:=zh (zi b.az j);clear b j a l n c i;go_wp2
  exact qcP
 |cons x d=>
  obtain⟨u,t,rfl,y,v,i⟩:=f;obtain⟨H,G,rfl,p⟩:=i zS;have z:=(p 0 zS).1;rw[Nat.add_zero]at z;have s:=Mem_cell_w b.ay z;have E:=Mem_cell_lt b.ay z;simp only[yL,xL]at s;have B:0<(List.map fo (x::d)).length:=by simp
  have q:(((List.map fo (x::d)).length:Int)==0)=false:=zO.2 zo;have Hk:=zh (zi b.az j);clear b j a l n c i p z;generalize (List.map fo (x::d)).length=N at*
  go_wp2;exact hR.o _ _ ⟨some x,rfl,Hk.o.1,Hk.o.2⟩
theorem YV{x y:List UInt8}:vO x y↔x.length<y.length\/x.length=y.length/\Op.bytesLess x y=true:=by
 unfold vO;constructor
 .rintro(h|⟨a,b⟩)
  .exact .inl h
  .exact .inr ⟨a,(Ir x y a).2 b⟩
 .rintro(h|⟨a,b⟩)
  .exact .inl h
  .exact .inr ⟨a,(Ir x y a).1 b⟩
def ZX(f g:List UInt8->Bool):Option (List UInt8)->Option (List UInt8)->Prop
 |none,none=>fC f g 0
 |some _,none=>fC f g (-1)
 |none,some _=>fC f g 1
 |some x,some y=>x≠y/\(vO x y->fC f g (-1))/\(vO y x->fC f g 1)
theorem X5{f g:List UInt8->Bool}{a b:Option (List UInt8)}(h:ji (fun w=>f w && !g w) a)(k:ji (fun w=>g w && !f w) b):ZX f g a b:=by
 have q:=Cf h k;cases a<;>cases b<;>exact q
def WY(s t:ByteArray):Int:=if s.size=t.size then uB s.data.toList t.data.toList else if s.size<t.size then -1 else 1
theorem YU(x y:List UInt8):WY (fo x) (fo y)<0↔vO x y:=by
 rw[YV];have c:(fo x).size=x.length:=by simp[fo,ByteArray.size]
 have b:(fo y).size=y.length:=by simp[fo,ByteArray.size]
 unfold WY;rw[c,b];show(if x.length=y.length then uB x y else _)<0↔_;by_cases h:x.length=y.length
 .rw[zK h];unfold uB;constructor
  .intro a;refine .inr ⟨h,?_⟩
   split at a
   .assumption
   .split at a<;>omega
  .rintro(a|⟨-,a⟩)
   .omega
   .rw[zK a];decide
 .rw[zJ h];constructor
  .intro a
   split at a
   .exact .inl ‹_›
   .omega
  .rintro(a|⟨a,-⟩)
   .rw[zK a];decide
   .exact absurd a h
theorem Cs(s t:ByteArray)(w:zW):zC 173 #[.string s,.string t] w fun e w'=>e=.returned (.int .i64 (WY s t))/\w'=w:=by
 unfold WY;rw[<-xE s,<-xE t];refine aj fun R a=>?_;by_cases h:s.size=t.size
 .have i:((s.size:Int) != (t.size:Int))=false:=by simp[h]
  have H:=zh h;clear h
  go_enter func173,ntmps173
  go_wp2
  .have q:Op.bytesLess s.toList t.toList=true:=zA;exact a.o _ _ ⟨by rw[zK H.o,uB,zK q];rfl,rfl⟩
  .have q:Op.bytesLess s.toList t.toList=false:=zA;have c:(!s.toList==t.toList)=true:=zA;have d:¬s.toList=t.toList:=by simpa using c
   exact a.o _ _ ⟨by rw[zK H.o,uB,zJ (by rw[q];simp),zJ d];rfl,rfl⟩
  .have q:Op.bytesLess s.toList t.toList=false:=zA;have c:(!s.toList==t.toList)=false:=zA;have g:s.toList=t.toList:=by simpa using c
   exact a.o _ _ ⟨by rw[zK H.o,uB,zJ (by rw[q];simp),zK g];rfl,rfl⟩
 .have i:((s.size:Int) != (t.size:Int))=true:=bne_iff_ne.2 zo;by_cases b:s.size<t.size
  .have f:decide (s.size<t.size)=true:=zN zo;have H:=zh (zi h b);clear h b
   go_enter func173,ntmps173
   go_wp2;exact a.o _ _ ⟨by rw[zJ H.o.1,zK H.o.2];rfl,rfl⟩
  .have f:decide (s.size<t.size)=false:=zM zo;have H:=zh (zi h b);clear h b
   go_enter func173,ntmps173
   go_wp2;exact a.o _ _ ⟨by rw[zJ H.o.1,zJ H.o.2];rfl,rfl⟩
theorem vV(u C:zV)(A B:aC)(m:Mem)(w:zW)(hm:m.ay w)(hA:aQ m u A)(hB:aQ m C B)(E:(A.length+2)*(B.length+2)<=90000):
 zC 130 #[.agg #[u],.agg #[C]] w fun e w'=>∃c,e=.returned (.int .i64 c)/\zB w w'/\fC (Sem A) (Sem B) c:=by
 have hF:=Fits.of (A:=A) (B:=B) (zI _) (zI _) zo;have d':(B.length+2)*(A.length+2)<=90000:=by rw[Nat.mul_comm];exact E
 have P:=Fits.of (A:=B) (B:=A) (zI _) (zI _) zo;have v:=((Own.start hm).al #[u] 27).al #[C] 27;have i:(w.alloc (.cells #[u] 27)).heap.size=w.heap.size+1:=by simp
 rw[i]at v;have V:=zh (BH u C A B m _ v.ay hA hB hF);have U:=zh (fun mk w (hi:mk.ay w) (F:m.le mk)=>BH C u B A mk w hi (aW F hB) (aW F hA) P);have HO:=zh v;have g1:=v.obj.c 0;have g2:=v.au.obj.c 0;obtain⟨va,vc,rfl,-⟩:=hA;obtain⟨vb,vd,rfl,-⟩:=hB;clear v i hF P;refine aj fun R hR=>?_
 go_enter func130,ntmps130
 go_wp2_with fail
 refine V.o.mono ?_;rintro e X ⟨d1,D1,rfl,N,J,H,n⟩;clear V g1 g2;have s:=HO.o.call N;have a:=Mem_le_grow (w:=X) HO.o.ay;have W:=zh (BI d1 D1 _ _ s.ay J zo);have g:=zh (zi s a);have S:=zh H;clear s a N HO J H n
 go_wp2_with fail
 refine W.o.mono ?_;rintro e w3 ⟨o1,rfl,M,j⟩;have O:=g.o.1.call M;have hq:=Mem_le_grow (w:=w3) g.o.1.ay;have b:=zh (zi O (Mem.le_trans g.o.2 hq));have k:=zh (show ji (fun x=>Sem A x && !Sem B x) o1 by
  have e:Sem D1=fun x=>Sem A x && !Sem B x:=funext S.o.sem;rw[<-e];exact j)
 clear j S W g M hq O D1;generalize c':(m.grow _ X).grow X w3=r' at*
 clear c';have g1:=b.o.1.obj.c 0;have g2:=b.o.1.au.obj.c 0;have V:=zh (U.o _ _ b.o.1.ay b.o.2);obtain⟨s1,b1,e1⟩:∃s1 b1,QH o1=.tuple #[.string s1,.bool b1]:=⟨_,_,rfl⟩;have z:=zh e1;rw[e1];clear e1
 go_wp2_with fail
 refine V.o.mono ?_;rintro e w4 ⟨d2,D2,rfl,L,I,G,l⟩;clear V g1 g2;have r:=b.o.1.call L;have W:=zh (BI d2 D2 _ _ r.ay I zo);have T:=zh r;have Q:=zh G;clear r L b I G l
 go_wp2_with fail
 refine W.o.mono ?_;rintro e w5 ⟨Z,rfl,K,a⟩;have HO5:=zh (T.o.call K).az;have HC:=zh (X5 k.o (show ji (fun x=>Sem B x && !Sem A x) Z by
  have e:Sem D2=fun x=>Sem B x && !Sem A x:=funext Q.o.sem;rw[<-e];exact a))
 clear a Q W T K D2 k U;have z:=z.o
 cases o1 with
 |none=>
  rw[pQ]at z;cases z
  cases Z with
  |none=>
   rw[pQ];go_wp2
   exact qds
  |some y=>
   rw[pO];go_wp2
   exact qds
 |some x=>
  rw[pO]at z;cases z
  cases Z with
  |none=>
   rw[pQ];go_wp2
   exact qds
  |some y=>
   rw[pO];obtain⟨b',q,p⟩:=HC.o;obtain⟨Y,f⟩:∃c,WY (fo x) (fo y)=c:=⟨_,rfl⟩;have d:=YU x y;rw[f]at d;have HS:=zh f;by_cases h:Y<0
   .have hd:decide (Y<0)=true:=zN h;have HX:=zh (q (d.1 h));clear q p d f HC
    go_wp2_with fail
    exact qb7
   .have hd:decide (Y<0)=false:=zM h;have D:vO y x:=by
     rcases pM x y with t|t|t
     .exact absurd (d.2 t) h
     .exact absurd t b'
     .exact t
    have HX:=zh (p D);clear q p d f HC D
    go_wp2_with fail
    exact qb7
end Cl
