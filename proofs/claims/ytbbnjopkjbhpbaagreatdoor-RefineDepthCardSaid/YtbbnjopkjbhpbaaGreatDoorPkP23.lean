/- Lemmas for the proofs of chapter 11. -/
import Derived.Test.YtbbnjopkjbhpbaaGreatDoorPkP21
import Derived.Test.YtbbnjopkjbhpbaaGreatDoorPkP22
set_option maxRecDepth 100000
set_option maxHeartbeats 16000000
namespace Cl
open Go Go.RowKit Go.Proofs Tryz
theorem eza(g i:Nat)(cs a:List Value)(r:Int)(m:Mem)(w:zW)(b:m.ay w)(q:cs.length=6)(c:a.length=6)(h:∀j u,cs[j]?=some u->m.cell g (1+j)=some u)(f:∀j u,a[j]?=some u->m.cell i (1+j)=some u)
(n:zX 133 #[.agg cs.toArray,.agg a.toArray] w (.int .i64 r)):
 zX 222 #[.pointer (some ⟨g,0,none⟩),.pointer (some ⟨i,0,none⟩)] w (.int .i64 r):=by
 have l:∀j u,cs[j]?=some u->w.cell? ⟨g,1+j,none⟩=some u:=fun j u d=>Mem_cell_w b (h j u d);have k:∀j u,a[j]?=some u->w.cell? ⟨i,1+j,none⟩=some u:=fun j u d=>Mem_cell_w b (f j u d);have x:=Mem_cell_lt b (h 0 (cs[0]'zo) (yH _));have v:=Mem_cell_lt b (f 0 (a[0]'zo) (yH _));have s:=zh n;have p:=zh (zi l k);clear n h f l k;refine au fun R hR=>?_
 go_enter func222,ntmps222
 go_wp2_with (first|refine aj wQ rfl (.tmp 3) rfl rfl cs q p.o.1 ?_|refine aj wQ rfl (.tmp 5) rfl rfl a c p.o.2 ?_|(go_at_call 133;refine s.o.mono ?_;rintro e t ⟨rfl,hb1⟩))
 exact qaL
theorem ezu(g i:Nat)(cs a:List Value)(r:Int)(m:Mem)(w:zW)(b:m.ay w)(q:cs.length=9)(c:a.length=9)(h:∀j u,cs[j]?=some u->m.cell g (0+j)=some u)(f:∀j u,a[j]?=some u->m.cell i (0+j)=some u)
(n:zX 172 #[.agg cs.toArray,.agg a.toArray] w (.int .i64 r)):
 zX 291 #[.pointer (some ⟨g,0,none⟩),.pointer (some ⟨i,0,none⟩)] w (.int .i64 r):=by
 have l:∀j u,cs[j]?=some u->w.cell? ⟨g,0+j,none⟩=some u:=fun j u d=>Mem_cell_w b (h j u d);have k:∀j u,a[j]?=some u->w.cell? ⟨i,0+j,none⟩=some u:=fun j u d=>Mem_cell_w b (f j u d);have x:=Mem_cell_lt b (h 0 (cs[0]'zo) (yH _));have v:=Mem_cell_lt b (f 0 (a[0]'zo) (yH _));have s:=zh n;have p:=zh (zi l k);clear n h f l k;refine au fun R hR=>?_
 go_enter func291,ntmps291
 go_wp2_with (first|refine aj kK rfl (.tmp 3) rfl rfl cs q p.o.1 ?_|refine aj kK rfl (.tmp 5) rfl rfl a c p.o.2 ?_|(go_at_call 172;refine s.o.mono ?_;rintro e t ⟨rfl,hb1⟩))
 exact qaL
theorem ezt(g i:Nat)(cs a:List Value)(r:Int)(m:Mem)(w:zW)(b:m.ay w)(q:cs.length=9)(c:a.length=9)(h:∀j u,cs[j]?=some u->m.cell g (9+j)=some u)(f:∀j u,a[j]?=some u->m.cell i (9+j)=some u)
(n:zX 172 #[.agg cs.toArray,.agg a.toArray] w (.int .i64 r)):
 zX 292 #[.pointer (some ⟨g,0,none⟩),.pointer (some ⟨i,0,none⟩)] w (.int .i64 r):=by
 have l:∀j u,cs[j]?=some u->w.cell? ⟨g,9+j,none⟩=some u:=fun j u d=>Mem_cell_w b (h j u d);have k:∀j u,a[j]?=some u->w.cell? ⟨i,9+j,none⟩=some u:=fun j u d=>Mem_cell_w b (f j u d);have x:=Mem_cell_lt b (h 0 (cs[0]'zo) (yH _));have v:=Mem_cell_lt b (f 0 (a[0]'zo) (yH _));have s:=zh n;have p:=zh (zi l k);clear n h f l k;refine au fun R hR=>?_
 go_enter func292,ntmps292
 go_wp2_with (first|refine aj kK rfl (.tmp 3) rfl rfl cs q p.o.1 ?_|refine aj kK rfl (.tmp 5) rfl rfl a c p.o.2 ?_|(go_at_call 172;refine s.o.mono ?_;rintro e t ⟨rfl,hb1⟩))
 exact qaL
theorem ezq(g i:Nat)(cs a:List Value)(r:Int)(m:Mem)(w:zW)(b:m.ay w)(q:cs.length=18)(c:a.length=18)(h:∀j u,cs[j]?=some u->m.cell g (2+j)=some u)(f:∀j u,a[j]?=some u->m.cell i (2+j)=some u)
(n:zX 268 #[.agg cs.toArray,.agg a.toArray] w (.int .i64 r)):
 zX 274 #[.pointer (some ⟨g,0,none⟩),.pointer (some ⟨i,0,none⟩)] w (.int .i64 r):=by
 have l:∀j u,cs[j]?=some u->w.cell? ⟨g,2+j,none⟩=some u:=fun j u d=>Mem_cell_w b (h j u d);have k:∀j u,a[j]?=some u->w.cell? ⟨i,2+j,none⟩=some u:=fun j u d=>Mem_cell_w b (f j u d);have x:=Mem_cell_lt b (h 0 (cs[0]'zo) (yH _));have v:=Mem_cell_lt b (f 0 (a[0]'zo) (yH _));have s:=zh n;have p:=zh (zi l k);clear n h f l k;refine au fun R hR=>?_
 go_enter func274,ntmps274
 go_wp2_with (first|refine aj dU rfl (.tmp 3) rfl rfl cs q p.o.1 ?_|refine aj dU rfl (.tmp 5) rfl rfl a c p.o.2 ?_|(go_at_call 268;refine s.o.mono ?_;rintro e t ⟨rfl,hb1⟩))
 exact qaL
theorem ezo(g i:Nat)(cs a:List Value)(r:Int)(m:Mem)(w:zW)(b:m.ay w)(q:cs.length=18)(c:a.length=18)(h:∀j u,cs[j]?=some u->m.cell g (1+j)=some u)(f:∀j u,a[j]?=some u->m.cell i (1+j)=some u)
(n:zX 268 #[.agg cs.toArray,.agg a.toArray] w (.int .i64 r)):
 zX 279 #[.pointer (some ⟨g,0,none⟩),.pointer (some ⟨i,0,none⟩)] w (.int .i64 r):=by
 have l:∀j u,cs[j]?=some u->w.cell? ⟨g,1+j,none⟩=some u:=fun j u d=>Mem_cell_w b (h j u d);have k:∀j u,a[j]?=some u->w.cell? ⟨i,1+j,none⟩=some u:=fun j u d=>Mem_cell_w b (f j u d);have x:=Mem_cell_lt b (h 0 (cs[0]'zo) (yH _));have v:=Mem_cell_lt b (f 0 (a[0]'zo) (yH _));have s:=zh n;have p:=zh (zi l k);clear n h f l k;refine au fun R hR=>?_
 go_enter func279,ntmps279
 go_wp2_with (first|refine aj dU rfl (.tmp 3) rfl rfl cs q p.o.1 ?_|refine aj dU rfl (.tmp 5) rfl rfl a c p.o.2 ?_|(go_at_call 268;refine s.o.mono ?_;rintro e t ⟨rfl,hb1⟩))
 exact qaL
theorem dz9(g h:Nat)(u d:zV)(r:Int)(m:Mem)(w:zW)(a:m.ay w)(c:m.cell g 7=some (u))(b:m.cell h 7=some (d))
(f:zX 224 #[u,d,.func (.func 225) #[] #[]] w (.int .i64 r)):
 zX 223 #[.pointer (some ⟨g,0,none⟩),.pointer (some ⟨h,0,none⟩)] w (.int .i64 r):=by
 have l:=Mem_cell_w a c;have k:=Mem_cell_w a b;have p:=Mem_cell_lt a c;have n:=Mem_cell_lt a b;have i:=zh f;clear f c b;refine au fun R hR=>?_
 go_enter func223,ntmps223
 go_wp2_with (go_at_call 224;refine i.o.mono ?_;rintro e j ⟨rfl,hb1⟩)
 exact qaL
theorem dz8(g h:Nat)(u d:zV)(r:Int)(m:Mem)(w:zW)(a:m.ay w)(c:m.cell g 8=some (u))(b:m.cell h 8=some (d))
(f:zX 227 #[u,d,.func (.func 228) #[] #[]] w (.int .i64 r)):
 zX 226 #[.pointer (some ⟨g,0,none⟩),.pointer (some ⟨h,0,none⟩)] w (.int .i64 r):=by
 have l:=Mem_cell_w a c;have k:=Mem_cell_w a b;have p:=Mem_cell_lt a c;have n:=Mem_cell_lt a b;have i:=zh f;clear f c b;refine au fun R hR=>?_
 go_enter func226,ntmps226
 go_wp2_with (go_at_call 227;refine i.o.mono ?_;rintro e j ⟨rfl,hb1⟩)
 exact qaL
theorem ezc(g h:Nat)(u d:zV)(r:Int)(m:Mem)(w:zW)(a:m.ay w)(c:m.cell g 0=some (u))(b:m.cell h 0=some (d))
(f:zX 270 #[u,d,.func (.func 271) #[] #[]] w (.int .i64 r)):
 zX 269 #[.pointer (some ⟨g,0,none⟩),.pointer (some ⟨h,0,none⟩)] w (.int .i64 r):=by
 have l:=Mem_cell_w a c;have k:=Mem_cell_w a b;have p:=Mem_cell_lt a c;have n:=Mem_cell_lt a b;have i:=zh f;clear f c b;refine au fun R hR=>?_
 go_enter func269,ntmps269
 go_wp2_with (go_at_call 270;refine i.o.mono ?_;rintro e j ⟨rfl,hb1⟩)
 exact qaL
theorem ezb(g h:Nat)(u d:zV)(r:Int)(m:Mem)(w:zW)(a:m.ay w)(c:m.cell g 1=some (u))(b:m.cell h 1=some (d))
(f:zX 276 #[u,d,.func (.func 277) #[] #[]] w (.int .i64 r)):
 zX 275 #[.pointer (some ⟨g,0,none⟩),.pointer (some ⟨h,0,none⟩)] w (.int .i64 r):=by
 have l:=Mem_cell_w a c;have k:=Mem_cell_w a b;have p:=Mem_cell_lt a c;have n:=Mem_cell_lt a b;have i:=zh f;clear f c b;refine au fun R hR=>?_
 go_enter func275,ntmps275
 go_wp2_with (go_at_call 276;refine i.o.mono ?_;rintro e j ⟨rfl,hb1⟩)
 exact qaL
theorem ezs(g h:Nat)(u d:ByteArray)(r:Int)(m:Mem)(w:zW)(a:m.ay w)(c:m.cell g 0=some (.string u))(b:m.cell h 0=some (.string d))
(f:zX 170 #[.string u,.string d] w (.int .i64 r)):
 zX 272 #[.pointer (some ⟨g,0,none⟩),.pointer (some ⟨h,0,none⟩)] w (.int .i64 r):=by
 have l:=Mem_cell_w a c;have k:=Mem_cell_w a b;have p:=Mem_cell_lt a c;have n:=Mem_cell_lt a b;have i:=zh f;clear f c b;refine au fun R hR=>?_
 go_enter func272,ntmps272
 go_wp2_with (go_at_call 170;refine i.o.mono ?_;rintro e j ⟨rfl,hb1⟩)
 exact qaL
theorem ezr(g h:Nat)(u d:Int)(r:Int)(m:Mem)(w:zW)(a:m.ay w)(c:m.cell g 1=some (.int .i64 u))(b:m.cell h 1=some (.int .i64 d))
(f:zX 169 #[.int .i64 u,.int .i64 d] w (.int .i64 r)):
 zX 273 #[.pointer (some ⟨g,0,none⟩),.pointer (some ⟨h,0,none⟩)] w (.int .i64 r):=by
 have l:=Mem_cell_w a c;have k:=Mem_cell_w a b;have p:=Mem_cell_lt a c;have n:=Mem_cell_lt a b;have i:=zh f;clear f c b;refine au fun R hR=>?_
 go_enter func273,ntmps273
 go_wp2_with (go_at_call 169;refine i.o.mono ?_;rintro e j ⟨rfl,hb1⟩)
 exact qaL
theorem ezp(g h:Nat)(u d:zV)(r:Int)(m:Mem)(w:zW)(a:m.ay w)(c:m.cell g 0=some (u))(b:m.cell h 0=some (d))
(f:zX 127 #[.agg #[u],.agg #[d]] w (.int .i64 r)):
 zX 278 #[.pointer (some ⟨g,0,none⟩),.pointer (some ⟨h,0,none⟩)] w (.int .i64 r):=by
 have l:=Mem_cell_w a c;have k:=Mem_cell_w a b;have p:=Mem_cell_lt a c;have n:=Mem_cell_lt a b;have i:=zh f;clear f c b;refine au fun R hR=>?_
 go_enter func278,ntmps278
 go_wp2_with (go_at_call 127;refine i.o.mono ?_;rintro e j ⟨rfl,hb1⟩)
 exact qaL
theorem ezn(g k:Nat){s r:Nat->Nat->Vd->Prop}(u i:zV)(l j:List Vd)(m:Mem)(w:zW)(b:m.ay w)(h:m.cell g 0=some u)(f:m.cell k 0=some i)(q:Mem.slice s 18 u l)(p:Mem.slice r 18 i j):
 zX 264 #[.pointer (some ⟨g,0,none⟩),.pointer (some ⟨k,0,none⟩)] w (.int .i64 (Lib.compareInt l.length j.length)):=by
 obtain⟨a,c,rfl,y,n,-⟩:=q;obtain⟨C,B,rfl,o,d,-⟩:=p;unfold maxLen at n d;have x:=Mem_cell_w b h;have v:=Mem_cell_w b f;have A:=Mem_cell_lt b h;have z:=Mem_cell_lt b f;clear h f;refine au fun R hR=>?_
 go_enter func264,ntmps264
 go_wp2_with (go_at_call 169;refine(Tryz.cmp_Compare_int _ _ _).mono ?_;rintro e t ⟨rfl,rfl⟩)
 exact qb8
theorem ezm(g n:Nat){x v:Nat->Nat->Vd->Prop}(u j:zV)(l k:List Vd)(m:Mem)(w:zW)(b:m.ay w)(i:m.cell g 1=some u)(h:m.cell n 1=some j)(s:Mem.slice x 18 u l)(r:Mem.slice v 18 j k):
 zX 265 #[.pointer (some ⟨g,0,none⟩),.pointer (some ⟨n,0,none⟩)] w (.int .i64 (BB (decide (0<l.length)) (decide (0<k.length)))):=by
 obtain⟨a,c,rfl,B,p,-⟩:=s;obtain⟨F,E,rfl,q,d,-⟩:=r;unfold maxLen at p d;have A:=Mem_cell_w b i;have z:=Mem_cell_w b h;have D:=Mem_cell_lt b i;have C:=Mem_cell_lt b h;clear i h;refine au fun R t=>?_
 go_enter func265,ntmps265
 go_wp2_with (go_at_call 221;refine(FP _ _ _).mono ?_;rintro e y ⟨rfl,f⟩)
 exact t.o _ _ ⟨zS,f⟩
theorem ezl(g K:Nat)(I H q p:zV)(c t:Lc)(n:Nat)(r:Int)(m:Mem)(w:zW)(Z:m.ay w)(U:m.cell g 0=some I)(T:m.cell g 1=some H)(F:m.cell K 0=some q)(D:m.cell K 1=some p)
(P:bG (bq m n) m I c.1)(O:bG (bq m n) m H c.2)(A:bG (bq m n) m q t.1)(y:bG (bq m n) m p t.2)(C:c.1.length+c.2.length<=1048576)(s:t.1.length+t.2.length<=1048576)
(Q:∀(M:Mem) (v v':zV) (w':zW),m.le M->M.ay w'->bG (bq M n) M v (aY c)->bG (bq M n) M v' (aY t)->zC 267 #[v,v',.func (.func 268) #[] #[]] w' fun e J=>e=.returned (.int .i64 r)/\Below w'.heap.size w' J):
 zX 266 #[.pointer (some ⟨g,0,none⟩),.pointer (some ⟨K,0,none⟩)] w (.int .i64 r):=by
 have V:=zh (fun w' (h:m.ay w')=>kL I H c m n w' h P O C);have G:=zh (fun w' (h:m.ay w')=>kL q p t m n w' h A y s);have W:=zh Q;have L:=zh (Own.start Z);have f:=zh (zi (zi U T) (zi F D));clear Q P O A y U T F D;generalize aY c=L1 at*
 generalize aY t=L2 at*
 refine au fun R hR=>?_
 go_enter func266,ntmps266
 go_upto_region 1 with(fail)
 refine aV [2] (fun N w'=>N=[.int .i64 r]/\Own w m w' m []) ?_ ?_
 .intro Y hY;refine bF 5 6 (fun j=>[aI.is (·=.agg #[I,H]),aI.mem m [1] (fun M u=>bG (bq M n) M u L1),aI.is (·=.agg #[q,p]),aI.mem m [3] (fun M u=>bG (bq M n) M u L2),aI.is (·=.int .i64 r)].getD j aI.any) zk zk ?_ ?_
  .intro i hi o b a l ho x;have HO2:=L.o.dr.aS x.az;have y1:=Mem_cell_w HO2.ay f.o.1.1;have y2:=Mem_cell_w HO2.ay f.o.1.2;have y3:=Mem_cell_lt HO2.ay f.o.1.1;have y5:=Mem_cell_w HO2.ay f.o.2.1;have y6:=Mem_cell_w HO2.ay f.o.2.2;have y7:=Mem_cell_lt HO2.ay f.o.2.1;rcases(show i=0\/i=1\/i=2\/i=3\/i=4 by omega)with rfl|rfl|rfl|rfl|rfl
   .have e0:=x.k 0;exact qaa
   .have e3:zt a 3 _:=x.d 0 rfl;cases ho;refine we rfl rfl (V.o _ HO2.ay) ?_;exact qhl
   .have e1:=x.k 1;exact qaa
   .have e5:zt a 5 _:=x.d 2 rfl;cases ho;refine we rfl rfl (G.o _ HO2.ay) ?_;exact qhk
   .have e4:(aI.mem m [1] (fun M u=>bG (bq M n) M u L1)).holds (a.tmps.getD 4 undef) b l:=x.d 1 rfl;have e6:(aI.mem m [3] (fun M u=>bG (bq M n) M u L2)).holds (a.tmps.getD 6 undef) b l:=x.d 3 rfl;cases ho;have f1:bG (bq (m.fJ l b [1]) n) (m.fJ l b [1]) _ L1:=e4;have f2:bG (bq (m.fJ l b [3]) n) (m.fJ l b [3]) _ L2:=e6;have M1:=Mem_wins_le (m:=m) (es:=[1,3]) HO2.ay b (ds:=[1]) zS;have M2:=Mem_wins_le (m:=m) (es:=[1,3]) HO2.ay b (ds:=[3]) zS;have M0:=Mem_wins_le (m:=m) (es:=[1,3]) HO2.ay b (ds:=[]) zS;refine we rfl rfl (W.o (m.fJ l b [1,3]) _ _ l M0 (Mem_wins_inn HO2.ay b [1,3]) (f1.gH M1) (f2.gH M2)) ?_;exact qab
  .intro b a l E;have e7:a.tmps.getD 7 undef=.int .i64 r:=E.fact 4 _ zo rfl;have hZ:=L.o.dr.aS E.az;obtain⟨X,dd⟩:=a;obtain rfl:dd=[]:=E.defers;refine dX 5 zk (aJ rfl rfl (aO qdV ?_));refine dx zk (hY.o _ _ qeR ⟨?_,hZ⟩) _;have B:X.size=8:=E.size;simp[B]at e7;simp[B]
 rintro z N w2-⟨rfl,S⟩;simp[bB,lk];have HB:=zh S.az;clear S L V G W f;exact qak
theorem JF(a b:Int):jN [a,b]=sI a b:=by simp[jN,uz]
theorem Q6(a b c:Int):jN [a,b,c]=sI a (sI b c):=by simp[jN,uz]
theorem bzv(a b c d:Int):jN [a,b,c,d]=sI a (sI b (sI c d)):=by simp[jN,uz]
theorem WU{a b:RS}{c:Int}(h:Sw a b c)(e:a.iG)(d:b.iG):scC a b=c:=by
 rcases h with⟨-,-,h⟩|⟨h,-⟩
 .exact azu h
 .exact absurd ⟨e,d⟩ h
theorem czH(a b:ByteArray):Fp a.data.toList b.data.toList=Ij a b:=by
 unfold Fp Ij GY;by_cases h:a=b
 .subst h;simp
 .have c:¬a.data.toList=b.data.toList:=fun e=>h (O5 e);rw[zJ h,zJ c]
structure FH (n:Nat) (v:Vl):Prop where
 snd:iQ n v
 few:oq n v
 cnt:dA n v<=1048576
def Bj(n:Nat)(d:Vd):Prop:=FH n d.1/\FH n d.2
theorem FH.kid{n:Nat}{v:Vl}(h:FH (n+1) v){x:Vd}(a:x∈v.kids):Bj n x:=by
 have c:=h.snd.2 x a;have b:=h.few.2 x a;have e:=wM (n:=n) a;have d:=h.cnt;exact⟨⟨c.1,b.1,zo⟩,c.2,b.2,zo⟩
def FI(n:Nat):Prop:=∀(v v':Vl) (s a:Sl) (m:Mem) (w:zW),m.ay w->dV m->bq m n s v->bq m n a v'->FH n v->FH n v'->zX 172 #[v.val s,v'.val a] w (.int .i64 (gW n v v'))
theorem JZ{n:Nat}(H:FI n)(d b:Vd)(x y o l:Sl)(m:Mem)(w:zW)(A:m.ay w)(f:dV m)(C:bq m n x d.1)(B:bq m n y d.2)(r:bq m n o b.1)(q:bq m n l b.2)(s:Bj n d)(p:Bj n b):
 zX 268 #[bP d x y,bP b o l] w (.int .i64 (uq (gW n) d b)):=by
 have h:=gzI (dC d x y).toArray (dC b o l).toArray [gW n d.1 b.1,gW n d.2 b.2] rfl m w A (fun M g t a z v i h hi w' c=>by
  match i,hi with
  |0,_=>exact ezu g t (bu d.1 x) (bu b.1 o) _ M w' c rfl rfl (fun j u k=>z _ u (by simpa using lh (y:=y) k)) (fun j u k=>v _ u (by simpa using lh (y:=l) k)) (H d.1 b.1 x o M w' c (f.le a) (C.le a) (r.le a) s.1 p.1)
  | 1,_=>exact ezt g t (bu d.2 y) (bu b.2 l) _ M w' c rfl rfl (fun j u k=>z _ u (by simpa using pI (x:=x) k)) (fun j u k=>v _ u (by simpa using pI (x:=o) k)) (H d.2 b.2 y l M w' c (f.le a) (B.le a) (q.le a) s.2 p.2))
 rw[JF]at h;exact h
theorem Vn{n:Nat}(H:FI n)(v v':zV)(l c:List Vd)(m:Mem)(w:zW)(D:m.ay w)(a:dV m)(h:bG (bq m n) m v l)(E:bG (bq m n) m v' c)(z:∀d∈l,Bj n d)(g:∀d∈c,Bj n d):
 zX 267 #[v,v',.func (.func 268) #[] #[]] w (.int .i64 (eO (uq (gW n)) l c)):=
 eze (uq (gW n)) (fun b o d=>Bh (bq m n) m b o d/\Bj n d) (fun cs d=>(∃x y,cs=dC d x y/\bq m n x d.1/\bq m n y d.2)/\Bj n d) v v' l c m w D
  (fun b o d r=>by obtain⟨x,y,q,f,s⟩:=r.1.cells;exact⟨_,rfl,q,fZ f s,⟨x,y,rfl,f,s⟩,r.2⟩)
  (fun cs G d F w' p q f=>by
   obtain⟨⟨x,y,rfl,C,B⟩,A⟩:=q;obtain⟨⟨u,t,rfl,k,j⟩,i⟩:=f;exact JZ H d F x y u t m w' p a C B k j A i) (fD h z) (fD E g)
theorem bzU{n:Nat}(H:FI n)(f a:Fd)(x y k d:Sl)(m:Mem)(w:zW)(A:m.ay w)(l:dV m)(C:bq m n x f.2.1)(B:bq m n y f.2.2)(q:bq m n k a.2.1)(p:bq m n d a.2.2)(z:Bj n f.2)(o:Bj n a.2):
 zX 271 #[.agg (qI f x y).toArray,.agg (qI a k d).toArray] w (.int .i64 (fdC (gW n) f a)):=by
 have h:=gzH (qI f x y).toArray (qI a k d).toArray [Ij f.1.1 a.1.1,Oa f.1.2 a.1.2,uq (gW n) f.2 a.2] rfl m w A (fun M g r b t s i h hi w' c=>by
  match i,hi with
  |0,_=>exact ezs g r f.1.1 a.1.1 _ M w' c (t 0 _ rfl) (s 0 _ rfl) ((JX _ _ _).mono fun e v h=>⟨by rw[h.1,czH];rfl,by rw[h.2];exact zR _ _⟩)
  |1,_=>exact ezr g r f.1.2 a.1.2 _ M w' c (t 1 _ rfl) (s 1 _ rfl) ((Tryz.cmp_Compare_int _ _ _).mono fun e v h=>⟨h.1,by rw[h.2];exact zR _ _⟩)
  | 2,_=>exact ezq g r (dC f.2 x y) (dC a.2 k d) _ M w' c rfl rfl (fun j u hj=>t _ u qij) (fun j u hj=>s _ u qij) (JZ H f.2 a.2 x y k d M w' c (l.le b) (C.le b) (B.le b) (q.le b) (p.le b) z o))
 rw[Q6,<-Ye]at h;exact h
theorem Zc{n:Nat}(H:FI n)(v v':zV)(l c:List Fd)(m:Mem)(w:zW)(D:m.ay w)(a:dV m)(h:gN (bq m n) m v l)(E:gN (bq m n) m v' c)(z:∀d∈l,Bj n d.2)(g:∀d∈c,Bj n d.2):
 zX 270 #[v,v',.func (.func 271) #[] #[]] w (.int .i64 (eO (fdC (gW n)) l c)):=
 ezh (fdC (gW n)) (fun b o d=>Ky (bq m n) m b o d/\Bj n d.2) (fun cs d=>(∃x y,cs=qI d x y/\bq m n x d.2.1/\bq m n y d.2.2)/\Bj n d.2) v v' l c m w D
  (fun b o d r=>by obtain⟨x,y,q,f,s⟩:=r.1.cells;exact⟨_,rfl,q,mV f s,⟨x,y,rfl,f,s⟩,r.2⟩)
  (fun cs G d F w' p q f=>by
   obtain⟨⟨x,y,rfl,C,B⟩,A⟩:=q;obtain⟨⟨u,t,rfl,k,j⟩,i⟩:=f;exact bzU H d F x y u t m w' p a C B k j A i) (fD h z) (fD E g)
def VU(n:Nat)(k:Kl):Prop:=Bj n k.2/\k.1.length<=729
theorem gzj{a b:Nat}(h:a<=729)(c:b<=729):(a+2)*(b+2)<=900000:=yJ (xV (Nat.add_le_add_right h 2) (Nat.add_le_add_right c 2)) zD
theorem bzT{n:Nat}(H:FI n)(f b:Kl)(u p:zV)(x y o l:Sl)(m:Mem)(w:zW)(G:m.ay w)(k:dV m)(F:aU m u f.1)(r:aU m p b.1)(A:bq m n x f.2.1)(t:bq m n y f.2.2)(v:bq m n o b.2.1)(s:bq m n l b.2.2)(B:VU n f)(q:VU n b):
 zX 277 #[.agg (ow f u x y).toArray,.agg (ow b p o l).toArray] w (.int .i64 (klC (gW n) f b)):=by
 have h:=gzG (ow f u x y).toArray (ow b p o l).toArray [pY f.1 b.1,uq (gW n) f.2 b.2] rfl m w G (fun M g C a E D i h hi w' d=>by
  match i,hi with
  |0,_=>exact ezp g C u p _ M w' d (E 0 _ rfl) (D 0 _ rfl) ((qp u p f.1 b.1 M w' d (k.le a) (aX a F) (aX a r) (yJ (gzj B.2 q.2) zD)).mono fun e w2 ⟨c,A,t,I⟩=>⟨by rw[A,DL I];rfl,t⟩)
  | 1,_=>exact ezo g C (dC f.2 x y) (dC b.2 o l) _ M w' d rfl rfl (fun j z hj=>E _ z qik) (fun j z hj=>D _ z qik) (JZ H f.2 b.2 x y o l M w' d (k.le a) (A.le a) (t.le a) (v.le a) (s.le a) B.1 q.1))
 rw[JF]at h;exact h
theorem Zb{n:Nat}(H:FI n)(v v':zV)(l c:List Kl)(m:Mem)(w:zW)(I:m.ay w)(a:dV m)(h:gP (bq m n) m v l)(J:gP (bq m n) m v' c)(D:∀d∈l,VU n d)(i:∀d∈c,VU n d):
 zX 276 #[v,v',.func (.func 277) #[] #[]] w (.int .i64 (eO (klC (gW n)) l c)):=
 ezg (klC (gW n)) (fun b o d=>Li (bq m n) m b o d/\VU n d) (fun cs d=>(∃u x y,cs=ow d u x y/\aU m u d.1/\bq m n x d.2.1/\bq m n y d.2.2)/\VU n d) v v' l c m w I
  (fun b o d t=>by obtain⟨u,x,y,f,s,g,z⟩:=t.1.cells;exact⟨_,rfl,s,nU f g z,⟨u,x,y,rfl,f,g,z⟩,t.2⟩)
  (fun cs L d K w' r s g=>by
   obtain⟨⟨u,x,y,rfl,f,G,F⟩,E⟩:=s;obtain⟨⟨C,B,A,rfl,q,p,k⟩,j⟩:=g;exact bzT H d K u C x y B A m w' r a f q G F p k E j) (fD h D) (fD J i)
def KA(n:Nat)(c:St):Prop:=(∀f∈c.1,Bj n f.2)/\∀k∈c.2,VU n k
theorem bzR{n:Nat}(H:FI n)(o l d b:zV)(c k:St)(m:Mem)(w:zW)(x:m.ay w)(j:dV m)(z:gN (bq m n) m o c.1)(y:gP (bq m n) m l c.2)(r:gN (bq m n) m d k.1)(q:gP (bq m n) m b k.2)(s:KA n c)(p:KA n k):
 zX 228 #[.agg #[o,l],.agg #[d,b]] w (.int .i64 (Pm (gW n) c k)):=by
 have h:=gzE #[o,l] #[d,b] [eO (fdC (gW n)) c.1 k.1,eO (klC (gW n)) c.2 k.2] rfl m w x (fun M g t a v u i h hi w' f=>by
  match i,hi with
  |0,_=>exact ezc g t o d _ M w' f (v 0 _ rfl) (u 0 _ rfl) (Zc H o d c.1 k.1 M w' f (j.le a) (gN.le a (fun _ _=>bq.le a) z) (gN.le a (fun _ _=>bq.le a) r) s.1 p.1)
  | 1,_=>exact ezb g t l b _ M w' f (v 1 _ rfl) (u 1 _ rfl) (Zb H l b c.2 k.2 M w' f (j.le a) (gP.le a (fun _ _=>bq.le a) y) (gP.le a (fun _ _=>bq.le a) q) s.2 p.2))
 rw[JF]at h;exact h
theorem gZ{α:Type}{R:Nat->Nat->α->Prop}{size:Nat}{v:zV}{l:List α}(h:Mem.slice R size v l):v.oneCell'=true:=by obtain⟨a,c,rfl,-⟩:=h;rfl
theorem LG{m:Mem}{b o:Nat}{u a:zV}(e:m.cell b o=some u)(d:m.cell b (o+1)=some a):∀j z,[u,a][j]?=some z->m.cell b (o+j)=some z:=fun j z c=>by
 match j,c with
 |0,h=>cases h;exact e
 |1,h=>cases h;exact d
theorem Y7{n:Nat}(H:FI n)(v v':zV)(l f:List St)(m:Mem)(w:zW)(F:m.ay w)(c:dV m)(h:Aj (bq m n) m v l)(J:Aj (bq m n) m v' f)(B:∀d∈l,KA n d)(g:∀d∈f,KA n d):
 zX 227 #[v,v',.func (.func 228) #[] #[]] w (.int .i64 (eO (Pm (gW n)) l f)):=
 ezk (Pm (gW n)) (fun b o d=>O9 (bq m n) m b o d/\KA n d) (fun cs d=>(∃u a,cs=[u,a]/\gN (bq m n) m u d.1/\gP (bq m n) m a d.2)/\KA n d) v v' l f m w F
  (fun b o d G=>by
   obtain⟨⟨u,a,r,q,t,s⟩,I⟩:=G;exact⟨[u,a],rfl,LG r q,by simp[gZ t,gZ s],⟨u,a,rfl,t,s⟩,I⟩)
  (fun cs L d K w' p r q=>by
   obtain⟨⟨x,y,rfl,E,D⟩,C⟩:=r;obtain⟨⟨A,z,rfl,k,j⟩,i⟩:=q;exact bzR H x y A z d K m w' p c E D k j C i) (fD h B) (fD J g)
def KC(n:Nat)(c:Lc):Prop:=(∀x∈aY c,Bj n x)/\(aY c).length<=1048576
theorem bzS{n:Nat}(H:FI n)(o l f d:zV)(c b:Lc)(m:Mem)(w:zW)(F:m.ay w)(q:dV m)(D:bG (bq m n) m o c.1)(C:bG (bq m n) m l c.2)(t:bG (bq m n) m f b.1)(s:bG (bq m n) m d b.2)(B:KC n c)(p:KC n b):
 zX 225 #[.agg #[o,l],.agg #[f,d]] w (.int .i64 (Pn (gW n) c b)):=by
 have r:c.1.length+c.2.length<=1048576:=by have:=B.2;rwa [aY,zL]at this
 have k:b.1.length+b.2.length<=1048576:=by have:=p.2;rwa [aY,zL]at this
 have h:=gzF #[o,l] #[f,d] [Oa c.1.length b.1.length,BB (decide (0<c.2.length)) (decide (0<b.2.length)),eO (uq (gW n)) (aY c) (aY b)] rfl m w F (fun M g A a x u i h hi w' j=>by
  match i,hi with
  |0,_=>exact ezn g A o f c.1 b.1 M w' j (x 0 _ rfl) (u 0 _ rfl) (bG.gH a D) (bG.gH a t)
  |1,_=>exact ezm g A l d c.2 b.2 M w' j (x 1 _ rfl) (u 1 _ rfl) (bG.gH a C) (bG.gH a s)
  | 2,_=>exact ezl g A o l f d c b n _ M w' j (x 0 _ rfl) (x 1 _ rfl) (u 0 _ rfl) (u 1 _ rfl) (bG.gH a D) (bG.gH a C) (bG.gH a t) (bG.gH a s) r k (fun J v v' E z y I G=>Vn H v v' _ _ J E y ((q.le a).le z) I G B.1 p.1))
 rw[Q6]at h;exact h
theorem Za{n:Nat}(H:FI n)(v v':zV)(l f:List Lc)(m:Mem)(w:zW)(F:m.ay w)(c:dV m)(h:Am (bq m n) m v l)(J:Am (bq m n) m v' f)(B:∀d∈l,KC n d)(g:∀d∈f,KC n d):
 zX 224 #[v,v',.func (.func 225) #[] #[]] w (.int .i64 (eO (Pn (gW n)) l f)):=
 ezf (Pn (gW n)) (fun b o d=>Ph (bq m n) m b o d/\KC n d) (fun cs d=>(∃u a,cs=[u,a]/\bG (bq m n) m u d.1/\bG (bq m n) m a d.2)/\KC n d) v v' l f m w F
  (fun b o d G=>by
   obtain⟨⟨u,a,r,q,t,s⟩,I⟩:=G;exact⟨[u,a],rfl,LG r q,by simp[gZ t,gZ s],⟨u,a,rfl,t,s⟩,I⟩)
  (fun cs L d K w' p r q=>by
   obtain⟨⟨x,y,rfl,E,D⟩,C⟩:=r;obtain⟨⟨A,z,rfl,k,j⟩,i⟩:=q;exact bzS H x y A z d K m w' p c E D k j C i) (fD h B) (fD J g)
theorem FH.lc{n:Nat}{v:Vl}(h:FH (n+1) v){c:Lc}(a:c∈v.aN):KC n c:=⟨fun x b=>h.kid (eB a b),by rw[aY,zL];exact Je h.few.ht h.cnt a⟩
theorem FH.st{n:Nat}{v:Vl}(h:FH (n+1) v){c:St}(a:c∈v.aA):KA n c:=⟨fun _ b=>h.kid (oP a b),fun k hk=>⟨h.kid (oQ a hk),(h.few.1.st c a).set k hk⟩⟩
theorem FH.le{n:Nat}{v:Vl}(h:FH (n+1) v):jS v.s 8 8:=⟨h.few.1.i,h.few.1.fr,h.few.1.t⟩
theorem Qn{v:Vl}{s:Sl}{j:Nat}{u:zV}(h:([.bool v.s.dI,.bool v.s.dM,.bool v.s.dO,s.i,s.f,s.t]:List Value)[j]?=some u):(bu v s).toArray[1+j]?=some u:=by
 match j,h with
 |0,h=>exact h
 |1,h=>exact h
 |2,h=>exact h
 |3,h=>exact h
 |4,h=>exact h
 |5,h=>exact h
theorem fzE{n:Nat}(H:FI n):FI (n+1):=fun v v' s b m w G d I A q o=>by
 have h:=gzD (bu v s).toArray (bu v' b).toArray [BB v.any v'.any,scC v.s v'.s,eO (Pn (gW n)) v.aN v'.aN,eO (Pm (gW n)) v.aA v'.aA] rfl m w G (fun M g r k y x i h hi w' a=>by
  have C:bq M (n+1) s v:=I.le k;have B:bq M (n+1) b v':=A.le k
  match i,hi with
  |0,_=>exact PG g r v.any v'.any M w' a (y 0 _ rfl) (x 0 _ rfl)
  |1,_=>exact eza g r [.bool v.s.dI,.bool v.s.dM,.bool v.s.dO,s.i,s.f,s.t] [.bool v'.s.dI,.bool v'.s.dM,.bool v'.s.dO,b.i,b.f,b.t] _ M w' a rfl rfl (fun j u z=>y _ u (Qn z)) (fun j u z=>x _ u (Qn z)) ((Bu s.i s.f s.t v.s b.i b.f b.t v'.s 8 8 8 8 M w' a (d.le k) C.1 B.1 q.le o.le zD zD zD).mono fun e w2 ⟨c,F,E,D⟩=>⟨by rw[F,WU D q.snd.1.sc o.snd.1.sc];rfl,E⟩)
  |2,_=>exact dz9 g r s.l b.l _ M w' a (y 7 _ rfl) (x 7 _ rfl) (Za H s.l b.l v.aN v'.aN M w' a (d.le k) C.2.1 B.2.1 (fun c p=>q.lc p) (fun c p=>o.lc p))
  | 3,_=>exact dz8 g r s.s b.s _ M w' a (y 8 _ rfl) (x 8 _ rfl) (Y7 H s.s b.s v.aA v'.aA M w' a (d.le k) C.2.2 B.2.2 (fun c p=>q.st p) (fun c p=>o.st p)))
 rw[bzv]at h;exact h
theorem Ia:∀n,FI n
 |0=>fun _ _ _ _ _ _ _ _ h=>h.elim
 |n+1=>fzE (Ia n)
def QU{α:Type}(p:α->Bool)(l:List α):Int:=match l.findIdx? p with
 |some i=>i
 |none => -1
theorem UF{α:Type}{p:α->Bool}{l:List α}{i:Nat}(hi:i<l.length)(h:∀j (a:j<l.length),j<i->p l[j]=false)(e:p l[i]=true):QU p l=i:=by
 unfold QU;rw[List.findIdx?_eq_some_iff_getElem.2 ⟨hi,e,fun j a=>by rw[h j zo a];simp⟩]
theorem UE{α:Type}{p:α->Bool}{l:List α}(h:∀j (a:j<l.length),p l[j]=false):QU p l = -1:=by
 unfold QU;rw[List.findIdx?_eq_none_iff.2 fun x b=>by obtain⟨j,a,rfl⟩:=yX b;exact h j a]
theorem bzh{α:Type}(p:α->Bool)(l:List α):decide (QU p l >= 0)=l.any p:=by
 unfold QU
 cases h:l.findIdx? p with
 |none=>rw[List.findIdx?_eq_none_iff]at h;symm;simpa using h
 |some i=>
  obtain⟨hi,a,-⟩:=List.findIdx?_eq_some_iff_getElem.1 h;have:l.any p=true:=List.any_eq_true.2 ⟨_,zF hi,a⟩;rw[this];simp
def czp(g:Nat)(a:Array Value)(m:Mem)(k:Nat){α:Type}(p:α->Bool)(b o:Nat)(x:α):Prop:=
 ∃cs:List Value,cs.length=k/\(∀j u,cs[j]?=some u->m.cell b (o+j)=some u)/\∀w',m.ay w'->zC g (#[.agg cs.toArray]++a) w' fun e c=>e=.returned (.bool (p x))/\Below w'.heap.size w' c
theorem dzr{α:Type}(p:α->Bool)(g:Nat)(f:Array Value)(v:zV)(l:List α)(m:Mem)(w:zW)(H:m.ay w)(L:∀args w,(callFunc g args).run prog w=.ok (.enter g args) w)(B:Mem.slice (czp g f m 2 p) 2 v l):
 zX 111 #[v,.func (.func g) #[] f] w (.int .i64 (QU p l)):=by
 obtain⟨a,c,rfl,K,I,E⟩:=B;unfold maxLen at I;have J:=zh E;have HO:=zh (Own.start H);clear E;refine au fun R hR=>?_
 go_enter func111,ntmps111
 go_wp2;refine aC [0,1,7,8] (fun n A t=>∃k:Nat,k<=l.length/\n=l.length-k/\A=[.slice a l.length c,.func (.func g) #[] f,.int .i64 l.length,.int .i64 k]/\(∀j (hj:j<l.length),j<k->p l[j]=false)/\Own w m t m []) ?_ ?_
 .exact qbS
 clear HO;rintro X z n A t hX-⟨k,hk,rfl,rfl,C,hO⟩;have HA:=zh C;clear C;simp[bB,lk];by_cases hlt:k<l.length
 case neg=>
  exact qgS
 obtain⟨b,off,rfl,D⟩:=J.o qdP;obtain⟨cs,s,i,d⟩:=D k hlt;have q:=i 0 (cs[0]'zo) (yH _);have G:=Mem_cell_lt hO.ay q;have F:=zh (fun j u hj=>Mem_cell_w hO.ay (i j u hj));have HF:=zh (d t hO.ay);have HO:=zh hO;have y:=zh (fun h=>UF (p:=p) hlt (fun j hj hlt=>HA.o j hj hlt) h);have x:=zh (show p l[k]=false->∀j (hj:j<l.length),j<k+1->p l[j]=false from fun h j hj B=>by
  by_cases e:j=k
  .exact qbV
  .exact HA.o j hj zo)
 clear hO D i d q HA;generalize p l[k]=r at*
 cases r with
 |true=>
  have HL:=zh (y.o rfl);clear y x hX
  go_wp2_with (first
   |refine aj FQ rfl (.tmp 14) rfl rfl cs s F.o ?_
   | fail)
  refine HF.o.mono ?_;rintro e w1 ⟨rfl,hb1⟩;have HB:=zh (HO.o.aS hb1).az;clear HO HF hb1;go_wp2
  exact qa4
 |false=>
  have HN2:=zh (x.o rfl);clear y x
  go_wp2_with (first
   |refine aj FQ rfl (.tmp 14) rfl rfl cs s F.o ?_
   | fail)
  exact qgM
theorem dzt{α:Type}(p:α->Bool)(g:Nat)(f:Array Value)(v:zV)(l:List α)(m:Mem)(w:zW)(H:m.ay w)(L:∀args w,(callFunc g args).run prog w=.ok (.enter g args) w)(B:Mem.slice (czp g f m 2 p) 2 v l):
 zX 112 #[v,.func (.func g) #[] f] w (.int .i64 (QU p l)):=by
 obtain⟨a,c,rfl,K,I,E⟩:=B;unfold maxLen at I;have J:=zh E;have HO:=zh (Own.start H);clear E;refine au fun R hR=>?_
 go_enter func112,ntmps112
 go_wp2;refine aC [0,1,7,8] (fun n A t=>∃k:Nat,k<=l.length/\n=l.length-k/\A=[.slice a l.length c,.func (.func g) #[] f,.int .i64 l.length,.int .i64 k]/\(∀j (hj:j<l.length),j<k->p l[j]=false)/\Own w m t m []) ?_ ?_
 .exact qbS
 clear HO;rintro X z n A t hX-⟨k,hk,rfl,rfl,C,hO⟩;have HA:=zh C;clear C;simp[bB,lk];by_cases hlt:k<l.length
 case neg=>
  exact qgS
 obtain⟨b,off,rfl,D⟩:=J.o qdP;obtain⟨cs,s,i,d⟩:=D k hlt;have q:=i 0 (cs[0]'zo) (yH _);have G:=Mem_cell_lt hO.ay q;have F:=zh (fun j u hj=>Mem_cell_w hO.ay (i j u hj));have HF:=zh (d t hO.ay);have HO:=zh hO;have y:=zh (fun h=>UF (p:=p) hlt (fun j hj hlt=>HA.o j hj hlt) h);have x:=zh (show p l[k]=false->∀j (hj:j<l.length),j<k+1->p l[j]=false from fun h j hj B=>by
  by_cases e:j=k
  .exact qbV
  .exact HA.o j hj zo)
 clear hO D i d q HA;generalize p l[k]=r at*
 cases r with
 |true=>
  have HL:=zh (y.o rfl);clear y x hX
  go_wp2_with (first
   |refine aj Et rfl (.tmp 14) rfl rfl cs s F.o ?_
   | fail)
  refine HF.o.mono ?_;rintro e w1 ⟨rfl,hb1⟩;have HB:=zh (HO.o.aS hb1).az;clear HO HF hb1;go_wp2
  exact qa4
 |false=>
  have HN2:=zh (x.o rfl);clear y x
  go_wp2_with (first
   |refine aj Et rfl (.tmp 14) rfl rfl cs s F.o ?_
   | fail)
  exact qgM
theorem dzs{α:Type}(p:α->Bool)(g:Nat)(f:Array Value)(v:zV)(l:List α)(m:Mem)(w:zW)(H:m.ay w)(L:∀args w,(callFunc g args).run prog w=.ok (.enter g args) w)(B:Mem.slice (czp g f m 19 p) 19 v l):
 zX 122 #[v,.func (.func g) #[] f] w (.int .i64 (QU p l)):=by
 obtain⟨a,c,rfl,K,I,E⟩:=B;unfold maxLen at I;have J:=zh E;have HO:=zh (Own.start H);clear E;refine au fun R hR=>?_
 go_enter func122,ntmps122
 go_wp2;refine aC [0,1,7,8] (fun n A t=>∃k:Nat,k<=l.length/\n=l.length-k/\A=[.slice a l.length c,.func (.func g) #[] f,.int .i64 l.length,.int .i64 k]/\(∀j (hj:j<l.length),j<k->p l[j]=false)/\Own w m t m []) ?_ ?_
 .exact qbS
 clear HO;rintro X z n A t hX-⟨k,hk,rfl,rfl,C,hO⟩;have HA:=zh C;clear C;simp[bB,lk];by_cases hlt:k<l.length
 case neg=>
  exact qgS
 obtain⟨b,off,rfl,D⟩:=J.o qdP;obtain⟨cs,s,i,d⟩:=D k hlt;have q:=i 0 (cs[0]'zo) (yH _);have G:=Mem_cell_lt hO.ay q;have F:=zh (fun j u hj=>Mem_cell_w hO.ay (i j u hj));have HF:=zh (d t hO.ay);have HO:=zh hO;have y:=zh (fun h=>UF (p:=p) hlt (fun j hj hlt=>HA.o j hj hlt) h);have x:=zh (show p l[k]=false->∀j (hj:j<l.length),j<k+1->p l[j]=false from fun h j hj B=>by
  by_cases e:j=k
  .exact qbV
  .exact HA.o j hj zo)
 clear hO D i d q HA;generalize p l[k]=r at*
 cases r with
 |true=>
  have HL:=zh (y.o rfl);clear y x hX
  go_wp2_with (first
   |refine aj sw rfl (.tmp 14) rfl rfl cs s F.o ?_
   | fail)
  refine HF.o.mono ?_;rintro e w1 ⟨rfl,hb1⟩;have HB:=zh (HO.o.aS hb1).az;clear HO HF hb1;go_wp2
  exact qa4
 |false=>
  have HN2:=zh (x.o rfl);clear y x
  go_wp2_with (first
   |refine aj sw rfl (.tmp 14) rfl rfl cs s F.o ?_
   | fail)
  exact qgM
theorem bzm{α:Type}(p:α->Bool)(g:Nat)(a:Array Value)(v:zV)(l:List α)(m:Mem)(w:zW)(f:m.ay w)(d:∀args w,(callFunc g args).run prog w=.ok (.enter g args) w)(c:Mem.slice (czp g a m 2 p) 2 v l):
 zX 70 #[v,.func (.func g) #[] a] w (.bool (l.any p)):=by
 have i:=zh (dzr p g a v l m w f d c);have j:=zh (bzh p l);generalize QU p l=r at*
 clear c d;refine au fun R h=>?_
 go_enter func70,ntmps70
 go_wp2_with (go_at_call 111;refine i.o.mono ?_;rintro e k ⟨rfl,b⟩)
 exact h.o _ _ ⟨aR (by rw[<-j.o]),b⟩
theorem bzn{α:Type}(p:α->Bool)(g:Nat)(a:Array Value)(v:zV)(l:List α)(m:Mem)(w:zW)(f:m.ay w)(d:∀args w,(callFunc g args).run prog w=.ok (.enter g args) w)(c:Mem.slice (czp g a m 2 p) 2 v l):
 zX 73 #[v,.func (.func g) #[] a] w (.bool (l.any p)):=by
 have i:=zh (dzt p g a v l m w f d c);have j:=zh (bzh p l);generalize QU p l=r at*
 clear c d;refine au fun R h=>?_
 go_enter func73,ntmps73
 go_wp2_with (go_at_call 112;refine i.o.mono ?_;rintro e k ⟨rfl,b⟩)
 exact h.o _ _ ⟨aR (by rw[<-j.o]),b⟩
theorem Re:∀args w,(callFunc 71 args).run prog w=.ok (.enter 71 args) w:=enters_of func71 zk rfl
theorem YZ(cs a:List Value)(t:cs.length=2)(f:a.length=2)(k i:Nat)(r:Bool)(m:Mem)(w:zW)(s:m.ay w)(l:m.cell k 0=some (.func (.func 50) #[] #[]))(g:∀j u,cs[j]?=some u->m.cell i (0+j)=some u)
(h:∀w',m.ay w'->zC 50 #[.agg cs.toArray,.agg a.toArray] w' fun e d=>e=.returned (.bool r)/\Below w'.heap.size w' d):
 zX 71 (#[.agg a.toArray]++#[.pointer (some ⟨k,0,none⟩),.pointer (some ⟨i,0,none⟩)]) w (.bool r):=by
 have b:=(Own.start s).al a.toArray 50;have z:=Mem_cell_w b.ay l;have p:=Mem_cell_lt b.ay l;have c:=g 0 (cs[0]'zo) (yH _);have n:=Mem_cell_lt b.ay c;have x:=zh (fun j u v=>Mem_cell_w b.ay (g j u v));have y:=zh (h _ b.ay);have q:=b.obj.all;have HO:=zh b;clear g h b c;refine au fun R hR=>?_
 go_enter func71,ntmps71
 go_wp2_with (first
  |refine aj FQ rfl (.tmp 2) rfl rfl cs t x.o ?_
  |refine aj FQ rfl (.tmp 3) rfl rfl a f q ?_
  | (go_at_call 50;refine y.o.mono ?_;rintro e A ⟨rfl,hb1⟩))
 exact qgI
theorem bzI{α:Type}(Q:α->α->Prop)(A A':Nat->Nat->α->Prop)(Rp I:List Value->α->Prop)(v v':zV)(l l':List α)(m:Mem)(w:zW)(hm:m.ay w)
(hA:∀b o x,A b o x->∃cs:List Value,cs.length=2/\(∀j u,cs[j]?=some u->m.cell b (o+j)=some u)/\(∀u∈cs,u.oneCell'=true)/\Rp cs x)
(H:∀b o x,A' b o x->∃cs:List Value,cs.length=2/\(∀j u,cs[j]?=some u->m.cell b (o+j)=some u)/\I cs x)
(hc:∀cs d x s w',m.ay w'->Rp cs x->I d s->zC 50 #[.agg cs.toArray,.agg d.toArray] w' fun e i=>e=.returned (.bool (tf (Q x s)))/\Below w'.heap.size w' i)
(hl:Mem.slice A 2 v l)(G:Mem.slice A' 2 v' l'):
 zX 49 #[v,v',.func (.func 50) #[] #[]] w (.bool (tf (∀x∈l,∃y∈l',Q x y))):=by
 obtain⟨a,c,rfl,h1,h2,h3⟩:=hl;unfold maxLen at h2;have HK:=zh h3;have W:=zh (zi hA (zi H hc));have V:=zh G;obtain⟨a',c',rfl,-⟩:=G;obtain⟨mk,hO,hle,hci⟩:=((Own.start hm).al #[.func (.func 50) #[] #[]] 86).Bt;have HO:=zh (zi hO (zi hle hci));clear h3 hA H hc hO hle hci;refine au fun R hR=>?_
 go_enter func49,ntmps49
 go_wp2;refine aC [1,5,9,10,11] (fun n Z J=>∃(k:Nat) (mk:Mem),k<=l.length/\n=l.length-k/\Z=[.slice a' l'.length c',.pointer (some ⟨w.heap.size,0,none⟩),.slice a l.length c,.int .i64 l.length,.int .i64 k]/\(∀j (hj:j<l.length),j<k->∃y∈l',Q l[j] y)/\Own w m J mk []/\m.le mk/\mk.cell w.heap.size 0=some (.func (.func 50) #[] #[])) ?_ ?_
 .exact qdl
 clear HO;rintro X z n Z J hX-⟨k,mk,hk,rfl,rfl,hD,hO,hle,hci⟩;have HD:=zh hD;clear hD;simp[bB,lk];by_cases hlt:k<l.length
 case neg=>
  exact qg0
 obtain⟨b,off,rfl,h4⟩:=HK.o qdP;obtain⟨cs,hl1,q,E,C⟩:=W.o.1 _ _ _ (h4 k hlt);have B:=Mem_cell_le hle (q 0 (cs[0]'zo) (yH _));have t':=Mem_cell_lt hO.ay B;have HC:=zh (fun j u hj=>Mem_cell_w hO.ay (Mem_cell_le hle (q j u hj)));have H1:=zh E;have HO:=zh (hO.al #[.slice none 0 0,.slice none 0 0] 50);have U:=zh (zi hle hci);have T:=zh (show(∃y∈l',Q l[k] y)->∀j (hj:j<l.length),j<k+1->∃y∈l',Q l[j] y from fun h j hj hl=>by
  by_cases e:j=k
  .exact qbV
  .exact HD.o j hj zo)
 have S:=zh (show ¬(∃y∈l',Q l[k] y)->¬∀x∈l,∃y∈l',Q x y from fun h k'=>h (k' _ (zF hlt)));have HR:=zh (fun d s w' (h:m.ay w') h'=>W.o.2.2 cs d l[k] s w' h C h');clear hO hle hci q E C B HD h4;generalize l[k]=x at*
 go_wp2_with (first
  |refine aj FQ rfl (.tmp 13) rfl rfl cs hl1 HC.o ?_
  |(refine aB FQ rfl (.tmp 8) (.tmp 14) rfl (cs:=cs.toArray) rfl rfl rfl qd0 (fun u hu=>H1.o u qdQ) HO.o.obj ?_;intro Y ob1 hg1)
  | fail)
 obtain⟨mk2,p,r,c2⟩:∃mk2,mk.le mk2/\Own w m Y mk2 []/\∀j u,cs[j]?=some u->mk2.cell J.heap.size (0+j)=some u:=by
  exact qhp
 have f:=Mem.le_trans U.o.1 p;have g:=Mem_cell_le p U.o.2;have HF:=zh (bzm (fun y=>tf (Q x y)) 71 #[.pointer (some ⟨w.heap.size,0,none⟩),.pointer (some ⟨J.heap.size,0,none⟩)] (.slice a' l'.length c') l' mk2 Y r.ay Re
  (Mem_slice_mono V.o fun b o s L=>by
   obtain⟨d,F,O,N⟩:=W.o.2.1 _ _ _ L;exact⟨d,F,fun j u hj=>Mem_cell_le f (O j u hj),fun w' M=>YZ cs d hl1 F _ _ _ mk2 w' M g c2 fun i P=>HR.o d s i (Mem_inn_le f P) N⟩))
 have HO2:=zh (zi r (zi f g));have K:=zh (show l'.any (fun y=>tf (Q x y))=tf (∃y∈l',Q x y)by
  by_cases h:∃y∈l',Q x y
  .exact qhM
  .rw[aF h];exact List.any_eq_false.2 fun y hy k=>h ⟨y,hy,kF.1 k⟩)
 generalize l'.any (fun y=>tf (Q x y))=rr at*
 clear HO U HC H1 HR ob1 hg1 r f g p c2;by_cases t:∃y∈l',Q x y
 .have D:=K.o;rw[aM t]at D;subst D;have HN2:=zh (T.o t);clear T S t K
  go_wp2_with (go_at_call 70;refine HF.o.mono ?_;rintro e w2 ⟨rfl,hb2⟩)
  exact qhF
 .have D:=K.o;rw[aF t]at D;subst D;have HZ2:=zh (S.o t);clear T S t K hX
  go_wp2_with (go_at_call 70;refine HF.o.mono ?_;rintro e w2 ⟨rfl,hb2⟩)
  exact qhX
theorem Rf:∀args w,(callFunc 74 args).run prog w=.ok (.enter 74 args) w:=enters_of func74 zk rfl
theorem Y1(cs a:List Value)(t:cs.length=2)(f:a.length=2)(k i:Nat)(r:Bool)(m:Mem)(w:zW)(s:m.ay w)(l:m.cell k 0=some (.func (.func 52) #[] #[]))(g:∀j u,cs[j]?=some u->m.cell i (0+j)=some u)
(h:∀w',m.ay w'->zC 52 #[.agg cs.toArray,.agg a.toArray] w' fun e d=>e=.returned (.bool r)/\Below w'.heap.size w' d):
 zX 74 (#[.agg a.toArray]++#[.pointer (some ⟨k,0,none⟩),.pointer (some ⟨i,0,none⟩)]) w (.bool r):=by
 have b:=(Own.start s).al a.toArray 62;have z:=Mem_cell_w b.ay l;have p:=Mem_cell_lt b.ay l;have c:=g 0 (cs[0]'zo) (yH _);have n:=Mem_cell_lt b.ay c;have x:=zh (fun j u v=>Mem_cell_w b.ay (g j u v));have y:=zh (h _ b.ay);have q:=b.obj.all;have HO:=zh b;clear g h b c;refine au fun R hR=>?_
 go_enter func74,ntmps74
 go_wp2_with (first
  |refine aj Et rfl (.tmp 2) rfl rfl cs t x.o ?_
  |refine aj Et rfl (.tmp 3) rfl rfl a f q ?_
  | (go_at_call 52;refine y.o.mono ?_;rintro e A ⟨rfl,hb1⟩))
 exact qgI
theorem bzJ{α:Type}(Q:α->α->Prop)(A A':Nat->Nat->α->Prop)(Rp I:List Value->α->Prop)(v v':zV)(l l':List α)(m:Mem)(w:zW)(hm:m.ay w)
(hA:∀b o x,A b o x->∃cs:List Value,cs.length=2/\(∀j u,cs[j]?=some u->m.cell b (o+j)=some u)/\(∀u∈cs,u.oneCell'=true)/\Rp cs x)
(H:∀b o x,A' b o x->∃cs:List Value,cs.length=2/\(∀j u,cs[j]?=some u->m.cell b (o+j)=some u)/\I cs x)
(hc:∀cs d x s w',m.ay w'->Rp cs x->I d s->zC 52 #[.agg cs.toArray,.agg d.toArray] w' fun e i=>e=.returned (.bool (tf (Q x s)))/\Below w'.heap.size w' i)
(hl:Mem.slice A 2 v l)(G:Mem.slice A' 2 v' l'):
 zX 51 #[v,v',.func (.func 52) #[] #[]] w (.bool (tf (∀x∈l,∃y∈l',Q x y))):=by
 obtain⟨a,c,rfl,h1,h2,h3⟩:=hl;unfold maxLen at h2;have HK:=zh h3;have W:=zh (zi hA (zi H hc));have V:=zh G;obtain⟨a',c',rfl,-⟩:=G;obtain⟨mk,hO,hle,hci⟩:=((Own.start hm).al #[.func (.func 52) #[] #[]] 88).Bt;have HO:=zh (zi hO (zi hle hci));clear h3 hA H hc hO hle hci;refine au fun R hR=>?_
 go_enter func51,ntmps51
 go_wp2;refine aC [1,5,9,10,11] (fun n Z J=>∃(k:Nat) (mk:Mem),k<=l.length/\n=l.length-k/\Z=[.slice a' l'.length c',.pointer (some ⟨w.heap.size,0,none⟩),.slice a l.length c,.int .i64 l.length,.int .i64 k]/\(∀j (hj:j<l.length),j<k->∃y∈l',Q l[j] y)/\Own w m J mk []/\m.le mk/\mk.cell w.heap.size 0=some (.func (.func 52) #[] #[])) ?_ ?_
 .exact qdl
 clear HO;rintro X z n Z J hX-⟨k,mk,hk,rfl,rfl,hD,hO,hle,hci⟩;have HD:=zh hD;clear hD;simp[bB,lk];by_cases hlt:k<l.length
 case neg=>
  exact qg0
 obtain⟨b,off,rfl,h4⟩:=HK.o qdP;obtain⟨cs,hl1,q,E,C⟩:=W.o.1 _ _ _ (h4 k hlt);have B:=Mem_cell_le hle (q 0 (cs[0]'zo) (yH _));have t':=Mem_cell_lt hO.ay B;have HC:=zh (fun j u hj=>Mem_cell_w hO.ay (Mem_cell_le hle (q j u hj)));have H1:=zh E;have HO:=zh (hO.al #[.slice none 0 0,.slice none 0 0] 62);have U:=zh (zi hle hci);have T:=zh (show(∃y∈l',Q l[k] y)->∀j (hj:j<l.length),j<k+1->∃y∈l',Q l[j] y from fun h j hj hl=>by
  by_cases e:j=k
  .exact qbV
  .exact HD.o j hj zo)
 have S:=zh (show ¬(∃y∈l',Q l[k] y)->¬∀x∈l,∃y∈l',Q x y from fun h k'=>h (k' _ (zF hlt)));have HR:=zh (fun d s w' (h:m.ay w') h'=>W.o.2.2 cs d l[k] s w' h C h');clear hO hle hci q E C B HD h4;generalize l[k]=x at*
 go_wp2_with (first
  |refine aj Et rfl (.tmp 13) rfl rfl cs hl1 HC.o ?_
  |(refine aB Et rfl (.tmp 8) (.tmp 14) rfl (cs:=cs.toArray) rfl rfl rfl qd0 (fun u hu=>H1.o u qdQ) HO.o.obj ?_;intro Y ob1 hg1)
  | fail)
 obtain⟨mk2,p,r,c2⟩:∃mk2,mk.le mk2/\Own w m Y mk2 []/\∀j u,cs[j]?=some u->mk2.cell J.heap.size (0+j)=some u:=by
  exact qhp
 have f:=Mem.le_trans U.o.1 p;have g:=Mem_cell_le p U.o.2;have HF:=zh (bzn (fun y=>tf (Q x y)) 74 #[.pointer (some ⟨w.heap.size,0,none⟩),.pointer (some ⟨J.heap.size,0,none⟩)] (.slice a' l'.length c') l' mk2 Y r.ay Rf
  (Mem_slice_mono V.o fun b o s L=>by
   obtain⟨d,F,O,N⟩:=W.o.2.1 _ _ _ L;exact⟨d,F,fun j u hj=>Mem_cell_le f (O j u hj),fun w' M=>Y1 cs d hl1 F _ _ _ mk2 w' M g c2 fun i P=>HR.o d s i (Mem_inn_le f P) N⟩))
 have HO2:=zh (zi r (zi f g));have K:=zh (show l'.any (fun y=>tf (Q x y))=tf (∃y∈l',Q x y)by
  by_cases h:∃y∈l',Q x y
  .exact qhM
  .rw[aF h];exact List.any_eq_false.2 fun y hy k=>h ⟨y,hy,kF.1 k⟩)
 generalize l'.any (fun y=>tf (Q x y))=rr at*
 clear HO U HC H1 HR ob1 hg1 r f g p c2;by_cases t:∃y∈l',Q x y
 .have D:=K.o;rw[aM t]at D;subst D;have HN2:=zh (T.o t);clear T S t K
  go_wp2_with (go_at_call 73;refine HF.o.mono ?_;rintro e w2 ⟨rfl,hb2⟩)
  exact qhF
 .have D:=K.o;rw[aF t]at D;subst D;have HZ2:=zh (S.o t);clear T S t K hX
  go_wp2_with (go_at_call 73;refine HF.o.mono ?_;rintro e w2 ⟨rfl,hb2⟩)
  exact qhX
theorem bzj{c:Lc}{i:Nat}(h:i<c.1.length):j6 c (i:Int)=(c.1[i],true):=by
 unfold j6;rw[dif_pos ⟨zo,by simpa using h⟩];rfl
theorem UH{c:Lc}{i:Int}(b:0<=i)(h:¬i.toNat<c.1.length)(a:0<c.2.length):j6 c i=(c.2[0],true):=by
 unfold j6;rw[dif_neg (fun k=>h k.2),dif_pos ⟨b,a⟩]
theorem QV{c:Lc}{i:Int}(h:i<0\/(¬i.toNat<c.1.length/\c.2.length=0)):j6 c i=((dB,dB),false):=by
 unfold j6;rw[dif_neg (fun k=>by rcases h with h|h<;>omega),dif_neg (fun k=>by rcases h with h|h<;>omega)]
def Su(m:Mem)(n:Nat)(r:Vd×Bool)(e:Ending):Prop:=∃x y,e=.returned (.tuple #[bP r.1 x y,.bool r.2])/\bq m (n+1) x r.1.1/\bq m (n+1) y r.1.2
theorem Pz(u A:zV)(c:Lc)(i:Int)(m:Mem)(n:Nat)(w:zW)(H:m.ay w)(l:bG (bq m n) m u c.1)(q:bG (bq m n) m A c.2):
 zC 72 #[.agg #[u,A],.int .i64 i] w fun e w'=>Su m n (j6 c i) e/\zB w w':=by
 obtain⟨M,K,rfl,O,G,C⟩:=l;obtain⟨L,J,rfl,N,F,B⟩:=q;unfold maxLen at G F;have t:=(((Own.start H).al #[.slice M c.1.length K,.slice L c.2.length J] 50).al oz 35);simp only[bC]at t;have HO:=zh t;have E:=zh (zi C B);clear t C B;refine au fun R hR=>?_;by_cases z:i<0
 .have P:decide (0<=i)=false:=zM zo;have I:decide (i<0)=true:=zN z;have HR:=zh (show Su m n (j6 c i) (.returned (.tuple #[bP (dB,dB) dR dR,.bool false]))by
   rw[QV (.inl z)];exact⟨dR,dR,rfl,(bq.leaf m false).mono zo,(bq.leaf m false).mono zo⟩)
  clear z
  go_enter func72,ntmps72
  go_wp2_with (first|refine aB dU rfl (.tmp 4) (.tmp 34) rfl (cs:=oz) rfl rfl rfl rfl zD HO.o.obj ?_|refine aB dU rfl (.tmp 4) (.tmp 8) rfl (cs:=oz) rfl rfl rfl rfl zD HO.o.obj ?_)
  exact qgT
 obtain⟨k,rfl⟩:=zT (by omega:0<=i);by_cases l:k<c.1.length
 .obtain⟨b,off,rfl,p⟩:=E.o.1 (by intro h;simp[h]at l);obtain⟨x,y,a,f,d⟩:=(p k l).cells;have hl:(dC c.1[k] x y).length=18:=rfl;have g:=fZ f d;have s:=Mem_cell_lt HO.o.ay (a 0 _ rfl);have HC:=zh (fun j u r=>Mem_cell_w HO.o.ay (a j u r));have HR:=zh (show Su m n (j6 c (k:Int)) (.returned (.tuple #[bP c.1[k] x y,.bool true]))by
   rw[bzj l];exact⟨x,y,rfl,f.succ,d.succ⟩)
  unfold bP at HR;generalize dC c.1[k] x y=D at*
  clear p a f d
  go_enter func72,ntmps72
  go_wp2_with (first
   |refine aj dU rfl (.tmp 19) rfl rfl D hl HC.o ?_
   |refine aj dU rfl (.tmp 17) rfl rfl D hl HC.o ?_
   | refine aB dU rfl (.tmp 4) (.tmp 20) rfl (cs:=D.toArray) rfl rfl rfl qdY (fun u hu=>g u qdQ) HO.o.obj ?_)
  exact qgZ
 by_cases q:0<c.2.length
 .obtain⟨b,off,rfl,p⟩:=E.o.2 (by intro h;simp[h]at q);obtain⟨x,y,a,f,d⟩:=(p 0 q).cells;simp only[Nat.zero_mul,Nat.add_zero]at a;have hl:(dC c.2[0] x y).length=18:=rfl;have g:=fZ f d;have s:=Mem_cell_lt HO.o.ay (a 0 _ rfl);have HC:=zh (fun j u r=>Mem_cell_w HO.o.ay (a j u r));have HR:=zh (show Su m n (j6 c (k:Int)) (.returned (.tuple #[bP c.2[0] x y,.bool true]))by
   rw[UH zo (by simpa using l) q];exact⟨x,y,rfl,f.succ,d.succ⟩)
  unfold bP at HR;generalize dC c.2[0] x y=D at*
  clear p a f d
  go_enter func72,ntmps72
  go_wp2_with (first
   |refine aj dU rfl (.tmp 32) rfl rfl D hl HC.o ?_
   |refine aj dU rfl (.tmp 25) rfl rfl D hl HC.o ?_
   | refine aB dU rfl (.tmp 4) (.tmp 33) rfl (cs:=D.toArray) rfl rfl rfl qdY (fun u hu=>g u qdQ) HO.o.obj ?_)
  exact qgZ
 .have HR:=zh (show Su m n (j6 c (k:Int)) (.returned (.tuple #[bP (dB,dB) dR dR,.bool false]))by
   rw[QV (.inr ⟨by simpa using l,zo⟩)];exact⟨dR,dR,rfl,(bq.leaf m false).mono zo,(bq.leaf m false).mono zo⟩)
  go_enter func72,ntmps72
  go_wp2_with (refine aB dU rfl (.tmp 4) (.tmp 34) rfl (cs:=oz) rfl rfl rfl rfl zD HO.o.obj ?_)
  exact qgT
structure kQ (n:Nat) (v:Vl):Prop where
 snd:iQ n v
 fit:oq n v
 cnt:dA n v<=1048576
def Sy(n:Nat):Prop:=∀(v v':Vl) (s a:Sl) (m:Mem) (w:zW),m.ay w->dV m->bq m n s v->bq m n a v'->kQ n v->kQ n v'->zX 32 #[v.val s,v'.val a] w (.bool (tf (dz n v v')))
def Aq(n:Nat)(d:Vd):Prop:=kQ n d.1/\kQ n d.2
theorem Um{n:Nat}(H:Sy n)(d d':Vd)(x y x' y':Sl)(m:Mem)(w:zW)(T:m.ay w)(a:dV m)(L:bq m n x d.1)(K:bq m n y d.2)(r:bq m n x' d'.1)(q:bq m n y' d'.2)(C:Aq n d)(c:Aq n d'):
 zX 30 #[bP d x y,bP d' x' y'] w (.bool (tf (qi (dz n) d d'))):=by
 have A:=((Own.start T).al (dC d x y).toArray 35).al (dC d' x' y').toArray 35;simp only[bC]at A;have z:=zh (H d.1 d'.1 x x' m _ A.ay a L r C.1 c.1);have O:=zh (fun w' (h:m.ay w')=>H d.2 d'.2 y y' m w' h a K q C.2 c.2);have J:(bu d.1 x).length=9:=rfl;have F:(bu d.2 y).length=9:=rfl;have p:(bu d'.1 x').length=9:=rfl;have l:(bu d'.2 y').length=9:=rfl;have P:=zh qiv;have v:=zh qiU;have t:=zh (show qi (dz n) d d'↔dz n d.1 d'.1/\dz n d.2 d'.2 from Iff.rfl);have HO:=zh A;unfold Vl.val bP at*
 generalize bu d.1 x=N at*
 generalize bu d.2 y=M at*
 generalize dC d x y=D at*
 generalize bu d'.1 x'=N' at*
 generalize bu d'.2 y'=s at*
 generalize dC d' x' y'=W at*
 clear A L K r q C c a;have I:=HO.o.av.obj.sub (o:=0) (cs:=N) fun j u f=>by simpa using P.o.1 j u f
 have k:=HO.o.obj.sub (o:=0) (cs:=N') fun j u f=>by simpa using v.o.1 j u f
 refine au fun R hR=>?_
 go_enter func30,ntmps30
 by_cases i:dz n d.1 d'.1
 case neg=>
  have g:=z.o;rw[aF i]at g;have z:=zh g;have HX:=zh (show ¬qi (dz n) d d' from fun h=>i (t.o.1 h).1);clear g O i t
  go_wp2_with (first|refine aj kK rfl (.tmp 5) rfl rfl N J I ?_|refine aj kK rfl (.tmp 7) rfl rfl N' p k ?_|(go_at_call 32;refine z.o.mono ?_;rintro e Q ⟨rfl,hb1⟩))
  exact qh3
 have g:=z.o;rw[aM i]at g;have G:=zh g;have HX:=zh (dY (show dz n d.2 d'.2↔qi (dz n) d d' from⟨fun h=>t.o.2 ⟨i,h⟩,fun h=>(t.o.1 h).2⟩));clear g z i t;generalize tf (dz n d.2 d'.2)=V at*
 go_wp2_with (first
  |refine aj kK rfl (.tmp 5) rfl rfl N J I ?_
  |refine aj kK rfl (.tmp 7) rfl rfl N' p k ?_
  |refine aj kK rfl (.tmp 11) rfl rfl M F S ?_
  |refine aj kK rfl (.tmp 13) rfl rfl s l B ?_
  | (go_at_call 32;first
   |(refine(O.o _ b.ay).mono ?_;rintro e U ⟨rfl,E⟩)
   | (refine G.o.mono ?_;rintro e Q ⟨rfl,hb1⟩;have b:=HO.o.aS hb1;have S:=b.av.obj.sub (o:=9) (cs:=M) (fun j u f=>by simpa using P.o.2 j u f);have B:=b.obj.sub (o:=9) (cs:=s) (fun j u f=>by simpa using v.o.2 j u f))))
 exact hR.o _ _ ⟨aR qeC,(b.aS E).az⟩
theorem bzi{b:Lc}{i:Nat}(h:¬(b.2.length=0/\b.1.length<=i)):(j6 b i).1∈aY b:=by
 rcases mY b i with⟨h,e⟩|⟨_,h,e⟩|⟨c,a⟩
 .rw[e];exact mU h
 .rw[e];exact mE h
 .exact absurd ⟨a,c⟩ h
theorem Ou{n:Nat}(H:Sy n)(a b:Lc)(u u2 u' Z:zV)(m:Mem)(w:zW)(hm:m.ay w)(G:dV m)(h1:bG (bq m n) m u a.1)(h2:bG (bq m n) m u2 a.2)(I:bG (bq m n) m u' b.1)(M':bG (bq m n) m Z b.2)(ka:∀d∈aY a,Aq n d)(kb:∀d∈aY b,Aq n d):
 zX 50 #[.agg #[u,u2],.agg #[u',Z]] w (.bool (tf (AV (dz n) a b))):=by
 have S:=zh (fun(i:Nat) w' (h:m.ay w')=>Pz u' Z b i m n w' h I M');obtain⟨a1,c1,rfl,p1,q1,L⟩:=h1;obtain⟨a2,c2,rfl,p2,q2,K⟩:=h2;obtain⟨b1,d1,rfl,p1',q1',k1'⟩:=I;obtain⟨b2,d2,rfl,p2',q2',z'⟩:=M';unfold maxLen at q1 q2 q1' q2';have HK:=zh (zi L (zi K z'));have W:=zh (zi ka (zi kb G));have HL:=zh (dzk (c:=dz n) (a:=a) (b:=b));have v:=zh (fun d d' x y C B w' (h:m.ay w') L K k3 k4 k5 k6=>Um H d d' x y C B m w' h G L K k3 k4 k5 k6);have t:=((Own.start hm).al #[.slice a1 a.1.length c1,.slice a2 a.2.length c2] 50).al #[.slice b1 b.1.length d1,.slice b2 b.2.length d2] 50;simp only[bC]at t;have HO:=zh t;have HX:=zh (show ∃A:Prop,(A↔a.1.length<b.1.length\/(b.2.length=0/\(b.1.length<a.1.length\/0<a.2.length)))/\(A->¬AV (dz n) a b) from⟨_,Iff.rfl,fun h k=>by
  have:=HL.o.1 k;rcases h with h|h
  .exact this.1 h
  .exact this.2.1 h⟩)
 clear t L K k1' z' ka kb G;obtain⟨A,I',H'⟩:=HX.o;have f:=zh (zi I' H');clear HX I' H';refine au fun R hR=>?_
 go_enter func50,ntmps50
 have g0:=HO.o.av.obj.c 0;have g1:=HO.o.av.obj.c 1;have g2:=HO.o.obj.c 0;have g3:=HO.o.obj.c 1
 go_upto_region 2 with(fail)
 refine aV [2,3,39] (fun T w'=>T=[.pointer (some ⟨w.heap.size,0,none⟩),.pointer (some ⟨w.heap.size+1,0,none⟩),.bool (tf A)]/\Own w m w' m [.obj (w.heap.size+1) 50 #[.slice b1 b.1.length d1,.slice b2 b.2.length d2],.obj w.heap.size 50 #[.slice a1 a.1.length c1,.slice a2 a.2.length c2]]) ?_ ?_
 .intro Y hY;have U:=zh (fun(h:a.1.length<b.1.length\/(b.2.length=0/\(b.1.length<a.1.length\/0<a.2.length)))=>aM (f.o.1.2 h));have F:=zh (fun(h:¬(a.1.length<b.1.length\/(b.2.length=0/\(b.1.length<a.1.length\/0<a.2.length))))=>aF (fun k=>h (f.o.1.1 k)));clear f HL HK W v S hR;generalize a.1.length=l1 at*
  generalize a.2.length=l2 at*
  generalize b.1.length=l3 at*
  generalize b.2.length=l4 at*
  generalize tf A=bad at*
  by_cases e1:l1<l3
  .obtain rfl:=U.o (.inl e1);clear U F;by_cases e2:l4=0
   .subst e2;exact qbh
   .have hd:decide ((l4:Int) > 0)=true:=zN zo;exact qbh
  by_cases e2:l4=0
  .subst e2;by_cases e3:l3<l1
   .obtain rfl:=U.o (.inr ⟨rfl,.inl e3⟩);clear U F;exact qbh
   by_cases e4:l2=0
   .subst e4;obtain rfl:=F.o zo;clear U F;exact qbh
   .obtain rfl:=U.o (.inr ⟨rfl,.inr zo⟩);have hd:decide (0<l2)=true:=zN zo;clear U F;exact qbh
  .obtain rfl:=F.o zo;have hd:decide ((l4:Int) > 0)=true:=zN zo;clear U F;exact qbh
 clear g0 g1 g2 g3 HO;rintro z T w1-⟨rfl,t⟩;simp[bB,lk];have HO:=zh t;clear t;by_cases g:A
 .have HX:=zh (f.o.2 g);rw[aM g];have HB2:=zh HO.o.az;clear HO f g;go_wp2;exact hR.o _ _ ⟨aR (by rw[aF HX.o]),HB2.o⟩
 have HS:=zh (show ¬(a.1.length<b.1.length\/(b.2.length=0/\(b.1.length<a.1.length\/0<a.2.length))) from fun h=>g (f.o.1.2 h));have HI:=zh (show AV (dz n) a b↔(∀i (h:i<a.1.length),qi (dz n) a.1[i] (j6 b i).1)/\∀(ha:0<a.2.length) (hb:0<b.2.length),qi (dz n) a.2[0] b.2[0] from
  ⟨fun h=>(HL.o.1 h).2.2,fun h=>HL.o.2 ⟨fun k=>HS.o (.inl k),fun k=>HS.o (.inr k),h⟩⟩)
 rw[aF g];clear f g HL;have g0:=HO.o.av.obj.c 0;have g1:=HO.o.av.obj.lt;go_wp2;refine aC [2,3,41,42,43] (fun q T wr=>∃(i:Nat),i<=a.1.length/\q=a.1.length-i/\T=[.pointer (some ⟨w.heap.size,0,none⟩),.pointer (some ⟨w.heap.size+1,0,none⟩),.slice a1 a.1.length c1,.int .i64 (a.1.length:Int),.int .i64 (i:Int)]/\(∀j (hj:j<a.1.length),j<i->qi (dz n) a.1[j] (j6 b j).1) /\
  Own w m wr m [.obj (w.heap.size+1) 50 #[.slice b1 b.1.length d1,.slice b2 b.2.length d2],.obj w.heap.size 50 #[.slice a1 a.1.length c1,.slice a2 a.2.length c2]]) ?_ ?_
 .exact qau
 clear HO g0 g1;rintro X z q T wr hX-⟨i,hi,rfl,rfl,hA,t⟩;simp[bB,lk];have HA:=zh hA;clear hA;by_cases hlt:i<a.1.length
 .obtain⟨bb,off,rfl,h4⟩:=HK.o.1 qdP;obtain⟨x,y,hc,hx,hy⟩:=(h4 i hlt).cells;have hcl:=Mem_cell_lt t.ay (hc 0 _ rfl);have HC:=zh (fun j u hj=>Mem_cell_w t.ay (hc j u hj));have h1:=fZ hx hy;have hl:(dC a.1[i] x y).length=18:=rfl;have M:=W.o.2.1 _ (bzi (b:=b) (i:=i) (fun h=>HS.o (.inr ⟨h.1,.inl zo⟩)));have E':=W.o.1 _ (mU hlt);have Q:=zh (fun C B w' (h:m.ay w') (L:bq m (n+1) C (j6 b i).1.1) (K:bq m (n+1) B (j6 b i).1.2)=>v.o a.1[i] (j6 b i).1 x y C B w' h hx hy (L.low M.1.snd.ht) (K.low M.2.snd.ht) E' M);have i':=zh (fun w' (h:m.ay w')=>S.o i w' h);have F:=zh (show qi (dz n) a.1[i] (j6 b i).1->∀j (hj:j<a.1.length),j<i+1->qi (dz n) a.1[j] (j6 b j).1 from fun h j hj h3=>by
   by_cases e:j=i
   .exact qbV
   .exact HA.o j hj zo)
  have HZ:=zh (show ¬qi (dz n) a.1[i] (j6 b i).1->¬AV (dz n) a b from fun h k=>h ((HI.o.1 k).1 i hlt));have HO:=zh (t.al oz 35);unfold bP at Q;generalize dC a.1[i] x y=D at*
  generalize j6 b (i:Int)=it at*
  obtain⟨dd,bo⟩:=it;simp only at Q F HZ i';clear t h4 hc hx hy HA HI E' M v S W
  go_wp2_with (first
   |refine aj dU rfl (.tmp 46) rfl rfl D hl HC.o ?_
   |(refine aB dU rfl (.tmp 7) (.tmp 47) rfl (cs:=D.toArray) rfl rfl rfl qdY (fun u hu=>h1 u qdQ) HO.o.obj ?_;intro w2 v' F';have s:=HO.o.aW v' F';have y0:=s.av.obj.c 0;have y1:=s.av.obj.c 1;have y2:=s.av.obj.lt)
   | fail)
  refine(i'.o _ s.ay).mono ?_;rintro e w3 ⟨⟨C,B,rfl,L,K⟩,G'⟩;have hlD:(dC dd C B).length=18:=rfl;have I:=fZ L K;have V:=zh (fun w' h=>Q.o C B w' h L K);have P:=zh ((s.aS G').al oz 35);unfold bP;generalize dC dd C B=D' at*
  clear HO s G' Q i' L K v' F' y0 y1 y2 HC;by_cases hq:qi (dz n) a.1[i] dd
  .have HN2:=zh (F.o hq);have h':=zh (show ∀w',m.ay w'->_ from fun w' h=>by have:=V.o w' h;rw[aM hq]at this;exact this);clear F HZ V hq
   go_wp2_with (first
    |(refine aB dU rfl (.tmp 8) (.tmp 52) rfl (cs:=D'.toArray) rfl rfl rfl qes (fun u hu=>I u qdQ) P.o.obj ?_;intro w4 a' c';have l:=P.o.aW a' c';have q1:=l.av.obj.all;have q2:=l.obj.all)
    |refine aj dU rfl (.tmp 7) rfl rfl D hl q1 ?_
    |refine aj dU rfl (.tmp 8) rfl rfl D' hlD q2 ?_
    | (go_at_call 30;refine(h'.o _ l.ay).mono ?_;rintro e w5 ⟨rfl,g'⟩))
   exact hX.o _ _ _ zo rfl ⟨i+1,zo,rfl,rfl,HN2.o,(l.aS g').tail.tail⟩
  .have HZ2:=zh (HZ.o hq);have h':=zh (show ∀w',m.ay w'->_ from fun w' h=>by have:=V.o w' h;rw[aF hq]at this;exact this);clear F HZ V hq hX
   go_wp2_with (first
    |(refine aB dU rfl (.tmp 8) (.tmp 52) rfl (cs:=D'.toArray) rfl rfl rfl qes (fun u hu=>I u qdQ) P.o.obj ?_;intro w4 a' c';have l:=P.o.aW a' c';have q1:=l.av.obj.all;have q2:=l.obj.all)
    |refine aj dU rfl (.tmp 7) rfl rfl D hl q1 ?_
    |refine aj dU rfl (.tmp 8) rfl rfl D' hlD q2 ?_
    | (go_at_call 30;refine(h'.o _ l.ay).mono ?_;rintro e w5 ⟨rfl,g'⟩))
   exact hR.o _ _ ⟨aR (by rw[aF HZ2.o]),(l.aS g').az⟩
 obtain rfl:i=a.1.length:=zo;have J:=zh (show AV (dz n) a b↔∀(ha:0<a.2.length) (hb:0<b.2.length),qi (dz n) a.2[0] b.2[0] from HI.o.trans ⟨fun h=>h.2,fun h=>⟨fun j hj=>HA.o j hj hj,h⟩⟩);have HO:=zh t;clear t hX HA HI S;have g0:=HO.o.av.obj.c 1;have g1:=HO.o.av.obj.lt;by_cases e0:a.2.length=0
 .have HT:=zh (J.o.2 fun ha=>zo);have j':=zh HO.o;clear J HO v W HK HS;generalize a.2.length=l2 at*
  subst e0;go_wp2
  go_quiet (fail)
  go_wp2;exact hR.o _ _ ⟨aR (by rw[aM HT.o]),(j'.o.Fa _).az⟩
 have N:0<b.2.length:=by
  rcases Nat.eq_zero_or_pos b.2.length with e|e
  .exact absurd (.inr ⟨e,.inr zo⟩) HS.o
  .exact e
 have O:0<a.2.length:=zo;obtain⟨ba,oa,rfl,h4⟩:=HK.o.2.1 (by intro h;simp[h]at O);obtain⟨x,y,hc,hx,hy⟩:=(h4 0 O).cells;obtain⟨bb,ob,rfl,K'⟩:=HK.o.2.2 (by intro h;simp[h]at N);obtain⟨C,B,e',B',A'⟩:=(K' 0 N).cells;simp only[Nat.zero_mul,Nat.add_zero]at hc e';have hl:(dC a.2[0] x y).length=18:=rfl;have hl':(dC b.2[0] C B).length=18:=rfl;have HC:=zh (zi (fun(w':zW) (h:m.ay w') j u hj=>Mem_cell_w h (hc j u hj)) (fun(w':zW) (h:m.ay w') j u hj=>Mem_cell_w h (e' j u hj)));have V:=zh (fun w' (h:m.ay w')=>v.o a.2[0] b.2[0] x y C B w' h hx hy B' A' (W.o.1 _ (mE O)) (W.o.2.1 _ (mE N)));have HT:=zh (show tf (qi (dz n) a.2[0] b.2[0])=tf (AV (dz n) a b) from dY ⟨fun h=>J.o.2 fun _ _=>h,fun h=>J.o.1 h O N⟩);unfold bP at V;generalize dC a.2[0] x y=D at*
 generalize dC b.2[0] C B=D' at*
 generalize tf (qi (dz n) a.2[0] b.2[0])=r at*
 have hd:((a.2.length:Int)==0)=false:=zO.2 zo;clear h4 K' hc e' hx hy B' A' J v W HK HS g0 g1;generalize a.2.length=l2 at*
 generalize b.2.length=l4 at*
 generalize a.1.length=l1 at*
 generalize b.1.length=l3 at*
 go_upto_region 11 with(fail)
 refine aV [4] (fun T w'=>T=[.bool r]/\zB w w') ?_ ?_
 .intro Y hY;refine bF 15 6 (fun j=>[aI.is (·=.pointer (some ⟨w.heap.size,1,none⟩)),aI.is (·=.slice (some ⟨ba,oa,none⟩) l2 c2),aI.is (·=.int .i64 (l2:Nat)),aI.is (·=.bool false),aI.is (·=.bool false),aI.is (·=.pointer (some ⟨w.heap.size,1,none⟩)),aI.is (·=.slice (some ⟨ba,oa,none⟩) l2 c2),aI.is (·=.pointer (some ⟨ba,oa,none⟩)),aI.is (·=.agg D.toArray),aI.is (·=.pointer (some ⟨w.heap.size+1,1,none⟩)),aI.is (·=.slice (some ⟨bb,ob,none⟩) l4 d2),aI.is (·=.pointer (some ⟨bb,ob,none⟩)),aI.is (·=.agg D'.toArray),aI.is (·=.bool r),aI.is (·=.bool r)].getD j aI.any) zk zk ?_ ?_
  .intro i hi o win a wr ho RA;have p:=HO.o.dr.aS RA.az;have y1:=p.obj.c 1;have y2:=p.av.obj.c 1;have y3:=p.obj.lt;have y4:=p.av.obj.lt;rcases(show i=0\/i=1\/i=2\/i=3\/i=4\/i=5\/i=6\/i=7\/i=8\/i=9\/i=10\/i=11\/i=12\/i=13\/i=14 by omega)with rfl|rfl|rfl|rfl|rfl|rfl|rfl|rfl|rfl|rfl|rfl|rfl|rfl|rfl|rfl
   .have e2:=RA.k 2;exact qaa
   .have e59:zt a 59 _:=RA.d 0 rfl;exact qaa
   .have e60:zt a 60 _:=RA.d 1 rfl;exact qaa
   .have e61:zt a 61 _:=RA.d 2 rfl;exact qaa
   .have e62:zt a 62 _:=RA.d 3 rfl;exact qaa
   .have e2:=RA.k 2;exact qaM
   .have e64:zt a 64 _:=RA.d 5 rfl;exact qaM
   .have e65:zt a 65 _:=RA.d 6 rfl;exact qhe
   .have e66:zt a 66 _:=RA.d 7 rfl;have e63:zt a 63 _:=RA.d 4 rfl;cases ho;refine fH rfl (eX rfl rfl e63) (aO (dU.exec rfl zg hl (HC.o.1 _ p.ay)) ⟨_,rfl,zR _ _,rfl⟩)
   .have e3:=RA.k 3;exact qaM
   .have e68:zt a 68 _:=RA.d 9 rfl;exact qaM
   .have e69:zt a 69 _:=RA.d 10 rfl;exact qhe
   .have e70:zt a 70 _:=RA.d 11 rfl;have e63:zt a 63 _:=RA.d 4 rfl;cases ho;refine fH rfl (eX rfl rfl e63) (aO (dU.exec rfl zg hl' (HC.o.2 _ p.ay)) ⟨_,rfl,zR _ _,rfl⟩)
   .have e67:zt a 67 _:=RA.d 8 rfl;have e71:zt a 71 _:=RA.d 12 rfl;have e63:zt a 63 _:=RA.d 4 rfl;cases ho;refine we2 rfl rfl rfl e63 (V.o _ p.ay) ?_;exact qab
   .have e63:zt a 63 _:=RA.d 4 rfl;have e72:zt a 72 _:=RA.d 13 rfl;exact qaa
  .intro win a wr E;have e73:a.tmps.getD 73 undef=.bool r:=E.fact 14 _ zo rfl;have hZ:=HO.o.dr.aS E.az;obtain⟨t1,d⟩:=a;obtain rfl:d=[]:=E.defers;refine dX 15 zk (aJ rfl rfl (aO qdV ?_));refine dx zk (hY.o _ _ qeR ⟨?_,hZ.az⟩) _;have C':t1.size=74:=E.size;simp[C']at e73;simp[C']
 clear HO HC V;rintro z1 T w3-⟨rfl,hb⟩;simp[bB,lk];have j':=zh hb;clear hb;go_wp2;exact hR.o _ _ ⟨aR HT.o,j'.o⟩
theorem MQ{α:Type}{p q:α->Bool}:∀{l:List α},(∀x∈l,p x=q x)->l.find? p=l.find? q
 |[],_=>rfl
 |x::l,h=>by rw[List.find?_cons,List.find?_cons,MQ fun y hy=>h y qei,h x zS]
theorem Pw{c:St}(h:bH c)(s:ByteArray):qY (Ef s) c s=iw c s:=by
 unfold iw qY;rw[MQ (p:=fun k:Kl=>Ef s k.1) (q:=fun k:Kl=>Sem k.1 s.data.toList) fun k hk=>by
  have:=(h.sets k hk).1;rw[dn this];unfold Ef;rw[aM this.wf];rfl]
def Ma(n:Nat)(a b:St)(f:Fd):Prop:=(iw a f.1.1).2<=(iw b f.1.1).2/\qi (dz n) (iw a f.1.1).1 (iw b f.1.1).1
def p9(n:Nat)(x y:Kl):Prop:=qi (dz n) x.2 y.2\/∀w,¬(Sem x.1 w=true/\Sem y.1 w=true)
theorem XP(n:Nat)(a b:St):AJ (dz n) a b↔((∀f∈a.1,Ma n a b f)/\∀f∈b.1,Ma n a b f)/\∀x∈a.2,∀y∈b.2,p9 n x y:=
 ⟨fun h=>⟨⟨fun f c=>h.fields f (.inl c),fun f c=>h.fields f (.inr c)⟩,h.classes⟩,fun h=>⟨fun f c=>c.elim (h.1.1 f) (h.1.2 f),h.2⟩⟩
theorem Ii{n:Nat}(H:Sy n)(a b:St)(u u2 u' T':zV)(m:Mem)(w:zW)(hm:m.ay w)(l':dV m)(N:gN (bq m n) m u a.1)(h2:gP (bq m n) m u2 a.2)(h1':gN (bq m n) m u' b.1)(h2':gP (bq m n) m T' b.2)(ca:bH a)(cb:bH b)(fa:∀k∈a.2,k.1.length<=729)(fb:∀k∈b.2,k.1.length<=729)(ka:∀d∈bN a,Aq n d)(kb:∀d∈bN b,Aq n d):
 zX 52 #[.agg #[u,u2],.agg #[u',T']] w (.bool (tf (AJ (dz n) a b))):=by
 have HV:=zh (zi (fun s w' (h:m.ay w') hs=>FM u u2 a s m n w' h N h2 hs) (fun s w' (h:m.ay w') hs=>FM u' T' b s m n w' h h1' h2' hs));have HLE:=zh (fun d d' x y G F w' (h:m.ay w') T S k3 k4 k5 k6=>Um H d d' x y G F m w' h l' T S k3 k4 k5 k6);have HFA:=zh N;obtain⟨a1,c1,rfl,p1,q1,T⟩:=N;obtain⟨a2,c2,rfl,p2,Q,S⟩:=h2;obtain⟨b1,d1,rfl,p1',q1',k1'⟩:=h1';obtain⟨b2,d2,rfl,p2',q2',k2'⟩:=h2';unfold maxLen at q1 Q q1' q2';have HF:=zh (show ∀k,k<2->∃(t:List Fd) (ad:Option Addr) (cc:Nat),(#[.slice a1 a.1.length a.1.length,.slice b1 b.1.length d1]:Array Value)[k]?=some (.slice ad t.length cc)/\t.length<=cc/\cc<=2 ^ 63-1/\(t≠[]->∃bb off,ad=some ⟨bb,off,none⟩/\∀i (h':i<t.length),Ky (bq m n) m bb (off+i*20) t[i])/\t=if k=0 then a.1 else b.1 from fun k h=>by
  match k,h with
  |0,_=>exact⟨a.1,a1,a.1.length,rfl,zI _,zo,T,rfl⟩
  | 1,_=>exact⟨b.1,b1,d1,rfl,p1',q1',k1',rfl⟩)
 have HK:=zh (zi S k2');have HB:=zh (zi (zi ka kb) (zi l' (zi (zi ca cb) (zi fa fb))));have HP:=zh (XP n a b);have p:=((Own.start hm).al #[.slice a1 a.1.length c1,.slice a2 a.2.length c2] 62).al #[.slice b1 b.1.length d1,.slice b2 b.2.length d2] 62;simp only[bC]at p;have HO:=zh p;clear p T S k1' k2' ka kb l' ca cb fa fb;refine au fun R hR=>?_
 go_enter func52,ntmps52
 have g0:=HO.o.av.obj.c 0;have g2:=HO.o.obj.c 0;have gl:=HO.o.av.obj.lt;have gl2:=HO.o.obj.lt
 go_upto_region 1 with(fail)
 refine aV [2,3,28,29,30] (fun vs w'=>∃q,vs=[.pointer (some ⟨w.heap.size,0,none⟩),.pointer (some ⟨w.heap.size+1,0,none⟩),.slice (some ⟨q,0,none⟩) 2 2,.int .i64 2,.int .i64 0]/\Own w m w' m [.obj q 59 #[.slice a1 a.1.length a.1.length,.slice b1 b.1.length d1],.obj (w.heap.size+1) 62 #[.slice b1 b.1.length d1,.slice b2 b.2.length d2],.obj w.heap.size 62 #[.slice a1 a.1.length c1,.slice a2 a.2.length c2]]) ?_ ?_
 .intro Y hY;clear HF HK HB HP HV HLE HFA hR;generalize a.1.length=l1 at*
  generalize a.2.length=l2 at*
  generalize b.1.length=l3 at*
  generalize b.2.length=l4 at*
  go_region
  exact hY.o _ _ rfl ⟨_,rfl,by simpa only[bC]using(HO.o.al #[.slice a1 l1 l1,.slice b1 l3 d1] 59).dr⟩
 clear HO g0 g2 gl gl2;rintro z vs w1-⟨g,rfl,p⟩;simp[bB,lk];have HO:=zh p;clear p HFA;go_wp2;refine aC [2,3,28,29,30] (fun q vs wr=>∃(k:Nat),k<=2/\q=2-k/\vs=[.pointer (some ⟨w.heap.size,0,none⟩),.pointer (some ⟨w.heap.size+1,0,none⟩),.slice (some ⟨g,0,none⟩) 2 2,.int .i64 2,.int .i64 (k:Int)]/\(∀k'<k,∀f∈(if k'=0 then a.1 else b.1),Ma n a b f) /\
  Own w m wr m [.obj g 59 #[.slice a1 a.1.length a.1.length,.slice b1 b.1.length d1],.obj (w.heap.size+1) 62 #[.slice b1 b.1.length d1,.slice b2 b.2.length d2],.obj w.heap.size 62 #[.slice a1 a.1.length c1,.slice a2 a.2.length c2]]) ?_ ?_
 .exact⟨_,0,zo,rfl,rfl,fun k' h=>absurd h (xY _),HO.o⟩
 clear HO;rintro X z q vs wr hX-⟨k,hk,rfl,rfl,hA,p⟩;simp[bB,lk];have O:=zh hA;clear hA;by_cases hlt:k<2
 .skip
  obtain⟨t,ad,cc,e1,e2,e3,e4,e5⟩:=HF.o k hlt;have g0:=p.obj.cell e1;have g1:=p.obj.lt;have HE:=zh (zi e4 e5);have HO:=zh p;clear p e1 e4 e5;go_wp2;refine aC [2,3,28,29,30,34,35,36] (fun q vs wr=>∃(i:Nat),i<=t.length/\q=t.length-i/\vs=[.pointer (some ⟨w.heap.size,0,none⟩),.pointer (some ⟨w.heap.size+1,0,none⟩),.slice (some ⟨g,0,none⟩) 2 2,.int .i64 2,.int .i64 (k:Int),.slice ad t.length cc,.int .i64 (t.length:Int),.int .i64 (i:Int)]/\(∀j (hj:j<t.length),j<i->Ma n a b t[j]) /\
   Own w m wr m [.obj g 59 #[.slice a1 a.1.length a.1.length,.slice b1 b.1.length d1],.obj (w.heap.size+1) 62 #[.slice b1 b.1.length d1,.slice b2 b.2.length d2],.obj w.heap.size 62 #[.slice a1 a.1.length c1,.slice a2 a.2.length c2]]) ?_ ?_
  .exact qau
  clear HO g0 g1;rintro X2 z2 Q vs2 wi J-⟨i,hi,rfl,rfl,hA2,p⟩;simp[bB,lk];have K':=zh hA2;clear hA2;by_cases F':i<t.length
  case neg=>
   have HD:=zh (show ∀k'<k+1,∀f∈(if k'=0 then a.1 else b.1),Ma n a b f from fun k' h f hf=>by
    by_cases e:k'=k
    .subst e;rw[<-HE.o.2]at hf;obtain⟨j,hj,rfl⟩:=yX hf;exact K'.o j hj zo
    .exact O.o k' zo f hf)
   have HO:=zh p;clear p O K' HE J;go_wp2;exact hX.o _ _ _ zo rfl ⟨k+1,zo,rfl,rfl,HD.o,HO.o⟩
  obtain⟨bb,off,rfl,h4⟩:=HE.o.1 (by intro h;simp[h]at F');have W':=(h4 i F').sz;obtain⟨x,y,U,hx,hy⟩:=(h4 i F').cells;have hcl:=Mem_cell_lt p.ay (U 0 _ rfl);have HC:=zh (fun j u hj=>Mem_cell_w p.ay (U j u hj));have N:=mV hx hy;have hl:(qI t[i] x y).length=20:=rfl;have H0:(qI t[i] x y).toArray[0]?=some (.string t[i].1.1):=rfl;have V:=zh (show Ma n a b t[i]->∀j (hj:j<t.length),j<i+1->Ma n a b t[j] from fun h j hj h3=>by
   by_cases e:j=i
   .exact qbV
   .exact K'.o j hj zo)
  have HZ:=zh (show ¬Ma n a b t[i]->¬AJ (dz n) a b from fun h k'=>by
   have E':t[i]∈(if k=0 then a.1 else b.1):=by rw[<-HE.o.2];exact zF F'
   have:=HP.o.1 k';by_cases e:k=0
   .rw[zK e]at E';exact h (this.1.1 _ E')
   .rw[zJ e]at E';exact h (this.1.2 _ E'))
  have Z:=zh (zi (fun w' h=>HV.o.1 t[i].1.1 w' h W') (fun w' h=>HV.o.2 t[i].1.1 w' h W'));unfold Ma at V HZ;have ca:=HB.o.2.2.1.1;have cb:=HB.o.2.2.1.2;rw[Pw ca,Pw cb]at Z;have m1:=HB.o.1.1 _ (nP ca t[i].1.1);have m2:=HB.o.1.2 _ (nP cb t[i].1.1);have HLQ:=zh (fun x y G F w' (h:m.ay w') (T:bq m (n+1) x (iw a t[i].1.1).1.1) (S:bq m (n+1) y (iw a t[i].1.1).1.2) (k3:bq m (n+1) G (iw b t[i].1.1).1.1) (k4:bq m (n+1) F (iw b t[i].1.1).1.2)=>HLE.o _ _ x y G F w' h (T.low m1.1.snd.ht) (S.low m1.2.snd.ht) (k3.low m2.1.snd.ht) (k4.low m2.2.snd.ht) m1 m2);have HO:=zh (p.al SG 82);generalize qI t[i] x y=M at*
  generalize iw a t[i].1.1=va at*
  generalize iw b t[i].1.1=vb at*
  generalize t[i].1.1=lab at*
  obtain⟨da,pa⟩:=va;obtain⟨db,pb⟩:=vb;unfold Si at Z;simp only at Z HLQ V HZ;clear p h4 U hx hy O K' HE ca cb m1 m2 W'
  go_wp2_with (first
   |refine aj uh rfl (.tmp 38) rfl rfl M hl HC.o ?_
   |(refine aB uh rfl (.tmp 8) (.tmp 39) rfl (cs:=M.toArray) rfl rfl rfl qdY (fun u hu=>N u qdQ) HO.o.obj ?_;intro w2 B E;have l:=HO.o.aW B E;have y0:=l.bR.obj.c 0;have y1:=l.bR.obj.c 1;have y2:=l.bR.obj.lt;have y3:=l.obj.cell H0;have y4:=l.obj.lt)
   | fail)
  refine(Z.o.1 _ l.ay).mono ?_;rintro e w3 ⟨⟨x,y,rfl,T,S⟩,hb3⟩;have hlD:(dC da x y).length=18:=rfl;have h1d:=fZ T S;have HQ1:=zh (fun G F w' h=>HLQ.o x y G F w' h T S);have p':=zh ((l.aS hb3).al oz 35);unfold bP at HQ1⊢;generalize dC da x y=D at*
  clear HO l hb3 HLQ T S B E y0 y1 y2 y3 y4 HC N
  go_wp2_with (first
   |(refine aB dU rfl (.tmp 9) (.tmp 45) rfl (cs:=D.toArray) rfl rfl rfl qes (fun u hu=>h1d u qdQ) p'.o.obj ?_;intro w4 ob4 hg4;have L:=p'.o.aW ob4 hg4;have y0:=L.bR.obj.c 0;have y1:=L.bR.obj.c 1;have y2:=L.bR.obj.lt;have y3:=L.av.obj.cell H0;have y4:=L.av.obj.lt)
   | fail)
  refine(Z.o.2 _ L.ay).mono ?_;rintro e w5 ⟨⟨G,F,rfl,T,S⟩,hb5⟩;have hlD':(dC db G F).length=18:=rfl;have o':=fZ T S;have HQ:=zh (fun w' h=>HQ1.o G F w' h T S);have a':=zh ((L.aS hb5).al oz 35);unfold bP;generalize dC db G F=D' at*
  clear p' L hb5 HQ1 T S ob4 hg4 y0 y1 y2 y3 y4 Z h1d;by_cases hp:pb<pa
  .have HZ2:=zh (HZ.o fun h=>absurd h.1 zo);clear HZ V HQ J hX
   go_wp2_with (first
    | (refine aB dU rfl (.tmp 11) (.tmp 52) rfl (cs:=D'.toArray) rfl rfl rfl qeW (fun u hu=>o' u qdQ) a'.o.obj ?_;intro w6 j' n';have A:=a'.o.aW j' n';have q1:=A.av.obj.all;have Q:=A.obj.all))
   exact hR.o _ _ ⟨aR (by rw[aF HZ2.o]),A.az⟩
  have hd:decide (pb<pa)=false:=zM hp;by_cases hq:qi (dz n) da db
  .have HN2:=zh (V.o ⟨zo,hq⟩);have K:=zh (show ∀w',m.ay w'->_ from fun w' h=>by have:=HQ.o w' h;rw[aM hq]at this;exact this);clear V HZ HQ hq
   go_wp2_with (first
    |(refine aB dU rfl (.tmp 11) (.tmp 52) rfl (cs:=D'.toArray) rfl rfl rfl qeW (fun u hu=>o' u qdQ) a'.o.obj ?_;intro w6 j' n';have A:=a'.o.aW j' n';have q1:=A.av.obj.all;have Q:=A.obj.all)
    |refine aj dU rfl (.tmp 9) rfl rfl D hlD q1 ?_
    |refine aj dU rfl (.tmp 11) rfl rfl D' hlD' Q ?_
    | (go_at_call 30;refine(K.o _ A.ay).mono ?_;rintro e w7 ⟨rfl,I⟩))
   exact J.o _ _ _ zo rfl ⟨i+1,zo,rfl,rfl,HN2.o,(A.aS I).tail.tail.tail⟩
  .have HZ2:=zh (HZ.o fun h=>hq h.2);have K:=zh (show ∀w',m.ay w'->_ from fun w' h=>by have:=HQ.o w' h;rw[aF hq]at this;exact this);clear V HZ HQ hq J hX
   go_wp2_with (first
    |(refine aB dU rfl (.tmp 11) (.tmp 52) rfl (cs:=D'.toArray) rfl rfl rfl qeW (fun u hu=>o' u qdQ) a'.o.obj ?_;intro w6 j' n';have A:=a'.o.aW j' n';have q1:=A.av.obj.all;have Q:=A.obj.all)
    |refine aj dU rfl (.tmp 9) rfl rfl D hlD q1 ?_
    |refine aj dU rfl (.tmp 11) rfl rfl D' hlD' Q ?_
    | (go_at_call 30;refine(K.o _ A.ay).mono ?_;rintro e w7 ⟨rfl,I⟩))
   exact hR.o _ _ ⟨aR (by rw[aF HZ2.o]),(A.aS I).az⟩
 obtain rfl:k=2:=zo;have HFD:=zh (show AJ (dz n) a b↔∀x∈a.2,∀y∈b.2,p9 n x y from HP.o.trans ⟨fun h=>h.2,fun h=>⟨⟨fun f hf=>O.o 0 zo f hf,fun f hf=>O.o 1 zo f hf⟩,h⟩⟩);have HO:=zh p.tail;clear p hX O HF HP HV;have g0:=HO.o.av.obj.c 1;have g1:=HO.o.av.obj.lt;go_wp2;refine aC [2,3,66,67,68] (fun q vs wr=>∃(i:Nat),i<=a.2.length/\q=a.2.length-i/\vs=[.pointer (some ⟨w.heap.size,0,none⟩),.pointer (some ⟨w.heap.size+1,0,none⟩),.slice a2 a.2.length c2,.int .i64 (a.2.length:Int),.int .i64 (i:Int)]/\(∀j (hj:j<a.2.length),j<i->∀y∈b.2,p9 n a.2[j] y) /\
  Own w m wr m [.obj (w.heap.size+1) 62 #[.slice b1 b.1.length d1,.slice b2 b.2.length d2],.obj w.heap.size 62 #[.slice a1 a.1.length c1,.slice a2 a.2.length c2]]) ?_ ?_
 .exact qau
 clear HO g0 g1 hlt hk;rintro X z q vs wr hX-⟨i,hi,rfl,rfl,hA,p⟩;simp[bB,lk];have O:=zh hA;clear hA;by_cases hlt:i<a.2.length
 case neg=>
  have HT:=zh (HFD.o.2 fun x hx=>by obtain⟨j,hj,rfl⟩:=yX hx;exact O.o j hj zo);have HBB:=zh p.az;clear p hX O;go_wp2;exact hR.o _ _ ⟨aR (by rw[aM HT.o]),HBB.o⟩
 obtain⟨bb,off,rfl,h4⟩:=HK.o.1 qdP;obtain⟨kc,x,y,Y',U,hx,hy⟩:=(h4 i hlt).cells;have hcl:=Mem_cell_lt p.ay (U 0 _ rfl);have HC:=zh (fun j u hj=>Mem_cell_w p.ay (U j u hj));have N:=nU Y' hx hy;have hl:(ow a.2[i] kc x y).length=19:=rfl;have hlD:(dC a.2[i].2 x y).length=18:=rfl;have H0:(ow a.2[i] kc x y).toArray[0]?=some kc:=rfl;have HSU:=zh (fun j u=>@kZ a.2[i] kc x y j u);have v:=zF hlt;have HXI:=zh (zi (HB.o.2.2.2.1 _ v) Y');have HQX:=zh (fun(d':Vd) G F w' (h:m.ay w') k3 k4 k6=>HLE.o a.2[i].2 d' x y G F w' h hx hy k3 k4 (HB.o.1.1 _ (yP.2 (.inr (yD.2 ⟨_,v,rfl⟩)))) k6);unfold bP at HQX;have HNX:=zh (show(∀y∈b.2,p9 n a.2[i] y)->∀j (hj:j<a.2.length),j<i+1->∀y∈b.2,p9 n a.2[j] y from fun h j hj h3=>by
  by_cases e:j=i
  .exact qbV
  .exact O.o j hj zo)
 have HZX:=zh (show ∀y∈b.2,¬p9 n a.2[i] y->¬AJ (dz n) a b from fun y hy h k=>h (HFD.o.1 k _ v _ hy));have HO:=zh (p.al SB 68);generalize ow a.2[i] kc x y=M at*
 generalize dC a.2[i].2 x y=D at*
 generalize a.2[i]=xi at*
 clear p h4 U hx hy O Y' v HFD
 go_wp2_with (first
  |refine aj sw rfl (.tmp 70) rfl rfl M hl HC.o ?_
  | (refine aB sw rfl (.tmp 14) (.tmp 71) rfl (cs:=M.toArray) rfl rfl rfl qdY (fun u hu=>N u qdQ) HO.o.obj ?_;intro w2 B E;have l:=HO.o.aW B E;have y1:=l.av.obj.c 1;have y2:=l.av.obj.lt))
 refine aC [2,3,14,66,67,68,73,74,75] (fun q vs wj=>∃(k:Nat),k<=b.2.length/\q=b.2.length-k/\vs=[.pointer (some ⟨w.heap.size,0,none⟩),.pointer (some ⟨w.heap.size+1,0,none⟩),.pointer (some ⟨wr.heap.size,0,none⟩),.slice (some ⟨bb,off,none⟩) a.2.length c2,.int .i64 (a.2.length:Int),.int .i64 (i:Int),.slice b2 b.2.length d2,.int .i64 (b.2.length:Int),.int .i64 (k:Int)]/\(∀j (hj:j<b.2.length),j<k->p9 n xi b.2[j]) /\
  Own w m wj m [.obj wr.heap.size 68 M.toArray,.obj (w.heap.size+1) 62 #[.slice b1 b.1.length d1,.slice b2 b.2.length d2],.obj w.heap.size 62 #[.slice a1 a.1.length c1,.slice (some ⟨bb,off,none⟩) a.2.length c2]]) ?_ ?_
 .exact⟨_,0,zG _,rfl,rfl,fun j hj h=>absurd h (xY _),l⟩
 clear HO l y1 y2 B E HC N;rintro X2 z2 Q vs2 wj J-⟨k,hk,rfl,rfl,hA,p⟩;simp[bB,lk];have O:=zh hA;clear hA;by_cases X':k<b.2.length
 case neg=>
  have V:=zh (HNX.o fun y hy=>by obtain⟨j,hj,rfl⟩:=yX hy;exact O.o j hj zo);have HO:=zh p.tail;clear p J O HNX HZX;go_wp2;exact hX.o _ _ _ zo rfl ⟨i+1,zo,rfl,rfl,V.o,HO.o⟩
 obtain⟨bb',off',rfl,h4⟩:=HK.o.2 (by intro h;simp[h]at X');obtain⟨W,G,F,m',U,V',U'⟩:=(h4 k X').cells;have hcl:=Mem_cell_lt p.ay (U 0 _ rfl);have HC:=zh (fun j u hj=>Mem_cell_w p.ay (U j u hj));have N:=nU m' V' U';have G':(ow b.2[k] W G F).length=19:=rfl;have hlD':(dC b.2[k].2 G F).length=18:=rfl;have H0':(ow b.2[k] W G F).toArray[0]?=some W:=rfl;have Q':=zh (fun j u=>@kZ b.2[k] W G F j u);have v:=zF X';have HQ:=zh (fun w' (h:m.ay w')=>HQX.o b.2[k].2 G F w' h V' U' (HB.o.1.2 _ (yP.2 (.inr (yD.2 ⟨_,v,rfl⟩)))));have HAN:=zh (fun w' (h:m.ay w')=>F4 kc W xi.1 b.2[k].1 m w' h HB.o.2.1 HXI.o.2 m' (.of HXI.o.1 (HB.o.2.2.2.2 _ v) zD));have q':=zh (show p9 n xi b.2[k]->∀j (hj:j<b.2.length),j<k+1->p9 n xi b.2[j] from fun h j hj h3=>by
  by_cases e:j=k
  .exact qbV
  .exact O.o j hj zo)
 have J':=zh (HZX.o _ v);have HO:=zh (p.al SB 68);unfold p9 at q' J';generalize ow b.2[k] W G F=M' at*
 generalize dC b.2[k].2 G F=D' at*
 generalize b.2[k]=yk at*
 clear p h4 U V' U' O m' v;by_cases e1:qi (dz n) xi.2 yk.2
 .have V:=zh (q'.o (.inl e1));have K:=zh (show ∀w',m.ay w'->_ from fun w' h=>by have:=HQ.o w' h;rw[aM e1]at this;exact this);clear q' J' HQ HAN e1
  go_wp2_with (first
  |refine aj sw rfl (.tmp 77) rfl rfl M' G' HC.o ?_
  |(refine aB sw rfl (.tmp 16) (.tmp 78) rfl (cs:=M'.toArray) rfl rfl rfl (by simpa using G') (fun u hu=>N u qdQ) HO.o.obj ?_;intro w2 B E;have l:=HO.o.aW B E;have q1:=l.av.obj.sub (o:=1) (cs:=D) (fun j u hj=>by simpa using HSU.o j u hj);have Q:=l.obj.sub (o:=1) (cs:=D') (fun j u hj=>by simpa using Q'.o j u hj))
  |refine aj dU rfl (.tmp 79) rfl rfl D hlD q1 ?_
  |refine aj dU rfl (.tmp 81) rfl rfl D' hlD' Q ?_
  | fail)
  refine(K.o _ l.ay).mono ?_;rintro e w7 ⟨rfl,I⟩;have p':=zh (l.aS I).tail;clear HO HC l q1 Q I K B E N;go_wp2;exact J.o _ _ _ zo rfl ⟨k+1,zo,rfl,rfl,V.o,p'.o⟩
 have K:=zh (show ∀w',m.ay w'->_ from fun w' h=>by have:=HQ.o w' h;rw[aF e1]at this;exact this);have HNE:=zh (show ∀C,dw (fun w=>Sem xi.1 w&&Sem yk.1 w) C->(C.length=0->∀j (hj:j<b.2.length),j<k+1->p9 n xi b.2[j])/\(¬C.length=0->¬AJ (dz n) a b) from fun C hC=>by
  have U:C=[]↔∀w,¬(Sem xi.1 w=true/\Sem yk.1 w=true):=(Wx hC).trans ⟨fun h w hw=>by have:=h w;simp[hw.1,hw.2]at this,fun h w=>by
   cases N:Sem xi.1 w<;>cases h2:Sem yk.1 w<;>simp;exact h w ⟨N,h2⟩⟩
  exact⟨fun h=>q'.o (.inr (U.1 (xJ.1 h))),fun h=>J'.o fun k=>k.elim e1 fun k=>h (xJ.2 (U.2 k))⟩)
 clear q' J' HQ e1
 go_wp2_with (first
  |refine aj sw rfl (.tmp 77) rfl rfl M' G' HC.o ?_
  |(refine aB sw rfl (.tmp 16) (.tmp 78) rfl (cs:=M'.toArray) rfl rfl rfl (by simpa using G') (fun u hu=>N u qdQ) HO.o.obj ?_;intro w2 B E;have l:=HO.o.aW B E;have q1:=l.av.obj.sub (o:=1) (cs:=D) (fun j u hj=>by simpa using HSU.o j u hj);have Q:=l.obj.sub (o:=1) (cs:=D') (fun j u hj=>by simpa using Q'.o j u hj))
  |refine aj dU rfl (.tmp 79) rfl rfl D hlD q1 ?_
  |refine aj dU rfl (.tmp 81) rfl rfl D' hlD' Q ?_
  | fail)
 refine(K.o _ l.ay).mono ?_;rintro e w7 ⟨rfl,I⟩;have P:=l.aS I;have y0:=P.av.obj.cell H0;have y1:=P.av.obj.lt;have y2:=P.obj.cell H0';have y3:=P.obj.lt;clear q1 Q HC N
 go_wp2_with fail
 refine(HAN.o _ P.ay).mono ?_;rintro e w8 ⟨r,C,rfl,hb8,hst,hC,-⟩;obtain⟨ra,rc,rfl,-⟩:=hst;have HZ:=HNE.o C hC;have HO4:=zh (P.aS hb8);have hfld:∀w',(Instr.field 27 (.agg #[.slice ra C.length rc]) 0).run prog w'=.ok (.slice ra C.length rc) w':=fun w'=>by kernel_rfl
 generalize C.length=lc at*
 clear HO l P y0 y1 y2 y3 I hb8 hC HAN HNE K B E;by_cases hz:lc=0
 .have V:=zh (HZ.1 hz);clear HZ;subst hz;go_wp2;exact J.o _ _ _ zo rfl ⟨k+1,zo,rfl,rfl,V.o,HO4.o.tail⟩
 .have V:=zh (HZ.2 hz);have hd:decide (0<lc)=true:=zN zo;clear HZ J hX hz;go_wp2;exact hR.o _ _ ⟨aR (by rw[aF V.o]),HO4.o.az⟩
theorem uT(n:Nat)(d d':Vd)(x y x' y':Sl)(m:Mem)(w:zW)(f:m.ay w)(h1:bq m n x d.1)(h2:bq m n y d.2)(h1':bq m n x' d'.1)(h2':bq m n y' d'.2)(kd:jw n d)(kd':jw n d'):
 zX 23 #[bP d x y,bP d' x' y'] w (.bool (tf (d=d'))):=by
 have hO:=((Own.start f).al (dC d x y).toArray 35).al (dC d' x' y').toArray 35;simp only[bC]at hO;have h:=zh qiV;have g:(dC d x y).length=18:=rfl;have b:(dC d' x' y').length=18:=rfl;have HO:=zh hO;have c:=hO.av.obj.all;have a:=hO.obj.all;unfold bP at*
 generalize dC d x y=D at*
 generalize dC d' x' y'=i at*
 clear hO h1 h2 h1' h2';generalize tf (d=d')=s2 at*
 refine au fun R hR=>?_
 go_enter func23,ntmps23
 go_wp2_with (first
  |refine aj dU rfl (.tmp 2) rfl rfl D g c ?_
  |refine aj dU rfl (.tmp 3) rfl rfl i b a ?_
  | (go_at_call 31;refine h.o.mono ?_;rintro e j ⟨rfl,hb1⟩))
 exact qgI
theorem kQ.kids{n:Nat}{v:Vl}(h:kQ (n+1) v):∀d∈v.kids,Aq n d:=fun d hd=>by
 have h1:=h.snd.2 d hd;have h2:=h.fit.2 d hd;exact qhI
def En(n:Nat)(m:Mem)(cs:List Value)(c:Lc):Prop:=∃u a,cs=[u,a]/\bG (bq m n) m u c.1/\bG (bq m n) m a c.2/\∀d∈aY c,Aq n d
structure Zx (n:Nat) (c:St):Prop where
 ok:bH c
 set:∀k∈c.2,k.1.length<=729
 vals:∀d∈bN c,Aq n d
def Fz(n:Nat)(m:Mem)(cs:List Value)(c:St):Prop:=∃u a,cs=[u,a]/\gN (bq m n) m u c.1/\gP (bq m n) m a c.2/\Zx n c
theorem ezP{n:Nat}{m:Mem}{b o:Nat}{c:Lc}(h:Ph (bq m n) m b o c/\∀d∈aY c,Aq n d):∃cs:List Value,cs.length=2/\(∀j u,cs[j]?=some u->m.cell b (o+j)=some u)/\(∀u∈cs,u.oneCell'=true)/\En n m cs c:=by
 obtain⟨⟨u,f,k,i,h3,h4⟩,g⟩:=h;refine⟨[u,f],rfl,fun j x e=>?_,fun x hx=>?_,u,f,rfl,h3,h4,g⟩
 .match j,e with
  |0,e=>cases e;exact k
  |1,e=>cases e;exact i
 .exact qbG
theorem ezF{n:Nat}{m:Mem}{b o:Nat}{c:St}(h:O9 (bq m n) m b o c/\Zx n c):∃cs:List Value,cs.length=2/\(∀j u,cs[j]?=some u->m.cell b (o+j)=some u)/\(∀u∈cs,u.oneCell'=true)/\Fz n m cs c:=by
 obtain⟨⟨u,e,i,g,h3,h4⟩,f⟩:=h;refine⟨[u,e],rfl,fun j x d=>?_,fun x hx=>?_,u,e,rfl,h3,h4,f⟩
 .match j,d with
  |0,d=>cases d;exact i
  |1,d=>cases d;exact g
 .exact qbG
theorem WH{n:Nat}(H:Sy n){m:Mem}(a:dV m)(cs b:List Value)(c j:Lc)(w:zW)(o:m.ay w)(h:En n m cs c)(s:En n m b j):
 zX 50 #[.agg cs.toArray,.agg b.toArray] w (.bool (tf (AV (dz n) c j))):=by
 obtain⟨u,k,rfl,r,q,p⟩:=h;obtain⟨l,d,rfl,i,g,f⟩:=s;exact Ou H c j u k l d m w o a r q i g p f
theorem V9{n:Nat}(H:Sy n){m:Mem}(b:dV m)(cs d:List Value)(c k:St)(w:zW)(p:m.ay w)(h:Fz n m cs c)(s:Fz n m d k):
 zX 52 #[.agg cs.toArray,.agg d.toArray] w (.bool (tf (AJ (dz n) c k))):=by
 obtain⟨u,l,rfl,r,q,g⟩:=h;obtain⟨o,f,rfl,j,i,a⟩:=s;exact Ii H c k u l o f m w p b r q j i g.ok a.ok g.set a.set g.vals a.vals
theorem kQ.lc{n:Nat}{v:Vl}(h:kQ (n+1) v):∀c∈v.aN,∀d∈aY c,Aq n d:=fun _ b d a=>h.kids d (eB b a)
theorem kQ.st{n:Nat}{v:Vl}(h:kQ (n+1) v):∀c∈v.aA,Zx n c:=fun c a=>⟨(h.snd.1.st c a).2,(h.fit.1.st c a).set,fun d b=>h.kids d (eQ a b)⟩
theorem Oe(v:Vl)(s:Sl):∃g e d c b a,bu v s=[.bool v.any,g,e,d,c,b,a,s.l,s.s]/\v.s.val s.i s.f s.t=.agg #[g,e,d,c,b,a]:=⟨_,_,_,_,_,_,rfl,rfl⟩
theorem OW(n:Nat):dA (n+1) dB<=1048576:=by
 have h:dA (n+1) dB=1:=by rw[dA];simp[Vl.kids,dB,Vl.aN,Vl.aA]
 omega
theorem czc{n:Nat}(H:Sy n):Sy (n+1):=fun v v' s F m w hm B hv E L d=>by
 have G:=((Own.start hm).al (bu v s).toArray 33).al (bu v' F).toArray 33;simp only[bC]at G;have g:=zh (fun w' (h:m.ay w')=>uT (n+1) (v,dB) (v',dB) s dR F dR m w' h hv ((bq.leaf m false).mono zo) E ((bq.leaf m false).mono zo) ⟨L.cnt,OW n⟩ ⟨d.cnt,OW n⟩);have z:=zh (fun w' (h:m.ay w')=>NL s.i s.f s.t v.s F.i F.f F.t v'.s 8 8 8 8 m w' h B hv.1 E.1 ⟨L.fit.1.i,L.fit.1.fr,L.fit.1.t⟩ ⟨d.fit.1.i,d.fit.1.fr,d.fit.1.t⟩ zo zo zo);have D:=zh (fun w' (h:m.ay w')=>bzI (AV (dz n)) _ _ (En n m) (En n m) s.l F.l v.aN v'.aN m w' h (fun b o c=>ezP) (fun b o c h=>by obtain⟨cs,a1,a2,_,a3⟩:=ezP h;exact⟨cs,a1,a2,a3⟩) (fun cs Q c c' w' h k k'=>WH H B cs Q c c' w' h k k') (fD hv.2.1 L.lc) (fD E.2.1 d.lc));have A:=zh (fun w' (h:m.ay w')=>bzJ (AJ (dz n)) _ _ (Fz n m) (Fz n m) s.s F.s v.aA v'.aA m w' h (fun b o c=>ezF) (fun b o c h=>by obtain⟨cs,a1,a2,_,a3⟩:=ezF h;exact⟨cs,a1,a2,a3⟩) (fun cs Q c c' w' h k k'=>V9 H B cs Q c c' w' h k k') (fD hv.2.2 L.st) (fD E.2.2 d.st));have Y:=zh (show dz (n+1) v v'↔_ by rw[dz]);have K:=zh (show azb v.s v'.s=tf (czF v.s v'.s)by unfold azb;rw[bzg L.snd.1.sc,bzg d.snd.1.sc];rfl);obtain⟨n1,n2,n3,n4,n5,Z,hN,hS⟩:=Oe v s;obtain⟨m1,m2,m3,m4,m5,m6,u',t'⟩:=Oe v' F;rw[hS,t']at z;unfold bP dC at g;unfold Vl.val;rw[hN,u']at g G⊢;generalize s.l=sl at*
 generalize s.s=ss at*
 generalize F.l=O at*
 generalize F.s=N at*
 clear hS t' hN u' hv E L d B H;have c0:=G.av.obj.c 0;have T:=G.obj.c 0;have c7:=G.av.obj.c 7;have S:=G.obj.c 7;have g1:=G.av.obj.lt;have g2:=G.obj.lt;have HO:=zh G;clear G;generalize H':(∀x∈v.aN,∃y∈v'.aN,AV (dz n) x y)=PA at*
 generalize G':(∀x∈v.aA,∃y∈v'.aA,AJ (dz n) x y)=PB at*
 generalize dz (n+1) v v'=LE at*
 clear H' G';refine au fun R hR=>?_
 cases hany:v.any with
 |true=>
  have HX:=zh (show tf LE=v'.any by
   have:=Y.o;rw[zK (.inl hany)]at this;rw[dY this];cases v'.any<;>simp[aM,aF])
  rw[hany]at c0 HO;clear Y g z D A K hany;generalize v'.any=r at*
  go_enter func32,ntmps32
  go_wp2
  exact qhC
 |false=>cases hany':v'.any with
  |true=>
   have HX:=zh (show tf LE=true by
    have:=Y.o;rw[zK (.inr hany')]at this;exact aM (this.2 hany'))
   rw[hany]at c0 HO;rw[hany']at T HO;clear Y g z D A K hany hany'
   go_enter func32,ntmps32
   go_wp2
   exact qhC
  |false=>
   have HX:=zh (show LE↔v=v'\/(czF v.s v'.s/\PA/\PB)by
    have:=Y.o;rw[zJ (by simp[hany,hany'])]at this;exact this)
   rw[hany]at c0 HO g;rw[hany']at T HO g;have z':=zh (show tf ((v,dB)=(v',dB))=tf (v=v') from dY ⟨fun h=>(Prod.mk.inj h).1,fun h=>by rw[h]⟩);have M:Hid (∀w',m.ay w'->zC 23 #[.agg #[.bool false,n1,n2,n3,n4,n5,Z,sl,ss,.bool false,.bool false,.bool false,.bool false,.slice none 0 0,.slice none 0 0,.slice none 0 0,.slice none 0 0,.slice none 0 0],.agg #[.bool false,m1,m2,m3,m4,m5,m6,O,N,.bool false,.bool false,.bool false,.bool false,.slice none 0 0,.slice none 0 0,.slice none 0 0,.slice none 0 0,.slice none 0 0]] w' fun e D'=>e=.returned (.bool (tf (v=v')))/\Below w'.heap.size w' D'):=zh fun w' h=>by
    have:=g.o w' h;rw[z'.o]at this;exact this
   rw[K.o]at z;have HC:=zh (fun o=>zi ((HO.o.al' o).av.obj.all) ((HO.o.al' o).obj.all));have P:=zh (zi (HO.o.av.obj.all (cs:=[.bool false,n1,n2,n3,n4,n5,Z,sl,ss])) (HO.o.obj.all (cs:=[.bool false,m1,m2,m3,m4,m5,m6,O,N])));clear Y g z' K hany hany' c7 S g1 g2
   go_enter func32,ntmps32
   go_wp2_with (first
    |refine aj kK rfl (.tmp 2) rfl rfl [.bool false,n1,n2,n3,n4,n5,Z,sl,ss] rfl P.o.1 ?_
    |refine aj kK rfl (.tmp 3) rfl rfl [.bool false,m1,m2,m3,m4,m5,m6,O,N] rfl P.o.2 ?_
    | fail)
   refine(M.o _ HO.o.ay).mono ?_;rintro e w1 ⟨rfl,r'⟩;have C:=zh (HO.o.aS r');clear HO M r' HC P c0 T;by_cases X:v=v'
   .have U:=zh (HX.o.2 (.inl X));rw[aM X];clear HX z D A X;go_wp2;exact hR.o _ _ ⟨aR (by rw[aM U.o]),C.o.az⟩
   have J:=zh (HX.o.trans ⟨fun h=>h.elim (fun h=>absurd h X) id,.inr⟩);rw[aF X];have q1:=C.o.av.obj.sub (o:=1) (cs:=[n1,n2,n3,n4,n5,Z]) (fun j u a=>by match j,a with|0,a=>exact a|1,a=>exact a|2,a=>exact a|3,a=>exact a|4,a=>exact a|5,a=>exact a|j+6,a=>simp at a);have q2:=C.o.obj.sub (o:=1) (cs:=[m1,m2,m3,m4,m5,m6]) (fun j u a=>by match j,a with|0,a=>exact a|1,a=>exact a|2,a=>exact a|3,a=>exact a|4,a=>exact a|5,a=>exact a|j+6,a=>simp at a);clear HX X
   go_wp2_with (first
    |refine aj wQ rfl (.tmp 18) rfl rfl [n1,n2,n3,n4,n5,Z] rfl q1 ?_
    |refine aj wQ rfl (.tmp 20) rfl rfl [m1,m2,m3,m4,m5,m6] rfl q2 ?_
    | fail)
   refine(z.o _ C.o.ay).mono ?_;rintro e w2 ⟨rfl,q'⟩;have q:=zh (C.o.aS q');clear C z q' q1 q2;by_cases W:czF v.s v'.s
   case neg=>
    have U:=zh (show ¬LE from fun h=>W (J.o.1 h).1);rw[aF W];clear J D A W;go_wp2;exact hR.o _ _ ⟨aR (by rw[aF U.o]),q.o.az⟩
   have I:=zh (J.o.trans ⟨fun h=>h.2,fun h=>⟨W,h⟩⟩);rw[aM W];have c7:=q.o.av.obj.c 7;have S:=q.o.obj.c 7;have g1:=q.o.av.obj.lt;have g2:=q.o.obj.lt;clear J W
   go_wp2_with fail
   refine(D.o _ q.o.ay).mono ?_;rintro e w3 ⟨rfl,p'⟩;have p:=zh (q.o.aS p');have c8:=p.o.av.obj.c 8;have I':=p.o.obj.c 8;have g1:=p.o.av.obj.lt;have g2:=p.o.obj.lt;clear q D p' c7 S;by_cases V:PA
   case neg=>
    have U:=zh (show ¬LE from fun h=>V (I.o.1 h).1);rw[aF V];clear I A V;go_wp2;exact hR.o _ _ ⟨aR (by rw[aF U.o]),p.o.az⟩
   have y':=zh (I.o.trans ⟨fun h=>h.2,fun h=>⟨V,h⟩⟩);rw[aM V];clear I V
   go_wp2_with fail
   refine(A.o _ p.o.ay).mono ?_;rintro e w4 ⟨rfl,o'⟩;have HB:=zh (p.o.aS o').az;have U:=zh (dY y'.o);clear p A o' c8 I' g1 g2 y';generalize tf PB=r at*
   go_wp2;exact hR.o _ _ ⟨aR (by rw[U.o]),HB.o⟩
theorem qW:∀n,Sy n
 |0=>fun _ _ _ _ _ _ _ _ h _ _ _=>h.elim
 |n+1=>czc (qW n)
def lY(n:Nat)(v:Vl)(M:Mem)(r:zV):Prop:=∃s,r=v.val s/\bq M n s v
theorem Wq{n:Nat}(c:Lc)(u d:zV)(m:Mem)(w:zW)(p:m.ay w)(g:bG (bq m n) m u c.1)(f:bG (bq m n) m d c.2):
 zC 83 #[.agg #[u,d]] w fun e w'=>∃r,e=.returned r/\zB w w'/\lY (n+1) (lZ c) (m.grow w w') r:=by
 have t:=gZ g;have s:=gZ f;have b:=(((Own.start p).al #[u,d] 50).al (bu (lZ c) (ES (w.heap.size+1+1))).toArray 33).al #[u,d] 50;simp only[bC]at b;have l:=kK.load (P:=prog) (cs:=bu (lZ c) (ES (w.heap.size+1+1))) rfl b.av.obj.all;have a:=Mem_le_add (w:=((w.alloc (.cells #[u,d] 50)).alloc (.cells (bu (lZ c) (ES (w.heap.size+1+1))).toArray 33)).alloc (.cells #[u,d] 50)) b.jG;have j:=Ut (n:=n) (c:=c) (Mem_add_cell (m:=m) b.obj (i:=0) rfl) (Mem_add_cell (m:=m) b.obj (i:=1) rfl) (g.le a fun _ _ h=>h.le a) (f.le a fun _ _ h=>h.le a);have k:=zh (zi b.az (j.le b.gU.done));clear b a j g f;refine au fun R q=>?_
 go_enter func83,ntmps83
 go_wp2;refine yV (v:=.agg (bu (lZ c) (ES (w.heap.size+1+1))).toArray) (kC results83 rfl l) rfl ?_;exact q.o _ _ ⟨_,rfl,k.o.1,_,rfl,k.o.2⟩
theorem Ws{n:Nat}(c:St)(u d:zV)(m:Mem)(w:zW)(p:m.ay w)(g:gN (bq m n) m u c.1)(f:gP (bq m n) m d c.2):
 zC 85 #[.agg #[u,d]] w fun e w'=>∃r,e=.returned r/\zB w w'/\lY (n+1) (uX c) (m.grow w w') r:=by
 have t:=gZ g;have s:=gZ f;have b:=(((Own.start p).al #[u,d] 62).al (bu (uX c) (EC (w.heap.size+1+1))).toArray 33).al #[u,d] 62;simp only[bC]at b;have l:=kK.load (P:=prog) (cs:=bu (uX c) (EC (w.heap.size+1+1))) rfl b.av.obj.all;have a:=Mem_le_add (w:=((w.alloc (.cells #[u,d] 62)).alloc (.cells (bu (uX c) (EC (w.heap.size+1+1))).toArray 33)).alloc (.cells #[u,d] 62)) b.jG;have j:=Tm (n:=n) (c:=c) (Mem_add_cell (m:=m) b.obj (i:=0) rfl) (Mem_add_cell (m:=m) b.obj (i:=1) rfl) (g.le a fun _ _ h=>h.le a) (f.le a fun _ _ h=>h.le a);have k:=zh (zi b.az (j.le b.gU.done));clear b a j g f;refine au fun R q=>?_
 go_enter func85,ntmps85
 go_wp2;refine yV (v:=.agg (bu (uX c) (EC (w.heap.size+1+1))).toArray) (kC results85 rfl l) rfl ?_;exact q.o _ _ ⟨_,rfl,k.o.1,_,rfl,k.o.2⟩
theorem kQ.cmp{n:Nat}{v:Vl}(h:kQ n v):FH n v:=⟨h.snd,h.fit,h.cnt⟩
theorem iQ.up{n k:Nat}{v:Vl}(h:iQ n v)(hk:n<=k):iQ k v:=by
 have s:∀{n:Nat} {v:Vl},iQ n v->iQ (n+1) v:=fun {n}=>by
  induction n with
  |zero=>intro v h;exact h.elim
  |succ n ih=>intro v h;exact⟨h.1,fun x a=>⟨ih (h.2 x a).1,ih (h.2 x a).2⟩⟩
 induction hk with
 |refl=>exact h
 |step _ ih=>exact s ih
theorem Gm(v v':Vl)(s d:Sl)(m:Mem)(n:Nat)(w:zW)(E:m.ay w)(b:dV m)(y:n<=16)(l:bq m n s v)(f:bq m n d v')(i:kQ n v)(a:kQ n v'):
 zX 130 #[v.val s,v'.val d] w (.int .i64 (gW n v v')):=by
 have j:=((Own.start E).al (bu v s).toArray 33).al (bu v' d).toArray 33;simp only[bC]at j;have x:=uS v s m n _ j.ay b l i.fit i.cnt;have u:=fun w' (h:m.ay w')=>uS v' d m n w' h b f a.fit a.cnt;rw[aM (show jR v from i.snd.up y)]at x;rw[aM (show jR v' from a.snd.up y)]at u;have J:=zh x;have I:=zh u;have H:=zh (fun w' (h:m.ay w')=>Ia n v v' s d m w' h b l f i.cmp a.cmp);have G:=zh j;have z:(bu v s).length=9:=rfl;have k:(bu v' d).length=9:=rfl;have D:=j.av.obj.all;unfold Vl.val at*
 clear j l f i a x u;generalize bu v s=N at*
 generalize bu v' d=N' at*
 generalize gW n v v'=r at*
 refine au fun R F=>?_
 go_enter func130,ntmps130
 go_wp2_with (first
  | (go_at_call 35;first
   |(refine(I.o _ g.ay).mono ?_;rintro e L ⟨rfl,q⟩;have c:=g.aS q;have B:=c.av.obj.all;have A:=c.obj.all)
   | (refine J.o.mono ?_;rintro e M ⟨rfl,t⟩;have g:=G.o.aS t;have C:=g.obj.all))
  |refine aj kK rfl (.tmp 2) rfl rfl N z B ?_
  |refine aj kK rfl (.tmp 3) rfl rfl N' k A ?_
  |refine aj kK rfl (.tmp 3) rfl rfl N' k C ?_
  |refine aj kK rfl (.tmp 2) rfl rfl N z D ?_
  | (go_at_call 172;refine(H.o _ c.ay).mono ?_;rintro e K ⟨rfl,p⟩))
 exact F.o _ _ ⟨rfl,(c.aS p).az⟩
theorem dzN(n:Nat)(c b:Lc):gW (n+1) (lZ c) (lZ b)=Pn (gW n) c b:=by
 rw[gW];simp only[lZ,Vl.any,Vl.s,Vl.aN,Vl.aA,eO,GM.self gI,uz,show BB false false=0 from rfl,show ∀a,sI 0 a=a from fun _=>rfl]
theorem dzM(n:Nat)(c b:St):gW (n+1) (uX c) (uX b)=Pm (gW n) c b:=by
 rw[gW];simp only[uX,Vl.any,Vl.s,Vl.aN,Vl.aA,eO,GM.self gI,uz,show BB false false=0 from rfl,show ∀a,sI 0 a=a from fun _=>rfl]
theorem lY.cmp{n:Nat}{v v':Vl}{r c:zV}{M:Mem}{w:zW}(h:lY n v M r)(l:lY n v' M c)(j:M.ay w)(a:dV M)(i:n<=16)(f:kQ n v)(b:kQ n v'):
 zX 130 #[r,c] w (.int .i64 (gW n v v')):=by
 obtain⟨s,rfl,k⟩:=h;obtain⟨d,rfl,g⟩:=l;exact Gm v v' s d M n w j a i k g f b
theorem lY.gH{n:Nat}{v:Vl}{m M:Mem}(k:m.le M){r:zV}(h:lY n v m r):lY n v M r:=by
 obtain⟨s,e,h⟩:=h;exact⟨s,e,h.le k⟩
theorem UX:∀args w,(callFunc 129 args).run prog w=.ok (.enter 129 args) w:=enters_of func129 zk rfl
theorem azO{n:Nat}(P:n+1<=16)(c g:Lc)(u t v f:zV)(H:Nat)(m:Mem)(w:zW)(Q:m.ay w)(p:dV m)(I:m.cell H 0=some (.func (.func 83) #[] #[]))(C:bG (bq m n) m u c.1)(B:bG (bq m n) m t c.2)(s:bG (bq m n) m v g.1)(q:bG (bq m n) m f g.2)(G:kQ (n+1) (lZ c))(x:kQ (n+1) (lZ g)):
 zX 129 (#[.agg #[u,t],.agg #[v,f]]++#[.pointer (some ⟨H,0,none⟩)]) w (.int .i64 (Pn (gW n) c g)):=by
 have A:=((Own.start Q).al #[u,t] 50).al #[v,f] 50;simp only[bC]at A;have o1:=gZ C;have o2:=gZ B;have O:=gZ s;have N:=gZ q;have K:=zh (fun w' (h:m.ay w')=>Wq (n:=n) c u t m w' h C B);have J:=zh (fun w' (h:m.ay w')=>Wq (n:=n) g v f m w' h s q);have F:=zh (fun(M:Mem) (r L:zV) w' (h:lY (n+1) (lZ c) M r) (S:lY (n+1) (lZ g) M L) (hi:M.ay w') (ht:dV M)=>lY.cmp h S hi ht P G x);rw[dzN]at F;have HO:=zh A;have y:=zh (zi p I);clear A C B s q G x p I;generalize Pn (gW n) c g=rr at*
 refine au fun R hR=>?_
 go_enter func129,ntmps129
 go_upto_region 1 with(fail)
 refine aV [5] (fun vs w'=>vs=[.int .i64 rr]/\zB w w') ?_ ?_
 .intro Y hY;refine bF 7 6 (fun j=>[aI.is (·=.func (.func 83) #[] #[]),aI.is (·=.agg #[u,t]),aI.mem m [2] (fun M u=>lY (n+1) (lZ c) M u),aI.is (·=.func (.func 83) #[] #[]),aI.is (·=.agg #[v,f]),aI.mem m [5] (fun M u=>lY (n+1) (lZ g) M u),aI.is (·=.int .i64 rr)].getD j aI.any) zk zk ?_ ?_
  .intro i hi o win a wr ho l;have b:=HO.o.dr.aS l.az;have y1:=Mem_cell_w b.ay y.o.2;have y2:=Mem_cell_lt b.ay y.o.2;have y3:=b.obj.c 0;have y4:=b.obj.c 1;have y5:=b.av.obj.c 0;have y6:=b.av.obj.c 1;have y7:=b.obj.lt;have Z:=b.av.obj.lt;rcases(show i=0\/i=1\/i=2\/i=3\/i=4\/i=5\/i=6 by omega)with rfl|rfl|rfl|rfl|rfl|rfl|rfl
   .have U:=l.k 2;exact qaa
   .have e3:=l.k 3;exact qaa
   .have e6:zt a 6 _:=l.d 0 rfl;have e7:zt a 7 _:=l.d 1 rfl;cases ho;refine we rfl rfl (K.o _ b.ay) ?_;rintro e w' ⟨r,rfl,hb,z⟩;exact⟨_,rfl,_,rfl,hb,fO (R:=fun M u=>lY (n+1) (lZ c) M u) (fun k _ h=>lY.gH k h) b.ay hb z⟩
   .have U:=l.k 2;exact qaa
   .have e4:=l.k 4;exact qaa
   .have e9:zt a 9 _:=l.d 3 rfl;have V:zt a 10 _:=l.d 4 rfl;cases ho;refine we rfl rfl (J.o _ b.ay) ?_;rintro e w' ⟨r,rfl,hb,z⟩;exact⟨_,rfl,_,rfl,hb,fO (R:=fun M u=>lY (n+1) (lZ g) M u) (fun k _ h=>lY.gH k h) b.ay hb z⟩
   .have T:(aI.mem m [2] (fun M u=>lY (n+1) (lZ c) M u)).holds (a.tmps.getD 8 undef) win wr:=l.d 2 rfl;have D:(aI.mem m [5] (fun M u=>lY (n+1) (lZ g) M u)).holds (a.tmps.getD 11 undef) win wr:=l.d 5 rfl;cases ho;have f1:lY (n+1) (lZ c) (m.fJ wr win [2]) _:=T;have f2:lY (n+1) (lZ g) (m.fJ wr win [5]) _:=D;have X:=Mem_wins_le (m:=m) (es:=[2,5]) b.ay win (ds:=[2]) zS;have W:=Mem_wins_le (m:=m) (es:=[2,5]) b.ay win (ds:=[5]) zS;refine we rfl rfl (F.o (m.fJ wr win [2,5]) _ _ wr (f1.gH X) (f2.gH W) (Mem_wins_inn b.ay win [2,5]) (y.o.1.le (Mem_le_wins b.ay win [2,5]))) ?_;exact qab
  .exact qgF
 clear HO K J F y;exact qg1
theorem UY:∀args w,(callFunc 132 args).run prog w=.ok (.enter 132 args) w:=enters_of func132 zk rfl
theorem azP{n:Nat}(P:n+1<=16)(c g:St)(u t v f:zV)(H:Nat)(m:Mem)(w:zW)(Q:m.ay w)(p:dV m)(I:m.cell H 0=some (.func (.func 85) #[] #[]))(C:gN (bq m n) m u c.1)(B:gP (bq m n) m t c.2)(s:gN (bq m n) m v g.1)(q:gP (bq m n) m f g.2)(G:kQ (n+1) (uX c))(x:kQ (n+1) (uX g)):
 zX 132 (#[.agg #[u,t],.agg #[v,f]]++#[.pointer (some ⟨H,0,none⟩)]) w (.int .i64 (Pm (gW n) c g)):=by
 have A:=((Own.start Q).al #[u,t] 62).al #[v,f] 62;simp only[bC]at A;have o1:=gZ C;have o2:=gZ B;have O:=gZ s;have N:=gZ q;have K:=zh (fun w' (h:m.ay w')=>Ws (n:=n) c u t m w' h C B);have J:=zh (fun w' (h:m.ay w')=>Ws (n:=n) g v f m w' h s q);have F:=zh (fun(M:Mem) (r L:zV) w' (h:lY (n+1) (uX c) M r) (S:lY (n+1) (uX g) M L) (hi:M.ay w') (ht:dV M)=>lY.cmp h S hi ht P G x);rw[dzM]at F;have HO:=zh A;have y:=zh (zi p I);clear A C B s q G x p I;generalize Pm (gW n) c g=rr at*
 refine au fun R hR=>?_
 go_enter func132,ntmps132
 go_upto_region 1 with(fail)
 refine aV [5] (fun vs w'=>vs=[.int .i64 rr]/\zB w w') ?_ ?_
 .intro Y hY;refine bF 7 6 (fun j=>[aI.is (·=.func (.func 85) #[] #[]),aI.is (·=.agg #[u,t]),aI.mem m [2] (fun M u=>lY (n+1) (uX c) M u),aI.is (·=.func (.func 85) #[] #[]),aI.is (·=.agg #[v,f]),aI.mem m [5] (fun M u=>lY (n+1) (uX g) M u),aI.is (·=.int .i64 rr)].getD j aI.any) zk zk ?_ ?_
  .intro i hi o win a wr ho l;have b:=HO.o.dr.aS l.az;have y1:=Mem_cell_w b.ay y.o.2;have y2:=Mem_cell_lt b.ay y.o.2;have y3:=b.obj.c 0;have y4:=b.obj.c 1;have y5:=b.av.obj.c 0;have y6:=b.av.obj.c 1;have y7:=b.obj.lt;have Z:=b.av.obj.lt;rcases(show i=0\/i=1\/i=2\/i=3\/i=4\/i=5\/i=6 by omega)with rfl|rfl|rfl|rfl|rfl|rfl|rfl
   .have U:=l.k 2;exact qaa
   .have e3:=l.k 3;exact qaa
   .have e6:zt a 6 _:=l.d 0 rfl;have e7:zt a 7 _:=l.d 1 rfl;cases ho;refine we rfl rfl (K.o _ b.ay) ?_;rintro e w' ⟨r,rfl,hb,z⟩;exact⟨_,rfl,_,rfl,hb,fO (R:=fun M u=>lY (n+1) (uX c) M u) (fun k _ h=>lY.gH k h) b.ay hb z⟩
   .have U:=l.k 2;exact qaa
   .have e4:=l.k 4;exact qaa
   .have e9:zt a 9 _:=l.d 3 rfl;have V:zt a 10 _:=l.d 4 rfl;cases ho;refine we rfl rfl (J.o _ b.ay) ?_;rintro e w' ⟨r,rfl,hb,z⟩;exact⟨_,rfl,_,rfl,hb,fO (R:=fun M u=>lY (n+1) (uX g) M u) (fun k _ h=>lY.gH k h) b.ay hb z⟩
   .have T:(aI.mem m [2] (fun M u=>lY (n+1) (uX c) M u)).holds (a.tmps.getD 8 undef) win wr:=l.d 2 rfl;have D:(aI.mem m [5] (fun M u=>lY (n+1) (uX g) M u)).holds (a.tmps.getD 11 undef) win wr:=l.d 5 rfl;cases ho;have f1:lY (n+1) (uX c) (m.fJ wr win [2]) _:=T;have f2:lY (n+1) (uX g) (m.fJ wr win [5]) _:=D;have X:=Mem_wins_le (m:=m) (es:=[2,5]) b.ay win (ds:=[2]) zS;have W:=Mem_wins_le (m:=m) (es:=[2,5]) b.ay win (ds:=[5]) zS;refine we rfl rfl (F.o (m.fJ wr win [2,5]) _ _ wr (f1.gH X) (f2.gH W) (Mem_wins_inn b.ay win [2,5]) (y.o.1.le (Mem_le_wins b.ay win [2,5]))) ?_;exact qab
  .exact qgF
 clear HO K J F y;exact qg1
end Cl
