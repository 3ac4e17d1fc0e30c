/- The law's walk. -/
import Derived.Test.YtdgjplfcpcphoaaGreatDoorPkE20
set_option maxRecDepth 100000
set_option maxHeartbeats 16000000
namespace Cl
open Go Go.RowKit Go.Proofs Go.WideShapes Go.ChangeShapes Go.Deep Go.Joins Tryz
section
variable {H:Type} {enc:TypeId×Value->H} {w:zW} {spare:Nat->Bool} {held:Bool} {B:DataW H->Nat}
theorem Al(i:q9 B){r:Reach}{k:Nat}{v:zV}{d:DataW H}{p:List MemPlace}(a:Value.okWide prog w r k 33 v)(h:DataW.Trod enc prog w 0 spare held 33 v d p):
 ∃n s x,v=Vl.val x s/\bG (Mem.of w) n s x/\dw n x<=B d:=by
 obtain⟨cs,rfl,b⟩:=okWide_struct underlying33 a;obtain⟨fuel,f⟩:=h;obtain⟨x,s,e,c,g⟩:=Fu i fuel _ _ f;refine⟨_,s,x,?_,c,g⟩;have:cs=(bu x s).toArray:=by
  have j:cs.toList=bu x s:=e;obtain⟨l⟩:=cs;exact congrArg Array.mk j
 rw[this];rfl
end
end Cl
namespace Cl
theorem Ya{α:Type}{p:α->Prop}{c:α->α->Int}(h:mD p c){a b d:α}(f:p a)(g:p b)(j:p d):
 ¬c a b < -1/\¬1<c a b/\c b a = - c a b/\c a a=0/\(0<c a b\/0<c b d\/c a d<=0/\(c a d=0↔c a b=0/\c b d=0)):=by
 have n:=h.ik a b f g;refine⟨zo,zo,h.uU a b f g,h.self f,?_⟩;by_cases m:0<c a b
 .exact .inl m
 .by_cases l:0<c b d
  .exact .inr (.inl l)
  .refine .inr (.inr ⟨h.tr a b d f g j zo zo,?_⟩);constructor
   .intro e;have i:=(h.eq a d f j).1 e;subst i;have:=h.uU a b f g;omega
   .rintro⟨i,k⟩;have i:=(h.eq a b f g).1 i;have k:=(h.eq b d g j).1 k;subst i k;exact h.self f
end Cl
namespace Cl
open Go Go.RowKit Go.Proofs Tryz
theorem wM{n:Nat}{v v':Vl}(h:eQ v)(a:eQ v'):wN n v v'=dn n v v':=by unfold wN;rw[zK ⟨h,a⟩]
theorem Jn(a:Vl)(x:Sl)(b:Vl)(y:Sl)(c:Vl)(z:Sl)(m:Mem)(n:Nat)(w:zW)(hm:m.ay w)(T:gD m)(D:16<=n)(ha:bG m n x a)(hb:bG m n y b)(hc:bG m n z c)(S:dw n a<=1048576)(tb:dw n b<=1048576)(tc:dw n c<=1048576):
 zX 9 #[a.val x,b.val y,c.val z] w (.bool true):=by
 obtain⟨m1,l1,c1,n'⟩:=dM 33 (bu a x).toArray (Own.start hm);obtain⟨m2,l2,c2,m'⟩:=dM 33 (bu b y).toArray n';obtain⟨k,l3,c3,l'⟩:=dM 33 (bu c z).toArray m';simp only[bR]at c2 c3;have G:=Mem.le_trans l1 (Mem.le_trans l2 l3);have C:=zh (T.le G);have v:=zh (zi (ha.le G) (zi (hb.le G) (hc.le G)));have s':=zh (fun(w':zW) (h:k.ay w')=>mW n a x k w' h v.o.1 S);have y':=zh (fun(w':zW) (h:k.ay w')=>j6 a x k n w' h v.o.1);have b':=fun(w':zW) (h:k.ay w') (f:eT n a)=>mR (a,a) x x k n w' h C.o v.o.1 v.o.1 f f S S;simp only[Bool.and_self]at b';have B':=zh b';clear b';have hl0:(bu a x).length=9:=rfl;have r':=zh (fun(w':zW) (h:k.ay w')=>mW n b y k w' h v.o.2.1 tb);have x':=zh (fun(w':zW) (h:k.ay w')=>j6 b y k n w' h v.o.2.1);have a':=fun(w':zW) (h:k.ay w') (f:eT n b)=>mR (b,b) y y k n w' h C.o v.o.2.1 v.o.2.1 f f tb tb;simp only[Bool.and_self]at a';have A':=zh a';clear a';have hl1:(bu b y).length=9:=rfl;have q':=zh (fun(w':zW) (h:k.ay w')=>mW n c z k w' h v.o.2.2 tc);have v':=zh (fun(w':zW) (h:k.ay w')=>j6 c z k n w' h v.o.2.2);have W:=fun(w':zW) (h:k.ay w') (f:eT n c)=>mR (c,c) z z k n w' h C.o v.o.2.2 v.o.2.2 f f tc tc;simp only[Bool.and_self]at W;have z':=zh W;clear W;have hl2:(bu c z).length=9:=rfl;have HC0:=zh (fun(w':zW) (h:k.ay w') j u (hj:(bu a x)[j]?=some u)=>Mem_cell_w h (Mem_cell_le (Mem.le_trans l2 l3) (c1 j u qeb)));have HC1:=zh (fun(w':zW) (h:k.ay w') j u (hj:(bu b y)[j]?=some u)=>Mem_cell_w h (Mem_cell_le l3 (c2 j u qeb)));have HC2:=zh (fun(w':zW) (h:k.ay w') j u (hj:(bu c z)[j]?=some u)=>Mem_cell_w h (c3 j u qeb));have C0:k.cell w.heap.size 0=some (.bool a.any):=Mem_cell_le (Mem.le_trans l2 l3) (c1 0 _ rfl);have C1:k.cell (w.heap.size+1) 0=some (.bool b.any):=Mem_cell_le l3 (c2 0 _ rfl);have C2:k.cell (w.heap.size+1+1) 0=some (.bool c.any):=c3 0 _ rfl;have I':=zh (fun(fa:eT n a) (fb:eT n b) (fc:eT n c) (P:eQ a) (V:eQ b) (sc:eQ c) (w':zW) (h:k.ay w')=>
  show(zC 25 #[a.val x,b.val y] w' fun e O=>e=.returned (.int .i64 (dn n a b))/\Below w'.heap.size w' O)/\(zC 25 #[b.val y,c.val z] w' fun e O=>e=.returned (.int .i64 (dn n b c))/\Below w'.heap.size w' O) /\
   (zC 25 #[a.val x,c.val z] w' fun e O=>e=.returned (.int .i64 (dn n a c))/\Below w'.heap.size w' O)/\(zC 25 #[b.val y,a.val x] w' fun e O=>e=.returned (.int .i64 (dn n b a))/\Below w'.heap.size w' O) /\
   (zC 25 #[a.val x,a.val x] w' fun e O=>e=.returned (.int .i64 (dn n a a))/\Below w'.heap.size w' O) from
  ⟨by rw[<-wM P V];exact jR a b x y k n w' h C.o D v.o.1 v.o.2.1 fa fb S tb,by rw[<-wM V sc];exact jR b c y z k n w' h C.o D v.o.2.1 v.o.2.2 fb fc tb tc,
   by rw[<-wM P sc];exact jR a c x z k n w' h C.o D v.o.1 v.o.2.2 fa fc S tc,by rw[<-wM V P];exact jR b a y x k n w' h C.o D v.o.2.1 v.o.1 fb fa tb S,by rw[<-wM P P];exact jR a a x x k n w' h C.o D v.o.1 v.o.1 fa fa S S⟩)
 have U:=zh (fun(P:eQ a) (V:eQ b) (sc:eQ c)=>zi (Ya (yg n) (P.mono D) (V.mono D) (sc.mono D)) (zi ((yg n).ik a b (P.mono D) (V.mono D)) (zi ((yg n).ik b c (V.mono D) (sc.mono D)) ((yg n).ik a c (P.mono D) (sc.mono D)))));have A:=zh l';unfold Vl.val at*
 generalize bu a x=N at*
 generalize bu b y=M at*
 generalize bu c z=L at*
 clear n' m' l' T ha hb hc l1 c1 l2 c2 l3 c3 G;refine aj fun R hR=>?_
 go_enter func9,ntmps9
 go_wp2_with (first|refine ae iH rfl (.tmp 3) rfl rfl N hl0 (fun j u hj=>by rw[yZ];exact HC0.o _ A.o.ay j u hj) ?_|refine ae iH rfl (.tmp 4) rfl rfl M hl1 (fun j u hj=>by rw[yZ];exact HC1.o _ A.o.ay j u hj) ?_|refine ae iH rfl (.tmp 5) rfl rfl L hl2 (fun j u hj=>by rw[yZ];exact HC2.o _ A.o.ay j u hj) ?_)
 refine(s'.o _ A.o.ay).mono ?_;rintro e Q ⟨rfl,g⟩;have t:=zh (A.o.aP g);clear A g;cases hb0:lH n a
 case false=>
  clear hb0
  go_wp2_with fail
  refine(fV k _ t.o.ay C.o).mono ?_;rintro e wz ⟨rfl,l⟩;have HB:=zh (t.o.aP l).az;clear t l;exact qag
 have H':=zh (nL hb0).few;clear hb0
 go_wp2_with (first|refine ae iH rfl (.tmp 3) rfl rfl N hl0 (fun j u hj=>by rw[yZ];exact HC0.o _ t.o.ay j u hj) ?_|refine ae iH rfl (.tmp 4) rfl rfl M hl1 (fun j u hj=>by rw[yZ];exact HC1.o _ t.o.ay j u hj) ?_|refine ae iH rfl (.tmp 5) rfl rfl L hl2 (fun j u hj=>by rw[yZ];exact HC2.o _ t.o.ay j u hj) ?_)
 refine(r'.o _ t.o.ay).mono ?_;rintro e Q ⟨rfl,g⟩;have s:=zh (t.o.aP g);clear t g;cases g:lH n b
 case false=>
  clear g
  go_wp2_with fail
  refine(fV k _ s.o.ay C.o).mono ?_;rintro e wz ⟨rfl,l⟩;have HB:=zh (s.o.aP l).az;clear s l;exact qag
 have G':=zh (nL g).few;clear g
 go_wp2_with (first|refine ae iH rfl (.tmp 3) rfl rfl N hl0 (fun j u hj=>by rw[yZ];exact HC0.o _ s.o.ay j u hj) ?_|refine ae iH rfl (.tmp 4) rfl rfl M hl1 (fun j u hj=>by rw[yZ];exact HC1.o _ s.o.ay j u hj) ?_|refine ae iH rfl (.tmp 5) rfl rfl L hl2 (fun j u hj=>by rw[yZ];exact HC2.o _ s.o.ay j u hj) ?_)
 refine(q'.o _ s.o.ay).mono ?_;rintro e Q ⟨rfl,g⟩;have r:=zh (s.o.aP g);clear s g;cases hb2:lH n c
 case false=>
  clear hb2
  go_wp2_with fail
  refine(fV k _ r.o.ay C.o).mono ?_;rintro e wz ⟨rfl,l⟩;have HB:=zh (r.o.aP l).az;clear r l;exact qag
 have F':=zh (nL hb2).few;clear hb2
 go_wp2_with (first|refine ae iH rfl (.tmp 3) rfl rfl N hl0 (fun j u hj=>by rw[yZ];exact HC0.o _ r.o.ay j u hj) ?_|refine ae iH rfl (.tmp 4) rfl rfl M hl1 (fun j u hj=>by rw[yZ];exact HC1.o _ r.o.ay j u hj) ?_|refine ae iH rfl (.tmp 5) rfl rfl L hl2 (fun j u hj=>by rw[yZ];exact HC2.o _ r.o.ay j u hj) ?_)
 refine(y'.o _ r.o.ay).mono ?_;rintro e Q ⟨rfl,g⟩;have K:=zh (r.o.aP g);clear r g
 go_wp2_with fail
 refine(B'.o _ K.o.ay H'.o).mono ?_;rintro e Q ⟨rfl,g⟩;have q:=zh (K.o.aP g);clear K g;cases hb0:tf (eQ a)
 case false=>
  clear hb0
  go_wp2_with fail
  refine(fV k _ q.o.ay C.o).mono ?_;rintro e wz ⟨rfl,l⟩;have HB:=zh (q.o.aP l).az;clear q l;exact qag
 have E':=zh (Ap.1 hb0);clear hb0
 go_wp2_with (first|refine ae iH rfl (.tmp 3) rfl rfl N hl0 (fun j u hj=>by rw[yZ];exact HC0.o _ q.o.ay j u hj) ?_|refine ae iH rfl (.tmp 4) rfl rfl M hl1 (fun j u hj=>by rw[yZ];exact HC1.o _ q.o.ay j u hj) ?_|refine ae iH rfl (.tmp 5) rfl rfl L hl2 (fun j u hj=>by rw[yZ];exact HC2.o _ q.o.ay j u hj) ?_)
 refine(x'.o _ q.o.ay).mono ?_;rintro e Q ⟨rfl,g⟩;have J:=zh (q.o.aP g);clear q g
 go_wp2_with fail
 refine(A'.o _ J.o.ay G'.o).mono ?_;rintro e Q ⟨rfl,g⟩;have p:=zh (J.o.aP g);clear J g;cases g:tf (eQ b)
 case false=>
  clear g
  go_wp2_with fail
  refine(fV k _ p.o.ay C.o).mono ?_;rintro e wz ⟨rfl,l⟩;have HB:=zh (p.o.aP l).az;clear p l;exact qag
 have D':=zh (Ap.1 g);clear g
 go_wp2_with (first|refine ae iH rfl (.tmp 3) rfl rfl N hl0 (fun j u hj=>by rw[yZ];exact HC0.o _ p.o.ay j u hj) ?_|refine ae iH rfl (.tmp 4) rfl rfl M hl1 (fun j u hj=>by rw[yZ];exact HC1.o _ p.o.ay j u hj) ?_|refine ae iH rfl (.tmp 5) rfl rfl L hl2 (fun j u hj=>by rw[yZ];exact HC2.o _ p.o.ay j u hj) ?_)
 refine(v'.o _ p.o.ay).mono ?_;rintro e Q ⟨rfl,g⟩;have I:=zh (p.o.aP g);clear p g
 go_wp2_with fail
 refine(z'.o _ I.o.ay F'.o).mono ?_;rintro e Q ⟨rfl,g⟩;have B:=zh (I.o.aP g);clear I g;cases hb2:tf (eQ c)
 case false=>
  clear hb2
  go_wp2_with fail
  refine(fV k _ B.o.ay C.o).mono ?_;rintro e wz ⟨rfl,l⟩;have HB:=zh (B.o.aP l).az;clear B l;exact qag
 have C':=zh (Ap.1 hb2);clear hb2;have A:=zh B.o;clear B;have HM:=zh (fun w' h=>I'.o H'.o G'.o F'.o E'.o D'.o C'.o w' h);have j':=U.o E'.o D'.o C'.o;obtain⟨⟨h1,h2,h3,h4,h5⟩,r1,r2,r3⟩:=j';have d':=zh (zi h3 h4);have hr:dn n a b=1\/(dn n a b=0/\dn n b c=1)\/(dn n a b=0/\dn n b c=0/\dn n a c=0)\/(dn n a b=0/\dn n b c = -1/\dn n a c = -1)\/(dn n a b = -1/\dn n b c=1)\/(dn n a b = -1/\dn n b c=0/\dn n a c = -1)\/(dn n a b = -1/\dn n b c = -1/\dn n a c = -1):=zo;have i':dn n a b=1\/dn n a b=0\/dn n a b = -1:=zo;have HR:=zh (zi hr i');clear h1 h2 h3 h4 h5 r1 r2 r3 hr i' U I' s' r' q' y' x' v' B' A' z';rw[d'.o.1,d'.o.2]at HM;clear d';generalize dn n a b=X at*
 generalize dn n b c=Y at*
 generalize dn n a c=Z at*
 go_upto_region 5 with(fail)
 refine aR [3,4,5,7,8,9] (fun vs w'=>vs=[.pointer (some ⟨w.heap.size,0,none⟩),.pointer (some ⟨w.heap.size+1,0,none⟩),.pointer (some ⟨w.heap.size+1+1,0,none⟩),.int .i64 X,.int .i64 Y,.int .i64 Z]/\Own w m w' k []) ?_ ?_
 .intro Yh hY;refine bz 12 6 (fun j=>[aD.is (·=.agg N.toArray),aD.is (·=.agg M.toArray),aD.is (·=.int .i64 X),aD.is (·=.agg M.toArray),aD.is (·=.agg L.toArray),aD.is (·=.int .i64 Y),aD.is (·=.agg N.toArray),aD.is (·=.agg L.toArray),aD.is (·=.int .i64 Z),aD.is (·=.int .i64 X),aD.is (·=.int .i64 Y),aD.is (·=.int .i64 Z)].getD j aD.any) zk zk ?_ ?_
  .intro i hi o O' a wr ho RA;have HO2:=A.o.dr.aP RA.az;have y3:=Mem_cell_lt HO2.ay C0;have y4:=Mem_cell_lt HO2.ay C1;have y5:=Mem_cell_lt HO2.ay C2;rcases(show i=0\/i=1\/i=2\/i=3\/i=4\/i=5\/i=6\/i=7\/i=8\/i=9\/i=10\/i=11 by omega)with rfl|rfl|rfl|rfl|rfl|rfl|rfl|rfl|rfl|rfl|rfl|rfl
   .exact qbk
   .exact qbh
   .have e41:zt a 41 _:=RA.d 0 rfl;have e42:zt a 42 _:=RA.d 1 rfl;cases ho;refine we rfl rfl ((HM.o wr HO2.ay).1) ?_;exact qab
   .exact qbh
   .exact qbf
   .have e44:zt a 44 _:=RA.d 3 rfl;have e45:zt a 45 _:=RA.d 4 rfl;cases ho;refine we rfl rfl ((HM.o wr HO2.ay).2.1) ?_;exact qab
   .exact qbk
   .exact qbf
   .have e47:zt a 47 _:=RA.d 6 rfl;have e48:zt a 48 _:=RA.d 7 rfl;cases ho;refine we rfl rfl ((HM.o wr HO2.ay).2.2.1) ?_;exact qab
   .have e43:zt a 43 _:=RA.d 2 rfl;exact qaa
   .have e46:zt a 46 _:=RA.d 5 rfl;exact qaa
   .have e49:zt a 49 _:=RA.d 8 rfl;exact qaa
  .intro O' a wr E;have e3:=E.keep 3 zk;have e4:=E.keep 4 zk;have e5:=E.keep 5 zk;have e7:a.tmps.getD 7 undef=.int .i64 X:=E.fact 9 _ zo rfl;have e8:a.tmps.getD 8 undef=.int .i64 Y:=E.fact 10 _ zo rfl;have e9:a.tmps.getD 9 undef=.int .i64 Z:=E.fact 11 _ zo rfl;obtain⟨t1,dd⟩:=a;obtain rfl:dd=[]:=E.defers;refine bY zk (hY.o _ _ E.size ⟨?_,A.o.dr.aP E.az⟩) _;simp only[yL,xB,e3,e4,e5,e7,e8,e9]
   first|done|rfl
 rintro z0 vs w4-⟨rfl,hO⟩;simp[aX,lk];clear A;have A:=zh hO;clear hO
 go_upto_region 6 with(fail)
 refine aR [7,8,9,69] (fun vs w'=>vs=[.int .i64 X,.int .i64 Y,.int .i64 Z,.bool false]/\Own w m w' k []) ?_ ?_
 .intro Yh hY;have t':=zh HR.o.2;clear HR;rcases t'.o with rfl|rfl|rfl
  all_goals
   clear t'
   go_wp2_with (first|refine ae iH rfl (.tmp 3) rfl rfl N hl0 (fun j u hj=>by rw[yZ];exact HC0.o _ A.o.ay j u hj) ?_|refine ae iH rfl (.tmp 4) rfl rfl M hl1 (fun j u hj=>by rw[yZ];exact HC1.o _ A.o.ay j u hj) ?_|refine ae iH rfl (.tmp 5) rfl rfl L hl2 (fun j u hj=>by rw[yZ];exact HC2.o _ A.o.ay j u hj) ?_)
   refine(HM.o _ A.o.ay).2.2.2.1.mono ?_;rintro e w5 ⟨rfl,k'⟩;have F:=zh (A.o.aP k');clear A k'
   go_wp2_with (first|refine ae iH rfl (.tmp 3) rfl rfl N hl0 (fun j u hj=>by rw[yZ];exact HC0.o _ F.o.ay j u hj) ?_|refine ae iH rfl (.tmp 4) rfl rfl M hl1 (fun j u hj=>by rw[yZ];exact HC1.o _ F.o.ay j u hj) ?_|refine ae iH rfl (.tmp 5) rfl rfl L hl2 (fun j u hj=>by rw[yZ];exact HC2.o _ F.o.ay j u hj) ?_)
   refine(HM.o _ F.o.ay).2.2.2.2.mono ?_;rintro e w6 ⟨rfl,H⟩;have S':=zh (F.o.aP H);clear F H;go_wp2;exact hY.o _ _ rfl ⟨rfl,S'.o⟩
 clear A;rintro z0 vs w5-⟨rfl,hO⟩;simp[aX,lk];have A:=zh hO;clear hO HM;have T':=zh (fun w' (h:k.ay w')=>fV k w' h C.o);have u':=zh HR.o.1;clear HR;rcases u'.o with rfl|⟨rfl,rfl⟩|⟨rfl,rfl,rfl⟩|⟨rfl,rfl,rfl⟩|⟨rfl,rfl⟩|⟨rfl,rfl,rfl⟩|⟨rfl,rfl,rfl⟩
 all_goals
  clear u'
  go_wp2_with fail
  refine(T'.o _ A.o.ay).mono ?_;rintro e w6 ⟨rfl,H⟩;have HB:=zh (A.o.aP H).az;clear A H;exact qag
theorem EM(a:Vl)(x:Sl)(b:Vl)(y:Sl)(c:Vl)(z:Sl)(m:Mem)(g f d:Nat)(w:zW)(r:m.ay w)(h:gD m)(k:bG m g x a)(j:bG m f y b)(i:bG m d z c)(q:dw g a<=1048576)(tb:dw f b<=1048576)(p:dw d c<=1048576):
 zX 9 #[a.val x,b.val y,c.val z] w (.bool true):=by
 have o:g<=g+f+d+16:=zo;have n:f<=g+f+d+16:=zo;have l:d<=g+f+d+16:=zo;exact Jn a x b y c z m (g+f+d+16) w r h zo (k.mono o) (j.mono n) (i.mono l) (by rw[lm k.ht o];exact q) (by rw[lm j.ht n];exact tb) (by rw[lm i.ht l];exact p)
end Cl
