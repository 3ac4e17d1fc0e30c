/- Lemmas for the proofs of chapter 11. -/
import Derived.Test.YtdgjplfcpcphoaaGreatDoorPkE24
import Derived.Test.YtdgjplfcpcphoaaGreatDoorPkE7
set_option maxRecDepth 100000
set_option maxHeartbeats 16000000
namespace Cl
open Go Go.RowKit Go.Proofs Tryz
theorem j4(u:Int)(w:zW)(d : -1000000000000002<=u)(c:u<=1000000000000002):
 zX 188 #[.int .i64 u] w (.int .i64 (fF u)):=by
 have f:=zh (fun w'=>Lx u w' d c);refine aj fun R b=>?_
 go_enter func188,ntmps188
 go_wp2_with fail
 refine(f.o _).mono ?_;rintro e g ⟨rfl,a⟩;go_wp2;refine b.o _ _ ⟨dU ?_,a⟩;unfold fF;omega
theorem zn(k:Int)(w:zW)(f : -1000000000000002<=k)(d:k<=1000000000000002):
 zX 185 #[.int .i64 k] w (.int .i64 (bU k)):=by
 refine aj fun R a=>?_;have c:=zh (bza k);have b:=zh (az9 k)
 go_enter func185,ntmps185
 go_wp2
 all_goals refine a.o _ _ ⟨dU ?_,zR _ _⟩
 all_goals simp only[c.o,b.o]at*
 all_goals unfold bU
 all_goals (repeat' split)<;>first|omega|(unfold wrap64;omega)
theorem zq(va:zV)(l:List bT)(m:Mem)(w:zW)(hm:m.ay w)(hl:df m va l)(i':∀s∈l,rz s)(Z':l.length<=1000000):
 zC 186 #[va] w fun e w'=>∃r,e=.returned r/\zB w w'/\df (m.grow w w') r (ic l):=by
 have u':=zh (fun k=>LW (rz.take i' k));have R':=zh (fun k=>oG (l.take k));have S':=zh i';clear i';obtain⟨aa,ac,rfl,a1,a2,a3⟩:=hl;unfold maxLen at a2;have HO:=zh (Own.start hm);refine aj fun R hR=>?_
 go_enter func186,ntmps186
 go_wp2;refine av [3,10,11,12] (fun n vs wr=>∃(k:Nat) (vo:zV) (D:Mem),k<=l.length/\n=l.length-k/\vs=[vo,.slice aa l.length ac,.int .i64 l.length,.int .i64 k] /\
  df D vo (ic (l.take k))/\m.le D/\Own w m wr D []) ?_ ?_
 .exact⟨_,0,.slice none 0 0,m,zG _,rfl,rfl,oF m,Mem.le_refl m,HO.o⟩
 clear HO hm;rintro X z n vs wr hX-⟨k,vo,D,hk,rfl,rfl,W,M,v⟩;simp[aX,lk];by_cases hlt:k<l.length
 .obtain⟨b,off,rfl,h4⟩:=a3 qdX;have a':=h4 k hlt;have r1:=Mem_cell_w v.ay (Mem_cell_le M a'.1);have r2:=Mem_cell_w v.ay (Mem_cell_le M a'.2.1);have rl:=Mem_cell_lt v.ay (Mem_cell_le M a'.1);have Z:=S'.o l[k] (zF hlt);have y:=LU l k hlt;have H':=R'.o k;rw[List.length_take]at H';have I':=u'.o k;have g':=u'.o (k+1);generalize hE:ic (l.take (k+1))=C at*
  generalize ic (l.take k)=A at*
  clear h4 a';generalize l[k]=q at*
  obtain⟨qa,qb⟩:=q;unfold rz at Z;simp only at r1 r2 Z y;obtain⟨oa,oc,rfl,o1,o2,o3⟩:=W;unfold maxLen at o2;have g:=v.al #[.int .i64 qa,.int .i64 qb] 139;by_cases L:qb<qa
  .have h':decide (qb<qa)=true:=zN L;rw[zK L]at y;have HV:=zh (zi (show df D (.slice oa A.length oc) C from by rw[y];exact⟨oa,oc,rfl,o1,by unfold maxLen;omega,o3⟩) g.tail);clear L v g o3;go_wp2;exact hX.o _ _ _ zo rfl ⟨k+1,_,D,zo,rfl,rfl,by rw[hE];exact HV.o.1,M,HV.o.2⟩
  .have h':decide (qb<qa)=false:=zM L;rw[zJ L]at y;have hb:=Z zo;have K':=BS A (qa,qb) false;rw[<-y]at K';have d':=zh ((g.dL 139 2).au);have t':=zh y;clear v g y;go_wp2;generalize hS:wr.heap.size=S at*
   refine av [5,6,7,10,11,12,21,22,23] (fun n vs wr=>∃(j:Nat) (E F:Int) (d:Bool) (nx:List bT) (vn:zV),j<=A.length/\n=A.length-j/\vs=[.pointer (some ⟨S,0,none⟩),vn,.bool d,.slice (some ⟨b,off,none⟩) l.length ac,.int .i64 l.length,.int .i64 k,.slice oa A.length oc,.int .i64 A.length,.int .i64 j] /\
    nx++mP (E,F) d (A.drop j)=C /\ -1000000000000002<=E/\E<=F/\F<=1000000000000002/\Own w m wr D [.obj S 139 #[.int .i64 E,.int .i64 F],.row vn 139 2 nx.length (bI nx)]) ?_ ?_
   .exact⟨_,0,qa,qb,false,[],.slice none 0 0,zG _,rfl,rfl,t'.o.symm,hb.1,zo,hb.2,d'.o⟩
   clear d' t' hS Z hb r1 r2 rl h' L;rintro Y z2 n vs w6 hY-⟨j,E,F,d,nx,vn,hj,rfl,rfl,T,b1,b2,b3,v⟩;simp[aX,lk];have hnl:nx.length<=C.length:=by rw[<-T,zL];omega
   obtain⟨V,U,rfl⟩:=aT v.au.row;by_cases hlj:j<A.length
   .obtain⟨b',W',rfl,h4⟩:=o3 qeh;have c':=h4 j hlj;have r1:=Mem_cell_w v.ay c'.1;have r2:=Mem_cell_w v.ay c'.2.1;have rl:=Mem_cell_lt v.ay c'.1;have hx:=I' A[j] (zF hlj);rw[U7 A j hlj]at T;have HG:=zh T;clear h4 c' T;generalize A[j]=x at*
    obtain⟨J,G⟩:=x;simp only at r1 r2 hx;have g:=v.al #[.int .i64 J,.int .i64 G] 139;by_cases hA:G+1<E
    .have M':decide (G+1<E)=true:=zN hA;have u:=(g.al #[.int .i64 J,.int .i64 G] 139).dZ
     try simp only[bR]at u
     have a:=u.au.obj.cZ rfl;have q1:=g.au.obj.c 0;have q3:=g.au.obj.lt;have N:=zh hA;clear hA v g
     go_wp2_with (at_builtin;refine aG gu rfl (.tmp 33) (.tmp 35) rfl (.slice V nx.length U) nx.length _ rfl u.row ⟨_,0,none⟩ 1 1 [.int .i64 J,.int .i64 G] rfl rfl a qdZ qdY zo ?_)
     intro va vc w7 t f i;have Q:=zh (u.app t f i zS).dZ.kY.kY;clear u t f i a q1 q3;go_wp2;refine hY.o _ _ _ zo rfl ⟨j+1,E,F,d,nx++[(J,G)],_,zo,rfl,rfl,?_,b1,b2,b3,?_⟩
     .rw[<-HG.o,zK (show G+1<E from N.o),xD];rfl
     .rw[bM,zL];exact Q.o
    .have M':decide (G+1<E)=false:=zM hA;by_cases hB:F+1<J
     .have L':decide (F+1<J)=true:=zN hB;have N:=zh (zi hA hB);clear hA hB
      cases d with
      |true=>
       have u:=(g.al #[.int .i64 J,.int .i64 G] 139).dZ
       try simp only[bR]at u
       have a:=u.au.obj.cZ rfl;have q1:=g.au.obj.c 0;have q2:=g.au.obj.c 1;have q3:=g.au.obj.lt;clear v g
       go_wp2_with (at_builtin;refine aG gu rfl (.tmp 49) (.tmp 51) rfl (.slice V nx.length U) nx.length _ rfl u.row ⟨_,0,none⟩ 1 1 [.int .i64 J,.int .i64 G] rfl rfl a qdZ qdY zo ?_)
       intro va vc w7 t f i;have Q:=zh (u.app t f i zS).dZ.kY.kY;clear u t f i a q1 q2 q3;go_wp2;refine hY.o _ _ _ zo rfl ⟨j+1,E,F,true,nx++[(J,G)],_,zo,rfl,rfl,?_,b1,b2,b3,?_⟩
       .rw[<-HG.o,zJ (show ¬G+1<E by have:=N.o.1;omega),zK (show F+1<J from N.o.2),xD];rfl
       .rw[bM,zL]
        exact Q.o
      |false=>
       have u:=(g.al #[.int .i64 E,.int .i64 F] 139).dZ
       try simp only[bR]at u
       have a:=u.au.obj.cZ rfl;have q1:=g.au.obj.c 0;have q2:=g.au.obj.c 1;have q3:=g.au.obj.lt;clear v g
       go_wp2_with (at_builtin;refine aG gu rfl (.tmp 45) (.tmp 47) rfl (.slice V nx.length U) nx.length _ rfl u.row ⟨_,0,none⟩ 1 1 [.int .i64 E,.int .i64 F] rfl rfl a qdZ qdY zo ?_)
       intro va vc w7 t f i;have I:=(u.app t f i zS).bL;clear u t f i a q1 q2 q3;have q4:=I.au.obj.c 0;have q5:=I.au.obj.c 1;have q6:=I.au.obj.lt;have B:=(I.al #[.int .i64 J,.int .i64 G] 139).au
       try simp only[bR]at B
       have a:=B.au.obj.cZ rfl;clear I
       go_wp2_with (at_builtin;refine aG gu rfl (.tmp 49) (.tmp 51) rfl (.slice va (nx.length+1) vc) (nx.length+1) _ rfl B.row ⟨_,0,none⟩ 1 1 [.int .i64 J,.int .i64 G] rfl rfl a qdZ qdY zo ?_)
       intro va2 vc2 w8 P K O;have Q:=zh (B.app P K O zS).dZ.kY.kY;clear B P K O a q4 q5 q6;go_wp2;refine hY.o _ _ _ zo rfl ⟨j+1,E,F,true,nx++[(E,F)]++[(J,G)],_,zo,rfl,rfl,?_,b1,b2,b3,?_⟩
       .rw[<-HG.o,zJ (show ¬G+1<E by have:=N.o.1;omega),zK (show F+1<J from N.o.2)];simp
       .rw[bM,bM,zL,zL,xD];exact Q.o
     .have L':decide (F+1<J)=false:=zM hB;have q1:=g.au.obj.c 0;have q2:=g.au.obj.c 1;have q3:=g.au.obj.lt;have q4:=g.au.obj.frozen 0;have q5:=g.au.obj.frozen 1;have J':S≠w6.heap.size:=by have:=v.obj.lt;omega
      have X':w6.heap.size≠S:=fun e=>J' e.symm;have d':=zh g.tail;have HN:=zh (zi hA hB);clear v g;go_wp2
      all_goals refine hY.o _ _ _ zo rfl ⟨j+1,_,_,d,nx,_,zo,rfl,rfl,?_,?_,?_,?_,(d'.o.set 0 (.int .i64 _)).set 1 (.int .i64 _)⟩
      all_goals try omega
      all_goals refine Eq.trans (congrArg (fun p=>nx++mP p d (A.drop (j+1))) (Prod.ext ?_ ?_)) ((congrArg (fun p=>nx++p) ((zJ (show ¬G+1<E by have:=HN.o.1;omega)).trans (zJ (show ¬F+1<J by have:=HN.o.2;omega)))).symm.trans HG.o)
      all_goals (simp only<;>omega)
   .obtain rfl:j=A.length:=zo;rw[XA]at T
    cases d with
    |true=>
     simp only[if_true,yR]at T;subst T;have y:=eH (m:=D) (l:=nx) v.au.row (fun s hs=>by have:=g' s hs;unfold kM;omega);have H:=Mem_le_addv (w:=w6) v.au.free;have HV:=zh (zi y (zi (Mem.le_trans M H) v.au.bJ.tail));clear v y H;go_wp2
     exact qcw
    |false=>
     simp only[Bool.false_eq_true,if_false]at T;have u:=(v.al #[.int .i64 E,.int .i64 F] 139).bA
     try simp only[bR]at u
     have a:=u.au.obj.cZ rfl;have q1:=v.obj.c 0;have q2:=v.obj.c 1;have q3:=v.obj.lt;clear v
     go_wp2_with (at_builtin;refine aG gu rfl (.tmp 68) (.tmp 70) rfl (.slice V nx.length U) nx.length _ rfl u.row ⟨_,0,none⟩ 1 1 [.int .i64 E,.int .i64 F] rfl rfl a qdZ qdY zo ?_)
     intro va vc w7 t f i;have I:=(u.app t f i zS).bL.bL;have e:nx.length+1=C.length:=by rw[<-T,zL];rfl
     have B:Own w m w7 D [.row (.slice va (nx.length+1) vc) 139 2 C.length (bI C)]:=by
      rw[<-T,bM,zL];exact I
     rw[e]at B⊢;have y:=eH (m:=D) (l:=C) B.row (fun s hs=>by have:=g' s hs;unfold kM;omega);have H:=Mem_le_addv (w:=w7) B.free;have HV:=zh (zi y (zi (Mem.le_trans M H) B.bJ));clear I u t f i a B y H q1 q2 q3;go_wp2;exact qcw
 .obtain rfl:k=l.length:=zo;rw[yG]at W;have Hfin:=zh (zi v.az (bV v.done W));clear v W;go_wp2;exact qai
def wO(l:List bT)(k:Nat):List bT:=(l.take k).map lQ
theorem VY(l:List bT)(k:Nat)(h:k<=l.length):(wO l k).length=k:=by simp[wO];omega
theorem Sb(l:List bT)(k:Nat)(h:k<l.length):wO l (k+1)=wO l k++[lQ l[k]]:=by
 unfold wO;rw[zH h,yI];rfl
theorem VZ(l:List bT):wO l l.length=l.map lQ:=by unfold wO;rw[yG]
theorem Sc(l:List bT):∀s∈l.map lQ,rz s:=fun s a=>by
 obtain⟨t,-,rfl⟩:=yD.1 a;unfold rz lQ il;dsimp only;omega
theorem Yb{l:List bT}(h:∀s∈l,kM s):∀s∈l.map lQ,kM s:=fun s a=>by
 obtain⟨t,ht,rfl⟩:=yD.1 a;have:=h t ht;unfold kM lQ il at*;dsimp only;omega
theorem DV(E G:zV)(I F:List bT)(m:Mem)(w:zW)(hm:m.ay w)(hN:bZ m E G I F)(hI:I.length<=100000):
 zC 143 #[.agg #[E,G]] w fun e w'=>∃r,e=.returned r/\zB w w'/\df (m.grow w w') r (mZ I):=by
 have g:=((Own.start hm).al #[E,G] 24).dL 139 2;obtain⟨hi,P⟩:=hN;obtain⟨af,cf,rfl⟩:=dR P;have x:=zh (Yb (l7 hi));obtain⟨ai,ci,rfl,i1,i2,i3⟩:=hi;unfold maxLen at i2;have U:=zh g;clear g P;refine aj fun R hR=>?_
 go_enter func143,ntmps143
 go_wp2;refine av [3,7,8,9] (fun n O A=>∃(k:Nat) (D:zV),k<=I.length/\n=I.length-k/\O=[D,.slice ai I.length ci,.int .i64 I.length,.int .i64 k] /\
  Own w m A m [.row D 139 2 (wO I k).length (bI (wO I k))]) ?_ ?_
 .exact⟨_,0,.slice none 0 0,zG _,rfl,rfl,U.o.bL⟩
 clear U;rintro X z n O A hX-⟨k,D,hk,rfl,rfl,g⟩;simp[aX,lk];obtain⟨C,B,rfl⟩:=aT g.row;have K:(wO I k).length<=100000:=by rw[VY I k hk];omega
 by_cases hlt:k<I.length
 .obtain⟨b,off,rfl,S⟩:=i3 qdX;have v:=S k hlt;have Y:=Mem_cell_w g.ay v.1;have W:=Mem_cell_w g.ay v.2.1;have rl:=Mem_cell_lt g.ay v.1;have u:kM I[k]:=v.2.2;have s:=zh (Sb I k hlt);generalize wO I k=T at*
  clear S v;generalize I[k]=q at*
  obtain⟨J,H⟩:=q;unfold kM at u;simp only at Y W u;have d:=g.al #[.int .i64 J,.int .i64 H] 139;have q1:=d.obj.c 0;have q2:=d.obj.c 1;have Z:=d.obj.lt;have p:=zh d;clear g d;have a:=(p.o.al #[.int .i64 (max J (-100000000000)),.int .i64 (min H 100000000000)] 139).bA;simp only[bR]at a;have l:=a.au.obj.cZ rfl
  go_wp2_with (at_builtin;refine aG gu rfl (.tmp 13) (.tmp 21) rfl (.slice C T.length B) T.length _ rfl a.row ⟨_,0,none⟩ 1 1 [.int .i64 (max J (-100000000000)),.int .i64 (min H 100000000000)] rfl rfl l qdZ qdY zo ?_)
  intro va vc w7 j f i;have M:=zh (a.app j f i zS).bL.bL;clear j f i p q1 q2 Z a l;go_wp2;refine hX.o _ _ _ zo rfl ⟨k+1,_,zo,rfl,rfl,?_⟩;rw[s.o,bM,zL];exact M.o
 .obtain rfl:k=I.length:=zo;have N:=zh (zi (Sc I) (LV I));rw[VZ]at g K⊢;generalize I.map lQ=L at*
  have t:=eH (m:=m) g.row x.o;have d:=g.bJ;have V:=zh (zq _ L _ A d.ay t N.o.1 zo);have p:=zh d;clear t d g x
  go_wp2_with fail
  refine V.o.mono ?_;rintro e w2 ⟨r,rfl,Q,y⟩;rw[N.o.2]at y;have a:=p.o.call Q;have Hfin:=zh (zi a.az (bV a.done y));obtain⟨ra,rc,rfl⟩:=dR y;clear V p N Q y a;go_wp2;exact qai
def vS(l:List bT)(k:Nat):List bT:=(jX (l.take k)).map lL
theorem Ur(l:List bT)(k:Nat)(h:k<=l.length):(vS l k).length<=k:=by unfold vS;rw[xC];exact Jy h
theorem Qr(l:List bT)(k:Nat)(h:k<l.length):vS l (k+1)=vS l k++if(iO l[k]).1<=(iO l[k]).2 then[lL (iO l[k])]else[]:=by
 unfold vS;rw[Gx l k h,yI]
 split<;>rfl
theorem Us(l:List bT):vS l l.length=(jX l).map lL:=by unfold vS;rw[yG]
theorem Qs(l:List bT):∀s∈(jX l).map lL,rz s:=fun s a=>by
 have:=DU s a;simp only[mq,qh]at this;unfold rz;omega
theorem Xf(l:List bT):∀s∈(jX l).map lL,kM s:=fun s a=>by
 have b:=DU s a;have c:=Td s a;simp only[mq,qh]at b;unfold kM;omega
theorem BG(vi vf:zV)(I F:List bT)(m:Mem)(w:zW)(hm:m.ay w)(hN:bZ m vi vf I F)(hF:F.length<=100000):
 zC 144 #[.agg #[vi,vf]] w fun e w'=>∃r,e=.returned r/\zB w w'/\df (m.grow w w') r (lw F):=by
 have O:=((Own.start hm).al #[vi,vf] 24).dL 139 2;obtain⟨hi,hf⟩:=hN;obtain⟨ai,ci,rfl⟩:=dR hi;obtain⟨af,cf,rfl,i1,i2,i3⟩:=hf;unfold maxLen at i2;have HO:=zh O;clear O hi;refine aj fun R hR=>?_
 go_enter func144,ntmps144
 go_wp2;refine av [3,9,10,11] (fun n vs wr=>∃(k:Nat) (vo:zV),k<=F.length/\n=F.length-k/\vs=[vo,.slice af F.length cf,.int .i64 F.length,.int .i64 k] /\
  Own w m wr m [.row vo 139 2 (vS F k).length (bI (vS F k))]) ?_ ?_
 .exact⟨_,0,.slice none 0 0,zG _,rfl,rfl,HO.o.bL⟩
 clear HO;rintro X z n vs wr hX-⟨k,vo,hk,rfl,rfl,O⟩;simp[aX,lk];obtain⟨b',a',rfl⟩:=aT O.row;have H':=Ur F k hk;by_cases hlt:k<F.length
 .obtain⟨b,off,rfl,h4⟩:=i3 qdX;have hg:=h4 k hlt;have r1:=Mem_cell_w O.ay hg.1;have r2:=Mem_cell_w O.ay hg.2.1;have rl:=Mem_cell_lt O.ay hg.1;have j':kM F[k]:=hg.2.2;have c':=Qr F k hlt;generalize v':vS F (k+1)=S1 at*
  generalize vS F k=N at*
  clear h4 hg;generalize F[k]=q at*
  obtain⟨W,V⟩:=q;unfold kM at j';simp only at r1 r2 j';have e':=zh (O.al #[.int .i64 W,.int .i64 V] 139);have l:=zh (zi v' c');clear O v' c'
  go_upto_region 5 with(fail)
  generalize I':wr.alloc (.cells #[.int .i64 W,.int .i64 V] 139)=w5 at*
  generalize wr.heap.size=S at*
  refine aR [3,6,7,9,10,11] (fun vs w'=>vs=[.slice b' N.length a',.int .i64 (max W (-1000000000000000)),.int .i64 (min V 1000000000000000),.slice (some ⟨b,off,none⟩) F.length cf,.int .i64 F.length,.int .i64 k] /\
   Own w m w' m [.row (.slice b' N.length a') 139 2 N.length (bI N)]) ?_ ?_
  .intro Y hY;have q1:=e'.o.obj.c 0;have q2:=e'.o.obj.c 1;have q5:=e'.o.obj.lt
   go_quiet (fail)
   go_wp2;exact hY.o _ _ rfl ⟨rfl,e'.o.tail.Ep _⟩
  rintro z4 vs w6-⟨rfl,O⟩;simp[aX,lk];have k':iO (W,V)=trimF (max W (-1000000000000000),min V 1000000000000000):=rfl;have d':=fun h=>Rf (t:=(W,V)) h;have S':max W (-1000000000000000)<=9223372036854775807 /\ -1000000000000000<=max W (-1000000000000000):=zo;have Q':min V 1000000000000000<=1000000000000000 /\ -9223372036854775808<=min V 1000000000000000:=zo;unfold iD at d';simp only at d';generalize max W (-1000000000000000)=x at*
  generalize min V 1000000000000000=y at*
  clear e' I' r1 r2 j';by_cases R':x<=y
  .have t':decide (y<x)=false:=zM zo;have x':=zh (fun w'=>tL x w');have P:=zh (fun w'=>tL y w');have HO:=zh O;have HC:=zh k';clear k' d' O
   go_wp2_with fail
   refine(x'.o _).mono ?_;rintro e w7 ⟨rfl,u'⟩;have Q:=zh (HO.o.aP u');clear x' HO u';by_cases U:x%10000=0<;>by_cases T:y%10000=0
   .have D:iO (W,V)=((x+1),(y-1)):=by rw[HC.o];simp[trimF,U,T]
    have M:=zh D;have HE:=zh (zi U T);have B:((x+1):Int)%10000≠0:=zo;have A:((y-1):Int)%10000≠0:=zo;have n':=zh (zi B A);clear D HC B A;rw[zN U]
    go_wp2_with fail
    refine(P.o _).mono ?_;rintro e w8 ⟨rfl,G⟩;rw[zN T];have s:=Q.o.aP G;have v:=zh s;clear P Q G U T;by_cases d:(x+1)<=(y-1)
    .have C:decide ((x+1)<=(y-1))=true:=zN d;have K:=zh (fun w'=>j4 ((x+1)) w' zo zo);have J:=zh (fun w'=>j4 ((y-1)) w' zo zo);have u:=zh d;clear d s
     go_wp2_with fail
     refine(K.o _).mono ?_;rintro e w9 ⟨rfl,E⟩;have H:=zh (v.o.aP E);clear K v E
     go_wp2_with fail
     refine(J.o _).mono ?_;rintro e i' ⟨rfl,p⟩;have j:=((H.o.aP p).al #[.int .i64 (fF ((x+1))),.int .i64 (fF ((y-1)))] 139).au;have i:=j.au.obj.cZ rfl;clear J H p
     go_wp2_with (at_builtin;refine aG gu rfl (.tmp 35) (.tmp 41) rfl (.slice b' N.length a') N.length _ rfl j.row ⟨_,0,none⟩ 1 1 [.int .i64 (fF ((x+1))),.int .i64 (fF ((y-1)))] rfl rfl i qdZ qdY zo ?_)
     intro va vc h' g a f;have Z:=zh (j.app g a f zS).bL;clear g a f j i;go_wp2;refine hX.o _ _ _ zo rfl ⟨k+1,_,zo,rfl,rfl,?_⟩;rw[l.o.1,l.o.2,M.o,zK (show(x+1)<=(y-1) from u.o)];have e:N++[lL ((x+1),(y-1))]=N++[(fF ((x+1)),fF ((y-1)))]:=rfl;rw[e,bM,zL];exact Z.o
    .first
      |(exfalso;omega)
      | (have C:decide ((x+1)<=(y-1))=false:=zM d
         have u:=zh d;clear d s;go_wp2;refine hX.o _ _ _ zo rfl ⟨k+1,_,zo,rfl,rfl,?_⟩;rw[l.o.1,l.o.2,M.o,zJ (show ¬(x+1)<=(y-1)by have:=u.o;omega),yR];exact v.o)
   .have D:iO (W,V)=((x+1),(y)):=by rw[HC.o];simp[trimF,U,T]
    have M:=zh D;have HE:=zh (zi U T);have B:((x+1):Int)%10000≠0:=zo;have A:((y):Int)%10000≠0:=zo;have n':=zh (zi B A);clear D HC B A;rw[zN U]
    go_wp2_with fail
    refine(P.o _).mono ?_;rintro e w8 ⟨rfl,G⟩;rw[zM T];have s:=Q.o.aP G;have v:=zh s;clear P Q G U T;by_cases d:(x+1)<=(y)
    .have C:decide ((x+1)<=(y))=true:=zN d;have K:=zh (fun w'=>j4 ((x+1)) w' zo zo);have J:=zh (fun w'=>j4 ((y)) w' zo zo);have u:=zh d;clear d s
     go_wp2_with fail
     refine(K.o _).mono ?_;rintro e w9 ⟨rfl,E⟩;have H:=zh (v.o.aP E);clear K v E
     go_wp2_with fail
     refine(J.o _).mono ?_;rintro e i' ⟨rfl,p⟩;have j:=((H.o.aP p).al #[.int .i64 (fF ((x+1))),.int .i64 (fF ((y)))] 139).au;have i:=j.au.obj.cZ rfl;clear J H p
     go_wp2_with (at_builtin;refine aG gu rfl (.tmp 35) (.tmp 41) rfl (.slice b' N.length a') N.length _ rfl j.row ⟨_,0,none⟩ 1 1 [.int .i64 (fF ((x+1))),.int .i64 (fF ((y)))] rfl rfl i qdZ qdY zo ?_)
     intro va vc h' g a f;have Z:=zh (j.app g a f zS).bL;clear g a f j i;go_wp2;refine hX.o _ _ _ zo rfl ⟨k+1,_,zo,rfl,rfl,?_⟩;rw[l.o.1,l.o.2,M.o,zK (show(x+1)<=(y) from u.o)];have e:N++[lL ((x+1),(y))]=N++[(fF ((x+1)),fF ((y)))]:=rfl;rw[e,bM,zL];exact Z.o
    .first
      |(exfalso;omega)
      | (have C:decide ((x+1)<=(y))=false:=zM d
         have u:=zh d;clear d s;go_wp2;refine hX.o _ _ _ zo rfl ⟨k+1,_,zo,rfl,rfl,?_⟩;rw[l.o.1,l.o.2,M.o,zJ (show ¬(x+1)<=(y)by have:=u.o;omega),yR];exact v.o)
   .have D:iO (W,V)=((x),(y-1)):=by rw[HC.o];simp[trimF,U,T]
    have M:=zh D;have HE:=zh (zi U T);have B:((x):Int)%10000≠0:=zo;have A:((y-1):Int)%10000≠0:=zo;have n':=zh (zi B A);clear D HC B A;rw[zM U]
    go_wp2_with fail
    refine(P.o _).mono ?_;rintro e w8 ⟨rfl,G⟩;rw[zN T];have s:=Q.o.aP G;have v:=zh s;clear P Q G U T;by_cases d:(x)<=(y-1)
    .have C:decide ((x)<=(y-1))=true:=zN d;have K:=zh (fun w'=>j4 ((x)) w' zo zo);have J:=zh (fun w'=>j4 ((y-1)) w' zo zo);have u:=zh d;clear d s
     go_wp2_with fail
     refine(K.o _).mono ?_;rintro e w9 ⟨rfl,E⟩;have H:=zh (v.o.aP E);clear K v E
     go_wp2_with fail
     refine(J.o _).mono ?_;rintro e i' ⟨rfl,p⟩;have j:=((H.o.aP p).al #[.int .i64 (fF ((x))),.int .i64 (fF ((y-1)))] 139).au;have i:=j.au.obj.cZ rfl;clear J H p
     go_wp2_with (at_builtin;refine aG gu rfl (.tmp 35) (.tmp 41) rfl (.slice b' N.length a') N.length _ rfl j.row ⟨_,0,none⟩ 1 1 [.int .i64 (fF ((x))),.int .i64 (fF ((y-1)))] rfl rfl i qdZ qdY zo ?_)
     intro va vc h' g a f;have Z:=zh (j.app g a f zS).bL;clear g a f j i;go_wp2;refine hX.o _ _ _ zo rfl ⟨k+1,_,zo,rfl,rfl,?_⟩;rw[l.o.1,l.o.2,M.o,zK (show(x)<=(y-1) from u.o)];have e:N++[lL ((x),(y-1))]=N++[(fF ((x)),fF ((y-1)))]:=rfl;rw[e,bM,zL];exact Z.o
    .first
      |(exfalso;omega)
      | (have C:decide ((x)<=(y-1))=false:=zM d
         have u:=zh d;clear d s;go_wp2;refine hX.o _ _ _ zo rfl ⟨k+1,_,zo,rfl,rfl,?_⟩;rw[l.o.1,l.o.2,M.o,zJ (show ¬(x)<=(y-1)by have:=u.o;omega),yR];exact v.o)
   .have D:iO (W,V)=((x),(y)):=by rw[HC.o];simp[trimF,U,T]
    have M:=zh D;have HE:=zh (zi U T);have B:((x):Int)%10000≠0:=zo;have A:((y):Int)%10000≠0:=zo;have n':=zh (zi B A);clear D HC B A;rw[zM U]
    go_wp2_with fail
    refine(P.o _).mono ?_;rintro e w8 ⟨rfl,G⟩;rw[zM T];have s:=Q.o.aP G;have v:=zh s;clear P Q G U T;by_cases d:(x)<=(y)
    .have C:decide ((x)<=(y))=true:=zN d;have K:=zh (fun w'=>j4 ((x)) w' zo zo);have J:=zh (fun w'=>j4 ((y)) w' zo zo);have u:=zh d;clear d s
     go_wp2_with fail
     refine(K.o _).mono ?_;rintro e w9 ⟨rfl,E⟩;have H:=zh (v.o.aP E);clear K v E
     go_wp2_with fail
     refine(J.o _).mono ?_;rintro e i' ⟨rfl,p⟩;have j:=((H.o.aP p).al #[.int .i64 (fF ((x))),.int .i64 (fF ((y)))] 139).au;have i:=j.au.obj.cZ rfl;clear J H p
     go_wp2_with (at_builtin;refine aG gu rfl (.tmp 35) (.tmp 41) rfl (.slice b' N.length a') N.length _ rfl j.row ⟨_,0,none⟩ 1 1 [.int .i64 (fF ((x))),.int .i64 (fF ((y)))] rfl rfl i qdZ qdY zo ?_)
     intro va vc h' g a f;have Z:=zh (j.app g a f zS).bL;clear g a f j i;go_wp2;refine hX.o _ _ _ zo rfl ⟨k+1,_,zo,rfl,rfl,?_⟩;rw[l.o.1,l.o.2,M.o,zK (show(x)<=(y) from u.o)];have e:N++[lL ((x),(y))]=N++[(fF ((x)),fF ((y)))]:=rfl;rw[e,bM,zL];exact Z.o
    .first
      |(exfalso;omega)
      | (have C:decide ((x)<=(y))=false:=zM d
         have u:=zh d;clear d s;go_wp2;refine hX.o _ _ _ zo rfl ⟨k+1,_,zo,rfl,rfl,?_⟩;rw[l.o.1,l.o.2,M.o,zJ (show ¬(x)<=(y)by have:=u.o;omega),yR];exact v.o)
  .have t':decide (y<x)=true:=zN zo;have HS:=zh (d' zo);have HO:=zh O;clear k' d' O;go_wp2;refine hX.o _ _ _ zo rfl ⟨k+1,_,zo,rfl,rfl,?_⟩;rw[l.o.1,l.o.2,zJ (show ¬(iO (W,V)).1<=(iO (W,V)).2 by have:=HS.o;omega),yR];exact HO.o
 .obtain rfl:k=F.length:=zo;rw[Us]at O H'⊢;have HE:=zh (zi (Qs F) (show ic ((jX F).map lL)=lw F from rfl));have y':=zh (Xf F);generalize (jX F).map lL=L at*
  have r':=eH (m:=m) O.row y'.o;have l':=O.bJ;have HN:=zh (zq _ L _ wr l'.ay r' HE.o.1 zo);have z':=zh l';clear r' l' O y'
  go_wp2_with fail
  refine HN.o.mono ?_;rintro e w2 ⟨r,rfl,hb,hr⟩;rw[HE.o.2]at hr;have j:=z'.o.call hb;have Hfin:=zh (zi j.az (bV j.done hr));obtain⟨ra,rc,rfl⟩:=dR hr;clear HN z' HE hb hr j;go_wp2;exact qai
def QO(l:List bT)(k:Nat):List bT:=(l.take k).map fG
theorem UJ(l:List bT)(k:Nat)(h:k<l.length):QO l (k+1)=QO l k++[fG l[k]]:=by
 unfold QO;rw[zH h,yI];rfl
theorem Xj(l:List bT):QO l l.length=l.map fG:=by unfold QO;rw[yG]
theorem P6{l:List bT}(h:∀s∈l,Un s):∀s∈l.map fG,kM s:=fun s a=>by
 obtain⟨t,ht,rfl⟩:=yD.1 a;have:=h t ht;unfold Un at this;unfold kM fG bU;dsimp only;omega
theorem JN(S vf:zV)(I L:List bT)(m:Mem)(w:zW)(hm:m.ay w)(hi:df m S I)(hf:df m vf L)(H:∀s∈L,Un s)(f':L.length<=1000000):
 zC 142 #[S,vf] w fun e w'=>∃rf,e=.returned (.agg #[S,rf])/\zB w w'/\bZ (m.grow w w') S rf I (L.map fG):=by
 have Q:=zh (zi (P6 H) hi);obtain⟨P,O,rfl⟩:=dR hi;obtain⟨af,cf,rfl,i1,i2,i3⟩:=hf;unfold maxLen at i2;have HO:=zh ((((Own.start hm).al #[.slice none 0 0,.slice none 0 0] 24).al #[.slice P I.length O,.slice none 0 0] 24).dL 139 2);clear hi;refine aj fun R hR=>?_
 go_enter func142,ntmps142
 go_wp2;refine av [4,5,10,11,12] (fun n vs U=>∃(k:Nat) (V:zV),k<=L.length/\n=L.length-k/\vs=[.pointer (some ⟨w.heap.size,0,none⟩),.pointer (some ⟨w.heap.size+1,0,none⟩),.slice af L.length cf,.int .i64 L.length,.int .i64 k] /\
  Own w m U m [.obj (w.heap.size+1) 24 #[.slice P I.length O,V],.row V 139 2 k (bI (QO L k)),.obj w.heap.size 24 #[.slice none 0 0,.slice none 0 0]]) ?_ ?_
 .refine⟨_,0,.slice none 0 0,zG _,rfl,rfl,?_⟩;have:=HO.o.au;simp only[bR]at this;exact this
 clear HO;rintro X z n vs U hX-⟨k,V,hk,rfl,rfl,a⟩;simp[aX,lk];obtain⟨t,r,rfl⟩:=aT a.au.row;by_cases hlt:k<L.length
 .obtain⟨b,off,rfl,h4⟩:=i3 qdX;have T:=h4 k hlt;have r1:=Mem_cell_w a.ay T.1;have r2:=Mem_cell_w a.ay T.2.1;have rl:=Mem_cell_lt a.ay T.1;have d:=H L[k] (zF hlt);have HS:=zh (UJ L k hlt);generalize QO L k=Z at*
  clear h4 T;generalize L[k]=q at*
  obtain⟨C,B⟩:=q;unfold Un at d;simp only at r1 r2 d;have F:=a.obj;have l1:=F.lt;have b':=zh (fun w'=>zn C w' d.1 d.2.1);have a':=zh (fun w'=>zn B w' d.2.2.1 d.2.2.2);go_wp2;have A:=(a.al #[.int .i64 C,.int .i64 B] 139).dr;refine jC (fun w'=>bH w' (w.heap.size+1) 24 #[.slice P I.length O,.slice t k r]/\bH w' U.heap.size 139 #[.int .i64 C,.int .i64 B]) 12 zk ?_;have D:=zi A.au.obj A.obj;refine aI 0 rfl zk qfc D qff ?_;refine aI 1 rfl zk qfc D qff ?_;refine aI 2 rfl zk qfc D qff ?_;refine aI 3 rfl zk qfc D qff ?_;refine aI 5 rfl zk qfc D qff ?_;refine aI 6 rfl zk qfc D qff ?_;refine aV 4 zk (aJ rfl rfl (dX zg (b'.o _) ?_));rintro e w1 ⟨rfl,K⟩;have y:=A.aP K;refine⟨_,rfl,jb (zi y.au.obj y.obj) fun Y=>?_⟩;refine aV 7 zk (aJ rfl rfl (dX zg (a'.o _) ?_));rintro e w2 ⟨rfl,J⟩;have f:=y.aP J;refine⟨_,rfl,jb (zi f.au.obj f.obj) fun M=>?_⟩;refine aI 8 rfl zk qfc M qfk ?_;refine aV 9 zk (aJ rfl rfl (aN qem (jb (zi (f.au.obj.al _) (f.obj.al _)) fun W=>?_)));go_simp;have hO4:=f.al #[.int .i64 (bU C),.int .i64 (bU B)] 139;refine aV 10 zk (aJ rfl rfl (iG gu (.tmp 17) (.tmp 25) rfl (.slice t k r) k (bI Z) rfl hO4.dZ.row ⟨w2.heap.size,0,none⟩ 1 1 [.int .i64 (bU C),.int .i64 (bU B)] rfl rfl (hO4.obj.cZ rfl) qdZ qdY zo (fun va vc w3 j p g=>?_)));have x:=hO4.dZ.app j p g (zI _);refine jb (zi x.dZ.obj x.bA.obj) fun u=>?_;refine aI 11 rfl zk qfc u qfk ?_;have f3:=u.1.frozen 1;have c3:=u.1.cell (i:=1) rfl;refine aV 12 zk (aJ rfl rfl (cO qeI (lD rfl ?_)));refine gG zk ?_ _;have N:=x.dZ.set 1 (.slice va (k+1) vc);have Hfin:=zh N.kY.kY;clear N x hO4 f y A a j p g D Y M W u f3 c3 F K J;go_wp2;refine hX.o _ _ _ zo rfl ⟨k+1,.slice va (k+1) vc,zo,rfl,rfl,?_⟩;rw[HS.o];have e:Z++[fG (C,B)]=Z++[(bU C,bU B)]:=rfl;rw[e,bM];exact Hfin.o
 .obtain rfl:k=L.length:=zo;rw[Xj]at a;have c1:=a.obj.c 0;have c2:=a.obj.c 1;have g3:=a.bA.obj.c 0;have g4:=a.bA.obj.c 1;have g5:=a.bA.obj.frozen 0;have g6:=a.bA.obj.frozen 1;have g7:=a.bA.obj.lt;have G:(L.map fG).length=L.length:=xC ..;have hO4:=(a.bA.set 0 (.slice P I.length O)).set 1 (.slice t L.length r);have E:=eH (m:=m) (l:=L.map fG) (by rw[G];exact hO4.bA.row) Q.o.1;have hfin:bZ (m.grow w _) _ _ I (L.map fG):=⟨bV hO4.done Q.o.2,bV hO4.bA.bJ.done E⟩;have g8:=hO4.obj.c 0;have g9:=hO4.obj.c 1;have Hfin:=zh qfU;clear E hfin hO4 a G;go_wp2;refine yV (v:=.agg #[.slice P I.length O,.slice t L.length r]) (by simp[results,results142,go_sem,g8,g9]) rfl ?_;exact qai
theorem vU(A B:zV)(I F:List bT)(m:Mem)(w:zW)(Y:m.ay w)(H:bZ m A B I F)(O:I.length<=100000)(P:F.length<=100000):
 zC 96 #[.agg #[A,B]] w fun e w'=>∃M rf,e=.returned (.agg #[M,rf])/\zB w w'/\bZ (m.grow w w') M rf (dz I F).i (dz I F).rf:=by
 have hO:=((Own.start Y).al #[A,B] 24).al #[.slice none 0 0,.slice none 0 0] 24;have h:(w.alloc (.cells #[A,B] 24)).heap.size=w.heap.size+1:=by simp
 rw[h]at hO;obtain⟨T,S,J,Q,rfl,rfl⟩:=H.eG;have y:=(jf I F).rk;have N:=(jL O P).f;have l:(dz I F).i=mZ I/\(dz I F).f=lw F:=⟨rfl,rfl⟩;have z:=zh (zi y N);clear y N;have K:=zh hO;have C:=zh (zi l H);clear hO H h l;refine aj fun R hR=>?_;generalize dz I F=x at*
 go_enter func96,ntmps96
 go_upto_region 1 with(fail)
 refine aR [2] (fun L w'=>∃(mk':Mem) (s q:Option Addr) (p n:Nat),L=[.pointer (some ⟨w.heap.size+1,0,none⟩)] /\
  Own w m w' mk' [.obj (w.heap.size+1) 24 #[.slice s x.i.length p,.slice q x.rf.length n]] /\
  bZ mk' (.slice s x.i.length p) (.slice q x.rf.length n) x.i x.rf) ?_ ?_
 .intro X Z;refine bz 5 5 (fun j=>[aD.is (·=.agg #[.slice T I.length S,.slice J F.length Q]),aD.mem m [1] (qZ x.i),aD.is (·=.agg #[.slice T I.length S,.slice J F.length Q]),aD.mem m [3] (qZ x.f),aD.mem m [4,1,3] (dY x.i x.rf)].getD j aD.any) zk zk ?_ ?_
  .intro i hi o win a g ho RA;have HO2:=K.o.dr.aP RA.az;have p1:=HO2.au.obj.c 0;have p2:=HO2.au.obj.c 1;rcases(show i=0\/i=1\/i=2\/i=3\/i=4 by omega)with rfl|rfl|rfl|rfl|rfl
   .have e1:=RA.k 1;exact qaa
   .have e3:zt a 3 _:=RA.d 0 rfl;cases ho;refine we rfl rfl (DV _ _ I F m g HO2.ay C.o.2 O) ?_;rintro e w' ⟨r,rfl,hb,hn⟩;rw[<-C.o.1.1]at hn;exact⟨_,rfl,_,rfl,hb,ig qZ.le HO2.ay hb (ry hn)⟩
   .have e1:=RA.k 1;exact qaa
   .have e5:zt a 5 _:=RA.d 2 rfl;cases ho;refine we rfl rfl (BG _ _ I F m g HO2.ay C.o.2 P) ?_;rintro e w' ⟨r,rfl,hb,hn⟩;rw[<-C.o.1.2]at hn;exact⟨_,rfl,_,rfl,hb,ig qZ.le HO2.ay hb (ry hn)⟩
   .have e4:(aD.mem m [1] (qZ x.i)).holds (a.tmps.getD 4 undef) win g:=RA.d 1 rfl;have e6:(aD.mem m [3] (qZ x.f)).holds (a.tmps.getD 6 undef) win g:=RA.d 3 rfl;cases ho;obtain⟨r1,s1,k1,W⟩:qZ _ _ _:=e4;obtain⟨r2,s2,k2,V⟩:qZ _ _ _:=e6;refine we rfl rfl (JN _ _ x.i x.f (m.gU g win [1,3]) g qfF (bV qfr W) (bV qfr V) z.o.1 (by have:=z.o.2;omega)) ?_;rintro e w' ⟨rf,rfl,hb,hn⟩;exact qby
  .intro win a g E;have e2:=E.keep 2 zk;have e7:(aD.mem m [4,1,3] (dY x.i x.rf)).holds (a.tmps.getD 7 undef) win g:=E.fact 4 _ zo rfl;obtain⟨s,p,q,n,f1,u⟩:dY _ _ _ _:=e7;have b:=K.o.bL.dr.region E.az win [4,1,3] (fun d hd=>(E.ik d qeg).1);have U:=zh E;generalize m.gU g win [4,1,3]=D at*
   have HK:=zh u;clear E u;have J:=b.obj.frozen 0;have i':=b.obj.frozen 1;have b2:=b.obj.c 0;have h':=b.obj.c 1;have b3:=b.obj.lt;have G:=(b.set 0 (.slice s x.i.length p)).set 1 (.slice q x.rf.length n);refine eF 5 zk (aJ rfl rfl (cO zg ?_));obtain⟨t,d⟩:=a;obtain rfl:d=[]:=U.o.defers;refine bY zk (Z.o _ _ U.o.size ⟨D,s,q,p,n,?_,G,HK.o⟩) _;simp only[yL,xB,e2]
   rfl
 rintro z2 L w2-⟨mk',s,q,p,n,rfl,hO,hr⟩;simp[aX,lk];have g5:=hO.obj.c 0;have g6:=hO.obj.c 1;have Hk:=zh qfn;clear hO hr K;go_wp2;refine yV (v:=.agg #[.slice s x.i.length p,.slice q x.rf.length n]) (by simp[results,results96,go_sem,g5,g6]) rfl ?_;exact qax
theorem zf(v v':zV)(l l':List bT)(m:Mem)(w:zW)(y:m.ay w)(A:df m v l)(i:df m v' l'):
 zX 141 #[v,v'] w (.bool (tf (l=l'))):=by
 obtain⟨a,c,rfl,O,E,D⟩:=A;obtain⟨L,K,rfl,F,q,p⟩:=i;unfold maxLen at E q;refine aj fun R hR=>?_;by_cases hlen:l.length=l'.length
 .have g:((l.length:Int) != (l'.length:Int))=false:=by simp[hlen]
  have Hlen:=zh hlen;clear hlen
  go_enter func141,ntmps141
  go_wp2;refine av [0,1,12,13] (fun n u t=>∃k:Nat,k<=l.length/\n=l.length-k/\u=[.slice a l.length c,.slice L l'.length K,.int .i64 l.length,.int .i64 k]/\(l=l'↔l.drop k=l'.drop k)/\zB w t) ?_ ?_
  .exact qaA
  rintro X z n u t hX-⟨k,N,rfl,rfl,f,hbel⟩;have Hrel:=zh f;clear f;simp[aX,lk];have d:=Mem_inn_below y hbel;by_cases hlt:k<l.length
  .have hlt':k<l'.length:=by rw[<-Hlen.o];exact hlt
   obtain⟨b,off,rfl,C⟩:=D qdX;obtain⟨S,x,rfl,j⟩:=p qd3;obtain⟨H,G,-⟩:=C k hlt;obtain⟨s,r,-⟩:=j k hlt';have Q:=Mem_cell_w d H;have P:=Mem_cell_w d G;have J:=Mem_cell_w d s;have I:=Mem_cell_w d r;have HD:=zh qfo;have M:=fun w=>JG (l[k].1) (l[k].2) (l'[k].1) (l'[k].2) w;have B:=Kc;have He:=zh (Yu l[k] l'[k]);go_wp2
   go_quiet (fail)
   go_wp2
   .exact qbp
   .exact qa3
  .exact qam
 .have g:((l.length:Int) != (l'.length:Int))=true:=by simp;omega
  go_enter func141,ntmps141
  exact qaC
theorem NB(b d l n:zV)(I F J G:List bT)(m:Mem)(w:zW)(q:m.ay w)(k:bZ m b d I F)(j:bZ m l n J G):
 zX 95 #[.agg #[b,d],.agg #[l,n]] w (.bool (tf (I=J/\F=G))):=by
 have g:=((Own.start q).al #[b,d] 24).al #[l,n] 24;have a:(w.alloc (.cells #[b,d] 24)).heap.size=w.heap.size+1:=by simp
 rw[a]at g;have HA:=zh (zf _ _ I J m _ g.ay k.i j.i);have HB:=zh (fun w' (h:m.ay w')=>zf _ _ F G m w' h k.f j.f);obtain⟨z,u,x,s,rfl,rfl⟩:=k.eG;obtain⟨y,t,v,r,rfl,rfl⟩:=j.eG;have HO:=zh g;clear g a k j;refine aj fun R hR=>?_
 go_enter func95,ntmps95
 go_wp2_with fail
 refine HA.o.mono ?_;rintro e p ⟨rfl,hb1⟩;have hO1:=HO.o.aP hb1;by_cases e1:I=J
 .rw[aO e1];have HB1:=zh (HB.o p hO1.ay);have q0:=hO1.obj.c 1;have q1:=hO1.au.obj.c 1;have HO1:=zh hO1;have E1:=zh e1;clear HO hO1 hb1 HA HB e1
  go_wp2_with fail
  exact qbe
 .exact qbJ
theorem Lp(f g:zV)(I F:List bT)(m:Mem)(w:zW)(v:m.ay w)(h:bZ m f g I F)(x:I.length<=100000)(y:F.length<=100000):
 zX 63 #[.agg #[f,g]] w (.bool (tf (I=(dz I F).i/\F=(dz I F).rf))):=by
 have l:=(Own.start v).al #[f,g] 24;obtain⟨r,p,q,n,rfl,rfl⟩:=h.eG;have HO:=zh l;have s:=zh h;clear l h;refine aj fun R hR=>?_
 go_enter func63,ntmps63
 go_upto_region 1 with(fail)
 refine aR [2] (fun vs w'=>vs=[.bool (tf (I=(dz I F).i/\F=(dz I F).rf))]/\zB w w') ?_ ?_
 .intro Y hY;refine bz 5 5 (fun j=>[aD.is (·=.agg #[.slice r I.length p,.slice q F.length n]),aD.is (·=.agg #[.slice r I.length p,.slice q F.length n]),aD.mem m [2] (dY (dz I F).i (dz I F).rf),aD.is (·=.bool (tf (I=(dz I F).i/\F=(dz I F).rf))),aD.is (·=.bool (tf (I=(dz I F).i/\F=(dz I F).rf)))].getD j aD.any) zk zk ?_ ?_
  .intro i hi o win a wr ho b;have HO3:=HO.o.dr.aP b.az;have K:=HO3.obj.c 0;have J:=HO3.obj.c 1;rcases(show i=0\/i=1\/i=2\/i=3\/i=4 by omega)with rfl|rfl|rfl|rfl|rfl
   .have B:=b.k 1;exact qaa
   .have B:=b.k 1;exact qaa
   .have M:zt a 4 _:=b.d 1 rfl;cases ho;refine we rfl rfl (vU _ _ I F m wr HO3.ay s.o x y) ?_;exact qcB
   .have N:zt a 3 _:=b.d 0 rfl;have A:(aD.mem m [2] (dY (dz I F).i (dz I F).rf)).holds (a.tmps.getD 5 undef) win wr:=b.d 2 rfl;cases ho;obtain⟨H,D,G,C,f1,t⟩:dY _ _ _ _:=A;have u:=s.o.le (Mem_le_wins HO3.ay win [2]);refine we rfl rfl (NB _ _ _ _ I F (dz I F).i (dz I F).rf _ wr (Mem_wins_inn HO3.ay win [2]) u t) ?_;exact qab
   .have L:zt a 6 _:=b.d 3 rfl;exact qaa
  .exact qaM
 exact qb6
theorem K4:gz prog 192 2 1 8:=⟨underlying192,zo,by
 obtain⟨i,d,c,b,a⟩:=info_parts (P:=prog) (e:=2) (z:=.int .i64 0) (size:=1) (bytes:=8) zk;exact⟨i,_,d,c,b,a,rfl⟩⟩
def uN(l:List bT)(k:Nat):List Int:=(l.take k).flatMap fun s=>[s.1*10000,s.2*10000]
def Ch(s:bT):List Int:=[s.1,s.2]++if s.1<0/\s.2 > 0 then[1]else[]
def o5(l:List bT)(k:Nat):List Int:=(l.take k).flatMap Ch
theorem Ij(l:List bT)(k:Nat)(h:k<l.length):uN l (k+1)=uN l k++[l[k].1*10000,l[k].2*10000]:=by
 unfold uN;exact qb5
theorem Ii(l:List bT)(k:Nat)(h:k<l.length):o5 l (k+1)=o5 l k++Ch l[k]:=by
 unfold o5;exact qb5
theorem V7(l:List bT)(k:Nat):k<=l.length->(uN l k).length<=2*k:=by
 induction k with
 |zero=>intro _;simp[uN]
 |succ k ih=>intro h;rw[Ij l k zo,zL];have:=ih zo;simp only[yO,List.length_nil];omega
theorem V5(s:bT):(Ch s).length<=3:=by unfold Ch;split<;>simp
theorem V6(l:List bT)(k:Nat):k<=l.length->(o5 l k).length<=3*k:=by
 induction k with
 |zero=>intro _;simp[o5]
 |succ k ih=>intro h;rw[Ii l k zo,zL];have:=ih zo;have:=V5 l[k];omega
theorem Yg(x:NS):uN x.i x.i.length++o5 x.rf x.rf.length=Ih x:=by
 unfold uN o5 Ih;rw[yG,yG];rfl
theorem Yi{x:NS}(h:gM x):∀u∈Ih x,-1000000000000002<=u/\u<=1000000000000002:=fun u a=>by
 unfold Ih at a;rcases yP.1 a with a|a
 .obtain⟨s,b,a⟩:=xW.1 a;have c:=h.bi s b;have d:=h.ni.ok s b;simp only[il]at c;simp at a;omega
 .obtain⟨s,b,a⟩:=xW.1 a;have c:=h.inF s b;unfold lI at c;rcases yP.1 a with a|a
  .simp at a;omega
  .split at a
   .simp at a;omega
   .cases a
theorem UF(u v:Int)(w:zW)(b : -1000000000000002<=u/\u<=1000000000000002)(a : -1000000000000002<=v/\v<=1000000000000002):
 zX 204 #[.int .i64 u,.int .i64 v] w (.bool (decide (iB u v))):=Jb u v w b.1 b.2 a.1 a.2
theorem We(l:List Int)(k:Nat)(h:k<l.length):d9 (l.take (k+1)) none=d9 [l[k]] (d9 (l.take k) none):=by
 rw[zH h,nT]
theorem Lu(vi vf:zV)(I F:List bT)(m:Mem)(w:zW)(hm:m.ay w)(h1:bZ m vi vf I F)(hI:I.length<=100000)(hF:F.length<=100000):
 zX 167 #[.agg #[vi,vf]] w (.tuple #[.int .i64 ((dm (dz I F)).getD 0),.bool (dm (dz I F)).isSome]):=by
 have d:=(Own.start hm).al #[vi,vf] 24;have HM:=zh (vU _ _ I F m _ d.ay h1 hI hF);obtain⟨a1,c1,b1,d1,rfl,rfl⟩:=h1.eG;have a':=jL hI hF;have B:=jf I F;have l1:=a'.i;have l2:=a'.f;rw[<-NS.tH]at l2;have HX:=zh (zi B.inI (zi B.inF (zi (fun s H=>B.bi s H) (zi (Yi B) B))));have Q:=zh d;clear d h1 a' B;generalize dz I F=x at*
 refine aj fun R hR=>?_
 go_enter func167,ntmps167
 go_wp2_with fail
 refine HM.o.mono ?_;rintro e w1 ⟨ri,rf,rfl,p',b'⟩;have a:=Q.o.call p';obtain⟨xa,xc,ya,yc,rfl,rfl⟩:=b'.eG;have hO2:=(a.al #[.slice xa x.i.length xc,.slice ya x.rf.length yc] 24).dL 2 1;generalize m.grow (w.alloc (.cells #[.slice a1 I.length c1,.slice b1 F.length d1] 24)) w1=mk at*
 have HK:=zh (zi hO2.kY b');clear a hO2 b' p' HM Q;go_wp2;generalize w1.heap.size=S at*
 refine av [4,5,17,18,19] (fun n T P=>∃(k:Nat) (Z:zV),k<=x.i.length/\n=x.i.length-k/\T=[.pointer (some ⟨S,0,none⟩),Z,.slice xa x.i.length xc,.int .i64 x.i.length,.int .i64 k] /\
  (∀s∈x.i.take k,¬(s.1<=0/\s.2 >= 0))/\Own w m P mk [.row Z 2 1 (uN x.i k).length ((uN x.i k).map (Value.int .i64)),.obj S 24 #[.slice xa x.i.length xc,.slice ya x.rf.length yc]]) ?_ ?_
 .exact⟨_,0,.slice none 0 0,zG _,rfl,rfl,(fun s h=>by cases h),HK.o.1⟩
 rintro X z n T P hX-⟨k,Z,hk,rfl,rfl,hnz,d⟩;simp[aX,lk];obtain⟨A,y,rfl⟩:=aT d.row;have l':=V7 x.i k hk;by_cases hlt:k<x.i.length
 .obtain⟨ad,cc,e,q1,q2,q3⟩:=HK.o.2.i;injection e with e1 e2 e3;subst e1;obtain⟨b,off,rfl,W⟩:=q3 qdX;have E:=W k hlt;have r1:=Mem_cell_w d.ay E.1;have r2:=Mem_cell_w d.ay E.2.1;have rl:=Mem_cell_lt d.ay E.1;have n':=HX.o.2.2.1 x.i[k] (zF hlt);simp only[il]at n';have U:=HX.o.1 x.i[k] (zF hlt);have HZ:=zh (fun(h:x.i[k].1<=0/\x.i[k].2 >= 0)=>Oj HX.o.2.2.2.2 ⟨x.i[k],zF hlt,h⟩);have HT:=zh (show ¬(x.i[k].1<=0/\x.i[k].2 >= 0)->∀s∈x.i.take (k+1),¬(s.1<=0/\s.2 >= 0) from fun h s H=>by
   rw[zH hlt]at H;rcases yP.1 H with H|H
   .exact hnz s H
   .rw[zZ]at H;rw[H];exact h)
  have HS:=zh (Ij x.i k hlt);clear W E q1 q2 q3 e3 hnz;generalize x.i[k]=q at*
  generalize hC:uN x.i (k+1)=C1 at*
  generalize uN x.i k=C at*
  obtain⟨g,j⟩:=q;unfold lI at U;simp only at r1 r2 n' U;have a:=d.al #[.int .i64 g,.int .i64 j] 139;have s1:=a.obj.c 0;have s2:=a.obj.c 1;have s3:=a.obj.lt;by_cases l:g<=0/\j >= 0
  .have N:decide (g<=0)=true:=zN l.1;have d':decide (j >= 0)=true:=zN l.2;have HF:=zh (zi (HZ.o l) a.az);clear d a l;go_wp2;exact hR.o _ _ ⟨by rw[HF.o.1];rfl,HF.o.2⟩
  .have hnz:=zh (HT.o l);have hO2:=(a.al #[.int .i64 (g*10000),.int .i64 (j*10000)] 2).bA;simp only[bR]at hO2;have hnews:=hO2.au.obj.cZ rfl;clear d a;have m':(decide (g<=0)&&decide (j >= 0))=false:=by
    rw[<-Bool.decide_and];exact zM l
   by_cases O:g<=0
   .have N:decide (g<=0)=true:=zN O;have d':decide (j >= 0)=false:=zM (fun h=>l ⟨O,h⟩);clear l O m'
    go_wp2_with (at_builtin;refine aG K4 rfl (.tmp 31) (.tmp 38) rfl (.slice A C.length y) C.length _ rfl hO2.row ⟨_,0,none⟩ 2 2 [.int .i64 (g*10000),.int .i64 (j*10000)] rfl rfl hnews qdZ qdY zo ?_)
    exact qaT
   .have N:decide (g<=0)=false:=zM O;clear l O m'
    go_wp2_with (at_builtin;refine aG K4 rfl (.tmp 31) (.tmp 38) rfl (.slice A C.length y) C.length _ rfl hO2.row ⟨_,0,none⟩ 2 2 [.int .i64 (g*10000),.int .i64 (j*10000)] rfl rfl hnews qdZ qdY zo ?_)
    exact qaT
 .obtain rfl:k=x.i.length:=zo;rw[yG]at hnz;have HZ:=zh (show ¬Fe x from fun⟨s,H,h⟩=>hnz s H h);have HA:=zh (Yg x);have Q:=zh d;have q1:=d.au.obj.c 1;have q2:=d.au.obj.lt;clear hX d hnz;generalize uN x.i x.i.length=C at*
  go_wp2;refine av [5,42,43,44] (fun n T P=>∃(k:Nat) (Z:zV),k<=x.rf.length/\n=x.rf.length-k/\T=[Z,.slice ya x.rf.length yc,.int .i64 x.rf.length,.int .i64 k] /\
   Own w m P mk [.row Z 2 1 (C++o5 x.rf k).length ((C++o5 x.rf k).map (Value.int .i64))]) ?_ ?_
  .refine⟨_,0,_,zG _,rfl,rfl,?_⟩;rw[show C++o5 x.rf 0=C by simp[o5]];exact Q.o.bL
  clear Q q1 q2;rintro Y z n T P hY-⟨k,Z,hk,rfl,rfl,d⟩;simp[aX,lk];obtain⟨A,y,rfl⟩:=aT d.row;have l':=V6 x.rf k hk;have J':(C++o5 x.rf k).length<=1000000:=by rw[zL];omega
  by_cases hlt:k<x.rf.length
  .obtain⟨ad,cc,e,q1,q2,q3⟩:=HK.o.2.f;injection e with e1 e2 e3;subst e1;obtain⟨b,off,rfl,W⟩:=q3 qdX;have E:=W k hlt;have r1:=Mem_cell_w d.ay E.1;have r2:=Mem_cell_w d.ay E.2.1;have rl:=Mem_cell_lt d.ay E.1;have HS:=zh (show C++o5 x.rf (k+1)=(C++o5 x.rf k)++Ch x.rf[k]by rw[Ii x.rf k hlt,xD]);clear W E q1 q2 q3 e3 l';generalize x.rf[k]=q at*
   generalize hD1:C++o5 x.rf (k+1)=D1 at*
   generalize C++o5 x.rf k=D at*
   obtain⟨g,j⟩:=q;simp only at r1 r2;have a:=d.al #[.int .i64 g,.int .i64 j] 139;have s1:=a.obj.c 0;have s2:=a.obj.c 1;have s3:=a.obj.lt;have hO2:=(a.al #[.int .i64 g,.int .i64 j] 2).bA;simp only[bR]at hO2;have hnews:=hO2.au.obj.cZ rfl;clear d a
   go_wp2_with (at_builtin;refine aG K4 rfl (.tmp 48) (.tmp 53) rfl (.slice A D.length y) D.length _ rfl hO2.row ⟨_,0,none⟩ 2 2 [.int .i64 g,.int .i64 j] rfl rfl hnews qdZ qdY zo ?_)
   intro va vc w7 hown7 hgrow7 hrow7;have p:=(hO2.app hown7 hgrow7 hrow7 zS).bL;clear hown7 hgrow7 hrow7 hO2 hnews s1 s2 s3;have s1:=p.au.obj.c 0;have s2:=p.au.obj.c 1;have s3:=p.au.obj.lt;by_cases l:g<0/\j > 0
   .have N:decide (g<0)=true:=zN l.1;have d':decide (j > 0)=true:=zN l.2;have HZ1:=zh (show Ch (g,j)=[g,j,1]by unfold Ch;rw[zK l];rfl);have hO2:=(p.bL.al #[.int .i64 1] 2).au;have hnews:=hO2.au.obj.cZ rfl;clear l p
    go_wp2_with (at_builtin;refine aG K4 rfl (.tmp 63) (.tmp 64) rfl (.slice va (D.length+2) vc) (D.length+2) _ rfl hO2.row ⟨_,0,none⟩ 1 1 [.int .i64 1] rfl rfl hnews qdZ qdY zo ?_)
    intro Y' X' w8 M t J;have HO3:=zh (hO2.app M t J zS).bL;clear M t J hO2 hnews s1 s2 s3;exact qbb
   .have HZ1:=zh (show Ch (g,j)=[g,j]by unfold Ch;rw[zJ l];rfl);have HO3:=zh p.bL;by_cases O:g<0
    .have N:decide (g<0)=true:=zN O;have d':decide (j > 0)=false:=zM (fun h=>l ⟨O,h⟩);clear l p O;exact qbb
    .have N:decide (g<0)=false:=zM O;clear l p O;exact qbb
  .obtain rfl:k=x.rf.length:=zo;rw[HA.o]at d J'⊢;have HL:=zh (Q3 HX.o.2.2.2.2 HZ.o);have c':=HX.o.2.2.2.1;have N':=zh We;generalize Ih x=L at*
   have G:=dS (m:=mk) d.row (fun u hu=>by have:=c' u hu;omega);have a:=d.bJ;generalize mk.iw P (.slice A L.length y)=G' at*
   have s':=zh a;have M':=zh c';obtain⟨la,lc,e,i1,i2,i3⟩:=G;injection e with e1 e2 e3;subst e1 e3;unfold maxLen at i2;clear hY d a c' HA HZ;go_wp2;refine av [10,11,67,68,69] (fun n T P=>∃(k:Nat) (r:Option Int),k<=L.length/\n=L.length-k/\T=[.int .i64 (r.getD 0),.bool r.isSome,.slice A L.length y,.int .i64 L.length,.int .i64 k] /\
    r=d9 (L.take k) none/\Gb r/\Own w m P G' []) ?_ ?_
   .exact⟨_,0,none,zG _,rfl,rfl,rfl,(fun u h=>by cases h),s'.o⟩
   clear s';rintro V z n T P hV-⟨k,r,hk,rfl,rfl,hr,K,d⟩;simp[aX,lk];by_cases hlt:k<L.length
   .obtain⟨b,off,rfl,W⟩:=i3 qdX;obtain⟨E,H'⟩:=W k hlt;have r1:=Mem_cell_w d.ay E;have rl:=Mem_cell_lt d.ay E;have G:=N'.o L k hlt;rw[<-hr]at G;have hu:=M'.o L[k] (zF hlt);have HS:=zh (zi G (AO K hu.1 hu.2));clear G W E H' hr;generalize e':d9 (L.take (k+1)) none=B1 at*
    generalize L[k]=u at*
    have Q:=zh d;clear d
    cases r with
    |none=>
     clear K;go_wp2
     exact hV.o _ _ _ zo rfl ⟨k+1,some u,zo,rfl,rfl,by rw[e',HS.o.1];rfl,HS.o.2,Q.o⟩
    |some v=>
     have hv:=K v rfl;have HN:=zh (UF u v P hu hv);clear hu hv K
     go_wp2_with fail
     refine HN.o.mono ?_;rintro e w2 ⟨rfl,o'⟩;have r':=zh (Q.o.aP o');clear HN Q o';by_cases hn:iB u v
     .rw[zN hn];have HB:=zh (show d9 [u] (some v)=some u from by simp[d9,hn]);clear hn;go_wp2;exact hV.o _ _ _ zo rfl ⟨k+1,some u,zo,rfl,rfl,by rw[e',HS.o.1,HB.o],by rw[<-HB.o];exact HS.o.2,r'.o⟩
     .rw[zM hn];have HB:=zh (show d9 [u] (some v)=some v from by simp[d9,hn]);clear hn;go_wp2;exact hV.o _ _ _ zo rfl ⟨k+1,some v,zo,rfl,rfl,by rw[e',HS.o.1,HB.o],by rw[<-HB.o];exact HS.o.2,r'.o⟩
   .obtain rfl:k=L.length:=zo;rw[yG]at hr;have HF:=zh (zi (hr.trans HL.o) d.az);clear d hr K;go_wp2;exact hR.o _ _ ⟨by rw[<-HF.o.1];rfl,HF.o.2⟩
end Cl
