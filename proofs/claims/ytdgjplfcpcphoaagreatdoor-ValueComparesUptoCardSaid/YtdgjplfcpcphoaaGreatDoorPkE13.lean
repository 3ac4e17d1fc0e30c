/- Lemmas for the proofs of chapter 11. -/
import Derived.Test.YtdgjplfcpcphoaaGreatDoorPkE12
set_option maxRecDepth 100000
set_option maxHeartbeats 16000000
namespace Cl
open Go Go.RowKit Go.Proofs Tryz
theorem iH:o7 prog 33 9:=⟨Tryz.isAgg33,Tryz.sizeOf33⟩
theorem iY:o7 prog 35 18:=⟨Tryz.isAgg35,Tryz.sizeOf35⟩
theorem uY:o7 prog 58 20:=⟨Tryz.isAgg58,Tryz.sizeOf58⟩
theorem uX:o7 prog 61 19:=⟨Tryz.isAgg61,Tryz.sizeOf61⟩
theorem K3:o7 prog 29 6:=⟨Tryz.isAgg29,Tryz.sizeOf29⟩
theorem j6(v:Vl)(s:Sl)(m:Mem)(n:Nat)(w:zW)(D:m.ay w)(x:bG m n s v):
 zX 34 #[v.val s] w (dE (v,v) s s):=by
 have q:=(Own.start D).al (bu v s).toArray 33;have t:=gW (d:=(v,v)) x x;unfold Vl.val dE;rw[show fK (v,v) s s=bu v s++bu v s from rfl]at*
 have r:∃k j i h g f c b a,bu v s=[k,j,i,h,g,f,c,b,a]:=⟨_,_,_,_,_,_,_,_,_,rfl⟩;obtain⟨k,j,i,h,g,f,c,b,a,r⟩:=r;rw[r]at q t⊢;have A:=zh (fun o=>((q.al' o).eO (yF ..)).all);have p:=q.al uG 35;simp only[bR]at p;have l:=zh (zi p t);clear q t r p;refine aj fun R E=>?_
 go_enter func34,ntmps34
 go_wp2_with (first
  |refine ae iH rfl (.tmp 1) rfl rfl [k,j,i,h,g,f,c,b,a] rfl (A.o _) ?_
  | refine aM iY rfl (.tmp 2) (.tmp 5) rfl (cs:=#[k,j,i,h,g,f,c,b,a,k,j,i,h,g,f,c,b,a]) rfl rfl rfl rfl (fun u B=>l.o.2 u B) l.o.1.obj ?_)
 intro w' y z;have F:=zh (l.o.1.bN y z);have C:=iY.load (cs:=[k,j,i,h,g,f,c,b,a,k,j,i,h,g,f,c,b,a]) rfl y.all;clear l z A;go_wp2;refine yV (v:=.agg #[k,j,i,h,g,f,c,b,a,k,j,i,h,g,f,c,b,a]) (oD results34 rfl C) rfl ?_;exact E.o _ _ ⟨rfl,F.o.az⟩
theorem Am(w:zW):
 zX 36 #[] w (dE (eu,eu) dB dB):=by
 have f:=(Own.start (Mem_of_inn w)).al uG 35;have h:=zh (j6 eu dB (Mem.of w) 1 _ f.ay (bG.leaf _ true));have m:=gW (d:=(eu,eu)) (bG.leaf (Mem.of w) true) (bG.leaf (Mem.of w) true);have i:=zh f;clear f;unfold dE at*
 have hl:(fK (eu,eu) dB dB).length=18:=rfl;generalize fK (eu,eu) dB dB=N at*
 refine aj fun R l=>?_
 go_enter func36,ntmps36
 go_wp2_with fail
 refine h.o.mono ?_;rintro e p ⟨rfl,b⟩;have a:=zh (i.o.aP b);clear i h b
 go_wp2_with (refine aM iY rfl (.tmp 0) (.tmp 2) rfl (cs:=N.toArray) rfl rfl rfl qea (fun u j=>m u j) a.o.obj ?_)
 intro w' c g;have n:=zh (a.o.bN c g);have k:=iY.load hl c.all;clear a g c;go_wp2;exact yV (v:=.agg N.toArray) (oD results36 rfl k) rfl (l.o _ _ ⟨rfl,n.o.az⟩)
theorem rq(w:zW):
 zX 38 #[] w (dE (ja,ja) dB dB):=by
 have d:=(Own.start (Mem_of_inn w)).al uG 35;have b:=zh d;clear d;refine aj fun R g=>?_
 go_enter func38,ntmps38
 go_wp2_with (refine aM iY rfl (.tmp 0) (.tmp 1) rfl (cs:=uG) rfl rfl rfl rfl zD b.o.obj ?_)
 intro w' a c;have h:=zh (b.o.bN a c);have f:=iY.load (cs:=uG.toList) rfl a.all;clear b c a;go_wp2;exact yV (v:=.agg uG) (oD results38 rfl f) rfl (g.o _ _ ⟨rfl,h.o.az⟩)
theorem Li(v:Vl)(s:Sl)(m:Mem)(n:Nat)(w:zW)(D:m.ay w)(x:bG m n s v):
 zX 39 #[v.val s] w (dE (v,v) s s):=by
 have q:=(Own.start D).al (bu v s).toArray 33;have t:=gW (d:=(v,v)) x x;unfold Vl.val dE;rw[show fK (v,v) s s=bu v s++bu v s from rfl]at*
 have r:∃k j i h g f c b a,bu v s=[k,j,i,h,g,f,c,b,a]:=⟨_,_,_,_,_,_,_,_,_,rfl⟩;obtain⟨k,j,i,h,g,f,c,b,a,r⟩:=r;rw[r]at q t⊢;have A:=zh (fun o=>((q.al' o).eO (yF ..)).all);have p:=q.al uG 35;simp only[bR]at p;have l:=zh (zi p t);clear q t r p;refine aj fun R E=>?_
 go_enter func39,ntmps39
 go_wp2_with (first
  |refine ae iH rfl (.tmp 1) rfl rfl [k,j,i,h,g,f,c,b,a] rfl (A.o _) ?_
  | refine aM iY rfl (.tmp 2) (.tmp 5) rfl (cs:=#[k,j,i,h,g,f,c,b,a,k,j,i,h,g,f,c,b,a]) rfl rfl rfl rfl (fun u B=>l.o.2 u B) l.o.1.obj ?_)
 intro w' y z;have F:=zh (l.o.1.bN y z);have C:=iY.load (cs:=[k,j,i,h,g,f,c,b,a,k,j,i,h,g,f,c,b,a]) rfl y.all;clear l z A;go_wp2;refine yV (v:=.agg #[k,j,i,h,g,f,c,b,a,k,j,i,h,g,f,c,b,a]) (oD results39 rfl C) rfl ?_;exact E.o _ _ ⟨rfl,F.o.az⟩
theorem FP(w:zW):
 zX 37 #[] w (dE (eu,eu) dB dB):=by
 have f:=(Own.start (Mem_of_inn w)).al uG 35;have h:=zh (Li eu dB (Mem.of w) 1 _ f.ay (bG.leaf _ true));have m:=gW (d:=(eu,eu)) (bG.leaf (Mem.of w) true) (bG.leaf (Mem.of w) true);have i:=zh f;clear f;unfold dE at*
 have hl:(fK (eu,eu) dB dB).length=18:=rfl;generalize fK (eu,eu) dB dB=N at*
 refine aj fun R l=>?_
 go_enter func37,ntmps37
 go_wp2_with fail
 refine h.o.mono ?_;rintro e p ⟨rfl,b⟩;have a:=zh (i.o.aP b);clear i h b
 go_wp2_with (refine aM iY rfl (.tmp 0) (.tmp 2) rfl (cs:=N.toArray) rfl rfl rfl qea (fun u j=>m u j) a.o.obj ?_)
 intro w' c g;have n:=zh (a.o.bN c g);have k:=iY.load hl c.all;clear a g c;go_wp2;exact yV (v:=.agg N.toArray) (oD results37 rfl k) rfl (l.o _ _ ⟨rfl,n.o.az⟩)
theorem lY:gz prog 49 35 18 272:=⟨underlying49,zo,by
 obtain⟨i,d,c,b,a⟩:=info_parts (P:=prog) (e:=35) (z:=.agg uG) (size:=18) (bytes:=272) zk;exact⟨i,_,d,c,b,a,rfl⟩⟩
theorem EF(u D:zV)(c:Lc)(m:Mem)(n:Nat)(w:zW)(V:m.ay w)(K:bO (bG m n) m u c.1)(J:bO (bG m n) m D c.2)(H:c.1.length+c.2.length<=1048576):
 zC 101 #[.agg #[u,D]] w fun e w'=>∃r,e=.returned r/\zB w w'/\bO (bG (m.grow w w') n) (m.grow w w') r (bW c):=by
 obtain⟨A,y,xs,rfl,p1,q1,s,S,F⟩:=K.YA;obtain⟨z,x,L,rfl,p2,q2,q,Q,E⟩:=J.YA;have I:=((Own.start V).al #[.slice A c.1.length y,.slice z c.2.length x] 51).dL 35 18;have B:=zh (zi s q);have C:=zh (zi F E);have t:=zh I;have U:=s.len;have T:=q.len;have P:=s.one_cell;have O:=q.one_cell;clear I s q F E K J;refine aj fun R hR=>?_
 go_enter func101,ntmps101
 go_wp2_with (at_builtin;refine gT lY rfl (.tmp 4) (.tmp 6) rfl (.slice none 0 0) 0 [] rfl t.o.row A c.1.length y xs rfl U S (C.o.1 _ t.o.ay) P qdY zo ?_)
 intro va N Y j p g;have b:=t.o.app j p g zS;have W:=b.au.obj.cell (i:=1) (v:=.slice z c.2.length x) rfl;have X:=b.au.obj.cell (i:=0) (v:=.slice A c.1.length y) rfl;have d:=zh b;clear t b j p g
 go_wp2_with (at_builtin;refine gT lY rfl (.tmp 8) (.tmp 10) rfl (.slice va c.1.length N) c.1.length xs rfl d.o.row z c.2.length x L rfl T Q (C.o.2 _ d.o.ay) O qdY zo ?_)
 intro vb Z M h k f;have a:=d.o.app h k f (zI _);have G:=bO.JH (m:=m.grow w M) (l:=bW c) (by rw[bW,zL];exact a.row) (B.o.1.append B.o.2) a.free a.bJ.done;have HF:=zh (zi a.az G);clear d a h k f G X W C B;exact qaI
theorem EQ:∀w,(zeroValue 35).run prog w=.ok (.agg uG) w:=Tryz.zeroValue35
theorem BB(u L:zV)(c:St)(m:Mem)(n:Nat)(w:zW)(W:m.ay w)(E:iy (bG m n) m u c.1)(Y:gX (bG m n) m L c.2)(Q:c.1.length+c.2.length<=1048576):
 zC 102 #[.agg #[u,L]] w fun e w'=>∃r,e=.returned r/\zB w w'/\bO (bG (m.grow w w') n) (m.grow w w') r (fE c):=by
 obtain⟨J,H,rfl,p1,V,O⟩:=E;obtain⟨I,G,rfl,p2,U,M⟩:=Y;unfold maxLen at V U;have a:=(Own.start W).al #[.slice J c.1.length H,.slice I c.2.length G] 45;have S:=zh (zi O M);have HO:=zh (a.dL 35 18);clear a O M;have T:=zh (show fE c=c.1.map (·.2)++c.2.map (·.2) from rfl);generalize fE c=Z at*
 generalize c.2=g at*
 generalize c.1=d at*
 refine aj fun R hR=>?_
 go_enter func102,ntmps102
 go_wp2;refine av [1,3,4] (fun q C s=>∃(i:Nat) (v:zV) (xs:List Value),i<=d.length/\q=d.length-i/\C=[.pointer (some ⟨w.heap.size,0,none⟩),v,.int .i64 (i:Int)]/\lS (bG m n) xs ((d.take i).map (·.2)) /\
  Own w m s m [.row v 35 18 i xs,.obj w.heap.size 45 #[.slice J d.length H,.slice I g.length G]]) ?_ ?_
 .exact qcJ
 clear HO;rintro X z q C s hX-⟨i,v,xs,hi,rfl,rfl,k,a⟩;simp[aX,lk];have g0:=a.au.obj.c 0;have g1:=a.au.obj.c 1;have gl:=a.au.obj.lt;by_cases hlt:i<d.length
 .obtain⟨b,off,rfl,D⟩:=S.o.1 qdX;obtain⟨x,y,B,A,t⟩:=(D i hlt).v.cells;have F:=Mem_cell_lt a.ay (B 0 _ rfl);have K:=zh (fun j u hj=>Mem_cell_w a.ay (B j u hj));have E:=gW A t;have f:=k.push A t;rw[show(d.take i).map (·.2)++[d[i].2]=(d.take (i+1)).map (·.2)by rw[zH hlt,yI];rfl]at f;have hl:(fK d[i].2 x y).length=18:=rfl;have HV:=zh f;have p:=a.al (fK d[i].2 x y).toArray 35;generalize fK d[i].2 x y=N at*
  have HO:=zh p;clear a p k f A t B D
  go_wp2_with (first
   |refine ae iY rfl (.tmp 18) rfl rfl N hl K.o ?_
   |refine mQ lY iY EQ rfl zo rfl (.tmp 19) rfl (cs:=N.toArray) rfl qea ?_
   | (at_builtin;refine aG lY rfl (.tmp 13) (.tmp 20) rfl v i xs rfl HO.o.au.row ⟨s.heap.size,0,none⟩ 1 1 N rfl hl qe8 E qdY zo ?_))
  exact qa4
 .obtain rfl:i=d.length:=zo;rw[yG]at k;have HV:=zh k;have HO:=zh a;clear a k hX;go_wp2;refine av [1,3,5] (fun q C s=>∃(i:Nat) (v:zV) (xs:List Value),i<=g.length/\q=g.length-i/\C=[.pointer (some ⟨w.heap.size,0,none⟩),v,.int .i64 (i:Int)]/\lS (bG m n) xs (d.map (·.2)++(g.take i).map (·.2)) /\
   Own w m s m [.row v 35 18 (d.length+i) xs,.obj w.heap.size 45 #[.slice J d.length H,.slice I g.length G]]) ?_ ?_
  .exact qdK
  clear HO HV g0 g1 gl;rintro X z q C s hX-⟨i,v,xs,hi,rfl,rfl,k,a⟩;simp[aX,lk];have g0:=a.au.obj.c 0;have g1:=a.au.obj.c 1;have gl:=a.au.obj.lt;by_cases hlt:i<g.length
  .obtain⟨b,off,rfl,D⟩:=S.o.2 qdX;obtain⟨x,y,B,A,t⟩:=(D i hlt).v.cells;have F:=Mem_cell_lt a.ay (B 0 _ rfl);have K:=zh (fun j u hj=>Mem_cell_w a.ay (B j u hj));have E:=gW A t;have f:=k.push A t;rw[show d.map (·.2)++(g.take i).map (·.2)++[g[i].2]=d.map (·.2)++(g.take (i+1)).map (·.2)by rw[zH hlt,yI,xD];rfl]at f;have hl:(fK g[i].2 x y).length=18:=rfl;have HV:=zh f;have p:=a.al (fK g[i].2 x y).toArray 35;generalize fK g[i].2 x y=N at*
   have HO:=zh p;clear a p k f A t B D
   go_wp2_with (first
    |refine ae iY rfl (.tmp 34) rfl rfl N hl K.o ?_
    |refine mQ lY iY EQ rfl zo rfl (.tmp 35) rfl (cs:=N.toArray) rfl qea ?_
    | (at_builtin;refine aG lY rfl (.tmp 29) (.tmp 36) rfl v (d.length+i) xs rfl HO.o.au.row ⟨s.heap.size,0,none⟩ 1 1 N rfl hl qe8 E qdY zo ?_))
   exact qa4
  .obtain rfl:i=g.length:=zo;rw[yG]at k;have P:=bO.JH (m:=m.grow w s) (l:=Z) (by rw[T.o,zL,xC,xC];exact a.row) (by rw[T.o];exact k) a.free a.bJ.done;have HF:=zh (zi a.az P);clear a k hX P;exact qaI
theorem xx{α β:Type}(f:α->List β){l:List α}{i:Nat}(h:i<l.length):(l.take (i+1)).flatMap f=(l.take i).flatMap f++f l[i]:=by
 exact qb5
theorem BV{α β:Type}(f:α->List β):∀(l:List α) (i:Nat),((l.take i).flatMap f).length<=(l.flatMap f).length
 |[],i=>by simp
 |x::l,0=>by simp
 |x::l,i+1=>by
  have:=BV f l i;simp only[List.take_succ_cons,xO,zL];omega
theorem vT(v:Vl)(s:Sl)(m:Mem)(n:Nat)(w:zW)(hm:m.ay w)(hv:bG m (n+1) s v)(p:v.kids.length<=1048576):
 zC 68 #[v.val s] w fun e w'=>∃r,e=.returned r/\zB w w'/\bO (bG (m.grow w w') n) (m.grow w w') r v.kids:=by
 have hO:=(Own.start hm).al (bu v s).toArray 33;have P:=hv.2;have I:(bu v s).toArray[7]?=some s.l:=rfl;have H:(bu v s).toArray[8]?=some s.s:=rfl;obtain⟨a1,b1,a2,b2,a3,b3,a4,b4,a5,b5,rfl,-,-,-,q4,q5⟩:=hv.eG;obtain⟨⟨z1,y1,e1,-,-,k1⟩,⟨z2,y2,e2,-,-,k2⟩⟩:=P;simp only[Value.slice.injEq]at e1 e2;obtain⟨rfl,-,rfl⟩:=e1;obtain⟨rfl,-,rfl⟩:=e2;simp only at I H;have I:=zh I;have H:=zh H;unfold maxLen at q4 q5;unfold Vl.val;have HE:=zh (show v.kids=v.aU.flatMap bW++v.aF.flatMap fE from rfl);generalize (bu v _).toArray=N at*
 generalize v.kids=KD at*
 generalize v.aU=a at*
 generalize v.aF=KL at*
 have HK:=zh (zi k1 k2);have HO:=zh (hO.dL 35 18);have HL:=zh (show(a.flatMap bW).length+(KL.flatMap fE).length<=1048576 by have:=p;rw[HE.o,zL]at this;exact this);clear hO k1 k2 hv p;refine aj fun R hR=>?_
 go_enter func68,ntmps68
 go_wp2;refine av [1,3,4] (fun q C wr=>∃(i:Nat) (r:zV) (xs:List Value) (mk:Mem),i<=a.length/\q=a.length-i/\C=[.pointer (some ⟨w.heap.size,0,none⟩),r,.int .i64 (i:Int)]/\lS (bG mk n) xs ((a.take i).flatMap bW) /\
  Own w m wr mk [.row r 35 18 ((a.take i).flatMap bW).length xs,.obj w.heap.size 33 N]) ?_ ?_
 .exact⟨_,0,_,[],m,zG _,rfl,rfl,.nil _,HO.o⟩
 clear HO;rintro X z q C wr hX-⟨i,r,xs,mk,hi,rfl,rfl,hr,hO⟩;simp[aX,lk];have G:=hO.au.obj.cell I.o;have F:=hO.au.obj.lt;by_cases hlt:i<a.length
 .obtain⟨b,off,rfl,E⟩:=HK.o.1 qdX;obtain⟨u,L,hu,hu',B,A⟩:=E i hlt;have W:=Mem_cell_w hO.ay qfl;have V:=Mem_cell_w hO.ay qfv;have cl:=Mem_cell_lt hO.ay qfl;have d:=xx bW hlt;have y:=BV bW a (i+1);rw[d,zL]at y;have x:(bW a[i]).length=a[i].1.length+a[i].2.length:=by rw[bW,zL]
  have HF:=zh (EF u L a[i] mk n _ hO.ay (B.le hO.ext.le fun _ _ h=>h.le hO.ext.le) (A.le hO.ext.le fun _ _ h=>h.le hO.ext.le) qet);have HR:=zh (zi hr d);have HO:=zh hO;clear hO hr E hu hu' B A d x
  go_wp2_with fail
  refine HF.o.mono ?_;rintro e K ⟨r1,rfl,j,g⟩;have f:=HO.o.call j;obtain⟨Y,U,J,rfl,-,-,k,Q,D⟩:=g.YA;have c:=(HR.o.1.mono fun _ _ h=>h.le qfu).append k;rw[<-HR.o.2]at c;have HR1:=zh c;have M:=k.one_cell;have O:=k.len;have Z:=zh (D K f.ay);have HO1:=zh f;have HR:=zh (congrArg List.length HR.o.2);clear f HO HF j g k D c W V cl G F;rw[zL]at HR;generalize ((a.take i).flatMap bW).length=t at*
  go_wp2_with (at_builtin;refine gT lY rfl (.tmp 13) (.tmp 19) rfl r t xs rfl HO1.o.row Y (bW a[i]).length U J rfl O Q Z.o M (by have:=HL.o;unfold maxLen;omega) qet ?_)
  exact qaW
 .obtain rfl:i=a.length:=zo;rw[yG]at hr hO;obtain⟨T,S⟩:∃T,T=(a.flatMap bW).length:=⟨_,rfl⟩;rw[<-S]at hO;have HT:=zh S;clear S;have HV:=zh hr;have HO:=zh hO;clear hO hr hX;go_wp2;refine av [1,3,5] (fun q C wr=>∃(i:Nat) (r:zV) (xs:List Value) (mk:Mem),i<=KL.length/\q=KL.length-i/\C=[.pointer (some ⟨w.heap.size,0,none⟩),r,.int .i64 (i:Int)]/\lS (bG mk n) xs (a.flatMap bW++(KL.take i).flatMap fE) /\
   Own w m wr mk [.row r 35 18 (T+((KL.take i).flatMap fE).length) xs,.obj w.heap.size 33 N]) ?_ ?_
  .exact qdz
  clear HO HV G F;rintro X z q C wr hX-⟨i,r,xs,mk,hi,rfl,rfl,hr,hO⟩;simp[aX,lk];have G:=hO.au.obj.cell H.o;have F:=hO.au.obj.lt;by_cases hlt:i<KL.length
  .obtain⟨b,off,rfl,E⟩:=HK.o.2 qdX;obtain⟨u,L,hu,hu',B,A⟩:=E i hlt;have W:=Mem_cell_w hO.ay qfl;have V:=Mem_cell_w hO.ay qfv;have cl:=Mem_cell_lt hO.ay qfl;have d:=xx fE hlt;have y:=BV fE KL (i+1);rw[d,zL]at y;have x:(fE KL[i]).length=KL[i].1.length+KL[i].2.length:=by rw[fE,zL,xC,xC]
   have HF:=zh (BB u L KL[i] mk n _ hO.ay (B.le hO.ext.le fun _ _ h=>h.le hO.ext.le) (A.le hO.ext.le fun _ _ h=>h.le hO.ext.le) qet);have HR:=zh (zi hr d);have HO:=zh hO;clear hO hr E hu hu' B A d x
   go_wp2_with fail
   refine HF.o.mono ?_;rintro e K ⟨r1,rfl,j,g⟩;have f:=HO.o.call j;obtain⟨Y,U,J,rfl,-,-,k,Q,D⟩:=g.YA;have c:=(HR.o.1.mono fun _ _ h=>h.le qfu).append k;rw[xD,<-HR.o.2]at c;have HR1:=zh c;have M:=k.one_cell;have O:=k.len;have Z:=zh (D K f.ay);have HO1:=zh f;have HR:=zh (congrArg List.length HR.o.2);clear f HO HF j g k D c W V cl G F;rw[zL]at HR;generalize ((KL.take i).flatMap fE).length=t at*
   go_wp2_with (at_builtin;refine gT lY rfl (.tmp 28) (.tmp 34) rfl r (T+t) xs rfl HO1.o.row Y (fE KL[i]).length U J rfl O Q Z.o M qeS (by have:=HL.o;have:=HT.o;omega) ?_)
   exact qaH
  .exact qaF
theorem uR.all{p:Nat}{a c:Int}(h:uR p a c):IP p a c:=⟨h.le,h.gt,h.pos,h.top⟩
theorem uR.stop{p t:Nat}{a c:Int}(h:uR p a c)(d:p<=t)(b:a<c):IP t a c:=by
 have e:=h.le;exact⟨fun k=>zo,fun _=>b,h.pos,h.top⟩
def yt(n:Nat)(l:List Vd)(i:Nat):Nat:=1+((l.take i).map fun x=>dw n x.1+dw n x.2).sum
theorem Kr(n:Nat)(l:List Vd)(i:Nat)(h:i<l.length):yt n l (i+1)=yt n l i+(dw n l[i].1+dw n l[i].2):=by
 unfold yt;rw[zH h,yI,List.sum_append];simp;omega
theorem Ms(n:Nat):∀(l:List Vd) (i:Nat),yt n l i<=yt n l l.length
 |[],i=>by simp[yt]
 |x::l,0=>by simp[yt]
 |x::l,i+1=>by
  have:=Ms n l i;unfold yt at*
  simp only[List.take_succ_cons,yO,yL,vG,yG]at*;omega
theorem Pi(n:Nat)(v:Vl):yt n v.kids v.kids.length=dw (n+1) v:=by unfold yt;rw[yG,dw]
theorem wD{n:Nat}{v:Vl}(h:Ht (n+1) v):v.kids.length+1<=dw (n+1) v:=by
 rw[dw];have:∀l:List Vd,(∀x∈l,Ht n x.1/\Ht n x.2)->l.length<=(l.map fun x=>dw n x.1+dw n x.2).sum:=by
  intro l
  induction l with
  |nil=>intro _;simp
  |cons x l ih=>
   intro a;have b:=Bo (a x zS).1;have:=ih fun y hy=>a y qey;simp only[yL,vG,yO];omega
 have:=this v.kids h;omega
theorem tJ:∀(n:Nat) (v:Vl) (s:Sl) (d:Int) (m:Mem) (w:zW),m.ay w->bG m n s v->dw n v<=1048576 -> -4294967296<=d->d<=2147483648 ->
 zC 49 #[v.val s,.int .i64 d] w fun e w'=>∃r,e=.returned (.int .i64 r)/\zB w w'/\IP (dw n v) d r
 |0,_,_,_,_,_,_,h,_,_,_=>h.elim
 |n+1,v,s,d,m,w,hm,hv,hc,hm1,hm2=>by
  have g:=(Own.start hm).al (bu v s).toArray 33;have W:=wD hv.ht;have HV:=zh (vT v s m n _ g.ay hv zo);have HN:=zh g.obj.all;have hN:(bu v s).length=9:=rfl;have S:=zh g;have hT:=Pi n v;have E:=Ms n v.kids;rw[hT]at E;have H:=zh (zi hT (zi E hc));unfold Vl.val at*
  generalize bu v s=N at*
  generalize v.kids=k at*
  generalize dw (n+1) v=L' at*
  clear g hv hT E W;refine aj fun R hR=>?_
  go_enter func49,ntmps49
  go_wp2_with (refine ae iH rfl (.tmp 2) rfl rfl N hN HN.o ?_)
  refine HV.o.mono ?_;rintro e w1 ⟨r,rfl,K,hr⟩;have L:=S.o.call K;obtain⟨a,c,rfl,p1,q1,W⟩:=hr;have HK:=zh W;have Q:=zh L;unfold maxLen at q1;clear S HV HN K W L;generalize m.grow (w.alloc (.cells N.toArray 33)) w1=M at*
  go_wp2;refine av [1,5,6,7] (fun q vs wr=>∃(i:Nat) (x:Int),i<=k.length/\q=k.length-i/\vs=[.int .i64 d,.int .i64 x,.slice a k.length c,.int .i64 (i:Int)]/\uR (yt n k i) d x /\
   Own w m wr M [.obj w.heap.size 33 N.toArray]) ?_ ?_
  .exact⟨_,0,1,zG _,rfl,rfl,by simpa [yt]using uR.start d,Q.o⟩
  clear Q;rintro X z q vs wr hX-⟨i,x,hi,rfl,rfl,f,g⟩;simp[aX,lk];have l:=f.top;have s':=f.pos;by_cases hlt:i<k.length
  case neg=>
   obtain rfl:i=k.length:=zo;have HF:=zh (zi g.az f.all);rw[H.o.1]at HF;clear g f hX H;exact qaI
  by_cases C:x<=d
  case neg=>
   have hd:decide (x<=d)=false:=zM C;have HF:=zh (zi g.az (f.stop (H.o.2.1 i) zo));clear g f hX H;exact qaI
  have hd:decide (x<=d)=true:=zN C;obtain⟨b,off,rfl,h4⟩:=HK.o qdX;obtain⟨Z,Y,c1,r1,c2,r2⟩:=h4 i hlt;have f':=Mem_cell_lt g.ay c1.a;have A:=Mem_cell_lt g.ay c2.a;have V:=zh (fun j u I=>Mem_cell_w g.ay (c1.get (j:=j) (u:=u) I));have T:=zh (fun j u I=>c2.get (j:=j) (u:=u) I);have hs:=Kr n k i hlt;have hl:=H.o.2.1 (i+1);have hc:=H.o.2.2;have e':=Bo r1.ht;have d':=Bo r2.ht;have G:=zh (tJ n k[i].1 Z (d-x) M wr g.ay r1 zo (by split at l<;>omega) zo);have F:=zh (fun w' (h:M.ay w') mo=>tJ n k[i].2 Y mo M w' h r2 zo);have k':(bu k[i].1 Z).length=9:=rfl;have j':(bu k[i].2 Y).length=9:=rfl;have O:=zh (zi f (zi hs (zi e' d')));have S:=zh g;unfold Vl.val at G F;generalize bu k[i].1 Z=N1 at*
  generalize bu k[i].2 Y=N2 at*
  clear g c1 c2 r1 r2 h4 hs hl hc f
  go_wp2_with (refine ae iH rfl (.tmp 25) rfl rfl N1 k' V.o ?_)
  refine G.o.mono ?_;rintro e w2 ⟨y1,rfl,D,t⟩;have v':y1<=2*(d-x)+2:=by have:=t.top;split at this<;>omega
  have x':=t.pos;have y:=S.o.aP D;have f':=xP A D.size;have U:=zh (fun j u I=>Mem_cell_w y.ay (T.o j u I));have HY:=zh (F.o w2 y.ay (d-(x+y1)) zo zo);have P:=zh y;have HI:=zh t;have l:x<=2*d+2:=by split at l<;>omega
  clear S y D t V T G F A
  go_wp2_with (refine ae iH rfl (.tmp 36) rfl rfl N2 j' U.o ?_)
  refine HY.o.mono ?_;rintro e w3 ⟨y2,rfl,J,p⟩;have t':y2<=2*d+4:=by have:=p.top;split at this<;>omega
  have u':=p.pos;have o':=zh (P.o.aP J);have B:=uR.step O.o.1 C HI.o p O.o.2.2.1 O.o.2.2.2;rw[<-O.o.2.1]at B;have n':=zh B;clear P HY J p U B HI O;go_wp2;exact hX.o _ _ _ zo rfl ⟨i+1,_,zo,rfl,rfl,n'.o,o'.o⟩
structure ML (c:St):Prop where
 f:c.1.length<=6
 k:c.2.length<=6
 lab:∀f∈c.1,f.1.1.size<=40
 set:∀k∈c.2,jM k.1
theorem XO(v:Vl):ZN v↔(jM v.s.t/\v.s.i.length<=8/\v.s.f.length<=8/\v.aU.length<=4/\v.aF.length<=4)/\∀c∈v.aF,ML c:=
 ⟨fun h=>⟨⟨h.sc.2.2,h.sc.1,h.sc.2.1,h.l,h.s⟩,fun c a=>⟨h.f c a,h.k c a,h.lab c a,h.set c a⟩⟩,
  fun h=>⟨⟨h.1.2.1,h.1.2.2.1,h.1.1⟩,h.1.2.2.2.1,h.1.2.2.2.2,fun c a=>(h.2 c a).f,fun c a=>(h.2 c a).k,fun c a=>(h.2 c a).lab,fun c a=>(h.2 c a).set⟩⟩
theorem qB{α:Type}(P:α->Prop){l:List α}{i:Nat}(h:i<l.length):(∀x∈l.drop i,P x)↔P l[i]/\∀x∈l.drop (i+1),P x:=by
 rw[yE h];exact List.forall_mem_cons
theorem uD{α:Type}(P:α->Prop){l:List α}{i:Nat}(h:l.length<=i):∀x∈l.drop i,P x:=by
 rw[zQ h];simp
theorem vN{p q:Prop}(a:p):tf (p/\q)=tf q:=dh ⟨fun h=>h.2,fun h=>⟨a,h⟩⟩
theorem XP(c:St):ML c↔(c.1.length<=6/\c.2.length<=6)/\(∀f∈c.1,f.1.1.size<=40)/\∀k∈c.2,jM k.1:=⟨fun h=>⟨⟨h.f,h.k⟩,h.lab,h.set⟩,fun h=>⟨h.1.1,h.1.2,h.2.1,h.2.2⟩⟩
theorem azj{p q:Prop}(a:¬p):tf (p/\q)=false:=aA fun h=>a h.1
theorem Ay:∀(n:Nat) (v:Vl) (s:Sl) (m:Mem) (w:zW),m.ay w->bG m n s v->dw n v<=1048576 ->
 zX 50 #[v.val s] w (.bool (tf (eT n v)))
 |0,_,_,_,_,_,h,_=>h.elim
 |n+1,v,s,m,w,hm,hv,hc=>by
  have g:=(Own.start hm).al (bu v s).toArray 33;have H:=wD hv.ht;have HV:=zh (fun w' (h:m.ay w')=>vT v s m n w' h hv zo);have HT:=zh (KG s.t v.s.t m _ g.ay hv.1.t);have O:∀d∈v.kids,dw n d.1<=1048576/\dw n d.2<=1048576:=fun d hd=>by have:=vJ (n:=n) hd;omega
  have HC:=zh O;have hN:(bu v s).length=9:=rfl;have H4:(bu v s).toArray[4]?=some s.i:=rfl;have H5:(bu v s).toArray[5]?=some s.f:=rfl;have H6:(bu v s).toArray[6]?=some s.t:=rfl;have H7:(bu v s).toArray[7]?=some s.l:=rfl;have H8:(bu v s).toArray[8]?=some s.s:=rfl;have J':=hv.2.2;obtain⟨a1,b1,a2,b2,a3,b3,a4,b4,a5,b5,rfl,q1,q2,q3,q4,q5⟩:=hv.eG;obtain⟨z2,y2,e2,-,-,k2⟩:=J';simp only[Value.slice.injEq]at e2;obtain⟨rfl,-,rfl⟩:=e2;simp only at H4 H5 H6 H7 H8;have HH:=zh (zi H4 (zi H5 (zi H6 (zi H7 H8))));unfold maxLen at q1 q2 q3 q4 q5;have p:eT (n+1) v↔(jM v.s.t/\v.s.i.length<=8/\v.s.f.length<=8/\v.aU.length<=4/\v.aF.length<=4)/\(∀c∈v.aF,ML c)/\∀x∈v.kids,eT n x.1/\eT n x.2:=by
   rw[<-and_assoc,<-XO];rfl
  have HE:=zh (dh p);have HK:=zh k2;have HO:=zh g;have g6:=g.obj.cell H6;clear g hv k2 H O hc p H4 H5 H6 H7 H8;unfold Vl.val at*
  obtain⟨KP,U⟩:∃KP:Prop,KP=∀x∈v.kids,eT n x.1/\eT n x.2:=⟨_,rfl⟩;rw[<-U]at HE;have HKP:=zh U;clear U;generalize bu v _=N at*
  generalize v.kids=B at*
  generalize v.aF=A at*
  generalize v.aU.length=l4 at*
  generalize v.s.i.length=l1 at*
  generalize v.s.f.length=l2 at*
  generalize v.s.t.length=l3 at*
  generalize tf (eT (n+1) v)=FF at*
  have HNO:=zh (fun(h:¬(jM v.s.t/\l1<=8/\l2<=8/\l4<=4/\A.length<=4))=>HE.o.trans (azj h));refine aj fun R hR=>?_
  go_enter func50,ntmps50
  go_wp2_with fail
  refine HT.o.mono ?_;rintro e w1 ⟨rfl,k'⟩;have C:=HO.o.aP k';have g4:=C.obj.cell HH.o.1;have g5:=C.obj.cell HH.o.2.1;have g7:=C.obj.cell HH.o.2.2.2.1;have g8:=C.obj.cell HH.o.2.2.2.2;have HO1:=zh C;clear HO C HT k' g6;by_cases c0:jM v.s.t
  case neg=>
   have HF:=zh (HNO.o fun h=>c0 h.1);rw[aA c0];clear c0 HE HNO;go_wp2;exact hR.o _ _ ⟨by rw[HF.o]<;>rfl,HO1.o.az⟩
  rw[aO c0];by_cases c1:l1<=8
  case neg=>
   have HF:=zh (HNO.o fun h=>c1 h.2.1);exact qa1
  by_cases c2:l2<=8
  case neg=>
   have HF:=zh (HNO.o fun h=>c2 h.2.2.1);exact qa1
  by_cases c3:l4<=4
  case neg=>
   have HF:=zh (HNO.o fun h=>c3 h.2.2.2.1);exact qa1
  by_cases c4:A.length<=4
  case neg=>
   have HF:=zh (HNO.o fun h=>c4 h.2.2.2.2);exact qa1
  have y:=zh (HE.o.trans (vN ⟨c0,c1,c2,c3,c4⟩));clear HE HNO c0;go_wp2;refine av [1,3] (fun q F L=>∃(i:Nat),i<=A.length/\q=A.length-i/\F=[.pointer (some ⟨w.heap.size,0,none⟩),.int .i64 (i:Int)]/\FF=tf ((∀c∈A.drop i,ML c)/\KP) /\
   Own w m L m [.obj w.heap.size 33 N.toArray]) ?_ ?_
  .exact⟨_,0,zG _,rfl,rfl,y.o,HO1.o⟩
  clear HO1 y g4 g5 g7 g8;rintro X z q F L hX-⟨i,hi,rfl,rfl,p,g⟩;simp[aX,lk];have g8:=g.obj.cell HH.o.2.2.2.2;have gl:=g.obj.lt;by_cases hlt:i<A.length
  .obtain⟨b,off,rfl,D⟩:=HK.o qdX;obtain⟨u,u',d1,d2,kf,kk⟩:=D i hlt;obtain⟨af,cf,rfl,pf,qf,kf⟩:=kf;obtain⟨ak,ck,rfl,pk,qk,kk⟩:=kk;have K:=Mem_cell_w g.ay d1;have x2:=Mem_cell_w g.ay d2;have xl:=Mem_cell_lt g.ay d1;rw[dh (and_congr (qB ML hlt) Iff.rfl),dh (and_assoc (a:=ML A[i])),dh (and_congr (XP A[i]) Iff.rfl)]at p;have HE:=zh p;have t':=zh (zi kf kk);have HO:=zh (g.al #[.slice af A[i].1.length cf,.slice ak A[i].2.length ck] 45);unfold maxLen at qf qk;clear p g D kf kk d1 d2;generalize A[i].1=G at*
   generalize A[i].2=E at*
   by_cases V:G.length<=6/\E.length<=6
   case neg=>
    have HF:=zh (HE.o.trans (aA fun h=>V h.1.1));clear HE;by_cases c6:G.length<=6
    .have I:¬E.length<=6:=fun h=>V ⟨c6,h⟩;clear V;exact qbB
    .clear V;exact qbB
   obtain⟨V,c6⟩:=V;have m':=HE.o.trans (dh (and_congr_left fun _=>(and_iff_right (show G.length<=6/\E.length<=6 from⟨V,c6⟩))));have y:=zh m';clear m' HE;go_wp2;refine av [1,3,4,5] (fun q F Q=>∃(j:Nat),j<=G.length/\q=G.length-j/\F=[.pointer (some ⟨w.heap.size,0,none⟩),.int .i64 (i:Int),.pointer (some ⟨L.heap.size,0,none⟩),.int .i64 (j:Int)]/\FF=tf (((∀f∈G.drop j,f.1.1.size<=40)/\∀k∈E,jM k.1)/\(∀c∈A.drop (i+1),ML c)/\KP) /\
    Own w m Q m [.obj L.heap.size 45 #[.slice af G.length cf,.slice ak E.length ck],.obj w.heap.size 33 N.toArray]) ?_ ?_
   .exact⟨_,0,zG _,rfl,rfl,y.o,HO.o⟩
   clear HO y K x2 xl g8 gl;rintro Y z q F Q P-⟨j,hj,rfl,rfl,p,g⟩;simp[aX,lk];have g0:=g.obj.c 0;have g1:=g.obj.c 1;have gl:=g.obj.lt;by_cases hlj:j<G.length
   .obtain⟨b',e',rfl,D⟩:=t'.o.1 qeh;have K:=Mem_cell_w g.ay (D j hlj).s;have xl:=Mem_cell_lt g.ay (D j hlj).s;have xs:=(D j hlj).sz;unfold maxLen at xs;rw[dh (and_congr_left fun _=>and_congr_left fun _=>qB (fun f:Fd=>f.1.1.size<=40) hlj)]at p;have HE:=zh p;have HO:=zh g;clear p g D;generalize G[j].1.1=I' at*
    by_cases I:I'.size<=40
    .have y:=zh (HE.o.trans (dh (and_congr_left fun _=>and_congr_left fun _=>and_iff_right I)));clear HE;go_wp2;exact P.o _ _ _ zo rfl ⟨j+1,zo,rfl,rfl,y.o,HO.o⟩
    .have HF:=zh (HE.o.trans (aA fun h=>I h.1.1.1));clear HE;exact qbB
   .have HE:=zh (p.trans (dh (and_congr_left fun _=>and_iff_right (uD (fun f:Fd=>f.1.1.size<=40) (l:=G) (i:=j) zo))));have HO:=zh g;clear p g P;go_wp2;refine av [1,3,4,6] (fun q F Q=>∃(j:Nat),j<=E.length/\q=E.length-j/\F=[.pointer (some ⟨w.heap.size,0,none⟩),.int .i64 (i:Int),.pointer (some ⟨L.heap.size,0,none⟩),.int .i64 (j:Int)]/\FF=tf ((∀k∈E.drop j,jM k.1)/\(∀c∈A.drop (i+1),ML c)/\KP) /\
     Own w m Q m [.obj L.heap.size 45 #[.slice af G.length cf,.slice ak E.length ck],.obj w.heap.size 33 N.toArray]) ?_ ?_
    .exact⟨_,0,zG _,rfl,rfl,HE.o,HO.o⟩
    clear HO HE g0 g1 gl;rintro Y z q F Q P-⟨j,hj,rfl,rfl,p,g⟩;simp[aX,lk];have g1:=g.obj.c 1;have gl:=g.obj.lt;by_cases hlj:j<E.length
    .obtain⟨b',e',rfl,D⟩:=t'.o.2 qeh;obtain⟨ut,hu,f'⟩:=(D j hlj).s;have K:=Mem_cell_w g.ay hu;have xl:=Mem_cell_lt g.ay hu;have HT:=zh (KG ut E[j].1 m _ g.ay f');obtain⟨at',ct',rfl,-⟩:=f';rw[dh (and_congr_left fun _=>qB (fun k:Kl=>jM k.1) hlj)]at p;have HE:=zh p;have HO:=zh g;clear p g D hu
     go_wp2_with fail
     refine HT.o.mono ?_;rintro e w3 ⟨rfl,i'⟩;have s':=zh (HO.o.aP i');clear HO HT i' K xl g1 gl;by_cases I:jM E[j].1
     .have y:=zh (HE.o.trans (dh (and_congr_left fun _=>and_iff_right I)));rw[aO I];clear HE I;go_wp2;exact P.o _ _ _ zo rfl ⟨j+1,zo,rfl,rfl,y.o,s'.o⟩
     .have HF:=zh (HE.o.trans (aA fun h=>I h.1.1));rw[aA I];clear HE I;go_wp2;exact hR.o _ _ ⟨by rw[HF.o]<;>rfl,s'.o.az⟩
    .have HE:=zh (p.trans (vN (uD (fun k:Kl=>jM k.1) (l:=E) (i:=j) zo)));have HO:=zh g.tail;clear p g P;go_wp2;exact hX.o _ _ _ zo rfl ⟨i+1,zo,rfl,rfl,HE.o,HO.o⟩
  .have HE:=zh (p.trans (vN (uD ML (l:=A) (i:=i) zo)));have p':=zh (HV.o L g.ay);have HN:=zh g.obj.all;have HO:=zh g;clear p g hX HV
   go_wp2_with (refine ae iH rfl (.tmp 1) rfl rfl N hN HN.o ?_)
   refine p'.o.mono ?_;rintro e Q ⟨r,rfl,j',hr⟩;have l':=HO.o.call j';obtain⟨a,c,rfl,p1,H',H⟩:=hr;have V':=zh H;have HO2:=zh l';unfold maxLen at H';clear HO p' HN j' H l' g8 gl;generalize m.grow L Q=M at*
   go_wp2;refine av [7,8] (fun q F w3=>∃(i:Nat),i<=B.length/\q=B.length-i/\F=[.slice a B.length c,.int .i64 (i:Int)]/\FF=tf (∀x∈B.drop i,eT n x.1/\eT n x.2) /\
    Own w m w3 M [.obj w.heap.size 33 N.toArray]) ?_ ?_
   .exact qdV
   clear HO2 HE;rintro Y z q F w3 P-⟨j,hj,rfl,rfl,p,g⟩;simp[aX,lk];by_cases hlj:j<B.length
   .obtain⟨b,off,rfl,D⟩:=V'.o qeh;obtain⟨K,x2,e1,r1,e2,r2⟩:=D j hlj;have g':=Mem_cell_lt g.ay e1.a;have z':=zh (fun k u H=>Mem_cell_w g.ay (e1.get (j:=k) (u:=u) H));have x':=zh (fun k u H=>e2.get (j:=k) (u:=u) H);have S:=HC.o B[j] (zF hlj);have Z:=zh (Ay n B[j].1 K M w3 g.ay r1 S.1);have W:=zh (fun w' (h:M.ay w')=>Ay n B[j].2 x2 M w' h r2 S.2);have M':(bu B[j].1 K).length=9:=rfl;have L':(bu B[j].2 x2).length=9:=rfl;rw[dh (qB (fun x:Vd=>eT n x.1/\eT n x.2) hlj)]at p;have HE:=zh p;have HO:=zh g;unfold Vl.val at Z W;generalize bu B[j].1 K=N1 at*
    generalize bu B[j].2 x2=N2 at*
    clear g e1 e2 r1 r2 D p S
    go_wp2_with (refine ae iH rfl (.tmp 105) rfl rfl N1 M' z'.o ?_)
    refine Z.o.mono ?_;rintro e w4 ⟨rfl,T⟩;have J:=HO.o.aP T;have g':=xP g' T.size;have y':=zh (fun k u H=>Mem_cell_w J.ay (x'.o k u H));have HY:=zh (W.o w4 J.ay);have a':=zh J;clear HO J T z' x' Z W;by_cases f1:eT n B[j].1
    case neg=>
     have HF:=zh (HE.o.trans (aA fun h=>f1 h.1.1));rw[aA f1];clear HE HY f1;go_wp2;exact hR.o _ _ ⟨by rw[HF.o]<;>rfl,a'.o.az⟩
    rw[aO f1]
    go_wp2_with (refine ae iH rfl (.tmp 113) rfl rfl N2 L' y'.o ?_)
    refine HY.o.mono ?_;rintro e w5 ⟨rfl,h'⟩;have r':=zh (a'.o.aP h');clear a' h' y' HY;by_cases f2:eT n B[j].2
    .have y:=zh (HE.o.trans (vN ⟨f1,f2⟩));rw[aO f2];clear HE f1 f2;go_wp2;exact P.o _ _ _ zo rfl ⟨j+1,zo,rfl,rfl,y.o,r'.o⟩
    .have HF:=zh (HE.o.trans (aA fun h=>f2 h.1.2));rw[aA f2];clear HE f1 f2;go_wp2;exact hR.o _ _ ⟨by rw[HF.o]<;>rfl,r'.o.az⟩
   .have HF:=zh (p.trans (aO (uD (fun x:Vd=>eT n x.1/\eT n x.2) (l:=B) (i:=j) zo)));have HB:=zh g.az;clear p g P;exact qcn
noncomputable def lH(n:Nat)(v:Vl):Bool:=decide (dw n v<=80)&&tf (eT n v)
theorem nL{n:Nat}{v:Vl}(h:lH n v=true):Sr n v:=by
 unfold lH at h;rw[xG,decide_eq_true_eq,Ap]at h;exact⟨h.1,h.2⟩
theorem mW(n:Nat)(v:Vl)(s:Sl)(m:Mem)(w:zW)(E:m.ay w)(k:bG m n s v)(z:dw n v<=1048576):
 zX 20 #[v.val s] w (.bool (lH n v)):=by
 have l:=(Own.start E).al (bu v s).toArray 33;have C:=zh (tJ n v s 80 m _ l.ay k z zo zo);have B:=zh (fun w' (h:m.ay w')=>Ay n v s m w' h k z);have p:(bu v s).length=9:=rfl;have q:=zh l;have j:=zh (show lH n v=(decide (dw n v<=80)&&tf (eT n v)) from rfl);unfold Vl.val at*
 generalize bu v s=N at*
 generalize lH n v=H at*
 clear l k;have u:=q.o.obj.all;refine aj fun R A=>?_
 go_enter func20,ntmps20
 go_wp2_with (refine ae iH rfl (.tmp 1) rfl rfl N p u ?_)
 refine C.o.mono ?_;rintro e D ⟨r,rfl,i,x⟩;have f:=x.small;have a:=zh (q.o.aP i);have d:=zh (B.o D a.o.ay);have b:=zh a.o.obj.all;clear q C B i x u;by_cases h:r<=80
 .have y:decide (r<=80)=true:=zN h;have c:=zh (j.o.trans (by rw[zN (show dw n v<=80 by omega),Bool.true_and]));clear j f
  go_wp2_with (first|refine ae iH rfl (.tmp 1) rfl rfl N p b.o ?_|(rw[y];refine ae iH rfl (.tmp 1) rfl rfl N p b.o ?_))
  refine d.o.mono ?_;rintro e F ⟨rfl,g⟩;have t:=zh (a.o.aP g).az;generalize tf (eT n v)=G at*
  clear a d g b;go_wp2;exact A.o _ _ ⟨by rw[c.o]<;>rfl,t.o⟩
 .have y:decide (r<=80)=false:=zM h;have c:=zh (j.o.trans (by rw[zM (show ¬dw n v<=80 by omega),Bool.false_and]));have t:=zh a.o.az;clear j a d b f;go_wp2;exact A.o _ _ ⟨by rw[c.o]<;>rfl,t.o⟩
theorem WM(cs:List fA)(v:List Int)(k:Nat):lF (cs.take k) (v.take k)<=k:=by
 unfold lF;refine yJ List.countP_le_length ?_;simp;omega
theorem FE(c:St):(fO c).length=c.2.length+c.1.length:=by simp[fO]
def GG(c:St)(v:List Int)(k:Nat):Nat:=lF ((fO c).take k) (v.take k)
structure StV (c:St) (v:List Int):Prop where
 len:v.length=c.2.length+c.1.length
 le:∀k,GG c v k<=k
 all:lF (fO c) v=GG c v (c.2.length+c.1.length)
 azI:∀i (h:i<c.2.length) (hv:i<v.length),-1<=v[i]/\v[i]<(c.2[i].1.length:Int)
 EH:∀i (h:i<c.2.length) (hv:i<v.length),GG c v (i+1)=GG c v i+if bB c.2[i].1 v[i]then 1 else 0
 azJ:∀i (h:i<c.1.length) (hv:c.2.length+i<v.length),-1<=v[c.2.length+i]/\v[c.2.length+i]<=(c.1[i].1.1.size:Int)
 bzM:∀i (h:i<c.1.length) (hv:c.2.length+i<v.length),GG c v (c.2.length+(i+1))=GG c v (c.2.length+i)+if v[c.2.length+i]=(c.1[i].1.1.size:Int)then 1 else 0
theorem Dv(s:ByteArray):s.data.toList.length=s.size:=Array.length_toList
theorem StV.of{c:St}{v:List Int}(h:Af (fO c) v):StV c v:=by
 have g:=h.len;have b:=FE c;have e:∀i (hi:i<c.2.length) (d:i<(fO c).length),(fO c)[i]=gH (c.2[i]).1:=fun i hi d=>by
  simp only[fO];rw[xM qeC];simp
 have f:∀i (hi:i<c.1.length) (d:c.2.length+i<(fO c).length),(fO c)[c.2.length+i]=su (c.1[i]).1.1.data.toList:=fun i hi d=>by
  simp only[fO];rw[List.getElem_append_right zS];simp
 refine⟨zo,WM _ _,?_,fun i hi a=>?_,fun i hi a=>?_,fun i hi a=>?_,fun i hi a=>?_⟩
 .unfold GG;rw[<-b,yG,<-g,yG]
 .have:=h.get i zo a;rw[e i hi]at this;exact this
 .have:=Ak (cs:=fO c) (v:=v) (k:=i) zo a;rw[e i hi]at this;exact this
 .have:=h.get (c.2.length+i) zo a;rw[f i hi]at this;have j:(su (c.1[i]).1.1.data.toList).n=(c.1[i]).1.1.size+1:=by show _+1=_;rw[Dv]
  rw[j]at this;omega
 .have:=Ak (cs:=fO c) (v:=v) (k:=c.2.length+i) zo a;rw[f i hi]at this;rw[<-Nat.add_assoc];unfold GG;rw[this]
  congr 1
  show(if(v[c.2.length+i]==(((c.1[i]).1.1.data.toList).length:Int))=true then 1 else 0)=_;rw[Dv];simp
theorem MZ(u u' va:zV)(c:St)(v:List Int)(m:Mem)(n:Nat)(w:zW)(hm:m.ay w)(h1:iy (bG m n) m u c.1)(Y:gX (bG m n) m u' c.2)(hv:eU m va v)(hV:Af (fO c) v):
 zX 193 #[.agg #[u,u'],va] w (.int .i64 (lF (fO c) v)):=by
 have C:=StV.of hV;have HVL:=zh C.len;obtain⟨a1,c1,rfl,p1,q1,k1⟩:=h1;obtain⟨a2,Z,rfl,p2,q2,k2⟩:=Y;obtain⟨a3,c3,rfl,p3,q3,k3⟩:=hv;unfold maxLen at q1 q2 q3;have HA:=zh C.all;have HR:=zh (zi C.azI C.azJ);have HH:=zh (zi C.EH C.bzM);have HL:=zh C.le;have HK:=zh qfO;have HO:=zh ((Own.start hm).al #[.slice a1 c.1.length c1,.slice a2 c.2.length Z] 45);have h0:GG c v 0=0:=by simp[GG,lF]
 clear hV C k1 k2 k3;generalize lF (fO c) v=VH at*
 generalize GG c v=G at*
 generalize c.2=d at*
 generalize c.1=s at*
 refine aj fun R hR=>?_
 go_enter func193,ntmps193
 go_wp2;refine av [1,2,5,11,12,13] (fun q O N=>∃(i:Nat),i<=d.length/\q=d.length-i/\O=[.slice a3 v.length c3,.pointer (some ⟨w.heap.size,0,none⟩),.int .i64 (G i:Int),.slice a2 d.length Z,.int .i64 (d.length:Int),.int .i64 (i:Int)] /\
  Own w m N m [.obj w.heap.size 45 #[.slice a1 s.length c1,.slice a2 d.length Z]]) ?_ ?_
 .exact⟨_,0,zG _,rfl,by rw[h0];rfl,HO.o⟩
 clear HO;rintro X z q O N hX-⟨i,hi,rfl,rfl,f⟩;simp[aX,lk];have U:=HL.o i;have g0:=f.obj.c 0;have g1:=f.obj.c 1;have gl:=f.obj.lt;by_cases hlt:i<d.length
 .obtain⟨b,off,rfl,K⟩:=HK.o.2.1 qdX;obtain⟨kc,x,y,V,H,S,Q⟩:=(K i hlt).cells;obtain⟨b3,P,rfl,W⟩:=HK.o.2.2 qd8;have l:i<v.length:=by have:=HVL.o;omega
  have D:=(W i l).1;have m':=Mem_cell_lt f.ay (H 0 _ rfl);have L:=zh (fun j u hj=>Mem_cell_w f.ay (H j u hj));have Y:=pg V S Q;have hl2:(qN d[i] kc x y).length=19:=rfl;have H0:(qN d[i] kc x y).toArray[0]?=some kc:=rfl;have j':=HR.o.1 i hlt l;have HS:=zh (HH.o.1 i hlt l);have B:∀k:Nat,k<d[i].1.length->bB d[i].1 (k:Int)=((d[i].1)[k]?.map (·.aZ)).getD false:=fun k G=>by rw[fJ _ _ G];simp[G]
  have A:∀z:Int,z<0->bB d[i].1 z=false:=fun z hz=>by unfold bB;rw[zK hz]
  have HQ:=zh (zi B A);have HO:=zh (f.al Ww 61);obtain⟨ta,tc,rfl,t1,t2,t3⟩:=V;unfold maxLen at t2;have HT:=zh t3;generalize qN d[i] _ x y=M at*
  generalize v[i]=E at*
  generalize d[i].1=T at*
  generalize G i=r at*
  clear f S Q H K W t3 B A
  go_wp2_with (first
   |refine ae uX rfl (.tmp 16) rfl rfl M hl2 L.o ?_
   | refine aM uX rfl (.tmp 7) (.tmp 17) rfl (cs:=M.toArray) rfl rfl rfl qd5 (fun u hu=>Y u hu) HO.o.obj ?_)
  intro w1 g p;have a:=HO.o.bN g p;have gb:=g.cell H0;have o':=a.obj.lt;have x1:=Mem_cell_w a.ay D;have xl:=Mem_cell_lt a.ay D;have HO1:=zh a.tail;by_cases t:0<=E
  .obtain⟨k,rfl⟩:=zT t;have hkt:k<T.length:=zo;obtain⟨tb,to,rfl,t4⟩:=HT.o qeB;obtain⟨s1,-⟩:=t4 k hkt;have y1:=Mem_cell_w a.ay s1;have yl:=Mem_cell_lt a.ay s1;have I:=HQ.o.1 k hkt;rw[yH hkt]at I;simp only[vH,xA]at I;rw[I]at HS;generalize T[k].aZ=acc at*
   clear a HO g p L D s1 t4 I HQ;have hd:decide (0<=(k:Int))=true:=zN zo;cases acc
   all_goals
    simp only[if_true,if_false,Bool.false_eq_true]at HS;go_wp2
    go_quiet (fail)
    exact qaV
  .have hd:decide (0<=E)=false:=zM t;have I:=HQ.o.2 E zo;rw[I]at HS;simp only[if_false,Bool.false_eq_true]at HS;clear a HO g p L D I HQ;go_wp2
   go_quiet (fail)
   exact qaV
 .obtain rfl:i=d.length:=zo;have HO:=zh f;clear f hX;go_wp2;refine av [1,2,5,39,40,41] (fun q O N=>∃(i:Nat),i<=s.length/\q=s.length-i/\O=[.slice a3 v.length c3,.pointer (some ⟨w.heap.size,0,none⟩),.int .i64 (G (d.length+i):Int),.slice a1 s.length c1,.int .i64 (s.length:Int),.int .i64 (i:Int)] /\
   Own w m N m [.obj w.heap.size 45 #[.slice a1 s.length c1,.slice a2 d.length Z]]) ?_ ?_
  .exact qbj
  clear HO g0 g1 gl U;rintro X z q O N hX-⟨i,hi,rfl,rfl,f⟩;simp[aX,lk];have U:=HL.o (d.length+i);have g0:=f.obj.c 0;have g1:=f.obj.c 1;have gl:=f.obj.lt;by_cases hlt:i<s.length
  .obtain⟨b,off,rfl,K⟩:=HK.o.1 qdX;obtain⟨x,y,H,S,Q⟩:=(K i hlt).cells;obtain⟨b3,P,rfl,W⟩:=HK.o.2.2 qd8;have l:d.length+i<v.length:=by have:=HVL.o;omega
   have D:=(W (d.length+i) l).1;have m':=Mem_cell_lt f.ay (H 0 _ rfl);have L:=zh (fun j u hj=>Mem_cell_w f.ay (H j u hj));have Y:=pF S Q;have hl2:(qU s[i] x y).length=20:=rfl;have H0:(qU s[i] x y).toArray[0]?=some (.string s[i].1.1):=rfl;have j':=HR.o.2 i hlt l;have i':=(K i hlt).sz;have HS:=zh (HH.o.2 i hlt l);have HO:=zh (f.al Wx 58);unfold maxLen at i';generalize qU s[i] x y=M at*
   generalize v[d.length+i]=E at*
   generalize s[i].1.1=F at*
   generalize G (d.length+i)=r at*
   clear f S Q H K W
   go_wp2_with (first
    |refine ae uY rfl (.tmp 44) rfl rfl M hl2 L.o ?_
    | refine aM uY rfl (.tmp 9) (.tmp 45) rfl (cs:=M.toArray) rfl rfl rfl qd5 (fun u hu=>Y u hu) HO.o.obj ?_)
   intro w1 g p;have a:=HO.o.bN g p;have g0:=a.au.obj.c 0;have g1:=a.au.obj.c 1;have gl:=a.au.obj.lt;have gb:=g.cell H0;have o':=a.obj.lt;have x1:=Mem_cell_w a.ay D;have xl:=Mem_cell_lt a.ay D;have HO1:=zh a.tail;clear a HO g p L D;by_cases J:E=(F.size:Int)
   .have hd:(E==(F.size:Int))=true:=beq_iff_eq.2 J;rw[zK J]at HS;clear J;go_wp2
    go_quiet (fail)
    exact qaV
   .have hd:(E==(F.size:Int))=false:=zO.2 J;rw[zJ J]at HS;clear J;go_wp2
    go_quiet (fail)
    exact qaV
  .obtain rfl:i=s.length:=zo;have HB:=zh f.az;clear f hX;go_wp2;exact hR.o _ _ ⟨by rw[HA.o]<;>rfl,HB.o⟩
attribute [local go_sem] Oper.semAt_some
def rJ(mk:Mem)(v:zV)(u:List UInt8):Prop:=
 (u=[]/\v=.slice none 0 0)\/(u≠[]/\∃g c,v=.slice (some ⟨g,0,none⟩) u.length c/\u.length<=c/\c<=maxLen/\∀i,(h:i<u.length)->mk.cell g i=some (.int .u8 (u[i]).toNat))
theorem rJ.le{mk mk':Mem}{v:zV}{u:List UInt8}(h:rJ mk v u)(a:mk.le mk'):rJ mk' v u:=by
 rcases h with h|⟨j,g,c,f,e,d,b⟩
 .exact .inl h
 .exact .inr ⟨j,g,c,f,e,d,fun i hi=>Mem_cell_le a (b i hi)⟩
theorem strOfNums_bytes(u:List UInt8):strOfNums (u.map fun b=>(b.toNat:Int))=⟨u.toArray⟩:=by
 unfold strOfNums
 congr 1
 rw[vE]
 congr 1
 conv=>rhs;rw[<-List.map_id u]
 apply xZ;intro b _;simp
theorem EC{mk:Mem}{w:zW}{v:zV}{u:List UInt8}(h:rJ mk v u)(a:mk.ay w):(convert 185 9 v).run prog w=.ok (.string ⟨u.toArray⟩) w:=by
 rcases h with⟨rfl,rfl⟩|⟨j,g,c,rfl,f,e,d⟩
 .exact run_convert_bytes_nil w 185 5 underlying185 underlying5 0 0 _ underlying9
 .have:=run_convert_bytes_arg w 185 5 underlying185 underlying5 g 0 u.length c (u.map fun b=>(b.toNat:Int)) zS (fun i hi=>by
   rw[yZ,Mem_cell_w a (d i hi)];simp[List.getD,hi]) _ underlying9
  rw[this,strOfNums_bytes]
structure IA (T:aC) (l:Nat) (w0:zW) (m mk0:Mem) (B Bx:List (List UInt8)->List bF->Prop) (Lr:List bF) (gy ga gt gv tb o8 ctab:Nat) (va:zV):Prop where
 yield:Co prog l (fun x:List UInt8=>#[Value.string ⟨x.toArray⟩]) w0 m mk0 B Bx
 cy:mk0.cell gy 0=some (.func (.yield l) #[] #[])
 ca:mk0.cell ga 0=some va
 ct:mk0.cell gt 0=some (.slice (some ⟨tb,0,none⟩) o8 ctab)
 cv:mk0.cell gv 0=some (.func (.func 252) #[] #[.pointer (some ⟨gy,0,none⟩),.pointer (some ⟨ga,0,none⟩),.pointer (some ⟨gt,0,none⟩),.pointer (some ⟨gv,0,none⟩)])
 tab:aQ mk0 va T
 rows:∀W mk Lt,Own w0 m W mk (Lt++Lr)->∀i,i<o8->∃u,W.cell? ⟨tb,i,none⟩=some u/\jw mk0 u (eB T i)
 o8:o8<=maxLen
def Sk(w0:zW)(m mk:Mem)(B Bx:List (List UInt8)->List bF->Prop)(Lr:List bF)(a c:List (List UInt8))(e:Ending)(d:zW):Prop:=
 (e=.returned (.bool true)/\∃mk' b,B (a++c) b/\Own w0 m d mk' (b++Lr)/\mk.le mk') \/
 (e=.returned (.bool false)/\∃q mk' b,q≠[]/\q <+: c/\Bx (a++q) b/\Own w0 m d mk' (b++Lr)/\mk.le mk')
theorem PX{T:aC}{l:Nat}{w0:zW}{m mk0:Mem}{B Bx:List (List UInt8)->List bF->Prop}{Lr:List bF}{y C A z tb o8 ctab:Nat}{va:zV}(k:IA T l w0 m mk0 B Bx Lr y C A z tb o8 ctab va)
(s:Nat)(u:List UInt8)(r:zV)(b:List (List UInt8))(mk:Mem)(W:zW)(q:List bF)(a:mk0.le mk)(v:rJ mk r u)(x:B b q)(g:Own w0 m W mk (q++Lr)):
 zC 252 #[.int .i64 s,.int .i64 0,r,.pointer (some ⟨y,0,none⟩),.pointer (some ⟨C,0,none⟩),.pointer (some ⟨A,0,none⟩),.pointer (some ⟨z,0,none⟩)] W (Sk w0 m mk B Bx Lr b [u]):=by
 have E:=Mem_cell_w g.ay (Mem_cell_le a k.cy);have w:=Mem_cell_lt g.ay (Mem_cell_le a k.cy);have F:=EC v g.ay;obtain⟨I,t,p,D,H,G⟩:=k.yield b u W mk q Lr x g a;refine aj fun R f=>?_;clear g x v k a
 go_enter func252,ntmps252
 refine(wpIn_wide (n:=0)).1 ?_
 gi_wp2
 refine⟨rfl,G.mono ?_⟩;rintro e J (⟨rfl,mk',c,j,i,h⟩|⟨rfl,mk',c,j,i,h⟩)
 .have d:=zh (zi j (zi i h));clear j i h
  gi_wp2
  exact f.o _ _ (.inl ⟨rfl,mk',c,d.o.1,d.o.2.1,d.o.2.2⟩)
 .have d:=zh (zi j (zi i h));clear j i h
  gi_wp2
  exact f.o _ _ (.inr ⟨rfl,[u],mk',c,zS,List.prefix_refl _,d.o.1,d.o.2.1,d.o.2.2⟩)
theorem YM:gz prog 185 5 1 1:=⟨underlying185,zo,by
 obtain⟨i,d,c,b,a⟩:=info_parts (P:=prog) (e:=5) (z:=.int .u8 0) (size:=1) (bytes:=1) zk;exact⟨i,_,d,c,b,a,rfl⟩⟩
def cutV(v:zV)(u:List UInt8):Value:=match v with
 |.slice a _ _=>.slice a u.length u.length
 |v=>v
theorem zl{w0 w:zW}{m mk:Mem}{L:List Cl.bF}{v:zV}{u:List UInt8}{c:Nat}(h:rJ mk v u)(R:c<256)(D:Own w0 m w mk L)(s:Nat)(B:w.cell? ⟨s,0,none⟩=some (.int .u8 c))(Q:u.length<=1000000):
 ∃v' w' mk',(Builtin.append_ #[185,185] 185 #[cutV v u,.slice (some ⟨s,0,none⟩) 1 1]).run prog w=.ok v' w'/\Own w0 m w' mk' L/\mk.le mk'/\rJ mk' v' (u++[UInt8.ofNat c]):=by
 have f:∀j x,[Value.int .u8 c][j]?=some x->w.cell? ((⟨s,0,none⟩:Addr).add j)=some x:=by
  intro j x k;rw[Addr.add_lit,yZ]
  cases j with
  |zero=>simp at k;rw[<-k];exact B
  |succ j=>simp at k
 have q:((UInt8.ofNat c).toNat:Int)=(c:Int):=by
  rw[UInt8.toNat_ofNat'];omega
 rcases h with⟨rfl,rfl⟩|⟨J,g,T,rfl,t,S,N⟩
 .have d:=D.dL 5 1;obtain⟨v',w',y,p,K,o⟩:=kU YM w 185 (.slice none 0 0) 0 [] d.row ⟨s,0,none⟩ 1 1 [.int .u8 c] rfl f qdZ (by simp[maxLen]) zS;have a:=d.app p K o (zI _);obtain⟨va,G,rfl⟩:=aT a.row;obtain⟨E,rfl⟩:=kH a.row zo;refine⟨_,w',mk.iw w' (.slice (some ⟨E,0,none⟩) (0+1) G),y,a.bJ,Mem_le_addv a.free,.inr ⟨zS,E,G,rfl,?_,?_,fun i hi=>?_⟩⟩
  .rcases a.row.2 with⟨h,-⟩|⟨O,cap,F,h,-,-,A,-⟩
   .cases h
   .injection h with h1 h2 t;subst t;simpa using A
  .rcases a.row.2 with⟨h,-⟩|⟨O,cap,F,h,-,-,-,C,-⟩
   .cases h
   .injection h with h1 h2 t;subst t;exact C
  .obtain rfl:i=0:=by simp at hi;exact hi
   have:=iK a.row (g:=E) rfl mk (j:=0) (u:=.int .u8 c) rfl;rw[this];simp only[xN,xL];rw[q]
 .obtain⟨i,hi,I,H,M⟩:=info_parts (P:=prog) (e:=5) (z:=.int .u8 0) (size:=1) (bytes:=1) zk;have l:∀j x,(u.map fun b=>Value.int .u8 b.toNat)[j]?=some x->w.cell? ((⟨g,0,none⟩:Addr).add j)=some x:=by
   intro j x k;rw[Addr.add_lit,yZ];have r:j<u.length:=by
    have:=(yB.1 k).1;exact qa5
   rw[Mem_cell_w D.ay (N j r)];simp[r]at k;rw[<-k]
  have y:=run_append_grow (P:=prog) (w:=w) 185 185 5 i (.int .u8 0) underlying185 hi I ⟨g,0,none⟩ u.length u.length (u.map fun b=>Value.int .u8 b.toNat) (by simp[H]) l ⟨s,0,none⟩ 1 1 [.int .u8 c] (by simp[H]) f zo zo (growslice_fits zo (by rw[M];omega));have d:=D.dr.al ((u.map fun b=>Value.int .u8 b.toNat).toArray++[Value.int .u8 c].toArray++Builtin.zeroCells (Value.int .u8 0).cells (grownCap w (u.length+1) u.length 5-(u.length+1))) 5;have a:=d.lU;refine⟨_,_,mk.add _ w.heap.size,y,a,Mem_le_add d.lV,.inr ⟨zS,w.heap.size,grownCap w (u.length+1) u.length 5,?_,?_,?_,fun j k=>?_⟩⟩
  .simp
  .simpa using grownCap_ge w _ _ _
  .exact grownCap_le_maxLen w _ _ _ qdY
  .refine Mem_add_cell d.obj ?_;simp only[zL,yO,List.length_nil]at k;by_cases n:j<u.length
   .rw[Array.getElem?_append_left qd4,Array.getElem?_append_left (by simpa using n)];simp[n,xM n]
   .obtain rfl:j=u.length:=zo;rw[Array.getElem?_append_left zS,Array.getElem?_append_right zS];simp;rw[<-q];simp
theorem wp_append_run{P:Program}{w w':zW}{o:Oper}{a:Act}{K:Act->World->Prop}{Q:Exit->Act->World->Prop}(s x:Operand)(t:TypeId)
(ho:o.op=.call { callee:=.builtin .append,args:=#[s,x],argTypes:=#[t,t] }){v v2 v':zV}(hs:a.eval s=v)(hx:a.eval x=v2)
(hr:(Builtin.append_ #[t,t] o.type #[v,v2]).run P w=.ok v' w')(h:K (a.put o.dst v') w'):o.wp P a w K Q:=by
 unfold Oper.wp execOp;simp only[ho,resolve,invoke,builtin,Sem.run_bind,Sem.run_pure,Result.andThen_ok,List.map_toArray,yL,xB,hs,hx,hr];exact h
def TB(T:aC)(w0:zW)(m mk0:Mem)(B Bx:List (List UInt8)->List bF->Prop)(Lr:List bF)(d g f e n:Nat):Prop:=
 ∀(s:Nat) (u:List UInt8) (b:zV) (a:List (List UInt8)) (mk:Mem) (W:zW) (c:List bF),s<T.length->oQ T n s≠[]->u.length+n<=1000000->mk0.le mk->rJ mk b u->B a c->Own w0 m W mk (c++Lr) ->
  zC 252 #[.int .i64 s,.int .i64 n,b,.pointer (some ⟨d,0,none⟩),.pointer (some ⟨g,0,none⟩),.pointer (some ⟨f,0,none⟩),.pointer (some ⟨e,0,none⟩)] W (Sk w0 m mk B Bx Lr a ((oQ T n s).map (u++·)))
theorem PV{T:aC}{l:Nat}{w0:zW}{m mk0:Mem}{B Bx:List (List UInt8)->List bF->Prop}{Lr:List bF}{d g f e tb o8 ctab:Nat}{va:zV}(n:IA T l w0 m mk0 B Bx Lr d g f e tb o8 ctab va):
 TB T w0 m mk0 B Bx Lr d g f e 0:=by
 intro s u i b mk W p q a _ c j o k;have:oQ T 0 (s:Int)=[[]]:=by
  unfold oQ at a⊢
  split
  .rfl
  .rename_i h;rw[zJ h]at a;exact absurd rfl a
 rw[this];simpa using PX n s u i b mk W p c j o k
def Aa(T:aC)(n:Nat)(u:List UInt8)(es:List Ed)(i:Nat)(e:Ed)(b:Nat):List (List UInt8):=(yo T n (es.take i)++O4 T n e.to e.lo (b-e.lo)).map (u++·)
theorem RQ(T:aC)(n:Nat)(u:List UInt8)(es:List Ed)(i:Nat)(e:Ed)(b:Nat)(h:e.lo<=b):
 Aa T n u es i e (b+1)=Aa T n u es i e b++(oQ T n e.to).map ((u++[UInt8.ofNat b])++·):=by
 unfold Aa;rw[show b+1-e.lo=(b-e.lo)+1 by omega,G9,<-xD,yI,show e.lo+(b-e.lo)=b by omega]
 congr 1
 unfold uO;rw[vE];apply xZ;intro x _;simp
theorem VK{T:aC}{n:Nat}{u:List UInt8}{es:List Ed}{i:Nat}(h:i<es.length){b:Nat}(e:b<=(es[i]).hi):Aa T n u es i es[i] (b+1) <+: (yo T n es).map (u++·):=by
 unfold Aa;have c:yo T n (es.take i)++O4 T n (es[i]).to (es[i]).lo (b+1-(es[i]).lo) <+: yo T n es:=by
  have d:O4 T n (es[i]).to (es[i]).lo (b+1-(es[i]).lo) <+: O4 T n (es[i]).to (es[i]).lo ((es[i]).hi+1-(es[i]).lo):=by
   unfold O4;have:=List.range'_append_1 (s:=(es[i]).lo) (m:=b+1-(es[i]).lo) (n:=((es[i]).hi+1-(es[i]).lo)-(b+1-(es[i]).lo));rw[show(b+1-(es[i]).lo)+(((es[i]).hi+1-(es[i]).lo)-(b+1-(es[i]).lo))=(es[i]).hi+1-(es[i]).lo by omega]at this;rw[<-this,List.flatMap_append];exact qdr
  have a:yo T n (es.take (i+1)) <+: yo T n es:=by
   unfold yo
   conv=>rhs;rw[<-List.take_append_drop (i+1) es,List.flatMap_append]
   exact qdr
  rw[wJ T n es h]at a;exact((List.prefix_append_right_inj _).2 d).trans a
 exact c.map _
theorem RU{T:aC}{n:Nat}{u:List UInt8}{es:List Ed}{i:Nat}(h:i<es.length){b:Nat}(a:b=(es[i]).hi+1\/oQ T n (es[i]).to=[]):Aa T n u es i es[i] b=(yo T n (es.take (i+1))).map (u++·):=by
 unfold Aa;rw[wJ T n es h];rcases a with rfl|a
 .rfl
 .rw[Mk a,Mk a]
theorem PW{T:aC}{l:Nat}{w0:zW}{m mk0:Mem}{B Bx:List (List UInt8)->List bF->Prop}{Lr:List bF}{gy ga gt gv tb o8 ctab:Nat}{va:zV}(hE:IA T l w0 m mk0 B Bx Lr gy ga gt gv tb o8 ctab va)
(l':WF T)(t':Bytes T)(n:Nat)(hn:n<o8)(ih:TB T w0 m mk0 B Bx Lr gy ga gt gv n):TB T w0 m mk0 B Bx Lr gy ga gt gv (n+1):=by
 intro s u vp y mk W Lt hs _ hun q' hp hB hO;have X':=hE;have N:=Mem_inn_le q' hO.ay;have ha:=Mem_cell_w N hE.ca;have hal:=Mem_cell_lt N hE.ca;obtain⟨aa,ac,rfl,a1,a2,a3⟩:=hE.tab;obtain⟨ab,ao,rfl,a4⟩:=a3 qec;obtain⟨-,ve,s2,ea,ec,rfl,g4,g5,g6⟩:=a4 s hs;have s2w:=Mem_cell_w N s2;have s2l:=Mem_cell_lt N s2;have Hex:=zh (KS l' t' hs n);have g':=l' T[s] (zF hs);have j':=t' T[s] (zF hs);generalize T[s].aH=es at*
 have HW:=zh (zi g' j');have HE:=zh X';have HIH:=zh ih;have HO:=zh (zi hO hB);have Hle:=zh q';have Hp:=zh hp;unfold maxLen at a2 g5;have hdec:((n:Int)+1==0)=false:=zO.2 zo;rw[Hex.o];refine aj fun R hR=>?_;clear hE X' ih hO hB q' a3 a4 g' j' N s2 hp l' t';rw[show((n+1:Nat):Int)=(n:Int)+1 by omega]
 go_enter func252,ntmps252
 go_wp2;refine av [0,1,2,3,4,5,6,25,26,27] (fun q H W1=>∃(i:Nat) (k:Mem) (Z:List bF),i<=es.length/\q=es.length-i /\
  H=[.int .i64 s,.int .i64 ((n:Int)+1),vp,.pointer (some ⟨gy,0,none⟩),.pointer (some ⟨ga,0,none⟩),.pointer (some ⟨gt,0,none⟩),.pointer (some ⟨gv,0,none⟩),.slice ea es.length ec,.int .i64 es.length,.int .i64 i] /\
  mk.le k/\B (y++(yo T n (es.take i)).map (u++·)) Z/\Own w0 m W1 k (Z++Lr)) ?_ ?_
 .exact⟨_,0,mk,Lt,zG _,rfl,rfl,Mem.le_refl _,by simpa [yo]using HO.o.2,HO.o.1⟩
 clear HO s2w s2l ha hal;rintro X z q H W1 hX-⟨i,k,Z,hi,rfl,rfl,x,C,S⟩;simp[aX,lk];have M:=Mem_inn_le (Mem.le_trans Hle.o x) S.ay;by_cases hlt:i<es.length
 .obtain⟨eb,eo,rfl,g7⟩:=g6 qdX;obtain⟨e1,e2,e3,e4,e5,e6⟩:=g7 i hlt;have e1w:=Mem_cell_w M e1;have e2w:=Mem_cell_w M e2;have e3w:=Mem_cell_w M e3;have el:=Mem_cell_lt M e1;have hlh:=gq HW.o.1 es[i] (zF hlt);have HDp:=zh (fun b (hb:b<=(es[i]).hi)=>VK (T:=T) (n:=n) (u:=u) hlt hb);have HDl:=zh (fun b (hx:b=(es[i]).hi+1\/oQ T n (es[i]).to=[])=>RU (T:=T) (n:=n) (u:=u) hlt (b:=b) hx);have HDn:=zh (fun b (hb:(es[i]).lo<=b)=>RQ T n u es i es[i] b hb);have Z':Aa T n u es i es[i] (es[i]).lo=(yo T n (es.take i)).map (u++·):=by
   unfold Aa;rw[Nat.sub_self,O3,yR]
  rw[<-Z']at C;clear Z';generalize es[i]=e at*
  generalize hDD:Aa T n u es i e=DD at*
  clear hDD;have A:=(S.al #[.int .u8 e.lo,.int .u8 e.hi,.int .i64 e.to] 104);have r:=A.lU;have h':=Mem.le_trans x (Mem_le_add (w:=W1.alloc (.cells #[.int .u8 e.lo,.int .u8 e.hi,.int .i64 e.to] 104)) A.lV);have x1:=Mem_add_cell (m:=k) A.obj (i:=0) rfl;have x2:=Mem_add_cell (m:=k) A.obj (i:=1) rfl;have x3:=Mem_add_cell (m:=k) A.obj (i:=2) rfl;have Hk:=zh (zi r (zi h' C));obtain⟨t,ht⟩:=zT hlh.2.1;have o':t<T.length:=zo;have Ht:=zh ht;clear A r S C h' ht M;go_wp2;generalize W1.heap.size=E at*
  generalize k.add (W1.alloc (.cells #[.int .u8 e.lo,.int .u8 e.hi,.int .i64 e.to] 104)) E=I' at*
  refine av [0,1,2,3,4,5,6,12,13,25,26,27] (fun q H W2=>∃(b:Nat) (f:Mem) (F:List bF),e.lo<=b/\b<=e.hi+1/\q=e.hi+1-b /\
   H=[.int .i64 s,.int .i64 ((n:Int)+1),vp,.pointer (some ⟨gy,0,none⟩),.pointer (some ⟨ga,0,none⟩),.pointer (some ⟨gt,0,none⟩),.pointer (some ⟨gv,0,none⟩),.pointer (some ⟨E,0,none⟩),.int .i64 b,.slice (some ⟨eb,eo,none⟩) es.length ec,.int .i64 es.length,.int .i64 i] /\
   I'.le f/\B (y++DD b) F/\Own w0 m W2 f (F++Lr)) ?_ ?_
  .exact⟨_,e.lo,I',Z,zI _,zo,rfl,rfl,Mem.le_refl _,Hk.o.2.2,Hk.o.1⟩
  clear e1w e2w e3w el;rintro Y z2 q H W2 hY-⟨b,f,F,hb1,hb2,rfl,rfl,hle3,hB3,r⟩;simp[aX,lk];have p:=r.ay;have y1:=Mem_cell_w p (Mem_cell_le hle3 x1);have y2:=Mem_cell_w p (Mem_cell_le hle3 x2);have y3:=Mem_cell_w p (Mem_cell_le hle3 x3);simp only[List.getElem_toArray,List.getElem_cons_succ,xL]at y3;rw[Ht.o]at y3;have yl:=Mem_cell_lt p (Mem_cell_le hle3 x1);have a:=Mem.le_trans (Mem.le_trans Hle.o Hk.o.2.1) hle3;have S':=Mem_cell_w p (Mem_cell_le a HE.o.ct);have hctl:=Mem_cell_lt p (Mem_cell_le a HE.o.ct);obtain⟨ur,J,ra,rc,rfl,r2,r3,r4⟩:=HE.o.rows _ _ _ r n hn;have r':=wP T n;obtain⟨rb,ro,rfl,r5⟩:=r4 (by intro h;rw[h]at r';simp at r';omega);have T':t<(eB T n).length:=zo;have z1:=r5 t T';have k':=Mem_cell_w p (Mem_cell_le a z1);have z1l:=Mem_cell_lt p (Mem_cell_le a z1);have hurl:tb<W2.heap.size:=by
   simp only[World.cell?]at J
   split at J
   .rename_i hb;exact(yC.1 hb).1
   .cases J
  have R':(eB T n)[t]=true↔oQ T n (t:Int)≠[]:=by
   have h1:=qA T n o';rw[yH T']at h1;rw[Option.some.inj h1];simp
  have Hcv:=zh R';obtain⟨cb,s'⟩:∃cb,(eB T n)[t]=cb:=⟨_,rfl⟩;rw[s']at k';have Hcb:=zh s';have hw1:IntKind.i64.wrap ((n:Int)+1-1)=(n:Int):=by rw[IntWalk.i64_in _ zo];omega
  have hcl2:T.length<=(eB T n).length:=zo;have Hst:=zh (zi hB3 (zi r (zi hle3 a)));have hnt:=HE.o.o8;unfold maxLen at r3 hnt;generalize eB T n=cl at*
  clear r' R' s' z1 r4 r5 hB3 r a;go_wp2;refine aR [0,1,2,3,4,5,6,12,13,25,26,27,49] (fun H w'=>∃(U:Bool) (nq:Nat),H=[.int .i64 s,.int .i64 ((n:Int)+1),vp,.pointer (some ⟨gy,0,none⟩),.pointer (some ⟨ga,0,none⟩),.pointer (some ⟨gt,0,none⟩),.pointer (some ⟨gv,0,none⟩),.pointer (some ⟨E,0,none⟩),.int .i64 b,.slice (some ⟨eb,eo,none⟩) es.length ec,.int .i64 es.length,.int .i64 i,.bool U] /\
   w'=W2.drewN nq/\(U=true->b<=e.hi/\oQ T n (t:Int)≠[])/\(U=false->b=e.hi+1\/oQ T n (t:Int)=[])) ?_ ?_
  .intro V hV;by_cases U':b<=e.hi
   .have hdb:decide ((b:Int)<=(e.hi:Int))=true:=zN zo;refine wp_region_quiet_lit zk zk ?_
    repeat (any_goals (first|go_big_quiet_step (fail)|quiet_step (fail)|(refine wpQuiet_step (fun K hK=>?_);go_simp;split<;>(refine hK _ ?_;clear hK K))))
    all_goals (refine wpQuiet_nil ?_;intro _ m';obtain⟨nq,I⟩:=m';subst I)
    all_goals go_wp2
    all_goals
     refine hV.o _ _ rfl ⟨cb,nq,rfl,rfl,fun h=>⟨U',Hcv.o.1 (Hcb.o.trans h)⟩,fun h=>.inr (zP fun hx=>?_)⟩;have:=Hcv.o.2 hx;rw[Hcb.o,h]at this;cases this
   .have hdb:decide ((b:Int)<=(e.hi:Int))=false:=zM zo;refine wp_region_quiet_lit zk zk ?_
    repeat (any_goals (first|go_big_quiet_step (fail)|quiet_step (fail)|(refine wpQuiet_step (fun K hK=>?_);go_simp;split<;>(refine hK _ ?_;clear hK K))))
    all_goals (refine wpQuiet_nil ?_;intro _ m';obtain⟨nq,I⟩:=m';subst I)
    all_goals go_wp2
    all_goals exact hV.o _ _ rfl ⟨false,nq,rfl,rfl,(fun h=>by cases h),fun _=>.inl zo⟩
  rintro z3 H w3-⟨U,nq,rfl,rfl,u',x'⟩;simp[aX,lk]
  cases U with
  |false=>
   have Hbf:=zh (x' rfl);clear u' x';go_wp2;refine hX.o _ _ _ zo rfl ⟨i+1,f,F,zo,rfl,rfl,Mem.le_trans Hk.o.2.1 Hst.o.2.2.1,?_,Hst.o.2.1.Ep nq⟩;rw[<-HDl.o b (by rw[Ht.o];exact Hbf.o)]
   exact Hst.o.1
  |true=>
   have f':=zh (u' rfl);clear u' x';go_wp2;refine aR [0,1,2,3,4,5,6,12,13,25,26,27,68] (fun H w'=>∃(U:Bool) (j:Mem) (D:List bF),H=[.int .i64 s,.int .i64 ((n:Int)+1),vp,.pointer (some ⟨gy,0,none⟩),.pointer (some ⟨ga,0,none⟩),.pointer (some ⟨gt,0,none⟩),.pointer (some ⟨gv,0,none⟩),.pointer (some ⟨E,0,none⟩),.int .i64 b,.slice (some ⟨eb,eo,none⟩) es.length ec,.int .i64 es.length,.int .i64 i,.bool U] /\
    f.le j/\Own w0 m w' j (D++Lr)/\(U=false->B (y++DD (b+1)) D)/\(U=true->∃qq,qq≠[]/\qq <+: (oQ T n e.to).map ((u++[UInt8.ofNat b])++·)/\Bx ((y++DD b)++qq) D)) ?_ ?_
   .intro V hV;have hpp:=Hp.o.le (Mem.le_trans Hk.o.2.1 Hst.o.2.2.1);obtain⟨U',Q'⟩:=f'.o;have hwu:IntKind.u8.wrap (b:Int)=(b:Int):=IntWalk.u8_in _ zo;have i':=fun w' (h:f.ay w')=>Mem_cell_w h (Mem_cell_le Hst.o.2.2.2 HE.o.cv);have b':=fun w' (h:f.ay w')=>Mem_cell_w h (Mem_cell_le hle3 x3);simp only[List.getElem_toArray,List.getElem_cons_succ,xL]at b';rw[Ht.o]at b';have hw2:IntKind.i64.wrap (n:Int)=(n:Int):=IntWalk.i64_in _ zo;have Hcvf:=zh i';have Hx3:=zh b';clear i' b';have J':u.length<=1000000:=zo;refine oq (fun _ w'=>f.ay w') zk ?_;have hO:=(Hst.o.2.1.Ep nq).dr;have d:f.ay (W2.drewN nq).drew:=hO.ay;have hxl:=Mem_cell_lt d (Mem_cell_le hle3 x3);generalize (W2.drewN nq).drew=w4 at*
    rcases hpp with⟨hu,hv⟩|⟨hu,g,c,hv,hp3,P',O'⟩
    .subst hv;have p':rJ f (.slice none 0 0) u:=.inl ⟨hu,rfl⟩;have O:cutV (.slice none 0 0) u=.slice none 0 0:=by simp[cutV,hu]
     clear hu;refine cK 0 rfl zk qfc d qe9 ?_;refine cK 1 rfl zk qfc d qe9 ?_;refine cK 2 rfl zk qfc d qe9 ?_;refine cK 3 rfl zk qfc d qe9 ?_;refine cK 4 rfl zk qfc d qe9 ?_;refine cK 5 rfl zk qfc d qe9 ?_;refine cK 6 rfl zk qfc d qe9 ?_;refine cK 7 rfl zk qfc d qe9 ?_;refine cK 8 rfl zk qfc d qe9 ?_;refine cK 9 rfl zk qfc d qe9 ?_;refine cK 10 rfl zk qfc d qe9 ?_;refine cK 11 rfl zk qfc d qe9 ?_;refine cK 12 rfl zk qfc d qe9 ?_;refine bQ 13 zk (aJ rfl rfl (aN qd0 ⟨.inr (hO.al #[.int .u8 b] 5).ay,?_⟩));go_simp;have Q:=hO.al #[.int .u8 b] 5;obtain⟨v',w6,j,hr,P,hle7,L⟩:=zl p' (by omega:b<256) Q w4.heap.size (Q.obj.c 0) J';rw[O]at hr;refine bQ 14 zk (aJ rfl rfl (wp_append_run (.tmp 62) (.tmp 65) 185 rfl rfl rfl hr ⟨.inr (Mem_inn_le hle7 P.ay),?_⟩));go_simp;have z':=HIH.o t (u++[UInt8.ofNat b]) v' (y++DD b) j w6 F o' Q' qd4 (Mem.le_trans Hst.o.2.2.2 hle7) L Hst.o.1 (P.perm (List.Perm.refl _)).tail;refine bQ 15 zk (aJ rfl rfl (dX qej z' ?_));rintro e' w7 (⟨rfl,mk5,Lt5,k1,k2,k3⟩|⟨rfl,qq,mk5,Lt5,k0,k1,k2,k3,k4⟩)
     .exact qaq
     .exact qas
    .subst hv;have p':rJ f (.slice (some ⟨g,0,none⟩) u.length c) u:=.inr ⟨hu,g,c,rfl,hp3,P',O'⟩;have O:cutV (.slice (some ⟨g,0,none⟩) u.length c) u=.slice (some ⟨g,0,none⟩) u.length u.length:=rfl;have hu2:0<u.length:=yY.2 hu;unfold maxLen at P';clear hu O';refine cK 0 rfl zk qfc d qe9 ?_;refine cK 1 rfl zk qfc d qe9 ?_;refine cK 2 rfl zk qfc d qe9 ?_;refine cK 3 rfl zk qfc d qe9 ?_;refine cK 4 rfl zk qfc d qe9 ?_;refine cK 5 rfl zk qfc d qe9 ?_;refine cK 6 rfl zk qfc d qe9 ?_;refine cK 7 rfl zk qfc d qe9 ?_;refine cK 8 rfl zk qfc d qe9 ?_;refine cK 9 rfl zk qfc d qe9 ?_;refine cK 10 rfl zk qfc d qe9 ?_;refine cK 11 rfl zk qfc d qe9 ?_;refine cK 12 rfl zk qfc d qe9 ?_;refine bQ 13 zk (aJ rfl rfl (aN qd0 ⟨.inr (hO.al #[.int .u8 b] 5).ay,?_⟩));go_simp;have Q:=hO.al #[.int .u8 b] 5;obtain⟨v',w6,j,hr,P,hle7,L⟩:=zl p' (by omega:b<256) Q w4.heap.size (Q.obj.c 0) J';rw[O]at hr;refine bQ 14 zk (aJ rfl rfl (wp_append_run (.tmp 62) (.tmp 65) 185 rfl rfl rfl hr ⟨.inr (Mem_inn_le hle7 P.ay),?_⟩));go_simp;have z':=HIH.o t (u++[UInt8.ofNat b]) v' (y++DD b) j w6 F o' Q' qd4 (Mem.le_trans Hst.o.2.2.2 hle7) L Hst.o.1 (P.perm (List.Perm.refl _)).tail;refine bQ 15 zk (aJ rfl rfl (dX qej z' ?_));rintro e' w7 (⟨rfl,mk5,Lt5,k1,k2,k3⟩|⟨rfl,qq,mk5,Lt5,k0,k1,k2,k3,k4⟩)
     .exact qaq
     .exact qas
   rintro z5 H w5-⟨U,j,D,rfl,v,c',A',y'⟩;simp[aX,lk]
   cases U with
   |true=>
    obtain⟨qq,N',M',L'⟩:=y' rfl;have G:=zh (zi N' (zi M' (zi L' (zi c' v))));clear y' A' N' M' L' c' v y1 y2 y3 S' k' J;go_wp2;refine hR.o _ _ (.inr ⟨rfl,DD b++qq,j,D,?_,?_,?_,G.o.2.2.2.1,Mem.le_trans (Mem.le_trans Hk.o.2.1 Hst.o.2.2.1) G.o.2.2.2.2⟩)
    .intro h;exact G.o.1 (List.append_eq_nil_iff.1 h).2
    .have h1:=HDp.o b f'.o.1;rw[HDn.o b hb1]at h1;exact((List.prefix_append_right_inj _).2 G.o.2.1).trans h1
    .rw[<-xD];exact G.o.2.2.1
   |false=>
    have hB5:=A' rfl;have G:=zh (zi hB5 (zi c' v));clear y' A' hB5 c' v y1 y2 y3 S' k' J;go_wp2;exact hY.o _ _ _ (by have:=f'.o.1;omega) rfl ⟨b+1,j,D,zo,by have:=f'.o.1;omega,rfl,rfl,Mem.le_trans Hst.o.2.2.1 G.o.2.2,G.o.1,G.o.2.1⟩
 .obtain rfl:i=es.length:=zo;rw[yG]at C;have G:=zh (zi C (zi S x));clear C S x;go_wp2;exact hR.o _ _ (.inl ⟨rfl,k,Z,G.o.1,G.o.2.1,G.o.2.2⟩)
theorem Jr{T:aC}{l:Nat}{w0:zW}{m mk0:Mem}{B Bx:List (List UInt8)->List bF->Prop}{Lr:List bF}{d g f e tb o8 ctab:Nat}{va:zV}(c:IA T l w0 m mk0 B Bx Lr d g f e tb o8 ctab va)
(a:WF T)(b:Bytes T):∀n,n<=o8->TB T w0 m mk0 B Bx Lr d g f e n
 |0,_=>PV c
 |n+1,h=>PW c a b n h (Jr c a b n zo)
theorem Own.JI{w0 w:zW}{m mk:Mem}{L:List Cl.bF}{g:Nat}{t:TypeId}{v:zV}(h:Own w0 m w mk (.obj g t #[v]::L)):∃mk',Own w0 m w mk' L/\mk.le mk'/\mk'.cell g 0=some v:=
 ⟨_,h.lU,Mem_le_add h.lV,Mem_add_cell h.obj rfl⟩
theorem WX{T:aC}{l:Nat}{w0:zW}{m mk0:Mem}{B Bx:List (List UInt8)->List bF->Prop}{Lr:List bF}{tb n ctab clast o8:Nat}{va:zV}(F:WF T)(J:Bytes T)
(hY:Co prog l (fun x:List UInt8=>#[Value.string ⟨x.toArray⟩]) w0 m mk0 B Bx)(j:aQ mk0 va T)(r:0<T.length)(H:o8<=maxLen)(hn:n<o8)(K':n<=1000000)(_:clast<=maxLen)
(d:∀W mk C,Own w0 m W mk (C++Lr)->∀i,i<o8->∃u,W.cell? ⟨tb,i,none⟩=some u/\jw mk0 u (eB T i))
(e:List (List UInt8))(mk:Mem)(W:zW)(C:List bF)(b:mk0.le mk)(hB:B e C)(O:Own w0 m W mk (C++Lr)):
 zC 219 #[.agg #[va],.slice (some ⟨tb,n,none⟩) 1 clast,.int .i64 n,.func (.yield l) #[] #[],.slice (some ⟨tb,0,none⟩) o8 ctab] W (Sk w0 m mk B Bx Lr e (oQ T n 0)):=by
 have y:=((O.al #[va] 27).al #[.func (.yield l) #[] #[]] 163).al #[.slice (some ⟨tb,0,none⟩) o8 ctab] 199;have q:(W.alloc (.cells #[va] 27)).heap.size=W.heap.size+1:=by simp
 have p:((W.alloc (.cells #[va] 27)).alloc (.cells #[.func (.yield l) #[] #[]] 163)).heap.size=W.heap.size+1+1:=by simp
 rw[p,q]at y;obtain⟨ur,t,hb⟩:=d W mk C O n hn;obtain⟨ra,rc,rfl,r2,r3,r4⟩:=hb;have f:=wP T n;obtain⟨V,ro,rfl,r5⟩:=r4 (by intro h;rw[h]at f;simp at f;omega);have h0:0<(eB T n).length:=zo;have Q:=r5 0 h0;rw[Nat.add_zero]at Q;have U:=Mem_cell_w O.ay (Mem_cell_le b Q);have E':=Mem_cell_lt O.ay (Mem_cell_le b Q);have u':tb<W.heap.size:=by
  simp only[World.cell?]at t
  split at t
  .rename_i hb;exact(yC.1 hb).1
  .cases t
 have v:(eB T n)[0]=true↔oQ T n ((0:Nat):Int)≠[]:=by
  have D:=qA T n r;rw[yH h0]at D;rw[Option.some.inj D];simp
 obtain⟨cb,I⟩:∃cb,(eB T n)[0]=cb:=⟨_,rfl⟩;rw[I]at U v;have v':0<(eB T n).length:=h0;have G:=j;obtain⟨aa,ac,rfl,-⟩:=j;have a:=zh (zi y (zi hB (zi b (zi d (zi hY (zi G (zi F J)))))));have P:=zh v;unfold maxLen at r3 H;generalize eB T n=cl at*
 clear y O hB b f v I Q r4 r5 q p d hY G F J;have b':tb<W.heap.size+1:=zo;have a':tb<W.heap.size+1+1:=zo;have Z:tb<W.heap.size+1+1+1:=zo;have n':V<W.heap.size+1:=zo;have m':V<W.heap.size+1+1:=zo;have l':V<W.heap.size+1+1+1:=zo;refine aj fun R hR=>?_
 cases cb with
 |false=>
  go_enter func219,ntmps219
  go_wp2;have Y:oQ T n 0=[]:=zP fun h=>by have:=P.o.2 h;cases this
  refine hR.o _ _ (.inl ⟨rfl,mk,C,by rw[Y,yR];exact a.o.2.1,?_,Mem.le_refl _⟩)
  exact a.o.1.tail.tail.tail
 |true=>
  have w:=(a.o.1.al #[.func (.func 252) #[] #[.pointer (some ⟨W.heap.size+1,0,none⟩),.pointer (some ⟨W.heap.size,0,none⟩),.pointer (some ⟨W.heap.size+1+1,0,none⟩),.pointer (some ⟨W.heap.size+1+1+1,0,none⟩)]] 236);have k:(((W.alloc (.cells #[.slice aa T.length ac] 27)).alloc (.cells #[.func (.yield l) #[] #[]] 163)).alloc (.cells #[.slice (some ⟨tb,0,none⟩) o8 ctab] 199)).heap.size=W.heap.size+1+1+1:=by simp
  rw[k]at w;obtain⟨m1,N,l1,c1⟩:=w.JI;obtain⟨m2,M,X,c2⟩:=N.JI;obtain⟨m3,L,S,c3⟩:=M.JI;obtain⟨m4,K,E,c4⟩:=L.JI;have b:=a.o.2.2.1;have c:=Mem.le_trans (Mem.le_trans (Mem.le_trans l1 X) S) E;have hE:IA T l w0 m m4 B Bx Lr (W.heap.size+1) W.heap.size (W.heap.size+1+1) (W.heap.size+1+1+1) tb o8 ctab (.slice aa T.length ac):=by
   refine⟨fun e x W' mk' A j' D h2 h3=>a.o.2.2.2.2.1 e x W' mk' A j' D h2 (Mem.le_trans (Mem.le_trans b c) h3),Mem_cell_le E c3,c4,Mem_cell_le (Mem.le_trans S E) c2,
    Mem_cell_le (Mem.le_trans (Mem.le_trans X S) E) c1,aW (Mem.le_trans b c) a.o.2.2.2.2.2.1,fun W' mk' A h i hi=>?_,by unfold maxLen;exact H⟩
   obtain⟨u,D,h2⟩:=a.o.2.2.2.1 W' mk' A h i hi;exact⟨u,D,lh (Mem.le_trans b c) h2⟩
  have hV:=Jr hE a.o.2.2.2.2.2.2.1 a.o.2.2.2.2.2.2.2 n zo 0 [] (.slice none 0 0) e m4 _ C r (P.o.1 rfl) qd4 (Mem.le_refl _) (.inl ⟨rfl,rfl⟩) a.o.2.1 K;rw[show((0:Nat):Int)=(0:Int) from rfl]at hV;have HV:=zh (zi hV c);clear hV hE K L M N w c1 c2 c3 c4 l1 X S E b c k m1 m2 m3
  go_enter func219,ntmps219
  go_wp2_with fail
  refine HV.o.1.mono ?_;rintro e' w7 (⟨rfl,s,z,k1,k2,k3⟩|⟨rfl,qq,s,z,k0,k1,k2,k3,k4⟩)
  .have g:=zh qfO;clear k1 k2 k3;go_wp2;exact hR.o _ _ (.inl ⟨rfl,s,z,by simpa using g.o.1,g.o.2.1,Mem.le_trans HV.o.2 g.o.2.2⟩)
  .have g:=zh (zi k0 (zi k1 (zi k2 (zi k3 k4))));clear k0 k1 k2 k3 k4;go_wp2;exact hR.o _ _ (.inr ⟨rfl,qq,s,z,g.o.1,by simpa using g.o.2.1,g.o.2.2.1,g.o.2.2.2.1,Mem.le_trans HV.o.2 g.o.2.2.2.2⟩)
theorem set_mid{α:Type}(A C:List α)(x y:α){k:Nat}(h:A.length=k):(A++x::C).set k y=A++y::C:=by
 subst h;simp
theorem Zl{α:Type}(A C:List α)(x:α){k:Nat}(h:A.length=k):(A++x::C)[k]?=some x:=by
 subst h;simp
def Ik(a:List Bool)(s:Sn):Bool:=s.aH.any fun e=>a.getD e.to.toNat false
theorem ZI(v0 v1:zV)(l:aC)(d:List Bool)(m:Mem)(w:zW)(hm:m.ay w)(hl:aQ m v0 l)(hb:jw m v1 d)(N:WF l)(d':l.length<=1000000)(Q:d.length=l.length):
 zC 217 #[.agg #[v0],v1] w fun e w'=>∃r,e=.returned r/\zB w w'/\jw (m.grow w w') r (l.map (Ik d)):=by
 obtain⟨a,c,rfl,h1,h2,h3⟩:=hl;obtain⟨ba,bc,rfl,b1,b2,b3⟩:=hb;unfold maxLen at h2 b2;have hO:=(Own.start hm).al #[.slice a l.length c] 27;have HO:=zh hO;have f':l.length<=d.length:=zo;have e':d.length<=l.length:=zo;have g1:=hO.obj.c 0;have g2:=hO.obj.lt;clear hO Q;refine aj fun R hR=>?_
 go_enter func217,ntmps217
 go_wp2_with (refine wpList_make_row E5 rfl (.tmp 11) (.tmp 11) rfl l.length rfl rfl zo qdY ?_)
 intro w5 v g;have f:(w.alloc (.cells #[.slice a l.length c] 27)).heap.size=w.heap.size+1:=by simp
 have hO:=HO.o.make (by rw[f];exact v) g;rw[f]at hO;have s:List.replicate l.length (Value.bool false)=((l.take 0).map (Ik d)++List.replicate (l.length-0) false).map Value.bool:=by simp
 rw[s]at hO;have T:=hO.au.obj.c 0;have S:=hO.au.obj.lt;clear f;generalize w.heap.size+1=B at*
 have q:=zh hO;clear v g s HO g1 g2 hO;go_wp2;refine av [1,2,5,15,16] (fun n E W=>∃(k:Nat),k<=l.length/\n=l.length-k/\E=[.slice ba d.length bc,.pointer (some ⟨w.heap.size,0,none⟩),.slice (some ⟨B,0,none⟩) l.length l.length,.int .i64 l.length,.int .i64 k] /\
  Own w m W m [.row (.slice (some ⟨B,0,none⟩) l.length l.length) 4 1 l.length (((l.take k).map (Ik d)++List.replicate (l.length-k) false).map Value.bool),.obj w.heap.size 27 #[.slice a l.length c]]) ?_ ?_
 .exact⟨_,0,zG _,rfl,rfl,q.o⟩
 clear q T S;rintro X z n E W hX-⟨k,hk,rfl,rfl,hO⟩;simp[aX,lk];have g1:=hO.au.obj.c 0;have g2:=hO.au.obj.lt;by_cases hlt:k<l.length
 .obtain⟨b,off,rfl,h4⟩:=h3 qdX;obtain⟨-,ve,s2,ea,ec,rfl,g4,g5,g6⟩:=h4 k hlt;have o':=Mem_cell_w hO.ay s2;have p':=Mem_cell_lt hO.ay s2;have F:(l.take (k+1)).map (Ik d)=(l.take k).map (Ik d)++[Ik d l[k]]:=by
   rw[zH hlt,yI];rfl
  have G:List.replicate (l.length-k) false=false::List.replicate (l.length-(k+1)) false:=by
   rw[show l.length-k=(l.length-(k+1))+1 by omega];rfl
  have K:((l.take k).map (Ik d)).length=k:=by simp;omega
  have I:Ik d l[k]=(l[k]).aH.any fun e=>d.getD e.to.toNat false:=rfl;have P:=gq (N l[k] (zF hlt));rw[G]at hO;have L:=zh (zi F I);generalize (l[k]).aH=es at*
  have HO:=zh hO;unfold maxLen at g5;generalize U:(l.take k).map (Ik d)=AA at*
  clear F G I U h4 hO;go_wp2;refine av [1,2,5,15,16,6,24,25,26] (fun n E Z=>∃(j:Nat),j<=es.length/\n=es.length-j/\E=[.slice ba d.length bc,.pointer (some ⟨w.heap.size,0,none⟩),.slice (some ⟨B,0,none⟩) l.length l.length,.int .i64 l.length,.int .i64 k,.int .i64 k,.slice ea es.length ec,.int .i64 es.length,.int .i64 j] /\
   Own w m Z m [.row (.slice (some ⟨B,0,none⟩) l.length l.length) 4 1 l.length ((AA++((es.take j).any fun e=>d.getD e.to.toNat false)::List.replicate (l.length-(k+1)) false).map Value.bool),.obj w.heap.size 27 #[.slice (some ⟨b,off,none⟩) l.length c]]) ?_ ?_
  .exact qbj
  clear HO;rintro Y z2 n E Z hY-⟨j,hj,rfl,rfl,hO⟩;simp[aX,lk];by_cases hlt2:j<es.length
  .obtain⟨eb,eo,rfl,g7⟩:=g6 qd6;obtain⟨e1,e2,e3,e4,e5,-⟩:=g7 j hlt2;have I':=Mem_cell_w hO.ay e1;have G':=Mem_cell_w hO.ay e2;have V:=Mem_cell_w hO.ay e3;have el:=Mem_cell_lt hO.ay e1;have O:=P es[j] (zF hlt2);have i:((es.take (j+1)).any fun e=>d.getD e.to.toNat false)=(((es.take j).any fun e=>d.getD e.to.toNat false)||d.getD (es[j]).to.toNat false):=by
    rw[zH hlt2,List.any_append];simp
   obtain⟨t,ht⟩:=zT O.2.1;have A:t<d.length:=zo;rw[ht,Int.toNat_natCast]at i;have H:d.getD t false=d[t]:=by simp[A]
   rw[H]at i;obtain⟨bb,bo,rfl,b4⟩:=b3 (by intro h;simp[h]at A);have C:=b4 t A;have s':=Mem_cell_w hO.ay C;have t':=Mem_cell_lt hO.ay C;generalize d[t]=y at*
   rw[ht]at V;obtain⟨p,x⟩:∃p,((es.take j).any fun e=>d.getD e.to.toNat false)=p:=⟨_,rfl⟩;rw[x]at hO i;have M:=zh i;generalize es[j]=e at*
   have r1:=bg (j:=k) (u:=.bool p) hO.row (by rw[List.getElem?_map,Zl _ _ _ K];rfl);have r2:=dK hO.row k;have r3:=(World.ownsRow.lt hO.row _ rfl).2;have D:=(hO.setRow k (.bool (p||y))).al' (.cells #[.int .u8 e.lo,.int .u8 e.hi,.int .i64 t] 104);rw[<-List.map_set,set_mid _ _ _ _ K]at D;have q:=zh D;clear i x D hO H ht C
   cases p with
   |true=>
    go_wp2;refine hY.o _ _ _ zo rfl ⟨j+1,zo,rfl,rfl,?_⟩;rw[M.o]
    exact q.o
   |false=>
    go_wp2;refine hY.o _ _ _ zo rfl ⟨j+1,zo,rfl,rfl,?_⟩;rw[M.o];exact q.o
  .obtain rfl:j=es.length:=zo;rw[yG]at hO;have HO:=zh hO;clear hO;go_wp2;refine hX.o _ _ _ zo rfl ⟨k+1,zo,rfl,rfl,?_⟩;rw[L.o.1,L.o.2,xD];exact HO.o
 .obtain rfl:k=l.length:=zo;rw[yG,Nat.sub_self,List.replicate_zero,yR]at hO;have J:=lg (l:=l.map (Ik d)) (m:=m) (by rw[xC];exact hO.row);have hfin:=lh hO.bJ.done J;have Hk:=zh qfM;clear hO J hfin;go_wp2;exact hR.o _ _ ⟨_,rfl,Hk.o.1,Hk.o.2⟩
theorem M5:gz prog 199 147 1 24:=⟨underlying199,zo,by
 obtain⟨i,d,c,b,a⟩:=info_parts (P:=prog) (e:=147) (z:=.slice none 0 0) (size:=1) (bytes:=24) zk;exact⟨i,_,d,c,b,a,rfl⟩⟩
abbrev oP(mk:Mem)(tb n:Nat)(v:zV)(w':zW):Prop:=mk.ay w'/\w'.cell? ⟨tb,n,none⟩=some v/\tb<w'.heap.size
def rM(T:aC)(mk:Mem)(xs:List Value)(n:Nat):Prop:=xs.length=n/\∀i,i<n->∃u,xs[i]?=some u/\jw mk u (eB T i)
theorem rM.mono{T:aC}{mk mk':Mem}{xs:List Value}{n:Nat}(h:rM T mk xs n)(a:mk.le mk'):rM T mk' xs n:=
 ⟨h.1,fun i hi=>let ⟨u,h1,h2⟩:=h.2 i hi;⟨u,h1,lh a h2⟩⟩
theorem rM.push{T:aC}{mk:Mem}{xs:List Value}{n:Nat}(h:rM T mk xs n){u:zV}(a:jw mk u (eB T n)):rM T mk (xs++[u]) (n+1):=by
 refine⟨by rw[zL,h.1];rfl,fun i hi=>?_⟩;by_cases e:i<n
 .obtain⟨v,c,b⟩:=h.2 i e;exact⟨v,by rw[yK (by rw[h.1];exact e)];exact c,b⟩
 .obtain rfl:i=n:=zo;exact⟨u,by rw[yN (by rw[h.1];exact zI _),h.1];simp,a⟩
theorem YZ{w:zW}{t:TypeId}{size n c g:Nat}{xs:List Value}(h:w.ownsRow 0 t size (.slice (some ⟨g,0,none⟩) n c) n xs):n<=c/\c<=maxLen:=by
 rcases h.2 with⟨h,-⟩|⟨e,cap,d,h,-,-,a,b,-⟩
 .cases h
 .injection h with h1 h2 h3;subst h3;exact⟨a,b⟩
theorem PR{T:aC}{l ga:Nat}{w0:zW}{m mk:Mem}{B Bx:List (List UInt8)->List bF->Prop}{va:zV}{L1:List bF}{W:zW}(hC:dG T)(K:Nat)(hK:(K+1)*(T.length+1)<=1000000)
(hY:Co prog l (fun x:List UInt8=>#[Value.string ⟨x.toArray⟩]) w0 m mk B Bx)(ca:mk.cell ga 0=some va)(B':aQ mk va T)(hBK:∀s' Lt,B s' Lt->s'.length<K)(hB:B [] L1)(H:Own w0 m W mk L1):
 zC 216 #[.func (.yield l) #[] #[],.pointer (some ⟨ga,0,none⟩)] W
  (MG w0 m mk B Bx (fun xs=>∃n,xs=kC T 0 n/\∀y,aK T 0 y=true->y.length<n) (fun xs=>∃n,xs <+: kC T 0 n/\xs≠[])):=by
 have hKT:K*T.length+K+T.length+1<=1000000:=by
  have:(K+1)*(T.length+1)=K*T.length+K+T.length+1:=by rw[Nat.add_mul,Nat.mul_add];omega
  omega
 generalize x':K*T.length=KT at*
 have HKL:=zh x';have hta:=B';obtain⟨aa,ac,rfl,a1,a2,a3⟩:=B';have ha:=Mem_cell_w H.ay ca;have m':=Mem_cell_lt H.ay ca;have Q:=zh (zi hta (zi hY (zi hBK (zi hC ca))));have HO:=zh (zi H hB);unfold maxLen at a2;refine aj fun R hR=>?_;clear H hB hta hY hBK hC x' ca
 go_enter func216,ntmps216
 go_wp2;refine av [0,1,3,4,9,10] (fun q vs W1=>∃(k:Nat) (vf:zV),k<=T.length/\q=T.length-k/\vs=[.func (.yield l) #[] #[],.pointer (some ⟨ga,0,none⟩),.slice none 0 0,vf,.int .i64 T.length,.int .i64 k] /\
  Own w0 m W1 mk (.row vf 4 1 k (((T.take k).map (·.aZ)).map Value.bool)::L1)) ?_ ?_
 .exact⟨_,0,.slice none 0 0,zG _,rfl,rfl,HO.o.1.dL _ _⟩
 clear ha m';rintro X z q vs W1 hX-⟨k,vf,hk,rfl,rfl,H⟩;simp[aX,lk];obtain⟨j',i',rfl⟩:=aT H.row;have ha:=Mem_cell_w H.ay Q.o.2.2.2.2;have m':=Mem_cell_lt H.ay Q.o.2.2.2.2;by_cases hlt:k<T.length
 .obtain⟨b,off,rfl,a4⟩:=a3 qdX;have s1w:=Mem_cell_w H.ay (a4 k hlt).1;have s1l:=Mem_cell_lt H.ay (a4 k hlt).1;have Z':(T.take (k+1)).map (·.aZ)=(T.take k).map (·.aZ)++[(T[k]).aZ]:=by rw[zH hlt,yI];rfl
  have Htk:=zh Z';generalize (T[k]).aZ=y at*
  have g:=H.al #[.bool y] 4;have L:=g.obj.cZ rfl;clear Z' H a4
  go_wp2_with (at_builtin;refine aG K5 rfl (.tmp 13) (.tmp 20) rfl (.slice j' k i') k _ rfl g.au.row ⟨W1.heap.size,0,none⟩ 1 1 [.bool y] rfl rfl L qdZ qdY zo ?_)
  intro J' I' w7 G f F;have E:=(g.au.app G f F zS).bL;have A':=zh E;clear E g G f F L;go_wp2;refine hX.o _ _ _ zo rfl ⟨k+1,.slice J' (k+1) I',zo,rfl,rfl,?_⟩;rw[Htk.o,yI];have:=A'.o;exact qa5
 .obtain rfl:k=T.length:=zo;rw[yG,<-Kv]at H;have hb0:=lg (l:=eB T 0) (m:=mk) (by rw[wP];exact H.row);have C':=Mem_le_addv (w:=W1) H.free;have hO1:=H.bJ;generalize mk.iw W1 (.slice j' T.length i')=mk1 at*
  have g:=((hO1.dL 147 1).al #[.slice j' T.length i'] 147);have L:=g.obj.cZ rfl;have Hb:=zh (zi hb0 C');clear H hO1 hb0 C'
  go_wp2_with (at_builtin;refine aG M5 rfl (.tmp 23) (.tmp 25) rfl (.slice none 0 0) 0 [] rfl g.au.row ⟨W1.heap.size,0,none⟩ 1 1 [.slice j' T.length i'] rfl rfl L qdZ qdY zo ?_)
  intro J' I' w7 G f F;have E:=(g.au.app G f F zS).bL;have A':=zh E;clear E g G f F L;go_wp2;refine av [0,1,3,6] (fun q vs W2=>∃(n rn:Nat) (vt:zV) (xs:List Value) (p:Mem) (Lt:List bF),q=KT+1-n/\(n=0/\rn=1\/0<n/\rn=n/\n<=KT) /\
   vs=[.func (.yield l) #[] #[],.pointer (some ⟨ga,0,none⟩),vt,.int .i64 n] /\
   mk.le p/\B (kC T 0 n) Lt/\Own w0 m W2 p (.row vt 147 1 rn xs::Lt)/\rM T p xs rn) ?_ ?_
  .refine⟨_,0,1,.slice J' 1 I',[.slice j' T.length i'],mk1,L1,rfl,.inl ⟨rfl,rfl⟩,rfl,Hb.o.2,HO.o.2,by simpa using A'.o,?_⟩;exact rM.push (n:=0) (xs:=[]) ⟨rfl,fun i hi=>zo⟩ Hb.o.1
  clear A' ha m';rintro Y z2 q vs W2 hY2-⟨n,rn,vt,xs,p,Lt,rfl,hrn,rfl,O,U,g,R'⟩;simp[aX,lk];obtain⟨vta,Y',rfl⟩:=aT g.row;have hrn1:0<rn:=zo;obtain⟨tb,rfl⟩:=kH g.row hrn1;have ha:=Mem_cell_w g.ay (Mem_cell_le O Q.o.2.2.2.2);have m':=Mem_cell_lt g.ay (Mem_cell_le O Q.o.2.2.2.2);have hnK:n<=KT:=zo;by_cases hT:0<T.length
  .have hd1:decide (0<T.length)=true:=zN hT;have HQ:=zh (zi g (zi U (zi O R')));clear g U O R'
   go_upto_if 34 with(fail)
   refine aR [0,1,3,6] (fun vs w'=>∃(H':zV) (S:List Value) (c:Mem),vs=[.func (.yield l) #[] #[],.pointer (some ⟨ga,0,none⟩),H',.int .i64 n] /\
    mk.le c/\Own w0 m w' c (.row H' 147 1 (n+1) S::Lt)/\rM T c S (n+1)) ?_ ?_
   .intro V hV;rcases hrn with⟨rfl,rfl⟩|⟨hn0,rfl,-⟩
    .go_wp2;exact hV.o _ _ rfl ⟨.slice (some ⟨tb,0,none⟩) 1 Y',xs,p,rfl,HQ.o.2.2.1,HQ.o.1,HQ.o.2.2.2⟩
    .have hd2:decide (0<rn)=true:=zN hn0;have hd3:decide ((0:Int)<(rn:Int))=true:=zN zo;obtain⟨D,rfl⟩:∃D,rn=D+1:=⟨rn-1,zo⟩;have hw1:IntKind.i64.wrap (((D+1:Nat):Int)-1)=(D:Int):=by rw[IntWalk.i64_in _ zo];omega
     have hw2:IntKind.i64.wrap ((D:Int)+1-1)=(D:Int):=by rw[IntWalk.i64_in _ zo];omega
     have hw3:IntKind.i64.wrap (D:Int)=(D:Int):=IntWalk.i64_in _ zo;have hn1:D<D+1:=zo;have hn2:(D:Int)<(D:Int)+1:=zo;obtain⟨u,b',t'⟩:=HQ.o.2.2.2.2 D hn1;have H:=HQ.o.1.dr;go_wp2;refine oq (fun j w'=>j≠9->j≠10->(p.ay w'/\w'.cell? ⟨tb,D,none⟩=some u/\tb<w'.heap.size)) zk ?_;have hS:p.ay W2.drew/\W2.drew.cell? ⟨tb,D,none⟩=some u/\tb<W2.drew.heap.size:=⟨H.ay,bg H.row b',(World.ownsRow.lt H.row _ rfl).2⟩;have hca:=Mem_cell_le HQ.o.2.2.1 Q.o.2.2.2.2;refine bD 0 12 (oP p tb D u) rfl zk qfc qfm hS qfb ?_;refine bD 1 12 (oP p tb D u) rfl zk qfc qfm hS qfb ?_;refine bD 2 12 (oP p tb D u) rfl zk qfc qfm hS qfb ?_;refine bD 3 12 (oP p tb D u) rfl zk qfc qfm hS qfb ?_;refine bD 4 12 (oP p tb D u) rfl zk qfc qfm hS qfb ?_;refine bD 5 12 (oP p tb D u) rfl zk qfc qfm hS qfb ?_;refine bD 6 12 (oP p tb D u) rfl zk qfc qfm hS qfb ?_;have c':=wP T D;have hcs:=Du Q.o.2.2.2.1.wf Q.o.2.2.2.1.bytes D;have Q':=ZI (.slice aa T.length ac) u T (eB T D) p _ H.ay (aW HQ.o.2.2.1 Q.o.1) t' Q.o.2.2.2.1.wf zo c';refine bQ 7 zk (aJ rfl rfl (dX zg Q' ?_));rintro e' w3 ⟨r,rfl,hb3,O'⟩;rw[show T.map (Ik (eB T D))=eB T (D+1) from hcs.symm]at O';have E:=H.call hb3;have M:=Mem_le_grow (w:=w3) H.ay;clear hcs c';obtain⟨L',K',rfl⟩:∃xa xc,r=.slice xa (eB T (D+1)).length xc:=by obtain⟨x,y,e,-⟩:=O';exact⟨x,y,e⟩
     refine⟨_,rfl,.inr fun _ _=>⟨Mem_inn_le M E.ay,bg E.row b',(World.ownsRow.lt E.row _ rfl).2⟩,?_⟩;go_simp;have I:=E.al #[.slice L' (eB T (D+1)).length K'] 147;refine bQ 8 zk (aJ rfl rfl (aN qd1 ⟨.inr fun _ _=>⟨Mem_inn_le M I.ay,bg I.au.row b',(World.ownsRow.lt I.au.row _ rfl).2⟩,?_⟩));go_simp;refine bQ 9 zk (aJ rfl rfl (iG M5 (.tmp 35) (.tmp 43) rfl (.slice (some ⟨tb,0,none⟩) (D+1) Y') (D+1) xs rfl I.au.row ⟨w3.heap.size,0,none⟩ 1 1 [.slice L' (eB T (D+1)).length K'] rfl rfl (I.obj.cZ rfl) qdZ qdY zo (fun na' nc' w7 G f F=>?_)));have hO5:=(I.au.app G f F (zI _)).bL;refine⟨.inr fun h=>absurd rfl h,?_⟩;go_simp;refine bQ 10 zk (aJ rfl rfl (aN qd1 ⟨.inl rfl,?_⟩));refine jk zk ?_ _;exact hV.o _ _ rfl ⟨.slice na' (D+1+1) nc',xs++[.slice L' (eB T (D+1)).length K'],p.grow W2.drew w3,rfl,Mem.le_trans HQ.o.2.2.1 M,hO5,(HQ.o.2.2.2.mono M).push O'⟩
   rintro z3 vs w3-⟨H',S,c,rfl,M,E,n'⟩;simp[aX,lk];have U:=HQ.o.2.1;have k':=fun h=>VC Q.o.2.2.2.1.wf Q.o.2.2.2.1.bytes (n:=n) h;have hES:=Dl T 0 n;have D':=fun(hn:KT<n+1) (h:(kC T 0 (n+1)).length<K)=>Sg Q.o.2.2.2.1 (n:=n+1) h (by rw[HKL.o];exact hn);obtain⟨vta2,J,rfl⟩:=aT E.row;obtain⟨a,rfl⟩:=kH E.row zo;obtain⟨u,b',t'⟩:=n'.2 n zo;have HS:=zh (zi E (zi n' (zi M (zi k' (zi hES D')))));have HU:=zh (zi b' t');have HB2:=zh U;have c':=wP T n;obtain⟨ua,A,rfl,u2,u3,u4⟩:=t';obtain⟨C,s,rfl,u5⟩:=u4 (by intro h;rw[h]at c';simp at c';omega);have E':(∀b∈eB T n,b=false)↔¬(true∈eB T n):=by
    constructor
    .intro h hm;have:=h true hm;cases this
    .intro h b hb
     cases b with
     |false=>rfl
     |true=>exact absurd hb h
   have Hall:=zh E';have l':=YZ E.row;have hcap1:=l'.1;have P':=l'.2;unfold maxLen at P';clear E' l';clear E n' M k' hES D' b' HQ U ha m' c' u4 u5;go_wp2;refine aR [0,1,3,6,65] (fun vs w'=>∃(bb:Bool) (P:Mem) (N:List bF),vs=[.func (.yield l) #[] #[],.pointer (some ⟨ga,0,none⟩),.slice (some ⟨a,0,none⟩) (n+1) J,.int .i64 n,.bool bb]/\mk.le P /\
    (bb=false->B (kC T 0 (n+1)) N/\Own w0 m w' P (.row (.slice (some ⟨a,0,none⟩) (n+1) J) 147 1 (n+1) S::N)/\true∈eB T n/\rM T P S (n+1)) /\
    (bb=true->(B (kC T 0 n) N/\Own w0 m w' P N/\∀b∈eB T n,b=false)\/∃q,q≠[]/\q <+: oQ T n 0/\Bx (kC T 0 n++q) N/\Own w0 m w' P N)) ?_ ?_
   .intro V hV;have H:=HS.o.1.dr;have hca:=Mem_cell_le HS.o.2.2.1 Q.o.2.2.2.2;have hw1:IntKind.i64.wrap ((n:Int)+1)=(n:Int)+1:=IntWalk.i64_in _ zo;have hn1:(n:Int)<(n:Int)+1:=zo;have hn2:n<n+1:=zo;have hb1:(0:Int)<=(n:Int)+1:=zo;have hb2:(n:Int)+1<=(J:Int):=zo;have HCt:=zh (fun w' (h:c.ay w')=>Cv (.slice (some ⟨C,s,none⟩) (eB T n).length A) (eB T n) true c w' h HU.o.2);refine oq (fun j w'=>j≠18->j≠19->j≠20->(c.ay w'/\w'.cell? ⟨a,n,none⟩=some (.slice (some ⟨C,s,none⟩) (eB T n).length A)/\a<w'.heap.size)) zk ?_;have hS:c.ay w3.drew/\w3.drew.cell? ⟨a,n,none⟩=some (.slice (some ⟨C,s,none⟩) (eB T n).length A)/\a<w3.drew.heap.size:=⟨H.ay,bg H.row HU.o.1,(World.ownsRow.lt H.row _ rfl).2⟩;refine bD 0 6 (oP c a n (.slice (some ⟨C,s,none⟩) (eB T n).length A)) rfl zk qfc qfd hS qfj ?_;refine bD 1 6 (oP c a n (.slice (some ⟨C,s,none⟩) (eB T n).length A)) rfl zk qfc qfd hS qfj ?_;refine bD 2 6 (oP c a n (.slice (some ⟨C,s,none⟩) (eB T n).length A)) rfl zk qfc qfd hS qfj ?_;refine bD 3 6 (oP c a n (.slice (some ⟨C,s,none⟩) (eB T n).length A)) rfl zk qfc qfd hS qfj ?_;refine bQ 4 zk (aJ rfl rfl (dX zg (HCt.o _ H.ay) ?_));rintro e' w4 ⟨rfl,hb4⟩;have I:=H.aP hb4;have d:c.ay w4/\w4.cell? ⟨a,n,none⟩=some (.slice (some ⟨C,s,none⟩) (eB T n).length A)/\a<w4.heap.size:=⟨I.ay,bg I.row HU.o.1,(World.ownsRow.lt I.row _ rfl).2⟩;refine⟨_,rfl,.inr fun _ _ _=>d,?_⟩;by_cases Z:true∈eB T n
    .rw[aO Z];go_simp;refine bD 5 6 (oP c a n (.slice (some ⟨C,s,none⟩) (eB T n).length A)) rfl zk qfc qfd d qfb ?_;refine bD 6 6 (oP c a n (.slice (some ⟨C,s,none⟩) (eB T n).length A)) rfl zk qfc qfd d qfb ?_;go_simp;refine bD 7 6 (oP c a n (.slice (some ⟨C,s,none⟩) (eB T n).length A)) rfl zk qfc qfd d qfb ?_;go_simp;refine bD 8 6 (oP c a n (.slice (some ⟨C,s,none⟩) (eB T n).length A)) rfl zk qfc qfd d qfb ?_;go_simp;refine bD 9 6 (oP c a n (.slice (some ⟨C,s,none⟩) (eB T n).length A)) rfl zk qfc qfd d qfb ?_;go_simp;refine bD 10 6 (oP c a n (.slice (some ⟨C,s,none⟩) (eB T n).length A)) rfl zk qfc qfd d qfb ?_;go_simp;refine bD 11 6 (oP c a n (.slice (some ⟨C,s,none⟩) (eB T n).length A)) rfl zk qfc qfd d qfb ?_;go_simp;refine bD 12 6 (oP c a n (.slice (some ⟨C,s,none⟩) (eB T n).length A)) rfl zk qfc qfd d qfb ?_;go_simp;refine bD 13 6 (oP c a n (.slice (some ⟨C,s,none⟩) (eB T n).length A)) rfl zk qfc qfd d qfb ?_;go_simp;refine bD 14 6 (oP c a n (.slice (some ⟨C,s,none⟩) (eB T n).length A)) rfl zk qfc qfd d qfb ?_;go_simp;refine bD 15 6 (oP c a n (.slice (some ⟨C,s,none⟩) (eB T n).length A)) rfl zk qfc qfd d qfb ?_;go_simp;refine bD 16 6 (oP c a n (.slice (some ⟨C,s,none⟩) (eB T n).length A)) rfl zk qfc qfd d qfb ?_;go_simp;refine bD 17 6 (oP c a n (.slice (some ⟨C,s,none⟩) (eB T n).length A)) rfl zk qfc qfd d qfb ?_;go_simp;have v':=hT;have N':=WX (T:=T) (l:=l) (w0:=w0) (m:=m) (mk0:=c) (B:=B) (Bx:=Bx) (Lr:=[.row (.slice (some ⟨a,0,none⟩) (n+1) J) 147 1 (n+1) S]) (tb:=a) (n:=n) (ctab:=J) (clast:=1) (o8:=n+1) (va:=.slice aa T.length ac) Q.o.2.2.2.1.wf Q.o.2.2.2.1.bytes
      (fun s' x W' mk' Lt' Lr' h1 h2 h3=>Q.o.2.1 s' x W' mk' Lt' Lr' h1 h2 (Mem.le_trans HS.o.2.2.1 h3)) (aW HS.o.2.2.1 Q.o.1) v' qdY zo zo qdY
      (fun W' mk' Lt' h i hi=>by
       obtain⟨u',h1,h2⟩:=HS.o.2.1.2 i hi;exact⟨u',bg (h.kP (v:=.slice (some ⟨a,0,none⟩) (n+1) J) (t:=147) (size:=1) (n:=n+1) (xs:=S) zS) h1,h2⟩)
      (kC T 0 n) c w4 Lt (Mem.le_refl _) HB2.o (I.perm (List.perm_append_singleton _ _))
     refine bQ 18 zk (gF rfl rfl (dX zg N' ?_));rintro e' w5 (⟨rfl,M',S',k1,k2,k3⟩|⟨rfl,qq,M',S',k0,k1,k2,k3,k4⟩)
     .refine⟨_,rfl,.inr fun h=>absurd rfl h,?_⟩;go_simp;refine bQ 19 zk (gF rfl rfl (aN qd1 ⟨.inl rfl,?_⟩));go_simp;refine bQ 20 zk (aJ rfl rfl (aN qd1 ⟨.inl rfl,?_⟩));refine jk zk ?_ _;refine hV.o _ _ rfl ⟨false,M',S',rfl,Mem.le_trans HS.o.2.2.1 k3,fun _=>⟨?_,k2.perm (List.perm_append_singleton _ _).symm,Z,HS.o.2.1.mono k3⟩,fun h=>by cases h⟩;rw[HS.o.2.2.2.2.1];exact k1
     .refine⟨_,rfl,.inr fun h=>absurd rfl h,?_⟩;go_simp;refine bQ 19 zk (gF rfl rfl (aN qd1 ⟨.inl rfl,?_⟩));go_simp;refine bQ 20 zk (aJ rfl rfl (aN qd1 ⟨.inl rfl,?_⟩));refine jk zk ?_ _;exact hV.o _ _ rfl ⟨true,M',S',rfl,Mem.le_trans HS.o.2.2.1 k4,(fun h=>by cases h),fun _=>.inr ⟨qq,k0,k1,k2,(k3.perm (List.perm_append_singleton _ _).symm).tail⟩⟩
    .rw[aA Z];go_simp;refine bD 5 6 (oP c a n (.slice (some ⟨C,s,none⟩) (eB T n).length A)) rfl zk qfc qfd d qfk ?_;refine bD 6 6 (oP c a n (.slice (some ⟨C,s,none⟩) (eB T n).length A)) rfl zk qfc qfd d qfk ?_;go_simp;refine bD 7 6 (fun w'=>c.ay w'/\w'.cell? ⟨a,n,none⟩=some (.slice (some ⟨C,s,none⟩) (eB T n).length A)/\a<w'.heap.size) rfl zk qfc qfd d (.inr ⟨rfl,rfl⟩) ?_;go_simp;refine bD 8 6 (fun w'=>c.ay w'/\w'.cell? ⟨a,n,none⟩=some (.slice (some ⟨C,s,none⟩) (eB T n).length A)/\a<w'.heap.size) rfl zk qfc qfd d (.inr ⟨rfl,rfl⟩) ?_;go_simp;refine bD 9 6 (fun w'=>c.ay w'/\w'.cell? ⟨a,n,none⟩=some (.slice (some ⟨C,s,none⟩) (eB T n).length A)/\a<w'.heap.size) rfl zk qfc qfd d (.inr ⟨rfl,rfl⟩) ?_;go_simp;refine bD 10 6 (fun w'=>c.ay w'/\w'.cell? ⟨a,n,none⟩=some (.slice (some ⟨C,s,none⟩) (eB T n).length A)/\a<w'.heap.size) rfl zk qfc qfd d (.inr ⟨rfl,rfl⟩) ?_;go_simp;refine bD 11 6 (fun w'=>c.ay w'/\w'.cell? ⟨a,n,none⟩=some (.slice (some ⟨C,s,none⟩) (eB T n).length A)/\a<w'.heap.size) rfl zk qfc qfd d (.inr ⟨rfl,rfl⟩) ?_;go_simp;refine bD 12 6 (fun w'=>c.ay w'/\w'.cell? ⟨a,n,none⟩=some (.slice (some ⟨C,s,none⟩) (eB T n).length A)/\a<w'.heap.size) rfl zk qfc qfd d (.inr ⟨rfl,rfl⟩) ?_;go_simp;refine bD 13 6 (fun w'=>c.ay w'/\w'.cell? ⟨a,n,none⟩=some (.slice (some ⟨C,s,none⟩) (eB T n).length A)/\a<w'.heap.size) rfl zk qfc qfd d (.inr ⟨rfl,rfl⟩) ?_;go_simp;refine bD 14 6 (fun w'=>c.ay w'/\w'.cell? ⟨a,n,none⟩=some (.slice (some ⟨C,s,none⟩) (eB T n).length A)/\a<w'.heap.size) rfl zk qfc qfd d (.inr ⟨rfl,rfl⟩) ?_;go_simp;refine bD 15 6 (fun w'=>c.ay w'/\w'.cell? ⟨a,n,none⟩=some (.slice (some ⟨C,s,none⟩) (eB T n).length A)/\a<w'.heap.size) rfl zk qfc qfd d (.inr ⟨rfl,rfl⟩) ?_;go_simp;refine bD 16 6 (fun w'=>c.ay w'/\w'.cell? ⟨a,n,none⟩=some (.slice (some ⟨C,s,none⟩) (eB T n).length A)/\a<w'.heap.size) rfl zk qfc qfd d (.inr ⟨rfl,rfl⟩) ?_;go_simp;refine bD 17 6 (fun w'=>c.ay w'/\w'.cell? ⟨a,n,none⟩=some (.slice (some ⟨C,s,none⟩) (eB T n).length A)/\a<w'.heap.size) rfl zk qfc qfd d (.inr ⟨rfl,rfl⟩) ?_;go_simp;refine bQ 18 zk (KN rfl rfl ⟨.inl rfl,?_⟩);go_simp;refine bQ 19 zk (KN rfl rfl ⟨.inl rfl,?_⟩);go_simp;refine bQ 20 zk (aJ rfl rfl (aN qd1 ⟨.inl rfl,?_⟩));refine jk zk ?_ _;exact hV.o _ _ rfl ⟨true,c,Lt,rfl,HS.o.2.2.1,(fun h=>by cases h),fun _=>.inl ⟨HB2.o,I.tail,Hall.o.2 Z⟩⟩
   rintro z5 vs w5-⟨bb,P,N,rfl,a',hf,ht⟩;simp[aX,lk]
   cases bb with
   |true=>
    have Hq:=zh (zi (ht rfl) a');clear ht hf a';go_wp2;refine yV (v:=.tuple #[]) qe4 rfl ?_;refine hR.o _ _ ⟨⟨_,rfl⟩,?_⟩;rcases Hq.o.1 with⟨h1,h2,h3⟩|⟨qq,h1,h2,h3,h4⟩
    .exact .inl ⟨_,P,N,⟨n,rfl,HS.o.2.2.2.1 h3⟩,h1,h2,Hq.o.2⟩
    .refine .inr ⟨_,P,N,⟨n+1,?_,fun h=>h1 (List.append_eq_nil_iff.1 h).2⟩,h3,h4,Hq.o.2⟩;rw[HS.o.2.2.2.2.1]
     exact(List.prefix_append_right_inj _).2 h2
   |false=>
    obtain⟨h1,h2,h3,h4⟩:=hf rfl;have x':n+1<=KT:=by
     apply zP;intro hn;have:=HS.o.2.2.2.2.2 zo (Q.o.2.2.1 _ _ h1);rw[Nat.add_sub_cancel]at this;rw[this]at h3;have:=List.eq_of_mem_replicate h3;cases this
    have Hq:=zh (zi h1 (zi h2 (zi a' h4)));clear ht hf a' h1 h2 h3 h4;go_wp2;exact hY2.o _ _ _ zo rfl ⟨n+1,n+1,.slice (some ⟨a,0,none⟩) (n+1) J,S,P,N,rfl,.inr ⟨zo,rfl,x'⟩,rfl,Hq.o.2.2.1,Hq.o.1,Hq.o.2.1,Hq.o.2.2.2⟩
  .have hd1:decide (0<T.length)=false:=zM hT;have v':T=[]:=yM zo;have F':∀y,aK T 0 y=true->y.length<n:=fun y hy=>by rw[v',gK]at hy;cases hy
   have Hq:=zh (zi F' (zi g.tail (zi U O)));clear F' g U O v' R';go_wp2;refine yV (v:=.tuple #[]) qe4 rfl ?_;exact hR.o _ _ ⟨⟨_,rfl⟩,.inl ⟨_,p,Lt,⟨n,rfl,Hq.o.1⟩,Hq.o.2.2.1,Hq.o.2.1,Hq.o.2.2.2⟩⟩
theorem R3(V:zV)(l:aC)(m:Mem)(w:zW)(hm:m.ay w)(hl:aQ m V l)(W:l.length<=1000000)(F:∀s∈l,s.aH.length<=1000000):
 zC 200 #[.agg #[V]] w fun e w'=>∃r,e=.returned (.agg #[r])/\zB w w'/\aQ (m.grow w w') r l:=by
 obtain⟨a,c,rfl,h1,h2,h3⟩:=hl;unfold maxLen at h2;refine aj fun R hR=>?_
 go_enter func200,ntmps200
 go_wp2;refine av [2,3,7,8,9] (fun n U S=>∃(k:Nat) (v:zV) (xs:List Value) (mk:Mem),k<=l.length/\n=l.length-k/\U=[.pointer (some ⟨w.heap.size+1,0,none⟩),.pointer (some ⟨w.heap.size+2,0,none⟩),.slice a l.length c,.int .i64 l.length,.int .i64 k] /\
  Own w m S mk [.obj (w.heap.size+2) 27 #[v],.row v 80 2 k xs,.obj (w.heap.size+1) 27 #[.slice none 0 0]]/\kJ mk xs (l.take k)) ?_ ?_
 .refine⟨_,0,.slice none 0 0,[],m,zG _,rfl,rfl,?_,kJ.nil m⟩;have:=((((Own.start hm).al' (.cells #[.slice a l.length c] 27)).al #[.slice none 0 0] 27).al #[.slice none 0 0] 27).dL 80 2;simpa using this.au
 rintro X z n U S hX-⟨k,v,xs,mk,hk,rfl,rfl,p,d⟩;simp[aX,lk];have D:=p.obj;by_cases hlt:k<l.length
 .obtain⟨b,off,rfl,h4⟩:=h3 qdX;have E:=Mem_inn_le p.ext.le p.ay;obtain⟨Z,ve,g2,Q⟩:=h4 k hlt;have g':=Mem_cell_w E Z;have f':=Mem_cell_w E g2;have hb:=Mem_cell_lt E Z;have Y:=fun M (h:mk.ay M)=>Ws ve l[k].aH mk M h (qx p.ext.le Q) (by have:=F l[k] (zF hlt);omega);have HC:=zh Y;clear Y;obtain⟨ea,ec,rfl,-⟩:=Q;have l1:=D.lt;go_wp2;have j:=(p.al #[.bool l[k].aZ,.slice ea l[k].aH.length ec] 80).dr;refine jC (fun w'=>bH w' (w.heap.size+2) 27 #[v]/\bH w' S.heap.size 80 #[.bool l[k].aZ,.slice ea l[k].aH.length ec]) 11 zk ?_;have G:=zi j.au.obj j.obj;refine aI 0 rfl zk qfc G qfg ?_;refine aI 1 rfl zk qfc G qfg ?_;refine aI 2 rfl zk qfc G qfg ?_;refine aI 3 rfl zk qfc G qfg ?_;refine aI 4 rfl zk qfc G qfg ?_;refine aI 5 rfl zk qfc G qfg ?_;refine aV 6 zk (aJ rfl rfl (dX qej (HC.o _ j.ay) ?_));rintro e M ⟨r,rfl,J,I⟩;have g:=j.call J;refine⟨r,rfl,jb (zi g.au.obj g.obj) fun K=>?_⟩;obtain⟨P,O,rfl⟩:∃P O,r=.slice P l[k].aH.length O:=by obtain⟨x,y,e,-⟩:=I;exact⟨x,y,e⟩
  refine aI 7 rfl zk qfc K qfk ?_;refine aV 8 zk (aJ rfl rfl (aN qem (jb (zi (g.au.obj.al _) (g.obj.al _)) fun T=>?_)));go_simp;have C:=g.al #[.bool l[k].aZ,.slice P l[k].aH.length O] 80;refine aV 9 zk (aJ rfl rfl (iG mU (.tmp 14) (.tmp 21) rfl v k xs rfl C.dZ.row ⟨M.heap.size,0,none⟩ 1 1 [.bool l[k].aZ,.slice P l[k].aH.length O] rfl rfl (C.obj.cZ rfl) qdZ qdY zo (fun va N w3 u A t=>?_)));have hO4:=C.dZ.app u A t (zI _);refine jb (zi hO4.dZ.obj hO4.bA.obj) fun B=>?_;refine aI 10 rfl zk qfc B qfk ?_;have f3:=B.1.frozen 0;have c3:=B.1.cell (i:=0) rfl;refine aV 11 zk (aJ rfl rfl (cO qeI (lD rfl ?_)));refine gG zk ?_ _;have L:=hO4.dZ.set 0 (.slice va (k+1) N);have f:=(d.mono (Mem_le_grow j.ay)).push (s:=l[k]) I;rw[<-zH hlt]at f;have Hfin:=zh (zi L.kY.kY f);clear L f hO4 C g j p u A t G K T B f3 c3 D d J;go_wp2;exact hX.o _ _ _ zo rfl ⟨k+1,_,_,_,zo,rfl,rfl,Hfin.o.1,Hfin.o.2⟩
 .obtain rfl:k=l.length:=zo;have c1:=p.obj.c 0;have Q:=p.bA.obj.c 0;have g4:=p.bA.obj.frozen 0;obtain⟨va,N,rfl⟩:=aT p.au.row;have hO4:=p.bA.set 0 (.slice va l.length N);have H:=gZ (l:=l) hO4.bA.row (by rw[yG]at d;exact d) hO4.bA.free;have hfin:=aW hO4.bA.bJ.done H;have Hfin:=zh qfU;clear H hfin hO4 p D d;go_wp2;refine yV (v:=.agg #[.slice va l.length N]) (by simp[results,results200,go_sem,Q]) rfl ?_;exact qai
end Cl
