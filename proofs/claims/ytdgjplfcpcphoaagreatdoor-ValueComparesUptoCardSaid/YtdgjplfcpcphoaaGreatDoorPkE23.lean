/- Lemmas for the proofs of chapter 11. -/
import Derived.Test.YtdgjplfcpcphoaaGreatDoorPkE22
import Derived.Test.YtdgjplfcpcphoaaGreatDoorPkE5
set_option maxRecDepth 100000
set_option maxHeartbeats 16000000
namespace Cl
open Go Go.RowKit Go.Proofs
theorem azZ(e f:Sn):e=f↔(e.aZ=f.aZ/\e.aH=f.aH):=by
 cases e;cases f;simp
end Cl
namespace Cl
open Go Go.RowKit Go.Proofs Tryz
theorem ND(v v':zV)(l l':aC)(m:Mem)(w:zW)(hm:m.ay w)(hl:aQ m v l)(q':aQ m v' l'):
 zX 89 #[.agg #[v],.agg #[v']] w (.bool (tf (l=l'))):=by
 refine aj fun R O=>?_;have t:zB w ((w.alloc (.cells #[v] 27)).alloc (.cells #[v'] 27)):=bE qfB _;obtain⟨a,c,rfl,h1,h2,h3⟩:=hl;obtain⟨S,Q,rfl,h1',C',B'⟩:=q';unfold maxLen at h2 C';by_cases x:l.length=l'.length
 .have n':((l.length:Int) != (l'.length:Int))=false:=by simp[x]
  have J:=zh x;clear x
  go_enter func89,ntmps89
  go_wp2;have d1:((w.alloc (.cells #[.slice a l.length c] 27)).alloc (.cells #[.slice S l'.length Q] 27)).cell? ⟨w.heap.size,0,none⟩=some (.slice a l.length c):=by simp
  have d2:((w.alloc (.cells #[.slice a l.length c] 27)).alloc (.cells #[.slice S l'.length Q] 27)).cell? ⟨w.heap.size+1,0,none⟩=some (.slice S l'.length Q):=by go_simp
  have d3:w.heap.size+1<((w.alloc (.cells #[.slice a l.length c] 27)).alloc (.cells #[.slice S l'.length Q] 27)).heap.size:=by simp
  have p':=Mem_inn_below hm t;generalize ((w.alloc (.cells #[.slice a l.length c] 27)).alloc (.cells #[.slice S l'.length Q] 27))=w0 at*
  refine av [2,3,18,19] (fun n K G=>∃k:Nat,k<=l.length/\n=l.length-k/\K=[.pointer (some ⟨w.heap.size,0,none⟩),.pointer (some ⟨w.heap.size+1,0,none⟩),.int .i64 l.length,.int .i64 k]/\(l=l'↔l.drop k=l'.drop k)/\Below w0.heap.size w0 G) ?_ ?_
  .exact qaA
  rintro X z n K G hX-⟨k,hk,rfl,rfl,H,f⟩;have i:=zh H;clear H;simp[aX,lk];have r:=Mem_inn_below p' f;have e1:=(f.cell (p:=⟨w.heap.size,0,none⟩) qd4).trans d1;have e2:=(f.cell (p:=⟨w.heap.size+1,0,none⟩) qd4).trans d2;have e3:w.heap.size+1<G.heap.size:=xP d3 f.size;by_cases hlt:k<l.length
  .have hlt':k<l'.length:=by rw[<-J.o];exact hlt
   obtain⟨b,off,rfl,h4⟩:=h3 qdX;obtain⟨b',G',rfl,A'⟩:=B' qd3;obtain⟨g1,ve,g2,ua,uc,rfl,u1,u2,u3⟩:=h4 k hlt;obtain⟨P,S',D',i',h',rfl,Z',m',k'⟩:=A' k hlt';have HD:=zh qfo;have Z:=zh (azZ l[k] l'[k]);have c1:=Mem_cell_w r g1;have c2:=Mem_cell_w r g2;have F':=Mem_cell_w r P;have E':=Mem_cell_w r D';have u':=Mem_cell_lt r g1;have M:=Mem_cell_lt r P;unfold maxLen at u2 m';generalize l[k]=s at*
   generalize l'[k]=g at*
   have e4:w.heap.size<G.heap.size:=zo;have e5:b<G.heap.size+1:=zo;have e6:b'<G.heap.size+1:=zo;have t':=dD t f;go_wp2;refine aR [2,3,5,6,7,18,19] (fun K D=>∃p q,K=[.pointer (some ⟨w.heap.size,0,none⟩),.pointer (some ⟨w.heap.size+1,0,none⟩),.int .i64 k,.pointer (some ⟨p,0,none⟩),.pointer (some ⟨q,0,none⟩),.int .i64 l.length,.int .i64 k] /\
    D.cell? ⟨p,0,none⟩=some (.bool s.aZ)/\D.cell? ⟨p,1,none⟩=some (.slice ua s.aH.length uc)/\D.cell? ⟨q,0,none⟩=some (.bool g.aZ)/\D.cell? ⟨q,1,none⟩=some (.slice i' g.aH.length h') /\
    p<D.heap.size/\q<D.heap.size/\Below G.heap.size G D) ?_ ?_
   .intro Y hY
    go_region
    .exact qbE
    .exact qbE
   rintro z1 K D-⟨p,q,rfl,f1,f2,f3,f4,f5,f6,I⟩;simp[aX,lk];have o':=Mem_inn_below r I;have y:=dD f I;clear u' M c1 c2 F' E' e1 e2 e3 e4 e5 e6;by_cases L:s.aZ=g.aZ
   .have x':(s.aZ==g.aZ)=true:=by simp[L]
    have N:(s.aZ != g.aZ)=false:=by simp[L]
    have Ha:=zh L;clear L;by_cases F:s.aH.length=g.aH.length
    .have r':((s.aH.length:Int) != (g.aH.length:Int))=false:=by simp[F]
     have T:=zh F;clear F;go_wp2;refine av [2,3,6,7,18,19,48,49] (fun n K W=>∃j:Nat,j<=s.aH.length/\n=s.aH.length-j/\K=[.pointer (some ⟨w.heap.size,0,none⟩),.pointer (some ⟨w.heap.size+1,0,none⟩),.pointer (some ⟨p,0,none⟩),.pointer (some ⟨q,0,none⟩),.int .i64 l.length,.int .i64 k,.int .i64 s.aH.length,.int .i64 j] /\
      (s.aH=g.aH↔s.aH.drop j=g.aH.drop j)/\Below D.heap.size D W) ?_ ?_
     .exact qaA
     rintro X2 z2 n2 Q' W y'-⟨j,hj,rfl,rfl,B,d⟩;have u:=zh B;clear B;simp[aX,lk];have A:=Mem_inn_below o' d;have k2:=iI d f5 f2;have k4:=iI d f6 f4;have hf5:p<W.heap.size:=xP f5 d.size;have hf6:q<W.heap.size:=xP f6 d.size;by_cases E:j<s.aH.length
     .have C:j<g.aH.length:=by rw[<-T.o];exact E
      obtain⟨vb,vo,rfl,u4⟩:=u3 (by intro h;simp[h]at E);obtain⟨T',R',rfl,j'⟩:=k' (by intro h;simp[h]at C);obtain⟨y1,y2,y3,-⟩:=u4 j E;obtain⟨g',f',e',-⟩:=j' j C;have x1:=Mem_cell_w A y1;have x2:=Mem_cell_w A y2;have x3:=Mem_cell_w A y3;have P':=Mem_cell_w A g';have O':=Mem_cell_w A f';have N':=Mem_cell_w A e';have V:=zh (jA s.aH g.aH j E C);have U:=zh (Yz s.aH[j] g.aH[j]);have hq:=fun w=>Ko (s.aH[j].lo) (s.aH[j].hi) (s.aH[j].to) (g.aH[j].lo) (g.aH[j].hi) (g.aH[j].to) w;have hgd:=Ke;go_wp2
      go_quiet (fail)
      go_wp2
      .refine O.o _ _ ⟨aS ?_,dD t (below_drewN (dD y d) _)⟩;rw[aA];intro h;have h5:=U.o.1 (V.o.1 (u.o.1 (Z.o.1 (HD.o.1 (i.o.1 h)).1).2)).1;have h6:=‹(!(s.aH[j].lo:Int)==(g.aH[j].lo:Int))=true\/_›;simp[h5]at h6
      .refine y'.o _ _ _ zo rfl ⟨j+1,zo,rfl,rfl,?_,below_drewN d _⟩;have h6:=‹(!(s.aH[j].lo:Int)==(g.aH[j].lo:Int))=false/\_›;simp at h6;exact u.o.trans (V.o.trans ⟨fun h=>h.2,fun h=>⟨U.o.2 zo,h⟩⟩)
     .go_wp2;refine hX.o _ _ _ zo rfl ⟨k+1,zo,rfl,rfl,i.o.trans (HD.o.trans ⟨fun h=>h.2,fun h=>⟨Z.o.2 ⟨Ha.o,u.o.2 ?_⟩,h⟩⟩),dD y d⟩;rw[zQ zo,zQ (by rw[<-T.o];omega)]
    .have r':((s.aH.length:Int) != (g.aH.length:Int))=true:=by simp;omega
     go_wp2;exact O.o _ _ ⟨aS (by rw[aA];intro h;exact F (by rw[(Z.o.1 (HD.o.1 (i.o.1 h)).1).2])),dD t y⟩
   .have x':(s.aZ==g.aZ)=false:=by simp[L]
    have N:(s.aZ != g.aZ)=true:=by simp[L]
    go_wp2;exact O.o _ _ ⟨aS (by rw[aA];intro h;exact L (Z.o.1 (HD.o.1 (i.o.1 h)).1).1),dD t y⟩
  .go_wp2;refine O.o _ _ ⟨aS ?_,dD t f⟩;rw[aO (i.o.2 ?_)];rw[zQ zo,zQ (by rw[<-J.o];omega)]
 .have n':((l.length:Int) != (l'.length:Int))=true:=by simp;omega
  go_enter func89,ntmps89
  go_wp2;exact O.o _ _ ⟨aS (by rw[aA (fun h=>x qe0)]),t⟩
theorem Sq(D:zV)(l:aC)(m:Mem)(w:zW)(hm:m.ay w)(N:aQ m D l)(y:WF l):
 zC 148 #[D] w fun e w'=>∃r,e=.returned r/\zB w w'/\eU (m.grow w w') r (di l 256):=by
 obtain⟨a,c,rfl,h1,h2,Z⟩:=N;unfold maxLen at h2;refine aj fun R hR=>?_
 go_enter func148,ntmps148
 go_wp2;refine av [3,11,12,13] (fun n d C=>∃(k:Nat),k<=l.length/\n=l.length-k/\d=[.pointer (some ⟨w.heap.size,0,none⟩),.slice a l.length c,.int .i64 l.length,.int .i64 k] /\
  Own w m C m [.obj w.heap.size 175 (kI (nA (l.take k)) 257)]) ?_ ?_
 .exact qaG
 rintro X z n d C V-⟨k,hk,rfl,rfl,t⟩;simp[aX,lk];by_cases hlt:k<l.length
 .obtain⟨b,off,rfl,W⟩:=Z qdX;have g:=t.ay;obtain⟨G,ve,g2,I,H,rfl,g4,g5,g6⟩:=W k hlt;have T:=Mem_cell_w g G;have S:=Mem_cell_w g g2;have hb:=Mem_cell_lt g G;have A:=gq (y l[k] (zF hlt));have u:=zh (fun b=>Kq hlt b);generalize l[k]=s at*
  unfold maxLen at g5;have P:=t.obj.lt;have hO':=t.al' (.cells #[.bool s.aZ,.slice I s.aH.length H] 80);go_wp2;refine av [3,11,12,13,18,19,20] (fun n d p=>∃(j:Nat),j<=s.aH.length/\n=s.aH.length-j/\d=[.pointer (some ⟨w.heap.size,0,none⟩),.slice (some ⟨b,off,none⟩) l.length c,.int .i64 l.length,.int .i64 k,.slice I s.aH.length H,.int .i64 s.aH.length,.int .i64 j] /\
   Own w m p m [.obj w.heap.size 175 (kI (fun b=>nA (l.take k) b\/∃e∈s.aH.take j,kD e b) 257)]) ?_ ?_
  .exact qcv
  rintro Y K n d p hY-⟨j,hj,rfl,rfl,hO2⟩;simp[aX,lk];by_cases hlt2:j<s.aH.length
  .obtain⟨b',E,rfl,B⟩:=g6 qd6;obtain⟨J,e2,e3,e4,e5,-⟩:=B j hlt2;have M:=(A s.aH[j] (zF hlt2)).1;have d1:=Mem_cell_w hO2.ay J;have d2:=Mem_cell_w hO2.ay e2;have d3:=Mem_cell_w hO2.ay e3;have U:=Mem_cell_lt hO2.ay J;have O:=hO2.obj.lt;have k1:=hO2.obj.cell (iM (i:=s.aH[j].lo) zo);have k2:=hO2.obj.cell (iM (i:=s.aH[j].hi+1) zo);have k3:=hO2.obj.frozen s.aH[j].lo;have k4:=hO2.obj.frozen (s.aH[j].hi+1);have L:s.aH[j].lo≠s.aH[j].hi+1:=zo;have F:s.aH[j].hi+1≠s.aH[j].lo:=zo;have hO3:=(((hO2.set s.aH[j].lo (.bool true)).set (s.aH[j].hi+1) (.bool true))).al' (.cells #[.int .u8 s.aH[j].lo,.int .u8 s.aH[j].hi,.int .i64 s.aH[j].to] 104);rw[iL,iL,dF (P':=fun b=>nA (l.take k) b\/∃e∈s.aH.take (j+1),kD e b) (by
    intro b _;rw[qW hlt2];unfold kD;constructor
    .rintro((h|h)|h)
     .exact qdc
     .exact qcU
     .exact .inr (.inr (.inr h.symm))
    .rintro(h|h|h|h)
     .exact qcR
     .exact qcQ
     .exact .inl (.inr h.symm)
     .exact .inr h.symm)]at hO3
   exact qcD
  .go_wp2;refine V.o _ _ _ zo rfl ⟨k+1,zo,rfl,rfl,?_⟩;rw[dF (P':=fun b=>nA (l.take k) b\/∃e∈s.aH.take j,kD e b) (by
    intro b _;rw[u.o,xH (l:=s.aH) (i:=j) zo])]
   exact hO2
 .rw[xH zo]at t;go_wp2;refine av [3,8,9] (fun n d p=>∃(q:Nat) (v:zV),q<=256/\n=256-q/\d=[.pointer (some ⟨w.heap.size,0,none⟩),v,.int .i64 q] /\
   Own w m p m [.row v 3 1 (di l q).length ((di l q).map (Value.int .i64)),.obj w.heap.size 175 (kI (nA l) 257)]) ?_ ?_
  .exact⟨_,0,.slice none 0 0,zo,rfl,rfl,t.dL _ _⟩
  rintro Y K n d p hY-⟨q,v,hq,rfl,rfl,hO2⟩;simp[aX,lk];by_cases hlt2:q<256
  .have k1:=hO2.au.obj.cell (iM (i:=q) zo);have hg:=hO2.au.obj.lt;have Q:=pX l q;have hsu:=Er l q;by_cases hc:nA l q
   .have ht:=aO hc;rw[ht]at k1;rw[ht,zK rfl]at hsu;have Hsu:=zh hsu;clear hsu ht;have hO3:=hO2.al #[.int .i64 q] 3
    go_wp2_with (at_builtin;refine aG sZ rfl (.tmp 42) (.tmp 44) rfl v (di l q).length ((di l q).map (Value.int .i64)) rfl hO3.au.row ⟨p.heap.size,0,none⟩ 1 1 [.int .i64 q] rfl rfl (hO3.obj.cZ rfl) qdZ qdY zo ?_)
    exact qaj
   .exact qbr
  .obtain rfl:q=256:=zo;have f:=fH hO2.bJ.done qfD;have Hfin:=zh (zi hO2.az f);clear f hO2;go_wp2;exact qai
theorem Iz(v:zV)(l:aC)(m:Mem)(w:zW)(A:m.ay w)(J:aQ m v l):
 zX 59 #[v] w (.bool (tf (WF l))):=by
 obtain⟨a,c,rfl,h1,Q,E⟩:=J;unfold maxLen at Q;refine aj fun R hR=>?_
 go_enter func59,ntmps59
 go_wp2;refine av [0,7,8,9] (fun n p g=>∃k:Nat,k<=l.length/\n=l.length-k/\p=[.slice a l.length c,.slice a l.length c,.int .i64 l.length,.int .i64 k]/\(WF l↔∀s∈l.drop k,bP l.length (-1) s.aH)/\zB w g) ?_ ?_
 .exact qaA
 rintro X z n p g hX-⟨k,hk,rfl,rfl,hrel,hbel⟩;simp[aX,lk];have f:=Mem_inn_below A hbel;by_cases hlt:k<l.length
 .obtain⟨b,off,rfl,D⟩:=E qdX;obtain⟨P,W,C,H,G,rfl,h7,O,N⟩:=D k hlt;have hb:=Mem_cell_lt f C;have c1:=Mem_cell_w f P;have c2:=Mem_cell_w f C;have Hs:=zh (SE (n:=l.length) hlt);generalize l[k]=s at*
  unfold maxLen at O;clear D E;go_wp2;refine av [0,4,7,8,9,14,15,16] (fun n p i=>∃j:Nat,j<=s.aH.length/\n=s.aH.length-j/\p=[.slice (some ⟨b,off,none⟩) l.length c,.pointer (some ⟨g.heap.size,0,none⟩),.slice (some ⟨b,off,none⟩) l.length c,.int .i64 l.length,.int .i64 k,.slice H s.aH.length G,.int .i64 s.aH.length,.int .i64 j]/\(bP l.length (-1) s.aH↔bP l.length (nM s.aH j) (s.aH.drop j))/\i.cell? ⟨g.heap.size,1,none⟩=some (.slice H s.aH.length G)/\g.heap.size<i.heap.size/\zB w i) ?_ ?_
  .exact⟨_,0,zG _,rfl,rfl,Iff.rfl,zS,zS,bE hbel _⟩
  rintro Y V n p i M-⟨j,hj,rfl,rfl,hrel2,y,x,hbel2⟩;simp[aX,lk];have hmr2:=Mem_inn_below A hbel2;by_cases hlt2:j<s.aH.length
  .obtain⟨U,q,rfl,h10⟩:=N qd6;obtain⟨F,T,S,g4,g5,g6,g7⟩:=h10 j hlt2;have L:=Mem_cell_lt hmr2 F;have d1:=Mem_cell_w hmr2 F;have d2:=Mem_cell_w hmr2 T;have d3:=Mem_cell_w hmr2 S;have I:=zh (Bh (n:=l.length) hlt2);have d:0<j->i.cell? ⟨U,q+(j-1)*3+1,none⟩=some (.int .u8 (s.aH[j-1]).hi)/\nM s.aH j=(s.aH[j-1]).hi:=by
    exact qbU
   go_wp2;refine wp_region_quiet_lit zk zk ?_
   repeat (any_goals (first|go_big_quiet_step (fail)|quiet_step (fail)|(refine wpQuiet_step (fun K B=>?_);go_simp;split<;>(refine B _ ?_;clear B K))))
   all_goals (refine wpQuiet_nil ?_;intro _ u;obtain⟨nq,r⟩:=u;subst r)
   all_goals go_wp2
   all_goals first
    | exact hR.o _ _ ⟨aS (by
     rw[aA];intro t;obtain⟨q1,q2,q3,Z,-⟩:=I.o.1 (hrel2.1 (Hs.o.1 (hrel.1 t)).1)
     first
      |omega
      | (have:=(d (by assumption)).2;omega)),below_drewN (bE hbel2 _) _⟩
    | exact M.o _ _ _ zo rfl ⟨j+1,zo,rfl,rfl,hrel2.trans (I.o.trans ⟨fun h=>h.2.2.2.2,fun h=>⟨zo,zo,zo,by
     first
      |(have:=(d (by assumption)).2;omega)
      | (have:=DX s.aH j zo;omega),h⟩⟩),
     by rw[World.cell?_drewN,World.cell?_alloc_past _ _ _ x];exact y,by simp;omega,below_drewN (bE hbel2 _) _⟩
  .exact qbF
 .exact qcT
theorem IC(v:zV)(l:aC)(s:Int)(x:Nat)(m:Mem)(w:zW)(f:m.ay w)(A:aQ m v l)(y : -9223372036854775808<=s)(u:s<l.length):
 zX 60 #[v,.int .i64 s,.int .u8 x] w (.int .i64 (bC l s x)):=by
 by_cases F:s<0
 .rw[jT F];refine aj fun R hR=>?_
  go_enter func60,ntmps60
  go_wp2;exact qcm
 obtain⟨s,rfl⟩:=zT (by omega:0<=s);have hs:s<l.length:=zo;rw[dW l s x hs];obtain⟨a,c,rfl,P,E,r⟩:=A;obtain⟨b,off,rfl,q⟩:=r qec;obtain⟨-,K,p,J,I,rfl,O,D,C⟩:=q s hs;have N:=Mem_cell_lt f p;have M:=Mem_cell_w f p;generalize l[s].aH=es at*
 clear q r;unfold maxLen at E D;refine aj fun R hR=>?_
 go_enter func60,ntmps60
 go_wp2;refine av [2,15,16,17] (fun n j i=>∃k:Nat,k<=es.length/\n=es.length-k/\j=[.int .u8 x,.slice J es.length I,.int .i64 es.length,.int .i64 k]/\bv es x=bv (es.drop k) x/\zB w i) ?_ ?_
 .exact qa8
 rintro X z n j i hX-⟨k,L,rfl,rfl,hrel,hbel⟩;simp[aX,lk];have d:=Mem_inn_below f hbel;by_cases hlt:k<es.length
 .obtain⟨Z,o,rfl,g⟩:=C qdX;obtain⟨t,H,G,U,T,S,Q⟩:=g k hlt;have B:=Mem_cell_lt d t;have Y:=Mem_cell_w d t;have W:=Mem_cell_w d H;have V:=Mem_cell_w d G;have HD:=zh (uy es x k hlt);go_wp2
  .exact qcx
  .exact qan
  .exact qan
 .exact qb2
theorem N7(v:zV)(l:aC)(s:Int)(x:Nat)(m:Mem)(w:zW)(A:m.ay w)(H:aQ m v l)(G : -9223372036854775808<=s)(F:s<l.length):
 zX 246 #[.agg #[v],.int .i64 s,.int .i64 x] w (.int .i64 (bC l s x)):=by
 by_cases N:s<0
 .rw[jT N];refine aj fun R hR=>?_
  go_enter func246,ntmps246
  exact qaS
 obtain⟨s,rfl⟩:=zT (by omega:0<=s);have hs:s<l.length:=zo;rw[dW l s x hs];obtain⟨a,c,rfl,Y,M,C⟩:=H;obtain⟨b,off,rfl,B⟩:=C qec;obtain⟨-,S,q,a',c',rfl,W,L,K⟩:=B s hs;have V:=Mem_cell_lt A q;generalize l[s].aH=es at*
 clear B C;unfold maxLen at M L;refine aj fun R hR=>?_
 go_enter func246,ntmps246
 go_wp2;have d:zB w (w.alloc (Obj.cells #[.slice (some ⟨b,off,none⟩) l.length c] 27)):=bE (zR _ _) _;have j:=Mem_inn_below A d;have Q:(w.alloc (Obj.cells #[.slice (some ⟨b,off,none⟩) l.length c] 27)).cell? ⟨w.heap.size,0,none⟩=some (.slice (some ⟨b,off,none⟩) l.length c):=by simp
 have E:w.heap.size<(w.alloc (Obj.cells #[.slice (some ⟨b,off,none⟩) l.length c] 27)).heap.size:=by simp
 generalize i:w.alloc (Obj.cells #[.slice (some ⟨b,off,none⟩) l.length c] 27)=t at*
 clear i;refine av [1,2,3,7] (fun n u g=>∃k:Nat,k<=es.length/\n=es.length-k/\u=[.int .i64 s,.int .i64 x,.pointer (some ⟨w.heap.size,0,none⟩),.int .i64 k]/\bv es x=bv (es.drop k) x/\Below t.heap.size t g) ?_ ?_
 .exact qa8
 rintro X z n u g hX-⟨k,T,rfl,rfl,hrel,hbel⟩;simp[aX,lk];have f:=Mem_inn_below j hbel;have U:=Mem_cell_w f q;have I:=Mem_cell_lt f q;have d3:=(hbel.cell (p:=⟨w.heap.size,0,none⟩) E).trans Q;have d4:w.heap.size<g.heap.size:=xP E hbel.size;by_cases hlt:k<es.length
 .obtain⟨b',y,rfl,r⟩:=K qdX;obtain⟨D,P,O,g4,g5,g6,Z⟩:=r k hlt;have J:=Mem_cell_lt f D;have c1:=Mem_cell_w f D;have c2:=Mem_cell_w f P;have c3:=Mem_cell_w f O;have HD:=zh (uy es x k hlt);go_wp2
  .exact hR.o _ _ ⟨dU (by rw[hrel,HD.o,zK ⟨by assumption,by assumption⟩]),dD d (bE hbel _)⟩
  .exact qan
  .exact qan
 .go_wp2;exact hR.o _ _ ⟨dU (by rw[hrel,zQ zo];rfl),dD d hbel⟩
theorem uK(v:zV)(l:aC)(s:Int)(m:Mem)(w:zW)(d:m.ay w)(n:aQ m v l)(k : -9223372036854775808<=s)(j:s<l.length):
 zX 245 #[.agg #[v],.int .i64 s] w (.bool (bB l s)):=by
 by_cases p:s<0
 .have:bB l s=false:=by simp[bB,p]
  rw[this];refine aj fun R hR=>?_
  go_enter func245,ntmps245
  exact qaS
 obtain⟨s,rfl⟩:=zT (by omega:0<=s);have hs:s<l.length:=zo;rw[fJ l s hs];obtain⟨a,c,rfl,t,o,i⟩:=n;obtain⟨b,off,rfl,g⟩:=i qec;obtain⟨f,-⟩:=g s hs;have r:=Mem_cell_lt d f;have q:=Mem_cell_w d f;clear g i;unfold maxLen at o;refine aj fun R hR=>?_
 go_enter func245,ntmps245
 exact qaS
theorem JE(v:zV)(l:aC)(m:Mem)(w:zW)(d:aQ m v l):
 zX 243 #[.agg #[v]] w (.int .i64 (if l.length=0 then -1 else 0)):=by
 obtain⟨a,c,rfl,h,f,g⟩:=d;unfold maxLen at f;refine aj fun R b=>?_
 go_enter func243,ntmps243
 go_wp2
 .exact b.o _ _ ⟨dU (by rw[zK (by have:=‹((l.length:Int)==0)=true›;simp at this;simp[this])]),bE (zR _ _) _⟩
 .exact b.o _ _ ⟨dU (by rw[zJ (by have:=‹((l.length:Int)==0)=false›;simp at this;simp[this])]),bE (zR _ _) _⟩
end Cl
