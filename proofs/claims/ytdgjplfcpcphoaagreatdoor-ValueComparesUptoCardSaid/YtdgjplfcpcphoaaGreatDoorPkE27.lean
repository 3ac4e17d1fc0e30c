/- Lemmas for the proofs of chapter 11. -/
import Derived.Test.YtdgjplfcpcphoaaGreatDoorPkE26
set_option maxRecDepth 100000
set_option maxHeartbeats 16000000
namespace Cl
open Go Go.RowKit Go.Proofs Tryz
theorem Ci{m:Mem}{v:zV}{l:aC}(h:aQ m v l):Bytes l:=by
 obtain⟨a,c,-,-,-,r⟩:=h;intro s f;obtain⟨b,off,-,q⟩:=r (List.ne_nil_of_mem f);obtain⟨i,hi,rfl⟩:=yT.1 f;obtain⟨-,t,-,p⟩:=q i hi;obtain⟨x,u,-,-,-,o⟩:=p;intro e k;obtain⟨w,d,-,n⟩:=o (List.ne_nil_of_mem k);obtain⟨j,g,rfl⟩:=yT.1 k;exact⟨(n j g).2.2.2.1,(n j g).2.2.2.2.1⟩
theorem KC(v0:zV)(l:aC)(m:Mem)(w:zW)(hm:m.ay w)(hl:aQ m v0 l)(Q:WF l)(x':l.length<=1000000):
 Calls prog 145 #[v0] w fun e w'=>∃r out,e=.returned r/\Below w.heap.size w w'/\jw (m.grow w w') r out/\out.length=l.length/\∀s:Nat,s<l.length->(bt out s=true↔Lv l s):=by
 have e':=Ci hl;obtain⟨a,c,rfl,q,h2,h3⟩:=hl;unfold maxLen at h2;refine aj fun R hR=>?_
 go_enter func145,ntmps145
 go_wp2_with (refine wpList_make_row E5 rfl (.tmp 9) (.tmp 9) rfl l.length rfl rfl zo qdY ?_)
 intro w5 I t;have d:=(Own.start hm).make I t;clear I t;have H:List.replicate l.length (Value.bool false)=(List.replicate l.length false).map Value.bool:=by simp
 rw[H]at d;clear H;have g':=Ym l;generalize hB:w.heap.size=B at*
 generalize List.replicate l.length false=T at*
 go_wp2;refine av [0,3,12,13] (fun n E O=>∃(r:Nat) (out:List Bool),r<=l.length/\n=l.length-r/\E=[.slice a l.length c,.slice (some ⟨B,0,none⟩) l.length l.length,.int .i64 l.length,.int .i64 r] /\
  Own w m O m [.row (.slice (some ⟨B,0,none⟩) l.length l.length) 4 1 l.length (out.map Value.bool)]/\wT l out r) ?_ ?_
 .exact⟨_,0,T,zG _,rfl,rfl,d,g'⟩
 clear d g';rintro X z n E O hX-⟨r,out,hr,rfl,rfl,d,k⟩;simp[aX,lk];by_cases L':r<l.length
 .have W:=Wl k.len k.sound;have s':=zh k;clear k;go_wp2;refine av [0,3,12,13,15,16,17] (fun n E O=>∃(i:Nat) (o:List Bool),i<=l.length/\n=l.length-i/\E=[.slice a l.length c,.slice (some ⟨B,0,none⟩) l.length l.length,.int .i64 l.length,.int .i64 r,.slice a l.length c,.int .i64 l.length,.int .i64 i] /\
   Own w m O m [.row (.slice (some ⟨B,0,none⟩) l.length l.length) 4 1 l.length (o.map Value.bool)]/\wU l out o i (fun _=>False)) ?_ ?_
  .exact⟨_,0,out,zG _,rfl,rfl,d,W⟩
  clear d W;rintro Y z2 n E i' hY-⟨i,o,hi,rfl,rfl,d,y⟩;simp[aX,lk];by_cases hlt2:i<l.length
  .obtain⟨b,off,rfl,h4⟩:=h3 qd6;obtain⟨g1,ve,g2,ea,ec,rfl,g4,g5,g6⟩:=h4 i hlt2;have k':=Mem_cell_lt d.ay g1;have p':=Mem_cell_w d.ay g1;have n':=Mem_cell_w d.ay g2;have J':=y.len;have d':i<o.length:=zo;have d3:=bg (j:=i) (u:=.bool o[i]) d.row (by simp[d']);rw[<-oU d']at d3;have d4:=dK d.row i;have j':=(World.ownsRow.lt d.row _ rfl).2;have F:=Q l[i] (zF hlt2);have M:=e' l[i] (zF hlt2);have K:l[i]?=some l[i]:=by simp[hlt2]
   have g:=fJ l i hlt2;generalize l[i]=st at*
   have a':=Pz (C':=fun o'=>bB l i=true\/∃e∈st.aH.take 0,bt o' e.to.toNat=true) y hlt2 st.aZ (fun h=>.inl (g.trans h)) (fun h=>⟨[],by simp only[aK];exact g.trans h⟩) (fun h=>by
    rcases h with h|⟨e,he,-⟩
    .exact .inr (g.symm.trans h)
    .simp at he)
   have p:=(d.setRow i (.bool (bt o i||st.aZ))).al #[.bool st.aZ,.slice ea st.aH.length ec] 80;have f:(o.map Value.bool).set i (.bool (bt o i||st.aZ))=(o.set i (bt o i||st.aZ)).map Value.bool:=by rw[List.map_set]
   rw[f,World.size_setCell]at p;have A:=zh (zi a' (zi p (zi F (zi M (zi K g)))));clear a' p f F M K g y d;generalize f':bt o i=bo at*
   unfold maxLen at g5;have Hbo:=zh f';clear f';generalize hS:i'.heap.size=S at*
   cases bo
   all_goals
    go_wp2;refine av [0,3,4,5,12,13,15,16,17,34,35,36] (fun n E O=>∃(j:Nat) (o':List Bool),j<=st.aH.length/\n=st.aH.length-j /\
     E=[.slice (some ⟨b,off,none⟩) l.length c,.slice (some ⟨B,0,none⟩) l.length l.length,.int .i64 i,.pointer (some ⟨S,0,none⟩),.int .i64 l.length,.int .i64 r,.slice (some ⟨b,off,none⟩) l.length c,.int .i64 l.length,.int .i64 i,.slice ea st.aH.length ec,.int .i64 st.aH.length,.int .i64 j] /\
     Own w m O m [.row (.slice (some ⟨B,0,none⟩) l.length l.length) 4 1 l.length (o'.map Value.bool)]/\wU l out o' i (fun P=>bB l i=true\/∃e∈st.aH.take j,bt P e.to.toNat=true)) ?_ ?_
    .exact⟨_,0,_,zG _,rfl,rfl,A.o.2.1.tail,A.o.1⟩
    clear p' n' k' d3 d4 j';rintro Z z3 n E H' hZ-⟨j,o',hj,rfl,rfl,d,y⟩;simp[aX,lk];by_cases hlt3:j<st.aH.length
    .obtain⟨b',u',rfl,m'⟩:=g6 qeq;obtain⟨e1,e2,e3,e4,e5,-⟩:=m' j hlt3;have e1w:=Mem_cell_w d.ay e1;have Y':=Mem_cell_w d.ay e2;have q':=Mem_cell_w d.ay e3;have W':=Mem_cell_lt d.ay e1;have V:=gq A.o.2.2.1 st.aH[j] (zF hlt3);obtain⟨C,x⟩:=zT V.2.1;have v':=y.len;have G:=Pz (C':=fun P=>bB l i=true\/∃e∈st.aH.take (j+1),bt P e.to.toNat=true) y hlt2 (bt o' C) (fun h=>.inr ⟨st,A.o.2.2.2.2.1,st.aH[j],zF hlt3,by rw[x];exact h⟩)
      (fun h=>Y7 Q e' A.o.2.2.2.2.1 (zF hlt3) (by rw[x];exact y.sound C h)) (fun h=>by
       rcases h with h|⟨e,he,h⟩
       .exact qcK
       .rw[zH hlt3]at he;rcases yP.1 he with q|q
        .exact .inl (.inr ⟨e,q,h⟩)
        .simp only[zZ]at q;subst q;rw[x]at h;exact .inr h)
     have J:i<o'.length:=zo;have U:=V.2.2;rw[x]at q' U;have L:C<o'.length:=zo;have d5:=bg (j:=i) (u:=.bool o'[i]) d.row (by simp[J]);have d6:=bg (j:=C) (u:=.bool o'[C]) d.row (by simp[L]);rw[<-oU J]at d5;rw[<-oU L]at d6;have d7:=dK d.row i;have drl:=(World.ownsRow.lt d.row _ rfl).2;have p:=(d.setRow i (.bool (bt o' i||bt o' C)));have f:(o'.map Value.bool).set i (.bool (bt o' i||bt o' C))=(o'.set i (bt o' i||bt o' C)).map Value.bool:=by rw[List.map_set]
     rw[f]at p;have D:=zh (zi G p);clear G p f y d x;generalize bt o' C=be at*
     generalize N:bt o' i=r' at*
     have G':=zh N;clear N;cases r'
     all_goals
      go_wp2;exact hZ.o _ _ _ zo rfl ⟨j+1,_,zo,rfl,rfl,D.o.2.al' _,D.o.1⟩
    .obtain rfl:j=st.aH.length:=zo;have c':=Yn y hlt2 (fun h=>by
      rw[yG];rcases h with h|⟨I',q,h2⟩
      .exact .inl h
      .rw[A.o.2.2.2.2.1]at q;cases q;exact .inr h2)
     have D:=zh c';clear c' y;go_wp2;exact hY.o _ _ _ zo rfl ⟨i+1,o',zo,rfl,rfl,d,D.o⟩
  .obtain rfl:i=l.length:=zo;have q:=zh (Wm s'.o y);go_wp2;exact hX.o _ _ _ zo rfl ⟨r+1,o,zo,rfl,rfl,d,q.o⟩
 .obtain rfl:r=l.length:=zo;have q:=ZL Q k;have hb:=lg (l:=out) (m:=m) (w:=O) (v:=.slice (some ⟨B,0,none⟩) l.length l.length) (by rw[k.len];exact d.row);have A:=zh (zi q (zi (lh d.bJ.done hb) (zi d.az k.len)));clear q hb d k;go_wp2;exact hR.o _ _ ⟨_,out,rfl,hB ▸ A.o.2.2.1,A.o.2.1,A.o.2.2.2,A.o.1⟩
theorem OW{es:List Ed}{lv:Nat->Bool}{j:Nat}(h:j<es.length):(es.take (j+1)).filter (fun e=>lv e.to.toNat)=(es.take j).filter (fun e=>lv e.to.toNat)++if lv (es[j]).to.toNat=true then[es[j]]else[]:=by
 rw[zH h,List.filter_append];simp[List.filter_cons]
theorem M6(v0:zV)(l:aC)(m:Mem)(w:zW)(hm:m.ay w)(hl:aQ m v0 l)(d':WF l)(i':l.length<=1000000)(E':∀s∈l,s.aH.length<=1000000):
 zC 146 #[v0] w fun e w'=>∃r lv,e=.returned r/\zB w w'/\aQ (m.grow w w') r (eY l lv)/\∀s:Nat,s<l.length->(lv s=true↔Lv l s):=by
 have hA:=KC v0 l m w hm hl d' i';have F':=Ci hl;have hl0:=hl;obtain⟨a,c,rfl,h1,h2,h3⟩:=hl;unfold maxLen at h2;have HA:=zh hA;clear hA;refine aj fun R hR=>?_
 go_enter func146,ntmps146
 go_wp2_with fail
 refine HA.o.mono ?_;rintro e w1 ⟨r,out,rfl,m',A',B',M⟩;have o':=((Own.start hm).call m').dL 80 2;obtain⟨la,lc,rfl,l1,l2,l3⟩:=A';have HF:=zh M;have L:l.length<=out.length:=zo;clear B';have q':=zh o';clear M o' HA m';go_wp2;refine av [0,3,4,12,13,14] (fun n vs wr=>∃(k:Nat) (P:zV) (xs:List Value) (mk:Mem),k<=l.length/\n=l.length-k/\vs=[.slice a l.length c,.slice la out.length lc,P,.slice a l.length c,.int .i64 l.length,.int .i64 k] /\
  Own w m wr mk [.row P 80 2 k xs]/\kJ mk xs (eY (l.take k) (bt out))/\(m.grow w w1).le mk) ?_ ?_
 .exact⟨_,0,.slice none 0 0,[],_,zG _,rfl,rfl,q'.o,kJ.nil _,Mem.le_refl _⟩
 clear q';rintro X z n vs wr hX-⟨k,P,xs,mk,hk,rfl,rfl,f,y,hmk⟩;simp[aX,lk];obtain⟨D,C,rfl⟩:=aT f.row;by_cases hlt:k<l.length
 .obtain⟨b,off,rfl,h4⟩:=h3 qdX;obtain⟨g1,ve,g2,ea,ec,rfl,g4,g5,g6⟩:=h4 k hlt;obtain⟨lb,z',rfl,l4⟩:=l3 (by intro h;simp[h]at L;simp[L]at hlt);have u:=Mem_inn_le f.ext.le f.ay;have I':=Mem_cell_w u g1;have H':=Mem_cell_w u g2;have C':=Mem_cell_lt u g1;have J:=d' l[k] (zF hlt);have R':=E' l[k] (zF hlt);have N:=F' l[k] (zF hlt);have e':eY (l.take (k+1)) (bt out)=eY (l.take k) (bt out)++[⟨(l[k]).aZ,(l[k]).aH.filter fun e=>bt out e.to.toNat⟩]:=by
   unfold eY;rw[zH hlt,yI];rfl
  generalize l[k]=st at*
  unfold maxLen at g5;have g:=((f.al #[.bool st.aZ,.slice ea st.aH.length ec] 80).tail.al #[.bool st.aZ,.slice none 0 0] 80).dL 104 3;have F:(wr.alloc (.cells #[.bool st.aZ,.slice ea st.aH.length ec] 80)).heap.size=wr.heap.size+1:=by simp
  rw[F]at g;have H:=zh (zi g (zi e' (zi J N)));clear g e' J N F f;generalize hS:wr.heap.size=S at*
  go_wp2;refine av [0,3,4,7,12,13,14,22,23,24] (fun n vs I=>∃(j:Nat) (vx:zV),j<=st.aH.length/\n=st.aH.length-j /\
   vs=[.slice (some ⟨b,off,none⟩) l.length c,.slice (some ⟨lb,z',none⟩) out.length lc,.slice D k C,.pointer (some ⟨S+1,0,none⟩),.slice (some ⟨b,off,none⟩) l.length c,.int .i64 l.length,.int .i64 k,.slice ea st.aH.length ec,.int .i64 st.aH.length,.int .i64 j] /\
   Own w m I mk [.row vx 104 3 ((st.aH.take j).filter fun e=>bt out e.to.toNat).length (dx ((st.aH.take j).filter fun e=>bt out e.to.toNat)),.obj (S+1) 80 #[.bool st.aZ,vx],.row (.slice D k C) 80 2 k xs]) ?_ ?_
  .exact⟨_,0,.slice none 0 0,zG _,rfl,rfl,H.o.1⟩
  clear I' H' C' u;rintro Y z2 n vs I hY-⟨j,vx,hj,rfl,rfl,f⟩;simp[aX,lk];obtain⟨B,A,rfl⟩:=aT f.row;by_cases hlt2:j<st.aH.length
  .obtain⟨b',O',rfl,G'⟩:=g6 qd6;obtain⟨O,e2,e3,e4,e5,e6⟩:=G' j hlt2;have u:=Mem_inn_le f.ext.le f.ay;have e1w:=Mem_cell_w u O;have e2w:=Mem_cell_w u e2;have L':=Mem_cell_w u e3;have ebl:=Mem_cell_lt u O;have T:=gq H.o.2.2.1 st.aH[j] (zF hlt2);have U:=OW (lv:=bt out) hlt2;obtain⟨G,V⟩:=zT T.2.1;have f':=T.2.2;rw[V]at L' f' U;have E:G<out.length:=zo;have x1:=Mem_cell_w f.ay (Mem_cell_le hmk (l4 G E));have xl:=Mem_cell_lt f.ay (Mem_cell_le hmk (l4 G E));rw[<-oU E]at x1;have k':dx [st.aH[j]]=[.int .u8 (st.aH[j]).lo,.int .u8 (st.aH[j]).hi,.int .i64 G]:=by simp[dx,V]
   have D':=vB (fun e=>bt out e.to.toNat) (st.aH.take j);have Q:(st.aH.take j).length<=j:=List.length_take_le _ _;generalize st.aH[j]=e at*
   generalize (st.aH.take j).filter (fun e=>bt out e.to.toNat)=v at*
   have s1:=f.au.obj.c 1;have s2:=f.au.obj.lt;have W:=zh (zi U k');clear U k' T V
   cases hbf:bt out G with
   |false=>
    rw[hbf]at x1;have Z:=zh hbf;clear hbf;go_wp2;refine hY.o _ _ _ zo rfl ⟨j+1,.slice B v.length A,zo,rfl,rfl,?_⟩;have O:=W.o.1;simp only[Int.toNat_natCast,Z.o,Bool.false_eq_true,if_false,yR]at O;rw[O]
    exact f.al' _
   |true=>
    rw[hbf]at x1;have Z:=zh hbf;clear hbf;have g:=(f.al #[.int .u8 e.lo,.int .u8 e.hi,.int .i64 G] 104).tail;have t:=g.al #[.int .u8 e.lo,.int .u8 e.hi,.int .i64 G] 104;have F:(I.alloc (.cells #[.int .u8 e.lo,.int .u8 e.hi,.int .i64 G] 104)).heap.size=I.heap.size+1:=by simp
    rw[F]at t;have q:=t.obj.cZ rfl;clear g f
    go_wp2_with (at_builtin;refine aG tq rfl (.tmp 34) (.tmp 36) rfl (.slice B v.length A) v.length (dx v) rfl t.au.row ⟨I.heap.size+1,0,none⟩ 1 1 [.int .u8 e.lo,.int .u8 e.hi,.int .i64 G] rfl rfl q qdZ qdY zo ?_)
    intro va vc w7 p d i;have x:=(t.au.app p d i zS).bA;clear p d i t q;have u2:=x.obj.c 1;have u3:=x.obj.frozen 1;have u4:=x.obj.lt;have n':=((x.set 1 (.slice va (v.length+1) vc)).au).kY;have M':=zh n';clear n' x;go_wp2;refine hY.o _ _ _ zo rfl ⟨j+1,.slice va (v.length+1) vc,zo,rfl,rfl,?_⟩;have O:=W.o.1;simp only[Int.toNat_natCast,Z.o,if_true]at O;rw[O,iN];have e2:=W.o.2;simp only[dx,xO,List.flatMap_nil,yR]at e2;rw[e2];have:=M'.o;exact qa5
  .obtain rfl:j=st.aH.length:=zo;rw[yG]at f;have D':=vB (fun e=>bt out e.to.toNat) st.aH;have h':∀e∈st.aH.filter (fun e=>bt out e.to.toNat),VI e:=fun e he=>by
    have l':=(xR.1 he).1;have q1:=H.o.2.2.2 e l';have q2:=gq H.o.2.2.1 e l';exact⟨q1.1,q1.2,zo,zo⟩
   have j':=jq (m:=mk) f.row h';have hmk2:=Mem_le_addv (w:=I) f.free;have hrow2:=(y.mono hmk2).push (s:=⟨st.aZ,st.aH.filter fun e=>bt out e.to.toNat⟩) j';rw[<-H.o.2.1]at hrow2;have g:=f.bJ;have x0:=g.obj.c 0;have x1:=g.obj.c 1;have xl:=g.obj.lt;have t:=g.al #[.bool st.aZ,.slice B (st.aH.filter fun e=>bt out e.to.toNat).length A] 80;have p':=zh qfz;clear hrow2 j' hmk2 h';generalize mk.iw I (.slice B (st.aH.filter fun e=>bt out e.to.toNat).length A)=y' at*
   generalize st.aH.filter (fun e=>bt out e.to.toNat)=v at*
   have q:=t.obj.cZ rfl;clear f g
   go_wp2_with (at_builtin;refine aG mU rfl (.tmp 40) (.tmp 42) rfl (.slice D k C) k xs rfl t.bA.row ⟨I.heap.size,0,none⟩ 1 1 [.bool st.aZ,.slice B v.length A] rfl rfl q qdZ qdY zo ?_)
   intro va vc w7 p d i;have x:=((t.bA.app p d i zS)).bL.bL;clear p d i t q;go_wp2;exact hX.o _ _ _ zo rfl ⟨k+1,.slice va (k+1) vc,_,y',zo,rfl,rfl,x,p'.o.1,p'.o.2⟩
 .obtain rfl:k=l.length:=zo;rw[yG]at y;have Q:(eY l (bt out)).length=l.length:=by simp[eY]
  have g':=gZ (l:=eY l (bt out)) (m:=mk) (by rw[Q];exact f.row) y f.free;have K:=aW f.bJ.done g';have H:=zh (zi K (zi f.az HF.o));clear g' K f y Q;go_wp2;exact hR.o _ _ ⟨_,bt out,rfl,H.o.2.1,H.o.1,H.o.2.2⟩
theorem tV{o:List Nat}{k:Nat}(h:k<o.length):(dO o)[k]?=some (.int .i64 (o[k]:Nat)):=by simp[dO,h]
theorem Dp(o:List Nat)(es:List Ed)(e:Ed)(q:Nat):dx (uS o es++[⟨e.lo,e.hi,(q:Int)⟩])=dx (uS o es)++[.int .u8 e.lo,.int .u8 e.hi,.int .i64 q]:=by rw[iN]
theorem Nt(v0:zV)(l:aC)(m:Mem)(w:zW)(hm:m.ay w)(hl:aQ m v0 l)(hwf:WF l)(hlen:l.length<=1000000)(hpos:0<l.length)(hel:∀s∈l,s.aH.length<=1000000):
 zC 147 #[v0] w fun e w'=>∃r o,e=.returned r/\zB w w'/\aQ (m.grow w w') r (jl l o o.length)/\qC l o o.length:=by
 have hby:=Ci hl;obtain⟨a,c,rfl,h1,h2,h3⟩:=hl;unfold maxLen at h2;obtain⟨b,off,rfl,h4⟩:=h3 qeN;clear h3;refine aj fun R hR=>?_;have i:=(((Own.start hm).al #[.int .i64 0] 3).Tz).dL 80 2;have HO:=zh (zi i (Nu hpos));clear i
 go_enter func147,ntmps147
 go_wp2;refine av [0,3,4,5] (fun n P wr=>∃(k:Nat) (o:List Nat) (vo q':zV) (xs:List Value) (mk:Mem),n=l.length-k/\P=[.slice (some ⟨b,off,none⟩) l.length c,vo,q',.int .i64 k] /\
  Own w m wr mk [.row q' 80 2 k xs,.row vo 3 1 o.length (dO o)]/\kJ mk xs (jl l o k)/\qC l o k) ?_ ?_
 .exact⟨_,0,[0],.slice (some ⟨w.heap.size,0,none⟩) 1 1,.slice none 0 0,[],_,rfl,rfl,HO.o.1,kJ.nil _,HO.o.2⟩
 clear HO;rintro X z n P wr hX-⟨k,o,vo,q',xs,mk,rfl,rfl,i,a',N⟩;simp[aX,lk];obtain⟨C,B,rfl⟩:=aT i.row;obtain⟨voa,voc,rfl⟩:=aT i.au.row;have hoN:=Da N.nodup N.lt;have hkle:=N.le;by_cases u':k<o.length
 .obtain⟨vob,rfl⟩:=kH i.au.row zo;have U:=N.lt _ (zF u');have r1:=bg i.au.row (tV u');obtain⟨g1,ve,g2,ea,ec,rfl,g4,g5,g6⟩:=h4 o[k] U;have D:=Mem_inn_le i.ext.le i.ay;have g1w:=Mem_cell_w D g1;have g2w:=Mem_cell_w D g2;have hgl:=Mem_cell_lt D g1;have rl:=(World.ownsRow.lt i.au.row _ rfl).2;have i':=hwf l[o[k]] (zF U);have hell:=hel l[o[k]] (zF U);have m':=hby l[o[k]] (zF U);have Q':l[o[k]]?=some l[o[k]]:=by simp[U]
  have k':=U8 N (l[o[k]]).aH;have c':=fun o'=>Qq N u' Q' (o':=o');have HX:=zh (zi c' (zi k' (zi i' m')));clear c' k' Q' i' m';generalize l[o[k]]=st at*
  generalize o[k]=s at*
  unfold maxLen at g5;have g:=(i.al #[.bool st.aZ,.slice none 0 0] 80).dL 104 3;have f':=zh g;clear g i;generalize hS:wr.heap.size=S at*
  go_wp2;refine av [0,4,5,6,3,33,34,35] (fun n P w2=>∃(j:Nat) (o':List Nat) (r' vx:zV),j<=st.aH.length/\n=st.aH.length-j /\
   P=[.slice (some ⟨b,off,none⟩) l.length c,.slice C k B,.int .i64 k,.pointer (some ⟨S,0,none⟩),r',.slice ea st.aH.length ec,.int .i64 st.aH.length,.int .i64 j] /\
   Own w m w2 mk [.row vx 104 3 j (dx (uS o' (st.aH.take j))),.obj S 80 #[.bool st.aZ,vx],.row (.slice C k B) 80 2 k xs,.row r' 3 1 o'.length (dO o')] /\
   InR l o st.aH j o') ?_ ?_
  .exact⟨_,0,o,.slice (some ⟨vob,0,none⟩) o.length voc,.slice none 0 0,zG _,rfl,rfl,f'.o,HX.o.2.1⟩
  clear f' g1w g2w hgl D r1 rl;rintro Y z2 n P w2 hY-⟨j,o',r',vx,hj,rfl,rfl,i,hI⟩;simp[aX,lk];obtain⟨J,I,rfl⟩:=aT i.row;obtain⟨E',F,rfl⟩:=aT i.dZ.row;have hoN':=Da hI.nodup hI.lt;have hol':=hI.pre.length_le;by_cases hlt2:j<st.aH.length
  .obtain⟨b',Q,rfl,h10⟩:=g6 qd6;obtain⟨e1,e2,e3,e4,e5,e6⟩:=h10 j hlt2;have D:=Mem_inn_le i.ext.le i.ay;have e1w:=Mem_cell_w D e1;have e2w:=Mem_cell_w D e2;have V':=Mem_cell_w D e3;have ebl:=Mem_cell_lt D e1;have s':=gq HX.o.2.2.1 st.aH[j] (zF hlt2);have G:=XC hI hlt2 zo;obtain⟨A,S'⟩:=zT s'.2.1;have K':=s'.2.2;rw[S']at V' K' G;rw[Int.toNat_natCast]at G;obtain⟨L,rfl⟩:=kH i.dZ.row zo;have X':=zh G;clear G s' S';generalize st.aH[j]=e at*
   have g:=i.al #[.int .u8 e.lo,.int .u8 e.hi,.int .i64 A] 104;have f':=zh g;have hne:S<w2.heap.size:=i.au.obj.lt;clear g i;generalize hE:w2.heap.size=E at*
   go_wp2;refine av [0,4,5,6,3,33,34,35,8,9] (fun n P w3=>∃(q:Nat),q<=gJ o' A/\n=o'.length-q /\
    P=[.slice (some ⟨b,off,none⟩) l.length c,.slice C k B,.int .i64 k,.pointer (some ⟨S,0,none⟩),.slice (some ⟨L,0,none⟩) o'.length F,.slice (some ⟨b',Q,none⟩) st.aH.length ec,.int .i64 st.aH.length,.int .i64 j,.pointer (some ⟨E,0,none⟩),.int .i64 q] /\
    Own w m w3 mk [.obj E 104 #[.int .u8 e.lo,.int .u8 e.hi,.int .i64 A],.row (.slice J j I) 104 3 j (dx (uS o' (st.aH.take j))),.obj S 80 #[.bool st.aZ,.slice J j I],.row (.slice C k B) 80 2 k xs,.row (.slice (some ⟨L,0,none⟩) o'.length F) 3 1 o'.length (dO o')]) ?_ ?_
   .exact⟨_,0,zG _,rfl,rfl,f'.o⟩
   clear f' e1w e2w V' ebl D;rintro Z z3 n P w3 hZ-⟨q,hq,rfl,rfl,i⟩;simp[aX,lk];have hip:=OG o' A;have f2:=i.obj.c 2;have fl:=i.obj.lt;go_wp2;refine aR [0,4,5,6,3,33,34,35,8,9,51] (fun P w'=>∃(bb:Bool) (nq:Nat),P=[.slice (some ⟨b,off,none⟩) l.length c,.slice C k B,.int .i64 k,.pointer (some ⟨S,0,none⟩),.slice (some ⟨L,0,none⟩) o'.length F,.slice (some ⟨b',Q,none⟩) st.aH.length ec,.int .i64 st.aH.length,.int .i64 j,.pointer (some ⟨E,0,none⟩),.int .i64 q,.bool bb] /\
    w'=w3.drewN nq/\(bb=true->q<o'.length/\q+1<=gJ o' A)/\(bb=false->q=gJ o' A)) ?_ ?_
   .intro V hV;by_cases t':q<o'.length
    .have O':=Rj hq t';have r2:=bg i.fifth.row (tV t');have HN:=zh O';clear O';generalize o'[q]=y at*
     by_cases hy:y=A
     .have P':((y:Int) != (A:Int))=false:=by simp[hy]
      have HY:=zh hy;clear hy;refine wp_region_quiet_lit zk zk ?_
      repeat (any_goals (first|go_big_quiet_step (fail)|quiet_step (fail)|(refine wpQuiet_step (fun K hK=>?_);go_simp;split<;>(refine hK _ ?_;clear hK K))))
      all_goals (refine wpQuiet_nil ?_;intro _ T;obtain⟨nq,M⟩:=T;subst M)
      all_goals go_wp2
      all_goals refine hV.o _ _ rfl ⟨false,nq,rfl,rfl,(fun h=>by cases h),fun _=>?_⟩
      all_goals
       have:=HN.o;rw[zK HY.o]at this;exact this
     .have P':((y:Int) != (A:Int))=true:=by simp;omega
      have HY:=zh hy;clear hy;refine wp_region_quiet_lit zk zk ?_
      repeat (any_goals (first|go_big_quiet_step (fail)|quiet_step (fail)|(refine wpQuiet_step (fun K hK=>?_);go_simp;split<;>(refine hK _ ?_;clear hK K))))
      all_goals (refine wpQuiet_nil ?_;intro _ T;obtain⟨nq,M⟩:=T;subst M)
      all_goals go_wp2
      all_goals refine hV.o _ _ rfl ⟨true,nq,rfl,rfl,(fun _=>⟨t',?_⟩),(fun h=>by cases h)⟩
      all_goals
       have:=HN.o;rw[zJ HY.o]at this;exact this
    .refine wp_region_quiet_lit zk zk ?_
     repeat (any_goals (first|go_big_quiet_step (fail)|quiet_step (fail)|(refine wpQuiet_step (fun K hK=>?_);go_simp;split<;>(refine hK _ ?_;clear hK K))))
     all_goals (refine wpQuiet_nil ?_;intro _ T;obtain⟨nq,M⟩:=T;subst M)
     all_goals go_wp2
     all_goals exact hV.o _ _ rfl ⟨false,nq,rfl,rfl,(fun h=>by cases h),fun _=>zo⟩
   rintro z4 P w4-⟨bb,nq,rfl,rfl,x',v'⟩;simp[aX,lk];have g:=i.Ep nq;clear i f2 fl
   cases bb with
   |true=>
    obtain⟨hq3,hq4⟩:=x' rfl;clear x' v';go_wp2
    exact hZ.o _ _ _ zo rfl ⟨q+1,hq4,rfl,rfl,g⟩
   |false=>
    obtain rfl:=v' rfl;clear x' v';have f2:=g.obj.c 2;have fl:=g.obj.lt
    go_upto_if 57 with(fail)
    refine aR [0,4,5,6,3,33,34,35,8,9] (fun P w5=>∃h':Value,P=[.slice (some ⟨b,off,none⟩) l.length c,.slice C k B,.int .i64 k,.pointer (some ⟨S,0,none⟩),h',.slice (some ⟨b',Q,none⟩) st.aH.length ec,.int .i64 st.aH.length,.int .i64 j,.pointer (some ⟨E,0,none⟩),.int .i64 (gJ o' A)] /\
     Own w m w5 mk [.obj E 104 #[.int .u8 e.lo,.int .u8 e.hi,.int .i64 A],.row (.slice J j I) 104 3 j (dx (uS o' (st.aH.take j))),.obj S 80 #[.bool st.aZ,.slice J j I],.row (.slice C k B) 80 2 k xs,.row h' 3 1 (nH o' A).length (dO (nH o' A))]) ?_ ?_
    .intro V hV;by_cases e':gJ o' A<o'.length
     .have T':(((gJ o' A:Nat):Int)==(o'.length:Int))=false:=zO.2 zo;have d':nH o' A=o':=by unfold nH;rw[zK e']
      have z':=zh d';clear d';go_wp2;refine hV.o _ _ rfl ⟨.slice (some ⟨L,0,none⟩) o'.length F,rfl,?_⟩;rw[z'.o];exact g
     .have T':(((gJ o' A:Nat):Int)==(o'.length:Int))=true:=beq_iff_eq.2 zo;have d':nH o' A=o'++[A]:=by unfold nH;rw[zJ e']
      have z':=zh d';have f:=g.al #[.int .i64 A] 3;clear d';have I':(w3.drewN nq).heap.size=w3.heap.size:=rfl;rw[I']at f;have x:=f.obj.cZ rfl
      go_wp2_with (at_builtin;refine aG sZ rfl (.tmp 58) (.tmp 61) rfl (.slice (some ⟨L,0,none⟩) o'.length F) o'.length (dO o') rfl (f.kP zS) ⟨w3.heap.size,0,none⟩ 1 1 [.int .i64 A] rfl rfl x qdZ qdY zo ?_)
      intro va vc w7 u d p;have H:=(f.AB (l₁:=[_,_,_,_,_])).app u d p zS;have O:=(H.Ao (l₁:=[_,_,_,_,_])).tail;have HO5:=zh O;clear O H f u d p x;go_wp2;refine hV.o _ _ rfl ⟨.slice va (o'.length+1) vc,rfl,?_⟩;rw[z'.o];exact qdI
    rintro z5 P w5-⟨h',rfl,f⟩;simp[aX,lk];have f0:=f.obj.c 0;have f1:=f.obj.c 1;have fl:=f.obj.lt;have x1:=f.bA.obj.c 1;have xl:=f.bA.obj.lt;obtain⟨G',F',rfl⟩:=aT (f.kP (v:=h') (t:=3) (size:=1) (n:=(nH o' A).length) (xs:=dO (nH o' A)) zS);have H:=f.tail.al #[.int .u8 e.lo,.int .u8 e.hi,.int .i64 (gJ o' A)] 104;have x:=H.obj.cZ rfl;clear f g
    go_wp2_with (at_builtin;refine aG tq rfl (.tmp 64) (.tmp 71) rfl (.slice J j I) j (dx (uS o' (st.aH.take j))) rfl H.au.row ⟨w5.heap.size,0,none⟩ 1 1 [.int .u8 e.lo,.int .u8 e.hi,.int .i64 (gJ o' A)] rfl rfl x qdZ qdY zo ?_)
    intro va vc w7 u d p;have O:=(H.au.app u d p zS).bA;clear u d p H x;have u2:=O.obj.c 1;have u3:=O.obj.frozen 1;have u4:=O.obj.lt;have U':=((O.set 1 (.slice va (j+1) vc)).au).kY;have HO6:=zh U';clear U' O;go_wp2;refine hY.o _ _ _ zo rfl ⟨j+1,nH o' A,.slice G' (nH o' A).length F',.slice va (j+1) vc,zo,rfl,rfl,?_,X'.o.1⟩;rw[X'.o.2,Dp];exact HO6.o
  .obtain rfl:j=st.aH.length:=zo;rw[yG]at i;have hn:=HX.o.1 o' hI;have N':∀e∈uS o' st.aH,VI e:=fun e he=>by
    obtain⟨e0,he0,rfl⟩:=yD.1 he;have q1:=HX.o.2.2.2 e0 he0;have q2:=OG o' e0.to.toNat;exact⟨q1.1,q1.2,by show _<=((gJ o' e0.to.toNat:Nat):Int);omega,by show((gJ o' e0.to.toNat:Nat):Int)<=_;omega⟩
   have M':(uS o' st.aH).length=st.aH.length:=by simp[uS]
   have R':=jq (m:=mk) (l:=uS o' st.aH) (by rw[M'];exact i.row) N';have l':=Mem_le_addv (w:=w2) i.free;have W:=(a'.mono l').push (s:=⟨st.aZ,uS o' st.aH⟩) R';have g:=i.bJ;have x0:=g.obj.c 0;have x1:=g.obj.c 1;have xl:=g.obj.lt;have f:=g.al #[.bool st.aZ,.slice J st.aH.length I] 80;have y':=zh (zi W hn);clear W R' l' N' M' hn hI;generalize mk.iw w2 (.slice J st.aH.length I)=mk2 at*
   have x:=f.obj.cZ rfl;clear i g
   go_wp2_with (at_builtin;refine aG mU rfl (.tmp 75) (.tmp 77) rfl (.slice C k B) k xs rfl f.bA.row ⟨w2.heap.size,0,none⟩ 1 1 [.bool st.aZ,.slice J st.aH.length I] rfl rfl x qdZ qdY zo ?_)
   intro va vc w7 u d p;have H:=((f.bA.app u d p zS)).bL.bL;clear u d p f x;go_wp2;refine hX.o _ _ _ zo rfl ⟨k+1,o',.slice E' o'.length F,.slice va (k+1) vc,_,mk2,rfl,rfl,H,?_,y'.o.2.1⟩;rw[y'.o.2.2];exact y'.o.1
 .obtain rfl:k=o.length:=zo;have J':(jl l o o.length).length=o.length:=by simp[jl]
  have L':=gZ (l:=jl l o o.length) (m:=mk) (by rw[J'];exact i.row) a' i.free;have j':=aW i.bJ.done L';have Hk:=zh (zi j' (zi i.az N));clear L' j' i a' J' N;go_wp2;exact hR.o _ _ ⟨_,o,rfl,Hk.o.2.1,Hk.o.1,Hk.o.2.2⟩
theorem YK:prog.underlying 227=some (.array 2 3):=by kernel_rfl
theorem Vi:prog.eqGuardType prog.depth 227=false:=by kernel_rfl
theorem Wj(a b e c:Int)(w:zW):(Op.equalIn 10000 227 (.agg #[.int .i64 a,.int .i64 b]) (.agg #[.int .i64 e,.int .i64 c])).run prog w=.ok (a==e&&b==c) w:=by
 have i:=fun(d:Nat) (a b:Int) (w:zW)=>run_equalIn_int (P:=prog) w d 3 .i64 .i64 a b underlying3;have h:(Tryz.t3).size=1:=by kernel_rfl
 show(Op.equalIn (9999+1) 227 _ _).run _ _=_;rw[Op.equalIn];simp only[Sem.run_bind,run_underlying YK,Result.andThen_ok];simp only[Std.Legacy.Range.forIn_eq_forIn_range',Std.Legacy.Range.size];simp[isAgg,Go.sizeOf,go_sem,i,h,List.range'];by_cases g:a=e<;>by_cases f:b=c<;>simp[g,f]
theorem Uu(v:zV)(l:List (Int×Int))(x:Int×Int)(m:Mem)(w:zW)(s:m.ay w)(t:df m v l):
 zX 247 #[v,.agg #[.int .i64 x.1,.int .i64 x.2]] w (.int .i64 (firstIdx (fun y=>y=x) l 0)):=by
 obtain⟨a,c,rfl,K,D,C⟩:=t;unfold maxLen at D;refine aj fun R hR=>?_
 go_enter func247,ntmps247
 go_wp2;have hb0:zB w (w.alloc (.cells #[.int .i64 x.1,.int .i64 x.2] 227)):=bE (zR _ _) _;have H:(w.alloc (.cells #[.int .i64 x.1,.int .i64 x.2] 227)).cell? ⟨w.heap.size,0,none⟩=some (.int .i64 x.1):=by simp
 have G:(w.alloc (.cells #[.int .i64 x.1,.int .i64 x.2] 227)).cell? ⟨w.heap.size,1,none⟩=some (.int .i64 x.2):=by simp
 have r:w.heap.size<(w.alloc (.cells #[.int .i64 x.1,.int .i64 x.2] 227)).heap.size:=by simp
 have i:=Mem_inn_below s hb0;generalize w.alloc (.cells #[.int .i64 x.1,.int .i64 x.2] 227)=w0 at*
 refine av [0,3,5] (fun n p o=>∃k:Nat,k<=l.length/\n=l.length-k/\p=[.slice a l.length c,.pointer (some ⟨w.heap.size,0,none⟩),.int .i64 k]/\firstIdx (fun y=>y=x) l 0=firstIdx (fun y=>y=x) (l.drop k) k/\Below w0.heap.size w0 o) ?_ ?_
 .exact qa8
 rintro X z n p o hX-⟨k,J,rfl,rfl,d,hbel⟩;have Hrel:=zh d;clear d;simp[aX,lk];have g:=Mem_inn_below i hbel;have M:=iI hbel r H;have L:=iI hbel r G;by_cases hlt:k<l.length
 .obtain⟨b,off,rfl,B⟩:=C qdX;obtain⟨F,E,-⟩:=B k hlt;have O:=Mem_cell_w g F;have N:=Mem_cell_w g E;have HD:=zh (lN (fun y=>y=x) l k hlt);have I:=fun w=>Wj (l[k].1) (l[k].2) x.1 x.2 w;have u:=Vi;by_cases f:l[k]=x
  .have j:(l[k].1==x.1)=true:=by simp[<-f]
   have A:(l[k].2==x.2)=true:=by simp[<-f]
   have Hx:=zh f;clear f;go_wp2
   go_quiet (fail)
   exact qcq
  .have j:(l[k].1==x.1&&l[k].2==x.2)=false:=by
    by_cases h:l[k].1=x.1
    .by_cases q:l[k].2=x.2
     .exact absurd (Prod.ext h q) f
     .simp[q]
    .simp[h]
   have Hx:=zh f;clear f;go_wp2
   go_quiet (fail)
   exact qbX
 .exact qdj
theorem Ld(v v':zV)(l l':List Int)(m:Mem)(w:zW)(B:m.ay w)(C:eU m v l)(p:eU m v' l'):
 zX 221 #[v,v'] w (.bool (tf (l=l'))):=by
 obtain⟨a,c,rfl,M,G,F⟩:=C;obtain⟨K,J,rfl,H,t,s⟩:=p;unfold maxLen at G t;refine aj fun R hR=>?_;by_cases hlen:l.length=l'.length
 .have j:((l.length:Int) != (l'.length:Int))=false:=by simp[hlen]
  have Hlen:=zh hlen;clear hlen
  go_enter func221,ntmps221
  go_wp2;refine av [0,1,12,13] (fun n x u=>∃k:Nat,k<=l.length/\n=l.length-k/\x=[.slice a l.length c,.slice K l'.length J,.int .i64 l.length,.int .i64 k]/\(l=l'↔l.drop k=l'.drop k)/\zB w u) ?_ ?_
  .exact qaA
  rintro X z n x u D-⟨k,L,rfl,rfl,f,hbel⟩;have Hrel:=zh f;clear f;simp[aX,lk];have i:=Mem_inn_below B hbel;by_cases hlt:k<l.length
  .have hlt':k<l'.length:=by rw[<-Hlen.o];exact hlt
   obtain⟨b,off,rfl,E⟩:=F qdX;obtain⟨O,y,rfl,r⟩:=s qd3;have N:=Mem_cell_w i (E k hlt).1;have I:=Mem_cell_w i (r k hlt').1;have A:=zh qfo;by_cases d:l[k]=l'[k]
   .have q:(l[k] != l'[k])=false:=by simp[d]
    have g:=zh d;clear d;go_wp2
    go_quiet (fail)
    go_wp2;exact D.o _ _ _ zo rfl ⟨k+1,zo,rfl,rfl,Hrel.o.trans (A.o.trans ⟨fun h=>h.2,fun h=>⟨g.o,h⟩⟩),below_drewN hbel _⟩
   .have q:(l[k] != l'[k])=true:=by simp[d]
    have g:=zh d;clear d;go_wp2
    go_quiet (fail)
    go_wp2;exact hR.o _ _ ⟨aS (by rw[aA];intro h;exact g.o (A.o.1 (Hrel.o.1 h)).1),below_drewN hbel _⟩
  .exact qam
 .have j:((l.length:Int) != (l'.length:Int))=true:=by simp;omega
  go_enter func221,ntmps221
  exact qaC
theorem XK(v v':zV)(l:List (List Int))(x:List Int)(m:Mem)(w:zW)(F:m.ay w)(G:pq m v l)(g:eU m v' x):
 zX 189 #[v,v'] w (.int .i64 (firstIdx (fun y=>y=x) l 0)):=by
 have d:=fun u y E D r=>Ld u v' y x m D r E g;have O:=zh d;clear d;obtain⟨a,c,rfl,T,K,J⟩:=G;obtain⟨M,L,rfl,-⟩:=g;unfold maxLen at K;refine aj fun R hR=>?_
 go_enter func189,ntmps189
 go_wp2;refine av [0,1,7,8] (fun n A t=>∃k:Nat,k<=l.length/\n=l.length-k/\A=[.slice a l.length c,.slice M x.length L,.int .i64 l.length,.int .i64 k]/\firstIdx (fun y=>y=x) l 0=firstIdx (fun y=>y=x) (l.drop k) k/\zB w t) ?_ ?_
 .exact qa8
 rintro X z n A t H-⟨k,S,rfl,rfl,i,hbel⟩;have Hrel:=zh i;clear i;simp[aX,lk];have p:=Mem_inn_below F hbel;by_cases hlt:k<l.length
 .obtain⟨b,off,rfl,I⟩:=J qdX;obtain⟨u,q,j⟩:=I k hlt;have B:=O.o u l[k] j _ p;obtain⟨Q,P,rfl,-⟩:=j;have U:=Mem_cell_w p q;have C:=zh (lN (fun y=>y=x) l k hlt);have s:=zh B;clear B
  go_wp2_with fail
  refine s.o.mono ?_;rintro e w' ⟨rfl,f⟩;by_cases g:l[k]=x
  .rw[aO g];have N:=zh g;clear g;go_wp2;exact hR.o _ _ ⟨dU (by rw[Hrel.o,C.o,zK (aO N.o)]),dD hbel f⟩
  .rw[aA g];go_wp2;exact H.o _ _ _ zo rfl ⟨k+1,zo,rfl,rfl,by rw[Hrel.o,C.o,zJ (by rw[aA g];simp)],dD hbel f⟩
 .exact qdw
theorem LK(v v':zV)(l cl:List Int)(x:Nat)(m:Mem)(w:zW)(I:m.ay w)(J:eU m v l)(K:eU m v' cl)(G:x<cl.length)(q:∀y∈l,0<=y/\y<cl.length):
 zX 150 #[v,v',.int .i64 x] w (.int .i64 (let r:=firstIdx (fun y=>cl.getD y.toNat 0=cl[x]) l 0;if r<0 then l.length else r)):=by
 obtain⟨a,c,rfl,V,O,N⟩:=J;obtain⟨Z,S,rfl,P,D,C⟩:=K;obtain⟨T,j,rfl,t⟩:=C (by intro h;simp[h]at G);unfold maxLen at O D;refine aj fun R hR=>?_
 go_enter func150,ntmps150
 go_wp2;refine av [0,1,2,9,10,11] (fun n F E=>∃k:Nat,k<=l.length/\n=l.length-k/\F=[.slice a l.length c,.slice (some ⟨T,j,none⟩) cl.length S,.int .i64 x,.slice a l.length c,.int .i64 l.length,.int .i64 k]/\firstIdx (fun y=>cl.getD y.toNat 0=cl[x]) l 0=firstIdx (fun y=>cl.getD y.toNat 0=cl[x]) (l.drop k) k/\zB w E) ?_ ?_
 .exact qa8
 rintro X z n F E L-⟨k,U,rfl,rfl,f,hbel⟩;have Hrel:=zh f;clear f;simp[aX,lk];have g:=Mem_inn_below I hbel;by_cases hlt:k<l.length
 .obtain⟨b,off,rfl,M⟩:=N qdX;have Q:=Mem_cell_w g (M k hlt).1;obtain⟨y,A⟩:=zT (q l[k] (zF hlt)).1;have p:y<cl.length:=by have:=(q l[k] (zF hlt)).2;omega
  have s:cl.getD (l[k]).toNat 0=cl[y]:=by rw[A];simp[p]
  rw[A]at Q;have u:=zh s;clear s A;have Y:=Mem_cell_w g (t y p).1;have W:=Mem_cell_w g (t x G).1;have H:=zh (lN (fun y=>cl.getD y.toNat 0=cl[x]) l k hlt);by_cases d:cl[y]=cl[x]
  .have B:(cl[y]==cl[x])=true:=by simp[d]
   have i:=zh d;clear d;go_wp2
   go_quiet (fail)
   go_wp2;refine hR.o _ _ ⟨dU ?_,below_drewN hbel _⟩;rw[Hrel.o,H.o,zK (aO (by rw[u.o];exact i.o))];rw[zJ zo]
  .have B:(cl[y]==cl[x])=false:=by simp[d]
   have i:=zh d;clear d;go_wp2
   go_quiet (fail)
   go_wp2;exact L.o _ _ _ zo rfl ⟨k+1,zo,rfl,rfl,by rw[Hrel.o,H.o,zJ (by rw[aA (by rw[u.o];exact i.o)];simp)],below_drewN hbel _⟩
 .exact qdw
def WZ(bK:List Int)(a:Nat->Nat->Int)(s i:Nat):List Int:=bK.getD s 0::(List.range i).map fun i=>qY bK (a s i)
theorem Uh(bK:List Int)(a:Nat->Nat->Int)(s i:Nat):WZ bK a s (i+1)=WZ bK a s i++[qY bK (a s i)]:=by
 unfold WZ;rw[List.range_succ,yI];rfl
theorem Jg(l:List (List Int))(x:List Int):firstIdx (fun y=>y=x) l 0=if l.findIdx (·==x)<l.length then((l.findIdx (·==x):Nat):Int)else -1:=by
 rcases nZ (fun y=>y=x) l 0 with⟨h1,h2⟩|⟨i,h1,h2,h3,h4⟩
 .exact qcj
 .have:l.findIdx (·==x)=i:=by
   exact qcA
  rw[h2,this,zK h1];simp
theorem Pk{bK:List Int}{n:Nat}(_:bK.length=n)(a:∀s,s<n->0<=bK.getD s 0/\bK.getD s 0<=n){x:Int}(b : -1<=x/\x<n): -1<=qY bK x/\qY bK x<=n:=by
 unfold qY
 split
 .omega
 .have:=a x.toNat zo;omega
theorem Pm(v0 v1:zV)(l:aC)(d:List Int)(lo hi:Nat->Nat)(m:Mem)(w:zW)(hm:m.ay w)(hl:aQ m v0 l)(hc:eU m v1 d)(hwf:WF l)(hlen:l.length<=1000000)(hpos:1<=l.length)
(H:Ev l l.length lo hi d.length (fun s i=>bC l s (lo i)))(hlo:∀i,(h:i<d.length)->d[i]=lo i)(hclen:d.length<=256):
 zC 149 #[v0,v1] w fun e w'=>∃r bK,e=.returned r/\zB w w'/\eU (m.grow w w') r bK/\sN l l.length bK:=by
 have hl0:=hl;obtain⟨a,c,rfl,h1,h2,h3⟩:=hl;obtain⟨ca,cc,rfl,c1,c2,c3⟩:=hc;unfold maxLen at h2 c2;obtain⟨b,off,rfl,h4⟩:=h3 qeN;clear h3;refine aj fun R hR=>?_
 go_enter func149,ntmps149
 go_wp2_with (refine wpList_make_row Db rfl (.tmp 18) (.tmp 18) rfl l.length rfl rfl zo qdY ?_)
 intro w1 f' P;have f:=((Own.start hm).make f' P);rw[pE]at f;clear f' P;generalize w.heap.size=B at f⊢;go_wp2;refine av [0,1,5,20,21,22] (fun n vs wr=>∃k:Nat,k<=l.length/\n=l.length-k/\vs=[.slice (some ⟨b,off,none⟩) l.length c,.slice ca d.length cc,.slice (some ⟨B,0,none⟩) l.length l.length,.slice (some ⟨b,off,none⟩) l.length c,.int .i64 l.length,.int .i64 k] /\
  Own w m wr m [.row (.slice (some ⟨B,0,none⟩) l.length l.length) 3 1 l.length (jH (((l.take k).map (·.aZ)).map MF) (l.length-k))]) ?_ ?_
 .exact⟨_,0,zG _,rfl,rfl,by simpa using f⟩
 clear f;rintro X z n vs wr hX-⟨k,hk,rfl,rfl,f⟩;simp[aX,lk];by_cases hlt:k<l.length
 .obtain⟨g1,ve,g2,ea,ec,rfl,g4,g5,g6⟩:=h4 k hlt;have Z':=Mem_cell_w f.ay g1;have g2w:=Mem_cell_w f.ay g2;have hgl:=Mem_cell_lt f.ay g1;have G':=Eg (acc:=l.map (·.aZ)) (k:=k) (N:=l.length) qeA zS;rw[<-List.map_take,<-List.map_take,xQ]at G';have r1:=bg (j:=k) (u:=.int .i64 0) f.row (j5 qd4 zo);have r2:=dK f.row k;have r3:=(World.ownsRow.lt f.row _ rfl).2;have C:=f.setRow k (.int .i64 1);have HS:=zh (zi G' (zi f C));clear G' f C
  cases hb:(l[k]).aZ with
  |true=>
   rw[hb]at Z' HS;go_wp2;refine hX.o _ _ _ zo rfl ⟨k+1,zo,rfl,rfl,?_⟩;rw[HS.o.1]
   exact HS.o.2.2.al' _
  |false=>
   rw[hb]at Z' HS;go_wp2;refine hX.o _ _ _ zo rfl ⟨k+1,zo,rfl,rfl,?_⟩;rw[HS.o.1,show Value.int .i64 (MF false)=.int .i64 0 from rfl];have:∀{xs:List Value},xs[k]?=some (.int .i64 0)->xs.set k (.int .i64 0)=xs:=fun {xs} h=>by
    exact qdG
   rw[this (j5 qd4 zo)];exact HS.o.2.1.al' _
 .obtain rfl:k=l.length:=zo;rw[yG,Nat.sub_self,qQ]at f;have J:wS l l.length ((l.map (·.aZ)).map MF) 0:=JL hpos zS fun s hs=>by
   rw[fJ l s hs];simp[hs,MF]
  have h':=dS (l:=(l.map (·.aZ)).map MF) (m:=m) (by simpa using f.row) (fun x hx=>by
   obtain⟨b,-,rfl⟩:=yD.1 hx;unfold MF;split<;>omega)
  have hO4:=f.bJ;have r':=Mem_le_addv (w:=wr) f.free;generalize m.iw wr (.slice (some ⟨B,0,none⟩) l.length l.length)=E' at*
  generalize Value.slice (some ⟨B,0,none⟩) l.length l.length=vk at*
  generalize (l.map (·.aZ)).map MF=cls0 at*
  have E:=zh (zi J (zi h' (zi hO4 r')));clear J h' hO4 r' f;go_wp2;refine av [0,1,5,8,34,35] (fun n vs wr=>∃(r g:Nat) (bK:List Int) (vk:zV) (mk':Mem),n=l.length-r/\r<=l.length/\r<=g/\g<=l.length /\
   vs=[.slice (some ⟨b,off,none⟩) l.length c,.slice ca d.length cc,vk,.int .i64 g,.int .i64 l.length,.int .i64 r] /\
   wS l l.length bK g/\eU mk' vk bK/\Own w m wr mk' []/\m.le mk') ?_ ?_
  .exact⟨_,0,0,cls0,vk,E',rfl,zG _,zG _,zG _,rfl,E.o.1,E.o.2.1,E.o.2.2.1,E.o.2.2.2⟩
  clear E;rintro Y z n vs wr2 hY-⟨r,g,bK,vk,E',rfl,hr,hrm,hmany,rfl,q',h',f,r'⟩;simp[aX,lk];have Q:=q'.len;have u':=q'.ik;have B':=h';obtain⟨ka,kc,rfl,k1,k2,k3⟩:=h';have H':0<bK.length:=zo;obtain⟨kb,ko,rfl,k4⟩:=k3 (by intro h;simp[h]at H');unfold maxLen at k2;have j':=zh (zi q' (zi Q u'));have hcl1:l.length<=bK.length:=zo;have hcl2:bK.length<=l.length:=zo;clear q' Q u';by_cases hlt2:r<l.length
  .go_wp2_with (refine wpList_make_row Db rfl (.tmp 38) (.tmp 38) rfl l.length rfl rfl zo qdY ?_)
   intro w3 e' O;have C:=(f.make e' O).dL 135 1;rw[pE]at C;have k':=zh C;clear C f e' O;generalize wr2.heap.size=M at*
   go_wp2;refine av [0,1,5,8,34,35,9,10,41,42] (fun n vs w4=>∃(s:Nat) (D':zV) (xs:List Value) (mk:Mem),s<=l.length/\n=l.length-s /\
    vs=[.slice (some ⟨b,off,none⟩) l.length c,.slice ca d.length cc,.slice (some ⟨kb,ko,none⟩) bK.length kc,.int .i64 g,.int .i64 l.length,.int .i64 r,D',.slice (some ⟨M,0,none⟩) l.length l.length,.int .i64 l.length,.int .i64 s] /\
    Own w m w4 mk [.row D' 135 1 (fq (sig bK (fun s i=>bC l s (lo i)) d.length) s).1.length xs,.row (.slice (some ⟨M,0,none⟩) l.length l.length) 3 1 l.length (jH (fq (sig bK (fun s i=>bC l s (lo i)) d.length) s).2 (l.length-s))] /\
    nE mk xs (fq (sig bK (fun s i=>bC l s (lo i)) d.length) s).1/\E'.le mk) ?_ ?_
   .exact⟨_,0,.slice none 0 0,[],_,zG _,rfl,rfl,k'.o,nE.nil _,Mem.le_refl _⟩
   clear k';rintro Z z3 n vs w4 hZ-⟨s,D',xs,mk,hs,rfl,rfl,f,K,hmk⟩;simp[aX,lk];have p:=LM (sig bK (fun s i=>bC l s (lo i)) d.length) s;have F:=Gd (sig bK (fun s i=>bC l s (lo i)) d.length) s;obtain⟨b',a',rfl⟩:=aT f.row;by_cases v':s<l.length
   .have hO':=f;have d1:=k4 s zo;have W':bK.getD s 0=bK[s]'zo:=by simp[show s<bK.length by omega]
    have d1w:=Mem_cell_w f.ay qfE;have d1l:=Mem_cell_lt f.ay qfE;have hcsr:=(j'.o.2.2 s v');rw[<-W']at d1w;have C:=(f.al #[.int .i64 (bK.getD s 0)] 3).Tz;have k':=zh C;clear C f hO' W';generalize hN:w4.heap.size=N at*
    go_wp2;refine av [0,1,5,8,34,35,9,10,41,42,11,12,50,51,52] (fun n vs w5=>∃(i:Nat) (vr:zV),i<=d.length/\n=d.length-i /\
     vs=[.slice (some ⟨b,off,none⟩) l.length c,.slice ca d.length cc,.slice (some ⟨kb,ko,none⟩) bK.length kc,.int .i64 g,.int .i64 l.length,.int .i64 r,.slice b' (fq (sig bK (fun s i=>bC l s (lo i)) d.length) s).1.length a',.slice (some ⟨M,0,none⟩) l.length l.length,.int .i64 l.length,.int .i64 s,.int .i64 s,vr,.slice ca d.length cc,.int .i64 d.length,.int .i64 i] /\
     Own w m w5 mk [.row vr 3 1 (i+1) ((WZ bK (fun s i=>bC l s (lo i)) s i).map (Value.int .i64)),.row (.slice b' (fq (sig bK (fun s i=>bC l s (lo i)) d.length) s).1.length a') 135 1 (fq (sig bK (fun s i=>bC l s (lo i)) d.length) s).1.length xs,.row (.slice (some ⟨M,0,none⟩) l.length l.length) 3 1 l.length (jH (fq (sig bK (fun s i=>bC l s (lo i)) d.length) s).2 (l.length-s))]) ?_ ?_
    .exact⟨_,0,.slice (some ⟨N,0,none⟩) 1 1,zG _,rfl,rfl,k'.o⟩
    clear k' d1w;rintro V z4 n vs w5 hV-⟨i,vr,hi1,rfl,rfl,f⟩;simp[aX,lk];obtain⟨T,S,rfl⟩:=aT f.row;by_cases L:i<d.length
    .obtain⟨cb,co,rfl,c4⟩:=c3 (by intro h;simp[h]at L);have q1:=c4 i L;rw[hlo i L]at q1;have T':=Mem_inn_le f.ext.le f.ay;have q1w:=Mem_cell_w T' q1.1;have hle5:=H.iv.le i L;have t:=IC (.slice (some ⟨b,off,none⟩) l.length c) l s (lo i) m _ T' hl0 zo zo;have U:=Uh bK (fun s i=>bC l s (lo i)) s i;have hwu:IntKind.u8.wrap (lo i:Int)=(lo i:Int):=IntWalk.u8_in _ zo;rcases fQ hwf s (lo i)with ht|⟨Q',ht2⟩
     .have G:qY bK (bC l s (lo i)) = -1:=by rw[ht];rfl
      rw[ht]at t;rw[G]at U;have HS:=zh (zi t U);clear t U ht G
      go_wp2_with fail
      refine HS.o.1.mono ?_;rintro e w6 ⟨rfl,v⟩;have hO3:=(f.aP v).al #[.int .i64 (-1)] 3;have hnews:=hO3.obj.cZ rfl;have X':=v.size;clear f v
      go_wp2_with (at_builtin;refine aG sZ rfl (.tmp 67) (.tmp 69) rfl (.slice T (i+1) S) (i+1) _ rfl hO3.au.row ⟨w6.heap.size,0,none⟩ 1 1 [.int .i64 (-1)] rfl rfl hnews qdZ qdY zo ?_)
      exact qaK
     .obtain⟨tn,F'⟩:=zT Q';rw[F']at t ht2;have P':tn<bK.length:=zo;have G:qY bK (bC l s (lo i))=bK[tn]:=by
       rw[F'];unfold qY;rw[zJ zo];simp[P']
      rw[G]at U;have k5:=k4 tn P';generalize bK[tn]=y at*
      have HS:=zh (zi t U);clear t U Q' G F'
      go_wp2_with fail
      refine HS.o.1.mono ?_;rintro e w6 ⟨rfl,v⟩;have t':=f.aP v;have k5w:=Mem_cell_w t'.ay (Mem_cell_le hmk k5.1);have k5l:=Mem_cell_lt t'.ay (Mem_cell_le hmk k5.1);have hO3:=t'.al #[.int .i64 y] 3;have hnews:=hO3.obj.cZ rfl;have X':=v.size;clear f v t'
      go_wp2_with (at_builtin;refine aG sZ rfl (.tmp 67) (.tmp 69) rfl (.slice T (i+1) S) (i+1) _ rfl hO3.au.row ⟨w6.heap.size,0,none⟩ 1 1 [.int .i64 y] rfl rfl hnews qdZ qdY zo ?_)
      exact qaK
    .obtain rfl:i=d.length:=zo;have esg:WZ bK (fun s i=>bC l s (lo i)) s d.length=sig bK (fun s i=>bC l s (lo i)) d.length s:=rfl;rw[esg]at f;have n':(sig bK (fun s i=>bC l s (lo i)) d.length s).length=d.length+1:=by simp[sig]
     have R':∀x∈sig bK (fun s i=>bC l s (lo i)) d.length s,-9223372036854775808<=x/\x<=9223372036854775807:=by
      intro x hx;unfold sig at hx;rcases yA.1 hx with rfl|hx
      .omega
      .obtain⟨j,hj,rfl⟩:=yD.1 hx;have:=Pk j'.o.2.1 j'.o.2.2 (H.ik s j v' (yQ.1 hj));simp only at this⊢;omega
     have p':=f.au.bJ;have y':=wF f.au.row K f.au.free;have o':=p'.bJ;have z':=dS (m:=mk.iw w5 (.slice b' (fq (sig bK (fun s i=>bC l s (lo i)) d.length) s).1.length a')) (l:=sig bK (fun s i=>bC l s (lo i)) d.length s) (by rw[n'];exact f.row) R';have q:=XK _ _ _ _ _ w5 o'.ay (uj (Mem_le_addv p'.free) y') z';rw[Jg]at q;have g':=dS (m:=mk) (l:=sig bK (fun s i=>bC l s (lo i)) d.length s) (by rw[n'];exact f.row) R';have hle6:=p.le;have s':=p.len;have hfl:(fq (sig bK (fun s i=>bC l s (lo i)) d.length) s).1.findIdx (·==sig bK (fun s i=>bC l s (lo i)) d.length s)<=(fq (sig bK (fun s i=>bC l s (lo i)) d.length) s).1.length:=List.findIdx_le_length;clear p' y' o' z' esg p;generalize sig bK (fun s i=>bC l s (lo i)) d.length s=x at*
     generalize fq (sig bK (fun s i=>bC l s (lo i)) d.length) s=rr at*
     obtain⟨D,l'⟩:=rr;simp only at*
     by_cases hf:D.findIdx (·==x)<D.length
     .rw[zK hf]at q;rw[zK hf]at F;generalize D.findIdx (·==x)=idx at*
      have W:=zh (zi q (zi F s'));clear q F s' n'
      go_wp2_with fail
      refine W.o.1.mono ?_;rintro e w6 ⟨rfl,v⟩;have hO4:=(f.aP v).tail.au;have r1:=bg (j:=s) (u:=.int .i64 0) hO4.row (j5 W.o.2.2 zo);have r2:=dK hO4.row s;have r3:=(World.ownsRow.lt hO4.row _ rfl).2;have A:=hO4.setRow s (.int .i64 idx);rw[oJ W.o.2.2 zo]at A;have HO5:=zh A.au;clear A hO4 f v;go_wp2;refine hZ.o _ _ _ zo rfl ⟨s+1,.slice b' D.length a',xs,mk,zo,rfl,?_,?_,?_,hmk⟩
      .rw[List.map];rfl
      .rw[W.o.2.1];exact HO5.o
      .rw[W.o.2.1];exact K
     .rw[zJ hf]at q;rw[zJ hf]at F;have C':D.findIdx (·==x)=D.length:=zo;rw[C']at F;have hmk2:=Mem_le_addv (w:=w5) f.free;have hrow2:=(K.mono hmk2).push g';have Y':=f.bJ;have W:=zh (zi q (zi F (zi s' qfz)));clear q F s' n' C' hf hfl hrow2 hmk2 g' f;generalize mk.iw w5 (.slice T (d.length+1) S)=m' at*
      go_wp2_with fail
      refine W.o.1.mono ?_;rintro e w6 ⟨rfl,v⟩;have hO4:=(Y'.aP v).al #[.slice T (d.length+1) S] 135;have hnews:=hO4.obj.cZ rfl;clear Y' v
      go_wp2_with (at_builtin;refine aG ES rfl (.tmp 79) (.tmp 81) rfl (.slice b' D.length a') D.length xs rfl hO4.au.row ⟨w6.heap.size,0,none⟩ 1 1 [.slice T (d.length+1) S] rfl rfl hnews qdZ qdY zo ?_)
      intro va vc w7 hown7 hgrow7 hrow7;have A:=(hO4.au.app hown7 hgrow7 hrow7 zS).bL.au;clear hown7 hgrow7 hrow7 hO4 hnews;have r1:=bg (j:=s) (u:=.int .i64 0) A.row (j5 W.o.2.2.1 zo);have r2:=dK A.row s;have r3:=(World.ownsRow.lt A.row _ rfl).2;have I':=A.setRow s (.int .i64 D.length);rw[oJ W.o.2.2.1 zo]at I';have HO6:=zh I'.au;clear I' A;go_wp2;refine hZ.o _ _ _ zo rfl ⟨s+1,.slice va (D.length+1) vc,xs++[.slice T (d.length+1) S],m',zo,rfl,?_,?_,?_,W.o.2.2.2.2⟩
      .rfl
      .rw[W.o.2.1];show Own w m _ m' [.row _ _ _ (D++[x]).length _,.row _ _ _ _ _];rw[show(D++[x]).length=D.length+1 by simp];exact HO6.o
      .rw[W.o.2.1];exact W.o.2.2.2.1
   .obtain rfl:s=l.length:=zo;rw[Nat.sub_self,qQ]at f;have d':=JM H hpos j'.o.1;generalize fq (sig bK (fun s i=>bC l s (lo i)) d.length) l.length=rr at*
    obtain⟨D,l'⟩:=rr;simp only at f d' p K;have A':=dS (l:=l') (m:=mk) (by rw[p.len];exact f.au.row) (fun y hy=>by
     obtain⟨i,hi,rfl⟩:=yT.1 hy;have:=p.ik (s:=i) (by rw[<-p.len];exact hi);simp only[yU,hi,yH,xA]at this;have:=p.le;simp only at this;omega)
    have x':=Mem_le_addv (w:=w4) f.au.free;have A:=f.au.bJ.tail;have S':=p.len;generalize mk.iw w4 (.slice (some ⟨M,0,none⟩) l.length l.length)=m' at*
    have E:=zh (zi A' (zi (Mem.le_trans (Mem.le_trans r' hmk) x') (zi A (zi d' S'))));have p':=d'.2.1;have o':=d'.2.2.1;clear A' x' A f d' p F S';by_cases I:D.length=g
    .have V':((D.length:Int)==(g:Int))=true:=by simp[I]
     have HT:=zh I;clear I;go_wp2;refine hR.o _ _ ⟨_,l',rfl,E.o.2.2.1.az,?_,E.o.2.2.2.1.2.2.2.2 HT.o⟩;have:=fH E.o.2.2.1.done E.o.1;exact this
    .have V':((D.length:Int)==(g:Int))=false:=by simp;omega
     go_wp2;exact hY.o _ _ _ zo rfl ⟨r+1,D.length,l',.slice (some ⟨M,0,none⟩) l.length l.length,m',rfl,zo,zo,o',rfl,E.o.2.2.2.1.1,E.o.1,E.o.2.2.1,E.o.2.1⟩
  .obtain rfl:r=l.length:=zo;have i':=Xe j'.o.1 hrm hpos;have E:=zh (zi i' (zi f.az (fH f.done B')));clear i' B' f;go_wp2;exact hR.o _ _ ⟨_,bK,rfl,E.o.2.1,E.o.2.2,E.o.1⟩
theorem NN(T:aC):∀i,(h:i<(di T 256).length)->(di T 256)[i]=(jF (aY (EX T)) i:Nat):=(x8 T).lo
structure az0 (T:aC) (cuts:List Int) (bK:List Int) (lo hi:Nat->Nat):Prop where
 wf:WF T
 by_:Bytes T
 ta:Ev T T.length lo hi cuts.length (fun s i=>bC T s (lo i))
 bfs:rO T T.length (fun s=>bK.getD s 0) (dlT T lo) lo hi (fun s=>bB T s) cuts.length
 cut:Sy cuts lo hi
 bK:sN T T.length bK
 len:T.length<=1000000
 pos:1<=T.length
 ZF:cuts.length<=256
theorem UD{R:aC}(c:WF R)(i:Bytes R){lv:Nat->Bool}(b:∀s:Nat,s<R.length->(lv s=true↔Lv R s))(f:R.length<=1000000)(e:1<=R.length)(j:Lv R 0){bK:List Int}
(g:sN (eY R lv) (eY R lv).length bK):az0 (eY R lv) (di (eY R lv) 256) bK (jF (aY (EX (eY R lv)))) (qF (aY (EX (eY R lv)))):=by
 have k:(eY R lv).length=R.length:=by simp[eY]
 have a:=K6 c lv;have ht:=Jv c b;have d:Lv (eY R lv) 0:=by obtain⟨w,h⟩:=j;exact⟨w,by rw[CJ c b];exact h⟩
 refine⟨a,P9 i lv,?_,?_,x8 _,g,zo,zo,pX _ 256⟩
 .rw[sw];exact Ar a (wC _) ht
 .rw[sw];exact Pt a (wC _) ht g (ac:=fun s=>bB (eY R lv) s) (fun s _=>rfl) d zo
theorem UC{R:aC}(b:WF R){lv:Nat->Bool}(a:∀s:Nat,s<R.length->(lv s=true↔Lv R s)):
 Ev (eY R lv) (eY R lv).length (jF (aY (EX (eY R lv)))) (qF (aY (EX (eY R lv)))) (di (eY R lv) 256).length (fun s i=>bC (eY R lv) s (jF (aY (EX (eY R lv))) i)):=by
 rw[sw];exact Ar (K6 b lv) (wC _) (Jv b a)
theorem vW(v0:zV)(l:aC)(m:Mem)(w:zW)(hm:m.ay w)(hl:aQ m v0 l)(hlen:l.length<=1000000):
 zC 97 #[v0] w fun e w'=>∃r C,e=.returned (.tuple #[.agg #[r],.int .i64 (if tf (WF l)=true then 0 else 11)])/\zB w w'/\aQ (m.grow w w') r C/\C.length<=l.length+1 /\
  (WF l->Yy l C)/\(¬WF l->C=[]):=by
 have hl0:=hl;have hby:=Ci hl;obtain⟨a,c,rfl,h1,h2,h3⟩:=hl;unfold maxLen at h2;have HW:=zh (fun w (hw:m.ay w)=>Iz (.slice a l.length c) l m w hw hl0);refine aj fun R hR=>?_;have D:=(Own.start hm).al #[.slice none 0 0] 27;have HO:=zh D;clear D
 go_enter func97,ntmps97
 go_wp2_with fail
 refine(HW.o _ (Mem_inn_le HO.o.ext.le HO.o.ay)).mono ?_;rintro e w1 ⟨rfl,hb1⟩;have L:=HO.o.aP hb1;have g1:=L.obj.c 0;have g2:=L.obj.frozen 0;have g3:=L.obj.lt;clear HO hb1;by_cases hwf:WF l
 .rw[aO hwf];by_cases h0:l.length=0
  .have hln:l=[]:=yM h0;have b:=L.set 0 (.slice none 0 0);have g4:=b.obj.c 0;have Hk:=zh (zi b hln);have k':((l.length:Int)==0)=true:=by simp[h0]
   clear L b hln h0;go_wp2;refine yV (v:=.tuple #[.agg #[.slice none 0 0],.int .i64 0]) qex rfl ?_;exact qb1
  .have k':((l.length:Int)==0)=false:=zO.2 zo;have HA:=zh (KC (.slice a l.length c) l m w1 (Mem_inn_le L.ext.le L.ay) hl0 hwf hlen);have H':=zh L;clear L
   go_wp2_with fail
   refine HA.o.mono ?_;rintro e w2 ⟨rv,D',rfl,hb2,hr2,hlv0,R'⟩;have b:=H'.o.call hb2;have hle2:=Mem_le_grow (w:=w2) (Mem_inn_le H'.o.ext.le H'.o.ay);obtain⟨la,lc,rfl,l1,l2,l3⟩:=hr2;have hlv1:l.length<=D'.length:=zo;clear hlv0;obtain⟨lb,lo',rfl,l4⟩:=l3 (by intro h;simp[h]at hlv1;simp[hlv1]at h0);have z0:=l4 0 zo;rw[Nat.add_zero]at z0;have z1:w2.cell? ⟨lb,lo',none⟩=some (.bool D'[0]):=Mem_cell_w (Mem_grow_inn (Mem_inn_le H'.o.ext.le H'.o.ay) hb2) z0;have hb0:bt D' 0=D'[0]:=oU zo;have HF:=zh (zi (R' 0 zo) hb0);have g1:=b.obj.c 0;have g2:=b.obj.frozen 0;have g3:=b.obj.lt;clear hb0 R' HA H';have hlvp:0<D'.length:=zo;generalize D'[0]=b0 at*
   cases b0 with
   |false=>
    have d:=b.set 0 (.slice none 0 0);have g4:=d.obj.c 0;have Hk:=zh d;clear b d;go_wp2;refine yV (v:=.tuple #[.agg #[.slice none 0 0],.int .i64 0]) qex rfl ?_;refine hR.o _ _ ⟨_,[],by rw[aO hwf];rfl,Hk.o.az,jd _,zS,fun _=>⟨mM,fun x=>?_⟩,fun h=>absurd hwf h⟩;rw[gK]
    cases hx:aK l 0 x with
    |false=>rfl
    |true=>
     have:=HF.o.1.2 ⟨x,hx⟩
     rw[HF.o.2]at this;cases this
   |true=>
    have hm2:=b.ay;have HRe:=zh (Nt (.slice a l.length c) l _ w2 hm2 (aW b.ext.le hl0) hwf hlen zo (fun s hs=>by have:=Cy hwf hby s hs;omega));have Y':=zh b;clear b hm2
    go_wp2_with fail
    refine HRe.o.mono ?_;rintro e w3 ⟨r3,o,rfl,hb3,L',E⟩;have d:=Y'.o.call hb3;obtain⟨q1,q2,q3,q4⟩:=Uq hwf hby E;have hoN:=Da E.nodup E.lt;have hRp:1<=(jl l o o.length).length:=by
     have hf:=E.first;rw[q3]
     cases o with
     |nil=>simp at hf
     |cons _ _=>simp
    have hlvR:Lv (jl l o o.length) 0:=by
     obtain⟨x,hx⟩:=HF.o.1.1 HF.o.2;exact⟨x,by rw[q4];exact hx⟩
    have HTr:=zh (M6 r3 (jl l o o.length) _ w3 d.ay L' q1 zo (fun s hs=>by have:=Cy q1 q2 s hs;omega));have HO3:=zh d;have HR0:=zh (zi q4 hlvR);have hRl:(jl l o o.length).length<=l.length:=zo;obtain⟨r3a,r3c,rfl⟩:∃ra rc,r3=.slice ra (jl l o o.length).length rc:=by obtain⟨x,y,e,-⟩:=L';exact⟨x,y,e⟩
    clear d HRe Y' L' hb3 q3 q4 hlvR E hoN;generalize jl l o o.length=R at*
    go_wp2_with fail
    refine HTr.o.mono ?_;rintro e w4 ⟨r4,lv,rfl,hb4,J,m'⟩;have I:=HO3.o.call hb4;have hTl:(eY R lv).length=R.length:=by simp[eY]
    have F':=K6 q1 lv;have HSt:=zh (Sq r4 (eY R lv) _ w4 I.ay J F');obtain⟨r4a,C',rfl⟩:∃ra rc,r4=.slice ra (eY R lv).length rc:=by obtain⟨x,y,e,-⟩:=J;exact⟨x,y,e⟩
    have f':=zh (zi I (zi J (zi F' (zi m' (zi q1 q2)))));have hTl2:(eY R lv).length<=R.length:=zo;have hTl3:R.length<=(eY R lv).length:=zo;clear I HO3 HTr J hb4 hTl F' m' q1 q2
    go_wp2_with fail
    refine HSt.o.mono ?_;rintro e w5 ⟨r5,rfl,hb5,u'⟩;have F:=f'.o.1.call hb5;have F':=f'.o.2.2.1;have m':=f'.o.2.2.2.1;have q1:=f'.o.2.2.2.2.1;have q2:=f'.o.2.2.2.2.2;have x':=Mem_le_grow (w:=w5) f'.o.1.ay;have HCl:=zh (Pm _ r5 (eY R lv) (di (eY R lv) 256) _ _ _ w5 F.ay (aW x' f'.o.2.1) u' F' zo zo (UC q1 m') (NN (eY R lv)) (pX _ 256));have HN0:=zh (fun bK (hc:sN (eY R lv) (eY R lv).length bK)=>UD q1 q2 m' zo hRp HR0.o.2 hc);have HL:=zh (fun x=>CJ q1 m' x 0);have J:=aW x' f'.o.2.1;obtain⟨r5a,W,rfl⟩:∃ra rc,r5=.slice ra (di (eY R lv) 256).length rc:=by obtain⟨x,y,e,-⟩:=u';exact⟨x,y,e⟩
    have HO5:=zh (zi F (zi J u'));have hTl4:(eY R lv).length<=l.length:=zo;have hTl5:1<=(eY R lv).length:=zo;have HR0:=zh HR0;clear F f' HSt J u' hb5 x' F' m' q1 q2 hTl2 hTl3;generalize eY R lv=T at*
    generalize jF (aY (EX T))=lo at*
    generalize qF (aY (EX T))=hi at*
    generalize di T 256=cuts at*
    go_wp2_with fail
    refine HCl.o.mono ?_;rintro e w6 ⟨r6,bK,rfl,hb6,K',T'⟩;have H:=HO5.o.1.call hb6;have P':=Mem_le_grow (w:=w6) HO5.o.1.ay;have hN:=HN0.o bK T';have hT6:=aW P' HO5.o.2.1;have hc6:=fH P' HO5.o.2.2;have HN:=zh hN;have hclen:=hN.ZF;obtain⟨r6a,B',rfl⟩:∃ra rc,r6=.slice ra bK.length rc:=by obtain⟨x,y,e,-⟩:=K';exact⟨x,y,e⟩
    have G':=(((H.al #[.int .i64 0] 3).Tz).al #[.slice none 0 0] 27).dL 80 2;have hsz:(w6.alloc (.cells #[.int .i64 0] 3)).heap.size=w6.heap.size+1:=by simp
    rw[hsz]at G';have HO7:=zh G';have hTl4:=hN.len;have hcll:=T'.len;obtain⟨cf,hcf⟩:∃cf:Nat->Int,cf=fun s=>bK.getD s 0:=⟨_,rfl⟩;obtain⟨dl,hdl⟩:∃dl:Nat->Nat->Option Nat,dl=dlT T lo:=⟨_,rfl⟩;obtain⟨G,hah⟩:∃G:Nat->Bool,G=fun(s:Nat)=>bB T (s:Int):=⟨_,rfl⟩;have HB:Hid (rO T T.length cf dl lo hi G cuts.length):=zh (by rw[hcf,hdl,hah];exact hN.bfs);have HI:=zh (fun k hk=>MB (cf:=cf) (ac:=G) HB.o.iv HB.o.pos (fun s i t h1 h2 h3=>(HB.o.some s i t h1 h2 h3).1) k hk);have X':=zh (zi hcf (zi hdl hah));have Hdat:=zh (zi hT6 (zi hc6 K'));obtain⟨_,_,e4,t2,t3,t4⟩:=hT6;injection e4 with e4a e4b e4c;subst e4a;subst e4c;obtain⟨_,_,e5,u2,u3,u4⟩:=hc6;injection e5 with e5a e5b e5c;subst e5a;subst e5c;obtain⟨_,_,e6,v2,v3,v4⟩:=K';injection e6 with e6a e6b e6c;subst e6a;subst e6c;obtain⟨tb,A',rfl,t5⟩:=t4 (by intro h;simp[h]at hTl5);have hclsp:1<=bK.length:=zo;obtain⟨kb,ko,rfl,v5⟩:=v4 (by intro h;simp[h]at hclsp);unfold maxLen at t3 u3 v3;have hcl1:T.length<=bK.length:=zo;have hcl2:bK.length<=T.length:=zo;generalize hmk0:Mem.grow _ w5 w6=mk0 at*
    generalize hB6:w6.heap.size=B6 at*
    clear hcf hdl hah HCl HO5 HN0 hb6 P' hN G' H hsz T' hmk0 e4b e5b e6b t4 v4 hcll;go_wp2;refine av [2,4,5,6,7,8,9] (fun n vs wr=>∃(k:Nat) (vo Q:zV) (xs:List Value) (mk:Mem),
     (∀j,j<k->j<(dI cf dl lo hi G cuts.length j).1.length)/\k<=(dI cf dl lo hi G cuts.length k).1.length/\n=T.length-k /\
     vs=[.pointer (some ⟨w.heap.size,0,none⟩),.slice (some ⟨tb,A',none⟩) T.length C',.slice r5a cuts.length W,.slice (some ⟨kb,ko,none⟩) bK.length B',vo,.pointer (some ⟨B6+1,0,none⟩),.int .i64 k] /\
     Own w m wr mk [.row Q 80 2 k xs,.obj (B6+1) 27 #[Q],.row vo 3 1 (dI cf dl lo hi G cuts.length k).1.length (dO (dI cf dl lo hi G cuts.length k).1),.obj w.heap.size 27 #[.slice none 0 0]] /\
     kJ mk xs (dI cf dl lo hi G cuts.length k).2/\mk0.le mk) ?_ ?_
    .exact⟨_,0,.slice (some ⟨B6,0,none⟩) 1 1,.slice none 0 0,[],_,fun j hj=>zo,zG _,rfl,rfl,HO7.o,kJ.nil _,Mem.le_refl _⟩
    clear HO7;rintro X z n vs wr hX-⟨k,vo,Q,xs,mk,hk1,hk2,rfl,rfl,D,M',hmk⟩;simp[aX,lk];have e':=HI.o k hk1;obtain⟨voa,voc,rfl⟩:=aT D.bA.row;by_cases E':k<(dI cf dl lo hi G cuts.length k).1.length
    .have hsN:=e'.lt _ (zF E');have hoN:=og e'.MO e'.lt;obtain⟨vob,rfl⟩:=kH D.bA.row zo;have hr1s:=tV E';have r1:=bg D.bA.row hr1s;have rl:=(World.ownsRow.lt D.bA.row _ rfl).2;have hgd:(dI cf dl lo hi G cuts.length k).1.getD k 0=(dI cf dl lo hi G cuts.length k).1[k]:=by simp[E']
     have hok:(dI cf dl lo hi G cuts.length k).1[k]?=some (dI cf dl lo hi G cuts.length k).1[k]:=by simp[E']
     have hE:=Iu cf dl lo hi G cuts.length k;rw[hgd]at hE;have HBI:=zh e';have Hob:=zh (show ∀j,j<k+1->j<(dI cf dl lo hi G cuts.length j).1.length from fun j hj=>by
      by_cases c:j<k
      .exact hk1 j c
      .have:j=k:=zo;subst this;exact E')
     clear e' hgd hk1 hk2;generalize (dI cf dl lo hi G cuts.length k).1[k]=s at*
     obtain⟨a1,-⟩:=t5 s hsN;have a1w:=Mem_cell_w D.ay (Mem_cell_le hmk a1);have a1l:=Mem_cell_lt D.ay (Mem_cell_le hmk a1);have hahs:G s=(T[s]).aZ:=by
      have h1:=congrFun X'.o.2.2 s;rw[h1,fJ T s hsN]
     rw[<-hahs]at a1w;clear hahs a1;generalize dI cf dl lo hi G cuts.length k=r at*
     obtain⟨o,out⟩:=r;simp only at*
     have b:=(D.al #[.bool (G s),.slice none 0 0] 80).dL 104 3;have Y':=zh b;have HE:=zh hE;have Hok:=zh hok;clear b D hr1s hE hok;generalize hS:wr.heap.size=S at*
     go_wp2;have HRI:=zh (show ∀i,i<=cuts.length->MH cf dl lo hi cuts.length T.length s o i (cu cf dl lo hi s o i) from
      Lf HB.o.iv HBI.o.MO HBI.o.lt (fun i t hi' ht=>(HB.o.some s i t hsN hi' ht).1))
     refine av [2,4,5,6,7,8,9,10,56,57,58] (fun n vs z'=>∃(i:Nat) (vo ve:zV),i<=cuts.length/\n=cuts.length-i /\
      vs=[.pointer (some ⟨w.heap.size,0,none⟩),.slice (some ⟨tb,A',none⟩) T.length C',.slice r5a cuts.length W,.slice (some ⟨kb,ko,none⟩) bK.length B',vo,.pointer (some ⟨B6+1,0,none⟩),.int .i64 k,.pointer (some ⟨S,0,none⟩),.slice r5a cuts.length W,.int .i64 cuts.length,.int .i64 i] /\
      Own w m z' mk [.row ve 104 3 (cu cf dl lo hi s o i).2.length (dx (cu cf dl lo hi s o i).2),.obj S 80 #[.bool (G s),ve],.row Q 80 2 k xs,.obj (B6+1) 27 #[Q],
       .row vo 3 1 (cu cf dl lo hi s o i).1.length (dO (cu cf dl lo hi s o i).1),.obj w.heap.size 27 #[.slice none 0 0]]) ?_ ?_
     .exact⟨_,0,.slice (some ⟨vob,0,none⟩) o.length voc,.slice none 0 0,zG _,rfl,rfl,Y'.o⟩
     clear Y' r1 rl a1w a1l;rintro Y z2 n vs z' hY-⟨i,vo,ve,hi1,rfl,rfl,D⟩;simp[aX,lk];have E:=HRI.o i hi1;have hol:=E.pre.length_le;obtain⟨voa',P,rfl⟩:=aT (D.kP (v:=vo) (t:=3) (size:=1) (n:=(cu cf dl lo hi s o i).1.length) (xs:=dO (cu cf dl lo hi s o i).1) zS);obtain⟨h',U,rfl⟩:=aT D.row;have hqN:=og E.MO E.lt;have hqe:=JJ cf dl lo hi s o i;by_cases hlt3:i<cuts.length
     .obtain⟨cb,co,rfl,u5⟩:=u4 qeq;have hle:=HB.o.iv.le i hlt3;have c1:=u5 i hlt3;have hcl3:=HN.o.cut.lo i hlt3;rw[hcl3]at c1;have c1w:=Mem_cell_w D.ay (Mem_cell_le hmk c1.1);have c1l:=Mem_cell_lt D.ay (Mem_cell_le hmk c1.1);have hok2:(cu cf dl lo hi s o i).1[k]?=some s:=by
       obtain⟨x,hx⟩:=E.pre;rw[<-hx,yK E'];exact Hok.o
      have a':=D.kP (v:=.slice voa' (cu cf dl lo hi s o i).1.length P) (t:=3) (size:=1) (n:=(cu cf dl lo hi s o i).1.length) (xs:=dO (cu cf dl lo hi s o i).1) zS;obtain⟨t',rfl⟩:=kH a' zo;have hoc:(dO (cu cf dl lo hi s o i).1)[k]?=some (.int .i64 s):=by
       unfold dO;rw[List.getElem?_map,hok2];rfl
      have r1:=bg a' hoc;have rl:=(World.ownsRow.lt a' _ rfl).2;have hwu:IntKind.u8.wrap (lo i:Int)=(lo i:Int):=IntWalk.u8_in _ zo;have Z:=IC (.slice (some ⟨tb,A',none⟩) T.length C') T s (lo i) mk z' D.ay (aW hmk Hdat.o.1) zo zo;have K:dl s i=if bC T s (lo i)<0 then none else some (bC T s (lo i)).toNat:=congrFun (congrFun X'.o.2.1 s) i;have hkl:k<(cu cf dl lo hi s o i).1.length:=zo;clear hcl3 hok2 a' hoc c1;rcases fQ HN.o.wf s (lo i)with ht|⟨ht1,ht2⟩
      .rw[ht]at Z;rw[zK zo]at K;have hN:=FN (cf:=cf) (lo:=lo) (hi:=hi) (o:=o) K;have g':=zh hN;have HST:=zh Z;have HO:=zh D;clear hN K ht Z E D
       go_wp2_with fail
       refine HST.o.mono ?_;rintro e w7 ⟨rfl,U'⟩;have b:=HO.o.aP U';clear HO U' c1w r1;go_wp2;refine hY.o _ _ _ zo rfl ⟨i+1,.slice (some ⟨t',0,none⟩) (cu cf dl lo hi s o i).1.length P,.slice h' (cu cf dl lo hi s o i).2.length U,zo,rfl,rfl,?_⟩;rw[g'.o];exact b
      .obtain⟨M,htn⟩:=zT ht1;rw[htn]at Z ht2 K;rw[zJ zo,Int.toNat_natCast]at K;have hN:=FM (cf:=cf) (lo:=lo) (hi:=hi) (o:=o) K;have hri2:=HRI.o (i+1) zo;have g':=zh (zi hN (zi hri2 E));have HST:=zh Z;have HO:=zh D;have b':=HN.o.cut.hi i hlt3;unfold Eo at b';clear hN K Z E hri2 D ht1 htn;generalize cu cf dl lo hi s o i=q at*
       obtain⟨o',es⟩:=q;simp only at hqN hqe hol hkl
       go_wp2_with fail
       refine HST.o.mono ?_;rintro e w7 ⟨rfl,U'⟩;have b:=HO.o.aP U';have c1w:=Mem_cell_w b.ay (Mem_cell_le hmk (u5 i hlt3).1);clear HO U' c1w r1
       go_upto_if 77 with(fail)
       refine aR [2,4,5,6,7,8,9,10,56,57,58,12,13,14] (fun vs w'=>vs=[.pointer (some ⟨w.heap.size,0,none⟩),.slice (some ⟨tb,A',none⟩) T.length C',.slice (some ⟨cb,co,none⟩) cuts.length W,.slice (some ⟨kb,ko,none⟩) bK.length B',.slice (some ⟨t',0,none⟩) o'.length P,.pointer (some ⟨B6+1,0,none⟩),.int .i64 k,.pointer (some ⟨S,0,none⟩),.slice (some ⟨cb,co,none⟩) cuts.length W,.int .i64 cuts.length,.int .i64 i,.int .i64 (lo i),.int .i64 M,.int .i64 (hi i)]/\w'=w7) ?_ ?_
       .intro V hV;by_cases j':i+1<cuts.length
        .rw[dif_pos j']at b';have d1:=u5 (i+1) j';have hcl4:=HN.o.cut.lo (i+1) j';rw[hcl4]at b' d1;have d1w:=Mem_cell_w b.ay qfE;have d1l:=Mem_cell_lt b.ay qfE;have hsep:=HB.o.iv.sep i (i+1) zo j';have x':=HB.o.iv.le (i+1) j';have k':decide (i+1<cuts.length)=true:=zN j';have Hhi:=zh b';clear b' hcl4 d1;exact qdJ
        .rw[dif_neg j']at b';have k':decide (i+1<cuts.length)=false:=zM j';have Hhi:=zh b';clear b';exact qdJ
       rintro z3 vs w8-⟨rfl,rfl⟩;simp[aX,lk];clear b';have i':=(b.AB (l₁:=[_,_,_,_]));have hq2:=i'.bJ;have hcn:∀y∈o'.map Int.ofNat,0<=y/\y<bK.length:=fun y hy=>by
        obtain⟨x,hx,rfl⟩:=yD.1 hy;have:=g'.o.2.2.lt x hx;simp only[Int.ofNat_eq_natCast];omega
       have hin:=dS (l:=o'.map Int.ofNat) (m:=mk) (by rw[xC,<-Jc];exact i'.row) (fun y hy=>by have:=hcn y hy;omega);have v':=LK _ (.slice (some ⟨kb,ko,none⟩) bK.length B') (o'.map Int.ofNat) bK M _ _ hq2.ay hin (fH (Mem.le_trans hmk (Mem_le_addv i'.free)) Hdat.o.2.2) zo hcn;rw[LJ zo]at v';have hcf0:(fun s=>bK.getD s 0)=cf:=X'.o.1.symm;rw[hcf0]at v';have hap:=tX cf o' M;have hpo:=rY cf o' M;have hap2:=hap.2;have hap1:=hap.1;have HNum:=zh (zi v' (zi b hap));have hrd:(dH cf o' M).length=o'.length\/(dH cf o' M).length=o'.length+1/\dN cf o' M=o'.length:=Ga;have Hpq:=zh (show dH cf o' M=if dN cf o' M<o'.length then o' else o'++[M] from rfl);clear v' hin hcn i' hq2 b hap hcf0 hap1 hrd c1w;generalize hp:dN cf o' M=p at*
       have Hp:=zh hp;clear hp
       go_wp2_with fail
       refine HNum.o.1.mono ?_;rintro e w9 ⟨rfl,hb9⟩;have b:=HNum.o.2.1.aP hb9;clear hb9
       go_upto_if 91 with(fail)
       refine aR [2,4,5,6,7,8,9,10,56,57,58,12,13,14,15] (fun vs w'=>∃vo2:Value,vs=[.pointer (some ⟨w.heap.size,0,none⟩),.slice (some ⟨tb,A',none⟩) T.length C',.slice (some ⟨cb,co,none⟩) cuts.length W,.slice (some ⟨kb,ko,none⟩) bK.length B',vo2,.pointer (some ⟨B6+1,0,none⟩),.int .i64 k,.pointer (some ⟨S,0,none⟩),.slice (some ⟨cb,co,none⟩) cuts.length W,.int .i64 cuts.length,.int .i64 i,.int .i64 (lo i),.int .i64 M,.int .i64 (hi i),.int .i64 p] /\
        Own w m w' mk [.row (.slice h' es.length U) 104 3 es.length (dx es),.obj S 80 #[.bool (G s),.slice h' es.length U],.row Q 80 2 k xs,.obj (B6+1) 27 #[Q],
         .row vo2 3 1 (dH cf o' M).length (dO (dH cf o' M)),.obj w.heap.size 27 #[.slice none 0 0]]) ?_ ?_
       .intro V hV;by_cases hf:p<o'.length
        .have k':((p:Int)==(o'.length:Int))=false:=zO.2 zo;have l':=Hpq.o;rw[zK hf]at l';have W':=zh l';clear l';go_wp2;refine hV.o _ _ rfl ⟨.slice (some ⟨t',0,none⟩) o'.length P,rfl,?_⟩;rw[W'.o];exact b
        .have k':((p:Int)==(o'.length:Int))=true:=beq_iff_eq.2 zo;have l':=Hpq.o;rw[zJ hf]at l';have W':=zh l';have d:=b.al #[.int .i64 M] 3;have B:=d.obj.cZ rfl;clear l'
         go_wp2_with (at_builtin;refine aG sZ rfl (.tmp 92) (.tmp 94) rfl (.slice (some ⟨t',0,none⟩) o'.length P) o'.length (dO o') rfl (d.kP zS) ⟨w9.heap.size,0,none⟩ 1 1 [.int .i64 M] rfl rfl B qdZ qdY zo ?_)
         intro va vc w7' A f u;have I:=(d.AB (l₁:=[_,_,_,_,_])).app A f u zS;have F:=(I.Ao (l₁:=[_,_,_,_,_])).tail;have HO5:=zh F;clear F I d A f u B;go_wp2;refine hV.o _ _ rfl ⟨.slice va (o'.length+1) vc,rfl,?_⟩;rw[W'.o];exact qdI
       rintro z4 vs w10-⟨vo2,rfl,d⟩;simp[aX,lk];clear b;obtain⟨J',I',rfl⟩:=aT (d.kP (v:=vo2) (t:=3) (size:=1) (n:=(dH cf o' M).length) (xs:=dO (dH cf o' M)) zS);have hpN:p<=2000000:=by
        have h2:=og g'.o.2.1.MO g'.o.2.1.lt;rw[g'.o.1]at h2;simp only at h2;omega
       have n':=BA (N:=T.length) g'.o.2.2 zo;simp only at n';have hes0:es=[]\/∃fs e,es=fs++[e]:=by
        rcases List.eq_nil_or_concat es with h|⟨fs,e,h⟩
        .exact .inl h
        .exact .inr ⟨fs,e,by rw[h,List.concat_eq_append]⟩
       obtain⟨q,hq⟩:∃q,es.length=q:=⟨_,rfl⟩;rw[hq]at d hqe;have Hq:=zh (zi hq (zi n' hes0));have s1:=d.au.obj.c 1;have s2:=d.au.obj.lt;clear hq n' hes0
       go_upto_region 26 with(fail)
       refine aR [2,4,5,6,7,8,9,10,56,57,58,12,14,15,16,123] (fun vs w'=>∃bb:Bool,vs=[.pointer (some ⟨w.heap.size,0,none⟩),.slice (some ⟨tb,A',none⟩) T.length C',.slice (some ⟨cb,co,none⟩) cuts.length W,.slice (some ⟨kb,ko,none⟩) bK.length B',.slice J' (dH cf o' M).length I',.pointer (some ⟨B6+1,0,none⟩),.int .i64 k,.pointer (some ⟨S,0,none⟩),.slice (some ⟨cb,co,none⟩) cuts.length W,.int .i64 cuts.length,.int .i64 i,.int .i64 (lo i),.int .i64 (hi i),.int .i64 p,.int .i64 ((q:Int)-1),.bool bb] /\
        w'=w10/\(bb=true↔∃(fs:List Ed) (e:Ed),es=fs++[e]/\e.to=(p:Int)/\e.hi+1=lo i)) ?_ ?_
       .intro V hV;rcases Hq.o.2.2 with O'|⟨fs,e,O⟩
        .have hq0:q=0:=by rw[<-Hq.o.1,O'];rfl
         have Hn:=zh O';subst hq0;clear O';go_wp2;exact hV.o _ _ rfl ⟨false,rfl,rfl,by rw[Hn.o];simp⟩
        .have i':q=fs.length+1:=by rw[<-Hq.o.1,O];simp
         have hed:=Hq.o.2.1 e (by rw[O];simp);have p':=kX es fs.length (by rw[O];simp);have hel:es[fs.length]'(by rw[O];simp)=e:=by simp[O]
         rw[hel]at p';have HL:=zh (zi O (Oq fs e (p:Int) (lo i)));subst i';obtain⟨eb,rfl⟩:=kH d.row zo;have y1:=bg d.row p'.2.1;have y2:=bg d.row p'.2.2;have hbl:=(World.ownsRow.lt d.row _ rfl).2;have hlt5:fs.length<fs.length+1:=zo;clear hel p' O;by_cases d':e.to=(p:Int)
         .by_cases hc2:e.hi+1=lo i
          .have Hc:=zh (zi d' hc2);have S':((e.to:Int)==(p:Int))=true:=beq_iff_eq.2 d';have hdec2:((e.hi:Int)+1==(lo i:Int))=true:=beq_iff_eq.2 zo;have hed1:=hed.2.1;clear d' hc2;go_wp2;exact hV.o _ _ rfl ⟨true,zS,rfl,by rw[HL.o.1,HL.o.2];simp[Hc.o.1,Hc.o.2]⟩
          .have Hc:=zh (zi d' hc2);have S':((e.to:Int)==(p:Int))=true:=beq_iff_eq.2 d';have hdec2:((e.hi:Int)+1==(lo i:Int))=false:=zO.2 zo;have hed1:=hed.2.1;clear d' hc2;go_wp2;exact hV.o _ _ rfl ⟨false,zS,rfl,by rw[HL.o.1,HL.o.2];simp[Hc.o.2]⟩
         .have Hc:=zh d';have S':((e.to:Int)==(p:Int))=false:=zO.2 d';clear d';go_wp2;exact hV.o _ _ rfl ⟨false,zS,rfl,by rw[HL.o.1,HL.o.2];simp[Hc.o]⟩
       rintro z5 vs w11-⟨bb,rfl,rfl,hbb⟩;simp[aX,lk];have Hbb:=zh hbb;clear hbb;have hwh:IntKind.u8.wrap (hi i:Int)=(hi i:Int):=IntWalk.u8_in _ zo;have hwl:IntKind.u8.wrap (lo i:Int)=(lo i:Int):=IntWalk.u8_in _ zo
       cases bb with
       |true=>
        obtain⟨fs,e,O,he1,he2⟩:=Hbb.o.1 rfl;have i':q=fs.length+1:=by rw[<-Hq.o.1,O];simp
        have N':=FW (lo:=lo i) (hi:=hi i) (fs:=fs) (zi he1 he2);subst O;subst i';obtain⟨eb,rfl⟩:=kH d.row zo;have p':=kX (fs++[e]) fs.length zS;have y1:=bg d.row p'.2.1;have y2:=dK d.row (fs.length*3+1);have hbl:=(World.ownsRow.lt d.row _ rfl).2;have hlt5:fs.length<fs.length+1:=zo;have H:=d.setRow (fs.length*3+1) (.int .u8 (hi i));rw[wK]at H;have y':=zh (zi H N');clear H d N' he1 he2 p';go_wp2;refine hY.o _ _ _ zo rfl ⟨i+1,.slice J' (dH cf o' M).length I',.slice (some ⟨eb,0,none⟩) (fs.length+1) U,zo,rfl,rfl,?_⟩;rw[g'.o.1,y'.o.2];have:=y'.o.1
        exact qa5
       |false=>
        have N':kN es (lo i) (hi i) p=es++[⟨lo i,hi i,(p:Int)⟩]:=by
         rcases Hq.o.2.2 with rfl|⟨fs,e,rfl⟩
         .rfl
         .exact FX fun h=>by have:=Hbb.o.2 ⟨fs,e,rfl,h.1,h.2⟩;cases this
        have F:=d.al #[.int .u8 (lo i),.int .u8 (hi i),.int .i64 p] 104;have B:=F.obj.cZ rfl;have Hpe:=zh N';clear N' d
        go_wp2_with (at_builtin;refine aG tq rfl (.tmp 132) (.tmp 139) rfl (.slice h' q U) q (dx es) rfl F.au.row ⟨w11.heap.size,0,none⟩ 1 1 [.int .u8 (lo i),.int .u8 (hi i),.int .i64 p] rfl rfl B qdZ qdY zo ?_)
        intro xa xc w12 A f u;have H:=(F.au.app A f u zS).bL.au;have s1:=H.obj.c 1;have s2:=H.obj.lt;have s3:=H.obj.frozen 1;have G':=(H.set 1 (.slice xa (q+1) xc)).au;have y':=zh G';clear G' H F A f u B;go_wp2;refine hY.o _ _ _ zo rfl ⟨i+1,.slice J' (dH cf o' M).length I',.slice xa (q+1) xc,zo,rfl,rfl,?_⟩;rw[g'.o.1,Hpe.o];have:=y'.o;simpa [iN,Hq.o.1]using this
     .obtain rfl:i=cuts.length:=zo;have s0:=D.au.obj.c 0;have s1:=D.au.obj.c 1;have sl:=D.au.obj.lt;have u0:=(D.eO (g:=B6+1) (t:=27) (arr:=#[Q]) zS).cell (i:=0) rfl;have u1:=(D.eO (g:=B6+1) (t:=27) (arr:=#[Q]) zS).lt;have hes:=jq (l:=(cu cf dl lo hi s o cuts.length).2) (m:=mk) D.row (BA (N:=T.length) E zo);have b:=D.bJ;have hmk2:=Mem_le_addv (w:=z') D.free;have hrow2:=(M'.mono hmk2).push (s:=⟨G s,(cu cf dl lo hi s o cuts.length).2⟩) hes;obtain⟨r',q',rfl⟩:=aT b.au.row;have d:=b.al #[.bool (G s),.slice h' (cu cf dl lo hi s o cuts.length).2.length U] 80;have Hk:=zh qfz;clear hrow2 hes hmk2;generalize mk.iw z' (.slice h' (cu cf dl lo hi s o cuts.length).2.length U)=mk2 at*
      have B:=d.obj.cZ rfl;have hvr:=d.bA.row;clear D b
      go_wp2_with (at_builtin;refine aG mU rfl (.tmp 144) (.tmp 146) rfl (.slice r' k q') k xs rfl hvr ⟨z'.heap.size,0,none⟩ 1 1 [.bool (G s),.slice h' (cu cf dl lo hi s o cuts.length).2.length U] rfl rfl B qdZ qdY zo ?_)
      intro va vc w7 A f u;have I:=(d.bA.app A f u zS).dZ;clear A f u d hvr B;have u2:=I.obj.c 0;have u3:=I.obj.frozen 0;have u4:=I.obj.lt;have F:=((I.set 0 (.slice va (k+1) vc)).au).kY.kY;have HO5:=zh F;clear F I;go_wp2;have hpre:=E.pre.length_le;refine hX.o _ _ _ zo rfl ⟨k+1,.slice voa' (cu cf dl lo hi s o cuts.length).1.length P,.slice va (k+1) vc,xs++[.bool (G s),.slice h' (cu cf dl lo hi s o cuts.length).2.length U],mk2,?_,?_,rfl,rfl,?_,?_,Hk.o.2⟩
      .exact Hob.o
      .rw[HE.o];exact qdE
      .rw[HE.o];exact HO5.o
      .rw[HE.o];exact Hk.o.1
    .have Q':(dI cf dl lo hi G cuts.length k).1.length=k:=zo;have hcan:=KA HB.o hk1 Q';have hNl:=og e'.MO e'.lt;rw[Q']at hNl;have c':=e'.len;generalize dI cf dl lo hi G cuts.length k=r at*
     obtain⟨r',q',rfl⟩:=aT D.row;have u1:=D.au.obj.c 0;have b:=(D.AB (l₁:=[_,_,_]));have u2:=b.obj.c 0;have u3:=b.obj.frozen 0;have u4:=b.obj.lt;have d:=(b.set 0 (.slice r' k q')).au;have Z:=gZ (l:=r.2) (m:=mk) (by rw[c'];exact d.row) M' d.free;have hst2:=aW d.bJ.done Z;have hbel:=d.az;have g4:=d.au.obj.c 0;have Hk:=zh (zi hcan (zi hst2 (zi hbel (zi hNl c'))));clear hcan Z hst2 hbel hNl c' d b D e' M' Q';go_wp2;refine yV (v:=.tuple #[.agg #[.slice r' k q'],.int .i64 0]) (by simp[results,results97,go_sem,g4]) rfl ?_;refine hR.o _ _ ⟨_,r.2,by rw[aO hwf];rfl,Hk.o.2.2.1,Hk.o.2.1,?_,fun _=>⟨Hk.o.1.1,fun x=>?_⟩,fun h=>absurd hwf h⟩
     .have h1:=Hk.o.2.2.2.1;have h2:=Hk.o.2.2.2.2;omega
     .rw[Hk.o.1.2,HL.o,HR0.o.o.1]
 .rw[aA hwf];have b:=L.set 0 (.slice none 0 0);have g4:=b.obj.c 0;have Hk:=zh (zi b hwf);clear L b hwf;go_wp2;refine yV (v:=.tuple #[.agg #[.slice none 0 0],.int .i64 11]) qex rfl ?_;exact qcl
theorem tO(u:zV)(l:aC)(m:Mem)(w:zW)(B:m.ay w)(v:aQ m u l)(g:l.length<=1000000):
 zX 64 #[.agg #[u]] w (.bool (tf (dG l))):=by
 have i:=v;obtain⟨a,c,rfl,G,F,E⟩:=v;refine aj fun R hR=>?_;have s:=(Own.start B).al #[.slice a l.length c] 27;have A:=zh (vW (.slice a l.length c) l m _ s.ay i g);have z:=zh s;clear s
 go_enter func64,ntmps64
 go_wp2_with fail
 refine A.o.mono ?_;rintro e D ⟨r,C,rfl,q,f,t,hmin,hnot⟩;have d:=z.o.call q;have p:=d.ext.le;obtain⟨n,k,rfl⟩:∃n k,r=.slice n C.length k:=by obtain⟨x,y,e,-⟩:=f;exact⟨x,y,e⟩
 have b:=d.al #[.slice n C.length k] 27;have I:=b.au.obj.c 0;have H:=b.au.obj.lt;have HS:=zh (ND (.slice a l.length c) (.slice n C.length k) l C _ _ b.ay (aW p i) f);have HO2:=zh b;clear d b A z;by_cases hwf:WF l
 .rw[aO hwf];have j:=Ac hmin hwf;have Hk:=zh (zi j (zi hmin hnot));clear hmin hnot j
  go_wp2_with fail
  exact qbO
 .exact qbI
theorem CR(k:zV)(l:aC)(m:Mem)(w:zW)(s:m.ay w)(n:aQ m k l)(h:l.length<=1000000):
 zC 240 #[.agg #[k]] w fun e w'=>∃r,e=.returned (.agg #[r])/\zB w w'/\aQ (m.grow w w') r (bX l):=by
 have hl0:=n;obtain⟨a,c,rfl,y,x,u⟩:=n;refine aj fun R hR=>?_;have j:=((Own.start s).al #[.slice a l.length c] 27).al #[.slice none 0 0] 27;have g:(w.alloc (.cells #[.slice a l.length c] 27)).heap.size=w.heap.size+1:=by simp
 rw[g]at j;have p:=zh (tO (.slice a l.length c) l m _ j.ay hl0 h);have q:=zh j;clear j g
 go_enter func240,ntmps240
 go_wp2_with fail
 refine p.o.mono ?_;rintro e t ⟨rfl,i⟩;have b:=q.o.aP i;have C:=b.au.obj.c 0;have B:=b.obj.c 0;have A:=b.obj.frozen 0;have z:=b.obj.lt;clear q p i;by_cases f:dG l
 .have d:=b.set 0 (.slice a l.length c);have g5:=d.obj.c 0;have Hk:=zh (zi d f);rw[aO f];clear b d f;go_wp2;refine yV (v:=.agg #[.slice a l.length c]) qeX rfl ?_;exact qcM
 .have d:=b.set 0 (.slice none 0 0);have g5:=d.obj.c 0;have Hk:=zh (zi d f);rw[aA f];clear b d f;go_wp2;refine yV (v:=.agg #[.slice none 0 0]) qeX rfl ?_;exact qdl
theorem WC(op:Nat)(x y:Bool)(w:zW)(f:Bool->Bool->Bool)(h:op=38/\f=(fun x y=>x&&y)\/op=124/\f=(fun x y=>x||y)\/op=45/\f=(fun x y=>x && !y)):
 zX 244 #[.int .u8 op,.bool x,.bool y] w (.bool (f x y)):=by
 refine aj fun R hR=>?_;rcases h with⟨rfl,rfl⟩|⟨rfl,rfl⟩|⟨rfl,rfl⟩
 all_goals
  cases x<;>cases y
  all_goals
   go_enter func244,ntmps244
   go_wp2;exact qcm
end Cl
