/- Lemmas. -/
import Derived.Test.YtbbnjopkjbhpbaaGreatDoorPkT4
set_option maxRecDepth 99999
set_option maxHeartbeats 9999999
namespace Cl
open Go Go.RowKit Go.Proofs Tryz
theorem ezR(e f:Ed):e=f↔(e.lo=f.lo/\e.hi=f.hi/\e.to=f.to):=by
 cases e;cases f;simp
theorem T9 : (prog.fieldsOf 102).toList = [⟨"Lo", 5, 0, false, "", "", 0⟩, ⟨"Hi", 5, 1, false, "", "", 1⟩, ⟨"To", 3, 2, false, "", "", 8⟩] := by
 kernel_rfl
theorem WK:prog.stoodInHeld 102=false:=by kernel_rfl
theorem XI:prog.eqGuardType prog.depth 102=false:=by kernel_rfl
theorem bzD:prog.underlying 102=some (.struct (prog.fieldsOf 102)):=by kernel_rfl
theorem X5(a b c g f e:Int)(w:zW):(Op.equalIn 10000 102 (.agg #[.int .u8 a,.int .u8 b,.int .i64 c]) (.agg #[.int .u8 g,.int .u8 f,.int .i64 e])).run prog w=.ok (a==g&&(b==f&&c==e)) w:=by
 rw[run_equalIn_agg w 9999 102 _ _ bzD WK,T9];have l:=fun(d:Nat) (a b:Int) (w:zW)=>run_equalIn_int (P:=prog) w d 5 .u8 .u8 a b underlying5;have k:=fun(d:Nat) (a b:Int) (w:zW)=>run_equalIn_int (P:=prog) w d 3 .i64 .i64 a b underlying3;simp only[Op.eqFields];simp[part,isAgg,go_sem,l,k];by_cases j:a=g<;>by_cases i:b=f<;>by_cases h:c=e<;>simp[j,i,h]
theorem JI(v:zV)(l:List Bool)(x:Bool)(m:Mem)(w:zW)(j:m.az w)(p:jK m v l):
 zX 253 #[v,.bool x] w (.j (firstIdx (fun y=>x=y) l 0)):=by
 obtain⟨a,c,rfl,u,t,s⟩:=p;unfold maxLen at t;refine au fun R hR=>?_
 go_enter func253,ntmps253
 go_wp2;refine aB [0,1,7,8] (fun n g f=>∃k:Nat,k<=l.length/\n=l.length-k/\g=[.slice a l.length c,.bool x,.j l.length,.j k]/\firstIdx (fun y=>x=y) l 0=firstIdx (fun y=>x=y) (l.drop k) k/\zB w f) ?_ ?_
 .exact qcW
 rintro X z n g f q-⟨k,hk,rfl,rfl,hrel,hbel⟩;simp[bz,lk];have d:=dzE j hbel;by_cases hlt:k<l.length
 .obtain⟨b,off,rfl,r⟩:=s qdJ;have A:=azk d (r k hlt);have i:=zh (sP (fun y=>x=y) l k hlt);go_wp2
  all_goals first
   |exact hR.o _ _ ⟨je (by rw[hrel,i.o,zK (aN (by simp_all))]),hbel⟩
   |exact q.o _ _ _ zo rfl ⟨k+1,zo,rfl,rfl,by rw[hrel,i.o,zJ (by rw[aG (by simp_all)];simp)],hbel⟩
 .exact qhw
theorem Dz(v:zV)(l:List Bool)(x:Bool)(m:Mem)(w:zW)(f:m.az w)(g:jK m v l):
 zX 193 #[v,.bool x] w (.bool (tf (x∈l))):=by
 have j:=JI v l x m w f g;have d:=Bc (fun y=>x=y) l 0;refine au fun R k=>?_;generalize q:firstIdx (fun y=>x=y) l 0=r at*
 have p:=zh d;clear d
 go_enter func193,ntmps193
 go_wp2_with fail
 refine j.mono ?_;rintro e w' ⟨rfl,a⟩;go_wp2;refine k.o _ _ ⟨aP ?_,a⟩;rcases p.o with⟨c,b⟩|⟨i,c,b,n,-⟩
 .rw[aG (fun h=>b x h rfl)];simp[c]
 .rw[aN (by rw[n];exact zF c)];simp[b]
theorem FT(v v':zV)(l l':List Ed)(m:Mem)(w:zW)(A:m.az w)(B:lW m v l)(i:lW m v' l'):
 zX 158 #[v,v'] w (.bool (tf (l=l'))):=by
 obtain⟨a,c,rfl,T,H,G⟩:=B;obtain⟨Q,P,rfl,I,q,p⟩:=i;unfold maxLen at H q;refine au fun R hR=>?_;by_cases hlen:l.length=l'.length
 .have g:((l.length:Int) != (l'.length:Int))=false:=by simp[hlen]
  have Hlen:=zh hlen;clear hlen
  go_enter func158,ntmps158
  go_wp2;refine aB [0,1,12,13] (fun n x u=>∃k:Nat,k<=l.length/\n=l.length-k/\x=[.slice a l.length c,.slice Q l'.length P,.j l.length,.j k]/\(l=l'↔l.drop k=l'.drop k)/\zB w u) ?_ ?_
  .exact qbQ
  rintro X z n x u D-⟨k,hk,rfl,rfl,f,hbel⟩;have Hrel:=zh f;clear f;simp[bz,lk];have d:=dzE A hbel;by_cases hlt:k<l.length
  .have hlt':k<l'.length:=by rw[<-Hlen.o];exact hlt
   obtain⟨b,off,rfl,F⟩:=G qdJ;obtain⟨Y,y,rfl,j⟩:=p qdV;obtain⟨L,K,J,-⟩:=F k hlt;obtain⟨t,s,r,-⟩:=j k hlt';have W:=azk d L;have V:=azk d K;have U:=azk d J;have O:=azk d t;have N:=azk d s;have M:=azk d r;have HD:=zh qhV;have S:=fun w=>X5 (l[k].lo) (l[k].hi) (l[k].to) (l'[k].lo) (l'[k].hi) (l'[k].to) w;have C:=XI;have He:=zh (ezR l[k] l'[k]);go_wp2
   go_quiet (fail)
   go_wp2
   .refine hR.o _ _ ⟨aP ?_,below_drewN hbel _⟩;rw[aG];intro h;have E:=He.o.1 (HD.o.1 (Hrel.o.1 h)).1;have h6:=‹(!(l[k].lo:Int)==(l'[k].lo:Int))=true\/_›;simp[E]at h6
   .refine D.o _ _ _ zo rfl ⟨k+1,zo,rfl,rfl,?_,below_drewN hbel _⟩;have h6:=‹(!(l[k].lo:Int)==(l'[k].lo:Int))=false/\_›;exact qcj
  .exact qgR
 .have g:((l.length:Int) != (l'.length:Int))=true:=by simp;omega
  go_enter func158,ntmps158
  exact qg1
theorem YC(p d:Bool)(v v':zV)(l l':List Ed)(m:Mem)(w:zW)(k:m.az w)(i:lW m v l)(g:lW m v' l'):
 zX 157 #[.agg #[.bool p,v],.agg #[.bool d,v']] w (.bool (tf ((⟨p,l⟩:Sn)=⟨d,l'⟩))):=by
 refine au fun R j=>?_;have b:zB w ((w.alloc (.cells #[.bool p,v] 105)).alloc (.cells #[.bool d,v'] 105)):=bY qhZ _;have q:=FT v v' l l' m _ (dzE k b) i g;obtain⟨a,c,rfl,-⟩:=i;obtain⟨t,s,rfl,-⟩:=g;by_cases f:p=d
 .have n:(p==d)=true:=by simp[f]
  have r:=zh f;clear f
  go_enter func157,ntmps157
  go_wp2_with fail
  refine q.mono ?_;rintro e w' ⟨rfl,h⟩;go_wp2;refine j.o _ _ ⟨aP (dY ?_),iO b h⟩;simp[r.o]
 .have n:(p==d)=false:=by simp[f]
  go_enter func157,ntmps157
  go_wp2;refine j.o _ _ ⟨aP ?_,b⟩;rw[aG];simp[f]
def allT:aK:=[⟨true,[⟨0,255,0⟩]⟩]
theorem Yw(w:zW):
 zC 38 #[] w fun e w'=>∃g1 g2,e=.returned (.agg #[.slice (some ⟨g2,0,none⟩) 1 1])/\zB w w'/\w.heap.size<=g1/\w.heap.size<=g2/\g1≠g2 /\
  bg w' g1 102 #[.int .u8 0,.int .u8 255,.int .i64 0]/\bg w' g2 105 #[.bool true,.slice (some ⟨g1,0,none⟩) 1 1]:=by
 refine au fun R hR=>?_
 go_enter func38,ntmps38
 go_wp2;refine yV (v:=.agg #[.slice (some ⟨w.heap.size+1+1,0,none⟩) 1 1]) (by simp[results,results38,go_sem]) rfl ?_;refine hR.o _ _ ⟨_,_,rfl,bY (bY qhZ _) _,?_,?_,?_,(bg.new _ _ _).al _,?_⟩
 .simp<;>omega
 .omega
 .simp<;>omega
 .have:=bg.new ((w.alloc (Obj.cells #[Value.slice (some { block:=w.heap.size+1+1,off:=0 }) 1 1] 27)).alloc (Obj.cells #[Value.int IntKind.u8 0,Value.int IntKind.u8 255,Value.int IntKind.i64 0] 102)) 105 #[Value.bool true,Value.slice (some { block:=w.heap.size+1,off:=0 }) 1 1];exact qbe
theorem Ko(v v':zV)(l l':aK)(m:Mem)(w:zW)(P:m.az w)(Q:aV m v l)(x:aV m v' l'):
 zX 156 #[v,v',.func (.func 157) #[] #[]] w (.bool (tf (l=l'))):=by
 obtain⟨a,c,rfl,h1,W,V⟩:=Q;obtain⟨a',c',rfl,Y,B,A⟩:=x;unfold maxLen at W B;refine au fun R hR=>?_;by_cases hlen:l.length=l'.length
 .have t:((l.length:Int) != (l'.length:Int))=false:=by simp[hlen]
  have Hlen:=zh hlen;clear hlen
  go_enter func156,ntmps156
  go_wp2;refine aB [0,1,2,15,16,17] (fun n F E=>∃k:Nat,k<=l.length/\n=l.length-k/\F=[.slice a l.length c,.slice a' l'.length c',.func (.func 157) #[] #[],.slice a l.length c,.j l.length,.j k]/\(l=l'↔l.drop k=l'.drop k)/\zB w E) ?_ ?_
  .exact qbQ
  rintro X z n F E T-⟨k,hk,rfl,rfl,p,hbel⟩;have Hrel:=zh p;clear p;simp[bz,lk];have d:=dzE P hbel;by_cases hlt:k<l.length
  .have hlt':k<l'.length:=by rw[<-Hlen.o];exact hlt
   obtain⟨b,off,rfl,U⟩:=V qdJ;obtain⟨b',G,rfl,y⟩:=A qdV;obtain⟨J,M,Z,I⟩:=U k hlt;obtain⟨r,s,C,q⟩:=y k hlt';have K:=zh qhV;have g:=fun L u=>YC l[k].bW l'[k].bW M s l[k].bu l'[k].bu m L u I q;have Hc:=zh g;clear g;obtain⟨ua,uc,rfl,-⟩:=I;obtain⟨O,N,rfl,-⟩:=q;have c1:=azk d J;have c2:=azk d Z;have e':=azk d r;have d':=azk d C;have S:=bzu d J;have H:=bzu d r
   go_wp2_with fail
   refine(Hc.o _ (dzE d (bY qhZ _))).mono ?_;rintro e w' ⟨rfl,j⟩;have i:=iO (bY (bY hbel _) _) j;clear j;by_cases f:(⟨l[k].bW,l[k].bu⟩:Sn)=⟨l'[k].bW,l'[k].bu⟩
   .rw[aN f];have D:=zh f;clear f;go_wp2;exact T.o _ _ _ zo rfl ⟨k+1,zo,rfl,rfl,Hrel.o.trans (K.o.trans ⟨fun h=>h.2,fun h=>⟨D.o,h⟩⟩),i⟩
   .rw[aG f];go_wp2;exact hR.o _ _ ⟨aP (by rw[aG];intro h;exact f (K.o.1 (Hrel.o.1 h)).1),i⟩
  .exact qgR
 .have t:((l.length:Int) != (l'.length:Int))=true:=by simp;omega
  go_enter func156,ntmps156
  exact qg1
theorem BV(v v':zV)(l l':aK)(m:Mem)(w:zW)(h:m.az w)(g:aV m v l)(b:aV m v' l'):
 zX 105 #[.agg #[v],.agg #[v']] w (.bool (tf (l=l'))):=by
 refine au fun R j=>?_;have f:zB w ((w.alloc (.cells #[v] 27)).alloc (.cells #[v'] 27)):=bY qhZ _;have i:=Ko v v' l l' m _ (dzE h f) g b;obtain⟨a,c,rfl,-⟩:=g;obtain⟨n,k,rfl,-⟩:=b
 go_enter func105,ntmps105
 go_wp2_with fail
 refine i.mono ?_;rintro e w' ⟨rfl,d⟩;go_wp2;exact j.o _ _ ⟨rfl,iO f d⟩
noncomputable def lq(P:Nat->Prop)(n:Nat):Array Value:=((List.range n).map fun b=>Value.bool (tf (P b))).toArray
theorem jw{P:Nat->Prop}{n i:Nat}(h:i<n):(lq P n)[i]?=some (.bool (tf (P i))):=by simp[lq,h]
theorem dZ{P P':Nat->Prop}{n:Nat}(h:∀b,b<n->(P b↔P' b)):lq P n=lq P' n:=by
 unfold lq
 congr 1
 apply xZ;intro b a;rw[dY (h b (yQ.1 a))]
theorem Lb{P:Nat->Prop}{n i:Nat}(h:¬i<n):(lq P n)[i]?=none:=by simp[lq];omega
theorem jQ(P:Nat->Prop)(n i:Nat):(lq P n).setIfInBounds i (.bool true)=lq (fun b=>P b\/b=i) n:=by
 apply Array.ext_getElem?;intro j;rw[Array.getElem?_setIfInBounds];by_cases c:j<n
 .by_cases a:i=j
  .subst a;rw[zK rfl,zK (by simpa [lq]using c),jw c,aN (Or.inr rfl)]
  .rw[zJ a,jw c,jw c,dY (show P j↔(P j\/j=i) from⟨.inl,fun h=>h.elim id (fun e=>absurd e.symm a)⟩)]
 .rw[Lb c,Lb c];by_cases a:i=j
  .rw[zK a,zJ (by simp[lq];omega)]
  .rw[zJ a]
theorem qV(n:Nat):Array.replicate n (Value.bool false)=lq (fun _=>False) n:=by
 apply Array.ext
 .simp[lq]
 .intro j b a;simp[lq,aG (p:=False) id]
theorem Ci:zeroCells288=Array.replicate 257 (Value.bool false):=by kernel_rfl
def mU(e:Ed)(b:Nat):Prop:=e.lo=b\/e.hi+1=b
def vU(l:aK)(b:Nat):Prop:=b=0\/∃s∈l,∃e∈s.bu,mU e b
noncomputable def dJ(l:aK)(n:Nat):List Int:=((List.range n).filter fun b=>tf (vU l b)).map Int.ofNat
theorem QY(l:aK)(n:Nat):dJ l (n+1)=dJ l n++if tf (vU l n)then[(n:Int)]else[]:=by
 unfold dJ;rw[List.range_succ,List.filter_append,yI]
 congr 1
 cases h:tf (vU l n)<;>simp[h]
theorem De(l:aK)(n:Nat):∀x∈dJ l n,0<=x/\x<n:=by
 intro x a;simp only[dJ,yD,xR,yQ]at a;obtain⟨b,⟨c,-⟩,rfl⟩:=a;simp;exact c
theorem Ew(l:aK)(n:Nat):(dJ l n).length<=n:=by
 unfold dJ;rw[xC];exact yJ (vB _ _) zS
theorem yg{es:List Ed}{j:Nat}(h:j<es.length)(b:Nat):(∃e∈es.take (j+1),mU e b)↔(∃e∈es.take j,mU e b)\/mU es[j] b:=by
 rw[zH h];constructor
 .rintro⟨e,c,a⟩;rcases yP.1 c with d|d
  .exact .inl ⟨e,d,a⟩
  .rw[zZ.1 d]at a;exact .inr a
 .rintro(⟨e,c,a⟩|a)
  .exact⟨e,xI _ c,a⟩
  .exact⟨_,xS _ (zZ.2 rfl),a⟩
theorem X9{l:aK}{k:Nat}(h:k<l.length)(b:Nat):vU (l.take (k+1)) b↔vU (l.take k) b\/∃e∈(l[k]).bu,mU e b:=by
 unfold vU;rw[zH h];constructor
 .rintro(f|⟨s,c,a⟩)
  .exact .inl (.inl f)
  .rcases yP.1 c with d|d
   .exact .inl (.inr ⟨s,d,a⟩)
   .rw[zZ.1 d]at a;exact .inr a
 .rintro((f|⟨s,c,a⟩)|a)
  .exact .inl f
  .exact .inr ⟨s,xI _ c,a⟩
  .exact .inr ⟨_,xS _ (zZ.2 rfl),a⟩
theorem lJ{n:Nat}{p:Int}{es:List Ed}(h:bT n p es):∀e∈es,e.lo<=e.hi/\0<=e.to/\e.to<n:=by
 induction es generalizing p with
 |nil=>simp
 |cons e es ih=>
  obtain⟨f,d,c,-,b⟩:=h;intro x a;rcases yA.1 a with rfl|a
  .exact⟨f,d,c⟩
  .exact ih b x a
theorem Y7:fB prog 223 3 1 8:=⟨underlying223,zo,by
 obtain⟨i,d,c,b,a⟩:=info_parts (P:=prog) (e:=3) (z:=.j 0) (size:=1) (bytes:=8) zk;exact⟨i,_,d,c,b,a,rfl⟩⟩
theorem czI(I:zV)(l:aK)(m:Mem)(w:zW)(U:m.az w)(W:aV m I l)(C:WF l):
 zC 187 #[I] w fun e w'=>∃r,e=.returned r/\zB w w'/\iT (m.grow w w') r (dJ l 256):=by
 obtain⟨a,c,rfl,h1,h2,h3⟩:=W;unfold maxLen at h2;refine au fun R hR=>?_
 go_enter func187,ntmps187
 go_wp2;refine aB [3,11,12,13] (fun n g H=>∃(k:Nat),k<=l.length/\n=l.length-k/\g=[.p w.heap.size,.slice a l.length c,.j l.length,.j k] /\
  Own w m H m [.obj w.heap.size 288 (lq (vU (l.take k)) 257)]) ?_ ?_
 .refine⟨_,0,zG _,rfl,rfl,?_⟩;have:=(Own.start U).al (zeroCells288.setIfInBounds 0 (.bool true)) 288;rw[Ci,qV,jQ,dZ (P':=vU (l.take 0)) (by intro b _;simp[vU])]at this;rw[Ci,qV,jQ,dZ (P':=vU (l.take 0)) (by intro b _;simp[vU])];exact this
 rintro X z n g H hX-⟨k,hk,rfl,rfl,y⟩;simp[bz,lk];by_cases hlt:k<l.length
 .obtain⟨b,off,rfl,h4⟩:=h3 qdJ;have t:=y.az;obtain⟨M,ve,g2,O,N,rfl,g4,g5,g6⟩:=h4 k hlt;have e':=azk t M;have d':=azk t g2;have hb:=bzu t M;have D:=lJ (C l[k] (zF hlt));have A:=zh (fun b=>X9 hlt b);generalize l[k]=s at*
  unfold maxLen at g5;have a':=y.obj.lt;have E:=y.al' (.cells #[.bool s.bW,.slice O s.bu.length N] 105);go_wp2;refine aB [3,11,12,13,18,19,20] (fun n g u=>∃(j:Nat),j<=s.bu.length/\n=s.bu.length-j/\g=[.p w.heap.size,.slice (some ⟨b,off,none⟩) l.length c,.j l.length,.j k,.slice O s.bu.length N,.j s.bu.length,.j j] /\
   Own w m u m [.obj w.heap.size 288 (lq (fun b=>vU (l.take k) b\/∃e∈s.bu.take j,mU e b) 257)]) ?_ ?_
  .refine⟨_,0,zG _,rfl,rfl,?_⟩;rw[dZ (P':=vU (l.take k)) (by intro b _;simp)];exact E
  rintro Y Q n g u hY-⟨j,hj,rfl,rfl,d⟩;simp[bz,lk];by_cases hlt2:j<s.bu.length
  .obtain⟨b',J,rfl,F⟩:=g6 qd7;obtain⟨P,e2,e3,e4,e5,-⟩:=F j hlt2;have V:=(D s.bu[j] (zF hlt2)).1;have d1:=azk d.az P;have d2:=azk d.az e2;have d3:=azk d.az e3;have f':=bzu d.az P;have Z:=d.obj.lt;have B:=d.obj.cell (jw (i:=s.bu[j].lo) zo);have k2:=d.obj.cell (jw (i:=s.bu[j].hi+1) zo);have k3:=d.obj.frozen s.bu[j].lo;have k4:=d.obj.frozen (s.bu[j].hi+1);have T:s.bu[j].lo≠s.bu[j].hi+1:=zo;have K:s.bu[j].hi+1≠s.bu[j].lo:=zo;have hO3:=(((d.set s.bu[j].lo (.bool true)).set (s.bu[j].hi+1) (.bool true))).al' (.cells #[.int .u8 s.bu[j].lo,.int .u8 s.bu[j].hi,.int .i64 s.bu[j].to] 102);rw[jQ,jQ,dZ (P':=fun b=>vU (l.take k) b\/∃e∈s.bu.take (j+1),mU e b) (by
    intro b _;rw[yg hlt2];unfold mU;constructor
    .rintro((h|h)|h)
     .exact h.elim .inl (fun h=>.inr (.inl h))
     .exact .inr (.inr (.inl h.symm))
     .exact .inr (.inr (.inr h.symm))
    .rintro(h|h|h|h)
     .exact qdm
     .exact qdl
     .exact .inl (.inr h.symm)
     .exact .inr h.symm)]at hO3
   have G:=zh hO3;clear hO3;go_wp2;exact hY.o _ _ _ zo rfl ⟨j+1,zo,rfl,rfl,G.o⟩
  .go_wp2;refine hX.o _ _ _ zo rfl ⟨k+1,zo,rfl,rfl,?_⟩;rw[dZ (P':=fun b=>vU (l.take k) b\/∃e∈s.bu.take j,mU e b) (by
    intro b _;rw[A.o,xH (l:=s.bu) (i:=j) zo])]
   exact d
 .rw[xH zo]at y;go_wp2;refine aB [3,8,34] (fun n g u=>∃(q:Nat) (v:zV),q<=256/\n=256-q/\g=[.p w.heap.size,v,.j q] /\
   Own w m u m [.row v 3 1 (dJ l q).length ((dJ l q).map (Value.int .i64)),.obj w.heap.size 288 (lq (vU l) 257)]) ?_ ?_
  .exact⟨_,0,.n,zo,rfl,rfl,y.fE _ _⟩
  rintro Y Q n g u hY-⟨q,v,hq,rfl,rfl,d⟩;simp[bz,lk];by_cases hlt2:q<256
  .have B:=d.av.obj.cell (jw (i:=q) zo);have hg:=d.av.obj.lt;have c':=Ew l q;have f:=QY l q;by_cases L:vU l q
   .have ht:=aN L;rw[ht]at B;rw[ht,zK rfl]at f;have Hsu:=zh f;clear f ht;have hO3:=d.al #[.int .i64 q] 3
    go_wp2_with (at_builtin;refine aU Y7 rfl (.tmp 40) (.tmp 42) rfl v (dJ l q).length ((dJ l q).map (Value.int .i64)) rfl hO3.av.row ⟨u.heap.size,0,none⟩ 1 1 [.j q] rfl rfl (hO3.obj.dQ rfl) qdN qdM zo ?_)
    exact qaN
   .have ht:=aG L;rw[ht]at B;rw[ht,zJ zS,yR]at f;have Hsu:=zh f;clear f ht;go_wp2;refine hY.o _ _ _ zo rfl ⟨q+1,v,zo,rfl,rfl,?_⟩;rw[Hsu.o];exact d
  .obtain rfl:q=256:=zo;have p:=iK d.bP.done (jE (m:=m) d.row (fun x S=>by have:=De l 256 x S;omega));have Hfin:=zh (zi d.aF p);clear p d;go_wp2;exact qa5
def AB(n:Nat)(es:List Ed)(c:Int):Int:=if bH es c.toNat<0 then(n:Int)else bH es c.toNat
def qz(n:Nat)(a:List Int)(es:List Ed):List Int:=a.map (AB n es)
theorem Ub(es:List Ed)(e:Ed)(b:Nat)(h:∀x∈es,x.hi<e.lo):bH (es++[e]) b=if e.lo<=b/\b<=e.hi then e.to else bH es b:=by
 induction es with
 |nil=>rfl
 |cons x es ih=>
  have c:=h x zS;have:=ih (fun y hy=>h y qef);simp only[xK,bH];by_cases a:x.lo<=b/\b<=x.hi
  .rw[zK a,zK a,zJ zo]
  .rw[zJ a,zJ a,this]
theorem Gi{n:Nat}{es:List Ed}:∀{p:Int},bT n p es->∀j,(h:j<es.length)->∀x∈es.take j,x.hi<(es[j]).lo:=by
 induction es with
 |nil=>intro p _ j h;simp at h
 |cons e es ih=>
  intro p l j h x a;obtain⟨-,-,-,-,g⟩:=l
  cases j with
  |zero=>simp at a
  |succ j=>
   simp only[List.take_succ_cons,yA]at a;have d:j<es.length:=by simpa using h
   have c:∀{q:Int} {fs:List Ed},bT n q fs->∀y∈fs,q<y.lo:=by
    intro q fs
    induction fs generalizing q with
    |nil=>simp
    |cons f fs ihf=>
     intro m y b;obtain⟨o,-,-,k,i⟩:=m;rcases yA.1 b with rfl|b
     .exact k
     .have:=ihf i y b;omega
   rcases a with rfl|a
   .have:=c g es[j] (zF d);simp only[List.getElem_cons_succ];omega
   .simpa using ih g j d x a
theorem XK{n:Nat}{es:List Ed}{p:Int}(d:bT n p es){j:Nat}(b:j<es.length)(c:Int):
 AB n (es.take (j+1)) c=if(es[j]).lo<=c.toNat/\c.toNat<=(es[j]).hi then(es[j]).to else AB n (es.take j) c:=by
 have e:=(lJ d es[j] (zF b)).2;unfold AB;rw[zH b,Ub _ _ _ (Gi d j b)];by_cases a:(es[j]).lo<=c.toNat/\c.toNat<=(es[j]).hi
 .rw[zK a,zK a,zJ zo]
 .rw[zJ a,zJ a]
def uu(l:aK)(a:List Int):List (List Int):=l.map (fun s=>qz l.length a s.bu)
theorem Vh:fB prog 225 223 1 24:=⟨underlying225,zo,by
 obtain⟨i,d,c,b,a⟩:=info_parts (P:=prog) (e:=223) (z:=.n) (size:=1) (bytes:=24) zk;exact⟨i,_,d,c,b,a,rfl⟩⟩
theorem ND:OM prog 223 3 8 (.j 0):=⟨underlying223,zk,rfl⟩
theorem VB:OM prog 226 4 1 (.bool false):=⟨underlying226,zk,rfl⟩
theorem M6:fB prog 226 4 1 1:=⟨underlying226,zo,by
 obtain⟨i,d,c,b,a⟩:=info_parts (P:=prog) (e:=4) (z:=.bool false) (size:=1) (bytes:=1) zk;exact⟨i,_,d,c,b,a,rfl⟩⟩
structure qc (m:Mem) (xs:List Value) (l:List (List Int)):Prop where
 len:xs.length=l.length
 get:∀i (h:i<l.length),∃v,xs[i]?=some v/\iT m v l[i]
theorem qc.nil(m:Mem):qc m [] []:=⟨rfl,fun i h=>by simp at h⟩
theorem qc.mono{m m':Mem}{xs:List Value}{l:List (List Int)}(h:qc m xs l)(a:m.le m'):qc m' xs l:=
 ⟨h.len,fun i hi=>let ⟨v,h1,h2⟩:=h.get i hi;⟨v,h1,iK a h2⟩⟩
theorem qc.push{m:Mem}{xs:List Value}{l:List (List Int)}(h:qc m xs l){x:List Int}{v:zV}(a:iT m v x):qc m (xs++[v]) (l++[x]):=by
 refine⟨by simp[h.len],fun i hi=>?_⟩;by_cases c:i<l.length
 .obtain⟨u,h1,h2⟩:=h.get i c;exact qcE
 .have:i=l.length:=by simp at hi;omega
  subst this;refine⟨v,?_,by simpa using a⟩;exact qcN
theorem IE{w:zW}{t:TypeId}{v:zV}{l:List (List Int)}{xs:List Value}{m:Mem}(a:w.ownsRow 0 t 1 v l.length xs)(b:qc m xs l)(d:m.free v):rY (m.iA w v) v l:=
 oN a fun _ c i h=>let ⟨u,h1,h2⟩:=b.get i h;⟨u,eO a c m h1,iK (czS d) h2⟩
def part(f:Int->Int)(a:List Int)(i:Nat):List Value:=((a.take i).map f++List.replicate (a.length-i) 0).map (Value.int .i64)
def wN(f:Int->Int)(a:List Int)(i:Nat)(x:Int):List Value:=((a.take i).map f++x::List.replicate (a.length-i-1) 0).map (Value.int .i64)
theorem PH{f:Int->Int}{a:List Int}{i:Nat}(h:i<a.length):part f a i=wN f a i 0:=by
 unfold part wN;rw[show a.length-i=(a.length-i-1)+1 by omega,List.replicate_succ]
 rfl
theorem KW{f:Int->Int}{a:List Int}{i:Nat}(h:i<a.length)(x:Int):(wN f a i x)[i]?=some (.j x):=by
 unfold wN;rw[List.getElem?_map,yN qdQ];simp[Nat.min_eq_left (Nat.le_of_lt h)]
theorem KV{f:Int->Int}{a:List Int}{i:Nat}(h:i<a.length)(x y:Int):(wN f a i x).set i (.j y)=wN f a i y:=by
 unfold wN;rw[yI,yI,List.set_append_right _ _ qdQ];simp[Nat.min_eq_left (Nat.le_of_lt h)]
theorem GZ{f:Int->Int}{a:List Int}{i:Nat}(h:i<a.length):wN f a i (f a[i])=part f a (i+1):=by
 unfold part wN;rw[zH h,show a.length-i-1=a.length-(i+1)by omega];simp only[yI,yL,xD,xK,xN,xB]
theorem KU(f:Int->Int)(a:List Int):List.replicate a.length (Value.int .i64 0)=part f a 0:=by simp[part]
theorem PI(f:Int->Int)(a:List Int):part f a a.length=(a.map f).map (Value.int .i64):=by simp[part]
theorem PG{f:Int->Int}{a:List Int}{i:Nat}(h:i<a.length):(part f a i)[i]?=some (.j 0):=by rw[PH h];exact KW h 0
theorem PE{f:Int->Int}{a:List Int}{i:Nat}(h:i<a.length)(y:Int):(part f a i).set i (.j y)=wN f a i y:=by rw[PH h];exact KV h 0 y
theorem TT{n:Nat}{p:Int}{es:List Ed}(a:bT n p es)(c:Int):0<=AB n es c/\AB n es c<=n:=by
 unfold AB;rcases Fp a c.toNat with h|h
 .rw[h,zK zo];omega
 .rw[zJ zo];omega
theorem Bf{n:Nat}{p:Int}{es:List Ed}(d:bT n p es)(a:List Int):∀x∈qz n a es,0<=x/\x<=n:=by
 intro x b;obtain⟨c,-,rfl⟩:=yD.1 b;exact TT d c
structure TabAt (m:Mem) (g:Nat) (cuts:List Int) (next:List (List Int)) (acc:List Bool) (cB:List Int):Prop where
 ex:∃vc vn va vk,m.cell g 0=some vc/\m.cell g 1=some vn/\m.cell g 2=some va/\m.cell g 3=some vk /\
  iT m vc cuts/\rY m vn next/\jK m va acc/\iT m vk cB
theorem TabAt.mono{m m':Mem}{g:Nat}{b:List Int}{next:List (List Int)}{acc:List Bool}{cB:List Int}(h:TabAt m g b next acc cB)(a:m.le m'):TabAt m' g b next acc cB:=by
 obtain⟨e,c,va,d,p,o,n,l,k,j,i,f⟩:=h.ex;exact⟨e,c,va,d,bzv a p,bzv a o,bzv a n,bzv a l,iK a k,BJ a j,mV a i,iK a f⟩
def Ja(a:List Int)(i:Nat):Int:=if h:i+1<a.length then a[i+1]-1 else 255
theorem czE(g:Nat)(d:List Int)(next:List (List Int))(acc:List Bool)(cB:List Int)(i:Nat)(m:Mem)(w:zW)(j:m.az w)(ht:TabAt m g d next acc cB)
(hi:i<d.length)(q:∀h:i+1<d.length,1<=d[i+1]/\d[i+1]<=255):
 zC 190 #[.pointer (some ⟨g,0,none⟩),.int .i64 i] w fun e w'=>e=.returned (.int .u8 (Ja d i))/\w'=w:=by
 obtain⟨y,u,va,v,l,-,-,-,⟨a,c,rfl,E,t,s⟩,-,-,-⟩:=ht.ex;have D:=bzu j l;have C:=azk j l;unfold maxLen at t;refine au fun R k=>?_
 go_enter func190,ntmps190
 by_cases hlt:i+1<d.length
 .obtain⟨b,off,rfl,r⟩:=s qdJ;obtain⟨n,B,A⟩:=r (i+1) hlt;have z:=azk j n;have p:=q hlt;have f:Ja d i=d[i+1]-1:=by simp[Ja,hlt]
  generalize d[i+1]=x at*
  go_wp2;refine k.o _ _ ⟨?_,rfl⟩;rw[f]
  rfl
 .have f:Ja d i=255:=by simp[Ja,hlt]
  go_wp2;refine k.o _ _ ⟨?_,rfl⟩;rw[f]
  rfl
def cl(cB:List Int)(s:Nat):Nat:=(cB.getD s 0).toNat
def bt(out:List Bool)(c:Nat):Bool:=out.getD c false
def nx(next:List (List Int))(s:Nat):List Int:=next.getD s []
def Eb(out:List Bool)(cB l:List Int)(b:Bool):Bool:=b||l.any fun x=>bt out (cl cB x.toNat)
theorem Ju{out:List Bool}{c:Nat}(h:c<out.length):bt out c=out[c]:=by simp[bt,h]
theorem Xl{out:List Bool}{cB l:List Int}{b:Bool}{j:Nat}(h:j<l.length):Eb out cB (l.take (j+1)) b=(Eb out cB (l.take j) b||bt out (cl cB (l[j]).toNat)):=by
 unfold Eb;rw[zH h,List.any_append];simp[Bool.or_assoc]
inductive vS (next:List (List Int)) (acc:List Bool) (cB:List Int):Nat->Prop
 |acc (s:Nat) (hs:s<next.length) (h:bt acc s=true):vS next acc cB (cl cB s)
 |step (s:Nat) (hs:s<next.length) (x:Int) (hx:x∈nx next s) (h:vS next acc cB (cl cB x.toNat)):vS next acc cB (cl cB s)
def Aw(next:List (List Int))(acc:List Bool)(cB:List Int)(out:List Bool):Prop:=∀c,bt out c=true->vS next acc cB c
def uA(next:List (List Int))(acc:List Bool)(cB:List Int)(out:List Bool)(k:Nat):Prop:=
 ∀s,s<k->Eb out cB (nx next s) (bt acc s)=true->bt out (cl cB s)=true
theorem Xv{next:List (List Int)}{acc:List Bool}{cB:List Int}{out:List Bool}(h1:Aw next acc cB out)(h2:uA next acc cB out next.length)(c:Nat):
 bt out c=true↔vS next acc cB c:=by
 refine⟨h1 c,fun h=>?_⟩
 induction h with
 |acc s hs h=>exact h2 s hs (by simp[Eb,h])
 |step s hs x hx _ ih=>exact h2 s hs (by simp only[Eb,Bool.or_eq_true,List.any_eq_true];exact .inr ⟨x,hx,ih⟩)
theorem Ii{next:List (List Int)}{acc:List Bool}{cB:List Int}{out:List Bool}{k:Nat}(h:uA next acc cB out k)(hk:Eb out cB (nx next k) (bt acc k)=true->bt out (cl cB k)=true):
 uA next acc cB out (k+1):=fun s b a=>by
 by_cases e:s=k
 .subst e;exact hk a
 .exact h s zo a
theorem NJ{next:List (List Int)}{acc:List Bool}{cB:List Int}{out:List Bool}(d:Aw next acc cB out){s:Nat}(b:s<next.length)(a:Eb out cB (nx next s) (bt acc s)=true):
 Aw next acc cB (out.set (cl cB s) true):=by
 intro c g;by_cases e:cl cB s=c
 .subst e;simp only[Eb,Bool.or_eq_true,List.any_eq_true]at a;rcases a with h|⟨x,f,h⟩
  .exact .acc s b h
  .exact .step s b x f (d _ h)
 .refine d c ?_;simpa [bt,List.getElem?_set,e]using g
theorem Yc{out:List Bool}:∀{c:Nat},c<out.length->bt out c=false->(out.set c true).count false+1=out.count false:=by
 induction out with
 |nil=>intro c h;simp at h
 |cons b out ih=>
  intro c h a
  cases c with
  |zero=>
   simp[bt]at a;subst a
   simp
  |succ c=>
   have:=@ih c qd5 (by simpa [bt]using a);simp only[List.set_cons_succ,List.count_cons];omega
theorem Z4(g:Nat)(h':List Int)(next:List (List Int))(acc:List Bool)(cB:List Int)(m:Mem)(w:zW)(hm:m.az w)(ht:TabAt m g h' next acc cB)
(ha:acc.length=next.length)(hk:cB.length=next.length)(hn:∀r∈next,∀x∈r,0<=x/\x<next.length)(f':∀x∈cB,0<=x/\x<next.length)(A':next.length<=1000001):
 Calls prog 189 #[.pointer (some ⟨g,0,none⟩)] w fun e w'=>∃r out,e=.returned r/\Below w.heap.size w w'/\jK (m.grow w w') r out/\out.length=next.length /\
  ∀c,bt out c=true↔vS next acc cB c:=by
 obtain⟨vc,vn,va,vk,e1,e2,e3,e4,-,⟨na,nc,rfl,n1,n2,n3⟩,⟨aa,ac,rfl,a1,a2,a3⟩,⟨ka,kc,rfl,k1,k2,k3⟩⟩:=ht.ex;have hg:=bzu hm e1;have w2:=azk hm e2;have w3:=azk hm e3;have w4:=azk hm e4;unfold maxLen at n2 a2 k2;refine au fun R hR=>?_
 go_enter func189,ntmps189
 go_wp2_with (refine wpList_make_row VB rfl (.tmp 13) (.tmp 13) rfl next.length rfl rfl zo qdM ?_)
 intro w5 G t;have hO:=(Own.start hm).make G t;clear G t;have F:List.replicate next.length (Value.bool false)=(List.replicate next.length false).map Value.bool:=by simp
 rw[F]at hO;clear F;have W:Aw next acc cB (List.replicate next.length false):=by
  intro c hc;simp[bt,List.getElem?_replicate]at hc
  split at hc<;>simp at hc
 generalize hB:w.heap.size=B at*
 have e':(List.replicate next.length false).length=next.length:=by simp
 generalize List.replicate next.length false=S at*
 go_wp2;refine aB [0,3,4] (fun n D Q=>∃(out:List Bool) (d:Bool),out.length=next.length/\n=(if d=true then out.count false+1 else 0) /\
  D=[.p g,.slice (some ⟨B,0,none⟩) next.length next.length,.bool d]/\Own w m Q m [.row (.slice (some ⟨B,0,none⟩) next.length next.length) 4 1 next.length (out.map Value.bool)] /\
  Aw next acc cB out/\(d=false->uA next acc cB out next.length)) ?_ ?_
 .exact⟨_,S,true,e',rfl,rfl,hO,W,zS⟩
 clear hO W e';rintro X z n D Q hX-⟨out,d,J,rfl,rfl,hO,hs,hcl⟩;simp[bz,lk];have q2:=azk hO.az e2;have A:=bzu hO.az e1
 cases d with
 |false=>
  go_wp2;have hb:=nR (l:=out) (m:=m) (w:=Q) (v:=.slice (some ⟨B,0,none⟩) next.length next.length) (by rw[J];exact hO.row)
  exact hR.o _ _ ⟨_,out,rfl,hB ▸ hO.aF,mV hO.bP.done hb,J,Xv hs (hcl zS)⟩
 |true=>
  clear hcl;go_wp2;refine aB [0,3,4,20,21] (fun n D Q=>∃(ou:List Bool) (ag:Bool) (k:Nat),k<=next.length/\n=next.length-k/\ou.length=next.length /\
   D=[.p g,.slice (some ⟨B,0,none⟩) next.length next.length,.bool ag,.j next.length,.j k]/\Own w m Q m [.row (.slice (some ⟨B,0,none⟩) next.length next.length) 4 1 next.length (ou.map Value.bool)] /\
   Aw next acc cB ou/\(ag=true->ou.count false<out.count false)/\(ag=false->ou=out/\uA next acc cB ou k)) ?_ ?_
  .exact⟨_,out,false,0,zG _,rfl,J,rfl,hO,hs,zS,fun _=>⟨rfl,fun s h=>absurd h zo⟩⟩
  clear hO q2 A;rintro Y z2 n D D' hY-⟨ou,ag,k,R',rfl,hlu,rfl,hO,hs2,hag,hcl⟩;simp[bz,lk];have q2:=azk hO.az e2;have q3:=azk hO.az e3;have q4:=azk hO.az e4;have A:=bzu hO.az e1;by_cases hlt:k<next.length
  .obtain⟨nb,no,rfl,n4⟩:=n3 qdJ;obtain⟨ab,ao,rfl,a4⟩:=a3 (by intro h;simp[h]at ha;omega);obtain⟨kb,ko,rfl,k4⟩:=k3 (by intro h;simp[h]at hk;omega);obtain⟨u,c1,ra,rc,rfl,r1,r2,r3⟩:=n4 k hlt;have s':=azk hO.az c1;have c2:=a4 k zo;have i':=azk hO.az c2;have c3:=k4 k zo;have C:=azk hO.az c3.1;have a':=hn next[k] (zF hlt);have c':nx next k=next[k]:=by simp[nx,hlt]
   have g':bt acc k=acc[k]:=Ju zo;rw[<-g']at i';have m':=f' cB[k] (zF zo);obtain⟨q,K⟩:=zT m'.1;have H:cl cB k=q:=by simp[cl,show k<cB.length by omega,K]
   rw[K]at C;unfold maxLen at r2;generalize next[k]=row at*
   go_wp2;refine aB [0,3,4,20,21,5,6,37,38,39] (fun n D P=>∃j:Nat,j<=row.length/\n=row.length-j /\
    D=[.p g,.slice (some ⟨B,0,none⟩) next.length next.length,.bool ag,.j next.length,.j k,.j k,.bool (Eb ou cB (row.take j) (bt acc k)),.slice ra row.length rc,.j row.length,.j j] /\
    Own w m P m [.row (.slice (some ⟨B,0,none⟩) next.length next.length) 4 1 next.length (ou.map Value.bool)]) ?_ ?_
   .exact⟨_,0,zG _,rfl,by simp[Eb,g'],hO⟩
   clear hO q2 q3 q4 A s' i' C;rintro Z z3 n D P hZ-⟨j,hj,rfl,rfl,hO⟩;simp[bz,lk];have q4:=azk hO.az e4;have A:=bzu hO.az e1;by_cases hlt2:j<row.length
   .obtain⟨rb,ro,rfl,r4⟩:=r3 qd7;have d1:=azk hO.az (r4 j hlt2).1;have hx:=a' row[j] (zF hlt2);obtain⟨O,l'⟩:=zT hx.1;have i:=Xl (out:=ou) (cB:=cB) (b:=bt acc k) hlt2;rw[l']at d1 hx i;have P':O<next.length:=zo;have V:=f' cB[O] (zF zo);obtain⟨N,T⟩:=zT V.1;have d2:=azk hO.az (k4 O zo).1;rw[T]at d2 V;have n':cl cB ((O:Int).toNat)=N:=by simp[cl,show O<cB.length by omega,T]
    rw[n']at i;have U:N<ou.length:=zo;have d3:=bO (j:=N) (u:=.bool ou[N]) hO.row (by simp[U]);rw[<-Ju U]at d3;generalize bt ou N=y at*
    have t':=zh i;clear i;generalize Eb ou cB (row.take j) (bt acc k)=ok at*
    go_wp2
    all_goals refine hZ.o _ _ _ zo rfl ⟨j+1,zo,rfl,?_,hO⟩
    all_goals rw[t'.o]
    all_goals first
     |rfl
     |simp_all
   .obtain rfl:j=row.length:=zo;rw[yG];have C:=azk hO.az c3.1;rw[K]at C;have L:q<ou.length:=zo;have d3:=bO (j:=q) (u:=.bool ou[q]) hO.row (by simp[L]);have d4:=fD hO.row q;rw[<-Ju L]at d3;have M:=hO.setRow q (.bool true);have E:(ou.map Value.bool).set q (.bool true)=(ou.set q true).map Value.bool:=by rw[List.map_set]
    rw[E]at M;have f:=Yc (out:=ou) (c:=q) L;have a:=NJ (s:=k) hs2 hlt;rw[H,c']at a;generalize b':Eb ou cB row (bt acc k)=ok at*
    generalize V:bt ou q=y at*
    have hclk:∀(_:ok=true->y=true) (_:ag=false),uA next acc cB ou (k+1):=fun h1 h2=>
     Ii (hcl h2).2 (by rw[c',b',H,V];exact h1)
    have u':=zh M;have p:=zh (zi hag (zi hcl (zi f (zi a hclk))));clear M E hag hcl f a hclk b' V
    cases ok with
    |false=>
     go_wp2;obtain⟨hag,hcl,f,a,hclk⟩:=p.o
     exact qb2
    |true=>
     cases y with
     |true=>
      go_wp2;obtain⟨hag,hcl,f,a,hclk⟩:=p.o
      exact qb2
     |false=>
      go_wp2;obtain⟨hag,hcl,f,a,hclk⟩:=p.o;refine hY.o _ _ _ zo rfl ⟨ou.set q true,true,k+1,zo,rfl,by simp[hlu],rfl,u'.o,a zS,fun _=>?_,zS⟩;have:=f zS
      cases ag with
      |true=>have:=hag rfl;omega
      |false=>have:=(hcl rfl).1;subst this;omega
  .obtain rfl:k=next.length:=zo;have I:(if ag=true then ou.count false+1 else 0)<out.count false+1:=by
    split
    .exact Nat.add_lt_add_right (hag (by assumption)) 1
    .omega
   go_wp2;exact hX.o _ _ _ (by simpa using I) rfl ⟨ou,ag,hlu,rfl,rfl,hO,hs2,fun h=>(hcl h).2⟩
def txt(l:List Int):List UInt8:=l.flatMap fun x=>44::Lib.itoa x
def iE(l:List Int):List UInt8:=(txt l).tail
def BR(l:List UInt8):Nat:=l.foldl (fun a c=>a*10+(c.toNat-48)) 0
theorem ru(u:Nat):BR (Lib.decDigits u)=u/\∀c∈Lib.decDigits u,c≠44:=by
 induction u using Nat.strongRecOn with
 |_ u ih=>
  by_cases h:u<10
  .rw[Lib.decDigits,dif_pos h];have:(UInt8.ofNat (48+u)).toNat=48+u:=by simp;omega
   refine⟨by simp only[BR,List.foldl];omega,fun c a e=>?_⟩;simp only[zZ]at a;subst a;rw[e]at this;have f:(44:UInt8).toNat=44:=rfl;omega
  .rw[Lib.decDigits,dif_neg h];have d:=ih (u/10) zo;have:(UInt8.ofNat (48+u%10)).toNat=48+u%10:=by simp;omega
   refine⟨?_,fun c a e=>?_⟩
   .unfold BR at d⊢;rw[List.foldl_append,d.1];simp only[List.foldl];omega
   .rcases yP.1 a with b|b
    .exact d.2 c b e
    .simp only[zZ]at b;subst b;rw[e]at this;have f:(44:UInt8).toNat=44:=rfl;omega
theorem LF{x:Int}(h:0<=x):BR (Lib.itoa x)=x.toNat/\∀c∈Lib.itoa x,c≠44:=by
 unfold Lib.itoa;rw[zJ zo];exact ru x.toNat
theorem Vn:∀(a b r f:List UInt8),(∀c∈a,c≠44)->(∀c∈b,c≠44)->(r=[]\/∃t,r=44::t)->(f=[]\/∃t,f=44::t)->a++r=b++f->a=b/\r=f:=by
 intro a
 induction a with
 |nil=>
  intro b r f _ i h g e
  cases b with
  |nil=>exact⟨rfl,by simpa using e⟩
  |cons c b=>
   exfalso;rcases h with rfl|⟨t,rfl⟩
   .simp at e
   .simp at e;exact i c zS e.1.symm
 |cons c a ih=>
  intro b r f j i h g e
  cases b with
  |nil=>
   exfalso;rcases g with rfl|⟨t,rfl⟩
   .simp at e
   .simp at e;exact j c zS e.1
  |cons d b=>
   simp only[xK,List.cons.injEq]at e;obtain⟨l,k⟩:=ih b r f (fun x hx=>j x qd4) (fun x hx=>i x qd4) h g e.2;exact⟨by rw[e.1,l],k⟩
theorem Ct(l:List Int):txt l=[]\/∃t,txt l=44::t:=by
 cases l with
 |nil=>exact .inl rfl
 |cons x l=>exact .inr ⟨Lib.itoa x++txt l,by simp[txt]⟩
theorem bzG:∀(l l':List Int),(∀x∈l,0<=x)->(∀x∈l',0<=x)->txt l=txt l'->l=l':=by
 intro l
 induction l with
 |nil=>
  intro l' _ _ e
  cases l' with
  |nil=>rfl
  |cons x l'=>simp[txt]at e
 |cons x l ih=>
  intro l' f d e
  cases l' with
  |nil=>simp[txt]at e
  |cons y l'=>
   have e:44::(Lib.itoa x++txt l)=44::(Lib.itoa y++txt l'):=by simpa [txt]using e
   simp only[List.cons.injEq,true_and]at e;have h:=LF (f x zS);have g:=LF (d y zS);obtain⟨j,i⟩:=Vn _ _ _ _ h.2 g.2 (Ct l) (Ct l') e;have c:x=y:=by
    have a:=f x zS;have b:=d y zS;have:=h.1.symm.trans ((congrArg BR j).trans g.1);omega
   rw[c,ih l' (fun z hz=>f z qeq) (fun z hz=>d z qeq) i]
theorem Si{l l':List Int}(d:l≠[])(c:l'≠[])(g:∀x∈l,0<=x)(f:∀x∈l',0<=x)(e:iE l=iE l'):l=l':=by
 apply bzG l l' g f
 cases l with
 |nil=>exact absurd rfl d
 |cons x l=>
  cases l' with
  |nil=>exact absurd rfl c
  |cons y l'=>
   have a:txt (x::l)=44::iE (x::l):=by simp[iE,txt]
   have b:txt (y::l')=44::iE (y::l'):=by simp[iE,txt]
   rw[a,b,e]
theorem Pp(x y:Int)(l:List Int):iE (x::(l++[y]))=iE (x::l)++44::Lib.itoa y:=by simp[iE,txt]
theorem Sg(x:Int):iE [x]=Lib.itoa x:=by simp[iE,txt]
theorem Pj(l:List UInt8):Lib.strCells ⟨l.toArray⟩=Lib.byteCells l:=by simp[Lib.strCells,Lib.byteCells]
theorem Bg(a b:List UInt8):Lib.byteCells (a++b)=Lib.byteCells a++Lib.byteCells b:=by simp[Lib.byteCells]
theorem TQ(w:zW)(k:Nat)(a:Array Obj):zB w (Sort.grow (w.drewN k) a):=by
 refine(below_drewN (zR _ w) k).trans ⟨rfl,rfl,rfl,?_,fun j b=>?_⟩
 .simp[Sort.grow]
 .show(w.heap++a)[j]?=w.heap[j]?;exact Array.getElem?_append_left b
theorem GL(l:List Int)(h:∀x∈l,0<=x/\x<=9223372036854775807):(iE l).length<=22*l.length:=by
 have:(txt l).length<=22*l.length:=by
  induction l with
  |nil=>simp[txt]
  |cons x l ih=>
   have b:=Lib.itoa_length_le x (by have:=h x zS;omega) (h x zS).2;have a:=ih fun y hy=>h y qef;simp only[txt,xO,zL,yO]at a⊢;omega
 unfold iE;rw[List.length_tail];omega
theorem Zx{B:Nat}{w w':zW}{e:TypeId}{v:zV}{n:Nat}{xs:List Value}(h:w.ownsRow B e 1 v n xs)(j:zB w w'):w'.ownsRow B e 1 v n xs:=by
 obtain⟨k,a⟩:=h;refine⟨k,?_⟩;rcases a with a|⟨g,c,b,f,i,d,r⟩
 .exact .inl a
 .exact .inr ⟨g,c,b,f,i,by rw[j.block g (yC.1 d).1];exact d,r⟩
theorem Dk{T e:TypeId}{B b:Nat}{p:zV}{d:List Value}{w w':zW}(h:Lib.BuilderAt T e B b p d w)(a:zB w w'):Lib.BuilderAt T e B b p d w':=by
 obtain⟨i,v,c,g,f⟩:=h;exact⟨i,v,by rw[a.block b (yC.1 c).1];exact c,Zx g a,f⟩
theorem Rx(n:Int)(h : -9223372036854775808<=n/\n<=9223372036854775807)(m:Mem)(w:zW)(c:m.az w)(a:eD m):
 zX 251 #[.int .i64 n] w (.string ⟨(Lib.itoa n).toArray⟩):=by
 refine(Tryz.strconv_Itoa n h.1 h.2 w (a.get w c)).mono ?_;rintro e w' ⟨rfl,k,b,rfl⟩;exact⟨rfl,TQ w k b⟩
theorem JX(g s:Nat)(vc vn va vk:zV)(next:List (List Int))(cB:List Int)(m:Mem)(w:zW)(hm:m.az w)(C:eD m)(Q:bg w g 228 #[vc,vn,va,vk])
(hn:rY m vn next)(hk:iT m vk cB)(hs:s<next.length)(A:s<cB.length)(P:∀x∈cB,0<=x)(O:∀x∈next[s],0<=x/\x<cB.length)(q':next[s].length<=1000):
 zX 188 #[.pointer (some ⟨g,0,none⟩),.int .i64 s] w (.string ⟨(iE (cB.getD s 0::next[s].map fun x=>cB.getD x.toNat 0)).toArray⟩):=by
 have U:cB.getD s 0=cB[s]:=by simp[A]
 rw[U];clear U;obtain⟨na,nc,rfl,n1,n2,n3⟩:=hn;obtain⟨ka,kc,rfl,k1,k2,k3⟩:=hk;obtain⟨nb,no,rfl,n4⟩:=n3 qei;obtain⟨kb,ko,rfl,k4⟩:=k3 (by intro h;simp[h]at A);obtain⟨u,c1,ra,rc,rfl,r1,r2,r3⟩:=n4 s hs;have Z:=k4 s A;have h':=P cB[s] (zF A);unfold maxLen at n2 k2 r2;have J:=Q.lt;have V:∀i (h:i<next[s].length),∃v:Nat,next[s][i]=v/\v<cB.length:=fun i h=>by
  have:=O next[s][i] (zF h);exact⟨next[s][i].toNat,zo,zo⟩
 generalize next[s]=row at*
 generalize K':cB[s]=D at*
 have b:∀x∈D::row.map (fun x=>cB.getD x.toNat 0),0<=x/\x<=9223372036854775807:=by
  intro x F;rcases yA.1 F with rfl|F
  .exact⟨h',Z.2.2⟩
  .obtain⟨y,hy,rfl⟩:=yD.1 F;have:=O y hy;have hl:y.toNat<cB.length:=zo;simp only[yU,hl,yH,xA];exact⟨P _ (zF hl),(k4 _ hl).2.2⟩
 refine au fun R hR=>?_;have S:Lib.BuilderAt 291 5 w.heap.size w.heap.size (.pointer none) (Lib.byteCells []) (w.alloc (.cells #[.pointer none,.slice none 0 0] 291)):=by
  refine⟨zI _,.n,(bg.new _ _ _).get,?_,by simp[Value.ownBlock]⟩;exact World.ownsRow_nil _ _ _ _
 have d:=(zR _ w).alloc (zI _) (.cells #[.pointer none,.slice none 0 0] 291);have h0:=Q.al (.cells #[.pointer none,.slice none 0 0] 291);have p3:=h0.cell (i:=3) rfl;have p1:=h0.cell (i:=1) rfl;have G:=dzE hm d;have p4:=azk G Z.1;have Hb:=zh (zi S (zi d G));clear S d h0 G
 go_enter func188,ntmps188
 go_wp2_with fail
 refine(Rx _ Z.2 m _ Hb.o.2.2 C).mono ?_;rintro e w2 ⟨rfl,k⟩;have t:Lib.IsBuilder 291 5 w.heap.size w.heap.size (Lib.byteCells []) w2:=.inl (Dk Hb.o.1 k);have f:=Hb.o.2.1.trans (k.mono zS);have I:=Lib.itoa_length_le D zo Z.2.2
 go_wp2_with fail
 refine(vP w.heap.size w.heap.size _ _ _ t qeJ f.size).mono ?_;rintro e w4 ⟨rfl,p,r⟩;have c:=f.trans r;rw[Pj,<-Bg,xN,<-Sg]at p;have K:=(Q.aF c J).cell (i:=3) rfl;have j':=(Q.aF c J).cell (i:=1) rfl;have i':=azk (dzE hm c) c1;have Hk:=zh (zi p (zi c b));clear Hb k t f I p r c p3 p1 p4 b;go_wp2;refine aB [0,1,5,23,24,25] (fun n vs wr=>∃j:Nat,j<=row.length/\n=row.length-j /\
  vs=[.p g,.j s,.p w.heap.size,.slice ra row.length rc,.j row.length,.j j] /\
  Lib.BuilderAt 291 5 w.heap.size w.heap.size (.p w.heap.size) (Lib.byteCells (iE (D::(row.take j).map fun x=>cB.getD x.toNat 0))) wr/\zB w wr) ?_ ?_
 .exact⟨_,0,zG _,rfl,rfl,by simpa using Hk.o.1,Hk.o.2.1⟩
 clear K j' i';rintro X z n vs wr hX-⟨j,hj,rfl,rfl,T,a⟩;simp[bz,lk];have b:=Hk.o.2.2;by_cases hlt:j<row.length
 .obtain⟨rb,ro,rfl,r4⟩:=r3 qdJ;have B:=dzE hm a;have d1:=azk B (r4 j hlt).1;obtain⟨v,E,L⟩:=V j hlt;have Y:=k4 v L;have l':=azk B Y.1;have K:=(Q.aF a J).cell (i:=3) rfl;have M:=zH hlt;have N:iE (D::(row.take (j+1)).map fun x=>cB.getD x.toNat 0)=iE (D::(row.take j).map fun x=>cB.getD x.toNat 0)++44::Lib.itoa cB[v]:=by
   rw[M,yI,E];have:cB.getD ((v:Int).toNat) 0=cB[v]:=by simp[L]
   rw[yL,this,xB,Pp]
  have H:(iE (D::(row.take j).map fun x=>cB.getD x.toNat 0)).length<=22*1001:=by
   refine yJ (GL _ fun x F=>b x ?_) ?_
   .rcases yA.1 F with rfl|F
    .simp
    .obtain⟨y,hy,rfl⟩:=yD.1 F;exact zU _ (yD.2 ⟨y,xX hy,rfl⟩)
   .simp;omega
  rw[E]at d1;have I:=Lib.itoa_length_le cB[v] Y.2.1 Y.2.2;have HS:=zh N;clear N M E;generalize iE (D::(row.take j).map fun x=>cB.getD x.toNat 0)=tx at*
  have q:=zh (zi T (zi a B));clear T B;generalize cB[v]=y at*
  go_wp2_with fail
  refine(Rx _ Y.2 m _ q.o.2.2 C).mono ?_;rintro e w2 ⟨rfl,k⟩;have t:Lib.IsBuilder 291 5 w.heap.size w.heap.size (Lib.byteCells tx) w2:=.inr (Dk q.o.1 k);have f:=a.trans (k.mono a.size)
  go_wp2_with fail
  refine(vP w.heap.size w.heap.size _ _ _ t qeJ f.size).mono ?_;rintro e w4 ⟨rfl,p,r⟩;have e4:∀l:List UInt8,Lib.strCells ((⟨#[44]⟩:ByteArray)++(⟨l.toArray⟩:ByteArray))=Lib.byteCells (44::l):=fun l=>by
   simp[Lib.strCells,Lib.byteCells]
  rw[e4,<-Bg,<-HS.o]at p;have c:=f.trans r;have W:=zh (zi p c);clear p r c f k t H I e4 K d1 l';go_wp2;exact hX.o _ _ _ zo rfl ⟨j+1,zo,rfl,rfl,W.o.1,W.o.2⟩
 .obtain rfl:j=row.length:=zo;rw[yG]at T;have q:=zh (zi T a);clear T a b
  go_wp2_with fail
  refine(Tryz.Builder_String_any w.heap.size w.heap.size _ _ (.inr q.o.1) q.o.2.size).mono ?_;rintro e w5 ⟨rfl,hb⟩;go_wp2;exact hR.o _ _ ⟨rfl,q.o.2.trans hb⟩
def FH(next:List (List Int))(s i:Nat):Int:=(nx next s).getD i 0
theorem dz7{next:List (List Int)}{cB:List Int}{K s:Nat}(a:s<next.length)(c:next[s].length=K)(b:∀x∈next[s],0<=x)(_:s<cB.length):
 sig cB (FH next) K s=cB.getD s 0::next[s].map fun x=>cB.getD x.toNat 0:=by
 unfold sig FH nx;have f:next.getD s []=next[s]:=by simp[a]
 rw[f]
 congr 1
 apply vF
 .simp[c]
 .intro i g d;have hi:i<next[s].length:=by simpa using d
  have h:=b _ (zF hi);simp only[xQ,List.getElem_range];have e:next[s].getD i 0=next[s][i]:=by simp[hi]
  rw[e];unfold Mg;rw[zJ zo]
def OJ(f:Lit->Option Int)(a:List (List Int)):Prop:=
 ∀l,l≠[]->(∀x∈l,0<=x)->f (.string (iE l))=if a.findIdx (·==l)<a.length then some ((a.findIdx (·==l):Nat):Int)else none
theorem Tp:OJ (fun _=>none) []:=fun l _ _=>by simp
theorem Tn{f:Lit->Option Int}{a:List (List Int)}(h:OJ f a){x:List Int}(m:x≠[])(i:∀y∈x,0<=y)(n:¬a.findIdx (·==x)<a.length):
 OJ (J6 f (.string (iE x)) a.length) (a++[x]):=by
 intro l k b;by_cases c:l=x
 .subst c;rw[Ao,List.findIdx_append,zJ n];simp[List.findIdx_cons]
 .have j:Lit.string (iE l)≠Lit.string (iE x):=fun e=>c (Si k m b i (by simpa using e));rw[uX f _ j,h l k b,List.findIdx_append];by_cases d:a.findIdx (·==l)<a.length
  .rw[zK d,zK d,zK qdQ]
  .have g:¬(x==l)=true:=by simpa using fun e=>c (Eq.symm e)
   rw[zJ d,zJ d,zJ];simp[List.findIdx_cons,g];omega
theorem Ta(f:Nat->List Int)(k:Nat):gX f (k+1)=(if(gX f k).1.findIdx (·==f k)<(gX f k).1.length then(gX f k).1 else(gX f k).1++[f k],(gX f k).2++[((gX f k).1.findIdx (·==f k):Int)]):=rfl
def kR(nx:List Int)(r:Nat):List Value:=(nx++List.replicate r 0).map (Value.int .i64)
theorem rZ{nx:List Int}{r k:Nat}(h:nx.length=k)(a:0<r):(kR nx r)[k]?=some (.j 0):=by
 unfold kR;rw[List.getElem?_map,yN zo];simp[h,a]
theorem xy{nx:List Int}{r k:Nat}(h:nx.length=k)(a:0<r)(x:Int):(kR nx r).set k (.j x)=kR (nx++[x]) (r-1):=by
 unfold kR;obtain⟨q,rfl⟩:∃q,r=q+1:=⟨r-1,zo⟩;rw[yI,List.set_append_right _ _ qdQ,yI,yI];simp[h,List.replicate_succ]
theorem Fj(nx:List Int):kR nx 0=nx.map (Value.int .i64):=by simp[kR]
theorem Da(n:Nat):List.replicate n (Value.int .i64 0)=kR [] n:=by simp[kR]
def YN(b:Bool):Int:=if b=true then 1 else 0
theorem QG{acc:List Bool}{k N:Nat}(h:k<acc.length)(a:acc.length=N):
 kR ((acc.take (k+1)).map YN) (N-(k+1))=(kR ((acc.take k).map YN) (N-k)).set k (.j (YN acc[k])):=by
 rw[xy qdQ zo,zH h,yI]
 rfl
structure Gc (T:aK) (cuts:List Int) (next:List (List Int)) (acc:List Bool) (lo hi:Nat->Nat):Prop where
 ta:V7 T next.length lo hi cuts.length (FH next)
 czZ:∀s,s<next.length->acc.getD s false=bL T s
 AC:acc.length=next.length
 rows:∀r∈next,r.length=cuts.length/\∀x∈r,0<=x/\x<next.length
 pos:1<=next.length
 fzx:cuts.length<=256
 ezt:next.length<=1000001
theorem Kr(w:zW):(zeroValue 3).run prog w=.ok (.j 0) w:=by kernel_rfl
theorem Cz:prog.underlying 230=some (.map 9 3):=underlying230
theorem TF(l:List UInt8)(h:l.length<=maxLen):keyOf prog 9 (.string ⟨l.toArray⟩)=some (.string l):=by
 simpa using WideMaps.keyOf_string_mk (P:=prog) underlying9 (s:=⟨l.toArray⟩) (by simpa [ByteArray.size]using h)
theorem U9{n:Nat}(h:n<=2000000):(Lit.int .i64 (n:Int)).wf=true:=by
 have b:IntKind.i64.min = -9223372036854775808:=by decide
 have a:IntKind.i64.max=9223372036854775807:=by decide
 simp only[Lit.wf,b,a,xG,decide_eq_true_eq];omega
theorem Sy(g:Nat)(vc vn va:zV)(T:aK)(p:List Int)(next:List (List Int))(acc:List Bool)(lo hi:Nat->Nat)(H:Gc T p next acc lo hi)(m mk:Mem)(w0 w:zW)(L:List Cl.bA)(N':eD mk)
(hO:Own w0 m w mk (.obj g 228 #[vc,vn,va,.slice none 0 0]::L))(hn:rY mk vn next)(ha:jK mk va acc):
 zC 154 #[.pointer (some ⟨g,0,none⟩)] w fun e w'=>∃mk' vk cB,e=.returned (.tuple #[])/\Own w0 m w' mk' (.obj g 228 #[vc,vn,va,vk]::L)/\mk.le mk'/\iT mk' vk cB/\JN T next.length cB:=by
 obtain⟨na,nc,rfl,n1,n2,n3⟩:=hn;obtain⟨aa,ac,rfl,a1,a2,a3⟩:=ha;unfold maxLen at n2 a2;have hpos:=H.pos;have G':=H.ezt;have halen:=H.AC.symm ▸ G';have hclen:=H.fzx;refine au fun R hR=>?_;have q1:=hO.obj.c 1;have q2:=hO.obj.c 2;have ql:=hO.obj.lt
 go_enter func154,ntmps154
 go_step3
 go_wp2_with (refine wpList_make_row ND rfl (.tmp 17) (.tmp 17) rfl next.length rfl rfl zo qdM ?_)
 intro w1 D v;have E:=(hO.make D v).av;have f3:=E.obj.frozen 3;have c3:=E.obj.c 3;have c2:=E.obj.c 2;have cl:=E.obj.lt;have I:Own w0 m (w1.setCell ⟨g,3,none⟩ (.slice (some ⟨w.heap.size,0,none⟩) next.length next.length)) mk
  (.obj g 228 #[vc,.slice na next.length nc,.slice aa acc.length ac,.slice (some ⟨w.heap.size,0,none⟩) next.length next.length]::.row (.slice (some ⟨w.heap.size,0,none⟩) next.length next.length) 3 1 next.length (List.replicate next.length (Value.int .i64 0))::L):=
  E.set 3 (.slice (some ⟨w.heap.size,0,none⟩) next.length next.length)
 rw[Da]at I;clear D v E q1 q2 ql;have l':=zh I;clear I;generalize w.heap.size=B at*
 go_wp2;refine aB [0,24,25,26] (fun n vs wr=>∃k:Nat,k<=acc.length/\n=acc.length-k/\vs=[.pointer (some ⟨g,0,none⟩),.slice aa acc.length ac,.int .i64 acc.length,.int .i64 k] /\
  Own w0 m wr mk (.obj g 228 #[vc,.slice na next.length nc,.slice aa acc.length ac,.slice (some ⟨B,0,none⟩) next.length next.length]::.row (.slice (some ⟨B,0,none⟩) next.length next.length) 3 1 next.length (kR ((acc.take k).map YN) (next.length-k))::L)) ?_ ?_
 .exact⟨_,0,zG _,rfl,rfl,by simpa using l'.o⟩
 clear l' f3 c3 c2 cl;rintro X z n vs wr hX-⟨k,hk,rfl,rfl,a⟩;simp[bz,lk];by_cases hlt:k<acc.length
 .obtain⟨ab,ao,rfl,a4⟩:=a3 qdJ;have d1:=azk a.az (a4 k hlt);have c3:=a.obj.c 3;have cl:=a.obj.lt;have Hlen:=zh H.AC;have s':=zh (QG hlt H.AC);have r1:=bO (j:=k) (u:=.int .i64 0) a.av.row (rZ qdQ qhJ);have r2:=fD a.av.row k;have r3:k<next.length:=by have:=H.AC;omega
  have d:=(a.av.setRow k (.int .i64 1)).av;have HO:=zh (zi a d);clear a d
  cases hb:acc[k]with
  |true=>
   rw[hb]at d1 s';go_wp2;refine hX.o _ _ _ zo rfl ⟨k+1,zo,rfl,rfl,?_⟩;rw[s'.o]
   exact HO.o.2
  |false=>
   rw[hb]at d1 s';go_wp2;refine hX.o _ _ _ zo rfl ⟨k+1,zo,rfl,rfl,?_⟩;rw[s'.o,show Value.j (YN false)=.int .i64 0 from rfl];have:∀{xs:List Value},xs[k]?=some (.int .i64 0)->xs.set k (.int .i64 0)=xs:=fun {xs} h=>by
    obtain⟨h1,h2⟩:=yB.1 h;rw[<-h2,List.set_getElem_self]
   rw[this (rZ qdQ qhJ)];exact HO.o.1
 .obtain rfl:k=acc.length:=zo;have U':kR (acc.map YN) (next.length-acc.length)=(acc.map YN).map (Value.int .i64):=by rw[H.AC,Nat.sub_self,Fj]
  rw[yG,U']at a;clear U';have a':JF T next.length (acc.map YN) 0:=Xd H.pos (by simp[H.AC]) fun s hs=>by
   rw[<-H.czZ s hs];have:s<acc.length:=by have:=H.AC;omega
   simp[this,YN]
  have hS:=a.av;have p':=jE (l:=acc.map YN) (m:=mk) (by simpa [H.AC]using hS.row) (fun x hx=>by
   obtain⟨b,-,rfl⟩:=yD.1 hx;unfold YN;split<;>omega)
  have d:=hS.bP;have Q:=czS (w:=wr) hS.free;generalize mk.iA wr (.slice (some ⟨B,0,none⟩) next.length next.length)=N at*
  generalize Value.slice (some ⟨B,0,none⟩) next.length next.length=vk at*
  generalize acc.map YN=V' at*
  have A:=zh (zi a' (zi p' (zi d Q)));clear a' p' d Q a hS;go_wp2
  go_step3
  go_wp2;refine aB [0,4,5] (fun n vs wr=>∃(q:Nat) (cB:List Int) (vk:zV) (mk':Mem),n=next.length-q/\q<=next.length /\
   vs=[.pointer (some ⟨g,0,none⟩),.int .i64 q,.func (.func 188) #[.pointer (some ⟨g,0,none⟩)] #[]] /\
   JF T next.length cB q/\iT mk' vk cB/\Own w0 m wr mk' (.obj g 228 #[vc,.slice na next.length nc,.slice aa acc.length ac,vk]::L)/\mk.le mk') ?_ ?_
  .exact⟨_,0,V',vk,N,rfl,zG _,rfl,A.o.1,A.o.2.1,A.o.2.2.1,A.o.2.2.2⟩
  clear A a3;rintro Y z n vs wr hY-⟨q,cB,vk,N,rfl,hmany,rfl,F,p',hO,Q⟩;simp[bz,lk];have Hmm:=@run_makeMap prog;have E:=hO.BZ (.map #[] 0);have p1:=E.av.obj.c 1;have pl:=E.av.obj.lt;have W':=zh E;clear E
  go_wp2_with (refine wpList_make_row ND rfl (.tmp 46) (.tmp 46) rfl next.length rfl rfl zo qdM ?_)
  intro w1 D v;have I:=(W'.o.make (by simpa using D) v);have O':(wr.alloc (.map #[] 0)).heap.size=wr.heap.size+1:=by simp
  rw[Da,O']at I;have p1:=I.aR.obj.c 1;have pl:=I.aR.obj.lt;have l':=zh I;clear I D v W' O' Hmm;generalize hM:wr.heap.size=M at*
  go_wp2;have d':cB.length=next.length:=F.len;have Hrd:=zh (Xe H.ta H.pos F);have hS:∀s (h:s<next.length),sig cB (FH next) p.length s=cB.getD s 0::next[s].map fun x=>cB.getD x.toNat 0:=fun s h=>
   dz7 h (H.rows _ (zF h)).1 (fun x hx=>((H.rows _ (zF h)).2 x hx).1) zo
  have h':∀x∈cB,0<=x:=fun x hx=>by
   obtain⟨i,hi,rfl⟩:=yT.1 hx;have:=(F.iQ i zo).1;simpa [hi]using this
  have HS:=zh (zi hS (zi d' (zi h' F)));clear hS d' h' F;have A':=Vx (sig cB (FH next) p.length);have HN:=zh A';clear A';refine aB [0,4,5,6,7,52,53] (fun n vs w3=>∃(k:Nat) (ob:Obj) (f:Lit->Option Int),k<=next.length/\n=next.length-k /\
   vs=[.pointer (some ⟨g,0,none⟩),.int .i64 q,.func (.func 188) #[.pointer (some ⟨g,0,none⟩)] #[],.map (some M),.slice (some ⟨M+1,0,none⟩) next.length next.length,.int .i64 next.length,.int .i64 k] /\
   Own w0 m w3 N (.row (.slice (some ⟨M+1,0,none⟩) next.length next.length) 3 1 next.length (kR (gX (sig cB (FH next) p.length) k).2 (next.length-k))::.gN M ob ::
    .obj g 228 #[vc,.slice na next.length nc,.slice aa acc.length ac,vk]::L) /\
   uB prog 9 3 ob k (gX (sig cB (FH next) p.length) k).1.length f/\OJ f (gX (sig cB (FH next) p.length) k).1) ?_ ?_
  .exact⟨_,0,_,_,zG _,rfl,rfl,l'.o,uB.made _ _ _,Tp⟩
  clear l' p1 pl;rintro Z z n vs w3 hZ-⟨k,ob,f,hk,rfl,rfl,a,hI,k'⟩;simp[bz,lk];by_cases hlt:k<next.length
  .obtain⟨hS,hcl,h',F⟩:=HS.o;have G:=H.rows _ (zF hlt);have U:=JX g k vc (.slice na next.length nc) (.slice aa acc.length ac) vk next cB N w3 a.az (N'.le Q) a.aR.obj (BJ Q ⟨na,nc,rfl,n1,by unfold maxLen;exact n2,n3⟩) p' hlt zo h' (fun x hx=>by have:=G.2 x hx;omega) zo;rw[<-hS k hlt]at U;have W:sig cB (FH next) p.length k≠[]:=by rw[hS k hlt];simp
   have j':∀y∈sig cB (FH next) p.length k,0<=y:=by
    rw[hS k hlt];intro y hy;rcases yA.1 hy with rfl|hy
    .exact(F.iQ k hlt).1
    .obtain⟨u,hu,rfl⟩:=yD.1 hy;have:=G.2 u hu;have hl:u.toNat<cB.length:=zo;simp only[yU,hl,yH,xA];exact h' _ (zF hl)
   have hcbnd:(iE (sig cB (FH next) p.length k)).length<=22*300:=by
    refine yJ (GL _ fun x hx=>⟨j' x hx,?_⟩) ?_
    .rw[hS k hlt]at hx;have hcb:∀i (h:i<cB.length),cB[i]<=9223372036854775807:=fun i h=>by
      have:=(F.iQ i zo).2;simp only[yU,h,yH,xA]at this;omega
     rcases yA.1 hx with rfl|hx
     .have:=(F.iQ k hlt).2;omega
     .obtain⟨u,hu,rfl⟩:=yD.1 hx;have:=G.2 u hu;have hl:u.toNat<cB.length:=zo;simp only[yU,hl,yH,xA];exact hcb _ _
    .simp[sig];omega
   have S:=k' _ W j';have K:=Tn k' W j';have t:=HN.o k;have g':=Ta (sig cB (FH next) p.length) k;generalize gX (sig cB (FH next) p.length) k=r at*
   generalize sig cB (FH next) p.length k=x at*
   clear hS hcl h' F G;have c':=TF (iE x) qdM;have b':=t.le;have R':r.1.findIdx (·==x)<=r.1.length:=List.findIdx_le_length;have P':=t.len;have hmw:=a.av.gN;have A:=zh (zi K (zi g' (zi P' k')));clear K g' t P' k';generalize iE x=tx at*
   obtain⟨sn,nx⟩:=r;simp only at S b' R' hI a A;by_cases hf:sn.findIdx (·==x)<sn.length
   .rw[zK hf]at S;generalize sn.findIdx (·==x)=idx at*
    have HF:=zh (zi S c');clear S c' W j'
    go_wp2_with (go_at_call 188;refine U.mono ?_;rintro e w4 ⟨rfl,H'⟩)
    have d:=a.aT H';have J:=hI.gZ (Maps.string_keyed underlying9) Cz underlying3 Kr d.av.gN HF.o.2;rw[HF.o.1]at J;simp only[xA,Option.isSome_some]at J;have r1:=bO (j:=k) (u:=.int .i64 0) d.row (rZ A.o.2.2.1 zo);have r2:=fD d.row k;have r3:=(World.ownsRow.lt d.row _ rfl).2;have C:=d.setRow k (.int .i64 idx);rw[xy A.o.2.2.1 zo]at C;have t':=zh C;clear C d;go_wp2;refine hZ.o _ _ _ zo rfl ⟨k+1,ob,f,zo,rfl,rfl,?_,?_,?_⟩
    .rw[A.o.2.1,zK hf];exact t'.o
    .rw[A.o.2.1,zK hf];exact hI.mono zo
    .rw[A.o.2.1,zK hf];exact A.o.2.2.2
   .rw[zJ hf]at S;have y':sn.findIdx (·==x)=sn.length:=zo;have K:=A.o.1 hf;have F':=A.o.2.2.1;have g':=A.o.2.1;rw[zJ hf,y']at g';clear y' A hf R';have HF:=zh (zi S (zi c' (zi K g')));clear S c' W j' K g'
    go_wp2_with (go_at_call 188;refine U.mono ?_;rintro e w4 ⟨rfl,H'⟩)
    have d:=a.aT H';have P:=d.av.gN;have J:=hI.gZ (Maps.string_keyed underlying9) Cz underlying3 Kr P HF.o.2.1;rw[HF.o.1]at J;simp only[Option.getD_none,Option.isSome_none]at J;have hln:=fun ty=>hI.Vp Cz P ty;obtain⟨w5,ob5,hr5,T',q',Q'⟩:=hI.Af (Maps.string_keyed underlying9) Cz underlying3 P qdM HF.o.2.1 (U9 (n:=sn.length) zo);rw[HF.o.1]at q';simp only[Option.isSome_none]at q';have C:=(d.av.jJ T' Q').av;have r1:=bO (j:=k) (u:=.int .i64 0) C.row (rZ F' zo);have r2:=fD C.row k;have r3:=(World.ownsRow.lt C.row _ rfl).2;have V:=C.setRow k (.int .i64 sn.length);rw[xy F' zo]at V;have t':=zh (zi V q');clear V C d q' F' T' Q' P hmw;go_wp2;refine hZ.o _ _ _ zo rfl ⟨k+1,ob5,J6 f (.string tx) sn.length,zo,rfl,rfl,?_,?_,?_⟩
    .rw[HF.o.2.2.2];exact t'.o.1
    .rw[HF.o.2.2.2];simpa using t'.o.2
    .rw[HF.o.2.2.2];exact HF.o.2.2.1
  .obtain rfl:k=next.length:=zo;rw[Nat.sub_self,Fj]at a;have t:=HN.o next.length;have E':=Hrd.o;generalize gX (sig cB (FH next) p.length) next.length=r at*
   obtain⟨sn,nx⟩:=r;simp only at a hI E' t;have x':=jE (l:=nx) (m:=N) (by rw[t.len];exact a.row) (fun y hy=>by
    obtain⟨i,hi,rfl⟩:=yT.1 hy;have:=t.iQ (s:=i) (by rw[<-t.len];exact hi);simp only[yU,hi,yH,xA]at this;have:=t.le;simp only at this;omega)
   have b':=czS (w:=w3) a.free;have d:=a.bP.av;have f3:=d.obj.frozen 3;have c3:=d.obj.c 3;have cl:=d.obj.lt;have V:Own w0 m (w3.setCell ⟨g,3,none⟩ (.slice (some ⟨M+1,0,none⟩) next.length next.length)) (N.iA w3 (.slice (some ⟨M+1,0,none⟩) next.length next.length))
    (.obj g 228 #[vc,.slice na next.length nc,.slice aa acc.length ac,.slice (some ⟨M+1,0,none⟩) next.length next.length]::.gN M ob::L):=d.set 3 (.slice (some ⟨M+1,0,none⟩) next.length next.length)
   have P:=V.av.gN;have hln:=fun ty=>hI.Vp Cz P ty;have C:=V.av.tail;clear V P;generalize N.iA w3 (.slice (some ⟨M+1,0,none⟩) next.length next.length)=L' at*
   have A:=zh (zi x' (zi b' (zi C E')));clear x' b' C d a E' hI k';by_cases O:sn.length=q
   .have S':((sn.length:Int)==(q:Int))=true:=by simp[O]
    have HT:=zh O;clear O;go_wp2
    go_end0
    exact hR.o _ _ ⟨L',_,nx,rfl,A.o.2.2.1,Mem.le_trans Q A.o.2.1,A.o.1,A.o.2.2.2.2.2.2.2 HT.o⟩
   .have S':((sn.length:Int)==(q:Int))=false:=by simp;omega
    have hq1:=A.o.2.2.2.2.1;have hq2:=A.o.2.2.2.2.2.1;go_wp2;exact hY.o _ _ _ zo rfl ⟨sn.length,nx,_,L',rfl,zo,rfl,A.o.2.2.2.1,A.o.1,A.o.2.2.1,Mem.le_trans Q A.o.2.1⟩
theorem M5:fB prog 103 102 3 16:=⟨underlying103,zo,by
 obtain⟨i,d,c,b,a⟩:=info_parts (P:=prog) (e:=102) (z:=.agg #[.int .u8 0,.int .u8 0,.int .i64 0]) (size:=3) (bytes:=16) zk;exact⟨i,_,d,c,b,a,rfl⟩⟩
theorem Gr:fB prog 25 105 2 32:=⟨underlying25,zo,by
 obtain⟨i,d,c,b,a⟩:=info_parts (P:=prog) (e:=105) (z:=.agg #[.bool false,.slice none 0 0]) (size:=2) (bytes:=32) zk;exact⟨i,_,d,c,b,a,rfl⟩⟩
theorem QT{m:Mem}{b off:Nat}{es:List Ed}(h:∀i (h:i<es.length),Ev m b (off+i*3) es[i]):∀j u,(gF es)[j]?=some u->m.cell b (off+j)=some u:=by
 intro j u a;have c:j<es.length*3:=by rw[<-nN];exact(yB.1 a).1
 have hi:j/3<es.length:=zo;obtain⟨g,f,d⟩:=pE es (j/3) hi;obtain⟨n,l,k,-⟩:=h (j/3) hi;have:j%3=0\/j%3=1\/j%3=2:=zo;rcases this with e|e|e
 .rw[show j=j/3*3 by omega,g]at a;cases a;rw[show off+j=off+j/3*3 by omega];exact n
 .rw[show j=j/3*3+1 by omega,f]at a;cases a;rw[show off+j=off+j/3*3+1 by omega];exact l
 .rw[show j=j/3*3+2 by omega,d]at a;cases a;rw[show off+j=off+j/3*3+2 by omega];exact k
theorem QU(es:List Ed):∀u∈gF es,u.oneCell'=true:=by
 intro u a;simp only[gF,xW,yA,List.not_mem_nil,or_false]at a;obtain⟨e,-,rfl|rfl|rfl⟩:=a<;>rfl
theorem YI(v:zV)(es:List Ed)(m:Mem)(w:zW)(D:m.az w)(K:lW m v es)(I:es.length*16<=140737488355328):
 zC 181 #[v] w fun e w'=>∃r,e=.returned r/\zB w w'/\lW (m.grow w w') r es:=by
 obtain⟨a,c,rfl,O,L,H⟩:=K;unfold maxLen at L;refine au fun R hR=>?_
 cases a with
 |none=>
  have M:es=[]:=by
   apply zP;intro q;obtain⟨b,off,h,-⟩:=H q;cases h
  subst M;have y:=fun w=>Lib.run_eql_slice_nil (P:=prog) w 103 102 none 0 c 0 0 underlying103
  go_enter func181,ntmps181
  go_wp2
  exact hR.o _ _ ⟨_,rfl,zR _ _,none,0,rfl,zS,by simp[maxLen],fun h=>absurd rfl h⟩
 |some ad=>
  have y:=fun w=>Lib.run_eql_slice_nil (P:=prog) w 103 102 (some ad) es.length c 0 0 underlying103;have x:(w.alloc (.cells #[] 102)).ownsRow 0 102 3 (.slice (some ⟨w.heap.size,0,none⟩) 0 0) 0 []:=World.ownsRow_made w #[] 0 (zG _) (zG _) zS;have l:∀j u,(gF es)[j]?=some u->(w.alloc (.cells #[] 102)).cell? (ad.add j)=some u:=by
   intro j u J;have q:es≠[]:=by intro h;subst h;simp[gF]at J
   obtain⟨b,off,C,G⟩:=H q;cases C;rw[Addr.add_lit];exact azk (fzJ D _) (QT G j u J)
  have F:∀e∈es,ezE e:=by
   intro e C;obtain⟨b,off,-,G⟩:=H (List.ne_nil_of_mem C);obtain⟨i,hi,rfl⟩:=yX C;exact(G i hi).2.2.2
  go_enter func181,ntmps181
  go_wp2_with (at_builtin;refine aU M5 rfl (.tmp 5) (.tmp 6) rfl (.slice (some ⟨w.heap.size,0,none⟩) 0 0) 0 [] rfl x ad es.length c (gF es) rfl (nN es) l (QU es) qdM zo ?_)
  intro va N w' g d f;have s:=fzJ D (.cells #[] 102);have E:m.free (.slice (some ⟨w.heap.size,0,none⟩) 0 0):=fun k hk=>by simp[Value.ownBlock]at hk;exact eza D zo
  have t:∀k,Value.ownBlock (.slice (some ⟨w.heap.size,0,none⟩) 0 0)=some k->w.heap.size<=k:=fun k hk=>by simp[Value.ownBlock]at hk;omega
  have B:=below_grown qhZ d t;have A:=XN s E f zS;have p:=czw t f zo;have z:=ezU s d (fun k hk=>E k hk);have n:=rq (czf (ezZ m w) z A p) (q9 (m:=m) g F);have Hfin:=zh (zi B n);clear s E t B A p z n g d f;go_wp2;exact qa5
def dlN(next:List (List Int))(cB:List Int)(lv:List Bool)(s i:Nat):Option Nat:=if bt lv (cl cB (FH next s i).toNat)=true then some (FH next s i).toNat else none
def EI(f:Lit->Option Int)(cf:Nat->Int)(o:List Nat):Prop:=∀c:Int,f (.int .i64 c)=if DZ cf o c<o.length then some ((DZ cf o c:Nat):Int)else none
theorem G7{f:Lit->Option Int}{cf:Nat->Int}{o:List Nat}(h:EI f cf o)(t:Nat)(a:¬DZ cf o (cf t)<o.length):EI (J6 f (.int .i64 (cf t)) o.length) cf (o++[t]):=by
 intro c;rw[Zz];by_cases e:c=cf t
 .subst e;rw[Ao,zJ a,zK rfl];simp
 .rw[uX f _ (by simpa using e),h c];by_cases d:DZ cf o c<o.length
  .rw[zK d,zK d,zK qdQ]
  .have b:¬cf t=c:=fun x=>e x.symm;rw[zJ d,zJ d,zJ b,zJ zS]
theorem SI(cf:Nat->Int)(s:Nat):EI (J6 (fun _=>none) (.int .i64 (cf s)) 0) cf [s]:=by
 have:=G7 (f:=fun _=>none) (cf:=cf) (o:=[]) (fun c=>by simp[DZ]) s (by simp[DZ]);exact qbe
def mF(o:List Nat):List Value:=o.map fun(s:Nat)=>Value.j (s:Int)
theorem Own.SE{w0 w:zW}{m mk:Mem}{l₁ l₂:List Cl.bA}{a:Cl.bA}(h:Own w0 m w mk (l₁++a::l₂)):Own w0 m w mk (a::(l₁++l₂)):=h.perm List.perm_middle.symm
theorem Own.MU{w0 w:zW}{m mk:Mem}{l₁ l₂:List Cl.bA}{a:Cl.bA}(h:Own w0 m w mk (a::(l₁++l₂))):Own w0 m w mk (l₁++a::l₂):=h.perm List.perm_middle
theorem azf(fs:List Ed)(e:Ed)(t:Int)(b:Nat):(∃(a:List Ed) (c:Ed),fs++[e]=a++[c]/\c.to=t/\c.hi+1=b)↔(e.to=t/\e.hi+1=b):=by
 constructor
 .rintro⟨a,c,h,d⟩;have:=congrArg List.getLast? h;simp at this;rw[this];exact d
 .intro h;exact⟨fs,e,rfl,h⟩
theorem Fu(fs:List Ed)(e:Ed)(h:Nat):(gF (fs++[e])).set (fs.length*3+1) (.int .u8 h)=gF (fs++[⟨e.lo,h,e.to⟩]):=by
 rw[nO,nO,List.set_append_right _ _ (by rw[nN];omega),nN];simp
theorem Own.fzB{w0 w:zW}{m mk:Mem}{L:List Cl.bA}{g:Nat}{t:TypeId}{x:zV}(h:Own w0 m w mk (.obj g t #[x]::L)):Own w0 m w mk (.row (.slice (some ⟨g,0,none⟩) 1 1) t 1 1 [x]::L):=by
 have a:=yS.1 h.apart;refine⟨h.m0,h.aF,h.ext,h.az,?_,?_,.cons (fun b c k e d=>a.1 b c k e d) a.2⟩
 .simp only[yA,forall_eq_or_imp];refine⟨⟨rfl,.inr ⟨g,1,#[x],rfl,zG _,h.obj.get,zI _,by simp[maxLen],rfl,rfl⟩⟩,fun it hi=>h.ok it (zU _ hi)⟩
 .exact qg9
structure bzr (cuts:List Int) (lo hi:Nat->Nat):Prop where
 lo:∀i,(h:i<cuts.length)->cuts[i]=lo i
 hi:∀i,i<cuts.length->Ja cuts i=hi i
theorem UQ(cf:Nat->Int)(dl:Nat->Nat->Option Nat)(lo hi:Nat->Nat)(ac:Nat->Bool)(K k:Nat):
 dH cf dl lo hi ac K (k+1)=((dO cf dl lo hi ((dH cf dl lo hi ac K k).1.getD k 0) (dH cf dl lo hi ac K k).1 K).1,(dH cf dl lo hi ac K k).2++[⟨ac ((dH cf dl lo hi ac K k).1.getD k 0),(dO cf dl lo hi ((dH cf dl lo hi ac K k).1.getD k 0) (dH cf dl lo hi ac K k).1 K).2⟩]):=rfl
theorem Ke(g:Nat)(T:aK)(d:List Int)(next:List (List Int))(acc:List Bool)(cB:List Int)(lo hi:Nat->Nat)(H:Gc T d next acc lo hi)(hC:bzr d lo hi)(p':JN T next.length cB)
(hB:∀lv:List Bool,(∀c,bt lv c=true↔vS next acc cB c)->bt lv (cl cB 0)=true->zq T next.length (fun s=>cB.getD s 0) (dlN next cB lv) lo hi (fun s=>acc.getD s false) d.length)
(hD:∀lv:List Bool,(∀c,bt lv c=true↔vS next acc cB c)->bt lv (cl cB 0)=false->∀w,aH T 0 w=false)
(m:Mem)(w:zW)(hm:m.az w)(ht:TabAt m g d next acc cB):
 zC 155 #[.pointer (some ⟨g,0,none⟩)] w fun e w'=>∃r C,e=.returned (.agg #[r])/\zB w w'/\aV (m.grow w w') r C/\bZ C/\(∀x,aH C 0 x=aH T 0 x)/\C.length<=next.length:=by
 have hpos:=H.pos;have hnlen:=H.ezt;have c':=H.fzx;have hlive:=fun w (hw:m.az w)=>Z4 g d next acc cB m w hw ht H.AC p'.len (fun r hr=>(H.rows r hr).2) p'.iQ H.ezt;have HL:=zh hlive;clear hlive;obtain⟨vc,vn,va,vk,e1,e2,e3,e4,⟨ca,cc,rfl,c1,c2,c3⟩,⟨na,nc,rfl,n1,n2,n3⟩,⟨aa,ac,rfl,a1,a2,a3⟩,⟨ka,kc,rfl,k1,k2,k3⟩⟩:=ht.ex;unfold maxLen at c2 n2 a2 k2;have hkl:=p'.len;refine au fun R hR=>?_;have B:=(Own.start hm).al #[.slice none 0 0] 27;have HO:=zh B;clear B
 go_enter func155,ntmps155
 go_wp2_with fail
 refine(HL.o _ HO.o.az).mono ?_;rintro e w1 ⟨r,lv,rfl,hb1,hr1,hlv,hlc⟩;have D:=HO.o.call hb1;have q3:=azk hm e4;obtain⟨kb,ko,rfl,k4⟩:=k3 (by intro h;simp[h]at hkl;omega);obtain⟨la,lc,rfl,l1,l2,l3⟩:=hr1;obtain⟨lb,S',rfl,l4⟩:=l3 (by intro h;simp[h]at hlv;omega);have hk0:=p'.iQ cB[0] (zF zo);obtain⟨kn,hkn⟩:=zT hk0.1;have d1:=k4 0 zo;rw[Nat.add_zero]at d1;have d1w:=azk (bzw (Mem.le_trans (Mem.le_refl m) D.ext.le) D.az) d1.1;have e4w:=azk (bzw D.ext.le D.az) e4;have egl:=bzu (bzw D.ext.le D.az) e4;rw[hkn]at d1w hk0;have d2:=l4 kn zo;have d2w:=azk D.az d2;have hcl0:bt lv (cl cB 0)=lv[kn]:=by
  have:cl cB 0=kn:=by simp[cl,show 0<cB.length by omega,hkn]
  rw[this,Ju]
 have Hd:=zh (zi (hB lv hlc) (hD lv hlc));have Hcl:=zh hcl0;clear hcl0 hB hD hlc;generalize lv[kn]=b0 at*
 have hO1b:=D.obj.frozen 0;have hO1l:=D.obj.lt;have hO1c:=D.obj.c 0
 cases b0 with
 |false=>
  have F:=D.set 0 (.slice none 0 0);have s':=zh F;clear F D HO;go_wp2;refine yV (v:=.agg #[.slice none 0 0]) (by simp[results,results155,go_sem,hO1c]) rfl ?_;refine hR.o _ _ ⟨_,[],rfl,s'.o.aF,⟨none,0,rfl,zI _,by simp[maxLen],fun h=>absurd rfl h⟩,?_,fun x=>?_,zS⟩
  .exact⟨fun s hs=>by simp at hs,fun s hs=>by simp at hs,fun s hs=>by simp at hs,fun k hk=>by simp at hk,fun i j hi=>by simp at hi,fun k b t hb ht=>by
    rw[iq [] k b zS]at ht;omega,fun t h1 h2=>by simp at h2⟩
  .rw[Hd.o.2 Hcl.o x]
   exact jZ [] 0 x zS
 |true=>
  have HB:=zh (Hd.o.1 Hcl.o);clear Hd Hcl;have F:=D.al #[.int .i64 0] 3;have E:=F.fzB;have y:=E.BZ (.map #[] 0);have hsz:(w1.alloc (.cells #[.int .i64 0] 3)).heap.size=w1.heap.size+1:=by simp
  rw[hsz]at y;have Hmm:=@run_makeMap prog;have e4w2:=azk (bzw y.ext.le y.az) e4;have d1w2:=azk (bzw y.ext.le y.az) d1.1;rw[hkn]at d1w2;have hI:=uB.made prog 3 3;obtain⟨w5,ob5,hr5,hb5,N',hg5⟩:=hI.Af (Maps.int_keyed underlying3) underlying233 underlying3 y.gN qdM (Maps.keyOf_int_mk underlying3 (U9 (n:=kn) zo)) (x:=0) zD;have A:=y.jJ hb5 hg5;have z':=zh (zi A N');clear A y E F N' hb5 hg5 hI;have Q:=z'.o.1.al #[.slice none 0 0] 27;have N':=z'.o.2;simp only[Option.isSome_none]at N';clear z' hsz;have M':=(Q.fE 105 2);have HO7:=zh (zi M' N');clear M' Q N';generalize hOo:w5.heap.size=Oo at*
  obtain⟨cf,hcf⟩:∃cf:Nat->Int,cf=fun s=>cB.getD s 0:=⟨_,rfl⟩;obtain⟨dl,hdl⟩:∃dl:Nat->Nat->Option Nat,dl=dlN next cB lv:=⟨_,rfl⟩;obtain⟨G,hah⟩:∃G:Nat->Bool,G=fun s=>acc.getD s false:=⟨_,rfl⟩;rw[<-hcf,<-hdl,<-hah]at HB;have hcf0:cf 0=kn:=by rw[hcf,<-hkn];simp[show 0<cB.length by omega]
  have hI7:=HO7.o.2;rw[<-hcf0]at hI7;have HI:=zh (fun k hk=>F8 (cf:=cf) (ac:=G) HB.o.iv HB.o.pos (fun s i t h1 h2 h3=>(HB.o.some s i t h1 h2 h3).1) k hk);have Hfun:=zh (zi hcf (zi hdl hah));clear hcf hdl hah;go_wp2;refine aB [0,2,3,4,5,6,7] (fun n vs wr=>∃(k:Nat) (vo j':zV) (ob:Obj) (f:Lit->Option Int) (xs:List Value) (mk:Mem),
   (∀j,j<k->j<(dH cf dl lo hi G d.length j).1.length)/\k<=(dH cf dl lo hi G d.length k).1.length/\n=next.length-k /\
   vs=[.pointer (some ⟨g,0,none⟩),.pointer (some ⟨w.heap.size,0,none⟩),.slice (some ⟨lb,S',none⟩) next.length lc,vo,.map (some (w1.heap.size+1)),.pointer (some ⟨Oo,0,none⟩),.int .i64 k] /\
   Own w m wr mk [.row j' 105 2 k xs,.obj Oo 27 #[j'],.gN (w1.heap.size+1) ob,.row vo 3 1 (dH cf dl lo hi G d.length k).1.length (mF (dH cf dl lo hi G d.length k).1),.obj w.heap.size 27 #[.slice none 0 0]] /\
   rD mk xs (dH cf dl lo hi G d.length k).2/\uB prog 3 3 ob (dH cf dl lo hi G d.length k).1.length (dH cf dl lo hi G d.length k).1.length f/\EI f cf (dH cf dl lo hi G d.length k).1 /\
   (m.grow (w.alloc (.cells #[.slice none 0 0] 27)) w1).le mk) ?_ ?_
  .exact⟨_,0,.slice (some ⟨w1.heap.size,0,none⟩) 1 1,.slice none 0 0,ob5,_,[],_,fun j hj=>zo,zG _,rfl,rfl,HO7.o.1,rD.nil _,hI7,SI cf 0,Mem.le_refl _⟩
  clear HO7 hI7 hr5 d2w d1w d1w2 e4w e4w2 q3 hO1b hO1l hO1c;rintro X z n vs wr hX-⟨k,vo,j',ob,f,xs,mk,hk1,hk2,rfl,rfl,B,Y',hI,M,hmk⟩;simp[bz,lk];have f':=HI.o k hk1;obtain⟨J',voc,rfl⟩:=bv B.bV.row;by_cases hlt:k<(dH cf dl lo hi G d.length k).1.length
  .have hsN:=f'.lt _ (zF hlt);have hoN:=u7 f'.Fv f'.lt;have u':=bzw B.ext.le B.az;have hrowi:∃vo',J'=some ⟨vo',0,none⟩:=by
    rcases B.bV.row.2 with⟨h,-⟩|⟨gg,cap,cur,h,-⟩
    .injection h with h1 h2 h3;omega
    .exact qbT
   obtain⟨vob,rfl⟩:=hrowi;have hr1s:(mF (dH cf dl lo hi G d.length k).1)[k]?=some (.int .i64 ((dH cf dl lo hi G d.length k).1[k]:Nat)):=by simp[mF,hlt]
   have r1:=bO (j:=k) B.bV.row hr1s;have hgd:(dH cf dl lo hi G d.length k).1.getD k 0=(dH cf dl lo hi G d.length k).1[k]:=by simp[hlt]
   have HBI:=zh f';clear f';have hl4:=fun c (h:c<lv.length)=>bzv hmk (l4 c h);obtain⟨nb,no,rfl,n4⟩:=n3 (by intro h;simp[h]at hpos);obtain⟨ab,ao,rfl,a4⟩:=a3 (by intro h;have:=H.AC;simp[h]at this;omega);have hE:=UQ cf dl lo hi G d.length k;rw[hgd]at hE;generalize (dH cf dl lo hi G d.length k).1[k]=s at*
   have ha1:=a4 s qhJ;obtain⟨u,m1,ra,rc,rfl,m2,m3,m4⟩:=n4 s hsN;have ha1w:=azk u' ha1;have ha1l:=bzu u' ha1;have m1w:=azk u' m1;have e2w:=azk u' e2;have e3w:=azk u' e3;have e4w:=azk u' e4;have egw:=bzu u' e4;have Hrows:=H.rows _ (zF hsN);have hahs:G s=acc[s]'qhJ:=by
    have h1:=congrFun Hfun.o.2.2 s;have:s<acc.length:=by have:=H.AC;omega
    simpa [this]using h1
   rw[<-hahs]at ha1w;unfold maxLen at m3;have hahN:s<acc.length:=by have:=H.AC;omega
   clear hahs ha1 hgd;generalize hrw:next[s]=row at*
   have Hob:=zh (show ∀j,j<k+1->j<(dH cf dl lo hi G d.length j).1.length from fun j hj=>by
    by_cases c:j<k
    .exact hk1 j c
    .have:j=k:=zo;subst this;exact hlt)
   generalize dH cf dl lo hi G d.length k=r at*
   obtain⟨o,out⟩:=r;simp only at*
   have hvo:=B.bV.row;have hol:=(World.ownsRow.lt hvo _ rfl).2;unfold maxLen at*
   go_wp2;refine aW [0,2,3,4,5,6,7,8] (fun vs w1'=>vs=[.pointer (some ⟨g,0,none⟩),.pointer (some ⟨w.heap.size,0,none⟩),.slice (some ⟨lb,S',none⟩) next.length lc,.slice (some ⟨vob,0,none⟩) o.length voc,.map (some (w1.heap.size+1)),.pointer (some ⟨Oo,0,none⟩),.int .i64 k,.pointer (some ⟨wr.heap.size,0,none⟩)] /\
    w1'=(wr.alloc (.cells #[.bool (G s),.slice none 0 0] 105)).drew) ?_ ?_
   .intro Y hY
    go_region
    exact qcz
   rintro z1 vs w1'-⟨rfl,rfl⟩;simp[bz,lk];have D:=((B.al #[.bool (G s),.slice none 0 0] 105).dr).fE 102 3;have HO1:=zh D;clear D B;have hSz:wr.heap.size<(wr.alloc (.cells #[.bool (G s),.slice none 0 0] 105)).drew.heap.size:=by simp
   generalize hS:wr.heap.size=S at*
   generalize (wr.alloc (.cells #[.bool (G s),.slice none 0 0] 105)).drew=w2 at*
   have m':=bzw HO1.o.ext.le HO1.o.az;have m1w:=azk m' m1;have m1l:=bzu m' m1;have e2w:=azk m' e2;have e2l:=bzu m' e2;have r1:=bO (j:=k) (u:=.int .i64 s) (HO1.o.BX (v:=.slice (some ⟨vob,0,none⟩) o.length voc) (t:=3) (size:=1) (n:=o.length) (xs:=mF o) zS) hr1s;go_wp2
   go_quiet (fail)
   go_wp2;have hRI:∀i,i<=d.length->UY cf dl lo hi d.length next.length s o i (dO cf dl lo hi s o i):=
    Vr HB.o.iv HBI.o.Fv HBI.o.lt (fun i t hi' ht=>(HB.o.some s i t hsN hi' ht).1)
   have HRI:=zh hRI;clear hRI;refine aB [0,2,3,4,5,6,7,8,63,64,65] (fun n vs P'=>∃(i:Nat) (vo ve:zV) (ob:Obj) (f:Lit->Option Int),i<=d.length/\n=d.length-i /\
    vs=[.pointer (some ⟨g,0,none⟩),.pointer (some ⟨w.heap.size,0,none⟩),.slice (some ⟨lb,S',none⟩) next.length lc,vo,.map (some (w1.heap.size+1)),.pointer (some ⟨Oo,0,none⟩),.int .i64 k,.pointer (some ⟨S,0,none⟩),.slice ra d.length rc,.int .i64 d.length,.int .i64 i] /\
    Own w m P' mk [.row ve 102 3 (dO cf dl lo hi s o i).2.length (gF (dO cf dl lo hi s o i).2),.obj S 105 #[.bool (G s),ve],.row j' 105 2 k xs,.obj Oo 27 #[j'],.gN (w1.heap.size+1) ob,
     .row vo 3 1 (dO cf dl lo hi s o i).1.length (mF (dO cf dl lo hi s o i).1),.obj w.heap.size 27 #[.slice none 0 0]] /\
    uB prog 3 3 ob (dO cf dl lo hi s o i).1.length (dO cf dl lo hi s o i).1.length f/\EI f cf (dO cf dl lo hi s o i).1) ?_ ?_
   .exact⟨_,0,.slice (some ⟨vob,0,none⟩) o.length voc,.slice none 0 0,ob,f,zG _,rfl,rfl,HO1.o.FN _,hI,M⟩
   clear HO1 hI M r1 m1w m1l e2w e2l hSz m';rintro Y z2 n vs P' hY-⟨i,vo,ve,ob,f,hi1,rfl,rfl,B,hI,M⟩;simp[bz,lk];have K':=HRI.o i hi1;obtain⟨J',C',rfl⟩:=bv (B.BX (v:=vo) (t:=3) (size:=1) (n:=(dO cf dl lo hi s o i).1.length) (xs:=mF (dO cf dl lo hi s o i).1) zS);obtain⟨O,P,rfl⟩:=bv B.row;have hqN:=u7 K'.Fv K'.lt;have hqe:=Xa cf dl lo hi s o i;by_cases hlt3:i<d.length
   .have G':i<row.length:=zo;obtain⟨rb,ro,rfl,m5⟩:=m4 (by intro h;simp[h]at G');have F':=bzw B.ext.le B.az;have x1:=azk F' (m5 i G').1;have hxr:=Hrows.2 row[i] (zF G');obtain⟨I,hxn⟩:=zT hxr.1;have hta:FH next s i=row[i]:=by
     unfold FH nx;have:next.getD s []=row:=by rw[<-hrw];simp[hsN]
     rw[this];simp[G']
    rw[hxn]at x1 hxr hta;have hxl:I<cB.length:=zo;have y1:=k4 I hxl;have y1w:=azk F' y1.1;have hyr:=p'.iQ cB[I] (zF hxl);obtain⟨cn,hcn⟩:=zT hyr.1;rw[hcn]at y1w hyr;have b':cf I=cn:=by
     have h1:=congrFun Hfun.o.1 I;simpa [hxl,hcn]using h1
    have z1w:=azk B.az (hl4 cn zo);have I':dl s i=if lv[cn]'zo=true then some I else none:=by
     have h1:=congrFun (congrFun Hfun.o.2.1 s) i;rw[h1];unfold dlN;rw[hta];have h2:cl cB ((I:Int).toNat)=cn:=by simp[cl,hxl,hcn]
     rw[h2,Ju zo]
     rfl
    have e4w:=azk F' e4;have egw:=bzu F' e4;generalize hlvb:lv[cn]'zo=b at*
    clear hta hcn hxn hlvb
    cases b with
    |false=>
     have hN:=Su (cf:=cf) (lo:=lo) (hi:=hi) (o:=o) (by simpa using I');have HN:=zh hN;clear hN I' b';go_wp2;refine hY.o _ _ _ zo rfl ⟨i+1,.slice J' (dO cf dl lo hi s o i).1.length C',.slice O (dO cf dl lo hi s o i).2.length P,ob,f,zo,rfl,rfl,?_,?_,?_⟩
     .rw[HN.o];exact B
     .rw[HN.o];exact hI
     .rw[HN.o];exact M
    |true=>
     have hN:=Sr (cf:=cf) (lo:=lo) (hi:=hi) (o:=o) (t:=I) (by simpa using I');have hri2:=HRI.o (i+1) zo;have HN:=zh (zi hN (zi hri2 K'));clear hN I' hri2 K';generalize dO cf dl lo hi s o i=q at*
     obtain⟨o',es⟩:=q;simp only at B hI M hqN hqe;have n':=Maps.keyOf_int_mk underlying3 (U9 (n:=cn) zo);have V':=hI.gZ (Maps.int_keyed underlying3) underlying233 underlying3 Kr (B.Ga (g:=w1.heap.size+1) (o:=ob) zS) n'
     go_upto_if 89 with(fail)
     refine aW [0,2,3,4,5,6,7,8,9,10,11,63,64,65] (fun vs w'=>∃(vo2:zV) (k':Obj) (f2:Lit->Option Int),
      vs=[.pointer (some ⟨g,0,none⟩),.pointer (some ⟨w.heap.size,0,none⟩),.slice (some ⟨lb,S',none⟩) next.length lc,vo2,.map (some (w1.heap.size+1)),.pointer (some ⟨Oo,0,none⟩),.int .i64 k,.pointer (some ⟨S,0,none⟩),.int .i64 i,.int .i64 I,.int .i64 cn,.slice (some ⟨rb,ro,none⟩) d.length rc,.int .i64 d.length,.int .i64 i] /\
      Own w m w' mk [.row (.slice O es.length P) 102 3 es.length (gF es),.obj S 105 #[.bool (G s),.slice O es.length P],.row j' 105 2 k xs,.obj Oo 27 #[j'],.gN (w1.heap.size+1) k',
       .row vo2 3 1 (eu cf o' I).length (mF (eu cf o' I)),.obj w.heap.size 27 #[.slice none 0 0]] /\
      uB prog 3 3 k' (eu cf o' I).length (eu cf o' I).length f2/\EI f2 cf (eu cf o' I)) ?_ ?_
     .intro Z hZ;have v':=M (cn:Int);by_cases hp:DZ cf o' cn<o'.length
      .rw[zK hp]at v';have hoa:eu cf o' I=o':=by
        unfold eu;rw[<-Nl,b',zK hp]
       have Hoa:=zh (zi hoa (zi hI M));rw[v'];simp only[Option.isNone_some,Option.isSome_some,xA];clear hoa hp hI M V' v';go_wp2;refine hZ.o _ _ rfl ⟨.slice J' o'.length C',ob,f,rfl,?_,?_,?_⟩
       .rw[Hoa.o.1];exact B
       .rw[Hoa.o.1];exact Hoa.o.2.1
       .rw[Hoa.o.1];exact Hoa.o.2.2
      .rw[zJ hp]at v';have hoa:eu cf o' I=o'++[I]:=by
        unfold eu;rw[<-Nl,b',zJ hp]
       have hOM2:=G7 M I (by rw[b'];exact hp);rw[b']at hOM2;have D:=B.SE (l₁:=[_,_,_,_]);obtain⟨w4,ob4,hr4,hb4,W,hg4⟩:=hI.Af (Maps.int_keyed underlying3) underlying233 underlying3 D.gN qdM n' (U9 (n:=o'.length) zo);rw[v']at W;simp only[Option.isSome_none]at W;have F:=(D.jJ hb4 hg4).MU (l₁:=[_,_,_,_]);have E:=(F.al #[.int .i64 I] 3);have Hk:=zh (zi hoa (zi hOM2 W));rw[v'];simp only[Option.isNone_none,Option.isSome_none,Option.getD_none];clear hoa hOM2 W M hI V' hp hb4 hg4 D F v'
       go_wp2_with (at_builtin;refine aU Y7 rfl (.tmp 94) (.tmp 96) rfl (.slice J' o'.length C') o'.length (mF o') rfl (E.BX zS) ⟨w4.heap.size,0,none⟩ 1 1 [.int .i64 I] rfl rfl (E.obj.dQ rfl) qdN qdM zo ?_)
       intro va vc' w5 hown5 H' W';have y:=(E.SE (l₁:=[_,_,_,_,_,_])).app hown5 H' W' zS;have A:=y.MU (l₁:=[_,_,_,_,_,_]);have z':=zh A.tail;clear A y E hown5 H' W';go_wp2;refine hZ.o _ _ rfl ⟨.slice va (o'.length+1) vc',ob4,J6 f (.int .i64 cn) o'.length,rfl,?_,?_,?_⟩
       .rw[Hk.o.1];have:=z'.o;simpa [mF]using this
       .rw[Hk.o.1];simpa using Hk.o.2.2
       .rw[Hk.o.1];exact Hk.o.2.1
     rintro z3 vs w4-⟨vo2,k',f2,rfl,y,W,hOM4⟩;simp[bz,lk];clear B hI M V';obtain⟨R',Q',rfl⟩:=bv (y.BX (v:=vo2) (t:=3) (size:=1) (n:=(eu cf o' I).length) (xs:=mF (eu cf o' I)) zS);have hap:=G8 cf o' I;have hfp:=hOM4 (cn:Int);have hpc:DZ cf (eu cf o' I) cn=dX cf o' I:=by rw[<-b',Nl];exact hap.1
     rw[hpc,zK hap.2]at hfp;have L':=fun nq=>W.Ag (w:=w4.drewN nq) (Maps.int_keyed underlying3) underlying233 underlying3 Kr (y.Ga (g:=w1.heap.size+1) (o:=k') zS) n';rw[hfp]at L';simp only[xA]at L';generalize dX cf o' I=p at*
     have hpN:p<=2000000:=by
      have:=HN.o.2.1.pre;have h2:=u7 HN.o.2.1.Fv HN.o.2.1.lt;rw[HN.o.1]at h2;simp only at h2;omega
     have s1:=(y.av.obj).cell (i:=1) rfl;obtain⟨cb,co,rfl,c4⟩:=c3 qey;have x':=c4 i hlt3;rw[hC.lo i hlt3]at x';have hle:=HB.o.iv.le i hlt3;have hmr4:=bzw y.ext.le y.az;have c4w:=azk hmr4 x'.1;have e1w:=azk hmr4 e1;have e1l:=bzu hmr4 e1;have hedok:=Pt (N:=next.length) HN.o.2.2 zo;simp only at hedok;clear e4w egw x1 y1w z1w;go_wp2;refine aW [0,2,3,4,5,6,7,8,9,10,11,14,63,64,65,134] (fun vs w'=>∃(bb:Bool) (nq:Nat),
      vs=[.pointer (some ⟨g,0,none⟩),.pointer (some ⟨w.heap.size,0,none⟩),.slice (some ⟨lb,S',none⟩) next.length lc,.slice R' (eu cf o' I).length Q',.map (some (w1.heap.size+1)),.pointer (some ⟨Oo,0,none⟩),.int .i64 k,.pointer (some ⟨S,0,none⟩),.int .i64 i,.int .i64 I,.int .i64 cn,.int .i64 es.length,.slice (some ⟨rb,ro,none⟩) d.length rc,.int .i64 d.length,.int .i64 i,.bool bb] /\
      w'=w4.drewN nq/\(bb=true↔∃(fs:List Ed) (e:Ed),es=fs++[e]/\e.to=(p:Int)/\e.hi+1=lo i)) ?_ ?_
     .intro Z hZ;rcases List.eq_nil_or_concat es with rfl|⟨fs,e,he⟩
      .refine wp_region_quiet_lit zk zk ?_
       repeat (any_goals (first|go_big_quiet_step (fail)|quiet_step (fail)|(refine wpQuiet_step (fun K hK=>?_);go_simp;split<;>(refine hK _ ?_;clear hK K))))
       all_goals (refine wpQuiet_nil ?_;intro _ hw';obtain⟨nq,T'⟩:=hw';subst T')
       all_goals go_wp2
       all_goals exact hZ.o _ _ rfl ⟨false,nq,rfl,rfl,zS⟩
      .rw[List.concat_eq_append]at he;subst he;have U':∃eb,O=some ⟨eb,0,none⟩:=by
        rcases y.row.2 with⟨h,-⟩|⟨gg,cap,cur,h,-⟩
        .injection h with h1 h2 h3;simp at h2
        .exact qbT
       obtain⟨eb,rfl⟩:=U';have hec:=pE (fs++[e]) fs.length zS;have hel:(fs++[e])[fs.length]'zS=e:=by simp
       rw[hel]at hec;have t1:=bO y.row hec.2.1;have t2:=bO y.row hec.2.2;have hek:=hedok e zS;clear hel hec;have Z':=hqe;simp only[zL,yO,List.length_nil]at Z';have hw1:IntKind.i64.wrap ((((fs++[e]).length:Nat):Int)-1)=(fs.length:Int):=by
        rw[IntWalk.i64_in _ qdQ];simp
       have hw2:IntKind.i64.wrap ((e.hi:Int)+1)=(e.hi:Int)+1:=IntWalk.i64_in _ zo;have hw3:fs.length<(fs++[e]).length:=by simp
       have HL:=zh (azf fs e (p:Int) (lo i));refine wp_region_quiet_lit zk zk ?_
       repeat (any_goals (first|go_big_quiet_step (fail)|quiet_step (fail)|(refine wpQuiet_step (fun K hK=>?_);go_simp;split<;>(refine hK _ ?_;clear hK K))))
       all_goals (refine wpQuiet_nil ?_;intro _ hw';obtain⟨nq,T'⟩:=hw';subst T')
       all_goals go_wp2
       all_goals first
        |(refine hZ.o _ _ rfl ⟨true,nq,zS,rfl,?_⟩;rw[HL.o];simp only[true_iff];omega)
        |(refine hZ.o _ _ rfl ⟨false,nq,zS,rfl,?_⟩;rw[HL.o];simp only[Bool.false_eq_true,false_iff];omega)
        |(refine hZ.o _ _ rfl ⟨(e.hi:Int)+1==(lo i:Int),nq,zS,rfl,?_⟩;rw[HL.o];simp only[beq_iff_eq];omega)
     rintro z5 vs w5-⟨bb,nq,rfl,rfl,hbb⟩;simp[bz,lk];have A:=(y.FN nq).dr;have hEnd:=fun w' (hw:m.az w')=>czE g d next acc cB i m w' hw ht hlt3 (fun h=>by
      have h1:=HB.o.iv.sep i (i+1) zo h;have h2:=HB.o.iv.le (i+1) h;have h3:=hC.lo (i+1) h;omega)
     rw[hC.hi i hlt3]at hEnd;have HEnd:=zh hEnd;clear hEnd c4w e1w e1l s1 L';have hle2:=HB.o.iv.le i hlt3
     cases bb with
     |true=>
      obtain⟨fs,e,hes,he1,he2⟩:=hbb.1 rfl;subst hes;have U':∃eb,O=some ⟨eb,0,none⟩:=by
       rcases A.row.2 with⟨h,-⟩|⟨gg,cap,cur,h,-⟩
       .injection h with h1 h2 h3;simp at h2
       .exact qbT
      obtain⟨eb,rfl⟩:=U';have Z':=hqe;simp only[zL,yO,List.length_nil]at Z';have hw1:IntKind.i64.wrap ((((fs++[e]).length:Nat):Int)-1)=(fs.length:Int):=by
       rw[IntWalk.i64_in _ qdQ];simp
      have hw3:fs.length<(fs++[e]).length:=by simp
      have hw4:IntKind.i64.wrap (fs.length:Int)=(fs.length:Int):=IntWalk.i64_in _ zo;have hw5:(fs.length:Int)<(fs.length:Int)+1:=zo;have hpe:=Sz (lo:=lo i) (hi:=hi i) (fs:=fs) (zi he1 he2);have Hpe:=zh hpe;clear hpe he1 he2 hbb;go_wp2;have s1:=A.av.obj.c 1;have hm5:=bzw A.ext.le A.az;have f1:=fD A.row (fs.length*3+1);have c1:=bO A.row (pE (fs++[e]) fs.length zS).2.1;have Q:=A.setRow (fs.length*3+1) (.int .u8 (hi i));rw[Fu]at Q;have s':=zh Q;clear Q A y;refine wp_region_still_tail 9 zk zk ?_;change wpStill _ _ (w4.drewN nq).drew (fun a'=>wpList _ _ _ _ a' (w4.drewN nq).drew) _ _;generalize (w4.drewN nq).drew=w6 at*
      simp only[List.take_succ_cons,List.take_zero,List.drop_succ_cons,List.drop_zero]
      repeat still_step
      still_call (HEnd.o _ hm5)
      repeat still_step
      refine wpStill_nil ?_;go_wp2;refine hY.o _ _ _ zo rfl ⟨i+1,.slice R' (eu cf o' I).length Q',.slice (some ⟨eb,0,none⟩) (fs++[e]).length P,k',f2,zo,rfl,rfl,?_,?_,?_⟩
      .rw[HN.o.1,Hpe.o];have:=s'.o;exact qbe
      .rw[HN.o.1];exact W
      .rw[HN.o.1];exact hOM4
     |false=>
      have hpe:kZ es (lo i) (hi i) p=es++[⟨lo i,hi i,(p:Int)⟩]:=by
       rcases List.eq_nil_or_concat es with rfl|⟨fs,e,he⟩
       .rfl
       .rw[List.concat_eq_append]at he;subst he;exact SC fun h=>by have:=hbb.2 ⟨fs,e,rfl,h.1,h.2⟩;cases this
      have Hpe:=zh hpe;clear hpe hbb;have L':=fun nq=>W.Ag (w:=w4.drewN nq) (Maps.int_keyed underlying3) underlying233 underlying3 Kr (y.Ga (g:=w1.heap.size+1) (o:=k') zS) n';rw[hfp]at L';simp only[xA]at L';have hwu:IntKind.u8.wrap (lo i:Int)=(lo i:Int):=IntWalk.u8_in _ zo;have A:=y.FN (nq+1);have mkS:∀{w':zW} {L:List Cl.bA},Own w m w' mk L->bA.obj S 105 #[.bool (G s),.slice O es.length P]∈L->bA.gN (w1.heap.size+1) k'∈L ->
       (bg w' S 105 #[.bool (G s),.slice O es.length P]/\w'.cell? ⟨g,0,none⟩=some (.slice (some ⟨cb,co,none⟩) d.length cc)/\w'.cell? ⟨cb,co+i,none⟩=some (.int .i64 (lo i))/\(Instr.lookup 233 (.map (some (w1.heap.size+1))) (.int .i64 cn) false).run prog w'=.ok (.int .i64 p) w'):=by
       intro w' L B h1 h2;refine⟨B.jG h1,azk (bzw B.ext.le B.az) e1,azk (bzw B.ext.le B.az) x'.1,?_⟩;have:=W.Ag (Maps.int_keyed underlying3) underlying233 underlying3 Kr (B.Ga h2) n';rw[hfp]at this;exact this
      go_wp2;refine jX (fun w'=>bg w' S 105 #[.bool (G s),.slice O es.length P]/\w'.cell? ⟨g,0,none⟩=some (.slice (some ⟨cb,co,none⟩) d.length cc)/\w'.cell? ⟨cb,co+i,none⟩=some (.int .i64 (lo i))/\(Instr.lookup 233 (.map (some (w1.heap.size+1))) (.int .i64 cn) false).run prog w'=.ok (.int .i64 p) w') 20 zk ?_;have hS:=mkS A zS zS;refine aL 0 rfl zk (fun _ _ _ h=>h) hS (ax rfl fun w' a=>by have q:=a.1.cell (i:=1) rfl;have q1:=a.2.1;have q2:=a.2.2.1;have q3:=a.2.2.2;go_simp;rfl) ?_;refine aL 1 rfl zk (fun _ _ _ h=>h) hS (ax rfl fun w' a=>by have q:=a.1.cell (i:=1) rfl;have q1:=a.2.1;have q2:=a.2.2.1;have q3:=a.2.2.2;go_simp;rfl) ?_;refine aL 2 rfl zk (fun _ _ _ h=>h) hS (ax rfl fun w' a=>by have q:=a.1.cell (i:=1) rfl;have q1:=a.2.1;have q2:=a.2.2.1;have q3:=a.2.2.2;go_simp;rfl) ?_;refine aL 3 rfl zk (fun _ _ _ h=>h) hS (ax rfl fun w' a=>by have q:=a.1.cell (i:=1) rfl;have q1:=a.2.1;have q2:=a.2.2.1;have q3:=a.2.2.2;go_simp;rfl) ?_;refine aL 4 rfl zk (fun _ _ _ h=>h) hS (ax rfl fun w' a=>by have q:=a.1.cell (i:=1) rfl;have q1:=a.2.1;have q2:=a.2.2.1;have q3:=a.2.2.2;go_simp;rfl) ?_;refine aL 5 rfl zk (fun _ _ _ h=>h) hS (ax rfl fun w' a=>by have q:=a.1.cell (i:=1) rfl;have q1:=a.2.1;have q2:=a.2.2.1;have q3:=a.2.2.2;go_simp;rfl) ?_;refine aL 6 rfl zk (fun _ _ _ h=>h) hS (ax rfl fun w' a=>by have q:=a.1.cell (i:=1) rfl;have q1:=a.2.1;have q2:=a.2.2.1;have q3:=a.2.2.2;go_simp;rfl) ?_;refine aL 7 rfl zk (fun _ _ _ h=>h) hS (ax rfl fun w' a=>by have q:=a.1.cell (i:=1) rfl;have q1:=a.2.1;have q2:=a.2.2.1;have q3:=a.2.2.2;go_simp;rfl) ?_;refine aL 8 rfl zk (fun _ _ _ h=>h) hS (ax rfl fun w' a=>by have q:=a.1.cell (i:=1) rfl;have q1:=a.2.1;have q2:=a.2.2.1;have q3:=a.2.2.2;go_simp;rfl) ?_;refine aL 9 rfl zk (fun _ _ _ h=>h) hS (ax rfl fun w' a=>by have q:=a.1.cell (i:=1) rfl;have q1:=a.2.1;have q2:=a.2.2.1;have q3:=a.2.2.2;go_simp;rfl) ?_;refine aL 10 rfl zk (fun _ _ _ h=>h) hS (ax rfl fun w' a=>by have q:=a.1.cell (i:=1) rfl;have q1:=a.2.1;have q2:=a.2.2.1;have q3:=a.2.2.2;go_simp;rfl) ?_;refine aL 11 rfl zk (fun _ _ _ h=>h) hS (ax rfl fun w' a=>by have q:=a.1.cell (i:=1) rfl;have q1:=a.2.1;have q2:=a.2.2.1;have q3:=a.2.2.2;go_simp;rfl) ?_;refine aL 13 rfl zk (fun _ _ _ h=>h) hS (ax rfl fun w' a=>by have q:=a.1.cell (i:=1) rfl;have q1:=a.2.1;have q2:=a.2.2.1;have q3:=a.2.2.2;go_simp;rfl) ?_;refine aL 14 rfl zk (fun _ _ _ h=>h) hS (ax rfl fun w' a=>by have q:=a.1.cell (i:=1) rfl;have q1:=a.2.1;have q2:=a.2.2.1;have q3:=a.2.2.2;go_simp;rfl) ?_;refine aL 15 rfl zk (fun _ _ _ h=>h) hS (ax rfl fun w' a=>by have q:=a.1.cell (i:=1) rfl;have q1:=a.2.1;have q2:=a.2.2.1;have q3:=a.2.2.2;go_simp;rfl) ?_;go_simp;refine bG 12 zk (aM rfl rfl (fP qeb (HEnd.o _ (bzw A.ext.le A.az)) ?_));rintro e' w6 ⟨rfl,rfl⟩;refine⟨_,rfl,pX hS fun hS1=>?_⟩;go_simp;refine bG 16 zk (aM rfl rfl (aS qdK (pX hS fun _=>?_)));go_simp;have Q:=A.al #[.int .u8 (lo i),.int .u8 (hi i),.int .i64 p] 102;refine bG 17 zk (aM rfl rfl (aS qdK (pX (mkS Q zS zS) fun _=>?_)));go_simp;refine bG 18 zk (aM rfl rfl (fQ M5 (.tmp 145) (.tmp 161) rfl (.slice O es.length P) es.length (gF es) rfl Q.av.row ⟨w4.heap.size,0,none⟩ 1 1 [.int .u8 (lo i),.int .u8 (hi i),.int .i64 p] rfl rfl (Q.obj.dQ rfl) qdN qdM zo (fun na' nc' w7 V J U=>?_)));have M':=Q.av.app V J U (zI _);refine pX (mkS M' zS zS) fun hS3=>?_;go_simp;refine bG 19 zk (aM rfl rfl (aS qdK (pX hS3 fun _=>?_)));go_simp;have f3:=hS3.1.frozen 1;have c3:=hS3.1.cell (i:=1) rfl;refine bG 20 zk (aM rfl rfl (dx (by go_simp;rfl) (sw rfl ?_)));refine jY zk ?_ _;have hO8:=((M'.aR.set 1 (.slice na' (es.length+1) nc')).Bd).av;have s':=zh hO8;clear hO8 M' Q A y hS hS1 hS3 f3 c3 V J U;go_wp2;refine hY.o _ _ _ zo rfl ⟨i+1,.slice R' (eu cf o' I).length Q',.slice na' (es.length+1) nc',k',f2,zo,rfl,rfl,?_,?_,?_⟩
      .rw[HN.o.1,Hpe.o];have:=s'.o;simpa [nO]using this
      .rw[HN.o.1];exact W
      .rw[HN.o.1];exact hOM4
   .obtain rfl:i=d.length:=zo;have s0:=B.av.obj.c 0;have s1:=B.av.obj.c 1;have sl:=B.av.obj.lt;have u0:=(B.jG (g:=Oo) (t:=27) (arr:=#[j']) zS).cell (i:=0) rfl;have hes:=q9 (l:=(dO cf dl lo hi s o d.length).2) (m:=mk) B.row (Pt (N:=next.length) K' zo);have F:=B.bP;have hmk2:=czS (w:=P') B.free;have X':=(Y'.mono hmk2).push (s:=⟨G s,(dO cf dl lo hi s o d.length).2⟩) hes;obtain⟨i',h',rfl⟩:=bv F.av.row;have E:=F.al #[.bool (G s),.slice O (dO cf dl lo hi s o d.length).2.length P] 105;have hoN2:=u7 HBI.o.Fv HBI.o.lt;simp only at hoN2;have Hk:=zh (zi X' (zi (Mem.le_trans hmk hmk2) (zi hI M)));clear X' hes hI M hmk2;generalize mk.iA P' (.slice O (dO cf dl lo hi s o d.length).2.length P)=mk2 at*
    have hnews:=E.obj.dQ rfl;have hvr:=E.aR.row;clear B F
    go_wp2_with (at_builtin;refine aU Gr rfl (.tmp 166) (.tmp 168) rfl (.slice i' k h') k xs rfl hvr ⟨P'.heap.size,0,none⟩ 1 1 [.bool (G s),.slice O (dO cf dl lo hi s o d.length).2.length P] rfl rfl hnews qdN qdM zo ?_)
    intro va vc w7 V J U;have y:=(E.aR.app V J U zS).bV;clear V J U E hvr hnews;have u2:=y.obj.c 0;have u3:=y.obj.frozen 0;have u4:=y.obj.lt;have A:=((y.set 0 (.slice va (k+1) vc)).av).Bd.Bd;have z':=zh A;clear A y;go_wp2;have hpre:=K'.pre.length_le;refine hX.o _ _ _ zo rfl ⟨k+1,.slice J' (dO cf dl lo hi s o d.length).1.length C',.slice va (k+1) vc,ob,f,xs++[.bool (G s),.slice O (dO cf dl lo hi s o d.length).2.length P],mk2,?_,?_,rfl,rfl,?_,?_,?_,?_,Hk.o.2.1⟩
    .exact Hob.o
    .rw[hE];show k+1<=(dO cf dl lo hi s o d.length).1.length;omega
    .rw[hE];exact z'.o
    .rw[hE];exact Hk.o.1
    .rw[hE];exact Hk.o.2.2.1
    .rw[hE];exact Hk.o.2.2.2
  .have hkl2:(dH cf dl lo hi G d.length k).1.length=k:=zo;have hcan:=Ms HB.o hk1 hkl2;have hNl:=u7 f'.Fv f'.lt;rw[hkl2]at hNl;have c':=f'.len;generalize dH cf dl lo hi G d.length k=r at*
   obtain⟨i',h',rfl⟩:=bv B.row;have u1:=(B.jG (g:=Oo) (t:=27) (arr:=#[.slice i' k h']) zS).cell (i:=0) rfl;have F:=(B.SE (l₁:=[_,_,_,_]));have u2:=F.obj.c 0;have u3:=F.obj.frozen 0;have u4:=F.obj.lt;have E:=(F.set 0 (.slice i' k h')).av;have hst:=pQ (l:=r.2) (m:=mk) (by rw[c'];exact E.row) Y' E.free;have hst2:=bq E.bP.done hst;have hbel:=E.aF;have Hk:=zh (zi hcan (zi hst2 (zi hbel (zi hNl c'))));clear hcan hst hst2 hbel hNl c' E F B hI M f' Y' hkl2;go_wp2;refine yV (v:=.agg #[.slice i' k h']) (by simp[results,results155,go_sem,u2]) rfl ?_;refine hR.o _ _ ⟨_,r.2,rfl,Hk.o.2.2.1,Hk.o.2.1,Hk.o.1.1,Hk.o.1.2,?_⟩;have h1:=Hk.o.2.2.2.1;have h2:=Hk.o.2.2.2.2;omega
theorem I7(es:List Ed)(b k:Nat)(h:k<es.length):bH (es.drop k) b=if(es[k]).lo<=b/\b<=(es[k]).hi then(es[k]).to else bH (es.drop (k+1)) b:=by
 rw[yE h];rfl
theorem wh(v:zV)(l:aK)(m:Mem)(w:zW)(H:m.az w)(U:aV m v l):
 zX 152 #[v] w (.bool (tf (WF l))):=by
 obtain⟨a,c,rfl,h1,h2,N⟩:=U;unfold maxLen at h2;refine au fun R I=>?_
 go_enter func152,ntmps152
 go_wp2;refine aB [0,7,8,9] (fun n x t=>∃k:Nat,k<=l.length/\n=l.length-k/\x=[.slice a l.length c,.slice a l.length c,.j l.length,.j k]/\(WF l↔∀s∈l.drop k,bT l.length (-1) s.bu)/\zB w t) ?_ ?_
 .exact qbQ
 rintro X z n x t Z-⟨k,hk,rfl,rfl,i,q⟩;simp[bz,lk];have r:=dzE H q;by_cases hlt:k<l.length
 .obtain⟨b,off,rfl,M⟩:=N qdJ;obtain⟨h5,ve,L,Q,P,rfl,h7,h8,h9⟩:=M k hlt;have hb:=bzu r L;have c1:=azk r h5;have c2:=azk r L;have T:=zh (bzz (n:=l.length) hlt);generalize l[k]=s at*
  unfold maxLen at h8;clear M N;go_wp2;refine aB [0,4,7,8,9,14,15,16] (fun n x u=>∃j:Nat,j<=s.bu.length/\n=s.bu.length-j/\x=[.slice (some ⟨b,off,none⟩) l.length c,.p t.heap.size,.slice (some ⟨b,off,none⟩) l.length c,.j l.length,.j k,.slice Q s.bu.length P,.j s.bu.length,.j j]/\(bT l.length (-1) s.bu↔bT l.length (sH s.bu j) (s.bu.drop j))/\u.cell? ⟨t.heap.size,1,none⟩=some (.slice Q s.bu.length P)/\t.heap.size<u.heap.size/\zB w u) ?_ ?_
  .exact⟨_,0,zG _,rfl,rfl,Iff.rfl,zS,zS,bY q _⟩
  rintro Y z2 n x u W-⟨j,hj,rfl,rfl,g,G,E,d⟩;simp[bz,lk];have f:=dzE H d;by_cases hlt2:j<s.bu.length
  .obtain⟨b',y,rfl,B⟩:=h9 qd7;obtain⟨O,g2,g3,g4,g5,g6,g7⟩:=B j hlt2;have V:=bzu f O;have d1:=azk f O;have d2:=azk f g2;have d3:=azk f g3;have S:=zh (MM (n:=l.length) hlt2);have p:0<j->u.cell? ⟨b',y+(j-1)*3+1,none⟩=some (.int .u8 (s.bu[j-1]).hi)/\sH s.bu j=(s.bu[j-1]).hi:=by
    intro F;refine⟨azk f (B (j-1) zo).2.1,?_⟩;simp[sH,show 0<j/\j<=s.bu.length from⟨F,zo⟩]
   go_wp2;refine wp_region_quiet_lit zk zk ?_
   repeat (any_goals (first|go_big_quiet_step (fail)|quiet_step (fail)|(refine wpQuiet_step (fun K J=>?_);go_simp;split<;>(refine J _ ?_;clear J K))))
   all_goals (refine wpQuiet_nil ?_;intro _ D;obtain⟨nq,A⟩:=D;subst A)
   all_goals go_wp2
   all_goals first
    | exact I.o _ _ ⟨aP (by
     rw[aG];intro C;obtain⟨q1,q2,q3,q4,-⟩:=S.o.1 (g.1 (T.o.1 (i.1 C)).1)
     first
      |omega
      | (have:=(p (by assumption)).2;omega)),below_drewN (bY d _) _⟩
    | exact W.o _ _ _ zo rfl ⟨j+1,zo,rfl,rfl,g.trans (S.o.trans ⟨fun h=>h.2.2.2.2,fun h=>⟨zo,zo,zo,by
     first
      |(have:=(p (by assumption)).2;omega)
      | (have:=PD s.bu j zo;omega),h⟩⟩),
     by rw[World.cell?_drewN,World.cell?_alloc_past _ _ _ E];exact G,by simp;omega,below_drewN (bY d _) _⟩
  .go_wp2;refine Z.o _ _ _ zo rfl ⟨k+1,zo,rfl,rfl,i.trans (T.o.trans ⟨fun h=>h.2,fun h=>⟨g.2 ?_,h⟩⟩),d⟩;rw[zQ zo];trivial
 .go_wp2;refine I.o _ _ ⟨aP ?_,q⟩;rw[aN (i.2 (by rw[zQ zo];simp))]
theorem bzM(v:zV)(l:aK)(s x:Nat)(m:Mem)(w:zW)(f:m.az w)(y:aV m v l)(hs:s<l.length):
 zX 102 #[.agg #[v],.int .i64 s,.int .u8 x] w (.j (bH (l[s]).bu x)):=by
 obtain⟨a,c,rfl,M,D,t⟩:=y;obtain⟨b,off,rfl,r⟩:=t qei;obtain⟨-,I,q,H,G,rfl,L,C,B⟩:=r s hs;have K:=bzu f q;have J:=azk f q;generalize l[s].bu=es at*
 clear r t;unfold maxLen at D C;refine au fun R hR=>?_
 go_enter func102,ntmps102
 go_wp2;refine aB [2,23,24,25] (fun n j i=>∃k:Nat,k<=es.length/\n=es.length-k/\j=[.int .u8 x,.slice H es.length G,.j es.length,.j k]/\bH es x=bH (es.drop k) x/\zB w i) ?_ ?_
 .exact⟨_,0,zG _,rfl,rfl,rfl,bY (zR _ _) _⟩
 rintro X z n j i hX-⟨k,hk,rfl,rfl,hrel,hbel⟩;simp[bz,lk];have d:=dzE f hbel;by_cases hlt:k<es.length
 .obtain⟨V,p,rfl,g⟩:=B qdJ;obtain⟨u,F,E,Q,P,O,N⟩:=g k hlt;have A:=bzu d u;have U:=azk d u;have T:=azk d F;have S:=azk d E;have HD:=zh (I7 es x k hlt);go_wp2
  .exact hR.o _ _ ⟨je (by rw[hrel,HD.o,zK ⟨by assumption,by assumption⟩]),bY hbel _⟩
  .exact qhk
  .exact qhk
 .exact qhw
theorem Pk(v:zV)(l:aK)(s:Int)(x:Nat)(m:Mem)(w:zW)(h:m.az w)(d:aV m v l)(g : -9223372036854775808<=s)(f:s<=9223372036854775807):
 zX 102 #[.agg #[v],.int .i64 s,.int .u8 x] w (.j (cu l s x)):=by
 by_cases j:s<0
 .rw[qC j];refine au fun R hR=>?_
  go_enter func102,ntmps102
  exact qg4
 .obtain⟨n,rfl⟩:=zT (by omega:0<=s);by_cases b:n<l.length
  .rw[iW l n x b];exact bzM v l n x m w h d b
  .rw[iq l n x zo];obtain⟨a,c,rfl,b,i,k⟩:=d;unfold maxLen at i;refine au fun R hR=>?_
   go_enter func102,ntmps102
   exact qg4
theorem Em(v:zV)(l:aK)(s:Int)(m:Mem)(w:zW)(d:m.az w)(n:aV m v l)(k : -9223372036854775808<=s)(j:s<l.length):
 zX 100 #[.agg #[v],.int .i64 s] w (.bool (bL l s)):=by
 by_cases p:s<0
 .have:bL l s=false:=by simp[bL,p]
  rw[this];refine au fun R hR=>?_
  go_enter func100,ntmps100
  exact qg4
 obtain⟨s,rfl⟩:=zT (by omega:0<=s);have hs:s<l.length:=zo;rw[lY l s hs];obtain⟨a,c,rfl,t,o,i⟩:=n;obtain⟨b,off,rfl,g⟩:=i qei;obtain⟨f,-⟩:=g s hs;have r:=bzu d f;have q:=azk d f;clear g i;unfold maxLen at o;refine au fun R hR=>?_
 go_enter func100,ntmps100
 exact qg4
theorem bzt(x y:Bool)(w:zW):
 zX 65 #[.bool x,.bool y] w (.bool (x&&y)):=by
 refine au fun R hR=>?_;cases x<;>cases y
 all_goals
  go_enter func65,ntmps65
  go_wp2;exact qb3
theorem cz1(x y:Bool)(w:zW):
 zX 165 #[.bool x,.bool y] w (.bool (x||y)):=by
 refine au fun R hR=>?_;cases x<;>cases y
 all_goals
  go_enter func165,ntmps165
  go_wp2;exact qb3
theorem UZ(x y:Bool)(w:zW):
 zX 139 #[.bool x,.bool y] w (.bool (x && !y)):=by
 refine au fun R hR=>?_;cases x<;>cases y
 all_goals
  go_enter func139,ntmps139
  go_wp2;exact qb3
end Cl
