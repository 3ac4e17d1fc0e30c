/- Lemmas for the proofs of chapter 11. -/
import Derived.Test.YtbbnjopkjbhpbaaGreatDoorPkP4
set_option maxRecDepth 100000
set_option maxHeartbeats 16000000
namespace Cl
open Go Go.RowKit Go.Proofs Tryz
theorem fzP(e f:Ed):e=f↔(e.lo=f.lo/\e.hi=f.hi/\e.to=f.to):=by
 cases e;cases f;simp
theorem UU : (prog.fieldsOf 102).toList = [⟨"Lo", 5, 0, false, "", "", 0⟩, ⟨"Hi", 5, 1, false, "", "", 1⟩, ⟨"To", 3, 2, false, "", "", 8⟩] := by
 kernel_rfl
theorem XJ:prog.stoodInHeld 102=false:=by kernel_rfl
theorem YC:prog.eqGuardType prog.depth 102=false:=by kernel_rfl
theorem czA:prog.underlying 102=some (.struct (prog.fieldsOf 102)):=by kernel_rfl
theorem YT(a b c g f e:Int)(w:zW):(Op.equalIn 10000 102 (.agg #[.int .u8 a,.int .u8 b,.int .i64 c]) (.agg #[.int .u8 g,.int .u8 f,.int .i64 e])).run prog w=.ok (a==g&&(b==f&&c==e)) w:=by
 rw[run_equalIn_agg w 9999 102 _ _ czA XJ,UU];have l:=fun(d:Nat) (a b:Int) (w:zW)=>run_equalIn_int (P:=prog) w d 5 .u8 .u8 a b underlying5;have k:=fun(d:Nat) (a b:Int) (w:zW)=>run_equalIn_int (P:=prog) w d 3 .i64 .i64 a b underlying3;simp only[Op.eqFields];simp[part,isAgg,go_sem,l,k];by_cases j:a=g<;>by_cases i:b=f<;>by_cases h:c=e<;>simp[j,i,h]
theorem Kw(v:zV)(l:List Bool)(x:Bool)(m:Mem)(w:zW)(j:m.ay w)(p:jV m v l):
 zX 253 #[v,.bool x] w (.int .i64 (firstIdx (fun y=>x=y) l 0)):=by
 obtain⟨a,c,rfl,u,t,s⟩:=p;unfold maxLen at t;refine au fun R hR=>?_
 go_enter func253,ntmps253
 go_wp2;refine aC [0,1,7,8] (fun n g f=>∃k:Nat,k<=l.length/\n=l.length-k/\g=[.slice a l.length c,.bool x,.int .i64 l.length,.int .i64 k]/\firstIdx (fun y=>x=y) l 0=firstIdx (fun y=>x=y) (l.drop k) k/\zB w f) ?_ ?_
 .exact qc8
 rintro X z n g f q-⟨k,hk,rfl,rfl,hrel,hbel⟩;simp[bB,lk];have d:=Mem_inn_below j hbel;by_cases hlt:k<l.length
 .obtain⟨b,off,rfl,r⟩:=s qdP;have A:=Mem_cell_w d (r k hlt);have i:=zh (tK (fun y=>x=y) l k hlt);go_wp2
  all_goals first
   |exact hR.o _ _ ⟨jq (by rw[hrel,i.o,zK (aM (by simp_all))]),hbel⟩
   |exact q.o _ _ _ zo rfl ⟨k+1,zo,rfl,rfl,by rw[hrel,i.o,zJ (by rw[aF (by simp_all)];simp)],hbel⟩
 .exact qhZ
theorem Er(v:zV)(l:List Bool)(x:Bool)(m:Mem)(w:zW)(f:m.ay w)(g:jV m v l):
 zX 193 #[v,.bool x] w (.bool (tf (x∈l))):=by
 have j:=Kw v l x m w f g;have d:=BC (fun y=>x=y) l 0;refine au fun R k=>?_;generalize q:firstIdx (fun y=>x=y) l 0=r at*
 have p:=zh d;clear d
 go_enter func193,ntmps193
 go_wp2_with fail
 refine j.mono ?_;rintro e w' ⟨rfl,a⟩;go_wp2;refine k.o _ _ ⟨aR ?_,a⟩;rcases p.o with⟨c,b⟩|⟨i,c,b,n,-⟩
 .rw[aF (fun h=>b x h rfl)];simp[c]
 .rw[aM (by rw[n];exact zF c)];simp[b]
theorem GA(v v':zV)(l l':List Ed)(m:Mem)(w:zW)(A:m.ay w)(B:kH m v l)(i:kH m v' l'):
 zX 158 #[v,v'] w (.bool (tf (l=l'))):=by
 obtain⟨a,c,rfl,T,H,G⟩:=B;obtain⟨Q,P,rfl,I,q,p⟩:=i;unfold maxLen at H q;refine au fun R hR=>?_;by_cases hlen:l.length=l'.length
 .have g:((l.length:Int) != (l'.length:Int))=false:=by simp[hlen]
  have Hlen:=zh hlen;clear hlen
  go_enter func158,ntmps158
  go_wp2;refine aC [0,1,12,13] (fun n x u=>∃k:Nat,k<=l.length/\n=l.length-k/\x=[.slice a l.length c,.slice Q l'.length P,.int .i64 l.length,.int .i64 k]/\(l=l'↔l.drop k=l'.drop k)/\zB w u) ?_ ?_
  .exact qbU
  rintro X z n x u D-⟨k,hk,rfl,rfl,f,hbel⟩;have Hrel:=zh f;clear f;simp[bB,lk];have d:=Mem_inn_below A hbel;by_cases hlt:k<l.length
  .have hlt':k<l'.length:=by rw[<-Hlen.o];exact hlt
   obtain⟨b,off,rfl,F⟩:=G qdP;obtain⟨Y,y,rfl,j⟩:=p qd1;obtain⟨L,K,J,-⟩:=F k hlt;obtain⟨t,s,r,-⟩:=j k hlt';have W:=Mem_cell_w d L;have V:=Mem_cell_w d K;have U:=Mem_cell_w d J;have O:=Mem_cell_w d t;have N:=Mem_cell_w d s;have M:=Mem_cell_w d r;have HD:=zh qiH;have S:=fun w=>YT (l[k].lo) (l[k].hi) (l[k].to) (l'[k].lo) (l'[k].hi) (l'[k].to) w;have C:=YC;have He:=zh (fzP l[k] l'[k]);go_wp2
   go_quiet (fail)
   go_wp2
   .refine hR.o _ _ ⟨aR ?_,below_drewN hbel _⟩;rw[aF];intro h;have E:=He.o.1 (HD.o.1 (Hrel.o.1 h)).1;have h6:=‹(!(l[k].lo:Int)==(l'[k].lo:Int))=true\/_›;simp[E]at h6
   .refine D.o _ _ _ zo rfl ⟨k+1,zo,rfl,rfl,?_,below_drewN hbel _⟩;have h6:=‹(!(l[k].lo:Int)==(l'[k].lo:Int))=false/\_›;exact qcp
  .exact qg3
 .have g:((l.length:Int) != (l'.length:Int))=true:=by simp;omega
  go_enter func158,ntmps158
  exact qhj
theorem Zy(p d:Bool)(v v':zV)(l i:List Ed)(m:Mem)(w:zW)(n:m.ay w)(j:kH m v l)(g:kH m v' i):
 zX 157 #[.agg #[.bool p,v],.agg #[.bool d,v']] w (.bool (tf ((⟨p,l⟩:Sn)=⟨d,i⟩))):=by
 refine au fun R k=>?_;have b:zB w ((w.alloc (.cells #[.bool p,v] 105)).alloc (.cells #[.bool d,v'] 105)):=cu qiN _;have r:=GA v v' l i m _ (Mem_inn_below n b) j g;obtain⟨a,c,rfl,-⟩:=j;obtain⟨u,t,rfl,-⟩:=g;by_cases f:p=d
 .have q:(p==d)=true:=by simp[f]
  have s:=zh f;clear f
  go_enter func157,ntmps157
  go_wp2_with fail
  refine r.mono ?_;rintro e w' ⟨rfl,h⟩;go_wp2;refine k.o _ _ ⟨aR (dY ?_),iY b h⟩;simp[s.o]
 .have q:(p==d)=false:=by simp[f]
  go_enter func157,ntmps157
  go_wp2;refine k.o _ _ ⟨aR ?_,b⟩;rw[aF];simp[f]
def allT:aK:=[⟨true,[⟨0,255,0⟩]⟩]
theorem Fx(w:zW):
 zC 38 #[] w fun e w'=>∃g1 g2,e=.returned (.agg #[.slice (some ⟨g2,0,none⟩) 1 1])/\zB w w'/\w.heap.size<=g1/\w.heap.size<=g2/\g1≠g2 /\
  aZ w' g1 102 #[.int .u8 0,.int .u8 255,.int .i64 0]/\aZ w' g2 105 #[.bool true,.slice (some ⟨g1,0,none⟩) 1 1]:=by
 refine au fun R hR=>?_
 go_enter func38,ntmps38
 go_wp2;refine yV (v:=.agg #[.slice (some ⟨w.heap.size+1+1,0,none⟩) 1 1]) (by simp[results,results38,go_sem]) rfl ?_;refine hR.o _ _ ⟨_,_,rfl,cu (cu qiN _) _,?_,?_,?_,(aZ.new _ _ _).al _,?_⟩
 .simp<;>omega
 .omega
 .simp<;>omega
 .have:=aZ.new ((w.alloc (Obj.cells #[Value.slice (some { block:=w.heap.size+1+1,off:=0 }) 1 1] 27)).alloc (Obj.cells #[Value.int IntKind.u8 0,Value.int IntKind.u8 255,Value.int IntKind.i64 0] 102)) 105 #[Value.bool true,Value.slice (some { block:=w.heap.size+1,off:=0 }) 1 1];exact qbi
theorem Ll(v v':zV)(l l':aK)(m:Mem)(w:zW)(P:m.ay w)(Q:aU m v l)(x:aU m v' l'):
 zX 156 #[v,v',.func (.func 157) #[] #[]] w (.bool (tf (l=l'))):=by
 obtain⟨a,c,rfl,h1,W,V⟩:=Q;obtain⟨a',c',rfl,Y,B,A⟩:=x;unfold maxLen at W B;refine au fun R hR=>?_;by_cases hlen:l.length=l'.length
 .have t:((l.length:Int) != (l'.length:Int))=false:=by simp[hlen]
  have Hlen:=zh hlen;clear hlen
  go_enter func156,ntmps156
  go_wp2;refine aC [0,1,2,15,16,17] (fun n F E=>∃k:Nat,k<=l.length/\n=l.length-k/\F=[.slice a l.length c,.slice a' l'.length c',.func (.func 157) #[] #[],.slice a l.length c,.int .i64 l.length,.int .i64 k]/\(l=l'↔l.drop k=l'.drop k)/\zB w E) ?_ ?_
  .exact qbU
  rintro X z n F E T-⟨k,hk,rfl,rfl,p,hbel⟩;have Hrel:=zh p;clear p;simp[bB,lk];have d:=Mem_inn_below P hbel;by_cases hlt:k<l.length
  .have hlt':k<l'.length:=by rw[<-Hlen.o];exact hlt
   obtain⟨b,off,rfl,U⟩:=V qdP;obtain⟨b',G,rfl,y⟩:=A qd1;obtain⟨J,M,Z,I⟩:=U k hlt;obtain⟨r,s,C,q⟩:=y k hlt';have K:=zh qiH;have g:=fun L u=>Zy l[k].bU l'[k].bU M s l[k].bv l'[k].bv m L u I q;have Hc:=zh g;clear g;obtain⟨ua,uc,rfl,-⟩:=I;obtain⟨O,N,rfl,-⟩:=q;have c1:=Mem_cell_w d J;have c2:=Mem_cell_w d Z;have e':=Mem_cell_w d r;have d':=Mem_cell_w d C;have S:=Mem_cell_lt d J;have H:=Mem_cell_lt d r
   go_wp2_with fail
   refine(Hc.o _ (Mem_inn_below d (cu qiN _))).mono ?_;rintro e w' ⟨rfl,j⟩;have i:=iY (cu (cu hbel _) _) j;clear j;by_cases f:(⟨l[k].bU,l[k].bv⟩:Sn)=⟨l'[k].bU,l'[k].bv⟩
   .rw[aM f];have D:=zh f;clear f;go_wp2;exact T.o _ _ _ zo rfl ⟨k+1,zo,rfl,rfl,Hrel.o.trans (K.o.trans ⟨fun h=>h.2,fun h=>⟨D.o,h⟩⟩),i⟩
   .rw[aF f];go_wp2;exact hR.o _ _ ⟨aR (by rw[aF];intro h;exact f (K.o.1 (Hrel.o.1 h)).1),i⟩
  .exact qg3
 .have t:((l.length:Int) != (l'.length:Int))=true:=by simp;omega
  go_enter func156,ntmps156
  exact qhj
theorem CB(v v':zV)(l g:aK)(m:Mem)(w:zW)(i:m.ay w)(h:aU m v l)(b:aU m v' g):
 zX 105 #[.agg #[v],.agg #[v']] w (.bool (tf (l=g))):=by
 refine au fun R k=>?_;have f:zB w ((w.alloc (.cells #[v] 27)).alloc (.cells #[v'] 27)):=cu qiN _;have j:=Ll v v' l g m _ (Mem_inn_below i f) h b;obtain⟨a,c,rfl,-⟩:=h;obtain⟨p,n,rfl,-⟩:=b
 go_enter func105,ntmps105
 go_wp2_with fail
 refine j.mono ?_;rintro e w' ⟨rfl,d⟩;go_wp2;exact k.o _ _ ⟨rfl,iY f d⟩
noncomputable def lL(P:Nat->Prop)(n:Nat):Array Value:=((List.range n).map fun b=>Value.bool (tf (P b))).toArray
theorem jI{P:Nat->Prop}{n i:Nat}(h:i<n):(lL P n)[i]?=some (.bool (tf (P i))):=by simp[lL,h]
theorem eu{P P':Nat->Prop}{n:Nat}(h:∀b,b<n->(P b↔P' b)):lL P n=lL P' n:=by
 unfold lL
 congr 1
 apply xZ;intro b a;rw[dY (h b (yQ.1 a))]
theorem Mm{P:Nat->Prop}{n i:Nat}(h:¬i<n):(lL P n)[i]?=none:=by simp[lL];omega
theorem j5(P:Nat->Prop)(n i:Nat):(lL P n).setIfInBounds i (.bool true)=lL (fun b=>P b\/b=i) n:=by
 apply Array.ext_getElem?;intro j;rw[Array.getElem?_setIfInBounds];by_cases c:j<n
 .by_cases a:i=j
  .subst a;rw[zK rfl,zK (by simpa [lL]using c),jI c,aM (Or.inr rfl)]
  .rw[zJ a,jI c,jI c,dY (show P j↔(P j\/j=i) from⟨.inl,fun h=>h.elim id (fun e=>absurd e.symm a)⟩)]
 .rw[Mm c,Mm c];by_cases a:i=j
  .rw[zK a,zJ (by simp[lL];omega)]
  .rw[zJ a]
theorem rG(n:Nat):Array.replicate n (Value.bool false)=lL (fun _=>False) n:=by
 apply Array.ext
 .simp[lL]
 .intro j b a;simp[lL,aF (p:=False) id]
theorem CU:zeroCells288=Array.replicate 257 (Value.bool false):=by kernel_rfl
def ng(e:Ed)(b:Nat):Prop:=e.lo=b\/e.hi+1=b
def wD(l:aK)(b:Nat):Prop:=b=0\/∃s∈l,∃e∈s.bv,ng e b
noncomputable def dN(l:aK)(n:Nat):List Int:=((List.range n).filter fun b=>tf (wD l b)).map Int.ofNat
theorem Rx(l:aK)(n:Nat):dN l (n+1)=dN l n++if tf (wD l n)then[(n:Int)]else[]:=by
 unfold dN;rw[List.range_succ,List.filter_append,yI]
 congr 1
 cases h:tf (wD l n)<;>simp[h]
theorem DZ(l:aK)(n:Nat):∀x∈dN l n,0<=x/\x<n:=by
 intro x a;simp only[dN,yD,xR,yQ]at a;obtain⟨b,⟨c,-⟩,rfl⟩:=a;simp;exact c
theorem Fe(l:aK)(n:Nat):(dN l n).length<=n:=by
 unfold dN;rw[xC];exact yJ (vB _ _) zS
theorem z8{es:List Ed}{j:Nat}(h:j<es.length)(b:Nat):(∃e∈es.take (j+1),ng e b)↔(∃e∈es.take j,ng e b)\/ng es[j] b:=by
 rw[zH h];constructor
 .rintro⟨e,c,a⟩;rcases yP.1 c with d|d
  .exact .inl ⟨e,d,a⟩
  .rw[zZ.1 d]at a;exact .inr a
 .rintro(⟨e,c,a⟩|a)
  .exact⟨e,xI _ c,a⟩
  .exact⟨_,xS _ (zZ.2 rfl),a⟩
theorem YY{l:aK}{k:Nat}(h:k<l.length)(b:Nat):wD (l.take (k+1)) b↔wD (l.take k) b\/∃e∈(l[k]).bv,ng e b:=by
 unfold wD;rw[zH h];constructor
 .rintro(f|⟨s,c,a⟩)
  .exact .inl (.inl f)
  .rcases yP.1 c with d|d
   .exact .inl (.inr ⟨s,d,a⟩)
   .rw[zZ.1 d]at a;exact .inr a
 .rintro((f|⟨s,c,a⟩)|a)
  .exact .inl f
  .exact .inr ⟨s,xI _ c,a⟩
  .exact .inr ⟨_,xS _ (zZ.2 rfl),a⟩
theorem l7{n:Nat}{p:Int}{es:List Ed}(h:bS n p es):∀e∈es,e.lo<=e.hi/\0<=e.to/\e.to<n:=by
 induction es generalizing p with
 |nil=>simp
 |cons e es ih=>
  obtain⟨f,d,c,-,b⟩:=h;intro x a;rcases yA.1 a with rfl|a
  .exact⟨f,d,c⟩
  .exact ih b x a
theorem Z6:fB prog 223 3 1 8:=⟨underlying223,zo,by
 obtain⟨i,d,c,b,a⟩:=info_parts (P:=prog) (e:=3) (z:=.int .i64 0) (size:=1) (bytes:=8) zk;exact⟨i,_,d,c,b,a,rfl⟩⟩
theorem dzJ(I:zV)(l:aK)(m:Mem)(w:zW)(U:m.ay w)(W:aU m I l)(C:WF l):
 zC 187 #[I] w fun e w'=>∃r,e=.returned r/\zB w w'/\jd (m.grow w w') r (dN l 256):=by
 obtain⟨a,c,rfl,h1,h2,h3⟩:=W;unfold maxLen at h2;refine au fun R hR=>?_
 go_enter func187,ntmps187
 go_wp2;refine aC [3,11,12,13] (fun n g H=>∃(k:Nat),k<=l.length/\n=l.length-k/\g=[.pointer (some ⟨w.heap.size,0,none⟩),.slice a l.length c,.int .i64 l.length,.int .i64 k] /\
  Own w m H m [.obj w.heap.size 288 (lL (wD (l.take k)) 257)]) ?_ ?_
 .refine⟨_,0,zG _,rfl,rfl,?_⟩;have:=(Own.start U).al (zeroCells288.setIfInBounds 0 (.bool true)) 288;rw[CU,rG,j5,eu (P':=wD (l.take 0)) (by intro b _;simp[wD])]at this;rw[CU,rG,j5,eu (P':=wD (l.take 0)) (by intro b _;simp[wD])];exact this
 rintro X z n g H hX-⟨k,hk,rfl,rfl,y⟩;simp[bB,lk];by_cases hlt:k<l.length
 .obtain⟨b,off,rfl,h4⟩:=h3 qdP;have t:=y.ay;obtain⟨M,ve,g2,O,N,rfl,g4,g5,g6⟩:=h4 k hlt;have e':=Mem_cell_w t M;have d':=Mem_cell_w t g2;have hb:=Mem_cell_lt t M;have D:=l7 (C l[k] (zF hlt));have A:=zh (fun b=>YY hlt b);generalize l[k]=s at*
  unfold maxLen at g5;have a':=y.obj.lt;have E:=y.al' (.cells #[.bool s.bU,.slice O s.bv.length N] 105);go_wp2;refine aC [3,11,12,13,18,19,20] (fun n g u=>∃(j:Nat),j<=s.bv.length/\n=s.bv.length-j/\g=[.pointer (some ⟨w.heap.size,0,none⟩),.slice (some ⟨b,off,none⟩) l.length c,.int .i64 l.length,.int .i64 k,.slice O s.bv.length N,.int .i64 s.bv.length,.int .i64 j] /\
   Own w m u m [.obj w.heap.size 288 (lL (fun b=>wD (l.take k) b\/∃e∈s.bv.take j,ng e b) 257)]) ?_ ?_
  .refine⟨_,0,zG _,rfl,rfl,?_⟩;rw[eu (P':=wD (l.take k)) (by intro b _;simp)];exact E
  rintro Y Q n g u hY-⟨j,hj,rfl,rfl,d⟩;simp[bB,lk];by_cases hlt2:j<s.bv.length
  .obtain⟨b',J,rfl,F⟩:=g6 qeb;obtain⟨P,e2,e3,e4,e5,-⟩:=F j hlt2;have V:=(D s.bv[j] (zF hlt2)).1;have d1:=Mem_cell_w d.ay P;have d2:=Mem_cell_w d.ay e2;have d3:=Mem_cell_w d.ay e3;have f':=Mem_cell_lt d.ay P;have Z:=d.obj.lt;have B:=d.obj.cell (jI (i:=s.bv[j].lo) zo);have k2:=d.obj.cell (jI (i:=s.bv[j].hi+1) zo);have k3:=d.obj.frozen s.bv[j].lo;have k4:=d.obj.frozen (s.bv[j].hi+1);have T:s.bv[j].lo≠s.bv[j].hi+1:=zo;have K:s.bv[j].hi+1≠s.bv[j].lo:=zo;have hO3:=(((d.set s.bv[j].lo (.bool true)).set (s.bv[j].hi+1) (.bool true))).al' (.cells #[.int .u8 s.bv[j].lo,.int .u8 s.bv[j].hi,.int .i64 s.bv[j].to] 102);rw[j5,j5,eu (P':=fun b=>wD (l.take k) b\/∃e∈s.bv.take (j+1),ng e b) (by
    intro b _;rw[z8 hlt2];unfold ng;constructor
    .rintro((h|h)|h)
     .exact h.elim .inl (fun h=>.inr (.inl h))
     .exact .inr (.inr (.inl h.symm))
     .exact .inr (.inr (.inr h.symm))
    .rintro(h|h|h|h)
     .exact qds
     .exact qdr
     .exact .inl (.inr h.symm)
     .exact .inr h.symm)]at hO3
   have G:=zh hO3;clear hO3;go_wp2;exact hY.o _ _ _ zo rfl ⟨j+1,zo,rfl,rfl,G.o⟩
  .go_wp2;refine hX.o _ _ _ zo rfl ⟨k+1,zo,rfl,rfl,?_⟩;rw[eu (P':=fun b=>wD (l.take k) b\/∃e∈s.bv.take j,ng e b) (by
    intro b _;rw[A.o,xH (l:=s.bv) (i:=j) zo])]
   exact d
 .rw[xH zo]at y;go_wp2;refine aC [3,8,34] (fun n g u=>∃(q:Nat) (v:zV),q<=256/\n=256-q/\g=[.pointer (some ⟨w.heap.size,0,none⟩),v,.int .i64 q] /\
   Own w m u m [.row v 3 1 (dN l q).length ((dN l q).map (Value.int .i64)),.obj w.heap.size 288 (lL (wD l) 257)]) ?_ ?_
  .exact⟨_,0,.slice none 0 0,zo,rfl,rfl,y.fC _ _⟩
  rintro Y Q n g u hY-⟨q,v,hq,rfl,rfl,d⟩;simp[bB,lk];by_cases hlt2:q<256
  .have B:=d.av.obj.cell (jI (i:=q) zo);have hg:=d.av.obj.lt;have c':=Fe l q;have f:=Rx l q;by_cases L:wD l q
   .have ht:=aM L;rw[ht]at B;rw[ht,zK rfl]at f;have Hsu:=zh f;clear f ht;have hO3:=d.al #[.int .i64 q] 3
    go_wp2_with (at_builtin;refine aT Z6 rfl (.tmp 40) (.tmp 42) rfl v (dN l q).length ((dN l q).map (Value.int .i64)) rfl hO3.av.row ⟨u.heap.size,0,none⟩ 1 1 [.int .i64 q] rfl rfl (hO3.obj.dF rfl) qdS qdR zo ?_)
    exact qgU
   .have ht:=aF L;rw[ht]at B;rw[ht,zJ zS,yR]at f;have Hsu:=zh f;clear f ht;go_wp2;refine hY.o _ _ _ zo rfl ⟨q+1,v,zo,rfl,rfl,?_⟩;rw[Hsu.o];exact d
  .obtain rfl:q=256:=zo;have p:=iU d.bO.done (jM (m:=m) d.row (fun x S=>by have:=DZ l 256 x S;omega));have Hfin:=zh (zi d.az p);clear p d;go_wp2;exact qa7
def Bf(n:Nat)(es:List Ed)(c:Int):Int:=if bE es c.toNat<0 then(n:Int)else bE es c.toNat
def qK(n:Nat)(a:List Int)(es:List Ed):List Int:=a.map (Bf n es)
theorem UW(es:List Ed)(e:Ed)(b:Nat)(h:∀x∈es,x.hi<e.lo):bE (es++[e]) b=if e.lo<=b/\b<=e.hi then e.to else bE es b:=by
 induction es with
 |nil=>rfl
 |cons x es ih=>
  have c:=h x zS;have:=ih (fun y hy=>h y qei);simp only[xK,bE];by_cases a:x.lo<=b/\b<=x.hi
  .rw[zK a,zK a,zJ zo]
  .rw[zJ a,zJ a,this]
theorem Hm{n:Nat}{es:List Ed}:∀{p:Int},bS n p es->∀j,(h:j<es.length)->∀x∈es.take j,x.hi<(es[j]).lo:=by
 induction es with
 |nil=>intro p _ j h;simp at h
 |cons e es ih=>
  intro p l j h x a;obtain⟨-,-,-,-,g⟩:=l
  cases j with
  |zero=>simp at a
  |succ j=>
   simp only[List.take_succ_cons,yA]at a;have d:j<es.length:=by simpa using h
   have c:∀{q:Int} {fs:List Ed},bS n q fs->∀y∈fs,q<y.lo:=by
    intro q fs
    induction fs generalizing q with
    |nil=>simp
    |cons f fs ihf=>
     intro m y b;obtain⟨o,-,-,k,i⟩:=m;rcases yA.1 b with rfl|b
     .exact k
     .have:=ihf i y b;omega
   rcases a with rfl|a
   .have:=c g es[j] (zF d);simp only[List.getElem_cons_succ];omega
   .simpa using ih g j d x a
theorem YE{n:Nat}{es:List Ed}{p:Int}(d:bS n p es){j:Nat}(b:j<es.length)(c:Int):
 Bf n (es.take (j+1)) c=if(es[j]).lo<=c.toNat/\c.toNat<=(es[j]).hi then(es[j]).to else Bf n (es.take j) c:=by
 have e:=(l7 d es[j] (zF b)).2;unfold Bf;rw[zH b,UW _ _ _ (Hm d j b)];by_cases a:(es[j]).lo<=c.toNat/\c.toNat<=(es[j]).hi
 .rw[zK a,zK a,zJ zo]
 .rw[zJ a,zJ a]
def rU(l:aK)(a:List Int):List (List Int):=l.map (fun s=>qK l.length a s.bv)
theorem V6:fB prog 225 223 1 24:=⟨underlying225,zo,by
 obtain⟨i,d,c,b,a⟩:=info_parts (P:=prog) (e:=223) (z:=.slice none 0 0) (size:=1) (bytes:=24) zk;exact⟨i,_,d,c,b,a,rfl⟩⟩
theorem Oh:Pg prog 223 3 8 (.int .i64 0):=⟨underlying223,zk,rfl⟩
theorem WA:Pg prog 226 4 1 (.bool false):=⟨underlying226,zk,rfl⟩
theorem NH:fB prog 226 4 1 1:=⟨underlying226,zo,by
 obtain⟨i,d,c,b,a⟩:=info_parts (P:=prog) (e:=4) (z:=.bool false) (size:=1) (bytes:=1) zk;exact⟨i,_,d,c,b,a,rfl⟩⟩
structure qz (m:Mem) (xs:List Value) (l:List (List Int)):Prop where
 len:xs.length=l.length
 get:∀i (h:i<l.length),∃v,xs[i]?=some v/\jd m v l[i]
theorem qz.nil(m:Mem):qz m [] []:=⟨rfl,fun i h=>by simp at h⟩
theorem qz.mono{m m':Mem}{xs:List Value}{l:List (List Int)}(h:qz m xs l)(a:m.le m'):qz m' xs l:=
 ⟨h.len,fun i hi=>let ⟨v,h1,h2⟩:=h.get i hi;⟨v,h1,iU a h2⟩⟩
theorem qz.push{m:Mem}{xs:List Value}{l:List (List Int)}(h:qz m xs l){x:List Int}{v:zV}(a:jd m v x):qz m (xs++[v]) (l++[x]):=by
 refine⟨by simp[h.len],fun i hi=>?_⟩;by_cases c:i<l.length
 .obtain⟨u,h1,h2⟩:=h.get i c;exact qcK
 .have:i=l.length:=by simp at hi;omega
  subst this;refine⟨v,?_,by simpa using a⟩;exact qcT
theorem Jo{w:zW}{t:TypeId}{v:zV}{l:List (List Int)}{xs:List Value}{m:Mem}(a:w.ownsRow 0 t 1 v l.length xs)(b:qz m xs l)(d:m.free v):sS (m.iH w v) v l:=
 pq a fun _ c i h=>let ⟨u,h1,h2⟩:=b.get i h;⟨u,dZ a c m h1,iU (Mem_le_addv d) h2⟩
def part(f:Int->Int)(a:List Int)(i:Nat):List Value:=((a.take i).map f++List.replicate (a.length-i) 0).map (Value.int .i64)
def xh(f:Int->Int)(a:List Int)(i:Nat)(x:Int):List Value:=((a.take i).map f++x::List.replicate (a.length-i-1) 0).map (Value.int .i64)
theorem Qa{f:Int->Int}{a:List Int}{i:Nat}(h:i<a.length):part f a i=xh f a i 0:=by
 unfold part xh;rw[show a.length-i=(a.length-i-1)+1 by omega,List.replicate_succ]
 rfl
theorem L9{f:Int->Int}{a:List Int}{i:Nat}(h:i<a.length)(x:Int):(xh f a i x)[i]?=some (.int .i64 x):=by
 unfold xh;rw[List.getElem?_map,yN qdW];simp[Nat.min_eq_left (Nat.le_of_lt h)]
theorem L8{f:Int->Int}{a:List Int}{i:Nat}(h:i<a.length)(x y:Int):(xh f a i x).set i (.int .i64 y)=xh f a i y:=by
 unfold xh;rw[yI,yI,List.set_append_right _ _ qdW];simp[Nat.min_eq_left (Nat.le_of_lt h)]
theorem IJ{f:Int->Int}{a:List Int}{i:Nat}(h:i<a.length):xh f a i (f a[i])=part f a (i+1):=by
 unfold part xh;rw[zH h,show a.length-i-1=a.length-(i+1)by omega];simp only[yI,yL,xD,xK,xN,xB]
theorem L6(f:Int->Int)(a:List Int):List.replicate a.length (Value.int .i64 0)=part f a 0:=by simp[part]
theorem Qb(f:Int->Int)(a:List Int):part f a a.length=(a.map f).map (Value.int .i64):=by simp[part]
theorem P9{f:Int->Int}{a:List Int}{i:Nat}(h:i<a.length):(part f a i)[i]?=some (.int .i64 0):=by rw[Qa h];exact L9 h 0
theorem P8{f:Int->Int}{a:List Int}{i:Nat}(h:i<a.length)(y:Int):(part f a i).set i (.int .i64 y)=xh f a i y:=by rw[Qa h];exact L8 h 0 y
theorem UL{n:Nat}{p:Int}{es:List Ed}(a:bS n p es)(c:Int):0<=Bf n es c/\Bf n es c<=n:=by
 unfold Bf;rcases F9 a c.toNat with h|h
 .rw[h,zK zo];omega
 .rw[zJ zo];omega
theorem BI{n:Nat}{p:Int}{es:List Ed}(d:bS n p es)(a:List Int):∀x∈qK n a es,0<=x/\x<=n:=by
 intro x b;obtain⟨c,-,rfl⟩:=yD.1 b;exact UL d c
structure TabAt (m:Mem) (g:Nat) (cuts:List Int) (next:List (List Int)) (acc:List Bool) (cZ:List Int):Prop where
 ex:∃vc vn va vk,m.cell g 0=some vc/\m.cell g 1=some vn/\m.cell g 2=some va/\m.cell g 3=some vk /\
  jd m vc cuts/\sS m vn next/\jV m va acc/\jd m vk cZ
theorem TabAt.mono{m m':Mem}{g:Nat}{b:List Int}{next:List (List Int)}{acc:List Bool}{cZ:List Int}(h:TabAt m g b next acc cZ)(a:m.le m'):TabAt m' g b next acc cZ:=by
 obtain⟨e,c,va,d,p,o,n,l,k,j,i,f⟩:=h.ex;exact⟨e,c,va,d,Mem_cell_le a p,Mem_cell_le a o,Mem_cell_le a n,Mem_cell_le a l,iU a k,Cn a j,nk a i,iU a f⟩
def JM(a:List Int)(i:Nat):Int:=if h:i+1<a.length then a[i+1]-1 else 255
theorem dzE(g:Nat)(d:List Int)(next:List (List Int))(acc:List Bool)(cZ:List Int)(i:Nat)(m:Mem)(w:zW)(j:m.ay w)(ht:TabAt m g d next acc cZ)
(hi:i<d.length)(q:∀h:i+1<d.length,1<=d[i+1]/\d[i+1]<=255):
 zC 190 #[.pointer (some ⟨g,0,none⟩),.int .i64 i] w fun e w'=>e=.returned (.int .u8 (JM d i))/\w'=w:=by
 obtain⟨y,u,va,v,l,-,-,-,⟨a,c,rfl,E,t,s⟩,-,-,-⟩:=ht.ex;have D:=Mem_cell_lt j l;have C:=Mem_cell_w j l;unfold maxLen at t;refine au fun R k=>?_
 go_enter func190,ntmps190
 by_cases hlt:i+1<d.length
 .obtain⟨b,off,rfl,r⟩:=s qdP;obtain⟨n,B,A⟩:=r (i+1) hlt;have z:=Mem_cell_w j n;have p:=q hlt;have f:JM d i=d[i+1]-1:=by simp[JM,hlt]
  generalize d[i+1]=x at*
  go_wp2;refine k.o _ _ ⟨?_,rfl⟩;rw[f]
  rfl
 .have f:JM d i=255:=by simp[JM,hlt]
  go_wp2;refine k.o _ _ ⟨?_,rfl⟩;rw[f]
  rfl
def cl(cZ:List Int)(s:Nat):Nat:=(cZ.getD s 0).toNat
def bt(out:List Bool)(c:Nat):Bool:=out.getD c false
def nx(next:List (List Int))(s:Nat):List Int:=next.getD s []
def EM(out:List Bool)(cZ l:List Int)(b:Bool):Bool:=b||l.any fun x=>bt out (cl cZ x.toNat)
theorem J9{out:List Bool}{c:Nat}(h:c<out.length):bt out c=out[c]:=by simp[bt,h]
theorem Yg{out:List Bool}{cZ l:List Int}{b:Bool}{j:Nat}(h:j<l.length):EM out cZ (l.take (j+1)) b=(EM out cZ (l.take j) b||bt out (cl cZ (l[j]).toNat)):=by
 unfold EM;rw[zH h,List.any_append];simp[Bool.or_assoc]
inductive wB (next:List (List Int)) (acc:List Bool) (cZ:List Int):Nat->Prop
 |acc (s:Nat) (hs:s<next.length) (h:bt acc s=true):wB next acc cZ (cl cZ s)
 |step (s:Nat) (hs:s<next.length) (x:Int) (hx:x∈nx next s) (h:wB next acc cZ (cl cZ x.toNat)):wB next acc cZ (cl cZ s)
def Bc(next:List (List Int))(acc:List Bool)(cZ:List Int)(out:List Bool):Prop:=∀c,bt out c=true->wB next acc cZ c
def uL(next:List (List Int))(acc:List Bool)(cZ:List Int)(out:List Bool)(k:Nat):Prop:=
 ∀s,s<k->EM out cZ (nx next s) (bt acc s)=true->bt out (cl cZ s)=true
theorem Yo{next:List (List Int)}{acc:List Bool}{cZ:List Int}{out:List Bool}(h1:Bc next acc cZ out)(h2:uL next acc cZ out next.length)(c:Nat):
 bt out c=true↔wB next acc cZ c:=by
 refine⟨h1 c,fun h=>?_⟩
 induction h with
 |acc s hs h=>exact h2 s hs (by simp[EM,h])
 |step s hs x hx _ ih=>exact h2 s hs (by simp only[EM,Bool.or_eq_true,List.any_eq_true];exact .inr ⟨x,hx,ih⟩)
theorem Jb{next:List (List Int)}{acc:List Bool}{cZ:List Int}{out:List Bool}{k:Nat}(h:uL next acc cZ out k)(hk:EM out cZ (nx next k) (bt acc k)=true->bt out (cl cZ k)=true):
 uL next acc cZ out (k+1):=fun s b a=>by
 by_cases e:s=k
 .subst e;exact hk a
 .exact h s zo a
theorem Oq{next:List (List Int)}{acc:List Bool}{cZ:List Int}{out:List Bool}(d:Bc next acc cZ out){s:Nat}(b:s<next.length)(a:EM out cZ (nx next s) (bt acc s)=true):
 Bc next acc cZ (out.set (cl cZ s) true):=by
 intro c g;by_cases e:cl cZ s=c
 .subst e;simp only[EM,Bool.or_eq_true,List.any_eq_true]at a;rcases a with h|⟨x,f,h⟩
  .exact .acc s b h
  .exact .step s b x f (d _ h)
 .refine d c ?_;simpa [bt,List.getElem?_set,e]using g
theorem Y2{out:List Bool}:∀{c:Nat},c<out.length->bt out c=false->(out.set c true).count false+1=out.count false:=by
 induction out with
 |nil=>intro c h;simp at h
 |cons b out ih=>
  intro c h a
  cases c with
  |zero=>
   simp[bt]at a;subst a
   simp
  |succ c=>
   have:=@ih c qd9 (by simpa [bt]using a);simp only[List.set_cons_succ,List.count_cons];omega
theorem az1(g:Nat)(h':List Int)(next:List (List Int))(acc:List Bool)(cZ:List Int)(m:Mem)(w:zW)(hm:m.ay w)(ht:TabAt m g h' next acc cZ)
(ha:acc.length=next.length)(hk:cZ.length=next.length)(hn:∀r∈next,∀x∈r,0<=x/\x<next.length)(f':∀x∈cZ,0<=x/\x<next.length)(A':next.length<=1000001):
 Calls prog 189 #[.pointer (some ⟨g,0,none⟩)] w fun e w'=>∃r out,e=.returned r/\Below w.heap.size w w'/\jV (m.grow w w') r out/\out.length=next.length /\
  ∀c,bt out c=true↔wB next acc cZ c:=by
 obtain⟨vc,vn,va,vk,e1,e2,e3,e4,-,⟨na,nc,rfl,n1,n2,n3⟩,⟨aa,ac,rfl,a1,a2,a3⟩,⟨ka,kc,rfl,k1,k2,k3⟩⟩:=ht.ex;have hg:=Mem_cell_lt hm e1;have w2:=Mem_cell_w hm e2;have w3:=Mem_cell_w hm e3;have w4:=Mem_cell_w hm e4;unfold maxLen at n2 a2 k2;refine au fun R hR=>?_
 go_enter func189,ntmps189
 go_wp2_with (refine wpList_make_row WA rfl (.tmp 13) (.tmp 13) rfl next.length rfl rfl zo qdR ?_)
 intro w5 G t;have hO:=(Own.start hm).make G t;clear G t;have F:List.replicate next.length (Value.bool false)=(List.replicate next.length false).map Value.bool:=by simp
 rw[F]at hO;clear F;have W:Bc next acc cZ (List.replicate next.length false):=by
  intro c hc;simp[bt,List.getElem?_replicate]at hc
  split at hc<;>simp at hc
 generalize hB:w.heap.size=B at*
 have e':(List.replicate next.length false).length=next.length:=by simp
 generalize List.replicate next.length false=S at*
 go_wp2;refine aC [0,3,4] (fun n D Q=>∃(out:List Bool) (d:Bool),out.length=next.length/\n=(if d=true then out.count false+1 else 0) /\
  D=[.pointer (some ⟨g,0,none⟩),.slice (some ⟨B,0,none⟩) next.length next.length,.bool d]/\Own w m Q m [.row (.slice (some ⟨B,0,none⟩) next.length next.length) 4 1 next.length (out.map Value.bool)] /\
  Bc next acc cZ out/\(d=false->uL next acc cZ out next.length)) ?_ ?_
 .exact⟨_,S,true,e',rfl,rfl,hO,W,zS⟩
 clear hO W e';rintro X z n D Q hX-⟨out,d,J,rfl,rfl,hO,hs,hcl⟩;simp[bB,lk];have q2:=Mem_cell_w hO.ay e2;have A:=Mem_cell_lt hO.ay e1
 cases d with
 |false=>
  go_wp2;have hb:=nZ (l:=out) (m:=m) (w:=Q) (v:=.slice (some ⟨B,0,none⟩) next.length next.length) (by rw[J];exact hO.row)
  exact hR.o _ _ ⟨_,out,rfl,hB ▸ hO.az,nk hO.bO.done hb,J,Yo hs (hcl zS)⟩
 |true=>
  clear hcl;go_wp2;refine aC [0,3,4,20,21] (fun n D Q=>∃(ou:List Bool) (ag:Bool) (k:Nat),k<=next.length/\n=next.length-k/\ou.length=next.length /\
   D=[.pointer (some ⟨g,0,none⟩),.slice (some ⟨B,0,none⟩) next.length next.length,.bool ag,.int .i64 next.length,.int .i64 k]/\Own w m Q m [.row (.slice (some ⟨B,0,none⟩) next.length next.length) 4 1 next.length (ou.map Value.bool)] /\
   Bc next acc cZ ou/\(ag=true->ou.count false<out.count false)/\(ag=false->ou=out/\uL next acc cZ ou k)) ?_ ?_
  .exact⟨_,out,false,0,zG _,rfl,J,rfl,hO,hs,zS,fun _=>⟨rfl,fun s h=>absurd h zo⟩⟩
  clear hO q2 A;rintro Y z2 n D D' hY-⟨ou,ag,k,R',rfl,hlu,rfl,hO,hs2,hag,hcl⟩;simp[bB,lk];have q2:=Mem_cell_w hO.ay e2;have q3:=Mem_cell_w hO.ay e3;have q4:=Mem_cell_w hO.ay e4;have A:=Mem_cell_lt hO.ay e1;by_cases hlt:k<next.length
  .obtain⟨nb,no,rfl,n4⟩:=n3 qdP;obtain⟨ab,ao,rfl,a4⟩:=a3 (by intro h;simp[h]at ha;omega);obtain⟨kb,ko,rfl,k4⟩:=k3 (by intro h;simp[h]at hk;omega);obtain⟨u,c1,ra,rc,rfl,r1,r2,r3⟩:=n4 k hlt;have s':=Mem_cell_w hO.ay c1;have c2:=a4 k zo;have i':=Mem_cell_w hO.ay c2;have c3:=k4 k zo;have C:=Mem_cell_w hO.ay c3.1;have a':=hn next[k] (zF hlt);have c':nx next k=next[k]:=by simp[nx,hlt]
   have g':bt acc k=acc[k]:=J9 zo;rw[<-g']at i';have m':=f' cZ[k] (zF zo);obtain⟨q,K⟩:=zT m'.1;have H:cl cZ k=q:=by simp[cl,show k<cZ.length by omega,K]
   rw[K]at C;unfold maxLen at r2;generalize next[k]=row at*
   go_wp2;refine aC [0,3,4,20,21,5,6,37,38,39] (fun n D P=>∃j:Nat,j<=row.length/\n=row.length-j /\
    D=[.pointer (some ⟨g,0,none⟩),.slice (some ⟨B,0,none⟩) next.length next.length,.bool ag,.int .i64 next.length,.int .i64 k,.int .i64 k,.bool (EM ou cZ (row.take j) (bt acc k)),.slice ra row.length rc,.int .i64 row.length,.int .i64 j] /\
    Own w m P m [.row (.slice (some ⟨B,0,none⟩) next.length next.length) 4 1 next.length (ou.map Value.bool)]) ?_ ?_
   .exact⟨_,0,zG _,rfl,by simp[EM,g'],hO⟩
   clear hO q2 q3 q4 A s' i' C;rintro Z z3 n D P hZ-⟨j,hj,rfl,rfl,hO⟩;simp[bB,lk];have q4:=Mem_cell_w hO.ay e4;have A:=Mem_cell_lt hO.ay e1;by_cases hlt2:j<row.length
   .obtain⟨rb,ro,rfl,r4⟩:=r3 qeb;have d1:=Mem_cell_w hO.ay (r4 j hlt2).1;have hx:=a' row[j] (zF hlt2);obtain⟨O,l'⟩:=zT hx.1;have i:=Yg (out:=ou) (cZ:=cZ) (b:=bt acc k) hlt2;rw[l']at d1 hx i;have P':O<next.length:=zo;have V:=f' cZ[O] (zF zo);obtain⟨N,T⟩:=zT V.1;have d2:=Mem_cell_w hO.ay (k4 O zo).1;rw[T]at d2 V;have n':cl cZ ((O:Int).toNat)=N:=by simp[cl,show O<cZ.length by omega,T]
    rw[n']at i;have U:N<ou.length:=zo;have d3:=bL (j:=N) (u:=.bool ou[N]) hO.row (by simp[U]);rw[<-J9 U]at d3;generalize bt ou N=y at*
    have t':=zh i;clear i;generalize EM ou cZ (row.take j) (bt acc k)=ok at*
    go_wp2
    all_goals refine hZ.o _ _ _ zo rfl ⟨j+1,zo,rfl,?_,hO⟩
    all_goals rw[t'.o]
    all_goals first
     |rfl
     |simp_all
   .obtain rfl:j=row.length:=zo;rw[yG];have C:=Mem_cell_w hO.ay c3.1;rw[K]at C;have L:q<ou.length:=zo;have d3:=bL (j:=q) (u:=.bool ou[q]) hO.row (by simp[L]);have d4:=fI hO.row q;rw[<-J9 L]at d3;have M:=hO.setRow q (.bool true);have E:(ou.map Value.bool).set q (.bool true)=(ou.set q true).map Value.bool:=by rw[List.map_set]
    rw[E]at M;have f:=Y2 (out:=ou) (c:=q) L;have a:=Oq (s:=k) hs2 hlt;rw[H,c']at a;generalize b':EM ou cZ row (bt acc k)=ok at*
    generalize V:bt ou q=y at*
    have hclk:∀(_:ok=true->y=true) (_:ag=false),uL next acc cZ ou (k+1):=fun h1 h2=>
     Jb (hcl h2).2 (by rw[c',b',H,V];exact h1)
    have u':=zh M;have p:=zh (zi hag (zi hcl (zi f (zi a hclk))));clear M E hag hcl f a hclk b' V
    cases ok with
    |false=>
     go_wp2;obtain⟨hag,hcl,f,a,hclk⟩:=p.o
     exact qb7
    |true=>
     cases y with
     |true=>
      go_wp2;obtain⟨hag,hcl,f,a,hclk⟩:=p.o
      exact qb7
     |false=>
      go_wp2;obtain⟨hag,hcl,f,a,hclk⟩:=p.o;refine hY.o _ _ _ zo rfl ⟨ou.set q true,true,k+1,zo,rfl,by simp[hlu],rfl,u'.o,a zS,fun _=>?_,zS⟩;have:=f zS
      cases ag with
      |true=>have:=hag rfl;omega
      |false=>have:=(hcl rfl).1;subst this;omega
  .obtain rfl:k=next.length:=zo;have I:(if ag=true then ou.count false+1 else 0)<out.count false+1:=by
    split
    .exact Nat.add_lt_add_right (hag (by assumption)) 1
    .omega
   go_wp2;exact hX.o _ _ _ (by simpa using I) rfl ⟨ou,ag,hlu,rfl,rfl,hO,hs2,fun h=>(hcl h).2⟩
def txt(l:List Int):List UInt8:=l.flatMap fun x=>44::Lib.itoa x
def iK(l:List Int):List UInt8:=(txt l).tail
def Cv(l:List UInt8):Nat:=l.foldl (fun a c=>a*10+(c.toNat-48)) 0
theorem rT(u:Nat):Cv (Lib.decDigits u)=u/\∀c∈Lib.decDigits u,c≠44:=by
 induction u using Nat.strongRecOn with
 |_ u ih=>
  by_cases h:u<10
  .rw[Lib.decDigits,dif_pos h];have:(UInt8.ofNat (48+u)).toNat=48+u:=by simp;omega
   refine⟨by simp only[Cv,List.foldl];omega,fun c a e=>?_⟩;simp only[zZ]at a;subst a;rw[e]at this;have f:(44:UInt8).toNat=44:=rfl;omega
  .rw[Lib.decDigits,dif_neg h];have d:=ih (u/10) zo;have:(UInt8.ofNat (48+u%10)).toNat=48+u%10:=by simp;omega
   refine⟨?_,fun c a e=>?_⟩
   .unfold Cv at d⊢;rw[List.foldl_append,d.1];simp only[List.foldl];omega
   .rcases yP.1 a with b|b
    .exact d.2 c b e
    .simp only[zZ]at b;subst b;rw[e]at this;have f:(44:UInt8).toNat=44:=rfl;omega
theorem MJ{x:Int}(h:0<=x):Cv (Lib.itoa x)=x.toNat/\∀c∈Lib.itoa x,c≠44:=by
 unfold Lib.itoa;rw[zJ zo];exact rT x.toNat
theorem Wh:∀(a b r f:List UInt8),(∀c∈a,c≠44)->(∀c∈b,c≠44)->(r=[]\/∃t,r=44::t)->(f=[]\/∃t,f=44::t)->a++r=b++f->a=b/\r=f:=by
 intro a
 induction a with
 |nil=>
  intro b r f _ i h g e
  cases b with
  |nil=>exact⟨rfl,by simpa using e⟩
  |cons c b=>
   exfalso;rcases h with rfl|⟨t,rfl⟩
   .simp at e
   .simp at e;exact i c zS e.1.symm
 |cons c a ih=>
  intro b r f j i h g e
  cases b with
  |nil=>
   exfalso;rcases g with rfl|⟨t,rfl⟩
   .simp at e
   .simp at e;exact j c zS e.1
  |cons d b=>
   simp only[xK,List.cons.injEq]at e;obtain⟨l,k⟩:=ih b r f (fun x hx=>j x qd8) (fun x hx=>i x qd8) h g e.2;exact⟨by rw[e.1,l],k⟩
theorem De(l:List Int):txt l=[]\/∃t,txt l=44::t:=by
 cases l with
 |nil=>exact .inl rfl
 |cons x l=>exact .inr ⟨Lib.itoa x++txt l,by simp[txt]⟩
theorem czD:∀(l c:List Int),(∀x∈l,0<=x)->(∀x∈c,0<=x)->txt l=txt c->l=c:=by
 intro l
 induction l with
 |nil=>
  intro c _ _ e
  cases c with
  |nil=>rfl
  |cons x c=>simp[txt]at e
 |cons x l ih=>
  intro c g f e
  cases c with
  |nil=>simp[txt]at e
  |cons y c=>
   have e:44::(Lib.itoa x++txt l)=44::(Lib.itoa y++txt c):=by simpa [txt]using e
   simp only[List.cons.injEq,true_and]at e;have i:=MJ (g x zS);have h:=MJ (f y zS);obtain⟨k,j⟩:=Wh _ _ _ _ i.2 h.2 (De l) (De c) e;have d:x=y:=by
    have a:=g x zS;have b:=f y zS;have:=i.1.symm.trans ((congrArg Cv k).trans h.1);omega
   rw[d,ih c (fun z hz=>g z qev) (fun z hz=>f z qev) j]
theorem Tu{l c:List Int}(f:l≠[])(d:c≠[])(h:∀x∈l,0<=x)(g:∀x∈c,0<=x)(e:iK l=iK c):l=c:=by
 apply czD l c h g
 cases l with
 |nil=>exact absurd rfl f
 |cons x l=>
  cases c with
  |nil=>exact absurd rfl d
  |cons y c=>
   have a:txt (x::l)=44::iK (x::l):=by simp[iK,txt]
   have b:txt (y::c)=44::iK (y::c):=by simp[iK,txt]
   rw[a,b,e]
theorem PV(x y:Int)(l:List Int):iK (x::(l++[y]))=iK (x::l)++44::Lib.itoa y:=by simp[iK,txt]
theorem Tt(x:Int):iK [x]=Lib.itoa x:=by simp[iK,txt]
theorem PO(l:List UInt8):Lib.strCells ⟨l.toArray⟩=Lib.byteCells l:=by simp[Lib.strCells,Lib.byteCells]
theorem BJ(a b:List UInt8):Lib.byteCells (a++b)=Lib.byteCells a++Lib.byteCells b:=by simp[Lib.byteCells]
theorem UI(w:zW)(k:Nat)(a:Array Obj):zB w (Sort.grow (w.drewN k) a):=by
 refine(below_drewN (zR _ w) k).trans ⟨rfl,rfl,rfl,?_,fun j b=>?_⟩
 .simp[Sort.grow]
 .show(w.heap++a)[j]?=w.heap[j]?;exact Array.getElem?_append_left b
theorem Iq(l:List Int)(h:∀x∈l,0<=x/\x<=9223372036854775807):(iK l).length<=22*l.length:=by
 have:(txt l).length<=22*l.length:=by
  induction l with
  |nil=>simp[txt]
  |cons x l ih=>
   have b:=Lib.itoa_length_le x (by have:=h x zS;omega) (h x zS).2;have a:=ih fun y hy=>h y qei;simp only[txt,xO,zL,yO]at a⊢;omega
 unfold iK;rw[List.length_tail];omega
theorem azw{B:Nat}{w w':zW}{e:TypeId}{v:zV}{n:Nat}{xs:List Value}(h:w.ownsRow B e 1 v n xs)(j:zB w w'):w'.ownsRow B e 1 v n xs:=by
 obtain⟨k,a⟩:=h;refine⟨k,?_⟩;rcases a with a|⟨g,c,b,f,i,d,r⟩
 .exact .inl a
 .exact .inr ⟨g,c,b,f,i,by rw[j.block g (yC.1 d).1];exact d,r⟩
theorem Ec{T e:TypeId}{B b:Nat}{p:zV}{d:List Value}{w w':zW}(h:Lib.BuilderAt T e B b p d w)(a:zB w w'):Lib.BuilderAt T e B b p d w':=by
 obtain⟨i,v,c,g,f⟩:=h;exact⟨i,v,by rw[a.block b (yC.1 c).1];exact c,azw g a,f⟩
theorem Sr(n:Int)(h : -9223372036854775808<=n/\n<=9223372036854775807)(m:Mem)(w:zW)(c:m.ay w)(a:dV m):
 zX 251 #[.int .i64 n] w (.string ⟨(Lib.itoa n).toArray⟩):=by
 refine(Tryz.strconv_Itoa n h.1 h.2 w (a.get w c)).mono ?_;rintro e w' ⟨rfl,k,b,rfl⟩;exact⟨rfl,UI w k b⟩
theorem KP(g s:Nat)(vc vn va vk:zV)(next:List (List Int))(cZ:List Int)(m:Mem)(w:zW)(hm:m.ay w)(C:dV m)(Q:aZ w g 228 #[vc,vn,va,vk])
(hn:sS m vn next)(hk:jd m vk cZ)(hs:s<next.length)(A:s<cZ.length)(P:∀x∈cZ,0<=x)(O:∀x∈next[s],0<=x/\x<cZ.length)(q':next[s].length<=1000):
 zX 188 #[.pointer (some ⟨g,0,none⟩),.int .i64 s] w (.string ⟨(iK (cZ.getD s 0::next[s].map fun x=>cZ.getD x.toNat 0)).toArray⟩):=by
 have U:cZ.getD s 0=cZ[s]:=by simp[A]
 rw[U];clear U;obtain⟨na,nc,rfl,n1,n2,n3⟩:=hn;obtain⟨ka,kc,rfl,k1,k2,k3⟩:=hk;obtain⟨nb,no,rfl,n4⟩:=n3 qel;obtain⟨kb,ko,rfl,k4⟩:=k3 (by intro h;simp[h]at A);obtain⟨u,c1,ra,rc,rfl,r1,r2,r3⟩:=n4 s hs;have Z:=k4 s A;have h':=P cZ[s] (zF A);unfold maxLen at n2 k2 r2;have J:=Q.lt;have V:∀i (h:i<next[s].length),∃v:Nat,next[s][i]=v/\v<cZ.length:=fun i h=>by
  have:=O next[s][i] (zF h);exact⟨next[s][i].toNat,zo,zo⟩
 generalize next[s]=row at*
 generalize K':cZ[s]=D at*
 have b:∀x∈D::row.map (fun x=>cZ.getD x.toNat 0),0<=x/\x<=9223372036854775807:=by
  intro x F;rcases yA.1 F with rfl|F
  .exact⟨h',Z.2.2⟩
  .obtain⟨y,hy,rfl⟩:=yD.1 F;have:=O y hy;have hl:y.toNat<cZ.length:=zo;simp only[yU,hl,yH,xA];exact⟨P _ (zF hl),(k4 _ hl).2.2⟩
 refine au fun R hR=>?_;have S:Lib.BuilderAt 291 5 w.heap.size w.heap.size (.pointer none) (Lib.byteCells []) (w.alloc (.cells #[.pointer none,.slice none 0 0] 291)):=by
  refine⟨zI _,.slice none 0 0,(aZ.new _ _ _).get,?_,by simp[Value.ownBlock]⟩;exact World.ownsRow_nil _ _ _ _
 have d:=(zR _ w).alloc (zI _) (.cells #[.pointer none,.slice none 0 0] 291);have h0:=Q.al (.cells #[.pointer none,.slice none 0 0] 291);have p3:=h0.cell (i:=3) rfl;have p1:=h0.cell (i:=1) rfl;have G:=Mem_inn_below hm d;have p4:=Mem_cell_w G Z.1;have Hb:=zh (zi S (zi d G));clear S d h0 G
 go_enter func188,ntmps188
 go_wp2_with fail
 refine(Sr _ Z.2 m _ Hb.o.2.2 C).mono ?_;rintro e w2 ⟨rfl,k⟩;have t:Lib.IsBuilder 291 5 w.heap.size w.heap.size (Lib.byteCells []) w2:=.inl (Ec Hb.o.1 k);have f:=Hb.o.2.1.trans (k.mono zS);have I:=Lib.itoa_length_le D zo Z.2.2
 go_wp2_with fail
 refine(ww w.heap.size w.heap.size _ _ _ t qeN f.size).mono ?_;rintro e w4 ⟨rfl,p,r⟩;have c:=f.trans r;rw[PO,<-BJ,xN,<-Tt]at p;have K:=(Q.az c J).cell (i:=3) rfl;have j':=(Q.az c J).cell (i:=1) rfl;have i':=Mem_cell_w (Mem_inn_below hm c) c1;have Hk:=zh (zi p (zi c b));clear Hb k t f I p r c p3 p1 p4 b;go_wp2;refine aC [0,1,5,23,24,25] (fun n vs wr=>∃j:Nat,j<=row.length/\n=row.length-j /\
  vs=[.pointer (some ⟨g,0,none⟩),.int .i64 s,.pointer (some ⟨w.heap.size,0,none⟩),.slice ra row.length rc,.int .i64 row.length,.int .i64 j] /\
  Lib.BuilderAt 291 5 w.heap.size w.heap.size (.pointer (some ⟨w.heap.size,0,none⟩)) (Lib.byteCells (iK (D::(row.take j).map fun x=>cZ.getD x.toNat 0))) wr/\zB w wr) ?_ ?_
 .exact⟨_,0,zG _,rfl,rfl,by simpa using Hk.o.1,Hk.o.2.1⟩
 clear K j' i';rintro X z n vs wr hX-⟨j,hj,rfl,rfl,T,a⟩;simp[bB,lk];have b:=Hk.o.2.2;by_cases hlt:j<row.length
 .obtain⟨rb,ro,rfl,r4⟩:=r3 qdP;have B:=Mem_inn_below hm a;have d1:=Mem_cell_w B (r4 j hlt).1;obtain⟨v,E,L⟩:=V j hlt;have Y:=k4 v L;have l':=Mem_cell_w B Y.1;have K:=(Q.az a J).cell (i:=3) rfl;have M:=zH hlt;have N:iK (D::(row.take (j+1)).map fun x=>cZ.getD x.toNat 0)=iK (D::(row.take j).map fun x=>cZ.getD x.toNat 0)++44::Lib.itoa cZ[v]:=by
   rw[M,yI,E];have:cZ.getD ((v:Int).toNat) 0=cZ[v]:=by simp[L]
   rw[yL,this,xB,PV]
  have H:(iK (D::(row.take j).map fun x=>cZ.getD x.toNat 0)).length<=22*1001:=by
   refine yJ (Iq _ fun x F=>b x ?_) ?_
   .rcases yA.1 F with rfl|F
    .simp
    .obtain⟨y,hy,rfl⟩:=yD.1 F;exact zU _ (yD.2 ⟨y,xX hy,rfl⟩)
   .simp;omega
  rw[E]at d1;have I:=Lib.itoa_length_le cZ[v] Y.2.1 Y.2.2;have HS:=zh N;clear N M E;generalize iK (D::(row.take j).map fun x=>cZ.getD x.toNat 0)=tx at*
  have q:=zh (zi T (zi a B));clear T B;generalize cZ[v]=y at*
  go_wp2_with fail
  refine(Sr _ Y.2 m _ q.o.2.2 C).mono ?_;rintro e w2 ⟨rfl,k⟩;have t:Lib.IsBuilder 291 5 w.heap.size w.heap.size (Lib.byteCells tx) w2:=.inr (Ec q.o.1 k);have f:=a.trans (k.mono a.size)
  go_wp2_with fail
  refine(ww w.heap.size w.heap.size _ _ _ t qeN f.size).mono ?_;rintro e w4 ⟨rfl,p,r⟩;have e4:∀l:List UInt8,Lib.strCells ((⟨#[44]⟩:ByteArray)++(⟨l.toArray⟩:ByteArray))=Lib.byteCells (44::l):=fun l=>by
   simp[Lib.strCells,Lib.byteCells]
  rw[e4,<-BJ,<-HS.o]at p;have c:=f.trans r;have W:=zh (zi p c);clear p r c f k t H I e4 K d1 l';go_wp2;exact hX.o _ _ _ zo rfl ⟨j+1,zo,rfl,rfl,W.o.1,W.o.2⟩
 .obtain rfl:j=row.length:=zo;rw[yG]at T;have q:=zh (zi T a);clear T a b
  go_wp2_with fail
  refine(Tryz.Builder_String_any w.heap.size w.heap.size _ _ (.inr q.o.1) q.o.2.size).mono ?_;rintro e w5 ⟨rfl,hb⟩;go_wp2;exact hR.o _ _ ⟨rfl,q.o.2.trans hb⟩
def Gp(next:List (List Int))(s i:Nat):Int:=(nx next s).getD i 0
theorem ez7{next:List (List Int)}{cZ:List Int}{K s:Nat}(a:s<next.length)(c:next[s].length=K)(b:∀x∈next[s],0<=x)(_:s<cZ.length):
 sig cZ (Gp next) K s=cZ.getD s 0::next[s].map fun x=>cZ.getD x.toNat 0:=by
 unfold sig Gp nx;have f:next.getD s []=next[s]:=by simp[a]
 rw[f]
 congr 1
 apply vF
 .simp[c]
 .intro i g d;have hi:i<next[s].length:=by simpa using d
  have h:=b _ (zF hi);simp only[xQ,List.getElem_range];have e:next[s].getD i 0=next[s][i]:=by simp[hi]
  rw[e];unfold M9;rw[zJ zo]
def Pf(f:Lit->Option Int)(a:List (List Int)):Prop:=
 ∀l,l≠[]->(∀x∈l,0<=x)->f (.string (iK l))=if a.findIdx (·==l)<a.length then some ((a.findIdx (·==l):Nat):Int)else none
theorem Uh:Pf (fun _=>none) []:=fun l _ _=>by simp
theorem Ug{f:Lit->Option Int}{a:List (List Int)}(h:Pf f a){x:List Int}(m:x≠[])(i:∀y∈x,0<=y)(n:¬a.findIdx (·==x)<a.length):
 Pf (KZ f (.string (iK x)) a.length) (a++[x]):=by
 intro l k b;by_cases c:l=x
 .subst c;rw[AZ,List.findIdx_append,zJ n];simp[List.findIdx_cons]
 .have j:Lit.string (iK l)≠Lit.string (iK x):=fun e=>c (Tu k m b i (by simpa using e));rw[vL f _ j,h l k b,List.findIdx_append];by_cases d:a.findIdx (·==l)<a.length
  .rw[zK d,zK d,zK qdW]
  .have g:¬(x==l)=true:=by simpa using fun e=>c (Eq.symm e)
   rw[zJ d,zJ d,zJ];simp[List.findIdx_cons,g];omega
theorem TW(f:Nat->List Int)(k:Nat):ig f (k+1)=(if(ig f k).1.findIdx (·==f k)<(ig f k).1.length then(ig f k).1 else(ig f k).1++[f k],(ig f k).2++[((ig f k).1.findIdx (·==f k):Int)]):=rfl
def lg(nx:List Int)(r:Nat):List Value:=(nx++List.replicate r 0).map (Value.int .i64)
theorem sU{nx:List Int}{r k:Nat}(h:nx.length=k)(a:0<r):(lg nx r)[k]?=some (.int .i64 0):=by
 unfold lg;rw[List.getElem?_map,yN zo];simp[h,a]
theorem zq{nx:List Int}{r k:Nat}(h:nx.length=k)(a:0<r)(x:Int):(lg nx r).set k (.int .i64 x)=lg (nx++[x]) (r-1):=by
 unfold lg;obtain⟨q,rfl⟩:∃q,r=q+1:=⟨r-1,zo⟩;rw[yI,List.set_append_right _ _ qdW,yI,yI];simp[h,List.replicate_succ]
theorem F8(nx:List Int):lg nx 0=nx.map (Value.int .i64):=by simp[lg]
theorem DW(n:Nat):List.replicate n (Value.int .i64 0)=lg [] n:=by simp[lg]
def ZL(b:Bool):Int:=if b=true then 1 else 0
theorem Q7{acc:List Bool}{k N:Nat}(h:k<acc.length)(a:acc.length=N):
 lg ((acc.take (k+1)).map ZL) (N-(k+1))=(lg ((acc.take k).map ZL) (N-k)).set k (.int .i64 (ZL acc[k])):=by
 rw[zq qdW zo,zH h,yI]
 rfl
structure G7 (T:aK) (cuts:List Int) (next:List (List Int)) (acc:List Bool) (lo hi:Nat->Nat):Prop where
 ta:Xc T next.length lo hi cuts.length (Gp next)
 dz0:∀s,s<next.length->acc.getD s false=bI T s
 Bg:acc.length=next.length
 rows:∀r∈next,r.length=cuts.length/\∀x∈r,0<=x/\x<next.length
 pos:1<=next.length
 gzt:cuts.length<=256
 fzr:next.length<=1000001
theorem Lu(w:zW):(zeroValue 3).run prog w=.ok (.int .i64 0) w:=by kernel_rfl
theorem Dk:prog.underlying 230=some (.map 9 3):=underlying230
theorem Uy(l:List UInt8)(h:l.length<=maxLen):keyOf prog 9 (.string ⟨l.toArray⟩)=some (.string l):=by
 simpa using WideMaps.keyOf_string_mk (P:=prog) underlying9 (s:=⟨l.toArray⟩) (by simpa [ByteArray.size]using h)
theorem VY{n:Nat}(h:n<=2000000):(Lit.int .i64 (n:Int)).wf=true:=by
 have b:IntKind.i64.min = -9223372036854775808:=by decide
 have a:IntKind.i64.max=9223372036854775807:=by decide
 simp only[Lit.wf,b,a,xG,decide_eq_true_eq];omega
theorem TE(g:Nat)(vc vn va:zV)(T:aK)(p:List Int)(next:List (List Int))(acc:List Bool)(lo hi:Nat->Nat)(H:G7 T p next acc lo hi)(m mk:Mem)(w0 w:zW)(L:List Cl.bA)(N':dV mk)
(hO:Own w0 m w mk (.obj g 228 #[vc,vn,va,.slice none 0 0]::L))(hn:sS mk vn next)(ha:jV mk va acc):
 zC 154 #[.pointer (some ⟨g,0,none⟩)] w fun e w'=>∃mk' vk cZ,e=.returned (.tuple #[])/\Own w0 m w' mk' (.obj g 228 #[vc,vn,va,vk]::L)/\mk.le mk'/\jd mk' vk cZ/\KE T next.length cZ:=by
 obtain⟨na,nc,rfl,n1,n2,n3⟩:=hn;obtain⟨aa,ac,rfl,a1,a2,a3⟩:=ha;unfold maxLen at n2 a2;have hpos:=H.pos;have G':=H.fzr;have halen:=H.Bg.symm ▸ G';have hclen:=H.gzt;refine au fun R hR=>?_;have q1:=hO.obj.c 1;have q2:=hO.obj.c 2;have ql:=hO.obj.lt
 go_enter func154,ntmps154
 go_step3
 go_wp2_with (refine wpList_make_row Oh rfl (.tmp 17) (.tmp 17) rfl next.length rfl rfl zo qdR ?_)
 intro w1 D v;have E:=(hO.make D v).av;have f3:=E.obj.frozen 3;have c3:=E.obj.c 3;have c2:=E.obj.c 2;have cl:=E.obj.lt;have I:Own w0 m (w1.setCell ⟨g,3,none⟩ (.slice (some ⟨w.heap.size,0,none⟩) next.length next.length)) mk
  (.obj g 228 #[vc,.slice na next.length nc,.slice aa acc.length ac,.slice (some ⟨w.heap.size,0,none⟩) next.length next.length]::.row (.slice (some ⟨w.heap.size,0,none⟩) next.length next.length) 3 1 next.length (List.replicate next.length (Value.int .i64 0))::L):=
  E.set 3 (.slice (some ⟨w.heap.size,0,none⟩) next.length next.length)
 rw[DW]at I;clear D v E q1 q2 ql;have l':=zh I;clear I;generalize w.heap.size=B at*
 go_wp2;refine aC [0,24,25,26] (fun n vs wr=>∃k:Nat,k<=acc.length/\n=acc.length-k/\vs=[.pointer (some ⟨g,0,none⟩),.slice aa acc.length ac,.int .i64 acc.length,.int .i64 k] /\
  Own w0 m wr mk (.obj g 228 #[vc,.slice na next.length nc,.slice aa acc.length ac,.slice (some ⟨B,0,none⟩) next.length next.length]::.row (.slice (some ⟨B,0,none⟩) next.length next.length) 3 1 next.length (lg ((acc.take k).map ZL) (next.length-k))::L)) ?_ ?_
 .exact⟨_,0,zG _,rfl,rfl,by simpa using l'.o⟩
 clear l' f3 c3 c2 cl;rintro X z n vs wr hX-⟨k,hk,rfl,rfl,a⟩;simp[bB,lk];by_cases hlt:k<acc.length
 .obtain⟨ab,ao,rfl,a4⟩:=a3 qdP;have d1:=Mem_cell_w a.ay (a4 k hlt);have c3:=a.obj.c 3;have cl:=a.obj.lt;have Hlen:=zh H.Bg;have s':=zh (Q7 hlt H.Bg);have r1:=bL (j:=k) (u:=.int .i64 0) a.av.row (sU qdW qih);have r2:=fI a.av.row k;have r3:k<next.length:=by have:=H.Bg;omega
  have d:=(a.av.setRow k (.int .i64 1)).av;have HO:=zh (zi a d);clear a d
  cases hb:acc[k]with
  |true=>
   rw[hb]at d1 s';go_wp2;refine hX.o _ _ _ zo rfl ⟨k+1,zo,rfl,rfl,?_⟩;rw[s'.o]
   exact HO.o.2
  |false=>
   rw[hb]at d1 s';go_wp2;refine hX.o _ _ _ zo rfl ⟨k+1,zo,rfl,rfl,?_⟩;rw[s'.o,show Value.int .i64 (ZL false)=.int .i64 0 from rfl];have:∀{xs:List Value},xs[k]?=some (.int .i64 0)->xs.set k (.int .i64 0)=xs:=fun {xs} h=>by
    obtain⟨h1,h2⟩:=yB.1 h;rw[<-h2,List.set_getElem_self]
   rw[this (sU qdW qih)];exact HO.o.1
 .obtain rfl:k=acc.length:=zo;have U':lg (acc.map ZL) (next.length-acc.length)=(acc.map ZL).map (Value.int .i64):=by rw[H.Bg,Nat.sub_self,F8]
  rw[yG,U']at a;clear U';have a':Ku T next.length (acc.map ZL) 0:=X7 H.pos (by simp[H.Bg]) fun s hs=>by
   rw[<-H.dz0 s hs];have:s<acc.length:=by have:=H.Bg;omega
   simp[this,ZL]
  have hS:=a.av;have p':=jM (l:=acc.map ZL) (m:=mk) (by simpa [H.Bg]using hS.row) (fun x hx=>by
   obtain⟨b,-,rfl⟩:=yD.1 hx;unfold ZL;split<;>omega)
  have d:=hS.bO;have Q:=Mem_le_addv (w:=wr) hS.free;generalize mk.iH wr (.slice (some ⟨B,0,none⟩) next.length next.length)=N at*
  generalize Value.slice (some ⟨B,0,none⟩) next.length next.length=vk at*
  generalize acc.map ZL=V' at*
  have A:=zh (zi a' (zi p' (zi d Q)));clear a' p' d Q a hS;go_wp2
  go_step3
  go_wp2;refine aC [0,4,5] (fun n vs wr=>∃(q:Nat) (cZ:List Int) (vk:zV) (mk':Mem),n=next.length-q/\q<=next.length /\
   vs=[.pointer (some ⟨g,0,none⟩),.int .i64 q,.func (.func 188) #[.pointer (some ⟨g,0,none⟩)] #[]] /\
   Ku T next.length cZ q/\jd mk' vk cZ/\Own w0 m wr mk' (.obj g 228 #[vc,.slice na next.length nc,.slice aa acc.length ac,vk]::L)/\mk.le mk') ?_ ?_
  .exact⟨_,0,V',vk,N,rfl,zG _,rfl,A.o.1,A.o.2.1,A.o.2.2.1,A.o.2.2.2⟩
  clear A a3;rintro Y z n vs wr hY-⟨q,cZ,vk,N,rfl,hmany,rfl,F,p',hO,Q⟩;simp[bB,lk];have Hmm:=@run_makeMap prog;have E:=hO.CF (.map #[] 0);have p1:=E.av.obj.c 1;have pl:=E.av.obj.lt;have W':=zh E;clear E
  go_wp2_with (refine wpList_make_row Oh rfl (.tmp 46) (.tmp 46) rfl next.length rfl rfl zo qdR ?_)
  intro w1 D v;have I:=(W'.o.make (by simpa using D) v);have O':(wr.alloc (.map #[] 0)).heap.size=wr.heap.size+1:=by simp
  rw[DW,O']at I;have p1:=I.aP.obj.c 1;have pl:=I.aP.obj.lt;have l':=zh I;clear I D v W' O' Hmm;generalize hM:wr.heap.size=M at*
  go_wp2;have d':cZ.length=next.length:=F.len;have Hrd:=zh (X8 H.ta H.pos F);have hS:∀s (h:s<next.length),sig cZ (Gp next) p.length s=cZ.getD s 0::next[s].map fun x=>cZ.getD x.toNat 0:=fun s h=>
   ez7 h (H.rows _ (zF h)).1 (fun x hx=>((H.rows _ (zF h)).2 x hx).1) zo
  have h':∀x∈cZ,0<=x:=fun x hx=>by
   obtain⟨i,hi,rfl⟩:=yT.1 hx;have:=(F.iZ i zo).1;simpa [hi]using this
  have HS:=zh (zi hS (zi d' (zi h' F)));clear hS d' h' F;have A':=Wu (sig cZ (Gp next) p.length);have HN:=zh A';clear A';refine aC [0,4,5,6,7,52,53] (fun n vs w3=>∃(k:Nat) (ob:Obj) (f:Lit->Option Int),k<=next.length/\n=next.length-k /\
   vs=[.pointer (some ⟨g,0,none⟩),.int .i64 q,.func (.func 188) #[.pointer (some ⟨g,0,none⟩)] #[],.map (some M),.slice (some ⟨M+1,0,none⟩) next.length next.length,.int .i64 next.length,.int .i64 k] /\
   Own w0 m w3 N (.row (.slice (some ⟨M+1,0,none⟩) next.length next.length) 3 1 next.length (lg (ig (sig cZ (Gp next) p.length) k).2 (next.length-k))::.gT M ob ::
    .obj g 228 #[vc,.slice na next.length nc,.slice aa acc.length ac,vk]::L) /\
   uM prog 9 3 ob k (ig (sig cZ (Gp next) p.length) k).1.length f/\Pf f (ig (sig cZ (Gp next) p.length) k).1) ?_ ?_
  .exact⟨_,0,_,_,zG _,rfl,rfl,l'.o,uM.made _ _ _,Uh⟩
  clear l' p1 pl;rintro Z z n vs w3 hZ-⟨k,ob,f,hk,rfl,rfl,a,hI,k'⟩;simp[bB,lk];by_cases hlt:k<next.length
  .obtain⟨hS,hcl,h',F⟩:=HS.o;have G:=H.rows _ (zF hlt);have U:=KP g k vc (.slice na next.length nc) (.slice aa acc.length ac) vk next cZ N w3 a.ay (N'.le Q) a.aP.obj (Cn Q ⟨na,nc,rfl,n1,by unfold maxLen;exact n2,n3⟩) p' hlt zo h' (fun x hx=>by have:=G.2 x hx;omega) zo;rw[<-hS k hlt]at U;have W:sig cZ (Gp next) p.length k≠[]:=by rw[hS k hlt];simp
   have j':∀y∈sig cZ (Gp next) p.length k,0<=y:=by
    rw[hS k hlt];intro y hy;rcases yA.1 hy with rfl|hy
    .exact(F.iZ k hlt).1
    .obtain⟨u,hu,rfl⟩:=yD.1 hy;have:=G.2 u hu;have hl:u.toNat<cZ.length:=zo;simp only[yU,hl,yH,xA];exact h' _ (zF hl)
   have hcbnd:(iK (sig cZ (Gp next) p.length k)).length<=22*300:=by
    refine yJ (Iq _ fun x hx=>⟨j' x hx,?_⟩) ?_
    .rw[hS k hlt]at hx;have hcb:∀i (h:i<cZ.length),cZ[i]<=9223372036854775807:=fun i h=>by
      have:=(F.iZ i zo).2;simp only[yU,h,yH,xA]at this;omega
     rcases yA.1 hx with rfl|hx
     .have:=(F.iZ k hlt).2;omega
     .obtain⟨u,hu,rfl⟩:=yD.1 hx;have:=G.2 u hu;have hl:u.toNat<cZ.length:=zo;simp only[yU,hl,yH,xA];exact hcb _ _
    .simp[sig];omega
   have S:=k' _ W j';have K:=Ug k' W j';have t:=HN.o k;have g':=TW (sig cZ (Gp next) p.length) k;generalize ig (sig cZ (Gp next) p.length) k=r at*
   generalize sig cZ (Gp next) p.length k=x at*
   clear hS hcl h' F G;have c':=Uy (iK x) qdR;have b':=t.le;have R':r.1.findIdx (·==x)<=r.1.length:=List.findIdx_le_length;have P':=t.len;have hmw:=a.av.gT;have A:=zh (zi K (zi g' (zi P' k')));clear K g' t P' k';generalize iK x=tx at*
   obtain⟨sn,nx⟩:=r;simp only at S b' R' hI a A;by_cases hf:sn.findIdx (·==x)<sn.length
   .rw[zK hf]at S;generalize sn.findIdx (·==x)=idx at*
    have HF:=zh (zi S c');clear S c' W j'
    go_wp2_with (go_at_call 188;refine U.mono ?_;rintro e w4 ⟨rfl,H'⟩)
    have d:=a.aS H';have J:=hI.il (Maps.string_keyed underlying9) Dk underlying3 Lu d.av.gT HF.o.2;rw[HF.o.1]at J;simp only[xA,Option.isSome_some]at J;have r1:=bL (j:=k) (u:=.int .i64 0) d.row (sU A.o.2.2.1 zo);have r2:=fI d.row k;have r3:=(World.ownsRow.lt d.row _ rfl).2;have C:=d.setRow k (.int .i64 idx);rw[zq A.o.2.2.1 zo]at C;have t':=zh C;clear C d;go_wp2;refine hZ.o _ _ _ zo rfl ⟨k+1,ob,f,zo,rfl,rfl,?_,?_,?_⟩
    .rw[A.o.2.1,zK hf];exact t'.o
    .rw[A.o.2.1,zK hf];exact hI.mono zo
    .rw[A.o.2.1,zK hf];exact A.o.2.2.2
   .rw[zJ hf]at S;have y':sn.findIdx (·==x)=sn.length:=zo;have K:=A.o.1 hf;have F':=A.o.2.2.1;have g':=A.o.2.1;rw[zJ hf,y']at g';clear y' A hf R';have HF:=zh (zi S (zi c' (zi K g')));clear S c' W j' K g'
    go_wp2_with (go_at_call 188;refine U.mono ?_;rintro e w4 ⟨rfl,H'⟩)
    have d:=a.aS H';have P:=d.av.gT;have J:=hI.il (Maps.string_keyed underlying9) Dk underlying3 Lu P HF.o.2.1;rw[HF.o.1]at J;simp only[Option.getD_none,Option.isSome_none]at J;have hln:=fun ty=>hI.Wj Dk P ty;obtain⟨w5,ob5,hr5,T',q',Q'⟩:=hI.AP (Maps.string_keyed underlying9) Dk underlying3 P qdR HF.o.2.1 (VY (n:=sn.length) zo);rw[HF.o.1]at q';simp only[Option.isSome_none]at q';have C:=(d.av.jU T' Q').av;have r1:=bL (j:=k) (u:=.int .i64 0) C.row (sU F' zo);have r2:=fI C.row k;have r3:=(World.ownsRow.lt C.row _ rfl).2;have V:=C.setRow k (.int .i64 sn.length);rw[zq F' zo]at V;have t':=zh (zi V q');clear V C d q' F' T' Q' P hmw;go_wp2;refine hZ.o _ _ _ zo rfl ⟨k+1,ob5,KZ f (.string tx) sn.length,zo,rfl,rfl,?_,?_,?_⟩
    .rw[HF.o.2.2.2];exact t'.o.1
    .rw[HF.o.2.2.2];simpa using t'.o.2
    .rw[HF.o.2.2.2];exact HF.o.2.2.1
  .obtain rfl:k=next.length:=zo;rw[Nat.sub_self,F8]at a;have t:=HN.o next.length;have E':=Hrd.o;generalize ig (sig cZ (Gp next) p.length) next.length=r at*
   obtain⟨sn,nx⟩:=r;simp only at a hI E' t;have x':=jM (l:=nx) (m:=N) (by rw[t.len];exact a.row) (fun y hy=>by
    obtain⟨i,hi,rfl⟩:=yT.1 hy;have:=t.iZ (s:=i) (by rw[<-t.len];exact hi);simp only[yU,hi,yH,xA]at this;have:=t.le;simp only at this;omega)
   have b':=Mem_le_addv (w:=w3) a.free;have d:=a.bO.av;have f3:=d.obj.frozen 3;have c3:=d.obj.c 3;have cl:=d.obj.lt;have V:Own w0 m (w3.setCell ⟨g,3,none⟩ (.slice (some ⟨M+1,0,none⟩) next.length next.length)) (N.iH w3 (.slice (some ⟨M+1,0,none⟩) next.length next.length))
    (.obj g 228 #[vc,.slice na next.length nc,.slice aa acc.length ac,.slice (some ⟨M+1,0,none⟩) next.length next.length]::.gT M ob::L):=d.set 3 (.slice (some ⟨M+1,0,none⟩) next.length next.length)
   have P:=V.av.gT;have hln:=fun ty=>hI.Wj Dk P ty;have C:=V.av.tail;clear V P;generalize N.iH w3 (.slice (some ⟨M+1,0,none⟩) next.length next.length)=L' at*
   have A:=zh (zi x' (zi b' (zi C E')));clear x' b' C d a E' hI k';by_cases O:sn.length=q
   .have S':((sn.length:Int)==(q:Int))=true:=by simp[O]
    have HT:=zh O;clear O;go_wp2
    go_end0
    exact hR.o _ _ ⟨L',_,nx,rfl,A.o.2.2.1,Mem.le_trans Q A.o.2.1,A.o.1,A.o.2.2.2.2.2.2.2 HT.o⟩
   .have S':((sn.length:Int)==(q:Int))=false:=by simp;omega
    have hq1:=A.o.2.2.2.2.1;have hq2:=A.o.2.2.2.2.2.1;go_wp2;exact hY.o _ _ _ zo rfl ⟨sn.length,nx,_,L',rfl,zo,rfl,A.o.2.2.2.1,A.o.1,A.o.2.2.1,Mem.le_trans Q A.o.2.1⟩
theorem Dc:fB prog 103 102 3 16:=⟨underlying103,zo,by
 obtain⟨i,d,c,b,a⟩:=info_parts (P:=prog) (e:=102) (z:=.agg #[.int .u8 0,.int .u8 0,.int .i64 0]) (size:=3) (bytes:=16) zk;exact⟨i,_,d,c,b,a,rfl⟩⟩
theorem q9:fB prog 25 105 2 32:=⟨underlying25,zo,by
 obtain⟨i,d,c,b,a⟩:=info_parts (P:=prog) (e:=105) (z:=.agg #[.bool false,.slice none 0 0]) (size:=2) (bytes:=32) zk;exact⟨i,_,d,c,b,a,rfl⟩⟩
theorem Rn{m:Mem}{b off:Nat}{es:List Ed}(h:∀i (h:i<es.length),E9 m b (off+i*3) es[i]):∀j u,(fG es)[j]?=some u->m.cell b (off+j)=some u:=by
 intro j u a;have c:j<es.length*3:=by rw[<-nX];exact(yB.1 a).1
 have hi:j/3<es.length:=zo;obtain⟨g,f,d⟩:=ezH es (j/3) hi;obtain⟨n,l,k,-⟩:=h (j/3) hi;have:j%3=0\/j%3=1\/j%3=2:=zo;rcases this with e|e|e
 .rw[show j=j/3*3 by omega,g]at a;cases a;rw[show off+j=off+j/3*3 by omega];exact n
 .rw[show j=j/3*3+1 by omega,f]at a;cases a;rw[show off+j=off+j/3*3+1 by omega];exact l
 .rw[show j=j/3*3+2 by omega,d]at a;cases a;rw[show off+j=off+j/3*3+2 by omega];exact k
theorem Ro(es:List Ed):∀u∈fG es,u.oneCell'=true:=by
 intro u a;simp only[fG,xW,yA,List.not_mem_nil,or_false]at a;obtain⟨e,-,rfl|rfl|rfl⟩:=a<;>rfl
theorem ZG(v:zV)(es:List Ed)(m:Mem)(w:zW)(D:m.ay w)(K:kH m v es)(I:es.length*16<=140737488355328):
 zC 181 #[v] w fun e w'=>∃r,e=.returned r/\zB w w'/\kH (m.grow w w') r es:=by
 obtain⟨a,c,rfl,O,L,H⟩:=K;unfold maxLen at L;refine au fun R hR=>?_
 cases a with
 |none=>
  have M:es=[]:=by
   apply zP;intro q;obtain⟨b,off,h,-⟩:=H q;cases h
  subst M;have y:=fun w=>Lib.run_eql_slice_nil (P:=prog) w 103 102 none 0 c 0 0 underlying103
  go_enter func181,ntmps181
  go_wp2
  exact hR.o _ _ ⟨_,rfl,zR _ _,none,0,rfl,zS,by simp[maxLen],fun h=>absurd rfl h⟩
 |some ad=>
  have y:=fun w=>Lib.run_eql_slice_nil (P:=prog) w 103 102 (some ad) es.length c 0 0 underlying103;have x:(w.alloc (.cells #[] 102)).ownsRow 0 102 3 (.slice (some ⟨w.heap.size,0,none⟩) 0 0) 0 []:=World.ownsRow_made w #[] 0 (zG _) (zG _) zS;have l:∀j u,(fG es)[j]?=some u->(w.alloc (.cells #[] 102)).cell? (ad.add j)=some u:=by
   intro j u J;have q:es≠[]:=by intro h;subst h;simp[fG]at J
   obtain⟨b,off,C,G⟩:=H q;cases C;rw[Addr.add_lit];exact Mem_cell_w (Mem_inn_al D _) (Rn G j u J)
  have F:∀e∈es,YV e:=by
   intro e C;obtain⟨b,off,-,G⟩:=H (List.ne_nil_of_mem C);obtain⟨i,hi,rfl⟩:=yX C;exact(G i hi).2.2.2
  go_enter func181,ntmps181
  go_wp2_with (at_builtin;refine aT Dc rfl (.tmp 5) (.tmp 6) rfl (.slice (some ⟨w.heap.size,0,none⟩) 0 0) 0 [] rfl x ad es.length c (fG es) rfl (nX es) l (Ro es) qdR zo ?_)
  intro va N w' g d f;have s:=Mem_inn_al D (.cells #[] 102);have E:m.free (.slice (some ⟨w.heap.size,0,none⟩) 0 0):=fun k hk=>by simp[Value.ownBlock]at hk;exact Mem_none_of_ge D zo
  have t:∀k,Value.ownBlock (.slice (some ⟨w.heap.size,0,none⟩) 0 0)=some k->w.heap.size<=k:=fun k hk=>by simp[Value.ownBlock]at hk;omega
  have B:=below_grown qiN d t;have A:=YH s E f zS;have p:=dzw t f zo;have z:=Mem_inn_grown s d (fun k hk=>E k hk);have n:=rQ (dzf (Mem_ext_refl m w) z A p) (nW (m:=m) g F);have Hfin:=zh (zi B n);clear s E t B A p z n g d f;go_wp2;exact qa7
def dlN(next:List (List Int))(cZ:List Int)(lv:List Bool)(s i:Nat):Option Nat:=if bt lv (cl cZ (Gp next s i).toNat)=true then some (Gp next s i).toNat else none
def FB(f:Lit->Option Int)(cf:Nat->Int)(o:List Nat):Prop:=∀c:Int,f (.int .i64 c)=if EF cf o c<o.length then some ((EF cf o c:Nat):Int)else none
theorem IM{f:Lit->Option Int}{cf:Nat->Int}{o:List Nat}(h:FB f cf o)(t:Nat)(a:¬EF cf o (cf t)<o.length):FB (KZ f (.int .i64 (cf t)) o.length) cf (o++[t]):=by
 intro c;rw[azy];by_cases e:c=cf t
 .subst e;rw[AZ,zJ a,zK rfl];simp
 .rw[vL f _ (by simpa using e),h c];by_cases d:EF cf o c<o.length
  .rw[zK d,zK d,zK qdW]
  .have b:¬cf t=c:=fun x=>e x.symm;rw[zJ d,zJ d,zJ b,zJ zS]
theorem TN(cf:Nat->Int)(s:Nat):FB (KZ (fun _=>none) (.int .i64 (cf s)) 0) cf [s]:=by
 have:=IM (f:=fun _=>none) (cf:=cf) (o:=[]) (fun c=>by simp[EF]) s (by simp[EF]);exact qbi
def mO(o:List Nat):List Value:=o.map fun(s:Nat)=>Value.int .i64 (s:Int)
theorem Own.TI{w0 w:zW}{m mk:Mem}{l₁ l₂:List Cl.bA}{a:Cl.bA}(h:Own w0 m w mk (l₁++a::l₂)):Own w0 m w mk (a::(l₁++l₂)):=h.perm List.perm_middle.symm
theorem Own.NE{w0 w:zW}{m mk:Mem}{l₁ l₂:List Cl.bA}{a:Cl.bA}(h:Own w0 m w mk (a::(l₁++l₂))):Own w0 m w mk (l₁++a::l₂):=h.perm List.perm_middle
theorem bza(fs:List Ed)(e:Ed)(t:Int)(b:Nat):(∃(a:List Ed) (c:Ed),fs++[e]=a++[c]/\c.to=t/\c.hi+1=b)↔(e.to=t/\e.hi+1=b):=by
 constructor
 .rintro⟨a,c,h,d⟩;have:=congrArg List.getLast? h;simp at this;rw[this];exact d
 .intro h;exact⟨fs,e,rfl,h⟩
theorem Gc(fs:List Ed)(e:Ed)(h:Nat):(fG (fs++[e])).set (fs.length*3+1) (.int .u8 h)=fG (fs++[⟨e.lo,h,e.to⟩]):=by
 rw[lS,lS,List.set_append_right _ _ (by rw[nX];omega),nX];simp
theorem Own.gzv{w0 w:zW}{m mk:Mem}{L:List Cl.bA}{g:Nat}{t:TypeId}{x:zV}(h:Own w0 m w mk (.obj g t #[x]::L)):Own w0 m w mk (.row (.slice (some ⟨g,0,none⟩) 1 1) t 1 1 [x]::L):=by
 have a:=yS.1 h.apart;refine⟨h.m0,h.az,h.ext,h.ay,?_,?_,.cons (fun b c k e d=>a.1 b c k e d) a.2⟩
 .simp only[yA,forall_eq_or_imp];refine⟨⟨rfl,.inr ⟨g,1,#[x],rfl,zG _,h.obj.get,zI _,by simp[maxLen],rfl,rfl⟩⟩,fun it hi=>h.ok it (zU _ hi)⟩
 .exact qhs
structure czq (cuts:List Int) (lo hi:Nat->Nat):Prop where
 lo:∀i,(h:i<cuts.length)->cuts[i]=lo i
 hi:∀i,i<cuts.length->JM cuts i=hi i
theorem VG(cf:Nat->Int)(dl:Nat->Nat->Option Nat)(lo hi:Nat->Nat)(ac:Nat->Bool)(K k:Nat):
 dL cf dl lo hi ac K (k+1)=((dQ cf dl lo hi ((dL cf dl lo hi ac K k).1.getD k 0) (dL cf dl lo hi ac K k).1 K).1,(dL cf dl lo hi ac K k).2++[⟨ac ((dL cf dl lo hi ac K k).1.getD k 0),(dQ cf dl lo hi ((dL cf dl lo hi ac K k).1.getD k 0) (dL cf dl lo hi ac K k).1 K).2⟩]):=rfl
theorem La(g:Nat)(T:aK)(d:List Int)(next:List (List Int))(acc:List Bool)(cZ:List Int)(lo hi:Nat->Nat)(H:G7 T d next acc lo hi)(hC:czq d lo hi)(q':KE T next.length cZ)
(hB:∀lv:List Bool,(∀c,bt lv c=true↔wB next acc cZ c)->bt lv (cl cZ 0)=true->Ap T next.length (fun s=>cZ.getD s 0) (dlN next cZ lv) lo hi (fun s=>acc.getD s false) d.length)
(hD:∀lv:List Bool,(∀c,bt lv c=true↔wB next acc cZ c)->bt lv (cl cZ 0)=false->∀w,aH T 0 w=false)
(m:Mem)(w:zW)(hm:m.ay w)(ht:TabAt m g d next acc cZ):
 zC 155 #[.pointer (some ⟨g,0,none⟩)] w fun e w'=>∃r C,e=.returned (.agg #[r])/\zB w w'/\aU (m.grow w w') r C/\cB C/\(∀x,aH C 0 x=aH T 0 x)/\C.length<=next.length:=by
 have hpos:=H.pos;have hnlen:=H.fzr;have d':=H.gzt;have hlive:=fun w (hw:m.ay w)=>az1 g d next acc cZ m w hw ht H.Bg q'.len (fun r hr=>(H.rows r hr).2) q'.iZ H.fzr;have HL:=zh hlive;clear hlive;obtain⟨vc,vn,va,vk,e1,e2,e3,e4,⟨ca,cc,rfl,c1,c2,c3⟩,⟨na,nc,rfl,n1,n2,n3⟩,⟨aa,ac,rfl,a1,a2,a3⟩,⟨ka,kc,rfl,k1,k2,k3⟩⟩:=ht.ex;unfold maxLen at c2 n2 a2 k2;have hkl:=q'.len;refine au fun R hR=>?_;have B:=(Own.start hm).al #[.slice none 0 0] 27;have HO:=zh B;clear B
 go_enter func155,ntmps155
 go_wp2_with fail
 refine(HL.o _ HO.o.ay).mono ?_;rintro e w1 ⟨r,lv,rfl,hb1,hr1,hlv,hlc⟩;have D:=HO.o.call hb1;have q3:=Mem_cell_w hm e4;obtain⟨kb,ko,rfl,k4⟩:=k3 (by intro h;simp[h]at hkl;omega);obtain⟨la,lc,rfl,l1,l2,l3⟩:=hr1;obtain⟨lb,T',rfl,l4⟩:=l3 (by intro h;simp[h]at hlv;omega);have hk0:=q'.iZ cZ[0] (zF zo);obtain⟨kn,hkn⟩:=zT hk0.1;have d1:=k4 0 zo;rw[Nat.add_zero]at d1;have d1w:=Mem_cell_w (Mem_inn_le (Mem.le_trans (Mem.le_refl m) D.ext.le) D.ay) d1.1;have e4w:=Mem_cell_w (Mem_inn_le D.ext.le D.ay) e4;have egl:=Mem_cell_lt (Mem_inn_le D.ext.le D.ay) e4;rw[hkn]at d1w hk0;have d2:=l4 kn zo;have d2w:=Mem_cell_w D.ay d2;have hcl0:bt lv (cl cZ 0)=lv[kn]:=by
  have:cl cZ 0=kn:=by simp[cl,show 0<cZ.length by omega,hkn]
  rw[this,J9]
 have Hd:=zh (zi (hB lv hlc) (hD lv hlc));have Hcl:=zh hcl0;clear hcl0 hB hD hlc;generalize lv[kn]=b0 at*
 have hO1b:=D.obj.frozen 0;have hO1l:=D.obj.lt;have hO1c:=D.obj.c 0
 cases b0 with
 |false=>
  have F:=D.set 0 (.slice none 0 0);have t':=zh F;clear F D HO;go_wp2;refine yV (v:=.agg #[.slice none 0 0]) (by simp[results,results155,go_sem,hO1c]) rfl ?_;refine hR.o _ _ ⟨_,[],rfl,t'.o.az,⟨none,0,rfl,zI _,by simp[maxLen],fun h=>absurd rfl h⟩,?_,fun x=>?_,zS⟩
  .exact⟨fun s hs=>by simp at hs,fun s hs=>by simp at hs,fun s hs=>by simp at hs,fun k hk=>by simp at hk,fun i j hi=>by simp at hi,fun k b t hb ht=>by
    rw[gX [] k b zS]at ht;omega,fun t h1 h2=>by simp at h2⟩
  .rw[Hd.o.2 Hcl.o x]
   exact kE [] 0 x zS
 |true=>
  have HB:=zh (Hd.o.1 Hcl.o);clear Hd Hcl;have F:=D.al #[.int .i64 0] 3;have E:=F.gzv;have y:=E.CF (.map #[] 0);have hsz:(w1.alloc (.cells #[.int .i64 0] 3)).heap.size=w1.heap.size+1:=by simp
  rw[hsz]at y;have Hmm:=@run_makeMap prog;have e4w2:=Mem_cell_w (Mem_inn_le y.ext.le y.ay) e4;have d1w2:=Mem_cell_w (Mem_inn_le y.ext.le y.ay) d1.1;rw[hkn]at d1w2;have hI:=uM.made prog 3 3;obtain⟨w5,ob5,hr5,hb5,O',hg5⟩:=hI.AP (Maps.int_keyed underlying3) underlying233 underlying3 y.gT qdR (Maps.keyOf_int_mk underlying3 (VY (n:=kn) zo)) (x:=0) zD;have A:=y.jU hb5 hg5;have A':=zh (zi A O');clear A y E F O' hb5 hg5 hI;have Q:=A'.o.1.al #[.slice none 0 0] 27;have O':=A'.o.2;simp only[Option.isSome_none]at O';clear A' hsz;have N':=(Q.fC 105 2);have HO7:=zh (zi N' O');clear N' Q O';generalize hOo:w5.heap.size=Oo at*
  obtain⟨cf,hcf⟩:∃cf:Nat->Int,cf=fun s=>cZ.getD s 0:=⟨_,rfl⟩;obtain⟨dl,hdl⟩:∃dl:Nat->Nat->Option Nat,dl=dlN next cZ lv:=⟨_,rfl⟩;obtain⟨G,hah⟩:∃G:Nat->Bool,G=fun s=>acc.getD s false:=⟨_,rfl⟩;rw[<-hcf,<-hdl,<-hah]at HB;have hcf0:cf 0=kn:=by rw[hcf,<-hkn];simp[show 0<cZ.length by omega]
  have hI7:=HO7.o.2;rw[<-hcf0]at hI7;have HI:=zh (fun k hk=>GX (cf:=cf) (ac:=G) HB.o.iv HB.o.pos (fun s i t h1 h2 h3=>(HB.o.some s i t h1 h2 h3).1) k hk);have Hfun:=zh (zi hcf (zi hdl hah));clear hcf hdl hah;go_wp2;refine aC [0,2,3,4,5,6,7] (fun n vs wr=>∃(k:Nat) (vo k':zV) (ob:Obj) (f:Lit->Option Int) (xs:List Value) (mk:Mem),
   (∀j,j<k->j<(dL cf dl lo hi G d.length j).1.length)/\k<=(dL cf dl lo hi G d.length k).1.length/\n=next.length-k /\
   vs=[.pointer (some ⟨g,0,none⟩),.pointer (some ⟨w.heap.size,0,none⟩),.slice (some ⟨lb,T',none⟩) next.length lc,vo,.map (some (w1.heap.size+1)),.pointer (some ⟨Oo,0,none⟩),.int .i64 k] /\
   Own w m wr mk [.row k' 105 2 k xs,.obj Oo 27 #[k'],.gT (w1.heap.size+1) ob,.row vo 3 1 (dL cf dl lo hi G d.length k).1.length (mO (dL cf dl lo hi G d.length k).1),.obj w.heap.size 27 #[.slice none 0 0]] /\
   og mk xs (dL cf dl lo hi G d.length k).2/\uM prog 3 3 ob (dL cf dl lo hi G d.length k).1.length (dL cf dl lo hi G d.length k).1.length f/\FB f cf (dL cf dl lo hi G d.length k).1 /\
   (m.grow (w.alloc (.cells #[.slice none 0 0] 27)) w1).le mk) ?_ ?_
  .exact⟨_,0,.slice (some ⟨w1.heap.size,0,none⟩) 1 1,.slice none 0 0,ob5,_,[],_,fun j hj=>zo,zG _,rfl,rfl,HO7.o.1,og.nil _,hI7,TN cf 0,Mem.le_refl _⟩
  clear HO7 hI7 hr5 d2w d1w d1w2 e4w e4w2 q3 hO1b hO1l hO1c;rintro X z n vs wr hX-⟨k,vo,k',ob,f,xs,mk,hk1,hk2,rfl,rfl,B,Z',hI,M,hmk⟩;simp[bB,lk];have g':=HI.o k hk1;obtain⟨K',voc,rfl⟩:=bz B.bR.row;by_cases hlt:k<(dL cf dl lo hi G d.length k).1.length
  .have hsN:=g'.lt _ (zF hlt);have hoN:=vS g'.GU g'.lt;have v':=Mem_inn_le B.ext.le B.ay;have hrowi:∃vo',K'=some ⟨vo',0,none⟩:=by
    rcases B.bR.row.2 with⟨h,-⟩|⟨gg,cap,cur,h,-⟩
    .injection h with h1 h2 h3;omega
    .exact qbX
   obtain⟨vob,rfl⟩:=hrowi;have hr1s:(mO (dL cf dl lo hi G d.length k).1)[k]?=some (.int .i64 ((dL cf dl lo hi G d.length k).1[k]:Nat)):=by simp[mO,hlt]
   have r1:=bL (j:=k) B.bR.row hr1s;have hgd:(dL cf dl lo hi G d.length k).1.getD k 0=(dL cf dl lo hi G d.length k).1[k]:=by simp[hlt]
   have HBI:=zh g';clear g';have hl4:=fun c (h:c<lv.length)=>Mem_cell_le hmk (l4 c h);obtain⟨nb,no,rfl,n4⟩:=n3 (by intro h;simp[h]at hpos);obtain⟨ab,ao,rfl,a4⟩:=a3 (by intro h;have:=H.Bg;simp[h]at this;omega);have hE:=VG cf dl lo hi G d.length k;rw[hgd]at hE;generalize (dL cf dl lo hi G d.length k).1[k]=s at*
   have ha1:=a4 s qih;obtain⟨u,m1,ra,rc,rfl,m2,m3,m4⟩:=n4 s hsN;have ha1w:=Mem_cell_w v' ha1;have ha1l:=Mem_cell_lt v' ha1;have m1w:=Mem_cell_w v' m1;have e2w:=Mem_cell_w v' e2;have e3w:=Mem_cell_w v' e3;have e4w:=Mem_cell_w v' e4;have egw:=Mem_cell_lt v' e4;have Hrows:=H.rows _ (zF hsN);have hahs:G s=acc[s]'qih:=by
    have h1:=congrFun Hfun.o.2.2 s;have:s<acc.length:=by have:=H.Bg;omega
    simpa [this]using h1
   rw[<-hahs]at ha1w;unfold maxLen at m3;have hahN:s<acc.length:=by have:=H.Bg;omega
   clear hahs ha1 hgd;generalize hrw:next[s]=row at*
   have Hob:=zh (show ∀j,j<k+1->j<(dL cf dl lo hi G d.length j).1.length from fun j hj=>by
    by_cases c:j<k
    .exact hk1 j c
    .have:j=k:=zo;subst this;exact hlt)
   generalize dL cf dl lo hi G d.length k=r at*
   obtain⟨o,out⟩:=r;simp only at*
   have hvo:=B.bR.row;have hol:=(World.ownsRow.lt hvo _ rfl).2;unfold maxLen at*
   go_wp2;refine aV [0,2,3,4,5,6,7,8] (fun vs w1'=>vs=[.pointer (some ⟨g,0,none⟩),.pointer (some ⟨w.heap.size,0,none⟩),.slice (some ⟨lb,T',none⟩) next.length lc,.slice (some ⟨vob,0,none⟩) o.length voc,.map (some (w1.heap.size+1)),.pointer (some ⟨Oo,0,none⟩),.int .i64 k,.pointer (some ⟨wr.heap.size,0,none⟩)] /\
    w1'=(wr.alloc (.cells #[.bool (G s),.slice none 0 0] 105)).drew) ?_ ?_
   .intro Y hY
    go_region
    exact qcF
   rintro z1 vs w1'-⟨rfl,rfl⟩;simp[bB,lk];have D:=((B.al #[.bool (G s),.slice none 0 0] 105).dr).fC 102 3;have HO1:=zh D;clear D B;have hSz:wr.heap.size<(wr.alloc (.cells #[.bool (G s),.slice none 0 0] 105)).drew.heap.size:=by simp
   generalize hS:wr.heap.size=S at*
   generalize (wr.alloc (.cells #[.bool (G s),.slice none 0 0] 105)).drew=w2 at*
   have n':=Mem_inn_le HO1.o.ext.le HO1.o.ay;have m1w:=Mem_cell_w n' m1;have m1l:=Mem_cell_lt n' m1;have e2w:=Mem_cell_w n' e2;have e2l:=Mem_cell_lt n' e2;have r1:=bL (j:=k) (u:=.int .i64 s) (HO1.o.CE (v:=.slice (some ⟨vob,0,none⟩) o.length voc) (t:=3) (size:=1) (n:=o.length) (xs:=mO o) zS) hr1s;go_wp2
   go_quiet (fail)
   go_wp2;have hRI:∀i,i<=d.length->VM cf dl lo hi d.length next.length s o i (dQ cf dl lo hi s o i):=
    Wm HB.o.iv HBI.o.GU HBI.o.lt (fun i t hi' ht=>(HB.o.some s i t hsN hi' ht).1)
   have HRI:=zh hRI;clear hRI;refine aC [0,2,3,4,5,6,7,8,63,64,65] (fun n vs Q'=>∃(i:Nat) (vo ve:zV) (ob:Obj) (f:Lit->Option Int),i<=d.length/\n=d.length-i /\
    vs=[.pointer (some ⟨g,0,none⟩),.pointer (some ⟨w.heap.size,0,none⟩),.slice (some ⟨lb,T',none⟩) next.length lc,vo,.map (some (w1.heap.size+1)),.pointer (some ⟨Oo,0,none⟩),.int .i64 k,.pointer (some ⟨S,0,none⟩),.slice ra d.length rc,.int .i64 d.length,.int .i64 i] /\
    Own w m Q' mk [.row ve 102 3 (dQ cf dl lo hi s o i).2.length (fG (dQ cf dl lo hi s o i).2),.obj S 105 #[.bool (G s),ve],.row k' 105 2 k xs,.obj Oo 27 #[k'],.gT (w1.heap.size+1) ob,
     .row vo 3 1 (dQ cf dl lo hi s o i).1.length (mO (dQ cf dl lo hi s o i).1),.obj w.heap.size 27 #[.slice none 0 0]] /\
    uM prog 3 3 ob (dQ cf dl lo hi s o i).1.length (dQ cf dl lo hi s o i).1.length f/\FB f cf (dQ cf dl lo hi s o i).1) ?_ ?_
   .exact⟨_,0,.slice (some ⟨vob,0,none⟩) o.length voc,.slice none 0 0,ob,f,zG _,rfl,rfl,HO1.o.Fa _,hI,M⟩
   clear HO1 hI M r1 m1w m1l e2w e2l hSz n';rintro Y z2 n vs Q' hY-⟨i,vo,ve,ob,f,hi1,rfl,rfl,B,hI,M⟩;simp[bB,lk];have L':=HRI.o i hi1;obtain⟨K',D',rfl⟩:=bz (B.CE (v:=vo) (t:=3) (size:=1) (n:=(dQ cf dl lo hi s o i).1.length) (xs:=mO (dQ cf dl lo hi s o i).1) zS);obtain⟨O,P,rfl⟩:=bz B.row;have hqN:=vS L'.GU L'.lt;have hqe:=X5 cf dl lo hi s o i;by_cases W:i<d.length
   .have H':i<row.length:=zo;obtain⟨rb,ro,rfl,m5⟩:=m4 (by intro h;simp[h]at H');have G':=Mem_inn_le B.ext.le B.ay;have x1:=Mem_cell_w G' (m5 i H').1;have hxr:=Hrows.2 row[i] (zF H');obtain⟨I,hxn⟩:=zT hxr.1;have hta:Gp next s i=row[i]:=by
     unfold Gp nx;have:next.getD s []=row:=by rw[<-hrw];simp[hsN]
     rw[this];simp[H']
    rw[hxn]at x1 hxr hta;have hxl:I<cZ.length:=zo;have y1:=k4 I hxl;have y1w:=Mem_cell_w G' y1.1;have hyr:=q'.iZ cZ[I] (zF hxl);obtain⟨cn,hcn⟩:=zT hyr.1;rw[hcn]at y1w hyr;have c':cf I=cn:=by
     have h1:=congrFun Hfun.o.1 I;simpa [hxl,hcn]using h1
    have z1w:=Mem_cell_w B.ay (hl4 cn zo);have J':dl s i=if lv[cn]'zo=true then some I else none:=by
     have h1:=congrFun (congrFun Hfun.o.2.1 s) i;rw[h1];unfold dlN;rw[hta];have h2:cl cZ ((I:Int).toNat)=cn:=by simp[cl,hxl,hcn]
     rw[h2,J9 zo]
     rfl
    have e4w:=Mem_cell_w G' e4;have egw:=Mem_cell_lt G' e4;generalize hlvb:lv[cn]'zo=b at*
    clear hta hcn hxn hlvb
    cases b with
    |false=>
     have hN:=TA (cf:=cf) (lo:=lo) (hi:=hi) (o:=o) (by simpa using J');have HN:=zh hN;clear hN J' c';go_wp2;refine hY.o _ _ _ zo rfl ⟨i+1,.slice K' (dQ cf dl lo hi s o i).1.length D',.slice O (dQ cf dl lo hi s o i).2.length P,ob,f,zo,rfl,rfl,?_,?_,?_⟩
     .rw[HN.o];exact B
     .rw[HN.o];exact hI
     .rw[HN.o];exact M
    |true=>
     have hN:=Tz (cf:=cf) (lo:=lo) (hi:=hi) (o:=o) (t:=I) (by simpa using J');have hri2:=HRI.o (i+1) zo;have HN:=zh (zi hN (zi hri2 L'));clear hN J' hri2 L';generalize dQ cf dl lo hi s o i=q at*
     obtain⟨o',es⟩:=q;simp only at B hI M hqN hqe;have p':=Maps.keyOf_int_mk underlying3 (VY (n:=cn) zo);have W':=hI.il (Maps.int_keyed underlying3) underlying233 underlying3 Lu (B.GZ (g:=w1.heap.size+1) (o:=ob) zS) p'
     go_upto_if 89 with(fail)
     refine aV [0,2,3,4,5,6,7,8,9,10,11,63,64,65] (fun vs w'=>∃(vo2:zV) (l':Obj) (f2:Lit->Option Int),
      vs=[.pointer (some ⟨g,0,none⟩),.pointer (some ⟨w.heap.size,0,none⟩),.slice (some ⟨lb,T',none⟩) next.length lc,vo2,.map (some (w1.heap.size+1)),.pointer (some ⟨Oo,0,none⟩),.int .i64 k,.pointer (some ⟨S,0,none⟩),.int .i64 i,.int .i64 I,.int .i64 cn,.slice (some ⟨rb,ro,none⟩) d.length rc,.int .i64 d.length,.int .i64 i] /\
      Own w m w' mk [.row (.slice O es.length P) 102 3 es.length (fG es),.obj S 105 #[.bool (G s),.slice O es.length P],.row k' 105 2 k xs,.obj Oo 27 #[k'],.gT (w1.heap.size+1) l',
       .row vo2 3 1 (eH cf o' I).length (mO (eH cf o' I)),.obj w.heap.size 27 #[.slice none 0 0]] /\
      uM prog 3 3 l' (eH cf o' I).length (eH cf o' I).length f2/\FB f2 cf (eH cf o' I)) ?_ ?_
     .intro Z hZ;have x':=M (cn:Int);by_cases hp:EF cf o' cn<o'.length
      .rw[zK hp]at x';have hoa:eH cf o' I=o':=by
        unfold eH;rw[<-NW,c',zK hp]
       have Hoa:=zh (zi hoa (zi hI M));rw[x'];simp only[Option.isNone_some,Option.isSome_some,xA];clear hoa hp hI M W' x';go_wp2;refine hZ.o _ _ rfl ⟨.slice K' o'.length D',ob,f,rfl,?_,?_,?_⟩
       .rw[Hoa.o.1];exact B
       .rw[Hoa.o.1];exact Hoa.o.2.1
       .rw[Hoa.o.1];exact Hoa.o.2.2
      .rw[zJ hp]at x';have hoa:eH cf o' I=o'++[I]:=by
        unfold eH;rw[<-NW,c',zJ hp]
       have hOM2:=IM M I (by rw[c'];exact hp);rw[c']at hOM2;have D:=B.TI (l₁:=[_,_,_,_]);obtain⟨w4,ob4,hr4,hb4,b',hg4⟩:=hI.AP (Maps.int_keyed underlying3) underlying233 underlying3 D.gT qdR p' (VY (n:=o'.length) zo);rw[x']at b';simp only[Option.isSome_none]at b';have F:=(D.jU hb4 hg4).NE (l₁:=[_,_,_,_]);have E:=(F.al #[.int .i64 I] 3);have Hk:=zh (zi hoa (zi hOM2 b'));rw[x'];simp only[Option.isNone_none,Option.isSome_none,Option.getD_none];clear hoa hOM2 b' M hI W' hp hb4 hg4 D F x'
       go_wp2_with (at_builtin;refine aT Z6 rfl (.tmp 94) (.tmp 96) rfl (.slice K' o'.length D') o'.length (mO o') rfl (E.CE zS) ⟨w4.heap.size,0,none⟩ 1 1 [.int .i64 I] rfl rfl (E.obj.dF rfl) qdS qdR zo ?_)
       intro va vc' w5 hown5 I' X';have y:=(E.TI (l₁:=[_,_,_,_,_,_])).app hown5 I' X' zS;have A:=y.NE (l₁:=[_,_,_,_,_,_]);have A':=zh A.tail;clear A y E hown5 I' X';go_wp2;refine hZ.o _ _ rfl ⟨.slice va (o'.length+1) vc',ob4,KZ f (.int .i64 cn) o'.length,rfl,?_,?_,?_⟩
       .rw[Hk.o.1];have:=A'.o;simpa [mO]using this
       .rw[Hk.o.1];simpa using Hk.o.2.2
       .rw[Hk.o.1];exact Hk.o.2.1
     rintro z3 vs w4-⟨vo2,l',f2,rfl,y,b',hOM4⟩;simp[bB,lk];clear B hI M W';obtain⟨S',R',rfl⟩:=bz (y.CE (v:=vo2) (t:=3) (size:=1) (n:=(eH cf o' I).length) (xs:=mO (eH cf o' I)) zS);have hap:=IP cf o' I;have hfp:=hOM4 (cn:Int);have hpc:EF cf (eH cf o' I) cn=d9 cf o' I:=by rw[<-c',NW];exact hap.1
     rw[hpc,zK hap.2]at hfp;have M':=fun nq=>b'.AQ (w:=w4.drewN nq) (Maps.int_keyed underlying3) underlying233 underlying3 Lu (y.GZ (g:=w1.heap.size+1) (o:=l') zS) p';rw[hfp]at M';simp only[xA]at M';generalize d9 cf o' I=p at*
     have hpN:p<=2000000:=by
      have:=HN.o.2.1.pre;have h2:=vS HN.o.2.1.GU HN.o.2.1.lt;rw[HN.o.1]at h2;simp only at h2;omega
     have s1:=(y.av.obj).cell (i:=1) rfl;obtain⟨cb,co,rfl,c4⟩:=c3 (by intro h;simp[h]at W);have y':=c4 i W;rw[hC.lo i W]at y';have hle:=HB.o.iv.le i W;have hmr4:=Mem_inn_le y.ext.le y.ay;have c4w:=Mem_cell_w hmr4 y'.1;have e1w:=Mem_cell_w hmr4 e1;have e1l:=Mem_cell_lt hmr4 e1;have hedok:=PY (N:=next.length) HN.o.2.2 zo;simp only at hedok;clear e4w egw x1 y1w z1w;go_wp2;refine aV [0,2,3,4,5,6,7,8,9,10,11,14,63,64,65,134] (fun vs w'=>∃(bb:Bool) (nq:Nat),
      vs=[.pointer (some ⟨g,0,none⟩),.pointer (some ⟨w.heap.size,0,none⟩),.slice (some ⟨lb,T',none⟩) next.length lc,.slice S' (eH cf o' I).length R',.map (some (w1.heap.size+1)),.pointer (some ⟨Oo,0,none⟩),.int .i64 k,.pointer (some ⟨S,0,none⟩),.int .i64 i,.int .i64 I,.int .i64 cn,.int .i64 es.length,.slice (some ⟨rb,ro,none⟩) d.length rc,.int .i64 d.length,.int .i64 i,.bool bb] /\
      w'=w4.drewN nq/\(bb=true↔∃(fs:List Ed) (e:Ed),es=fs++[e]/\e.to=(p:Int)/\e.hi+1=lo i)) ?_ ?_
     .intro Z hZ;rcases List.eq_nil_or_concat es with rfl|⟨fs,e,he⟩
      .refine wp_region_quiet_lit zk zk ?_
       repeat (any_goals (first|go_big_quiet_step (fail)|quiet_step (fail)|(refine wpQuiet_step (fun K hK=>?_);go_simp;split<;>(refine hK _ ?_;clear hK K))))
       all_goals (refine wpQuiet_nil ?_;intro _ hw';obtain⟨nq,U'⟩:=hw';subst U')
       all_goals go_wp2
       all_goals exact hZ.o _ _ rfl ⟨false,nq,rfl,rfl,zS⟩
      .rw[List.concat_eq_append]at he;subst he;have V':∃eb,O=some ⟨eb,0,none⟩:=by
        rcases y.row.2 with⟨h,-⟩|⟨gg,cap,cur,h,-⟩
        .injection h with h1 h2 h3;simp at h2
        .exact qbX
       obtain⟨eb,rfl⟩:=V';have hec:=ezH (fs++[e]) fs.length zS;have hel:(fs++[e])[fs.length]'zS=e:=by simp
       rw[hel]at hec;have t1:=bL y.row hec.2.1;have t2:=bL y.row hec.2.2;have hek:=hedok e zS;clear hel hec;have hqe2:=hqe;simp only[zL,yO,List.length_nil]at hqe2;have hw1:IntKind.i64.wrap ((((fs++[e]).length:Nat):Int)-1)=(fs.length:Int):=by
        rw[IntWalk.i64_in _ qdW];simp
       have hw2:IntKind.i64.wrap ((e.hi:Int)+1)=(e.hi:Int)+1:=IntWalk.i64_in _ zo;have hw3:fs.length<(fs++[e]).length:=by simp
       have HL:=zh (bza fs e (p:Int) (lo i));refine wp_region_quiet_lit zk zk ?_
       repeat (any_goals (first|go_big_quiet_step (fail)|quiet_step (fail)|(refine wpQuiet_step (fun K hK=>?_);go_simp;split<;>(refine hK _ ?_;clear hK K))))
       all_goals (refine wpQuiet_nil ?_;intro _ hw';obtain⟨nq,U'⟩:=hw';subst U')
       all_goals go_wp2
       all_goals first
        |(refine hZ.o _ _ rfl ⟨true,nq,zS,rfl,?_⟩;rw[HL.o];simp only[true_iff];omega)
        |(refine hZ.o _ _ rfl ⟨false,nq,zS,rfl,?_⟩;rw[HL.o];simp only[Bool.false_eq_true,false_iff];omega)
        |(refine hZ.o _ _ rfl ⟨(e.hi:Int)+1==(lo i:Int),nq,zS,rfl,?_⟩;rw[HL.o];simp only[beq_iff_eq];omega)
     rintro z5 vs w5-⟨bb,nq,rfl,rfl,hbb⟩;simp[bB,lk];have A:=(y.Fa nq).dr;have hEnd:=fun w' (hw:m.ay w')=>dzE g d next acc cZ i m w' hw ht W (fun h=>by
      have h1:=HB.o.iv.sep i (i+1) zo h;have h2:=HB.o.iv.le (i+1) h;have h3:=hC.lo (i+1) h;omega)
     rw[hC.hi i W]at hEnd;have HEnd:=zh hEnd;clear hEnd c4w e1w e1l s1 M';have hle2:=HB.o.iv.le i W
     cases bb with
     |true=>
      obtain⟨fs,e,hes,he1,he2⟩:=hbb.1 rfl;subst hes;have V':∃eb,O=some ⟨eb,0,none⟩:=by
       rcases A.row.2 with⟨h,-⟩|⟨gg,cap,cur,h,-⟩
       .injection h with h1 h2 h3;simp at h2
       .exact qbX
      obtain⟨eb,rfl⟩:=V';have hqe2:=hqe;simp only[zL,yO,List.length_nil]at hqe2;have hw1:IntKind.i64.wrap ((((fs++[e]).length:Nat):Int)-1)=(fs.length:Int):=by
       rw[IntWalk.i64_in _ qdW];simp
      have hw3:fs.length<(fs++[e]).length:=by simp
      have hw4:IntKind.i64.wrap (fs.length:Int)=(fs.length:Int):=IntWalk.i64_in _ zo;have hw5:(fs.length:Int)<(fs.length:Int)+1:=zo;have hpe:=TF (lo:=lo i) (hi:=hi i) (fs:=fs) (zi he1 he2);have Hpe:=zh hpe;clear hpe he1 he2 hbb;go_wp2;have s1:=A.av.obj.c 1;have hm5:=Mem_inn_le A.ext.le A.ay;have f1:=fI A.row (fs.length*3+1);have c1:=bL A.row (ezH (fs++[e]) fs.length zS).2.1;have Q:=A.setRow (fs.length*3+1) (.int .u8 (hi i));rw[Gc]at Q;have t':=zh Q;clear Q A y;refine wp_region_still_tail 9 zk zk ?_;change wpStill _ _ (w4.drewN nq).drew (fun a'=>wpList _ _ _ _ a' (w4.drewN nq).drew) _ _;generalize (w4.drewN nq).drew=w6 at*
      simp only[List.take_succ_cons,List.take_zero,List.drop_succ_cons,List.drop_zero]
      repeat still_step
      still_call (HEnd.o _ hm5)
      repeat still_step
      refine wpStill_nil ?_;go_wp2;refine hY.o _ _ _ zo rfl ⟨i+1,.slice S' (eH cf o' I).length R',.slice (some ⟨eb,0,none⟩) (fs++[e]).length P,l',f2,zo,rfl,rfl,?_,?_,?_⟩
      .rw[HN.o.1,Hpe.o];have:=t'.o;exact qbi
      .rw[HN.o.1];exact b'
      .rw[HN.o.1];exact hOM4
     |false=>
      have hpe:lJ es (lo i) (hi i) p=es++[⟨lo i,hi i,(p:Int)⟩]:=by
       rcases List.eq_nil_or_concat es with rfl|⟨fs,e,he⟩
       .rfl
       .rw[List.concat_eq_append]at he;subst he;exact TH fun h=>by have:=hbb.2 ⟨fs,e,rfl,h.1,h.2⟩;cases this
      have Hpe:=zh hpe;clear hpe hbb;have M':=fun nq=>b'.AQ (w:=w4.drewN nq) (Maps.int_keyed underlying3) underlying233 underlying3 Lu (y.GZ (g:=w1.heap.size+1) (o:=l') zS) p';rw[hfp]at M';simp only[xA]at M';have hwu:IntKind.u8.wrap (lo i:Int)=(lo i:Int):=IntWalk.u8_in _ zo;have A:=y.Fa (nq+1);have mkS:∀{w':zW} {L:List Cl.bA},Own w m w' mk L->bA.obj S 105 #[.bool (G s),.slice O es.length P]∈L->bA.gT (w1.heap.size+1) l'∈L ->
       (aZ w' S 105 #[.bool (G s),.slice O es.length P]/\w'.cell? ⟨g,0,none⟩=some (.slice (some ⟨cb,co,none⟩) d.length cc)/\w'.cell? ⟨cb,co+i,none⟩=some (.int .i64 (lo i))/\(Instr.lookup 233 (.map (some (w1.heap.size+1))) (.int .i64 cn) false).run prog w'=.ok (.int .i64 p) w'):=by
       intro w' L B h1 h2;refine⟨B.jP h1,Mem_cell_w (Mem_inn_le B.ext.le B.ay) e1,Mem_cell_w (Mem_inn_le B.ext.le B.ay) y'.1,?_⟩;have:=b'.AQ (Maps.int_keyed underlying3) underlying233 underlying3 Lu (B.GZ h2) p';rw[hfp]at this;exact this
      go_wp2;refine gL (fun w'=>aZ w' S 105 #[.bool (G s),.slice O es.length P]/\w'.cell? ⟨g,0,none⟩=some (.slice (some ⟨cb,co,none⟩) d.length cc)/\w'.cell? ⟨cb,co+i,none⟩=some (.int .i64 (lo i))/\(Instr.lookup 233 (.map (some (w1.heap.size+1))) (.int .i64 cn) false).run prog w'=.ok (.int .i64 p) w') 20 zk ?_;have hS:=mkS A zS zS;refine aD 0 rfl zk (fun _ _ _ h=>h) hS (ax rfl fun w' a=>by have q:=a.1.cell (i:=1) rfl;have q1:=a.2.1;have q2:=a.2.2.1;have q3:=a.2.2.2;go_simp;rfl) ?_;refine aD 1 rfl zk (fun _ _ _ h=>h) hS (ax rfl fun w' a=>by have q:=a.1.cell (i:=1) rfl;have q1:=a.2.1;have q2:=a.2.2.1;have q3:=a.2.2.2;go_simp;rfl) ?_;refine aD 2 rfl zk (fun _ _ _ h=>h) hS (ax rfl fun w' a=>by have q:=a.1.cell (i:=1) rfl;have q1:=a.2.1;have q2:=a.2.2.1;have q3:=a.2.2.2;go_simp;rfl) ?_;refine aD 3 rfl zk (fun _ _ _ h=>h) hS (ax rfl fun w' a=>by have q:=a.1.cell (i:=1) rfl;have q1:=a.2.1;have q2:=a.2.2.1;have q3:=a.2.2.2;go_simp;rfl) ?_;refine aD 4 rfl zk (fun _ _ _ h=>h) hS (ax rfl fun w' a=>by have q:=a.1.cell (i:=1) rfl;have q1:=a.2.1;have q2:=a.2.2.1;have q3:=a.2.2.2;go_simp;rfl) ?_;refine aD 5 rfl zk (fun _ _ _ h=>h) hS (ax rfl fun w' a=>by have q:=a.1.cell (i:=1) rfl;have q1:=a.2.1;have q2:=a.2.2.1;have q3:=a.2.2.2;go_simp;rfl) ?_;refine aD 6 rfl zk (fun _ _ _ h=>h) hS (ax rfl fun w' a=>by have q:=a.1.cell (i:=1) rfl;have q1:=a.2.1;have q2:=a.2.2.1;have q3:=a.2.2.2;go_simp;rfl) ?_;refine aD 7 rfl zk (fun _ _ _ h=>h) hS (ax rfl fun w' a=>by have q:=a.1.cell (i:=1) rfl;have q1:=a.2.1;have q2:=a.2.2.1;have q3:=a.2.2.2;go_simp;rfl) ?_;refine aD 8 rfl zk (fun _ _ _ h=>h) hS (ax rfl fun w' a=>by have q:=a.1.cell (i:=1) rfl;have q1:=a.2.1;have q2:=a.2.2.1;have q3:=a.2.2.2;go_simp;rfl) ?_;refine aD 9 rfl zk (fun _ _ _ h=>h) hS (ax rfl fun w' a=>by have q:=a.1.cell (i:=1) rfl;have q1:=a.2.1;have q2:=a.2.2.1;have q3:=a.2.2.2;go_simp;rfl) ?_;refine aD 10 rfl zk (fun _ _ _ h=>h) hS (ax rfl fun w' a=>by have q:=a.1.cell (i:=1) rfl;have q1:=a.2.1;have q2:=a.2.2.1;have q3:=a.2.2.2;go_simp;rfl) ?_;refine aD 11 rfl zk (fun _ _ _ h=>h) hS (ax rfl fun w' a=>by have q:=a.1.cell (i:=1) rfl;have q1:=a.2.1;have q2:=a.2.2.1;have q3:=a.2.2.2;go_simp;rfl) ?_;refine aD 13 rfl zk (fun _ _ _ h=>h) hS (ax rfl fun w' a=>by have q:=a.1.cell (i:=1) rfl;have q1:=a.2.1;have q2:=a.2.2.1;have q3:=a.2.2.2;go_simp;rfl) ?_;refine aD 14 rfl zk (fun _ _ _ h=>h) hS (ax rfl fun w' a=>by have q:=a.1.cell (i:=1) rfl;have q1:=a.2.1;have q2:=a.2.2.1;have q3:=a.2.2.2;go_simp;rfl) ?_;refine aD 15 rfl zk (fun _ _ _ h=>h) hS (ax rfl fun w' a=>by have q:=a.1.cell (i:=1) rfl;have q1:=a.2.1;have q2:=a.2.2.1;have q3:=a.2.2.2;go_simp;rfl) ?_;go_simp;refine aQ 12 zk (aJ rfl rfl (dE qem (HEnd.o _ (Mem_inn_le A.ext.le A.ay)) ?_));rintro e' w6 ⟨rfl,rfl⟩;refine⟨_,rfl,iq hS fun hS1=>?_⟩;go_simp;refine aQ 16 zk (aJ rfl rfl (aO qdT (iq hS fun _=>?_)));go_simp;have Q:=A.al #[.int .u8 (lo i),.int .u8 (hi i),.int .i64 p] 102;refine aQ 17 zk (aJ rfl rfl (aO qdT (iq (mkS Q zS zS) fun _=>?_)));go_simp;refine aQ 18 zk (aJ rfl rfl (gq Dc (.tmp 145) (.tmp 161) rfl (.slice O es.length P) es.length (fG es) rfl Q.av.row ⟨w4.heap.size,0,none⟩ 1 1 [.int .u8 (lo i),.int .u8 (hi i),.int .i64 p] rfl rfl (Q.obj.dF rfl) qdS qdR zo (fun na' nc' w7 V J U=>?_)));have N':=Q.av.app V J U (zI _);refine iq (mkS N' zS zS) fun hS3=>?_;go_simp;refine aQ 19 zk (aJ rfl rfl (aO qdT (iq hS3 fun _=>?_)));go_simp;have f3:=hS3.1.frozen 1;have c3:=hS3.1.cell (i:=1) rfl;refine aQ 20 zk (aJ rfl rfl (bT (by go_simp;rfl) (jJ rfl ?_)));refine eP zk ?_ _;have hO8:=((N'.aP.set 1 (.slice na' (es.length+1) nc')).BD).av;have t':=zh hO8;clear hO8 N' Q A y hS hS1 hS3 f3 c3 V J U;go_wp2;refine hY.o _ _ _ zo rfl ⟨i+1,.slice S' (eH cf o' I).length R',.slice na' (es.length+1) nc',l',f2,zo,rfl,rfl,?_,?_,?_⟩
      .rw[HN.o.1,Hpe.o];have:=t'.o;simpa [lS]using this
      .rw[HN.o.1];exact b'
      .rw[HN.o.1];exact hOM4
   .obtain rfl:i=d.length:=zo;have s0:=B.av.obj.c 0;have s1:=B.av.obj.c 1;have sl:=B.av.obj.lt;have u0:=(B.jP (g:=Oo) (t:=27) (arr:=#[k']) zS).cell (i:=0) rfl;have hes:=nW (l:=(dQ cf dl lo hi s o d.length).2) (m:=mk) B.row (PY (N:=next.length) L' zo);have F:=B.bO;have hmk2:=Mem_le_addv (w:=Q') B.free;have Y':=(Z'.mono hmk2).push (s:=⟨G s,(dQ cf dl lo hi s o d.length).2⟩) hes;obtain⟨j',i',rfl⟩:=bz F.av.row;have E:=F.al #[.bool (G s),.slice O (dQ cf dl lo hi s o d.length).2.length P] 105;have hoN2:=vS HBI.o.GU HBI.o.lt;simp only at hoN2;have Hk:=zh (zi Y' (zi (Mem.le_trans hmk hmk2) (zi hI M)));clear Y' hes hI M hmk2;generalize mk.iH Q' (.slice O (dQ cf dl lo hi s o d.length).2.length P)=mk2 at*
    have hnews:=E.obj.dF rfl;have hvr:=E.aP.row;clear B F
    go_wp2_with (at_builtin;refine aT q9 rfl (.tmp 166) (.tmp 168) rfl (.slice j' k i') k xs rfl hvr ⟨Q'.heap.size,0,none⟩ 1 1 [.bool (G s),.slice O (dQ cf dl lo hi s o d.length).2.length P] rfl rfl hnews qdS qdR zo ?_)
    intro va vc w7 V J U;have y:=(E.aP.app V J U zS).bR;clear V J U E hvr hnews;have u2:=y.obj.c 0;have u3:=y.obj.frozen 0;have u4:=y.obj.lt;have A:=((y.set 0 (.slice va (k+1) vc)).av).BD.BD;have A':=zh A;clear A y;go_wp2;have hpre:=L'.pre.length_le;refine hX.o _ _ _ zo rfl ⟨k+1,.slice K' (dQ cf dl lo hi s o d.length).1.length D',.slice va (k+1) vc,ob,f,xs++[.bool (G s),.slice O (dQ cf dl lo hi s o d.length).2.length P],mk2,?_,?_,rfl,rfl,?_,?_,?_,?_,Hk.o.2.1⟩
    .exact Hob.o
    .rw[hE];show k+1<=(dQ cf dl lo hi s o d.length).1.length;omega
    .rw[hE];exact A'.o
    .rw[hE];exact Hk.o.1
    .rw[hE];exact Hk.o.2.2.1
    .rw[hE];exact Hk.o.2.2.2
  .have hkl2:(dL cf dl lo hi G d.length k).1.length=k:=zo;have hcan:=Nl HB.o hk1 hkl2;have hNl:=vS g'.GU g'.lt;rw[hkl2]at hNl;have d':=g'.len;generalize dL cf dl lo hi G d.length k=r at*
   obtain⟨j',i',rfl⟩:=bz B.row;have u1:=(B.jP (g:=Oo) (t:=27) (arr:=#[.slice j' k i']) zS).cell (i:=0) rfl;have F:=(B.TI (l₁:=[_,_,_,_]));have u2:=F.obj.c 0;have u3:=F.obj.frozen 0;have u4:=F.obj.lt;have E:=(F.set 0 (.slice j' k i')).av;have hst:=kM (l:=r.2) (m:=mk) (by rw[d'];exact E.row) Z' E.free;have hst2:=aX E.bO.done hst;have hbel:=E.az;have Hk:=zh (zi hcan (zi hst2 (zi hbel (zi hNl d'))));clear hcan hst hst2 hbel hNl d' E F B hI M g' Z' hkl2;go_wp2;refine yV (v:=.agg #[.slice j' k i']) (by simp[results,results155,go_sem,u2]) rfl ?_;refine hR.o _ _ ⟨_,r.2,rfl,Hk.o.2.2.1,Hk.o.2.1,Hk.o.1.1,Hk.o.1.2,?_⟩;have h1:=Hk.o.2.2.2.1;have h2:=Hk.o.2.2.2.2;omega
theorem JJ(es:List Ed)(b k:Nat)(h:k<es.length):bE (es.drop k) b=if(es[k]).lo<=b/\b<=(es[k]).hi then(es[k]).to else bE (es.drop (k+1)) b:=by
 rw[yE h];rfl
theorem wK(v:zV)(l:aK)(m:Mem)(w:zW)(H:m.ay w)(U:aU m v l):
 zX 152 #[v] w (.bool (tf (WF l))):=by
 obtain⟨a,c,rfl,h1,h2,N⟩:=U;unfold maxLen at h2;refine au fun R I=>?_
 go_enter func152,ntmps152
 go_wp2;refine aC [0,7,8,9] (fun n x t=>∃k:Nat,k<=l.length/\n=l.length-k/\x=[.slice a l.length c,.slice a l.length c,.int .i64 l.length,.int .i64 k]/\(WF l↔∀s∈l.drop k,bS l.length (-1) s.bv)/\zB w t) ?_ ?_
 .exact qbU
 rintro X z n x t Z-⟨k,hk,rfl,rfl,i,q⟩;simp[bB,lk];have r:=Mem_inn_below H q;by_cases hlt:k<l.length
 .obtain⟨b,off,rfl,M⟩:=N qdP;obtain⟨h5,ve,L,Q,P,rfl,h7,h8,h9⟩:=M k hlt;have hb:=Mem_cell_lt r L;have c1:=Mem_cell_w r h5;have c2:=Mem_cell_w r L;have T:=zh (czw (n:=l.length) hlt);generalize l[k]=s at*
  unfold maxLen at h8;clear M N;go_wp2;refine aC [0,4,7,8,9,14,15,16] (fun n x u=>∃j:Nat,j<=s.bv.length/\n=s.bv.length-j/\x=[.slice (some ⟨b,off,none⟩) l.length c,.pointer (some ⟨t.heap.size,0,none⟩),.slice (some ⟨b,off,none⟩) l.length c,.int .i64 l.length,.int .i64 k,.slice Q s.bv.length P,.int .i64 s.bv.length,.int .i64 j]/\(bS l.length (-1) s.bv↔bS l.length (sZ s.bv j) (s.bv.drop j))/\u.cell? ⟨t.heap.size,1,none⟩=some (.slice Q s.bv.length P)/\t.heap.size<u.heap.size/\zB w u) ?_ ?_
  .exact⟨_,0,zG _,rfl,rfl,Iff.rfl,zS,zS,cu q _⟩
  rintro Y z2 n x u W-⟨j,hj,rfl,rfl,g,G,E,d⟩;simp[bB,lk];have f:=Mem_inn_below H d;by_cases hlt2:j<s.bv.length
  .obtain⟨b',y,rfl,B⟩:=h9 qeb;obtain⟨O,g2,g3,g4,g5,g6,g7⟩:=B j hlt2;have V:=Mem_cell_lt f O;have d1:=Mem_cell_w f O;have d2:=Mem_cell_w f g2;have d3:=Mem_cell_w f g3;have S:=zh (Ny (n:=l.length) hlt2);have p:0<j->u.cell? ⟨b',y+(j-1)*3+1,none⟩=some (.int .u8 (s.bv[j-1]).hi)/\sZ s.bv j=(s.bv[j-1]).hi:=by
    intro F;refine⟨Mem_cell_w f (B (j-1) zo).2.1,?_⟩;simp[sZ,show 0<j/\j<=s.bv.length from⟨F,zo⟩]
   go_wp2;refine wp_region_quiet_lit zk zk ?_
   repeat (any_goals (first|go_big_quiet_step (fail)|quiet_step (fail)|(refine wpQuiet_step (fun K J=>?_);go_simp;split<;>(refine J _ ?_;clear J K))))
   all_goals (refine wpQuiet_nil ?_;intro _ D;obtain⟨nq,A⟩:=D;subst A)
   all_goals go_wp2
   all_goals first
    | exact I.o _ _ ⟨aR (by
     rw[aF];intro C;obtain⟨q1,q2,q3,q4,-⟩:=S.o.1 (g.1 (T.o.1 (i.1 C)).1)
     first
      |omega
      | (have:=(p (by assumption)).2;omega)),below_drewN (cu d _) _⟩
    | exact W.o _ _ _ zo rfl ⟨j+1,zo,rfl,rfl,g.trans (S.o.trans ⟨fun h=>h.2.2.2.2,fun h=>⟨zo,zo,zo,by
     first
      |(have:=(p (by assumption)).2;omega)
      | (have:=P7 s.bv j zo;omega),h⟩⟩),
     by rw[World.cell?_drewN,World.cell?_alloc_past _ _ _ E];exact G,by simp;omega,below_drewN (cu d _) _⟩
  .go_wp2;refine Z.o _ _ _ zo rfl ⟨k+1,zo,rfl,rfl,i.trans (T.o.trans ⟨fun h=>h.2,fun h=>⟨g.2 ?_,h⟩⟩),d⟩;rw[zQ zo];trivial
 .go_wp2;refine I.o _ _ ⟨aR ?_,q⟩;rw[aM (i.2 (by rw[zQ zo];simp))]
theorem czI(v:zV)(l:aK)(s x:Nat)(m:Mem)(w:zW)(f:m.ay w)(y:aU m v l)(hs:s<l.length):
 zX 102 #[.agg #[v],.int .i64 s,.int .u8 x] w (.int .i64 (bE (l[s]).bv x)):=by
 obtain⟨a,c,rfl,M,D,t⟩:=y;obtain⟨b,off,rfl,r⟩:=t qel;obtain⟨-,I,q,H,G,rfl,L,C,B⟩:=r s hs;have K:=Mem_cell_lt f q;have J:=Mem_cell_w f q;generalize l[s].bv=es at*
 clear r t;unfold maxLen at D C;refine au fun R hR=>?_
 go_enter func102,ntmps102
 go_wp2;refine aC [2,23,24,25] (fun n j i=>∃k:Nat,k<=es.length/\n=es.length-k/\j=[.int .u8 x,.slice H es.length G,.int .i64 es.length,.int .i64 k]/\bE es x=bE (es.drop k) x/\zB w i) ?_ ?_
 .exact⟨_,0,zG _,rfl,rfl,rfl,cu (zR _ _) _⟩
 rintro X z n j i hX-⟨k,hk,rfl,rfl,hrel,hbel⟩;simp[bB,lk];have d:=Mem_inn_below f hbel;by_cases hlt:k<es.length
 .obtain⟨V,p,rfl,g⟩:=B qdP;obtain⟨u,F,E,Q,P,O,N⟩:=g k hlt;have A:=Mem_cell_lt d u;have U:=Mem_cell_w d u;have T:=Mem_cell_w d F;have S:=Mem_cell_w d E;have HD:=zh (JJ es x k hlt);go_wp2
  .exact hR.o _ _ ⟨jq (by rw[hrel,HD.o,zK ⟨by assumption,by assumption⟩]),cu hbel _⟩
  .exact qhE
  .exact qhE
 .exact qhZ
theorem PP(v:zV)(l:aK)(s:Int)(x:Nat)(m:Mem)(w:zW)(h:m.ay w)(d:aU m v l)(g : -9223372036854775808<=s)(f:s<=9223372036854775807):
 zX 102 #[.agg #[v],.int .i64 s,.int .u8 x] w (.int .i64 (bX l s x)):=by
 by_cases j:s<0
 .rw[qO j];refine au fun R hR=>?_
  go_enter func102,ntmps102
  exact qhm
 .obtain⟨n,rfl⟩:=zT (by omega:0<=s);by_cases b:n<l.length
  .rw[iT l n x b];exact czI v l n x m w h d b
  .rw[gX l n x zo];obtain⟨a,c,rfl,b,i,k⟩:=d;unfold maxLen at i;refine au fun R hR=>?_
   go_enter func102,ntmps102
   exact qhm
theorem ET(v:zV)(l:aK)(s:Int)(m:Mem)(w:zW)(d:m.ay w)(n:aU m v l)(k : -9223372036854775808<=s)(j:s<l.length):
 zX 100 #[.agg #[v],.int .i64 s] w (.bool (bI l s)):=by
 by_cases p:s<0
 .have:bI l s=false:=by simp[bI,p]
  rw[this];refine au fun R hR=>?_
  go_enter func100,ntmps100
  exact qhm
 obtain⟨s,rfl⟩:=zT (by omega:0<=s);have hs:s<l.length:=zo;rw[kT l s hs];obtain⟨a,c,rfl,t,o,i⟩:=n;obtain⟨b,off,rfl,g⟩:=i qel;obtain⟨f,-⟩:=g s hs;have r:=Mem_cell_lt d f;have q:=Mem_cell_w d f;clear g i;unfold maxLen at o;refine au fun R hR=>?_
 go_enter func100,ntmps100
 exact qhm
theorem czs(x y:Bool)(w:zW):
 zX 65 #[.bool x,.bool y] w (.bool (x&&y)):=by
 refine au fun R hR=>?_;cases x<;>cases y
 all_goals
  go_enter func65,ntmps65
  go_wp2;exact qb8
theorem dz1(x y:Bool)(w:zW):
 zX 165 #[.bool x,.bool y] w (.bool (x||y)):=by
 refine au fun R hR=>?_;cases x<;>cases y
 all_goals
  go_enter func165,ntmps165
  go_wp2;exact qb8
theorem VN(x y:Bool)(w:zW):
 zX 139 #[.bool x,.bool y] w (.bool (x && !y)):=by
 refine au fun R hR=>?_;cases x<;>cases y
 all_goals
  go_enter func139,ntmps139
  go_wp2;exact qb8
end Cl
