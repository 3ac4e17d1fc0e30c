/- Lemmas for the proofs of chapter 11. -/
import Derived.Test.YtdgjplfcpcphoaaGreatDoorPkE4
set_option maxRecDepth 100000
set_option maxHeartbeats 16000000
namespace Cl
open Go Go.RowKit Go.Proofs Tryz
theorem Yz(e f:Ed):e=f↔(e.lo=f.lo/\e.hi=f.hi/\e.to=f.to):=by
 cases e;cases f;simp
theorem Rw : (prog.fieldsOf 104).toList = [⟨"Lo", 5, 0, false, "", "", 0⟩, ⟨"Hi", 5, 1, false, "", "", 1⟩, ⟨"To", 3, 2, false, "", "", 8⟩] := by
 kernel_rfl
theorem TW:prog.stoodInHeld 104=false:=by kernel_rfl
theorem Ke:prog.eqGuardType prog.depth 104=false:=by kernel_rfl
theorem YJ:prog.underlying 104=some (.struct (prog.fieldsOf 104)):=by kernel_rfl
theorem Ko(a b c g f e:Int)(w:zW):(Op.equalIn 10000 104 (.agg #[.int .u8 a,.int .u8 b,.int .i64 c]) (.agg #[.int .u8 g,.int .u8 f,.int .i64 e])).run prog w=.ok (a==g&&(b==f&&c==e)) w:=by
 rw[run_equalIn_agg w 9999 104 _ _ YJ TW,Rw];have l:=fun(d:Nat) (a b:Int) (w:zW)=>run_equalIn_int (P:=prog) w d 5 .u8 .u8 a b underlying5;have k:=fun(d:Nat) (a b:Int) (w:zW)=>run_equalIn_int (P:=prog) w d 3 .i64 .i64 a b underlying3;simp only[Op.eqFields];simp[part,isAgg,go_sem,l,k];by_cases j:a=g<;>by_cases i:b=f<;>by_cases h:c=e<;>simp[j,i,h]
theorem IK(v:zV)(l:List Bool)(x:Bool)(m:Mem)(w:zW)(j:m.ay w)(p:jw m v l):
 zX 251 #[v,.bool x] w (.int .i64 (firstIdx (fun y=>x=y) l 0)):=by
 obtain⟨a,c,rfl,A,t,s⟩:=p;unfold maxLen at t;refine aj fun R hR=>?_
 go_enter func251,ntmps251
 go_wp2;refine av [0,1,7,8] (fun n g f=>∃k:Nat,k<=l.length/\n=l.length-k/\g=[.slice a l.length c,.bool x,.int .i64 l.length,.int .i64 k]/\firstIdx (fun y=>x=y) l 0=firstIdx (fun y=>x=y) (l.drop k) k/\zB w f) ?_ ?_
 .exact qa8
 rintro X z n g f q-⟨k,u,rfl,rfl,hrel,hbel⟩;simp[aX,lk];have d:=Mem_inn_below j hbel;by_cases hlt:k<l.length
 .obtain⟨b,off,rfl,r⟩:=s qdX;have B:=Mem_cell_w d (r k hlt);have i:=zh (lN (fun y=>x=y) l k hlt);go_wp2
  all_goals first
   |exact hR.o _ _ ⟨dU (by rw[hrel,i.o,zK (aO (by simp_all))]),hbel⟩
   |exact q.o _ _ _ zo rfl ⟨k+1,zo,rfl,rfl,by rw[hrel,i.o,zJ (by rw[aA (by simp_all)];simp)],hbel⟩
 .exact qb2
theorem Cv(v:zV)(l:List Bool)(x:Bool)(m:Mem)(w:zW)(f:m.ay w)(g:jw m v l):
 zX 218 #[v,.bool x] w (.bool (tf (x∈l))):=by
 have j:=IK v l x m w f g;have d:=nZ (fun y=>x=y) l 0;refine aj fun R k=>?_;generalize q:firstIdx (fun y=>x=y) l 0=r at*
 have p:=zh d;clear d
 go_enter func218,ntmps218
 go_wp2_with fail
 refine j.mono ?_;rintro e w' ⟨rfl,a⟩;go_wp2;refine k.o _ _ ⟨aS ?_,a⟩;rcases p.o with⟨c,b⟩|⟨i,c,b,n,-⟩
 .rw[aA (fun h=>b x h rfl)];simp[c]
 .rw[aO (by rw[n];exact zF c)];simp[b]
theorem EO(v v':zV)(l l':List Ed)(m:Mem)(w:zW)(D:m.ay w)(E:kS m v l)(i:kS m v' l'):
 zX 212 #[v,v'] w (.bool (tf (l=l'))):=by
 obtain⟨a,c,rfl,Y,K,J⟩:=E;obtain⟨U,T,rfl,L,r,q⟩:=i;unfold maxLen at K r;refine aj fun R hR=>?_;by_cases hlen:l.length=l'.length
 .have g:((l.length:Int) != (l'.length:Int))=false:=by simp[hlen]
  have Hlen:=zh hlen;clear hlen
  go_enter func212,ntmps212
  go_wp2;refine av [0,1,12,13] (fun n y x=>∃k:Nat,k<=l.length/\n=l.length-k/\y=[.slice a l.length c,.slice U l'.length T,.int .i64 l.length,.int .i64 k]/\(l=l'↔l.drop k=l'.drop k)/\zB w x) ?_ ?_
  .exact qaA
  rintro X z n y x G-⟨k,W,rfl,rfl,f,hbel⟩;have Hrel:=zh f;clear f;simp[aX,lk];have d:=Mem_inn_below D hbel;by_cases hlt:k<l.length
  .have hlt':k<l'.length:=by rw[<-Hlen.o];exact hlt
   obtain⟨b,off,rfl,I⟩:=J qdX;obtain⟨b',A,rfl,p⟩:=q qd3;obtain⟨O,N,M,-⟩:=I k hlt;obtain⟨u,t,s,-⟩:=p k hlt';have c1:=Mem_cell_w d O;have c2:=Mem_cell_w d N;have Z:=Mem_cell_w d M;have S:=Mem_cell_w d u;have Q:=Mem_cell_w d t;have P:=Mem_cell_w d s;have C:=zh qfo;have V:=fun w=>Ko (l[k].lo) (l[k].hi) (l[k].to) (l'[k].lo) (l'[k].hi) (l'[k].to) w;have F:=Ke;have B:=zh (Yz l[k] l'[k]);go_wp2
   go_quiet (fail)
   go_wp2
   .refine hR.o _ _ ⟨aS ?_,below_drewN hbel _⟩;rw[aA];intro h;have H:=B.o.1 (C.o.1 (Hrel.o.1 h)).1;have j:=‹(!(l[k].lo:Int)==(l'[k].lo:Int))=true\/_›;simp[H]at j
   .refine G.o _ _ _ zo rfl ⟨k+1,zo,rfl,rfl,?_,below_drewN hbel _⟩;have j:=‹(!(l[k].lo:Int)==(l'[k].lo:Int))=false/\_›;simp at j;exact Hrel.o.trans (C.o.trans ⟨fun h=>h.2,fun h=>⟨B.o.2 zo,h⟩⟩)
  .exact qam
 .have g:((l.length:Int) != (l'.length:Int))=true:=by simp;omega
  go_enter func212,ntmps212
  exact qaC
theorem Wp(p d:Bool)(v v':zV)(l i:List Ed)(m:Mem)(w:zW)(n:m.ay w)(j:kS m v l)(g:kS m v' i):
 zX 211 #[.agg #[.bool p,v],.agg #[.bool d,v']] w (.bool (tf ((⟨p,l⟩:Sn)=⟨d,i⟩))):=by
 refine aj fun R k=>?_;have b:zB w ((w.alloc (.cells #[.bool p,v] 80)).alloc (.cells #[.bool d,v'] 80)):=bE qfB _;have r:=EO v v' l i m _ (Mem_inn_below n b) j g;obtain⟨a,c,rfl,-⟩:=j;obtain⟨u,t,rfl,-⟩:=g;by_cases f:p=d
 .have q:(p==d)=true:=by simp[f]
  have s:=zh f;clear f
  go_enter func211,ntmps211
  go_wp2_with fail
  refine r.mono ?_;rintro e w' ⟨rfl,h⟩;go_wp2;refine k.o _ _ ⟨aS (dh ?_),dD b h⟩;simp[s.o]
 .have q:(p==d)=false:=by simp[f]
  go_enter func211,ntmps211
  go_wp2;refine k.o _ _ ⟨aS ?_,b⟩;rw[aA];simp[f]
def allT:aC:=[⟨true,[⟨0,255,0⟩]⟩]
theorem QA(w:zW):
 zC 61 #[] w fun e w'=>∃g1 g2,e=.returned (.agg #[.slice (some ⟨g2,0,none⟩) 1 1])/\zB w w'/\w.heap.size<=g1/\w.heap.size<=g2/\g1≠g2 /\
  bH w' g1 104 #[.int .u8 0,.int .u8 255,.int .i64 0]/\bH w' g2 80 #[.bool true,.slice (some ⟨g1,0,none⟩) 1 1]:=by
 refine aj fun R hR=>?_
 go_enter func61,ntmps61
 go_wp2;refine yV (v:=.agg #[.slice (some ⟨w.heap.size+1+1,0,none⟩) 1 1]) (by simp[results,results61,go_sem]) rfl ?_;refine hR.o _ _ ⟨_,_,rfl,bE (bE qfB _) _,?_,?_,?_,(bH.new _ _ _).al _,?_⟩
 .simp<;>omega
 .omega
 .simp<;>omega
 .have:=bH.new ((w.alloc (Obj.cells #[Value.slice (some { block:=w.heap.size+1+1,off:=0 }) 1 1] 27)).alloc (Obj.cells #[Value.int IntKind.u8 0,Value.int IntKind.u8 255,Value.int IntKind.i64 0] 104)) 80 #[Value.bool true,Value.slice (some { block:=w.heap.size+1,off:=0 }) 1 1];exact qa5
theorem Jo(v v':zV)(l l':aC)(m:Mem)(w:zW)(P:m.ay w)(Q:aQ m v l)(x:aQ m v' l'):
 zX 210 #[v,v',.func (.func 211) #[] #[]] w (.bool (tf (l=l'))):=by
 obtain⟨a,c,rfl,h1,W,V⟩:=Q;obtain⟨a',c',rfl,Y,B,A⟩:=x;unfold maxLen at W B;refine aj fun R hR=>?_;by_cases hlen:l.length=l'.length
 .have t:((l.length:Int) != (l'.length:Int))=false:=by simp[hlen]
  have Hlen:=zh hlen;clear hlen
  go_enter func210,ntmps210
  go_wp2;refine av [0,1,2,15,16,17] (fun n F E=>∃k:Nat,k<=l.length/\n=l.length-k/\F=[.slice a l.length c,.slice a' l'.length c',.func (.func 211) #[] #[],.slice a l.length c,.int .i64 l.length,.int .i64 k]/\(l=l'↔l.drop k=l'.drop k)/\zB w E) ?_ ?_
  .exact qaA
  rintro X z n F E T-⟨k,hk,rfl,rfl,p,hbel⟩;have Hrel:=zh p;clear p;simp[aX,lk];have d:=Mem_inn_below P hbel;by_cases hlt:k<l.length
  .have hlt':k<l'.length:=by rw[<-Hlen.o];exact hlt
   obtain⟨b,off,rfl,U⟩:=V qdX;obtain⟨b',G,rfl,y⟩:=A qd3;obtain⟨J,M,Z,I⟩:=U k hlt;obtain⟨r,s,C,q⟩:=y k hlt';have K:=zh qfo;have g:=fun L u=>Wp l[k].aZ l'[k].aZ M s l[k].aH l'[k].aH m L u I q;have Hc:=zh g;clear g;obtain⟨ua,uc,rfl,-⟩:=I;obtain⟨O,N,rfl,-⟩:=q;have c1:=Mem_cell_w d J;have c2:=Mem_cell_w d Z;have e':=Mem_cell_w d r;have d':=Mem_cell_w d C;have S:=Mem_cell_lt d J;have H:=Mem_cell_lt d r
   go_wp2_with fail
   refine(Hc.o _ (Mem_inn_below d (bE qfB _))).mono ?_;rintro e w' ⟨rfl,j⟩;have i:=dD (bE (bE hbel _) _) j;clear j;by_cases f:(⟨l[k].aZ,l[k].aH⟩:Sn)=⟨l'[k].aZ,l'[k].aH⟩
   .rw[aO f];have D:=zh f;clear f;go_wp2;exact T.o _ _ _ zo rfl ⟨k+1,zo,rfl,rfl,Hrel.o.trans (K.o.trans ⟨fun h=>h.2,fun h=>⟨D.o,h⟩⟩),i⟩
   .rw[aA f];go_wp2;exact hR.o _ _ ⟨aS (by rw[aA];intro h;exact f (K.o.1 (Hrel.o.1 h)).1),i⟩
  .exact qam
 .have t:((l.length:Int) != (l'.length:Int))=true:=by simp;omega
  go_enter func210,ntmps210
  exact qaC
theorem Ba(v v':zV)(l g:aC)(m:Mem)(w:zW)(i:m.ay w)(h:aQ m v l)(b:aQ m v' g):
 zX 176 #[.agg #[v],.agg #[v']] w (.bool (tf (l=g))):=by
 refine aj fun R k=>?_;have f:zB w ((w.alloc (.cells #[v] 27)).alloc (.cells #[v'] 27)):=bE qfB _;have j:=Jo v v' l g m _ (Mem_inn_below i f) h b;obtain⟨a,c,rfl,-⟩:=h;obtain⟨p,n,rfl,-⟩:=b
 go_enter func176,ntmps176
 go_wp2_with fail
 refine j.mono ?_;rintro e w' ⟨rfl,d⟩;go_wp2;exact k.o _ _ ⟨rfl,dD f d⟩
noncomputable def kI(P:Nat->Prop)(n:Nat):Array Value:=((List.range n).map fun b=>Value.bool (tf (P b))).toArray
theorem iM{P:Nat->Prop}{n i:Nat}(h:i<n):(kI P n)[i]?=some (.bool (tf (P i))):=by simp[kI,h]
theorem dF{P P':Nat->Prop}{n:Nat}(h:∀b,b<n->(P b↔P' b)):kI P n=kI P' n:=by
 unfold kI
 congr 1
 apply xZ;intro b a;rw[dh (h b (yQ.1 a))]
theorem JV{P:Nat->Prop}{n i:Nat}(h:¬i<n):(kI P n)[i]?=none:=by simp[kI];omega
theorem iL(P:Nat->Prop)(n i:Nat):(kI P n).setIfInBounds i (.bool true)=kI (fun b=>P b\/b=i) n:=by
 apply Array.ext_getElem?;intro j;rw[Array.getElem?_setIfInBounds];by_cases c:j<n
 .by_cases a:i=j
  .subst a;rw[zK rfl,zK (by simpa [kI]using c),iM c,aO (Or.inr rfl)]
  .rw[zJ a,iM c,iM c,dh (show P j↔(P j\/j=i) from⟨.inl,fun h=>h.elim id (fun e=>absurd e.symm a)⟩)]
 .rw[JV c,JV c];by_cases a:i=j
  .rw[zK a,zJ (by simp[kI];omega)]
  .rw[zJ a]
theorem ma(n:Nat):Array.replicate n (Value.bool false)=kI (fun _=>False) n:=by
 apply Array.ext
 .simp[kI]
 .intro j b a;simp[kI,aA (p:=False) id]
theorem sO:zeroCells175=Array.replicate 257 (Value.bool false):=by kernel_rfl
def kD(e:Ed)(b:Nat):Prop:=e.lo=b\/e.hi+1=b
def nA(l:aC)(b:Nat):Prop:=b=0\/∃s∈l,∃e∈s.aH,kD e b
noncomputable def di(l:aC)(n:Nat):List Int:=((List.range n).filter fun b=>tf (nA l b)).map Int.ofNat
theorem Er(l:aC)(n:Nat):di l (n+1)=di l n++if tf (nA l n)then[(n:Int)]else[]:=by
 unfold di;rw[List.range_succ,List.filter_append,yI]
 congr 1
 cases h:tf (nA l n)<;>simp[h]
theorem uz(l:aC)(n:Nat):∀x∈di l n,0<=x/\x<n:=by
 intro x a;simp only[di,yD,xR,yQ]at a;obtain⟨b,⟨c,-⟩,rfl⟩:=a;simp;exact c
theorem pX(l:aC)(n:Nat):(di l n).length<=n:=by
 unfold di;rw[xC];exact yJ (vB _ _) zS
theorem qW{es:List Ed}{j:Nat}(h:j<es.length)(b:Nat):(∃e∈es.take (j+1),kD e b)↔(∃e∈es.take j,kD e b)\/kD es[j] b:=by
 rw[zH h];constructor
 .rintro⟨e,c,a⟩;rcases yP.1 c with d|d
  .exact .inl ⟨e,d,a⟩
  .rw[zZ.1 d]at a;exact .inr a
 .rintro(⟨e,c,a⟩|a)
  .exact⟨e,xI _ c,a⟩
  .exact⟨_,xS _ (zZ.2 rfl),a⟩
theorem Kq{l:aC}{k:Nat}(h:k<l.length)(b:Nat):nA (l.take (k+1)) b↔nA (l.take k) b\/∃e∈(l[k]).aH,kD e b:=by
 unfold nA;rw[zH h];constructor
 .rintro(f|⟨s,c,a⟩)
  .exact .inl (.inl f)
  .rcases yP.1 c with d|d
   .exact .inl (.inr ⟨s,d,a⟩)
   .rw[zZ.1 d]at a;exact .inr a
 .rintro((f|⟨s,c,a⟩)|a)
  .exact .inl f
  .exact .inr ⟨s,xI _ c,a⟩
  .exact .inr ⟨_,xS _ (zZ.2 rfl),a⟩
theorem gq{n:Nat}{p:Int}{es:List Ed}(h:bP n p es):∀e∈es,e.lo<=e.hi/\0<=e.to/\e.to<n:=by
 induction es generalizing p with
 |nil=>simp
 |cons e es ih=>
  obtain⟨f,d,c,-,b⟩:=h;intro x a;rcases yA.1 a with rfl|a
  .exact⟨f,d,c⟩
  .exact ih b x a
theorem sZ:gz prog 135 3 1 8:=⟨underlying135,zo,by
 obtain⟨i,d,c,b,a⟩:=info_parts (P:=prog) (e:=3) (z:=.int .i64 0) (size:=1) (bytes:=8) zk;exact⟨i,_,d,c,b,a,rfl⟩⟩
theorem Zw(D:zV)(l:aC)(m:Mem)(w:zW)(hm:m.ay w)(N:aQ m D l)(y:WF l):
 zC 254 #[D] w fun e w'=>∃r,e=.returned r/\zB w w'/\eU (m.grow w w') r (di l 256):=by
 obtain⟨a,c,rfl,h1,h2,Z⟩:=N;unfold maxLen at h2;refine aj fun R hR=>?_
 go_enter func254,ntmps254
 go_wp2;refine av [3,11,12,13] (fun n d C=>∃(k:Nat),k<=l.length/\n=l.length-k/\d=[.pointer (some ⟨w.heap.size,0,none⟩),.slice a l.length c,.int .i64 l.length,.int .i64 k] /\
  Own w m C m [.obj w.heap.size 175 (kI (nA (l.take k)) 257)]) ?_ ?_
 .exact qaG
 rintro X z n d C V-⟨k,hk,rfl,rfl,t⟩;simp[aX,lk];by_cases hlt:k<l.length
 .obtain⟨b,off,rfl,W⟩:=Z qdX;have g:=t.ay;obtain⟨G,ve,g2,I,H,rfl,g4,g5,g6⟩:=W k hlt;have T:=Mem_cell_w g G;have S:=Mem_cell_w g g2;have hb:=Mem_cell_lt g G;have A:=gq (y l[k] (zF hlt));have u:=zh (fun b=>Kq hlt b);generalize l[k]=s at*
  unfold maxLen at g5;have P:=t.obj.lt;have hO':=t.al' (.cells #[.bool s.aZ,.slice I s.aH.length H] 80);go_wp2;refine av [3,11,12,13,18,19,20] (fun n d p=>∃(j:Nat),j<=s.aH.length/\n=s.aH.length-j/\d=[.pointer (some ⟨w.heap.size,0,none⟩),.slice (some ⟨b,off,none⟩) l.length c,.int .i64 l.length,.int .i64 k,.slice I s.aH.length H,.int .i64 s.aH.length,.int .i64 j] /\
   Own w m p m [.obj w.heap.size 175 (kI (fun b=>nA (l.take k) b\/∃e∈s.aH.take j,kD e b) 257)]) ?_ ?_
  .exact qcv
  rintro Y K n d p hY-⟨j,hj,rfl,rfl,hO2⟩;simp[aX,lk];by_cases hlt2:j<s.aH.length
  .obtain⟨b',E,rfl,B⟩:=g6 qd6;obtain⟨J,e2,e3,e4,e5,-⟩:=B j hlt2;have M:=(A s.aH[j] (zF hlt2)).1;have d1:=Mem_cell_w hO2.ay J;have d2:=Mem_cell_w hO2.ay e2;have d3:=Mem_cell_w hO2.ay e3;have U:=Mem_cell_lt hO2.ay J;have O:=hO2.obj.lt;have k1:=hO2.obj.cell (iM (i:=s.aH[j].lo) zo);have k2:=hO2.obj.cell (iM (i:=s.aH[j].hi+1) zo);have k3:=hO2.obj.frozen s.aH[j].lo;have k4:=hO2.obj.frozen (s.aH[j].hi+1);have L:s.aH[j].lo≠s.aH[j].hi+1:=zo;have F:s.aH[j].hi+1≠s.aH[j].lo:=zo;have hO3:=(((hO2.set s.aH[j].lo (.bool true)).set (s.aH[j].hi+1) (.bool true))).al' (.cells #[.int .u8 s.aH[j].lo,.int .u8 s.aH[j].hi,.int .i64 s.aH[j].to] 104);rw[iL,iL,dF (P':=fun b=>nA (l.take k) b\/∃e∈s.aH.take (j+1),kD e b) (by
    intro b _;rw[qW hlt2];unfold kD;constructor
    .rintro((h|h)|h)
     .exact qdc
     .exact qcU
     .exact .inr (.inr (.inr h.symm))
    .rintro(h|h|h|h)
     .exact qcR
     .exact qcQ
     .exact .inl (.inr h.symm)
     .exact .inr h.symm)]at hO3
   exact qcD
  .go_wp2;refine V.o _ _ _ zo rfl ⟨k+1,zo,rfl,rfl,?_⟩;rw[dF (P':=fun b=>nA (l.take k) b\/∃e∈s.aH.take j,kD e b) (by
    intro b _;rw[u.o,xH (l:=s.aH) (i:=j) zo])]
   exact hO2
 .rw[xH zo]at t;go_wp2;refine av [3,8,34] (fun n d p=>∃(q:Nat) (v:zV),q<=256/\n=256-q/\d=[.pointer (some ⟨w.heap.size,0,none⟩),v,.int .i64 q] /\
   Own w m p m [.row v 3 1 (di l q).length ((di l q).map (Value.int .i64)),.obj w.heap.size 175 (kI (nA l) 257)]) ?_ ?_
  .exact⟨_,0,.slice none 0 0,zo,rfl,rfl,t.dL _ _⟩
  rintro Y K n d p hY-⟨q,v,hq,rfl,rfl,hO2⟩;simp[aX,lk];by_cases hlt2:q<256
  .have k1:=hO2.au.obj.cell (iM (i:=q) zo);have hg:=hO2.au.obj.lt;have Q:=pX l q;have hsu:=Er l q;by_cases hc:nA l q
   .have ht:=aO hc;rw[ht]at k1;rw[ht,zK rfl]at hsu;have Hsu:=zh hsu;clear hsu ht;have hO3:=hO2.al #[.int .i64 q] 3
    go_wp2_with (at_builtin;refine aG sZ rfl (.tmp 40) (.tmp 42) rfl v (di l q).length ((di l q).map (Value.int .i64)) rfl hO3.au.row ⟨p.heap.size,0,none⟩ 1 1 [.int .i64 q] rfl rfl (hO3.obj.cZ rfl) qdZ qdY zo ?_)
    exact qaj
   .exact qbr
  .obtain rfl:q=256:=zo;have f:=fH hO2.bJ.done qfD;have Hfin:=zh (zi hO2.az f);clear f hO2;go_wp2;exact qai
def ym(n:Nat)(es:List Ed)(c:Int):Int:=if bv es c.toNat<0 then(n:Int)else bv es c.toNat
def pI(n:Nat)(a:List Int)(es:List Ed):List Int:=a.map (ym n es)
theorem Rx(es:List Ed)(e:Ed)(b:Nat)(h:∀x∈es,x.hi<e.lo):bv (es++[e]) b=if e.lo<=b/\b<=e.hi then e.to else bv es b:=by
 induction es with
 |nil=>rfl
 |cons x es ih=>
  have c:=h x zS;have:=ih (fun y hy=>h y qey);simp only[xK,bv];by_cases a:x.lo<=b/\b<=x.hi
  .rw[zK a,zK a,zJ zo]
  .rw[zJ a,zJ a,this]
theorem Fq{n:Nat}{es:List Ed}:∀{p:Int},bP n p es->∀j,(h:j<es.length)->∀x∈es.take j,x.hi<(es[j]).lo:=by
 induction es with
 |nil=>intro p _ j h;simp at h
 |cons e es ih=>
  intro p l j h x a;obtain⟨-,-,-,-,g⟩:=l
  cases j with
  |zero=>simp at a
  |succ j=>
   simp only[List.take_succ_cons,yA]at a;have d:j<es.length:=by simpa using h
   have c:∀{q:Int} {fs:List Ed},bP n q fs->∀y∈fs,q<y.lo:=by
    intro q fs
    induction fs generalizing q with
    |nil=>simp
    |cons f fs ihf=>
     intro m y b;obtain⟨o,-,-,k,i⟩:=m;rcases yA.1 b with rfl|b
     .exact k
     .have:=ihf i y b;omega
   rcases a with rfl|a
   .have:=c g es[j] (zF d);simp only[List.getElem_cons_succ];omega
   .simpa using ih g j d x a
theorem Vn{n:Nat}{es:List Ed}{p:Int}(d:bP n p es){j:Nat}(b:j<es.length)(c:Int):
 ym n (es.take (j+1)) c=if(es[j]).lo<=c.toNat/\c.toNat<=(es[j]).hi then(es[j]).to else ym n (es.take j) c:=by
 have e:=(gq d es[j] (zF b)).2;unfold ym;rw[zH b,Rx _ _ _ (Fq d j b)];by_cases a:(es[j]).lo<=c.toNat/\c.toNat<=(es[j]).hi
 .rw[zK a,zK a,zJ zo]
 .rw[zJ a,zJ a]
def sD(l:aC)(a:List Int):List (List Int):=l.map (fun s=>pI l.length a s.aH)
theorem ES:gz prog 176 135 1 24:=⟨underlying176,zo,by
 obtain⟨i,d,c,b,a⟩:=info_parts (P:=prog) (e:=135) (z:=.slice none 0 0) (size:=1) (bytes:=24) zk;exact⟨i,_,d,c,b,a,rfl⟩⟩
theorem Db:IG prog 135 3 8 (.int .i64 0):=⟨underlying135,zk,rfl⟩
theorem E5:IG prog 147 4 1 (.bool false):=⟨underlying147,zk,rfl⟩
theorem K5:gz prog 147 4 1 1:=⟨underlying147,zo,by
 obtain⟨i,d,c,b,a⟩:=info_parts (P:=prog) (e:=4) (z:=.bool false) (size:=1) (bytes:=1) zk;exact⟨i,_,d,c,b,a,rfl⟩⟩
structure nE (m:Mem) (xs:List Value) (l:List (List Int)):Prop where
 len:xs.length=l.length
 get:∀i (h:i<l.length),∃v,xs[i]?=some v/\eU m v l[i]
theorem nE.nil(m:Mem):nE m [] []:=⟨rfl,fun i h=>by simp at h⟩
theorem nE.mono{m m':Mem}{xs:List Value}{l:List (List Int)}(h:nE m xs l)(a:m.le m'):nE m' xs l:=
 ⟨h.len,fun i hi=>let ⟨v,h1,h2⟩:=h.get i hi;⟨v,h1,fH a h2⟩⟩
theorem nE.push{m:Mem}{xs:List Value}{l:List (List Int)}(h:nE m xs l){x:List Int}{v:zV}(a:eU m v x):nE m (xs++[v]) (l++[x]):=by
 refine⟨by simp[h.len],fun i hi=>?_⟩;by_cases c:i<l.length
 .obtain⟨u,h1,h2⟩:=h.get i c;exact qc0
 .have:i=l.length:=by simp at hi;omega
  subst this;refine⟨v,?_,by simpa using a⟩;exact qdf
theorem wF{w:zW}{t:TypeId}{v:zV}{l:List (List Int)}{xs:List Value}{m:Mem}(a:w.ownsRow 0 t 1 v l.length xs)(b:nE m xs l)(d:m.free v):pq (m.iw w v) v l:=
 lK a fun _ c i h=>let ⟨u,h1,h2⟩:=b.get i h;⟨u,iK a c m h1,fH (Mem_le_addv d) h2⟩
def part(f:Int->Int)(a:List Int)(i:Nat):List Value:=((a.take i).map f++List.replicate (a.length-i) 0).map (Value.int .i64)
def vX(f:Int->Int)(a:List Int)(i:Nat)(x:Int):List Value:=((a.take i).map f++x::List.replicate (a.length-i-1) 0).map (Value.int .i64)
theorem NI{f:Int->Int}{a:List Int}{i:Nat}(h:i<a.length):part f a i=vX f a i 0:=by
 unfold part vX;rw[show a.length-i=(a.length-i-1)+1 by omega,List.replicate_succ]
 rfl
theorem JR{f:Int->Int}{a:List Int}{i:Nat}(h:i<a.length)(x:Int):(vX f a i x)[i]?=some (.int .i64 x):=by
 unfold vX;rw[List.getElem?_map,yN qd4];simp[Nat.min_eq_left (Nat.le_of_lt h)]
theorem JQ{f:Int->Int}{a:List Int}{i:Nat}(h:i<a.length)(x y:Int):(vX f a i x).set i (.int .i64 y)=vX f a i y:=by
 unfold vX;rw[yI,yI,List.set_append_right _ _ qd4];simp[Nat.min_eq_left (Nat.le_of_lt h)]
theorem F4{f:Int->Int}{a:List Int}{i:Nat}(h:i<a.length):vX f a i (f a[i])=part f a (i+1):=by
 unfold part vX;rw[zH h,show a.length-i-1=a.length-(i+1)by omega];simp only[yI,yL,xD,xK,xN,xB]
theorem JP(f:Int->Int)(a:List Int):List.replicate a.length (Value.int .i64 0)=part f a 0:=by simp[part]
theorem NJ(f:Int->Int)(a:List Int):part f a a.length=(a.map f).map (Value.int .i64):=by simp[part]
theorem NH{f:Int->Int}{a:List Int}{i:Nat}(h:i<a.length):(part f a i)[i]?=some (.int .i64 0):=by rw[NI h];exact JR h 0
theorem NG{f:Int->Int}{a:List Int}{i:Nat}(h:i<a.length)(y:Int):(part f a i).set i (.int .i64 y)=vX f a i y:=by rw[NI h];exact JQ h 0 y
theorem Rn{n:Nat}{p:Int}{es:List Ed}(a:bP n p es)(c:Int):0<=ym n es c/\ym n es c<=n:=by
 unfold ym;rcases wI a c.toNat with h|h
 .rw[h,zK zo];omega
 .rw[zJ zo];omega
theorem Ab{n:Nat}{p:Int}{es:List Ed}(d:bP n p es)(a:List Int):∀x∈pI n a es,0<=x/\x<=n:=by
 intro x b;obtain⟨c,-,rfl⟩:=yD.1 b;exact Rn d c
structure TabAt (m:Mem) (g:Nat) (cuts:List Int) (next:List (List Int)) (acc:List Bool) (bK:List Int):Prop where
 ex:∃vc vn va vk,m.cell g 0=some vc/\m.cell g 1=some vn/\m.cell g 2=some va/\m.cell g 3=some vk /\
  eU m vc cuts/\pq m vn next/\jw m va acc/\eU m vk bK
theorem TabAt.mono{m m':Mem}{g:Nat}{b:List Int}{next:List (List Int)}{acc:List Bool}{bK:List Int}(h:TabAt m g b next acc bK)(a:m.le m'):TabAt m' g b next acc bK:=by
 obtain⟨e,c,va,d,p,o,n,l,k,j,i,f⟩:=h.ex;exact⟨e,c,va,d,Mem_cell_le a p,Mem_cell_le a o,Mem_cell_le a n,Mem_cell_le a l,fH a k,uj a j,lh a i,fH a f⟩
def Eo(a:List Int)(i:Nat):Int:=if h:i+1<a.length then a[i+1]-1 else 255
theorem Zt(g:Nat)(d:List Int)(next:List (List Int))(acc:List Bool)(bK:List Int)(i:Nat)(m:Mem)(w:zW)(j:m.ay w)(ht:TabAt m g d next acc bK)
(hi:i<d.length)(q:∀h:i+1<d.length,1<=d[i+1]/\d[i+1]<=255):
 zC 257 #[.pointer (some ⟨g,0,none⟩),.int .i64 i] w fun e w'=>e=.returned (.int .u8 (Eo d i))/\w'=w:=by
 obtain⟨y,u,va,v,l,-,-,-,⟨a,c,rfl,E,t,s⟩,-,-,-⟩:=ht.ex;have D:=Mem_cell_lt j l;have C:=Mem_cell_w j l;unfold maxLen at t;refine aj fun R k=>?_
 go_enter func257,ntmps257
 by_cases hlt:i+1<d.length
 .obtain⟨b,off,rfl,r⟩:=s qdX;obtain⟨n,B,A⟩:=r (i+1) hlt;have z:=Mem_cell_w j n;have p:=q hlt;have f:Eo d i=d[i+1]-1:=by simp[Eo,hlt]
  generalize d[i+1]=x at*
  go_wp2;refine k.o _ _ ⟨?_,rfl⟩;rw[f]
  rfl
 .have f:Eo d i=255:=by simp[Eo,hlt]
  go_wp2;refine k.o _ _ ⟨?_,rfl⟩;rw[f]
  rfl
def cl(bK:List Int)(s:Nat):Nat:=(bK.getD s 0).toNat
def bt(out:List Bool)(c:Nat):Bool:=out.getD c false
def nx(next:List (List Int))(s:Nat):List Int:=next.getD s []
def C8(out:List Bool)(bK l:List Int)(b:Bool):Bool:=b||l.any fun x=>bt out (cl bK x.toNat)
theorem oU{out:List Bool}{c:Nat}(h:c<out.length):bt out c=out[c]:=by simp[bt,h]
theorem UA{out:List Bool}{bK l:List Int}{b:Bool}{j:Nat}(h:j<l.length):C8 out bK (l.take (j+1)) b=(C8 out bK (l.take j) b||bt out (cl bK (l[j]).toNat)):=by
 unfold C8;rw[zH h,List.any_append];simp[Bool.or_assoc]
inductive uQ (next:List (List Int)) (acc:List Bool) (bK:List Int):Nat->Prop
 |acc (s:Nat) (hs:s<next.length) (h:bt acc s=true):uQ next acc bK (cl bK s)
 |step (s:Nat) (hs:s<next.length) (x:Int) (hx:x∈nx next s) (h:uQ next acc bK (cl bK x.toNat)):uQ next acc bK (cl bK s)
def yh(next:List (List Int))(acc:List Bool)(bK:List Int)(out:List Bool):Prop:=∀c,bt out c=true->uQ next acc bK c
def sI(next:List (List Int))(acc:List Bool)(bK:List Int)(out:List Bool)(k:Nat):Prop:=
 ∀s,s<k->C8 out bK (nx next s) (bt acc s)=true->bt out (cl bK s)=true
theorem UU{next:List (List Int)}{acc:List Bool}{bK:List Int}{out:List Bool}(b:yh next acc bK out)(a:sI next acc bK out next.length)(c:Nat):
 bt out c=true↔uQ next acc bK c:=by
 refine⟨b c,fun h=>?_⟩
 induction h with
 |acc s hs h=>exact a s hs (by simp[C8,h])
 |step s hs x hx _ ih=>exact a s hs (by simp only[C8,Bool.or_eq_true,List.any_eq_true];exact .inr ⟨x,hx,ih⟩)
theorem Gm{next:List (List Int)}{acc:List Bool}{bK:List Int}{out:List Bool}{k:Nat}(h:sI next acc bK out k)(b:C8 out bK (nx next k) (bt acc k)=true->bt out (cl bK k)=true):
 sI next acc bK out (k+1):=fun s c a=>by
 by_cases e:s=k
 .subst e;exact b a
 .exact h s zo a
theorem L6{next:List (List Int)}{acc:List Bool}{bK:List Int}{out:List Bool}(d:yh next acc bK out){s:Nat}(b:s<next.length)(a:C8 out bK (nx next s) (bt acc s)=true):
 yh next acc bK (out.set (cl bK s) true):=by
 intro c g;by_cases e:cl bK s=c
 .subst e;simp only[C8,Bool.or_eq_true,List.any_eq_true]at a;rcases a with h|⟨x,f,h⟩
  .exact .acc s b h
  .exact .step s b x f (d _ h)
 .refine d c ?_;simpa [bt,List.getElem?_set,e]using g
theorem VM{out:List Bool}:∀{c:Nat},c<out.length->bt out c=false->(out.set c true).count false+1=out.count false:=by
 induction out with
 |nil=>intro c h;simp at h
 |cons b out ih=>
  intro c h hb
  cases c with
  |zero=>
   simp[bt]at hb;subst hb
   simp
  |succ c=>
   exact qb4
theorem Xq(g:Nat)(h':List Int)(next:List (List Int))(acc:List Bool)(bK:List Int)(m:Mem)(w:zW)(hm:m.ay w)(ht:TabAt m g h' next acc bK)
(ha:acc.length=next.length)(hk:bK.length=next.length)(hn:∀r∈next,∀x∈r,0<=x/\x<next.length)(f':∀x∈bK,0<=x/\x<next.length)(A':next.length<=1000001):
 Calls prog 256 #[.pointer (some ⟨g,0,none⟩)] w fun e w'=>∃r out,e=.returned r/\Below w.heap.size w w'/\jw (m.grow w w') r out/\out.length=next.length /\
  ∀c,bt out c=true↔uQ next acc bK c:=by
 obtain⟨vc,vn,va,vk,e1,e2,e3,e4,-,⟨na,nc,rfl,n1,n2,n3⟩,⟨aa,ac,rfl,a1,a2,a3⟩,⟨ka,kc,rfl,k1,k2,k3⟩⟩:=ht.ex;have hg:=Mem_cell_lt hm e1;have w2:=Mem_cell_w hm e2;have w3:=Mem_cell_w hm e3;have w4:=Mem_cell_w hm e4;unfold maxLen at n2 a2 k2;refine aj fun R hR=>?_
 go_enter func256,ntmps256
 go_wp2_with (refine wpList_make_row E5 rfl (.tmp 13) (.tmp 13) rfl next.length rfl rfl zo qdY ?_)
 intro w5 G t;have hO:=(Own.start hm).make G t;clear G t;have F:List.replicate next.length (Value.bool false)=(List.replicate next.length false).map Value.bool:=by simp
 rw[F]at hO;clear F;have W:yh next acc bK (List.replicate next.length false):=by
  intro c hc;simp[bt,List.getElem?_replicate]at hc
  split at hc<;>simp at hc
 generalize hB:w.heap.size=B at*
 have e':(List.replicate next.length false).length=next.length:=by simp
 generalize List.replicate next.length false=S at*
 go_wp2;refine av [0,3,4] (fun n D Q=>∃(out:List Bool) (d:Bool),out.length=next.length/\n=(if d=true then out.count false+1 else 0) /\
  D=[.pointer (some ⟨g,0,none⟩),.slice (some ⟨B,0,none⟩) next.length next.length,.bool d]/\Own w m Q m [.row (.slice (some ⟨B,0,none⟩) next.length next.length) 4 1 next.length (out.map Value.bool)] /\
  yh next acc bK out/\(d=false->sI next acc bK out next.length)) ?_ ?_
 .exact⟨_,S,true,e',rfl,rfl,hO,W,zS⟩
 clear hO W e';rintro X z n D Q hX-⟨out,d,J,rfl,rfl,hO,hs,hcl⟩;simp[aX,lk];have q2:=Mem_cell_w hO.ay e2;have A:=Mem_cell_lt hO.ay e1
 cases d with
 |false=>
  go_wp2;have hb:=lg (l:=out) (m:=m) (w:=Q) (v:=.slice (some ⟨B,0,none⟩) next.length next.length) (by rw[J];exact hO.row)
  exact hR.o _ _ ⟨_,out,rfl,hB ▸ hO.az,lh hO.bJ.done hb,J,UU hs (hcl zS)⟩
 |true=>
  clear hcl;go_wp2;refine av [0,3,4,20,21] (fun n D Q=>∃(ou:List Bool) (ag:Bool) (k:Nat),k<=next.length/\n=next.length-k/\ou.length=next.length /\
   D=[.pointer (some ⟨g,0,none⟩),.slice (some ⟨B,0,none⟩) next.length next.length,.bool ag,.int .i64 next.length,.int .i64 k]/\Own w m Q m [.row (.slice (some ⟨B,0,none⟩) next.length next.length) 4 1 next.length (ou.map Value.bool)] /\
   yh next acc bK ou/\(ag=true->ou.count false<out.count false)/\(ag=false->ou=out/\sI next acc bK ou k)) ?_ ?_
  .exact⟨_,out,false,0,zG _,rfl,J,rfl,hO,hs,zS,fun _=>⟨rfl,fun s h=>absurd h zo⟩⟩
  clear hO q2 A;rintro Y z2 n D D' hY-⟨ou,ag,k,R',rfl,hlu,rfl,hO,hs2,hag,hcl⟩;simp[aX,lk];have q2:=Mem_cell_w hO.ay e2;have q3:=Mem_cell_w hO.ay e3;have q4:=Mem_cell_w hO.ay e4;have A:=Mem_cell_lt hO.ay e1;by_cases hlt:k<next.length
  .obtain⟨nb,no,rfl,n4⟩:=n3 qdX;obtain⟨ab,ao,rfl,a4⟩:=a3 (by intro h;simp[h]at ha;omega);obtain⟨kb,ko,rfl,k4⟩:=k3 (by intro h;simp[h]at hk;omega);obtain⟨u,c1,ra,rc,rfl,r1,r2,r3⟩:=n4 k hlt;have s':=Mem_cell_w hO.ay c1;have c2:=a4 k zo;have i':=Mem_cell_w hO.ay c2;have c3:=k4 k zo;have C:=Mem_cell_w hO.ay c3.1;have a':=hn next[k] (zF hlt);have c':nx next k=next[k]:=by simp[nx,hlt]
   have g':bt acc k=acc[k]:=oU zo;rw[<-g']at i';have m':=f' bK[k] (zF zo);obtain⟨q,K⟩:=zT m'.1;have H:cl bK k=q:=by simp[cl,show k<bK.length by omega,K]
   rw[K]at C;unfold maxLen at r2;generalize next[k]=row at*
   go_wp2;refine av [0,3,4,20,21,5,6,37,38,39] (fun n D P=>∃j:Nat,j<=row.length/\n=row.length-j /\
    D=[.pointer (some ⟨g,0,none⟩),.slice (some ⟨B,0,none⟩) next.length next.length,.bool ag,.int .i64 next.length,.int .i64 k,.int .i64 k,.bool (C8 ou bK (row.take j) (bt acc k)),.slice ra row.length rc,.int .i64 row.length,.int .i64 j] /\
    Own w m P m [.row (.slice (some ⟨B,0,none⟩) next.length next.length) 4 1 next.length (ou.map Value.bool)]) ?_ ?_
   .exact⟨_,0,zG _,rfl,by simp[C8,g'],hO⟩
   clear hO q2 q3 q4 A s' i' C;rintro Z z3 n D P hZ-⟨j,hj,rfl,rfl,hO⟩;simp[aX,lk];have q4:=Mem_cell_w hO.ay e4;have A:=Mem_cell_lt hO.ay e1;by_cases hlt2:j<row.length
   .obtain⟨rb,ro,rfl,r4⟩:=r3 qd6;have d1:=Mem_cell_w hO.ay (r4 j hlt2).1;have hx:=a' row[j] (zF hlt2);obtain⟨O,l'⟩:=zT hx.1;have i:=UA (out:=ou) (bK:=bK) (b:=bt acc k) hlt2;rw[l']at d1 hx i;have P':O<next.length:=zo;have V:=f' bK[O] (zF zo);obtain⟨N,T⟩:=zT V.1;have d2:=Mem_cell_w hO.ay (k4 O zo).1;rw[T]at d2 V;have n':cl bK ((O:Int).toNat)=N:=by simp[cl,show O<bK.length by omega,T]
    rw[n']at i;have U:N<ou.length:=zo;have d3:=bg (j:=N) (u:=.bool ou[N]) hO.row (by simp[U]);rw[<-oU U]at d3;generalize bt ou N=y at*
    have t':=zh i;clear i;generalize C8 ou bK (row.take j) (bt acc k)=ok at*
    go_wp2
    all_goals refine hZ.o _ _ _ zo rfl ⟨j+1,zo,rfl,?_,hO⟩
    all_goals rw[t'.o]
    all_goals first
     |rfl
     |simp_all
   .obtain rfl:j=row.length:=zo;rw[yG];have C:=Mem_cell_w hO.ay c3.1;rw[K]at C;have L:q<ou.length:=zo;have d3:=bg (j:=q) (u:=.bool ou[q]) hO.row (by simp[L]);have d4:=dK hO.row q;rw[<-oU L]at d3;have M:=hO.setRow q (.bool true);have E:(ou.map Value.bool).set q (.bool true)=(ou.set q true).map Value.bool:=by rw[List.map_set]
    rw[E]at M;have f:=VM (out:=ou) (c:=q) L;have a:=L6 (s:=k) hs2 hlt;rw[H,c']at a;generalize b':C8 ou bK row (bt acc k)=ok at*
    generalize V:bt ou q=y at*
    have hclk:∀(_:ok=true->y=true) (_:ag=false),sI next acc bK ou (k+1):=fun h1 h2=>
     Gm (hcl h2).2 (by rw[c',b',H,V];exact h1)
    have u':=zh M;have p:=zh (zi hag (zi hcl (zi f (zi a hclk))));clear M E hag hcl f a hclk b' V
    cases ok with
    |false=>
     go_wp2;obtain⟨hag,hcl,f,a,hclk⟩:=p.o
     exact qck
    |true=>
     cases y with
     |true=>
      go_wp2;obtain⟨hag,hcl,f,a,hclk⟩:=p.o
      exact qck
     |false=>
      go_wp2;obtain⟨hag,hcl,f,a,hclk⟩:=p.o;refine hY.o _ _ _ zo rfl ⟨ou.set q true,true,k+1,zo,rfl,by simp[hlu],rfl,u'.o,a zS,fun _=>?_,zS⟩;have:=f zS
      cases ag with
      |true=>have:=hag rfl;omega
      |false=>have:=(hcl rfl).1;subst this;omega
  .obtain rfl:k=next.length:=zo;have I:(if ag=true then ou.count false+1 else 0)<out.count false+1:=by
    split
    .exact Nat.add_lt_add_right (hag (by assumption)) 1
    .omega
   go_wp2;exact hX.o _ _ _ (by simpa using I) rfl ⟨ou,ag,hlu,rfl,rfl,hO,hs2,fun h=>(hcl h).2⟩
def txt(l:List Int):List UInt8:=l.flatMap fun x=>44::Lib.itoa x
def iJ(l:List Int):List UInt8:=(txt l).tail
def A7(l:List UInt8):Nat:=l.foldl (fun a c=>a*10+(c.toNat-48)) 0
theorem qy(u:Nat):A7 (Lib.decDigits u)=u/\∀c∈Lib.decDigits u,c≠44:=by
 induction u using Nat.strongRecOn with
 |_ u ih=>
  by_cases h:u<10
  .rw[Lib.decDigits,dif_pos h];have:(UInt8.ofNat (48+u)).toNat=48+u:=by simp;omega
   refine⟨by simp only[A7,List.foldl];omega,fun c a e=>?_⟩;simp only[zZ]at a;subst a;rw[e]at this;have f:(44:UInt8).toNat=44:=rfl;omega
  .rw[Lib.decDigits,dif_neg h];have d:=ih (u/10) zo;have:(UInt8.ofNat (48+u%10)).toNat=48+u%10:=by simp;omega
   refine⟨?_,fun c a e=>?_⟩
   .unfold A7 at d⊢;rw[List.foldl_append,d.1];simp only[List.foldl];omega
   .rcases yP.1 a with b|b
    .exact d.2 c b e
    .simp only[zZ]at b;subst b;rw[e]at this;have f:(44:UInt8).toNat=44:=rfl;omega
theorem J7{x:Int}(h:0<=x):A7 (Lib.itoa x)=x.toNat/\∀c∈Lib.itoa x,c≠44:=by
 unfold Lib.itoa;rw[zJ zo];exact qy x.toNat
theorem SX:∀(a b r f:List UInt8),(∀c∈a,c≠44)->(∀c∈b,c≠44)->(r=[]\/∃t,r=44::t)->(f=[]\/∃t,f=44::t)->a++r=b++f->a=b/\r=f:=by
 intro a
 induction a with
 |nil=>
  intro b r f _ i h g e
  cases b with
  |nil=>exact⟨rfl,by simpa using e⟩
  |cons c b=>
   exfalso;rcases h with rfl|⟨t,rfl⟩
   .simp at e
   .simp at e;exact i c zS e.1.symm
 |cons c a ih=>
  intro b r f j i h g e
  cases b with
  |nil=>
   exfalso;rcases g with rfl|⟨t,rfl⟩
   .simp at e
   .simp at e;exact j c zS e.1
  |cons d b=>
   simp only[xK,List.cons.injEq]at e;obtain⟨l,k⟩:=ih b r f (fun x hx=>j x qel) (fun x hx=>i x qel) h g e.2;exact⟨by rw[e.1,l],k⟩
theorem Bq(l:List Int):txt l=[]\/∃t,txt l=44::t:=by
 cases l with
 |nil=>exact .inl rfl
 |cons x l=>exact .inr ⟨Lib.itoa x++txt l,by simp[txt]⟩
theorem YN:∀(l c:List Int),(∀x∈l,0<=x)->(∀x∈c,0<=x)->txt l=txt c->l=c:=by
 intro l
 induction l with
 |nil=>
  intro c _ _ e
  cases c with
  |nil=>rfl
  |cons x c=>simp[txt]at e
 |cons x l ih=>
  intro c h g e
  cases c with
  |nil=>simp[txt]at e
  |cons y c=>
   have e:44::(Lib.itoa x++txt l)=44::(Lib.itoa y++txt c):=by simpa [txt]using e
   simp only[List.cons.injEq,true_and]at e;have j:=J7 (h x zS);have i:=J7 (g y zS);obtain⟨m,k⟩:=SX _ _ _ _ j.2 i.2 (Bq l) (Bq c) e;have f:x=y:=by
    have a:=h x zS;have b:=g y zS;have:=j.1.symm.trans ((congrArg A7 m).trans i.1);omega
   rw[f,ih c (fun z d=>h z (by simp[d])) (fun z d=>g z (by simp[d])) k]
theorem Qj{l c:List Int}(f:l≠[])(d:c≠[])(h:∀x∈l,0<=x)(g:∀x∈c,0<=x)(e:iJ l=iJ c):l=c:=by
 apply YN l c h g
 cases l with
 |nil=>exact absurd rfl f
 |cons x l=>
  cases c with
  |nil=>exact absurd rfl d
  |cons y c=>
   have a:txt (x::l)=44::iJ (x::l):=by simp[iJ,txt]
   have b:txt (y::c)=44::iJ (y::c):=by simp[iJ,txt]
   rw[a,b,e]
theorem Nh(x y:Int)(l:List Int):iJ (x::(l++[y]))=iJ (x::l)++44::Lib.itoa y:=by simp[iJ,txt]
theorem Qi(x:Int):iJ [x]=Lib.itoa x:=by simp[iJ,txt]
theorem Na(l:List UInt8):Lib.strCells ⟨l.toArray⟩=Lib.byteCells l:=by simp[Lib.strCells,Lib.byteCells]
theorem Ad(a b:List UInt8):Lib.byteCells (a++b)=Lib.byteCells a++Lib.byteCells b:=by simp[Lib.byteCells]
theorem Rl(w:zW)(k:Nat)(a:Array Obj):zB w (Sort.grow (w.drewN k) a):=by
 refine(below_drewN (zR _ w) k).trans ⟨rfl,rfl,rfl,?_,fun j b=>?_⟩
 .simp[Sort.grow]
 .show(w.heap++a)[j]?=w.heap[j]?;exact Array.getElem?_append_left b
theorem FJ(l:List Int)(h:∀x∈l,0<=x/\x<=9223372036854775807):(iJ l).length<=22*l.length:=by
 have:(txt l).length<=22*l.length:=by
  induction l with
  |nil=>simp[txt]
  |cons x l ih=>
   have b:=Lib.itoa_length_le x (by have:=h x zS;omega) (h x zS).2;have a:=ih fun y hy=>h y qey;simp only[txt,xO,zL,yO]at a⊢;omega
 unfold iJ;rw[List.length_tail];omega
theorem Np{B:Nat}{w w':zW}{e:TypeId}{v:zV}{n:Nat}{xs:List Value}(h:w.ownsRow B e 1 v n xs)(i:zB w w'):w'.ownsRow B e 1 v n xs:=by
 obtain⟨j,a⟩:=h;refine⟨j,?_⟩;rcases a with a|⟨g,cap,b,d,f,c,r⟩
 .exact .inl a
 .exact .inr ⟨g,cap,b,d,f,by rw[i.block g (yC.1 c).1];exact c,r⟩
theorem Ck{T e:TypeId}{B b:Nat}{p:zV}{d:List Value}{w w':zW}(h:Lib.BuilderAt T e B b p d w)(a:zB w w'):Lib.BuilderAt T e B b p d w':=by
 obtain⟨i,v,c,g,f⟩:=h;exact⟨i,v,by rw[a.block b (yC.1 c).1];exact c,Np g a,f⟩
theorem PK(n:Int)(h : -9223372036854775808<=n/\n<=9223372036854775807)(m:Mem)(w:zW)(c:m.ay w)(a:gD m):
 zX 273 #[.int .i64 n] w (.string ⟨(Lib.itoa n).toArray⟩):=by
 refine(Tryz.strconv_Itoa n h.1 h.2 w (a.get w c)).mono ?_;rintro e w' ⟨rfl,k,b,rfl⟩;exact⟨rfl,Rl w k b⟩
theorem I5(g s:Nat)(vc vn va vk:zV)(next:List (List Int))(bK:List Int)(m:Mem)(w:zW)(hm:m.ay w)(C:gD m)(Q:bH w g 238 #[vc,vn,va,vk])
(hn:pq m vn next)(hk:eU m vk bK)(hs:s<next.length)(A:s<bK.length)(P:∀x∈bK,0<=x)(O:∀x∈next[s],0<=x/\x<bK.length)(q':next[s].length<=1000):
 zX 255 #[.pointer (some ⟨g,0,none⟩),.int .i64 s] w (.string ⟨(iJ (bK.getD s 0::next[s].map fun x=>bK.getD x.toNat 0)).toArray⟩):=by
 have U:bK.getD s 0=bK[s]:=by simp[A]
 rw[U];clear U;obtain⟨na,nc,rfl,n1,n2,n3⟩:=hn;obtain⟨ka,kc,rfl,k1,k2,k3⟩:=hk;obtain⟨nb,no,rfl,n4⟩:=n3 qec;obtain⟨kb,ko,rfl,k4⟩:=k3 (by intro h;simp[h]at A);obtain⟨u,c1,ra,rc,rfl,r1,r2,r3⟩:=n4 s hs;have Z:=k4 s A;have h':=P bK[s] (zF A);unfold maxLen at n2 k2 r2;have J:=Q.lt;have V:∀i (h:i<next[s].length),∃v:Nat,next[s][i]=v/\v<bK.length:=fun i h=>by
  have:=O next[s][i] (zF h);exact⟨next[s][i].toNat,zo,zo⟩
 generalize next[s]=row at*
 generalize K':bK[s]=D at*
 have b:∀x∈D::row.map (fun x=>bK.getD x.toNat 0),0<=x/\x<=9223372036854775807:=by
  intro x F;rcases yA.1 F with rfl|F
  .exact⟨h',Z.2.2⟩
  .obtain⟨y,hy,rfl⟩:=yD.1 F;have:=O y hy;have hl:y.toNat<bK.length:=zo;simp only[yU,hl,yH,xA];exact⟨P _ (zF hl),(k4 _ hl).2.2⟩
 refine aj fun R hR=>?_;have S:Lib.BuilderAt 262 5 w.heap.size w.heap.size (.pointer none) (Lib.byteCells []) (w.alloc (.cells #[.pointer none,.slice none 0 0] 262)):=by
  refine⟨zI _,.slice none 0 0,(bH.new _ _ _).get,?_,by simp[Value.ownBlock]⟩;exact World.ownsRow_nil _ _ _ _
 have d:=(zR _ w).alloc (zI _) (.cells #[.pointer none,.slice none 0 0] 262);have h0:=Q.al (.cells #[.pointer none,.slice none 0 0] 262);have p3:=h0.cell (i:=3) rfl;have p1:=h0.cell (i:=1) rfl;have G:=Mem_inn_below hm d;have p4:=Mem_cell_w G Z.1;have Hb:=zh (zi S (zi d G));clear S d h0 G
 go_enter func255,ntmps255
 go_wp2_with fail
 refine(PK _ Z.2 m _ Hb.o.2.2 C).mono ?_;rintro e w2 ⟨rfl,k⟩;have t:Lib.IsBuilder 262 5 w.heap.size w.heap.size (Lib.byteCells []) w2:=.inl (Ck Hb.o.1 k);have f:=Hb.o.2.1.trans (k.mono zS);have I:=Lib.itoa_length_le D zo Z.2.2
 go_wp2_with fail
 refine(uP w.heap.size w.heap.size _ _ _ t qeU f.size).mono ?_;rintro e w4 ⟨rfl,p,r⟩;have c:=f.trans r;rw[Na,<-Ad,xN,<-Qi]at p;have K:=(Q.az c J).cell (i:=3) rfl;have j':=(Q.az c J).cell (i:=1) rfl;have i':=Mem_cell_w (Mem_inn_below hm c) c1;have Hk:=zh (zi p (zi c b));clear Hb k t f I p r c p3 p1 p4 b;go_wp2;refine av [0,1,5,23,24,25] (fun n vs wr=>∃j:Nat,j<=row.length/\n=row.length-j /\
  vs=[.pointer (some ⟨g,0,none⟩),.int .i64 s,.pointer (some ⟨w.heap.size,0,none⟩),.slice ra row.length rc,.int .i64 row.length,.int .i64 j] /\
  Lib.BuilderAt 262 5 w.heap.size w.heap.size (.pointer (some ⟨w.heap.size,0,none⟩)) (Lib.byteCells (iJ (D::(row.take j).map fun x=>bK.getD x.toNat 0))) wr/\zB w wr) ?_ ?_
 .exact⟨_,0,zG _,rfl,rfl,by simpa using Hk.o.1,Hk.o.2.1⟩
 clear K j' i';rintro X z n vs wr hX-⟨j,hj,rfl,rfl,T,a⟩;simp[aX,lk];have b:=Hk.o.2.2;by_cases hlt:j<row.length
 .obtain⟨rb,ro,rfl,r4⟩:=r3 qdX;have B:=Mem_inn_below hm a;have d1:=Mem_cell_w B (r4 j hlt).1;obtain⟨v,E,L⟩:=V j hlt;have Y:=k4 v L;have l':=Mem_cell_w B Y.1;have K:=(Q.az a J).cell (i:=3) rfl;have M:=zH hlt;have N:iJ (D::(row.take (j+1)).map fun x=>bK.getD x.toNat 0)=iJ (D::(row.take j).map fun x=>bK.getD x.toNat 0)++44::Lib.itoa bK[v]:=by
   rw[M,yI,E];have:bK.getD ((v:Int).toNat) 0=bK[v]:=by simp[L]
   rw[yL,this,xB,Nh]
  have H:(iJ (D::(row.take j).map fun x=>bK.getD x.toNat 0)).length<=22*1001:=by
   refine yJ (FJ _ fun x F=>b x ?_) ?_
   .rcases yA.1 F with rfl|F
    .simp
    .obtain⟨y,hy,rfl⟩:=yD.1 F;exact zU _ (yD.2 ⟨y,xX hy,rfl⟩)
   .simp;omega
  rw[E]at d1;have I:=Lib.itoa_length_le bK[v] Y.2.1 Y.2.2;have HS:=zh N;clear N M E;generalize iJ (D::(row.take j).map fun x=>bK.getD x.toNat 0)=tx at*
  have q:=zh (zi T (zi a B));clear T B;generalize bK[v]=y at*
  go_wp2_with fail
  refine(PK _ Y.2 m _ q.o.2.2 C).mono ?_;rintro e w2 ⟨rfl,k⟩;have t:Lib.IsBuilder 262 5 w.heap.size w.heap.size (Lib.byteCells tx) w2:=.inr (Ck q.o.1 k);have f:=a.trans (k.mono a.size)
  go_wp2_with fail
  refine(uP w.heap.size w.heap.size _ _ _ t qeU f.size).mono ?_;rintro e w4 ⟨rfl,p,r⟩;have e4:∀l:List UInt8,Lib.strCells ((⟨#[44]⟩:ByteArray)++(⟨l.toArray⟩:ByteArray))=Lib.byteCells (44::l):=fun l=>by
   simp[Lib.strCells,Lib.byteCells]
  rw[e4,<-Ad,<-HS.o]at p;have c:=f.trans r;have W:=zh (zi p c);clear p r c f k t H I e4 K d1 l';go_wp2;exact hX.o _ _ _ zo rfl ⟨j+1,zo,rfl,rfl,W.o.1,W.o.2⟩
 .obtain rfl:j=row.length:=zo;rw[yG]at T;have q:=zh (zi T a);clear T a b
  go_wp2_with fail
  refine(Tryz.Builder_String_any w.heap.size w.heap.size _ _ (.inr q.o.1) q.o.2.size).mono ?_;rintro e w5 ⟨rfl,hb⟩;go_wp2;exact hR.o _ _ ⟨rfl,q.o.2.trans hb⟩
def EA(next:List (List Int))(s i:Nat):Int:=(nx next s).getD i 0
theorem azG{next:List (List Int)}{bK:List Int}{K s:Nat}(a:s<next.length)(c:next[s].length=K)(b:∀x∈next[s],0<=x)(_:s<bK.length):
 sig bK (EA next) K s=bK.getD s 0::next[s].map fun x=>bK.getD x.toNat 0:=by
 unfold sig EA nx;have f:next.getD s []=next[s]:=by simp[a]
 rw[f]
 congr 1
 apply vF
 .simp[c]
 .intro i g d;have hi:i<next[s].length:=by simpa using d
  have h:=b _ (zF hi);simp only[xQ,List.getElem_range];have e:next[s].getD i 0=next[s][i]:=by simp[hi]
  rw[e];unfold qY;rw[zJ zo]
def MI(f:Lit->Option Int)(a:List (List Int)):Prop:=
 ∀l,l≠[]->(∀x∈l,0<=x)->f (.string (iJ l))=if a.findIdx (·==l)<a.length then some ((a.findIdx (·==l):Nat):Int)else none
theorem QV:MI (fun _=>none) []:=fun l _ _=>by simp
theorem QU{f:Lit->Option Int}{a:List (List Int)}(h:MI f a){x:List Int}(m:x≠[])(i:∀y∈x,0<=y)(n:¬a.findIdx (·==x)<a.length):
 MI (Jf f (.string (iJ x)) a.length) (a++[x]):=by
 intro l k b;by_cases c:l=x
 .subst c;rw[xw,List.findIdx_append,zJ n];simp[List.findIdx_cons]
 .have j:Lit.string (iJ l)≠Lit.string (iJ x):=fun e=>c (Qj k m b i (by simpa using e));rw[um f _ j,h l k b,List.findIdx_append];by_cases d:a.findIdx (·==l)<a.length
  .rw[zK d,zK d,zK qd4]
  .have g:¬(x==l)=true:=by simpa using fun e=>c (Eq.symm e)
   rw[zJ d,zJ d,zJ];simp[List.findIdx_cons,g];omega
theorem Gd(f:Nat->List Int)(k:Nat):fq f (k+1)=(if(fq f k).1.findIdx (·==f k)<(fq f k).1.length then(fq f k).1 else(fq f k).1++[f k],(fq f k).2++[((fq f k).1.findIdx (·==f k):Int)]):=rfl
def jH(nx:List Int)(r:Nat):List Value:=(nx++List.replicate r 0).map (Value.int .i64)
theorem j5{nx:List Int}{r k:Nat}(h:nx.length=k)(a:0<r):(jH nx r)[k]?=some (.int .i64 0):=by
 unfold jH;rw[List.getElem?_map,yN zo];simp[h,a]
theorem oJ{nx:List Int}{r k:Nat}(h:nx.length=k)(a:0<r)(x:Int):(jH nx r).set k (.int .i64 x)=jH (nx++[x]) (r-1):=by
 unfold jH;obtain⟨q,rfl⟩:∃q,r=q+1:=⟨r-1,zo⟩;rw[yI,List.set_append_right _ _ qd4,yI,yI];simp[h,List.replicate_succ]
theorem qQ(nx:List Int):jH nx 0=nx.map (Value.int .i64):=by simp[jH]
theorem pE(n:Nat):List.replicate n (Value.int .i64 0)=jH [] n:=by simp[jH]
def MF(b:Bool):Int:=if b=true then 1 else 0
theorem Eg{acc:List Bool}{k N:Nat}(h:k<acc.length)(a:acc.length=N):
 jH ((acc.take (k+1)).map MF) (N-(k+1))=(jH ((acc.take k).map MF) (N-k)).set k (.int .i64 (MF acc[k])):=by
 rw[oJ qd4 zo,zH h,yI]
 rfl
structure Fb (T:aC) (cuts:List Int) (next:List (List Int)) (acc:List Bool) (lo hi:Nat->Nat):Prop where
 ta:Ev T next.length lo hi cuts.length (EA next)
 ZM:∀s,s<next.length->acc.getD s false=bB T s
 yw:acc.length=next.length
 rows:∀r∈next,r.length=cuts.length/\∀x∈r,0<=x/\x<next.length
 pos:1<=next.length
 ZF:cuts.length<=256
 azP:next.length<=1000001
theorem Jp(w:zW):(zeroValue 3).run prog w=.ok (.int .i64 0) w:=by kernel_rfl
theorem Bw:prog.underlying 240=some (.map 9 3):=underlying240
theorem Rb(l:List UInt8)(h:l.length<=maxLen):keyOf prog 9 (.string ⟨l.toArray⟩)=some (.string l):=by
 simpa using WideMaps.keyOf_string_mk (P:=prog) underlying9 (s:=⟨l.toArray⟩) (by simpa [ByteArray.size]using h)
theorem SF{n:Nat}(h:n<=2000000):(Lit.int .i64 (n:Int)).wf=true:=by
 have b:IntKind.i64.min = -9223372036854775808:=by decide
 have a:IntKind.i64.max=9223372036854775807:=by decide
 simp only[Lit.wf,b,a,xG,decide_eq_true_eq];omega
theorem Qp(g:Nat)(vc vn va:zV)(T:aC)(p:List Int)(next:List (List Int))(acc:List Bool)(lo hi:Nat->Nat)(H:Fb T p next acc lo hi)(m mk:Mem)(w0 w:zW)(L:List Cl.bF)(N':gD mk)
(hO:Own w0 m w mk (.obj g 238 #[vc,vn,va,.slice none 0 0]::L))(hn:pq mk vn next)(ha:jw mk va acc):
 zC 225 #[.pointer (some ⟨g,0,none⟩)] w fun e w'=>∃mk' vk bK,e=.returned (.tuple #[])/\Own w0 m w' mk' (.obj g 238 #[vc,vn,va,vk]::L)/\mk.le mk'/\eU mk' vk bK/\sN T next.length bK:=by
 obtain⟨na,nc,rfl,n1,n2,n3⟩:=hn;obtain⟨aa,ac,rfl,a1,a2,a3⟩:=ha;unfold maxLen at n2 a2;have hpos:=H.pos;have G':=H.azP;have halen:=H.yw.symm ▸ G';have hclen:=H.ZF;refine aj fun R hR=>?_;have q1:=hO.obj.c 1;have q2:=hO.obj.c 2;have ql:=hO.obj.lt
 go_enter func225,ntmps225
 go_step3
 go_wp2_with (refine wpList_make_row Db rfl (.tmp 17) (.tmp 17) rfl next.length rfl rfl zo qdY ?_)
 intro w1 D v;have E:=(hO.make D v).au;have f3:=E.obj.frozen 3;have c3:=E.obj.c 3;have c2:=E.obj.c 2;have cl:=E.obj.lt;have I:Own w0 m (w1.setCell ⟨g,3,none⟩ (.slice (some ⟨w.heap.size,0,none⟩) next.length next.length)) mk
  (.obj g 238 #[vc,.slice na next.length nc,.slice aa acc.length ac,.slice (some ⟨w.heap.size,0,none⟩) next.length next.length]::.row (.slice (some ⟨w.heap.size,0,none⟩) next.length next.length) 3 1 next.length (List.replicate next.length (Value.int .i64 0))::L):=
  E.set 3 (.slice (some ⟨w.heap.size,0,none⟩) next.length next.length)
 rw[pE]at I;clear D v E q1 q2 ql;have l':=zh I;clear I;generalize w.heap.size=B at*
 go_wp2;refine av [0,24,25,26] (fun n vs wr=>∃k:Nat,k<=acc.length/\n=acc.length-k/\vs=[.pointer (some ⟨g,0,none⟩),.slice aa acc.length ac,.int .i64 acc.length,.int .i64 k] /\
  Own w0 m wr mk (.obj g 238 #[vc,.slice na next.length nc,.slice aa acc.length ac,.slice (some ⟨B,0,none⟩) next.length next.length]::.row (.slice (some ⟨B,0,none⟩) next.length next.length) 3 1 next.length (jH ((acc.take k).map MF) (next.length-k))::L)) ?_ ?_
 .exact⟨_,0,zG _,rfl,rfl,by simpa using l'.o⟩
 clear l' f3 c3 c2 cl;rintro X z n vs wr hX-⟨k,hk,rfl,rfl,a⟩;simp[aX,lk];by_cases hlt:k<acc.length
 .obtain⟨ab,ao,rfl,a4⟩:=a3 qdX;have d1:=Mem_cell_w a.ay (a4 k hlt);have c3:=a.obj.c 3;have cl:=a.obj.lt;have Hlen:=zh H.yw;have s':=zh (Eg hlt H.yw);have r1:=bg (j:=k) (u:=.int .i64 0) a.au.row (j5 qd4 qeH);have r2:=dK a.au.row k;have r3:k<next.length:=by have:=H.yw;omega
  have d:=(a.au.setRow k (.int .i64 1)).au;have HO:=zh (zi a d);clear a d
  cases hb:acc[k]with
  |true=>
   rw[hb]at d1 s';go_wp2;refine hX.o _ _ _ zo rfl ⟨k+1,zo,rfl,rfl,?_⟩;rw[s'.o]
   exact HO.o.2
  |false=>
   rw[hb]at d1 s';go_wp2;refine hX.o _ _ _ zo rfl ⟨k+1,zo,rfl,rfl,?_⟩;rw[s'.o,show Value.int .i64 (MF false)=.int .i64 0 from rfl];have:∀{xs:List Value},xs[k]?=some (.int .i64 0)->xs.set k (.int .i64 0)=xs:=fun {xs} h=>by
    exact qdG
   rw[this (j5 qd4 qeH)];exact HO.o.1
 .obtain rfl:k=acc.length:=zo;have U':jH (acc.map MF) (next.length-acc.length)=(acc.map MF).map (Value.int .i64):=by rw[H.yw,Nat.sub_self,qQ]
  rw[yG,U']at a;clear U';have a':wS T next.length (acc.map MF) 0:=JL H.pos (by simp[H.yw]) fun s hs=>by
   rw[<-H.ZM s hs];have:s<acc.length:=by have:=H.yw;omega
   simp[this,MF]
  have hS:=a.au;have p':=dS (l:=acc.map MF) (m:=mk) (by simpa [H.yw]using hS.row) (fun x hx=>by
   obtain⟨b,-,rfl⟩:=yD.1 hx;unfold MF;split<;>omega)
  have d:=hS.bJ;have Q:=Mem_le_addv (w:=wr) hS.free;generalize mk.iw wr (.slice (some ⟨B,0,none⟩) next.length next.length)=N at*
  generalize Value.slice (some ⟨B,0,none⟩) next.length next.length=vk at*
  generalize acc.map MF=V' at*
  have A:=zh (zi a' (zi p' (zi d Q)));clear a' p' d Q a hS;go_wp2
  go_step3
  go_wp2;refine av [0,4,5] (fun n vs wr=>∃(q:Nat) (bK:List Int) (vk:zV) (mk':Mem),n=next.length-q/\q<=next.length /\
   vs=[.pointer (some ⟨g,0,none⟩),.int .i64 q,.func (.func 255) #[.pointer (some ⟨g,0,none⟩)] #[]] /\
   wS T next.length bK q/\eU mk' vk bK/\Own w0 m wr mk' (.obj g 238 #[vc,.slice na next.length nc,.slice aa acc.length ac,vk]::L)/\mk.le mk') ?_ ?_
  .exact⟨_,0,V',vk,N,rfl,zG _,rfl,A.o.1,A.o.2.1,A.o.2.2.1,A.o.2.2.2⟩
  clear A a3;rintro Y z n vs wr hY-⟨q,bK,vk,N,rfl,hmany,rfl,F,p',hO,Q⟩;simp[aX,lk];have Hmm:=@run_makeMap prog;have E:=hO.Bb (.map #[] 0);have p1:=E.au.obj.c 1;have pl:=E.au.obj.lt;have W':=zh E;clear E
  go_wp2_with (refine wpList_make_row Db rfl (.tmp 46) (.tmp 46) rfl next.length rfl rfl zo qdY ?_)
  intro w1 D v;have I:=(W'.o.make (by simpa using D) v);have O':(wr.alloc (.map #[] 0)).heap.size=wr.heap.size+1:=by simp
  rw[pE,O']at I;have p1:=I.bA.obj.c 1;have pl:=I.bA.obj.lt;have l':=zh I;clear I D v W' O' Hmm;generalize hM:wr.heap.size=M at*
  go_wp2;have d':bK.length=next.length:=F.len;have Hrd:=zh (JM H.ta H.pos F);have hS:∀s (h:s<next.length),sig bK (EA next) p.length s=bK.getD s 0::next[s].map fun x=>bK.getD x.toNat 0:=fun s h=>
   azG h (H.rows _ (zF h)).1 (fun x hx=>((H.rows _ (zF h)).2 x hx).1) zo
  have h':∀x∈bK,0<=x:=fun x hx=>by
   obtain⟨i,hi,rfl⟩:=yT.1 hx;have:=(F.ik i zo).1;simpa [hi]using this
  have HS:=zh (zi hS (zi d' (zi h' F)));clear hS d' h' F;have A':=LM (sig bK (EA next) p.length);have HN:=zh A';clear A';refine av [0,4,5,6,7,52,53] (fun n vs w3=>∃(k:Nat) (ob:Obj) (f:Lit->Option Int),k<=next.length/\n=next.length-k /\
   vs=[.pointer (some ⟨g,0,none⟩),.int .i64 q,.func (.func 255) #[.pointer (some ⟨g,0,none⟩)] #[],.map (some M),.slice (some ⟨M+1,0,none⟩) next.length next.length,.int .i64 next.length,.int .i64 k] /\
   Own w0 m w3 N (.row (.slice (some ⟨M+1,0,none⟩) next.length next.length) 3 1 next.length (jH (fq (sig bK (EA next) p.length) k).2 (next.length-k))::.gQ M ob ::
    .obj g 238 #[vc,.slice na next.length nc,.slice aa acc.length ac,vk]::L) /\
   sJ prog 9 3 ob k (fq (sig bK (EA next) p.length) k).1.length f/\MI f (fq (sig bK (EA next) p.length) k).1) ?_ ?_
  .exact⟨_,0,_,_,zG _,rfl,rfl,l'.o,sJ.made _ _ _,QV⟩
  clear l' p1 pl;rintro Z z n vs w3 hZ-⟨k,ob,f,hk,rfl,rfl,a,hI,k'⟩;simp[aX,lk];by_cases hlt:k<next.length
  .obtain⟨hS,hcl,h',F⟩:=HS.o;have G:=H.rows _ (zF hlt);have U:=I5 g k vc (.slice na next.length nc) (.slice aa acc.length ac) vk next bK N w3 a.ay (N'.le Q) a.bA.obj (uj Q ⟨na,nc,rfl,n1,by unfold maxLen;exact n2,n3⟩) p' hlt zo h' (fun x hx=>by have:=G.2 x hx;omega) zo;rw[<-hS k hlt]at U;have W:sig bK (EA next) p.length k≠[]:=by rw[hS k hlt];simp
   have j':∀y∈sig bK (EA next) p.length k,0<=y:=by
    rw[hS k hlt];intro y hy;rcases yA.1 hy with rfl|hy
    .exact(F.ik k hlt).1
    .obtain⟨u,hu,rfl⟩:=yD.1 hy;have:=G.2 u hu;have hl:u.toNat<bK.length:=zo;simp only[yU,hl,yH,xA];exact h' _ (zF hl)
   have hcbnd:(iJ (sig bK (EA next) p.length k)).length<=22*300:=by
    refine yJ (FJ _ fun x hx=>⟨j' x hx,?_⟩) ?_
    .rw[hS k hlt]at hx;have hcb:∀i (h:i<bK.length),bK[i]<=9223372036854775807:=fun i h=>by
      have:=(F.ik i zo).2;simp only[yU,h,yH,xA]at this;omega
     rcases yA.1 hx with rfl|hx
     .have:=(F.ik k hlt).2;omega
     .obtain⟨u,hu,rfl⟩:=yD.1 hx;have:=G.2 u hu;have hl:u.toNat<bK.length:=zo;simp only[yU,hl,yH,xA];exact hcb _ _
    .simp[sig];omega
   have S:=k' _ W j';have K:=QU k' W j';have t:=HN.o k;have g':=Gd (sig bK (EA next) p.length) k;generalize fq (sig bK (EA next) p.length) k=r at*
   generalize sig bK (EA next) p.length k=x at*
   clear hS hcl h' F G;have c':=Rb (iJ x) qdY;have b':=t.le;have R':r.1.findIdx (·==x)<=r.1.length:=List.findIdx_le_length;have P':=t.len;have hmw:=a.au.gQ;have A:=zh (zi K (zi g' (zi P' k')));clear K g' t P' k';generalize iJ x=tx at*
   obtain⟨sn,nx⟩:=r;simp only at S b' R' hI a A;by_cases hf:sn.findIdx (·==x)<sn.length
   .rw[zK hf]at S;generalize sn.findIdx (·==x)=idx at*
    have HF:=zh (zi S c');clear S c' W j'
    go_wp2_with (go_at_call 255;refine U.mono ?_;rintro e w4 ⟨rfl,H'⟩)
    have d:=a.aP H';have J:=hI.Qm (Maps.string_keyed underlying9) Bw underlying3 Jp d.au.gQ HF.o.2;rw[HF.o.1]at J;simp only[xA,Option.isSome_some]at J;have r1:=bg (j:=k) (u:=.int .i64 0) d.row (j5 A.o.2.2.1 zo);have r2:=dK d.row k;have r3:=(World.ownsRow.lt d.row _ rfl).2;have C:=d.setRow k (.int .i64 idx);rw[oJ A.o.2.2.1 zo]at C;have t':=zh C;clear C d;go_wp2;refine hZ.o _ _ _ zo rfl ⟨k+1,ob,f,zo,rfl,rfl,?_,?_,?_⟩
    .rw[A.o.2.1,zK hf];exact t'.o
    .rw[A.o.2.1,zK hf];exact hI.mono zo
    .rw[A.o.2.1,zK hf];exact A.o.2.2.2
   .rw[zJ hf]at S;have y':sn.findIdx (·==x)=sn.length:=zo;have K:=A.o.1 hf;have F':=A.o.2.2.1;have g':=A.o.2.1;rw[zJ hf,y']at g';clear y' A hf R';have HF:=zh (zi S (zi c' (zi K g')));clear S c' W j' K g'
    go_wp2_with (go_at_call 255;refine U.mono ?_;rintro e w4 ⟨rfl,H'⟩)
    have d:=a.aP H';have P:=d.au.gQ;have J:=hI.Qm (Maps.string_keyed underlying9) Bw underlying3 Jp P HF.o.2.1;rw[HF.o.1]at J;simp only[Option.getD_none,Option.isSome_none]at J;have hln:=fun ty=>hI.Tc Bw P ty;obtain⟨w5,ob5,hr5,T',q',Q'⟩:=hI.wY (Maps.string_keyed underlying9) Bw underlying3 P qdY HF.o.2.1 (SF (n:=sn.length) zo);rw[HF.o.1]at q';simp only[Option.isSome_none]at q';have C:=(d.au.jP T' Q').au;have r1:=bg (j:=k) (u:=.int .i64 0) C.row (j5 F' zo);have r2:=dK C.row k;have r3:=(World.ownsRow.lt C.row _ rfl).2;have V:=C.setRow k (.int .i64 sn.length);rw[oJ F' zo]at V;have t':=zh (zi V q');clear V C d q' F' T' Q' P hmw;go_wp2;refine hZ.o _ _ _ zo rfl ⟨k+1,ob5,Jf f (.string tx) sn.length,zo,rfl,rfl,?_,?_,?_⟩
    .rw[HF.o.2.2.2];exact t'.o.1
    .rw[HF.o.2.2.2];simpa using t'.o.2
    .rw[HF.o.2.2.2];exact HF.o.2.2.1
  .obtain rfl:k=next.length:=zo;rw[Nat.sub_self,qQ]at a;have t:=HN.o next.length;have E':=Hrd.o;generalize fq (sig bK (EA next) p.length) next.length=r at*
   obtain⟨sn,nx⟩:=r;simp only at a hI E' t;have x':=dS (l:=nx) (m:=N) (by rw[t.len];exact a.row) (fun y hy=>by
    obtain⟨i,hi,rfl⟩:=yT.1 hy;have:=t.ik (s:=i) (by rw[<-t.len];exact hi);simp only[yU,hi,yH,xA]at this;have:=t.le;simp only at this;omega)
   have b':=Mem_le_addv (w:=w3) a.free;have d:=a.bJ.au;have f3:=d.obj.frozen 3;have c3:=d.obj.c 3;have cl:=d.obj.lt;have V:Own w0 m (w3.setCell ⟨g,3,none⟩ (.slice (some ⟨M+1,0,none⟩) next.length next.length)) (N.iw w3 (.slice (some ⟨M+1,0,none⟩) next.length next.length))
    (.obj g 238 #[vc,.slice na next.length nc,.slice aa acc.length ac,.slice (some ⟨M+1,0,none⟩) next.length next.length]::.gQ M ob::L):=d.set 3 (.slice (some ⟨M+1,0,none⟩) next.length next.length)
   have P:=V.au.gQ;have hln:=fun ty=>hI.Tc Bw P ty;have C:=V.au.tail;clear V P;generalize N.iw w3 (.slice (some ⟨M+1,0,none⟩) next.length next.length)=L' at*
   have A:=zh (zi x' (zi b' (zi C E')));clear x' b' C d a E' hI k';by_cases O:sn.length=q
   .have S':((sn.length:Int)==(q:Int))=true:=by simp[O]
    have HT:=zh O;clear O;go_wp2
    go_end0
    exact hR.o _ _ ⟨L',_,nx,rfl,A.o.2.2.1,Mem.le_trans Q A.o.2.1,A.o.1,A.o.2.2.2.2.2.2.2 HT.o⟩
   .have S':((sn.length:Int)==(q:Int))=false:=by simp;omega
    have hq1:=A.o.2.2.2.2.1;have hq2:=A.o.2.2.2.2.2.1;go_wp2;exact hY.o _ _ _ zo rfl ⟨sn.length,nx,_,L',rfl,zo,rfl,A.o.2.2.2.1,A.o.1,A.o.2.2.1,Mem.le_trans Q A.o.2.1⟩
theorem tq:gz prog 78 104 3 16:=⟨underlying78,zo,by
 obtain⟨i,d,c,b,a⟩:=info_parts (P:=prog) (e:=104) (z:=.agg #[.int .u8 0,.int .u8 0,.int .i64 0]) (size:=3) (bytes:=16) zk;exact⟨i,_,d,c,b,a,rfl⟩⟩
theorem mU:gz prog 25 80 2 32:=⟨underlying25,zo,by
 obtain⟨i,d,c,b,a⟩:=info_parts (P:=prog) (e:=80) (z:=.agg #[.bool false,.slice none 0 0]) (size:=2) (bytes:=32) zk;exact⟨i,_,d,c,b,a,rfl⟩⟩
theorem O1{m:Mem}{b off:Nat}{es:List Ed}(h:∀i (h:i<es.length),Dn m b (off+i*3) es[i]):∀j u,(dx es)[j]?=some u->m.cell b (off+j)=some u:=by
 intro j u a;have c:j<es.length*3:=by rw[<-nu];exact(yB.1 a).1
 have hi:j/3<es.length:=zo;obtain⟨g,f,d⟩:=kX es (j/3) hi;obtain⟨n,l,k,-⟩:=h (j/3) hi;have:j%3=0\/j%3=1\/j%3=2:=zo;rcases this with e|e|e
 .rw[show j=j/3*3 by omega,g]at a;cases a;rw[show off+j=off+j/3*3 by omega];exact n
 .rw[show j=j/3*3+1 by omega,f]at a;cases a;rw[show off+j=off+j/3*3+1 by omega];exact l
 .rw[show j=j/3*3+2 by omega,d]at a;cases a;rw[show off+j=off+j/3*3+2 by omega];exact k
theorem O5(es:List Ed):∀u∈dx es,u.oneCell'=true:=by
 intro u a;simp only[dx,xW,yA,List.not_mem_nil,or_false]at a;obtain⟨e,-,rfl|rfl|rfl⟩:=a<;>rfl
theorem Ws(v:zV)(es:List Ed)(m:Mem)(w:zW)(E:m.ay w)(L:kS m v es)(J:es.length*16<=140737488355328):
 zC 233 #[v] w fun e w'=>∃r,e=.returned r/\zB w w'/\kS (m.grow w w') r es:=by
 obtain⟨a,c,rfl,Q,M,I⟩:=L;unfold maxLen at M;refine aj fun R hR=>?_
 cases a with
 |none=>
  have N:es=[]:=by
   apply zP;intro q;obtain⟨b,off,h,-⟩:=I q;cases h
  subst N;have y:=fun w=>Lib.run_eql_slice_nil (P:=prog) w 78 104 none 0 c 0 0 underlying78
  go_enter func233,ntmps233
  go_wp2
  exact hR.o _ _ ⟨_,rfl,zR _ _,none,0,rfl,zS,by simp[maxLen],fun h=>absurd rfl h⟩
 |some ad=>
  have y:=fun w=>Lib.run_eql_slice_nil (P:=prog) w 78 104 (some ad) es.length c 0 0 underlying78;have x:(w.alloc (.cells #[] 104)).ownsRow 0 104 3 (.slice (some ⟨w.heap.size,0,none⟩) 0 0) 0 []:=World.ownsRow_made w #[] 0 (zG _) (zG _) zS;have l:∀j u,(dx es)[j]?=some u->(w.alloc (.cells #[] 104)).cell? (ad.add j)=some u:=by
   intro j u K;have q:es≠[]:=by intro h;subst h;simp[dx]at K
   obtain⟨b,off,D,H⟩:=I q;cases D;rw[Addr.add_lit];exact Mem_cell_w (Mem_inn_al E _) (O1 H j u K)
  have G:∀e∈es,VI e:=by
   intro e D;obtain⟨b,off,-,H⟩:=I (List.ne_nil_of_mem D);obtain⟨i,hi,rfl⟩:=yX D;exact(H i hi).2.2.2
  go_enter func233,ntmps233
  go_wp2_with (at_builtin;refine aG tq rfl (.tmp 5) (.tmp 6) rfl (.slice (some ⟨w.heap.size,0,none⟩) 0 0) 0 [] rfl x ad es.length c (dx es) rfl (nu es) l (O5 es) qdY zo ?_)
  intro va O w' g d f;have s:=Mem_inn_al E (.cells #[] 104);have F:m.free (.slice (some ⟨w.heap.size,0,none⟩) 0 0):=fun k A=>by simp[Value.ownBlock]at A;exact Mem_none_of_ge E zo
  have t:∀k,Value.ownBlock (.slice (some ⟨w.heap.size,0,none⟩) 0 0)=some k->w.heap.size<=k:=fun k A=>by simp[Value.ownBlock]at A;omega
  have C:=below_grown qfB d t;have B:=Vr s F f zS;have p:=Zm t f zo;have z:=Mem_inn_grown s d (fun k A=>F k A);have n:=qx (Za (Mem_ext_refl m w) z B p) (jq (m:=m) g G);have Hfin:=zh (zi C n);clear s F t C B p z n g d f;go_wp2;exact qai
def dlN(next:List (List Int))(bK:List Int)(lv:List Bool)(s i:Nat):Option Nat:=if bt lv (cl bK (EA next s i).toNat)=true then some (EA next s i).toNat else none
def Dx(f:Lit->Option Int)(cf:Nat->Int)(o:List Nat):Prop:=∀c:Int,f (.int .i64 c)=if CX cf o c<o.length then some ((CX cf o c:Nat):Int)else none
theorem F7{f:Lit->Option Int}{cf:Nat->Int}{o:List Nat}(h:Dx f cf o)(t:Nat)(a:¬CX cf o (cf t)<o.length):Dx (Jf f (.int .i64 (cf t)) o.length) cf (o++[t]):=by
 intro c;rw[Xg];by_cases e:c=cf t
 .subst e;rw[xw,zJ a,zK rfl];simp
 .rw[um f _ (by simpa using e),h c];by_cases d:CX cf o c<o.length
  .rw[zK d,zK d,zK qd4]
  .have b:¬cf t=c:=fun x=>e x.symm;rw[zJ d,zJ d,zJ b,zJ zS]
theorem QF(cf:Nat->Int)(s:Nat):Dx (Jf (fun _=>none) (.int .i64 (cf s)) 0) cf [s]:=by
 have:=F7 (f:=fun _=>none) (cf:=cf) (o:=[]) (fun c=>by simp[CX]) s (by simp[CX]);exact qa5
def dO(o:List Nat):List Value:=o.map fun(s:Nat)=>Value.int .i64 (s:Int)
theorem Own.AB{w0 w:zW}{m mk:Mem}{l₁ l₂:List Cl.bF}{a:Cl.bF}(h:Own w0 m w mk (l₁++a::l₂)):Own w0 m w mk (a::(l₁++l₂)):=h.perm List.perm_middle.symm
theorem Own.Ao{w0 w:zW}{m mk:Mem}{l₁ l₂:List Cl.bF}{a:Cl.bF}(h:Own w0 m w mk (a::(l₁++l₂))):Own w0 m w mk (l₁++a::l₂):=h.perm List.perm_middle
theorem Oq(fs:List Ed)(e:Ed)(t:Int)(b:Nat):(∃(a:List Ed) (c:Ed),fs++[e]=a++[c]/\c.to=t/\c.hi+1=b)↔(e.to=t/\e.hi+1=b):=by
 constructor
 .rintro⟨a,c,h,d⟩;have:=congrArg List.getLast? h;simp at this;rw[this];exact d
 .intro h;exact⟨fs,e,rfl,h⟩
theorem wK(fs:List Ed)(e:Ed)(h:Nat):(dx (fs++[e])).set (fs.length*3+1) (.int .u8 h)=dx (fs++[⟨e.lo,h,e.to⟩]):=by
 rw[iN,iN,List.set_append_right _ _ (by rw[nu];omega),nu];simp
theorem Own.Tz{w0 w:zW}{m mk:Mem}{L:List Cl.bF}{g:Nat}{t:TypeId}{x:zV}(h:Own w0 m w mk (.obj g t #[x]::L)):Own w0 m w mk (.row (.slice (some ⟨g,0,none⟩) 1 1) t 1 1 [x]::L):=by
 have a:=yS.1 h.apart;refine⟨h.m0,h.az,h.ext,h.ay,?_,?_,.cons (fun b c k e d=>a.1 b c k e d) a.2⟩
 .simp only[yA,forall_eq_or_imp];refine⟨⟨rfl,.inr ⟨g,1,#[x],rfl,zG _,h.obj.get,zI _,by simp[maxLen],rfl,rfl⟩⟩,fun it hi=>h.ok it (zU _ hi)⟩
 .exact qch
structure Sy (cuts:List Int) (lo hi:Nat->Nat):Prop where
 lo:∀i,(h:i<cuts.length)->cuts[i]=lo i
 hi:∀i,i<cuts.length->Eo cuts i=hi i
theorem Iu(cf:Nat->Int)(dl:Nat->Nat->Option Nat)(lo hi:Nat->Nat)(ac:Nat->Bool)(K k:Nat):
 dI cf dl lo hi ac K (k+1)=((cu cf dl lo hi ((dI cf dl lo hi ac K k).1.getD k 0) (dI cf dl lo hi ac K k).1 K).1,(dI cf dl lo hi ac K k).2++[⟨ac ((dI cf dl lo hi ac K k).1.getD k 0),(cu cf dl lo hi ((dI cf dl lo hi ac K k).1.getD k 0) (dI cf dl lo hi ac K k).1 K).2⟩]):=rfl
theorem Jk(g:Nat)(T:aC)(cuts:List Int)(next:List (List Int))(acc:List Bool)(bK:List Int)(lo hi:Nat->Nat)(H:Fb T cuts next acc lo hi)(hC:Sy cuts lo hi)(n':sN T next.length bK)
(hB:∀lv:List Bool,(∀c,bt lv c=true↔uQ next acc bK c)->bt lv (cl bK 0)=true->rO T next.length (fun s=>bK.getD s 0) (dlN next bK lv) lo hi (fun s=>acc.getD s false) cuts.length)
(hD:∀lv:List Bool,(∀c,bt lv c=true↔uQ next acc bK c)->bt lv (cl bK 0)=false->∀w,aK T 0 w=false)
(m:Mem)(w:zW)(hm:m.ay w)(ht:TabAt m g cuts next acc bK):
 zC 226 #[.pointer (some ⟨g,0,none⟩)] w fun e w'=>∃r C,e=.returned (.agg #[r])/\zB w w'/\aQ (m.grow w w') r C/\dG C/\(∀x,aK C 0 x=aK T 0 x)/\C.length<=next.length:=by
 have hpos:=H.pos;have hnlen:=H.azP;have b':=H.ZF;have hlive:=fun w (hw:m.ay w)=>Xq g cuts next acc bK m w hw ht H.yw n'.len (fun r hr=>(H.rows r hr).2) n'.ik H.azP;have HL:=zh hlive;clear hlive;obtain⟨vc,vn,va,vk,e1,e2,e3,e4,⟨ca,cc,rfl,c1,c2,c3⟩,⟨na,nc,rfl,n1,n2,n3⟩,⟨aa,ac,rfl,a1,a2,a3⟩,⟨ka,kc,rfl,k1,k2,k3⟩⟩:=ht.ex;unfold maxLen at c2 n2 a2 k2;have hkl:=n'.len;refine aj fun R hR=>?_;have A:=(Own.start hm).al #[.slice none 0 0] 27;have HO:=zh A;clear A
 go_enter func226,ntmps226
 go_wp2_with fail
 refine(HL.o _ HO.o.ay).mono ?_;rintro e w1 ⟨r,lv,rfl,hb1,hr1,hlv,hlc⟩;have B:=HO.o.call hb1;have q3:=Mem_cell_w hm e4;obtain⟨kb,ko,rfl,k4⟩:=k3 (by intro h;simp[h]at hkl;omega);obtain⟨la,lc,rfl,l1,l2,l3⟩:=hr1;obtain⟨lb,Q',rfl,l4⟩:=l3 (by intro h;simp[h]at hlv;omega);have hk0:=n'.ik bK[0] (zF zo);obtain⟨kn,hkn⟩:=zT hk0.1;have d1:=k4 0 zo;rw[Nat.add_zero]at d1;have d1w:=Mem_cell_w (Mem_inn_le (Mem.le_trans (Mem.le_refl m) B.ext.le) B.ay) d1.1;have e4w:=Mem_cell_w (Mem_inn_le B.ext.le B.ay) e4;have egl:=Mem_cell_lt (Mem_inn_le B.ext.le B.ay) e4;rw[hkn]at d1w hk0;have d2:=l4 kn zo;have d2w:=Mem_cell_w B.ay d2;have hcl0:bt lv (cl bK 0)=lv[kn]:=by
  have:cl bK 0=kn:=by simp[cl,show 0<bK.length by omega,hkn]
  rw[this,oU]
 have Hd:=zh (zi (hB lv hlc) (hD lv hlc));have Hcl:=zh hcl0;clear hcl0 hB hD hlc;generalize lv[kn]=b0 at*
 have hO1b:=B.obj.frozen 0;have hO1l:=B.obj.lt;have hO1c:=B.obj.c 0
 cases b0 with
 |false=>
  have E:=B.set 0 (.slice none 0 0);have r':=zh E;clear E B HO;go_wp2;refine yV (v:=.agg #[.slice none 0 0]) (by simp[results,results226,go_sem,hO1c]) rfl ?_;refine hR.o _ _ ⟨_,[],rfl,r'.o.az,⟨none,0,rfl,zI _,by simp[maxLen],fun h=>absurd rfl h⟩,?_,fun x=>?_,zS⟩
  .exact⟨fun s hs=>by simp at hs,fun s hs=>by simp at hs,fun s hs=>by simp at hs,fun k hk=>by simp at hk,fun i j hi=>by simp at hi,fun k b t hb ht=>by
    rw[fB [] k b zS]at ht;omega,fun t h1 h2=>by simp at h2⟩
  .rw[Hd.o.2 Hcl.o x]
   exact iP [] 0 x zS
 |true=>
  have HB:=zh (Hd.o.1 Hcl.o);clear Hd Hcl;have E:=B.al #[.int .i64 0] 3;have D:=E.Tz;have d:=D.Bb (.map #[] 0);have hsz:(w1.alloc (.cells #[.int .i64 0] 3)).heap.size=w1.heap.size+1:=by simp
  rw[hsz]at d;have Hmm:=@run_makeMap prog;have e4w2:=Mem_cell_w (Mem_inn_le d.ext.le d.ay) e4;have d1w2:=Mem_cell_w (Mem_inn_le d.ext.le d.ay) d1.1;rw[hkn]at d1w2;have hI:=sJ.made prog 3 3;obtain⟨w5,ob5,hr5,hb5,L',hg5⟩:=hI.wY (Maps.int_keyed underlying3) underlying243 underlying3 d.gQ qdY (Maps.keyOf_int_mk underlying3 (SF (n:=kn) zo)) (x:=0) zD;have y:=d.jP hb5 hg5;have HO5:=zh (zi y L');clear y d D E L' hb5 hg5 hI;have P:=HO5.o.1.al #[.slice none 0 0] 27;have L':=HO5.o.2;simp only[Option.isSome_none]at L';clear HO5 hsz;have K':=(P.dL 80 2);have HO7:=zh (zi K' L');clear K' P L';generalize hOo:w5.heap.size=Oo at*
  obtain⟨cf,hcf⟩:∃cf:Nat->Int,cf=fun s=>bK.getD s 0:=⟨_,rfl⟩;obtain⟨dl,hdl⟩:∃dl:Nat->Nat->Option Nat,dl=dlN next bK lv:=⟨_,rfl⟩;obtain⟨F,hah⟩:∃F:Nat->Bool,F=fun s=>acc.getD s false:=⟨_,rfl⟩;rw[<-hcf,<-hdl,<-hah]at HB;have hcf0:cf 0=kn:=by rw[hcf,<-hkn];simp[show 0<bK.length by omega]
  have hI7:=HO7.o.2;rw[<-hcf0]at hI7;have HI:=zh (fun k hk=>MB (cf:=cf) (ac:=F) HB.o.iv HB.o.pos (fun s i t h1 h2 h3=>(HB.o.some s i t h1 h2 h3).1) k hk);have Hfun:=zh (zi hcf (zi hdl hah));clear hcf hdl hah;go_wp2;refine av [0,2,3,4,5,6,7] (fun n vs wr=>∃(k:Nat) (vo i':zV) (ob:Obj) (f:Lit->Option Int) (xs:List Value) (mk:Mem),
   (∀j,j<k->j<(dI cf dl lo hi F cuts.length j).1.length)/\k<=(dI cf dl lo hi F cuts.length k).1.length/\n=next.length-k /\
   vs=[.pointer (some ⟨g,0,none⟩),.pointer (some ⟨w.heap.size,0,none⟩),.slice (some ⟨lb,Q',none⟩) next.length lc,vo,.map (some (w1.heap.size+1)),.pointer (some ⟨Oo,0,none⟩),.int .i64 k] /\
   Own w m wr mk [.row i' 80 2 k xs,.obj Oo 27 #[i'],.gQ (w1.heap.size+1) ob,.row vo 3 1 (dI cf dl lo hi F cuts.length k).1.length (dO (dI cf dl lo hi F cuts.length k).1),.obj w.heap.size 27 #[.slice none 0 0]] /\
   kJ mk xs (dI cf dl lo hi F cuts.length k).2/\sJ prog 3 3 ob (dI cf dl lo hi F cuts.length k).1.length (dI cf dl lo hi F cuts.length k).1.length f/\Dx f cf (dI cf dl lo hi F cuts.length k).1 /\
   (m.grow (w.alloc (.cells #[.slice none 0 0] 27)) w1).le mk) ?_ ?_
  .exact⟨_,0,.slice (some ⟨w1.heap.size,0,none⟩) 1 1,.slice none 0 0,ob5,_,[],_,fun j hj=>zo,zG _,rfl,rfl,HO7.o.1,kJ.nil _,hI7,QF cf 0,Mem.le_refl _⟩
  clear HO7 hI7 hr5 d2w d1w d1w2 e4w e4w2 q3 hO1b hO1l hO1c;rintro X z n vs wr hX-⟨k,vo,i',ob,f,xs,mk,hk1,hk2,rfl,rfl,A,W',hI,J,hmk⟩;simp[aX,lk];have d':=HI.o k hk1;obtain⟨H',voc,rfl⟩:=aT A.dZ.row;by_cases hlt:k<(dI cf dl lo hi F cuts.length k).1.length
  .have hsN:=d'.lt _ (zF hlt);have hoN:=og d'.MO d'.lt;have t':=Mem_inn_le A.ext.le A.ay;have hrowi:∃vo',H'=some ⟨vo',0,none⟩:=by
    rcases A.dZ.row.2 with⟨h,-⟩|⟨gg,cap,cur,h,-⟩
    .injection h with h1 h2 h3;omega
    .exact qb8
   obtain⟨vob,rfl⟩:=hrowi;have hr1s:(dO (dI cf dl lo hi F cuts.length k).1)[k]?=some (.int .i64 ((dI cf dl lo hi F cuts.length k).1[k]:Nat)):=by simp[dO,hlt]
   have r1:=bg (j:=k) A.dZ.row hr1s;have hgd:(dI cf dl lo hi F cuts.length k).1.getD k 0=(dI cf dl lo hi F cuts.length k).1[k]:=by simp[hlt]
   have HBI:=zh d';clear d';have hl4:=fun c (h:c<lv.length)=>Mem_cell_le hmk (l4 c h);obtain⟨nb,no,rfl,n4⟩:=n3 qeN;obtain⟨ab,ao,rfl,a4⟩:=a3 (by intro h;have:=H.yw;simp[h]at this;omega);have hE:=Iu cf dl lo hi F cuts.length k;rw[hgd]at hE;generalize (dI cf dl lo hi F cuts.length k).1[k]=s at*
   have ha1:=a4 s qeH;obtain⟨u,m1,ra,rc,rfl,m2,m3,m4⟩:=n4 s hsN;have ha1w:=Mem_cell_w t' ha1;have ha1l:=Mem_cell_lt t' ha1;have m1w:=Mem_cell_w t' m1;have e2w:=Mem_cell_w t' e2;have e3w:=Mem_cell_w t' e3;have e4w:=Mem_cell_w t' e4;have egw:=Mem_cell_lt t' e4;have Hrows:=H.rows _ (zF hsN);have hahs:F s=acc[s]'qeH:=by
    have h1:=congrFun Hfun.o.2.2 s;have:s<acc.length:=by have:=H.yw;omega
    simpa [this]using h1
   rw[<-hahs]at ha1w;unfold maxLen at m3;have hahN:s<acc.length:=by have:=H.yw;omega
   clear hahs ha1 hgd;generalize hrw:next[s]=row at*
   have Hob:=zh (show ∀j,j<k+1->j<(dI cf dl lo hi F cuts.length j).1.length from fun j hj=>by
    by_cases c:j<k
    .exact hk1 j c
    .have:j=k:=zo;subst this;exact hlt)
   generalize dI cf dl lo hi F cuts.length k=r at*
   obtain⟨o,out⟩:=r;simp only at*
   have hvo:=A.dZ.row;have hol:=(World.ownsRow.lt hvo _ rfl).2;unfold maxLen at*
   go_wp2;refine aR [0,2,3,4,5,6,7,8] (fun vs w1'=>vs=[.pointer (some ⟨g,0,none⟩),.pointer (some ⟨w.heap.size,0,none⟩),.slice (some ⟨lb,Q',none⟩) next.length lc,.slice (some ⟨vob,0,none⟩) o.length voc,.map (some (w1.heap.size+1)),.pointer (some ⟨Oo,0,none⟩),.int .i64 k,.pointer (some ⟨wr.heap.size,0,none⟩)] /\
    w1'=(wr.alloc (.cells #[.bool (F s),.slice none 0 0] 80)).drew) ?_ ?_
   .intro Y hY
    go_region
    exact qb3
   rintro z1 vs w1'-⟨rfl,rfl⟩;simp[aX,lk];have B:=((A.al #[.bool (F s),.slice none 0 0] 80).dr).dL 104 3;have HO1:=zh B;clear B A;have hSz:wr.heap.size<(wr.alloc (.cells #[.bool (F s),.slice none 0 0] 80)).drew.heap.size:=by simp
   generalize hS:wr.heap.size=S at*
   generalize (wr.alloc (.cells #[.bool (F s),.slice none 0 0] 80)).drew=w2 at*
   have l':=Mem_inn_le HO1.o.ext.le HO1.o.ay;have m1w:=Mem_cell_w l' m1;have m1l:=Mem_cell_lt l' m1;have e2w:=Mem_cell_w l' e2;have e2l:=Mem_cell_lt l' e2;have r1:=bg (j:=k) (u:=.int .i64 s) (HO1.o.kP (v:=.slice (some ⟨vob,0,none⟩) o.length voc) (t:=3) (size:=1) (n:=o.length) (xs:=dO o) zS) hr1s;go_wp2
   go_quiet (fail)
   go_wp2;have hRI:∀i,i<=cuts.length->MH cf dl lo hi cuts.length next.length s o i (cu cf dl lo hi s o i):=
    Lf HB.o.iv HBI.o.MO HBI.o.lt (fun i t hi' ht=>(HB.o.some s i t hsN hi' ht).1)
   have HRI:=zh hRI;clear hRI;refine av [0,2,3,4,5,6,7,8,63,64,65] (fun n vs N'=>∃(i:Nat) (vo ve:zV) (ob:Obj) (f:Lit->Option Int),i<=cuts.length/\n=cuts.length-i /\
    vs=[.pointer (some ⟨g,0,none⟩),.pointer (some ⟨w.heap.size,0,none⟩),.slice (some ⟨lb,Q',none⟩) next.length lc,vo,.map (some (w1.heap.size+1)),.pointer (some ⟨Oo,0,none⟩),.int .i64 k,.pointer (some ⟨S,0,none⟩),.slice ra cuts.length rc,.int .i64 cuts.length,.int .i64 i] /\
    Own w m N' mk [.row ve 104 3 (cu cf dl lo hi s o i).2.length (dx (cu cf dl lo hi s o i).2),.obj S 80 #[.bool (F s),ve],.row i' 80 2 k xs,.obj Oo 27 #[i'],.gQ (w1.heap.size+1) ob,
     .row vo 3 1 (cu cf dl lo hi s o i).1.length (dO (cu cf dl lo hi s o i).1),.obj w.heap.size 27 #[.slice none 0 0]] /\
    sJ prog 3 3 ob (cu cf dl lo hi s o i).1.length (cu cf dl lo hi s o i).1.length f/\Dx f cf (cu cf dl lo hi s o i).1) ?_ ?_
   .exact⟨_,0,.slice (some ⟨vob,0,none⟩) o.length voc,.slice none 0 0,ob,f,zG _,rfl,rfl,HO1.o.Ep _,hI,J⟩
   clear HO1 hI J r1 m1w m1l e2w e2l hSz l';rintro Y z2 n vs N' hY-⟨i,vo,ve,ob,f,hi1,rfl,rfl,A,hI,J⟩;simp[aX,lk];have I':=HRI.o i hi1;obtain⟨H',A',rfl⟩:=aT (A.kP (v:=vo) (t:=3) (size:=1) (n:=(cu cf dl lo hi s o i).1.length) (xs:=dO (cu cf dl lo hi s o i).1) zS);obtain⟨M,O,rfl⟩:=aT A.row;have hqN:=og I'.MO I'.lt;have hqe:=JJ cf dl lo hi s o i;by_cases hlt3:i<cuts.length
   .have E':i<row.length:=zo;obtain⟨rb,ro,rfl,m5⟩:=m4 (by intro h;simp[h]at E');have D':=Mem_inn_le A.ext.le A.ay;have x1:=Mem_cell_w D' (m5 i E').1;have hxr:=Hrows.2 row[i] (zF E');obtain⟨G,hxn⟩:=zT hxr.1;have hta:EA next s i=row[i]:=by
     unfold EA nx;have:next.getD s []=row:=by rw[<-hrw];simp[hsN]
     rw[this];simp[E']
    rw[hxn]at x1 hxr hta;have hxl:G<bK.length:=zo;have y1:=k4 G hxl;have y1w:=Mem_cell_w D' y1.1;have hyr:=n'.ik bK[G] (zF hxl);obtain⟨cn,hcn⟩:=zT hyr.1;rw[hcn]at y1w hyr;have W:cf G=cn:=by
     have h1:=congrFun Hfun.o.1 G;simpa [hxl,hcn]using h1
    have z1w:=Mem_cell_w A.ay (hl4 cn zo);have G':dl s i=if lv[cn]'zo=true then some G else none:=by
     have h1:=congrFun (congrFun Hfun.o.2.1 s) i;rw[h1];unfold dlN;rw[hta];have h2:cl bK ((G:Int).toNat)=cn:=by simp[cl,hxl,hcn]
     rw[h2,oU zo]
     rfl
    have e4w:=Mem_cell_w D' e4;have egw:=Mem_cell_lt D' e4;generalize hlvb:lv[cn]'zo=b at*
    clear hta hcn hxn hlvb
    cases b with
    |false=>
     have hN:=FN (cf:=cf) (lo:=lo) (hi:=hi) (o:=o) (by simpa using G');have HN:=zh hN;clear hN G' W;go_wp2;refine hY.o _ _ _ zo rfl ⟨i+1,.slice H' (cu cf dl lo hi s o i).1.length A',.slice M (cu cf dl lo hi s o i).2.length O,ob,f,zo,rfl,rfl,?_,?_,?_⟩
     .rw[HN.o];exact A
     .rw[HN.o];exact hI
     .rw[HN.o];exact J
    |true=>
     have hN:=FM (cf:=cf) (lo:=lo) (hi:=hi) (o:=o) (t:=G) (by simpa using G');have hri2:=HRI.o (i+1) zo;have HN:=zh (zi hN (zi hri2 I'));clear hN G' hri2 I';generalize cu cf dl lo hi s o i=q at*
     obtain⟨o',es⟩:=q;simp only at A hI J hqN hqe;have m':=Maps.keyOf_int_mk underlying3 (SF (n:=cn) zo);have T':=hI.Qm (Maps.int_keyed underlying3) underlying243 underlying3 Jp (A.E9 (g:=w1.heap.size+1) (o:=ob) zS) m'
     go_upto_if 89 with(fail)
     refine aR [0,2,3,4,5,6,7,8,9,10,11,63,64,65] (fun vs w'=>∃(vo2:zV) (j':Obj) (f2:Lit->Option Int),
      vs=[.pointer (some ⟨g,0,none⟩),.pointer (some ⟨w.heap.size,0,none⟩),.slice (some ⟨lb,Q',none⟩) next.length lc,vo2,.map (some (w1.heap.size+1)),.pointer (some ⟨Oo,0,none⟩),.int .i64 k,.pointer (some ⟨S,0,none⟩),.int .i64 i,.int .i64 G,.int .i64 cn,.slice (some ⟨rb,ro,none⟩) cuts.length rc,.int .i64 cuts.length,.int .i64 i] /\
      Own w m w' mk [.row (.slice M es.length O) 104 3 es.length (dx es),.obj S 80 #[.bool (F s),.slice M es.length O],.row i' 80 2 k xs,.obj Oo 27 #[i'],.gQ (w1.heap.size+1) j',
       .row vo2 3 1 (dH cf o' G).length (dO (dH cf o' G)),.obj w.heap.size 27 #[.slice none 0 0]] /\
      sJ prog 3 3 j' (dH cf o' G).length (dH cf o' G).length f2/\Dx f2 cf (dH cf o' G)) ?_ ?_
     .intro Z hZ;have u':=J (cn:Int);by_cases hp:CX cf o' cn<o'.length
      .rw[zK hp]at u';have hoa:dH cf o' G=o':=by
        unfold dH;rw[<-LF,W,zK hp]
       have Hoa:=zh (zi hoa (zi hI J));rw[u'];simp only[Option.isNone_some,Option.isSome_some,xA];clear hoa hp hI J T' u';go_wp2;refine hZ.o _ _ rfl ⟨.slice H' o'.length A',ob,f,rfl,?_,?_,?_⟩
       .rw[Hoa.o.1];exact A
       .rw[Hoa.o.1];exact Hoa.o.2.1
       .rw[Hoa.o.1];exact Hoa.o.2.2
      .rw[zJ hp]at u';have hoa:dH cf o' G=o'++[G]:=by
        unfold dH;rw[<-LF,W,zJ hp]
       have hOM2:=F7 J G (by rw[W];exact hp);rw[W]at hOM2;have B:=A.AB (l₁:=[_,_,_,_]);obtain⟨w4,ob4,hr4,hb4,V,hg4⟩:=hI.wY (Maps.int_keyed underlying3) underlying243 underlying3 B.gQ qdY m' (SF (n:=o'.length) zo);rw[u']at V;simp only[Option.isSome_none]at V;have E:=(B.jP hb4 hg4).Ao (l₁:=[_,_,_,_]);have D:=(E.al #[.int .i64 G] 3);have Hk:=zh (zi hoa (zi hOM2 V));rw[u'];simp only[Option.isNone_none,Option.isSome_none,Option.getD_none];clear hoa hOM2 V J hI T' hp hb4 hg4 B E u'
       go_wp2_with (at_builtin;refine aG sZ rfl (.tmp 94) (.tmp 96) rfl (.slice H' o'.length A') o'.length (dO o') rfl (D.kP zS) ⟨w4.heap.size,0,none⟩ 1 1 [.int .i64 G] rfl rfl (D.obj.cZ rfl) qdZ qdY zo ?_)
       intro va vc' w5 Z' F' U';have d:=(D.AB (l₁:=[_,_,_,_,_,_])).app Z' F' U' zS;have y:=d.Ao (l₁:=[_,_,_,_,_,_]);have HO5:=zh y.tail;clear y d D Z' F' U';go_wp2;refine hZ.o _ _ rfl ⟨.slice va (o'.length+1) vc',ob4,Jf f (.int .i64 cn) o'.length,rfl,?_,?_,?_⟩
       .rw[Hk.o.1];exact qdI
       .rw[Hk.o.1];simpa using Hk.o.2.2
       .rw[Hk.o.1];exact Hk.o.2.1
     rintro z3 vs w4-⟨vo2,j',f2,rfl,d,V,hOM4⟩;simp[aX,lk];clear A hI J T';obtain⟨P',O',rfl⟩:=aT (d.kP (v:=vo2) (t:=3) (size:=1) (n:=(dH cf o' G).length) (xs:=dO (dH cf o' G)) zS);have hap:=tX cf o' G;have hfp:=hOM4 (cn:Int);have hpc:CX cf (dH cf o' G) cn=dN cf o' G:=by rw[<-W,LF];exact hap.1
     rw[hpc,zK hap.2]at hfp;have J':=fun nq=>V.wZ (w:=w4.drewN nq) (Maps.int_keyed underlying3) underlying243 underlying3 Jp (d.E9 (g:=w1.heap.size+1) (o:=j') zS) m';rw[hfp]at J';simp only[xA]at J';generalize dN cf o' G=p at*
     have hpN:p<=2000000:=by
      have:=HN.o.2.1.pre;have h2:=og HN.o.2.1.MO HN.o.2.1.lt;rw[HN.o.1]at h2;simp only at h2;omega
     have s1:=(d.au.obj).cell (i:=1) rfl;obtain⟨cb,co,rfl,c4⟩:=c3 qeq;have v':=c4 i hlt3;rw[hC.lo i hlt3]at v';have hle:=HB.o.iv.le i hlt3;have hmr4:=Mem_inn_le d.ext.le d.ay;have c4w:=Mem_cell_w hmr4 v'.1;have e1w:=Mem_cell_w hmr4 e1;have e1l:=Mem_cell_lt hmr4 e1;have hedok:=BA (N:=next.length) HN.o.2.2 zo;simp only at hedok;clear e4w egw x1 y1w z1w;go_wp2;refine aR [0,2,3,4,5,6,7,8,9,10,11,14,63,64,65,134] (fun vs w'=>∃(bb:Bool) (nq:Nat),
      vs=[.pointer (some ⟨g,0,none⟩),.pointer (some ⟨w.heap.size,0,none⟩),.slice (some ⟨lb,Q',none⟩) next.length lc,.slice P' (dH cf o' G).length O',.map (some (w1.heap.size+1)),.pointer (some ⟨Oo,0,none⟩),.int .i64 k,.pointer (some ⟨S,0,none⟩),.int .i64 i,.int .i64 G,.int .i64 cn,.int .i64 es.length,.slice (some ⟨rb,ro,none⟩) cuts.length rc,.int .i64 cuts.length,.int .i64 i,.bool bb] /\
      w'=w4.drewN nq/\(bb=true↔∃(fs:List Ed) (e:Ed),es=fs++[e]/\e.to=(p:Int)/\e.hi+1=lo i)) ?_ ?_
     .intro Z hZ;rcases List.eq_nil_or_concat es with rfl|⟨fs,e,he⟩
      .refine wp_region_quiet_lit zk zk ?_
       repeat (any_goals (first|go_big_quiet_step (fail)|quiet_step (fail)|(refine wpQuiet_step (fun K hK=>?_);go_simp;split<;>(refine hK _ ?_;clear hK K))))
       all_goals (refine wpQuiet_nil ?_;intro _ hw';obtain⟨nq,R'⟩:=hw';subst R')
       all_goals go_wp2
       all_goals exact hZ.o _ _ rfl ⟨false,nq,rfl,rfl,zS⟩
      .rw[List.concat_eq_append]at he;subst he;have S':∃eb,M=some ⟨eb,0,none⟩:=by
        rcases d.row.2 with⟨h,-⟩|⟨gg,cap,cur,h,-⟩
        .injection h with h1 h2 h3;simp at h2
        .exact qb8
       obtain⟨eb,rfl⟩:=S';have hec:=kX (fs++[e]) fs.length zS;have hel:(fs++[e])[fs.length]'zS=e:=by simp
       rw[hel]at hec;have t1:=bg d.row hec.2.1;have t2:=bg d.row hec.2.2;have hek:=hedok e zS;clear hel hec;have X':=hqe;simp only[zL,yO,List.length_nil]at X';have hw1:IntKind.i64.wrap ((((fs++[e]).length:Nat):Int)-1)=(fs.length:Int):=by
        rw[IntWalk.i64_in _ qd4];simp
       have hw2:IntKind.i64.wrap ((e.hi:Int)+1)=(e.hi:Int)+1:=IntWalk.i64_in _ zo;have hw3:fs.length<(fs++[e]).length:=by simp
       have HL:=zh (Oq fs e (p:Int) (lo i));refine wp_region_quiet_lit zk zk ?_
       repeat (any_goals (first|go_big_quiet_step (fail)|quiet_step (fail)|(refine wpQuiet_step (fun K hK=>?_);go_simp;split<;>(refine hK _ ?_;clear hK K))))
       all_goals (refine wpQuiet_nil ?_;intro _ hw';obtain⟨nq,R'⟩:=hw';subst R')
       all_goals go_wp2
       all_goals first
        |(refine hZ.o _ _ rfl ⟨true,nq,zS,rfl,?_⟩;rw[HL.o];simp only[true_iff];omega)
        |(refine hZ.o _ _ rfl ⟨false,nq,zS,rfl,?_⟩;rw[HL.o];simp only[Bool.false_eq_true,false_iff];omega)
        |(refine hZ.o _ _ rfl ⟨(e.hi:Int)+1==(lo i:Int),nq,zS,rfl,?_⟩;rw[HL.o];simp only[beq_iff_eq];omega)
     rintro z5 vs w5-⟨bb,nq,rfl,rfl,hbb⟩;simp[aX,lk];have y:=(d.Ep nq).dr;have hEnd:=fun w' (hw:m.ay w')=>Zt g cuts next acc bK i m w' hw ht hlt3 (fun h=>by
      have h1:=HB.o.iv.sep i (i+1) zo h;have h2:=HB.o.iv.le (i+1) h;have h3:=hC.lo (i+1) h;omega)
     rw[hC.hi i hlt3]at hEnd;have HEnd:=zh hEnd;clear hEnd c4w e1w e1l s1 J';have hle2:=HB.o.iv.le i hlt3
     cases bb with
     |true=>
      obtain⟨fs,e,hes,he1,he2⟩:=hbb.1 rfl;subst hes;have S':∃eb,M=some ⟨eb,0,none⟩:=by
       rcases y.row.2 with⟨h,-⟩|⟨gg,cap,cur,h,-⟩
       .injection h with h1 h2 h3;simp at h2
       .exact qb8
      obtain⟨eb,rfl⟩:=S';have X':=hqe;simp only[zL,yO,List.length_nil]at X';have hw1:IntKind.i64.wrap ((((fs++[e]).length:Nat):Int)-1)=(fs.length:Int):=by
       rw[IntWalk.i64_in _ qd4];simp
      have hw3:fs.length<(fs++[e]).length:=by simp
      have hw4:IntKind.i64.wrap (fs.length:Int)=(fs.length:Int):=IntWalk.i64_in _ zo;have hw5:(fs.length:Int)<(fs.length:Int)+1:=zo;have Y':=FW (lo:=lo i) (hi:=hi i) (fs:=fs) (zi he1 he2);have Hpe:=zh Y';clear Y' he1 he2 hbb;go_wp2;have s1:=y.au.obj.c 1;have hm5:=Mem_inn_le y.ext.le y.ay;have f1:=dK y.row (fs.length*3+1);have c1:=bg y.row (kX (fs++[e]) fs.length zS).2.1;have P:=y.setRow (fs.length*3+1) (.int .u8 (hi i));rw[wK]at P;have r':=zh P;clear P y d;refine wp_region_still_tail 9 zk zk ?_;change wpStill _ _ (w4.drewN nq).drew (fun a'=>wpList _ _ _ _ a' (w4.drewN nq).drew) _ _;generalize (w4.drewN nq).drew=w6 at*
      simp only[List.take_succ_cons,List.take_zero,List.drop_succ_cons,List.drop_zero]
      repeat still_step
      still_call (HEnd.o _ hm5)
      repeat still_step
      refine wpStill_nil ?_;go_wp2;refine hY.o _ _ _ zo rfl ⟨i+1,.slice P' (dH cf o' G).length O',.slice (some ⟨eb,0,none⟩) (fs++[e]).length O,j',f2,zo,rfl,rfl,?_,?_,?_⟩
      .rw[HN.o.1,Hpe.o];have:=r'.o;exact qa5
      .rw[HN.o.1];exact V
      .rw[HN.o.1];exact hOM4
     |false=>
      have Y':kN es (lo i) (hi i) p=es++[⟨lo i,hi i,(p:Int)⟩]:=by
       rcases List.eq_nil_or_concat es with rfl|⟨fs,e,he⟩
       .rfl
       .rw[List.concat_eq_append]at he;subst he;exact FX fun h=>by have:=hbb.2 ⟨fs,e,rfl,h.1,h.2⟩;cases this
      have Hpe:=zh Y';clear Y' hbb;have J':=fun nq=>V.wZ (w:=w4.drewN nq) (Maps.int_keyed underlying3) underlying243 underlying3 Jp (d.E9 (g:=w1.heap.size+1) (o:=j') zS) m';rw[hfp]at J';simp only[xA]at J';have hwu:IntKind.u8.wrap (lo i:Int)=(lo i:Int):=IntWalk.u8_in _ zo;have y:=d.Ep (nq+1);have mkS:∀{w':zW} {L:List Cl.bF},Own w m w' mk L->bF.obj S 80 #[.bool (F s),.slice M es.length O]∈L->bF.gQ (w1.heap.size+1) j'∈L ->
       (bH w' S 80 #[.bool (F s),.slice M es.length O]/\w'.cell? ⟨g,0,none⟩=some (.slice (some ⟨cb,co,none⟩) cuts.length cc)/\w'.cell? ⟨cb,co+i,none⟩=some (.int .i64 (lo i))/\(Instr.lookup 243 (.map (some (w1.heap.size+1))) (.int .i64 cn) false).run prog w'=.ok (.int .i64 p) w'):=by
       intro w' L A h1 h2;refine⟨A.eO h1,Mem_cell_w (Mem_inn_le A.ext.le A.ay) e1,Mem_cell_w (Mem_inn_le A.ext.le A.ay) v'.1,?_⟩;have:=V.wZ (Maps.int_keyed underlying3) underlying243 underlying3 Jp (A.E9 h2) m';rw[hfp]at this;exact this
      go_wp2;refine jC (fun w'=>bH w' S 80 #[.bool (F s),.slice M es.length O]/\w'.cell? ⟨g,0,none⟩=some (.slice (some ⟨cb,co,none⟩) cuts.length cc)/\w'.cell? ⟨cb,co+i,none⟩=some (.int .i64 (lo i))/\(Instr.lookup 243 (.map (some (w1.heap.size+1))) (.int .i64 cn) false).run prog w'=.ok (.int .i64 p) w') 20 zk ?_;have hS:=mkS y zS zS;refine aI 0 rfl zk (fun _ _ _ h=>h) hS (aB rfl fun w' a=>by have q:=a.1.cell (i:=1) rfl;have q1:=a.2.1;have q2:=a.2.2.1;have q3:=a.2.2.2;go_simp;rfl) ?_;refine aI 1 rfl zk (fun _ _ _ h=>h) hS (aB rfl fun w' a=>by have q:=a.1.cell (i:=1) rfl;have q1:=a.2.1;have q2:=a.2.2.1;have q3:=a.2.2.2;go_simp;rfl) ?_;refine aI 2 rfl zk (fun _ _ _ h=>h) hS (aB rfl fun w' a=>by have q:=a.1.cell (i:=1) rfl;have q1:=a.2.1;have q2:=a.2.2.1;have q3:=a.2.2.2;go_simp;rfl) ?_;refine aI 3 rfl zk (fun _ _ _ h=>h) hS (aB rfl fun w' a=>by have q:=a.1.cell (i:=1) rfl;have q1:=a.2.1;have q2:=a.2.2.1;have q3:=a.2.2.2;go_simp;rfl) ?_;refine aI 4 rfl zk (fun _ _ _ h=>h) hS (aB rfl fun w' a=>by have q:=a.1.cell (i:=1) rfl;have q1:=a.2.1;have q2:=a.2.2.1;have q3:=a.2.2.2;go_simp;rfl) ?_;refine aI 5 rfl zk (fun _ _ _ h=>h) hS (aB rfl fun w' a=>by have q:=a.1.cell (i:=1) rfl;have q1:=a.2.1;have q2:=a.2.2.1;have q3:=a.2.2.2;go_simp;rfl) ?_;refine aI 6 rfl zk (fun _ _ _ h=>h) hS (aB rfl fun w' a=>by have q:=a.1.cell (i:=1) rfl;have q1:=a.2.1;have q2:=a.2.2.1;have q3:=a.2.2.2;go_simp;rfl) ?_;refine aI 7 rfl zk (fun _ _ _ h=>h) hS (aB rfl fun w' a=>by have q:=a.1.cell (i:=1) rfl;have q1:=a.2.1;have q2:=a.2.2.1;have q3:=a.2.2.2;go_simp;rfl) ?_;refine aI 8 rfl zk (fun _ _ _ h=>h) hS (aB rfl fun w' a=>by have q:=a.1.cell (i:=1) rfl;have q1:=a.2.1;have q2:=a.2.2.1;have q3:=a.2.2.2;go_simp;rfl) ?_;refine aI 9 rfl zk (fun _ _ _ h=>h) hS (aB rfl fun w' a=>by have q:=a.1.cell (i:=1) rfl;have q1:=a.2.1;have q2:=a.2.2.1;have q3:=a.2.2.2;go_simp;rfl) ?_;refine aI 10 rfl zk (fun _ _ _ h=>h) hS (aB rfl fun w' a=>by have q:=a.1.cell (i:=1) rfl;have q1:=a.2.1;have q2:=a.2.2.1;have q3:=a.2.2.2;go_simp;rfl) ?_;refine aI 11 rfl zk (fun _ _ _ h=>h) hS (aB rfl fun w' a=>by have q:=a.1.cell (i:=1) rfl;have q1:=a.2.1;have q2:=a.2.2.1;have q3:=a.2.2.2;go_simp;rfl) ?_;refine aI 13 rfl zk (fun _ _ _ h=>h) hS (aB rfl fun w' a=>by have q:=a.1.cell (i:=1) rfl;have q1:=a.2.1;have q2:=a.2.2.1;have q3:=a.2.2.2;go_simp;rfl) ?_;refine aI 14 rfl zk (fun _ _ _ h=>h) hS (aB rfl fun w' a=>by have q:=a.1.cell (i:=1) rfl;have q1:=a.2.1;have q2:=a.2.2.1;have q3:=a.2.2.2;go_simp;rfl) ?_;refine aI 15 rfl zk (fun _ _ _ h=>h) hS (aB rfl fun w' a=>by have q:=a.1.cell (i:=1) rfl;have q1:=a.2.1;have q2:=a.2.2.1;have q3:=a.2.2.2;go_simp;rfl) ?_;go_simp;refine aV 12 zk (aJ rfl rfl (dX qej (HEnd.o _ (Mem_inn_le y.ext.le y.ay)) ?_));rintro e' w6 ⟨rfl,rfl⟩;refine⟨_,rfl,jb hS fun hS1=>?_⟩;go_simp;refine aV 16 zk (aJ rfl rfl (aN qd0 (jb hS fun _=>?_)));go_simp;have P:=y.al #[.int .u8 (lo i),.int .u8 (hi i),.int .i64 p] 104;refine aV 17 zk (aJ rfl rfl (aN qd0 (jb (mkS P zS zS) fun _=>?_)));go_simp;refine aV 18 zk (aJ rfl rfl (iG tq (.tmp 145) (.tmp 161) rfl (.slice M es.length O) es.length (dx es) rfl P.au.row ⟨w4.heap.size,0,none⟩ 1 1 [.int .u8 (lo i),.int .u8 (hi i),.int .i64 p] rfl rfl (P.obj.cZ rfl) qdZ qdY zo (fun na' nc' w7 U I Q=>?_)));have K':=P.au.app U I Q (zI _);refine jb (mkS K' zS zS) fun hS3=>?_;go_simp;refine aV 19 zk (aJ rfl rfl (aN qd0 (jb hS3 fun _=>?_)));go_simp;have f3:=hS3.1.frozen 1;have c3:=hS3.1.cell (i:=1) rfl;refine aV 20 zk (aJ rfl rfl (cO qeI (lD rfl ?_)));refine gG zk ?_ _;have hO8:=((K'.bA.set 1 (.slice na' (es.length+1) nc')).kY).au;have r':=zh hO8;clear hO8 K' P y d hS hS1 hS3 f3 c3 U I Q;go_wp2;refine hY.o _ _ _ zo rfl ⟨i+1,.slice P' (dH cf o' G).length O',.slice na' (es.length+1) nc',j',f2,zo,rfl,rfl,?_,?_,?_⟩
      .rw[HN.o.1,Hpe.o];have:=r'.o;simpa [iN]using this
      .rw[HN.o.1];exact V
      .rw[HN.o.1];exact hOM4
   .obtain rfl:i=cuts.length:=zo;have s0:=A.au.obj.c 0;have s1:=A.au.obj.c 1;have sl:=A.au.obj.lt;have u0:=(A.eO (g:=Oo) (t:=27) (arr:=#[i']) zS).cell (i:=0) rfl;have hes:=jq (l:=(cu cf dl lo hi s o cuts.length).2) (m:=mk) A.row (BA (N:=next.length) I' zo);have E:=A.bJ;have hmk2:=Mem_le_addv (w:=N') A.free;have V':=(W'.mono hmk2).push (s:=⟨F s,(cu cf dl lo hi s o cuts.length).2⟩) hes;obtain⟨h',g',rfl⟩:=aT E.au.row;have D:=E.al #[.bool (F s),.slice M (cu cf dl lo hi s o cuts.length).2.length O] 80;have hoN2:=og HBI.o.MO HBI.o.lt;simp only at hoN2;have Hk:=zh (zi V' (zi (Mem.le_trans hmk hmk2) (zi hI J)));clear V' hes hI J hmk2;generalize mk.iw N' (.slice M (cu cf dl lo hi s o cuts.length).2.length O)=mk2 at*
    have hnews:=D.obj.cZ rfl;have hvr:=D.bA.row;clear A E
    go_wp2_with (at_builtin;refine aG mU rfl (.tmp 166) (.tmp 168) rfl (.slice h' k g') k xs rfl hvr ⟨N'.heap.size,0,none⟩ 1 1 [.bool (F s),.slice M (cu cf dl lo hi s o cuts.length).2.length O] rfl rfl hnews qdZ qdY zo ?_)
    intro va vc w7 U I Q;have d:=(D.bA.app U I Q zS).dZ;clear U I Q D hvr hnews;have u2:=d.obj.c 0;have u3:=d.obj.frozen 0;have u4:=d.obj.lt;have y:=((d.set 0 (.slice va (k+1) vc)).au).kY.kY;have HO5:=zh y;clear y d;go_wp2;have hpre:=I'.pre.length_le;refine hX.o _ _ _ zo rfl ⟨k+1,.slice H' (cu cf dl lo hi s o cuts.length).1.length A',.slice va (k+1) vc,ob,f,xs++[.bool (F s),.slice M (cu cf dl lo hi s o cuts.length).2.length O],mk2,?_,?_,rfl,rfl,?_,?_,?_,?_,Hk.o.2.1⟩
    .exact Hob.o
    .rw[hE];exact qdE
    .rw[hE];exact HO5.o
    .rw[hE];exact Hk.o.1
    .rw[hE];exact Hk.o.2.2.1
    .rw[hE];exact Hk.o.2.2.2
  .have hkl2:(dI cf dl lo hi F cuts.length k).1.length=k:=zo;have hcan:=KA HB.o hk1 hkl2;have hNl:=og d'.MO d'.lt;rw[hkl2]at hNl;have b':=d'.len;generalize dI cf dl lo hi F cuts.length k=r at*
   obtain⟨h',g',rfl⟩:=aT A.row;have u1:=(A.eO (g:=Oo) (t:=27) (arr:=#[.slice h' k g']) zS).cell (i:=0) rfl;have E:=(A.AB (l₁:=[_,_,_,_]));have u2:=E.obj.c 0;have u3:=E.obj.frozen 0;have u4:=E.obj.lt;have D:=(E.set 0 (.slice h' k g')).au;have hst:=gZ (l:=r.2) (m:=mk) (by rw[b'];exact D.row) W' D.free;have hst2:=aW D.bJ.done hst;have hbel:=D.az;have Hk:=zh (zi hcan (zi hst2 (zi hbel (zi hNl b'))));clear hcan hst hst2 hbel hNl b' D E A hI J d' W' hkl2;go_wp2;refine yV (v:=.agg #[.slice h' k g']) (by simp[results,results226,go_sem,u2]) rfl ?_;refine hR.o _ _ ⟨_,r.2,rfl,Hk.o.2.2.1,Hk.o.2.1,Hk.o.1.1,Hk.o.1.2,?_⟩;have h1:=Hk.o.2.2.2.1;have h2:=Hk.o.2.2.2.2;omega
theorem uy(es:List Ed)(b k:Nat)(h:k<es.length):bv (es.drop k) b=if(es[k]).lo<=b/\b<=(es[k]).hi then(es[k]).to else bv (es.drop (k+1)) b:=by
 rw[yE h];rfl
theorem vI(v:zV)(l:aC)(m:Mem)(w:zW)(A:m.ay w)(J:aQ m v l):
 zX 87 #[v] w (.bool (tf (WF l))):=by
 obtain⟨a,c,rfl,h1,Q,E⟩:=J;unfold maxLen at Q;refine aj fun R hR=>?_
 go_enter func87,ntmps87
 go_wp2;refine av [0,7,8,9] (fun n p g=>∃k:Nat,k<=l.length/\n=l.length-k/\p=[.slice a l.length c,.slice a l.length c,.int .i64 l.length,.int .i64 k]/\(WF l↔∀s∈l.drop k,bP l.length (-1) s.aH)/\zB w g) ?_ ?_
 .exact qaA
 rintro X z n p g hX-⟨k,hk,rfl,rfl,hrel,hbel⟩;simp[aX,lk];have f:=Mem_inn_below A hbel;by_cases hlt:k<l.length
 .obtain⟨b,off,rfl,D⟩:=E qdX;obtain⟨P,W,C,H,G,rfl,h7,O,N⟩:=D k hlt;have hb:=Mem_cell_lt f C;have c1:=Mem_cell_w f P;have c2:=Mem_cell_w f C;have Hs:=zh (SE (n:=l.length) hlt);generalize l[k]=s at*
  unfold maxLen at O;clear D E;go_wp2;refine av [0,4,7,8,9,14,15,16] (fun n p i=>∃j:Nat,j<=s.aH.length/\n=s.aH.length-j/\p=[.slice (some ⟨b,off,none⟩) l.length c,.pointer (some ⟨g.heap.size,0,none⟩),.slice (some ⟨b,off,none⟩) l.length c,.int .i64 l.length,.int .i64 k,.slice H s.aH.length G,.int .i64 s.aH.length,.int .i64 j]/\(bP l.length (-1) s.aH↔bP l.length (nM s.aH j) (s.aH.drop j))/\i.cell? ⟨g.heap.size,1,none⟩=some (.slice H s.aH.length G)/\g.heap.size<i.heap.size/\zB w i) ?_ ?_
  .exact⟨_,0,zG _,rfl,rfl,Iff.rfl,zS,zS,bE hbel _⟩
  rintro Y V n p i M-⟨j,hj,rfl,rfl,hrel2,y,x,hbel2⟩;simp[aX,lk];have hmr2:=Mem_inn_below A hbel2;by_cases hlt2:j<s.aH.length
  .obtain⟨U,q,rfl,h10⟩:=N qd6;obtain⟨F,T,S,g4,g5,g6,g7⟩:=h10 j hlt2;have L:=Mem_cell_lt hmr2 F;have d1:=Mem_cell_w hmr2 F;have d2:=Mem_cell_w hmr2 T;have d3:=Mem_cell_w hmr2 S;have I:=zh (Bh (n:=l.length) hlt2);have d:0<j->i.cell? ⟨U,q+(j-1)*3+1,none⟩=some (.int .u8 (s.aH[j-1]).hi)/\nM s.aH j=(s.aH[j-1]).hi:=by
    exact qbU
   go_wp2;refine wp_region_quiet_lit zk zk ?_
   repeat (any_goals (first|go_big_quiet_step (fail)|quiet_step (fail)|(refine wpQuiet_step (fun K B=>?_);go_simp;split<;>(refine B _ ?_;clear B K))))
   all_goals (refine wpQuiet_nil ?_;intro _ u;obtain⟨nq,r⟩:=u;subst r)
   all_goals go_wp2
   all_goals first
    | exact hR.o _ _ ⟨aS (by
     rw[aA];intro t;obtain⟨q1,q2,q3,Z,-⟩:=I.o.1 (hrel2.1 (Hs.o.1 (hrel.1 t)).1)
     first
      |omega
      | (have:=(d (by assumption)).2;omega)),below_drewN (bE hbel2 _) _⟩
    | exact M.o _ _ _ zo rfl ⟨j+1,zo,rfl,rfl,hrel2.trans (I.o.trans ⟨fun h=>h.2.2.2.2,fun h=>⟨zo,zo,zo,by
     first
      |(have:=(d (by assumption)).2;omega)
      | (have:=DX s.aH j zo;omega),h⟩⟩),
     by rw[World.cell?_drewN,World.cell?_alloc_past _ _ _ x];exact y,by simp;omega,below_drewN (bE hbel2 _) _⟩
  .exact qbF
 .exact qcT
theorem YP(v:zV)(l:aC)(s x:Nat)(m:Mem)(w:zW)(f:m.ay w)(u:aQ m v l)(hs:s<l.length):
 zX 238 #[.agg #[v],.int .i64 s,.int .u8 x] w (.int .i64 (bv (l[s]).aH x)):=by
 obtain⟨a,c,rfl,M,C,r⟩:=u;obtain⟨b,off,rfl,q⟩:=r qec;obtain⟨-,H,p,G,F,rfl,L,B,A⟩:=q s hs;have K:=Mem_cell_lt f p;have J:=Mem_cell_w f p;generalize l[s].aH=es at*
 clear q r;unfold maxLen at C B;refine aj fun R hR=>?_
 go_enter func238,ntmps238
 go_wp2;refine av [2,23,24,25] (fun n j i=>∃k:Nat,k<=es.length/\n=es.length-k/\j=[.int .u8 x,.slice G es.length F,.int .i64 es.length,.int .i64 k]/\bv es x=bv (es.drop k) x/\zB w i) ?_ ?_
 .exact⟨_,0,zG _,rfl,rfl,rfl,bE (zR _ _) _⟩
 rintro X z n j i hX-⟨k,I,rfl,rfl,hrel,hbel⟩;simp[aX,lk];have d:=Mem_inn_below f hbel;by_cases hlt:k<es.length
 .obtain⟨V,o,rfl,g⟩:=A qdX;obtain⟨t,E,D,Q,P,O,N⟩:=g k hlt;have y:=Mem_cell_lt d t;have U:=Mem_cell_w d t;have T:=Mem_cell_w d E;have S:=Mem_cell_w d D;have HD:=zh (uy es x k hlt);go_wp2
  .exact qcx
  .exact qan
  .exact qan
 .exact qb2
theorem Nb(v:zV)(l:aC)(s:Int)(x:Nat)(m:Mem)(w:zW)(h:m.ay w)(d:aQ m v l)(g : -9223372036854775808<=s)(f:s<=9223372036854775807):
 zX 238 #[.agg #[v],.int .i64 s,.int .u8 x] w (.int .i64 (bC l s x)):=by
 by_cases j:s<0
 .rw[jT j];refine aj fun R hR=>?_
  go_enter func238,ntmps238
  exact qaS
 .obtain⟨n,rfl⟩:=zT (by omega:0<=s);by_cases b:n<l.length
  .rw[dW l n x b];exact YP v l n x m w h d b
  .rw[fB l n x zo];obtain⟨a,c,rfl,b,i,k⟩:=d;unfold maxLen at i;refine aj fun R hR=>?_
   go_enter func238,ntmps238
   exact qaS
theorem Df(v:zV)(l:aC)(s:Int)(m:Mem)(w:zW)(d:m.ay w)(n:aQ m v l)(k : -9223372036854775808<=s)(j:s<l.length):
 zX 236 #[.agg #[v],.int .i64 s] w (.bool (bB l s)):=by
 by_cases p:s<0
 .have:bB l s=false:=by simp[bB,p]
  rw[this];refine aj fun R hR=>?_
  go_enter func236,ntmps236
  exact qaS
 obtain⟨s,rfl⟩:=zT (by omega:0<=s);have hs:s<l.length:=zo;rw[fJ l s hs];obtain⟨a,c,rfl,t,o,i⟩:=n;obtain⟨b,off,rfl,g⟩:=i qec;obtain⟨f,-⟩:=g s hs;have r:=Mem_cell_lt d f;have q:=Mem_cell_w d f;clear g i;unfold maxLen at o;refine aj fun R hR=>?_
 go_enter func236,ntmps236
 exact qaS
theorem Sw(x y:Bool)(w:zW):
 zX 202 #[.bool x,.bool y] w (.bool (x && !y)):=by
 refine aj fun R hR=>?_;cases x<;>cases y
 all_goals
  go_enter func202,ntmps202
  go_wp2;exact qcm
end Cl
