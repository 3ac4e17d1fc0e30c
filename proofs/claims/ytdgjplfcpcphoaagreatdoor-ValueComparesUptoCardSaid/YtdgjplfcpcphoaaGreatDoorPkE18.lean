/- Lemmas for the proofs of chapter 11. -/
import Derived.Test.YtdgjplfcpcphoaaGreatDoorPkE16
import Derived.Test.YtdgjplfcpcphoaaGreatDoorPkE17
set_option maxRecDepth 100000
set_option maxHeartbeats 16000000
namespace Cl
open Go Go.RowKit Go.Proofs Tryz
noncomputable def OE(v:Vl):Bool := !v.any&&decide (v.aU.length=0)&&decide (v.aF.length=0)&&rE v.s
theorem tZ(v:Vl)(x:Sl):∀j u,([.bool v.s.gY,.bool v.s.iF,.bool v.s.iZ,x.i,x.f,x.t]:List Value)[j]?=some u->(bu v x).toArray[1+j]?=some u:=by
 intro j u a;have b:=(yB.1 a).1
 match j,a,b with
 |0,a,_=>exact a
 |1,a,_=>exact a
 |2,a,_=>exact a
 |3,a,_=>exact a
 |4,a,_=>exact a
 |5,a,_=>exact a
 |j+6,_,h=>simp at h;omega
theorem BZ:rE fI=true:=by unfold rE;rw[OL nk];exact aO fun e h=>(VE.mem e).1 h
theorem Ex(v:Vl)(x:Sl)(m:Mem)(n:Nat)(w:zW)(T:m.ay w)(y:gD m)(H:bG m n x v)(C:uW v.s 30000 100000)(O:v.aU.length<=1000000)(M:v.aF.length<=1000000):
 zX 16 #[v.val x] w (.bool (OE v)):=by
 have b:=(Own.start T).al (bu v x).toArray 33;have I:=H.sc;have E:=zh (DL x.i x.f x.t v.s m (w.alloc (.cells (bu v x).toArray 33)) I ⟨by have:=C.i;omega,by have:=C.f;omega,by have:=C.t;omega⟩);have B:=zh (b.obj.sub (tZ v x));have F:=zh (fun w' (h:Below (w.alloc (.cells (bu v x).toArray 33)).heap.size (w.alloc (.cells (bu v x).toArray 33)) w')=>Nn x.i x.f x.t v.s m w' (b.aP h).ay y I C);have K:=zh b.az;have HL:=zh (zi O M);obtain⟨a1,b1,a2,b2,a3,b3,Z,X,Y,W,rfl,-⟩:=H.eG;have c0:=b.obj.cell (i:=0) (v:=.bool v.any) rfl;have c7:=b.obj.cell (i:=7) (v:=.slice Z v.aU.length X) rfl;have c8:=b.obj.cell (i:=8) (v:=.slice Y v.aF.length W) rfl;have l:=zh (show OE v=(!v.any&&decide (v.aU.length=0)&&decide (v.aF.length=0)&&rE v.s) from rfl);unfold Vl.val;clear b I H;generalize (bu v _).toArray=N at*
 generalize v.aU.length=r at*
 generalize v.aF.length=q at*
 generalize v.any=p at*
 generalize OE v=S at*
 clear O M;refine aj fun R D=>?_
 cases p with
 |true=>
  go_enter func16,ntmps16
  go_wp2
  exact D.o _ _ ⟨by rw[l.o];rfl,K.o⟩
 |false=>
  by_cases G:r=0/\q=0
  .obtain⟨rfl,rfl⟩:=G
   go_enter func16,ntmps16
   go_wp2_with (refine ae K3 rfl (.tmp 17) rfl rfl _ rfl B.o ?_)
   refine E.o.mono ?_;rintro e L ⟨rfl,a⟩;have g:=zh (F.o L a);have c:=zh (fun j u U=>(iI a zS (B.o j u U):L.cell? _=_));have k:=zh (dD K.o a);by_cases z:v.s=fI
   .have d:=zh (show S=true by rw[l.o,z,BZ];rfl);rw[aO z];clear F E g B c l a z;go_wp2;exact D.o _ _ ⟨by rw[d.o];rfl,k.o⟩
   .rw[aA z];clear F E B a z
    go_wp2_with (refine ae K3 rfl (.tmp 21) rfl rfl _ rfl c.o ?_)
    refine g.o.mono ?_;rintro e w2 ⟨rfl,A⟩;have J:=zh (dD k.o A);generalize rE v.s=V at*
    clear g c k A;go_wp2;exact D.o _ _ ⟨by rw[l.o];cases V<;>rfl,J.o⟩
  .have d:=zh (show S=false by rw[l.o];by_cases Q:r=0<;>by_cases P:q=0<;>simp[Q,P]<;>exact absurd ⟨Q,P⟩ G);have hw:wrap64 ((r:Int)+q)=(r:Int)+q:=by have:=HL.o;unfold wrap64;omega
   have hd:((r:Int)+q==0)=false:=zO.2 zo;clear F E B l G
   go_enter func16,ntmps16
   go_wp2;exact D.o _ _ ⟨by rw[d.o];rfl,K.o⟩
theorem azU:(prog.info? 5).map (fun i=>(i.zero,i.size,i.bytes))=some (some (.int .u8 0),1,1):=by kernel_rfl
theorem WQ(l:List Int){i:Nat}(h:i<l.length):txt (l.take (i+1))=txt (l.take i)++44::Lib.itoa l[i]:=by
 unfold txt;exact qb5
theorem ET:∀(l:List Int),(∀x∈l,-9223372036854775808<=x/\x<=9223372036854775807)->(txt l).length<=22*l.length
 |[],_=>by simp[txt]
 |x::l,h=>by
  have b:=Lib.itoa_length_le x (h x zS).1 (h x zS).2;have a:=ET l fun y hy=>h y qey;have e:txt (x::l)=44::(Lib.itoa x++txt l):=by simp[txt]
  rw[e,yO,zL,yO];omega
theorem GA{m:Mem}{v:zV}{l:List Int}(h:eU m v l):∀x∈l,-9223372036854775808<=x/\x<=9223372036854775807:=by
 obtain⟨a,c,-,-,-,g⟩:=h;intro x d;obtain⟨i,hi,rfl⟩:=yX d;obtain⟨b,off,-,f⟩:=g (fun e=>by rw[e]at hi;simp at hi);exact(f i hi).2
theorem Fs(v:zV)(l:List Int)(m:Mem)(w:zW)(hm:m.ay w)(G:gD m)(hl:eU m v l)(f':l.length<=1000000):
 zX 192 #[v] w (.string ⟨(txt l).toArray⟩):=by
 obtain⟨i0,hi,E,D,C⟩:=info_parts azU;have hT:=Lib.tabBelow_of_tabIs (G.get w hm);have I:=GA hl;obtain⟨a,c,rfl,p1,q1,k1⟩:=hl;unfold maxLen at q1;have HK:=zh (zi k1 (zi hT I));have S:=zh (zi hi (zi E (zi D C)));clear k1 hT hi E D C I;have K:zB w w:=zR _ _;refine aj fun R hR=>?_
 go_enter func192,ntmps192
 go_wp2;refine av [3,6,7,8] (fun q vs r=>∃(i:Nat) (o:zV),i<=l.length/\q=l.length-i/\vs=[o,.slice a l.length c,.int .i64 (l.length:Int),.int .i64 (i:Int)] /\
  r.ownsRow w.heap.size 5 1 o (txt (l.take i)).length (Lib.byteCells (txt (l.take i)))/\zB w r) ?_ ?_
 .exact⟨_,0,_,zG _,rfl,rfl,World.ownsRow_nil _ _ _ _,K⟩
 clear K;rintro X z q vs r hX-⟨i,o,hi,rfl,rfl,hown,A⟩;simp[aX,lk];have s:=Mem_inn_below hm A;have W:=A.size;have U:=ET (l.take i) fun x u=>HK.o.2.2 x (xX u);rw[List.length_take]at U;by_cases hlt:i<l.length
 .obtain⟨b,off,rfl,Q⟩:=HK.o.1 qdX;have u:=(Q i hlt).2;have x1:=Mem_cell_w s (Q i hlt).1;have xl:=Mem_cell_lt s (Q i hlt).1;have H:=WQ l hlt;have r':=Lib.itoa_length_le l[i] u.1 u.2;have HS:=zh H;have HB:=zh A;have Z:=zh hown;generalize txt (l.take i)=B at*
  generalize l[i]=T at*
  clear Q H A hown s
  go_wp2_with (at_builtin;refine wpList_append_own _ rfl (.tmp 12) (.tmp 13) 185 rfl w.heap.size 5 i0 (.int .u8 0) 1 1 underlying185 S.o.1 S.o.2.1 S.o.2.2.1 S.o.2.2.2 rfl zD _ _ _ rfl (Z.o.alloc _) ⟨r.heap.size,0,none⟩ 1 1 [Value.int .u8 44] rfl rfl (by intro j u' y;match j,y with|0,y=>simp at y;subst y;simp[Addr.add]) (by intro u' F;simp at F;subst F;rfl) qdY zo qd4 ?_)
  intro v2 w2 n p _;have d:zB w w2:=(HB.o.alloc W _).grown p qd4 (fun k hk=>(Z.o.lt k hk).1);have h':=d.size;have M:Lib.byteCells B++[Value.int .u8 44]=Lib.byteCells (B++[44]):=by simp[Lib.byteCells]
  have L:B.length+1=(B++[44]).length:=by simp
  rw[M,L]at n;have HA:=zh (Tryz.Br w.heap.size _ T u.1 u.2 v2 _ w2 n d.size qd4 (HK.o.2.1.on d));have O:=zh d;clear Z HB n p d M L
  go_wp2_with fail
  refine HA.o.mono ?_;rintro e w3 ⟨v3,rfl,f,J,-⟩;have M:Lib.byteCells (B++[44])++Lib.byteCells (Lib.itoa T)=Lib.byteCells (txt (l.take (i+1))):=by rw[HS.o];simp[Lib.byteCells]
  have L:(B++[44]).length+(Lib.itoa T).length=(txt (l.take (i+1))).length:=by rw[HS.o];simp;omega
  rw[M,L]at f;have N:=zh (zi f (O.o.trans J));clear HA O f J M L;go_wp2;exact hX.o _ _ _ zo rfl ⟨i+1,_,zo,rfl,rfl,N.o.1,N.o.2⟩
 .obtain rfl:i=l.length:=zo;rw[yG]at hown;have HB:=zh A;obtain⟨t,ht⟩:∃t,t=txt l:=⟨_,rfl⟩;rw[<-ht]at hown;have HT:=zh ht;clear ht A hX;rcases hown.2 with⟨rfl,Y⟩|⟨g,cap,s',rfl,-,-,-,-,-,-⟩
  .have Y:t=[]:=yM Y;subst Y;have V:(convert 185 9 (.slice none 0 0)).run prog r=.ok (.string ⟨#[]⟩) r:=by rw[run_convert_bytes_string (P:=prog) r 185 9 5 none 0 0 underlying185 underlying5 underlying9];simp[Conv.bytesToString];try rfl
   exact qdm
  .have V:=run_convert_bytes_back (P:=prog) r 185 9 5 ⟨g,0,none⟩ cap t underlying185 underlying5 underlying9 (fun j y=>hown.cells (g:=g) rfl j _ (by simp[Lib.byteCells,y]));exact qdm
def az7(m:Mem)(b o:Nat)(x:Nat):Prop:=m.cell b o=some (.int .u8 (x:Int))/\x<256
def SI(m:Mem)(v:zV)(l:List Nat):Prop:=Mem.qc (az7 m) v l
theorem WN{m m':Mem}(h:m.le m'){v:zV}{l:List Nat}(k:SI m v l):SI m' v l:=Mem_slice1_mono k fun _ _ _ k=>⟨Mem_cell_le h k.1,k.2⟩
theorem KZ{w:zW}{t:TypeId}{v:zV}{l:List Nat}{m:Mem}(d:w.ownsRow 0 t 1 v l.length (l.map fun x:Nat=>Value.int .u8 (x:Int)))(f:∀x∈l,x<256):SI (m.iw w v) v l:=by
 have h:=ku (R:=fun b o x=>az7 (m.iw w v) b o x) d fun g j i h=>⟨iK d j m qeR,f _ (zF h)⟩;obtain⟨a,c,s,r,q,p⟩:=h;exact⟨a,c,s,r,q,fun e=>by
  obtain⟨b,off,n,k⟩:=p e;exact⟨b,off,n,fun i hi=>by have:=k i hi;rwa [Nat.mul_one]at this⟩⟩
def Ud(c:St)(v:List Int)(k b:Nat):Prop:=b=0\/∃i,∃h:i<c.2.length,i<k/\Hf (mK (c.2[i]).1 (v.getD i (-1))) b
def WV(c:St)(v:List Int)(k b:Nat):Prop:=Ud c v c.2.length b\/∃i,∃h:i<c.1.length,i<k/\Ze (c.1[i]).1.1.data.toList (v.getD (c.2.length+i) (-1)) b
theorem Uc{c:St}{v:List Int}{k:Nat}(h:k<c.2.length)(b:Nat):Ud c v (k+1) b↔Ud c v k b\/Hf (mK (c.2[k]).1 (v.getD k (-1))) b:=by
 constructor
 .rintro(d|⟨i,hi,f,a⟩)
  .exact .inl (.inl d)
  .by_cases e:i=k
   .subst e;exact .inr a
   .exact .inl (.inr ⟨i,hi,zo,a⟩)
 .rintro((d|⟨i,hi,f,a⟩)|a)
  .exact .inl d
  .exact .inr ⟨i,hi,zo,a⟩
  .exact .inr ⟨k,h,zo,a⟩
theorem Ub{c:St}{v:List Int}{k:Nat}(h:k<c.1.length)(b:Nat):WV c v (k+1) b↔WV c v k b\/Ze (c.1[k]).1.1.data.toList (v.getD (c.2.length+k) (-1)) b:=by
 constructor
 .rintro(d|⟨i,hi,f,a⟩)
  .exact .inl (.inl d)
  .by_cases e:i=k
   .subst e;exact .inr a
   .exact .inl (.inr ⟨i,hi,zo,a⟩)
 .rintro((d|⟨i,hi,f,a⟩)|a)
  .exact .inl d
  .exact .inr ⟨i,hi,zo,a⟩
  .exact .inr ⟨k,h,zo,a⟩
theorem Ua(c:St)(v:List Int)(b:Nat):WV c v 0 b↔Ud c v c.2.length b:=⟨fun h=>h.elim id fun⟨i,_,a,_⟩=>absurd a (xY i),.inl⟩
theorem WU(c:St)(v:List Int)(b:Nat):WV c v c.1.length b↔I4 c v b:=by
 constructor
 .rintro((h|⟨i,hi,-,a⟩)|⟨i,hi,-,a⟩)
  .exact .inl h
  .exact .inr (.inl ⟨i,hi,a⟩)
  .exact .inr (.inr ⟨i,hi,a⟩)
 .rintro(h|⟨i,hi,a⟩|⟨i,hi,a⟩)
  .exact qcK
  .exact .inl (.inr ⟨i,hi,hi,a⟩)
  .exact .inr ⟨i,hi,hi,a⟩
theorem VJ{es:List Ed}{j:Nat}(h:j<es.length)(b:Nat):Hf (es.take (j+1)) b↔Hf (es.take j) b\/kD es[j] b:=qW h b
theorem Kn(l:aC)(k:Nat)(h:k<l.length):mK l (k:Int)=(l[k]).aH:=by
 unfold mK;rw[zJ zo];simp[h]
noncomputable def marked(P:Nat->Prop)(q:Nat):List Nat:=(List.range q).filter fun b=>tf (P b)
theorem Od(P:Nat->Prop)(n:Nat):marked P (n+1)=marked P n++if tf (P n)then[n]else[]:=by
 unfold marked;rw[List.range_succ,List.filter_append]
 congr 1
 cases h:tf (P n)<;>simp[h]
theorem JW(P:Nat->Prop)(n:Nat):∀x∈marked P n,x<n:=fun x a=>by
 simp only[marked,xR,yQ]at a;exact a.1
theorem UR(P:Nat->Prop)(n:Nat):(marked P n).length<=n:=yJ (vB _ _) zS
theorem QS{P:Nat->Prop}{n x:Nat}:x∈marked P n↔x<n/\P x:=by simp[marked,Ap]
theorem az8:gz prog 185 5 1 1:=⟨underlying185,zo,by
 obtain⟨i,d,c,b,a⟩:=info_parts (P:=prog) (e:=5) (z:=.int .u8 0) (size:=1) (bytes:=1) zk;exact⟨i,_,d,c,b,a,rfl⟩⟩
theorem getD_at{v:List Int}{i:Nat}(h:i<v.length):v.getD i (-1)=v[i]:=by simp[h]
theorem bzI:o7 prog 175 257:=⟨Tryz.isAgg175,Tryz.sizeOf175⟩
theorem IX(u u' va:zV)(c:St)(v:List Int)(m:Mem)(n:Nat)(w:zW)(hm:m.ay w)(h1:iy (bG m n) m u c.1)(E:gX (bG m n) m u' c.2)(hv:eU m va v)(hV:Af (fO c) v)(H:∀k∈c.2,WF k.1):
 zC 194 #[.agg #[u,u'],va] w fun e w'=>∃r,e=.returned r/\zB w w'/\SI (m.grow w w') r (marked (I4 c v) 256):=by
 have hS:=StV.of hV;have HVL:=zh hS.len;obtain⟨a1,c1,rfl,p1,q1,k1⟩:=h1;obtain⟨a2,c2,rfl,p2,q2,k2⟩:=E;obtain⟨a3,c3,rfl,p3,q3,k3⟩:=hv;unfold maxLen at q1 q2 q3;have HR:=zh (zi hS.azI hS.azJ);have HK:=zh qfO;have HW:=zh (fun i (h:i<c.2.length)=>H c.2[i] (zF h));have Q':=zh (fun k (h:k<c.2.length) b=>Uc (v:=v) h b);have O':=zh (fun k (h:k<c.1.length) b=>Ub (v:=v) h b);have HZ:=zh (Ua c v);have HA:=zh (WU c v);have N:∀b,Ud c v 0 b↔b=0:=fun b=>⟨fun h=>h.elim id fun⟨i,_,hk,_⟩=>absurd hk (xY i),.inl⟩;have T':=zh N;have f:=(Own.start hm).al #[.slice a1 c.1.length c1,.slice a2 c.2.length c2] 45;clear hV hS k1 k2 k3 H N;generalize Ud c v=M1 at*
 generalize WV c v=M2 at*
 generalize I4 c v=K at*
 generalize c.2=g at*
 generalize c.1=B at*
 refine aj fun R hR=>?_;have hO2:=f.al zeroCells175 175;simp only[bR]at hO2;have z1:zeroCells175.size=257:=by rw[sO];simp
 have z2:∀u∈(zeroCells175.setIfInBounds 0 (.bool true)).toList,u.oneCell'=true:=fun u P=>by
  rw[sO,ma,iL]at P;simp only[kI,yD,yQ]at P;obtain⟨b,-,rfl⟩:=P;rfl
 have HO2:=zh (zi hO2 z2);have z3:(zeroCells175.setIfInBounds 0 (.bool true)).size=257:=by simp[z1]
 clear f hO2 z2
 go_enter func194,ntmps194
 go_wp2_with (refine aM bzI rfl (.tmp 5) (.tmp 15) rfl (cs:=zeroCells175.setIfInBounds 0 (.bool true)) rfl rfl z1 z3 HO2.o.2 HO2.o.1.obj ?_)
 intro w0 k' o';have f:=HO2.o.1.bN k' o';rw[sO,ma,iL,dF (P':=M1 0) (by intro b _;rw[T'.o];simp)]at f;have g0:=f.au.obj.c 0;have g1:=f.au.obj.c 1;have Z:=f.au.obj.lt;have HO:=zh f;clear HO2 k' o' f z1 z3;go_wp2;refine av [1,2,5,17,18,19] (fun q F V=>∃(i:Nat),i<=g.length/\q=g.length-i/\F=[.slice a3 v.length c3,.pointer (some ⟨w.heap.size,0,none⟩),.pointer (some ⟨w.heap.size+1,0,none⟩),.slice a2 g.length c2,.int .i64 (g.length:Int),.int .i64 (i:Int)] /\
  Own w m V m [.obj (w.heap.size+1) 175 (kI (M1 i) 257),.obj w.heap.size 45 #[.slice a1 B.length c1,.slice a2 g.length c2]]) ?_ ?_
 .exact qbj
 clear HO g0 g1 Z;rintro X z q F V hX-⟨i,hi,rfl,rfl,f⟩;simp[aX,lk];have g0:=f.au.obj.c 0;have g1:=f.au.obj.c 1;have Z:=f.au.obj.lt;by_cases hlt:i<g.length
 .obtain⟨b,off,rfl,h4⟩:=HK.o.2.1 qdX;obtain⟨kc,x,y,n',J,W,hy⟩:=(h4 i hlt).cells;obtain⟨b3,O,rfl,h5⟩:=HK.o.2.2 qd8;have t:i<v.length:=by have:=HVL.o;omega
  have I:=(h5 i t).1;have q':=Mem_cell_lt f.ay (J 0 _ rfl);have HC:=zh (fun j u hj=>Mem_cell_w f.ay (J j u hj));have E:=pg n' W hy;have hl2:(qN g[i] kc x y).length=19:=rfl;have H0:(qN g[i] kc x y).toArray[0]?=some kc:=rfl;have I':=HR.o.1 i hlt t;have HS:=zh (Q'.o i hlt);have U:∀z:Int,z<0->mK g[i].1 z=[]:=fun z hz=>by unfold mK;rw[zK hz]
  have H:=HW.o i hlt;rw[getD_at t]at HS;have HQ:=zh (zi U H);have HO:=zh (f.al Ww 61);obtain⟨ta,tc,rfl,t1,t2,t3⟩:=n';unfold maxLen at t2;have HT:=zh t3;generalize qN g[i] _ x y=M at*
  generalize v[i]=G at*
  generalize g[i].1=T at*
  clear f W hy J h4 h5 t3 U H
  go_wp2_with (first
   |refine ae uX rfl (.tmp 22) rfl rfl M hl2 HC.o ?_
   | refine aM uX rfl (.tmp 7) (.tmp 23) rfl (cs:=M.toArray) rfl rfl rfl qd5 (fun u P=>E u P) HO.o.obj ?_)
  intro w1 p s;have a:=HO.o.bN p s;have gb:=p.cell H0;have s':=a.obj.lt;have x1:=Mem_cell_w a.ay I;have xl:=Mem_cell_lt a.ay I;have A:=zh a.tail;by_cases S:G<0
  .have hd:decide (G<0)=true:=zN S;have ha:=HQ.o.1 G S;rw[ha]at HS;have HO2:=A.o;rw[dF (P':=M1 (i+1)) (by intro b _;rw[HS.o];simp[Hf])]at HO2;have HO2:=zh HO2;clear a HO p s HC I ha HQ HS A;exact qbv
  .obtain⟨k,rfl⟩:=zT (by omega:0<=G);have hkt:k<T.length:=zo;obtain⟨tb,to,rfl,t4⟩:=HT.o qeB;obtain⟨s1,ve,s2,ea,ec,rfl,e4,e5,e6⟩:=t4 k hkt;have y1:=Mem_cell_w a.ay s2;have yl:=Mem_cell_lt a.ay s2;have m':=gq (HQ.o.2 T[k] (zF hkt));rw[Kn T k hkt]at HS;have R':=zh m';have S':=zh e6;unfold maxLen at e5;have hd:decide ((k:Int)<0)=false:=zM zo;generalize T[k].aH=es at*
   clear a HO p s HC I s1 s2 t4 HQ m' e6;go_wp2
   go_quiet (fail)
   go_wp2;refine av [1,2,5,17,18,19,38,39,40] (fun q F w2=>∃(j:Nat),j<=es.length/\q=es.length-j/\F=[.slice (some ⟨b3,O,none⟩) v.length c3,.pointer (some ⟨w.heap.size,0,none⟩),.pointer (some ⟨w.heap.size+1,0,none⟩),.slice (some ⟨b,off,none⟩) g.length c2,.int .i64 (g.length:Int),.int .i64 (i:Int),.slice ea es.length ec,.int .i64 (es.length:Int),.int .i64 (j:Int)] /\
    Own w m w2 m [.obj (w.heap.size+1) 175 (kI (fun b=>M1 i b\/Hf (es.take j) b) 257),.obj w.heap.size 45 #[.slice a1 B.length c1,.slice (some ⟨b,off,none⟩) g.length c2]]) ?_ ?_
   .refine⟨_,0,zG _,rfl,rfl,?_⟩;have:=A.o;rw[dF (P':=fun b=>M1 i b\/Hf (es.take 0) b) (by intro b _;simp[Hf])]at this;exact this.Ep _
   clear A g0 g1 Z gb s' x1 xl y1 yl;rintro Y z2 q2 F w2 hY-⟨j,hj,rfl,rfl,hO2⟩;simp[aX,lk];by_cases hlt2:j<es.length
   .obtain⟨b',off',rfl,N⟩:=S'.o qd6;obtain⟨I,e2,e3,e4',e5',-⟩:=N j hlt2;have hle:=(R'.o es[j] (zF hlt2)).1;have d1:=Mem_cell_w hO2.ay I;have d2:=Mem_cell_w hO2.ay e2;have d3:=Mem_cell_w hO2.ay e3;have hb1:=Mem_cell_lt hO2.ay I;have s:=hO2.obj.lt;have k1:=hO2.obj.cell (iM (i:=es[j].lo) zo);have k2:=hO2.obj.cell (iM (i:=es[j].hi+1) zo);have k3:=hO2.obj.frozen es[j].lo;have k4:=hO2.obj.frozen (es[j].hi+1);have J':es[j].lo≠es[j].hi+1:=zo;have l':es[j].hi+1≠es[j].lo:=zo;have hO3:=(((hO2.set es[j].lo (.bool true)).set (es[j].hi+1) (.bool true))).al' (.cells #[.int .u8 es[j].lo,.int .u8 es[j].hi,.int .i64 es[j].to] 104);rw[iL,iL,dF (P':=fun b=>M1 i b\/Hf (es.take (j+1)) b) (by
     intro b _;rw[VJ hlt2];unfold kD;constructor
     .rintro((h|h)|h)
      .exact qdc
      .exact qcU
      .exact .inr (.inr (.inr h.symm))
     .rintro(h|h|h|h)
      .exact qcR
      .exact qcQ
      .exact .inl (.inr h.symm)
      .exact .inr h.symm)]at hO3
    have HO3:=zh hO3;clear hO3;go_wp2
    go_region
    all_goals go_wp2
    all_goals exact hY.o _ _ _ zo rfl ⟨j+1,zo,rfl,rfl,HO3.o.Ep _⟩
   .rw[dF (P':=M1 (i+1)) (by
     intro b _;rw[HS.o,xH (l:=es) (i:=j) zo])]at hO2
    exact qct
 .obtain rfl:i=g.length:=zo;rw[dF (P':=M2 0) (by intro b _;rw[HZ.o])]at f;have HO:=zh f;clear f hX;go_wp2;refine av [1,2,5,55,56,57] (fun q F V=>∃(i:Nat),i<=B.length/\q=B.length-i/\F=[.slice a3 v.length c3,.pointer (some ⟨w.heap.size,0,none⟩),.pointer (some ⟨w.heap.size+1,0,none⟩),.slice a1 B.length c1,.int .i64 (B.length:Int),.int .i64 (i:Int)] /\
   Own w m V m [.obj (w.heap.size+1) 175 (kI (M2 i) 257),.obj w.heap.size 45 #[.slice a1 B.length c1,.slice a2 g.length c2]]) ?_ ?_
  .exact qbj
  clear HO g0 g1 Z;rintro X z q F V hX-⟨i,hi,rfl,rfl,f⟩;simp[aX,lk];have g0:=f.au.obj.c 0;have g1:=f.au.obj.c 1;have Z:=f.au.obj.lt;by_cases hlt:i<B.length
  .obtain⟨b,off,rfl,h4⟩:=HK.o.1 qdX;obtain⟨x,y,J,W,hy⟩:=(h4 i hlt).cells;obtain⟨b3,O,rfl,h5⟩:=HK.o.2.2 qd8;have t:g.length+i<v.length:=by have:=HVL.o;omega
   have I:=(h5 (g.length+i) t).1;have q':=Mem_cell_lt f.ay (J 0 _ rfl);have HC:=zh (fun j u hj=>Mem_cell_w f.ay (J j u hj));have E:=pF W hy;have hl2:(qU B[i] x y).length=20:=rfl;have H0:(qU B[i] x y).toArray[0]?=some (.string B[i].1.1):=rfl;have I':=HR.o.2 i hlt t;have H':=(h4 i hlt).sz;have HS:=zh (O'.o i hlt);rw[getD_at t]at HS;have hwb:=f.obj.lt;have HO:=zh (f.al Wx 58);unfold maxLen at H';generalize qU B[i] x y=M at*
   generalize v[g.length+i]=G at*
   generalize B[i].1.1=d at*
   clear f W hy J h4 h5
   go_wp2_with (first
    |refine ae uY rfl (.tmp 60) rfl rfl M hl2 HC.o ?_
    | refine aM uY rfl (.tmp 11) (.tmp 61) rfl (cs:=M.toArray) rfl rfl rfl qd5 (fun u P=>E u P) HO.o.obj ?_)
   intro w1 p s;have a:=HO.o.bN p s;have g0:=a.bA.obj.c 0;have g1:=a.bA.obj.c 1;have Z:=a.bA.obj.lt;have gb:=p.cell H0;have s':=a.obj.lt;have x1:=Mem_cell_w a.ay I;have xl:=Mem_cell_lt a.ay I;have a:=a.tail;have A:=zh a;clear HO p s HC I;by_cases D:0<=G/\G<(d.size:Int)
   .obtain⟨k,rfl⟩:=zT D.1;have hk:k<d.size:=zo;have p':decide (0<=(k:Int))=true:=zN zo;have L':decide ((k:Int)<(d.size:Int))=true:=zN zo;have P:=UInt8.toNat_lt d[k];have k1:=a.obj.cell (iM (i:=d[k].toNat) zo);have k2:=a.obj.cell (iM (i:=d[k].toNat+1) zo);have k3:=a.obj.frozen d[k].toNat;have k4:=a.obj.frozen (d[k].toNat+1);have J':d[k].toNat≠d[k].toNat+1:=zo;have l':d[k].toNat+1≠d[k].toNat:=zo;have hn2:V.heap.size≠w.heap.size+1:=zo;have hn3:w.heap.size+1≠V.heap.size:=zo;have s:=a.obj.lt;have hO3:=(a.set d[k].toNat (.bool true)).set (d[k].toNat+1) (.bool true);have L:d.data.toList[((k:Nat):Int).toNat]?=some d[k]:=by
     simp only[Int.toNat_natCast];rw[yH (by rw[Dv];exact hk)]
     rfl
    rw[iL,iL,dF (P':=M2 (i+1)) (by
     intro b _;rw[HS.o];constructor
     .rintro((h|h)|h)
      .exact .inl h
      .exact .inr ⟨zo,_,L,.inl h.symm⟩
      .exact .inr ⟨zo,_,L,.inr h.symm⟩
     .rintro(h|⟨-,u,h1,E⟩)
      .exact qcK
      .rw[L]at h1;cases h1;rcases E with E|E
       .exact .inl (.inr E.symm)
       .exact .inr E.symm)]at hO3
    have HO3:=zh hO3;clear a D HS hO3 L A;go_wp2
    go_region
    all_goals go_wp2
    all_goals exact hX.o _ _ _ zo rfl ⟨i+1,zo,rfl,rfl,HO3.o.Ep _⟩
   .have hO2:=a;rw[dF (P':=M2 (i+1)) (by
     intro b _;rw[HS.o];constructor
     .exact .inl
     .rintro(h|⟨h1,u,E,-⟩)
      .exact h
      .have:=(yB.1 E).1;rw[Dv]at this;exact absurd ⟨h1,zo⟩ D)]at hO2
    have HO2:=zh hO2;clear a hO2 A HS;by_cases h0:0<=G
    .have p':decide (0<=G)=true:=zN h0;have L':decide (G<(d.size:Int))=false:=zM fun h=>D ⟨h0,h⟩;clear D;exact qbv
    .have p':decide (0<=G)=false:=zM h0;clear D;exact qbv
  .obtain rfl:i=B.length:=zo;rw[dF (P':=K) (by intro b _;rw[HA.o])]at f;have HO:=zh f;clear f hX;go_wp2;refine av [5,13,92] (fun n F w2=>∃(q:Nat) (r:zV),q<=256/\n=256-q/\F=[.pointer (some ⟨w.heap.size+1,0,none⟩),r,.int .i64 (q:Int)] /\
    Own w m w2 m [.row r 5 1 (marked K q).length ((marked K q).map fun x:Nat=>Value.int .u8 (x:Int)),.obj (w.heap.size+1) 175 (kI K 257)]) ?_ ?_
   .exact⟨_,0,.slice none 0 0,zo,rfl,rfl,HO.o.bL.dL _ _⟩
   clear HO g0 g1 Z;rintro Y z2 n F w2 hY-⟨q,r,hq,rfl,rfl,hO2⟩;simp[aX,lk];by_cases hlt2:q<256
   .have k1:=hO2.au.obj.cell (iM (i:=q) zo);have hg:=hO2.au.obj.lt;have q':=UR K q;have C:=Od K q;by_cases J:K q
    .have ht:=aO J;rw[ht]at k1;rw[ht,zK rfl]at C;have Hsu:=zh C;clear C ht;have hO3:=hO2.al #[.int .u8 q] 5
     go_wp2_with (at_builtin;refine aG az8 rfl (.tmp 98) (.tmp 101) rfl r (marked K q).length ((marked K q).map fun x:Nat=>Value.int .u8 (x:Int)) rfl hO3.au.row ⟨w2.heap.size,0,none⟩ 1 1 [.int .u8 q] rfl rfl (hO3.obj.cZ rfl) qdZ qdY zo ?_)
     exact qaj
    .have ht:=aA J;rw[ht]at k1;rw[ht,zJ zS,yR]at C;have Hsu:=zh C;clear C ht;go_wp2;refine hY.o _ _ _ zo rfl ⟨q+1,r,zo,rfl,rfl,?_⟩;rw[Hsu.o];exact hO2
   .obtain rfl:q=256:=zo;have Q:=WN hO2.bJ.done (KZ (m:=m) hO2.row (fun x W=>JW K 256 x W));have Hfin:=zh (zi hO2.az Q);clear Q hO2;go_wp2;exact qai
def YB(c:St)(v:List Int)(b k:Nat):List Int:=Bc (fO c) v b k
structure AfV (c:St) (v:List Int) (b:Nat):Prop where
 len:∀k,k<=v.length->(YB c v b k).length=v.length
 zero:YB c v b 0=List.replicate v.length (-1)
 all:YB c v b v.length=eX (fO c) v b
 self:∀k,k<v.length->(YB c v b k).set k (-1)=YB c v b k
 tab:∀i (h:i<c.2.length) (hv:i<v.length),(YB c v b i).set i (bC c.2[i].1 v[i] b)=YB c v b (i+1)
 lab:∀i (h:i<c.1.length) (hv:c.2.length+i<v.length),(YB c v b (c.2.length+i)).set (c.2.length+i) (mY c.1[i].1.1.data.toList v[c.2.length+i] b)=YB c v b (c.2.length+(i+1))
theorem AfV.of{c:St}{v:List Int}(h:v.length=(fO c).length)(b:Nat):AfV c v b:=by
 have j:=FE c;have f:∀i (hi:i<c.2.length) (e:i<(fO c).length),(fO c)[i]=gH (c.2[i]).1:=fun i hi e=>by
  simp only[fO];rw[xM qeC];simp
 have g:∀i (hi:i<c.1.length) (e:c.2.length+i<(fO c).length),(fO c)[c.2.length+i]=su (c.1[i]).1.1.data.toList:=fun i hi e=>by
  simp only[fO];rw[List.getElem_append_right zS];simp
 refine⟨fun k d=>Yq h.symm b d,Wn _ _ _,Yr h.symm b,fun k d=>?_,fun i hi a=>?_,fun i hi a=>?_⟩
 .show(Bc _ _ _ _).set _ _=Bc _ _ _ _;rw[PD h.symm b d];unfold Bc;rw[show v.length-k=(v.length-(k+1))+1 by omega,List.replicate_succ]
 .have:=KE h.symm b a;rw[f i hi]at this;exact this
 .have:=KE h.symm b a;rw[g i hi]at this;rw[<-Nat.add_assoc];exact this
def nR(l:List Int):List Value:=l.map (Value.int .i64)
theorem AU(l:List Int)(i:Nat)(x:Int):(nR l).set i (.int .i64 x)=nR (l.set i x):=by simp[nR,List.map_set]
theorem AV{l:List Int}{i:Nat}(h:i<l.length):(nR l)[i]?=some (.int .i64 l[i]):=by simp[nR,h]
theorem azo:IG prog 180 3 8 (.int .i64 0):=⟨underlying180,zk,rfl⟩
theorem XL(n i:Nat)(h:i<n):(List.replicate i (-1:Int)++List.replicate (n-i) 0).set i (-1)=List.replicate (i+1) (-1)++List.replicate (n-(i+1)) 0:=by
 rw[List.set_append_right _ _ zS,List.length_replicate,Nat.sub_self,show n-i=(n-(i+1))+1 by omega,List.replicate_succ,List.set_cons_zero,List.replicate_succ',xD]
 rfl
theorem TM(l:aC)(k:Nat)(h:k<l.length)(a:WF l)(b:Nat):bC l (k:Int) b=oZ b (l[k]).aH (-1):=by
 rw[<-UX a,Kn l k h]
theorem KY(u u' va:zV)(c:St)(v:List Int)(g:Nat)(m:Mem)(n:Nat)(w:zW)(hm:m.ay w)(h1:iy (bG m n) m u c.1)(h2:gX (bG m n) m u' c.2)(hv:eU m va v)(hV:Af (fO c) v)(F:∀k∈c.2,WF k.1)(_:g<256)(hvl:v.length<=1000000)(q':∀x∈eX (fO c) v g,-9223372036854775808<=x/\x<=9223372036854775807):
 zC 195 #[.agg #[u,u'],va,.int .u8 g] w fun e w'=>∃r,e=.returned r/\zB w w'/\eU (m.grow w w') r (eX (fO c) v g):=by
 have hS:=StV.of hV;have Z:=AfV.of hV.len g;have HVL:=zh hS.len;obtain⟨a1,c1,rfl,p1,q1,k1⟩:=h1;obtain⟨a2,V,rfl,p2,q2,k2⟩:=h2;obtain⟨a3,c3,rfl,p3,q3,k3⟩:=hv;unfold maxLen at q1 q2 q3;have HR:=zh (zi hS.azI hS.azJ);have HK:=zh qfO;have HW:=zh (fun i (h:i<c.2.length)=>F c.2[i] (zF h));have g':=zh Z.len;have X':=zh Z.zero;have z':=zh Z.all;have y':=zh Z.self;have Y':=zh Z.tab;have Z':=zh Z.lab;have V':=zh q';have d:=(Own.start hm).al #[.slice a1 c.1.length c1,.slice a2 c.2.length V] 45;have HO:=zh d;clear hV hS Z k1 k2 k3 F d q';generalize YB c v g=O at*
 generalize eX (fO c) v g=VS at*
 generalize c.2=f at*
 generalize c.1=B at*
 refine aj fun R hR=>?_
 go_enter func195,ntmps195
 go_wp2_with (refine wpList_make_row azo rfl (.tmp 18) (.tmp 18) rfl v.length rfl rfl zo qdY ?_)
 intro w1 p A;rw[<-bR w (.cells #[.slice a1 B.length c1,.slice a2 f.length V] 45)]at p;have d:=HO.o.make p A;simp only[bR]at d;have HO1:=zh d;clear HO p A d;go_wp2;refine av [1,2,3,7,21,22] (fun q I K=>∃(i:Nat),i<=v.length/\q=v.length-i/\I=[.slice a3 v.length c3,.int .u8 g,.pointer (some ⟨w.heap.size,0,none⟩),.slice (some ⟨w.heap.size+1,0,none⟩) v.length v.length,.int .i64 (v.length:Int),.int .i64 (i:Int)] /\
  Own w m K m [.row (.slice (some ⟨w.heap.size+1,0,none⟩) v.length v.length) 3 1 v.length (nR (List.replicate i (-1)++List.replicate (v.length-i) 0)),.obj w.heap.size 45 #[.slice a1 B.length c1,.slice a2 f.length V]]) ?_ ?_
 .exact⟨_,0,zG _,rfl,rfl,by simpa [nR]using HO1.o⟩
 clear HO1;rintro X z q I K hX-⟨i,hi,rfl,rfl,d⟩;simp[aX,lk];by_cases hlt:i<v.length
 .have r1:=bg d.row (AV (i:=i) qd4);have r2:=dK d.row i;have rl:=d.au.obj.lt;have hO2:=d.setRow i (.int .i64 (-1));rw[AU,XL _ _ hlt]at hO2;have HO2:=zh hO2;clear d hO2;exact qbv
 .obtain rfl:i=v.length:=zo;rw[Nat.sub_self,List.replicate_zero,yR,<-X'.o]at d;have g0:=d.au.obj.c 0;have g1:=d.au.obj.c 1;have gl:=d.au.obj.lt;have HO:=zh d;clear d hX;go_wp2;refine av [1,2,3,7,30,31,32] (fun q I K=>∃(i:Nat),i<=f.length/\q=f.length-i/\I=[.slice a3 v.length c3,.int .u8 g,.pointer (some ⟨w.heap.size,0,none⟩),.slice (some ⟨w.heap.size+1,0,none⟩) v.length v.length,.slice a2 f.length V,.int .i64 (f.length:Int),.int .i64 (i:Int)] /\
   Own w m K m [.row (.slice (some ⟨w.heap.size+1,0,none⟩) v.length v.length) 3 1 v.length (nR (O i)),.obj w.heap.size 45 #[.slice a1 B.length c1,.slice a2 f.length V]]) ?_ ?_
  .exact qbj
  clear HO g0 g1 gl;rintro X z q I K hX-⟨i,hi,rfl,rfl,d⟩;simp[aX,lk];have g0:=d.au.obj.c 0;have g1:=d.au.obj.c 1;have gl:=d.au.obj.lt;by_cases hlt:i<f.length
  .obtain⟨b,off,rfl,h4⟩:=HK.o.2.1 qdX;obtain⟨kc,x,y,s',W,hx,hy⟩:=(h4 i hlt).cells;obtain⟨b3,P,rfl,h5⟩:=HK.o.2.2 qd8;have t:i<v.length:=by have:=HVL.o;omega
   have H:=(h5 i t).1;have S':=Mem_cell_lt d.ay (W 0 _ rfl);have HC:=zh (fun j u hj=>Mem_cell_w d.ay (W j u hj));have h2:=pg s' hx hy;have hl2:(qN f[i] kc x y).length=19:=rfl;have H0:(qN f[i] kc x y).toArray[0]?=some kc:=rfl;have M':=HR.o.1 i hlt t;have F:=HW.o i hlt;have HS:=zh (Y'.o i hlt t);have G:=zh (zi (y'.o i t) (g'.o i zo));have HQ:=zh (zi (fun z (hz:z<0)=>jT (l:=f[i].1) hz g) (zi (fun(k:Nat) (hk:k<f[i].1.length)=>TM f[i].1 k hk F g) F));have HO:=zh (d.al Ww 61);obtain⟨ta,tc,rfl,t1,t2,t3⟩:=s';unfold maxLen at t2;have HT:=zh t3;generalize qN f[i] _ x y=M at*
   generalize v[i]=E at*
   generalize f[i].1=T at*
   clear d hx hy W h4 h5 t3 F
   go_wp2_with (first
    |refine ae uX rfl (.tmp 35) rfl rfl M hl2 HC.o ?_
    | refine aM uX rfl (.tmp 10) (.tmp 36) rfl (cs:=M.toArray) rfl rfl rfl qe5 (fun u hu=>h2 u hu) HO.o.obj ?_)
   intro w1 p A;have a:=HO.o.bN p A;have gb:=p.cell H0;have x':=a.obj.lt;have x1:=Mem_cell_w a.ay H;have xl:=Mem_cell_lt a.ay H;have HO1:=zh a.tail;by_cases S:E<0
   .have hd:decide (E<0)=true:=zN S;have C:=HS.o;rw[HQ.o.1 E S,G.o.1]at C;have e':=zh C;clear a HO p A HC H HQ HS C;go_wp2;exact hX.o _ _ _ zo rfl ⟨i+1,zo,rfl,rfl,by rw[<-e'.o];exact HO1.o⟩
   .obtain⟨k,rfl⟩:=zT (by omega:0<=E);have hkt:k<T.length:=zo;obtain⟨tb,to,rfl,t4⟩:=HT.o qeB;obtain⟨s1,ve,s2,ea,ec,rfl,e4,e5,e6⟩:=t4 k hkt;have y1:=Mem_cell_w a.ay s2;have yl:=Mem_cell_lt a.ay s2;have C:=HS.o;rw[HQ.o.2.1 k hkt]at C;have e':=zh C;have W':=zh e6;unfold maxLen at e5;have hd:decide ((k:Int)<0)=false:=zM zo;generalize T[k].aH=es at*
    clear a HO p A HC H s1 s2 t4 HQ C e6;go_wp2
    go_quiet (fail)
    go_wp2;refine av [1,2,3,7,9,30,31,32,51,52,53] (fun q I w2=>∃(j:Nat),j<=es.length/\q=es.length-j/\I=[.slice (some ⟨b3,P,none⟩) v.length c3,.int .u8 g,.pointer (some ⟨w.heap.size,0,none⟩),.slice (some ⟨w.heap.size+1,0,none⟩) v.length v.length,.int .i64 (i:Int),.slice (some ⟨b,off,none⟩) f.length V,.int .i64 (f.length:Int),.int .i64 (i:Int),.slice ea es.length ec,.int .i64 (es.length:Int),.int .i64 (j:Int)] /\
     Own w m w2 m [.row (.slice (some ⟨w.heap.size+1,0,none⟩) v.length v.length) 3 1 v.length (nR ((O i).set i (oZ g (es.take j) (-1)))),.obj w.heap.size 45 #[.slice a1 B.length c1,.slice (some ⟨b,off,none⟩) f.length V]]) ?_ ?_
    .refine⟨_,0,zG _,rfl,rfl,?_⟩;have:=HO1.o;rw[<-G.o.1]at this;exact this.Ep _
    clear HO1 g0 g1 gl gb x' x1 xl y1 yl;rintro Y z2 q2 I w2 hY-⟨j,hj,rfl,rfl,hO2⟩;simp[aX,lk];by_cases hlt2:j<es.length
    .obtain⟨b',off',rfl,v'⟩:=W'.o qd6;obtain⟨H,e2,e3,e4',e5',-⟩:=v' j hlt2;have d1:=Mem_cell_w hO2.ay H;have d2:=Mem_cell_w hO2.ay e2;have d3:=Mem_cell_w hO2.ay e3;have hb1:=Mem_cell_lt hO2.ay H;have hlen:((O i).set i (oZ g (es.take j) (-1))).length=v.length:=by rw[List.length_set];exact G.o.2
     have r1:=bg hO2.row (AV (i:=i) zo);have r2:=dK hO2.row i;have rl:=hO2.au.obj.lt;have n':w.heap.size+1<w2.heap.size:=bF.lt (hO2.ok _ (yF ..)) rfl;have r':=Ra g (-1) hlt2;have HO2:=zh (hO2.al' (.cells #[.int .u8 es[j].lo,.int .u8 es[j].hi,.int .i64 es[j].to] 104));have D:=(hO2.setRow i (.int .i64 es[j].to)).al' (.cells #[.int .u8 es[j].lo,.int .u8 es[j].hi,.int .i64 es[j].to] 104);rw[AU,List.set_set]at D;have HO3:=zh D;have HLS:=zh r';generalize es[j]=e at*
     clear hO2 v' H e2 e3 r' D;by_cases m1:e.lo<=g
     .by_cases m2:g<=e.hi
      .have hq:oZ g (es.take (j+1)) (-1)=e.to:=by rw[HLS.o,zK ⟨m1,m2⟩]
       have HQ:=zh hq;clear HLS hq;go_wp2;exact hY.o _ _ _ zo rfl ⟨j+1,zo,rfl,rfl,by rw[HQ.o];exact HO3.o⟩
      .have hq:oZ g (es.take (j+1)) (-1)=oZ g (es.take j) (-1):=by rw[HLS.o,zJ zo]
       exact qcc
     .have hq:oZ g (es.take (j+1)) (-1)=oZ g (es.take j) (-1):=by rw[HLS.o,zJ zo]
      exact qcc
    .rw[xH (l:=es) (i:=j) zo,e'.o]at hO2;exact qct
  .obtain rfl:i=f.length:=zo;have HO:=zh d;clear d hX;go_wp2;refine av [1,2,3,7,75,76,77] (fun q I K=>∃(i:Nat),i<=B.length/\q=B.length-i/\I=[.slice a3 v.length c3,.int .u8 g,.pointer (some ⟨w.heap.size,0,none⟩),.slice (some ⟨w.heap.size+1,0,none⟩) v.length v.length,.slice a1 B.length c1,.int .i64 (B.length:Int),.int .i64 (i:Int)] /\
    Own w m K m [.row (.slice (some ⟨w.heap.size+1,0,none⟩) v.length v.length) 3 1 v.length (nR (O (f.length+i))),.obj w.heap.size 45 #[.slice a1 B.length c1,.slice a2 f.length V]]) ?_ ?_
   .exact qbj
   clear HO g0 g1 gl;rintro X z q I K hX-⟨i,hi,rfl,rfl,d⟩;simp[aX,lk];have g0:=d.au.obj.c 0;have g1:=d.au.obj.c 1;have gl:=d.au.obj.lt;by_cases hlt:i<B.length
   .obtain⟨b,off,rfl,h4⟩:=HK.o.1 qdX;obtain⟨x,y,W,hx,hy⟩:=(h4 i hlt).cells;obtain⟨b3,P,rfl,h5⟩:=HK.o.2.2 qd8;have t:f.length+i<v.length:=by have:=HVL.o;omega
    have H:=(h5 (f.length+i) t).1;have S':=Mem_cell_lt d.ay (W 0 _ rfl);have HC:=zh (fun j u hj=>Mem_cell_w d.ay (W j u hj));have h2:=pF hx hy;have hl2:(qU B[i] x y).length=20:=rfl;have H0:(qU B[i] x y).toArray[0]?=some (.string B[i].1.1):=rfl;have M':=HR.o.2 i hlt t;have L':=(h4 i hlt).sz;have HS:=zh (Z'.o i hlt t);have G:=zh (zi (y'.o (f.length+i) t) (g'.o (f.length+i) zo));have n':w.heap.size+1<K.heap.size:=bF.lt (d.ok _ (yF ..)) rfl;have HO:=zh (d.al Wx 58);unfold maxLen at L';generalize qU B[i] x y=M at*
    generalize v[f.length+i]=E at*
    generalize B[i].1.1=s at*
    clear d hx hy W h4 h5
    go_wp2_with (first
     |refine ae uY rfl (.tmp 80) rfl rfl M hl2 HC.o ?_
     | refine aM uY rfl (.tmp 14) (.tmp 81) rfl (cs:=M.toArray) rfl rfl rfl qe5 (fun u hu=>h2 u hu) HO.o.obj ?_)
    intro w1 p A;have a:=HO.o.bN p A;have g0:=a.bA.obj.c 0;have g1:=a.bA.obj.c 1;have gl:=a.bA.obj.lt;have gb:=p.cell H0;have x':=a.obj.lt;have x1:=Mem_cell_w a.ay H;have xl:=Mem_cell_lt a.ay H;have a:=a.tail;have r1:=bg a.row (AV (l:=O (f.length+i)) (i:=f.length+i) (by rw[G.o.2];exact t));have r2:=dK a.row (f.length+i);have n':w.heap.size+1<w1.heap.size:=bF.lt (a.ok _ (yF ..)) rfl;have D:=a.setRow (f.length+i) (.int .i64 (E+1));rw[AU]at D;have HO3:=zh D;have HO1:=zh a;have U:∀(_:¬(0<=E/\(s.data.toList[E.toNat]?).map (·.toNat)=some g)),O (f.length+(i+1))=O (f.length+i):=fun h=>by
     rw[<-HS.o,show mY s.data.toList E g = -1 by unfold mY;rw[zJ h]];exact G.o.1
    have HN:=zh U;clear HO p A HC H a D U;by_cases h0:0<=E
    case neg=>
     have R':decide (0<=E)=false:=zM h0;have HE:=zh (HN.o fun h=>h0 h.1);clear HN HS;exact qbG
    have R':decide (0<=E)=true:=zN h0;by_cases h3:E<(s.size:Int)
    case neg=>
     have Q':decide (E<(s.size:Int))=false:=zM h3;have HE:=zh (HN.o fun h=>by
      obtain⟨u,h5,-⟩:=Option.map_eq_some_iff.1 h.2;have:=(yB.1 h5).1;rw[Dv]at this;omega)
     clear HN HS;exact qbG
    obtain⟨k,rfl⟩:=zT h0;have hk:k<s.size:=zo;have Q':decide ((k:Int)<(s.size:Int))=true:=zN zo;have L:s.data.toList[((k:Nat):Int).toNat]?=some s[k]:=by
     simp only[Int.toNat_natCast];rw[yH (by rw[Dv];exact hk)]
     rfl
    by_cases N:s[k].toNat=g
    .have P':((s[k].toNat:Int)==(g:Int))=true:=beq_iff_eq.2 zo;have hE:O (f.length+(i+1))=(O (f.length+i)).set (f.length+i) ((k:Int)+1):=by
      rw[<-HS.o]
      congr 1
      unfold mY;rw[zK ⟨zo,by rw[L];simp[N]⟩]
     have HE:=zh hE;clear HN HS hE L N;go_wp2;exact hX.o _ _ _ zo rfl ⟨i+1,zo,rfl,rfl,by rw[HE.o];exact HO3.o⟩
    .have P':((s[k].toNat:Int)==(g:Int))=false:=zO.2 zo;have HE:=zh (HN.o fun h=>by
      have:=h.2;rw[L]at this;simp at this;exact N this)
     clear HN HS L N;exact qbG
   .obtain rfl:i=B.length:=zo;rw[<-HVL.o,z'.o]at d;have N':VS.length=v.length:=by rw[<-z'.o];exact g'.o _ (zI _)
    have J:=d.row;rw[show(nR VS)=VS.map (Value.int .i64) from rfl]at J;have Q:=fH d.bJ.done (dS (m:=m) (l:=VS) (by rw[N'];exact J) V'.o);have HF:=zh (zi d.az Q);clear d J Q hX;exact qaI
def nC(m:Mem)(b:List Value)(a:List (List Int)):Prop:=b.length=a.length/\∀i (d:i<b.length) (c:i<a.length),eU m b[i] a[i]
theorem nC.le{m m':Mem}{b:List Value}{a:List (List Int)}(h:nC m b a)(k:m.le m'):nC m' b a:=⟨h.1,fun i d c=>fH k (h.2 i d c)⟩
theorem nC.push{m:Mem}{b:List Value}{a:List (List Int)}(h:nC m b a){x:zV}{l:List Int}(d:eU m x l):nC m (b++[x]) (a++[l]):=by
 refine⟨by simp[h.1],fun i f g=>?_⟩;by_cases c:i<b.length
 .rw[xM c,xM (by rw[<-h.1];exact c)];exact h.2 i c _
 .have e:i=b.length:=by simp at f;omega
  subst e;simp[h.1,d]
theorem nC.pop{m:Mem}{c:List Value}{a:List (List Int)}(h:nC m c a)(f:a≠[]):∃b x todo' l,c=b++[x]/\a=todo'++[l]/\nC m b todo'/\eU m x l:=by
 have d:c≠[]:=fun e=>f (xJ.1 (by rw[<-h.1,e];rfl));have j:=(List.dropLast_concat_getLast d).symm;have g:=(List.dropLast_concat_getLast f).symm;generalize c.dropLast=b at j;generalize c.getLast d=x at j;generalize a.dropLast=todo' at g;generalize a.getLast f=l at g;subst j g;have k:b.length=todo'.length:=by have:=h.1;simpa using this
 refine⟨b,x,todo',l,rfl,rfl,⟨k,fun i o n=>?_⟩,?_⟩
 .have:=h.2 i qd4 qd4
  rwa [xM o,xM n]at this
 .have:=h.2 b.length zS qd4;simpa [k]using this
theorem Own.azL{w0 w:zW}{m mk:Mem}{L:List bF}{g k cap size:Nat}{t:TypeId}{xs last:List Value}(h:Own w0 m w mk (.row (.slice (some ⟨g,0,none⟩) (k+1) cap) t size (k+1) (xs++last)::L))(a:xs.length=k*size):
 Own w0 m w mk (.row (.slice (some ⟨g,0,none⟩) k cap) t size k xs::L):=
 h.app (ownsRow_pop a h.row) (World.grownBy.refl _ _) (N:=w.heap.size) (fun _ b=>.inl b) (zI _)
theorem rU{w:zW}{base:Nat}{e:TypeId}{size k:Nat}{v:zV}{xs:List Value}(h:w.ownsRow base e size v (k+1) xs):∃g cap,v=.slice (some ⟨g,0,none⟩) (k+1) cap/\k+1<=cap:=by
 rcases h.2 with⟨-,a⟩|⟨g,cap,c,a,-,-,b,-⟩
 .omega
 .exact⟨g,cap,a,b⟩
theorem Wv(w:zW):(zeroValue 4).run prog w=.ok (.bool false) w:=by kernel_rfl
theorem azz:gz prog 181 180 1 24:=⟨underlying181,zo,by
 obtain⟨i,d,c,b,a⟩:=info_parts (show(prog.info? 180).map (fun i=>(i.zero,i.size,i.bytes))=some (some (.slice none 0 0),1,24)by kernel_rfl);exact⟨i,_,d,c,b,a,rfl⟩⟩
structure VSt (c:St) (seen todo:List (List Int)) (P:List Int->Prop) (ob:Obj):Prop where
 s:Bd (fO c) seen todo P
 map:∃f,EP prog 9 4 ob seen.length f/\uF f seen
 le:todo.length<=seen.length
theorem Fw(u u':zV)(c:St)(m:Mem)(n:Nat)(w:zW)(hm:m.ay w)(O':gD m)(h1:iy (bG m n) m u c.1)(P:gX (bG m n) m u' c.2)(l1:c.1.length<=6)(l2:c.2.length<=6)(l3:∀f∈c.1,f.1.1.size<=40)(l4:∀k∈c.2,jM k.1):
 zX 154 #[.agg #[u,u']] w (.bool (tf (eZ c))):=by
 have h1':=h1;have h2':=P;obtain⟨a1,c1,rfl,p1,q1,k1⟩:=h1;obtain⟨a2,c2,rfl,p2,q2,k2⟩:=P;unfold maxLen at q1 q2;have HA:=zh (zi h1' h2');have HK:=zh k2;have HT:=zh (fun i (h:i<c.2.length)=>(l4 c.2[i] (zF h)).2);have HE:=zh (oo c);have HF:=zh (zi l3 l4);have HTM:=zh O';have t:=(Own.start hm).al #[.slice a1 c.1.length c1,.slice a2 c.2.length c2] 45;have HO:=zh t;have HL:=zh (zi l1 l2);have hl1:c.1.length<=6:=l1;have hl2:c.2.length<=6:=l2;clear t h1' h2' k1 k2 l3 l4 O' l1 l2;refine aj fun R hR=>?_
 go_enter func154,ntmps154
 go_wp2;refine av [1,13,14,15] (fun q vs wr=>∃(i:Nat),i<=c.2.length/\q=c.2.length-i/\vs=[.pointer (some ⟨w.heap.size,0,none⟩),.slice a2 c.2.length c2,.int .i64 (c.2.length:Int),.int .i64 (i:Int)]/\(∀j (hj:j<c.2.length),j<i->dG c.2[j].1/\c.2[j].1≠[]) /\
  Own w m wr m [.obj w.heap.size 45 #[.slice a1 c.1.length c1,.slice a2 c.2.length c2]]) ?_ ?_
 .exact qbZ
 clear HO;rintro X z q vs wr hX-⟨i,hi,rfl,rfl,hV,t⟩;simp[aX,lk];have HV:=zh hV;clear hV;by_cases hlt:i<c.2.length
 .obtain⟨b,off,rfl,h4⟩:=HK.o qdX;obtain⟨kc,x,y,hks,hc,K,hy⟩:=(h4 i hlt).cells;have htl:=HT.o i hlt;have E':=Mem_cell_lt t.ay (hc 0 _ rfl);have HC:=zh (fun j u hj=>Mem_cell_w t.ay (hc j u hj));have P:=pg hks K hy;have Q':(qN c.2[i] kc x y).length=19:=rfl;have H0:(qN c.2[i] kc x y).toArray[0]?=some kc:=rfl;have HVA:=zh (fun(w':zW) (h:m.ay w')=>wR kc c.2[i].1 m w' h HTM.o hks zo);have G':=zh (show ∀j (hj:j<c.2.length),j<i+1->(dG c.2[i].1/\c.2[i].1≠[])->dG c.2[j].1/\c.2[j].1≠[] from fun j hj h1 P=>by
   by_cases e:j=i
   .subst e;exact P
   .exact HV.o j hj zo)
  have I:=zh (show ¬(dG c.2[i].1/\c.2[i].1≠[])->¬eZ c from fun h k=>h ((HE.o.1 k).1 _ (zF hlt)));have HO:=zh (t.al Ww 61);obtain⟨ta,tc,rfl,t1,t2,t3⟩:=hks;unfold maxLen at t2;generalize qN c.2[i] _ x y=M at*
  generalize c.2[i].1=T at*
  clear t K hy hc h4 t3
  go_wp2_with (first
   |refine ae uX rfl (.tmp 17) rfl rfl M Q' HC.o ?_
   | refine aM uX rfl (.tmp 4) (.tmp 18) rfl (cs:=M.toArray) rfl rfl rfl (by simpa using Q') (fun u hu=>P u hu) HO.o.obj ?_)
  intro w1 A' hg1;have D:=HO.o.bN A' hg1;have gb:=A'.cell H0;have gbl:=D.obj.lt;have H':=zh (HVA.o w1 D.ay);have K':=zh D.tail;clear HO HC HVA D;by_cases h0:T.length=0
  .have hd:((T.length:Int)==0)=true:=beq_iff_eq.2 zo;have HB:=zh K'.o.az;have HR:=zh (I.o fun h=>h.2 (xJ.1 h0));clear K' H' I G' h0;exact qdR
  .have hd:((T.length:Int)==0)=false:=zO.2 zo;have a':T≠[]:=fun e=>h0 qew;have HNE:=zh a';clear h0 a';have Z:=H'.o;by_cases b':dG T
   .have HNX:=zh (fun j hj h=>G'.o j hj h ⟨b',HNE.o⟩);rw[aO b']at Z;have q':=zh Z;clear G' I b' HNE H' Z A' hg1
    go_wp2_with (go_at_call 157;refine q'.o.mono ?_;rintro e w4 ⟨rfl,B⟩)
    exact hX.o _ _ _ zo rfl ⟨i+1,zo,rfl,rfl,HNX.o,K'.o.aP B⟩
   .have HR:=zh (I.o fun h=>b' h.1);rw[aA b']at Z;have q':=zh Z;clear G' I b' HNE H' Z A' hg1
    go_wp2_with (go_at_call 157;refine q'.o.mono ?_;rintro e w4 ⟨rfl,B⟩)
    exact hR.o _ _ ⟨by rw[aA HR.o]<;>rfl,(K'.o.aP B).az⟩
 obtain rfl:i=c.2.length:=zo;have C:∀k∈c.2,dG k.1/\k.1≠[]:=fun k hk=>by
  obtain⟨j,hj,rfl⟩:=yX hk;exact HV.o j hj hj
 have hok:=YS C;have HOK:=zh hok;have HWF:=zh (fun k (hk:k∈c.2)=>(C k hk).1.wf);have s':=zh (fun(l:List (List Int)) (h1:l.Nodup) (P:∀v∈l,kF (fO c) v)=>XN C HL.o.1 HL.o.2 HF.o.1 HF.o.2 h1 P);have HFC:=zh (VA HF.o.1 HF.o.2);have HEE:=zh (show eZ c↔sH (fO c) from HE.o.trans ⟨fun h=>h.2,fun h=>⟨C,h⟩⟩);have E':=FE c;have W:ib (fO c)=List.replicate (c.2.length+c.1.length) 0:=by rw[<-E',ib,List.map_const']
 have F':=zh W;have g0:=t.obj.c 0;have g1:=t.obj.c 1;have gl:=t.obj.lt;have HO:=zh t;clear t hX HV C hok W HE HT HK
 go_wp2_with (refine wpList_make_row azo rfl (.tmp 37) (.tmp 37) rfl (c.2.length+c.1.length) rfl rfl zo qdY ?_)
 intro w1 i' U;have D:=HO.o.make i' U;rw[show List.replicate (c.2.length+c.1.length) (Value.int .i64 0)=nR (ib (fO c))by rw[F'.o];simp[nR]]at D;have B':(ib (fO c)).length=c.2.length+c.1.length:=by rw[F'.o];simp
 have Y':=dS (m:=m) (l:=ib (fO c)) (by rw[B'];exact D.row) (fun x K=>by rw[F'.o]at K;rw[List.eq_of_mem_replicate K];omega);have j':=Mem_le_addv (w:=w1) D.free;have N:=D.bJ;generalize m.iw w1 _=V' at*
 have o':=N.make (World.ownsRow_lit (base:=0) (e:=180) (size:=1) w1 #[(.slice (some ⟨wr.heap.size,0,none⟩) (c.2.length+c.1.length) (c.2.length+c.1.length))] 1 (zG _) qdY rfl) (World.grownBy_alloc w1 (.cells #[(.slice (some ⟨wr.heap.size,0,none⟩) (c.2.length+c.1.length) (c.2.length+c.1.length))] 180) none);have n':=o'.Bb (.map #[] 0);simp only[bR]at n';have x1:=bg n'.au.row (j:=0) rfl;have xl:=(World.ownsRow.lt n'.au.row _ rfl).2;have J':=zh n';have HKC:=zh (fun(w':zW) (h:V'.ay w')=>Fs (.slice (some ⟨wr.heap.size,0,none⟩) (c.2.length+c.1.length) (c.2.length+c.1.length)) (ib (fO c)) V' w' h (HTM.o.le j') Y' (by rw[B'];omega));have HZ:=zh (zi Y' j');have HSF:=zh (Bd.first (fO c));have HLV:=zh (zi B' E');clear D N o' n' Y' j' i' U HO B' E';have hin:=J'.o.ay;generalize ib (fO c)=v0 at*
 have Hmm:=@run_makeMap prog;have htx:(txt v0).length<=maxLen:=by
  have h:=ET v0 (GA HZ.o.1);have P:=HLV.o.1;unfold maxLen;omega
 have E:=zh (Rb _ htx);clear htx
 go_wp2_with (go_at_call 192;refine(HKC.o _ hin).mono ?_;rintro e w2 ⟨rfl,hb2⟩;obtain⟨w3,o3,hr3,hob,k',hgr⟩:=(EP.made prog 9 4).wY (Maps.string_keyed underlying9) underlying183 underlying4 (J'.o.aP hb2).gQ zD E.o true)
 have hO5:=(J'.o.aP hb2).jP hob hgr;have hS0:VSt c [v0] [v0] (fun _=>False) o3:=⟨HSF.o,⟨_,k',by simpa using uF.none.put v0⟩,zI _⟩;have r':=zh (zi hO5 (zi hS0 (zi HZ.o.1 (Mem.le_trans HZ.o.2 (Mem.le_refl _)))));clear hO5 hS0 hob k' hgr hr3 hb2 J' HKC hin Hmm x1 xl;refine av [1,5,6] (fun q vs wr=>∃(A d:List (List Int)) (V:List Value) (tv:zV) (ob:Obj) (mk:Mem),VSt c A d (fun _=>False) ob/\q=2*(1400000000-A.length)+d.length/\vs=[.pointer (some ⟨w.heap.size,0,none⟩),tv,.map (some (w1.heap.size+1))]/\m.le mk/\nC mk V d /\
  Own w m wr mk [.gQ (w1.heap.size+1) ob,.row tv 180 1 d.length V,.obj w.heap.size 45 #[.slice a1 c.1.length c1,.slice a2 c.2.length c2]]) ?_ ?_
 .refine⟨_,[v0],[v0],[.slice (some ⟨wr.heap.size,0,none⟩) (c.2.length+c.1.length) (c.2.length+c.1.length)],_,o3,V',r'.o.2.1,rfl,rfl,r'.o.2.2.2,⟨rfl,fun i h1 P=>?_⟩,r'.o.1⟩
  match i,h1,P with
  |0,_,_=>exact r'.o.2.2.1
 clear r' E HZ HSF F';rintro X z q vs wr hX-⟨A,d,V,tv,ob,mk,G,rfl,rfl,p,hT,t⟩;simp[aX,lk];by_cases a':d=[]
 .subst a';have HR:=zh (HEE.o.2 G.s.once);have HB:=zh t.az;obtain⟨ta,N',rfl⟩:=aT t.au.row;clear t hT G hX;exact qbz
 obtain⟨V,xv,d,v,rfl,rfl,hT,y'⟩:=hT.pop a';rw[show(d++[v]).length=d.length+1 by simp]at t;obtain⟨g,N',rfl,hcap⟩:=rU t.au.row;have hcap0:¬N'=0:=zo;have hlt:=hT.1;have hk:d.length+1<=A.length:=by have:=G.le;simpa using this
 have hsl:=s'.o A G.s.nodup G.s.reach;have x1:=bg t.au.row (j:=d.length) (u:=xv) (by rw[<-hlt];simp);have xl:=(World.ownsRow.lt t.au.row _ rfl).2;have N:=(t.au.azL qeA).au;obtain⟨hs2,W⟩:=G.s.take (todo':=d) (v:=v) fun x=>Xl;have z':=G.s.reach v W;have L:=Af.reach HOK.o z';have hvlen:v.length<=12:=by rw[L.len,HLV.o.2];omega
 have HT:=zh (zi hT y');have HS:=zh (show VSt c A d (fun x=>x=v) ob from⟨hs2,G.map,zo⟩);have t':=zh (show iy (bG mk n) mk (.slice a1 c.1.length c1) c.1/\gX (bG mk n) mk (.slice a2 c.2.length c2) c.2 from⟨iy.le p (fun _ _=>bG.le p) HA.o.1,gX.le p (fun _ _=>bG.le p) HA.o.2⟩);have HH:=zh (fun(w':zW) (h:mk.ay w')=>MZ _ _ xv c v mk n w' h t'.o.1 t'.o.2 y' L);have HST:=zh (fun(w':zW) (h:mk.ay w')=>IX _ _ xv c v mk n w' h t'.o.1 t'.o.2 y' L HWF.o);have HV:=zh (zi L (zi z' (zi W p)));have I:=zh (fun h=>mt HEE.o.1 (NV z' h));have g0:=N.bA.obj.c 0;have g1:=N.bA.obj.c 1;have gl:=N.bA.obj.lt;have HO:=zh N;generalize hkk:d.length=k at*
 have Hkk:=zh hkk;have Hlt:=zh hlt;clear t N G hs2 hT y' z' L W p hkk hlt a';generalize hrr:lF (fO c) v=r at*
 have HW1:=zh hrr;clear hrr;have hin:=HO.o.ay;by_cases hr1:r=1
 case neg=>
  have hd:((r:Int)==1)=false:=zO.2 zo;have HR:=zh (I.o hr1);clear I HST hr1 hX
  go_wp2_with (go_at_call 193;refine(HH.o _ hin).mono ?_;rintro e w2 ⟨rfl,hb2⟩)
  exact qdB
 subst hr1
 go_wp2_with (first
  |(go_at_call 193;refine(HH.o _ hin).mono ?_;rintro e w2 ⟨rfl,hb2⟩;have g0:=(HO.o.aP hb2).bA.obj.c 0;have g1:=(HO.o.aP hb2).bA.obj.c 1;have gl:=(HO.o.aP hb2).bA.obj.lt)
  | (go_at_call 194;refine(HST.o _ (HO.o.aP hb2).ay).mono ?_;rintro e w3 ⟨rs,rfl,hb3,sa,sc,rfl,ss1,ss2,ss3⟩))
 have o':=(HO.o.aP hb2).call hb3;have S:=Mem_le_grow (w:=w3) (HO.o.aP hb2).ay;generalize hmk3:mk.grow w2 w3=mk3 at*
 have P':=JW (I4 c v) 256;have S':∀J:List (List Int),(∀i (h:i<(marked (I4 c v) 256).length),eX (fO c) v (marked (I4 c v) 256)[i]∈J)->∀b<256,eX (fO c) v b∈J:=fun J h b hb=>by
  obtain⟨a,ha,hm,he⟩:=T9 (c:=c) (v:=v) HV.o.1.len hb;obtain⟨i,hi,hia⟩:=yX (QS.2 ⟨ha,hm⟩);rw[he,<-hia];exact h i hi
 generalize marked (I4 c v) 256=H at*
 have HALL:=zh S';have HL3:=zh (fun i (h:i<H.length)=>P' H[i] (zF h));have HSS:=zh ss3;have HO3:=zh o';have I':=zh (zi (HT.o.1.le S) (zi (fH S HT.o.2) (Mem.le_trans HV.o.2.2.2 S)));unfold maxLen at ss2;clear o' S' P' ss3 hb2 hb3 HO HST HH I HT x1 xl g0 g1 gl hin hmk3 S t';refine av [1,5,6,7,66,67,68] (fun q vs wr=>∃(j:Nat) (J td:List (List Int)) (V:List Value) (tv:zV) (ob:Obj) (mk:Mem),j<=H.length/\q=H.length-j/\VSt c J td (fun x=>x=v) ob/\(∀i (h:i<H.length),i<j->eX (fO c) v H[i]∈J) /\
  2*(1400000000-J.length)+td.length+1<=2*(1400000000-A.length)+(k+1)/\vs=[.pointer (some ⟨w.heap.size,0,none⟩),tv,.map (some (w1.heap.size+1)),xv,.slice sa H.length sc,.int .i64 (H.length:Int),.int .i64 (j:Int)]/\mk3.le mk/\nC mk V td /\
  Own w m wr mk [.gQ (w1.heap.size+1) ob,.row tv 180 1 td.length V,.obj w.heap.size 45 #[.slice a1 c.1.length c1,.slice a2 c.2.length c2]]) ?_ ?_
 .exact⟨_,0,A,d,V,_,ob,mk3,zG _,rfl,HS.o,fun i h P=>absurd P (xY _),by rw[Hkk.o];omega,rfl,Mem.le_refl _,I'.o.1,by rw[Hkk.o];exact HO3.o⟩
 clear HO3 HS Hlt;rintro Y z2 q vs wr2 hY-⟨j,J,td,V,tv,ob,mk,hj,rfl,G,D',hms,rfl,p,hT,t⟩;simp[aX,lk];have Hms:=zh hms;have Hdn:=zh D';by_cases hlt:j<H.length
 case neg=>
  obtain rfl:j=H.length:=zo;have HSX:=zh (show VSt c J td (fun _=>False) ob from⟨G.s.close ⟨HW1.o,HALL.o J fun i h=>D' i h h⟩,G.map,G.le⟩);have HO:=zh t;have E:=zh hT;have HLE:=zh (Mem.le_trans I'.o.2.2 p);clear t hT G hY D' hms p;go_wp2;exact hX.o _ _ _ (by have:=Hms.o;have:=Hkk.o;simp;omega) rfl ⟨J,td,V,tv,ob,mk,HSX.o,rfl,rfl,HLE.o,E.o,HO.o⟩
 obtain⟨b,off,rfl,hss⟩:=HSS.o qdX;obtain⟨hbc,O⟩:=hss j hlt;have Z':=HV.o.2.1.step O;have X':=Af.reach HOK.o Z';have h':=X'.ik HFC.o;have W':(eX (fO c) v H[j]).length<=12:=by rw[X'.len,HLV.o.2];omega
 have R':=Rb (txt (eX (fO c) v H[j])) (by
  have:=ET (eX (fO c) v H[j]) fun x K=>by have:=h' x K;omega
  unfold maxLen;omega)
 have e1:=Mem_cell_w t.ay (Mem_cell_le p hbc);have el:=Mem_cell_lt t.ay (Mem_cell_le p hbc);have F:=Mem.le_trans I'.o.2.2 p;have HAF:=zh (fun(w':zW) (h:mk.ay w')=>KY _ _ xv c v H[j] mk n w' h (iy.le F (fun _ _=>bG.le F) HA.o.1) (gX.le F (fun _ _=>bG.le F) HA.o.2) (fH p I'.o.2.1) HV.o.1 HWF.o O zo fun x K=>by have:=h' x K;omega);have HKY:=zh (fun(m':Mem) (w':zW) (xr:zV) (h1:mk.le m') (h:m'.ay w') (K:eU m' xr (eX (fO c) v H[j]))=>Fs xr _ m' w' h (HTM.o.le (Mem.le_trans F h1)) K zo);have hseen:=s'.o J G.s.nodup G.s.reach;have hsl:=G.le;have HDN:=zh (show ∀x':List (List Int),(∀y∈J,y∈x')->eX (fO c) v H[j]∈x'->∀i (h:i<H.length),i<j+1->eX (fO c) v H[i]∈x' from fun x' h1 P i h h3=>by
  by_cases e:i=j
  .subst e;exact P
  .exact h1 _ (Hdn.o i h zo))
 have Q:=t.bA.obj;have g0:=Q.cell (i:=0) rfl;have g1:=Q.cell (i:=1) rfl;have gl:=Q.lt;have HO:=zh t;have HS:=zh G;have E:=zh (zi hT (zi p Z'));obtain⟨f,k',hka⟩:=G.map;have HKA:=zh hka;have HBM:=zh k';obtain⟨va,vc,rfl⟩:=aT t.au.row;generalize eX (fO c) v H[j]=x at*
 generalize H[j]=bb at*
 have hin:=HO.o.ay;have HK2:=zh R';clear t G hT p F hss hbc O Z' X' h' D' hka k' Q R' W' hX Hdn HA;by_cases K:x∈J
 .have HX2:=zh K;have HFX:=zh ((HKA.o x).2 K);clear K
  go_wp2_with (first
   |(go_at_call 195;refine(HAF.o _ hin).mono ?_;rintro e w4 ⟨xr,rfl,B,g'⟩)
   | (go_at_call 192;refine(HKY.o _ _ xr qfR (HO.o.call B).ay g').mono ?_;rintro e w5 ⟨rfl,c'⟩;have hlk:=HBM.o.wZ (Maps.string_keyed underlying9) underlying183 underlying4 Wv ((HO.o.call B).aP c').gQ HK2.o;rw[HFX.o]at hlk))
  exact hY.o _ _ _ zo rfl ⟨j+1,J,td,V,_,ob,_,zo,rfl,HS.o,HDN.o J (fun _ h=>h) HX2.o,Hms.o,rfl,Mem.le_trans E.o.2.1 qfG,E.o.1.le qfG,(HO.o.call B).aP c'⟩
 .have HX2:=zh K;have HFX:=zh (show f (.string (txt x))=false by
   cases h:f (.string (txt x))
   .rfl
   .exact absurd ((HKA.o x).1 h) K)
  clear K
  go_wp2_with (first
   |(go_at_call 195;refine(HAF.o _ hin).mono ?_;rintro e w4 ⟨xr,rfl,B,g'⟩;have hxr':=g';obtain⟨xa,xc,rfl,-⟩:=hxr')
   |(go_at_call 192;refine(HKY.o _ _ (.slice xa x.length xc) qfR (HO.o.call B).ay g').mono ?_;rintro e w5 ⟨rfl,c'⟩;have hlk:=HBM.o.wZ (Maps.string_keyed underlying9) underlying183 underlying4 Wv ((HO.o.call B).aP c').gQ HK2.o;rw[HFX.o]at hlk;obtain⟨w6,o6,hr6,hob6,hbm6,hgr6⟩:=HBM.o.wY (Maps.string_keyed underlying9) underlying183 underlying4 ((HO.o.call B).aP c').gQ qdY HK2.o true;have hO7:=(((HO.o.call B).aP c').jP hob6 hgr6).al #[.slice xa x.length xc] 180;have hnews:=hO7.obj.cZ rfl)
   | (at_builtin;refine aG azz rfl (.tmp 84) (.tmp 86) rfl (.slice va td.length vc) td.length V rfl hO7.bA.row ⟨w6.heap.size,0,none⟩ 1 1 [.slice xa x.length xc] rfl rfl hnews qdZ qdY zo ?_;intro va' vc' w7 hown7 C' hrow7))
  have hO8:=((hO7.bA.app hown7 C' hrow7 zS).bL).au;have hS2:VSt c (J++[x]) (td++[x]) (fun y=>y=v) o6:=⟨HS.o.s.push E.o.2.2 HX2.o,⟨_,by simpa using hbm6,HKA.o.put x⟩,by simp;omega⟩;refine hY.o _ _ _ zo rfl ⟨j+1,J++[x],td++[x],V++[.slice xa x.length xc],_,o6,_,zo,rfl,hS2,HDN.o _ (fun y hy=>xI _ hy) zS,?_,rfl,Mem.le_trans E.o.2.1 qfG,(E.o.1.le qfG).push g',?_⟩
  .have:=s'.o _ hS2.s.nodup hS2.s.reach;have:=Hms.o;simp at*
   omega
  .simpa using hO8
end Cl
namespace Cl
open Go Go.RowKit Go.Proofs
def uE(m:Mem)(a:List Value)(l:List aC):Prop:=a.length=l.length/\∀i (c:i<a.length) (b:i<l.length),aQ m a[i] l[i]
theorem uE.le{m m':Mem}{a:List Value}{l:List aC}(h:uE m a l)(k:m.le m'):uE m' a l:=⟨h.1,fun i c b=>aW k (h.2 i c b)⟩
theorem uE.push{m:Mem}{a:List Value}{l:List aC}(h:uE m a l){x:zV}{t:aC}(b:aQ m x t):uE m (a++[x]) (l++[t]):=by
 refine⟨by simp[h.1],fun i e f=>?_⟩;by_cases c:i<a.length
 .rw[xM c,xM (by rw[<-h.1];exact c)];exact h.2 i c _
 .have d:i=a.length:=by simp at e;omega
  subst d;simp[h.1,b]
end Cl
namespace Cl
open Go Go.RowKit Go.Proofs Tryz
theorem Bp(u Y:zV)(c:St)(m:Mem)(n:Nat)(w:zW)(hm:m.ay w)(I:iy (bG m n) m u c.1)(H:gX (bG m n) m Y c.2)(c':c.1.length+c.2.length<=1048576):
 zC 155 #[.agg #[u,Y]] w fun e w'=>∃r,e=.returned r/\zB w w'/\bO (bG (m.grow w w') n) (m.grow w w') r (fE c):=by
 obtain⟨Q,O,rfl,p1,q1,k1⟩:=I;obtain⟨P,L,rfl,p2,q2,Z⟩:=H;unfold maxLen at q1 q2;have a:=(Own.start hm).al #[.slice Q c.1.length O,.slice P c.2.length L] 45;have HK:=zh (zi k1 Z);have HO:=zh (a.dL 35 18);clear a k1 Z;have HE:=zh (show fE c=c.1.map (·.2)++c.2.map (·.2) from rfl);generalize fE c=SV at*
 generalize c.2=g at*
 generalize c.1=f at*
 refine aj fun R hR=>?_
 go_enter func155,ntmps155
 go_wp2;refine av [1,3,9,10,11] (fun q E D=>∃(i:Nat) (v:zV) (xs:List Value),i<=f.length/\q=f.length-i/\E=[.pointer (some ⟨w.heap.size,0,none⟩),v,.slice Q f.length O,.int .i64 (f.length:Int),.int .i64 (i:Int)]/\lS (bG m n) xs ((f.take i).map (·.2)) /\
  Own w m D m [.row v 35 18 i xs,.obj w.heap.size 45 #[.slice Q f.length O,.slice P g.length L]]) ?_ ?_
 .exact qcJ
 clear HO;rintro X z q E D hX-⟨i,v,xs,hi,rfl,rfl,s,a⟩;simp[aX,lk];have g0:=a.au.obj.c 0;have g1:=a.au.obj.c 1;have gl:=a.au.obj.lt;by_cases hlt:i<f.length
 .obtain⟨b,off,rfl,G⟩:=HK.o.1 qdX;obtain⟨x,y,C,B,A⟩:=(G i hlt).cells;have V:=Mem_cell_lt a.ay (C 0 _ rfl);have K:=zh (fun j u hj=>Mem_cell_w a.ay (C j u hj));have I:=gW B A;have H:=pF B A;have k:=s.push B A;rw[show(f.take i).map (·.2)++[f[i].2]=(f.take (i+1)).map (·.2)by rw[zH hlt,yI];rfl]at k;have hl:(fK f[i].2 x y).length=18:=rfl;have hl2:(qU f[i] x y).length=20:=rfl;have J:=zh (fun j u=>@qR f[i] x y j u);have HV:=zh k;generalize fK f[i].2 x y=N at*
  generalize qU f[i] x y=M at*
  have HO:=zh (a.al Wx 58);clear a s k B A C G
  go_wp2_with (first
   |refine ae uY rfl (.tmp 13) rfl rfl M hl2 K.o ?_
   | refine aM uY rfl (.tmp 5) (.tmp 14) rfl (cs:=M.toArray) rfl rfl rfl qd5 (fun u U=>H u U) HO.o.obj ?_)
  intro S p t;have d:=HO.o.bN p t;have g0:=d.bA.obj.c 0;have g1:=d.bA.obj.c 1;have gl:=d.obj.lt;have W:=zh (p.sub (o:=2) (cs:=N) fun j u hj=>by simpa using J.o j u hj);have HO1:=zh (d.tail.al N.toArray 35);clear HO d p t K J
  go_wp2_with (first
   |refine ae iY rfl (.tmp 16) rfl rfl N hl W.o ?_
   |refine mQ lY iY EQ rfl zo rfl (.tmp 17) rfl (cs:=N.toArray) rfl qea ?_
   | (at_builtin;refine aG lY rfl (.tmp 15) (.tmp 18) rfl v i xs rfl HO1.o.au.row ⟨S.heap.size,0,none⟩ 1 1 N rfl hl qe7 I qdY zo ?_))
  exact qbi
 .obtain rfl:i=f.length:=zo;rw[yG]at s;have HV:=zh s;have HO:=zh a;clear a s hX;go_wp2;refine av [1,3,22,23,24] (fun q E D=>∃(i:Nat) (v:zV) (xs:List Value),i<=g.length/\q=g.length-i/\E=[.pointer (some ⟨w.heap.size,0,none⟩),v,.slice P g.length L,.int .i64 (g.length:Int),.int .i64 (i:Int)]/\lS (bG m n) xs (f.map (·.2)++(g.take i).map (·.2)) /\
   Own w m D m [.row v 35 18 (f.length+i) xs,.obj w.heap.size 45 #[.slice Q f.length O,.slice P g.length L]]) ?_ ?_
  .exact qdK
  clear HO HV g0 g1 gl;rintro X z q E D hX-⟨i,v,xs,hi,rfl,rfl,s,a⟩;simp[aX,lk];have g0:=a.au.obj.c 0;have g1:=a.au.obj.c 1;have gl:=a.au.obj.lt;by_cases hlt:i<g.length
  .obtain⟨b,off,rfl,G⟩:=HK.o.2 qdX;obtain⟨T,x,y,F,C,B,A⟩:=(G i hlt).cells;have V:=Mem_cell_lt a.ay (C 0 _ rfl);have K:=zh (fun j u hj=>Mem_cell_w a.ay (C j u hj));have I:=gW B A;have H:=pg F B A;have k:=s.push B A;rw[show f.map (·.2)++(g.take i).map (·.2)++[g[i].2]=f.map (·.2)++(g.take (i+1)).map (·.2)by rw[zH hlt,yI,xD];rfl]at k;have hl:(fK g[i].2 x y).length=18:=rfl;have hl2:(qN g[i] T x y).length=19:=rfl;have J:=zh (fun j u=>@qM g[i] T x y j u);have HV:=zh k;generalize fK g[i].2 x y=N at*
   generalize qN g[i] T x y=M at*
   have HO:=zh (a.al Ww 61);clear a s k B A C G F
   go_wp2_with (first
    |refine ae uX rfl (.tmp 26) rfl rfl M hl2 K.o ?_
    | refine aM uX rfl (.tmp 7) (.tmp 27) rfl (cs:=M.toArray) rfl rfl rfl qd5 (fun u U=>H u U) HO.o.obj ?_)
   intro S p t;have d:=HO.o.bN p t;have g0:=d.bA.obj.c 0;have g1:=d.bA.obj.c 1;have gl:=d.obj.lt;have W:=zh (p.sub (o:=1) (cs:=N) fun j u hj=>by simpa using J.o j u hj);have HO1:=zh (d.tail.al N.toArray 35);clear HO d p t K J
   go_wp2_with (first
    |refine ae iY rfl (.tmp 29) rfl rfl N hl W.o ?_
    |refine mQ lY iY EQ rfl zo rfl (.tmp 30) rfl (cs:=N.toArray) rfl qea ?_
    | (at_builtin;refine aG lY rfl (.tmp 28) (.tmp 31) rfl v (f.length+i) xs rfl HO1.o.au.row ⟨S.heap.size,0,none⟩ 1 1 N rfl hl qe7 I qdY zo ?_))
   exact qbi
  .obtain rfl:i=g.length:=zo;rw[yG]at s;have hr:=bO.JH (m:=m.grow w D) (l:=SV) (by rw[HE.o,zL,xC,xC];exact a.row) (by rw[HE.o];exact s) a.free a.bJ.done;have HF:=zh (zi a.az hr);clear a s hX hr;exact qaI
theorem KI(z:Array Value)(n:Nat):(Builtin.zeroCells z n).size=n*z.size:=by simp[Builtin.zeroCells]
theorem Zj:(prog.info? 35).map (fun i=>(i.zero,i.size,i.bytes))=some (some (.agg uG),18,272):=by kernel_rfl
theorem Wq{w0 w:zW}{m mk:Mem}{L:List bF}(h:Own w0 m w mk L)(n:Nat)(r:n<=1048576):
 zC 203 #[.slice none 0 0,.int .i64 n] w fun e w'=>∃a c,e=.returned (.slice a 0 c)/\Own w0 m w' mk (.row (.slice a 0 c) 35 18 0 []::L):=by
 by_cases p:n=0
 .subst p;refine Calls.mono (Any8.slices_Grow_room Tryz.XF none 0 0 0 w (zI _) zo zo zo) ?_;rintro e w' ⟨rfl,rfl⟩;exact⟨none,0,rfl,h.dL _ _⟩
 .obtain⟨i,hi,g,q,o⟩:=info_parts Zj;refine Calls.mono (Any8.slices_Grow_grow Tryz.XF i (.agg uG) hi g zo none 0 0 n [] w (zI _) zo (by rw[o];omega) zo zS (fun _=>rfl) (fun a e=>by cases e)) ?_;rintro e w' ⟨rfl,rfl⟩;have s:=grownCap_ge w (0+n) 0 35;have j:=grownCap_le_maxLen w (0+n) 0 35 qdY;have d:=h.dr.al (([]:List Value).toArray++Builtin.zeroCells (Value.agg uG).cells (0+n-0)++Builtin.zeroCells (Value.agg uG).cells (grownCap w (0+n) 0 35-(0+n))) 35;refine⟨_,_,rfl,?_⟩;refine d.tail.cons (it:=.row _ _ _ _ _) ⟨rfl,.inr ⟨w.heap.size,grownCap w (0+n) 0 35,_,rfl,zG _,d.obj.get,zG _,j,?_,?_⟩⟩ (fun k l=>d.gV _ (yF ..) k l) (fun b f=>(yS.1 d.apart).1 b f)
  .simp only[Array.size_append,KI,List.size_toArray,List.length_nil];have:(Value.agg uG).cells.size=18:=rfl;rw[this];generalize grownCap w (0+n) 0 35=c at*
   omega
  .simp
def uT(xs:List (List Vd))(k:Nat):List Vd:=(xs.take k).flatten
theorem Ku(xs:List (List Vd))(k:Nat)(h:k<xs.length):uT xs (k+1)=uT xs k++xs[k]:=by
 unfold uT;rw[zH h,List.flatten_append];simp
theorem Ig(xs:List (List Vd))(k:Nat):(uT xs k).length<=(uT xs xs.length).length:=by
 unfold uT;rw[yG];have:xs=xs.take k++xs.drop k:=(List.take_append_drop k xs).symm
 conv=>rhs;rw[this]
 rw[List.flatten_append,zL];omega
theorem PN(g c N:Nat)(xs:List (List Vd))(m:Mem)(w:zW)(hm:m.ay w)(O:∀i (h:i<xs.length),∃u,m.cell g i=some u/\bO (bG m N) m u xs[i])(D:(uT xs xs.length).length<=1048576)(hn:xs.length<=1000000):
 zC 163 #[.slice (some ⟨g,0,none⟩) xs.length c] w fun e w'=>∃r,e=.returned r/\zB w w'/\bO (bG (m.grow w w') N) (m.grow w w') r (uT xs xs.length):=by
 have Q:=zh O;clear O;refine aj fun R hR=>?_
 go_enter func163,ntmps163
 go_wp2;refine av [0,3,9,10,11] (fun n C B=>∃k:Nat,k<=xs.length/\n=xs.length-k/\C=[.slice (some ⟨g,0,none⟩) xs.length c,.int .i64 (uT xs k).length,.slice (some ⟨g,0,none⟩) xs.length c,.int .i64 xs.length,.int .i64 k] /\
  Own w m B m []) ?_ ?_
 .exact⟨_,0,zG _,rfl,rfl,Own.start hm⟩
 rintro X z n C B K-⟨k,hk,rfl,rfl,hO⟩;simp[aX,lk];have d':=Ig xs k;by_cases s:k<xs.length
 .obtain⟨u,y,I⟩:=Q.o k s;have r1:=Mem_cell_w hO.ay y;have Z:=Mem_cell_lt hO.ay y;obtain⟨a,uc,rfl,-⟩:=I;have b:=congrArg List.length (Ku xs k s);rw[zL]at b;have j:=Ig xs (k+1);have HO:=zh hO;have t:=zh b;have hb:(uT xs k).length+xs[k].length<=1048576:=zo;generalize (uT xs k).length=T at*
  generalize xs[k].length=N at*
  clear y hO b j;go_wp2;exact K.o _ _ _ zo rfl ⟨k+1,zo,rfl,by rw[t.o];rfl,HO.o⟩
 .obtain rfl:k=xs.length:=zo;have S:=zh (Wq hO (uT xs xs.length).length D);clear hO K
  go_wp2_with fail
  refine S.o.mono ?_;rintro e w2 ⟨a,d,rfl,hO⟩;have HO:=zh hO;clear S hO;go_wp2;refine av [6,25,26,27] (fun n C B=>∃(k:Nat) (v:zV) (G:List Value),k<=xs.length/\n=xs.length-k/\C=[v,.slice (some ⟨g,0,none⟩) xs.length c,.int .i64 xs.length,.int .i64 k]/\lS (bG m N) G (uT xs k) /\
   Own w m B m [.row v 35 18 (uT xs k).length G]) ?_ ?_
  .exact qcJ
  clear HO;rintro X z n C B K-⟨k,v,G,hk,rfl,rfl,J,hO⟩;simp[aX,lk];obtain⟨va,W,rfl⟩:=aT hO.row;by_cases s:k<xs.length
  .obtain⟨u,y,I⟩:=Q.o k s;have r1:=Mem_cell_w hO.ay y;have Z:=Mem_cell_lt hO.ay y;obtain⟨ad,cc,U,rfl,-,-,H,L,E⟩:=I.YA;have b:=Ku xs k s;have j:=Ig xs (k+1);rw[b,zL]at j;have x:=J.append H;rw[<-b]at x;have o1:=H.one_cell;have ly:=H.len;have HN:=zh (E _ hO.ay);have t:=zh (congrArg List.length b);have HR:=zh x;rw[zL]at t;clear b J x H y E I;generalize (uT xs k).length=P at*
   generalize xs[k].length=q at*
   go_wp2_with (at_builtin;refine gT lY rfl (.tmp 31) (.tmp 32) rfl (.slice va P W) P G rfl hO.row ad q cc U rfl ly L HN.o o1 qdY zo ?_)
   intro Y V w7 p f l;have A:=hO.app p f l (zI _);rw[<-t.o]at A;have M:=zh A;clear A hO p f l;go_wp2;refine K.o _ _ _ zo rfl ⟨k+1,_,_,zo,rfl,?_,HR.o,M.o⟩;rw[t.o];rfl
  .obtain rfl:k=xs.length:=zo;have hfin:=bO.JH (m:=m.grow w B) hO.row J hO.free hO.bJ.done;have F:=zh qfM;clear hO J hfin;go_wp2;exact hR.o _ _ ⟨_,rfl,F.o⟩
theorem kG(u d:zV)(c:Lc)(m:Mem)(n:Nat)(w:zW)(v:m.ay w)(s:bO (bG m n) m u c.1)(q:bO (bG m n) m d c.2)(p:c.1.length+c.2.length<=1048576):
 zC 114 #[.agg #[u,d]] w fun e w'=>∃r,e=.returned r/\zB w w'/\bO (bG (m.grow w w') n) (m.grow w w') r (bW c):=by
 have g:=((Own.start v).al #[u,d] 51).al #[u,d] 49;simp only[bR]at g;have f:=g.lU;have a:=Mem_le_add g.lV (w:=(w.alloc (.cells #[u,d] 51)).alloc (.cells #[u,d] 49));have k:=PN (w.heap.size+1) 2 n [c.1,c.2] _ _ f.ay (fun i hi=>by
  match i,hi with
  |0,_=>exact⟨u,Mem_add_cell g.obj rfl,s.le a fun _ _ h=>h.le a⟩
  | 1,_=>exact⟨d,Mem_add_cell g.obj rfl,q.le a fun _ _ h=>h.le a⟩) (by simp[uT];omega) zS
 rw[show uT [c.1,c.2] ([c.1,c.2]:List (List Vd)).length=bW c by simp[uT,bW]]at k;have k:=zh k;have t:=zh f;obtain⟨B,z,rfl,-⟩:=s;obtain⟨A,y,rfl,-⟩:=q;clear g f a;refine aj fun R hR=>?_
 go_enter func114,ntmps114
 go_wp2_with fail
 refine k.o.mono ?_;rintro e x ⟨r,rfl,j,l⟩;have b:=t.o.call j;have HF:=zh (zi b.az (l.le b.done fun _ _ h=>h.le b.done));clear k t j l b;exact qaI
theorem Ez(v:Vl)(s:Sl)(m:Mem)(n:Nat)(w:zW)(hm:m.ay w)(hv:bG m (n+1) s v)(p:v.kids.length<=1048576):
 zC 105 #[v.val s] w fun e w'=>∃r,e=.returned r/\zB w w'/\bO (bG (m.grow w w') n) (m.grow w w') r v.kids:=by
 have hO:=(Own.start hm).al (bu v s).toArray 33;have S:=hv.2;have J:(bu v s).toArray[7]?=some s.l:=rfl;have G:(bu v s).toArray[8]?=some s.s:=rfl;obtain⟨a1,b1,a2,b2,a3,b3,a4,b4,a5,b5,rfl,-,-,-,q4,q5⟩:=hv.eG;obtain⟨⟨z1,y1,e1,-,-,k1⟩,⟨z2,y2,e2,-,-,k2⟩⟩:=S;simp only[Value.slice.injEq]at e1 e2;obtain⟨rfl,-,rfl⟩:=e1;obtain⟨rfl,-,rfl⟩:=e2;simp only at J G;have J:=zh J;have G:=zh G;unfold maxLen at q4 q5;unfold Vl.val;have HE:=zh (show v.kids=v.aU.flatMap bW++v.aF.flatMap fE from rfl);generalize (bu v _).toArray=N at*
 generalize v.kids=KD at*
 generalize v.aU=a at*
 generalize v.aF=KL at*
 have HK:=zh (zi k1 k2);have HO:=zh (hO.dL 35 18);have HL:=zh (show(a.flatMap bW).length+(KL.flatMap fE).length<=1048576 by have:=p;rw[HE.o,zL]at this;exact this);clear hO k1 k2 hv p;refine aj fun R hR=>?_
 go_enter func105,ntmps105
 go_wp2;refine av [1,3,9,10,11] (fun q C wr=>∃(i:Nat) (r:zV) (xs:List Value) (mk:Mem),i<=a.length/\q=a.length-i/\C=[.pointer (some ⟨w.heap.size,0,none⟩),r,.slice a4 a.length b4,.int .i64 (a.length:Int),.int .i64 (i:Int)]/\lS (bG mk n) xs ((a.take i).flatMap bW) /\
  Own w m wr mk [.row r 35 18 ((a.take i).flatMap bW).length xs,.obj w.heap.size 33 N]) ?_ ?_
 .exact⟨_,0,_,[],m,zG _,rfl,rfl,.nil _,HO.o⟩
 clear HO;rintro X z q C wr hX-⟨i,r,xs,mk,hi,rfl,rfl,hr,hO⟩;simp[aX,lk];have I:=hO.au.obj.cell J.o;have g8:=hO.au.obj.cell G.o;have H:=hO.au.obj.lt;by_cases hlt:i<a.length
 .obtain⟨b,off,rfl,F⟩:=HK.o.1 qdX;obtain⟨u,D,hu,hu',B,A⟩:=F i hlt;have Z:=Mem_cell_w hO.ay qfl;have Y:=Mem_cell_w hO.ay qfv;have cl:=Mem_cell_lt hO.ay qfl;have d:=xx bW hlt;have y:=BV bW a (i+1);rw[d,zL]at y;have x:(bW a[i]).length=a[i].1.length+a[i].2.length:=by rw[bW,zL]
  have hO:=hO.al' (.cells #[u,D] 51);have HF:=zh (kG u D a[i] mk n _ hO.ay (B.le hO.ext.le fun _ _ h=>h.le hO.ext.le) (A.le hO.ext.le fun _ _ h=>h.le hO.ext.le) qet);have HR:=zh (zi hr d);have HO:=zh hO;obtain⟨ua,uc,rfl,-⟩:=B;obtain⟨O,M,rfl,-⟩:=A;clear hO hr F hu hu' d x
  go_wp2_with fail
  refine HF.o.mono ?_;rintro e L ⟨r1,rfl,j,g⟩;have f:=HO.o.call j;obtain⟨ad,W,K,rfl,-,-,k,U,E⟩:=g.YA;have c:=(HR.o.1.mono fun _ _ h=>h.le qfu).append k;rw[<-HR.o.2]at c;have HR1:=zh c;have P:=k.one_cell;have Q:=k.len;have HN:=zh (E L f.ay);have HO1:=zh f;have HR:=zh (congrArg List.length HR.o.2);clear f HO HF j g k E c Z Y cl I g8 H;rw[zL]at HR;generalize ((a.take i).flatMap bW).length=t at*
  go_wp2_with (at_builtin;refine gT lY rfl (.tmp 15) (.tmp 17) rfl r t xs rfl HO1.o.row ad (bW a[i]).length W K rfl Q U HN.o P (by have:=HL.o;unfold maxLen;omega) qet ?_)
  exact qaW
 .obtain rfl:i=a.length:=zo;rw[yG]at hr hO;obtain⟨T,V⟩:∃T,T=(a.flatMap bW).length:=⟨_,rfl⟩;rw[<-V]at hO;have HT:=zh V;clear V;have HV:=zh hr;have HO:=zh hO;clear hO hr hX;go_wp2;refine av [1,3,21,22,23] (fun q C wr=>∃(i:Nat) (r:zV) (xs:List Value) (mk:Mem),i<=KL.length/\q=KL.length-i/\C=[.pointer (some ⟨w.heap.size,0,none⟩),r,.slice a5 KL.length b5,.int .i64 (KL.length:Int),.int .i64 (i:Int)]/\lS (bG mk n) xs (a.flatMap bW++(KL.take i).flatMap fE) /\
   Own w m wr mk [.row r 35 18 (T+((KL.take i).flatMap fE).length) xs,.obj w.heap.size 33 N]) ?_ ?_
  .exact qdz
  clear HO HV I g8 H;rintro X z q C wr hX-⟨i,r,xs,mk,hi,rfl,rfl,hr,hO⟩;simp[aX,lk];have I:=hO.au.obj.cell G.o;have H:=hO.au.obj.lt;by_cases hlt:i<KL.length
  .obtain⟨b,off,rfl,F⟩:=HK.o.2 qdX;obtain⟨u,D,hu,hu',B,A⟩:=F i hlt;have Z:=Mem_cell_w hO.ay qfl;have Y:=Mem_cell_w hO.ay qfv;have cl:=Mem_cell_lt hO.ay qfl;have d:=xx fE hlt;have y:=BV fE KL (i+1);rw[d,zL]at y;have x:(fE KL[i]).length=KL[i].1.length+KL[i].2.length:=by rw[fE,zL,xC,xC]
   have hO:=hO.al' (.cells #[u,D] 45);have HF:=zh (Bp u D KL[i] mk n _ hO.ay (B.le hO.ext.le fun _ _ h=>h.le hO.ext.le) (A.le hO.ext.le fun _ _ h=>h.le hO.ext.le) qet);have HR:=zh (zi hr d);have HO:=zh hO;obtain⟨ua,uc,rfl,-⟩:=B;obtain⟨O,M,rfl,-⟩:=A;clear hO hr F hu hu' d x
   go_wp2_with fail
   refine HF.o.mono ?_;rintro e L ⟨r1,rfl,j,g⟩;have f:=HO.o.call j;obtain⟨ad,W,K,rfl,-,-,k,U,E⟩:=g.YA;have c:=(HR.o.1.mono fun _ _ h=>h.le qfu).append k;rw[xD,<-HR.o.2]at c;have HR1:=zh c;have P:=k.one_cell;have Q:=k.len;have HN:=zh (E L f.ay);have HO1:=zh f;have HR:=zh (congrArg List.length HR.o.2);clear f HO HF j g k E c Z Y cl I H;rw[zL]at HR;generalize ((KL.take i).flatMap fE).length=t at*
   go_wp2_with (at_builtin;refine gT lY rfl (.tmp 27) (.tmp 29) rfl r (T+t) xs rfl HO1.o.row ad (fE KL[i]).length W K rfl Q U HN.o P qeS (by have:=HL.o;have:=HT.o;omega) ?_)
   exact qaH
  .exact qaF
theorem IY(u:zV)(l:List Fd)(m:Mem)(n:Nat)(w:zW)(hm:m.ay w)(h:iy (bG m n) m u l):
 zX 153 #[u] w (.bool (tf (fM l))):=by
 obtain⟨a,c,rfl,p1,Z,U⟩:=h;unfold maxLen at Z;have HK:=zh U;have HO:=zh (Own.start hm);clear U;refine aj fun R hR=>?_
 go_enter func153,ntmps153
 go_wp2;refine av [0,5,6,7] (fun q T S=>∃(i:Nat),i<=l.length/\q=l.length-i/\T=[.slice a l.length c,.slice a l.length c,.int .i64 (l.length:Int),.int .i64 (i:Int)]/\(∀j (hj:j<l.length),j<i->l[j].1.2=1\/l[j].1.2=2)/\(∀j (hj:j+1<l.length),j+1<i->Dw l[j].1.1 (l[j+1]).1.1=true) /\
  Own w m S m []) ?_ ?_
 .exact qcy
 clear HO;rintro X z q T S hX-⟨i,hi,rfl,rfl,hA,hB,hO⟩;simp[aX,lk];by_cases hlt:i<l.length
 case neg=>
  exact qaN
 obtain⟨b,off,rfl,P⟩:=HK.o qdX;obtain⟨x,y,O,W,V⟩:=(P i hlt).cells;have f':=Mem_cell_lt hO.ay (O 0 _ rfl);have Y:=zh (fun j u hj=>Mem_cell_w hO.ay (O j u hj));have h2:=pF W V;have hl2:(qU l[i] x y).length=20:=rfl;have H0:(qU l[i] x y).toArray[0]?=some (.string l[i].1.1):=rfl;have H1:(qU l[i] x y).toArray[1]?=some (.int .i64 l[i].1.2):=rfl;have t:=zh (zi hA hB);have HO:=zh (hO.al Wx 58);have Q:=zh (fun j (hj:j<l.length)=>(P j hj).s);have G:=zh (show(¬(l[i].1.2=1\/l[i].1.2=2))->¬fM l from fun h k=>h (k.bzd _ (zF hlt)));generalize qU l[i] x y=M at*
 generalize J:l[i].1.2=L at*
 generalize E:l[i].1.1=N at*
 have r:=zh (zi J E);clear hO W V O P hA hB J E
 go_wp2_with (first
  |refine ae uY rfl (.tmp 10) rfl rfl M hl2 Y.o ?_
  | refine aM uY rfl (.tmp 4) (.tmp 11) rfl (cs:=M.toArray) rfl rfl rfl qe5 (fun u hu=>h2 u hu) HO.o.obj ?_)
 intro w1 D K;have A:=HO.o.bN D K;have j':=D.cell H0;have i':=D.cell H1;have h':=A.obj.lt;have g:=zh A.tail;have B:=zh (fun j (hj:j<l.length)=>zi (Mem_cell_w A.ay (Q.o j hj)) (Mem_cell_lt A.ay (Q.o j hj)));clear HO Y D K A Q;by_cases d:L=1\/L=2
 case neg=>
  have e':(L != 1)=true:=bne_iff_ne.2 fun e=>d (.inl e);have d':(L != 2)=true:=bne_iff_ne.2 fun e=>d (.inr e);have HR:=zh (G.o d);have HB:=zh (g.o.Ep 1).az;clear g B G d hX t;go_wp2
  go_region
  all_goals go_wp2
  exact qbs
 have v:∀j (hj:j<l.length),j<i+1->l[j].1.2=1\/l[j].1.2=2:=fun j hj h=>by
  by_cases e:j=i
  .subst e;rw[r.o.1];exact d
  .exact t.o.1 j hj zo
 have F:=zh v;clear v G;rcases Nat.eq_zero_or_pos i with rfl|c'
 .have H:=zh (show ∀j (hj:j+1<l.length),j+1<0+1->Dw l[j].1.1 (l[j+1]).1.1=true from fun j hj h=>zo);have C:=zh (g.o.Ep 1);clear t r B g;rcases d with rfl|rfl
  all_goals
   go_wp2
   go_region
   all_goals go_wp2
   all_goals exact hX.o _ _ _ zo rfl ⟨0+1,zo,rfl,rfl,F.o,H.o,C.o⟩
 obtain⟨p,rfl⟩:∃p,i=p+1:=⟨i-1,zo⟩;obtain⟨y1,yl⟩:=B.o p zo;have C:=zh (g.o.Ep 1);cases hb:Dw l[p].1.1 N
 .have HR:=zh (show ¬fM l from fun k=>by
   have:=k.asc p zo;rw[r.o.2,hb]at this;cases this)
  have HB:=zh C.o.az;unfold Dw at hb;rw[<-xE,<-xE]at hb;generalize l[p].1.1=I at*
  clear t r B g C F hX;rcases d with rfl|rfl
  all_goals
   go_wp2
   go_region
   all_goals go_wp2
   exact qbs
 .have H:=zh (show ∀j (hj:j+1<l.length),j+1<p+1+1->Dw l[j].1.1 (l[j+1]).1.1=true from fun j hj h=>by
   by_cases e:j=p
   .subst e;rw[r.o.2];exact hb
   .exact t.o.2 j hj zo)
  unfold Dw at hb;rw[<-xE,<-xE]at hb;generalize l[p].1.1=I at*
  clear t r B g;rcases d with rfl|rfl
  all_goals
   go_wp2
   go_region
   all_goals go_wp2
   all_goals exact hX.o _ _ _ zo rfl ⟨p+1+1,zo,rfl,rfl,F.o,H.o,C.o⟩
theorem M4(v:Vl)(x:Sl)(m:Mem)(n:Nat)(w:zW)(hm:m.ay w)(E:gD m)(hv:bG m (n+1) x v)(hf:ZN v)(hl:uW v.s 30000 100000):
 zX 104 #[v.val x] w (.bool (tf (oO v))):=by
 have a:=(Own.start hm).al (bu v x).toArray 33;have hs:=hv.sc;have HN:=zh (fun w'=>DL x.i x.f x.t v.s m w' hs ⟨by have:=hl.i;omega,by have:=hl.f;omega,by have:=hl.t;omega⟩);have HV:=zh (fun w' (h:m.ay w')=>qH x.i x.f x.t v.s m w' h E hs (hl.mono zo zo));have HS:=zh (a.obj.sub (tZ v x));obtain⟨-,K',I'⟩:=hv;have h1:=hf.l;have h2:=hf.s;have HF:=zh hf;have P':=zh E;obtain⟨y1,y2,y3,y4,y5⟩:=x;obtain⟨a4,b4,e4,p4,q4,k4⟩:=K';obtain⟨a5,b5,e5,p5,q5,k5⟩:=I';simp only at e4 e5;subst e4 e5;have HK:=zh (zi k4 k5);have W:=zh (show(bu v ⟨y1,y2,y3,.slice a4 v.aU.length b4,.slice a5 v.aF.length b5⟩).toArray[7]?=some (.slice a4 v.aU.length b4)/\(bu v ⟨y1,y2,y3,.slice a4 v.aU.length b4,.slice a5 v.aF.length b5⟩).toArray[8]?=some (.slice a5 v.aF.length b5) from⟨rfl,rfl⟩);have c0:=a.obj.cell (i:=0) (v:=.bool v.any) rfl;have c7:=a.obj.cell W.o.1;have c8:=a.obj.cell W.o.2;have HO:=zh a;unfold maxLen at q4 q5;unfold Vl.val;clear a hs k4 k5 hf E;have R':=zh (tZ v ⟨y1,y2,y3,.slice a4 v.aU.length b4,.slice a5 v.aF.length b5⟩);generalize (bu v _).toArray=N at*
 obtain⟨G,hG⟩:∃G:Prop,G=oO v:=⟨_,rfl⟩;rw[<-hG];have HG:=zh hG;clear hG;refine aj fun R hR=>?_
 cases hany:v.any with
 |true=>
  have A:=zh hany;rw[hany]at c0;have hin:=HO.o.ay;clear hany;have HX:=zh (show tf G=(tf (v.s=fI)&&decide (v.aU.length+v.aF.length=0))by
   rw[HG.o];by_cases g1:v.s=fI
   .by_cases g2:v.aU.length+v.aF.length=0
    .rw[aO (p:=oO v) ⟨fun _=>⟨g1,xJ.1 zo,xJ.1 zo⟩,fun c K=>by rw[xJ.1 (show v.aU.length=0 by omega)]at K;simp at K,fun c K=>by rw[xJ.1 (show v.aF.length=0 by omega)]at K;simp at K,by rw[g1];exact nk⟩,aO g1,zN g2];rfl
    .rw[aA (p:=oO v) fun k=>g2 (by rw[(k.any A.o).2.1,(k.any A.o).2.2];rfl),zM g2];simp
   .rw[aA (p:=oO v) fun k=>g1 (k.any A.o).1,aA g1];rfl)
  go_enter func104,ntmps104
  go_wp2_with (refine ae K3 rfl (.tmp 9) rfl rfl _ rfl HS.o ?_)
  refine(HN.o _).mono ?_;rintro e w1 ⟨rfl,F⟩;have c7:=(HO.o.aP F).obj.cell W.o.1;have c8:=(HO.o.aP F).obj.cell W.o.2;have cl:=(HO.o.aP F).obj.lt;have HB:=zh (HO.o.aP F).az;clear HN HV HS HF HK HO W F HG;generalize v.aU.length=l4 at*
  generalize v.aF.length=l5 at*
  generalize tf (v.s=fI)=te at*
  cases te
  .go_wp2;exact hR.o _ _ ⟨by rw[HX.o]<;>rfl,HB.o⟩
  .by_cases hz:l4+l5=0
   .obtain⟨rfl,rfl⟩:l4=0/\l5=0:=zo;go_wp2;exact hR.o _ _ ⟨by rw[HX.o]<;>rfl,HB.o⟩
   .have hd:((l4:Int)+l5==0)=false:=zO.2 zo;have U:=zh (HX.o.trans (by rw[zM hz]<;>rfl));clear HX hz;go_wp2
    exact hR.o _ _ ⟨by rw[U.o]<;>rfl,HB.o⟩
 |false=>
  have A:=zh hany;rw[hany]at c0;clear hany;have HE:=zh (show G↔(∀c∈v.aU,c.2.length<=1)/\(∀c∈v.aF,fM c.1/\eZ c)/\v.s.gB from by
   rw[HG.o];exact⟨fun k=>⟨k.rest,k.st,k.sc⟩,fun k=>⟨fun h=>(by rw[A.o]at h;cases h),k.1,k.2.1,k.2.2⟩⟩)
  clear HN A HG
  go_enter func104,ntmps104
  go_wp2;refine av [1,23,24,25] (fun q Z Y=>∃(i:Nat),i<=v.aU.length/\q=v.aU.length-i/\Z=[.pointer (some ⟨w.heap.size,0,none⟩),.slice a4 v.aU.length b4,.int .i64 (v.aU.length:Int),.int .i64 (i:Int)]/\(∀j (hj:j<v.aU.length),j<i->(v.aU[j]).2.length<=1) /\
   Own w m Y m [.obj w.heap.size 33 N]) ?_ ?_
  .exact qbZ
  clear HO c0 c7 c8;rintro X z q Z Y L-⟨i,hi,rfl,rfl,hA,a⟩;simp[aX,lk];have A:=zh hA;clear hA;by_cases hlt:i<v.aU.length
  .obtain⟨b,off,rfl,h4⟩:=HK.o.1 qdX;obtain⟨u,u',P,s2,s3,s4⟩:=h4 i hlt;obtain⟨ua,uc,rfl,-⟩:=s3;obtain⟨O,M,rfl,r1,r2,-⟩:=s4;have x1:=Mem_cell_w a.ay P;have x2:=Mem_cell_w a.ay s2;have xl:=Mem_cell_lt a.ay P;have HO:=zh (a.al' (.cells #[.slice ua (v.aU[i]).1.length uc,.slice O (v.aU[i]).2.length M] 51));unfold maxLen at r2;have r:=zh (show(v.aU[i]).2.length<=1->∀j (hj:j<v.aU.length),j<i+1->(v.aU[j]).2.length<=1 from fun h j hj h2=>by
    by_cases e:j=i
    .subst e;exact h
    .exact A.o j hj zo)
   have g:=zh (show ¬(v.aU[i]).2.length<=1->¬G from fun h k=>h ((HE.o.1 k).1 _ (zF hlt)));generalize (v.aU[i]).1.length=n1 at*
   generalize (v.aU[i]).2.length=n2 at*
   clear a h4 P s2;by_cases hn:n2<=1
   .have H:=zh (r.o hn);clear r g;go_wp2;exact L.o _ _ _ zo rfl ⟨i+1,zo,rfl,rfl,H.o,HO.o⟩
   .have HR:=zh (g.o hn);clear r g L;go_wp2;exact hR.o _ _ ⟨by rw[aA HR.o]<;>rfl,HO.o.az⟩
  obtain rfl:i=v.aU.length:=zo;have HL:=zh (show ∀c∈v.aU,c.2.length<=1 from fun c K=>by obtain⟨j,hj,rfl⟩:=yX K;exact A.o j hj hj);have c7:=a.obj.cell W.o.1;have c8:=a.obj.cell W.o.2;have cl:=a.obj.lt;have HO:=zh a;clear a L A;go_wp2;refine av [1,35,36,37] (fun q Z Y=>∃(i:Nat),i<=v.aF.length/\q=v.aF.length-i/\Z=[.pointer (some ⟨w.heap.size,0,none⟩),.slice a5 v.aF.length b5,.int .i64 (v.aF.length:Int),.int .i64 (i:Int)]/\(∀j (hj:j<v.aF.length),j<i->fM (v.aF[j]).1/\eZ v.aF[j]) /\
   Own w m Y m [.obj w.heap.size 33 N]) ?_ ?_
  .exact qbZ
  clear HO c7 c8 cl;rintro X z q Z Y L-⟨i,hi,rfl,rfl,hA,a⟩;simp[aX,lk];have A:=zh hA;clear hA;by_cases hlt:i<v.aF.length
  .obtain⟨b,off,rfl,h4⟩:=HK.o.2 qdX;obtain⟨u,u',P,s2,s3,s4⟩:=h4 i hlt;have d:=zF hlt;have V:=zh (fun w' (h:m.ay w')=>IY u (v.aF[i]).1 m n w' h s3);have J:=zh (fun w' (h:m.ay w')=>Fw u u' v.aF[i] m n w' h P'.o s3 s4 (HF.o.f _ d) (HF.o.k _ d) (HF.o.lab _ d) (HF.o.set _ d));obtain⟨ua,uc,rfl,-⟩:=s3;obtain⟨O,M,rfl,-⟩:=s4;have x1:=Mem_cell_w a.ay P;have x2:=Mem_cell_w a.ay s2;have xl:=Mem_cell_lt a.ay P;have T:=a.al #[.slice ua (v.aF[i]).1.length uc,.slice O (v.aF[i]).2.length M] 45;have HO:=zh T;have r:=zh (show fM (v.aF[i]).1/\eZ v.aF[i]->∀j (hj:j<v.aF.length),j<i+1->fM (v.aF[j]).1/\eZ v.aF[j] from fun h j hj h2=>by
    by_cases e:j=i
    .subst e;exact h
    .exact A.o j hj zo)
   have g:=zh (show ¬(fM (v.aF[i]).1/\eZ v.aF[i])->¬G from fun h k=>h ((HE.o.1 k).2.1 _ d));have C:=zh (V.o _ T.ay);clear a h4 P s2 T d A;generalize (v.aF[i]).1.length=n1 at*
   generalize (v.aF[i]).2.length=n2 at*
   generalize fM (v.aF[i]).1=FO at*
   generalize eZ v.aF[i]=CO at*
   by_cases y:FO
   case neg=>
    have HR:=zh (g.o fun h=>y h.1);have Q:=C.o;rw[aA y]at Q;have B:=zh Q;clear r g J Q C V L y
    go_wp2_with (go_at_call 153;refine B.o.mono ?_;rintro e w2 ⟨rfl,hb2⟩)
    exact qdB
   have Q:=C.o;rw[aO y]at Q;have B:=zh Q;clear Q C V;by_cases D:CO
   .have I:=zh (show ∀w',m.ay w'->_ from fun w' h=>by have:=J.o w' h;rw[aO D]at this;exact this);have H:=zh (r.o ⟨y,D⟩);clear r g J y D
    go_wp2_with (first
     |(go_at_call 153;refine B.o.mono ?_;rintro e w2 ⟨rfl,hb2⟩;have x1:=(HO.o.aP hb2).obj.c 0;have x2:=(HO.o.aP hb2).obj.c 1;have xl:=(HO.o.aP hb2).obj.lt)
     | (go_at_call 154;refine(I.o _ (HO.o.aP hb2).ay).mono ?_;rintro e w3 ⟨rfl,S⟩))
    exact L.o _ _ _ zo rfl ⟨i+1,zo,rfl,rfl,H.o,((HO.o.aP hb2).aP S).tail⟩
   .have I:=zh (show ∀w',m.ay w'->_ from fun w' h=>by have:=J.o w' h;rw[aA D]at this;exact this);have HR:=zh (g.o fun h=>D h.2);clear r g J y D L
    go_wp2_with (first
     |(go_at_call 153;refine B.o.mono ?_;rintro e w2 ⟨rfl,hb2⟩;have x1:=(HO.o.aP hb2).obj.c 0;have x2:=(HO.o.aP hb2).obj.c 1;have xl:=(HO.o.aP hb2).obj.lt)
     | (go_at_call 154;refine(I.o _ (HO.o.aP hb2).ay).mono ?_;rintro e w3 ⟨rfl,S⟩))
    exact hR.o _ _ ⟨by rw[aA HR.o]<;>rfl,((HO.o.aP hb2).aP S).az⟩
  obtain rfl:i=v.aF.length:=zo;have k':=zh (show ∀c∈v.aF,fM c.1/\eZ c from fun c K=>by obtain⟨j,hj,rfl⟩:=yX K;exact A.o j hj hj);have U:=zh (show tf G=tf v.s.gB from dh (HE.o.trans ⟨fun h=>h.2.2,fun h=>⟨HL.o,k'.o,h⟩⟩));have j':=zh (HV.o Y a.ay);have Q':=zh (fun(hN:∀j u,([.bool v.s.gY,.bool v.s.iF,.bool v.s.iZ,y1,y2,y3]:List Value)[j]?=some u->N[1+j]?=some u)=>a.obj.sub hN);have HO:=zh a;clear a HV A k' HL HE L;generalize tf v.s.gB=vv at*
  go_wp2_with (refine ae K3 rfl (.tmp 51) rfl rfl _ rfl (Q'.o R'.o) ?_)
  refine j'.o.mono ?_;rintro e w2 ⟨rfl,hb2⟩;have HB:=zh (HO.o.aP hb2).az;clear HO j' hb2;go_wp2;exact hR.o _ _ ⟨by rw[U.o]<;>rfl,HB.o⟩
def YE(a:Vs):Array Value:=#[.int .i64 a.n,.int .i64 a.d,.bool a.b]
theorem KW(g lv:Nat)(a:Vs)(k:0<=a.n/\a.n<=4000000/\0<=a.d/\a.d<=1000)(_:lv<=17)(w0 w:zW)(m mk:Mem)(L:List bF)(h:Own w0 m w mk (.obj g 73 (YE a)::L)):
 zC 103 #[.pointer (some ⟨g,0,none⟩),.int .i64 (lv:Int)] w fun e w'=>e=.returned (.tuple #[])/\Own w0 m w' mk (.obj g 73 (YE ⟨a.n+1,max a.d lv,a.b⟩)::L):=by
 obtain⟨n,d,b⟩:=a;obtain⟨q,p,u,t⟩:0<=n/\n<=4000000/\0<=d/\d<=1000:=k;have y:=h.obj.cell (i:=0) (v:=.int .i64 n) rfl;have s:=h.obj.frozen 0;have r:=h.obj.lt;have c:=h.set 0 (.int .i64 (n+1));have x:=c.obj.cell (i:=1) (v:=.int .i64 d) rfl;have f1:=c.obj.frozen 1;have f:=c.set 1 (.int .i64 (max d lv));have l:=zh f;clear h c f;refine aj fun R j=>?_
 go_enter func103,ntmps103
 go_wp2
 go_end0
 exact j.o _ _ ⟨rfl,l.o⟩
theorem eT.kids{n:Nat}{v:Vl}(h:eT (n+1) v):∀x∈v.kids,eT n x.1/\eT n x.2:=h.2
structure PG (a:Vs) (N:Int):Prop where
 n:0<=a.n
 le:a.n<=N
 d:0<=a.d
 top:a.d<=17
theorem WH:∀(f lv:Nat) (v:Vl) (a:Vs),f+lv=17->0<=a.d->a.d<=17->0<=(jQ f lv v a).d/\(jQ f lv v a).d<=17
 |0,lv,v,a,h,c,b=>by simp only[jQ];omega
 |f+1,lv,v,a,h,c,b=>by
  have j:∀(l:List Vd) (a:Vs),0<=a.d->a.d<=17->0<=(qE f lv l a).d/\(qE f lv l a).d<=17:=by
   intro l
   induction l with
   |nil=>intro a c b;exact⟨c,b⟩
   |cons x l ih=>
    intro a c b;have g:=WH f (lv+1) x.1 a zo c b;have e:=WH f (lv+1) x.2 (jQ f (lv+1) x.1 a) zo g.1 g.2;exact ih _ e.1 e.2
  by_cases i:oO v
  .rw[rQ i];exact j _ _ (by show 0<=max a.d (lv:Int);omega) (by show max a.d (lv:Int)<=17;omega)
  .rw[Bn i];simp only;omega
theorem PG.vis{f lv N:Nat}{v:Vl}{a:Vs}{k:Int}(h:PG a k)(e:f+lv=17)(c:Ht N v):PG (jQ f lv v a) (k+dw N v):=by
 have g:=WG f lv N v a c;have b:=WH f lv v a e h.d h.top;have:=h.n;have:=h.le;exact⟨zo,zo,b.1,b.2⟩
theorem sU:∀(f lv n:Nat) (v:Vl) (x:Sl) (g:Nat) (a:Vs) (w0 w:zW) (m mk:Mem) (L:List bF),f+lv=17->Own w0 m w mk (.obj g 73 (YE a)::L)->gD mk->bG mk n x v->eT n v->PG a (3000000-dw n v)->dw n v<=1048576 ->
 zC 70 #[.pointer (some ⟨g,0,none⟩),v.val x,.int .i64 (lv:Int)] w fun e w'=>∃mk',e=.returned (.tuple #[])/\Own w0 m w' mk' (.obj g 73 (YE (jQ f lv v a))::L)/\mk.le mk'
 |f,lv,0,v,x,g,a,w0,w,m,mk,L,_,_,_,h,_,_,_=>h.elim
 |f,lv,n+1,v,x,g,a,w0,w,m,mk,L,hlv,H,htab,hv,hfw,ha,hct=>by
  have han:=ha.n;have hal:=ha.le;have had:=ha.d;have hat:=ha.top;have c:=H.al (bu v x).toArray 33;have HE:=zh (KW g lv a zo zo w0 _ m mk _ c.au);have HN:=zh (fun w' (h:bH w' w.heap.size 33 (bu v x).toArray)=>h.all);have hN:(bu v x).length=9:=rfl;have gl:=c.obj.lt
  cases f with
  |zero=>
   obtain rfl:lv=17:=zo;have HV:jQ 0 17 v a=⟨a.n+1,max a.d (17:Nat),true⟩:=rfl;have V':=zh HV;unfold Vl.val;clear HV c hv hfw ha H HN;generalize bu v x=N at*
   refine aj fun R hR=>?_
   go_enter func70,ntmps70
   go_wp2_with (go_at_call 103;refine HE.o.mono ?_;rintro e w1 ⟨rfl,c⟩;have c2:=c.obj.cell (i:=2) (v:=.bool a.b) rfl;have f2:=c.obj.frozen 2;have e':=c.obj.lt)
   go_end0
   exact hR.o _ _ ⟨mk,rfl,by rw[V'.o];exact(c.set 2 (.bool true)).bL,Mem.le_refl _⟩
  |succ f=>
   have M':lv<=16:=zo;have hd:decide ((16:Int)<(lv:Int))=false:=zM zo;have hk:=wD hv.ht;have J:=hfw.1.sc;have HG:=zh (fun w' (h:mk.ay w')=>M4 v x mk n w' h htab hv hfw.1 ⟨by have:=J.1;omega,by have:=J.2.1;omega,by have:=J.2.2.2;omega⟩);have W:=zh (fun w' (h:mk.ay w')=>Ez v x mk n w' h hv zo);have hT:=Pi n v;have d':=Ms n v.kids;rw[hT]at d';have HT:=zh (zi hT d');have B':=zh hfw.2;have x':=zh htab;have U:=zh (zi (fun h:oO v=>rQ (f:=f) (lv:=lv) (a:=a) h) (fun h:¬oO v=>Bn (f:=f) (lv:=lv) (a:=a) h));unfold Vl.val;unfold Vl.val at HG W;generalize jQ (f+1) lv v a=V at*
   generalize bu v x=N at*
   generalize dw (n+1) v=t' at*
   generalize v.kids=k at*
   generalize oO v=GV at*
   clear c hv hfw H J hT d' htab ha;refine aj fun R hR=>?_
   go_enter func70,ntmps70
   by_cases B:GV
   case neg=>
    have T:=zh (show ∀w',mk.ay w'->_ from fun w' h=>by have:=HG.o w' h;rw[aA B]at this;exact this);have HV:=zh (U.o.2 B);clear HG W U B HT B'
    go_wp2_with (first
     |(go_at_call 103;refine HE.o.mono ?_;rintro e w1 ⟨rfl,c⟩;have e':=c.au.obj.lt)
     |refine ae iH rfl (.tmp 4) rfl rfl N hN (HN.o _ c.au.obj) ?_
     | (go_at_call 104;refine(T.o _ c.ay).mono ?_;rintro e w2 ⟨rfl,K⟩;have l:=c.aP K;have c2:=l.obj.cell (i:=2) (v:=.bool a.b) rfl;have f2:=l.obj.frozen 2;have s':=l.obj.lt))
    go_end0
    exact hR.o _ _ ⟨mk,rfl,by rw[HV.o];exact(l.set 2 (.bool true)).bL,Mem.le_refl _⟩
   have T:=zh (show ∀w',mk.ay w'->_ from fun w' h=>by have:=HG.o w' h;rw[aO B]at this;exact this);have HV:=zh (U.o.1 B);clear HG U B
   go_wp2_with (first
    |(go_at_call 103;refine HE.o.mono ?_;rintro e w1 ⟨rfl,c⟩;have e':=c.au.obj.lt)
    |refine ae iH rfl (.tmp 4) rfl rfl N hN (HN.o _ c.au.obj) ?_
    |(go_at_call 104;refine(T.o _ c.ay).mono ?_;rintro e w2 ⟨rfl,K⟩;have l:=c.aP K;have s':=l.au.obj.lt)
    | refine ae iH rfl (.tmp 4) rfl rfl N hN (HN.o _ l.au.obj) ?_)
   refine(W.o _ l.ay).mono ?_;rintro e w3 ⟨r,rfl,p',hr⟩;have r':=l.call p';obtain⟨ra,rc,rfl,p1,q1,n'⟩:=hr;have b':=Mem_le_grow (w:=w3) l.ay;generalize mk.grow w2 w3=M at*
   have HK:=zh n';have y':=zh r';have i':=zh b';unfold maxLen at q1;clear c l r' K p' n' b' T W HE HN e' s';go_wp2;refine av [0,2,24,25,26] (fun q vs wr=>∃(i:Nat) (S:Vs) (mi:Mem),i<=k.length/\q=k.length-i/\vs=[.pointer (some ⟨g,0,none⟩),.int .i64 (lv:Int),.slice ra k.length rc,.int .i64 (k.length:Int),.int .i64 (i:Int)]/\S=qE f lv (k.take i) ⟨a.n+1,max a.d lv,a.b⟩ /\
    PG S (3000000-(t':Int)+(yt n k i:Nat))/\M.le mi/\Own w0 m wr mi (.obj g 73 (YE S)::.obj w.heap.size 33 N.toArray::L)) ?_ ?_
   .refine⟨_,0,⟨a.n+1,max a.d lv,a.b⟩,M,zG _,rfl,rfl,rfl,⟨by show 0<=a.n+1;omega,?_,by show 0<=max a.d (lv:Int);omega,by show max a.d (lv:Int)<=17;omega⟩,Mem.le_refl _,y'.o⟩;have:yt n k 0=1:=by simp[yt]
    rw[this];show a.n+1<=_;omega
   clear y';rintro X z q vs wr hX-⟨i,S,mi,hi,rfl,rfl,O,A,s,H⟩;simp[aX,lk];by_cases hlt:i<k.length
   case neg=>
    obtain rfl:i=k.length:=zo;rw[yG]at O;have HF:=zh (zi H.bL (Mem.le_trans i'.o s));rw[O,<-HV.o]at HF;clear H hX A;go_wp2
    go_end0
    exact hR.o _ _ ⟨_,rfl,HF.o⟩
   obtain⟨b,off,rfl,h4⟩:=HK.o qdX;obtain⟨E,C,hc,r1,r2⟩:=(h4 i hlt).cells;have hcl:=Mem_cell_lt H.ay (Mem_cell_le s (hc 0 _ rfl));have HC:=zh (fun j u hj=>Mem_cell_w H.ay (Mem_cell_le s (hc j u hj)));have h2:=gW r1 r2;have hl2:(fK k[i] E C).length=18:=rfl;have Z':=zh (show ∀j u,(bu k[i].1 E)[j]?=some u->(fK k[i] E C).toArray[0+j]?=some u from fun j u hj=>by simpa using lW (y:=C) hj);have Y':=zh (show ∀j u,(bu k[i].2 C)[j]?=some u->(fK k[i] E C).toArray[9+j]?=some u from fun j u hj=>by simpa using oh (x:=E) hj);have L':=Kr n k i hlt;have htot:=HT.o.2 (i+1);have G:=B'.o k[i] (zF hlt);have I:=TK f lv k i hlt ⟨a.n+1,max a.d lv,a.b⟩;rw[<-O]at I;have Z:PG S (3000000-(dw n k[i].1:Nat)):=⟨A.n,by have:=A.le;omega,A.d,A.top⟩;have p:=A.vis (f:=f) (lv:=lv+1) zo G.1.ht;have t:=p.vis (f:=f) (lv:=lv+1) zo G.2.ht;have Y:PG (jQ f (lv+1) k[i].1 S) (3000000-(dw n k[i].2:Nat)):=⟨p.n,by have:=p.le;omega,p.d,p.top⟩;have g':=zh (fun w' (h:Own w0 m w' mi (.obj g 73 (YE S)::.obj wr.heap.size 35 (fK k[i] E C).toArray::.obj w.heap.size 33 N.toArray::L))=>
    sU f (lv+1) n k[i].1 E g S w0 w' m mi _ zo h (x'.o.le (Mem.le_trans i'.o s)) (r1.le s) G.1 Z zo)
   have f':=zh (fun w' mj (hj:mi.le mj) (h:Own w0 m w' mj (.obj g 73 (YE (jQ f (lv+1) k[i].1 S))::.obj wr.heap.size 35 (fK k[i] E C).toArray::.obj w.heap.size 33 N.toArray::L))=>
    sU f (lv+1) n k[i].2 C g _ w0 w' m mj _ zo h (x'.o.le (Mem.le_trans (Mem.le_trans i'.o s) hj)) (r2.le (Mem.le_trans s hj)) G.2 Y zo)
   have D':=zh (show PG (qE f lv (k.take (i+1)) ⟨a.n+1,max a.d lv,a.b⟩) (3000000-(t':Int)+(yt n k (i+1):Nat))by
    rw[I];exact⟨t.n,by have:=t.le;omega,t.d,t.top⟩)
   have U':=zh I;have A':=zh s;have HO:=zh (H.al uG 35);unfold Vl.val at g' f';have Q':(bu k[i].1 E).length=9:=rfl;have P':(bu k[i].2 C).length=9:=rfl;generalize bu k[i].1 E=N1 at*
   generalize bu k[i].2 C=N2 at*
   generalize fK k[i] E C=D at*
   clear H hc r1 r2 h4 L' A Z p t Y G I O s
   go_wp2_with (first
    |refine ae iY rfl (.tmp 28) rfl rfl D hl2 HC.o ?_
    | refine aM iY rfl (.tmp 7) (.tmp 29) rfl (cs:=D.toArray) rfl rfl rfl qe5 (fun u hu=>h2 u hu) HO.o.obj ?_)
   intro w5 m' o';have Q:=HO.o.bN m' o';have q0:=Q.obj.sub Z'.o;have T':=Q.obj.lt;have v':=zh (g'.o _ Q.au);clear HO HC m' o' Q g'
   go_wp2_with (refine ae iH rfl (.tmp 31) rfl rfl N1 Q' q0 ?_)
   refine v'.o.mono ?_;rintro e w6 ⟨mj,rfl,P,F⟩;have q1:=P.au.obj.sub Y'.o;have S':=P.au.obj.lt;have u':=zh (f'.o _ mj F P);have X':=zh F;clear P F v' f' q0 T'
   go_wp2_with (refine ae iH rfl (.tmp 37) rfl rfl N2 P' q1 ?_)
   refine u'.o.mono ?_;rintro e w7 ⟨K',rfl,q',a'⟩;have h':=zh (zi q'.bL (Mem.le_trans A'.o (Mem.le_trans X'.o a')));rw[<-U'.o]at h';clear q' a' u' q1 S';go_wp2;exact hX.o _ _ _ zo rfl ⟨i+1,_,K',zo,rfl,rfl,rfl,D'.o,h'.o.2,h'.o.1⟩
noncomputable def WA(v:Vl):Vs:=jQ 16 1 v ⟨0,0,false⟩
theorem vK(v:Vl)(x:Sl)(m:Mem)(n:Nat)(w:zW)(k:m.ay w)(b:gD m)(h:bG m n x v)(i:eT n v)(d:dw n v<=1048576):
 zC 51 #[v.val x] w fun e w'=>∃g,e=.returned (.pointer (some ⟨g,0,none⟩))/\zB w w'/\bH w' g 73 (YE (WA v)):=by
 have c:=((Own.start k).al (bu v x).toArray 33).al (YE ⟨0,0,false⟩) 73;simp only[bR]at c;have f:=zh (sU 16 1 n v x (w.heap.size+1) ⟨0,0,false⟩ w _ m m _ rfl c b h i ⟨by show(0:Int)<=0;omega,by show(0:Int)<=_;omega,by show(0:Int)<=0;omega,by show(0:Int)<=17;omega⟩ d);have r:=zh c.au.obj.all;have p:(bu v x).length=9:=rfl;have t:=c.au.obj.lt;have q:=zh (show jQ 16 1 v ⟨0,0,false⟩=WA v from rfl);unfold Vl.val;unfold Vl.val at f;generalize bu v x=N at*
 clear c h i;refine aj fun R l=>?_
 go_enter func51,ntmps51
 go_wp2_with (refine ae iH rfl (.tmp 1) rfl rfl N p r.o ?_)
 refine f.o.mono ?_;rintro e s ⟨mk,rfl,a,-⟩;have j:=zh (zi a.az a.obj);rw[q.o]at j;clear a f;go_wp2;exact l.o _ _ ⟨_,rfl,j.o⟩
theorem Wz(v:Vl):(WA v).b = !tf (eQ v):=by unfold WA eQ;rw[WI];rfl
noncomputable def O6(v:Vl):Int:=if tf (eQ v)then(RV 16 v:Int)else 0
noncomputable def Ng(v:Vl):Int:=if tf (eQ v)then(dw 16 v:Int)else 0
theorem az6{v:Vl}(h:eQ v):(WA v).d=RV 16 v:=by
 have:=(KV 16 1 v ⟨0,0,false⟩ (zI _) h).2;unfold WA;rw[this];show max (0:Int) _=_;omega
theorem az5{v:Vl}(h:eQ v):(WA v).n=dw 16 v:=by
 have:=(KV 16 1 v ⟨0,0,false⟩ (zI _) h).1;unfold WA;rw[this];show(0:Int)+_=_;omega
theorem nK(v:Vl)(x:Sl)(m:Mem)(n:Nat)(w:zW)(p:m.ay w)(htab:gD m)(hv:bG m n x v)(hf:eT n v)(hct:dw n v<=1048576):
 zX 47 #[v.val x] w (.bool (tf (eQ v))):=by
 have hO:=(Own.start p).al (bu v x).toArray 33;have d:=zh qfy;have j:=zh hO.obj.all;have r:(bu v x).length=9:=rfl;have l:=zh (Wz v);have h:=zh hO;have z:=hO.obj.lt;unfold Vl.val;unfold Vl.val at d;generalize bu v x=N at*
 generalize WA v=k at*
 clear hO hv hf;refine aj fun R q=>?_
 go_enter func47,ntmps47
 go_wp2_with (refine ae iH rfl (.tmp 1) rfl rfl N r j.o ?_)
 refine d.o.mono ?_;rintro e u ⟨g,rfl,c,a⟩;have A:=a.cell (i:=2) (v:=.bool k.b) rfl;have s:=a.lt;have t:=zh (h.o.aP c).az;have f:=zh (show tf (eQ v) = !k.b by rw[l.o,Bool.not_not]);clear h c a d j l;generalize tf (eQ v)=y at*
 go_wp2;exact q.o _ _ ⟨by rw[f.o]<;>rfl,t.o⟩
theorem mR(d:Vd)(x y:Sl)(m:Mem)(n:Nat)(w:zW)(H:m.ay w)(b:gD m)(t:bG m n x d.1)(s:bG m n y d.2)(f1:eT n d.1)(f2:eT n d.2)(F:dw n d.1<=1048576)(E:dw n d.2<=1048576):
 zX 18 #[dE d x y] w (.bool (tf (eQ d.1)&&tf (eQ d.2))):=by
 have l:=(Own.start H).al (fK d x y).toArray 35;have B:=zh (nK d.1 x m n _ l.ay b t f1 F);have z:=zh (fun w' (h:m.ay w')=>nK d.2 y m n w' h b s f2 E);have I:(bu d.1 x).length=9:=rfl;have p:(bu d.2 y).length=9:=rfl;have A:=zh qfi;have q:=zh l;unfold Vl.val dE at*
 generalize bu d.1 x=N at*
 generalize bu d.2 y=v at*
 generalize fK d x y=D at*
 clear l t s f1 f2;have r:=q.o.obj.sub (o:=0) (cs:=N) fun j u k=>by simpa using A.o.1 j u k
 generalize tf (eQ d.1)=G at*
 generalize tf (eQ d.2)=K at*
 refine aj fun R hR=>?_
 go_enter func18,ntmps18
 go_wp2_with (refine ae iH rfl (.tmp 3) rfl rfl N I r ?_)
 refine B.o.mono ?_;rintro e C ⟨rfl,g⟩;have a:=zh (q.o.aP g);have c:=zh (z.o C a.o.ay);have i:=a.o.obj.sub (o:=9) (cs:=v) fun j u k=>by simpa using A.o.2 j u k
 clear q B z g r;cases G
 .have HB:=zh a.o.az;clear a c i;exact qag
 .go_wp2_with (refine ae iH rfl (.tmp 7) rfl rfl v p i ?_)
  refine c.o.mono ?_;rintro e J ⟨rfl,f⟩;have HB:=zh (a.o.aP f).az;clear a c f i;exact qag
theorem KX(v:Vl)(x:Sl)(m:Mem)(n:Nat)(w:zW)(p:m.ay w)(htab:gD m)(hv:bG m n x v)(hf:eT n v)(hct:dw n v<=1048576):
 zX 21 #[v.val x] w (.int .i64 (O6 v)):=by
 have hO:=(Own.start p).al (bu v x).toArray 33;have f:=zh qfy;have l:=zh hO.obj.all;have q:(bu v x).length=9:=rfl;have HB:=zh (Wz v);have HS:=zh (fun h:eQ v=>(az6 h));have HD:=zh (show O6 v=_ from rfl);have j:=zh hO;have t:=hO.obj.lt;unfold Vl.val;unfold Vl.val at f;generalize bu v x=N at*
 generalize WA v=k at*
 clear hO hv hf;refine aj fun R hR=>?_
 go_enter func21,ntmps21
 go_wp2_with (refine ae iH rfl (.tmp 1) rfl rfl N q l.o ?_)
 refine f.o.mono ?_;rintro e s ⟨g,rfl,c,a⟩;have c2:=a.cell (i:=2) (v:=.bool k.b) rfl;have u:=a.cell (i:=1) (v:=.int .i64 k.d) rfl;have r:=a.lt;have HF:=zh (j.o.aP c).az;clear j c a f l;by_cases hs:eQ v
 .have hk:k.b=false:=by rw[HB.o,aO hs];rfl
  have HE:=zh (show O6 v=k.d by rw[HS.o hs];unfold O6;rw[zK (aO hs)]);exact qaJ
 .have hk:k.b=true:=by rw[HB.o,aA hs];rfl
  have HE:=zh (show O6 v=0 by unfold O6;rw[zJ (by rw[aA hs];simp)]);exact qaJ
theorem MX(v:Vl)(x:Sl)(m:Mem)(n:Nat)(w:zW)(l:m.ay w)(htab:gD m)(hv:bG m n x v)(hf:eT n v)(hct:dw n v<=1048576):
 zX 23 #[v.val x] w (.int .i64 (Ng v)):=by
 have hO:=(Own.start l).al (bu v x).toArray 33;have d:=zh qfy;have j:=zh hO.obj.all;have p:(bu v x).length=9:=rfl;have HB:=zh (Wz v);have HS:=zh (fun h:eQ v=>(az5 h));have HD:=zh (show Ng v=_ from rfl);have f:=zh hO;have s:=hO.obj.lt;unfold Vl.val;unfold Vl.val at d;generalize bu v x=N at*
 generalize WA v=k at*
 clear hO hv hf;refine aj fun R hR=>?_
 go_enter func23,ntmps23
 go_wp2_with (refine ae iH rfl (.tmp 1) rfl rfl N p j.o ?_)
 refine d.o.mono ?_;rintro e r ⟨g,rfl,c,a⟩;have c2:=a.cell (i:=2) (v:=.bool k.b) rfl;have t:=a.cell (i:=0) (v:=.int .i64 k.n) rfl;have q:=a.lt;have HF:=zh (f.o.aP c).az;clear f c a d j;by_cases hs:eQ v
 .have hk:k.b=false:=by rw[HB.o,aO hs];rfl
  have HE:=zh (show Ng v=k.n by rw[HS.o hs];unfold Ng;rw[zK (aO hs)]);exact qaJ
 .have hk:k.b=true:=by rw[HB.o,aA hs];rfl
  have HE:=zh (show Ng v=0 by unfold Ng;rw[zJ (by rw[aA hs];simp)]);exact qaJ
end Cl
namespace Cl
open Go Go.RowKit Go.Proofs
theorem o7.exec{P:Program}{t:TypeId}{n:Nat}(S:o7 P t n){w:zW}{o:Oper}{c:Operand->Value}{p:Operand}(a:o.op=Op.load t p){b off:Nat}(d:c p=.pointer (some ⟨b,off,none⟩)){cs:List Value}(e:cs.length=n)(f:∀j u,cs[j]?=some u->w.cell? ⟨b,off+j,none⟩=some u):
 (execOp c o).run P w=.ok (.value (.agg cs.toArray)) w:=by
 simp[execOp,a,d,Instr.loadAt,Instr.sureAddr,S.load e f,Result.andThen]
end Cl
