/- Lemmas. -/
import Derived.Test.YtbbnjopkjbhpbaaGreatDoorPkT21
set_option maxRecDepth 99999
set_option maxHeartbeats 9999999
namespace Cl
open Go Go.RowKit Go.Proofs Tryz
noncomputable def azo(v:Vl):Bool := !v.any&&decide (v.aJ.length=0)&&decide (v.ay.length=0)&&mR v.s
theorem Aj(v:Vl)(x:Sl):∀j u,([.bool v.s.dL,.bool v.s.dS,.bool v.s.dW,x.i,x.f,x.t]:List Value)[j]?=some u->(aZ v x).toArray[1+j]?=some u:=by
 intro j u a;have b:=(yB.1 a).1
 match j,a,b with
 |0,a,_=>exact a
 |1,a,_=>exact a
 |2,a,_=>exact a
 |3,a,_=>exact a
 |4,a,_=>exact a
 |5,a,_=>exact a
 |j+6,_,h=>simp at h;omega
theorem Oa:mR fe=true:=by unfold mR;rw[mG gD];exact aN fun e h=>(L8.mem e).1 h
theorem FC(v:Vl)(x:Sl)(m:Mem)(n:Nat)(w:zW)(T:m.az w)(y:eD m)(H:aY m n x v)(C:jW v.s 30000 100000)(O:v.aJ.length<=1000000)(M:v.ay.length<=1000000):
 zX 16 #[v.val x] w (.bool (azo v)):=by
 have b:=(Own.start T).al (aZ v x).toArray 33;have I:=H.sc;have E:=zh (ES x.i x.f x.t v.s m (w.alloc (.cells (aZ v x).toArray 33)) I ⟨by have:=C.i;omega,by have:=C.f;omega,by have:=C.t;omega⟩);have B:=zh (b.obj.sub (Aj v x));have F:=zh (fun w' (h:Below (w.alloc (.cells (aZ v x).toArray 33)).heap.size (w.alloc (.cells (aZ v x).toArray 33)) w')=>EY x.i x.f x.t v.s m w' (b.aT h).az y I C);have K:=zh b.aF;have HL:=zh (zi O M);obtain⟨a1,b1,a2,b2,a3,b3,Z,X,Y,W,rfl,-⟩:=H.dm;have c0:=b.obj.cell (i:=0) (v:=.bool v.any) rfl;have c7:=b.obj.cell (i:=7) (v:=.slice Z v.aJ.length X) rfl;have c8:=b.obj.cell (i:=8) (v:=.slice Y v.ay.length W) rfl;have l:=zh (show azo v=(!v.any&&decide (v.aJ.length=0)&&decide (v.ay.length=0)&&mR v.s) from rfl);unfold Vl.val;clear b I H;generalize (aZ v _).toArray=N at*
 generalize v.aJ.length=r at*
 generalize v.ay.length=q at*
 generalize v.any=p at*
 generalize azo v=S at*
 clear O M;refine au fun R D=>?_
 cases p with
 |true=>
  go_enter func16,ntmps16
  go_wp2
  exact D.o _ _ ⟨by rw[l.o];rfl,K.o⟩
 |false=>
  by_cases G:r=0/\q=0
  .obtain⟨rfl,rfl⟩:=G
   go_enter func16,ntmps16
   go_wp2_with (refine aj rO rfl (.tmp 17) rfl rfl _ rfl B.o ?_)
   refine E.o.mono ?_;rintro e L ⟨rfl,a⟩;have g:=zh (F.o L a);have c:=zh (fun j u U=>(mH a zS (B.o j u U):L.cell? _=_));have k:=zh (iO K.o a);by_cases z:v.s=fe
   .have d:=zh (show S=true by rw[l.o,z,Oa];rfl);rw[aN z];clear F E g B c l a z;go_wp2;exact D.o _ _ ⟨by rw[d.o];rfl,k.o⟩
   .rw[aG z];clear F E B a z
    go_wp2_with (refine aj rO rfl (.tmp 21) rfl rfl _ rfl c.o ?_)
    refine g.o.mono ?_;rintro e w2 ⟨rfl,A⟩;have J:=zh (iO k.o A);generalize mR v.s=V at*
    clear g c k A;go_wp2;exact D.o _ _ ⟨by rw[l.o];cases V<;>rfl,J.o⟩
  .have d:=zh (show S=false by rw[l.o];by_cases Q:r=0<;>by_cases P:q=0<;>simp[Q,P]<;>exact absurd ⟨Q,P⟩ G);have hw:wrap64 ((r:Int)+q)=(r:Int)+q:=by have:=HL.o;unfold wrap64;omega
   have hd:((r:Int)+q==0)=false:=zO.2 zo;clear F E B l G
   go_enter func16,ntmps16
   go_wp2;exact D.o _ _ ⟨by rw[d.o];rfl,K.o⟩
theorem ezz:(prog.info? 5).map (fun i=>(i.zero,i.size,i.bytes))=some (some (.int .u8 0),1,1):=by kernel_rfl
theorem Y8(l:List Int){i:Nat}(h:i<l.length):txt (l.take (i+1))=txt (l.take i)++44::Lib.itoa l[i]:=by
 unfold txt;exact qco
theorem FX:∀(l:List Int),(∀x∈l,-9223372036854775808<=x/\x<=9223372036854775807)->(txt l).length<=22*l.length
 |[],_=>by simp[txt]
 |x::l,h=>by
  have b:=Lib.itoa_length_le x (h x zS).1 (h x zS).2;have a:=FX l fun y hy=>h y qef;have e:txt (x::l)=44::(Lib.itoa x++txt l):=by simp[txt]
  rw[e,yO,zL,yO];omega
theorem II{m:Mem}{v:zV}{l:List Int}(h:iT m v l):∀x∈l,-9223372036854775808<=x/\x<=9223372036854775807:=by
 obtain⟨a,c,-,-,-,g⟩:=h;intro x d;obtain⟨i,hi,rfl⟩:=yX d;obtain⟨b,off,-,f⟩:=g (fun e=>by rw[e]at hi;simp at hi);exact(f i hi).2
theorem Gm(v:zV)(l:List Int)(m:Mem)(w:zW)(hm:m.az w)(G:eD m)(hl:iT m v l)(g':l.length<=1000000):
 zX 195 #[v] w (.string ⟨(txt l).toArray⟩):=by
 obtain⟨i0,hi,E,D,C⟩:=info_parts ezz;have hT:=Lib.tabBelow_of_tabIs (G.get w hm);have I:=II hl;obtain⟨a,c,rfl,p1,q1,k1⟩:=hl;unfold maxLen at q1;have HK:=zh (zi k1 (zi hT I));have S:=zh (zi hi (zi E (zi D C)));clear k1 hT hi E D C I;have K:zB w w:=zR _ _;refine au fun R hR=>?_
 go_enter func195,ntmps195
 go_wp2;refine aB [3,6,7,8] (fun q vs r=>∃(i:Nat) (o:zV),i<=l.length/\q=l.length-i/\vs=[o,.slice a l.length c,.j (l.length:Int),.j (i:Int)] /\
  r.ownsRow w.heap.size 5 1 o (txt (l.take i)).length (Lib.byteCells (txt (l.take i)))/\zB w r) ?_ ?_
 .exact⟨_,0,_,zG _,rfl,rfl,World.ownsRow_nil _ _ _ _,K⟩
 clear K;rintro X z q vs r hX-⟨i,o,hi,rfl,rfl,hown,A⟩;simp[bz,lk];have s:=dzE hm A;have W:=A.size;have U:=FX (l.take i) fun x u=>HK.o.2.2 x (xX u);rw[List.length_take]at U;by_cases hlt:i<l.length
 .obtain⟨b,off,rfl,Q⟩:=HK.o.1 qdJ;have u:=(Q i hlt).2;have x1:=azk s (Q i hlt).1;have xl:=bzu s (Q i hlt).1;have H:=Y8 l hlt;have r':=Lib.itoa_length_le l[i] u.1 u.2;have HS:=zh H;have HB:=zh A;have HO:=zh hown;generalize txt (l.take i)=B at*
  generalize l[i]=T at*
  clear Q H A hown s
  go_wp2_with (at_builtin;refine wpList_append_own _ rfl (.tmp 12) (.tmp 13) 245 rfl w.heap.size 5 i0 (.int .u8 0) 1 1 underlying245 S.o.1 S.o.2.1 S.o.2.2.1 S.o.2.2.2 rfl zD _ _ _ rfl (HO.o.alloc _) ⟨r.heap.size,0,none⟩ 1 1 [Value.int .u8 44] rfl rfl (by intro j u' y;match j,y with|0,y=>simp at y;subst y;simp[Addr.add]) (by intro u' F;simp at F;subst F;rfl) qdM zo qdQ ?_)
  intro v2 w2 n p _;have d:zB w w2:=(HB.o.alloc W _).grown p qdQ (fun k hk=>(HO.o.lt k hk).1);have i':=d.size;have M:Lib.byteCells B++[Value.int .u8 44]=Lib.byteCells (B++[44]):=by simp[Lib.byteCells]
  have L:B.length+1=(B++[44]).length:=by simp
  rw[M,L]at n;have HA:=zh (Tryz.Cv w.heap.size _ T u.1 u.2 v2 _ w2 n d.size qdQ (HK.o.2.1.on d));have O:=zh d;clear HO HB n p d M L
  go_wp2_with fail
  refine HA.o.mono ?_;rintro e w3 ⟨v3,rfl,f,J,-⟩;have M:Lib.byteCells (B++[44])++Lib.byteCells (Lib.itoa T)=Lib.byteCells (txt (l.take (i+1))):=by rw[HS.o];simp[Lib.byteCells]
  have L:(B++[44]).length+(Lib.itoa T).length=(txt (l.take (i+1))).length:=by rw[HS.o];simp;omega
  rw[M,L]at f;have N:=zh (zi f (O.o.trans J));clear HA O f J M L;go_wp2;exact hX.o _ _ _ zo rfl ⟨i+1,_,zo,rfl,rfl,N.o.1,N.o.2⟩
 .obtain rfl:i=l.length:=zo;rw[yG]at hown;have HB:=zh A;obtain⟨t,ht⟩:∃t,t=txt l:=⟨_,rfl⟩;rw[<-ht]at hown;have HT:=zh ht;clear ht A hX;rcases hown.2 with⟨rfl,Y⟩|⟨g,Z,s',rfl,-,-,-,-,-,-⟩
  .have Y:t=[]:=yM Y;subst Y;have V:(convert 245 9 (.n)).run prog r=.ok (.string ⟨#[]⟩) r:=by rw[run_convert_bytes_string (P:=prog) r 245 9 5 none 0 0 underlying245 underlying5 underlying9];simp[Conv.bytesToString];try rfl
   exact qcX
  .have V:=run_convert_bytes_back (P:=prog) r 245 9 5 ⟨g,0,none⟩ Z t underlying245 underlying5 underlying9 (fun j y=>hown.cells (g:=g) rfl j _ (by simp[Lib.byteCells,y]));exact qcX
theorem Y1(cs:List fA)(v:List Int)(k:Nat):oW (cs.take k) (v.take k)<=k:=by
 unfold oW;refine yJ List.countP_le_length ?_;simp;omega
theorem GH(c:St):(dU c).length=c.2.length+c.1.length:=by simp[dU]
def IK(c:St)(v:List Int)(k:Nat):Nat:=oW ((dU c).take k) (v.take k)
structure StV (c:St) (v:List Int):Prop where
 len:v.length=c.2.length+c.1.length
 le:∀k,IK c v k<=k
 all:oW (dU c) v=IK c v (c.2.length+c.1.length)
 ezb:∀i (h:i<c.2.length) (hv:i<v.length),-1<=v[i]/\v[i]<(c.2[i].1.length:Int)
 fzs:∀i (h:i<c.2.length) (hv:i<v.length),IK c v (i+1)=IK c v i+if bL c.2[i].1 v[i]then 1 else 0
 ezc:∀i (h:i<c.1.length) (hv:c.2.length+i<v.length),-1<=v[c.2.length+i]/\v[c.2.length+i]<=(c.1[i].1.1.size:Int)
 fz2:∀i (h:i<c.1.length) (hv:c.2.length+i<v.length),IK c v (c.2.length+(i+1))=IK c v (c.2.length+i)+if v[c.2.length+i]=(c.1[i].1.1.size:Int)then 1 else 0
theorem EE(s:ByteArray):s.data.toList.length=s.size:=Array.length_toList
theorem StV.of{c:St}{v:List Int}(h:Bi (dU c) v):StV c v:=by
 have g:=h.len;have b:=GH c;have e:∀i (hi:i<c.2.length) (d:i<(dU c).length),(dU c)[i]=kT (c.2[i]).1:=fun i hi d=>by
  simp only[dU];rw[xM qec];simp
 have f:∀i (hi:i<c.1.length) (d:c.2.length+i<(dU c).length),(dU c)[c.2.length+i]=rG (c.1[i]).1.1.data.toList:=fun i hi d=>by
  simp only[dU];rw[List.getElem_append_right zS];simp
 refine⟨zo,Y1 _ _,?_,fun i hi a=>?_,fun i hi a=>?_,fun i hi a=>?_,fun i hi a=>?_⟩
 .unfold IK;rw[<-b,yG,<-g,yG]
 .have:=h.get i zo a;rw[e i hi]at this;exact this
 .have:=Gl (cs:=dU c) (v:=v) (k:=i) zo a;rw[e i hi]at this;exact this
 .have:=h.get (c.2.length+i) zo a;rw[f i hi]at this;have j:(rG (c.1[i]).1.1.data.toList).n=(c.1[i]).1.1.size+1:=by show _+1=_;rw[EE]
  rw[j]at this;omega
 .have:=Gl (cs:=dU c) (v:=v) (k:=c.2.length+i) zo a;rw[f i hi]at this;rw[<-Nat.add_assoc];unfold IK;rw[this]
  congr 1
  show(if(v[c.2.length+i]==(((c.1[i]).1.1.data.toList).length:Int))=true then 1 else 0)=_;rw[EE];simp
theorem O1(u u' va:zV)(c:St)(v:List Int)(m:Mem)(n:Nat)(w:zW)(hm:m.az w)(h1:gG (aY m n) m u c.1)(W:gM (aY m n) m u' c.2)(hv:iT m va v)(hV:Bi (dU c) v):
 zX 196 #[.agg #[u,u'],va] w (.j (oW (dU c) v)):=by
 have C:=StV.of hV;have HVL:=zh C.len;obtain⟨a1,Z,rfl,p1,q1,k1⟩:=h1;obtain⟨a2,Y,rfl,p2,q2,k2⟩:=W;obtain⟨a3,c3,rfl,p3,q3,k3⟩:=hv;unfold maxLen at q1 q2 q3;have HA:=zh C.all;have HR:=zh (zi C.ezb C.ezc);have HH:=zh (zi C.fzs C.fz2);have HL:=zh C.le;have HK:=zh qgi;have HO:=zh ((Own.start hm).al #[.slice a1 c.1.length Z,.slice a2 c.2.length Y] 62);have h0:IK c v 0=0:=by simp[IK,oW]
 clear hV C k1 k2 k3;generalize oW (dU c) v=VH at*
 generalize IK c v=hk at*
 generalize c.2=d at*
 generalize c.1=s at*
 refine au fun R hR=>?_
 go_enter func196,ntmps196
 go_wp2;refine aB [1,2,5,11,12,13] (fun q N L=>∃(i:Nat),i<=d.length/\q=d.length-i/\N=[.slice a3 v.length c3,.p w.heap.size,.j (hk i:Int),.slice a2 d.length Y,.j (d.length:Int),.j (i:Int)] /\
  Own w m L m [.obj w.heap.size 62 #[.slice a1 s.length Z,.slice a2 d.length Y]]) ?_ ?_
 .exact⟨_,0,zG _,rfl,by rw[h0];rfl,HO.o⟩
 clear HO;rintro X z q N L hX-⟨i,hi,rfl,rfl,f⟩;simp[bz,lk];have S:=HL.o i;have g0:=f.obj.c 0;have g1:=f.obj.c 1;have gl:=f.obj.lt;by_cases hlt:i<d.length
 .obtain⟨b,off,rfl,J⟩:=HK.o.2.1 qdJ;obtain⟨kc,x,y,U,G,Q,P⟩:=(J i hlt).cells;obtain⟨b3,O,rfl,V⟩:=HK.o.2.2 qdW;have l:i<v.length:=by have:=HVL.o;omega
  have D:=(V i l).1;have l':=bzu f.az (G 0 _ rfl);have K:=zh (fun j u hj=>azk f.az (G j u hj));have W:=mK U Q P;have hl2:(nE d[i] kc x y).length=19:=rfl;have H0:(nE d[i] kc x y).toArray[0]?=some kc:=rfl;have i':=HR.o.1 i hlt l;have HS:=zh (HH.o.1 i hlt l);have B:∀k:Nat,k<d[i].1.length->bL d[i].1 (k:Int)=((d[i].1)[k]?.map (·.bW)).getD false:=fun k hk=>by rw[lY _ _ hk];simp[hk]
  have A:∀z:Int,z<0->bL d[i].1 z=false:=fun z hz=>by unfold bL;rw[zK hz]
  have HQ:=zh (zi B A);have HO:=zh (f.al RF 68);obtain⟨ta,tc,rfl,t1,t2,t3⟩:=U;unfold maxLen at t2;have HT:=zh t3;generalize nE d[i] _ x y=M at*
  generalize v[i]=E at*
  generalize d[i].1=T at*
  generalize hk i=r at*
  clear f Q P G J V t3 B A
  go_wp2_with (first
   |refine aj qB rfl (.tmp 16) rfl rfl M hl2 K.o ?_
   | refine aA qB rfl (.tmp 7) (.tmp 17) rfl (cs:=M.toArray) rfl rfl rfl qdT (fun u hu=>W u hu) HO.o.obj ?_)
  intro w1 g p;have a:=HO.o.aQ g p;have gb:=g.cell H0;have n':=a.obj.lt;have x1:=azk a.az D;have xl:=bzu a.az D;have HO1:=zh a.tail;by_cases t:0<=E
  .obtain⟨k,rfl⟩:=zT t;have hkt:k<T.length:=zo;obtain⟨tb,to,rfl,t4⟩:=HT.o qeo;obtain⟨s1,-⟩:=t4 k hkt;have y1:=azk a.az s1;have yl:=bzu a.az s1;have H:=HQ.o.1 k hkt;rw[yH hkt]at H;simp only[vH,xA]at H;rw[H]at HS;generalize T[k].bW=acc at*
   clear a HO g p K D s1 t4 H HQ;have hd:decide (0<=(k:Int))=true:=zN zo;cases acc
   all_goals
    simp only[if_true,if_false,Bool.false_eq_true]at HS;go_wp2
    go_quiet (fail)
    exact qgK
  .have hd:decide (0<=E)=false:=zM t;have H:=HQ.o.2 E zo;rw[H]at HS;simp only[if_false,Bool.false_eq_true]at HS;clear a HO g p K D H HQ;go_wp2
   go_quiet (fail)
   exact qgK
 .obtain rfl:i=d.length:=zo;have HO:=zh f;clear f hX;go_wp2;refine aB [1,2,5,39,40,41] (fun q N L=>∃(i:Nat),i<=s.length/\q=s.length-i/\N=[.slice a3 v.length c3,.p w.heap.size,.j (hk (d.length+i):Int),.slice a1 s.length Z,.j (s.length:Int),.j (i:Int)] /\
   Own w m L m [.obj w.heap.size 62 #[.slice a1 s.length Z,.slice a2 d.length Y]]) ?_ ?_
  .exact qbo
  clear HO g0 g1 gl S;rintro X z q N L hX-⟨i,hi,rfl,rfl,f⟩;simp[bz,lk];have S:=HL.o (d.length+i);have g0:=f.obj.c 0;have g1:=f.obj.c 1;have gl:=f.obj.lt;by_cases hlt:i<s.length
  .obtain⟨b,off,rfl,J⟩:=HK.o.1 qdJ;obtain⟨x,y,G,Q,P⟩:=(J i hlt).cells;obtain⟨b3,O,rfl,V⟩:=HK.o.2.2 qdW;have l:d.length+i<v.length:=by have:=HVL.o;omega
   have D:=(V (d.length+i) l).1;have l':=bzu f.az (G 0 _ rfl);have K:=zh (fun j u hj=>azk f.az (G j u hj));have W:=mM Q P;have hl2:(qx s[i] x y).length=20:=rfl;have H0:(qx s[i] x y).toArray[0]?=some (.string s[i].1.1):=rfl;have i':=HR.o.2 i hlt l;have h':=(J i hlt).sz;have HS:=zh (HH.o.2 i hlt l);have HO:=zh (f.al RJ 82);unfold maxLen at h';generalize qx s[i] x y=M at*
   generalize v[d.length+i]=E at*
   generalize s[i].1.1=F at*
   generalize hk (d.length+i)=r at*
   clear f Q P G J V
   go_wp2_with (first
    |refine aj tu rfl (.tmp 44) rfl rfl M hl2 K.o ?_
    | refine aA tu rfl (.tmp 9) (.tmp 45) rfl (cs:=M.toArray) rfl rfl rfl qdT (fun u hu=>W u hu) HO.o.obj ?_)
   intro w1 g p;have a:=HO.o.aQ g p;have g0:=a.av.obj.c 0;have g1:=a.av.obj.c 1;have gl:=a.av.obj.lt;have gb:=g.cell H0;have n':=a.obj.lt;have x1:=azk a.az D;have xl:=bzu a.az D;have HO1:=zh a.tail;clear a HO g p K D;by_cases I:E=(F.size:Int)
   .have hd:(E==(F.size:Int))=true:=beq_iff_eq.2 I;rw[zK I]at HS;clear I;go_wp2
    go_quiet (fail)
    exact qgK
   .have hd:(E==(F.size:Int))=false:=zO.2 I;rw[zJ I]at HS;clear I;go_wp2
    go_quiet (fail)
    exact qgK
  .obtain rfl:i=s.length:=zo;have HB:=zh f.aF;clear f hX;go_wp2;exact hR.o _ _ ⟨by rw[HA.o]<;>rfl,HB.o⟩
def ez5(m:Mem)(b o:Nat)(x:Nat):Prop:=m.cell b o=some (.int .u8 (x:Int))/\x<256
def Vg(m:Mem)(v:zV)(l:List Nat):Prop:=Mem.uR (ez5 m) v l
theorem Y3{m m':Mem}(h:m.le m'){v:zV}{l:List Nat}(k:Vg m v l):Vg m' v l:=ezP k fun _ _ _ k=>⟨bzv h k.1,k.2⟩
theorem MZ{w:zW}{t:TypeId}{v:zV}{l:List Nat}{m:Mem}(d:w.ownsRow 0 t 1 v l.length (l.map fun x:Nat=>Value.int .u8 (x:Int)))(hk:∀x∈l,x<256):Vg (m.iA w v) v l:=by
 have h:=eY (R:=fun b o x=>ez5 (m.iA w v) b o x) d fun g f i h=>⟨eO d f m qeE,hk _ (zF h)⟩;obtain⟨a,c,r,q,p,n⟩:=h;exact⟨a,c,r,q,p,fun e=>by
  obtain⟨b,off,k,j⟩:=n e;exact⟨b,off,k,fun i hi=>by have:=j i hi;rwa [Nat.mul_one]at this⟩⟩
def WP(c:St)(v:List Int)(k b:Nat):Prop:=b=0\/∃i,∃h:i<c.2.length,i<k/\Jb (vL (c.2[i]).1 (v.getD i (-1))) b
def Zh(c:St)(v:List Int)(k b:Nat):Prop:=WP c v c.2.length b\/∃i,∃h:i<c.1.length,i<k/\czl (c.1[i]).1.1.data.toList (v.getD (c.2.length+i) (-1)) b
theorem WO{c:St}{v:List Int}{k:Nat}(h:k<c.2.length)(b:Nat):WP c v (k+1) b↔WP c v k b\/Jb (vL (c.2[k]).1 (v.getD k (-1))) b:=by
 constructor
 .rintro(d|⟨i,hi,hk,a⟩)
  .exact .inl (.inl d)
  .by_cases e:i=k
   .subst e;exact .inr a
   .exact .inl (.inr ⟨i,hi,zo,a⟩)
 .rintro((d|⟨i,hi,hk,a⟩)|a)
  .exact .inl d
  .exact .inr ⟨i,hi,zo,a⟩
  .exact .inr ⟨k,h,zo,a⟩
theorem WN{c:St}{v:List Int}{k:Nat}(h:k<c.1.length)(b:Nat):Zh c v (k+1) b↔Zh c v k b\/czl (c.1[k]).1.1.data.toList (v.getD (c.2.length+k) (-1)) b:=by
 constructor
 .rintro(d|⟨i,hi,hk,a⟩)
  .exact .inl (.inl d)
  .by_cases e:i=k
   .subst e;exact .inr a
   .exact .inl (.inr ⟨i,hi,zo,a⟩)
 .rintro((d|⟨i,hi,hk,a⟩)|a)
  .exact .inl d
  .exact .inr ⟨i,hi,zo,a⟩
  .exact .inr ⟨k,h,zo,a⟩
theorem WM(c:St)(v:List Int)(b:Nat):Zh c v 0 b↔WP c v c.2.length b:=⟨fun h=>h.elim id fun⟨i,_,hk,_⟩=>absurd hk (xY i),.inl⟩
theorem Zg(c:St)(v:List Int)(b:Nat):Zh c v c.1.length b↔JW c v b:=by
 constructor
 .rintro((h|⟨i,hi,-,a⟩)|⟨i,hi,-,a⟩)
  .exact .inl h
  .exact .inr (.inl ⟨i,hi,a⟩)
  .exact .inr (.inr ⟨i,hi,a⟩)
 .rintro(h|⟨i,hi,a⟩|⟨i,hi,a⟩)
  .exact qcT
  .exact .inl (.inr ⟨i,hi,hi,a⟩)
  .exact .inr ⟨i,hi,hi,a⟩
theorem X7{es:List Ed}{j:Nat}(h:j<es.length)(b:Nat):Jb (es.take (j+1)) b↔Jb (es.take j) b\/mU es[j] b:=yg h b
theorem Md(l:aK)(k:Nat)(h:k<l.length):vL l (k:Int)=(l[k]).bu:=by
 unfold vL;rw[zJ zo];simp[h]
noncomputable def marked(P:Nat->Prop)(q:Nat):List Nat:=(List.range q).filter fun b=>tf (P b)
theorem Qa(P:Nat->Prop)(n:Nat):marked P (n+1)=marked P n++if tf (P n)then[n]else[]:=by
 unfold marked;rw[List.range_succ,List.filter_append]
 congr 1
 cases h:tf (P n)<;>simp[h]
theorem Ld(P:Nat->Prop)(n:Nat):∀x∈marked P n,x<n:=fun x a=>by
 simp only[marked,xR,yQ]at a;exact a.1
theorem Xr(P:Nat->Prop)(n:Nat):(marked P n).length<=n:=yJ (vB _ _) zS
theorem Tk{P:Nat->Prop}{n x:Nat}:x∈marked P n↔x<n/\P x:=by simp[marked,j4]
theorem ez6:fB prog 245 5 1 1:=⟨underlying245,zo,by
 obtain⟨i,d,c,b,a⟩:=info_parts (P:=prog) (e:=5) (z:=.int .u8 0) (size:=1) (bytes:=1) zk;exact⟨i,_,d,c,b,a,rfl⟩⟩
theorem getD_at{v:List Int}{i:Nat}(h:i<v.length):v.getD i (-1)=v[i]:=by simp[h]
theorem fzR:og prog 288 257:=⟨Tryz.isAgg288,Tryz.sizeOf288⟩
theorem JU(u u' va:zV)(c:St)(v:List Int)(m:Mem)(n:Nat)(w:zW)(hm:m.az w)(h1:gG (aY m n) m u c.1)(E:gM (aY m n) m u' c.2)(hv:iT m va v)(hV:Bi (dU c) v)(H:∀k∈c.2,WF k.1):
 zC 197 #[.agg #[u,u'],va] w fun e w'=>∃r,e=.returned r/\zB w w'/\Vg (m.grow w w') r (marked (JW c v) 256):=by
 have hS:=StV.of hV;have HVL:=zh hS.len;obtain⟨a1,c1,rfl,p1,q1,k1⟩:=h1;obtain⟨a2,c2,rfl,p2,q2,k2⟩:=E;obtain⟨a3,c3,rfl,p3,q3,k3⟩:=hv;unfold maxLen at q1 q2 q3;have HR:=zh (zi hS.ezb hS.ezc);have HK:=zh qgi;have HW:=zh (fun i (h:i<c.2.length)=>H c.2[i] (zF h));have O':=zh (fun k (h:k<c.2.length) b=>WO (v:=v) h b);have N':=zh (fun k (h:k<c.1.length) b=>WN (v:=v) h b);have HZ:=zh (WM c v);have HA:=zh (Zg c v);have N:∀b,WP c v 0 b↔b=0:=fun b=>⟨fun h=>h.elim id fun⟨i,_,hk,_⟩=>absurd hk (xY i),.inl⟩;have S':=zh N;have f:=(Own.start hm).al #[.slice a1 c.1.length c1,.slice a2 c.2.length c2] 62;clear hV hS k1 k2 k3 H N;generalize WP c v=M1 at*
 generalize Zh c v=M2 at*
 generalize JW c v=K at*
 generalize c.2=g at*
 generalize c.1=B at*
 refine au fun R hR=>?_;have hO2:=f.al zeroCells288 288;simp only[bB]at hO2;have z1:zeroCells288.size=257:=by rw[Ci];simp
 have z2:∀u∈(zeroCells288.setIfInBounds 0 (.bool true)).toList,u.oneCell'=true:=fun u P=>by
  rw[Ci,qV,jQ]at P;simp only[lq,yD,yQ]at P;obtain⟨b,-,rfl⟩:=P;rfl
 have HO2:=zh (zi hO2 z2);have z3:(zeroCells288.setIfInBounds 0 (.bool true)).size=257:=by simp[z1]
 clear f hO2 z2
 go_enter func197,ntmps197
 go_wp2_with (refine aA fzR rfl (.tmp 5) (.tmp 15) rfl (cs:=zeroCells288.setIfInBounds 0 (.bool true)) rfl rfl z1 z3 HO2.o.2 HO2.o.1.obj ?_)
 intro w0 k' o';have f:=HO2.o.1.aQ k' o';rw[Ci,qV,jQ,dZ (P':=M1 0) (by intro b _;rw[S'.o];simp)]at f;have g0:=f.av.obj.c 0;have g1:=f.av.obj.c 1;have Z:=f.av.obj.lt;have HO:=zh f;clear HO2 k' o' f z1 z3;go_wp2;refine aB [1,2,5,17,18,19] (fun q F V=>∃(i:Nat),i<=g.length/\q=g.length-i/\F=[.slice a3 v.length c3,.p w.heap.size,.p (w.heap.size+1),.slice a2 g.length c2,.j (g.length:Int),.j (i:Int)] /\
  Own w m V m [.obj (w.heap.size+1) 288 (lq (M1 i) 257),.obj w.heap.size 62 #[.slice a1 B.length c1,.slice a2 g.length c2]]) ?_ ?_
 .exact qbo
 clear HO g0 g1 Z;rintro X z q F V hX-⟨i,hi,rfl,rfl,f⟩;simp[bz,lk];have g0:=f.av.obj.c 0;have g1:=f.av.obj.c 1;have Z:=f.av.obj.lt;by_cases hlt:i<g.length
 .obtain⟨b,off,rfl,h4⟩:=HK.o.2.1 qdJ;obtain⟨kc,x,y,n',J,W,hy⟩:=(h4 i hlt).cells;obtain⟨b3,O,rfl,h5⟩:=HK.o.2.2 qdW;have t:i<v.length:=by have:=HVL.o;omega
  have I:=(h5 i t).1;have q':=bzu f.az (J 0 _ rfl);have HC:=zh (fun j u hj=>azk f.az (J j u hj));have E:=mK n' W hy;have hl2:(nE g[i] kc x y).length=19:=rfl;have H0:(nE g[i] kc x y).toArray[0]?=some kc:=rfl;have I':=HR.o.1 i hlt t;have HS:=zh (O'.o i hlt);have U:∀z:Int,z<0->vL g[i].1 z=[]:=fun z hz=>by unfold vL;rw[zK hz]
  have H:=HW.o i hlt;rw[getD_at t]at HS;have HQ:=zh (zi U H);have HO:=zh (f.al RF 68);obtain⟨ta,tc,rfl,t1,t2,t3⟩:=n';unfold maxLen at t2;have HT:=zh t3;generalize nE g[i] _ x y=M at*
  generalize v[i]=G at*
  generalize g[i].1=T at*
  clear f W hy J h4 h5 t3 U H
  go_wp2_with (first
   |refine aj qB rfl (.tmp 22) rfl rfl M hl2 HC.o ?_
   | refine aA qB rfl (.tmp 7) (.tmp 23) rfl (cs:=M.toArray) rfl rfl rfl qdT (fun u P=>E u P) HO.o.obj ?_)
  intro w1 p s;have a:=HO.o.aQ p s;have gb:=p.cell H0;have s':=a.obj.lt;have x1:=azk a.az I;have xl:=bzu a.az I;have A:=zh a.tail;by_cases S:G<0
  .have hd:decide (G<0)=true:=zN S;have ha:=HQ.o.1 G S;rw[ha]at HS;have HO2:=A.o;rw[dZ (P':=M1 (i+1)) (by intro b _;rw[HS.o];simp[Jb])]at HO2;have HO2:=zh HO2;clear a HO p s HC I ha HQ HS A;exact qbk
  .obtain⟨k,rfl⟩:=zT (by omega:0<=G);have hkt:k<T.length:=zo;obtain⟨tb,to,rfl,t4⟩:=HT.o qeo;obtain⟨s1,ve,s2,ea,ec,rfl,e4,e5,e6⟩:=t4 k hkt;have y1:=azk a.az s2;have yl:=bzu a.az s2;have m':=lJ (HQ.o.2 T[k] (zF hkt));rw[Md T k hkt]at HS;have Q':=zh m';have R':=zh e6;unfold maxLen at e5;have hd:decide ((k:Int)<0)=false:=zM zo;generalize T[k].bu=es at*
   clear a HO p s HC I s1 s2 t4 HQ m' e6;go_wp2
   go_quiet (fail)
   go_wp2;refine aB [1,2,5,17,18,19,38,39,40] (fun q F w2=>∃(j:Nat),j<=es.length/\q=es.length-j/\F=[.slice (some ⟨b3,O,none⟩) v.length c3,.p w.heap.size,.p (w.heap.size+1),.slice (some ⟨b,off,none⟩) g.length c2,.j (g.length:Int),.j (i:Int),.slice ea es.length ec,.j (es.length:Int),.j (j:Int)] /\
    Own w m w2 m [.obj (w.heap.size+1) 288 (lq (fun b=>M1 i b\/Jb (es.take j) b) 257),.obj w.heap.size 62 #[.slice a1 B.length c1,.slice (some ⟨b,off,none⟩) g.length c2]]) ?_ ?_
   .refine⟨_,0,zG _,rfl,rfl,?_⟩;have:=A.o;rw[dZ (P':=fun b=>M1 i b\/Jb (es.take 0) b) (by intro b _;simp[Jb])]at this;exact this.FN _
   clear A g0 g1 Z gb s' x1 xl y1 yl;rintro Y z2 q2 F w2 hY-⟨j,hj,rfl,rfl,hO2⟩;simp[bz,lk];by_cases hlt2:j<es.length
   .obtain⟨b',off',rfl,N⟩:=R'.o qd7;obtain⟨I,e2,e3,e4',e5',-⟩:=N j hlt2;have hle:=(Q'.o es[j] (zF hlt2)).1;have d1:=azk hO2.az I;have d2:=azk hO2.az e2;have d3:=azk hO2.az e3;have hb1:=bzu hO2.az I;have s:=hO2.obj.lt;have k1:=hO2.obj.cell (jw (i:=es[j].lo) zo);have k2:=hO2.obj.cell (jw (i:=es[j].hi+1) zo);have k3:=hO2.obj.frozen es[j].lo;have k4:=hO2.obj.frozen (es[j].hi+1);have J':es[j].lo≠es[j].hi+1:=zo;have l':es[j].hi+1≠es[j].lo:=zo;have hO3:=(((hO2.set es[j].lo (.bool true)).set (es[j].hi+1) (.bool true))).al' (.cells #[.int .u8 es[j].lo,.int .u8 es[j].hi,.int .i64 es[j].to] 102);rw[jQ,jQ,dZ (P':=fun b=>M1 i b\/Jb (es.take (j+1)) b) (by
     intro b _;rw[X7 hlt2];unfold mU;constructor
     .rintro((h|h)|h)
      .exact h.elim .inl (fun h=>.inr (.inl h))
      .exact .inr (.inr (.inl h.symm))
      .exact .inr (.inr (.inr h.symm))
     .rintro(h|h|h|h)
      .exact qdm
      .exact qdl
      .exact .inl (.inr h.symm)
      .exact .inr h.symm)]at hO3
    have HO3:=zh hO3;clear hO3;go_wp2
    go_region
    all_goals go_wp2
    all_goals exact hY.o _ _ _ zo rfl ⟨j+1,zo,rfl,rfl,HO3.o.FN _⟩
   .rw[dZ (P':=M1 (i+1)) (by
     intro b _;rw[HS.o,xH (l:=es) (i:=j) zo])]at hO2
    exact qca
 .obtain rfl:i=g.length:=zo;rw[dZ (P':=M2 0) (by intro b _;rw[HZ.o])]at f;have HO:=zh f;clear f hX;go_wp2;refine aB [1,2,5,55,56,57] (fun q F V=>∃(i:Nat),i<=B.length/\q=B.length-i/\F=[.slice a3 v.length c3,.p w.heap.size,.p (w.heap.size+1),.slice a1 B.length c1,.j (B.length:Int),.j (i:Int)] /\
   Own w m V m [.obj (w.heap.size+1) 288 (lq (M2 i) 257),.obj w.heap.size 62 #[.slice a1 B.length c1,.slice a2 g.length c2]]) ?_ ?_
  .exact qbo
  clear HO g0 g1 Z;rintro X z q F V hX-⟨i,hi,rfl,rfl,f⟩;simp[bz,lk];have g0:=f.av.obj.c 0;have g1:=f.av.obj.c 1;have Z:=f.av.obj.lt;by_cases hlt:i<B.length
  .obtain⟨b,off,rfl,h4⟩:=HK.o.1 qdJ;obtain⟨x,y,J,W,hy⟩:=(h4 i hlt).cells;obtain⟨b3,O,rfl,h5⟩:=HK.o.2.2 qdW;have t:g.length+i<v.length:=by have:=HVL.o;omega
   have I:=(h5 (g.length+i) t).1;have q':=bzu f.az (J 0 _ rfl);have HC:=zh (fun j u hj=>azk f.az (J j u hj));have E:=mM W hy;have hl2:(qx B[i] x y).length=20:=rfl;have H0:(qx B[i] x y).toArray[0]?=some (.string B[i].1.1):=rfl;have I':=HR.o.2 i hlt t;have H':=(h4 i hlt).sz;have HS:=zh (N'.o i hlt);rw[getD_at t]at HS;have hwb:=f.obj.lt;have HO:=zh (f.al RJ 82);unfold maxLen at H';generalize qx B[i] x y=M at*
   generalize v[g.length+i]=G at*
   generalize B[i].1.1=d at*
   clear f W hy J h4 h5
   go_wp2_with (first
    |refine aj tu rfl (.tmp 60) rfl rfl M hl2 HC.o ?_
    | refine aA tu rfl (.tmp 11) (.tmp 61) rfl (cs:=M.toArray) rfl rfl rfl qdT (fun u P=>E u P) HO.o.obj ?_)
   intro w1 p s;have a:=HO.o.aQ p s;have g0:=a.aR.obj.c 0;have g1:=a.aR.obj.c 1;have Z:=a.aR.obj.lt;have gb:=p.cell H0;have s':=a.obj.lt;have x1:=azk a.az I;have xl:=bzu a.az I;have a:=a.tail;have A:=zh a;clear HO p s HC I;by_cases D:0<=G/\G<(d.size:Int)
   .obtain⟨k,rfl⟩:=zT D.1;have hk:k<d.size:=zo;have p':decide (0<=(k:Int))=true:=zN zo;have K':decide ((k:Int)<(d.size:Int))=true:=zN zo;have P:=UInt8.toNat_lt d[k];have k1:=a.obj.cell (jw (i:=d[k].toNat) zo);have k2:=a.obj.cell (jw (i:=d[k].toNat+1) zo);have k3:=a.obj.frozen d[k].toNat;have k4:=a.obj.frozen (d[k].toNat+1);have J':d[k].toNat≠d[k].toNat+1:=zo;have l':d[k].toNat+1≠d[k].toNat:=zo;have hn2:V.heap.size≠w.heap.size+1:=zo;have hn3:w.heap.size+1≠V.heap.size:=zo;have s:=a.obj.lt;have hO3:=(a.set d[k].toNat (.bool true)).set (d[k].toNat+1) (.bool true);have L:d.data.toList[((k:Nat):Int).toNat]?=some d[k]:=by
     simp only[Int.toNat_natCast];rw[yH (by rw[EE];exact hk)]
     rfl
    rw[jQ,jQ,dZ (P':=M2 (i+1)) (by
     intro b _;rw[HS.o];constructor
     .rintro((h|h)|h)
      .exact .inl h
      .exact .inr ⟨zo,_,L,.inl h.symm⟩
      .exact .inr ⟨zo,_,L,.inr h.symm⟩
     .rintro(h|⟨-,u,h1,E⟩)
      .exact qcT
      .rw[L]at h1;cases h1;rcases E with E|E
       .exact .inl (.inr E.symm)
       .exact .inr E.symm)]at hO3
    have HO3:=zh hO3;clear a D HS hO3 L A;go_wp2
    go_region
    all_goals go_wp2
    all_goals exact hX.o _ _ _ zo rfl ⟨i+1,zo,rfl,rfl,HO3.o.FN _⟩
   .have hO2:=a;rw[dZ (P':=M2 (i+1)) (by
     intro b _;rw[HS.o];constructor
     .exact .inl
     .rintro(h|⟨h1,u,E,-⟩)
      .exact h
      .have:=(yB.1 E).1;rw[EE]at this;exact absurd ⟨h1,zo⟩ D)]at hO2
    have HO2:=zh hO2;clear a hO2 A HS;by_cases h0:0<=G
    .have p':decide (0<=G)=true:=zN h0;have K':decide (G<(d.size:Int))=false:=zM fun h=>D ⟨h0,h⟩;clear D;exact qbk
    .have p':decide (0<=G)=false:=zM h0;clear D;exact qbk
  .obtain rfl:i=B.length:=zo;rw[dZ (P':=K) (by intro b _;rw[HA.o])]at f;have HO:=zh f;clear f hX;go_wp2;refine aB [5,13,92] (fun n F w2=>∃(q:Nat) (r:zV),q<=256/\n=256-q/\F=[.p (w.heap.size+1),r,.j (q:Int)] /\
    Own w m w2 m [.row r 5 1 (marked K q).length ((marked K q).map fun x:Nat=>Value.int .u8 (x:Int)),.obj (w.heap.size+1) 288 (lq K 257)]) ?_ ?_
   .exact⟨_,0,.n,zo,rfl,rfl,HO.o.bM.fE _ _⟩
   clear HO g0 g1 Z;rintro Y z2 n F w2 hY-⟨q,r,hq,rfl,rfl,hO2⟩;simp[bz,lk];by_cases hlt2:q<256
   .have k1:=hO2.av.obj.cell (jw (i:=q) zo);have hg:=hO2.av.obj.lt;have q':=Xr K q;have C:=Qa K q;by_cases J:K q
    .have ht:=aN J;rw[ht]at k1;rw[ht,zK rfl]at C;have Hsu:=zh C;clear C ht;have hO3:=hO2.al #[.int .u8 q] 5
     go_wp2_with (at_builtin;refine aU ez6 rfl (.tmp 98) (.tmp 101) rfl r (marked K q).length ((marked K q).map fun x:Nat=>Value.int .u8 (x:Int)) rfl hO3.av.row ⟨w2.heap.size,0,none⟩ 1 1 [.int .u8 q] rfl rfl (hO3.obj.dQ rfl) qdN qdM zo ?_)
     exact qaN
    .have ht:=aG J;rw[ht]at k1;rw[ht,zJ zS,yR]at C;have Hsu:=zh C;clear C ht;go_wp2;refine hY.o _ _ _ zo rfl ⟨q+1,r,zo,rfl,rfl,?_⟩;rw[Hsu.o];exact hO2
   .obtain rfl:q=256:=zo;have Q:=Y3 hO2.bP.done (MZ (m:=m) hO2.row (fun x W=>Ld K 256 x W));have Hfin:=zh (zi hO2.aF Q);clear Q hO2;go_wp2;exact qa5
def afK(c:St)(v:List Int)(b k:Nat):List Int:=Ca (dU c) v b k
structure AfV (c:St) (v:List Int) (b:Nat):Prop where
 len:∀k,k<=v.length->(afK c v b k).length=v.length
 zero:afK c v b 0=List.replicate v.length (-1)
 all:afK c v b v.length=iD (dU c) v b
 self:∀k,k<v.length->(afK c v b k).set k (-1)=afK c v b k
 tab:∀i (h:i<c.2.length) (hv:i<v.length),(afK c v b i).set i (cu c.2[i].1 v[i] b)=afK c v b (i+1)
 lab:∀i (h:i<c.1.length) (hv:c.2.length+i<v.length),(afK c v b (c.2.length+i)).set (c.2.length+i) (nL c.1[i].1.1.data.toList v[c.2.length+i] b)=afK c v b (c.2.length+(i+1))
theorem AfV.of{c:St}{v:List Int}(h:v.length=(dU c).length)(b:Nat):AfV c v b:=by
 have g:=GH c;have e:∀i (hi:i<c.2.length) (d:i<(dU c).length),(dU c)[i]=kT (c.2[i]).1:=fun i hi d=>by
  simp only[dU];rw[xM qec];simp
 have f:∀i (hi:i<c.1.length) (d:c.2.length+i<(dU c).length),(dU c)[c.2.length+i]=rG (c.1[i]).1.1.data.toList:=fun i hi d=>by
  simp only[dU];rw[List.getElem_append_right zS];simp
 refine⟨fun k hk=>bzh h.symm b hk,Yx _ _ _,bzi h.symm b,fun k hk=>?_,fun i hi a=>?_,fun i hi a=>?_⟩
 .show(Ca _ _ _ _).set _ _=Ca _ _ _ _;rw[Rt h.symm b hk];unfold Ca;rw[show v.length-k=(v.length-(k+1))+1 by omega,List.replicate_succ]
 .have:=Mt h.symm b a;rw[e i hi]at this;exact this
 .have:=Mt h.symm b a;rw[f i hi]at this;rw[<-Nat.add_assoc];exact this
def oH(l:List Int):List Value:=l.map (Value.int .i64)
theorem BK(l:List Int)(i:Nat)(x:Int):(oH l).set i (.j x)=oH (l.set i x):=by simp[oH,List.map_set]
theorem BL{l:List Int}{i:Nat}(h:i<l.length):(oH l)[i]?=some (.j l[i]):=by simp[oH,h]
theorem dzH:OM prog 240 3 8 (.j 0):=⟨underlying240,zk,rfl⟩
theorem azA(n i:Nat)(h:i<n):(List.replicate i (-1:Int)++List.replicate (n-i) 0).set i (-1)=List.replicate (i+1) (-1)++List.replicate (n-(i+1)) 0:=by
 rw[List.set_append_right _ _ zS,List.length_replicate,Nat.sub_self,show n-i=(n-(i+1))+1 by omega,List.replicate_succ,List.set_cons_zero,List.replicate_succ',xD]
 rfl
theorem Wx(l:aK)(k:Nat)(h:k<l.length)(a:WF l)(b:Nat):cu l (k:Int) b=qd b (l[k]).bu (-1):=by
 rw[<-Xz a,Md l k h]
theorem MR(u u' va:zV)(c:St)(v:List Int)(g:Nat)(m:Mem)(n:Nat)(w:zW)(hm:m.az w)(h1:gG (aY m n) m u c.1)(h2:gM (aY m n) m u' c.2)(hv:iT m va v)(hV:Bi (dU c) v)(F:∀k∈c.2,WF k.1)(_:g<256)(hvl:v.length<=1000000)(q':∀x∈iD (dU c) v g,-9223372036854775808<=x/\x<=9223372036854775807):
 zC 198 #[.agg #[u,u'],va,.int .u8 g] w fun e w'=>∃r,e=.returned r/\zB w w'/\iT (m.grow w w') r (iD (dU c) v g):=by
 have hS:=StV.of hV;have Z:=AfV.of hV.len g;have HVL:=zh hS.len;obtain⟨a1,c1,rfl,p1,q1,k1⟩:=h1;obtain⟨a2,V,rfl,p2,q2,k2⟩:=h2;obtain⟨a3,c3,rfl,p3,q3,k3⟩:=hv;unfold maxLen at q1 q2 q3;have HR:=zh (zi hS.ezb hS.ezc);have HK:=zh qgi;have HW:=zh (fun i (h:i<c.2.length)=>F c.2[i] (zF h));have g':=zh Z.len;have W':=zh Z.zero;have z':=zh Z.all;have y':=zh Z.self;have X':=zh Z.tab;have Y':=zh Z.lab;have U':=zh q';have d:=(Own.start hm).al #[.slice a1 c.1.length c1,.slice a2 c.2.length V] 62;have HO:=zh d;clear hV hS Z k1 k2 k3 F d q';generalize afK c v g=O at*
 generalize iD (dU c) v g=VS at*
 generalize c.2=f at*
 generalize c.1=B at*
 refine au fun R hR=>?_
 go_enter func198,ntmps198
 go_wp2_with (refine wpList_make_row dzH rfl (.tmp 18) (.tmp 18) rfl v.length rfl rfl zo qdM ?_)
 intro w1 p A;rw[<-bB w (.cells #[.slice a1 B.length c1,.slice a2 f.length V] 62)]at p;have d:=HO.o.make p A;simp only[bB]at d;have HO1:=zh d;clear HO p A d;go_wp2;refine aB [1,2,3,7,21,22] (fun q I K=>∃(i:Nat),i<=v.length/\q=v.length-i/\I=[.slice a3 v.length c3,.int .u8 g,.p w.heap.size,.slice (some ⟨w.heap.size+1,0,none⟩) v.length v.length,.j (v.length:Int),.j (i:Int)] /\
  Own w m K m [.row (.slice (some ⟨w.heap.size+1,0,none⟩) v.length v.length) 3 1 v.length (oH (List.replicate i (-1)++List.replicate (v.length-i) 0)),.obj w.heap.size 62 #[.slice a1 B.length c1,.slice a2 f.length V]]) ?_ ?_
 .exact⟨_,0,zG _,rfl,rfl,by simpa [oH]using HO1.o⟩
 clear HO1;rintro X z q I K hX-⟨i,hi,rfl,rfl,d⟩;simp[bz,lk];by_cases hlt:i<v.length
 .have r1:=bO d.row (BL (i:=i) qdQ);have r2:=fD d.row i;have rl:=d.av.obj.lt;have hO2:=d.setRow i (.j (-1));rw[BK,azA _ _ hlt]at hO2;have HO2:=zh hO2;clear d hO2;exact qbk
 .obtain rfl:i=v.length:=zo;rw[Nat.sub_self,List.replicate_zero,yR,<-W'.o]at d;have g0:=d.av.obj.c 0;have g1:=d.av.obj.c 1;have gl:=d.av.obj.lt;have HO:=zh d;clear d hX;go_wp2;refine aB [1,2,3,7,30,31,32] (fun q I K=>∃(i:Nat),i<=f.length/\q=f.length-i/\I=[.slice a3 v.length c3,.int .u8 g,.p w.heap.size,.slice (some ⟨w.heap.size+1,0,none⟩) v.length v.length,.slice a2 f.length V,.j (f.length:Int),.j (i:Int)] /\
   Own w m K m [.row (.slice (some ⟨w.heap.size+1,0,none⟩) v.length v.length) 3 1 v.length (oH (O i)),.obj w.heap.size 62 #[.slice a1 B.length c1,.slice a2 f.length V]]) ?_ ?_
  .exact qbo
  clear HO g0 g1 gl;rintro X z q I K hX-⟨i,hi,rfl,rfl,d⟩;simp[bz,lk];have g0:=d.av.obj.c 0;have g1:=d.av.obj.c 1;have gl:=d.av.obj.lt;by_cases hlt:i<f.length
  .obtain⟨b,off,rfl,h4⟩:=HK.o.2.1 qdJ;obtain⟨kc,x,y,s',W,hx,hy⟩:=(h4 i hlt).cells;obtain⟨b3,P,rfl,h5⟩:=HK.o.2.2 qdW;have t:i<v.length:=by have:=HVL.o;omega
   have H:=(h5 i t).1;have R':=bzu d.az (W 0 _ rfl);have HC:=zh (fun j u hj=>azk d.az (W j u hj));have h2:=mK s' hx hy;have hl2:(nE f[i] kc x y).length=19:=rfl;have H0:(nE f[i] kc x y).toArray[0]?=some kc:=rfl;have M':=HR.o.1 i hlt t;have F:=HW.o i hlt;have HS:=zh (X'.o i hlt t);have G:=zh (zi (y'.o i t) (g'.o i zo));have HQ:=zh (zi (fun z (hz:z<0)=>qC (l:=f[i].1) hz g) (zi (fun(k:Nat) (hk:k<f[i].1.length)=>Wx f[i].1 k hk F g) F));have HO:=zh (d.al RF 68);obtain⟨ta,tc,rfl,t1,t2,t3⟩:=s';unfold maxLen at t2;have HT:=zh t3;generalize nE f[i] _ x y=M at*
   generalize v[i]=E at*
   generalize f[i].1=T at*
   clear d hx hy W h4 h5 t3 F
   go_wp2_with (first
    |refine aj qB rfl (.tmp 35) rfl rfl M hl2 HC.o ?_
    | refine aA qB rfl (.tmp 10) (.tmp 36) rfl (cs:=M.toArray) rfl rfl rfl qeZ (fun u hu=>h2 u hu) HO.o.obj ?_)
   intro w1 p A;have a:=HO.o.aQ p A;have gb:=p.cell H0;have x':=a.obj.lt;have x1:=azk a.az H;have xl:=bzu a.az H;have HO1:=zh a.tail;by_cases S:E<0
   .have hd:decide (E<0)=true:=zN S;have C:=HS.o;rw[HQ.o.1 E S,G.o.1]at C;have e':=zh C;clear a HO p A HC H HQ HS C;go_wp2;exact hX.o _ _ _ zo rfl ⟨i+1,zo,rfl,rfl,by rw[<-e'.o];exact HO1.o⟩
   .obtain⟨k,rfl⟩:=zT (by omega:0<=E);have hkt:k<T.length:=zo;obtain⟨tb,to,rfl,t4⟩:=HT.o qeo;obtain⟨s1,ve,s2,ea,ec,rfl,e4,e5,e6⟩:=t4 k hkt;have y1:=azk a.az s2;have yl:=bzu a.az s2;have C:=HS.o;rw[HQ.o.2.1 k hkt]at C;have e':=zh C;have V':=zh e6;unfold maxLen at e5;have hd:decide ((k:Int)<0)=false:=zM zo;generalize T[k].bu=es at*
    clear a HO p A HC H s1 s2 t4 HQ C e6;go_wp2
    go_quiet (fail)
    go_wp2;refine aB [1,2,3,7,9,30,31,32,51,52,53] (fun q I w2=>∃(j:Nat),j<=es.length/\q=es.length-j/\I=[.slice (some ⟨b3,P,none⟩) v.length c3,.int .u8 g,.p w.heap.size,.slice (some ⟨w.heap.size+1,0,none⟩) v.length v.length,.j (i:Int),.slice (some ⟨b,off,none⟩) f.length V,.j (f.length:Int),.j (i:Int),.slice ea es.length ec,.j (es.length:Int),.j (j:Int)] /\
     Own w m w2 m [.row (.slice (some ⟨w.heap.size+1,0,none⟩) v.length v.length) 3 1 v.length (oH ((O i).set i (qd g (es.take j) (-1)))),.obj w.heap.size 62 #[.slice a1 B.length c1,.slice (some ⟨b,off,none⟩) f.length V]]) ?_ ?_
    .refine⟨_,0,zG _,rfl,rfl,?_⟩;have:=HO1.o;rw[<-G.o.1]at this;exact this.FN _
    clear HO1 g0 g1 gl gb x' x1 xl y1 yl;rintro Y z2 q2 I w2 hY-⟨j,hj,rfl,rfl,hO2⟩;simp[bz,lk];by_cases hlt2:j<es.length
    .obtain⟨b',off',rfl,v'⟩:=V'.o qd7;obtain⟨H,e2,e3,e4',e5',-⟩:=v' j hlt2;have d1:=azk hO2.az H;have d2:=azk hO2.az e2;have d3:=azk hO2.az e3;have hb1:=bzu hO2.az H;have hlen:((O i).set i (qd g (es.take j) (-1))).length=v.length:=by rw[List.length_set];exact G.o.2
     have r1:=bO hO2.row (BL (i:=i) zo);have r2:=fD hO2.row i;have rl:=hO2.av.obj.lt;have n':w.heap.size+1<w2.heap.size:=bA.lt (hO2.ok _ (yF ..)) rfl;have r':=TE g (-1) hlt2;have HO2:=zh (hO2.al' (.cells #[.int .u8 es[j].lo,.int .u8 es[j].hi,.int .i64 es[j].to] 102));have D:=(hO2.setRow i (.j es[j].to)).al' (.cells #[.int .u8 es[j].lo,.int .u8 es[j].hi,.int .i64 es[j].to] 102);rw[BK,List.set_set]at D;have HO3:=zh D;have HLS:=zh r';generalize es[j]=e at*
     clear hO2 v' H e2 e3 r' D;by_cases m1:e.lo<=g
     .by_cases m2:g<=e.hi
      .have hq:qd g (es.take (j+1)) (-1)=e.to:=by rw[HLS.o,zK ⟨m1,m2⟩]
       have HQ:=zh hq;clear HLS hq;go_wp2;exact hY.o _ _ _ zo rfl ⟨j+1,zo,rfl,rfl,by rw[HQ.o];exact HO3.o⟩
      .have hq:qd g (es.take (j+1)) (-1)=qd g (es.take j) (-1):=by rw[HLS.o,zJ zo]
       exact qbW
     .have hq:qd g (es.take (j+1)) (-1)=qd g (es.take j) (-1):=by rw[HLS.o,zJ zo]
      exact qbW
    .rw[xH (l:=es) (i:=j) zo,e'.o]at hO2;exact qca
  .obtain rfl:i=f.length:=zo;have HO:=zh d;clear d hX;go_wp2;refine aB [1,2,3,7,75,76,77] (fun q I K=>∃(i:Nat),i<=B.length/\q=B.length-i/\I=[.slice a3 v.length c3,.int .u8 g,.p w.heap.size,.slice (some ⟨w.heap.size+1,0,none⟩) v.length v.length,.slice a1 B.length c1,.j (B.length:Int),.j (i:Int)] /\
    Own w m K m [.row (.slice (some ⟨w.heap.size+1,0,none⟩) v.length v.length) 3 1 v.length (oH (O (f.length+i))),.obj w.heap.size 62 #[.slice a1 B.length c1,.slice a2 f.length V]]) ?_ ?_
   .exact qbo
   clear HO g0 g1 gl;rintro X z q I K hX-⟨i,hi,rfl,rfl,d⟩;simp[bz,lk];have g0:=d.av.obj.c 0;have g1:=d.av.obj.c 1;have gl:=d.av.obj.lt;by_cases hlt:i<B.length
   .obtain⟨b,off,rfl,h4⟩:=HK.o.1 qdJ;obtain⟨x,y,W,hx,hy⟩:=(h4 i hlt).cells;obtain⟨b3,P,rfl,h5⟩:=HK.o.2.2 qdW;have t:f.length+i<v.length:=by have:=HVL.o;omega
    have H:=(h5 (f.length+i) t).1;have R':=bzu d.az (W 0 _ rfl);have HC:=zh (fun j u hj=>azk d.az (W j u hj));have h2:=mM hx hy;have hl2:(qx B[i] x y).length=20:=rfl;have H0:(qx B[i] x y).toArray[0]?=some (.string B[i].1.1):=rfl;have M':=HR.o.2 i hlt t;have L':=(h4 i hlt).sz;have HS:=zh (Y'.o i hlt t);have G:=zh (zi (y'.o (f.length+i) t) (g'.o (f.length+i) zo));have n':w.heap.size+1<K.heap.size:=bA.lt (d.ok _ (yF ..)) rfl;have HO:=zh (d.al RJ 82);unfold maxLen at L';generalize qx B[i] x y=M at*
    generalize v[f.length+i]=E at*
    generalize B[i].1.1=s at*
    clear d hx hy W h4 h5
    go_wp2_with (first
     |refine aj tu rfl (.tmp 80) rfl rfl M hl2 HC.o ?_
     | refine aA tu rfl (.tmp 14) (.tmp 81) rfl (cs:=M.toArray) rfl rfl rfl qeZ (fun u hu=>h2 u hu) HO.o.obj ?_)
    intro w1 p A;have a:=HO.o.aQ p A;have g0:=a.aR.obj.c 0;have g1:=a.aR.obj.c 1;have gl:=a.aR.obj.lt;have gb:=p.cell H0;have x':=a.obj.lt;have x1:=azk a.az H;have xl:=bzu a.az H;have a:=a.tail;have r1:=bO a.row (BL (l:=O (f.length+i)) (i:=f.length+i) (by rw[G.o.2];exact t));have r2:=fD a.row (f.length+i);have n':w.heap.size+1<w1.heap.size:=bA.lt (a.ok _ (yF ..)) rfl;have D:=a.setRow (f.length+i) (.j (E+1));rw[BK]at D;have HO3:=zh D;have HO1:=zh a;have U:∀(_:¬(0<=E/\(s.data.toList[E.toNat]?).map (·.toNat)=some g)),O (f.length+(i+1))=O (f.length+i):=fun h=>by
     rw[<-HS.o,show nL s.data.toList E g = -1 by unfold nL;rw[zJ h]];exact G.o.1
    have HN:=zh U;clear HO p A HC H a D U;by_cases h0:0<=E
    case neg=>
     have Q':decide (0<=E)=false:=zM h0;have HE:=zh (HN.o fun h=>h0 h.1);clear HN HS;exact qbu
    have Q':decide (0<=E)=true:=zN h0;by_cases h3:E<(s.size:Int)
    case neg=>
     have P':decide (E<(s.size:Int))=false:=zM h3;have HE:=zh (HN.o fun h=>by
      obtain⟨u,h5,-⟩:=Option.map_eq_some_iff.1 h.2;have:=(yB.1 h5).1;rw[EE]at this;omega)
     clear HN HS;exact qbu
    obtain⟨k,rfl⟩:=zT h0;have hk:k<s.size:=zo;have P':decide ((k:Int)<(s.size:Int))=true:=zN zo;have L:s.data.toList[((k:Nat):Int).toNat]?=some s[k]:=by
     simp only[Int.toNat_natCast];rw[yH (by rw[EE];exact hk)]
     rfl
    by_cases N:s[k].toNat=g
    .have O':((s[k].toNat:Int)==(g:Int))=true:=beq_iff_eq.2 zo;have hE:O (f.length+(i+1))=(O (f.length+i)).set (f.length+i) ((k:Int)+1):=by
      rw[<-HS.o]
      congr 1
      unfold nL;rw[zK ⟨zo,by rw[L];simp[N]⟩]
     have HE:=zh hE;clear HN HS hE L N;go_wp2;exact hX.o _ _ _ zo rfl ⟨i+1,zo,rfl,rfl,by rw[HE.o];exact HO3.o⟩
    .have O':((s[k].toNat:Int)==(g:Int))=false:=zO.2 zo;have HE:=zh (HN.o fun h=>by
      have:=h.2;rw[L]at this;simp at this;exact N this)
     clear HN HS L N;exact qbu
   .obtain rfl:i=B.length:=zo;rw[<-HVL.o,z'.o]at d;have N':VS.length=v.length:=by rw[<-z'.o];exact g'.o _ (zI _)
    have J:=d.row;rw[show(oH VS)=VS.map (Value.int .i64) from rfl]at J;have Q:=iK d.bP.done (jE (m:=m) (l:=VS) (by rw[N'];exact J) U'.o);have HF:=zh (zi d.aF Q);clear d J Q hX;exact qbj
def rC(m:Mem)(b:List Value)(a:List (List Int)):Prop:=b.length=a.length/\∀i (d:i<b.length) (c:i<a.length),iT m b[i] a[i]
theorem rC.le{m m':Mem}{b:List Value}{a:List (List Int)}(h:rC m b a)(k:m.le m'):rC m' b a:=⟨h.1,fun i d c=>iK k (h.2 i d c)⟩
theorem rC.push{m:Mem}{b:List Value}{a:List (List Int)}(h:rC m b a){x:zV}{l:List Int}(d:iT m x l):rC m (b++[x]) (a++[l]):=by
 refine⟨by simp[h.1],fun i f g=>?_⟩;by_cases c:i<b.length
 .rw[xM c,xM (by rw[<-h.1];exact c)];exact h.2 i c _
 .have e:i=b.length:=by simp at f;omega
  subst e;simp[h.1,d]
theorem rC.pop{m:Mem}{c:List Value}{a:List (List Int)}(h:rC m c a)(f:a≠[]):∃b x todo' l,c=b++[x]/\a=todo'++[l]/\rC m b todo'/\iT m x l:=by
 have d:c≠[]:=fun e=>f (xJ.1 (by rw[<-h.1,e];rfl));have j:=(List.dropLast_concat_getLast d).symm;have g:=(List.dropLast_concat_getLast f).symm;generalize c.dropLast=b at j;generalize c.getLast d=x at j;generalize a.dropLast=todo' at g;generalize a.getLast f=l at g;subst j g;have k:b.length=todo'.length:=by have:=h.1;simpa using this
 refine⟨b,x,todo',l,rfl,rfl,⟨k,fun i o n=>?_⟩,?_⟩
 .have:=h.2 i qdQ qdQ
  rwa [xM o,xM n]at this
 .have:=h.2 b.length zS qdQ;simpa [k]using this
theorem Own.ezf{w0 w:zW}{m mk:Mem}{L:List bA}{g k a size:Nat}{t:TypeId}{xs last:List Value}(h:Own w0 m w mk (.row (.slice (some ⟨g,0,none⟩) (k+1) a) t size (k+1) (xs++last)::L))(b:xs.length=k*size):
 Own w0 m w mk (.row (.slice (some ⟨g,0,none⟩) k a) t size k xs::L):=
 h.app (ownsRow_pop b h.row) (World.grownBy.refl _ _) (N:=w.heap.size) (fun _ hk=>.inl hk) (zI _)
theorem WZ{w:zW}{base:Nat}{e:TypeId}{size k:Nat}{v:zV}{xs:List Value}(h:w.ownsRow base e size v (k+1) xs):∃g a,v=.slice (some ⟨g,0,none⟩) (k+1) a/\k+1<=a:=by
 rcases h.2 with⟨-,b⟩|⟨g,a,d,b,-,-,c,-⟩
 .omega
 .exact⟨g,a,b,c⟩
theorem YP(w:zW):(zeroValue 4).run prog w=.ok (.bool false) w:=by kernel_rfl
theorem dzY:fB prog 241 240 1 24:=⟨underlying241,zo,by
 obtain⟨i,d,c,b,a⟩:=info_parts (show(prog.info? 240).map (fun i=>(i.zero,i.size,i.bytes))=some (some (.n),1,24)by kernel_rfl);exact⟨i,_,d,c,b,a,rfl⟩⟩
structure VSt (c:St) (seen todo:List (List Int)) (P:List Int->Prop) (ob:Obj):Prop where
 s:Cb (dU c) seen todo P
 map:∃f,FU prog 9 4 ob seen.length f/\vw f seen
 le:todo.length<=seen.length
theorem Gq(u u':zV)(c:St)(m:Mem)(n:Nat)(w:zW)(hm:m.az w)(P':eD m)(h1:gG (aY m n) m u c.1)(Q:gM (aY m n) m u' c.2)(D:YE c):
 zX 162 #[.agg #[u,u']] w (.bool (tf (bC c))):=by
 have h1':=h1;have h2':=Q;obtain⟨a1,c1,rfl,p1,q1,k1⟩:=h1;obtain⟨a2,c2,rfl,p2,q2,k2⟩:=Q;unfold maxLen at q1 q2;have HA:=zh (zi h1' h2');have HK:=zh k2;have HT:=zh (fun i (h:i<c.2.length)=>D.set c.2[i] (zF h));have HE:=zh (Kc c);have HF:=zh D;have HTM:=zh P';have A:=(Own.start hm).al #[.slice a1 c.1.length c1,.slice a2 c.2.length c2] 62;have HO:=zh A;have HL:=zh (zi D.f D.k);have hl1:c.1.length<=6:=D.f;have hl2:c.2.length<=6:=D.k;clear A h1' h2' k1 k2 D P';refine au fun R hR=>?_
 go_enter func162,ntmps162
 go_wp2;refine aB [1,13,14,15] (fun q vs wr=>∃(i:Nat),i<=c.2.length/\q=c.2.length-i/\vs=[.p w.heap.size,.slice a2 c.2.length c2,.j (c.2.length:Int),.j (i:Int)]/\(∀j (hj:j<c.2.length),j<i->bZ c.2[j].1/\c.2[j].1≠[]) /\
  Own w m wr m [.obj w.heap.size 62 #[.slice a1 c.1.length c1,.slice a2 c.2.length c2]]) ?_ ?_
 .exact qat
 clear HO;rintro X z q vs wr hX-⟨i,hi,rfl,rfl,hV,A⟩;simp[bz,lk];have HV:=zh hV;clear hV;by_cases hlt:i<c.2.length
 .obtain⟨b,off,rfl,h4⟩:=HK.o qdJ;obtain⟨kc,x,y,hks,hc,L,hy⟩:=(h4 i hlt).cells;have htl:=HT.o i hlt;have F':=bzu A.az (hc 0 _ rfl);have HC:=zh (fun j u hj=>azk A.az (hc j u hj));have Q:=mK hks L hy;have R':(nE c.2[i] kc x y).length=19:=rfl;have H0:(nE c.2[i] kc x y).toArray[0]?=some kc:=rfl;have HVA:=zh (fun(w':zW) (h:m.az w')=>yz kc c.2[i].1 m w' h HTM.o hks zo);have H':=zh (show ∀j (hj:j<c.2.length),j<i+1->(bZ c.2[i].1/\c.2[i].1≠[])->bZ c.2[j].1/\c.2[j].1≠[] from fun j hj h1 Q=>by
   by_cases e:j=i
   .subst e;exact Q
   .exact HV.o j hj zo)
  have J:=zh (show ¬(bZ c.2[i].1/\c.2[i].1≠[])->¬bC c from fun h k=>h ((HE.o.1 k).1 _ (zF hlt)));have HO:=zh (A.al RF 68);obtain⟨ta,tc,rfl,t1,t2,t3⟩:=hks;unfold maxLen at t2;generalize nE c.2[i] _ x y=M at*
  generalize c.2[i].1=T at*
  clear A L hy hc h4 t3
  go_wp2_with (first
   |refine aj qB rfl (.tmp 17) rfl rfl M R' HC.o ?_
   | refine aA qB rfl (.tmp 4) (.tmp 18) rfl (cs:=M.toArray) rfl rfl rfl (by simpa using R') (fun u hu=>Q u hu) HO.o.obj ?_)
  intro w1 B' hg1;have E:=HO.o.aQ B' hg1;have gb:=B'.cell H0;have gbl:=E.obj.lt;have I':=zh (HVA.o w1 E.az);have L':=zh E.tail;clear HO HC HVA E;by_cases h0:T.length=0
  .have hd:((T.length:Int)==0)=true:=beq_iff_eq.2 zo;have HB:=zh L'.o.aF;have HR:=zh (J.o fun h=>h.2 (xJ.1 h0));clear L' I' J H' h0;go_wp2;exact hR.o _ _ ⟨by rw[aG HR.o]<;>rfl,HB.o⟩
  .have hd:((T.length:Int)==0)=false:=zO.2 zo;have b':T≠[]:=fun e=>h0 qeI;have HNE:=zh b';clear h0 b';have a':=I'.o;by_cases c':bZ T
   .have HNX:=zh (fun j hj h=>H'.o j hj h ⟨c',HNE.o⟩);rw[aN c']at a';have r':=zh a';clear H' J c' HNE I' a' B' hg1
    go_wp2_with (go_at_call 148;refine r'.o.mono ?_;rintro e w4 ⟨rfl,B⟩)
    exact hX.o _ _ _ zo rfl ⟨i+1,zo,rfl,rfl,HNX.o,L'.o.aT B⟩
   .have HR:=zh (J.o fun h=>c' h.1);rw[aG c']at a';have r':=zh a';clear H' J c' HNE I' a' B' hg1
    go_wp2_with (go_at_call 148;refine r'.o.mono ?_;rintro e w4 ⟨rfl,B⟩)
    exact hR.o _ _ ⟨by rw[aG HR.o]<;>rfl,(L'.o.aT B).aF⟩
 obtain rfl:i=c.2.length:=zo;have C:∀k∈c.2,bZ k.1/\k.1≠[]:=fun k hk=>by
  obtain⟨j,hj,rfl⟩:=yX hk;exact HV.o j hj hj
 have hok:=bzQ C;have HOK:=zh hok;have HWF:=zh (fun k (hk:k∈c.2)=>(C k hk).1.wf);have t':=zh (fun(l:List (List Int)) (h1:l.Nodup) (Q:∀v∈l,lD (dU c) v)=>HF.o.seen C l h1 Q);have HFC:=zh HF.o.comp;have HEE:=zh (show bC c↔Fz (dU c) from HE.o.trans ⟨fun h=>h.2,fun h=>⟨C,h⟩⟩);have F':=GH c;have Z:eF (dU c)=List.replicate (c.2.length+c.1.length) 0:=by rw[<-F',eF,List.map_const']
 have G':=zh Z;have g0:=A.obj.c 0;have g1:=A.obj.c 1;have gl:=A.obj.lt;have HO:=zh A;clear A hX HV C hok Z HE HT HK
 go_wp2_with (refine wpList_make_row dzH rfl (.tmp 37) (.tmp 37) rfl (c.2.length+c.1.length) rfl rfl zo qdM ?_)
 intro w1 j' V;have E:=HO.o.make j' V;rw[show List.replicate (c.2.length+c.1.length) (Value.int .i64 0)=oH (eF (dU c))by rw[G'.o];simp[oH]]at E;have C':(eF (dU c)).length=c.2.length+c.1.length:=by rw[G'.o];simp
 have Z':=jE (m:=m) (l:=eF (dU c)) (by rw[C'];exact E.row) (fun x L=>by rw[G'.o]at L;rw[List.eq_of_mem_replicate L];omega);have k':=czS (w:=w1) E.free;have O:=E.bP;generalize m.iA w1 _=W' at*
 have p':=O.make (World.ownsRow_lit (base:=0) (e:=240) (size:=1) w1 #[(.slice (some ⟨wr.heap.size,0,none⟩) (c.2.length+c.1.length) (c.2.length+c.1.length))] 1 (zG _) qdM rfl) (World.grownBy_alloc w1 (.cells #[(.slice (some ⟨wr.heap.size,0,none⟩) (c.2.length+c.1.length) (c.2.length+c.1.length))] 240) none);have o':=p'.BZ (.map #[] 0);simp only[bB]at o';have x1:=bO o'.av.row (j:=0) rfl;have xl:=(World.ownsRow.lt o'.av.row _ rfl).2;have K':=zh o';have HKC:=zh (fun(w':zW) (h:W'.az w')=>Gm (.slice (some ⟨wr.heap.size,0,none⟩) (c.2.length+c.1.length) (c.2.length+c.1.length)) (eF (dU c)) W' w' h (HTM.o.le k') Z' (by rw[C'];omega));have HZ:=zh (zi Z' k');have HSF:=zh (Cb.first (dU c));have HLV:=zh (zi C' F');clear E O p' o' Z' k' j' V HO C' F';have t:=K'.o.az;generalize eF (dU c)=v0 at*
 have Hmm:=@run_makeMap prog;have htx:(txt v0).length<=maxLen:=by
  have h:=FX v0 (II HZ.o.1);have Q:=HLV.o.1;unfold maxLen;omega
 have F:=zh (TF _ htx);clear htx
 go_wp2_with (go_at_call 195;refine(HKC.o _ t).mono ?_;rintro e w2 ⟨rfl,hb2⟩;obtain⟨w3,o3,hr3,hob,l',hgr⟩:=(FU.made prog 9 4).Af (Maps.string_keyed underlying9) underlying243 underlying4 (K'.o.aT hb2).gN zD F.o true)
 have hO5:=(K'.o.aT hb2).jJ hob hgr;have hS0:VSt c [v0] [v0] (fun _=>False) o3:=⟨HSF.o,⟨_,l',by simpa using vw.none.put v0⟩,zI _⟩;have s':=zh (zi hO5 (zi hS0 (zi HZ.o.1 (Mem.le_trans HZ.o.2 (Mem.le_refl _)))));clear hO5 hS0 hob l' hgr hr3 hb2 K' HKC t Hmm x1 xl;refine aB [1,5,6] (fun q vs wr=>∃(seen d:List (List Int)) (W:List Value) (tv:zV) (ob:Obj) (mk:Mem),VSt c seen d (fun _=>False) ob/\q=2*(1400000000-seen.length)+d.length/\vs=[.p w.heap.size,tv,.map (some (w1.heap.size+1))]/\m.le mk/\rC mk W d /\
  Own w m wr mk [.gN (w1.heap.size+1) ob,.row tv 240 1 d.length W,.obj w.heap.size 62 #[.slice a1 c.1.length c1,.slice a2 c.2.length c2]]) ?_ ?_
 .refine⟨_,[v0],[v0],[.slice (some ⟨wr.heap.size,0,none⟩) (c.2.length+c.1.length) (c.2.length+c.1.length)],_,o3,W',s'.o.2.1,rfl,rfl,s'.o.2.2.2,⟨rfl,fun i h1 Q=>?_⟩,s'.o.1⟩
  match i,h1,Q with
  |0,_,_=>exact s'.o.2.2.1
 clear s' F HZ HSF G';rintro X z q vs wr hX-⟨seen,d,W,tv,ob,mk,H,rfl,rfl,p,hT,A⟩;simp[bz,lk];by_cases b':d=[]
 .subst b';have HR:=zh (HEE.o.2 H.s.once);have HB:=zh A.aF;obtain⟨ta,O',rfl⟩:=bv A.av.row;clear A hT H hX;exact qdE
 obtain⟨W,xv,d,v,rfl,rfl,hT,z'⟩:=hT.pop b';rw[show(d++[v]).length=d.length+1 by simp]at A;obtain⟨g,O',rfl,hcap⟩:=WZ A.av.row;have hcap0:¬O'=0:=zo;have hlt:=hT.1;have hk:d.length+1<=seen.length:=by have:=H.le;simpa using this
 have hsl:=t'.o seen H.s.nodup H.s.reach;have x1:=bO A.av.row (j:=d.length) (u:=xv) (by rw[<-hlt];simp);have xl:=(World.ownsRow.lt A.av.row _ rfl).2;have O:=(A.av.ezf qeW).av;obtain⟨hs2,Z⟩:=H.s.take (todo':=d) (v:=v) fun x=>ZU;have A':=H.s.reach v Z;have N:=Bi.reach HOK.o A';have hvlen:v.length<=12:=by rw[N.len,HLV.o.2];omega
 have HT:=zh (zi hT z');have HS:=zh (show VSt c seen d (fun x=>x=v) ob from⟨hs2,H.map,zo⟩);have v':=zh (show gG (aY mk n) mk (.slice a1 c.1.length c1) c.1/\gM (aY mk n) mk (.slice a2 c.2.length c2) c.2 from⟨gG.le p (fun _ _=>aY.le p) HA.o.1,gM.le p (fun _ _=>aY.le p) HA.o.2⟩);have HH:=zh (fun(w':zW) (h:mk.az w')=>O1 _ _ xv c v mk n w' h v'.o.1 v'.o.2 z' N);have HST:=zh (fun(w':zW) (h:mk.az w')=>JU _ _ xv c v mk n w' h v'.o.1 v'.o.2 z' N HWF.o);have HV:=zh (zi N (zi A' (zi Z p)));have J:=zh (fun h=>mt HEE.o.1 (ZK A' h));have g0:=O.aR.obj.c 0;have g1:=O.aR.obj.c 1;have gl:=O.aR.obj.lt;have HO:=zh O;generalize hkk:d.length=k at*
 have Hkk:=zh hkk;have Hlt:=zh hlt;clear A O H hs2 hT z' A' N Z p hkk hlt b';generalize hrr:oW (dU c) v=r at*
 have HW1:=zh hrr;clear hrr;have t:=HO.o.az;by_cases hr1:r=1
 case neg=>
  have hd:((r:Int)==1)=false:=zO.2 zo;have HR:=zh (J.o hr1);clear J HST hr1 hX
  go_wp2_with (go_at_call 196;refine(HH.o _ t).mono ?_;rintro e w2 ⟨rfl,hb2⟩)
  exact qdk
 subst hr1
 go_wp2_with (first
  |(go_at_call 196;refine(HH.o _ t).mono ?_;rintro e w2 ⟨rfl,hb2⟩;have g0:=(HO.o.aT hb2).aR.obj.c 0;have g1:=(HO.o.aT hb2).aR.obj.c 1;have gl:=(HO.o.aT hb2).aR.obj.lt)
  | (go_at_call 197;refine(HST.o _ (HO.o.aT hb2).az).mono ?_;rintro e w3 ⟨rs,rfl,hb3,sa,sc,rfl,ss1,ss2,ss3⟩))
 have p':=(HO.o.aT hb2).call hb3;have U:=bzx (w:=w3) (HO.o.aT hb2).az;generalize hmk3:mk.grow w2 w3=lH at*
 have Q':=Ld (JW c v) 256;have T':∀K:List (List Int),(∀i (h:i<(marked (JW c v) 256).length),iD (dU c) v (marked (JW c v) 256)[i]∈K)->∀b<256,iD (dU c) v b∈K:=fun K h b hb=>by
  obtain⟨a,ha,hm,he⟩:=WL (c:=c) (v:=v) HV.o.1.len hb;obtain⟨i,hi,hia⟩:=yX (Tk.2 ⟨ha,hm⟩);rw[he,<-hia];exact h i hi
 generalize marked (JW c v) 256=I at*
 have HALL:=zh T';have HL3:=zh (fun i (h:i<I.length)=>Q' I[i] (zF h));have HSS:=zh ss3;have HO3:=zh p';have J':=zh (zi (HT.o.1.le U) (zi (iK U HT.o.2) (Mem.le_trans HV.o.2.2.2 U)));unfold maxLen at ss2;clear p' T' Q' ss3 hb2 hb3 HO HST HH J HT x1 xl g0 g1 gl t hmk3 U v';refine aB [1,5,6,7,66,67,68] (fun q vs wr=>∃(j:Nat) (K td:List (List Int)) (W:List Value) (tv:zV) (ob:Obj) (mk:Mem),j<=I.length/\q=I.length-j/\VSt c K td (fun x=>x=v) ob/\(∀i (h:i<I.length),i<j->iD (dU c) v I[i]∈K) /\
  2*(1400000000-K.length)+td.length+1<=2*(1400000000-seen.length)+(k+1)/\vs=[.p w.heap.size,tv,.map (some (w1.heap.size+1)),xv,.slice sa I.length sc,.j (I.length:Int),.j (j:Int)]/\lH.le mk/\rC mk W td /\
  Own w m wr mk [.gN (w1.heap.size+1) ob,.row tv 240 1 td.length W,.obj w.heap.size 62 #[.slice a1 c.1.length c1,.slice a2 c.2.length c2]]) ?_ ?_
 .exact⟨_,0,seen,d,W,_,ob,lH,zG _,rfl,HS.o,fun i h Q=>absurd Q (xY _),by rw[Hkk.o];omega,rfl,Mem.le_refl _,J'.o.1,by rw[Hkk.o];exact HO3.o⟩
 clear HO3 HS Hlt;rintro Y z2 q vs wr2 hY-⟨j,K,td,W,tv,ob,mk,hj,rfl,H,E',hms,rfl,p,hT,A⟩;simp[bz,lk];have Hms:=zh hms;have Hdn:=zh E';by_cases hlt:j<I.length
 case neg=>
  obtain rfl:j=I.length:=zo;have HSX:=zh (show VSt c K td (fun _=>False) ob from⟨H.s.close ⟨HW1.o,HALL.o K fun i h=>E' i h h⟩,H.map,H.le⟩);have HO:=zh A;have F:=zh hT;have HLE:=zh (Mem.le_trans J'.o.2.2 p);clear A hT H hY E' hms p;go_wp2;exact hX.o _ _ _ (by have:=Hms.o;have:=Hkk.o;simp;omega) rfl ⟨K,td,W,tv,ob,mk,HSX.o,rfl,rfl,HLE.o,F.o,HO.o⟩
 obtain⟨b,off,rfl,hss⟩:=HSS.o qdJ;obtain⟨hbc,P⟩:=hss j hlt;have hrx:=HV.o.2.1.step P;have Y':=Bi.reach HOK.o hrx;have i':=Y'.iQ HFC.o;have X':(iD (dU c) v I[j]).length<=12:=by rw[Y'.len,HLV.o.2];omega
 have S':=TF (txt (iD (dU c) v I[j])) (by
  have:=FX (iD (dU c) v I[j]) fun x L=>by have:=i' x L;omega
  unfold maxLen;omega)
 have e1:=azk A.az (bzv p hbc);have el:=bzu A.az (bzv p hbc);have G:=Mem.le_trans J'.o.2.2 p;have HAF:=zh (fun(w':zW) (h:mk.az w')=>MR _ _ xv c v I[j] mk n w' h (gG.le G (fun _ _=>aY.le G) HA.o.1) (gM.le G (fun _ _=>aY.le G) HA.o.2) (iK p J'.o.2.1) HV.o.1 HWF.o P zo fun x L=>by have:=i' x L;omega);have HKY:=zh (fun(m':Mem) (w':zW) (xr:zV) (h1:mk.le m') (h:m'.az w') (L:iT m' xr (iD (dU c) v I[j]))=>Gm xr _ m' w' h (HTM.o.le (Mem.le_trans G h1)) L zo);have hseen:=t'.o K H.s.nodup H.s.reach;have hsl:=H.le;have HDN:=zh (show ∀y':List (List Int),(∀y∈K,y∈y')->iD (dU c) v I[j]∈y'->∀i (h:i<I.length),i<j+1->iD (dU c) v I[i]∈y' from fun y' h1 Q i h h3=>by
  by_cases e:i=j
  .subst e;exact Q
  .exact h1 _ (Hdn.o i h zo))
 have S:=A.aR.obj;have g0:=S.cell (i:=0) rfl;have g1:=S.cell (i:=1) rfl;have gl:=S.lt;have HO:=zh A;have HS:=zh H;have F:=zh (zi hT (zi p hrx));obtain⟨f,l',hka⟩:=H.map;have HKA:=zh hka;have HBM:=zh l';obtain⟨va,vc,rfl⟩:=bv A.av.row;generalize iD (dU c) v I[j]=x at*
 generalize I[j]=bb at*
 have t:=HO.o.az;have HK2:=zh S';clear A H hT p G hss hbc P hrx Y' i' E' hka l' S S' X' hX Hdn HA;by_cases L:x∈K
 .have HX2:=zh L;have HFX:=zh ((HKA.o x).2 L);clear L
  go_wp2_with (first
   |(go_at_call 198;refine(HAF.o _ t).mono ?_;rintro e w4 ⟨xr,rfl,B,h'⟩)
   | (go_at_call 195;refine(HKY.o _ _ xr (bzx (w:=w4) t) (HO.o.call B).az h').mono ?_;rintro e w5 ⟨rfl,d'⟩;have hlk:=HBM.o.Ag (Maps.string_keyed underlying9) underlying243 underlying4 YP ((HO.o.call B).aT d').gN HK2.o;rw[HFX.o]at hlk))
  exact hY.o _ _ _ zo rfl ⟨j+1,K,td,W,_,ob,_,zo,rfl,HS.o,HDN.o K (fun _ h=>h) HX2.o,Hms.o,rfl,Mem.le_trans F.o.2.1 (bzx t),F.o.1.le (bzx t),(HO.o.call B).aT d'⟩
 .have HX2:=zh L;have HFX:=zh (show f (.string (txt x))=false by
   cases h:f (.string (txt x))
   .rfl
   .exact absurd ((HKA.o x).1 h) L)
  clear L
  go_wp2_with (first
   |(go_at_call 198;refine(HAF.o _ t).mono ?_;rintro e w4 ⟨xr,rfl,B,h'⟩;have hxr':=h';obtain⟨xa,xc,rfl,-⟩:=hxr')
   |(go_at_call 195;refine(HKY.o _ _ (.slice xa x.length xc) (bzx (w:=w4) t) (HO.o.call B).az h').mono ?_;rintro e w5 ⟨rfl,d'⟩;have hlk:=HBM.o.Ag (Maps.string_keyed underlying9) underlying243 underlying4 YP ((HO.o.call B).aT d').gN HK2.o;rw[HFX.o]at hlk;obtain⟨w6,o6,hr6,hob6,hbm6,hgr6⟩:=HBM.o.Af (Maps.string_keyed underlying9) underlying243 underlying4 ((HO.o.call B).aT d').gN qdM HK2.o true;have hO7:=(((HO.o.call B).aT d').jJ hob6 hgr6).al #[.slice xa x.length xc] 240;have hnews:=hO7.obj.dQ rfl)
   | (at_builtin;refine aU dzY rfl (.tmp 84) (.tmp 86) rfl (.slice va td.length vc) td.length W rfl hO7.aR.row ⟨w6.heap.size,0,none⟩ 1 1 [.slice xa x.length xc] rfl rfl hnews qdN qdM zo ?_;intro va' vc' w7 hown7 D' hrow7))
  have hO8:=((hO7.aR.app hown7 D' hrow7 zS).bM).av;have hS2:VSt c (K++[x]) (td++[x]) (fun y=>y=v) o6:=⟨HS.o.s.push F.o.2.2 HX2.o,⟨_,by simpa using hbm6,HKA.o.put x⟩,by simp;omega⟩;refine hY.o _ _ _ zo rfl ⟨j+1,K++[x],td++[x],W++[.slice xa x.length xc],_,o6,_,zo,rfl,hS2,HDN.o _ (fun y hy=>xI _ hy) zS,?_,rfl,Mem.le_trans F.o.2.1 (bzx t),(F.o.1.le (bzx t)).push h',?_⟩
  .have:=t'.o _ hS2.s.nodup hS2.s.reach;have:=Hms.o;simp at*
   omega
  .simpa using hO8
theorem JV(u:zV)(l:List Fd)(m:Mem)(n:Nat)(w:zW)(hm:m.az w)(h:gG (aY m n) m u l):
 zX 161 #[u] w (.bool (tf (fI l))):=by
 obtain⟨a,c,rfl,p1,q1,k1⟩:=h;unfold maxLen at q1;have HK:=zh k1;have K:=zh (Own.start hm);clear k1;refine au fun R hR=>?_
 go_enter func161,ntmps161
 go_wp2;refine aB [0,5,6,7] (fun q vs Z=>∃(i:Nat),i<=l.length/\q=l.length-i/\vs=[.slice a l.length c,.slice a l.length c,.j (l.length:Int),.j (i:Int)]/\(∀j (d:j<l.length),j<i->l[j].1.2=1\/l[j].1.2=2)/\(∀j (d:j+1<l.length),j+1<i->F9 l[j].1.1 (l[j+1]).1.1=true) /\
  Own w m Z m []) ?_ ?_
 .exact⟨_,0,zG _,rfl,rfl,fun j d h=>absurd h (xY _),fun j d h=>absurd h (xY _),K.o⟩
 clear K;rintro X z q vs Z P-⟨i,hi,rfl,rfl,T,S,J⟩;simp[bz,lk];by_cases hlt:i<l.length
 case neg=>
  obtain rfl:i=l.length:=zo;have HR:=zh (show fI l from⟨fun f hf=>by obtain⟨j,d,rfl⟩:=yX hf;exact T j d d,fun j d=>S j d d⟩);have HB:=zh J.aF;clear T S J P;exact qdE
 obtain⟨b,off,rfl,W⟩:=HK.o qdJ;obtain⟨x,y,V,hx,hy⟩:=(W i hlt).cells;have m':=bzu J.az (V 0 _ rfl);have HC:=zh (fun j u d=>azk J.az (V j u d));have h2:=mM hx hy;have hl2:(qx l[i] x y).length=20:=rfl;have H0:(qx l[i] x y).toArray[0]?=some (.string l[i].1.1):=rfl;have H1:(qx l[i] x y).toArray[1]?=some (.j l[i].1.2):=rfl;have v:=zh (zi T S);have K:=zh (J.al RJ 82);have Y:=zh (fun j (d:j<l.length)=>(W j d).s);have H:=zh (show(¬(l[i].1.2=1\/l[i].1.2=2))->¬fI l from fun h k=>h (k.eze _ (zF hlt)));generalize qx l[i] x y=M at*
 generalize N:l[i].1.2=Q at*
 generalize F:l[i].1.1=U at*
 have t:=zh (zi N F);clear J hx hy V W T S N F
 go_wp2_with (first
  |refine aj tu rfl (.tmp 10) rfl rfl M hl2 HC.o ?_
  | refine aA tu rfl (.tmp 4) (.tmp 11) rfl (cs:=M.toArray) rfl rfl rfl qeZ (fun u hu=>h2 u hu) K.o.obj ?_)
 intro w1 E O;have B:=K.o.aQ E O;have q':=E.cell H0;have p':=E.cell H1;have o':=B.obj.lt;have r:=zh B.tail;have C:=zh (fun j (d:j<l.length)=>zi (azk B.az (Y.o j d)) (bzu B.az (Y.o j d)));clear K HC E O B Y;by_cases g:Q=1\/Q=2
 case neg=>
  have l':(Q != 1)=true:=bne_iff_ne.2 fun e=>g (.inl e);have k':(Q != 2)=true:=bne_iff_ne.2 fun e=>g (.inr e);have HR:=zh (H.o g);have HB:=zh (r.o.FN 1).aF;clear r C H g P v;go_wp2
  go_region
  all_goals go_wp2
  exact qds
 have A:∀j (d:j<l.length),j<i+1->l[j].1.2=1\/l[j].1.2=2:=fun j d h=>by
  by_cases e:j=i
  .subst e;rw[t.o.1];exact g
  .exact v.o.1 j d zo
 have G:=zh A;clear A H;rcases Nat.eq_zero_or_pos i with rfl|i'
 .have I:=zh (show ∀j (d:j+1<l.length),j+1<0+1->F9 l[j].1.1 (l[j+1]).1.1=true from fun j d h=>zo);have D:=zh (r.o.FN 1);clear v t C r;rcases g with rfl|rfl
  all_goals
   go_wp2
   go_region
   all_goals go_wp2
   all_goals exact P.o _ _ _ zo rfl ⟨0+1,zo,rfl,rfl,G.o,I.o,D.o⟩
 obtain⟨p,rfl⟩:∃p,i=p+1:=⟨i-1,zo⟩;obtain⟨y1,yl⟩:=C.o p zo;have D:=zh (r.o.FN 1);cases hb:F9 l[p].1.1 U
 .have HR:=zh (show ¬fI l from fun k=>by
   have:=k.asc p zo;rw[t.o.2,hb]at this;cases this)
  have HB:=zh D.o.aF;unfold F9 at hb;rw[<-xE,<-xE]at hb;generalize l[p].1.1=L at*
  clear v t C r D G P;rcases g with rfl|rfl
  all_goals
   go_wp2
   go_region
   all_goals go_wp2
   exact qds
 .have I:=zh (show ∀j (d:j+1<l.length),j+1<p+1+1->F9 l[j].1.1 (l[j+1]).1.1=true from fun j d h=>by
   by_cases e:j=p
   .subst e;rw[t.o.2];exact hb
   .exact v.o.2 j d zo)
  unfold F9 at hb;rw[<-xE,<-xE]at hb;generalize l[p].1.1=L at*
  clear v t C r;rcases g with rfl|rfl
  all_goals
   go_wp2
   go_region
   all_goals go_wp2
   all_goals exact P.o _ _ _ zo rfl ⟨p+1+1,zo,rfl,rfl,G.o,I.o,D.o⟩
theorem O3(v:Vl)(x:Sl)(m:Mem)(n:Nat)(w:zW)(hm:m.az w)(D:eD m)(hv:aY m (n+1) x v)(hf:cz2 v)(hl:jW v.s 30000 100000):
 zX 119 #[v.val x] w (.bool (tf (rF v))):=by
 have a:=(Own.start hm).al (aZ v x).toArray 33;have hs:=hv.sc;have HN:=zh (fun w'=>ES x.i x.f x.t v.s m w' hs ⟨by have:=hl.i;omega,by have:=hl.f;omega,by have:=hl.t;omega⟩);have HV:=zh (fun w' (h:m.az w')=>rP x.i x.f x.t v.s m w' h D hs (hl.mono zo zo));have HS:=zh (a.obj.sub (Aj v x));obtain⟨-,J',H'⟩:=hv;have h1:=hf.l;have h2:=hf.s;have HF:=zh hf;have O':=zh D;obtain⟨y1,y2,y3,y4,y5⟩:=x;obtain⟨a4,b4,e4,p4,q4,k4⟩:=J';obtain⟨a5,b5,e5,p5,q5,k5⟩:=H';simp only at e4 e5;subst e4 e5;have HK:=zh (zi k4 k5);have W:=zh (show(aZ v ⟨y1,y2,y3,.slice a4 v.aJ.length b4,.slice a5 v.ay.length b5⟩).toArray[7]?=some (.slice a4 v.aJ.length b4)/\(aZ v ⟨y1,y2,y3,.slice a4 v.aJ.length b4,.slice a5 v.ay.length b5⟩).toArray[8]?=some (.slice a5 v.ay.length b5) from⟨rfl,rfl⟩);have c0:=a.obj.cell (i:=0) (v:=.bool v.any) rfl;have c7:=a.obj.cell W.o.1;have c8:=a.obj.cell W.o.2;have HO:=zh a;unfold maxLen at q4 q5;unfold Vl.val;clear a hs k4 k5 hf D;have Q':=zh (Aj v ⟨y1,y2,y3,.slice a4 v.aJ.length b4,.slice a5 v.ay.length b5⟩);generalize (aZ v _).toArray=N at*
 obtain⟨G,hG⟩:∃G:Prop,G=rF v:=⟨_,rfl⟩;rw[<-hG];have HG:=zh hG;clear hG;refine au fun R hR=>?_
 cases hany:v.any with
 |true=>
  have y:=zh hany;rw[hany]at c0;have hin:=HO.o.az;clear hany;have HX:=zh (show tf G=(tf (v.s=fe)&&decide (v.aJ.length+v.ay.length=0))by
   rw[HG.o];by_cases g1:v.s=fe
   .by_cases g2:v.aJ.length+v.ay.length=0
    .rw[aN (p:=rF v) ⟨fun _=>⟨g1,xJ.1 zo,xJ.1 zo⟩,fun c K=>by rw[xJ.1 (show v.aJ.length=0 by omega)]at K;simp at K,fun c K=>by rw[xJ.1 (show v.ay.length=0 by omega)]at K;simp at K,by rw[g1];exact gD⟩,aN g1,zN g2];rfl
    .rw[aG (p:=rF v) fun k=>g2 (by rw[(k.any y.o).2.1,(k.any y.o).2.2];rfl),zM g2];simp
   .rw[aG (p:=rF v) fun k=>g1 (k.any y.o).1,aG g1];rfl)
  go_enter func119,ntmps119
  go_wp2_with (refine aj rO rfl (.tmp 9) rfl rfl _ rfl HS.o ?_)
  refine(HN.o _).mono ?_;rintro e w1 ⟨rfl,F⟩;have c7:=(HO.o.aT F).obj.cell W.o.1;have c8:=(HO.o.aT F).obj.cell W.o.2;have cl:=(HO.o.aT F).obj.lt;have HB:=zh (HO.o.aT F).aF;clear HN HV HS HF HK HO W F HG;generalize v.aJ.length=l4 at*
  generalize v.ay.length=l5 at*
  generalize tf (v.s=fe)=te at*
  cases te
  .go_wp2;exact hR.o _ _ ⟨by rw[HX.o]<;>rfl,HB.o⟩
  .by_cases hz:l4+l5=0
   .obtain⟨rfl,rfl⟩:l4=0/\l5=0:=zo;go_wp2;exact hR.o _ _ ⟨by rw[HX.o]<;>rfl,HB.o⟩
   .have hd:((l4:Int)+l5==0)=false:=zO.2 zo;have U:=zh (HX.o.trans (by rw[zM hz]<;>rfl));clear HX hz;go_wp2
    exact hR.o _ _ ⟨by rw[U.o]<;>rfl,HB.o⟩
 |false=>
  have y:=zh hany;rw[hany]at c0;clear hany;have HE:=zh (show G↔(∀c∈v.aJ,c.2.length<=1)/\(∀c∈v.ay,fI c.1/\bC c)/\v.s.iB from by
   rw[HG.o];exact⟨fun k=>⟨k.rest,k.st,k.sc⟩,fun k=>⟨fun h=>(by rw[y.o]at h;cases h),k.1,k.2.1,k.2.2⟩⟩)
  clear HN y HG
  go_enter func119,ntmps119
  go_wp2;refine aB [1,23,24,25] (fun q Z Y=>∃(i:Nat),i<=v.aJ.length/\q=v.aJ.length-i/\Z=[.p w.heap.size,.slice a4 v.aJ.length b4,.j (v.aJ.length:Int),.j (i:Int)]/\(∀j (hj:j<v.aJ.length),j<i->(v.aJ[j]).2.length<=1) /\
   Own w m Y m [.obj w.heap.size 33 N]) ?_ ?_
  .exact qat
  clear HO c0 c7 c8;rintro X z q Z Y L-⟨i,hi,rfl,rfl,hA,a⟩;simp[bz,lk];have y:=zh hA;clear hA;by_cases hlt:i<v.aJ.length
  .obtain⟨b,off,rfl,h4⟩:=HK.o.1 qdJ;obtain⟨u,u',P,s2,s3,s4⟩:=h4 i hlt;obtain⟨ua,uc,rfl,-⟩:=s3;obtain⟨O,M,rfl,r1,r2,-⟩:=s4;have x1:=azk a.az P;have x2:=azk a.az s2;have xl:=bzu a.az P;have HO:=zh (a.al' (.cells #[.slice ua (v.aJ[i]).1.length uc,.slice O (v.aJ[i]).2.length M] 50));unfold maxLen at r2;have g:=zh (show(v.aJ[i]).2.length<=1->∀j (hj:j<v.aJ.length),j<i+1->(v.aJ[j]).2.length<=1 from fun h j hj h2=>by
    by_cases e:j=i
    .exact qbR
    .exact y.o j hj zo)
   have d:=zh (show ¬(v.aJ[i]).2.length<=1->¬G from fun h k=>h ((HE.o.1 k).1 _ (zF hlt)));generalize (v.aJ[i]).1.length=n1 at*
   generalize (v.aJ[i]).2.length=n2 at*
   clear a h4 P s2;by_cases hn:n2<=1
   .have H:=zh (g.o hn);clear g d;go_wp2;exact L.o _ _ _ zo rfl ⟨i+1,zo,rfl,rfl,H.o,HO.o⟩
   .have HR:=zh (d.o hn);clear g d L;go_wp2;exact hR.o _ _ ⟨by rw[aG HR.o]<;>rfl,HO.o.aF⟩
  obtain rfl:i=v.aJ.length:=zo;have HL:=zh (show ∀c∈v.aJ,c.2.length<=1 from fun c K=>by obtain⟨j,hj,rfl⟩:=yX K;exact y.o j hj hj);have c7:=a.obj.cell W.o.1;have c8:=a.obj.cell W.o.2;have cl:=a.obj.lt;have HO:=zh a;clear a L y;go_wp2;refine aB [1,35,36,37] (fun q Z Y=>∃(i:Nat),i<=v.ay.length/\q=v.ay.length-i/\Z=[.p w.heap.size,.slice a5 v.ay.length b5,.j (v.ay.length:Int),.j (i:Int)]/\(∀j (hj:j<v.ay.length),j<i->fI (v.ay[j]).1/\bC v.ay[j]) /\
   Own w m Y m [.obj w.heap.size 33 N]) ?_ ?_
  .exact qat
  clear HO c7 c8 cl;rintro X z q Z Y L-⟨i,hi,rfl,rfl,hA,a⟩;simp[bz,lk];have y:=zh hA;clear hA;by_cases hlt:i<v.ay.length
  .obtain⟨b,off,rfl,h4⟩:=HK.o.2 qdJ;obtain⟨u,u',P,s2,s3,s4⟩:=h4 i hlt;have E:=zF hlt;have V:=zh (fun w' (h:m.az w')=>JV u (v.ay[i]).1 m n w' h s3);have J:=zh (fun w' (h:m.az w')=>Gq u u' v.ay[i] m n w' h O'.o s3 s4 (HF.o.st _ E));obtain⟨ua,uc,rfl,-⟩:=s3;obtain⟨O,M,rfl,-⟩:=s4;have x1:=azk a.az P;have x2:=azk a.az s2;have xl:=bzu a.az P;have T:=a.al #[.slice ua (v.ay[i]).1.length uc,.slice O (v.ay[i]).2.length M] 62;have HO:=zh T;have g:=zh (show fI (v.ay[i]).1/\bC v.ay[i]->∀j (hj:j<v.ay.length),j<i+1->fI (v.ay[j]).1/\bC v.ay[j] from fun h j hj h2=>by
    by_cases e:j=i
    .exact qbR
    .exact y.o j hj zo)
   have d:=zh (show ¬(fI (v.ay[i]).1/\bC v.ay[i])->¬G from fun h k=>h ((HE.o.1 k).2.1 _ E));have B:=zh (V.o _ T.az);clear a h4 P s2 T E y;generalize (v.ay[i]).1.length=n1 at*
   generalize (v.ay[i]).2.length=n2 at*
   generalize fI (v.ay[i]).1=FO at*
   generalize bC v.ay[i]=CO at*
   by_cases r:FO
   case neg=>
    have HR:=zh (d.o fun h=>r h.1);have Q:=B.o;rw[aG r]at Q;have A:=zh Q;clear g d J Q B V L r
    go_wp2_with (go_at_call 161;refine A.o.mono ?_;rintro e w2 ⟨rfl,hb2⟩)
    exact qdk
   have Q:=B.o;rw[aN r]at Q;have A:=zh Q;clear Q B V;by_cases C:CO
   .have I:=zh (show ∀w',m.az w'->_ from fun w' h=>by have:=J.o w' h;rw[aN C]at this;exact this);have H:=zh (g.o ⟨r,C⟩);clear g d J r C
    go_wp2_with (first
     |(go_at_call 161;refine A.o.mono ?_;rintro e w2 ⟨rfl,hb2⟩;have x1:=(HO.o.aT hb2).obj.c 0;have x2:=(HO.o.aT hb2).obj.c 1;have xl:=(HO.o.aT hb2).obj.lt)
     | (go_at_call 162;refine(I.o _ (HO.o.aT hb2).az).mono ?_;rintro e w3 ⟨rfl,S⟩))
    exact L.o _ _ _ zo rfl ⟨i+1,zo,rfl,rfl,H.o,((HO.o.aT hb2).aT S).tail⟩
   .have I:=zh (show ∀w',m.az w'->_ from fun w' h=>by have:=J.o w' h;rw[aG C]at this;exact this);have HR:=zh (d.o fun h=>C h.2);clear g d J r C L
    go_wp2_with (first
     |(go_at_call 161;refine A.o.mono ?_;rintro e w2 ⟨rfl,hb2⟩;have x1:=(HO.o.aT hb2).obj.c 0;have x2:=(HO.o.aT hb2).obj.c 1;have xl:=(HO.o.aT hb2).obj.lt)
     | (go_at_call 162;refine(I.o _ (HO.o.aT hb2).az).mono ?_;rintro e w3 ⟨rfl,S⟩))
    exact hR.o _ _ ⟨by rw[aG HR.o]<;>rfl,((HO.o.aT hb2).aT S).aF⟩
  obtain rfl:i=v.ay.length:=zo;have k':=zh (show ∀c∈v.ay,fI c.1/\bC c from fun c K=>by obtain⟨j,hj,rfl⟩:=yX K;exact y.o j hj hj);have U:=zh (show tf G=tf v.s.iB from dY (HE.o.trans ⟨fun h=>h.2.2,fun h=>⟨HL.o,k'.o,h⟩⟩));have j':=zh (HV.o Y a.az);have P':=zh (fun(hN:∀j u,([.bool v.s.dL,.bool v.s.dS,.bool v.s.dW,y1,y2,y3]:List Value)[j]?=some u->N[1+j]?=some u)=>a.obj.sub hN);have HO:=zh a;clear a HV y k' HL HE L;generalize tf v.s.iB=vv at*
  go_wp2_with (refine aj rO rfl (.tmp 51) rfl rfl _ rfl (P'.o Q'.o) ?_)
  refine j'.o.mono ?_;rintro e w2 ⟨rfl,hb2⟩;have HB:=zh (HO.o.aT hb2).aF;clear HO j' hb2;go_wp2;exact hR.o _ _ ⟨by rw[U.o]<;>rfl,HB.o⟩
def wkC(a:Vs):Array Value:=#[.int .i64 a.n,.int .i64 a.d,.bool a.b]
theorem MQ(g lv:Nat)(a:Vs)(k:0<=a.n/\a.n<=4000000/\0<=a.d/\a.d<=1000)(_:lv<=17)(w0 w:zW)(m mk:Mem)(L:List bA)(h:Own w0 m w mk (.obj g 94 (wkC a)::L)):
 zC 118 #[.pointer (some ⟨g,0,none⟩),.int .i64 (lv:Int)] w fun e w'=>e=.returned (.tuple #[])/\Own w0 m w' mk (.obj g 94 (wkC ⟨a.n+1,max a.d lv,a.b⟩)::L):=by
 obtain⟨n,d,b⟩:=a;obtain⟨q,p,u,t⟩:0<=n/\n<=4000000/\0<=d/\d<=1000:=k;have y:=h.obj.cell (i:=0) (v:=.j n) rfl;have s:=h.obj.frozen 0;have r:=h.obj.lt;have c:=h.set 0 (.j (n+1));have x:=c.obj.cell (i:=1) (v:=.j d) rfl;have f1:=c.obj.frozen 1;have f:=c.set 1 (.j (max d lv));have l:=zh f;clear h c f;refine au fun R j=>?_
 go_enter func118,ntmps118
 go_wp2
 go_end0
 exact j.o _ _ ⟨rfl,l.o⟩
structure Ru (a:Vs) (N:Int):Prop where
 n:0<=a.n
 le:a.n<=N
 d:0<=a.d
 top:a.d<=17
theorem YV:∀(f lv:Nat) (v:Vl) (a:Vs),f+lv=17->0<=a.d->a.d<=17->0<=(lK f lv v a).d/\(lK f lv v a).d<=17
 |0,lv,v,a,h,c,b=>by simp only[lK];omega
 |f+1,lv,v,a,h,c,b=>by
  have j:∀(l:List Vd) (a:Vs),0<=a.d->a.d<=17->0<=(wm f lv l a).d/\(wm f lv l a).d<=17:=by
   intro l
   induction l with
   |nil=>intro a c b;exact⟨c,b⟩
   |cons x l ih=>
    intro a c b;have g:=YV f (lv+1) x.1 a zo c b;have e:=YV f (lv+1) x.2 (lK f (lv+1) x.1 a) zo g.1 g.2;exact ih _ e.1 e.2
  by_cases i:rF v
  .rw[zw i];exact j _ _ (by show 0<=max a.d (lv:Int);omega) (by show max a.d (lv:Int)<=17;omega)
  .rw[Cn i];exact qdu
theorem Ru.vis{f lv N:Nat}{v:Vl}{a:Vs}{k:Int}(h:Ru a k)(e:f+lv=17)(c:Ht N v):Ru (lK f lv v a) (k+di N v):=by
 have g:=YU f lv N v a c;have b:=YV f lv v a e h.d h.top;have:=h.n;have:=h.le;exact⟨zo,zo,b.1,b.2⟩
theorem uI:∀(f lv n:Nat) (v:Vl) (x:Sl) (g:Nat) (a:Vs) (w0 w:zW) (m mk:Mem) (L:List bA),f+lv=17->Own w0 m w mk (.obj g 94 (wkC a)::L)->eD mk->aY mk n x v->nV n v->Ru a (3000000-di n v)->di n v<=1048576 ->
 zC 78 #[.pointer (some ⟨g,0,none⟩),v.val x,.int .i64 (lv:Int)] w fun e w'=>∃mk',e=.returned (.tuple #[])/\Own w0 m w' mk' (.obj g 94 (wkC (lK f lv v a))::L)/\mk.le mk'
 |f,lv,0,v,x,g,a,w0,w,m,mk,L,_,_,_,h,_,_,_=>h.elim
 |f,lv,n+1,v,x,g,a,w0,w,m,mk,L,hlv,I,htab,hv,hfw,ha,hct=>by
  have han:=ha.n;have hal:=ha.le;have had:=ha.d;have hat:=ha.top;have c:=I.al (aZ v x).toArray 33;have HE:=zh (MQ g lv a zo zo w0 _ m mk _ c.av);have HN:=zh (fun w' (h:bg w' w.heap.size 33 (aZ v x).toArray)=>h.all);have hN:(aZ v x).length=9:=rfl;have gl:=c.obj.lt
  cases f with
  |zero=>
   obtain rfl:lv=17:=zo;have HV:lK 0 17 v a=⟨a.n+1,max a.d (17:Nat),true⟩:=rfl;have W':=zh HV;unfold Vl.val;clear HV c hv hfw ha I HN;generalize aZ v x=N at*
   refine au fun R hR=>?_
   go_enter func78,ntmps78
   go_wp2_with (go_at_call 118;refine HE.o.mono ?_;rintro e w1 ⟨rfl,c⟩;have c2:=c.obj.cell (i:=2) (v:=.bool a.b) rfl;have f2:=c.obj.frozen 2;have f':=c.obj.lt)
   go_end0
   exact hR.o _ _ ⟨mk,rfl,by rw[W'.o];exact(c.set 2 (.bool true)).bM,Mem.le_refl _⟩
  |succ f=>
   have N':lv<=16:=zo;have hd:decide ((16:Int)<(lv:Int))=false:=zM zo;have hk:=Qo hv.ht;have K:=hfw.1;have HG:=zh (fun w' (h:mk.az w')=>O3 v x mk n w' h htab hv hfw.1 ⟨by have:=K.i;omega,by have:=K.fr;omega,by have:=K.t;omega⟩);have Y:=zh (fun w' (h:mk.az w')=>FE v x mk n w' h hv zo);have hT:=azT n v;have e':=VU n v.kids;rw[hT]at e';have HT:=zh (zi hT e');have C':=zh hfw.2;have y':=zh htab;have W:=zh (zi (fun h:rF v=>zw (f:=f) (lv:=lv) (a:=a) h) (fun h:¬rF v=>Cn (f:=f) (lv:=lv) (a:=a) h));unfold Vl.val;unfold Vl.val at HG Y;generalize lK (f+1) lv v a=V at*
   generalize aZ v x=N at*
   generalize di (n+1) v=u' at*
   generalize v.kids=k at*
   generalize rF v=GV at*
   clear c hv hfw I K hT e' htab ha;refine au fun R hR=>?_
   go_enter func78,ntmps78
   by_cases C:GV
   case neg=>
    have U:=zh (show ∀w',mk.az w'->_ from fun w' h=>by have:=HG.o w' h;rw[aG C]at this;exact this);have HV:=zh (W.o.2 C);clear HG Y W C HT C'
    go_wp2_with (first
     |(go_at_call 118;refine HE.o.mono ?_;rintro e w1 ⟨rfl,c⟩;have f':=c.av.obj.lt)
     |refine aj jI rfl (.tmp 4) rfl rfl N hN (HN.o _ c.av.obj) ?_
     | (go_at_call 119;refine(U.o _ c.az).mono ?_;rintro e w2 ⟨rfl,O⟩;have l:=c.aT O;have c2:=l.obj.cell (i:=2) (v:=.bool a.b) rfl;have f2:=l.obj.frozen 2;have t':=l.obj.lt))
    go_end0
    exact hR.o _ _ ⟨mk,rfl,by rw[HV.o];exact(l.set 2 (.bool true)).bM,Mem.le_refl _⟩
   have U:=zh (show ∀w',mk.az w'->_ from fun w' h=>by have:=HG.o w' h;rw[aN C]at this;exact this);have HV:=zh (W.o.1 C);clear HG W C
   go_wp2_with (first
    |(go_at_call 118;refine HE.o.mono ?_;rintro e w1 ⟨rfl,c⟩;have f':=c.av.obj.lt)
    |refine aj jI rfl (.tmp 4) rfl rfl N hN (HN.o _ c.av.obj) ?_
    |(go_at_call 119;refine(U.o _ c.az).mono ?_;rintro e w2 ⟨rfl,O⟩;have l:=c.aT O;have t':=l.av.obj.lt)
    | refine aj jI rfl (.tmp 4) rfl rfl N hN (HN.o _ l.av.obj) ?_)
   refine(Y.o _ l.az).mono ?_;rintro e w3 ⟨r,rfl,q',hr⟩;have s':=l.call q';obtain⟨ra,rc,rfl,p1,q1,o'⟩:=hr;have c':=bzx (w:=w3) l.az;generalize mk.grow w2 w3=M at*
   have HK:=zh o';have z':=zh s';have j':=zh c';unfold maxLen at q1;clear c l s' O q' o' c' U Y HE HN f' t';go_wp2;refine aB [0,2,24,25,26] (fun q vs wr=>∃(i:Nat) (T:Vs) (mi:Mem),i<=k.length/\q=k.length-i/\vs=[.p g,.j (lv:Int),.slice ra k.length rc,.j (k.length:Int),.j (i:Int)]/\T=wm f lv (k.take i) ⟨a.n+1,max a.d lv,a.b⟩ /\
    Ru T (3000000-(u':Int)+(Df n k i:Nat))/\M.le mi/\Own w0 m wr mi (.obj g 94 (wkC T)::.obj w.heap.size 33 N.toArray::L)) ?_ ?_
   .refine⟨_,0,⟨a.n+1,max a.d lv,a.b⟩,M,zG _,rfl,rfl,rfl,⟨by show 0<=a.n+1;omega,?_,by show 0<=max a.d (lv:Int);omega,by show max a.d (lv:Int)<=17;omega⟩,Mem.le_refl _,z'.o⟩;have:Df n k 0=1:=by simp[Df]
    rw[this];show a.n+1<=_;omega
   clear z';rintro X z q vs wr hX-⟨i,T,mi,hi,rfl,rfl,P,B,s,I⟩;simp[bz,lk];by_cases hlt:i<k.length
   case neg=>
    obtain rfl:i=k.length:=zo;rw[yG]at P;have HF:=zh (zi I.bM (Mem.le_trans j'.o s));rw[P,<-HV.o]at HF;clear I hX B;go_wp2
    go_end0
    exact hR.o _ _ ⟨_,rfl,HF.o⟩
   obtain⟨b,off,rfl,h4⟩:=HK.o qdJ;obtain⟨F,E,hc,r1,r2⟩:=(h4 i hlt).cells;have hcl:=bzu I.az (bzv s (hc 0 _ rfl));have HC:=zh (fun j u hj=>azk I.az (bzv s (hc j u hj)));have h2:=fG r1 r2;have hl2:(dw k[i] F E).length=18:=rfl;have HF1:=zh (show ∀j u,(aZ k[i].1 F)[j]?=some u->(dw k[i] F E).toArray[0+j]?=some u from fun j u hj=>by simpa using ku (y:=E) hj);have Z':=zh (show ∀j u,(aZ k[i].2 E)[j]?=some u->(dw k[i] F E).toArray[9+j]?=some u from fun j u hj=>by simpa using nP (x:=F) hj);have M':=Yf n k i hlt;have htot:=HT.o.2 (i+1);have H:=C'.o k[i] (zF hlt);have J:=Wo f lv k i hlt ⟨a.n+1,max a.d lv,a.b⟩;rw[<-P]at J;have a':Ru T (3000000-(di n k[i].1:Nat)):=⟨B.n,by have:=B.le;omega,B.d,B.top⟩;have p:=B.vis (f:=f) (lv:=lv+1) zo H.1.ht;have A:=p.vis (f:=f) (lv:=lv+1) zo H.2.ht;have Z:Ru (lK f (lv+1) k[i].1 T) (3000000-(di n k[i].2:Nat)):=⟨p.n,by have:=p.le;omega,p.d,p.top⟩;have h':=zh (fun w' (h:Own w0 m w' mi (.obj g 94 (wkC T)::.obj wr.heap.size 35 (dw k[i] F E).toArray::.obj w.heap.size 33 N.toArray::L))=>
    uI f (lv+1) n k[i].1 F g T w0 w' m mi _ zo h (y'.o.le (Mem.le_trans j'.o s)) (r1.le s) H.1 a' zo)
   have g':=zh (fun w' mj (hj:mi.le mj) (h:Own w0 m w' mj (.obj g 94 (wkC (lK f (lv+1) k[i].1 T))::.obj wr.heap.size 35 (dw k[i] F E).toArray::.obj w.heap.size 33 N.toArray::L))=>
    uI f (lv+1) n k[i].2 E g _ w0 w' m mj _ zo h (y'.o.le (Mem.le_trans (Mem.le_trans j'.o s) hj)) (r2.le (Mem.le_trans s hj)) H.2 Z zo)
   have E':=zh (show Ru (wm f lv (k.take (i+1)) ⟨a.n+1,max a.d lv,a.b⟩) (3000000-(u':Int)+(Df n k (i+1):Nat))by
    rw[J];exact⟨A.n,by have:=A.le;omega,A.d,A.top⟩)
   have V':=zh J;have B':=zh s;have HO:=zh (I.al lZ 35);unfold Vl.val at h' g';have R':(aZ k[i].1 F).length=9:=rfl;have Q':(aZ k[i].2 E).length=9:=rfl;generalize aZ k[i].1 F=N1 at*
   generalize aZ k[i].2 E=N2 at*
   generalize dw k[i] F E=D at*
   clear I hc r1 r2 h4 M' B a' p A Z H J P s
   go_wp2_with (first
    |refine aj ek rfl (.tmp 28) rfl rfl D hl2 HC.o ?_
    | refine aA ek rfl (.tmp 7) (.tmp 29) rfl (cs:=D.toArray) rfl rfl rfl qeZ (fun u hu=>h2 u hu) HO.o.obj ?_)
   intro w5 n' p';have S:=HO.o.aQ n' p';have q0:=S.obj.sub HF1.o;have U':=S.obj.lt;have x':=zh (h'.o _ S.av);clear HO HC n' p' S h'
   go_wp2_with (refine aj jI rfl (.tmp 31) rfl rfl N1 R' q0 ?_)
   refine x'.o.mono ?_;rintro e w6 ⟨mj,rfl,Q,G⟩;have q1:=Q.av.obj.sub Z'.o;have T':=Q.av.obj.lt;have v':=zh (g'.o _ mj G Q);have Y':=zh G;clear Q G x' g' q0 U'
   go_wp2_with (refine aj jI rfl (.tmp 37) rfl rfl N2 Q' q1 ?_)
   refine v'.o.mono ?_;rintro e w7 ⟨L',rfl,r',b'⟩;have i':=zh (zi r'.bM (Mem.le_trans B'.o (Mem.le_trans Y'.o b')));rw[<-V'.o]at i';clear r' b' v' q1 T';go_wp2;exact hX.o _ _ _ zo rfl ⟨i+1,_,L',zo,rfl,rfl,rfl,E'.o,i'.o.2,i'.o.1⟩
noncomputable def wkV(v:Vl):Vs:=lK 16 1 v ⟨0,0,false⟩
theorem OZ(v:Vl)(x:Sl)(m:Mem)(n:Nat)(w:zW)(k:m.az w)(b:eD m)(h:aY m n x v)(i:nV n v)(d:di n v<=1048576):
 zC 54 #[v.val x] w fun e w'=>∃g,e=.returned (.p g)/\zB w w'/\bg w' g 94 (wkC (wkV v)):=by
 have c:=((Own.start k).al (aZ v x).toArray 33).al (wkC ⟨0,0,false⟩) 94;simp only[bB]at c;have f:=zh (uI 16 1 n v x (w.heap.size+1) ⟨0,0,false⟩ w _ m m _ rfl c b h i ⟨by show(0:Int)<=0;omega,by show(0:Int)<=_;omega,by show(0:Int)<=0;omega,by show(0:Int)<=17;omega⟩ d);have r:=zh c.av.obj.all;have p:(aZ v x).length=9:=rfl;have t:=c.av.obj.lt;have q:=zh (show lK 16 1 v ⟨0,0,false⟩=wkV v from rfl);unfold Vl.val;unfold Vl.val at f;generalize aZ v x=N at*
 clear c h i;refine au fun R l=>?_
 go_enter func54,ntmps54
 go_wp2_with (refine aj jI rfl (.tmp 1) rfl rfl N p r.o ?_)
 refine f.o.mono ?_;rintro e s ⟨mk,rfl,a,-⟩;have j:=zh (zi a.aF a.obj);rw[q.o]at j;clear a f;go_wp2;exact l.o _ _ ⟨_,rfl,j.o⟩
theorem ez1(v:Vl):(wkV v).b = !tf (iI v):=by unfold wkV iI;rw[YW];rfl
theorem uK(v:Vl)(x:Sl)(m:Mem)(n:Nat)(w:zW)(u:m.az w)(c:eD m)(p:aY m n x v)(q:nV n v)(h:di n v<=1048576):
 zX 35 #[v.val x] w (.bool (tf (iI v))):=by
 have f:=(Own.start u).al (aZ v x).toArray 33;have j:=zh (OZ v x m n _ f.az c p q h);have s:=zh f.obj.all;have z:(aZ v x).length=9:=rfl;have t:=zh (ez1 v);have r:=zh f;have E:=f.obj.lt;unfold Vl.val;unfold Vl.val at j;generalize aZ v x=N at*
 generalize wkV v=k at*
 clear f p q;refine au fun R y=>?_
 go_enter func35,ntmps35
 go_wp2_with (refine aj jI rfl (.tmp 1) rfl rfl N z s.o ?_)
 refine j.o.mono ?_;rintro e C ⟨g,rfl,d,a⟩;have F:=a.cell (i:=2) (v:=.bool k.b) rfl;have A:=a.lt;have B:=zh (r.o.aT d).aF;have l:=zh (show tf (iI v) = !k.b by rw[t.o,Bool.not_not]);clear r d a j s t;generalize tf (iI v)=D at*
 go_wp2;exact y.o _ _ ⟨by rw[l.o]<;>rfl,B.o⟩
theorem uJ(d:Vd)(x y:Sl)(m:Mem)(n:Nat)(w:zW)(H:m.az w)(b:eD m)(t:aY m n x d.1)(s:aY m n y d.2)(f1:nV n d.1)(f2:nV n d.2)(F:di n d.1<=1048576)(E:di n d.2<=1048576):
 zX 17 #[bQ d x y] w (.bool (tf (iI d.1)&&tf (iI d.2))):=by
 have l:=(Own.start H).al (dw d x y).toArray 35;have B:=zh (uK d.1 x m n _ l.az b t f1 F);have z:=zh (fun w' (h:m.az w')=>uK d.2 y m n w' h b s f2 E);have I:(aZ d.1 x).length=9:=rfl;have p:(aZ d.2 y).length=9:=rfl;have A:=zh qhN;have q:=zh l;unfold Vl.val bQ at*
 generalize aZ d.1 x=N at*
 generalize aZ d.2 y=v at*
 generalize dw d x y=D at*
 clear l t s f1 f2;have r:=q.o.obj.sub (o:=0) (cs:=N) fun j u k=>by simpa using A.o.1 j u k
 generalize tf (iI d.1)=G at*
 generalize tf (iI d.2)=K at*
 refine au fun R hR=>?_
 go_enter func17,ntmps17
 go_wp2_with (refine aj jI rfl (.tmp 3) rfl rfl N I r ?_)
 refine B.o.mono ?_;rintro e C ⟨rfl,g⟩;have a:=zh (q.o.aT g);have c:=zh (z.o C a.o.az);have i:=a.o.obj.sub (o:=9) (cs:=v) fun j u k=>by simpa using A.o.2 j u k
 clear q B z g r;cases G
 .have HB:=zh a.o.aF;clear a c i;exact qaD
 .go_wp2_with (refine aj jI rfl (.tmp 7) rfl rfl v p i ?_)
  refine c.o.mono ?_;rintro e J ⟨rfl,f⟩;have HB:=zh (a.o.aT f).aF;clear a c f i;exact qaD
end Cl
namespace Cl
open Go Go.RowKit Go.Proofs
def EG(m:Mem)(a:List Value)(l:List aK):Prop:=a.length=l.length/\∀i (c:i<a.length) (b:i<l.length),aV m a[i] l[i]
theorem EG.le{m m':Mem}{a:List Value}{l:List aK}(h:EG m a l)(k:m.le m'):EG m' a l:=⟨h.1,fun i c b=>bq k (h.2 i c b)⟩
theorem EG.push{m:Mem}{a:List Value}{l:List aK}(h:EG m a l){x:zV}{t:aK}(b:aV m x t):EG m (a++[x]) (l++[t]):=by
 refine⟨by simp[h.1],fun i e f=>?_⟩;by_cases c:i<a.length
 .rw[xM c,xM (by rw[<-h.1];exact c)];exact h.2 i c _
 .have d:i=a.length:=by simp at e;omega
  subst d;simp[h.1,b]
theorem og.exec{P:Program}{t:TypeId}{n:Nat}(S:og P t n){w:zW}{o:Oper}{c:Operand->Value}{p:Operand}(a:o.op=Op.load t p){b off:Nat}(d:c p=.pointer (some ⟨b,off,none⟩)){cs:List Value}(e:cs.length=n)(f:∀j u,cs[j]?=some u->w.cell? ⟨b,off+j,none⟩=some u):
 (execOp c o).run P w=.ok (.value (.agg cs.toArray)) w:=by
 simp[execOp,a,d,Instr.loadAt,Instr.sureAddr,S.load e f,Result.andThen]
theorem bzA{n k:Nat}{v:Vl}(b:Ht n v)(a:Ht k v):di n v=di k v:=(zx b (Nat.le_max_left n k)).symm.trans (zx a (Nat.le_max_right n k))
end Cl
