/- Lemmas for the proofs of chapter 11. -/
import Derived.Test.YtbbnjopkjbhpbaaGreatDoorPkP19
set_option maxRecDepth 100000
set_option maxHeartbeats 16000000
namespace Cl
open Go Go.RowKit Go.Proofs Tryz
noncomputable def bzk(v:Vl):Bool := !v.any&&decide (v.aN.length=0)&&decide (v.aA.length=0)&&mZ v.s
theorem DC(v:Vl)(x:Sl):∀j u,([.bool v.s.dI,.bool v.s.dM,.bool v.s.dO,x.i,x.f,x.t]:List Value)[j]?=some u->(bu v x).toArray[1+j]?=some u:=by
 intro j u a;have b:=(yB.1 a).1
 match j,a,b with
 |0,a,_=>exact a
 |1,a,_=>exact a
 |2,a,_=>exact a
 |3,a,_=>exact a
 |4,a,_=>exact a
 |5,a,_=>exact a
 |j+6,_,h=>simp at h;omega
theorem OI:mZ cK=true:=by unfold mZ;rw[bzg gI];exact aM fun e h=>(A8.mem e).1 h
theorem Gl(v:Vl)(x:Sl)(m:Mem)(n:Nat)(w:zW)(T:m.ay w)(y:dV m)(H:bq m n x v)(C:jS v.s 30000 100000)(O:v.aN.length<=1000000)(M:v.aA.length<=1000000):
 zX 16 #[v.val x] w (.bool (bzk v)):=by
 have b:=(Own.start T).al (bu v x).toArray 33;have I:=H.sc;have E:=zh (FN x.i x.f x.t v.s m (w.alloc (.cells (bu v x).toArray 33)) I ⟨by have:=C.i;omega,by have:=C.f;omega,by have:=C.t;omega⟩);have B:=zh (b.obj.sub (DC v x));have F:=zh (fun w' (h:Below (w.alloc (.cells (bu v x).toArray 33)).heap.size (w.alloc (.cells (bu v x).toArray 33)) w')=>FT x.i x.f x.t v.s m w' (b.aS h).ay y I C);have K:=zh b.az;have HL:=zh (zi O M);obtain⟨a1,b1,a2,b2,a3,b3,Z,X,Y,W,rfl,-⟩:=H.df;have c0:=b.obj.cell (i:=0) (v:=.bool v.any) rfl;have c7:=b.obj.cell (i:=7) (v:=.slice Z v.aN.length X) rfl;have c8:=b.obj.cell (i:=8) (v:=.slice Y v.aA.length W) rfl;have l:=zh (show bzk v=(!v.any&&decide (v.aN.length=0)&&decide (v.aA.length=0)&&mZ v.s) from rfl);unfold Vl.val;clear b I H;generalize (bu v _).toArray=N at*
 generalize v.aN.length=r at*
 generalize v.aA.length=q at*
 generalize v.any=p at*
 generalize bzk v=S at*
 clear O M;refine au fun R D=>?_
 cases p with
 |true=>
  go_enter func16,ntmps16
  go_wp2
  exact D.o _ _ ⟨by rw[l.o];rfl,K.o⟩
 |false=>
  by_cases G:r=0/\q=0
  .obtain⟨rfl,rfl⟩:=G
   go_enter func16,ntmps16
   go_wp2_with (refine aj wQ rfl (.tmp 17) rfl rfl _ rfl B.o ?_)
   refine E.o.mono ?_;rintro e L ⟨rfl,a⟩;have g:=zh (F.o L a);have c:=zh (fun j u U=>(mP a zS (B.o j u U):L.cell? _=_));have k:=zh (iY K.o a);by_cases z:v.s=cK
   .have d:=zh (show S=true by rw[l.o,z,OI];rfl);rw[aM z];clear F E g B c l a z;go_wp2;exact D.o _ _ ⟨by rw[d.o];rfl,k.o⟩
   .rw[aF z];clear F E B a z
    go_wp2_with (refine aj wQ rfl (.tmp 21) rfl rfl _ rfl c.o ?_)
    refine g.o.mono ?_;rintro e w2 ⟨rfl,A⟩;have J:=zh (iY k.o A);generalize mZ v.s=V at*
    clear g c k A;go_wp2;exact D.o _ _ ⟨by rw[l.o];cases V<;>rfl,J.o⟩
  .have d:=zh (show S=false by rw[l.o];by_cases Q:r=0<;>by_cases P:q=0<;>simp[Q,P]<;>exact absurd ⟨Q,P⟩ G);have hw:wrap64 ((r:Int)+q)=(r:Int)+q:=by have:=HL.o;unfold wrap64;omega
   have hd:((r:Int)+q==0)=false:=zO.2 zo;clear F E B l G
   go_enter func16,ntmps16
   go_wp2;exact D.o _ _ ⟨by rw[d.o];rfl,K.o⟩
theorem fzx:(prog.info? 5).map (fun i=>(i.zero,i.size,i.bytes))=some (some (.int .u8 0),1,1):=by kernel_rfl
theorem Z7(l:List Int){i:Nat}(h:i<l.length):txt (l.take (i+1))=txt (l.take i)++44::Lib.itoa l[i]:=by
 unfold txt;exact qcu
theorem GI:∀(l:List Int),(∀x∈l,-9223372036854775808<=x/\x<=9223372036854775807)->(txt l).length<=22*l.length
 |[],_=>by simp[txt]
 |x::l,h=>by
  have b:=Lib.itoa_length_le x (h x zS).1 (h x zS).2;have a:=GI l fun y hy=>h y qei;have e:txt (x::l)=44::(Lib.itoa x++txt l):=by simp[txt]
  rw[e,yO,zL,yO];omega
theorem Jq{m:Mem}{v:zV}{l:List Int}(h:jd m v l):∀x∈l,-9223372036854775808<=x/\x<=9223372036854775807:=by
 obtain⟨a,c,-,-,-,g⟩:=h;intro x d;obtain⟨i,hi,rfl⟩:=yX d;obtain⟨b,off,-,f⟩:=g (fun e=>by rw[e]at hi;simp at hi);exact(f i hi).2
theorem Hy(v:zV)(l:List Int)(m:Mem)(w:zW)(hm:m.ay w)(G:dV m)(hl:jd m v l)(g':l.length<=1000000):
 zX 195 #[v] w (.string ⟨(txt l).toArray⟩):=by
 obtain⟨i0,hi,E,D,C⟩:=info_parts fzx;have hT:=Lib.tabBelow_of_tabIs (G.get w hm);have I:=Jq hl;obtain⟨a,c,rfl,p1,q1,k1⟩:=hl;unfold maxLen at q1;have HK:=zh (zi k1 (zi hT I));have S:=zh (zi hi (zi E (zi D C)));clear k1 hT hi E D C I;have K:zB w w:=zR _ _;refine au fun R hR=>?_
 go_enter func195,ntmps195
 go_wp2;refine aC [3,6,7,8] (fun q vs r=>∃(i:Nat) (o:zV),i<=l.length/\q=l.length-i/\vs=[o,.slice a l.length c,.int .i64 (l.length:Int),.int .i64 (i:Int)] /\
  r.ownsRow w.heap.size 5 1 o (txt (l.take i)).length (Lib.byteCells (txt (l.take i)))/\zB w r) ?_ ?_
 .exact⟨_,0,_,zG _,rfl,rfl,World.ownsRow_nil _ _ _ _,K⟩
 clear K;rintro X z q vs r hX-⟨i,o,hi,rfl,rfl,hown,A⟩;simp[bB,lk];have s:=Mem_inn_below hm A;have W:=A.size;have U:=GI (l.take i) fun x u=>HK.o.2.2 x (xX u);rw[List.length_take]at U;by_cases hlt:i<l.length
 .obtain⟨b,off,rfl,Q⟩:=HK.o.1 qdP;have u:=(Q i hlt).2;have x1:=Mem_cell_w s (Q i hlt).1;have xl:=Mem_cell_lt s (Q i hlt).1;have H:=Z7 l hlt;have r':=Lib.itoa_length_le l[i] u.1 u.2;have HS:=zh H;have HB:=zh A;have HO:=zh hown;generalize txt (l.take i)=B at*
  generalize l[i]=T at*
  clear Q H A hown s
  go_wp2_with (at_builtin;refine wpList_append_own _ rfl (.tmp 12) (.tmp 13) 245 rfl w.heap.size 5 i0 (.int .u8 0) 1 1 underlying245 S.o.1 S.o.2.1 S.o.2.2.1 S.o.2.2.2 rfl zD _ _ _ rfl (HO.o.alloc _) ⟨r.heap.size,0,none⟩ 1 1 [Value.int .u8 44] rfl rfl (by intro j u' y;match j,y with|0,y=>simp at y;subst y;simp[Addr.add]) (by intro u' F;simp at F;subst F;rfl) qdR zo qdW ?_)
  intro v2 w2 n p _;have d:zB w w2:=(HB.o.alloc W _).grown p qdW (fun k hk=>(HO.o.lt k hk).1);have i':=d.size;have M:Lib.byteCells B++[Value.int .u8 44]=Lib.byteCells (B++[44]):=by simp[Lib.byteCells]
  have L:B.length+1=(B++[44]).length:=by simp
  rw[M,L]at n;have HA:=zh (Tryz.Dg w.heap.size _ T u.1 u.2 v2 _ w2 n d.size qdW (HK.o.2.1.on d));have O:=zh d;clear HO HB n p d M L
  go_wp2_with fail
  refine HA.o.mono ?_;rintro e w3 ⟨v3,rfl,f,J,-⟩;have M:Lib.byteCells (B++[44])++Lib.byteCells (Lib.itoa T)=Lib.byteCells (txt (l.take (i+1))):=by rw[HS.o];simp[Lib.byteCells]
  have L:(B++[44]).length+(Lib.itoa T).length=(txt (l.take (i+1))).length:=by rw[HS.o];simp;omega
  rw[M,L]at f;have N:=zh (zi f (O.o.trans J));clear HA O f J M L;go_wp2;exact hX.o _ _ _ zo rfl ⟨i+1,_,zo,rfl,rfl,N.o.1,N.o.2⟩
 .obtain rfl:i=l.length:=zo;rw[yG]at hown;have HB:=zh A;obtain⟨t,ht⟩:∃t,t=txt l:=⟨_,rfl⟩;rw[<-ht]at hown;have HT:=zh ht;clear ht A hX;rcases hown.2 with⟨rfl,Y⟩|⟨g,Z,s',rfl,-,-,-,-,-,-⟩
  .have Y:t=[]:=yM Y;subst Y;have V:(convert 245 9 (.slice none 0 0)).run prog r=.ok (.string ⟨#[]⟩) r:=by rw[run_convert_bytes_string (P:=prog) r 245 9 5 none 0 0 underlying245 underlying5 underlying9];simp[Conv.bytesToString];try rfl
   exact qc9
  .have V:=run_convert_bytes_back (P:=prog) r 245 9 5 ⟨g,0,none⟩ Z t underlying245 underlying5 underlying9 (fun j y=>hown.cells (g:=g) rfl j _ (by simp[Lib.byteCells,y]));exact qc9
theorem Z0(cs:List fF)(v:List Int)(k:Nat):pK (cs.take k) (v.take k)<=k:=by
 unfold pK;refine yJ List.countP_le_length ?_;simp;omega
theorem Il(c:St):(dW c).length=c.2.length+c.1.length:=by simp[dW]
def Js(c:St)(v:List Int)(k:Nat):Nat:=pK ((dW c).take k) (v.take k)
structure StV (c:St) (v:List Int):Prop where
 len:v.length=c.2.length+c.1.length
 le:∀k,Js c v k<=k
 all:pK (dW c) v=Js c v (c.2.length+c.1.length)
 fzb:∀i (h:i<c.2.length) (hv:i<v.length),-1<=v[i]/\v[i]<(c.2[i].1.length:Int)
 gzo:∀i (h:i<c.2.length) (hv:i<v.length),Js c v (i+1)=Js c v i+if bI c.2[i].1 v[i]then 1 else 0
 fzc:∀i (h:i<c.1.length) (hv:c.2.length+i<v.length),-1<=v[c.2.length+i]/\v[c.2.length+i]<=(c.1[i].1.1.size:Int)
 gzU:∀i (h:i<c.1.length) (hv:c.2.length+i<v.length),Js c v (c.2.length+(i+1))=Js c v (c.2.length+i)+if v[c.2.length+i]=(c.1[i].1.1.size:Int)then 1 else 0
theorem Fv(s:ByteArray):s.data.toList.length=s.size:=Array.length_toList
theorem StV.of{c:St}{v:List Int}(h:BK (dW c) v):StV c v:=by
 have g:=h.len;have b:=Il c;have e:∀i (hi:i<c.2.length) (d:i<(dW c).length),(dW c)[i]=lq (c.2[i]).1:=fun i hi d=>by
  simp only[dW];rw[xM qef];simp
 have f:∀i (hi:i<c.1.length) (d:c.2.length+i<(dW c).length),(dW c)[c.2.length+i]=sD (c.1[i]).1.1.data.toList:=fun i hi d=>by
  simp only[dW];rw[List.getElem_append_right zS];simp
 refine⟨zo,Z0 _ _,?_,fun i hi a=>?_,fun i hi a=>?_,fun i hi a=>?_,fun i hi a=>?_⟩
 .unfold Js;rw[<-b,yG,<-g,yG]
 .have:=h.get i zo a;rw[e i hi]at this;exact this
 .have:=Hu (cs:=dW c) (v:=v) (k:=i) zo a;rw[e i hi]at this;exact this
 .have:=h.get (c.2.length+i) zo a;rw[f i hi]at this;have j:(sD (c.1[i]).1.1.data.toList).n=(c.1[i]).1.1.size+1:=by show _+1=_;rw[Fv]
  rw[j]at this;omega
 .have:=Hu (cs:=dW c) (v:=v) (k:=c.2.length+i) zo a;rw[f i hi]at this;rw[<-Nat.add_assoc];unfold Js;rw[this]
  congr 1
  show(if(v[c.2.length+i]==(((c.1[i]).1.1.data.toList).length:Int))=true then 1 else 0)=_;rw[Fv];simp
theorem PD(u u' va:zV)(c:St)(v:List Int)(m:Mem)(n:Nat)(w:zW)(hm:m.ay w)(h1:gN (bq m n) m u c.1)(W:gP (bq m n) m u' c.2)(hv:jd m va v)(hV:BK (dW c) v):
 zX 196 #[.agg #[u,u'],va] w (.int .i64 (pK (dW c) v)):=by
 have C:=StV.of hV;have HVL:=zh C.len;obtain⟨a1,Z,rfl,p1,q1,k1⟩:=h1;obtain⟨a2,Y,rfl,p2,q2,k2⟩:=W;obtain⟨a3,c3,rfl,p3,q3,k3⟩:=hv;unfold maxLen at q1 q2 q3;have HA:=zh C.all;have HR:=zh (zi C.fzb C.fzc);have HH:=zh (zi C.gzo C.gzU);have HL:=zh C.le;have HK:=zh qgm;have HO:=zh ((Own.start hm).al #[.slice a1 c.1.length Z,.slice a2 c.2.length Y] 62);have h0:Js c v 0=0:=by simp[Js,pK]
 clear hV C k1 k2 k3;generalize pK (dW c) v=VH at*
 generalize Js c v=hk at*
 generalize c.2=d at*
 generalize c.1=s at*
 refine au fun R hR=>?_
 go_enter func196,ntmps196
 go_wp2;refine aC [1,2,5,11,12,13] (fun q N L=>∃(i:Nat),i<=d.length/\q=d.length-i/\N=[.slice a3 v.length c3,.pointer (some ⟨w.heap.size,0,none⟩),.int .i64 (hk i:Int),.slice a2 d.length Y,.int .i64 (d.length:Int),.int .i64 (i:Int)] /\
  Own w m L m [.obj w.heap.size 62 #[.slice a1 s.length Z,.slice a2 d.length Y]]) ?_ ?_
 .exact⟨_,0,zG _,rfl,by rw[h0];rfl,HO.o⟩
 clear HO;rintro X z q N L hX-⟨i,hi,rfl,rfl,f⟩;simp[bB,lk];have S:=HL.o i;have g0:=f.obj.c 0;have g1:=f.obj.c 1;have gl:=f.obj.lt;by_cases hlt:i<d.length
 .obtain⟨b,off,rfl,J⟩:=HK.o.2.1 qdP;obtain⟨kc,x,y,U,G,Q,P⟩:=(J i hlt).cells;obtain⟨b3,O,rfl,V⟩:=HK.o.2.2 qd3;have l:i<v.length:=by have:=HVL.o;omega
  have D:=(V i l).1;have l':=Mem_cell_lt f.ay (G 0 _ rfl);have K:=zh (fun j u hj=>Mem_cell_w f.ay (G j u hj));have W:=nU U Q P;have hl2:(ow d[i] kc x y).length=19:=rfl;have H0:(ow d[i] kc x y).toArray[0]?=some kc:=rfl;have i':=HR.o.1 i hlt l;have HS:=zh (HH.o.1 i hlt l);have B:∀k:Nat,k<d[i].1.length->bI d[i].1 (k:Int)=((d[i].1)[k]?.map (·.bU)).getD false:=fun k hk=>by rw[kT _ _ hk];simp[hk]
  have A:∀z:Int,z<0->bI d[i].1 z=false:=fun z hz=>by unfold bI;rw[zK hz]
  have HQ:=zh (zi B A);have HO:=zh (f.al SB 68);obtain⟨ta,tc,rfl,t1,t2,t3⟩:=U;unfold maxLen at t2;have HT:=zh t3;generalize ow d[i] _ x y=M at*
  generalize v[i]=E at*
  generalize d[i].1=T at*
  generalize hk i=r at*
  clear f Q P G J V t3 B A
  go_wp2_with (first
   |refine aj sw rfl (.tmp 16) rfl rfl M hl2 K.o ?_
   | refine aB sw rfl (.tmp 7) (.tmp 17) rfl (cs:=M.toArray) rfl rfl rfl qdZ (fun u hu=>W u hu) HO.o.obj ?_)
  intro w1 g p;have a:=HO.o.aW g p;have gb:=g.cell H0;have n':=a.obj.lt;have x1:=Mem_cell_w a.ay D;have xl:=Mem_cell_lt a.ay D;have HO1:=zh a.tail;by_cases t:0<=E
  .obtain⟨k,rfl⟩:=zT t;have hkt:k<T.length:=zo;obtain⟨tb,to,rfl,t4⟩:=HT.o qet;obtain⟨s1,-⟩:=t4 k hkt;have y1:=Mem_cell_w a.ay s1;have yl:=Mem_cell_lt a.ay s1;have H:=HQ.o.1 k hkt;rw[yH hkt]at H;simp only[vH,xA]at H;rw[H]at HS;generalize T[k].bU=acc at*
   clear a HO g p K D s1 t4 H HQ;have hd:decide (0<=(k:Int))=true:=zN zo;cases acc
   all_goals
    simp only[if_true,if_false,Bool.false_eq_true]at HS;go_wp2
    go_quiet (fail)
    exact qgW
  .have hd:decide (0<=E)=false:=zM t;have H:=HQ.o.2 E zo;rw[H]at HS;simp only[if_false,Bool.false_eq_true]at HS;clear a HO g p K D H HQ;go_wp2
   go_quiet (fail)
   exact qgW
 .obtain rfl:i=d.length:=zo;have HO:=zh f;clear f hX;go_wp2;refine aC [1,2,5,39,40,41] (fun q N L=>∃(i:Nat),i<=s.length/\q=s.length-i/\N=[.slice a3 v.length c3,.pointer (some ⟨w.heap.size,0,none⟩),.int .i64 (hk (d.length+i):Int),.slice a1 s.length Z,.int .i64 (s.length:Int),.int .i64 (i:Int)] /\
   Own w m L m [.obj w.heap.size 62 #[.slice a1 s.length Z,.slice a2 d.length Y]]) ?_ ?_
  .exact qbt
  clear HO g0 g1 gl S;rintro X z q N L hX-⟨i,hi,rfl,rfl,f⟩;simp[bB,lk];have S:=HL.o (d.length+i);have g0:=f.obj.c 0;have g1:=f.obj.c 1;have gl:=f.obj.lt;by_cases hlt:i<s.length
  .obtain⟨b,off,rfl,J⟩:=HK.o.1 qdP;obtain⟨x,y,G,Q,P⟩:=(J i hlt).cells;obtain⟨b3,O,rfl,V⟩:=HK.o.2.2 qd3;have l:d.length+i<v.length:=by have:=HVL.o;omega
   have D:=(V (d.length+i) l).1;have l':=Mem_cell_lt f.ay (G 0 _ rfl);have K:=zh (fun j u hj=>Mem_cell_w f.ay (G j u hj));have W:=mV Q P;have hl2:(qI s[i] x y).length=20:=rfl;have H0:(qI s[i] x y).toArray[0]?=some (.string s[i].1.1):=rfl;have i':=HR.o.2 i hlt l;have h':=(J i hlt).sz;have HS:=zh (HH.o.2 i hlt l);have HO:=zh (f.al SG 82);unfold maxLen at h';generalize qI s[i] x y=M at*
   generalize v[d.length+i]=E at*
   generalize s[i].1.1=F at*
   generalize hk (d.length+i)=r at*
   clear f Q P G J V
   go_wp2_with (first
    |refine aj uh rfl (.tmp 44) rfl rfl M hl2 K.o ?_
    | refine aB uh rfl (.tmp 9) (.tmp 45) rfl (cs:=M.toArray) rfl rfl rfl qdZ (fun u hu=>W u hu) HO.o.obj ?_)
   intro w1 g p;have a:=HO.o.aW g p;have g0:=a.av.obj.c 0;have g1:=a.av.obj.c 1;have gl:=a.av.obj.lt;have gb:=g.cell H0;have n':=a.obj.lt;have x1:=Mem_cell_w a.ay D;have xl:=Mem_cell_lt a.ay D;have HO1:=zh a.tail;clear a HO g p K D;by_cases I:E=(F.size:Int)
   .have hd:(E==(F.size:Int))=true:=beq_iff_eq.2 I;rw[zK I]at HS;clear I;go_wp2
    go_quiet (fail)
    exact qgW
   .have hd:(E==(F.size:Int))=false:=zO.2 I;rw[zJ I]at HS;clear I;go_wp2
    go_quiet (fail)
    exact qgW
  .obtain rfl:i=s.length:=zo;have HB:=zh f.az;clear f hX;go_wp2;exact hR.o _ _ ⟨by rw[HA.o]<;>rfl,HB.o⟩
def fz2(m:Mem)(b o:Nat)(x:Nat):Prop:=m.cell b o=some (.int .u8 (x:Int))/\x<256
def V5(m:Mem)(v:zV)(l:List Nat):Prop:=Mem.uZ (fz2 m) v l
theorem Z4{m m':Mem}(h:m.le m'){v:zV}{l:List Nat}(k:V5 m v l):V5 m' v l:=Mem_slice1_mono k fun _ _ _ k=>⟨Mem_cell_le h k.1,k.2⟩
theorem NG{w:zW}{t:TypeId}{v:zV}{l:List Nat}{m:Mem}(d:w.ownsRow 0 t 1 v l.length (l.map fun x:Nat=>Value.int .u8 (x:Int)))(hk:∀x∈l,x<256):V5 (m.iH w v) v l:=by
 have h:=fK (R:=fun b o x=>fz2 (m.iH w v) b o x) d fun g f i h=>⟨dZ d f m qeI,hk _ (zF h)⟩;obtain⟨a,c,r,q,p,n⟩:=h;exact⟨a,c,r,q,p,fun e=>by
  obtain⟨b,off,k,j⟩:=n e;exact⟨b,off,k,fun i hi=>by have:=j i hi;rwa [Nat.mul_one]at this⟩⟩
def XO(c:St)(v:List Int)(k b:Nat):Prop:=b=0\/∃i,∃h:i<c.2.length,i<k/\JN (wo (c.2[i]).1 (v.getD i (-1))) b
def azg(c:St)(v:List Int)(k b:Nat):Prop:=XO c v c.2.length b\/∃i,∃h:i<c.1.length,i<k/\dzl (c.1[i]).1.1.data.toList (v.getD (c.2.length+i) (-1)) b
theorem XN{c:St}{v:List Int}{k:Nat}(h:k<c.2.length)(b:Nat):XO c v (k+1) b↔XO c v k b\/JN (wo (c.2[k]).1 (v.getD k (-1))) b:=by
 constructor
 .rintro(d|⟨i,hi,hk,a⟩)
  .exact .inl (.inl d)
  .by_cases e:i=k
   .subst e;exact .inr a
   .exact .inl (.inr ⟨i,hi,zo,a⟩)
 .rintro((d|⟨i,hi,hk,a⟩)|a)
  .exact .inl d
  .exact .inr ⟨i,hi,zo,a⟩
  .exact .inr ⟨k,h,zo,a⟩
theorem XM{c:St}{v:List Int}{k:Nat}(h:k<c.1.length)(b:Nat):azg c v (k+1) b↔azg c v k b\/dzl (c.1[k]).1.1.data.toList (v.getD (c.2.length+k) (-1)) b:=by
 constructor
 .rintro(d|⟨i,hi,hk,a⟩)
  .exact .inl (.inl d)
  .by_cases e:i=k
   .subst e;exact .inr a
   .exact .inl (.inr ⟨i,hi,zo,a⟩)
 .rintro((d|⟨i,hi,hk,a⟩)|a)
  .exact .inl d
  .exact .inr ⟨i,hi,zo,a⟩
  .exact .inr ⟨k,h,zo,a⟩
theorem XL(c:St)(v:List Int)(b:Nat):azg c v 0 b↔XO c v c.2.length b:=⟨fun h=>h.elim id fun⟨i,_,hk,_⟩=>absurd hk (xY i),.inl⟩
theorem azf(c:St)(v:List Int)(b:Nat):azg c v c.1.length b↔KO c v b:=by
 constructor
 .rintro((h|⟨i,hi,-,a⟩)|⟨i,hi,-,a⟩)
  .exact .inl h
  .exact .inr (.inl ⟨i,hi,a⟩)
  .exact .inr (.inr ⟨i,hi,a⟩)
 .rintro(h|⟨i,hi,a⟩|⟨i,hi,a⟩)
  .exact qcZ
  .exact .inl (.inr ⟨i,hi,hi,a⟩)
  .exact .inr ⟨i,hi,hi,a⟩
theorem YW{es:List Ed}{j:Nat}(h:j<es.length)(b:Nat):JN (es.take (j+1)) b↔JN (es.take j) b\/ng es[j] b:=z8 h b
theorem M5(l:aK)(k:Nat)(h:k<l.length):wo l (k:Int)=(l[k]).bv:=by
 unfold wo;rw[zJ zo];simp[h]
noncomputable def marked(P:Nat->Prop)(q:Nat):List Nat:=(List.range q).filter fun b=>tf (P b)
theorem Qw(P:Nat->Prop)(n:Nat):marked P (n+1)=marked P n++if tf (P n)then[n]else[]:=by
 unfold marked;rw[List.range_succ,List.filter_append]
 congr 1
 cases h:tf (P n)<;>simp[h]
theorem Mo(P:Nat->Prop)(n:Nat):∀x∈marked P n,x<n:=fun x a=>by
 simp only[marked,xR,yQ]at a;exact a.1
theorem Ym(P:Nat->Prop)(n:Nat):(marked P n).length<=n:=yJ (vB _ _) zS
theorem Ue{P:Nat->Prop}{n x:Nat}:x∈marked P n↔x<n/\P x:=by simp[marked,kF]
theorem fz3:fB prog 245 5 1 1:=⟨underlying245,zo,by
 obtain⟨i,d,c,b,a⟩:=info_parts (P:=prog) (e:=5) (z:=.int .u8 0) (size:=1) (bytes:=1) zk;exact⟨i,_,d,c,b,a,rfl⟩⟩
theorem getD_at{v:List Int}{i:Nat}(h:i<v.length):v.getD i (-1)=v[i]:=by simp[h]
theorem gzK:oG prog 288 257:=⟨Tryz.isAgg288,Tryz.sizeOf288⟩
theorem KM(u u' va:zV)(c:St)(v:List Int)(m:Mem)(n:Nat)(w:zW)(hm:m.ay w)(h1:gN (bq m n) m u c.1)(E:gP (bq m n) m u' c.2)(hv:jd m va v)(hV:BK (dW c) v)(H:∀k∈c.2,WF k.1):
 zC 197 #[.agg #[u,u'],va] w fun e w'=>∃r,e=.returned r/\zB w w'/\V5 (m.grow w w') r (marked (KO c v) 256):=by
 have hS:=StV.of hV;have HVL:=zh hS.len;obtain⟨a1,c1,rfl,p1,q1,k1⟩:=h1;obtain⟨a2,c2,rfl,p2,q2,k2⟩:=E;obtain⟨a3,c3,rfl,p3,q3,k3⟩:=hv;unfold maxLen at q1 q2 q3;have HR:=zh (zi hS.fzb hS.fzc);have HK:=zh qgm;have HW:=zh (fun i (h:i<c.2.length)=>H c.2[i] (zF h));have O':=zh (fun k (h:k<c.2.length) b=>XN (v:=v) h b);have N':=zh (fun k (h:k<c.1.length) b=>XM (v:=v) h b);have HZ:=zh (XL c v);have HA:=zh (azf c v);have N:∀b,XO c v 0 b↔b=0:=fun b=>⟨fun h=>h.elim id fun⟨i,_,hk,_⟩=>absurd hk (xY i),.inl⟩;have S':=zh N;have f:=(Own.start hm).al #[.slice a1 c.1.length c1,.slice a2 c.2.length c2] 62;clear hV hS k1 k2 k3 H N;generalize XO c v=M1 at*
 generalize azg c v=M2 at*
 generalize KO c v=K at*
 generalize c.2=g at*
 generalize c.1=B at*
 refine au fun R hR=>?_;have hO2:=f.al zeroCells288 288;simp only[bC]at hO2;have z1:zeroCells288.size=257:=by rw[CU];simp
 have z2:∀u∈(zeroCells288.setIfInBounds 0 (.bool true)).toList,u.oneCell'=true:=fun u P=>by
  rw[CU,rG,j5]at P;simp only[lL,yD,yQ]at P;obtain⟨b,-,rfl⟩:=P;rfl
 have HO2:=zh (zi hO2 z2);have z3:(zeroCells288.setIfInBounds 0 (.bool true)).size=257:=by simp[z1]
 clear f hO2 z2
 go_enter func197,ntmps197
 go_wp2_with (refine aB gzK rfl (.tmp 5) (.tmp 15) rfl (cs:=zeroCells288.setIfInBounds 0 (.bool true)) rfl rfl z1 z3 HO2.o.2 HO2.o.1.obj ?_)
 intro w0 k' o';have f:=HO2.o.1.aW k' o';rw[CU,rG,j5,eu (P':=M1 0) (by intro b _;rw[S'.o];simp)]at f;have g0:=f.av.obj.c 0;have g1:=f.av.obj.c 1;have Z:=f.av.obj.lt;have HO:=zh f;clear HO2 k' o' f z1 z3;go_wp2;refine aC [1,2,5,17,18,19] (fun q F V=>∃(i:Nat),i<=g.length/\q=g.length-i/\F=[.slice a3 v.length c3,.pointer (some ⟨w.heap.size,0,none⟩),.pointer (some ⟨w.heap.size+1,0,none⟩),.slice a2 g.length c2,.int .i64 (g.length:Int),.int .i64 (i:Int)] /\
  Own w m V m [.obj (w.heap.size+1) 288 (lL (M1 i) 257),.obj w.heap.size 62 #[.slice a1 B.length c1,.slice a2 g.length c2]]) ?_ ?_
 .exact qbt
 clear HO g0 g1 Z;rintro X z q F V hX-⟨i,hi,rfl,rfl,f⟩;simp[bB,lk];have g0:=f.av.obj.c 0;have g1:=f.av.obj.c 1;have Z:=f.av.obj.lt;by_cases hlt:i<g.length
 .obtain⟨b,off,rfl,h4⟩:=HK.o.2.1 qdP;obtain⟨kc,x,y,n',J,W,hy⟩:=(h4 i hlt).cells;obtain⟨b3,O,rfl,h5⟩:=HK.o.2.2 qd3;have t:i<v.length:=by have:=HVL.o;omega
  have I:=(h5 i t).1;have q':=Mem_cell_lt f.ay (J 0 _ rfl);have HC:=zh (fun j u hj=>Mem_cell_w f.ay (J j u hj));have E:=nU n' W hy;have hl2:(ow g[i] kc x y).length=19:=rfl;have H0:(ow g[i] kc x y).toArray[0]?=some kc:=rfl;have I':=HR.o.1 i hlt t;have HS:=zh (O'.o i hlt);have U:∀z:Int,z<0->wo g[i].1 z=[]:=fun z hz=>by unfold wo;rw[zK hz]
  have H:=HW.o i hlt;rw[getD_at t]at HS;have HQ:=zh (zi U H);have HO:=zh (f.al SB 68);obtain⟨ta,tc,rfl,t1,t2,t3⟩:=n';unfold maxLen at t2;have HT:=zh t3;generalize ow g[i] _ x y=M at*
  generalize v[i]=G at*
  generalize g[i].1=T at*
  clear f W hy J h4 h5 t3 U H
  go_wp2_with (first
   |refine aj sw rfl (.tmp 22) rfl rfl M hl2 HC.o ?_
   | refine aB sw rfl (.tmp 7) (.tmp 23) rfl (cs:=M.toArray) rfl rfl rfl qdZ (fun u P=>E u P) HO.o.obj ?_)
  intro w1 p s;have a:=HO.o.aW p s;have gb:=p.cell H0;have s':=a.obj.lt;have x1:=Mem_cell_w a.ay I;have xl:=Mem_cell_lt a.ay I;have A:=zh a.tail;by_cases S:G<0
  .have hd:decide (G<0)=true:=zN S;have ha:=HQ.o.1 G S;rw[ha]at HS;have HO2:=A.o;rw[eu (P':=M1 (i+1)) (by intro b _;rw[HS.o];simp[JN])]at HO2;have HO2:=zh HO2;clear a HO p s HC I ha HQ HS A;exact qbp
  .obtain⟨k,rfl⟩:=zT (by omega:0<=G);have hkt:k<T.length:=zo;obtain⟨tb,to,rfl,t4⟩:=HT.o qet;obtain⟨s1,ve,s2,ea,ec,rfl,e4,e5,e6⟩:=t4 k hkt;have y1:=Mem_cell_w a.ay s2;have yl:=Mem_cell_lt a.ay s2;have m':=l7 (HQ.o.2 T[k] (zF hkt));rw[M5 T k hkt]at HS;have Q':=zh m';have R':=zh e6;unfold maxLen at e5;have hd:decide ((k:Int)<0)=false:=zM zo;generalize T[k].bv=es at*
   clear a HO p s HC I s1 s2 t4 HQ m' e6;go_wp2
   go_quiet (fail)
   go_wp2;refine aC [1,2,5,17,18,19,38,39,40] (fun q F w2=>∃(j:Nat),j<=es.length/\q=es.length-j/\F=[.slice (some ⟨b3,O,none⟩) v.length c3,.pointer (some ⟨w.heap.size,0,none⟩),.pointer (some ⟨w.heap.size+1,0,none⟩),.slice (some ⟨b,off,none⟩) g.length c2,.int .i64 (g.length:Int),.int .i64 (i:Int),.slice ea es.length ec,.int .i64 (es.length:Int),.int .i64 (j:Int)] /\
    Own w m w2 m [.obj (w.heap.size+1) 288 (lL (fun b=>M1 i b\/JN (es.take j) b) 257),.obj w.heap.size 62 #[.slice a1 B.length c1,.slice (some ⟨b,off,none⟩) g.length c2]]) ?_ ?_
   .refine⟨_,0,zG _,rfl,rfl,?_⟩;have:=A.o;rw[eu (P':=fun b=>M1 i b\/JN (es.take 0) b) (by intro b _;simp[JN])]at this;exact this.Fa _
   clear A g0 g1 Z gb s' x1 xl y1 yl;rintro Y z2 q2 F w2 hY-⟨j,hj,rfl,rfl,hO2⟩;simp[bB,lk];by_cases hlt2:j<es.length
   .obtain⟨b',off',rfl,N⟩:=R'.o qeb;obtain⟨I,e2,e3,e4',e5',-⟩:=N j hlt2;have hle:=(Q'.o es[j] (zF hlt2)).1;have d1:=Mem_cell_w hO2.ay I;have d2:=Mem_cell_w hO2.ay e2;have d3:=Mem_cell_w hO2.ay e3;have hb1:=Mem_cell_lt hO2.ay I;have s:=hO2.obj.lt;have k1:=hO2.obj.cell (jI (i:=es[j].lo) zo);have k2:=hO2.obj.cell (jI (i:=es[j].hi+1) zo);have k3:=hO2.obj.frozen es[j].lo;have k4:=hO2.obj.frozen (es[j].hi+1);have J':es[j].lo≠es[j].hi+1:=zo;have l':es[j].hi+1≠es[j].lo:=zo;have hO3:=(((hO2.set es[j].lo (.bool true)).set (es[j].hi+1) (.bool true))).al' (.cells #[.int .u8 es[j].lo,.int .u8 es[j].hi,.int .i64 es[j].to] 102);rw[j5,j5,eu (P':=fun b=>M1 i b\/JN (es.take (j+1)) b) (by
     intro b _;rw[YW hlt2];unfold ng;constructor
     .rintro((h|h)|h)
      .exact h.elim .inl (fun h=>.inr (.inl h))
      .exact .inr (.inr (.inl h.symm))
      .exact .inr (.inr (.inr h.symm))
     .rintro(h|h|h|h)
      .exact qds
      .exact qdr
      .exact .inl (.inr h.symm)
      .exact .inr h.symm)]at hO3
    have HO3:=zh hO3;clear hO3;go_wp2
    go_region
    all_goals go_wp2
    all_goals exact hY.o _ _ _ zo rfl ⟨j+1,zo,rfl,rfl,HO3.o.Fa _⟩
   .rw[eu (P':=M1 (i+1)) (by
     intro b _;rw[HS.o,xH (l:=es) (i:=j) zo])]at hO2
    exact qch
 .obtain rfl:i=g.length:=zo;rw[eu (P':=M2 0) (by intro b _;rw[HZ.o])]at f;have HO:=zh f;clear f hX;go_wp2;refine aC [1,2,5,55,56,57] (fun q F V=>∃(i:Nat),i<=B.length/\q=B.length-i/\F=[.slice a3 v.length c3,.pointer (some ⟨w.heap.size,0,none⟩),.pointer (some ⟨w.heap.size+1,0,none⟩),.slice a1 B.length c1,.int .i64 (B.length:Int),.int .i64 (i:Int)] /\
   Own w m V m [.obj (w.heap.size+1) 288 (lL (M2 i) 257),.obj w.heap.size 62 #[.slice a1 B.length c1,.slice a2 g.length c2]]) ?_ ?_
  .exact qbt
  clear HO g0 g1 Z;rintro X z q F V hX-⟨i,hi,rfl,rfl,f⟩;simp[bB,lk];have g0:=f.av.obj.c 0;have g1:=f.av.obj.c 1;have Z:=f.av.obj.lt;by_cases hlt:i<B.length
  .obtain⟨b,off,rfl,h4⟩:=HK.o.1 qdP;obtain⟨x,y,J,W,hy⟩:=(h4 i hlt).cells;obtain⟨b3,O,rfl,h5⟩:=HK.o.2.2 qd3;have t:g.length+i<v.length:=by have:=HVL.o;omega
   have I:=(h5 (g.length+i) t).1;have q':=Mem_cell_lt f.ay (J 0 _ rfl);have HC:=zh (fun j u hj=>Mem_cell_w f.ay (J j u hj));have E:=mV W hy;have hl2:(qI B[i] x y).length=20:=rfl;have H0:(qI B[i] x y).toArray[0]?=some (.string B[i].1.1):=rfl;have I':=HR.o.2 i hlt t;have H':=(h4 i hlt).sz;have HS:=zh (N'.o i hlt);rw[getD_at t]at HS;have hwb:=f.obj.lt;have HO:=zh (f.al SG 82);unfold maxLen at H';generalize qI B[i] x y=M at*
   generalize v[g.length+i]=G at*
   generalize B[i].1.1=d at*
   clear f W hy J h4 h5
   go_wp2_with (first
    |refine aj uh rfl (.tmp 60) rfl rfl M hl2 HC.o ?_
    | refine aB uh rfl (.tmp 11) (.tmp 61) rfl (cs:=M.toArray) rfl rfl rfl qdZ (fun u P=>E u P) HO.o.obj ?_)
   intro w1 p s;have a:=HO.o.aW p s;have g0:=a.aP.obj.c 0;have g1:=a.aP.obj.c 1;have Z:=a.aP.obj.lt;have gb:=p.cell H0;have s':=a.obj.lt;have x1:=Mem_cell_w a.ay I;have xl:=Mem_cell_lt a.ay I;have a:=a.tail;have A:=zh a;clear HO p s HC I;by_cases D:0<=G/\G<(d.size:Int)
   .obtain⟨k,rfl⟩:=zT D.1;have hk:k<d.size:=zo;have p':decide (0<=(k:Int))=true:=zN zo;have K':decide ((k:Int)<(d.size:Int))=true:=zN zo;have P:=UInt8.toNat_lt d[k];have k1:=a.obj.cell (jI (i:=d[k].toNat) zo);have k2:=a.obj.cell (jI (i:=d[k].toNat+1) zo);have k3:=a.obj.frozen d[k].toNat;have k4:=a.obj.frozen (d[k].toNat+1);have J':d[k].toNat≠d[k].toNat+1:=zo;have l':d[k].toNat+1≠d[k].toNat:=zo;have hn2:V.heap.size≠w.heap.size+1:=zo;have hn3:w.heap.size+1≠V.heap.size:=zo;have s:=a.obj.lt;have hO3:=(a.set d[k].toNat (.bool true)).set (d[k].toNat+1) (.bool true);have L:d.data.toList[((k:Nat):Int).toNat]?=some d[k]:=by
     simp only[Int.toNat_natCast];rw[yH (by rw[Fv];exact hk)]
     rfl
    rw[j5,j5,eu (P':=M2 (i+1)) (by
     intro b _;rw[HS.o];constructor
     .rintro((h|h)|h)
      .exact .inl h
      .exact .inr ⟨zo,_,L,.inl h.symm⟩
      .exact .inr ⟨zo,_,L,.inr h.symm⟩
     .rintro(h|⟨-,u,h1,E⟩)
      .exact qcZ
      .rw[L]at h1;cases h1;rcases E with E|E
       .exact .inl (.inr E.symm)
       .exact .inr E.symm)]at hO3
    have HO3:=zh hO3;clear a D HS hO3 L A;go_wp2
    go_region
    all_goals go_wp2
    all_goals exact hX.o _ _ _ zo rfl ⟨i+1,zo,rfl,rfl,HO3.o.Fa _⟩
   .have hO2:=a;rw[eu (P':=M2 (i+1)) (by
     intro b _;rw[HS.o];constructor
     .exact .inl
     .rintro(h|⟨h1,u,E,-⟩)
      .exact h
      .have:=(yB.1 E).1;rw[Fv]at this;exact absurd ⟨h1,zo⟩ D)]at hO2
    have HO2:=zh hO2;clear a hO2 A HS;by_cases h0:0<=G
    .have p':decide (0<=G)=true:=zN h0;have K':decide (G<(d.size:Int))=false:=zM fun h=>D ⟨h0,h⟩;clear D;exact qbp
    .have p':decide (0<=G)=false:=zM h0;clear D;exact qbp
  .obtain rfl:i=B.length:=zo;rw[eu (P':=K) (by intro b _;rw[HA.o])]at f;have HO:=zh f;clear f hX;go_wp2;refine aC [5,13,92] (fun n F w2=>∃(q:Nat) (r:zV),q<=256/\n=256-q/\F=[.pointer (some ⟨w.heap.size+1,0,none⟩),r,.int .i64 (q:Int)] /\
    Own w m w2 m [.row r 5 1 (marked K q).length ((marked K q).map fun x:Nat=>Value.int .u8 (x:Int)),.obj (w.heap.size+1) 288 (lL K 257)]) ?_ ?_
   .exact⟨_,0,.slice none 0 0,zo,rfl,rfl,HO.o.bK.fC _ _⟩
   clear HO g0 g1 Z;rintro Y z2 n F w2 hY-⟨q,r,hq,rfl,rfl,hO2⟩;simp[bB,lk];by_cases hlt2:q<256
   .have k1:=hO2.av.obj.cell (jI (i:=q) zo);have hg:=hO2.av.obj.lt;have q':=Ym K q;have C:=Qw K q;by_cases J:K q
    .have ht:=aM J;rw[ht]at k1;rw[ht,zK rfl]at C;have Hsu:=zh C;clear C ht;have hO3:=hO2.al #[.int .u8 q] 5
     go_wp2_with (at_builtin;refine aT fz3 rfl (.tmp 98) (.tmp 101) rfl r (marked K q).length ((marked K q).map fun x:Nat=>Value.int .u8 (x:Int)) rfl hO3.av.row ⟨w2.heap.size,0,none⟩ 1 1 [.int .u8 q] rfl rfl (hO3.obj.dF rfl) qdS qdR zo ?_)
     exact qgU
    .have ht:=aF J;rw[ht]at k1;rw[ht,zJ zS,yR]at C;have Hsu:=zh C;clear C ht;go_wp2;refine hY.o _ _ _ zo rfl ⟨q+1,r,zo,rfl,rfl,?_⟩;rw[Hsu.o];exact hO2
   .obtain rfl:q=256:=zo;have Q:=Z4 hO2.bO.done (NG (m:=m) hO2.row (fun x W=>Mo K 256 x W));have Hfin:=zh (zi hO2.az Q);clear Q hO2;go_wp2;exact qa7
def yu(c:St)(v:List Int)(b k:Nat):List Int:=CG (dW c) v b k
structure AfV (c:St) (v:List Int) (b:Nat):Prop where
 len:∀k,k<=v.length->(yu c v b k).length=v.length
 zero:yu c v b 0=List.replicate v.length (-1)
 all:yu c v b v.length=iI (dW c) v b
 self:∀k,k<v.length->(yu c v b k).set k (-1)=yu c v b k
 tab:∀i (h:i<c.2.length) (hv:i<v.length),(yu c v b i).set i (bX c.2[i].1 v[i] b)=yu c v b (i+1)
 lab:∀i (h:i<c.1.length) (hv:c.2.length+i<v.length),(yu c v b (c.2.length+i)).set (c.2.length+i) (nT c.1[i].1.1.data.toList v[c.2.length+i] b)=yu c v b (c.2.length+(i+1))
theorem AfV.of{c:St}{v:List Int}(h:v.length=(dW c).length)(b:Nat):AfV c v b:=by
 have g:=Il c;have e:∀i (hi:i<c.2.length) (d:i<(dW c).length),(dW c)[i]=lq (c.2[i]).1:=fun i hi d=>by
  simp only[dW];rw[xM qef];simp
 have f:∀i (hi:i<c.1.length) (d:c.2.length+i<(dW c).length),(dW c)[c.2.length+i]=sD (c.1[i]).1.1.data.toList:=fun i hi d=>by
  simp only[dW];rw[List.getElem_append_right zS];simp
 refine⟨fun k hk=>czf h.symm b hk,Zu _ _ _,czg h.symm b,fun k hk=>?_,fun i hi a=>?_,fun i hi a=>?_⟩
 .show(CG _ _ _ _).set _ _=CG _ _ _ _;rw[Sd h.symm b hk];unfold CG;rw[show v.length-k=(v.length-(k+1))+1 by omega,List.replicate_succ]
 .have:=Nn h.symm b a;rw[e i hi]at this;exact this
 .have:=Nn h.symm b a;rw[f i hi]at this;rw[<-Nat.add_assoc];exact this
def oU(l:List Int):List Value:=l.map (Value.int .i64)
theorem Co(l:List Int)(i:Nat)(x:Int):(oU l).set i (.int .i64 x)=oU (l.set i x):=by simp[oU,List.map_set]
theorem Cq{l:List Int}{i:Nat}(h:i<l.length):(oU l)[i]?=some (.int .i64 l[i]):=by simp[oU,h]
theorem ezK:Pg prog 240 3 8 (.int .i64 0):=⟨underlying240,zk,rfl⟩
theorem bzw(n i:Nat)(h:i<n):(List.replicate i (-1:Int)++List.replicate (n-i) 0).set i (-1)=List.replicate (i+1) (-1)++List.replicate (n-(i+1)) 0:=by
 rw[List.set_append_right _ _ zS,List.length_replicate,Nat.sub_self,show n-i=(n-(i+1))+1 by omega,List.replicate_succ,List.set_cons_zero,List.replicate_succ',xD]
 rfl
theorem Xy(l:aK)(k:Nat)(h:k<l.length)(a:WF l)(b:Nat):bX l (k:Int) b=qB b (l[k]).bv (-1):=by
 rw[<-Yt a,M5 l k h]
theorem ND(u u' va:zV)(c:St)(v:List Int)(g:Nat)(m:Mem)(n:Nat)(w:zW)(hm:m.ay w)(h1:gN (bq m n) m u c.1)(h2:gP (bq m n) m u' c.2)(hv:jd m va v)(hV:BK (dW c) v)(F:∀k∈c.2,WF k.1)(_:g<256)(hvl:v.length<=1000000)(q':∀x∈iI (dW c) v g,-9223372036854775808<=x/\x<=9223372036854775807):
 zC 198 #[.agg #[u,u'],va,.int .u8 g] w fun e w'=>∃r,e=.returned r/\zB w w'/\jd (m.grow w w') r (iI (dW c) v g):=by
 have hS:=StV.of hV;have Z:=AfV.of hV.len g;have HVL:=zh hS.len;obtain⟨a1,c1,rfl,p1,q1,k1⟩:=h1;obtain⟨a2,V,rfl,p2,q2,k2⟩:=h2;obtain⟨a3,c3,rfl,p3,q3,k3⟩:=hv;unfold maxLen at q1 q2 q3;have HR:=zh (zi hS.fzb hS.fzc);have HK:=zh qgm;have HW:=zh (fun i (h:i<c.2.length)=>F c.2[i] (zF h));have g':=zh Z.len;have W':=zh Z.zero;have z':=zh Z.all;have y':=zh Z.self;have X':=zh Z.tab;have Y':=zh Z.lab;have U':=zh q';have d:=(Own.start hm).al #[.slice a1 c.1.length c1,.slice a2 c.2.length V] 62;have HO:=zh d;clear hV hS Z k1 k2 k3 F d q';generalize yu c v g=O at*
 generalize iI (dW c) v g=VS at*
 generalize c.2=f at*
 generalize c.1=B at*
 refine au fun R hR=>?_
 go_enter func198,ntmps198
 go_wp2_with (refine wpList_make_row ezK rfl (.tmp 18) (.tmp 18) rfl v.length rfl rfl zo qdR ?_)
 intro w1 p A;rw[<-bC w (.cells #[.slice a1 B.length c1,.slice a2 f.length V] 62)]at p;have d:=HO.o.make p A;simp only[bC]at d;have HO1:=zh d;clear HO p A d;go_wp2;refine aC [1,2,3,7,21,22] (fun q I K=>∃(i:Nat),i<=v.length/\q=v.length-i/\I=[.slice a3 v.length c3,.int .u8 g,.pointer (some ⟨w.heap.size,0,none⟩),.slice (some ⟨w.heap.size+1,0,none⟩) v.length v.length,.int .i64 (v.length:Int),.int .i64 (i:Int)] /\
  Own w m K m [.row (.slice (some ⟨w.heap.size+1,0,none⟩) v.length v.length) 3 1 v.length (oU (List.replicate i (-1)++List.replicate (v.length-i) 0)),.obj w.heap.size 62 #[.slice a1 B.length c1,.slice a2 f.length V]]) ?_ ?_
 .exact⟨_,0,zG _,rfl,rfl,by simpa [oU]using HO1.o⟩
 clear HO1;rintro X z q I K hX-⟨i,hi,rfl,rfl,d⟩;simp[bB,lk];by_cases hlt:i<v.length
 .have r1:=bL d.row (Cq (i:=i) qdW);have r2:=fI d.row i;have rl:=d.av.obj.lt;have hO2:=d.setRow i (.int .i64 (-1));rw[Co,bzw _ _ hlt]at hO2;have HO2:=zh hO2;clear d hO2;exact qbp
 .obtain rfl:i=v.length:=zo;rw[Nat.sub_self,List.replicate_zero,yR,<-W'.o]at d;have g0:=d.av.obj.c 0;have g1:=d.av.obj.c 1;have gl:=d.av.obj.lt;have HO:=zh d;clear d hX;go_wp2;refine aC [1,2,3,7,30,31,32] (fun q I K=>∃(i:Nat),i<=f.length/\q=f.length-i/\I=[.slice a3 v.length c3,.int .u8 g,.pointer (some ⟨w.heap.size,0,none⟩),.slice (some ⟨w.heap.size+1,0,none⟩) v.length v.length,.slice a2 f.length V,.int .i64 (f.length:Int),.int .i64 (i:Int)] /\
   Own w m K m [.row (.slice (some ⟨w.heap.size+1,0,none⟩) v.length v.length) 3 1 v.length (oU (O i)),.obj w.heap.size 62 #[.slice a1 B.length c1,.slice a2 f.length V]]) ?_ ?_
  .exact qbt
  clear HO g0 g1 gl;rintro X z q I K hX-⟨i,hi,rfl,rfl,d⟩;simp[bB,lk];have g0:=d.av.obj.c 0;have g1:=d.av.obj.c 1;have gl:=d.av.obj.lt;by_cases hlt:i<f.length
  .obtain⟨b,off,rfl,h4⟩:=HK.o.2.1 qdP;obtain⟨kc,x,y,s',W,hx,hy⟩:=(h4 i hlt).cells;obtain⟨b3,P,rfl,h5⟩:=HK.o.2.2 qd3;have t:i<v.length:=by have:=HVL.o;omega
   have H:=(h5 i t).1;have R':=Mem_cell_lt d.ay (W 0 _ rfl);have HC:=zh (fun j u hj=>Mem_cell_w d.ay (W j u hj));have h2:=nU s' hx hy;have hl2:(ow f[i] kc x y).length=19:=rfl;have H0:(ow f[i] kc x y).toArray[0]?=some kc:=rfl;have M':=HR.o.1 i hlt t;have F:=HW.o i hlt;have HS:=zh (X'.o i hlt t);have G:=zh (zi (y'.o i t) (g'.o i zo));have HQ:=zh (zi (fun z (hz:z<0)=>qO (l:=f[i].1) hz g) (zi (fun(k:Nat) (hk:k<f[i].1.length)=>Xy f[i].1 k hk F g) F));have HO:=zh (d.al SB 68);obtain⟨ta,tc,rfl,t1,t2,t3⟩:=s';unfold maxLen at t2;have HT:=zh t3;generalize ow f[i] _ x y=M at*
   generalize v[i]=E at*
   generalize f[i].1=T at*
   clear d hx hy W h4 h5 t3 F
   go_wp2_with (first
    |refine aj sw rfl (.tmp 35) rfl rfl M hl2 HC.o ?_
    | refine aB sw rfl (.tmp 10) (.tmp 36) rfl (cs:=M.toArray) rfl rfl rfl qe4 (fun u hu=>h2 u hu) HO.o.obj ?_)
   intro w1 p A;have a:=HO.o.aW p A;have gb:=p.cell H0;have x':=a.obj.lt;have x1:=Mem_cell_w a.ay H;have xl:=Mem_cell_lt a.ay H;have HO1:=zh a.tail;by_cases S:E<0
   .have hd:decide (E<0)=true:=zN S;have C:=HS.o;rw[HQ.o.1 E S,G.o.1]at C;have e':=zh C;clear a HO p A HC H HQ HS C;go_wp2;exact hX.o _ _ _ zo rfl ⟨i+1,zo,rfl,rfl,by rw[<-e'.o];exact HO1.o⟩
   .obtain⟨k,rfl⟩:=zT (by omega:0<=E);have hkt:k<T.length:=zo;obtain⟨tb,to,rfl,t4⟩:=HT.o qet;obtain⟨s1,ve,s2,ea,ec,rfl,e4,e5,e6⟩:=t4 k hkt;have y1:=Mem_cell_w a.ay s2;have yl:=Mem_cell_lt a.ay s2;have C:=HS.o;rw[HQ.o.2.1 k hkt]at C;have e':=zh C;have V':=zh e6;unfold maxLen at e5;have hd:decide ((k:Int)<0)=false:=zM zo;generalize T[k].bv=es at*
    clear a HO p A HC H s1 s2 t4 HQ C e6;go_wp2
    go_quiet (fail)
    go_wp2;refine aC [1,2,3,7,9,30,31,32,51,52,53] (fun q I w2=>∃(j:Nat),j<=es.length/\q=es.length-j/\I=[.slice (some ⟨b3,P,none⟩) v.length c3,.int .u8 g,.pointer (some ⟨w.heap.size,0,none⟩),.slice (some ⟨w.heap.size+1,0,none⟩) v.length v.length,.int .i64 (i:Int),.slice (some ⟨b,off,none⟩) f.length V,.int .i64 (f.length:Int),.int .i64 (i:Int),.slice ea es.length ec,.int .i64 (es.length:Int),.int .i64 (j:Int)] /\
     Own w m w2 m [.row (.slice (some ⟨w.heap.size+1,0,none⟩) v.length v.length) 3 1 v.length (oU ((O i).set i (qB g (es.take j) (-1)))),.obj w.heap.size 62 #[.slice a1 B.length c1,.slice (some ⟨b,off,none⟩) f.length V]]) ?_ ?_
    .refine⟨_,0,zG _,rfl,rfl,?_⟩;have:=HO1.o;rw[<-G.o.1]at this;exact this.Fa _
    clear HO1 g0 g1 gl gb x' x1 xl y1 yl;rintro Y z2 q2 I w2 hY-⟨j,hj,rfl,rfl,hO2⟩;simp[bB,lk];by_cases hlt2:j<es.length
    .obtain⟨b',off',rfl,v'⟩:=V'.o qeb;obtain⟨H,e2,e3,e4',e5',-⟩:=v' j hlt2;have d1:=Mem_cell_w hO2.ay H;have d2:=Mem_cell_w hO2.ay e2;have d3:=Mem_cell_w hO2.ay e3;have hb1:=Mem_cell_lt hO2.ay H;have hlen:((O i).set i (qB g (es.take j) (-1))).length=v.length:=by rw[List.length_set];exact G.o.2
     have r1:=bL hO2.row (Cq (i:=i) zo);have r2:=fI hO2.row i;have rl:=hO2.av.obj.lt;have n':w.heap.size+1<w2.heap.size:=bA.lt (hO2.ok _ (yF ..)) rfl;have r':=Uv g (-1) hlt2;have HO2:=zh (hO2.al' (.cells #[.int .u8 es[j].lo,.int .u8 es[j].hi,.int .i64 es[j].to] 102));have D:=(hO2.setRow i (.int .i64 es[j].to)).al' (.cells #[.int .u8 es[j].lo,.int .u8 es[j].hi,.int .i64 es[j].to] 102);rw[Co,List.set_set]at D;have HO3:=zh D;have HLS:=zh r';generalize es[j]=e at*
     clear hO2 v' H e2 e3 r' D;by_cases m1:e.lo<=g
     .by_cases m2:g<=e.hi
      .have hq:qB g (es.take (j+1)) (-1)=e.to:=by rw[HLS.o,zK ⟨m1,m2⟩]
       have HQ:=zh hq;clear HLS hq;go_wp2;exact hY.o _ _ _ zo rfl ⟨j+1,zo,rfl,rfl,by rw[HQ.o];exact HO3.o⟩
      .have hq:qB g (es.take (j+1)) (-1)=qB g (es.take j) (-1):=by rw[HLS.o,zJ zo]
       exact qb0
     .have hq:qB g (es.take (j+1)) (-1)=qB g (es.take j) (-1):=by rw[HLS.o,zJ zo]
      exact qb0
    .rw[xH (l:=es) (i:=j) zo,e'.o]at hO2;exact qch
  .obtain rfl:i=f.length:=zo;have HO:=zh d;clear d hX;go_wp2;refine aC [1,2,3,7,75,76,77] (fun q I K=>∃(i:Nat),i<=B.length/\q=B.length-i/\I=[.slice a3 v.length c3,.int .u8 g,.pointer (some ⟨w.heap.size,0,none⟩),.slice (some ⟨w.heap.size+1,0,none⟩) v.length v.length,.slice a1 B.length c1,.int .i64 (B.length:Int),.int .i64 (i:Int)] /\
    Own w m K m [.row (.slice (some ⟨w.heap.size+1,0,none⟩) v.length v.length) 3 1 v.length (oU (O (f.length+i))),.obj w.heap.size 62 #[.slice a1 B.length c1,.slice a2 f.length V]]) ?_ ?_
   .exact qbt
   clear HO g0 g1 gl;rintro X z q I K hX-⟨i,hi,rfl,rfl,d⟩;simp[bB,lk];have g0:=d.av.obj.c 0;have g1:=d.av.obj.c 1;have gl:=d.av.obj.lt;by_cases hlt:i<B.length
   .obtain⟨b,off,rfl,h4⟩:=HK.o.1 qdP;obtain⟨x,y,W,hx,hy⟩:=(h4 i hlt).cells;obtain⟨b3,P,rfl,h5⟩:=HK.o.2.2 qd3;have t:f.length+i<v.length:=by have:=HVL.o;omega
    have H:=(h5 (f.length+i) t).1;have R':=Mem_cell_lt d.ay (W 0 _ rfl);have HC:=zh (fun j u hj=>Mem_cell_w d.ay (W j u hj));have h2:=mV hx hy;have hl2:(qI B[i] x y).length=20:=rfl;have H0:(qI B[i] x y).toArray[0]?=some (.string B[i].1.1):=rfl;have M':=HR.o.2 i hlt t;have L':=(h4 i hlt).sz;have HS:=zh (Y'.o i hlt t);have G:=zh (zi (y'.o (f.length+i) t) (g'.o (f.length+i) zo));have n':w.heap.size+1<K.heap.size:=bA.lt (d.ok _ (yF ..)) rfl;have HO:=zh (d.al SG 82);unfold maxLen at L';generalize qI B[i] x y=M at*
    generalize v[f.length+i]=E at*
    generalize B[i].1.1=s at*
    clear d hx hy W h4 h5
    go_wp2_with (first
     |refine aj uh rfl (.tmp 80) rfl rfl M hl2 HC.o ?_
     | refine aB uh rfl (.tmp 14) (.tmp 81) rfl (cs:=M.toArray) rfl rfl rfl qe4 (fun u hu=>h2 u hu) HO.o.obj ?_)
    intro w1 p A;have a:=HO.o.aW p A;have g0:=a.aP.obj.c 0;have g1:=a.aP.obj.c 1;have gl:=a.aP.obj.lt;have gb:=p.cell H0;have x':=a.obj.lt;have x1:=Mem_cell_w a.ay H;have xl:=Mem_cell_lt a.ay H;have a:=a.tail;have r1:=bL a.row (Cq (l:=O (f.length+i)) (i:=f.length+i) (by rw[G.o.2];exact t));have r2:=fI a.row (f.length+i);have n':w.heap.size+1<w1.heap.size:=bA.lt (a.ok _ (yF ..)) rfl;have D:=a.setRow (f.length+i) (.int .i64 (E+1));rw[Co]at D;have HO3:=zh D;have HO1:=zh a;have U:∀(_:¬(0<=E/\(s.data.toList[E.toNat]?).map (·.toNat)=some g)),O (f.length+(i+1))=O (f.length+i):=fun h=>by
     rw[<-HS.o,show nT s.data.toList E g = -1 by unfold nT;rw[zJ h]];exact G.o.1
    have HN:=zh U;clear HO p A HC H a D U;by_cases h0:0<=E
    case neg=>
     have Q':decide (0<=E)=false:=zM h0;have HE:=zh (HN.o fun h=>h0 h.1);clear HN HS;exact qbz
    have Q':decide (0<=E)=true:=zN h0;by_cases h3:E<(s.size:Int)
    case neg=>
     have P':decide (E<(s.size:Int))=false:=zM h3;have HE:=zh (HN.o fun h=>by
      obtain⟨u,h5,-⟩:=Option.map_eq_some_iff.1 h.2;have:=(yB.1 h5).1;rw[Fv]at this;omega)
     clear HN HS;exact qbz
    obtain⟨k,rfl⟩:=zT h0;have hk:k<s.size:=zo;have P':decide ((k:Int)<(s.size:Int))=true:=zN zo;have L:s.data.toList[((k:Nat):Int).toNat]?=some s[k]:=by
     simp only[Int.toNat_natCast];rw[yH (by rw[Fv];exact hk)]
     rfl
    by_cases N:s[k].toNat=g
    .have O':((s[k].toNat:Int)==(g:Int))=true:=beq_iff_eq.2 zo;have hE:O (f.length+(i+1))=(O (f.length+i)).set (f.length+i) ((k:Int)+1):=by
      rw[<-HS.o]
      congr 1
      unfold nT;rw[zK ⟨zo,by rw[L];simp[N]⟩]
     have HE:=zh hE;clear HN HS hE L N;go_wp2;exact hX.o _ _ _ zo rfl ⟨i+1,zo,rfl,rfl,by rw[HE.o];exact HO3.o⟩
    .have O':((s[k].toNat:Int)==(g:Int))=false:=zO.2 zo;have HE:=zh (HN.o fun h=>by
      have:=h.2;rw[L]at this;simp at this;exact N this)
     clear HN HS L N;exact qbz
   .obtain rfl:i=B.length:=zo;rw[<-HVL.o,z'.o]at d;have N':VS.length=v.length:=by rw[<-z'.o];exact g'.o _ (zI _)
    have J:=d.row;rw[show(oU VS)=VS.map (Value.int .i64) from rfl]at J;have Q:=iU d.bO.done (jM (m:=m) (l:=VS) (by rw[N'];exact J) U'.o);have HF:=zh (zi d.az Q);clear d J Q hX;exact qbo
def rZ(m:Mem)(b:List Value)(a:List (List Int)):Prop:=b.length=a.length/\∀i (d:i<b.length) (c:i<a.length),jd m b[i] a[i]
theorem rZ.le{m m':Mem}{b:List Value}{a:List (List Int)}(h:rZ m b a)(k:m.le m'):rZ m' b a:=⟨h.1,fun i d c=>iU k (h.2 i d c)⟩
theorem rZ.push{m:Mem}{b:List Value}{a:List (List Int)}(h:rZ m b a){x:zV}{l:List Int}(d:jd m x l):rZ m (b++[x]) (a++[l]):=by
 refine⟨by simp[h.1],fun i f g=>?_⟩;by_cases c:i<b.length
 .rw[xM c,xM (by rw[<-h.1];exact c)];exact h.2 i c _
 .have e:i=b.length:=by simp at f;omega
  subst e;simp[h.1,d]
theorem rZ.pop{m:Mem}{c:List Value}{a:List (List Int)}(h:rZ m c a)(f:a≠[]):∃b x todo' l,c=b++[x]/\a=todo'++[l]/\rZ m b todo'/\jd m x l:=by
 have d:c≠[]:=fun e=>f (xJ.1 (by rw[<-h.1,e];rfl));have j:=(List.dropLast_concat_getLast d).symm;have g:=(List.dropLast_concat_getLast f).symm;generalize c.dropLast=b at j;generalize c.getLast d=x at j;generalize a.dropLast=todo' at g;generalize a.getLast f=l at g;subst j g;have k:b.length=todo'.length:=by have:=h.1;simpa using this
 refine⟨b,x,todo',l,rfl,rfl,⟨k,fun i o n=>?_⟩,?_⟩
 .have:=h.2 i qdW qdW
  rwa [xM o,xM n]at this
 .have:=h.2 b.length zS qdW;simpa [k]using this
theorem Own.fzf{w0 w:zW}{m mk:Mem}{L:List bA}{g k a size:Nat}{t:TypeId}{xs last:List Value}(h:Own w0 m w mk (.row (.slice (some ⟨g,0,none⟩) (k+1) a) t size (k+1) (xs++last)::L))(b:xs.length=k*size):
 Own w0 m w mk (.row (.slice (some ⟨g,0,none⟩) k a) t size k xs::L):=
 h.app (ownsRow_pop b h.row) (World.grownBy.refl _ _) (N:=w.heap.size) (fun _ hk=>.inl hk) (zI _)
theorem XZ{w:zW}{base:Nat}{e:TypeId}{size k:Nat}{v:zV}{xs:List Value}(h:w.ownsRow base e size v (k+1) xs):∃g a,v=.slice (some ⟨g,0,none⟩) (k+1) a/\k+1<=a:=by
 rcases h.2 with⟨-,b⟩|⟨g,a,d,b,-,-,c,-⟩
 .omega
 .exact⟨g,a,b,c⟩
theorem ZN(w:zW):(zeroValue 4).run prog w=.ok (.bool false) w:=by kernel_rfl
theorem ezZ:fB prog 241 240 1 24:=⟨underlying241,zo,by
 obtain⟨i,d,c,b,a⟩:=info_parts (show(prog.info? 240).map (fun i=>(i.zero,i.size,i.bytes))=some (some (.slice none 0 0),1,24)by kernel_rfl);exact⟨i,_,d,c,b,a,rfl⟩⟩
structure VSt (c:St) (seen todo:List (List Int)) (P:List Int->Prop) (ob:Obj):Prop where
 s:CJ (dW c) seen todo P
 map:∃f,GD prog 9 4 ob seen.length f/\vW f seen
 le:todo.length<=seen.length
theorem Ib(u u':zV)(c:St)(m:Mem)(n:Nat)(w:zW)(hm:m.ay w)(O':dV m)(h1:gN (bq m n) m u c.1)(P:gP (bq m n) m u' c.2)(C:ZA c):
 zX 162 #[.agg #[u,u']] w (.bool (tf (bH c))):=by
 have h1':=h1;have h2':=P;obtain⟨a1,c1,rfl,p1,q1,k1⟩:=h1;obtain⟨a2,c2,rfl,p2,q2,k2⟩:=P;unfold maxLen at q1 q2;have HA:=zh (zi h1' h2');have HK:=zh k2;have HT:=zh (fun i (h:i<c.2.length)=>C.set c.2[i] (zF h));have HE:=zh (K9 c);have HF:=zh C;have HTM:=zh O';have t:=(Own.start hm).al #[.slice a1 c.1.length c1,.slice a2 c.2.length c2] 62;have HO:=zh t;have HL:=zh (zi C.f C.k);have hl1:c.1.length<=6:=C.f;have hl2:c.2.length<=6:=C.k;clear t h1' h2' k1 k2 C O';refine au fun R hR=>?_
 go_enter func162,ntmps162
 go_wp2;refine aC [1,13,14,15] (fun q vs wr=>∃(i:Nat),i<=c.2.length/\q=c.2.length-i/\vs=[.pointer (some ⟨w.heap.size,0,none⟩),.slice a2 c.2.length c2,.int .i64 (c.2.length:Int),.int .i64 (i:Int)]/\(∀j (hj:j<c.2.length),j<i->cB c.2[j].1/\c.2[j].1≠[]) /\
  Own w m wr m [.obj w.heap.size 62 #[.slice a1 c.1.length c1,.slice a2 c.2.length c2]]) ?_ ?_
 .exact qau
 clear HO;rintro X z q vs wr hX-⟨i,hi,rfl,rfl,hV,t⟩;simp[bB,lk];have HV:=zh hV;clear hV;by_cases hlt:i<c.2.length
 .obtain⟨b,off,rfl,h4⟩:=HK.o qdP;obtain⟨kc,x,y,hks,hc,K,hy⟩:=(h4 i hlt).cells;have htl:=HT.o i hlt;have E':=Mem_cell_lt t.ay (hc 0 _ rfl);have HC:=zh (fun j u hj=>Mem_cell_w t.ay (hc j u hj));have P:=nU hks K hy;have Q':(ow c.2[i] kc x y).length=19:=rfl;have H0:(ow c.2[i] kc x y).toArray[0]?=some kc:=rfl;have HVA:=zh (fun(w':zW) (h:m.ay w')=>Ah kc c.2[i].1 m w' h HTM.o hks zo);have G':=zh (show ∀j (hj:j<c.2.length),j<i+1->(cB c.2[i].1/\c.2[i].1≠[])->cB c.2[j].1/\c.2[j].1≠[] from fun j hj h1 P=>by
   by_cases e:j=i
   .subst e;exact P
   .exact HV.o j hj zo)
  have I:=zh (show ¬(cB c.2[i].1/\c.2[i].1≠[])->¬bH c from fun h k=>h ((HE.o.1 k).1 _ (zF hlt)));have HO:=zh (t.al SB 68);obtain⟨ta,tc,rfl,t1,t2,t3⟩:=hks;unfold maxLen at t2;generalize ow c.2[i] _ x y=M at*
  generalize c.2[i].1=T at*
  clear t K hy hc h4 t3
  go_wp2_with (first
   |refine aj sw rfl (.tmp 17) rfl rfl M Q' HC.o ?_
   | refine aB sw rfl (.tmp 4) (.tmp 18) rfl (cs:=M.toArray) rfl rfl rfl (by simpa using Q') (fun u hu=>P u hu) HO.o.obj ?_)
  intro w1 A' hg1;have D:=HO.o.aW A' hg1;have gb:=A'.cell H0;have gbl:=D.obj.lt;have H':=zh (HVA.o w1 D.ay);have K':=zh D.tail;clear HO HC HVA D;by_cases h0:T.length=0
  .have hd:((T.length:Int)==0)=true:=beq_iff_eq.2 zo;have HB:=zh K'.o.az;have HR:=zh (I.o fun h=>h.2 (xJ.1 h0));clear K' H' I G' h0;go_wp2;exact hR.o _ _ ⟨by rw[aF HR.o]<;>rfl,HB.o⟩
  .have hd:((T.length:Int)==0)=false:=zO.2 zo;have a':T≠[]:=fun e=>h0 qeM;have HNE:=zh a';clear h0 a';have Z:=H'.o;by_cases b':cB T
   .have HNX:=zh (fun j hj h=>G'.o j hj h ⟨b',HNE.o⟩);rw[aM b']at Z;have q':=zh Z;clear G' I b' HNE H' Z A' hg1
    go_wp2_with (go_at_call 148;refine q'.o.mono ?_;rintro e w4 ⟨rfl,A⟩)
    exact hX.o _ _ _ zo rfl ⟨i+1,zo,rfl,rfl,HNX.o,K'.o.aS A⟩
   .have HR:=zh (I.o fun h=>b' h.1);rw[aF b']at Z;have q':=zh Z;clear G' I b' HNE H' Z A' hg1
    go_wp2_with (go_at_call 148;refine q'.o.mono ?_;rintro e w4 ⟨rfl,A⟩)
    exact hR.o _ _ ⟨by rw[aF HR.o]<;>rfl,(K'.o.aS A).az⟩
 obtain rfl:i=c.2.length:=zo;have B:∀k∈c.2,cB k.1/\k.1≠[]:=fun k hk=>by
  obtain⟨j,hj,rfl⟩:=yX hk;exact HV.o j hj hj
 have hok:=czM B;have HOK:=zh hok;have HWF:=zh (fun k (hk:k∈c.2)=>(B k hk).1.wf);have s':=zh (fun(l:List (List Int)) (h1:l.Nodup) (P:∀v∈l,lX (dW c) v)=>HF.o.seen B l h1 P);have HFC:=zh HF.o.comp;have HEE:=zh (show bH c↔Gi (dW c) from HE.o.trans ⟨fun h=>h.2,fun h=>⟨B,h⟩⟩);have E':=Il c;have W:eY (dW c)=List.replicate (c.2.length+c.1.length) 0:=by rw[<-E',eY,List.map_const']
 have F':=zh W;have g0:=t.obj.c 0;have g1:=t.obj.c 1;have gl:=t.obj.lt;have HO:=zh t;clear t hX HV B hok W HE HT HK
 go_wp2_with (refine wpList_make_row ezK rfl (.tmp 37) (.tmp 37) rfl (c.2.length+c.1.length) rfl rfl zo qdR ?_)
 intro w1 i' U;have D:=HO.o.make i' U;rw[show List.replicate (c.2.length+c.1.length) (Value.int .i64 0)=oU (eY (dW c))by rw[F'.o];simp[oU]]at D;have B':(eY (dW c)).length=c.2.length+c.1.length:=by rw[F'.o];simp
 have Y':=jM (m:=m) (l:=eY (dW c)) (by rw[B'];exact D.row) (fun x K=>by rw[F'.o]at K;rw[List.eq_of_mem_replicate K];omega);have j':=Mem_le_addv (w:=w1) D.free;have N:=D.bO;generalize m.iH w1 _=V' at*
 have o':=N.make (World.ownsRow_lit (base:=0) (e:=240) (size:=1) w1 #[(.slice (some ⟨wr.heap.size,0,none⟩) (c.2.length+c.1.length) (c.2.length+c.1.length))] 1 (zG _) qdR rfl) (World.grownBy_alloc w1 (.cells #[(.slice (some ⟨wr.heap.size,0,none⟩) (c.2.length+c.1.length) (c.2.length+c.1.length))] 240) none);have n':=o'.CF (.map #[] 0);simp only[bC]at n';have x1:=bL n'.av.row (j:=0) rfl;have xl:=(World.ownsRow.lt n'.av.row _ rfl).2;have J':=zh n';have HKC:=zh (fun(w':zW) (h:V'.ay w')=>Hy (.slice (some ⟨wr.heap.size,0,none⟩) (c.2.length+c.1.length) (c.2.length+c.1.length)) (eY (dW c)) V' w' h (HTM.o.le j') Y' (by rw[B'];omega));have HZ:=zh (zi Y' j');have HSF:=zh (CJ.first (dW c));have HLV:=zh (zi B' E');clear D N o' n' Y' j' i' U HO B' E';have hin:=J'.o.ay;generalize eY (dW c)=v0 at*
 have Hmm:=@run_makeMap prog;have htx:(txt v0).length<=maxLen:=by
  have h:=GI v0 (Jq HZ.o.1);have P:=HLV.o.1;unfold maxLen;omega
 have E:=zh (Uy _ htx);clear htx
 go_wp2_with (go_at_call 195;refine(HKC.o _ hin).mono ?_;rintro e w2 ⟨rfl,hb2⟩;obtain⟨w3,o3,hr3,hob,k',hgr⟩:=(GD.made prog 9 4).AP (Maps.string_keyed underlying9) underlying243 underlying4 (J'.o.aS hb2).gT zD E.o true)
 have hO5:=(J'.o.aS hb2).jU hob hgr;have hS0:VSt c [v0] [v0] (fun _=>False) o3:=⟨HSF.o,⟨_,k',by simpa using vW.none.put v0⟩,zI _⟩;have r':=zh (zi hO5 (zi hS0 (zi HZ.o.1 (Mem.le_trans HZ.o.2 (Mem.le_refl _)))));clear hO5 hS0 hob k' hgr hr3 hb2 J' HKC hin Hmm x1 xl;refine aC [1,5,6] (fun q vs wr=>∃(seen d:List (List Int)) (V:List Value) (tv:zV) (ob:Obj) (mk:Mem),VSt c seen d (fun _=>False) ob/\q=2*(1400000000-seen.length)+d.length/\vs=[.pointer (some ⟨w.heap.size,0,none⟩),tv,.map (some (w1.heap.size+1))]/\m.le mk/\rZ mk V d /\
  Own w m wr mk [.gT (w1.heap.size+1) ob,.row tv 240 1 d.length V,.obj w.heap.size 62 #[.slice a1 c.1.length c1,.slice a2 c.2.length c2]]) ?_ ?_
 .refine⟨_,[v0],[v0],[.slice (some ⟨wr.heap.size,0,none⟩) (c.2.length+c.1.length) (c.2.length+c.1.length)],_,o3,V',r'.o.2.1,rfl,rfl,r'.o.2.2.2,⟨rfl,fun i h1 P=>?_⟩,r'.o.1⟩
  match i,h1,P with
  |0,_,_=>exact r'.o.2.2.1
 clear r' E HZ HSF F';rintro X z q vs wr hX-⟨seen,d,V,tv,ob,mk,G,rfl,rfl,p,hT,t⟩;simp[bB,lk];by_cases a':d=[]
 .subst a';have HR:=zh (HEE.o.2 G.s.once);have HB:=zh t.az;obtain⟨ta,N',rfl⟩:=bz t.av.row;clear t hT G hX;exact qh8
 obtain⟨V,xv,d,v,rfl,rfl,hT,y'⟩:=hT.pop a';rw[show(d++[v]).length=d.length+1 by simp]at t;obtain⟨g,N',rfl,hcap⟩:=XZ t.av.row;have hcap0:¬N'=0:=zo;have hlt:=hT.1;have hk:d.length+1<=seen.length:=by have:=G.le;simpa using this
 have hsl:=s'.o seen G.s.nodup G.s.reach;have x1:=bL t.av.row (j:=d.length) (u:=xv) (by rw[<-hlt];simp);have xl:=(World.ownsRow.lt t.av.row _ rfl).2;have N:=(t.av.fzf qe1).av;obtain⟨hs2,W⟩:=G.s.take (todo':=d) (v:=v) fun x=>azT;have z':=G.s.reach v W;have L:=BK.reach HOK.o z';have hvlen:v.length<=12:=by rw[L.len,HLV.o.2];omega
 have HT:=zh (zi hT y');have HS:=zh (show VSt c seen d (fun x=>x=v) ob from⟨hs2,G.map,zo⟩);have t':=zh (show gN (bq mk n) mk (.slice a1 c.1.length c1) c.1/\gP (bq mk n) mk (.slice a2 c.2.length c2) c.2 from⟨gN.le p (fun _ _=>bq.le p) HA.o.1,gP.le p (fun _ _=>bq.le p) HA.o.2⟩);have HH:=zh (fun(w':zW) (h:mk.ay w')=>PD _ _ xv c v mk n w' h t'.o.1 t'.o.2 y' L);have HST:=zh (fun(w':zW) (h:mk.ay w')=>KM _ _ xv c v mk n w' h t'.o.1 t'.o.2 y' L HWF.o);have HV:=zh (zi L (zi z' (zi W p)));have I:=zh (fun h=>mt HEE.o.1 (azK z' h));have g0:=N.aP.obj.c 0;have g1:=N.aP.obj.c 1;have gl:=N.aP.obj.lt;have HO:=zh N;generalize hkk:d.length=k at*
 have Hkk:=zh hkk;have Hlt:=zh hlt;clear t N G hs2 hT y' z' L W p hkk hlt a';generalize hrr:pK (dW c) v=r at*
 have HW1:=zh hrr;clear hrr;have hin:=HO.o.ay;by_cases hr1:r=1
 case neg=>
  have hd:((r:Int)==1)=false:=zO.2 zo;have HR:=zh (I.o hr1);clear I HST hr1 hX
  go_wp2_with (go_at_call 196;refine(HH.o _ hin).mono ?_;rintro e w2 ⟨rfl,hb2⟩)
  exact qhY
 subst hr1
 go_wp2_with (first
  |(go_at_call 196;refine(HH.o _ hin).mono ?_;rintro e w2 ⟨rfl,hb2⟩;have g0:=(HO.o.aS hb2).aP.obj.c 0;have g1:=(HO.o.aS hb2).aP.obj.c 1;have gl:=(HO.o.aS hb2).aP.obj.lt)
  | (go_at_call 197;refine(HST.o _ (HO.o.aS hb2).ay).mono ?_;rintro e w3 ⟨rs,rfl,hb3,sa,sc,rfl,ss1,ss2,ss3⟩))
 have o':=(HO.o.aS hb2).call hb3;have S:=Mem_le_grow (w:=w3) (HO.o.aS hb2).ay;generalize hmk3:mk.grow w2 w3=jH at*
 have P':=Mo (KO c v) 256;have S':∀J:List (List Int),(∀i (h:i<(marked (KO c v) 256).length),iI (dW c) v (marked (KO c v) 256)[i]∈J)->∀b<256,iI (dW c) v b∈J:=fun J h b hb=>by
  obtain⟨a,ha,hm,he⟩:=XK (c:=c) (v:=v) HV.o.1.len hb;obtain⟨i,hi,hia⟩:=yX (Ue.2 ⟨ha,hm⟩);rw[he,<-hia];exact h i hi
 generalize marked (KO c v) 256=H at*
 have HALL:=zh S';have HL3:=zh (fun i (h:i<H.length)=>P' H[i] (zF h));have HSS:=zh ss3;have HO3:=zh o';have I':=zh (zi (HT.o.1.le S) (zi (iU S HT.o.2) (Mem.le_trans HV.o.2.2.2 S)));unfold maxLen at ss2;clear o' S' P' ss3 hb2 hb3 HO HST HH I HT x1 xl g0 g1 gl hin hmk3 S t';refine aC [1,5,6,7,66,67,68] (fun q vs wr=>∃(j:Nat) (J td:List (List Int)) (V:List Value) (tv:zV) (ob:Obj) (mk:Mem),j<=H.length/\q=H.length-j/\VSt c J td (fun x=>x=v) ob/\(∀i (h:i<H.length),i<j->iI (dW c) v H[i]∈J) /\
  2*(1400000000-J.length)+td.length+1<=2*(1400000000-seen.length)+(k+1)/\vs=[.pointer (some ⟨w.heap.size,0,none⟩),tv,.map (some (w1.heap.size+1)),xv,.slice sa H.length sc,.int .i64 (H.length:Int),.int .i64 (j:Int)]/\jH.le mk/\rZ mk V td /\
  Own w m wr mk [.gT (w1.heap.size+1) ob,.row tv 240 1 td.length V,.obj w.heap.size 62 #[.slice a1 c.1.length c1,.slice a2 c.2.length c2]]) ?_ ?_
 .exact⟨_,0,seen,d,V,_,ob,jH,zG _,rfl,HS.o,fun i h P=>absurd P (xY _),by rw[Hkk.o];omega,rfl,Mem.le_refl _,I'.o.1,by rw[Hkk.o];exact HO3.o⟩
 clear HO3 HS Hlt;rintro Y z2 q vs wr2 hY-⟨j,J,td,V,tv,ob,mk,hj,rfl,G,D',hms,rfl,p,hT,t⟩;simp[bB,lk];have Hms:=zh hms;have Hdn:=zh D';by_cases hlt:j<H.length
 case neg=>
  obtain rfl:j=H.length:=zo;have HSX:=zh (show VSt c J td (fun _=>False) ob from⟨G.s.close ⟨HW1.o,HALL.o J fun i h=>D' i h h⟩,G.map,G.le⟩);have HO:=zh t;have E:=zh hT;have HLE:=zh (Mem.le_trans I'.o.2.2 p);clear t hT G hY D' hms p;go_wp2;exact hX.o _ _ _ (by have:=Hms.o;have:=Hkk.o;simp;omega) rfl ⟨J,td,V,tv,ob,mk,HSX.o,rfl,rfl,HLE.o,E.o,HO.o⟩
 obtain⟨b,off,rfl,hss⟩:=HSS.o qdP;obtain⟨hbc,O⟩:=hss j hlt;have Z':=HV.o.2.1.step O;have X':=BK.reach HOK.o Z';have h':=X'.iZ HFC.o;have W':(iI (dW c) v H[j]).length<=12:=by rw[X'.len,HLV.o.2];omega
 have R':=Uy (txt (iI (dW c) v H[j])) (by
  have:=GI (iI (dW c) v H[j]) fun x K=>by have:=h' x K;omega
  unfold maxLen;omega)
 have e1:=Mem_cell_w t.ay (Mem_cell_le p hbc);have el:=Mem_cell_lt t.ay (Mem_cell_le p hbc);have F:=Mem.le_trans I'.o.2.2 p;have HAF:=zh (fun(w':zW) (h:mk.ay w')=>ND _ _ xv c v H[j] mk n w' h (gN.le F (fun _ _=>bq.le F) HA.o.1) (gP.le F (fun _ _=>bq.le F) HA.o.2) (iU p I'.o.2.1) HV.o.1 HWF.o O zo fun x K=>by have:=h' x K;omega);have HKY:=zh (fun(m':Mem) (w':zW) (xr:zV) (h1:mk.le m') (h:m'.ay w') (K:jd m' xr (iI (dW c) v H[j]))=>Hy xr _ m' w' h (HTM.o.le (Mem.le_trans F h1)) K zo);have hseen:=s'.o J G.s.nodup G.s.reach;have hsl:=G.le;have HDN:=zh (show ∀x':List (List Int),(∀y∈J,y∈x')->iI (dW c) v H[j]∈x'->∀i (h:i<H.length),i<j+1->iI (dW c) v H[i]∈x' from fun x' h1 P i h h3=>by
  by_cases e:i=j
  .subst e;exact P
  .exact h1 _ (Hdn.o i h zo))
 have Q:=t.aP.obj;have g0:=Q.cell (i:=0) rfl;have g1:=Q.cell (i:=1) rfl;have gl:=Q.lt;have HO:=zh t;have HS:=zh G;have E:=zh (zi hT (zi p Z'));obtain⟨f,k',hka⟩:=G.map;have HKA:=zh hka;have HBM:=zh k';obtain⟨va,vc,rfl⟩:=bz t.av.row;generalize iI (dW c) v H[j]=x at*
 generalize H[j]=bb at*
 have hin:=HO.o.ay;have HK2:=zh R';clear t G hT p F hss hbc O Z' X' h' D' hka k' Q R' W' hX Hdn HA;by_cases K:x∈J
 .have HX2:=zh K;have HFX:=zh ((HKA.o x).2 K);clear K
  go_wp2_with (first
   |(go_at_call 198;refine(HAF.o _ hin).mono ?_;rintro e w4 ⟨xr,rfl,A,g'⟩)
   | (go_at_call 195;refine(HKY.o _ _ xr (Mem_le_grow (w:=w4) hin) (HO.o.call A).ay g').mono ?_;rintro e w5 ⟨rfl,c'⟩;have hlk:=HBM.o.AQ (Maps.string_keyed underlying9) underlying243 underlying4 ZN ((HO.o.call A).aS c').gT HK2.o;rw[HFX.o]at hlk))
  exact hY.o _ _ _ zo rfl ⟨j+1,J,td,V,_,ob,_,zo,rfl,HS.o,HDN.o J (fun _ h=>h) HX2.o,Hms.o,rfl,Mem.le_trans E.o.2.1 qgq,E.o.1.le qgq,(HO.o.call A).aS c'⟩
 .have HX2:=zh K;have HFX:=zh (show f (.string (txt x))=false by
   cases h:f (.string (txt x))
   .rfl
   .exact absurd ((HKA.o x).1 h) K)
  clear K
  go_wp2_with (first
   |(go_at_call 198;refine(HAF.o _ hin).mono ?_;rintro e w4 ⟨xr,rfl,A,g'⟩;have hxr':=g';obtain⟨xa,xc,rfl,-⟩:=hxr')
   |(go_at_call 195;refine(HKY.o _ _ (.slice xa x.length xc) (Mem_le_grow (w:=w4) hin) (HO.o.call A).ay g').mono ?_;rintro e w5 ⟨rfl,c'⟩;have hlk:=HBM.o.AQ (Maps.string_keyed underlying9) underlying243 underlying4 ZN ((HO.o.call A).aS c').gT HK2.o;rw[HFX.o]at hlk;obtain⟨w6,o6,hr6,hob6,hbm6,hgr6⟩:=HBM.o.AP (Maps.string_keyed underlying9) underlying243 underlying4 ((HO.o.call A).aS c').gT qdR HK2.o true;have hO7:=(((HO.o.call A).aS c').jU hob6 hgr6).al #[.slice xa x.length xc] 240;have hnews:=hO7.obj.dF rfl)
   | (at_builtin;refine aT ezZ rfl (.tmp 84) (.tmp 86) rfl (.slice va td.length vc) td.length V rfl hO7.aP.row ⟨w6.heap.size,0,none⟩ 1 1 [.slice xa x.length xc] rfl rfl hnews qdS qdR zo ?_;intro va' vc' w7 hown7 C' hrow7))
  have hO8:=((hO7.aP.app hown7 C' hrow7 zS).bK).av;have hS2:VSt c (J++[x]) (td++[x]) (fun y=>y=v) o6:=⟨HS.o.s.push E.o.2.2 HX2.o,⟨_,by simpa using hbm6,HKA.o.put x⟩,by simp;omega⟩;refine hY.o _ _ _ zo rfl ⟨j+1,J++[x],td++[x],V++[.slice xa x.length xc],_,o6,_,zo,rfl,hS2,HDN.o _ (fun y hy=>xI _ hy) zS,?_,rfl,Mem.le_trans E.o.2.1 qgq,(E.o.1.le qgq).push g',?_⟩
  .have:=s'.o _ hS2.s.nodup hS2.s.reach;have:=Hms.o;simp at*
   omega
  .simpa using hO8
theorem KN(u:zV)(l:List Fd)(m:Mem)(n:Nat)(w:zW)(hm:m.ay w)(h:gN (bq m n) m u l):
 zX 161 #[u] w (.bool (tf (fV l))):=by
 obtain⟨a,c,rfl,p1,q1,k1⟩:=h;unfold maxLen at q1;have HK:=zh k1;have K:=zh (Own.start hm);clear k1;refine au fun R hR=>?_
 go_enter func161,ntmps161
 go_wp2;refine aC [0,5,6,7] (fun q vs Z=>∃(i:Nat),i<=l.length/\q=l.length-i/\vs=[.slice a l.length c,.slice a l.length c,.int .i64 (l.length:Int),.int .i64 (i:Int)]/\(∀j (d:j<l.length),j<i->l[j].1.2=1\/l[j].1.2=2)/\(∀j (d:j+1<l.length),j+1<i->GY l[j].1.1 (l[j+1]).1.1=true) /\
  Own w m Z m []) ?_ ?_
 .exact⟨_,0,zG _,rfl,rfl,fun j d h=>absurd h (xY _),fun j d h=>absurd h (xY _),K.o⟩
 clear K;rintro X z q vs Z P-⟨i,hi,rfl,rfl,T,S,J⟩;simp[bB,lk];by_cases hlt:i<l.length
 case neg=>
  obtain rfl:i=l.length:=zo;have HR:=zh (show fV l from⟨fun f hf=>by obtain⟨j,d,rfl⟩:=yX hf;exact T j d d,fun j d=>S j d d⟩);have HB:=zh J.az;clear T S J P;exact qh8
 obtain⟨b,off,rfl,W⟩:=HK.o qdP;obtain⟨x,y,V,hx,hy⟩:=(W i hlt).cells;have m':=Mem_cell_lt J.ay (V 0 _ rfl);have HC:=zh (fun j u d=>Mem_cell_w J.ay (V j u d));have h2:=mV hx hy;have hl2:(qI l[i] x y).length=20:=rfl;have H0:(qI l[i] x y).toArray[0]?=some (.string l[i].1.1):=rfl;have H1:(qI l[i] x y).toArray[1]?=some (.int .i64 l[i].1.2):=rfl;have v:=zh (zi T S);have K:=zh (J.al SG 82);have Y:=zh (fun j (d:j<l.length)=>(W j d).s);have H:=zh (show(¬(l[i].1.2=1\/l[i].1.2=2))->¬fV l from fun h k=>h (k.fze _ (zF hlt)));generalize qI l[i] x y=M at*
 generalize N:l[i].1.2=Q at*
 generalize F:l[i].1.1=U at*
 have t:=zh (zi N F);clear J hx hy V W T S N F
 go_wp2_with (first
  |refine aj uh rfl (.tmp 10) rfl rfl M hl2 HC.o ?_
  | refine aB uh rfl (.tmp 4) (.tmp 11) rfl (cs:=M.toArray) rfl rfl rfl qe4 (fun u hu=>h2 u hu) K.o.obj ?_)
 intro w1 E O;have B:=K.o.aW E O;have q':=E.cell H0;have p':=E.cell H1;have o':=B.obj.lt;have r:=zh B.tail;have C:=zh (fun j (d:j<l.length)=>zi (Mem_cell_w B.ay (Y.o j d)) (Mem_cell_lt B.ay (Y.o j d)));clear K HC E O B Y;by_cases g:Q=1\/Q=2
 case neg=>
  have l':(Q != 1)=true:=bne_iff_ne.2 fun e=>g (.inl e);have k':(Q != 2)=true:=bne_iff_ne.2 fun e=>g (.inr e);have HR:=zh (H.o g);have HB:=zh (r.o.Fa 1).az;clear r C H g P v;go_wp2
  go_region
  all_goals go_wp2
  exact qh0
 have A:∀j (d:j<l.length),j<i+1->l[j].1.2=1\/l[j].1.2=2:=fun j d h=>by
  by_cases e:j=i
  .subst e;rw[t.o.1];exact g
  .exact v.o.1 j d zo
 have G:=zh A;clear A H;rcases Nat.eq_zero_or_pos i with rfl|i'
 .have I:=zh (show ∀j (d:j+1<l.length),j+1<0+1->GY l[j].1.1 (l[j+1]).1.1=true from fun j d h=>zo);have D:=zh (r.o.Fa 1);clear v t C r;rcases g with rfl|rfl
  all_goals
   go_wp2
   go_region
   all_goals go_wp2
   all_goals exact P.o _ _ _ zo rfl ⟨0+1,zo,rfl,rfl,G.o,I.o,D.o⟩
 obtain⟨p,rfl⟩:∃p,i=p+1:=⟨i-1,zo⟩;obtain⟨y1,yl⟩:=C.o p zo;have D:=zh (r.o.Fa 1);cases hb:GY l[p].1.1 U
 .have HR:=zh (show ¬fV l from fun k=>by
   have:=k.asc p zo;rw[t.o.2,hb]at this;cases this)
  have HB:=zh D.o.az;unfold GY at hb;rw[<-xE,<-xE]at hb;generalize l[p].1.1=L at*
  clear v t C r D G P;rcases g with rfl|rfl
  all_goals
   go_wp2
   go_region
   all_goals go_wp2
   exact qh0
 .have I:=zh (show ∀j (d:j+1<l.length),j+1<p+1+1->GY l[j].1.1 (l[j+1]).1.1=true from fun j d h=>by
   by_cases e:j=p
   .subst e;rw[t.o.2];exact hb
   .exact v.o.2 j d zo)
  unfold GY at hb;rw[<-xE,<-xE]at hb;generalize l[p].1.1=L at*
  clear v t C r;rcases g with rfl|rfl
  all_goals
   go_wp2
   go_region
   all_goals go_wp2
   all_goals exact P.o _ _ _ zo rfl ⟨p+1+1,zo,rfl,rfl,G.o,I.o,D.o⟩
theorem PE(v:Vl)(x:Sl)(m:Mem)(n:Nat)(w:zW)(hm:m.ay w)(D:dV m)(hv:bq m (n+1) x v)(hf:dz2 v)(hl:jS v.s 30000 100000):
 zX 119 #[v.val x] w (.bool (tf (su v))):=by
 have a:=(Own.start hm).al (bu v x).toArray 33;have hs:=hv.sc;have HN:=zh (fun w'=>FN x.i x.f x.t v.s m w' hs ⟨by have:=hl.i;omega,by have:=hl.f;omega,by have:=hl.t;omega⟩);have HV:=zh (fun w' (h:m.ay w')=>sH x.i x.f x.t v.s m w' h D hs (hl.mono zo zo));have HS:=zh (a.obj.sub (DC v x));obtain⟨-,J',H'⟩:=hv;have h1:=hf.l;have h2:=hf.s;have HF:=zh hf;have O':=zh D;obtain⟨y1,y2,y3,y4,y5⟩:=x;obtain⟨a4,b4,e4,p4,q4,k4⟩:=J';obtain⟨a5,b5,e5,p5,q5,k5⟩:=H';simp only at e4 e5;subst e4 e5;have HK:=zh (zi k4 k5);have W:=zh (show(bu v ⟨y1,y2,y3,.slice a4 v.aN.length b4,.slice a5 v.aA.length b5⟩).toArray[7]?=some (.slice a4 v.aN.length b4)/\(bu v ⟨y1,y2,y3,.slice a4 v.aN.length b4,.slice a5 v.aA.length b5⟩).toArray[8]?=some (.slice a5 v.aA.length b5) from⟨rfl,rfl⟩);have c0:=a.obj.cell (i:=0) (v:=.bool v.any) rfl;have c7:=a.obj.cell W.o.1;have c8:=a.obj.cell W.o.2;have HO:=zh a;unfold maxLen at q4 q5;unfold Vl.val;clear a hs k4 k5 hf D;have Q':=zh (DC v ⟨y1,y2,y3,.slice a4 v.aN.length b4,.slice a5 v.aA.length b5⟩);generalize (bu v _).toArray=N at*
 obtain⟨G,hG⟩:∃G:Prop,G=su v:=⟨_,rfl⟩;rw[<-hG];have HG:=zh hG;clear hG;refine au fun R hR=>?_
 cases hany:v.any with
 |true=>
  have y:=zh hany;rw[hany]at c0;have hin:=HO.o.ay;clear hany;have HX:=zh (show tf G=(tf (v.s=cK)&&decide (v.aN.length+v.aA.length=0))by
   rw[HG.o];by_cases g1:v.s=cK
   .by_cases g2:v.aN.length+v.aA.length=0
    .rw[aM (p:=su v) ⟨fun _=>⟨g1,xJ.1 zo,xJ.1 zo⟩,fun c K=>by rw[xJ.1 (show v.aN.length=0 by omega)]at K;simp at K,fun c K=>by rw[xJ.1 (show v.aA.length=0 by omega)]at K;simp at K,by rw[g1];exact gI⟩,aM g1,zN g2];rfl
    .rw[aF (p:=su v) fun k=>g2 (by rw[(k.any y.o).2.1,(k.any y.o).2.2];rfl),zM g2];simp
   .rw[aF (p:=su v) fun k=>g1 (k.any y.o).1,aF g1];rfl)
  go_enter func119,ntmps119
  go_wp2_with (refine aj wQ rfl (.tmp 9) rfl rfl _ rfl HS.o ?_)
  refine(HN.o _).mono ?_;rintro e w1 ⟨rfl,F⟩;have c7:=(HO.o.aS F).obj.cell W.o.1;have c8:=(HO.o.aS F).obj.cell W.o.2;have cl:=(HO.o.aS F).obj.lt;have HB:=zh (HO.o.aS F).az;clear HN HV HS HF HK HO W F HG;generalize v.aN.length=l4 at*
  generalize v.aA.length=l5 at*
  generalize tf (v.s=cK)=te at*
  cases te
  .go_wp2;exact hR.o _ _ ⟨by rw[HX.o]<;>rfl,HB.o⟩
  .by_cases hz:l4+l5=0
   .obtain⟨rfl,rfl⟩:l4=0/\l5=0:=zo;go_wp2;exact hR.o _ _ ⟨by rw[HX.o]<;>rfl,HB.o⟩
   .have hd:((l4:Int)+l5==0)=false:=zO.2 zo;have U:=zh (HX.o.trans (by rw[zM hz]<;>rfl));clear HX hz;go_wp2
    exact hR.o _ _ ⟨by rw[U.o]<;>rfl,HB.o⟩
 |false=>
  have y:=zh hany;rw[hany]at c0;clear hany;have HE:=zh (show G↔(∀c∈v.aN,c.2.length<=1)/\(∀c∈v.aA,fV c.1/\bH c)/\v.s.iG from by
   rw[HG.o];exact⟨fun k=>⟨k.rest,k.st,k.sc⟩,fun k=>⟨fun h=>(by rw[y.o]at h;cases h),k.1,k.2.1,k.2.2⟩⟩)
  clear HN y HG
  go_enter func119,ntmps119
  go_wp2;refine aC [1,23,24,25] (fun q Z Y=>∃(i:Nat),i<=v.aN.length/\q=v.aN.length-i/\Z=[.pointer (some ⟨w.heap.size,0,none⟩),.slice a4 v.aN.length b4,.int .i64 (v.aN.length:Int),.int .i64 (i:Int)]/\(∀j (hj:j<v.aN.length),j<i->(v.aN[j]).2.length<=1) /\
   Own w m Y m [.obj w.heap.size 33 N]) ?_ ?_
  .exact qau
  clear HO c0 c7 c8;rintro X z q Z Y L-⟨i,hi,rfl,rfl,hA,a⟩;simp[bB,lk];have y:=zh hA;clear hA;by_cases hlt:i<v.aN.length
  .obtain⟨b,off,rfl,h4⟩:=HK.o.1 qdP;obtain⟨u,u',P,s2,s3,s4⟩:=h4 i hlt;obtain⟨ua,uc,rfl,-⟩:=s3;obtain⟨O,M,rfl,r1,r2,-⟩:=s4;have x1:=Mem_cell_w a.ay P;have x2:=Mem_cell_w a.ay s2;have xl:=Mem_cell_lt a.ay P;have HO:=zh (a.al' (.cells #[.slice ua (v.aN[i]).1.length uc,.slice O (v.aN[i]).2.length M] 50));unfold maxLen at r2;have g:=zh (show(v.aN[i]).2.length<=1->∀j (hj:j<v.aN.length),j<i+1->(v.aN[j]).2.length<=1 from fun h j hj h2=>by
    by_cases e:j=i
    .exact qbV
    .exact y.o j hj zo)
   have d:=zh (show ¬(v.aN[i]).2.length<=1->¬G from fun h k=>h ((HE.o.1 k).1 _ (zF hlt)));generalize (v.aN[i]).1.length=n1 at*
   generalize (v.aN[i]).2.length=n2 at*
   clear a h4 P s2;by_cases hn:n2<=1
   .have H:=zh (g.o hn);clear g d;go_wp2;exact L.o _ _ _ zo rfl ⟨i+1,zo,rfl,rfl,H.o,HO.o⟩
   .have HR:=zh (d.o hn);clear g d L;go_wp2;exact hR.o _ _ ⟨by rw[aF HR.o]<;>rfl,HO.o.az⟩
  obtain rfl:i=v.aN.length:=zo;have HL:=zh (show ∀c∈v.aN,c.2.length<=1 from fun c K=>by obtain⟨j,hj,rfl⟩:=yX K;exact y.o j hj hj);have c7:=a.obj.cell W.o.1;have c8:=a.obj.cell W.o.2;have cl:=a.obj.lt;have HO:=zh a;clear a L y;go_wp2;refine aC [1,35,36,37] (fun q Z Y=>∃(i:Nat),i<=v.aA.length/\q=v.aA.length-i/\Z=[.pointer (some ⟨w.heap.size,0,none⟩),.slice a5 v.aA.length b5,.int .i64 (v.aA.length:Int),.int .i64 (i:Int)]/\(∀j (hj:j<v.aA.length),j<i->fV (v.aA[j]).1/\bH v.aA[j]) /\
   Own w m Y m [.obj w.heap.size 33 N]) ?_ ?_
  .exact qau
  clear HO c7 c8 cl;rintro X z q Z Y L-⟨i,hi,rfl,rfl,hA,a⟩;simp[bB,lk];have y:=zh hA;clear hA;by_cases hlt:i<v.aA.length
  .obtain⟨b,off,rfl,h4⟩:=HK.o.2 qdP;obtain⟨u,u',P,s2,s3,s4⟩:=h4 i hlt;have E:=zF hlt;have V:=zh (fun w' (h:m.ay w')=>KN u (v.aA[i]).1 m n w' h s3);have J:=zh (fun w' (h:m.ay w')=>Ib u u' v.aA[i] m n w' h O'.o s3 s4 (HF.o.st _ E));obtain⟨ua,uc,rfl,-⟩:=s3;obtain⟨O,M,rfl,-⟩:=s4;have x1:=Mem_cell_w a.ay P;have x2:=Mem_cell_w a.ay s2;have xl:=Mem_cell_lt a.ay P;have T:=a.al #[.slice ua (v.aA[i]).1.length uc,.slice O (v.aA[i]).2.length M] 62;have HO:=zh T;have g:=zh (show fV (v.aA[i]).1/\bH v.aA[i]->∀j (hj:j<v.aA.length),j<i+1->fV (v.aA[j]).1/\bH v.aA[j] from fun h j hj h2=>by
    by_cases e:j=i
    .exact qbV
    .exact y.o j hj zo)
   have d:=zh (show ¬(fV (v.aA[i]).1/\bH v.aA[i])->¬G from fun h k=>h ((HE.o.1 k).2.1 _ E));have B:=zh (V.o _ T.ay);clear a h4 P s2 T E y;generalize (v.aA[i]).1.length=n1 at*
   generalize (v.aA[i]).2.length=n2 at*
   generalize fV (v.aA[i]).1=FO at*
   generalize bH v.aA[i]=CO at*
   by_cases r:FO
   case neg=>
    have HR:=zh (d.o fun h=>r h.1);have Q:=B.o;rw[aF r]at Q;have A:=zh Q;clear g d J Q B V L r
    go_wp2_with (go_at_call 161;refine A.o.mono ?_;rintro e w2 ⟨rfl,hb2⟩)
    exact qhY
   have Q:=B.o;rw[aM r]at Q;have A:=zh Q;clear Q B V;by_cases C:CO
   .have I:=zh (show ∀w',m.ay w'->_ from fun w' h=>by have:=J.o w' h;rw[aM C]at this;exact this);have H:=zh (g.o ⟨r,C⟩);clear g d J r C
    go_wp2_with (first
     |(go_at_call 161;refine A.o.mono ?_;rintro e w2 ⟨rfl,hb2⟩;have x1:=(HO.o.aS hb2).obj.c 0;have x2:=(HO.o.aS hb2).obj.c 1;have xl:=(HO.o.aS hb2).obj.lt)
     | (go_at_call 162;refine(I.o _ (HO.o.aS hb2).ay).mono ?_;rintro e w3 ⟨rfl,S⟩))
    exact L.o _ _ _ zo rfl ⟨i+1,zo,rfl,rfl,H.o,((HO.o.aS hb2).aS S).tail⟩
   .have I:=zh (show ∀w',m.ay w'->_ from fun w' h=>by have:=J.o w' h;rw[aF C]at this;exact this);have HR:=zh (d.o fun h=>C h.2);clear g d J r C L
    go_wp2_with (first
     |(go_at_call 161;refine A.o.mono ?_;rintro e w2 ⟨rfl,hb2⟩;have x1:=(HO.o.aS hb2).obj.c 0;have x2:=(HO.o.aS hb2).obj.c 1;have xl:=(HO.o.aS hb2).obj.lt)
     | (go_at_call 162;refine(I.o _ (HO.o.aS hb2).ay).mono ?_;rintro e w3 ⟨rfl,S⟩))
    exact hR.o _ _ ⟨by rw[aF HR.o]<;>rfl,((HO.o.aS hb2).aS S).az⟩
  obtain rfl:i=v.aA.length:=zo;have k':=zh (show ∀c∈v.aA,fV c.1/\bH c from fun c K=>by obtain⟨j,hj,rfl⟩:=yX K;exact y.o j hj hj);have U:=zh (show tf G=tf v.s.iG from dY (HE.o.trans ⟨fun h=>h.2.2,fun h=>⟨HL.o,k'.o,h⟩⟩));have j':=zh (HV.o Y a.ay);have P':=zh (fun(hN:∀j u,([.bool v.s.dI,.bool v.s.dM,.bool v.s.dO,y1,y2,y3]:List Value)[j]?=some u->N[1+j]?=some u)=>a.obj.sub hN);have HO:=zh a;clear a HV y k' HL HE L;generalize tf v.s.iG=vv at*
  go_wp2_with (refine aj wQ rfl (.tmp 51) rfl rfl _ rfl (P'.o Q'.o) ?_)
  refine j'.o.mono ?_;rintro e w2 ⟨rfl,hb2⟩;have HB:=zh (HO.o.aS hb2).az;clear HO j' hb2;go_wp2;exact hR.o _ _ ⟨by rw[U.o]<;>rfl,HB.o⟩
def LP(a:Vs):Array Value:=#[.int .i64 a.n,.int .i64 a.d,.bool a.b]
theorem NC(g lv:Nat)(a:Vs)(k:0<=a.n/\a.n<=4000000/\0<=a.d/\a.d<=1000)(_:lv<=17)(w0 w:zW)(m mk:Mem)(L:List bA)(h:Own w0 m w mk (.obj g 94 (LP a)::L)):
 zC 118 #[.pointer (some ⟨g,0,none⟩),.int .i64 (lv:Int)] w fun e w'=>e=.returned (.tuple #[])/\Own w0 m w' mk (.obj g 94 (LP ⟨a.n+1,max a.d lv,a.b⟩)::L):=by
 obtain⟨n,d,b⟩:=a;obtain⟨q,p,u,t⟩:0<=n/\n<=4000000/\0<=d/\d<=1000:=k;have y:=h.obj.cell (i:=0) (v:=.int .i64 n) rfl;have s:=h.obj.frozen 0;have r:=h.obj.lt;have c:=h.set 0 (.int .i64 (n+1));have x:=c.obj.cell (i:=1) (v:=.int .i64 d) rfl;have f1:=c.obj.frozen 1;have f:=c.set 1 (.int .i64 (max d lv));have l:=zh f;clear h c f;refine au fun R j=>?_
 go_enter func118,ntmps118
 go_wp2
 go_end0
 exact j.o _ _ ⟨rfl,l.o⟩
structure Sg (a:Vs) (N:Int):Prop where
 n:0<=a.n
 le:a.n<=N
 d:0<=a.d
 top:a.d<=17
theorem ZV:∀(f lv:Nat) (v:Vl) (a:Vs),f+lv=17->0<=a.d->a.d<=17->0<=(ma f lv v a).d/\(ma f lv v a).d<=17
 |0,lv,v,a,h,c,b=>by simp only[ma];omega
 |f+1,lv,v,a,h,c,b=>by
  have j:∀(l:List Vd) (a:Vs),0<=a.d->a.d<=17->0<=(wL f lv l a).d/\(wL f lv l a).d<=17:=by
   intro l
   induction l with
   |nil=>intro a c b;exact⟨c,b⟩
   |cons x l ih=>
    intro a c b;have g:=ZV f (lv+1) x.1 a zo c b;have e:=ZV f (lv+1) x.2 (ma f (lv+1) x.1 a) zo g.1 g.2;exact ih _ e.1 e.2
  by_cases i:su v
  .rw[Av i];exact j _ _ (by show 0<=max a.d (lv:Int);omega) (by show max a.d (lv:Int)<=17;omega)
  .rw[CY i];exact qdA
theorem Sg.vis{f lv N:Nat}{v:Vl}{a:Vs}{k:Int}(h:Sg a k)(e:f+lv=17)(c:Ht N v):Sg (ma f lv v a) (k+dA N v):=by
 have g:=ZU f lv N v a c;have b:=ZV f lv v a e h.d h.top;have:=h.n;have:=h.le;exact⟨zo,zo,b.1,b.2⟩
theorem uR:∀(f lv n:Nat) (v:Vl) (x:Sl) (g:Nat) (a:Vs) (w0 w:zW) (m mk:Mem) (L:List bA),f+lv=17->Own w0 m w mk (.obj g 94 (LP a)::L)->dV mk->bq mk n x v->oq n v->Sg a (3000000-dA n v)->dA n v<=1048576 ->
 zC 78 #[.pointer (some ⟨g,0,none⟩),v.val x,.int .i64 (lv:Int)] w fun e w'=>∃mk',e=.returned (.tuple #[])/\Own w0 m w' mk' (.obj g 94 (LP (ma f lv v a))::L)/\mk.le mk'
 |f,lv,0,v,x,g,a,w0,w,m,mk,L,_,_,_,h,_,_,_=>h.elim
 |f,lv,n+1,v,x,g,a,w0,w,m,mk,L,hlv,I,htab,hv,hfw,ha,hct=>by
  have han:=ha.n;have hal:=ha.le;have had:=ha.d;have hat:=ha.top;have c:=I.al (bu v x).toArray 33;have HE:=zh (NC g lv a zo zo w0 _ m mk _ c.av);have HN:=zh (fun w' (h:aZ w' w.heap.size 33 (bu v x).toArray)=>h.all);have hN:(bu v x).length=9:=rfl;have gl:=c.obj.lt
  cases f with
  |zero=>
   obtain rfl:lv=17:=zo;have HV:ma 0 17 v a=⟨a.n+1,max a.d (17:Nat),true⟩:=rfl;have W':=zh HV;unfold Vl.val;clear HV c hv hfw ha I HN;generalize bu v x=N at*
   refine au fun R hR=>?_
   go_enter func78,ntmps78
   go_wp2_with (go_at_call 118;refine HE.o.mono ?_;rintro e w1 ⟨rfl,c⟩;have c2:=c.obj.cell (i:=2) (v:=.bool a.b) rfl;have f2:=c.obj.frozen 2;have f':=c.obj.lt)
   go_end0
   exact hR.o _ _ ⟨mk,rfl,by rw[W'.o];exact(c.set 2 (.bool true)).bK,Mem.le_refl _⟩
  |succ f=>
   have N':lv<=16:=zo;have hd:decide ((16:Int)<(lv:Int))=false:=zM zo;have hk:=QN hv.ht;have K:=hfw.1;have HG:=zh (fun w' (h:mk.ay w')=>PE v x mk n w' h htab hv hfw.1 ⟨by have:=K.i;omega,by have:=K.fr;omega,by have:=K.t;omega⟩);have Y:=zh (fun w' (h:mk.ay w')=>Gn v x mk n w' h hv zo);have hT:=bzO n v;have e':=WT n v.kids;rw[hT]at e';have HT:=zh (zi hT e');have C':=zh hfw.2;have y':=zh htab;have W:=zh (zi (fun h:su v=>Av (f:=f) (lv:=lv) (a:=a) h) (fun h:¬su v=>CY (f:=f) (lv:=lv) (a:=a) h));unfold Vl.val;unfold Vl.val at HG Y;generalize ma (f+1) lv v a=V at*
   generalize bu v x=N at*
   generalize dA (n+1) v=u' at*
   generalize v.kids=k at*
   generalize su v=GV at*
   clear c hv hfw I K hT e' htab ha;refine au fun R hR=>?_
   go_enter func78,ntmps78
   by_cases C:GV
   case neg=>
    have U:=zh (show ∀w',mk.ay w'->_ from fun w' h=>by have:=HG.o w' h;rw[aF C]at this;exact this);have HV:=zh (W.o.2 C);clear HG Y W C HT C'
    go_wp2_with (first
     |(go_at_call 118;refine HE.o.mono ?_;rintro e w1 ⟨rfl,c⟩;have f':=c.av.obj.lt)
     |refine aj kK rfl (.tmp 4) rfl rfl N hN (HN.o _ c.av.obj) ?_
     | (go_at_call 119;refine(U.o _ c.ay).mono ?_;rintro e w2 ⟨rfl,O⟩;have l:=c.aS O;have c2:=l.obj.cell (i:=2) (v:=.bool a.b) rfl;have f2:=l.obj.frozen 2;have t':=l.obj.lt))
    go_end0
    exact hR.o _ _ ⟨mk,rfl,by rw[HV.o];exact(l.set 2 (.bool true)).bK,Mem.le_refl _⟩
   have U:=zh (show ∀w',mk.ay w'->_ from fun w' h=>by have:=HG.o w' h;rw[aM C]at this;exact this);have HV:=zh (W.o.1 C);clear HG W C
   go_wp2_with (first
    |(go_at_call 118;refine HE.o.mono ?_;rintro e w1 ⟨rfl,c⟩;have f':=c.av.obj.lt)
    |refine aj kK rfl (.tmp 4) rfl rfl N hN (HN.o _ c.av.obj) ?_
    |(go_at_call 119;refine(U.o _ c.ay).mono ?_;rintro e w2 ⟨rfl,O⟩;have l:=c.aS O;have t':=l.av.obj.lt)
    | refine aj kK rfl (.tmp 4) rfl rfl N hN (HN.o _ l.av.obj) ?_)
   refine(Y.o _ l.ay).mono ?_;rintro e w3 ⟨r,rfl,q',hr⟩;have s':=l.call q';obtain⟨ra,rc,rfl,p1,q1,o'⟩:=hr;have c':=Mem_le_grow (w:=w3) l.ay;generalize mk.grow w2 w3=M at*
   have HK:=zh o';have z':=zh s';have j':=zh c';unfold maxLen at q1;clear c l s' O q' o' c' U Y HE HN f' t';go_wp2;refine aC [0,2,24,25,26] (fun q vs wr=>∃(i:Nat) (T:Vs) (mi:Mem),i<=k.length/\q=k.length-i/\vs=[.pointer (some ⟨g,0,none⟩),.int .i64 (lv:Int),.slice ra k.length rc,.int .i64 (k.length:Int),.int .i64 (i:Int)]/\T=wL f lv (k.take i) ⟨a.n+1,max a.d lv,a.b⟩ /\
    Sg T (3000000-(u':Int)+(D7 n k i:Nat))/\M.le mi/\Own w0 m wr mi (.obj g 94 (LP T)::.obj w.heap.size 33 N.toArray::L)) ?_ ?_
   .refine⟨_,0,⟨a.n+1,max a.d lv,a.b⟩,M,zG _,rfl,rfl,rfl,⟨by show 0<=a.n+1;omega,?_,by show 0<=max a.d (lv:Int);omega,by show max a.d (lv:Int)<=17;omega⟩,Mem.le_refl _,z'.o⟩;have:D7 n k 0=1:=by simp[D7]
    rw[this];show a.n+1<=_;omega
   clear z';rintro X z q vs wr hX-⟨i,T,mi,hi,rfl,rfl,P,B,s,I⟩;simp[bB,lk];by_cases hlt:i<k.length
   case neg=>
    obtain rfl:i=k.length:=zo;rw[yG]at P;have HF:=zh (zi I.bK (Mem.le_trans j'.o s));rw[P,<-HV.o]at HF;clear I hX B;go_wp2
    go_end0
    exact hR.o _ _ ⟨_,rfl,HF.o⟩
   obtain⟨b,off,rfl,h4⟩:=HK.o qdP;obtain⟨F,E,hc,r1,r2⟩:=(h4 i hlt).cells;have hcl:=Mem_cell_lt I.ay (Mem_cell_le s (hc 0 _ rfl));have HC:=zh (fun j u hj=>Mem_cell_w I.ay (Mem_cell_le s (hc j u hj)));have h2:=fZ r1 r2;have hl2:(dC k[i] F E).length=18:=rfl;have HF1:=zh (show ∀j u,(bu k[i].1 F)[j]?=some u->(dC k[i] F E).toArray[0+j]?=some u from fun j u hj=>by simpa using lh (y:=E) hj);have Z':=zh (show ∀j u,(bu k[i].2 E)[j]?=some u->(dC k[i] F E).toArray[9+j]?=some u from fun j u hj=>by simpa using pI (x:=F) hj);have M':=Y6 n k i hlt;have htot:=HT.o.2 (i+1);have H:=C'.o k[i] (zF hlt);have J:=Xo f lv k i hlt ⟨a.n+1,max a.d lv,a.b⟩;rw[<-P]at J;have a':Sg T (3000000-(dA n k[i].1:Nat)):=⟨B.n,by have:=B.le;omega,B.d,B.top⟩;have p:=B.vis (f:=f) (lv:=lv+1) zo H.1.ht;have A:=p.vis (f:=f) (lv:=lv+1) zo H.2.ht;have Z:Sg (ma f (lv+1) k[i].1 T) (3000000-(dA n k[i].2:Nat)):=⟨p.n,by have:=p.le;omega,p.d,p.top⟩;have h':=zh (fun w' (h:Own w0 m w' mi (.obj g 94 (LP T)::.obj wr.heap.size 35 (dC k[i] F E).toArray::.obj w.heap.size 33 N.toArray::L))=>
    uR f (lv+1) n k[i].1 F g T w0 w' m mi _ zo h (y'.o.le (Mem.le_trans j'.o s)) (r1.le s) H.1 a' zo)
   have g':=zh (fun w' mj (hj:mi.le mj) (h:Own w0 m w' mj (.obj g 94 (LP (ma f (lv+1) k[i].1 T))::.obj wr.heap.size 35 (dC k[i] F E).toArray::.obj w.heap.size 33 N.toArray::L))=>
    uR f (lv+1) n k[i].2 E g _ w0 w' m mj _ zo h (y'.o.le (Mem.le_trans (Mem.le_trans j'.o s) hj)) (r2.le (Mem.le_trans s hj)) H.2 Z zo)
   have E':=zh (show Sg (wL f lv (k.take (i+1)) ⟨a.n+1,max a.d lv,a.b⟩) (3000000-(u':Int)+(D7 n k (i+1):Nat))by
    rw[J];exact⟨A.n,by have:=A.le;omega,A.d,A.top⟩)
   have V':=zh J;have B':=zh s;have HO:=zh (I.al oz 35);unfold Vl.val at h' g';have R':(bu k[i].1 F).length=9:=rfl;have Q':(bu k[i].2 E).length=9:=rfl;generalize bu k[i].1 F=N1 at*
   generalize bu k[i].2 E=N2 at*
   generalize dC k[i] F E=D at*
   clear I hc r1 r2 h4 M' B a' p A Z H J P s
   go_wp2_with (first
    |refine aj dU rfl (.tmp 28) rfl rfl D hl2 HC.o ?_
    | refine aB dU rfl (.tmp 7) (.tmp 29) rfl (cs:=D.toArray) rfl rfl rfl qe4 (fun u hu=>h2 u hu) HO.o.obj ?_)
   intro w5 n' p';have S:=HO.o.aW n' p';have q0:=S.obj.sub HF1.o;have U':=S.obj.lt;have x':=zh (h'.o _ S.av);clear HO HC n' p' S h'
   go_wp2_with (refine aj kK rfl (.tmp 31) rfl rfl N1 R' q0 ?_)
   refine x'.o.mono ?_;rintro e w6 ⟨mj,rfl,Q,G⟩;have q1:=Q.av.obj.sub Z'.o;have T':=Q.av.obj.lt;have v':=zh (g'.o _ mj G Q);have Y':=zh G;clear Q G x' g' q0 U'
   go_wp2_with (refine aj kK rfl (.tmp 37) rfl rfl N2 Q' q1 ?_)
   refine v'.o.mono ?_;rintro e w7 ⟨L',rfl,r',b'⟩;have i':=zh (zi r'.bK (Mem.le_trans B'.o (Mem.le_trans Y'.o b')));rw[<-V'.o]at i';clear r' b' v' q1 T';go_wp2;exact hX.o _ _ _ zo rfl ⟨i+1,_,L',zo,rfl,rfl,rfl,E'.o,i'.o.2,i'.o.1⟩
noncomputable def wkV(v:Vl):Vs:=ma 16 1 v ⟨0,0,false⟩
theorem Py(v:Vl)(x:Sl)(m:Mem)(n:Nat)(w:zW)(k:m.ay w)(b:dV m)(h:bq m n x v)(i:oq n v)(d:dA n v<=1048576):
 zC 54 #[v.val x] w fun e w'=>∃g,e=.returned (.pointer (some ⟨g,0,none⟩))/\zB w w'/\aZ w' g 94 (LP (wkV v)):=by
 have c:=((Own.start k).al (bu v x).toArray 33).al (LP ⟨0,0,false⟩) 94;simp only[bC]at c;have f:=zh (uR 16 1 n v x (w.heap.size+1) ⟨0,0,false⟩ w _ m m _ rfl c b h i ⟨by show(0:Int)<=0;omega,by show(0:Int)<=_;omega,by show(0:Int)<=0;omega,by show(0:Int)<=17;omega⟩ d);have r:=zh c.av.obj.all;have p:(bu v x).length=9:=rfl;have t:=c.av.obj.lt;have q:=zh (show ma 16 1 v ⟨0,0,false⟩=wkV v from rfl);unfold Vl.val;unfold Vl.val at f;generalize bu v x=N at*
 clear c h i;refine au fun R l=>?_
 go_enter func54,ntmps54
 go_wp2_with (refine aj kK rfl (.tmp 1) rfl rfl N p r.o ?_)
 refine f.o.mono ?_;rintro e s ⟨mk,rfl,a,-⟩;have j:=zh (zi a.az a.obj);rw[q.o]at j;clear a f;go_wp2;exact l.o _ _ ⟨_,rfl,j.o⟩
theorem fzY(v:Vl):(wkV v).b = !tf (jR v):=by unfold wkV jR;rw[ZW];rfl
theorem uS(v:Vl)(x:Sl)(m:Mem)(n:Nat)(w:zW)(u:m.ay w)(c:dV m)(p:bq m n x v)(q:oq n v)(h:dA n v<=1048576):
 zX 35 #[v.val x] w (.bool (tf (jR v))):=by
 have f:=(Own.start u).al (bu v x).toArray 33;have j:=zh (Py v x m n _ f.ay c p q h);have s:=zh f.obj.all;have z:(bu v x).length=9:=rfl;have t:=zh (fzY v);have r:=zh f;have E:=f.obj.lt;unfold Vl.val;unfold Vl.val at j;generalize bu v x=N at*
 generalize wkV v=k at*
 clear f p q;refine au fun R y=>?_
 go_enter func35,ntmps35
 go_wp2_with (refine aj kK rfl (.tmp 1) rfl rfl N z s.o ?_)
 refine j.o.mono ?_;rintro e C ⟨g,rfl,d,a⟩;have F:=a.cell (i:=2) (v:=.bool k.b) rfl;have A:=a.lt;have B:=zh (r.o.aS d).az;have l:=zh (show tf (jR v) = !k.b by rw[t.o,Bool.not_not]);clear r d a j s t;generalize tf (jR v)=D at*
 go_wp2;exact y.o _ _ ⟨by rw[l.o]<;>rfl,B.o⟩
theorem C9(d:Vd)(x y:Sl)(m:Mem)(n:Nat)(w:zW)(H:m.ay w)(b:dV m)(t:bq m n x d.1)(s:bq m n y d.2)(f1:oq n d.1)(f2:oq n d.2)(F:dA n d.1<=1048576)(E:dA n d.2<=1048576):
 zX 17 #[bP d x y] w (.bool (tf (jR d.1)&&tf (jR d.2))):=by
 have l:=(Own.start H).al (dC d x y).toArray 35;have B:=zh (uS d.1 x m n _ l.ay b t f1 F);have z:=zh (fun w' (h:m.ay w')=>uS d.2 y m n w' h b s f2 E);have I:(bu d.1 x).length=9:=rfl;have p:(bu d.2 y).length=9:=rfl;have A:=zh qiv;have q:=zh l;unfold Vl.val bP at*
 generalize bu d.1 x=N at*
 generalize bu d.2 y=v at*
 generalize dC d x y=D at*
 clear l t s f1 f2;have r:=q.o.obj.sub (o:=0) (cs:=N) fun j u k=>by simpa using A.o.1 j u k
 generalize tf (jR d.1)=G at*
 generalize tf (jR d.2)=K at*
 refine au fun R hR=>?_
 go_enter func17,ntmps17
 go_wp2_with (refine aj kK rfl (.tmp 3) rfl rfl N I r ?_)
 refine B.o.mono ?_;rintro e C ⟨rfl,g⟩;have a:=zh (q.o.aS g);have c:=zh (z.o C a.o.ay);have i:=a.o.obj.sub (o:=9) (cs:=v) fun j u k=>by simpa using A.o.2 j u k
 clear q B z g r;cases G
 .have HB:=zh a.o.az;clear a c i;exact qak
 .go_wp2_with (refine aj kK rfl (.tmp 7) rfl rfl v p i ?_)
  refine c.o.mono ?_;rintro e J ⟨rfl,f⟩;have HB:=zh (a.o.aS f).az;clear a c f i;exact qak
end Cl
namespace Cl
open Go Go.RowKit Go.Proofs
def Fy(m:Mem)(a:List Value)(l:List aK):Prop:=a.length=l.length/\∀i (c:i<a.length) (b:i<l.length),aU m a[i] l[i]
theorem Fy.le{m m':Mem}{a:List Value}{l:List aK}(h:Fy m a l)(k:m.le m'):Fy m' a l:=⟨h.1,fun i c b=>aX k (h.2 i c b)⟩
theorem Fy.push{m:Mem}{a:List Value}{l:List aK}(h:Fy m a l){x:zV}{t:aK}(b:aU m x t):Fy m (a++[x]) (l++[t]):=by
 refine⟨by simp[h.1],fun i e f=>?_⟩;by_cases c:i<a.length
 .rw[xM c,xM (by rw[<-h.1];exact c)];exact h.2 i c _
 .have d:i=a.length:=by simp at e;omega
  subst d;simp[h.1,b]
theorem oG.exec{P:Program}{t:TypeId}{n:Nat}(S:oG P t n){w:zW}{o:Oper}{c:Operand->Value}{p:Operand}(a:o.op=Op.load t p){b off:Nat}(d:c p=.pointer (some ⟨b,off,none⟩)){cs:List Value}(e:cs.length=n)(f:∀j u,cs[j]?=some u->w.cell? ⟨b,off+j,none⟩=some u):
 (execOp c o).run P w=.ok (.value (.agg cs.toArray)) w:=by
 simp[execOp,a,d,Instr.loadAt,Instr.sureAddr,S.load e f,Result.andThen]
theorem czx{n k:Nat}{v:Vl}(b:Ht n v)(a:Ht k v):dA n v=dA k v:=(Aw b (Nat.le_max_left n k)).symm.trans (Aw a (Nat.le_max_right n k))
end Cl
