/- Lemmas for the proofs of chapter 11. -/
import Derived.Test.YtdgjplfcpcphoaaGreatDoorPkE33
import Derived.Test.YtdgjplfcpcphoaaGreatDoorPkE34
import Derived.Test.YtdgjplfcpcphoaaGreatDoorPkE20
set_option maxRecDepth 100000
set_option maxHeartbeats 16000000
namespace Cl
open Go Go.RowKit Go.Proofs Tryz
def rF(v:Vl):Prop:=v.s=fI/\v.aU=[]/\v.aF=[]
theorem Wd(v:Vl):tf (rF v)=(!v.s.gY && !v.s.iF && !v.s.iZ&&decide (v.s.i.length=0)&&decide (v.s.f.length=0)&&decide (v.s.t.length=0)&&decide (v.aU.length=0)&&decide (v.aF.length=0)):=by
 have e:=NW v.s;by_cases d:v.s=fI
 .rw[aO d]at e;by_cases c:v.aU.length=0/\v.aF.length=0
  .rw[aO (p:=rF v) ⟨d,xJ.1 c.1,xJ.1 c.2⟩,d,c.1,c.2]
   rfl
  .rw[aA (p:=rF v) fun k=>c ⟨by rw[k.2.1];rfl,by rw[k.2.2];rfl⟩];by_cases a:v.aU.length=0<;>by_cases b:v.aF.length=0<;>simp[a,b]
   exact absurd ⟨a,b⟩ c
 .rw[aA (p:=rF v) fun k=>d k.1];rw[aA d]at e;by_cases j:v.s.i.length=0<;>by_cases h:v.s.f.length=0<;>by_cases g:v.s.t.length=0<;>simp[j,h,g]
  rw[j,h,g]at e;cases hn:v.s.gY<;>cases hf:v.s.iF<;>cases ht:v.s.iZ<;>simp[hn,hf,ht]at e⊢
theorem Ll(v:Vl)(x:Sl)(m:Mem)(n:Nat)(w:zW)(z:m.ay w)(y:bG m n x v):
 zX 98 #[v.val x] w (.bool (tf (rF v))):=by
 have a:=(Own.start z).al (bu v x).toArray 33;have B:=zh (Wd v);have C:=zh (a.obj.sub (tZ v x));obtain⟨r,j,q,h,p,g,l,d,k,c,rfl,-⟩:=y.eG;have b:=a.al #[.bool v.s.gY,.bool v.s.iF,.bool v.s.iZ,.slice r v.s.i.length j,.slice q v.s.f.length h,.slice p v.s.t.length g] 29;have u:=zh (show(bu v ⟨.slice r v.s.i.length j,.slice q v.s.f.length h,.slice p v.s.t.length g,.slice l v.aU.length d,.slice k v.aF.length c⟩).toArray[7]?=some (.slice l v.aU.length d)/\(bu v ⟨.slice r v.s.i.length j,.slice q v.s.f.length h,.slice p v.s.t.length g,.slice l v.aU.length d,.slice k v.aF.length c⟩).toArray[8]?=some (.slice k v.aF.length c) from⟨rfl,rfl⟩);have O:=fun o=>(a.al' o).obj.cell u.o.1;have M:=fun o=>(a.al' o).obj.cell u.o.2;have cl:=a.obj.lt;have D:=zh a.az;unfold Vl.val;clear a b y u;generalize (bu v _).toArray=N at*
 generalize v.aU.length=I at*
 generalize v.aF.length=H at*
 generalize v.s.i.length=L at*
 generalize v.s.f.length=K at*
 generalize v.s.t.length=J at*
 generalize v.s.gY=G at*
 generalize v.s.iF=F at*
 generalize v.s.iZ=E at*
 refine aj fun R A=>?_
 go_enter func98,ntmps98
 go_wp2_with (refine ae K3 rfl (.tmp 4) rfl rfl _ rfl C.o ?_)
 all_goals refine A.o _ _ ⟨?_,bE D.o _⟩
 all_goals rw[B.o]
 all_goals simp_all
 all_goals (rw[Bool.eq_iff_iff,beq_iff_eq,decide_eq_true_iff];omega)
theorem Nw(u I:zV)(A B:List Int)(m:Mem)(w:zW)(T:m.ay w)(l:eU m u A)(g:eU m I B)(M:A.length=B.length):
 zX 222 #[u,I] w (.bool (decide (A=B))):=by
 obtain⟨a,c,rfl,p1,S,L⟩:=l;obtain⟨Y,W,rfl,p2,Q,K⟩:=g;unfold maxLen at S Q;have P:=zh (zi L K);have s:=zh (Own.start T);have t:=zh M.symm;clear L K M;refine aj fun R N=>?_
 go_enter func222,ntmps222
 go_wp2;refine av [0,1,5] (fun q H G=>∃(i:Nat),i<=A.length/\q=A.length-i/\H=[.slice a A.length c,.slice Y B.length W,.int .i64 (i:Int)]/\(∀j (l:j<A.length) (g:j<B.length),j<i->A[j]=B[j]) /\
  Own w m G m []) ?_ ?_
 .exact⟨_,0,zG _,rfl,rfl,fun j _ _ h=>absurd h (xY _),s.o⟩
 clear s;rintro X z q H G C-⟨i,hi,rfl,rfl,O,f⟩;simp[aX,lk];have v:=zh O;clear O;by_cases hlt:i<A.length
 case neg=>
  have HB:=zh f.az;have Z:=zh (show A=B from vF (by rw[t.o]) fun j l g=>v.o j l g zo);obtain rfl:i=A.length:=zo;clear f C v;go_wp2;exact N.o _ _ ⟨by rw[zN Z.o]<;>rfl,HB.o⟩
 have d:i<B.length:=by rw[t.o];exact hlt
 obtain⟨b,off,rfl,E⟩:=P.o.1 qdX;obtain⟨b',J,rfl,D⟩:=P.o.2 (by intro h;simp[h]at d);have g0:=Mem_cell_w f.ay (E i hlt).1;have gl:=Mem_cell_lt f.ay (E i hlt).1;have g1:=Mem_cell_w f.ay (D i d).1;have V:=Mem_cell_lt f.ay (D i d).1;have s:=zh (f.Ep 1);have n:=zh (show A[i]=B[i]->∀j (l:j<A.length) (g:j<B.length),j<i+1->A[j]=B[j] from fun h j l g h3=>by
  by_cases e:j=i
  .subst e;exact h
  .exact v.o j l g zo)
 have p:=zh (show ¬A[i]=B[i]->¬A=B from fun h k=>h (by subst k;rfl));generalize A[i]=x at*
 generalize B[i]=y at*
 clear f E D v;by_cases r:x=y
 .have F:=zh (n.o r);have U:(x != y)=false:=by rw[r];simp
  clear n p r;go_wp2
  go_region
  all_goals go_wp2
  all_goals exact C.o _ _ _ zo rfl ⟨i+1,zo,rfl,rfl,F.o,s.o⟩
 .have F:=zh (p.o r);have U:(x != y)=true:=bne_iff_ne.2 r;clear n p r C;go_wp2
  go_region
  all_goals go_wp2
  all_goals exact N.o _ _ ⟨by rw[zM F.o]<;>rfl,s.o.az⟩
theorem Qt(N u:zV)(t:List Value)(l:List (List Int))(x:List Int)(m:Mem)(w:zW)(hm:m.ay w)(b:w.ownsRow 0 135 1 N l.length t)(S:nC m t l)(O:eU m u x)(P:∀y∈l,y.length=x.length)(hb:l.length<=1400000000):
 zX 191 #[N,u] w (.bool (decide (x∈l))):=by
 obtain⟨a,c,rfl⟩:=aT b;have G:=b.2;have W:=zh S;have HU:=zh O;have V:=zh b;have D:=zh (Own.start hm);have HL:=zh P;clear b G S O P;refine aj fun R T=>?_
 go_enter func191,ntmps191
 go_wp2;refine av [0,1,5] (fun q M L=>∃(i:Nat),i<=l.length/\q=l.length-i/\M=[.slice a l.length c,u,.int .i64 (i:Int)]/\(∀j (J:j<l.length),j<i->¬l[j]=x) /\
  Own w m L m []) ?_ ?_
 .exact⟨_,0,zG _,rfl,rfl,fun j _ h=>absurd h (xY _),D.o⟩
 clear D;rintro X z q M L I-⟨i,hi,rfl,rfl,U,A⟩;simp[aX,lk];have F:=zh U;clear U;by_cases f:i<l.length
 case neg=>
  have HB:=zh A.az;obtain rfl:i=l.length:=zo;have K:=zh (show ¬x∈l from fun h=>by obtain⟨j,Q,e⟩:=yX h;exact F.o j Q Q e);clear A I F;go_wp2;exact T.o _ _ ⟨by rw[zM K.o]<;>rfl,HB.o⟩
 obtain⟨k,H⟩:∃k,l.length=k+1:=⟨l.length-1,zo⟩;have d:=Np V.o A.az;rw[H]at d;obtain⟨g,cap,e,-⟩:=rU d;rw[<-H]at e d;injection e with e1 e2 e3;subst e1 e3;have B:i<t.length:=by rw[W.o.1];exact f
 have x1:=bg d (j:=i) (u:=t[i]) (by simp[B]);have xl:=(World.ownsRow.lt d _ rfl).2;have E:=zh (fun w' (h:m.ay w')=>Nw t[i] u l[i] x m w' h (W.o.2 i B f) HU.o (HL.o _ (zF f)));have C:=A.ay;have D:=zh A;have p:=zh (show ¬l[i]=x->∀j (J:j<l.length),j<i+1->¬l[j]=x from fun h j J h3=>by
  by_cases e:j=i
  .subst e;exact h
  .exact F.o j J zo)
 have r:=zh (show l[i]=x->x∈l from fun h=>h ▸ zF f);generalize t[i]=Z at*
 generalize l[i]=li at*
 clear A d F V H;by_cases v:li=x
 .have s:=zh (show ∀w',m.ay w'->_ from fun w' h=>by have:=E.o w' h;rw[zN v]at this;exact this);have K:=zh (r.o v);clear p r v I E
  go_wp2_with (go_at_call 222;refine(s.o _ C).mono ?_;rintro e Y ⟨rfl,n⟩)
  exact T.o _ _ ⟨by rw[zN K.o]<;>rfl,(D.o.aP n).az⟩
 .have s:=zh (show ∀w',m.ay w'->_ from fun w' h=>by have:=E.o w' h;rw[zM v]at this;exact this);have HN:=zh (p.o v);clear p r v E
  go_wp2_with (go_at_call 222;refine(s.o _ C).mono ?_;rintro e Y ⟨rfl,n⟩)
  exact I.o _ _ _ zo rfl ⟨i+1,zo,rfl,rfl,HN.o,D.o.aP n⟩
theorem Jz{m m':Mem}(h:m.le m'){v:zV}{l:List aC}(k:Aq m v l):Aq m' v l:=Mem_slice1_mono k fun _ _ _ ⟨u,b,a⟩=>⟨u,Mem_cell_le h b,aW h a⟩
theorem Af.bzK{cs:List fA}{v:List Int}(h:Af cs v)(b:∀c∈cs,c.n<=1000):∀x∈v,-1<=x/\x<1000+1:=fun x a=>by
 have:=h.ik b x a;omega
theorem Ny(u:zV)(Ls:List aC)(m:Mem)(w:zW)(hm:m.ay w)(h:Aq m u Ls)(hok:∀T∈Ls,dG T/\T≠[])(hl:Ls.length<=12)(hsz:∀T∈Ls,T.length<=1000)(Y':∀A:List (List Int),A.Nodup->(∀v∈A,kF (Ls.map gH) v)->A.length<=1400000000):
 zX 152 #[u] w (.bool (tf (sH (Ls.map gH)))):=by
 have hu:=h;obtain⟨a,c,rfl,p1,q1,k1⟩:=h;unfold maxLen at q1;have HU:=zh hu;have HK:=zh k1;have HOK:=zh hok;have HSZ:=zh hsz;have HFEW:=zh Y';have HO:=zh ((Own.start hm).dL 3 1);clear k1 hu hok hsz Y';refine aj fun R hR=>?_
 go_enter func152,ntmps152
 go_wp2;refine av [0,3,4] (fun q Q K=>∃(i:Nat) (tv:zV),i<=Ls.length/\q=Ls.length-i/\Q=[.slice a Ls.length c,tv,.int .i64 (i:Int)] /\
  Own w m K m [.row tv 3 1 i (List.replicate i (.int .i64 0))]) ?_ ?_
 .exact⟨_,0,_,zG _,rfl,rfl,HO.o⟩
 clear HO;rintro X z q Q K hX-⟨i,tv,hi,rfl,rfl,d⟩;simp[aX,lk];obtain⟨va,vc,rfl⟩:=aT d.row;by_cases hlt:i<Ls.length
 .obtain⟨b,off,rfl,h4⟩:=HK.o qdX;obtain⟨ui,hc,i'⟩:=h4 i hlt;obtain⟨ta,tc,rfl,t1,t2,-⟩:=i';have hne:¬Ls[i].length=0:=fun e=>(HOK.o _ (zF hlt)).2 (xJ.1 e);have hd:((Ls[i].length:Int)==0)=false:=zO.2 zo;have x1:=Mem_cell_w d.ay hc;have xl:=Mem_cell_lt d.ay hc;have f:=d.al #[.int .i64 0] 3;have B:=f.obj.cZ rfl;generalize Ls[i].length=n at*
  clear d h4 hc
  go_wp2_with (at_builtin;refine aG sZ rfl (.tmp 28) (.tmp 29) rfl (.slice va i vc) i (List.replicate i (.int .i64 0)) rfl f.au.row ⟨K.heap.size,0,none⟩ 1 1 [.int .i64 0] rfl rfl B qdZ qdY zo ?_)
  intro va' vc' w3 y' B' v';have s:=(f.au.app y' B' v' zS).bL;rw[<-List.replicate_succ']at s;have Hfin:=zh s;clear s y' B' v' f B;go_wp2;exact hX.o _ _ _ zo rfl ⟨i+1,_,zo,rfl,rfl,Hfin.o⟩
 obtain rfl:i=Ls.length:=zo;have K':=MR Ls;have hlv:(ib (Ls.map gH)).length=Ls.length:=by rw[K',List.length_replicate]
 rw[show List.replicate Ls.length (Value.int .i64 0)=(ib (Ls.map gH)).map (Value.int .i64)by rw[K'];simp]at d;have hv0:=dS (m:=m) (l:=ib (Ls.map gH)) (by rw[hlv];exact d.row) (fun x hx=>by rw[K']at hx;rw[List.eq_of_mem_replicate hx];omega);have X':=Mem_le_addv (w:=K) d.free;have n':=d.bJ;generalize m.iw K _=mk1 at*
 have f:=n'.make (World.ownsRow_lit (base:=0) (e:=135) (size:=1) K #[.slice va Ls.length vc] 1 (zG _) qdY rfl) (World.grownBy_alloc K (.cells #[.slice va Ls.length vc] 135) none);have R':=zh (zi (sG.first (Ls.map gH)) (zi hv0 X'));have F':=zh f;have HVR:=zh (fun(v:List Int) (h:kF (Ls.map gH) v)=>Af.reach (fun c hc=>by obtain⟨T,O,rfl⟩:=yD.1 hc;exact EU (HOK.o T O).1 (HOK.o T O).2) h);clear d n' f hv0 X' hlv K' hX;generalize ib (Ls.map gH)=v0 at*
 go_wp2;refine av [0,5,6] (fun q Q K=>∃(k:Nat) (A:List (List Int)) (ts:List Value) (tv:zV) (mk:Mem),k<=A.length/\q=1400000001-k/\Q=[.slice a Ls.length c,tv,.int .i64 (k:Int)]/\sG (Ls.map gH) A k/\nC mk ts A/\m.le mk /\
  Own w m K mk [.row tv 135 1 A.length ts]) ?_ ?_
 .refine⟨_,0,[v0],[.slice va Ls.length vc],_,mk1,zG _,rfl,rfl,R'.o.1,⟨rfl,fun i h1 h2=>?_⟩,R'.o.2.2,F'.o⟩
  match i,h1,h2 with
  |0,_,_=>exact R'.o.2.1
 clear F' R';rintro X z q Q K hX-⟨k,A,ts,tv,mk,hks,rfl,rfl,j,O,N,d⟩;simp[aX,lk];obtain⟨ta,S',rfl⟩:=aT d.row;have hsn:=HFEW.o A j.nodup j.reach;by_cases hlt:k<A.length
 case neg=>
  obtain rfl:k=A.length:=zo;have HR:=zh j.once;have HB:=zh d.az;clear d j O hX;exact qbz
 obtain⟨s1,hs1⟩:∃s1,A.length=s1+1:=⟨A.length-1,zo⟩;have hrw:=d.row;rw[hs1]at hrw;obtain⟨g,cap,e,-⟩:=rU hrw;rw[<-hs1]at e;injection e with e1 e2 e3;subst e1 e3;have hkt:k<ts.length:=by rw[O.1];exact hlt
 obtain⟨xa,xc,hxe,r1,r2,r3⟩:=O.2 k hkt hlt;have hrv:=j.reach _ (zF hlt);have q':=HVR.o A[k] hrv;have L':A[k].length=Ls.length:=by rw[q'.len];simp
 have HT:=zh O;have HS:=zh j;have HLE:=zh N;have HXE:=zh (show ts[k]?=some (.slice xa A[k].length xc)by rw[yH hkt,hxe]);have HR3:=zh r3;have HRG:=zh (show ∀i (h1:i<Ls.length) (h2:i<A[k].length),-1<=A[k][i]/\A[k][i]<Ls[i].length from fun i h1 h2=>by
  have:=q'.get i qeD h2;simpa [gH]using this)
 have P:=zh (zi (Vf Ls A[k]) (zi (fun i (h1:i<Ls.length) (h2:i<(A[k]).length)=>Vg h1 h2) (zi (XE L') (Zk Ls A[k]))));have HRV:=zh (zi hrv L');have HO:=zh d;have G:A[k].length=Ls.length:=L';unfold maxLen at r2;clear hrw hs1 O j N d r3 hrv q' L' hxe;generalize hv:A[k]=v at*
 have HV:=zh hv;clear hv;go_wp2;refine av [0,5,6,7,8] (fun q Q K=>∃(i:Nat),i<=Ls.length/\q=Ls.length-i/\Q=[.slice a Ls.length c,.slice (some ⟨g,0,none⟩) A.length S',.int .i64 (k:Int),.int .i64 (EH Ls v i:Int),.int .i64 (i:Int)] /\
  Own w m K mk [.row (.slice (some ⟨g,0,none⟩) A.length S') 135 1 A.length ts]) ?_ ?_
 .exact⟨_,0,zG _,rfl,by rw[P.o.1];rfl,HO.o⟩
 clear HO;rintro Y z2 q Q wr2 hY-⟨i,hi,rfl,rfl,d⟩;simp[aX,lk];have y0:=bg d.row HXE.o;have yl:=(World.ownsRow.lt d.row _ rfl).2;by_cases hlt2:i<Ls.length
 .have D:i<v.length:=zo;obtain⟨b,off,rfl,h4⟩:=HK.o qd6;obtain⟨ui,hc,i'⟩:=h4 i hlt2;obtain⟨ta,tc,rfl,t1,t2,t4⟩:=i';obtain⟨b3,p',rfl,h5⟩:=HR3.o (by intro h;simp[h]at D);have x1:=Mem_cell_w d.ay (Mem_cell_le HLE.o hc);have xl:=Mem_cell_lt d.ay (Mem_cell_le HLE.o hc);have x2:=Mem_cell_w d.ay (h5 i D).1;have xl2:=Mem_cell_lt d.ay (h5 i D).1;have hrg:=HRG.o i hlt2 D;have k':=P.o.2.1 i hlt2 D;have hhl:=P.o.2.2.2 i;have HT4:=zh t4;have HO:=zh (d.Ep 1);unfold maxLen at t2;generalize Ls[i]=T at*
  generalize v[i]=vi at*
  have A':=d.ay;clear h4 h5 hc t4 d;by_cases V':0<=vi
  .obtain⟨p,rfl⟩:=zT V';have M':p<T.length:=zo;obtain⟨tb,to,rfl,t5⟩:=HT4.o (by intro h;rw[h]at M';simp at M');obtain⟨s1,-⟩:=t5 p M';have x3:=Mem_cell_w A' (Mem_cell_le HLE.o s1);have xl3:=Mem_cell_lt A' (Mem_cell_le HLE.o s1);rw[fJ _ _ M']at k';have hd:decide (0<=(p:Int))=true:=zN zo;have HHS:=zh k';generalize T[p].aZ=acc at*
   clear t5 s1 k' A';cases acc
   all_goals
    go_wp2
    go_region
    all_goals go_wp2
    exact qcS
  .have hd:decide (0<=vi)=false:=zM V';rw[show bB T vi=false by unfold bB;rw[zK zo]]at k';have HHS:=zh k';clear k' A';go_wp2
   go_region
   all_goals go_wp2
   exact qcS
 obtain rfl:i=Ls.length:=zo;rw[P.o.2.2.1];have hhl:lF (Ls.map gH) v<=12:=by have:=P.o.2.2.2 Ls.length;rw[P.o.2.2.1]at this;omega
 have HNO:=zh (NV (cs:=Ls.map gH) (v:=v) HRV.o.1);generalize hrr:lF (Ls.map gH) v=r at*
 have HW1:=zh hrr;clear hrr;have HO:=zh d;clear d hY P HR3;by_cases hr1:r=1
 case neg=>
  have hd:((r:Int) != 1)=true:=bne_iff_ne.2 zo;have HR:=zh (HNO.o hr1);have HB:=zh HO.o.az;clear HNO hr1 hX HO;exact qdR
 subst hr1;clear y0 yl;go_wp2;refine av [0,5,6,9] (fun q Q K=>∃(b:Nat) (t:List (List Int)) (tm:List Value) (tv:zV) (S:Mem),b<=256/\q=256-b/\Q=[.slice a Ls.length c,tv,.int .i64 (k:Int),.int .i64 (b:Int)]/\sG (Ls.map gH) t k/\k<t.length/\t[k]?=some v/\tm[k]?=some (.slice xa v.length xc) /\
  (∀I,I<b->eX (Ls.map gH) v I∈t)/\nC S tm t/\mk.le S/\Own w m K S [.row tv 135 1 t.length tm]) ?_ ?_
 .exact⟨_,0,A,ts,_,mk,zo,rfl,rfl,HS.o,hlt,by rw[yH hlt,HV.o],HXE.o,fun I h=>absurd h (xY _),HT.o,Mem.le_refl _,HO.o⟩
 clear HO HS HT HXE HV;rintro Y z2 q Q wr2 hY-⟨b,t,tm,tv,S,hb,rfl,rfl,j,j',r',htv,N',O,N,d⟩;simp[aX,lk];obtain⟨va2,I',rfl⟩:=aT d.row;have hsm:=HFEW.o t j.nodup j.reach;by_cases hb2:b<256
 case neg=>
  obtain rfl:b=256:=zo;have hd:Ah (Ls.map gH) t (t[k]'j'):=by
   have e:t[k]'j'=v:=by rw[yH j']at r';exact Option.some.inj r'
   rw[e];exact⟨HW1.o,N'⟩
  have HSX:=zh (j.close j' hd);have HTX:=zh (zi O (zi (Mem.le_trans HLE.o N) d));clear j r' htv N' O N d hY hd;go_wp2;exact hX.o _ _ _ zo rfl ⟨k+1,t,tm,_,S,zo,rfl,rfl,HSX.o,HTX.o.1,HTX.o.2.1,HTX.o.2.2⟩
 obtain⟨s2,hs2⟩:∃s2,t.length=s2+1:=⟨t.length-1,zo⟩;have s':=d.row;rw[hs2]at s';obtain⟨g2,cap2,e,-⟩:=rU s';rw[<-hs2]at e;injection e with e1 e2 e3;subst e1 e3;clear s' hs2;have n':=d.dL 3 1;rw[show([]:List Value)=(stepT Ls v b 0).map (Value.int .i64)by rw[Qd];rfl]at n';have HO1:=zh n';have HS:=zh (zi j (zi N' (zi O N)));have E:=zh (zi r' htv);have HRX:=zh (HRV.o.1.step hb2);clear d n' j N' O N r' htv;go_wp2;refine av [0,5,6,9,10,11] (fun q Q K=>∃(i:Nat) (xv:zV),i<=Ls.length/\q=Ls.length-i/\Q=[.slice a Ls.length c,.slice (some ⟨g2,0,none⟩) t.length I',.int .i64 (k:Int),.int .i64 (b:Int),xv,.int .i64 (i:Int)] /\
  Own w m K S [.row xv 3 1 i ((stepT Ls v b i).map (Value.int .i64)),.row (.slice (some ⟨g2,0,none⟩) t.length I') 135 1 t.length tm]) ?_ ?_
 .exact⟨_,0,.slice none 0 0,zG _,rfl,rfl,HO1.o⟩
 clear HO1;rintro V z3 q Q wr3 hV-⟨i,xv,hi,rfl,rfl,d⟩;simp[aX,lk];obtain⟨g',f',rfl⟩:=aT d.row;by_cases hlt3:i<Ls.length
 .have D:i<v.length:=zo;have W':=Mem.le_trans HLE.o HS.o.2.2.2;have J':eU S (.slice xa v.length xc) v:=by
   obtain⟨k1,e1⟩:=yB.1 E.o.2;obtain⟨k2,e2⟩:=yB.1 E.o.1;have:=HS.o.2.2.1.2 k k1 k2
   rwa [e1,e2]at this
  obtain⟨za,zc,ze,-,-,z3⟩:=J';injection ze with ze1 ze2 ze3;subst ze1;obtain⟨b0,off,rfl,h4⟩:=HK.o qeq;obtain⟨ui,hc,i'⟩:=h4 i hlt3;obtain⟨b3,p',rfl,h5⟩:=z3 (by intro h;simp[h]at D);have hrg:=HRG.o i hlt3 D;have HST:=zh (fun w' (h:S.ay w')=>IC ui Ls[i] v[i] b S w' h (aW W' i') zo zo);have HSUC:=zh (Qe (Ls:=Ls) (v:=v) b hlt3 D);obtain⟨ta,tc,rfl,-⟩:=i';have hwu:IntKind.u8.wrap (b:Int)=(b:Int):=IntWalk.u8_in _ zo;have Q':=zh (show ∀(w':zW) (L:List bF),Own w m w' S L->bF.row (.slice (some ⟨g2,0,none⟩) t.length I') 135 1 t.length tm∈L->S.ay w'/\w'.cell? ⟨g2,k,none⟩=some (.slice (some ⟨b3,p',none⟩) Ls.length xc)/\g2<w'.heap.size from fun w' L h hi=>⟨h.ay,by have:=bg (h.kP hi) E.o.2;rwa [G]at this,(World.ownsRow.lt (h.kP hi) _ rfl).2⟩);have hX1:=Mem_cell_le W' hc;have hX2:=(h5 i D).1;have HO:=zh d;clear d h4 h5 z3 ze2 ze3;generalize bC Ls[i] v[i] b=st at*
  generalize Ls[i].length=tl at*
  generalize v[i]=vi at*
  go_wp2;refine jC (fun w'=>S.ay w'/\w'.cell? ⟨g2,k,none⟩=some (.slice (some ⟨b3,p',none⟩) Ls.length xc)/\g2<w'.heap.size) 18 zk ?_;have f:=HO.o.dr;have j:=Q'.o _ _ f zS;refine aI 0 rfl zk qfc j qfa ?_;refine aI 1 rfl zk qfc j qfa ?_;refine aI 2 rfl zk qfc j qfa ?_;refine aI 3 rfl zk qfc j qfa ?_;refine aI 4 rfl zk qfc j qfa ?_;refine aI 5 rfl zk qfc j qfa ?_;refine aI 6 rfl zk qfc j qfa ?_;refine aI 7 rfl zk qfc j qfa ?_;refine aI 8 rfl zk qfc j qfa ?_;refine aI 9 rfl zk qfc j qfa ?_;refine aI 10 rfl zk qfc j qfa ?_;refine aI 11 rfl zk qfc j qfa ?_;refine aI 12 rfl zk qfc j qfa ?_;refine aI 13 rfl zk qfc j qfa ?_;refine aI 14 rfl zk qfc j qfa ?_;refine aV 15 zk (aJ rfl rfl (dX zg (HST.o _ f.ay) ?_));rintro e w4 ⟨rfl,H⟩;have hO3:=f.aP H;refine⟨_,rfl,jb (Q'.o _ _ hO3 zS) fun hS1=>?_⟩;go_simp;have s:=hO3.al #[.int .i64 st] 3;refine aV 16 zk (aJ rfl rfl (aN qd0 (jb (Q'.o _ _ s zS) fun _=>?_)));go_simp;refine aV 17 zk (aJ rfl rfl (iG sZ (.tmp 89) (.tmp 105) rfl (.slice g' i f') i _ rfl s.au.row ⟨w4.heap.size,0,none⟩ 1 1 [.int .i64 st] rfl rfl (s.obj.cZ rfl) qdZ qdY zo (fun na nc w5 x' Z u'=>?_)));have hO5:=(s.au.app x' Z u' (zI _)).bL;refine jb (Q'.o _ _ hO5 zS) fun hS3=>?_;go_simp;refine aV 18 zk (aJ rfl rfl (aN qd0 (lD rfl ?_)));refine gG zk ?_ _;have E':=zh hO5;clear hO5 s hO3 f j hS1 hS3 H x' Z u';go_wp2;exact hV.o _ _ _ zo rfl ⟨i+1,_,zo,rfl,rfl,by rw[HSUC.o];simpa using E'.o⟩
 obtain rfl:i=Ls.length:=zo;have hvx:=HVR.o _ HRX.o;have hxl:(eX (Ls.map gH) v b).length=Ls.length:=by rw[hvx.len];simp
 have U':∀x∈eX (Ls.map gH) v b,-1<=x/\x<1000+1:=hvx.bzK fun c hc=>by
  obtain⟨T,O,rfl⟩:=yD.1 hc;exact HSZ.o T O
 rw[TY G]at d;have hxi:=dS (m:=S) (l:=eX (Ls.map gH) v b) (by rw[hxl];exact d.row) (fun x hx=>by have:=U' x hx;omega);have U:=Mem_le_addv (w:=wr3) d.free;have f:=d.bJ;generalize S.iw wr3 _=m1 at*
 have z':∀y∈t,y.length=(eX (Ls.map gH) v b).length:=fun y hy=>by rw[hxl,(HVR.o y (HS.o.1.reach y hy)).len];simp
 have T':=f.row;have a':=zh (Qt _ (.slice g' Ls.length f') tm t (eX (Ls.map gH) v b) m1 wr3 f.ay T' (HS.o.2.2.1.le U) hxi z' hsm);have e':=zh (fun(m':Mem) (w':zW) (h:m'.ay w') (hu:Aq m' (.slice a Ls.length c) Ls) (hx:eU m' (.slice xa Ls.length xc) v)=>TE _ _ Ls v b m' w' h hu hx G.symm (fun i hi=>by
  have:=HRG.o i zo hi;simp only[yU,hi,yH,xA,show i<Ls.length by omega];exact this) hb2)
 have J:=zh (zi (Cc (Ls:=Ls) (ps:=v) hb2 Ls.length) (zi (Cb Ls v b Ls.length) (fun c'=>Qb (Ls:=Ls) (ps:=v) (b:=b) (c:=c') G)));have J':eU m1 (.slice xa Ls.length xc) v:=by
  have e1:tm[k]?=some (.slice xa v.length xc):=E.o.2;have e2:t[k]?=some v:=E.o.1;obtain⟨k1,e1⟩:=yB.1 e1;obtain⟨k2,e2⟩:=yB.1 e2;have:=(HS.o.2.2.1.le U).2 k k1 k2;rw[e1,e2,G]at this;exact this
 have HXV:=zh J';clear J';have HX1:=zh (zi hxi U);have F':=zh f;have A':=f.ay;generalize nz Ls v b Ls.length=ct at*
 clear d f T' hxi U hvx U' hV z';by_cases F:eX (Ls.map gH) v b∈t
 .have hh:=a'.o;rw[zN F]at hh;have C:=zh hh;clear a' hh;have d':=zh F;clear F
  go_wp2_with (go_at_call 191;refine C.o.mono ?_;rintro e w4 ⟨rfl,H⟩;have s:=F'.o.aP H;have y0:=bg s.row E.o.2;have yl:=(World.ownsRow.lt s.row _ rfl).2)
  refine(e'.o m1 _ s.ay qfA HXV.o).mono ?_;rintro e w5 ⟨rfl,C'⟩;have E':=zh (s.aP C');have hgt:=J.o.1;have hct:=J.o.2.1;have HDN:=zh (show ∀I,I<ct->eX (Ls.map gH) v I∈t from fun I h=>by
   by_cases h2:I<b
   .exact HS.o.2.1 I h2
   .rw[J.o.2.2 I zo h];exact d'.o)
  clear s C' H y0 yl C d' J e';go_wp2;exact hY.o _ _ _ zo rfl ⟨ct,t,tm,_,m1,hct,rfl,rfl,HS.o.1,j',E.o.1,E.o.2,HDN.o,HS.o.2.2.1.le HX1.o.2,Mem.le_trans HS.o.2.2.2 HX1.o.2,E'.o⟩
 .have hh:=a'.o;rw[zM F]at hh;have C:=zh hh;have d':=zh F;clear a' hh F;have htk:(tm++[.slice g' Ls.length f'])[k]?=some (.slice xa v.length xc):=by
   have h:=E.o.2;have hk:=(yB.1 h).1;rw[yK hk];exact h
  have HTK:=zh htk;clear htk
  go_wp2_with (first
   |(go_at_call 191;refine C.o.mono ?_;rintro e w4 ⟨rfl,H⟩;have O':=(F'.o.aP H).al #[.slice g' Ls.length f'] 135;have B:=O'.obj.cZ rfl)
   | (at_builtin;refine aG ES rfl (.tmp 111) (.tmp 113) rfl (.slice (some ⟨g2,0,none⟩) t.length I') t.length tm rfl O'.au.row ⟨w4.heap.size,0,none⟩ 1 1 [.slice g' Ls.length f'] rfl rfl B qdZ qdY zo ?_;intro va' vc' w7 M W t';obtain⟨g3,cap3,e3,-⟩:=rU M;injection e3 with e4 e5 e6;subst e4 e6;have D':=(O'.au.app M W t' zS).bL;have y0:=bg D'.row HTK.o;have yl:=(World.ownsRow.lt D'.row _ rfl).2))
  refine(e'.o m1 _ D'.ay qfA HXV.o).mono ?_;rintro e w5 ⟨rfl,C'⟩;have E':=zh (D'.aP C');have hgt:=J.o.1;have hct:=J.o.2.1;have HDN:=zh (show ∀I,I<ct->eX (Ls.map gH) v I∈t++[eX (Ls.map gH) v b] from fun I h=>by
   by_cases h2:I<b
   .exact xI _ (HS.o.2.1 I h2)
   .rw[J.o.2.2 I zo h];simp)
  have HSV2:=zh (show(t++[eX (Ls.map gH) v b])[k]?=some v by rw[yK j'];exact E.o.1);clear D' O' C' H y0 yl C J e' M W t' B;go_wp2;exact hY.o _ _ _ zo rfl ⟨ct,t++[eX (Ls.map gH) v b],tm++[.slice g' Ls.length f'],_,m1,hct,rfl,rfl,HS.o.1.push zo HRX.o d'.o,by simp;omega,HSV2.o,HTK.o,HDN.o,(HS.o.2.2.1.le HX1.o.2).push HX1.o.1,Mem.le_trans HS.o.2.2.2 HX1.o.2,by simpa using E'.o⟩
theorem IZ{w:zW}{t:TypeId}{v:zV}{l:List aC}{b:List Value}{m:Mem}(a:w.ownsRow 0 t 1 v l.length b)(h:uE (m.iw w v) b l):Aq (m.iw w v) v l:=
 lK a fun g d i hi=>by
  have c:i<b.length:=by rw[h.1];exact hi
  exact⟨b[i],iK a d m (by simp[c]),h.2 i c hi⟩
theorem SK:gz prog 153 27 1 24:=⟨underlying153,zo,by
 obtain⟨i,d,c,b,a⟩:=info_parts (show(prog.info? 27).map (fun i=>(i.zero,i.size,i.bytes))=some (some (.agg #[.slice none 0 0]),1,24)by kernel_rfl);exact⟨i,_,d,c,b,a,rfl⟩⟩
theorem FV(s:ByteArray)(m:Mem)(w:zW)(b:m.ay w)(a:s.size<=1000):
 zC 151 #[.string s] w fun e w'=>∃r,e=.returned (.agg #[r])/\zB w w'/\aQ (m.grow w w') r (jr s):=NC s m w b a
theorem FR(u u':zV)(c:St)(m:Mem)(n:Nat)(w:zW)(hm:m.ay w)(h1:iy (bG m n) m u c.1)(h2:gX (bG m n) m u' c.2)(l1:c.1.length<=6)(l2:c.2.length<=6)(l3:∀f∈c.1,f.1.1.size<=40)(l4:∀k∈c.2,jM k.1):
 zX 100 #[.agg #[u,u']] w (.bool (tf (eZ c))):=by
 obtain⟨a1,c1,rfl,p1,q1,k1⟩:=h1;obtain⟨a2,c2,rfl,p2,q2,k2⟩:=h2;unfold maxLen at q1 q2;have HK:=zh (zi k1 k2);have HE:=zh (oo c);have y:=zh (zi l3 l4);have HL:=zh (zi l1 l2);have p':c.1.length<=6:=l1;have o':c.2.length<=6:=l2;have HO:=zh (((Own.start hm).al #[.slice a1 c.1.length c1,.slice a2 c.2.length c2] 45).dL 27 1);clear k1 k2 l3 l4 l1 l2;refine aj fun R hR=>?_
 go_enter func100,ntmps100
 go_wp2;refine av [1,3,4] (fun q Z H=>∃(i:Nat) (M:zV) (G:List Value),i<=c.2.length/\q=c.2.length-i/\Z=[.pointer (some ⟨w.heap.size,0,none⟩),M,.int .i64 (i:Int)]/\(∀j (I:j<c.2.length),j<i->dG c.2[j].1/\c.2[j].1≠[]) /\
  uE m G ((c.2.take i).map (·.1))/\Own w m H m [.row M 27 1 i G,.obj w.heap.size 45 #[.slice a1 c.1.length c1,.slice a2 c.2.length c2]]) ?_ ?_
 .exact⟨_,0,_,[],zG _,rfl,rfl,fun j I h=>absurd h (xY _),⟨rfl,fun i h=>absurd h (xY _)⟩,HO.o⟩
 clear HO;rintro X z q Z H P-⟨i,M,G,hi,rfl,rfl,hV,D,a⟩;simp[aX,lk];obtain⟨va,vc,rfl⟩:=aT a.row;have g0:=a.au.obj.c 0;have g1:=a.au.obj.c 1;have gl:=a.au.obj.lt;have HV:=zh hV;clear hV;by_cases hlt:i<c.2.length
 .obtain⟨b,off,rfl,h4⟩:=HK.o.2 qdX;obtain⟨kc,hc,N⟩:=(h4 i hlt).s;have B:=zF hlt;have l':c.2[i].1.length<=1000000:=by have:=(y.o.2 _ B).2;omega
  have x1:=Mem_cell_w a.ay hc;have xl:=Mem_cell_lt a.ay hc;have U:=a.al #[kc] 27;have K:=zh (tO kc c.2[i].1 m _ U.ay N l');have J:=zh (show ∀j (I:j<c.2.length),j<i+1->(dG c.2[i].1/\c.2[i].1≠[])->dG c.2[j].1/\c.2[j].1≠[] from fun j I h1 h2=>by
   by_cases e:j=i
   .subst e;exact h2
   .exact HV.o j I zo)
  have F:=zh (show ¬(dG c.2[i].1/\c.2[i].1≠[])->¬eZ c from fun h k=>h ((HE.o.1 k).1 _ B));have Q:=D.push N;rw[show(c.2.take i).map (·.1)++[c.2[i].1]=(c.2.take (i+1)).map (·.1)by rw[zH hlt,yI];rfl]at Q;have V:=zh Q;obtain⟨ta,tc,rfl,t1,t2,-⟩:=N;have HO:=zh U;unfold maxLen at t2;generalize c.2[i].1=T at*
  clear a U h4 hc D Q B;by_cases t:dG T
  case neg=>
   have O:=K.o;rw[aA t]at O;have x:=zh O;have HR:=zh (F.o fun h=>t h.1);clear O K F J P t
   go_wp2_with (go_at_call 64;refine x.o.mono ?_;rintro e w4 ⟨rfl,hb4⟩)
   exact qdA
  have O:=K.o;rw[aO t]at O;have x:=zh O;clear O K;by_cases h0:T.length=0
  .have hd:((T.length:Int)==0)=true:=beq_iff_eq.2 zo;have HR:=zh (F.o fun h=>h.2 (xJ.1 h0));clear F J P t h0
   go_wp2_with (go_at_call 64;refine x.o.mono ?_;rintro e w4 ⟨rfl,hb4⟩;have y0:=(HO.o.aP hb4).obj.c 0;have yl:=(HO.o.aP hb4).obj.lt)
   exact qdA
  have hd:((T.length:Int)==0)=false:=zO.2 zo;have C':=zh (fun j I h=>J.o j I h ⟨t,fun e=>h0 qew⟩);clear F J t h0
  go_wp2_with (first
   |(go_at_call 64;refine x.o.mono ?_;rintro e w4 ⟨rfl,hb4⟩;have E:=HO.o.aP hb4;have y0:=E.obj.c 0;have yl:=E.obj.lt;have v:=E.al #[.slice ta T.length tc] 27;have p:=v.obj.cZ rfl)
   | (at_builtin;refine aG SK rfl (.tmp 29) (.tmp 31) rfl (.slice va i vc) i G rfl v.bA.row ⟨w4.heap.size,0,none⟩ 1 1 [.slice ta T.length tc] rfl rfl p qdZ qdY zo ?_;intro h' g' w7 l d g))
  have Y:=zh ((v.bA.app l d g zS).bL.bL);exact P.o _ _ _ zo rfl ⟨i+1,_,_,zo,rfl,rfl,C'.o,V.o,Y.o⟩
 obtain rfl:i=c.2.length:=zo;have A:∀k∈c.2,dG k.1/\k.1≠[]:=fun k hk=>by
  obtain⟨j,I,rfl⟩:=yX hk;exact HV.o j I I
 have W:=zh A;rw[yG]at D;have V:=zh D;have HO:=zh a;clear a D P HV A;go_wp2;refine av [1,3,6] (fun q Z H=>∃(i:Nat) (M:zV) (G:List Value) (mk:Mem),i<=c.1.length/\q=c.1.length-i/\Z=[.pointer (some ⟨w.heap.size,0,none⟩),M,.int .i64 (i:Int)] /\
  uE mk G (c.2.map (·.1)++(c.1.take i).map fun f=>jr f.1.1)/\m.le mk/\Own w m H mk [.row M 27 1 (c.2.length+i) G,.obj w.heap.size 45 #[.slice a1 c.1.length c1,.slice a2 c.2.length c2]]) ?_ ?_
 .exact⟨_,0,_,G,m,zG _,rfl,rfl,by simpa using V.o,Mem.le_refl _,HO.o⟩
 clear HO V g0 g1 gl;rintro X z q Z H P-⟨i,M,G,mk,hi,rfl,rfl,D,C,a⟩;simp[aX,lk];obtain⟨va,vc,rfl⟩:=aT a.row;have g0:=a.au.obj.c 0;have g1:=a.au.obj.c 1;have gl:=a.au.obj.lt;by_cases hlt:i<c.1.length
 .obtain⟨b,off,rfl,h4⟩:=HK.o.1 qdX;have hs:=(h4 i hlt).s;have h40:=y.o.1 _ (zF hlt);have x1:=Mem_cell_w a.ay (Mem_cell_le C hs);have xl:=Mem_cell_lt a.ay (Mem_cell_le C hs);have HW:=zh (FV c.1[i].1.1 mk H a.ay zo);have z':=zh (show c.2.map (·.1)++(c.1.take (i+1)).map (fun f=>jr f.1.1)=(c.2.map (·.1)++(c.1.take i).map fun f=>jr f.1.1)++[jr c.1[i].1.1]by rw[zH hlt,yI,xD];rfl);have HO:=zh a;have V:=zh (zi D C);have hin:=a.ay;clear a h4 hs D C;generalize c.1[i].1.1=i' at*
  generalize jr i'=WT at*
  go_wp2_with (first
   |(go_at_call 151;refine HW.o.mono ?_;rintro e w4 ⟨r,rfl,hb4,hr⟩;have n':=hr;obtain⟨ra,rc,rfl,-⟩:=n';have E:=HO.o.call hb4;have v:=E.al #[.slice ra WT.length rc] 27;have p:=v.obj.cZ rfl)
   | (at_builtin;refine aG SK rfl (.tmp 40) (.tmp 48) rfl (.slice va (c.2.length+i) vc) (c.2.length+i) G rfl v.au.row ⟨w4.heap.size,0,none⟩ 1 1 [.slice ra WT.length rc] rfl rfl p qdZ qdY zo ?_;intro h' g' w7 l d g))
  have Y:=zh ((v.au.app l d g zS).bL);have A':=zh ((V.o.1.le qfR).push hr);exact P.o _ _ _ zo rfl ⟨i+1,_,_,_,zo,rfl,rfl,by rw[z'.o];exact A'.o,Mem.le_trans V.o.2 qfG,Y.o⟩
 obtain rfl:i=c.1.length:=zo;have L:=Mem_le_addv (w:=H) a.free;have S:=a.bJ;rw[yG]at D;have b':Aq (mk.iw H (.slice va (c.2.length+c.1.length) vc)) (.slice va (c.2.length+c.1.length) vc) (ru c):=IZ (by rw[show(ru c).length=c.2.length+c.1.length by simp[ru]];exact a.row) (D.le L);have HC:=zh (Ny _ (ru c) _ H S.ay b' (TZ W.o) (by simp[ru];omega) (fun T h=>by
  rcases yP.1 h with h|h
  .obtain⟨k,hk,rfl⟩:=yD.1 h;have:=(y.o.2 k hk).2;omega
  .obtain⟨f,hf,rfl⟩:=yD.1 h;have:=y.o.1 f hf;rw[MP];omega) (fun sn h1 h2=>XM W.o p' o' y.o.1 y.o.2 h1 h2))
 have B':=zh S;have HX:=zh (dh (Nc W.o));clear a S D b' C L P
 go_wp2_with (go_at_call 152;refine HC.o.mono ?_;rintro e w4 ⟨rfl,hb4⟩)
 exact hR.o _ _ ⟨by rw[HX.o]<;>rfl,(B'.o.aP hb4).az⟩
theorem YT(f:Nat)(v:Vl):oN (f+1) v↔((v.any=true->rF v)/\v.s.gB)/\(∀c∈v.aU,c.2.length<=1)/\(∀c∈v.aF,fM c.1/\eZ c)/\∀x∈v.kids,oN f x.1/\oN f x.2:=
 ⟨fun h=>⟨⟨h.1.any,h.1.sc⟩,h.1.rest,h.1.st,h.2⟩,fun h=>⟨⟨h.1.1,h.2.1,h.2.2.1,h.1.2⟩,h.2.2.2⟩⟩
theorem Aw:∀(f lv n:Nat) (v:Vl) (x:Sl) (m:Mem) (w:zW),f+lv=17->m.ay w->gD m->bG m n x v->eT n v->dw n v<=1048576 ->
 zX 67 #[v.val x,.int .i64 (lv:Int)] w (.bool (tf (oN f v)))
 |f,lv,0,_,_,_,_,_,_,_,h,_,_=>h.elim
 |0,lv,n+1,v,x,m,w,hlv,hm,htab,hv,hf,hc=>by
  have HB:=zh ((Own.start hm).al (bu v x).toArray 33).az;unfold Vl.val;generalize bu v x=N at*
  clear hv hf hc htab;obtain rfl:lv=17:=zo;refine aj fun R hR=>?_
  go_enter func67,ntmps67
  go_wp2
  exact hR.o _ _ ⟨by rw[aA (p:=oN 0 v) id]<;>rfl,HB.o⟩
 |f+1,lv,n+1,v,x,m,w,hlv,hm,htab,hv,hf,hc=>by
  have y:=(Own.start hm).al (bu v x).toArray 33;have U:=wD hv.ht;have hs:=hv.sc;have l':∀d∈v.kids,dw n d.1<=1048576/\dw n d.2<=1048576:=fun d hd=>by have:=vJ (n:=n) hd;omega
  have HV:=zh (fun w' (h:m.ay w')=>vT v x m n w' h hv zo);have F:=zh (fun w' (h:m.ay w')=>Ll v x m (n+1) w' h hv);have g':=zh (fun w' (h:m.ay w')=>tK x.i x.f x.t v.s m w' h htab hs ⟨by have:=hf.1.sc.1;omega,by have:=hf.1.sc.2.1;omega,by have:=hf.1.sc.2.2.2;omega⟩);have S':=zh htab;have v':=zh (fun(w':zW) (ho:bH w' w.heap.size 33 (bu v x).toArray)=>ho.sub (tZ v x));have hN:(bu v x).length=9:=rfl;have U':=zh (zi l' hf.2);have b':=zh hf.1;have h4:=hf.1.l;have h5:=hf.1.s;have H0:(bu v x).toArray[0]?=some (.bool v.any):=rfl;have H7:(bu v x).toArray[7]?=some x.l:=rfl;have H8:(bu v x).toArray[8]?=some x.s:=rfl;have hv2:=hv.2;obtain⟨a1,b1,a2,b2,a3,b3,a4,b4,a5,b5,rfl,q1,q2,q3,q4,q5⟩:=hv.eG;obtain⟨⟨z1,y1,e1,-,-,k1⟩,⟨z2,y2,e2,-,-,k2⟩⟩:=hv2;simp only[Value.slice.injEq]at e1 e2;obtain⟨rfl,-,rfl⟩:=e1;obtain⟨rfl,-,rfl⟩:=e2;simp only at H7 H8;have HH:=zh (zi H7 H8);unfold maxLen at q1 q2 q3 q4 q5;have HK:=zh (zi k1 k2);have g0:=y.obj.cell H0;have HO:=zh y;have HE:=zh (dh (YT f v));obtain⟨P1,r'⟩:∃P1:Prop,P1=((v.any=true->rF v)/\v.s.gB):=⟨_,rfl⟩;rw[<-r']at HE;have h':=zh r';clear r' y hv U hs l' hc hf htab k1 k2 H0 H7 H8;unfold Vl.val at*
  unfold RS.val at*
  obtain⟨KP,t'⟩:∃KP:Prop,KP=∀x∈v.kids,oN f x.1/\oN f x.2:=⟨_,rfl⟩;rw[<-t']at HE;have HKP:=zh t';clear t';generalize bu v _=N at*
  generalize tf (oN (f+1) v)=FF at*
  refine aj fun R hR=>?_
  go_enter func67,ntmps67
  go_upto_region 1 with(fail)
  generalize hW:w.alloc (.cells N.toArray 33)=w0 at*
  clear hW;refine aR [1,2,25] (fun W w'=>W=[.int .i64 (lv:Int),.pointer (some ⟨w.heap.size,0,none⟩),.bool (!tf P1)]/\Own w m w' m [.obj w.heap.size 33 N.toArray]) ?_ ?_
  .intro X V;have hd:decide ((16:Int)<(lv:Int))=false:=zM zo;have M':=HO.o.ay;have hsc:=v'.o _ HO.o.obj;have a':=HO.o.obj.all;cases hany:v.any
   .rw[hany]at g0;have HP:=zh (show tf P1=tf v.s.gB by rw[h'.o];exact dh ⟨fun h=>h.2,fun h=>⟨fun k=>(by rw[hany]at k;cases k),h⟩⟩);clear hany F a';generalize tf v.s.gB=sv at*
    go_wp2_with (first
     |refine ae K3 rfl (.tmp 21) rfl rfl _ rfl hsc ?_
     | (go_at_call 45;refine(g'.o _ M').mono ?_;rintro e w2 ⟨rfl,B⟩))
    exact V.o _ _ rfl ⟨by rw[HP.o];rfl,HO.o.aP B⟩
   .rw[hany]at g0;have HP:=zh (show tf P1=(tf (rF v)&&tf v.s.gB)by
     rw[h'.o];by_cases c1:rF v
     .rw[aO c1,Bool.true_and];exact dh ⟨fun h=>h.2,fun h=>⟨fun _=>c1,h⟩⟩
     .rw[aA c1,Bool.false_and];exact aA fun h=>c1 (h.1 hany))
    clear hany h';have S:=F.o _ M';clear F;by_cases hb:rF v
    .rw[aO hb]at S;have x':=zh (HP.o.trans (by rw[aO hb,Bool.true_and]));have F:=zh S;clear HP hb S;generalize tf v.s.gB=sv at*
     go_wp2_with (first
      |refine ae iH rfl (.tmp 2) rfl rfl N hN a' ?_
      |(go_at_call 98;refine F.o.mono ?_;rintro e w2 ⟨rfl,B⟩;have g:=HO.o.aP B;have L':=v'.o _ g.obj)
      |refine ae K3 rfl (.tmp 21) rfl rfl _ rfl L' ?_
      | (go_at_call 45;refine(g'.o _ g.ay).mono ?_;rintro e w3 ⟨rfl,Z⟩))
     exact V.o _ _ rfl ⟨by rw[x'.o]<;>rfl,g.aP Z⟩
    .rw[aA hb]at S;have x':=zh (HP.o.trans (by rw[aA hb,Bool.false_and]));have F:=zh S;clear HP hb S g'
     go_wp2_with (first
      |refine ae iH rfl (.tmp 2) rfl rfl N hN a' ?_
      | (go_at_call 98;refine F.o.mono ?_;rintro e w2 ⟨rfl,B⟩))
     exact V.o _ _ rfl ⟨by rw[x'.o]<;>rfl,HO.o.aP B⟩
  clear HO g0 F g' h';rintro z W w1-⟨rfl,y⟩;simp[aX,lk];have HO:=zh y;by_cases P:P1
  case neg=>
   have HF:=zh (HE.o.trans (azj P));rw[aA P];have HB:=zh y.az;clear y HO HE P;exact qcn
  rw[aO P];have E:=zh (HE.o.trans (vN P));clear HE y P;have g7:=HO.o.obj.cell HH.o.1;have g8:=HO.o.obj.cell HH.o.2;go_wp2;refine av [1,2,5] (fun q W wr=>∃(i:Nat),i<=v.aU.length/\q=v.aU.length-i/\W=[.int .i64 (lv:Int),.pointer (some ⟨w.heap.size,0,none⟩),.int .i64 (i:Int)]/\FF=tf ((∀c∈v.aU.drop i,c.2.length<=1)/\(∀c∈v.aF,fM c.1/\eZ c)/\KP) /\
   Own w m wr m [.obj w.heap.size 33 N.toArray]) ?_ ?_
  .exact⟨_,0,zG _,rfl,rfl,E.o,HO.o⟩
  clear HO E g7 g8;rintro X z q W wr V-⟨i,hi,rfl,rfl,D,y⟩;simp[aX,lk];have g7:=y.obj.cell HH.o.1;have gl:=y.obj.lt;by_cases hlt:i<v.aU.length
  .obtain⟨b,off,rfl,h4⟩:=HK.o.1 qdX;obtain⟨u,u',s1,s2,s3,s4⟩:=h4 i hlt;obtain⟨ua',uc',rfl,r1,r2,-⟩:=s4;have x2:=Mem_cell_w y.ay s2;have xl:=Mem_cell_lt y.ay s2;rw[dh (and_congr_left fun _=>qB (fun c:Lc=>c.2.length<=1) hlt)]at D;have HE:=zh D;have HO:=zh y;unfold maxLen at r2;generalize (v.aU[i]).2.length=n2 at*
   clear D y h4 s1 s2 s3;by_cases hn:n2<=1
   .have E:=zh (HE.o.trans (dh (and_congr_left fun _=>and_iff_right hn)));clear HE;go_wp2;exact V.o _ _ _ zo rfl ⟨i+1,zo,rfl,rfl,E.o,HO.o⟩
   .have HF:=zh (HE.o.trans (aA fun h=>hn h.1.1));clear HE V;exact qbB
  have HE:=zh (D.trans (vN (uD (fun c:Lc=>c.2.length<=1) (l:=v.aU) (i:=i) zo)));have HO:=zh y;clear D y V;have g8:=HO.o.obj.cell HH.o.2;go_wp2;refine av [1,2,6] (fun q W wr=>∃(i:Nat),i<=v.aF.length/\q=v.aF.length-i/\W=[.int .i64 (lv:Int),.pointer (some ⟨w.heap.size,0,none⟩),.int .i64 (i:Int)]/\FF=tf ((∀c∈v.aF.drop i,fM c.1/\eZ c)/\KP) /\
   Own w m wr m [.obj w.heap.size 33 N.toArray]) ?_ ?_
  .exact⟨_,0,zG _,rfl,rfl,HE.o,HO.o⟩
  clear HO HE g7 g8 gl;rintro X z q W wr V-⟨i,hi,rfl,rfl,D,y⟩;simp[aX,lk];have g8:=y.obj.cell HH.o.2;have gl:=y.obj.lt;by_cases hlt:i<v.aF.length
  .obtain⟨b,off,rfl,h4⟩:=HK.o.2 qdX;obtain⟨u,u',s1,s2,s3,s4⟩:=h4 i hlt;have A:=zF hlt;have i':=zh (I9 u (v.aF[i]).1 m n wr y.ay s3);have d':=zh (fun w' (h:m.ay w')=>FR u u' v.aF[i] m n w' h s3 s4 (b'.o.f _ A) (b'.o.k _ A) (b'.o.lab _ A) (b'.o.set _ A));obtain⟨ua,uc,rfl,-⟩:=s3;obtain⟨ua',uc',rfl,-⟩:=s4;have x1:=Mem_cell_w y.ay s1;have xl:=Mem_cell_lt y.ay s1;rw[dh (and_congr_left fun _=>qB (fun c:St=>fM c.1/\eZ c) hlt)]at D;have HE:=zh D;have HO:=zh y;have G:=zh (fun(w':zW) (h:m.ay w')=>zi (Mem_cell_w h s1) (zi (Mem_cell_w h s2) (Mem_cell_lt h s1)));clear D y h4 s1 s2 A;generalize (v.aF[i]).1.length=n1 at*
   generalize (v.aF[i]).2.length=n2 at*
   generalize fM (v.aF[i]).1=FO at*
   generalize eZ v.aF[i]=CO at*
   by_cases I:FO
   case neg=>
    have HF:=zh (HE.o.trans (aA fun h=>I h.1.1.1));have H:=i'.o;rw[aA I]at H;have O:=zh H;clear d' H i' V I HE G
    go_wp2_with (go_at_call 99;refine O.o.mono ?_;rintro e w2 ⟨rfl,B⟩)
    exact hR.o _ _ ⟨by rw[HF.o]<;>rfl,(HO.o.aP B).az⟩
   have H:=i'.o;rw[aO I]at H;have O:=zh H;clear H i' x1 xl;by_cases Q:CO
   .have c':=zh (show ∀w',m.ay w'->_ from fun w' h=>by have:=d'.o w' h;rw[aO Q]at this;exact this);have E:=zh (HE.o.trans (dh (and_congr_left fun _=>and_iff_right (show FO/\CO from⟨I,Q⟩))));have x1:=(G.o _ HO.o.ay).1;have xl:=(G.o _ HO.o.ay).2.2;clear HE d' I Q
    go_wp2_with (first
     |(go_at_call 99;refine O.o.mono ?_;rintro e w2 ⟨rfl,B⟩;have g:=HO.o.aP B;have x1:=(G.o _ g.ay).1;have x2:=(G.o _ g.ay).2.1;have xl:=(G.o _ g.ay).2.2;have g8:=g.obj.cell HH.o.2;have gl:=g.obj.lt)
     | (go_at_call 100;refine(c'.o _ g.ay).mono ?_;rintro e w3 ⟨rfl,Z⟩))
    exact V.o _ _ _ zo rfl ⟨i+1,zo,rfl,rfl,E.o,g.aP Z⟩
   .have c':=zh (show ∀w',m.ay w'->_ from fun w' h=>by have:=d'.o w' h;rw[aA Q]at this;exact this);have HF:=zh (HE.o.trans (aA fun h=>Q h.1.1.2));have x1:=(G.o _ HO.o.ay).1;have xl:=(G.o _ HO.o.ay).2.2;clear HE d' I Q V
    go_wp2_with (first
     |(go_at_call 99;refine O.o.mono ?_;rintro e w2 ⟨rfl,B⟩;have g:=HO.o.aP B;have x1:=(G.o _ g.ay).1;have x2:=(G.o _ g.ay).2.1;have xl:=(G.o _ g.ay).2.2;have g8:=g.obj.cell HH.o.2;have gl:=g.obj.lt)
     | (go_at_call 100;refine(c'.o _ g.ay).mono ?_;rintro e w3 ⟨rfl,Z⟩))
    exact hR.o _ _ ⟨by rw[HF.o]<;>rfl,(g.aP Z).az⟩
  have HE:=zh (D.trans (vN (uD (fun c:St=>fM c.1/\eZ c) (l:=v.aF) (i:=i) zo)));have R':=zh (HV.o wr y.ay);have HN:=zh y.obj.all;have HO:=zh y;have hmk:=Mem.le_refl m;generalize v.kids=L at*
  clear D y V HV b' HK v' HH
  go_wp2_with (refine ae iH rfl (.tmp 2) rfl rfl N hN HN.o ?_)
  refine R'.o.mono ?_;rintro e w2 ⟨r,rfl,B,hr⟩;have g:=HO.o.call B;have T':=zh (S'.o.le (Mem_le_grow (w:=w2) HO.o.ay));obtain⟨a,c,rfl,p1,qq1,U⟩:=hr;have HK2:=zh U;have HO2:=zh g;unfold maxLen at qq1;clear HO R' HN B U g S';generalize m.grow wr w2=M at*
  go_wp2;refine av [1,7,8] (fun q W w3=>∃(i:Nat),i<=L.length/\q=L.length-i/\W=[.int .i64 (lv:Int),.slice a L.length c,.int .i64 (i:Int)]/\FF=tf (∀x∈L.drop i,oN f x.1/\oN f x.2) /\
   Own w m w3 M [.obj w.heap.size 33 N.toArray]) ?_ ?_
  .exact qdV
  clear HO2 HE;rintro Y z q W w3 hY-⟨j,hj,rfl,rfl,D,y⟩;simp[aX,lk];by_cases hlj:j<L.length
  .obtain⟨b,off,rfl,h4⟩:=HK2.o qeh;obtain⟨x1,x2,e1,r1,e2,r2⟩:=h4 j hlj;have A:=zF hlj;have O':=Mem_cell_lt y.ay e1.a;have A':=zh (fun k u U=>Mem_cell_w y.ay (e1.get (j:=k) (u:=u) U));have y':=zh (fun k u U=>e2.get (j:=k) (u:=u) U);have p':=U'.o.1 _ A;have o':=U'.o.2 _ A;have T:=zh (Aw f (lv+1) n L[j].1 x1 M w3 zo y.ay T'.o r1 o'.1 p'.1);have C:=zh (fun w' (h:M.ay w')=>Aw f (lv+1) n L[j].2 x2 M w' zo h T'.o r2 o'.2 p'.2);have s':(bu L[j].1 x1).length=9:=rfl;have P':(bu L[j].2 x2).length=9:=rfl;rw[dh (qB (fun x:Vd=>oN f x.1/\oN f x.2) hlj)]at D;have HE:=zh D;have HO:=zh y;unfold Vl.val at T C;rw[show((lv+1:Nat):Int)=(lv:Int)+1 by omega]at T;have C:=zh (show ∀w',M.ay w'->_ from fun w' h=>by have:=C.o w' h;rw[show((lv+1:Nat):Int)=(lv:Int)+1 by omega]at this;exact this);generalize bu L[j].1 x1=N1 at*
   generalize bu L[j].2 x2=N2 at*
   clear y e1 e2 r1 r2 h4 D p' o' A;by_cases f1:oN f L[j].1
   case neg=>
    have HF:=zh (HE.o.trans (aA fun h=>f1 h.1.1));have H:=T.o;rw[aA f1]at H;have G:=zh H;clear HE f1 H T C y' hY
    go_wp2_with (first
     |refine ae iH rfl (.tmp 76) rfl rfl N1 s' A'.o ?_
     | (go_at_call 67;refine G.o.mono ?_;rintro e w4 ⟨rfl,J⟩))
    exact hR.o _ _ ⟨by rw[HF.o]<;>rfl,(HO.o.aP J).az⟩
   have H:=T.o;rw[aO f1]at H;have G:=zh H;clear H T;by_cases f2:oN f L[j].2
   .have E:=zh (HE.o.trans (vN ⟨f1,f2⟩));have C:=zh (show ∀w',M.ay w'->_ from fun w' h=>by have:=C.o w' h;rw[aO f2]at this;exact this);clear HE f1 f2
    go_wp2_with (first
     |refine ae iH rfl (.tmp 76) rfl rfl N1 s' A'.o ?_
     |refine ae iH rfl (.tmp 86) rfl rfl N2 P' z'.o ?_
     | (go_at_call 67;first|(refine(C.o _ K.ay).mono ?_;rintro e w5 ⟨rfl,q'⟩)|(refine G.o.mono ?_;rintro e w4 ⟨rfl,J⟩;have K:=HO.o.aP J;have N':=xP O' J.size;have z':=zh (fun k u U=>Mem_cell_w K.ay (y'.o k u U)))))
    exact hY.o _ _ _ zo rfl ⟨j+1,zo,rfl,rfl,E.o,K.aP q'⟩
   .have HF:=zh (HE.o.trans (aA fun h=>f2 h.1.2));have C:=zh (show ∀w',M.ay w'->_ from fun w' h=>by have:=C.o w' h;rw[aA f2]at this;exact this);clear HE f1 f2 hY
    go_wp2_with (first
     |refine ae iH rfl (.tmp 76) rfl rfl N1 s' A'.o ?_
     |refine ae iH rfl (.tmp 86) rfl rfl N2 P' z'.o ?_
     | (go_at_call 67;first|(refine(C.o _ K.ay).mono ?_;rintro e w5 ⟨rfl,q'⟩)|(refine G.o.mono ?_;rintro e w4 ⟨rfl,J⟩;have K:=HO.o.aP J;have N':=xP O' J.size;have z':=zh (fun k u U=>Mem_cell_w K.ay (y'.o k u U)))))
    exact hR.o _ _ ⟨by rw[HF.o]<;>rfl,(K.aP q').az⟩
  .have HF:=zh (D.trans (aO (uD (fun x:Vd=>oN f x.1/\oN f x.2) (l:=L) (i:=j) zo)));have HB:=zh y.az;clear D y hY;exact qcn
theorem kQ(v:Vl)(x:Sl)(m:Mem)(n:Nat)(w:zW)(k:m.ay w)(a:gD m)(g:bG m n x v)(h:eT n v)(d:dw n v<=1048576):
 zX 48 #[v.val x] w (.bool (tf (eQ v))):=by
 have c:=(Own.start k).al (bu v x).toArray 33;have f:=zh (Aw 16 1 n v x m _ rfl c.ay a g h d);have j:=zh c.obj.all;have l:(bu v x).length=9:=rfl;have i:=zh c;unfold Vl.val;unfold Vl.val at f;unfold eQ;generalize bu v x=N at*
 generalize tf (oN 16 v)=q at*
 clear c g h;refine aj fun R hR=>?_
 go_enter func48,ntmps48
 go_wp2_with (refine ae iH rfl (.tmp 1) rfl rfl N l j.o ?_)
 refine f.o.mono ?_;rintro e p ⟨rfl,b⟩;have HB:=zh (i.o.aP b).az;clear i b f j;exact qag
theorem BC(d:Vd)(x y:Sl)(m:Mem)(n:Nat)(w:zW)(H:m.ay w)(b:gD m)(t:bG m n x d.1)(s:bG m n y d.2)(f1:eT n d.1)(f2:eT n d.2)(F:dw n d.1<=1048576)(E:dw n d.2<=1048576):
 zX 19 #[dE d x y] w (.bool (tf (eQ d.1)&&tf (eQ d.2))):=by
 have l:=(Own.start H).al (fK d x y).toArray 35;have B:=zh (kQ d.1 x m n _ l.ay b t f1 F);have z:=zh (fun w' (h:m.ay w')=>kQ d.2 y m n w' h b s f2 E);have I:(bu d.1 x).length=9:=rfl;have p:(bu d.2 y).length=9:=rfl;have A:=zh qfi;have q:=zh l;unfold Vl.val dE at*
 generalize bu d.1 x=N at*
 generalize bu d.2 y=v at*
 generalize fK d x y=D at*
 clear l t s f1 f2;have r:=q.o.obj.sub (o:=0) (cs:=N) fun j u k=>by simpa using A.o.1 j u k
 generalize tf (eQ d.1)=G at*
 generalize tf (eQ d.2)=K at*
 refine aj fun R hR=>?_
 go_enter func19,ntmps19
 go_wp2_with (refine ae iH rfl (.tmp 3) rfl rfl N I r ?_)
 refine B.o.mono ?_;rintro e C ⟨rfl,g⟩;have a:=zh (q.o.aP g);have c:=zh (z.o C a.o.ay);have i:=a.o.obj.sub (o:=9) (cs:=v) fun j u k=>by simpa using A.o.2 j u k
 clear q B z g r;cases G
 .have HB:=zh a.o.az;clear a c i;exact qag
 .go_wp2_with (refine ae iH rfl (.tmp 7) rfl rfl v p i ?_)
  refine c.o.mono ?_;rintro e J ⟨rfl,f⟩;have HB:=zh (a.o.aP f).az;clear a c f i;exact qag
theorem lZ(a b:Int)(w:zW):zX 84 #[.int .i64 a,.int .i64 b] w (.int .i64 (kV a b)):=by
 refine aj fun R c=>?_;have d:kV a b=if a<b then -1 else if b<a then 1 else 0:=rfl;rw[d]at c;clear d
 go_enter func84,ntmps84
 go_wp2
 .exact c.o _ _ ⟨dU (by rw[zK zo]),zR _ _⟩
 .exact c.o _ _ ⟨dU (by rw[zJ zo,zK zo]),zR _ _⟩
 .exact c.o _ _ ⟨dU (by rw[zJ zo,zJ zo]),zR _ _⟩
theorem Qu(s t:ByteArray)(w:zW):zX 174 #[.string s,.string t] w (.int .i64 (Av s t)):=by
 refine aj fun R c=>?_;have g:Av s t=if Op.bytesLess s.toList t.toList then -1 else if s=t then 0 else 1:=by rw[xE,xE];rfl
 have f:s.toList=t.toList↔s=t:=by rw[xE,xE];exact⟨fun h=>ME h,fun h=>by rw[h]⟩
 have b:=zh (zi g f);clear g f
 go_enter func174,ntmps174
 go_wp2
 .have h:Op.bytesLess s.toList t.toList=true:=zA;exact c.o _ _ ⟨dU (by rw[b.o.1,zK h]),zR _ _⟩
 .have d:¬Op.bytesLess s.toList t.toList=true:=by simp[show Op.bytesLess s.toList t.toList=false by assumption]
  have a:(!s.toList==t.toList)=true:=zA;have a:¬s.toList=t.toList:=by simpa using a
  exact c.o _ _ ⟨dU (by rw[b.o.1,zJ d,zJ (fun h=>a (b.o.2.2 h))]),zR _ _⟩
 .have d:¬Op.bytesLess s.toList t.toList=true:=by simp[show Op.bytesLess s.toList t.toList=false by assumption]
  have a:(!s.toList==t.toList)=false:=zA;have a:s.toList=t.toList:=by simpa using a
  exact c.o _ _ ⟨dU (by rw[b.o.1,zJ d,zK (b.o.2.1 a)]),zR _ _⟩
def PO(n:Nat):Prop:=∀(v v':Vl) (s a:Sl) (m:Mem) (w:zW),m.ay w->gD m->bG m n s v->bG m n a v'->Cw n v->Cw n v'->zX 54 #[v.val s,v'.val a] w (.int .i64 (dn n v v'))
theorem rV{n:Nat}(H:PO n)(d d':Vd)(x y x' y':Sl)(m:Mem)(w:zW)(S:m.ay w)(a:gD m)(I:bG m n x d.1)(G:bG m n y d.2)(l:bG m n x' d'.1)(k:bG m n y' d'.2)(E:lT n d)(f:lT n d'):
 zX 56 #[dE d x y,dE d' x' y'] w (.int .i64 (Cz (dn n) d d')):=by
 have s:=((Own.start S).al (fK d x y).toArray 35).al (fK d' x' y').toArray 35;simp only[bR]at s;have M:=zh (H d.1 d'.1 x x' m _ s.ay a I l E.1 f.1);have K:=zh (fun w' (h:m.ay w')=>H d.2 d'.2 y y' m w' h a G k E.2 f.2);have F:(bu d.1 x).length=9:=rfl;have A:(bu d.2 y).length=9:=rfl;have i:(bu d'.1 x').length=9:=rfl;have g:(bu d'.2 y').length=9:=rfl;have L:=zh qfi;have q:=zh qfC;have v:=zh (show Cz (dn n) d d'=jK (dn n d.1 d'.1) (dn n d.2 d'.2) from rfl);have HO:=zh s;unfold Vl.val dE at*
 generalize bu d.1 x=N at*
 generalize bu d.2 y=J at*
 generalize fK d x y=D at*
 generalize bu d'.1 x'=B at*
 generalize bu d'.2 y'=p at*
 generalize fK d' x' y'=V at*
 generalize dn n d.1 d'.1=r at*
 generalize dn n d.2 d'.2=P at*
 clear s I G l k;have C:=HO.o.au.obj.sub (o:=0) (cs:=N) fun j u b=>by simpa using L.o.1 j u b
 have c:=HO.o.obj.sub (o:=0) (cs:=B) fun j u b=>by simpa using q.o.1 j u b
 refine aj fun R hR=>?_
 go_enter func56,ntmps56
 by_cases t:r=0
 case neg=>
  have U:(r != 0)=true:=bne_iff_ne.2 t;have HX:=zh (show Cz (dn n) d d'=r by rw[v.o,jK,zJ t]);clear K t v
  go_wp2_with (first|refine ae iH rfl (.tmp 6) rfl rfl N F C ?_|refine ae iH rfl (.tmp 8) rfl rfl B i c ?_|(go_at_call 54;refine M.o.mono ?_;rintro e O ⟨rfl,hb1⟩))
  exact qb9
 subst t;have HX:=zh (show Cz (dn n) d d'=P from v.o);clear v
 go_wp2_with (first
  |refine ae iH rfl (.tmp 6) rfl rfl N F C ?_
  |refine ae iH rfl (.tmp 8) rfl rfl B i c ?_
  |refine ae iH rfl (.tmp 14) rfl rfl J A Q ?_
  |refine ae iH rfl (.tmp 16) rfl rfl p g z ?_
  | (go_at_call 54;first
   |(refine(K.o _ hO1.ay).mono ?_;rintro e T ⟨rfl,hb2⟩)
   | (refine M.o.mono ?_;rintro e O ⟨rfl,hb1⟩;have hO1:=HO.o.aP hb1;have Q:=hO1.au.obj.sub (o:=9) (cs:=J) (fun j u b=>by simpa using L.o.2 j u b);have z:=hO1.obj.sub (o:=9) (cs:=p) (fun j u b=>by simpa using q.o.2 j u b))))
 exact qcd
theorem Nz{n:Nat}(H:PO n)(f a:Fd)(x y g d:Sl)(m:Mem)(w:zW)(X:m.ay w)(k:gD m)(U:bG m n x f.2.1)(T:bG m n y f.2.2)(A:bG m n g a.2.1)(z:bG m n d a.2.2)(W:lT n f.2)(M:lT n a.2):
 zX 131 #[.agg (qU f x y).toArray,.agg (qU a g d).toArray] w (.int .i64 (Tt (dn n) f a)):=by
 obtain⟨m1,S,I,v⟩:=dM 58 (qU f x y).toArray (Own.start X);obtain⟨i,q,B,t⟩:=dM 58 (qU a g d).toArray v;simp only[bR]at B;have c:=Mem.le_trans S q;have HC:=zh (fun w' (h:i.ay w')=>rV H f.2 a.2 x y g d i w' h (k.le c) (U.le c) (T.le c) (A.le c) (z.le c) W M);have Z:(fK f.2 x y).length=18:=rfl;have P:(fK a.2 g d).length=18:=rfl;have C:=zh (show(i.cell w.heap.size 0=some (.string f.1.1)/\i.cell w.heap.size 1=some (.int .i64 f.1.2))/\(i.cell (w.heap.size+1) 0=some (.string a.1.1)/\i.cell (w.heap.size+1) 1=some (.int .i64 a.1.2)) from
  ⟨⟨Mem_cell_le q (I 0 _ rfl),Mem_cell_le q (I 1 _ rfl)⟩,B 0 _ rfl,B 1 _ rfl⟩)
 have V:=zh (show(∀j u,(fK f.2 x y)[j]?=some u->i.cell w.heap.size (2+j)=some u)/\(∀j u,(fK a.2 g d)[j]?=some u->i.cell (w.heap.size+1) (2+j)=some u) from
  ⟨fun j u hj=>Mem_cell_le q (I _ u qeF),fun j u hj=>B _ u qeF⟩)
 have HE:=zh (show Tt (dn n) f a=jK (Av f.1.1 a.1.1) (jK (kV f.1.2 a.1.2) (Cz (dn n) f.2 a.2)) from CZ _ _ _);have l:=zh t;unfold dE at*
 generalize fK f.2 x y=N at*
 generalize fK a.2 g d=N' at*
 generalize qU f x y=D at*
 generalize qU a g d=D' at*
 generalize Cz (dn n) f.2 a.2=Q at*
 clear v t U T A z I B S q c k;refine aj fun R hR=>?_
 go_enter func131,ntmps131
 have K:=Mem_cell_w l.o.ay C.o.1.1;have J:=Mem_cell_w l.o.ay C.o.2.1;have F:=Mem_cell_lt l.o.ay C.o.1.1;have E:=Mem_cell_lt l.o.ay C.o.2.1
 go_wp2_with fail
 refine(Qu _ _ _).mono ?_;rintro e w1 ⟨rfl,s⟩;have HO1:=zh (l.o.aP s);clear l s K J F E;generalize Av f.1.1 a.1.1=L at*
 by_cases e1:L=0
 case neg=>
  have Y:(L != 0)=true:=bne_iff_ne.2 e1;have HX:=zh (show Tt (dn n) f a=L by rw[HE.o,jK,zJ e1]);exact qdk
 subst e1;have K:=Mem_cell_w HO1.o.ay C.o.1.2;have J:=Mem_cell_w HO1.o.ay C.o.2.2;have F:=Mem_cell_lt HO1.o.ay C.o.1.2;have E:=Mem_cell_lt HO1.o.ay C.o.2.2
 go_wp2_with fail
 refine(lZ _ _ _).mono ?_;rintro e w2 ⟨rfl,r⟩;have b:=zh (HO1.o.aP r);clear HO1 r K J F E;generalize kV f.1.2 a.1.2=p at*
 by_cases G:p=0
 case neg=>
  have Y:(p != 0)=true:=bne_iff_ne.2 G;have HX:=zh (show Tt (dn n) f a=p by rw[HE.o];show jK p Q=p;rw[jK,zJ G]);clear HE G;go_wp2;exact hR.o _ _ ⟨by rw[HX.o]<;>rfl,b.o.az⟩
 subst G;have HX:=zh (show Tt (dn n) f a=Q from HE.o);clear HE;have F:=Mem_cell_lt b.o.ay C.o.1.2;have E:=Mem_cell_lt b.o.ay C.o.2.2
 go_wp2_with (first
  |refine ae iY rfl (.tmp 23) rfl rfl N Z (fun j u hj=>Mem_cell_w b.o.ay (V.o.1 j u hj)) ?_
  |refine ae iY rfl (.tmp 25) rfl rfl N' P (fun j u hj=>Mem_cell_w b.o.ay (V.o.2 j u hj)) ?_
  | (go_at_call 56;refine(HC.o _ b.o.ay).mono ?_;rintro e w3 ⟨rfl,O⟩))
 exact hR.o _ _ ⟨by rw[HX.o]<;>rfl,(b.o.aP O).az⟩
theorem NA{n:Nat}(H:PO n)(f a:Kl)(u l:zV)(x y d c:Sl)(m:Mem)(w:zW)(Z:m.ay w)(i:gD m)(S:aQ m u f.1)(q:aQ m l a.1)(U:bG m n x f.2.1)(T:bG m n y f.2.2)(B:bG m n d a.2.1)(A:bG m n c a.2.2)(Q:DC n f)(p:DC n a):
 zX 132 #[.agg (qN f u x y).toArray,.agg (qN a l d c).toArray] w (.int .i64 (Tk (dn n) f a)):=by
 obtain⟨m1,P,K,v⟩:=dM 61 (qN f u x y).toArray (Own.start Z);obtain⟨g,F,G,t⟩:=dM 61 (qN a l d c).toArray v;simp only[bR]at G;have b:=Mem.le_trans P F;have HC:=zh (fun w' (h:g.ay w')=>rV H f.2 a.2 x y d c g w' h (i.le b) (U.le b) (T.le b) (B.le b) (A.le b) Q.1 p.1);have W:=zh (fun w' (h:g.ay w')=>vV u l f.1 a.1 g w' h (aW b S) (aW b q) (azs Q.2 p.2));have hN:(fK f.2 x y).length=18:=rfl;have J:(fK a.2 d c).length=18:=rfl;have C:=zh (show g.cell w.heap.size 0=some u/\g.cell (w.heap.size+1) 0=some l from⟨Mem_cell_le F (K 0 _ rfl),G 0 _ rfl⟩);have V:=zh (show(∀j z,(fK f.2 x y)[j]?=some z->g.cell w.heap.size (1+j)=some z)/\(∀j z,(fK a.2 d c)[j]?=some z->g.cell (w.heap.size+1) (1+j)=some z) from
  ⟨fun j z hj=>Mem_cell_le F (K _ z qeG),fun j z hj=>G _ z qeG⟩)
 have HE:=zh (show Tk (dn n) f a=jK (J3 f.1 a.1) (Cz (dn n) f.2 a.2) from rfl);have k:=zh t;unfold dE at*
 generalize fK f.2 x y=N at*
 generalize fK a.2 d c=N' at*
 generalize qN f u x y=D at*
 generalize qN a l d c=D' at*
 generalize Cz (dn n) f.2 a.2=O at*
 clear v t U T B A K G P F b i S q;refine aj fun R hR=>?_
 go_enter func132,ntmps132
 have Y:=Mem_cell_w k.o.ay C.o.1;have X:=Mem_cell_w k.o.ay C.o.2;have M:=Mem_cell_lt k.o.ay C.o.1;have L:=Mem_cell_lt k.o.ay C.o.2
 go_wp2_with fail
 refine(W.o _ k.o.ay).mono ?_;rintro e w1 ⟨E,rfl,s,r⟩;have HE:=zh (show Tk (dn n) f a=jK E O by rw[HE.o,Gt r]);have HO1:=zh (k.o.aP s);clear k s Y X M L W r;by_cases e1:E=0
 case neg=>
  have hd:(E != 0)=true:=bne_iff_ne.2 e1;have HX:=zh (show Tk (dn n) f a=E by rw[HE.o,jK,zJ e1]);exact qdk
 subst e1;have HX:=zh (show Tk (dn n) f a=O from HE.o);clear HE;have M:=Mem_cell_lt HO1.o.ay C.o.1;have L:=Mem_cell_lt HO1.o.ay C.o.2
 go_wp2_with (first
  |refine ae iY rfl (.tmp 14) rfl rfl N hN (fun j u hj=>Mem_cell_w HO1.o.ay (V.o.1 j u hj)) ?_
  |refine ae iY rfl (.tmp 16) rfl rfl N' J (fun j u hj=>Mem_cell_w HO1.o.ay (V.o.2 j u hj)) ?_
  | (go_at_call 56;refine(HC.o _ HO1.o.ay).mono ?_;rintro e w3 ⟨rfl,I⟩))
 exact hR.o _ _ ⟨by rw[HX.o]<;>rfl,(HO1.o.aP I).az⟩
theorem BQ{α:Type}{c:α->α->Int}{l a:List α}{k:Nat}(h:¬(k<l.length/\k<a.length))(f:k<=l.length)(d:k<=a.length):bS c (l.drop k) (a.drop k)=kV l.length a.length:=by
 unfold kV;by_cases e:k<l.length
 .rw[pV c l a k e zo,zJ zo,zK zo]
 .rw[oI c l a k zo];by_cases b:k<a.length
  .rw[zK b,zK zo]
  .rw[zJ b,zJ zo,zJ zo]
theorem BK{a b:Nat}(h:a=b):kV a b=0:=by rw[h];exact UB _
theorem Lh{n:Nat}(H:PO n)(u1 u2 s' r':zV)(c f:St)(m:Mem)(w:zW)(hm:m.ay w)(l':gD m)(N:iy (bG m n) m u1 c.1)(I:gX (bG m n) m u2 c.2)(X':iy (bG m n) m s' f.1)(W':gX (bG m n) m r' f.2)(kd:sK n c)(t':sK n f):
 zX 85 #[.agg #[u1,u2],.agg #[s',r']] w (.int .i64 (Wt (dn n) c f)):=by
 obtain⟨m1,l1,c1,T'⟩:=dM 45 #[u1,u2] (Own.start hm);obtain⟨s,l2,c2,S'⟩:=dM 45 #[s',r'] T';simp only[bR]at c2;have F:=Mem.le_trans l1 l2;have O:=l'.le F;have p:=zh qfQ;have l:=zh qfP;have L':=zh (show(∀b o x,(fun b o d=>IL (bG s n) s b o d/\lT n d.2) b o x->∃cs:List Value,cs.length=20/\(∀j u,cs[j]?=some u->s.cell b (o+j)=some u)/\(∀u∈cs,u.oneCell'=true)/\(fun cs d=>(∃x y,cs=qU d x y/\bG s n x d.2.1/\bG s n y d.2.2)/\lT n d.2) cs x) /\
  (∀cs v x x' w',s.ay w'->(fun cs d=>(∃x y,cs=qU d x y/\bG s n x d.2.1/\bG s n y d.2.2)/\lT n d.2) cs x->(fun cs d=>(∃x y,cs=qU d x y/\bG s n x d.2.1/\bG s n y d.2.2)/\lT n d.2) v x'->zC 131 #[.agg cs.toArray,.agg v.toArray] w' fun e q'=>e=.returned (.int .i64 (Tt (dn n) x x'))/\Below w'.heap.size w' q') from⟨fun b o d hd=>by obtain⟨x,y,N,I,h3⟩:=hd.1.cells;exact⟨_,rfl,N,pF I h3,⟨x,y,rfl,I,h3⟩,hd.2⟩,fun cs v d d' w' B' N I=>by
  obtain⟨⟨x,y,rfl,k1,k2⟩,k3⟩:=N;obtain⟨⟨x',y',rfl,A',z'⟩,v'⟩:=I;exact Nz H d d' x y x' y' s w' B' O k1 k2 A' z' k3 v'⟩)
 have hs1:=dJ (iy.le F (fun _ _=>bG.le F) N) kd.1;have P':=dJ (iy.le F (fun _ _=>bG.le F) X') t'.1;have K':=zh (show(∀b o x,(fun b o d=>II (bG s n) s b o d/\DC n d) b o x->∃cs:List Value,cs.length=19/\(∀j u,cs[j]?=some u->s.cell b (o+j)=some u)/\(∀u∈cs,u.oneCell'=true)/\(fun cs d=>(∃u x y,cs=qN d u x y/\aQ s u d.1/\bG s n x d.2.1/\bG s n y d.2.2)/\DC n d) cs x) /\
  (∀cs v x x' w',s.ay w'->(fun cs d=>(∃u x y,cs=qN d u x y/\aQ s u d.1/\bG s n x d.2.1/\bG s n y d.2.2)/\DC n d) cs x->(fun cs d=>(∃u x y,cs=qN d u x y/\aQ s u d.1/\bG s n x d.2.1/\bG s n y d.2.2)/\DC n d) v x'->zC 132 #[.agg cs.toArray,.agg v.toArray] w' fun e q'=>e=.returned (.int .i64 (Tk (dn n) x x'))/\Below w'.heap.size w' q') from⟨fun b o d hd=>by obtain⟨u,x,y,hu,N,I,h3⟩:=hd.1.cells;exact⟨_,rfl,N,pg hu I h3,⟨u,x,y,rfl,hu,I,h3⟩,hd.2⟩,fun cs v d d' w' B' N I=>by
  obtain⟨⟨u,x,y,rfl,hu,k1,k2⟩,k3⟩:=N;obtain⟨⟨u',x',y',rfl,hu',A',z'⟩,v'⟩:=I;exact NA H d d' u u' x y x' y' s w' B' O hu hu' k1 k2 A' z' k3 v'⟩)
 have hs2:=dJ (gX.le F (fun _ _=>bG.le F) I) kd.2;have O':=dJ (gX.le F (fun _ _=>bG.le F) W') t'.2;obtain⟨a1,b1,rfl,p1,q1,s1⟩:=hs1;obtain⟨a1',b1',rfl,p1',q1',N'⟩:=P';unfold maxLen at q1 q1';have HK1:=zh (zi s1 N');obtain⟨a2,b2,rfl,p2,q2,s2⟩:=hs2;obtain⟨a2',b2',rfl,p2',q2',M'⟩:=O';unfold maxLen at q2 q2';have HK2:=zh (zi s2 M');have HE:=zh (show Wt (dn n) c f=jK (bS (Tt (dn n)) c.1 f.1) (bS (Tk (dn n)) c.2 f.2) from rfl);have HO:=zh S';clear T' S' c1 c2 l1 l2 F N I X' W' kd t' l' O s1 N' s2 M';generalize R':Wt (dn n) c f=e' at*
 generalize Tt (dn n)=CF at*
 generalize Tk (dn n)=CK at*
 clear R';refine aj fun R hR=>?_
 go_enter func85,ntmps85
 go_wp2;refine av [2,3,5] (fun q J wr=>∃k:Nat,k<=c.1.length/\k<=f.1.length/\q=c.1.length-k/\J=[.pointer (some ⟨w.heap.size,0,none⟩),.pointer (some ⟨w.heap.size+1,0,none⟩),.int .i64 (k:Int)]/\bS CF c.1 f.1=bS CF (c.1.drop k) (f.1.drop k)/\Own w m wr s []) ?_ ?_
 .exact qbl
 clear HO;rintro X z q J wr hX-⟨k,hk,hk',rfl,rfl,K,t⟩;have B:=zh K;have HO:=zh t;simp[aX,lk];have g0:=Mem_cell_w t.ay p.o.1;have g1:=Mem_cell_w t.ay p.o.2;have M:=Mem_cell_lt t.ay p.o.1;have L:=Mem_cell_lt t.ay p.o.2;clear K t;obtain⟨G,Z⟩:∃G:Bool,(G=true↔k<c.1.length/\k<f.1.length):=⟨decide (k<c.1.length/\k<f.1.length),zS⟩;have HBB:=zh Z;clear Z
 go_upto_region 2 with(fail)
 refine aR [2,3,5,20] (fun J w'=>J=[.pointer (some ⟨w.heap.size,0,none⟩),.pointer (some ⟨w.heap.size+1,0,none⟩),.int .i64 (k:Int),.bool G]/\Own w m w' s []) ?_ ?_
 .intro Y hY;by_cases N:k<c.1.length
  .by_cases I:k<f.1.length
   .have hb:G=true:=HBB.o.2 ⟨N,I⟩;exact qaf
   .have hb:G=false:=by cases G with|false=>rfl|true=>exact absurd (HBB.o.1 rfl).2 I
    exact qaf
  .have hb:G=false:=by cases G with|false=>rfl|true=>exact absurd (HBB.o.1 rfl).1 N
   exact qaf
 clear HO g0 g1 M L;rintro z5 J w5-⟨rfl,t⟩;have HO:=zh t;simp[aX,lk];have g0:=Mem_cell_w t.ay p.o.1;have g1:=Mem_cell_w t.ay p.o.2;have M:=Mem_cell_lt t.ay p.o.1;have L:=Mem_cell_lt t.ay p.o.2;clear t;cases G
 case true=>
  obtain⟨hlt,hlt'⟩:=HBB.o.1 rfl;obtain⟨b,off,rfl,h4⟩:=HK1.o.1 qdX;obtain⟨b',C,rfl,a'⟩:=HK1.o.2 qd3;obtain⟨cs,D',Q,-,W⟩:=L'.o.1 _ _ _ (h4 k hlt);obtain⟨v,C',P,-,V⟩:=L'.o.1 _ _ _ (a' k hlt');have HD:=zh (B.o.trans (jW CF c.1 f.1 k hlt hlt'));have f':=zh (fun w' (h:s.ay w')=>L'.o.2 cs v c.1[k] f.1[k] w' h W V);have h':=zh (fun(w':zW) (h:s.ay w') j u hj=>Mem_cell_w h (Q j u hj));have g':=zh (fun(w':zW) (h:s.ay w') j u hj=>Mem_cell_w h (P j u hj));have T:=Q 0 (cs[0]'zo) (yH _);have S:=P 0 (v[0]'zo) (yH _);clear h4 a' Q P W V B;generalize CF c.1[k] f.1[k]=r at*
  go_upto_region 4 with(fail)
  refine aR [2,3,5,6] (fun J w'=>J=[.pointer (some ⟨w.heap.size,0,none⟩),.pointer (some ⟨w.heap.size+1,0,none⟩),.int .i64 (k:Int),.int .i64 r]/\Own w m w' s []) ?_ ?_
  .intro Y hY;refine bz 11 6 (fun j=>[aD.is (·=.pointer (some ⟨w.heap.size,0,none⟩)),aD.is (·=.slice (some ⟨b,off,none⟩) c.1.length b1),aD.is (·=.int .i64 (k:Int)),aD.is (·=.pointer (some ⟨b,off+k*20,none⟩)),aD.is (·=.agg cs.toArray),aD.is (·=.pointer (some ⟨w.heap.size+1,0,none⟩)),aD.is (·=.slice (some ⟨b',C,none⟩) f.1.length b1'),aD.is (·=.int .i64 (k:Int)),aD.is (·=.pointer (some ⟨b',C+k*20,none⟩)),aD.is (·=.agg v.toArray),aD.is (·=.int .i64 r)].getD j aD.any) zk zk ?_ ?_
   .intro i hi o p' a wr ho A;have g:=HO.o.dr.aP A.az;have y1:=Mem_cell_w g.ay p.o.1;have y2:=Mem_cell_w g.ay p.o.2;have y3:=Mem_cell_lt g.ay p.o.1;have y4:=Mem_cell_lt g.ay p.o.2;have y5:=Mem_cell_lt g.ay T;have y6:=Mem_cell_lt g.ay S;rcases(show i=0\/i=1\/i=2\/i=3\/i=4\/i=5\/i=6\/i=7\/i=8\/i=9\/i=10 by omega)with rfl|rfl|rfl|rfl|rfl|rfl|rfl|rfl|rfl|rfl|rfl
    .have e2:=A.k 2;exact qaa
    .have e23:zt a 23 _:=A.d 0 rfl;exact qaa
    .have e5:=A.k 5;exact qaa
    .have e24:zt a 24 _:=A.d 1 rfl;have e25:zt a 25 _:=A.d 2 rfl;exact qac
    .have e26:zt a 26 _:=A.d 3 rfl;cases ho;refine aJ rfl rfl (aN (uY.exec (b:=b) (off:=off+k*20) rfl zg D' (h'.o _ g.ay)) ⟨_,rfl,zR _ _,rfl⟩)
    .have e3:=A.k 3;exact qaa
    .have e28:zt a 28 _:=A.d 5 rfl;exact qaa
    .have e5:=A.k 5;exact qaa
    .have e29:zt a 29 _:=A.d 6 rfl;have e30:zt a 30 _:=A.d 7 rfl;exact qac
    .have e31:zt a 31 _:=A.d 8 rfl;cases ho;refine aJ rfl rfl (aN (uY.exec (b:=b') (off:=C+k*20) rfl zg C' (g'.o _ g.ay)) ⟨_,rfl,zR _ _,rfl⟩)
    .have e27:zt a 27 _:=A.d 4 rfl;have e32:zt a 32 _:=A.d 9 rfl;cases ho;refine we rfl rfl (f'.o _ g.ay) ?_;exact qab
   .intro p' a wr E;have e2:=E.keep 2 zk;have e3:=E.keep 3 zk;have e5:=E.keep 5 zk;have e33:a.tmps.getD 33 undef=.int .i64 r:=E.fact 10 _ zo rfl;have hZ:=HO.o.dr.aP E.az;obtain⟨t1,dd⟩:=a;obtain rfl:dd=[]:=E.defers;refine eF 11 zk (aJ rfl rfl (aN qd1 ?_));refine bY zk (hY.o _ _ qef ⟨?_,hZ⟩) _;have U:t1.size=86:=E.size;simp[U]at e2 e3 e5 e33;simp[e2,e3,e5,U]
  clear HO f' h' g' T S g0 g1 M L;rintro z2 J w2-⟨rfl,t⟩;simp[aX,lk];have HO:=zh t;clear t;by_cases he:r=0
  .subst he;have HL:=zh (show bS CF c.1 f.1=bS CF (c.1.drop (k+1)) (f.1.drop (k+1)) from HD.o);exact qar
  .have hd:(r != 0)=true:=bne_iff_ne.2 he;have HL:=zh (show bS CF c.1 f.1=r by rw[HD.o,jK,zJ he]);have HX:=zh (show e'=r from(fun hl hz=>HE.o.trans qe2) HL.o he);exact qao
 have I':=zh (show bS CF c.1 f.1=kV c.1.length f.1.length from B.o.trans qfp);clear hX B HBB hk hk';by_cases D:c.1.length=f.1.length
 case neg=>
  have Q':((c.1.length:Int) != (f.1.length:Int))=true:=by simp;omega
  have HX:=zh (show e'=kV c.1.length f.1.length from(fun hz=>HE.o.trans (by rw[I'.o,jK,zJ hz])) (fun e=>D qee));clear D
  go_wp2_with (go_at_call 84;refine(lZ _ _ _).mono ?_;rintro e w3 ⟨rfl,hb3⟩)
  exact qaD
 have Q':((c.1.length:Int) != (f.1.length:Int))=false:=by simp[D]
 have Y':=zh D;clear D;have HE:=zh (show e'=bS CK c.2 f.2 from HE.o.trans (by rw[I'.o,BK Y'.o];rfl));clear I';go_wp2;refine av [2,3,7] (fun q J wr=>∃k:Nat,k<=c.2.length/\k<=f.2.length/\q=c.2.length-k/\J=[.pointer (some ⟨w.heap.size,0,none⟩),.pointer (some ⟨w.heap.size+1,0,none⟩),.int .i64 (k:Int)]/\bS CK c.2 f.2=bS CK (c.2.drop k) (f.2.drop k)/\Own w m wr s []) ?_ ?_
 .exact qbl
 clear HO g0 g1 M L Q';rintro X z q J wr hX-⟨k,hk,hk',rfl,rfl,K,t⟩;have B:=zh K;have HO:=zh t;simp[aX,lk];have g0:=Mem_cell_w t.ay l.o.1;have g1:=Mem_cell_w t.ay l.o.2;have M:=Mem_cell_lt t.ay l.o.1;have L:=Mem_cell_lt t.ay l.o.2;clear K t;obtain⟨G,Z⟩:∃G:Bool,(G=true↔k<c.2.length/\k<f.2.length):=⟨decide (k<c.2.length/\k<f.2.length),zS⟩;have HBB:=zh Z;clear Z
 go_upto_region 10 with(fail)
 refine aR [2,3,7,62] (fun J w'=>J=[.pointer (some ⟨w.heap.size,0,none⟩),.pointer (some ⟨w.heap.size+1,0,none⟩),.int .i64 (k:Int),.bool G]/\Own w m w' s []) ?_ ?_
 .intro Y hY;by_cases N:k<c.2.length
  .by_cases I:k<f.2.length
   .have hb:G=true:=HBB.o.2 ⟨N,I⟩;exact qaf
   .have hb:G=false:=by cases G with|false=>rfl|true=>exact absurd (HBB.o.1 rfl).2 I
    exact qaf
  .have hb:G=false:=by cases G with|false=>rfl|true=>exact absurd (HBB.o.1 rfl).1 N
   exact qaf
 clear HO g0 g1 M L;rintro z5 J w5-⟨rfl,t⟩;have HO:=zh t;simp[aX,lk];have g0:=Mem_cell_w t.ay l.o.1;have g1:=Mem_cell_w t.ay l.o.2;have M:=Mem_cell_lt t.ay l.o.1;have L:=Mem_cell_lt t.ay l.o.2;clear t;cases G
 case true=>
  obtain⟨hlt,hlt'⟩:=HBB.o.1 rfl;obtain⟨b,off,rfl,h4⟩:=HK2.o.1 qdX;obtain⟨b',C,rfl,a'⟩:=HK2.o.2 qd3;obtain⟨cs,D',Q,-,W⟩:=K'.o.1 _ _ _ (h4 k hlt);obtain⟨v,C',P,-,V⟩:=K'.o.1 _ _ _ (a' k hlt');have HD:=zh (B.o.trans (jW CK c.2 f.2 k hlt hlt'));have f':=zh (fun w' (h:s.ay w')=>K'.o.2 cs v c.2[k] f.2[k] w' h W V);have h':=zh (fun(w':zW) (h:s.ay w') j u hj=>Mem_cell_w h (Q j u hj));have g':=zh (fun(w':zW) (h:s.ay w') j u hj=>Mem_cell_w h (P j u hj));have T:=Q 0 (cs[0]'zo) (yH _);have S:=P 0 (v[0]'zo) (yH _);clear h4 a' Q P W V B;generalize CK c.2[k] f.2[k]=r at*
  go_upto_region 12 with(fail)
  refine aR [2,3,7,8] (fun J w'=>J=[.pointer (some ⟨w.heap.size,0,none⟩),.pointer (some ⟨w.heap.size+1,0,none⟩),.int .i64 (k:Int),.int .i64 r]/\Own w m w' s []) ?_ ?_
  .intro Y hY;refine bz 11 6 (fun j=>[aD.is (·=.pointer (some ⟨w.heap.size,1,none⟩)),aD.is (·=.slice (some ⟨b,off,none⟩) c.2.length b2),aD.is (·=.int .i64 (k:Int)),aD.is (·=.pointer (some ⟨b,off+k*19,none⟩)),aD.is (·=.agg cs.toArray),aD.is (·=.pointer (some ⟨w.heap.size+1,1,none⟩)),aD.is (·=.slice (some ⟨b',C,none⟩) f.2.length b2'),aD.is (·=.int .i64 (k:Int)),aD.is (·=.pointer (some ⟨b',C+k*19,none⟩)),aD.is (·=.agg v.toArray),aD.is (·=.int .i64 r)].getD j aD.any) zk zk ?_ ?_
   .intro i hi o p' a wr ho A;have g:=HO.o.dr.aP A.az;have y1:=Mem_cell_w g.ay l.o.1;have y2:=Mem_cell_w g.ay l.o.2;have y3:=Mem_cell_lt g.ay l.o.1;have y4:=Mem_cell_lt g.ay l.o.2;have y5:=Mem_cell_lt g.ay T;have y6:=Mem_cell_lt g.ay S;rcases(show i=0\/i=1\/i=2\/i=3\/i=4\/i=5\/i=6\/i=7\/i=8\/i=9\/i=10 by omega)with rfl|rfl|rfl|rfl|rfl|rfl|rfl|rfl|rfl|rfl|rfl
    .have e2:=A.k 2;exact qaa
    .have e65:zt a 65 _:=A.d 0 rfl;exact qaa
    .have e7:=A.k 7;exact qaa
    .have e66:zt a 66 _:=A.d 1 rfl;have e67:zt a 67 _:=A.d 2 rfl;exact qac
    .have e68:zt a 68 _:=A.d 3 rfl;cases ho;refine aJ rfl rfl (aN (uX.exec (b:=b) (off:=off+k*19) rfl zg D' (h'.o _ g.ay)) ⟨_,rfl,zR _ _,rfl⟩)
    .have e3:=A.k 3;exact qaa
    .have e70:zt a 70 _:=A.d 5 rfl;exact qaa
    .have e7:=A.k 7;exact qaa
    .have e71:zt a 71 _:=A.d 6 rfl;have e72:zt a 72 _:=A.d 7 rfl;exact qac
    .have e73:zt a 73 _:=A.d 8 rfl;cases ho;refine aJ rfl rfl (aN (uX.exec (b:=b') (off:=C+k*19) rfl zg C' (g'.o _ g.ay)) ⟨_,rfl,zR _ _,rfl⟩)
    .have e69:zt a 69 _:=A.d 4 rfl;have e74:zt a 74 _:=A.d 9 rfl;cases ho;refine we rfl rfl (f'.o _ g.ay) ?_;exact qab
   .intro p' a wr E;have e2:=E.keep 2 zk;have e3:=E.keep 3 zk;have e7:=E.keep 7 zk;have e75:a.tmps.getD 75 undef=.int .i64 r:=E.fact 10 _ zo rfl;have hZ:=HO.o.dr.aP E.az;obtain⟨t1,dd⟩:=a;obtain rfl:dd=[]:=E.defers;refine eF 11 zk (aJ rfl rfl (aN qd1 ?_));refine bY zk (hY.o _ _ qef ⟨?_,hZ⟩) _;have U:t1.size=86:=E.size;simp[U]at e2 e3 e7 e75;simp[e2,e3,e7,U]
  clear HO f' h' g' T S g0 g1 M L;rintro z2 J w2-⟨rfl,t⟩;simp[aX,lk];have HO:=zh t;clear t;by_cases he:r=0
  .subst he;have HL:=zh (show bS CK c.2 f.2=bS CK (c.2.drop (k+1)) (f.2.drop (k+1)) from HD.o);exact qar
  .have hd:(r != 0)=true:=bne_iff_ne.2 he;have HL:=zh (show bS CK c.2 f.2=r by rw[HD.o,jK,zJ he]);have HX:=zh (show e'=r from(fun hl _=>HE.o.trans hl) HL.o he);exact qao
 have Z':=zh (show bS CK c.2 f.2=kV c.2.length f.2.length from B.o.trans qfp);clear hX B HBB hk hk';have HX:=zh (show e'=kV c.2.length f.2.length from HE.o.trans Z'.o);clear HE Z'
 go_wp2_with (go_at_call 84;refine(lZ _ _ _).mono ?_;rintro e w3 ⟨rfl,hb3⟩)
 exact qaD
theorem Qv{n:Nat}(H:PO n)(u1 u2 o' n':zV)(c f:Lc)(m:Mem)(w:zW)(hm:m.ay w)(k':gD m)(h1:bO (bG m n) m u1 c.1)(Q:bO (bG m n) m u2 c.2)(Q':bO (bG m n) m o' f.1)(P':bO (bG m n) m n' f.2)(kd:sM n c)(p':sM n f)(r1:c.2.length<=1)(H':f.2.length<=1):
 zX 83 #[.agg #[u1,u2],.agg #[o',n']] w (.int .i64 (Tj (dn n) c f)):=by
 obtain⟨m1,l1,c1,M'⟩:=dM 51 #[u1,u2] (Own.start hm);obtain⟨l,l2,c2,L'⟩:=dM 51 #[o',n'] M';simp only[bR]at c2;have N:=Mem.le_trans l1 l2;have J:=k'.le N;have g:=zh qfQ;have p:=zh qfP;have C':=zh (show(∀b o x,(fun b o d=>uV (bG l n) l b o d/\lT n d) b o x->∃cs:List Value,cs.length=18/\(∀j u,cs[j]?=some u->l.cell b (o+j)=some u)/\(∀u∈cs,u.oneCell'=true)/\(fun cs d=>(∃x y,cs=fK d x y/\bG l n x d.1/\bG l n y d.2)/\lT n d) cs x) /\
  (∀cs s x x' w',l.ay w'->(fun cs d=>(∃x y,cs=fK d x y/\bG l n x d.1/\bG l n y d.2)/\lT n d) cs x->(fun cs d=>(∃x y,cs=fK d x y/\bG l n x d.1/\bG l n y d.2)/\lT n d) s x'->zC 56 #[.agg cs.toArray,.agg s.toArray] w' fun e m'=>e=.returned (.int .i64 (Cz (dn n) x x'))/\Below w'.heap.size w' m') from⟨fun b o d K=>by obtain⟨x,y,h1,Q,h3⟩:=K.1.cells;exact⟨_,rfl,h1,gW Q h3,⟨x,y,rfl,Q,h3⟩,K.2⟩,fun cs s d d' w' u' h1 Q=>by
  obtain⟨⟨x,y,rfl,k1,k2⟩,k3⟩:=h1;obtain⟨⟨x',y',rfl,s',r'⟩,q'⟩:=Q;exact rV H d d' x y x' y' l w' u' J k1 k2 s' r' k3 q'⟩)
 have hs1:=dJ (bO.iU N h1) (fun d K=>kd.1 d (yP.2 (.inl K)));have J':=dJ (bO.iU N Q') (fun d K=>p'.1 d (yP.2 (.inl K)));have B':=zh (show(∀b o x,(fun b o d=>uV (bG l n) l b o d/\lT n d) b o x->∃cs:List Value,cs.length=18/\(∀j u,cs[j]?=some u->l.cell b (o+j)=some u)/\(∀u∈cs,u.oneCell'=true)/\(fun cs d=>(∃x y,cs=fK d x y/\bG l n x d.1/\bG l n y d.2)/\lT n d) cs x) /\
  (∀cs s x x' w',l.ay w'->(fun cs d=>(∃x y,cs=fK d x y/\bG l n x d.1/\bG l n y d.2)/\lT n d) cs x->(fun cs d=>(∃x y,cs=fK d x y/\bG l n x d.1/\bG l n y d.2)/\lT n d) s x'->zC 56 #[.agg cs.toArray,.agg s.toArray] w' fun e m'=>e=.returned (.int .i64 (Cz (dn n) x x'))/\Below w'.heap.size w' m') from⟨fun b o d K=>by obtain⟨x,y,h1,Q,h3⟩:=K.1.cells;exact⟨_,rfl,h1,gW Q h3,⟨x,y,rfl,Q,h3⟩,K.2⟩,fun cs s d d' w' u' h1 Q=>by
  obtain⟨⟨x,y,rfl,k1,k2⟩,k3⟩:=h1;obtain⟨⟨x',y',rfl,s',r'⟩,q'⟩:=Q;exact rV H d d' x y x' y' l w' u' J k1 k2 s' r' k3 q'⟩)
 have hs2:=dJ (bO.iU N Q) (fun d K=>kd.1 d (yP.2 (.inr K)));have I':=dJ (bO.iU N P') (fun d K=>p'.1 d (yP.2 (.inr K)));obtain⟨a1,b1,rfl,p1,q1,s1⟩:=hs1;obtain⟨a1',b1',rfl,p1',q1',G'⟩:=J';unfold maxLen at q1 q1';have U':=zh (zi s1 G');obtain⟨a2,b2,rfl,p2,q2,s2⟩:=hs2;obtain⟨a2',b2',rfl,p2',q2',F'⟩:=I';unfold maxLen at q2 q2';have T':=zh (zi s2 F');have S:=zh (show Tj (dn n) c f=jK (kV c.1.length f.1.length) (jK (kV f.2.length c.2.length) (jK (bS (Cz (dn n)) c.1 f.1) (bS (Cz (dn n)) c.2 f.2))) from(Zc r1 H').symm);have HO:=zh L';clear M' L' c1 c2 l1 l2 N h1 Q Q' P' kd p' k' J s1 G' s2 F' r1 H';generalize K':Tj (dn n) c f=G at*
 generalize Cz (dn n)=C at*
 clear K';have g0:=Mem_cell_w HO.o.ay g.o.1;have g1:=Mem_cell_w HO.o.ay g.o.2;have g2:=Mem_cell_w HO.o.ay p.o.1;have g3:=Mem_cell_w HO.o.ay p.o.2;have P:=Mem_cell_lt HO.o.ay g.o.1;have O:=Mem_cell_lt HO.o.ay g.o.2;refine aj fun R hR=>?_
 go_enter func83,ntmps83
 by_cases B:c.1.length=f.1.length
 case neg=>
  have t':((c.1.length:Int) != (f.1.length:Int))=true:=by simp;omega
  have HX:=zh (show G=kV c.1.length f.1.length from(fun hz=>S.o.trans (by rw[jK,zJ hz])) (fun e=>B qee));clear B
  go_wp2_with (go_at_call 84;refine(lZ _ _ _).mono ?_;rintro e w3 ⟨rfl,hb3⟩)
  exact qaD
 have t':((c.1.length:Int) != (f.1.length:Int))=false:=by simp[B]
 have f':=zh B;clear B;have S:=zh (show G=jK (kV f.2.length c.2.length) (jK (bS C c.1 f.1) (bS C c.2 f.2)) from S.o.trans (by rw[BK f'.o];rfl));by_cases A:f.2.length=c.2.length
 case neg=>
  have t':((c.2.length:Int) != (f.2.length:Int))=true:=by simp;omega
  have HX:=zh (show G=kV f.2.length c.2.length from(fun hz=>S.o.trans (by rw[jK,zJ hz])) (fun e=>A qee));clear A
  go_wp2_with (go_at_call 84;refine(lZ _ _ _).mono ?_;rintro e w3 ⟨rfl,hb3⟩)
  exact qaD
 have t':((c.2.length:Int) != (f.2.length:Int))=false:=by simp[A]
 have I:=zh A;clear A;have S:=zh (show G=jK (bS C c.1 f.1) (bS C c.2 f.2) from S.o.trans (by rw[BK I.o];rfl));have I:=zh I.o.symm;go_wp2;refine av [2,3,5] (fun q T wr=>∃k:Nat,k<=c.1.length/\k<=f.1.length/\q=c.1.length-k/\T=[.pointer (some ⟨w.heap.size,0,none⟩),.pointer (some ⟨w.heap.size+1,0,none⟩),.int .i64 (k:Int)]/\bS C c.1 f.1=bS C (c.1.drop k) (f.1.drop k)/\Own w m wr l []) ?_ ?_
 .exact qbl
 clear HO g0 g1 g2 g3 P O;rintro X z q T wr hX-⟨k,hk,v',rfl,rfl,F,D⟩;have v:=zh F;have HO:=zh D;simp[aX,lk];have g0:=Mem_cell_w D.ay g.o.1;have g1:=Mem_cell_w D.ay g.o.2;have P:=Mem_cell_lt D.ay g.o.1;have O:=Mem_cell_lt D.ay g.o.2;clear F D;by_cases hlt:k<c.1.length
 case pos=>
  have hlt':k<f.1.length:=by have:=f'.o;omega
  obtain⟨b,off,rfl,h4⟩:=U'.o.1 qdX;obtain⟨b',off',rfl,e'⟩:=U'.o.2 qd3;obtain⟨cs,hl1,M,-,a'⟩:=C'.o.1 _ _ _ (h4 k hlt);obtain⟨s,hl2,L,-,Z⟩:=C'.o.1 _ _ _ (e' k hlt');have HD:=zh (v.o.trans (jW C c.1 f.1 k hlt hlt'));have g':=zh (fun w' (h:l.ay w')=>C'.o.2 cs s c.1[k] f.1[k] w' h a' Z);have HC1:=zh (fun(w':zW) (h:l.ay w') j u hj=>Mem_cell_w h (M j u hj));have HC2:=zh (fun(w':zW) (h:l.ay w') j u hj=>Mem_cell_w h (L j u hj));have V:=M 0 (cs[0]'zo) (yH _);have U:=L 0 (s[0]'zo) (yH _);clear h4 e' M L a' Z v;generalize C c.1[k] f.1[k]=r at*
  go_upto_region 8 with(fail)
  refine aR [2,3,5,6] (fun T w'=>T=[.pointer (some ⟨w.heap.size,0,none⟩),.pointer (some ⟨w.heap.size+1,0,none⟩),.int .i64 (k:Int),.int .i64 r]/\Own w m w' l []) ?_ ?_
  .intro Y hY;refine bz 11 6 (fun j=>[aD.is (·=.pointer (some ⟨w.heap.size,0,none⟩)),aD.is (·=.slice (some ⟨b,off,none⟩) c.1.length b1),aD.is (·=.int .i64 (k:Int)),aD.is (·=.pointer (some ⟨b,off+k*18,none⟩)),aD.is (·=.agg cs.toArray),aD.is (·=.pointer (some ⟨w.heap.size+1,0,none⟩)),aD.is (·=.slice (some ⟨b',off',none⟩) f.1.length b1'),aD.is (·=.int .i64 (k:Int)),aD.is (·=.pointer (some ⟨b',off'+k*18,none⟩)),aD.is (·=.agg s.toArray),aD.is (·=.int .i64 r)].getD j aD.any) zk zk ?_ ?_
   .intro i hi o l' a wr ho t;have HO2:=HO.o.dr.aP t.az;have y1:=Mem_cell_w HO2.ay g.o.1;have y2:=Mem_cell_w HO2.ay g.o.2;have y3:=Mem_cell_lt HO2.ay g.o.1;have y4:=Mem_cell_lt HO2.ay g.o.2;have y5:=Mem_cell_lt HO2.ay V;have y6:=Mem_cell_lt HO2.ay U;rcases(show i=0\/i=1\/i=2\/i=3\/i=4\/i=5\/i=6\/i=7\/i=8\/i=9\/i=10 by omega)with rfl|rfl|rfl|rfl|rfl|rfl|rfl|rfl|rfl|rfl|rfl
    .have e2:=t.k 2;exact qaa
    .have e44:zt a 44 _:=t.d 0 rfl;exact qaa
    .have e5:=t.k 5;exact qaa
    .have e45:zt a 45 _:=t.d 1 rfl;have e46:zt a 46 _:=t.d 2 rfl;exact qac
    .have e47:zt a 47 _:=t.d 3 rfl;exact qbW
    .have e3:=t.k 3;exact qaa
    .have e49:zt a 49 _:=t.d 5 rfl;exact qaa
    .have e5:=t.k 5;exact qaa
    .have e50:zt a 50 _:=t.d 6 rfl;have e51:zt a 51 _:=t.d 7 rfl;exact qac
    .have e52:zt a 52 _:=t.d 8 rfl;exact qbT
    .have e48:zt a 48 _:=t.d 4 rfl;have e53:zt a 53 _:=t.d 9 rfl;cases ho;refine we rfl rfl (g'.o _ HO2.ay) ?_;exact qab
   .intro l' a wr E;have e2:=E.keep 2 zk;have e3:=E.keep 3 zk;have e5:=E.keep 5 zk;have e54:a.tmps.getD 54 undef=.int .i64 r:=E.fact 10 _ zo rfl;have hZ:=HO.o.dr.aP E.az;obtain⟨t1,dd⟩:=a;obtain rfl:dd=[]:=E.defers;refine eF 11 zk (aJ rfl rfl (aN qd1 ?_));refine bY zk (hY.o _ _ qef ⟨?_,hZ⟩) _;have W:t1.size=79:=E.size;simp[W]at e2 e3 e5 e54;simp[e2,e3,e5,W]
  clear HO g' HC1 HC2 V U g0 g1 P O;rintro z2 T w2-⟨rfl,D⟩;simp[aX,lk];have HO:=zh D;clear D;by_cases he:r=0
  .subst he;have HL:=zh (show bS C c.1 f.1=bS C (c.1.drop (k+1)) (f.1.drop (k+1)) from HD.o);exact qar
  .have K:(r != 0)=true:=bne_iff_ne.2 he;have HL:=zh (show bS C c.1 f.1=r by rw[HD.o,jK,zJ he]);have HX:=zh (show G=r from(fun hl hz=>S.o.trans qe2) HL.o he);exact qao
 obtain rfl:k=c.1.length:=zo;have S':=zh (show bS C c.1 f.1=0 by rw[v.o,oI C c.1 f.1 _ (zI _),zJ (by have:=f'.o;omega)]);clear hX v hk v';have S:=zh (show G=bS C c.2 f.2 from S.o.trans (by rw[S'.o];rfl));clear S';go_wp2;refine av [2,3,7] (fun q T wr=>∃k:Nat,k<=c.2.length/\k<=f.2.length/\q=c.2.length-k/\T=[.pointer (some ⟨w.heap.size,0,none⟩),.pointer (some ⟨w.heap.size+1,0,none⟩),.int .i64 (k:Int)]/\bS C c.2 f.2=bS C (c.2.drop k) (f.2.drop k)/\Own w m wr l []) ?_ ?_
 .exact qbl
 clear HO g0 g1 P O;rintro X z q T wr hX-⟨k,hk,v',rfl,rfl,F,D⟩;have v:=zh F;have HO:=zh D;simp[aX,lk];have g0:=Mem_cell_w D.ay p.o.1;have g1:=Mem_cell_w D.ay p.o.2;have P:=Mem_cell_lt D.ay p.o.1;have O:=Mem_cell_lt D.ay p.o.2;clear F D;by_cases hlt:k<c.2.length
 case pos=>
  have hlt':k<f.2.length:=by have:=I.o;omega
  obtain⟨b,off,rfl,h4⟩:=T'.o.1 qdX;obtain⟨b',off',rfl,e'⟩:=T'.o.2 qd3;obtain⟨cs,hl1,M,-,a'⟩:=B'.o.1 _ _ _ (h4 k hlt);obtain⟨s,hl2,L,-,Z⟩:=B'.o.1 _ _ _ (e' k hlt');have HD:=zh (v.o.trans (jW C c.2 f.2 k hlt hlt'));have g':=zh (fun w' (h:l.ay w')=>B'.o.2 cs s c.2[k] f.2[k] w' h a' Z);have HC1:=zh (fun(w':zW) (h:l.ay w') j u hj=>Mem_cell_w h (M j u hj));have HC2:=zh (fun(w':zW) (h:l.ay w') j u hj=>Mem_cell_w h (L j u hj));have V:=M 0 (cs[0]'zo) (yH _);have U:=L 0 (s[0]'zo) (yH _);clear h4 e' M L a' Z v;generalize C c.2[k] f.2[k]=r at*
  go_upto_region 14 with(fail)
  refine aR [2,3,7,8] (fun T w'=>T=[.pointer (some ⟨w.heap.size,0,none⟩),.pointer (some ⟨w.heap.size+1,0,none⟩),.int .i64 (k:Int),.int .i64 r]/\Own w m w' l []) ?_ ?_
  .intro Y hY;refine bz 11 6 (fun j=>[aD.is (·=.pointer (some ⟨w.heap.size,1,none⟩)),aD.is (·=.slice (some ⟨b,off,none⟩) c.2.length b2),aD.is (·=.int .i64 (k:Int)),aD.is (·=.pointer (some ⟨b,off+k*18,none⟩)),aD.is (·=.agg cs.toArray),aD.is (·=.pointer (some ⟨w.heap.size+1,1,none⟩)),aD.is (·=.slice (some ⟨b',off',none⟩) f.2.length b2'),aD.is (·=.int .i64 (k:Int)),aD.is (·=.pointer (some ⟨b',off'+k*18,none⟩)),aD.is (·=.agg s.toArray),aD.is (·=.int .i64 r)].getD j aD.any) zk zk ?_ ?_
   .intro i hi o l' a wr ho t;have HO2:=HO.o.dr.aP t.az;have y1:=Mem_cell_w HO2.ay p.o.1;have y2:=Mem_cell_w HO2.ay p.o.2;have y3:=Mem_cell_lt HO2.ay p.o.1;have y4:=Mem_cell_lt HO2.ay p.o.2;have y5:=Mem_cell_lt HO2.ay V;have y6:=Mem_cell_lt HO2.ay U;rcases(show i=0\/i=1\/i=2\/i=3\/i=4\/i=5\/i=6\/i=7\/i=8\/i=9\/i=10 by omega)with rfl|rfl|rfl|rfl|rfl|rfl|rfl|rfl|rfl|rfl|rfl
    .have e2:=t.k 2;exact qaa
    .have e65:zt a 65 _:=t.d 0 rfl;exact qaa
    .have e7:=t.k 7;exact qaa
    .have e66:zt a 66 _:=t.d 1 rfl;have e67:zt a 67 _:=t.d 2 rfl;exact qac
    .have e68:zt a 68 _:=t.d 3 rfl;exact qbW
    .have e3:=t.k 3;exact qaa
    .have e70:zt a 70 _:=t.d 5 rfl;exact qaa
    .have e7:=t.k 7;exact qaa
    .have e71:zt a 71 _:=t.d 6 rfl;have e72:zt a 72 _:=t.d 7 rfl;exact qac
    .have e73:zt a 73 _:=t.d 8 rfl;exact qbT
    .have e69:zt a 69 _:=t.d 4 rfl;have e74:zt a 74 _:=t.d 9 rfl;cases ho;refine we rfl rfl (g'.o _ HO2.ay) ?_;exact qab
   .intro l' a wr E;have e2:=E.keep 2 zk;have e3:=E.keep 3 zk;have e7:=E.keep 7 zk;have e75:a.tmps.getD 75 undef=.int .i64 r:=E.fact 10 _ zo rfl;have hZ:=HO.o.dr.aP E.az;obtain⟨t1,dd⟩:=a;obtain rfl:dd=[]:=E.defers;refine eF 11 zk (aJ rfl rfl (aN qd1 ?_));refine bY zk (hY.o _ _ qef ⟨?_,hZ⟩) _;have W:t1.size=79:=E.size;simp[W]at e2 e3 e7 e75;simp[e2,e3,e7,W]
  clear HO g' HC1 HC2 V U g0 g1 P O;rintro z2 T w2-⟨rfl,D⟩;simp[aX,lk];have HO:=zh D;clear D;by_cases he:r=0
  .subst he;have HL:=zh (show bS C c.2 f.2=bS C (c.2.drop (k+1)) (f.2.drop (k+1)) from HD.o);exact qar
  .have K:(r != 0)=true:=bne_iff_ne.2 he;have HL:=zh (show bS C c.2 f.2=r by rw[HD.o,jK,zJ he]);have HX:=zh (show G=r from(fun hl _=>S.o.trans hl) HL.o he);exact qao
 obtain rfl:k=c.2.length:=zo;have R':=zh (show bS C c.2 f.2=0 by rw[v.o,oI C c.2 f.2 _ (zI _),zJ (by have:=I.o;omega)]);clear hX v hk v';have HX:=zh (show G=0 from S.o.trans R'.o);clear S R';exact qbA
theorem Ja{n:Nat}(H:PO n):PO (n+1):=fun v v' s U m w hm S' hv hv' kd f'=>by
 obtain⟨m1,l1,c1,hO1⟩:=dM 33 (bu v s).toArray (Own.start hm);obtain⟨g,l2,c2,hO2⟩:=dM 33 (bu v' U).toArray hO1;simp only[bR]at c2;have K':=Mem.le_trans l1 l2;have Q:=S'.le K';have e1:bG g (n+1) s v:=hv.le K';have e2:bG g (n+1) U v':=hv'.le K';have e':=zh (show g.cell w.heap.size 0=some (.bool v.any)/\g.cell (w.heap.size+1) 0=some (.bool v'.any) from⟨Mem_cell_le l2 (c1 0 _ rfl),c2 0 _ rfl⟩);have B:=zh (show g.cell w.heap.size 7=some s.l/\g.cell (w.heap.size+1) 7=some U.l from⟨Mem_cell_le l2 (c1 7 _ rfl),c2 7 _ rfl⟩);have A:=zh (show g.cell w.heap.size 8=some s.s/\g.cell (w.heap.size+1) 8=some U.s from⟨Mem_cell_le l2 (c1 8 _ rfl),c2 8 _ rfl⟩);have HQ:=zh (show(∀j u,([.bool v.s.gY,.bool v.s.iF,.bool v.s.iZ,s.i,s.f,s.t]:List Value)[j]?=some u->g.cell w.heap.size (1+j)=some u)/\(∀j u,([.bool v'.s.gY,.bool v'.s.iF,.bool v'.s.iZ,U.i,U.f,U.t]:List Value)[j]?=some u->g.cell (w.heap.size+1) (1+j)=some u) from
  ⟨fun j u Z=>Mem_cell_le l2 (c1 _ u (BP Z)),fun j u Z=>c2 _ u (BP Z)⟩)
 have hSC:∀w',g.ay w'->zC 82 #[v.s.val s.i s.f s.t,v'.s.val U.i U.f U.t] w' fun e w2=>e=.returned (.int .i64 (YX v.s v'.s))/\Below w'.heap.size w' w2:=fun w' h=>
  (FT s.i s.f s.t v.s U.i U.f U.t v'.s 8 8 8 8 g w' h Q e1.1 e2.1 kd.le f'.le zD zD zD).mono fun e w2 ⟨c,g1,g2,g3⟩=>⟨by rw[g1,Tw g3 kd.snd.1.sc f'.snd.1.sc]<;>rfl,g2⟩
 unfold RS.val at hSC;have P':=zh hSC;clear hSC;have E':=zh (show(∀b o x,(fun b o d=>PI (bG g n) g b o d/\(sM n d/\d.2.length<=1)) b o x->∃cs:List Value,cs.length=2/\(∀j u,cs[j]?=some u->g.cell b (o+j)=some u)/\(∀u∈cs,u.oneCell'=true)/\(fun cs d=>(∃u J,cs=[u,J]/\bO (bG g n) g u d.1/\bO (bG g n) g J d.2)/\(sM n d/\d.2.length<=1)) cs x) /\
  (∀cs F x x' w',g.ay w'->(fun cs d=>(∃u J,cs=[u,J]/\bO (bG g n) g u d.1/\bO (bG g n) g J d.2)/\(sM n d/\d.2.length<=1)) cs x->(fun cs d=>(∃u J,cs=[u,J]/\bO (bG g n) g u d.1/\bO (bG g n) g J d.2)/\(sM n d/\d.2.length<=1)) F x'->zC 83 #[.agg cs.toArray,.agg F.toArray] w' fun e W'=>e=.returned (.int .i64 (Tj (dn n) x x'))/\Below w'.heap.size w' W') from⟨fun b o d hd=>by
  obtain⟨⟨u,J,h1,h2,h3,h4⟩,h5⟩:=hd;exact⟨[u,J],rfl,wW h1 h2,by simp[mG h3,mG h4],⟨u,J,rfl,h3,h4⟩,h5⟩,fun cs F d d' w' Z' h1 h2=>by
  obtain⟨⟨x,y,rfl,k1,k2⟩,k3⟩:=h1;obtain⟨⟨x',y',rfl,Y',X'⟩,L'⟩:=h2;exact Qv H x y x' y' d d' g w' Z' Q k1 k2 Y' X' k3.1 L'.1 k3.2 L'.2⟩)
 have hs1:=dJ e1.2.1 (fun c hc=>zi (kd.lc hc) (kd.snd.1.rest c hc));have hs1':=dJ e2.2.1 (fun c hc=>zi (f'.lc hc) (f'.snd.1.rest c hc));have D':=zh (show(∀b o x,(fun b o d=>PH (bG g n) g b o d/\sK n d) b o x->∃cs:List Value,cs.length=2/\(∀j u,cs[j]?=some u->g.cell b (o+j)=some u)/\(∀u∈cs,u.oneCell'=true)/\(fun cs d=>(∃u J,cs=[u,J]/\iy (bG g n) g u d.1/\gX (bG g n) g J d.2)/\sK n d) cs x) /\
  (∀cs F x x' w',g.ay w'->(fun cs d=>(∃u J,cs=[u,J]/\iy (bG g n) g u d.1/\gX (bG g n) g J d.2)/\sK n d) cs x->(fun cs d=>(∃u J,cs=[u,J]/\iy (bG g n) g u d.1/\gX (bG g n) g J d.2)/\sK n d) F x'->zC 85 #[.agg cs.toArray,.agg F.toArray] w' fun e W'=>e=.returned (.int .i64 (Wt (dn n) x x'))/\Below w'.heap.size w' W') from⟨fun b o d hd=>by
  obtain⟨⟨u,J,h1,h2,h3,h4⟩,h5⟩:=hd;exact⟨[u,J],rfl,wW h1 h2,by simp[mG h3,mG h4],⟨u,J,rfl,h3,h4⟩,h5⟩,fun cs F d d' w' Z' h1 h2=>by
  obtain⟨⟨x,y,rfl,k1,k2⟩,k3⟩:=h1;obtain⟨⟨x',y',rfl,Y',X'⟩,L'⟩:=h2;exact Lh H x y x' y' d d' g w' Z' Q k1 k2 Y' X' k3 L'⟩)
 have hs2:=dJ e1.2.2 (fun c hc=>kd.st hc);have hs2':=dJ e2.2.2 (fun c hc=>f'.st hc);obtain⟨a1,b1,U',p1,q1,s1⟩:=hs1;obtain⟨a1',b1',o',p1',q1',s1'⟩:=hs1';unfold maxLen at q1 q1';have R':=zh (zi s1 s1');obtain⟨a2,b2,T',p2,q2,s2⟩:=hs2;obtain⟨a2',b2',n',p2',q2',s2'⟩:=hs2';unfold maxLen at q2 q2';have Q':=zh (zi s2 s2');rw[U',o']at B;rw[T',n']at A;have W:=zh (show dn (n+1) v v'=jK (ng v.any v'.any) (jK (YX v.s v'.s) (jK (bS (Tj (dn n)) v.aU v'.aU) (bS (Wt (dn n)) v.aF v'.aF))) from rfl);have HO:=zh hO2;unfold Vl.val;clear hO1 hO2 c1 c2 l1 l2 K' hv hv' kd f' S' Q s1 s1' s2 s2' e1 e2 U' o' T' n';generalize hRES:dn (n+1) v v'=P at*
 generalize Tj (dn n)=CL at*
 generalize Wt (dn n)=CT at*
 generalize YX v.s v'.s=r0 at*
 generalize (bu v s).toArray=N at*
 generalize (bu v' U).toArray=N' at*
 clear hRES;generalize v.any=p at*
 generalize v'.any=q at*
 have g0:=Mem_cell_w HO.o.ay e'.o.1;have g1:=Mem_cell_w HO.o.ay e'.o.2;have O:=Mem_cell_lt HO.o.ay e'.o.1;have M:=Mem_cell_lt HO.o.ay e'.o.2;refine aj fun R hR=>?_
 go_enter func54,ntmps54
 by_cases hpq:p=q
 case neg=>
  cases p<;>cases q<;>simp at hpq
  .have HX:=zh (show P=1 from W.o);clear W P' E' D' R' Q';exact qbA
  .have HX:=zh (show P = -1 from W.o);clear W P' E' D' R' Q';exact qbA
 subst hpq;have W:=zh (show P=jK r0 (jK (bS CL v.aU v'.aU) (bS CT v.aF v'.aF)) from W.o.trans (by rw[Rs];rfl));have hpp:(p != p)=false:=by simp
 go_wp2_with (first
  |refine ae K3 rfl (.tmp 17) rfl rfl [.bool v.s.gY,.bool v.s.iF,.bool v.s.iZ,s.i,s.f,s.t] rfl (fun j u Z=>Mem_cell_w HO.o.ay (HQ.o.1 j u Z)) ?_
  | refine ae K3 rfl (.tmp 19) rfl rfl [.bool v'.s.gY,.bool v'.s.iF,.bool v'.s.iZ,U.i,U.f,U.t] rfl (fun j u Z=>Mem_cell_w HO.o.ay (HQ.o.2 j u Z)) ?_)
 refine(P'.o _ HO.o.ay).mono ?_;rintro e w1 ⟨rfl,hb1⟩;have HO1:=zh (HO.o.aP hb1);clear HO hb1 g0 g1 O M P' hpp;have HO:=zh HO1.o;clear HO1;by_cases M':r0=0
 case neg=>
  have hd:(r0 != 0)=true:=bne_iff_ne.2 M';have HX:=zh (show P=r0 from W.o.trans (by rw[jK,zJ M']));clear W M';exact qbA
 subst M';have W:=zh (show P=jK (bS CL v.aU v'.aU) (bS CT v.aF v'.aF) from W.o);go_wp2;refine av [2,3,6] (fun q T wr=>∃k:Nat,k<=v.aU.length/\k<=v'.aU.length/\q=v.aU.length-k/\T=[.pointer (some ⟨w.heap.size,0,none⟩),.pointer (some ⟨w.heap.size+1,0,none⟩),.int .i64 (k:Int)]/\bS CL v.aU v'.aU=bS CL (v.aU.drop k) (v'.aU.drop k)/\Own w m wr g []) ?_ ?_
 .exact qbl
 clear HO;rintro X z q T wr hX-⟨k,hk,hk',rfl,rfl,V,D⟩;have I:=zh V;have HO:=zh D;simp[aX,lk];have g0:=Mem_cell_w D.ay B.o.1;have g1:=Mem_cell_w D.ay B.o.2;have O:=Mem_cell_lt D.ay B.o.1;have M:=Mem_cell_lt D.ay B.o.2;clear V D;obtain⟨S,r'⟩:∃S:Bool,(S=true↔k<v.aU.length/\k<v'.aU.length):=⟨decide (k<v.aU.length/\k<v'.aU.length),zS⟩;have HBB:=zh r';clear r'
 go_upto_region 9 with(fail)
 refine aR [2,3,6,36] (fun T w'=>T=[.pointer (some ⟨w.heap.size,0,none⟩),.pointer (some ⟨w.heap.size+1,0,none⟩),.int .i64 (k:Int),.bool S]/\Own w m w' g []) ?_ ?_
 .intro Y hY;by_cases h1:k<v.aU.length
  .by_cases h2:k<v'.aU.length
   .have hb:S=true:=HBB.o.2 ⟨h1,h2⟩;exact qaf
   .have hb:S=false:=by cases S with|false=>rfl|true=>exact absurd (HBB.o.1 rfl).2 h2
    exact qaf
  .have hb:S=false:=by cases S with|false=>rfl|true=>exact absurd (HBB.o.1 rfl).1 h1
   exact qaf
 clear HO g0 g1 O M;rintro z5 T w5-⟨rfl,D⟩;have HO:=zh D;simp[aX,lk];have g0:=Mem_cell_w D.ay B.o.1;have g1:=Mem_cell_w D.ay B.o.2;have O:=Mem_cell_lt D.ay B.o.1;have M:=Mem_cell_lt D.ay B.o.2;clear D;cases S
 case true=>
  obtain⟨hlt,hlt'⟩:=HBB.o.1 rfl;obtain⟨b,off,rfl,h4⟩:=R'.o.1 qdX;obtain⟨b',K,rfl,t'⟩:=R'.o.2 qd3;obtain⟨cs,hl1,c',-,q'⟩:=E'.o.1 _ _ _ (h4 k hlt);obtain⟨F,hl2,a',-,p'⟩:=E'.o.1 _ _ _ (t' k hlt');have HD:=zh (I.o.trans (jW CL v.aU v'.aU k hlt hlt'));have A':=zh (fun w' (h:g.ay w')=>E'.o.2 cs F v.aU[k] v'.aU[k] w' h q' p');have C':=zh (fun(w':zW) (h:g.ay w') j u Z=>Mem_cell_w h (c' j u Z));have B':=zh (fun(w':zW) (h:g.ay w') j u Z=>Mem_cell_w h (a' j u Z));have l':=c' 0 (cs[0]'zo) (yH _);have k':=a' 0 (F[0]'zo) (yH _);clear h4 t' c' a' q' p' I;generalize CL v.aU[k] v'.aU[k]=r at*
  go_upto_region 11 with(fail)
  refine aR [2,3,6,7] (fun T w'=>T=[.pointer (some ⟨w.heap.size,0,none⟩),.pointer (some ⟨w.heap.size+1,0,none⟩),.int .i64 (k:Int),.int .i64 r]/\Own w m w' g []) ?_ ?_
  .intro Y hY;refine bz 11 6 (fun j=>[aD.is (·=.pointer (some ⟨w.heap.size,7,none⟩)),aD.is (·=.slice (some ⟨b,off,none⟩) v.aU.length b1),aD.is (·=.int .i64 (k:Int)),aD.is (·=.pointer (some ⟨b,off+k*2,none⟩)),aD.is (·=.agg cs.toArray),aD.is (·=.pointer (some ⟨w.heap.size+1,7,none⟩)),aD.is (·=.slice (some ⟨b',K,none⟩) v'.aU.length b1'),aD.is (·=.int .i64 (k:Int)),aD.is (·=.pointer (some ⟨b',K+k*2,none⟩)),aD.is (·=.agg F.toArray),aD.is (·=.int .i64 r)].getD j aD.any) zk zk ?_ ?_
   .intro i hi o V' a wr ho G;have C:=HO.o.dr.aP G.az;have y1:=Mem_cell_w C.ay B.o.1;have y2:=Mem_cell_w C.ay B.o.2;have y3:=Mem_cell_lt C.ay B.o.1;have y4:=Mem_cell_lt C.ay B.o.2;have y5:=Mem_cell_lt C.ay l';have y6:=Mem_cell_lt C.ay k';rcases(show i=0\/i=1\/i=2\/i=3\/i=4\/i=5\/i=6\/i=7\/i=8\/i=9\/i=10 by omega)with rfl|rfl|rfl|rfl|rfl|rfl|rfl|rfl|rfl|rfl|rfl
    .have e2:=G.k 2;exact qaa
    .have e39:zt a 39 _:=G.d 0 rfl;exact qaa
    .have e6:=G.k 6;exact qaa
    .have e40:zt a 40 _:=G.d 1 rfl;have e41:zt a 41 _:=G.d 2 rfl;exact qac
    .have e42:zt a 42 _:=G.d 3 rfl;cases ho;refine aJ rfl rfl (aN (PP.exec (b:=b) (off:=off+k*2) rfl zg hl1 (C'.o _ C.ay)) ⟨_,rfl,zR _ _,rfl⟩)
    .have e3:=G.k 3;exact qaa
    .have e44:zt a 44 _:=G.d 5 rfl;exact qaa
    .have e6:=G.k 6;exact qaa
    .have e45:zt a 45 _:=G.d 6 rfl;have e46:zt a 46 _:=G.d 7 rfl;exact qac
    .have e47:zt a 47 _:=G.d 8 rfl;cases ho;refine aJ rfl rfl (aN (PP.exec (b:=b') (off:=K+k*2) rfl zg hl2 (B'.o _ C.ay)) ⟨_,rfl,zR _ _,rfl⟩)
    .have e43:zt a 43 _:=G.d 4 rfl;have e48:zt a 48 _:=G.d 9 rfl;cases ho;refine we rfl rfl (A'.o _ C.ay) ?_;exact qab
   .intro V' a wr E;have e2:=E.keep 2 zk;have e3:=E.keep 3 zk;have e6:=E.keep 6 zk;have e49:a.tmps.getD 49 undef=.int .i64 r:=E.fact 10 _ zo rfl;have hZ:=HO.o.dr.aP E.az;obtain⟨t1,dd⟩:=a;obtain rfl:dd=[]:=E.defers;refine eF 11 zk (aJ rfl rfl (aN qd1 ?_));refine bY zk (hY.o _ _ qef ⟨?_,hZ⟩) _;have m':t1.size=102:=E.size;simp[m']at e2 e3 e6 e49;simp[e2,e3,e6,m']
  clear HO A' C' B' l' k' g0 g1 O M;rintro z2 T w2-⟨rfl,D⟩;simp[aX,lk];have HO:=zh D;clear D;by_cases he:r=0
  .subst he;have HL:=zh (show bS CL v.aU v'.aU=bS CL (v.aU.drop (k+1)) (v'.aU.drop (k+1)) from HD.o);exact qar
  .have hd:(r != 0)=true:=bne_iff_ne.2 he;have HL:=zh (show bS CL v.aU v'.aU=r by rw[HD.o,jK,zJ he]);have HX:=zh (show P=r from(fun hl hz=>W.o.trans qe2) HL.o he);exact qao
 have HL1:=zh (show bS CL v.aU v'.aU=kV v.aU.length v'.aU.length from I.o.trans qfp);clear hX I HBB hk hk';by_cases L:v.aU.length=v'.aU.length
 case neg=>
  have hne:((v.aU.length:Int) != (v'.aU.length:Int))=true:=by simp;omega
  have HX:=zh (show P=kV v.aU.length v'.aU.length from(fun hz=>W.o.trans (by rw[HL1.o,jK,zJ hz])) (fun e=>L qee));clear L
  go_wp2_with (go_at_call 84;refine(lZ _ _ _).mono ?_;rintro e w3 ⟨rfl,hb3⟩)
  exact qaD
 have hne:((v.aU.length:Int) != (v'.aU.length:Int))=false:=by simp[L]
 have HLE1:=zh L;clear L;have W:=zh (show P=bS CT v.aF v'.aF from W.o.trans (by rw[HL1.o,BK HLE1.o];rfl));clear HL1;go_wp2;refine av [2,3,8] (fun q T wr=>∃k:Nat,k<=v.aF.length/\k<=v'.aF.length/\q=v.aF.length-k/\T=[.pointer (some ⟨w.heap.size,0,none⟩),.pointer (some ⟨w.heap.size+1,0,none⟩),.int .i64 (k:Int)]/\bS CT v.aF v'.aF=bS CT (v.aF.drop k) (v'.aF.drop k)/\Own w m wr g []) ?_ ?_
 .exact qbl
 clear HO g0 g1 O M hne;rintro X z q T wr hX-⟨k,hk,hk',rfl,rfl,V,D⟩;have I:=zh V;have HO:=zh D;simp[aX,lk];have g0:=Mem_cell_w D.ay A.o.1;have g1:=Mem_cell_w D.ay A.o.2;have O:=Mem_cell_lt D.ay A.o.1;have M:=Mem_cell_lt D.ay A.o.2;clear V D;obtain⟨S,r'⟩:∃S:Bool,(S=true↔k<v.aF.length/\k<v'.aF.length):=⟨decide (k<v.aF.length/\k<v'.aF.length),zS⟩;have HBB:=zh r';clear r'
 go_upto_region 17 with(fail)
 refine aR [2,3,8,78] (fun T w'=>T=[.pointer (some ⟨w.heap.size,0,none⟩),.pointer (some ⟨w.heap.size+1,0,none⟩),.int .i64 (k:Int),.bool S]/\Own w m w' g []) ?_ ?_
 .intro Y hY;by_cases h1:k<v.aF.length
  .by_cases h2:k<v'.aF.length
   .have hb:S=true:=HBB.o.2 ⟨h1,h2⟩;exact qaf
   .have hb:S=false:=by cases S with|false=>rfl|true=>exact absurd (HBB.o.1 rfl).2 h2
    exact qaf
  .have hb:S=false:=by cases S with|false=>rfl|true=>exact absurd (HBB.o.1 rfl).1 h1
   exact qaf
 clear HO g0 g1 O M;rintro z5 T w5-⟨rfl,D⟩;have HO:=zh D;simp[aX,lk];have g0:=Mem_cell_w D.ay A.o.1;have g1:=Mem_cell_w D.ay A.o.2;have O:=Mem_cell_lt D.ay A.o.1;have M:=Mem_cell_lt D.ay A.o.2;clear D;cases S
 case true=>
  obtain⟨hlt,hlt'⟩:=HBB.o.1 rfl;obtain⟨b,off,rfl,h4⟩:=Q'.o.1 qdX;obtain⟨b',K,rfl,t'⟩:=Q'.o.2 qd3;obtain⟨cs,hl1,c',-,q'⟩:=D'.o.1 _ _ _ (h4 k hlt);obtain⟨F,hl2,a',-,p'⟩:=D'.o.1 _ _ _ (t' k hlt');have HD:=zh (I.o.trans (jW CT v.aF v'.aF k hlt hlt'));have A':=zh (fun w' (h:g.ay w')=>D'.o.2 cs F v.aF[k] v'.aF[k] w' h q' p');have C':=zh (fun(w':zW) (h:g.ay w') j u Z=>Mem_cell_w h (c' j u Z));have B':=zh (fun(w':zW) (h:g.ay w') j u Z=>Mem_cell_w h (a' j u Z));have l':=c' 0 (cs[0]'zo) (yH _);have k':=a' 0 (F[0]'zo) (yH _);clear h4 t' c' a' q' p' I;generalize CT v.aF[k] v'.aF[k]=r at*
  go_upto_region 19 with(fail)
  refine aR [2,3,8,9] (fun T w'=>T=[.pointer (some ⟨w.heap.size,0,none⟩),.pointer (some ⟨w.heap.size+1,0,none⟩),.int .i64 (k:Int),.int .i64 r]/\Own w m w' g []) ?_ ?_
  .intro Y hY;refine bz 11 6 (fun j=>[aD.is (·=.pointer (some ⟨w.heap.size,8,none⟩)),aD.is (·=.slice (some ⟨b,off,none⟩) v.aF.length b2),aD.is (·=.int .i64 (k:Int)),aD.is (·=.pointer (some ⟨b,off+k*2,none⟩)),aD.is (·=.agg cs.toArray),aD.is (·=.pointer (some ⟨w.heap.size+1,8,none⟩)),aD.is (·=.slice (some ⟨b',K,none⟩) v'.aF.length b2'),aD.is (·=.int .i64 (k:Int)),aD.is (·=.pointer (some ⟨b',K+k*2,none⟩)),aD.is (·=.agg F.toArray),aD.is (·=.int .i64 r)].getD j aD.any) zk zk ?_ ?_
   .intro i hi o V' a wr ho G;have C:=HO.o.dr.aP G.az;have y1:=Mem_cell_w C.ay A.o.1;have y2:=Mem_cell_w C.ay A.o.2;have y3:=Mem_cell_lt C.ay A.o.1;have y4:=Mem_cell_lt C.ay A.o.2;have y5:=Mem_cell_lt C.ay l';have y6:=Mem_cell_lt C.ay k';rcases(show i=0\/i=1\/i=2\/i=3\/i=4\/i=5\/i=6\/i=7\/i=8\/i=9\/i=10 by omega)with rfl|rfl|rfl|rfl|rfl|rfl|rfl|rfl|rfl|rfl|rfl
    .have e2:=G.k 2;exact qaa
    .have e81:zt a 81 _:=G.d 0 rfl;exact qaa
    .have e8:=G.k 8;exact qaa
    .have e82:zt a 82 _:=G.d 1 rfl;have e83:zt a 83 _:=G.d 2 rfl;exact qac
    .have e84:zt a 84 _:=G.d 3 rfl;cases ho;refine aJ rfl rfl (aN (PQ.exec (b:=b) (off:=off+k*2) rfl zg hl1 (C'.o _ C.ay)) ⟨_,rfl,zR _ _,rfl⟩)
    .have e3:=G.k 3;exact qaa
    .have e86:zt a 86 _:=G.d 5 rfl;exact qaa
    .have e8:=G.k 8;exact qaa
    .have e87:zt a 87 _:=G.d 6 rfl;have e88:zt a 88 _:=G.d 7 rfl;exact qac
    .have e89:zt a 89 _:=G.d 8 rfl;cases ho;refine aJ rfl rfl (aN (PQ.exec (b:=b') (off:=K+k*2) rfl zg hl2 (B'.o _ C.ay)) ⟨_,rfl,zR _ _,rfl⟩)
    .have e85:zt a 85 _:=G.d 4 rfl;have e90:zt a 90 _:=G.d 9 rfl;cases ho;refine we rfl rfl (A'.o _ C.ay) ?_;exact qab
   .intro V' a wr E;have e2:=E.keep 2 zk;have e3:=E.keep 3 zk;have e8:=E.keep 8 zk;have e91:a.tmps.getD 91 undef=.int .i64 r:=E.fact 10 _ zo rfl;have hZ:=HO.o.dr.aP E.az;obtain⟨t1,dd⟩:=a;obtain rfl:dd=[]:=E.defers;refine eF 11 zk (aJ rfl rfl (aN qd1 ?_));refine bY zk (hY.o _ _ qef ⟨?_,hZ⟩) _;have m':t1.size=102:=E.size;simp[m']at e2 e3 e8 e91;simp[e2,e3,e8,m']
  clear HO A' C' B' l' k' g0 g1 O M;rintro z2 T w2-⟨rfl,D⟩;simp[aX,lk];have HO:=zh D;clear D;by_cases he:r=0
  .subst he;have HL:=zh (show bS CT v.aF v'.aF=bS CT (v.aF.drop (k+1)) (v'.aF.drop (k+1)) from HD.o);exact qar
  .have hd:(r != 0)=true:=bne_iff_ne.2 he;have HL:=zh (show bS CT v.aF v'.aF=r by rw[HD.o,jK,zJ he]);have HX:=zh (show P=r from(fun hl _=>W.o.trans hl) HL.o he);exact qao
 have HL2:=zh (show bS CT v.aF v'.aF=kV v.aF.length v'.aF.length from I.o.trans qfp);clear hX I HBB hk hk';have HX:=zh (show P=kV v.aF.length v'.aF.length from W.o.trans HL2.o);clear W HL2
 go_wp2_with (go_at_call 84;refine(lZ _ _ _).mono ?_;rintro e w3 ⟨rfl,hb3⟩)
 exact qaD
theorem Az:∀n,PO n
 |0=>fun _ _ _ _ _ _ _ _ h=>h.elim
 |n+1=>Ja (Az n)
end Cl
