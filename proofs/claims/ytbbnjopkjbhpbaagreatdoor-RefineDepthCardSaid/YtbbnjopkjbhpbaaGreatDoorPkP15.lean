/- Lemmas for the proofs of chapter 11. -/
import Derived.Shelf.SlSortCmp.NoneTotal
import Derived.Test.YtbbnjopkjbhpbaaGreatDoorPkP14
import Derived.Test.YtbbnjopkjbhpbaaGreatDoorPkP12
import Derived.Test.YtbbnjopkjbhpbaaGreatDoorPkP13
set_option maxRecDepth 100000
set_option maxHeartbeats 16000000
namespace Cl
open Go Go.RowKit Go.Proofs Go.Sort Tryz
theorem azi{α:Type}{p:α->Prop}{C:α->α->Int}(hC:kw p C){Rp:List Value->α->Prop}{w0 w:zW}{m mk:Mem}{L:List bA}{t:TypeId}{v:zV}{l:List α}{xs:List Value}(h:Own w0 m w mk (.row v t 2 l.length xs::L))(hx:lw 2 Rp xs l)(hp:∀x∈l,p x)(hn:l.Nodup)
(g:Nat)(c:Array Value)(G:∀args w,(callFunc g args).run prog w=.ok (.enter g args) w)(E:∀cs r x s w',mk.ay w'->x∈l->s∈l->Rp cs x->Rp r s->zC g (#[.agg cs.toArray,.agg r.toArray]++c) w' fun e u=>e=.returned (.int .i64 (C x s))/\Below w'.heap.size w' u)(hl:l.length<4611686018427387904):
 zC 128 #[v,.func (.func g) #[] c] w fun e w'=>e=.returned (.tuple #[])/\∃f,lw 2 Rp f (gJ C l)/\Own w0 m w' mk (.row v t 2 l.length f::L):=by
 obtain⟨va,k,rfl⟩:=bz h.row;by_cases D:l=[]
 .subst D;have:=AnyF.slices_SortFunc_none { Tryz.fz8 with } va k (.func (.func g) #[] c) w;refine Calls.mono (show zC 128 #[.slice va 0 k,.func (.func g) #[] c] w _ from this) ?_;exact qcq
 have o:0<l.length:=yY.2 D;obtain⟨gb,rfl⟩:∃gb,va=some ⟨gb,0,none⟩:=by
  rcases h.row.2 with⟨e,-⟩|⟨gb,K,J,e,-⟩
  .injection e with _ e;omega
  .exact qdu
 obtain⟨css,H,e2,e3⟩:=hx.ex;have z:gb<w.heap.size:=(World.ownsRow.lt h.row _ rfl).2;have F:Inhabited (Fin l.length):=⟨⟨0,o⟩⟩;have hk:∀i:Fin l.length,(css[i.val]'qdX).length=2:=fun i=>(e3 i.val qdX i.isLt).1;have A:xs=((Array.ofFn (n:=l.length) id).toList.map fun i:Fin l.length=>css[i.val]'qdX).flatten:=by
  rw[H]
  congr 1
  exact qc0
 have hsz:(Array.ofFn (n:=l.length) id).size=l.length:=by simp
 have h':Own w0 m w mk (.row (.slice (some ⟨gb,0,none⟩) (Array.ofFn (n:=l.length) id).size k) t 2 (Array.ofFn (n:=l.length) id).size ((Array.ofFn (n:=l.length) id).toList.map fun i:Fin l.length=>css[i.val]'qdX).flatten::L):=by
  rw[hsz,<-A];exact h
 have d:=AnyQ.slices_SortFunc Tryz.fz8 2 Tryz.isAgg50 Tryz.sizeOf50 (fun i:Fin l.length=>css[i.val]'qdX) hk (fun i=>(e3 i.val qdX i.isLt).2.1) (fun i j=>C l[i] l[j]) (BV hC hp) g c gb 0 k (Array.ofFn id) w
  G (fun q os I B x y=>Af (E _ _ _ _ _ (sort_own' _ hk zo h' I B q os).ay (zF x.isLt) (zF y.isLt) (e3 x.val qeQ x.isLt).2.2 (e3 y.val qeP y.isLt).2.2)) (row_holds' _ hk zo h'.row) z qeY
 rw[hsz]at d;refine Calls.mono (show zC 128 #[.slice (some ⟨gb,0,none⟩) l.length k,.func (.func g) #[] c] w _ from d) ?_;exact qgy
theorem azm{α:Type}{p:α->Prop}{C:α->α->Int}(hC:kw p C){Rp:List Value->α->Prop}{w0 w:zW}{m mk:Mem}{L:List bA}{t:TypeId}{v:zV}{l:List α}{xs:List Value}(h:Own w0 m w mk (.row v t 2 l.length xs::L))(hx:lw 2 Rp xs l)(hp:∀x∈l,p x)(hn:l.Nodup)
(g:Nat)(c:Array Value)(G:∀args w,(callFunc g args).run prog w=.ok (.enter g args) w)(E:∀cs r x s w',mk.ay w'->x∈l->s∈l->Rp cs x->Rp r s->zC g (#[.agg cs.toArray,.agg r.toArray]++c) w' fun e u=>e=.returned (.int .i64 (C x s))/\Below w'.heap.size w' u)(hl:l.length<4611686018427387904):
 zC 131 #[v,.func (.func g) #[] c] w fun e w'=>e=.returned (.tuple #[])/\∃f,lw 2 Rp f (gJ C l)/\Own w0 m w' mk (.row v t 2 l.length f::L):=by
 obtain⟨va,k,rfl⟩:=bz h.row;by_cases D:l=[]
 .subst D;have:=AnyF.slices_SortFunc_none { Tryz.gza with } va k (.func (.func g) #[] c) w;refine Calls.mono (show zC 131 #[.slice va 0 k,.func (.func g) #[] c] w _ from this) ?_;exact qcq
 have o:0<l.length:=yY.2 D;obtain⟨gb,rfl⟩:∃gb,va=some ⟨gb,0,none⟩:=by
  rcases h.row.2 with⟨e,-⟩|⟨gb,K,J,e,-⟩
  .injection e with _ e;omega
  .exact qdu
 obtain⟨css,H,e2,e3⟩:=hx.ex;have z:gb<w.heap.size:=(World.ownsRow.lt h.row _ rfl).2;have F:Inhabited (Fin l.length):=⟨⟨0,o⟩⟩;have hk:∀i:Fin l.length,(css[i.val]'qdX).length=2:=fun i=>(e3 i.val qdX i.isLt).1;have A:xs=((Array.ofFn (n:=l.length) id).toList.map fun i:Fin l.length=>css[i.val]'qdX).flatten:=by
  rw[H]
  congr 1
  exact qc0
 have hsz:(Array.ofFn (n:=l.length) id).size=l.length:=by simp
 have h':Own w0 m w mk (.row (.slice (some ⟨gb,0,none⟩) (Array.ofFn (n:=l.length) id).size k) t 2 (Array.ofFn (n:=l.length) id).size ((Array.ofFn (n:=l.length) id).toList.map fun i:Fin l.length=>css[i.val]'qdX).flatten::L):=by
  rw[hsz,<-A];exact h
 have d:=AnyQ.slices_SortFunc Tryz.gza 2 Tryz.isAgg62 Tryz.sizeOf62 (fun i:Fin l.length=>css[i.val]'qdX) hk (fun i=>(e3 i.val qdX i.isLt).2.1) (fun i j=>C l[i] l[j]) (BV hC hp) g c gb 0 k (Array.ofFn id) w
  G (fun q os I B x y=>Af (E _ _ _ _ _ (sort_own' _ hk zo h' I B q os).ay (zF x.isLt) (zF y.isLt) (e3 x.val qeQ x.isLt).2.2 (e3 y.val qeP y.isLt).2.2)) (row_holds' _ hk zo h'.row) z qeY
 rw[hsz]at d;refine Calls.mono (show zC 131 #[.slice (some ⟨gb,0,none⟩) l.length k,.func (.func g) #[] c] w _ from d) ?_;exact qgy
theorem azk{α:Type}{p:α->Prop}{C:α->α->Int}(hC:kw p C){Rp:List Value->α->Prop}{w0 w:zW}{m mk:Mem}{L:List bA}{t:TypeId}{v:zV}{l:List α}{xs:List Value}(h:Own w0 m w mk (.row v t 19 l.length xs::L))(hx:lw 19 Rp xs l)(hp:∀x∈l,p x)(hn:l.Nodup)
(g:Nat)(c:Array Value)(G:∀args w,(callFunc g args).run prog w=.ok (.enter g args) w)(E:∀cs r x s w',mk.ay w'->x∈l->s∈l->Rp cs x->Rp r s->zC g (#[.agg cs.toArray,.agg r.toArray]++c) w' fun e u=>e=.returned (.int .i64 (C x s))/\Below w'.heap.size w' u)(hl:l.length<4611686018427387904):
 zC 125 #[v,.func (.func g) #[] c] w fun e w'=>e=.returned (.tuple #[])/\∃f,lw 19 Rp f (gJ C l)/\Own w0 m w' mk (.row v t 19 l.length f::L):=by
 obtain⟨va,k,rfl⟩:=bz h.row;by_cases D:l=[]
 .subst D;have:=AnyF.slices_SortFunc_none { Tryz.fz9 with } va k (.func (.func g) #[] c) w;refine Calls.mono (show zC 125 #[.slice va 0 k,.func (.func g) #[] c] w _ from this) ?_;exact qcq
 have o:0<l.length:=yY.2 D;obtain⟨gb,rfl⟩:∃gb,va=some ⟨gb,0,none⟩:=by
  rcases h.row.2 with⟨e,-⟩|⟨gb,K,J,e,-⟩
  .injection e with _ e;omega
  .exact qdu
 obtain⟨css,H,e2,e3⟩:=hx.ex;have z:gb<w.heap.size:=(World.ownsRow.lt h.row _ rfl).2;have F:Inhabited (Fin l.length):=⟨⟨0,o⟩⟩;have hk:∀i:Fin l.length,(css[i.val]'qdX).length=19:=fun i=>(e3 i.val qdX i.isLt).1;have A:xs=((Array.ofFn (n:=l.length) id).toList.map fun i:Fin l.length=>css[i.val]'qdX).flatten:=by
  rw[H]
  congr 1
  exact qc0
 have hsz:(Array.ofFn (n:=l.length) id).size=l.length:=by simp
 have h':Own w0 m w mk (.row (.slice (some ⟨gb,0,none⟩) (Array.ofFn (n:=l.length) id).size k) t 19 (Array.ofFn (n:=l.length) id).size ((Array.ofFn (n:=l.length) id).toList.map fun i:Fin l.length=>css[i.val]'qdX).flatten::L):=by
  rw[hsz,<-A];exact h
 have d:=AnyQ.slices_SortFunc Tryz.fz9 19 Tryz.isAgg68 Tryz.sizeOf68 (fun i:Fin l.length=>css[i.val]'qdX) hk (fun i=>(e3 i.val qdX i.isLt).2.1) (fun i j=>C l[i] l[j]) (BV hC hp) g c gb 0 k (Array.ofFn id) w
  G (fun q os I B x y=>Af (E _ _ _ _ _ (sort_own' _ hk zo h' I B q os).ay (zF x.isLt) (zF y.isLt) (e3 x.val qeQ x.isLt).2.2 (e3 y.val qeP y.isLt).2.2)) (row_holds' _ hk zo h'.row) z qeY
 rw[hsz]at d;refine Calls.mono (show zC 125 #[.slice (some ⟨gb,0,none⟩) l.length k,.func (.func g) #[] c] w _ from d) ?_;exact qgy
end Cl
namespace Cl
open Go Go.RowKit Go.Proofs Tryz
theorem bq.df{m:Mem}{n:Nat}{x:Sl}{v:Vl}(k:bq m n x v):∃o e l d j c h b g a,x=⟨.slice o v.s.i.length e,.slice l v.s.f.length d,.slice j v.s.t.length c,.slice h v.aN.length b,.slice g v.aA.length a⟩ /\
 v.s.i.length<=maxLen/\v.s.f.length<=maxLen/\v.s.t.length<=maxLen/\v.aN.length<=maxLen/\v.aA.length<=maxLen:=by
 cases n with
 |zero=>exact k.elim
 |succ n=>
  obtain⟨⟨⟨o,e,w,M,H,-⟩,⟨l,d,u,L,G,-⟩,⟨j,c,r,K,F,-⟩⟩,⟨h,b,q,J,E,-⟩,⟨g,a,p,I,D,-⟩⟩:=k;obtain⟨C,B,A,z,y⟩:=x;simp only at w u r q p;subst w u r q p;exact⟨o,e,l,d,j,c,h,b,g,a,rfl,zo,zo,zo,zo,zo⟩
theorem bq.sc{m:Mem}{n:Nat}{x:Sl}{v:Vl}(k:bq m n x v):dD m x.i x.f x.t v.s:=by
 cases n with
 |zero=>exact k.elim
 |succ n=>exact k.1
theorem FP(a b:Bool)(w:zW):zX 221 #[.bool a,.bool b] w (.int .i64 (BB a b)):=by
 refine au fun R hR=>?_;cases a<;>cases b
 all_goals
  go_enter func221,ntmps221
  go_wp2;exact qb8
theorem azL(s:RS):tf (s=cK)=(!s.dI && !s.dM && !s.dO&&decide ((s.i.length:Int)+s.f.length+s.t.length=0)):=by
 rw[Bool.eq_iff_iff];simp only[xG,Bool.not_eq_true',decide_eq_true_eq,kF];constructor
 .rintro rfl;exact⟨⟨⟨rfl,rfl⟩,rfl⟩,rfl⟩
 .rintro⟨⟨⟨g,e⟩,d⟩,h⟩;obtain⟨a,b,c,i,f,t⟩:=s;simp only at g e d h;subst g e d;rw[yM (show i.length=0 by omega),yM (show f.length=0 by omega),yM (show t.length=0 by omega)]
  rfl
theorem FN(b c a:zV)(s:RS)(m:Mem)(w:zW)(h:dD m b c a s)(z:s.i.length<=1000000/\s.f.length<=1000000/\s.t.length<=1000000):
 zX 33 #[s.val b c a] w (.bool (tf (s=cK))):=by
 rw[azL];obtain⟨⟨F,C,rfl,y,q,-⟩,⟨E,B,rfl,x,p,-⟩,⟨D,A,rfl,v,n,-⟩⟩:=h;unfold maxLen at q p n;unfold RS.val;generalize s.dI=l;generalize s.dM=k;generalize s.dO=j;generalize s.i.length=g at*
 generalize s.f.length=d at*
 generalize s.t.length=r at*
 refine au fun R u=>?_;cases l<;>cases k<;>cases j
 all_goals
  go_enter func33,ntmps33
  go_wp2;exact u.o _ _ ⟨aR (by first|rfl|(simp[wrap64_id (show -9223372036854775808<=(g:Int)+d by omega) zo,wrap64_id (show -9223372036854775808<=(g:Int)+d+r by omega) zo,beq_eq_decide])),cu (zR _ _) _⟩
theorem jZ:fB prog 48 35 18 272:=⟨underlying48,zo,by
 obtain⟨i,d,c,b,a⟩:=info_parts (P:=prog) (e:=35) (z:=.agg oz) (size:=18) (bytes:=272) zk;exact⟨i,_,d,c,b,a,rfl⟩⟩
theorem qD:∀w,(zeroValue 35).run prog w=.ok (.agg oz) w:=Tryz.zeroValue35
theorem fzF(u Z:zV)(c:St)(m:Mem)(n:Nat)(w:zW)(hm:m.ay w)(J:gN (bq m n) m u c.1)(I:gP (bq m n) m Z c.2)(d':c.1.length+c.2.length<=1048576):
 zC 163 #[.agg #[u,Z]] w fun e w'=>∃r,e=.returned r/\zB w w'/\bG (bq (m.grow w w') n) (m.grow w w') r (bN c):=by
 obtain⟨S,P,rfl,p1,q1,k1⟩:=J;obtain⟨Q,O,rfl,p2,q2,k2⟩:=I;unfold maxLen at q1 q2;have a:=(Own.start hm).al #[.slice S c.1.length P,.slice Q c.2.length O] 62;have HK:=zh (zi k1 k2);have s:=zh (a.fC 35 18);clear a k1 k2;have HE:=zh (show bN c=c.1.map (·.2)++c.2.map (·.2) from rfl);generalize bN c=SV at*
 generalize c.2=g at*
 generalize c.1=f at*
 refine au fun R hR=>?_
 go_enter func163,ntmps163
 go_wp2;refine aC [1,3,9,10,11] (fun q F E=>∃(i:Nat) (v:zV) (xs:List Value),i<=f.length/\q=f.length-i/\F=[.pointer (some ⟨w.heap.size,0,none⟩),v,.slice S f.length P,.int .i64 (f.length:Int),.int .i64 (i:Int)]/\kW (bq m n) xs ((f.take i).map (·.2)) /\
  Own w m E m [.row v 35 18 i xs,.obj w.heap.size 62 #[.slice S f.length P,.slice Q g.length O]]) ?_ ?_
 .exact⟨_,0,_,[],zG _,rfl,rfl,.nil _,s.o⟩
 clear s;rintro X z q F E hX-⟨i,v,xs,hi,rfl,rfl,t,a⟩;simp[bB,lk];have g0:=a.av.obj.c 0;have g1:=a.av.obj.c 1;have gl:=a.av.obj.lt;by_cases hlt:i<f.length
 .obtain⟨b,off,rfl,H⟩:=HK.o.1 qdP;obtain⟨x,y,D,C,B⟩:=(H i hlt).cells;have W:=Mem_cell_lt a.ay (D 0 _ rfl);have L:=zh (fun j u hj=>Mem_cell_w a.ay (D j u hj));have J:=fZ C B;have I:=mV C B;have k:=t.push C B;rw[show(f.take i).map (·.2)++[f[i].2]=(f.take (i+1)).map (·.2)by rw[zH hlt,yI];rfl]at k;have hl:(dC f[i].2 x y).length=18:=rfl;have hl2:(qI f[i] x y).length=20:=rfl;have K:=zh (fun j u=>@qH f[i] x y j u);have HV:=zh k;generalize dC f[i].2 x y=N at*
  generalize qI f[i] x y=M at*
  have s:=zh (a.al SG 82);clear a t k C B D H
  go_wp2_with (first
   |refine aj uh rfl (.tmp 13) rfl rfl M hl2 L.o ?_
   | refine aB uh rfl (.tmp 5) (.tmp 14) rfl (cs:=M.toArray) rfl rfl rfl qdZ (fun u V=>I u V) s.o.obj ?_)
  intro T p A;have d:=s.o.aW p A;have g0:=d.aP.obj.c 0;have g1:=d.aP.obj.c 1;have gl:=d.obj.lt;have Y:=zh (p.sub (o:=2) (cs:=N) fun j u hj=>by simpa using K.o j u hj);have HO1:=zh (d.tail.al N.toArray 35);clear s d p A L K
  go_wp2_with (first
   |refine aj dU rfl (.tmp 16) rfl rfl N hl Y.o ?_
   |refine gu jZ dU qD rfl zo rfl (.tmp 17) rfl (cs:=N.toArray) rfl qdY ?_
   | (at_builtin;refine aT jZ rfl (.tmp 15) (.tmp 18) rfl v i xs rfl HO1.o.av.row ⟨T.heap.size,0,none⟩ 1 1 N rfl hl qe9 J qdR zo ?_))
  exact qg9
 .obtain rfl:i=f.length:=zo;rw[yG]at t;have HV:=zh t;have s:=zh a;clear a t hX;go_wp2;refine aC [1,3,22,23,24] (fun q F E=>∃(i:Nat) (v:zV) (xs:List Value),i<=g.length/\q=g.length-i/\F=[.pointer (some ⟨w.heap.size,0,none⟩),v,.slice Q g.length O,.int .i64 (g.length:Int),.int .i64 (i:Int)]/\kW (bq m n) xs (f.map (·.2)++(g.take i).map (·.2)) /\
   Own w m E m [.row v 35 18 (f.length+i) xs,.obj w.heap.size 62 #[.slice S f.length P,.slice Q g.length O]]) ?_ ?_
  .exact⟨_,0,_,xs,zG _,rfl,rfl,by simpa using HV.o,s.o⟩
  clear s HV g0 g1 gl;rintro X z q F E hX-⟨i,v,xs,hi,rfl,rfl,t,a⟩;simp[bB,lk];have g0:=a.av.obj.c 0;have g1:=a.av.obj.c 1;have gl:=a.av.obj.lt;by_cases hlt:i<g.length
  .obtain⟨b,off,rfl,H⟩:=HK.o.2 qdP;obtain⟨U,x,y,G,D,C,B⟩:=(H i hlt).cells;have W:=Mem_cell_lt a.ay (D 0 _ rfl);have L:=zh (fun j u hj=>Mem_cell_w a.ay (D j u hj));have J:=fZ C B;have I:=nU G C B;have k:=t.push C B;rw[show f.map (·.2)++(g.take i).map (·.2)++[g[i].2]=f.map (·.2)++(g.take (i+1)).map (·.2)by rw[zH hlt,yI,xD];rfl]at k;have hl:(dC g[i].2 x y).length=18:=rfl;have hl2:(ow g[i] U x y).length=19:=rfl;have K:=zh (fun j u=>@kZ g[i] U x y j u);have HV:=zh k;generalize dC g[i].2 x y=N at*
   generalize ow g[i] U x y=M at*
   have s:=zh (a.al SB 68);clear a t k C B D H G
   go_wp2_with (first
    |refine aj sw rfl (.tmp 26) rfl rfl M hl2 L.o ?_
    | refine aB sw rfl (.tmp 7) (.tmp 27) rfl (cs:=M.toArray) rfl rfl rfl qdZ (fun u V=>I u V) s.o.obj ?_)
   intro T p A;have d:=s.o.aW p A;have g0:=d.aP.obj.c 0;have g1:=d.aP.obj.c 1;have gl:=d.obj.lt;have Y:=zh (p.sub (o:=1) (cs:=N) fun j u hj=>by simpa using K.o j u hj);have HO1:=zh (d.tail.al N.toArray 35);clear s d p A L K
   go_wp2_with (first
    |refine aj dU rfl (.tmp 29) rfl rfl N hl Y.o ?_
    |refine gu jZ dU qD rfl zo rfl (.tmp 30) rfl (cs:=N.toArray) rfl qdY ?_
    | (at_builtin;refine aT jZ rfl (.tmp 28) (.tmp 31) rfl v (f.length+i) xs rfl HO1.o.av.row ⟨T.heap.size,0,none⟩ 1 1 N rfl hl qe9 J qdR zo ?_))
   exact qg9
  .obtain rfl:i=g.length:=zo;rw[yG]at t;have hr:=bG.Iy (m:=m.grow w E) (l:=SV) (by rw[HE.o,zL,xC,xC];exact a.row) (by rw[HE.o];exact t) a.free a.bO.done;have HF:=zh (zi a.az hr);clear a t hX hr;exact qbo
end Cl
namespace Cl
open Go Go.RowKit Go.Proofs
theorem MO{α β:Type}(f:α->List β){l:List α}{i:Nat}(h:i<l.length):(l.take (i+1)).flatMap f=(l.take i).flatMap f++f l[i]:=by
 exact qcu
theorem OC{α β:Type}(f:α->List β):∀(l:List α) (i:Nat),((l.take i).flatMap f).length<=(l.flatMap f).length
 |[],i=>by simp
 |x::l,0=>by simp
 |x::l,i+1=>by
  have:=OC f l i;simp only[List.take_succ_cons,xO,zL];omega
end Cl
namespace Cl
open Go Go.RowKit Go.Proofs Tryz
theorem Np(z:Array Value)(n:Nat):(Builtin.zeroCells z n).size=n*z.size:=by simp[Builtin.zeroCells]
theorem dzu:(prog.info? 35).map (fun i=>(i.zero,i.size,i.bytes))=some (some (.agg oz),18,272):=by kernel_rfl
theorem Zz{w0 w:zW}{m mk:Mem}{L:List bA}(h:Own w0 m w mk L)(n:Nat)(p:n<=1048576):
 zC 159 #[.slice none 0 0,.int .i64 n] w fun e w'=>∃a c,e=.returned (.slice a 0 c)/\Own w0 m w' mk (.row (.slice a 0 c) 35 18 0 []::L):=by
 by_cases l:n=0
 .subst l;refine Calls.mono (Any8.slices_Grow_room Tryz.bzo none 0 0 0 w (zI _) zo zo zo) ?_;exact qh4
 .obtain⟨i,hi,g,o,hb⟩:=info_parts dzu;refine Calls.mono (Any8.slices_Grow_grow Tryz.bzo i (.agg oz) hi g zo none 0 0 n [] w (zI _) zo qeO zo zS (fun _=>rfl) (fun a e=>by cases e)) ?_;rintro e w' ⟨rfl,rfl⟩;have q:=grownCap_ge w (0+n) 0 35;have j:=grownCap_le_maxLen w (0+n) 0 35 qdR;have d:=h.dr.al (([]:List Value).toArray++Builtin.zeroCells (Value.agg oz).cells (0+n-0)++Builtin.zeroCells (Value.agg oz).cells (grownCap w (0+n) 0 35-(0+n))) 35;refine⟨_,_,rfl,?_⟩;refine d.tail.cons (it:=.row _ _ _ _ _) ⟨rfl,.inr ⟨w.heap.size,grownCap w (0+n) 0 35,_,rfl,zG _,d.obj.get,zG _,j,?_,?_⟩⟩ (fun k hk=>d.iA _ (yF ..) k hk) (fun b f=>(yS.1 d.apart).1 b f)
  .simp only[Array.size_append,Np,List.size_toArray,List.length_nil];have:(Value.agg oz).cells.size=18:=rfl;rw[this];generalize grownCap w (0+n) 0 35=c at*
   omega
  .simp
def hzr(xs:List (List Vd))(k:Nat):List Vd:=(xs.take k).flatten
theorem Nc(xs:List (List Vd))(k:Nat)(h:k<xs.length):hzr xs (k+1)=hzr xs k++xs[k]:=by
 unfold hzr;rw[zH h,List.flatten_append];simp
theorem J3(xs:List (List Vd))(k:Nat):(hzr xs k).length<=(hzr xs xs.length).length:=by
 unfold hzr;rw[yG];have:xs=xs.take k++xs.drop k:=(List.take_append_drop k xs).symm
 conv=>rhs;rw[this]
 rw[List.flatten_append,zL];omega
theorem Sv(g c N:Nat)(xs:List (List Vd))(m:Mem)(w:zW)(hm:m.ay w)(L:∀i (h:i<xs.length),∃u,m.cell g i=some u/\bG (bq m N) m u xs[i])(C:(hzr xs xs.length).length<=1048576)(hn:xs.length<=1000000):
 zC 106 #[.slice (some ⟨g,0,none⟩) xs.length c] w fun e w'=>∃r,e=.returned r/\zB w w'/\bG (bq (m.grow w w') N) (m.grow w w') r (hzr xs xs.length):=by
 have O:=zh L;clear L;refine au fun R hR=>?_
 go_enter func106,ntmps106
 go_wp2;refine aC [0,3,9,10,11] (fun n B A=>∃k:Nat,k<=xs.length/\n=xs.length-k/\B=[.slice (some ⟨g,0,none⟩) xs.length c,.int .i64 (hzr xs k).length,.slice (some ⟨g,0,none⟩) xs.length c,.int .i64 xs.length,.int .i64 k] /\
  Own w m A m []) ?_ ?_
 .exact⟨_,0,zG _,rfl,rfl,Own.start hm⟩
 rintro X z n B A hX-⟨k,hk,rfl,rfl,hO⟩;simp[bB,lk];have b':=J3 xs k;by_cases s:k<xs.length
 .obtain⟨u,x,H⟩:=O.o k s;have Y:=Mem_cell_w hO.ay x;have W:=Mem_cell_lt hO.ay x;obtain⟨a,uc,rfl,-⟩:=H;have b:=congrArg List.length (Nc xs k s);rw[zL]at b;have j:=J3 xs (k+1);have HO:=zh hO;have Hst:=zh b;have hb:(hzr xs k).length+xs[k].length<=1048576:=zo;generalize (hzr xs k).length=T at*
  generalize xs[k].length=N at*
  clear x hO b j;exact qcW
 .obtain rfl:k=xs.length:=zo;have P:=zh (Zz hO (hzr xs xs.length).length C);clear hO hX
  go_wp2_with fail
  refine P.o.mono ?_;rintro e w2 ⟨a,d,rfl,hO⟩;have HO:=zh hO;clear P hO;go_wp2;refine aC [6,25,26,27] (fun n B A=>∃(k:Nat) (v:zV) (F:List Value),k<=xs.length/\n=xs.length-k/\B=[v,.slice (some ⟨g,0,none⟩) xs.length c,.int .i64 xs.length,.int .i64 k]/\kW (bq m N) F (hzr xs k) /\
   Own w m A m [.row v 35 18 (hzr xs k).length F]) ?_ ?_
  .exact⟨_,0,_,[],zG _,rfl,rfl,.nil _,HO.o⟩
  clear HO;rintro X z n B A hX-⟨k,v,F,hk,rfl,rfl,I,hO⟩;simp[bB,lk];obtain⟨va,U,rfl⟩:=bz hO.row;by_cases s:k<xs.length
  .obtain⟨u,x,H⟩:=O.o k s;have Y:=Mem_cell_w hO.ay x;have W:=Mem_cell_lt hO.ay x;obtain⟨ad,cc,Q,rfl,-,-,G,J,D⟩:=H.seg;have b:=Nc xs k s;have j:=J3 xs (k+1);rw[b,zL]at j;have t:=I.append G;rw[<-b]at t;have Z:=G.one_cell;have ly:=G.len;have HN:=zh (D _ hO.ay);have Hst:=zh (congrArg List.length b);have HR:=zh t;rw[zL]at Hst;clear b I t G x D H;generalize (hzr xs k).length=M at*
   generalize xs[k].length=q at*
   go_wp2_with (at_builtin;refine nO jZ rfl (.tmp 31) (.tmp 32) rfl (.slice va M U) M F rfl hO.row ad q cc Q rfl ly J HN.o Z qdR zo ?_)
   intro V S w7 p f l;have y:=hO.app p f l (zI _);rw[<-Hst.o]at y;have K:=zh y;clear y hO p f l;go_wp2;refine hX.o _ _ _ zo rfl ⟨k+1,_,_,zo,rfl,?_,HR.o,K.o⟩;rw[Hst.o];rfl
  .obtain rfl:k=xs.length:=zo;have hfin:=bG.Iy (m:=m.grow w A) hO.row I hO.free hO.bO.done;have E:=zh qi2;clear hO I hfin;go_wp2;exact hR.o _ _ ⟨_,rfl,E.o⟩
theorem kL(u d:zV)(c:Lc)(m:Mem)(n:Nat)(w:zW)(v:m.ay w)(s:bG (bq m n) m u c.1)(q:bG (bq m n) m d c.2)(p:c.1.length+c.2.length<=1048576):
 zC 68 #[.agg #[u,d]] w fun e w'=>∃r,e=.returned r/\zB w w'/\bG (bq (m.grow w w') n) (m.grow w w') r (aY c):=by
 have g:=((Own.start v).al #[u,d] 50).al #[u,d] 48;simp only[bC]at g;have f:=g.gU;have a:=Mem_le_add g.jG (w:=(w.alloc (.cells #[u,d] 50)).alloc (.cells #[u,d] 48));have k:=Sv (w.heap.size+1) 2 n [c.1,c.2] _ _ f.ay (fun i hi=>by
  match i,hi with
  |0,_=>exact⟨u,Mem_add_cell g.obj rfl,s.le a fun _ _ h=>h.le a⟩
  | 1,_=>exact⟨d,Mem_add_cell g.obj rfl,q.le a fun _ _ h=>h.le a⟩) (by simp[hzr];omega) zS
 rw[show hzr [c.1,c.2] ([c.1,c.2]:List (List Vd)).length=aY c by simp[hzr,aY]]at k;have k:=zh k;have t:=zh f;obtain⟨B,z,rfl,-⟩:=s;obtain⟨A,y,rfl,-⟩:=q;clear g f a;refine au fun R hR=>?_
 go_enter func68,ntmps68
 go_wp2_with fail
 refine k.o.mono ?_;rintro e x ⟨r,rfl,j,l⟩;have b:=t.o.call j;have HF:=zh (zi b.az (l.le b.done fun _ _ h=>h.le b.done));clear k t j l b;exact qbo
theorem Gn(v:Vl)(s:Sl)(m:Mem)(n:Nat)(w:zW)(hm:m.ay w)(O:bq m (n+1) s v)(H:v.kids.length<=1048576):
 zC 120 #[v.val s] w fun e w'=>∃r,e=.returned r/\zB w w'/\bG (bq (m.grow w w') n) (m.grow w w') r v.kids:=by
 have hO:=(Own.start hm).al (bu v s).toArray 33;have i':=O.2;have H7:(bu v s).toArray[7]?=some s.l:=rfl;have Y:(bu v s).toArray[8]?=some s.s:=rfl;obtain⟨a1,b1,a2,b2,a3,b3,a4,b4,a5,b5,rfl,-,-,-,q4,q5⟩:=O.df;obtain⟨⟨z1,y1,e1,-,-,k1⟩,⟨z2,y2,e2,-,-,k2⟩⟩:=i';simp only[Value.slice.injEq]at e1 e2;obtain⟨rfl,-,rfl⟩:=e1;obtain⟨rfl,-,rfl⟩:=e2;simp only at H7 Y;have H7:=zh H7;have Y:=zh Y;unfold maxLen at q4 q5;unfold Vl.val;have HE:=zh (show v.kids=v.aN.flatMap aY++v.aA.flatMap bN from rfl);generalize (bu v _).toArray=N at*
 generalize v.kids=KD at*
 generalize v.aN=a at*
 generalize v.aA=c at*
 have HK:=zh (zi k1 k2);have x:=zh (hO.fC 35 18);have HL:=zh (show(a.flatMap aY).length+(c.flatMap bN).length<=1048576 by have:=H;rw[HE.o,zL]at this;exact this);clear hO k1 k2 O H;refine au fun R hR=>?_
 go_enter func120,ntmps120
 go_wp2;refine aC [1,3,9,10,11] (fun q S M=>∃(i:Nat) (r:zV) (xs:List Value) (mk:Mem),i<=a.length/\q=a.length-i/\S=[.pointer (some ⟨w.heap.size,0,none⟩),r,.slice a4 a.length b4,.int .i64 (a.length:Int),.int .i64 (i:Int)]/\kW (bq mk n) xs ((a.take i).flatMap aY) /\
  Own w m M mk [.row r 35 18 ((a.take i).flatMap aY).length xs,.obj w.heap.size 33 N]) ?_ ?_
 .exact⟨_,0,_,[],m,zG _,rfl,rfl,.nil _,x.o⟩
 clear x;rintro X z q S M V-⟨i,r,xs,mk,hi,rfl,rfl,C,hO⟩;simp[bB,lk];have g7:=hO.av.obj.cell H7.o;have g8:=hO.av.obj.cell Y.o;have Z:=hO.av.obj.lt;by_cases hlt:i<a.length
 .obtain⟨b,off,rfl,W⟩:=HK.o.1 qdP;obtain⟨u,U,hu,A,Q,P⟩:=W i hlt;have c1:=Mem_cell_w hO.ay qfS;have c2:=Mem_cell_w hO.ay (Mem_cell_le hO.ext.le A);have cl:=Mem_cell_lt hO.ay qfS;have f:=MO aY hlt;have J:=OC aY a (i+1);rw[f,zL]at J;have I:(aY a[i]).length=a[i].1.length+a[i].2.length:=by rw[aY,zL]
  have hO:=hO.al' (.cells #[u,U] 50);have HF:=zh (kL u U a[i] mk n _ hO.ay (Q.le hO.ext.le fun _ _ h=>h.le hO.ext.le) (P.le hO.ext.le fun _ _ h=>h.le hO.ext.le) qeZ);have k:=zh (zi C f);have x:=zh hO;obtain⟨ua,uc,rfl,-⟩:=Q;obtain⟨f',e',rfl,-⟩:=P;clear hO C W hu A f I
  go_wp2_with fail
  refine HF.o.mono ?_;rintro e w1 ⟨r1,rfl,F,y⟩;have j:=x.o.call F;obtain⟨ad,cc,ys,rfl,-,-,G,hn,hk⟩:=y.seg;have d:=(k.o.1.mono fun _ _ h=>h.le (Mem_le_grow x.o.ay)).append G;rw[<-k.o.2]at d;have K:=zh d;have o1:=G.one_cell;have ly:=G.len;have HN:=zh (hk w1 j.ay);have p:=zh j;have k:=zh (congrArg List.length k.o.2);clear j x HF F y G hk d c1 c2 cl g7 g8 Z;rw[zL]at k;generalize ((a.take i).flatMap aY).length=t at*
  go_wp2_with (at_builtin;refine nO jZ rfl (.tmp 15) (.tmp 17) rfl r t xs rfl p.o.row ad (aY a[i]).length cc ys rfl ly hn HN.o o1 (by have:=HL.o;unfold maxLen;omega) qeZ ?_)
  intro va vc w2 D E B;have g:=p.o.app D E B (zI _);rw[<-k.o]at g;have L:=zh g;clear p D E B g;go_wp2;refine V.o _ _ _ zo rfl ⟨i+1,_,_,_,zo,rfl,?_,K.o,L.o⟩;rw[k.o];rfl
 .obtain rfl:i=a.length:=zo;rw[yG]at C hO;obtain⟨T,hT⟩:∃T,T=(a.flatMap aY).length:=⟨_,rfl⟩;rw[<-hT]at hO;have HT:=zh hT;clear hT;have HV:=zh C;have x:=zh hO;clear hO C V;go_wp2;refine aC [1,3,21,22,23] (fun q S M=>∃(i:Nat) (r:zV) (xs:List Value) (mk:Mem),i<=c.length/\q=c.length-i/\S=[.pointer (some ⟨w.heap.size,0,none⟩),r,.slice a5 c.length b5,.int .i64 (c.length:Int),.int .i64 (i:Int)]/\kW (bq mk n) xs (a.flatMap aY++(c.take i).flatMap bN) /\
   Own w m M mk [.row r 35 18 (T+((c.take i).flatMap bN).length) xs,.obj w.heap.size 33 N]) ?_ ?_
  .exact⟨_,0,_,xs,mk,zG _,rfl,rfl,by simpa using HV.o,x.o⟩
  clear x HV g7 g8 Z;rintro X z q S M V-⟨i,r,xs,mk,hi,rfl,rfl,C,hO⟩;simp[bB,lk];have g7:=hO.av.obj.cell Y.o;have Z:=hO.av.obj.lt;by_cases hlt:i<c.length
  .obtain⟨b,off,rfl,W⟩:=HK.o.2 qdP;obtain⟨u,U,hu,A,Q,P⟩:=W i hlt;have c1:=Mem_cell_w hO.ay qfS;have c2:=Mem_cell_w hO.ay (Mem_cell_le hO.ext.le A);have cl:=Mem_cell_lt hO.ay qfS;have f:=MO bN hlt;have J:=OC bN c (i+1);rw[f,zL]at J;have I:(bN c[i]).length=c[i].1.length+c[i].2.length:=by rw[bN,zL,xC,xC]
   have hO:=hO.al' (.cells #[u,U] 62);have HF:=zh (fzF u U c[i] mk n _ hO.ay (Q.le hO.ext.le fun _ _ h=>h.le hO.ext.le) (P.le hO.ext.le fun _ _ h=>h.le hO.ext.le) qeZ);have k:=zh (zi C f);have x:=zh hO;obtain⟨ua,uc,rfl,-⟩:=Q;obtain⟨f',e',rfl,-⟩:=P;clear hO C W hu A f I
   go_wp2_with fail
   refine HF.o.mono ?_;rintro e w1 ⟨r1,rfl,F,y⟩;have j:=x.o.call F;obtain⟨ad,cc,ys,rfl,-,-,G,hn,hk⟩:=y.seg;have d:=(k.o.1.mono fun _ _ h=>h.le (Mem_le_grow x.o.ay)).append G;rw[xD,<-k.o.2]at d;have K:=zh d;have o1:=G.one_cell;have ly:=G.len;have HN:=zh (hk w1 j.ay);have p:=zh j;have k:=zh (congrArg List.length k.o.2);clear j x HF F y G hk d c1 c2 cl g7 Z;rw[zL]at k;generalize ((c.take i).flatMap bN).length=t at*
   go_wp2_with (at_builtin;refine nO jZ rfl (.tmp 27) (.tmp 29) rfl r (T+t) xs rfl p.o.row ad (bN c[i]).length cc ys rfl ly hn HN.o o1 (by have:=HL.o;have:=HT.o;unfold maxLen;omega) (by have:=HL.o;have:=HT.o;omega) ?_)
   intro va vc w2 D E B;have g:=p.o.app D E B (zI _);rw[Nat.add_assoc,<-k.o]at g;have L:=zh g;clear p D E B g;go_wp2;refine V.o _ _ _ zo rfl ⟨i+1,_,_,_,zo,rfl,?_,K.o,L.o⟩;rw[k.o,<-Nat.add_assoc];rfl
  .obtain rfl:i=c.length:=zo;rw[yG]at C hO;have O:=bG.Iy (m:=m.grow w M) (l:=KD) (by rw[HE.o,zL,<-HT.o];exact hO.row) (by rw[HE.o];exact C) hO.free hO.bO.done;have HF:=zh (zi hO.az O);clear hO C V O;exact qbo
end Cl
namespace Cl
open Go Go.RowKit Go.Proofs
theorem Kz.all{p:Nat}{a c:Int}(h:Kz p a c):czr p a c:=⟨h.le,h.gt,h.pos,h.top⟩
def D7(n:Nat)(l:List Vd)(i:Nat):Nat:=1+((l.take i).map fun x=>dA n x.1+dA n x.2).sum
theorem Y6(n:Nat)(l:List Vd)(i:Nat)(h:i<l.length):D7 n l (i+1)=D7 n l i+(dA n l[i].1+dA n l[i].2):=by
 unfold D7;rw[zH h,yI,List.sum_append];simp;omega
theorem WT(n:Nat):∀(l:List Vd) (i:Nat),D7 n l i<=D7 n l l.length
 |[],i=>by simp[D7]
 |x::l,0=>by simp[D7]
 |x::l,i+1=>by
  have:=WT n l i;unfold D7 at*
  simp only[List.take_succ_cons,yO,yL,vG,yG]at*;omega
theorem bzO(n:Nat)(v:Vl):D7 n v.kids v.kids.length=dA (n+1) v:=by unfold D7;rw[yG,dA]
theorem QN{n:Nat}{v:Vl}(h:Ht (n+1) v):v.kids.length+1<=dA (n+1) v:=by
 rw[dA];have:∀l:List Vd,(∀x∈l,Ht n x.1/\Ht n x.2)->l.length<=(l.map fun x=>dA n x.1+dA n x.2).sum:=by
  intro l
  induction l with
  |nil=>intro _;simp
  |cons x l ih=>
   intro a;have b:=Hz (a x zS).1;have:=ih fun y hy=>a y qei;simp only[yL,vG,yO];omega
 have:=this v.kids h;omega
end Cl
namespace Cl
open Go Go.RowKit Go.Proofs Tryz
attribute [local go_sem] Oper.semAt_some
def tV(mk:Mem)(v:zV)(u:List UInt8):Prop:=
 (u=[]/\v=.slice none 0 0)\/(u≠[]/\∃g c,v=.slice (some ⟨g,0,none⟩) u.length c/\u.length<=c/\c<=maxLen/\∀i,(h:i<u.length)->mk.cell g i=some (.int .u8 (u[i]).toNat))
theorem tV.le{mk mk':Mem}{v:zV}{u:List UInt8}(h:tV mk v u)(a:mk.le mk'):tV mk' v u:=by
 rcases h with h|⟨j,g,c,f,e,d,b⟩
 .exact .inl h
 .exact .inr ⟨j,g,c,f,e,d,fun i hi=>Mem_cell_le a (b i hi)⟩
theorem strOfNums_bytes(u:List UInt8):strOfNums (u.map fun b=>(b.toNat:Int))=⟨u.toArray⟩:=by
 unfold strOfNums
 congr 1
 rw[vE]
 congr 1
 conv=>rhs;rw[<-List.map_id u]
 apply xZ;intro b _;simp
theorem Gr{mk:Mem}{w:zW}{v:zV}{u:List UInt8}(h:tV mk v u)(a:mk.ay w):(convert 245 9 v).run prog w=.ok (.string ⟨u.toArray⟩) w:=by
 rcases h with⟨rfl,rfl⟩|⟨j,g,c,rfl,f,e,d⟩
 .exact run_convert_bytes_nil w 245 5 underlying245 underlying5 0 0 _ underlying9
 .have:=run_convert_bytes_arg w 245 5 underlying245 underlying5 g 0 u.length c (u.map fun b=>(b.toNat:Int)) zS (fun i hi=>by
   rw[yZ,Mem_cell_w a (d i hi)];simp[List.getD,hi]) _ underlying9
  rw[this,strOfNums_bytes]
structure Ko (T:aK) (l:Nat) (w0:zW) (m mk0:Mem) (B Bx:List (List UInt8)->List bA->Prop) (Lr:List bA) (gy ga gt gv tb qG ctab:Nat) (va:zV):Prop where
 yield:Eg prog l (fun x:List UInt8=>#[Value.string ⟨x.toArray⟩]) w0 m mk0 B Bx
 cy:mk0.cell gy 0=some (.func (.yield l) #[] #[])
 ca:mk0.cell ga 0=some va
 ct:mk0.cell gt 0=some (.slice (some ⟨tb,0,none⟩) qG ctab)
 cv:mk0.cell gv 0=some (.func (.func 254) #[] #[.pointer (some ⟨gy,0,none⟩),.pointer (some ⟨ga,0,none⟩),.pointer (some ⟨gt,0,none⟩),.pointer (some ⟨gv,0,none⟩)])
 tab:aU mk0 va T
 rows:∀W mk Lt,Own w0 m W mk (Lt++Lr)->∀i,i<qG->∃u,W.cell? ⟨tb,i,none⟩=some u/\jV mk0 u (eF T i)
 qG:qG<=maxLen
def VI(w0:zW)(m mk:Mem)(B Bx:List (List UInt8)->List bA->Prop)(Lr:List bA)(a c:List (List UInt8))(e:Ending)(d:zW):Prop:=
 (e=.returned (.bool true)/\∃mk' b,B (a++c) b/\Own w0 m d mk' (b++Lr)/\mk.le mk') \/
 (e=.returned (.bool false)/\∃q mk' b,q≠[]/\q <+: c/\Bx (a++q) b/\Own w0 m d mk' (b++Lr)/\mk.le mk')
theorem S9{T:aK}{l:Nat}{w0:zW}{m mk0:Mem}{B Bx:List (List UInt8)->List bA->Prop}{Lr:List bA}{y C A z tb qG ctab:Nat}{va:zV}(k:Ko T l w0 m mk0 B Bx Lr y C A z tb qG ctab va)
(s:Nat)(u:List UInt8)(r:zV)(b:List (List UInt8))(mk:Mem)(W:zW)(q:List bA)(a:mk0.le mk)(v:tV mk r u)(x:B b q)(g:Own w0 m W mk (q++Lr)):
 zC 254 #[.int .i64 s,.int .i64 0,r,.pointer (some ⟨y,0,none⟩),.pointer (some ⟨C,0,none⟩),.pointer (some ⟨A,0,none⟩),.pointer (some ⟨z,0,none⟩)] W (VI w0 m mk B Bx Lr b [u]):=by
 have E:=Mem_cell_w g.ay (Mem_cell_le a k.cy);have w:=Mem_cell_lt g.ay (Mem_cell_le a k.cy);have F:=Gr v g.ay;obtain⟨I,t,p,D,H,G⟩:=k.yield b u W mk q Lr x g a;refine au fun R f=>?_;clear g x v k a
 go_enter func254,ntmps254
 refine(wpIn_wide (n:=0)).1 ?_
 gi_wp2
 refine⟨rfl,G.mono ?_⟩;rintro e J (⟨rfl,mk',c,j,i,h⟩|⟨rfl,mk',c,j,i,h⟩)
 .have d:=zh (zi j (zi i h));clear j i h
  gi_wp2
  exact f.o _ _ (.inl ⟨rfl,mk',c,d.o.1,d.o.2.1,d.o.2.2⟩)
 .have d:=zh (zi j (zi i h));clear j i h
  gi_wp2
  exact f.o _ _ (.inr ⟨rfl,[u],mk',c,zS,List.prefix_refl _,d.o.1,d.o.2.1,d.o.2.2⟩)
theorem czC:fB prog 245 5 1 1:=⟨underlying245,zo,by
 obtain⟨i,d,c,b,a⟩:=info_parts (P:=prog) (e:=5) (z:=.int .u8 0) (size:=1) (bytes:=1) zk;exact⟨i,_,d,c,b,a,rfl⟩⟩
def cutV(v:zV)(u:List UInt8):Value:=match v with
 |.slice a _ _=>.slice a u.length u.length
 |v=>v
theorem Bv{w0 w:zW}{m mk:Mem}{L:List Cl.bA}{v:zV}{u:List UInt8}{c:Nat}(h:tV mk v u)(R:c<256)(D:Own w0 m w mk L)(s:Nat)(B:w.cell? ⟨s,0,none⟩=some (.int .u8 c))(Q:u.length<=4000000):
 ∃v' w' mk',(Builtin.append_ #[245,245] 245 #[cutV v u,.slice (some ⟨s,0,none⟩) 1 1]).run prog w=.ok v' w'/\Own w0 m w' mk' L/\mk.le mk'/\tV mk' v' (u++[UInt8.ofNat c]):=by
 have f:∀j x,[Value.int .u8 c][j]?=some x->w.cell? ((⟨s,0,none⟩:Addr).add j)=some x:=by
  intro j x k;rw[Addr.add_lit,yZ]
  cases j with
  |zero=>simp at k;rw[<-k];exact B
  |succ j=>simp at k
 have q:((UInt8.ofNat c).toNat:Int)=(c:Int):=by
  rw[UInt8.toNat_ofNat'];omega
 rcases h with⟨rfl,rfl⟩|⟨K,g,T,rfl,t,S,N⟩
 .have d:=D.fC 5 1;obtain⟨v',w',y,p,M,o⟩:=lH czC w 245 (.slice none 0 0) 0 [] d.row ⟨s,0,none⟩ 1 1 [.int .u8 c] rfl f qdS (by simp[maxLen]) zS;have a:=d.app p M o (zI _);obtain⟨va,H,rfl⟩:=bz a.row;obtain⟨E,rfl⟩:=rA a.row zo;refine⟨_,w',mk.iH w' (.slice (some ⟨E,0,none⟩) (0+1) H),y,a.bO,Mem_le_addv a.free,.inr ⟨zS,E,H,rfl,?_,?_,fun i hi=>?_⟩⟩
  .rcases a.row.2 with⟨h,-⟩|⟨O,G,F,h,-,-,A,-⟩
   .cases h
   .injection h with h1 h2 t;subst t;simpa using A
  .rcases a.row.2 with⟨h,-⟩|⟨O,G,F,h,-,-,-,C,-⟩
   .cases h
   .injection h with h1 h2 t;subst t;exact C
  .obtain rfl:i=0:=by simp at hi;exact hi
   have:=dZ a.row (g:=E) rfl mk (j:=0) (u:=.int .u8 c) rfl;rw[this];simp only[xN,xL];rw[q]
 .obtain⟨i,hi,J,I,hb⟩:=info_parts (P:=prog) (e:=5) (z:=.int .u8 0) (size:=1) (bytes:=1) zk;have l:∀j x,(u.map fun b=>Value.int .u8 b.toNat)[j]?=some x->w.cell? ((⟨g,0,none⟩:Addr).add j)=some x:=by
   intro j x k;rw[Addr.add_lit,yZ];have r:j<u.length:=by
    have:=(yB.1 k).1;exact qbi
   rw[Mem_cell_w D.ay (N j r)];simp[r]at k;rw[<-k]
  have y:=run_append_grow (P:=prog) (w:=w) 245 245 5 i (.int .u8 0) underlying245 hi J ⟨g,0,none⟩ u.length u.length (u.map fun b=>Value.int .u8 b.toNat) (by simp[I]) l ⟨s,0,none⟩ 1 1 [.int .u8 c] (by simp[I]) f zo zo (growslice_fits zo qeO);have d:=D.dr.al ((u.map fun b=>Value.int .u8 b.toNat).toArray++[Value.int .u8 c].toArray++Builtin.zeroCells (Value.int .u8 0).cells (grownCap w (u.length+1) u.length 5-(u.length+1))) 5;have a:=d.gU;refine⟨_,_,mk.add _ w.heap.size,y,a,Mem_le_add d.jG,.inr ⟨zS,w.heap.size,grownCap w (u.length+1) u.length 5,?_,?_,?_,fun j k=>?_⟩⟩
  .simp
  .simpa using grownCap_ge w _ _ _
  .exact grownCap_le_maxLen w _ _ _ qdR
  .refine Mem_add_cell d.obj ?_;simp only[zL,yO,List.length_nil]at k;by_cases n:j<u.length
   .rw[Array.getElem?_append_left qdW,Array.getElem?_append_left (by simpa using n)];simp[n,xM n]
   .obtain rfl:j=u.length:=zo;rw[Array.getElem?_append_left zS,Array.getElem?_append_right zS];simp;rw[<-q];simp
theorem wp_append_run{P:Program}{w w':zW}{o:Oper}{a:Act}{K:Act->World->Prop}{Q:Exit->Act->World->Prop}(s x:Operand)(t:TypeId)
(ho:o.op=.call { callee:=.builtin .append,args:=#[s,x],argTypes:=#[t,t] }){v v2 v':zV}(hs:a.eval s=v)(hx:a.eval x=v2)
(hr:(Builtin.append_ #[t,t] o.type #[v,v2]).run P w=.ok v' w')(h:K (a.put o.dst v') w'):o.wp P a w K Q:=by
 unfold Oper.wp execOp;simp only[ho,resolve,invoke,builtin,Sem.run_bind,Sem.run_pure,Result.andThen_ok,List.map_toArray,yL,xB,hs,hx,hr];exact h
def Xb(T:aK)(w0:zW)(m mk0:Mem)(B Bx:List (List UInt8)->List bA->Prop)(Lr:List bA)(d g f e n:Nat):Prop:=
 ∀(s:Nat) (u:List UInt8) (b:zV) (a:List (List UInt8)) (mk:Mem) (W:zW) (c:List bA),s<T.length->uO T n s≠[]->u.length+n<=4000000->mk0.le mk->tV mk b u->B a c->Own w0 m W mk (c++Lr) ->
  zC 254 #[.int .i64 s,.int .i64 n,b,.pointer (some ⟨d,0,none⟩),.pointer (some ⟨g,0,none⟩),.pointer (some ⟨f,0,none⟩),.pointer (some ⟨e,0,none⟩)] W (VI w0 m mk B Bx Lr a ((uO T n s).map (u++·)))
theorem SX{T:aK}{l:Nat}{w0:zW}{m mk0:Mem}{B Bx:List (List UInt8)->List bA->Prop}{Lr:List bA}{d g f e tb qG ctab:Nat}{va:zV}(n:Ko T l w0 m mk0 B Bx Lr d g f e tb qG ctab va):
 Xb T w0 m mk0 B Bx Lr d g f e 0:=by
 intro s u i b mk W p q a _ c j o k;have:uO T 0 (s:Int)=[[]]:=by
  unfold uO at a⊢
  split
  .rfl
  .rename_i h;rw[zJ h]at a;exact absurd rfl a
 rw[this];simpa using S9 n s u i b mk W p c j o k
def BF(T:aK)(n:Nat)(u:List UInt8)(es:List Ed)(i:Nat)(e:Ed)(b:Nat):List (List UInt8):=(MV T n (es.take i)++WO T n e.to e.lo (b-e.lo)).map (u++·)
theorem Vg(T:aK)(n:Nat)(u:List UInt8)(es:List Ed)(i:Nat)(e:Ed)(b:Nat)(h:e.lo<=b):
 BF T n u es i e (b+1)=BF T n u es i e b++(uO T n e.to).map ((u++[UInt8.ofNat b])++·):=by
 unfold BF;rw[show b+1-e.lo=(b-e.lo)+1 by omega,bzE,<-xD,yI,show e.lo+(b-e.lo)=b by omega]
 congr 1
 unfold Eb;rw[vE];apply xZ;intro x _;simp
theorem YX{T:aK}{n:Nat}{u:List UInt8}{es:List Ed}{i:Nat}(h:i<es.length){b:Nat}(e:b<=(es[i]).hi):BF T n u es i es[i] (b+1) <+: (MV T n es).map (u++·):=by
 unfold BF;have c:MV T n (es.take i)++WO T n (es[i]).to (es[i]).lo (b+1-(es[i]).lo) <+: MV T n es:=by
  have d:WO T n (es[i]).to (es[i]).lo (b+1-(es[i]).lo) <+: WO T n (es[i]).to (es[i]).lo ((es[i]).hi+1-(es[i]).lo):=by
   unfold WO;have:=List.range'_append_1 (s:=(es[i]).lo) (m:=b+1-(es[i]).lo) (n:=((es[i]).hi+1-(es[i]).lo)-(b+1-(es[i]).lo));rw[show(b+1-(es[i]).lo)+(((es[i]).hi+1-(es[i]).lo)-(b+1-(es[i]).lo))=(es[i]).hi+1-(es[i]).lo by omega]at this;rw[<-this,List.flatMap_append];exact qde
  have a:MV T n (es.take (i+1)) <+: MV T n es:=by
   unfold MV
   conv=>rhs;rw[<-List.take_append_drop (i+1) es,List.flatMap_append]
   exact qde
  rw[Rb T n es h]at a;exact((List.prefix_append_right_inj _).2 d).trans a
 exact c.map _
theorem Vh{T:aK}{n:Nat}{u:List UInt8}{es:List Ed}{i:Nat}(h:i<es.length){b:Nat}(a:b=(es[i]).hi+1\/uO T n (es[i]).to=[]):BF T n u es i es[i] b=(MV T n (es.take (i+1))).map (u++·):=by
 unfold BF;rw[Rb T n es h];rcases a with rfl|a
 .rfl
 .rw[OO a,OO a]
theorem SY{T:aK}{l:Nat}{w0:zW}{m mk0:Mem}{B Bx:List (List UInt8)->List bA->Prop}{Lr:List bA}{gy ga gt gv tb qG ctab:Nat}{va:zV}(hE:Ko T l w0 m mk0 B Bx Lr gy ga gt gv tb qG ctab va)
(k':WF T)(s':Bytes T)(n:Nat)(hn:n<qG)(ih:Xb T w0 m mk0 B Bx Lr gy ga gt gv n):Xb T w0 m mk0 B Bx Lr gy ga gt gv (n+1):=by
 intro s u vp x mk W Lt hs _ hun p' hp hB hO;have W':=hE;have M:=Mem_inn_le p' hO.ay;have ha:=Mem_cell_w M hE.ca;have hal:=Mem_cell_lt M hE.ca;obtain⟨aa,ac,rfl,a1,a2,a3⟩:=hE.tab;obtain⟨ab,ao,rfl,a4⟩:=a3 qel;obtain⟨-,ve,s2,ea,ec,rfl,g4,g5,g6⟩:=a4 s hs;have s2w:=Mem_cell_w M s2;have s2l:=Mem_cell_lt M s2;have Hex:=zh (V3 k' s' hs n);have f':=k' T[s] (zF hs);have i':=s' T[s] (zF hs);generalize T[s].bv=es at*
 have HW:=zh (zi f' i');have HE:=zh W';have HIH:=zh ih;have HO:=zh (zi hO hB);have Hle:=zh p';have Hp:=zh hp;unfold maxLen at a2 g5;have hdec:((n:Int)+1==0)=false:=zO.2 zo;rw[Hex.o];refine au fun R hR=>?_;clear hE W' ih hO hB p' a3 a4 f' i' M s2 hp k' s';rw[show((n+1:Nat):Int)=(n:Int)+1 by omega]
 go_enter func254,ntmps254
 go_wp2;refine aC [0,1,2,3,4,5,6,25,26,27] (fun q G W1=>∃(i:Nat) (j:Mem) (U:List bA),i<=es.length/\q=es.length-i /\
  G=[.int .i64 s,.int .i64 ((n:Int)+1),vp,.pointer (some ⟨gy,0,none⟩),.pointer (some ⟨ga,0,none⟩),.pointer (some ⟨gt,0,none⟩),.pointer (some ⟨gv,0,none⟩),.slice ea es.length ec,.int .i64 es.length,.int .i64 i] /\
  mk.le j/\B (x++(MV T n (es.take i)).map (u++·)) U/\Own w0 m W1 j (U++Lr)) ?_ ?_
 .exact⟨_,0,mk,Lt,zG _,rfl,rfl,Mem.le_refl _,by simpa [MV]using HO.o.2,HO.o.1⟩
 clear HO s2w s2l ha hal;rintro X z q G W1 hX-⟨i,j,U,hi,rfl,rfl,v,A,Q⟩;simp[bB,lk];have L:=Mem_inn_le (Mem.le_trans Hle.o v) Q.ay;by_cases hlt:i<es.length
 .obtain⟨eb,eo,rfl,g7⟩:=g6 qdP;obtain⟨e1,e2,e3,e4,e5,e6⟩:=g7 i hlt;have e1w:=Mem_cell_w L e1;have e2w:=Mem_cell_w L e2;have e3w:=Mem_cell_w L e3;have el:=Mem_cell_lt L e1;have hlh:=l7 HW.o.1 es[i] (zF hlt);have HDp:=zh (fun b (hb:b<=(es[i]).hi)=>YX (T:=T) (n:=n) (u:=u) hlt hb);have HDl:=zh (fun b (hx:b=(es[i]).hi+1\/uO T n (es[i]).to=[])=>Vh (T:=T) (n:=n) (u:=u) hlt (b:=b) hx);have HDn:=zh (fun b (hb:(es[i]).lo<=b)=>Vg T n u es i es[i] b hb);have Y':BF T n u es i es[i] (es[i]).lo=(MV T n (es.take i)).map (u++·):=by
   unfold BF;rw[Nat.sub_self,bzD,yR]
  rw[<-Y']at A;clear Y';generalize es[i]=e at*
  generalize hDD:BF T n u es i e=DD at*
  clear hDD;have y:=(Q.al #[.int .u8 e.lo,.int .u8 e.hi,.int .i64 e.to] 102);have p:=y.gU;have g':=Mem.le_trans v (Mem_le_add (w:=W1.alloc (.cells #[.int .u8 e.lo,.int .u8 e.hi,.int .i64 e.to] 102)) y.jG);have x1:=Mem_add_cell (m:=j) y.obj (i:=0) rfl;have x2:=Mem_add_cell (m:=j) y.obj (i:=1) rfl;have x3:=Mem_add_cell (m:=j) y.obj (i:=2) rfl;have Hk:=zh (zi p (zi g' A));obtain⟨t,ht⟩:=zT hlh.2.1;have n':t<T.length:=zo;have Ht:=zh ht;clear y p Q A g' ht L;go_wp2;generalize W1.heap.size=E at*
  generalize j.add (W1.alloc (.cells #[.int .u8 e.lo,.int .u8 e.hi,.int .i64 e.to] 102)) E=H' at*
  refine aC [0,1,2,3,4,5,6,12,13,25,26,27] (fun q G W2=>∃(b:Nat) (jH:Mem) (D:List bA),e.lo<=b/\b<=e.hi+1/\q=e.hi+1-b /\
   G=[.int .i64 s,.int .i64 ((n:Int)+1),vp,.pointer (some ⟨gy,0,none⟩),.pointer (some ⟨ga,0,none⟩),.pointer (some ⟨gt,0,none⟩),.pointer (some ⟨gv,0,none⟩),.pointer (some ⟨E,0,none⟩),.int .i64 b,.slice (some ⟨eb,eo,none⟩) es.length ec,.int .i64 es.length,.int .i64 i] /\
   H'.le jH/\B (x++DD b) D/\Own w0 m W2 jH (D++Lr)) ?_ ?_
  .exact⟨_,e.lo,H',U,zI _,zo,rfl,rfl,Mem.le_refl _,Hk.o.2.2,Hk.o.1⟩
  clear e1w e2w e3w el;rintro Y z2 q G W2 hY-⟨b,jH,D,hb1,hb2,rfl,rfl,hle3,hB3,p⟩;simp[bB,lk];have k:=p.ay;have y1:=Mem_cell_w k (Mem_cell_le hle3 x1);have y2:=Mem_cell_w k (Mem_cell_le hle3 x2);have y3:=Mem_cell_w k (Mem_cell_le hle3 x3);simp only[List.getElem_toArray,List.getElem_cons_succ,xL]at y3;rw[Ht.o]at y3;have yl:=Mem_cell_lt k (Mem_cell_le hle3 x1);have a:=Mem.le_trans (Mem.le_trans Hle.o Hk.o.2.1) hle3;have R':=Mem_cell_w k (Mem_cell_le a HE.o.ct);have hctl:=Mem_cell_lt k (Mem_cell_le a HE.o.ct);obtain⟨ur,I,ra,rc,rfl,r2,r3,r4⟩:=HE.o.rows _ _ _ p n hn;have q':=Ae T n;obtain⟨rb,ro,rfl,r5⟩:=r4 (by intro h;rw[h]at q';simp at q';omega);have S':t<(eF T n).length:=zo;have z1:=r5 t S';have j':=Mem_cell_w k (Mem_cell_le a z1);have z1l:=Mem_cell_lt k (Mem_cell_le a z1);have hurl:tb<W2.heap.size:=by
   simp only[World.cell?]at I
   split at I
   .rename_i hb;exact(yC.1 hb).1
   .cases I
  have Q':(eF T n)[t]=true↔uO T n (t:Int)≠[]:=by
   have h1:=Ea T n n';rw[yH S']at h1;rw[Option.some.inj h1];simp
  have Hcv:=zh Q';obtain⟨cb,r'⟩:∃cb,(eF T n)[t]=cb:=⟨_,rfl⟩;rw[r']at j';have Hcb:=zh r';have hw1:IntKind.i64.wrap ((n:Int)+1-1)=(n:Int):=by rw[IntWalk.i64_in _ zo];omega
  have hcl2:T.length<=(eF T n).length:=zo;have Hst:=zh (zi hB3 (zi p (zi hle3 a)));have hnt:=HE.o.qG;unfold maxLen at r3 hnt;generalize eF T n=cl at*
  clear q' Q' r' z1 r4 r5 hB3 p a;go_wp2;refine aV [0,1,2,3,4,5,6,12,13,25,26,27,49] (fun G w'=>∃(S:Bool) (Z:Nat),G=[.int .i64 s,.int .i64 ((n:Int)+1),vp,.pointer (some ⟨gy,0,none⟩),.pointer (some ⟨ga,0,none⟩),.pointer (some ⟨gt,0,none⟩),.pointer (some ⟨gv,0,none⟩),.pointer (some ⟨E,0,none⟩),.int .i64 b,.slice (some ⟨eb,eo,none⟩) es.length ec,.int .i64 es.length,.int .i64 i,.bool S] /\
   w'=W2.drewN Z/\(S=true->b<=e.hi/\uO T n (t:Int)≠[])/\(S=false->b=e.hi+1\/uO T n (t:Int)=[])) ?_ ?_
  .intro V hV;by_cases T':b<=e.hi
   .have hdb:decide ((b:Int)<=(e.hi:Int))=true:=zN zo;refine wp_region_quiet_lit zk zk ?_
    repeat (any_goals (first|go_big_quiet_step (fail)|quiet_step (fail)|(refine wpQuiet_step (fun K hK=>?_);go_simp;split<;>(refine hK _ ?_;clear hK K))))
    all_goals (refine wpQuiet_nil ?_;intro _ l';obtain⟨Z,H⟩:=l';subst H)
    all_goals go_wp2
    all_goals
     refine hV.o _ _ rfl ⟨cb,Z,rfl,rfl,fun h=>⟨T',Hcv.o.1 (Hcb.o.trans h)⟩,fun h=>.inr (zP fun hx=>?_)⟩;have:=Hcv.o.2 hx;rw[Hcb.o,h]at this;cases this
   .have hdb:decide ((b:Int)<=(e.hi:Int))=false:=zM zo;refine wp_region_quiet_lit zk zk ?_
    repeat (any_goals (first|go_big_quiet_step (fail)|quiet_step (fail)|(refine wpQuiet_step (fun K hK=>?_);go_simp;split<;>(refine hK _ ?_;clear hK K))))
    all_goals (refine wpQuiet_nil ?_;intro _ l';obtain⟨Z,H⟩:=l';subst H)
    all_goals go_wp2
    all_goals exact hV.o _ _ rfl ⟨false,Z,rfl,rfl,(fun h=>by cases h),fun _=>.inl zo⟩
  rintro z3 G w3-⟨S,Z,rfl,rfl,t',u'⟩;simp[bB,lk]
  cases S with
  |false=>
   have Hbf:=zh (u' rfl);clear t' u';go_wp2;refine hX.o _ _ _ zo rfl ⟨i+1,jH,D,zo,rfl,rfl,Mem.le_trans Hk.o.2.1 Hst.o.2.2.1,?_,Hst.o.2.1.Fa Z⟩;rw[<-HDl.o b (by rw[Ht.o];exact Hbf.o)]
   exact Hst.o.1
  |true=>
   have d':=zh (t' rfl);clear t' u';go_wp2;refine aV [0,1,2,3,4,5,6,12,13,25,26,27,68] (fun G w'=>∃(S:Bool) (f:Mem) (C:List bA),G=[.int .i64 s,.int .i64 ((n:Int)+1),vp,.pointer (some ⟨gy,0,none⟩),.pointer (some ⟨ga,0,none⟩),.pointer (some ⟨gt,0,none⟩),.pointer (some ⟨gv,0,none⟩),.pointer (some ⟨E,0,none⟩),.int .i64 b,.slice (some ⟨eb,eo,none⟩) es.length ec,.int .i64 es.length,.int .i64 i,.bool S] /\
    jH.le f/\Own w0 m w' f (C++Lr)/\(S=false->B (x++DD (b+1)) C)/\(S=true->∃qq,qq≠[]/\qq <+: (uO T n e.to).map ((u++[UInt8.ofNat b])++·)/\Bx ((x++DD b)++qq) C)) ?_ ?_
   .intro V hV;have hpp:=Hp.o.le (Mem.le_trans Hk.o.2.1 Hst.o.2.2.1);obtain⟨T',P'⟩:=d'.o;have hwu:IntKind.u8.wrap (b:Int)=(b:Int):=IntWalk.u8_in _ zo;have h':=fun w' (h:jH.ay w')=>Mem_cell_w h (Mem_cell_le Hst.o.2.2.2 HE.o.cv);have a':=fun w' (h:jH.ay w')=>Mem_cell_w h (Mem_cell_le hle3 x3);simp only[List.getElem_toArray,List.getElem_cons_succ,xL]at a';rw[Ht.o]at a';have hw2:IntKind.i64.wrap (n:Int)=(n:Int):=IntWalk.i64_in _ zo;have Hcvf:=zh h';have Hx3:=zh a';clear h' a';have I':u.length<=4000000:=zo;refine kz (fun _ w'=>jH.ay w') zk ?_;have hO:=(Hst.o.2.1.Fa Z).dr;have d:jH.ay (W2.drewN Z).drew:=hO.ay;have hxl:=Mem_cell_lt d (Mem_cell_le hle3 x3);generalize (W2.drewN Z).drew=w4 at*
    rcases hpp with⟨hu,hv⟩|⟨hu,g,c,hv,hp3,O',N'⟩
    .subst hv;have o':tV jH (.slice none 0 0) u:=.inl ⟨hu,rfl⟩;have N:cutV (.slice none 0 0) u=.slice none 0 0:=by simp[cutV,hu]
     clear hu;refine bW 0 rfl zk qfd d qil ?_;refine bW 1 rfl zk qfd d qil ?_;refine bW 2 rfl zk qfd d qil ?_;refine bW 3 rfl zk qfd d qil ?_;refine bW 4 rfl zk qfd d qil ?_;refine bW 5 rfl zk qfd d qil ?_;refine bW 6 rfl zk qfd d qil ?_;refine bW 7 rfl zk qfd d qil ?_;refine bW 8 rfl zk qfd d qil ?_;refine bW 9 rfl zk qfd d qil ?_;refine bW 10 rfl zk qfd d qil ?_;refine bW 11 rfl zk qfd d qil ?_;refine bW 12 rfl zk qfd d qil ?_;refine bg 13 zk (aJ rfl rfl (aO qdT ⟨.inr (hO.al #[.int .u8 b] 5).ay,?_⟩));go_simp;have P:=hO.al #[.int .u8 b] 5;obtain⟨v',w6,f,hr,O,hle7,J⟩:=Bv o' (by omega:b<256) P w4.heap.size (P.obj.c 0) I';rw[N]at hr;refine bg 14 zk (aJ rfl rfl (wp_append_run (.tmp 62) (.tmp 65) 245 rfl rfl rfl hr ⟨.inr (Mem_inn_le hle7 O.ay),?_⟩));go_simp;have y':=HIH.o t (u++[UInt8.ofNat b]) v' (x++DD b) f w6 D n' P' qdW (Mem.le_trans Hst.o.2.2.2 hle7) J Hst.o.1 (O.perm (List.Perm.refl _)).tail;refine bg 15 zk (aJ rfl rfl (dE qem y' ?_));rintro e' w7 (⟨rfl,mk5,Lt5,k1,k2,k3⟩|⟨rfl,qq,mk5,Lt5,k0,k1,k2,k3,k4⟩)
     .exact qgH
     .exact qgJ
    .subst hv;have o':tV jH (.slice (some ⟨g,0,none⟩) u.length c) u:=.inr ⟨hu,g,c,rfl,hp3,O',N'⟩;have N:cutV (.slice (some ⟨g,0,none⟩) u.length c) u=.slice (some ⟨g,0,none⟩) u.length u.length:=rfl;have hu2:0<u.length:=yY.2 hu;unfold maxLen at O';clear hu N';refine bW 0 rfl zk qfd d qil ?_;refine bW 1 rfl zk qfd d qil ?_;refine bW 2 rfl zk qfd d qil ?_;refine bW 3 rfl zk qfd d qil ?_;refine bW 4 rfl zk qfd d qil ?_;refine bW 5 rfl zk qfd d qil ?_;refine bW 6 rfl zk qfd d qil ?_;refine bW 7 rfl zk qfd d qil ?_;refine bW 8 rfl zk qfd d qil ?_;refine bW 9 rfl zk qfd d qil ?_;refine bW 10 rfl zk qfd d qil ?_;refine bW 11 rfl zk qfd d qil ?_;refine bW 12 rfl zk qfd d qil ?_;refine bg 13 zk (aJ rfl rfl (aO qdT ⟨.inr (hO.al #[.int .u8 b] 5).ay,?_⟩));go_simp;have P:=hO.al #[.int .u8 b] 5;obtain⟨v',w6,f,hr,O,hle7,J⟩:=Bv o' (by omega:b<256) P w4.heap.size (P.obj.c 0) I';rw[N]at hr;refine bg 14 zk (aJ rfl rfl (wp_append_run (.tmp 62) (.tmp 65) 245 rfl rfl rfl hr ⟨.inr (Mem_inn_le hle7 O.ay),?_⟩));go_simp;have y':=HIH.o t (u++[UInt8.ofNat b]) v' (x++DD b) f w6 D n' P' qdW (Mem.le_trans Hst.o.2.2.2 hle7) J Hst.o.1 (O.perm (List.Perm.refl _)).tail;refine bg 15 zk (aJ rfl rfl (dE qem y' ?_));rintro e' w7 (⟨rfl,mk5,Lt5,k1,k2,k3⟩|⟨rfl,qq,mk5,Lt5,k0,k1,k2,k3,k4⟩)
     .exact qgH
     .exact qgJ
   rintro z5 G w5-⟨S,f,C,rfl,r,b',z',x'⟩;simp[bB,lk]
   cases S with
   |true=>
    obtain⟨qq,M',L',K'⟩:=x' rfl;have F:=zh (zi M' (zi L' (zi K' (zi b' r))));clear x' z' M' L' K' b' r y1 y2 y3 R' j' I;go_wp2;refine hR.o _ _ (.inr ⟨rfl,DD b++qq,f,C,?_,?_,?_,F.o.2.2.2.1,Mem.le_trans (Mem.le_trans Hk.o.2.1 Hst.o.2.2.1) F.o.2.2.2.2⟩)
    .intro h;exact F.o.1 (List.append_eq_nil_iff.1 h).2
    .have h1:=HDp.o b d'.o.1;rw[HDn.o b hb1]at h1;exact((List.prefix_append_right_inj _).2 F.o.2.1).trans h1
    .rw[<-xD];exact F.o.2.2.1
   |false=>
    have Z':=z' rfl;have F:=zh (zi Z' (zi b' r));clear x' z' Z' b' r y1 y2 y3 R' j' I;go_wp2;exact hY.o _ _ _ (by have:=d'.o.1;omega) rfl ⟨b+1,f,C,zo,by have:=d'.o.1;omega,rfl,rfl,Mem.le_trans Hst.o.2.2.1 F.o.2.2,F.o.1,F.o.2.1⟩
 .obtain rfl:i=es.length:=zo;rw[yG]at A;have F:=zh (zi A (zi Q v));clear A Q v;go_wp2;exact hR.o _ _ (.inl ⟨rfl,j,U,F.o.1,F.o.2.1,F.o.2.2⟩)
theorem LB{T:aK}{l:Nat}{w0:zW}{m mk0:Mem}{B Bx:List (List UInt8)->List bA->Prop}{Lr:List bA}{d g f e tb qG ctab:Nat}{va:zV}(c:Ko T l w0 m mk0 B Bx Lr d g f e tb qG ctab va)
(a:WF T)(b:Bytes T):∀n,n<=qG->Xb T w0 m mk0 B Bx Lr d g f e n
 |0,_=>SX c
 |n+1,h=>SY c a b n h (LB c a b n zo)
theorem Own.Bt{w0 w:zW}{m mk:Mem}{L:List Cl.bA}{g:Nat}{t:TypeId}{v:zV}(h:Own w0 m w mk (.obj g t #[v]::L)):∃mk',Own w0 m w mk' L/\mk.le mk'/\mk'.cell g 0=some v:=
 ⟨_,h.gU,Mem_le_add h.jG,Mem_add_cell h.obj rfl⟩
theorem azo{T:aK}{l:Nat}{w0:zW}{m mk0:Mem}{B Bx:List (List UInt8)->List bA->Prop}{Lr:List bA}{tb n ctab clast qG:Nat}{va:zV}(F:WF T)(J:Bytes T)
(hY:Eg prog l (fun x:List UInt8=>#[Value.string ⟨x.toArray⟩]) w0 m mk0 B Bx)(j:aU mk0 va T)(r:0<T.length)(H:qG<=maxLen)(hn:n<qG)(K':n<=4000000)(_:clast<=maxLen)
(d:∀W mk C,Own w0 m W mk (C++Lr)->∀i,i<qG->∃u,W.cell? ⟨tb,i,none⟩=some u/\jV mk0 u (eF T i))
(e:List (List UInt8))(mk:Mem)(W:zW)(C:List bA)(b:mk0.le mk)(hB:B e C)(O:Own w0 m W mk (C++Lr)):
 zC 194 #[.agg #[va],.slice (some ⟨tb,n,none⟩) 1 clast,.int .i64 n,.func (.yield l) #[] #[],.slice (some ⟨tb,0,none⟩) qG ctab] W (VI w0 m mk B Bx Lr e (uO T n 0)):=by
 have y:=((O.al #[va] 27).al #[.func (.yield l) #[] #[]] 235).al #[.slice (some ⟨tb,0,none⟩) qG ctab] 236;have q:(W.alloc (.cells #[va] 27)).heap.size=W.heap.size+1:=by simp
 have p:((W.alloc (.cells #[va] 27)).alloc (.cells #[.func (.yield l) #[] #[]] 235)).heap.size=W.heap.size+1+1:=by simp
 rw[p,q]at y;obtain⟨ur,t,hb⟩:=d W mk C O n hn;obtain⟨ra,rc,rfl,r2,r3,r4⟩:=hb;have f:=Ae T n;obtain⟨V,ro,rfl,r5⟩:=r4 (by intro h;rw[h]at f;simp at f;omega);have h0:0<(eF T n).length:=zo;have Q:=r5 0 h0;rw[Nat.add_zero]at Q;have U:=Mem_cell_w O.ay (Mem_cell_le b Q);have E':=Mem_cell_lt O.ay (Mem_cell_le b Q);have u':tb<W.heap.size:=by
  simp only[World.cell?]at t
  split at t
  .rename_i hb;exact(yC.1 hb).1
  .cases t
 have v:(eF T n)[0]=true↔uO T n ((0:Nat):Int)≠[]:=by
  have D:=Ea T n r;rw[yH h0]at D;rw[Option.some.inj D];simp
 obtain⟨cb,I⟩:∃cb,(eF T n)[0]=cb:=⟨_,rfl⟩;rw[I]at U v;have v':0<(eF T n).length:=h0;have G:=j;obtain⟨aa,ac,rfl,-⟩:=j;have a:=zh (zi y (zi hB (zi b (zi d (zi hY (zi G (zi F J)))))));have P:=zh v;unfold maxLen at r3 H;generalize eF T n=cl at*
 clear y O hB b f v I Q r4 r5 q p d hY G F J;have b':tb<W.heap.size+1:=zo;have a':tb<W.heap.size+1+1:=zo;have Z:tb<W.heap.size+1+1+1:=zo;have n':V<W.heap.size+1:=zo;have m':V<W.heap.size+1+1:=zo;have l':V<W.heap.size+1+1+1:=zo;refine au fun R hR=>?_
 cases cb with
 |false=>
  go_enter func194,ntmps194
  go_wp2;have Y:uO T n 0=[]:=zP fun h=>by have:=P.o.2 h;cases this
  refine hR.o _ _ (.inl ⟨rfl,mk,C,by rw[Y,yR];exact a.o.2.1,?_,Mem.le_refl _⟩)
  exact a.o.1.tail.tail.tail
 |true=>
  have w:=(a.o.1.al #[.func (.func 254) #[] #[.pointer (some ⟨W.heap.size+1,0,none⟩),.pointer (some ⟨W.heap.size,0,none⟩),.pointer (some ⟨W.heap.size+1+1,0,none⟩),.pointer (some ⟨W.heap.size+1+1+1,0,none⟩)]] 297);have k:(((W.alloc (.cells #[.slice aa T.length ac] 27)).alloc (.cells #[.func (.yield l) #[] #[]] 235)).alloc (.cells #[.slice (some ⟨tb,0,none⟩) qG ctab] 236)).heap.size=W.heap.size+1+1+1:=by simp
  rw[k]at w;obtain⟨m1,N,l1,c1⟩:=w.Bt;obtain⟨m2,M,X,c2⟩:=N.Bt;obtain⟨m3,L,S,c3⟩:=M.Bt;obtain⟨m4,K,E,c4⟩:=L.Bt;have b:=a.o.2.2.1;have c:=Mem.le_trans (Mem.le_trans (Mem.le_trans l1 X) S) E;have hE:Ko T l w0 m m4 B Bx Lr (W.heap.size+1) W.heap.size (W.heap.size+1+1) (W.heap.size+1+1+1) tb qG ctab (.slice aa T.length ac):=by
   refine⟨fun e x W' mk' A j' D h2 h3=>a.o.2.2.2.2.1 e x W' mk' A j' D h2 (Mem.le_trans (Mem.le_trans b c) h3),Mem_cell_le E c3,c4,Mem_cell_le (Mem.le_trans S E) c2,
    Mem_cell_le (Mem.le_trans (Mem.le_trans X S) E) c1,aX (Mem.le_trans b c) a.o.2.2.2.2.2.1,fun W' mk' A h i hi=>?_,by unfold maxLen;exact H⟩
   obtain⟨u,D,h2⟩:=a.o.2.2.2.1 W' mk' A h i hi;exact⟨u,D,nk (Mem.le_trans b c) h2⟩
  have hV:=LB hE a.o.2.2.2.2.2.2.1 a.o.2.2.2.2.2.2.2 n zo 0 [] (.slice none 0 0) e m4 _ C r (P.o.1 rfl) qdW (Mem.le_refl _) (.inl ⟨rfl,rfl⟩) a.o.2.1 K;rw[show((0:Nat):Int)=(0:Int) from rfl]at hV;have HV:=zh (zi hV c);clear hV hE K L M N w c1 c2 c3 c4 l1 X S E b c k m1 m2 m3
  go_enter func194,ntmps194
  go_wp2_with fail
  refine HV.o.1.mono ?_;rintro e' w7 (⟨rfl,s,z,k1,k2,k3⟩|⟨rfl,qq,s,z,k0,k1,k2,k3,k4⟩)
  .have g:=zh qgm;clear k1 k2 k3;go_wp2;exact hR.o _ _ (.inl ⟨rfl,s,z,by simpa using g.o.1,g.o.2.1,Mem.le_trans HV.o.2 g.o.2.2⟩)
  .have g:=zh (zi k0 (zi k1 (zi k2 (zi k3 k4))));clear k0 k1 k2 k3 k4;go_wp2;exact hR.o _ _ (.inr ⟨rfl,qq,s,z,g.o.1,by simpa using g.o.2.1,g.o.2.2.1,g.o.2.2.2.1,Mem.le_trans HV.o.2 g.o.2.2.2.2⟩)
theorem set_mid{α:Type}(A C:List α)(x y:α){k:Nat}(h:A.length=k):(A++x::C).set k y=A++y::C:=by
 subst h;simp
theorem dzv{α:Type}(A C:List α)(x:α){k:Nat}(h:A.length=k):(A++x::C)[k]?=some x:=by
 subst h;simp
def J5(a:List Bool)(s:Sn):Bool:=s.bv.any fun e=>a.getD e.to.toNat false
theorem dzR(v0 v1:zV)(l:aK)(d:List Bool)(m:Mem)(w:zW)(hm:m.ay w)(hl:aU m v0 l)(hb:jV m v1 d)(N:WF l)(d':l.length<=4000000)(Q:d.length=l.length):
 zC 192 #[.agg #[v0],v1] w fun e w'=>∃r,e=.returned r/\zB w w'/\jV (m.grow w w') r (l.map (J5 d)):=by
 obtain⟨a,c,rfl,h1,h2,h3⟩:=hl;obtain⟨ba,bc,rfl,b1,b2,b3⟩:=hb;unfold maxLen at h2 b2;have hO:=(Own.start hm).al #[.slice a l.length c] 27;have HO:=zh hO;have f':l.length<=d.length:=zo;have e':d.length<=l.length:=zo;have g1:=hO.obj.c 0;have g2:=hO.obj.lt;clear hO Q;refine au fun R hR=>?_
 go_enter func192,ntmps192
 go_wp2_with (refine wpList_make_row WA rfl (.tmp 11) (.tmp 11) rfl l.length rfl rfl zo qdR ?_)
 intro w5 v g;have f:(w.alloc (.cells #[.slice a l.length c] 27)).heap.size=w.heap.size+1:=by simp
 have hO:=HO.o.make (by rw[f];exact v) g;rw[f]at hO;have s:List.replicate l.length (Value.bool false)=((l.take 0).map (J5 d)++List.replicate (l.length-0) false).map Value.bool:=by simp
 rw[s]at hO;have T:=hO.av.obj.c 0;have S:=hO.av.obj.lt;clear f;generalize w.heap.size+1=B at*
 have q:=zh hO;clear v g s HO g1 g2 hO;go_wp2;refine aC [1,2,5,15,16] (fun n E W=>∃(k:Nat),k<=l.length/\n=l.length-k/\E=[.slice ba d.length bc,.pointer (some ⟨w.heap.size,0,none⟩),.slice (some ⟨B,0,none⟩) l.length l.length,.int .i64 l.length,.int .i64 k] /\
  Own w m W m [.row (.slice (some ⟨B,0,none⟩) l.length l.length) 4 1 l.length (((l.take k).map (J5 d)++List.replicate (l.length-k) false).map Value.bool),.obj w.heap.size 27 #[.slice a l.length c]]) ?_ ?_
 .exact⟨_,0,zG _,rfl,rfl,q.o⟩
 clear q T S;rintro X z n E W hX-⟨k,hk,rfl,rfl,hO⟩;simp[bB,lk];have g1:=hO.av.obj.c 0;have g2:=hO.av.obj.lt;by_cases hlt:k<l.length
 .obtain⟨b,off,rfl,h4⟩:=h3 qdP;obtain⟨-,ve,s2,ea,ec,rfl,g4,g5,g6⟩:=h4 k hlt;have o':=Mem_cell_w hO.ay s2;have p':=Mem_cell_lt hO.ay s2;have F:(l.take (k+1)).map (J5 d)=(l.take k).map (J5 d)++[J5 d l[k]]:=by
   rw[zH hlt,yI];rfl
  have G:List.replicate (l.length-k) false=false::List.replicate (l.length-(k+1)) false:=by
   rw[show l.length-k=(l.length-(k+1))+1 by omega];rfl
  have K:((l.take k).map (J5 d)).length=k:=by simp;omega
  have I:J5 d l[k]=(l[k]).bv.any fun e=>d.getD e.to.toNat false:=rfl;have P:=l7 (N l[k] (zF hlt));rw[G]at hO;have L:=zh (zi F I);generalize (l[k]).bv=es at*
  have HO:=zh hO;unfold maxLen at g5;generalize U:(l.take k).map (J5 d)=AA at*
  clear F G I U h4 hO;go_wp2;refine aC [1,2,5,15,16,6,24,25,26] (fun n E Z=>∃(j:Nat),j<=es.length/\n=es.length-j/\E=[.slice ba d.length bc,.pointer (some ⟨w.heap.size,0,none⟩),.slice (some ⟨B,0,none⟩) l.length l.length,.int .i64 l.length,.int .i64 k,.int .i64 k,.slice ea es.length ec,.int .i64 es.length,.int .i64 j] /\
   Own w m Z m [.row (.slice (some ⟨B,0,none⟩) l.length l.length) 4 1 l.length ((AA++((es.take j).any fun e=>d.getD e.to.toNat false)::List.replicate (l.length-(k+1)) false).map Value.bool),.obj w.heap.size 27 #[.slice (some ⟨b,off,none⟩) l.length c]]) ?_ ?_
  .exact qbt
  clear HO;rintro Y z2 n E Z hY-⟨j,hj,rfl,rfl,hO⟩;simp[bB,lk];by_cases hlt2:j<es.length
  .obtain⟨eb,eo,rfl,g7⟩:=g6 qeb;obtain⟨e1,e2,e3,e4,e5,-⟩:=g7 j hlt2;have I':=Mem_cell_w hO.ay e1;have G':=Mem_cell_w hO.ay e2;have V:=Mem_cell_w hO.ay e3;have el:=Mem_cell_lt hO.ay e1;have O:=P es[j] (zF hlt2);have i:((es.take (j+1)).any fun e=>d.getD e.to.toNat false)=(((es.take j).any fun e=>d.getD e.to.toNat false)||d.getD (es[j]).to.toNat false):=by
    rw[zH hlt2,List.any_append];simp
   obtain⟨t,ht⟩:=zT O.2.1;have A:t<d.length:=zo;rw[ht,Int.toNat_natCast]at i;have H:d.getD t false=d[t]:=by simp[A]
   rw[H]at i;obtain⟨bb,bo,rfl,b4⟩:=b3 (by intro h;simp[h]at A);have C:=b4 t A;have s':=Mem_cell_w hO.ay C;have t':=Mem_cell_lt hO.ay C;generalize d[t]=y at*
   rw[ht]at V;obtain⟨p,x⟩:∃p,((es.take j).any fun e=>d.getD e.to.toNat false)=p:=⟨_,rfl⟩;rw[x]at hO i;have M:=zh i;generalize es[j]=e at*
   have r1:=bL (j:=k) (u:=.bool p) hO.row (by rw[List.getElem?_map,dzv _ _ _ K];rfl);have r2:=fI hO.row k;have r3:=(World.ownsRow.lt hO.row _ rfl).2;have D:=(hO.setRow k (.bool (p||y))).al' (.cells #[.int .u8 e.lo,.int .u8 e.hi,.int .i64 t] 102);rw[<-List.map_set,set_mid _ _ _ _ K]at D;have q:=zh D;clear i x D hO H ht C
   cases p with
   |true=>
    go_wp2;refine hY.o _ _ _ zo rfl ⟨j+1,zo,rfl,rfl,?_⟩;rw[M.o]
    exact q.o
   |false=>
    go_wp2;refine hY.o _ _ _ zo rfl ⟨j+1,zo,rfl,rfl,?_⟩;rw[M.o];exact q.o
  .obtain rfl:j=es.length:=zo;rw[yG]at hO;have HO:=zh hO;clear hO;go_wp2;refine hX.o _ _ _ zo rfl ⟨k+1,zo,rfl,rfl,?_⟩;rw[L.o.1,L.o.2,xD];exact HO.o
 .obtain rfl:k=l.length:=zo;rw[yG,Nat.sub_self,List.replicate_zero,yR]at hO;have J:=nZ (l:=l.map (J5 d)) (m:=m) (by rw[xC];exact hO.row);have hfin:=nk hO.bO.done J;have Hk:=zh qi2;clear hO J hfin;go_wp2;exact hR.o _ _ ⟨_,rfl,Hk.o.1,Hk.o.2⟩
theorem PH:fB prog 236 226 1 24:=⟨underlying236,zo,by
 obtain⟨i,d,c,b,a⟩:=info_parts (P:=prog) (e:=226) (z:=.slice none 0 0) (size:=1) (bytes:=24) zk;exact⟨i,_,d,c,b,a,rfl⟩⟩
abbrev qh(mk:Mem)(tb n:Nat)(v:zV)(w':zW):Prop:=mk.ay w'/\w'.cell? ⟨tb,n,none⟩=some v/\tb<w'.heap.size
def tX(T:aK)(mk:Mem)(xs:List Value)(n:Nat):Prop:=xs.length=n/\∀i,i<n->∃u,xs[i]?=some u/\jV mk u (eF T i)
theorem tX.mono{T:aK}{mk mk':Mem}{xs:List Value}{n:Nat}(h:tX T mk xs n)(a:mk.le mk'):tX T mk' xs n:=
 ⟨h.1,fun i hi=>let ⟨u,h1,h2⟩:=h.2 i hi;⟨u,h1,nk a h2⟩⟩
theorem tX.push{T:aK}{mk:Mem}{xs:List Value}{n:Nat}(h:tX T mk xs n){u:zV}(a:jV mk u (eF T n)):tX T mk (xs++[u]) (n+1):=by
 refine⟨by rw[zL,h.1];rfl,fun i hi=>?_⟩;by_cases e:i<n
 .obtain⟨v,c,b⟩:=h.2 i e;exact⟨v,by rw[yK (by rw[h.1];exact e)];exact c,b⟩
 .obtain rfl:i=n:=zo;exact⟨u,by rw[yN (by rw[h.1];exact zI _),h.1];simp,a⟩
theorem czR{w:zW}{t:TypeId}{size n c g:Nat}{xs:List Value}(h:w.ownsRow 0 t size (.slice (some ⟨g,0,none⟩) n c) n xs):n<=c/\c<=maxLen:=by
 rcases h.2 with⟨h,-⟩|⟨f,e,d,h,-,-,a,b,-⟩
 .cases h
 .injection h with h1 h2 h3;subst h3;exact⟨a,b⟩
theorem SI{T:aK}{l ga:Nat}{w0:zW}{m mk:Mem}{B Bx:List (List UInt8)->List bA->Prop}{va:zV}{L1:List bA}{W:zW}(hC:cB T)(K:Nat)(hK:(K+1)*(T.length+1)<=4000000)
(hY:Eg prog l (fun x:List UInt8=>#[Value.string ⟨x.toArray⟩]) w0 m mk B Bx)(ca:mk.cell ga 0=some va)(A':aU mk va T)(hBK:∀r' Lt,B r' Lt->r'.length<K)(hB:B [] L1)(G:Own w0 m W mk L1):
 zC 191 #[.func (.yield l) #[] #[],.pointer (some ⟨ga,0,none⟩)] W
  (Pb w0 m mk B Bx (fun xs=>∃n,xs=lN T 0 n/\∀y,aH T 0 y=true->y.length<n) (fun xs=>∃n,xs <+: lN T 0 n/\xs≠[])):=by
 have hKT:K*T.length+K+T.length+1<=4000000:=by
  have:(K+1)*(T.length+1)=K*T.length+K+T.length+1:=by rw[Nat.add_mul,Nat.mul_add];omega
  omega
 generalize v':K*T.length=KT at*
 have HKL:=zh v';have Z':=A';obtain⟨aa,ac,rfl,a1,a2,a3⟩:=A';have ha:=Mem_cell_w G.ay ca;have l':=Mem_cell_lt G.ay ca;have P:=zh (zi Z' (zi hY (zi hBK (zi hC ca))));have HO:=zh (zi G hB);unfold maxLen at a2;refine au fun R hR=>?_;clear G hB Z' hY hBK hC v' ca
 go_enter func191,ntmps191
 go_wp2;refine aC [0,1,3,4,9,10] (fun q vs W1=>∃(k:Nat) (vf:zV),k<=T.length/\q=T.length-k/\vs=[.func (.yield l) #[] #[],.pointer (some ⟨ga,0,none⟩),.slice none 0 0,vf,.int .i64 T.length,.int .i64 k] /\
  Own w0 m W1 mk (.row vf 4 1 k (((T.take k).map (·.bU)).map Value.bool)::L1)) ?_ ?_
 .exact⟨_,0,.slice none 0 0,zG _,rfl,rfl,HO.o.1.fC _ _⟩
 clear ha l';rintro X z q vs W1 hX-⟨k,vf,hk,rfl,rfl,G⟩;simp[bB,lk];obtain⟨i',h',rfl⟩:=bz G.row;have ha:=Mem_cell_w G.ay P.o.2.2.2.2;have l':=Mem_cell_lt G.ay P.o.2.2.2.2;by_cases hlt:k<T.length
 .obtain⟨b,off,rfl,a4⟩:=a3 qdP;have s1w:=Mem_cell_w G.ay (a4 k hlt).1;have s1l:=Mem_cell_lt G.ay (a4 k hlt).1;have Y':(T.take (k+1)).map (·.bU)=(T.take k).map (·.bU)++[(T[k]).bU]:=by rw[zH hlt,yI];rfl
  have Htk:=zh Y';generalize (T[k]).bU=y at*
  have f:=G.al #[.bool y] 4;have J:=f.obj.dF rfl;clear Y' G a4
  go_wp2_with (at_builtin;refine aT NH rfl (.tmp 13) (.tmp 20) rfl (.slice i' k h') k _ rfl f.av.row ⟨W1.heap.size,0,none⟩ 1 1 [.bool y] rfl rfl J qdS qdR zo ?_)
  intro I' H' w7 F d E;have D:=(f.av.app F d E zS).bK;have z':=zh D;clear D f F d E J;go_wp2;refine hX.o _ _ _ zo rfl ⟨k+1,.slice I' (k+1) H',zo,rfl,rfl,?_⟩;rw[Htk.o,yI];have:=z'.o;exact qbi
 .obtain rfl:k=T.length:=zo;rw[yG,<-Zf]at G;have hb0:=nZ (l:=eF T 0) (m:=mk) (by rw[Ae];exact G.row);have B':=Mem_le_addv (w:=W1) G.free;have hO1:=G.bO;generalize mk.iH W1 (.slice i' T.length h')=mk1 at*
  have f:=((hO1.fC 226 1).al #[.slice i' T.length h'] 226);have J:=f.obj.dF rfl;have Hb:=zh (zi hb0 B');clear G hO1 hb0 B'
  go_wp2_with (at_builtin;refine aT PH rfl (.tmp 23) (.tmp 25) rfl (.slice none 0 0) 0 [] rfl f.av.row ⟨W1.heap.size,0,none⟩ 1 1 [.slice i' T.length h'] rfl rfl J qdS qdR zo ?_)
  intro I' H' w7 F d E;have D:=(f.av.app F d E zS).bK;have z':=zh D;clear D f F d E J;go_wp2;refine aC [0,1,3,6] (fun q vs W2=>∃(n rn:Nat) (vt:zV) (xs:List Value) (g:Mem) (Lt:List bA),q=KT+1-n/\(n=0/\rn=1\/0<n/\rn=n/\n<=KT) /\
   vs=[.func (.yield l) #[] #[],.pointer (some ⟨ga,0,none⟩),vt,.int .i64 n] /\
   mk.le g/\B (lN T 0 n) Lt/\Own w0 m W2 g (.row vt 226 1 rn xs::Lt)/\tX T g xs rn) ?_ ?_
  .refine⟨_,0,1,.slice I' 1 H',[.slice i' T.length h'],mk1,L1,rfl,.inl ⟨rfl,rfl⟩,rfl,Hb.o.2,HO.o.2,by simpa using z'.o,?_⟩;exact tX.push (n:=0) (xs:=[]) ⟨rfl,fun i hi=>zo⟩ Hb.o.1
  clear z' ha l';rintro Y z2 q vs W2 hY2-⟨n,rn,vt,xs,g,Lt,rfl,hrn,rfl,N,S,f,Q'⟩;simp[bB,lk];obtain⟨vta,X',rfl⟩:=bz f.row;have hrn1:0<rn:=zo;obtain⟨tb,rfl⟩:=rA f.row hrn1;have ha:=Mem_cell_w f.ay (Mem_cell_le N P.o.2.2.2.2);have l':=Mem_cell_lt f.ay (Mem_cell_le N P.o.2.2.2.2);have hnK:n<=KT:=zo;by_cases hT:0<T.length
  .have hd1:decide (0<T.length)=true:=zN hT;have HQ:=zh (zi f (zi S (zi N Q')));clear f S N Q'
   go_upto_if 34 with(fail)
   refine aV [0,1,3,6] (fun vs w'=>∃(G':zV) (Q:List Value) (jH:Mem),vs=[.func (.yield l) #[] #[],.pointer (some ⟨ga,0,none⟩),G',.int .i64 n] /\
    mk.le jH/\Own w0 m w' jH (.row G' 226 1 (n+1) Q::Lt)/\tX T jH Q (n+1)) ?_ ?_
   .intro V hV;rcases hrn with⟨rfl,rfl⟩|⟨hn0,rfl,-⟩
    .go_wp2;exact hV.o _ _ rfl ⟨.slice (some ⟨tb,0,none⟩) 1 X',xs,g,rfl,HQ.o.2.2.1,HQ.o.1,HQ.o.2.2.2⟩
    .have hd2:decide (0<rn)=true:=zN hn0;have hd3:decide ((0:Int)<(rn:Int))=true:=zN zo;obtain⟨C,rfl⟩:∃C,rn=C+1:=⟨rn-1,zo⟩;have hw1:IntKind.i64.wrap (((C+1:Nat):Int)-1)=(C:Int):=by rw[IntWalk.i64_in _ zo];omega
     have hw2:IntKind.i64.wrap ((C:Int)+1-1)=(C:Int):=by rw[IntWalk.i64_in _ zo];omega
     have hw3:IntKind.i64.wrap (C:Int)=(C:Int):=IntWalk.i64_in _ zo;have hn1:C<C+1:=zo;have hn2:(C:Int)<(C:Int)+1:=zo;obtain⟨u,a',s'⟩:=HQ.o.2.2.2.2 C hn1;have G:=HQ.o.1.dr;go_wp2;refine kz (fun j w'=>j≠9->j≠10->(g.ay w'/\w'.cell? ⟨tb,C,none⟩=some u/\tb<w'.heap.size)) zk ?_;have hS:g.ay W2.drew/\W2.drew.cell? ⟨tb,C,none⟩=some u/\tb<W2.drew.heap.size:=⟨G.ay,bL G.row a',(World.ownsRow.lt G.row _ rfl).2⟩;have hca:=Mem_cell_le HQ.o.2.2.1 P.o.2.2.2.2;refine aL 0 12 (qh g tb C u) rfl zk qfd qiA hS qim ?_;refine aL 1 12 (qh g tb C u) rfl zk qfd qiA hS qim ?_;refine aL 2 12 (qh g tb C u) rfl zk qfd qiA hS qim ?_;refine aL 3 12 (qh g tb C u) rfl zk qfd qiA hS qim ?_;refine aL 4 12 (qh g tb C u) rfl zk qfd qiA hS qim ?_;refine aL 5 12 (qh g tb C u) rfl zk qfd qiA hS qim ?_;refine aL 6 12 (qh g tb C u) rfl zk qfd qiA hS qim ?_;have b':=Ae T C;have hcs:=Ng P.o.2.2.2.1.wf P.o.2.2.2.1.bytes C;have P':=dzR (.slice aa T.length ac) u T (eF T C) g _ G.ay (aX HQ.o.2.2.1 P.o.1) s' P.o.2.2.2.1.wf zo b';refine bg 7 zk (aJ rfl rfl (dE zg P' ?_));rintro e' w3 ⟨r,rfl,hb3,N'⟩;rw[show T.map (J5 (eF T C))=eF T (C+1) from hcs.symm]at N';have D:=G.call hb3;have L:=Mem_le_grow (w:=w3) G.ay;clear hcs b';obtain⟨K',J',rfl⟩:∃xa xc,r=.slice xa (eF T (C+1)).length xc:=by obtain⟨x,y,e,-⟩:=N';exact⟨x,y,e⟩
     refine⟨_,rfl,.inr fun _ _=>⟨Mem_inn_le L D.ay,bL D.row a',(World.ownsRow.lt D.row _ rfl).2⟩,?_⟩;go_simp;have H:=D.al #[.slice K' (eF T (C+1)).length J'] 226;refine bg 8 zk (aJ rfl rfl (aO qdV ⟨.inr fun _ _=>⟨Mem_inn_le L H.ay,bL H.av.row a',(World.ownsRow.lt H.av.row _ rfl).2⟩,?_⟩));go_simp;refine bg 9 zk (aJ rfl rfl (gq PH (.tmp 35) (.tmp 43) rfl (.slice (some ⟨tb,0,none⟩) (C+1) X') (C+1) xs rfl H.av.row ⟨w3.heap.size,0,none⟩ 1 1 [.slice K' (eF T (C+1)).length J'] rfl rfl (H.obj.dF rfl) qdS qdR zo (fun na' nc' w7 F d E=>?_)));have hO5:=(H.av.app F d E (zI _)).bK;refine⟨.inr fun h=>absurd rfl h,?_⟩;go_simp;refine bg 10 zk (aJ rfl rfl (aO qdV ⟨.inl rfl,?_⟩));refine gM zk ?_ _;exact hV.o _ _ rfl ⟨.slice na' (C+1+1) nc',xs++[.slice K' (eF T (C+1)).length J'],g.grow W2.drew w3,rfl,Mem.le_trans HQ.o.2.2.1 L,hO5,(HQ.o.2.2.2.mono L).push N'⟩
   rintro z3 vs w3-⟨G',Q,jH,rfl,L,D,m'⟩;simp[bB,lk];have S:=HQ.o.2.1;have j':=fun h=>YQ P.o.2.2.2.1.wf P.o.2.2.2.1.bytes (n:=n) h;have hES:=MW T 0 n;have C':=fun(hn:KT<n+1) (h:(lN T 0 (n+1)).length<K)=>Vu P.o.2.2.2.1 (n:=n+1) h (by rw[HKL.o];exact hn);obtain⟨vta2,I,rfl⟩:=bz D.row;obtain⟨a,rfl⟩:=rA D.row zo;obtain⟨u,a',s'⟩:=m'.2 n zo;have HS:=zh (zi D (zi m' (zi L (zi j' (zi hES C')))));have HU:=zh (zi a' s');have HB2:=zh S;have b':=Ae T n;obtain⟨ua,s,rfl,u2,u3,u4⟩:=s';obtain⟨A,p,rfl,u5⟩:=u4 (by intro h;rw[h]at b';simp at b';omega);have D':(∀b∈eF T n,b=false)↔¬(true∈eF T n):=by
    constructor
    .intro h hm;have:=h true hm;cases this
    .intro h b hb
     cases b with
     |false=>rfl
     |true=>exact absurd hb h
   have Hall:=zh D';have k':=czR D.row;have hcap1:=k'.1;have O':=k'.2;unfold maxLen at O';clear D' k';clear D m' L j' hES C' a' HQ S ha l' b' u4 u5;go_wp2;refine aV [0,1,3,6,65] (fun vs w'=>∃(bb:Bool) (O:Mem) (M:List bA),vs=[.func (.yield l) #[] #[],.pointer (some ⟨ga,0,none⟩),.slice (some ⟨a,0,none⟩) (n+1) I,.int .i64 n,.bool bb]/\mk.le O /\
    (bb=false->B (lN T 0 (n+1)) M/\Own w0 m w' O (.row (.slice (some ⟨a,0,none⟩) (n+1) I) 226 1 (n+1) Q::M)/\true∈eF T n/\tX T O Q (n+1)) /\
    (bb=true->(B (lN T 0 n) M/\Own w0 m w' O M/\∀b∈eF T n,b=false)\/∃q,q≠[]/\q <+: uO T n 0/\Bx (lN T 0 n++q) M/\Own w0 m w' O M)) ?_ ?_
   .intro V hV;have G:=HS.o.1.dr;have hca:=Mem_cell_le HS.o.2.2.1 P.o.2.2.2.2;have hw1:IntKind.i64.wrap ((n:Int)+1)=(n:Int)+1:=IntWalk.i64_in _ zo;have hn1:(n:Int)<(n:Int)+1:=zo;have hn2:n<n+1:=zo;have hb1:(0:Int)<=(n:Int)+1:=zo;have hb2:(n:Int)+1<=(I:Int):=zo;have HCt:=zh (fun w' (h:jH.ay w')=>Er (.slice (some ⟨A,p,none⟩) (eF T n).length s) (eF T n) true jH w' h HU.o.2);refine kz (fun j w'=>j≠18->j≠19->j≠20->(jH.ay w'/\w'.cell? ⟨a,n,none⟩=some (.slice (some ⟨A,p,none⟩) (eF T n).length s)/\a<w'.heap.size)) zk ?_;have hS:jH.ay w3.drew/\w3.drew.cell? ⟨a,n,none⟩=some (.slice (some ⟨A,p,none⟩) (eF T n).length s)/\a<w3.drew.heap.size:=⟨G.ay,bL G.row HU.o.1,(World.ownsRow.lt G.row _ rfl).2⟩;refine aL 0 6 (qh jH a n (.slice (some ⟨A,p,none⟩) (eF T n).length s)) rfl zk qfd qip hS qiw ?_;refine aL 1 6 (qh jH a n (.slice (some ⟨A,p,none⟩) (eF T n).length s)) rfl zk qfd qip hS qiw ?_;refine aL 2 6 (qh jH a n (.slice (some ⟨A,p,none⟩) (eF T n).length s)) rfl zk qfd qip hS qiw ?_;refine aL 3 6 (qh jH a n (.slice (some ⟨A,p,none⟩) (eF T n).length s)) rfl zk qfd qip hS qiw ?_;refine bg 4 zk (aJ rfl rfl (dE zg (HCt.o _ G.ay) ?_));rintro e' w4 ⟨rfl,hb4⟩;have H:=G.aS hb4;have c:jH.ay w4/\w4.cell? ⟨a,n,none⟩=some (.slice (some ⟨A,p,none⟩) (eF T n).length s)/\a<w4.heap.size:=⟨H.ay,bL H.row HU.o.1,(World.ownsRow.lt H.row _ rfl).2⟩;refine⟨_,rfl,.inr fun _ _ _=>c,?_⟩;by_cases U:true∈eF T n
    .rw[aM U];go_simp;refine aL 5 6 (qh jH a n (.slice (some ⟨A,p,none⟩) (eF T n).length s)) rfl zk qfd qip c qim ?_;refine aL 6 6 (qh jH a n (.slice (some ⟨A,p,none⟩) (eF T n).length s)) rfl zk qfd qip c qim ?_;go_simp;refine aL 7 6 (qh jH a n (.slice (some ⟨A,p,none⟩) (eF T n).length s)) rfl zk qfd qip c qim ?_;go_simp;refine aL 8 6 (qh jH a n (.slice (some ⟨A,p,none⟩) (eF T n).length s)) rfl zk qfd qip c qim ?_;go_simp;refine aL 9 6 (qh jH a n (.slice (some ⟨A,p,none⟩) (eF T n).length s)) rfl zk qfd qip c qim ?_;go_simp;refine aL 10 6 (qh jH a n (.slice (some ⟨A,p,none⟩) (eF T n).length s)) rfl zk qfd qip c qim ?_;go_simp;refine aL 11 6 (qh jH a n (.slice (some ⟨A,p,none⟩) (eF T n).length s)) rfl zk qfd qip c qim ?_;go_simp;refine aL 12 6 (qh jH a n (.slice (some ⟨A,p,none⟩) (eF T n).length s)) rfl zk qfd qip c qim ?_;go_simp;refine aL 13 6 (qh jH a n (.slice (some ⟨A,p,none⟩) (eF T n).length s)) rfl zk qfd qip c qim ?_;go_simp;refine aL 14 6 (qh jH a n (.slice (some ⟨A,p,none⟩) (eF T n).length s)) rfl zk qfd qip c qim ?_;go_simp;refine aL 15 6 (qh jH a n (.slice (some ⟨A,p,none⟩) (eF T n).length s)) rfl zk qfd qip c qim ?_;go_simp;refine aL 16 6 (qh jH a n (.slice (some ⟨A,p,none⟩) (eF T n).length s)) rfl zk qfd qip c qim ?_;go_simp;refine aL 17 6 (qh jH a n (.slice (some ⟨A,p,none⟩) (eF T n).length s)) rfl zk qfd qip c qim ?_;go_simp;have t':=hT;have M':=azo (T:=T) (l:=l) (w0:=w0) (m:=m) (mk0:=jH) (B:=B) (Bx:=Bx) (Lr:=[.row (.slice (some ⟨a,0,none⟩) (n+1) I) 226 1 (n+1) Q]) (tb:=a) (n:=n) (ctab:=I) (clast:=1) (qG:=n+1) (va:=.slice aa T.length ac) P.o.2.2.2.1.wf P.o.2.2.2.1.bytes
      (fun r' x W' mk' Lt' Lr' h1 h2 h3=>P.o.2.1 r' x W' mk' Lt' Lr' h1 h2 (Mem.le_trans HS.o.2.2.1 h3)) (aX HS.o.2.2.1 P.o.1) t' qdR zo zo qdR
      (fun W' mk' Lt' h i hi=>by
       obtain⟨u',h1,h2⟩:=HS.o.2.1.2 i hi;exact⟨u',bL (h.CE (v:=.slice (some ⟨a,0,none⟩) (n+1) I) (t:=226) (size:=1) (n:=n+1) (xs:=Q) zS) h1,h2⟩)
      (lN T 0 n) jH w4 Lt (Mem.le_refl _) HB2.o (H.perm (List.perm_append_singleton _ _))
     refine bg 18 zk (fH rfl rfl (dE zg M' ?_));rintro e' w5 (⟨rfl,L',R',k1,k2,k3⟩|⟨rfl,qq,L',R',k0,k1,k2,k3,k4⟩)
     .refine⟨_,rfl,.inr fun h=>absurd rfl h,?_⟩;go_simp;refine bg 19 zk (fH rfl rfl (aO qdV ⟨.inl rfl,?_⟩));go_simp;refine bg 20 zk (aJ rfl rfl (aO qdV ⟨.inl rfl,?_⟩));refine gM zk ?_ _;refine hV.o _ _ rfl ⟨false,L',R',rfl,Mem.le_trans HS.o.2.2.1 k3,fun _=>⟨?_,k2.perm (List.perm_append_singleton _ _).symm,U,HS.o.2.1.mono k3⟩,fun h=>by cases h⟩;rw[HS.o.2.2.2.2.1];exact k1
     .refine⟨_,rfl,.inr fun h=>absurd rfl h,?_⟩;go_simp;refine bg 19 zk (fH rfl rfl (aO qdV ⟨.inl rfl,?_⟩));go_simp;refine bg 20 zk (aJ rfl rfl (aO qdV ⟨.inl rfl,?_⟩));refine gM zk ?_ _;exact hV.o _ _ rfl ⟨true,L',R',rfl,Mem.le_trans HS.o.2.2.1 k4,(fun h=>by cases h),fun _=>.inr ⟨qq,k0,k1,k2,(k3.perm (List.perm_append_singleton _ _).symm).tail⟩⟩
    .rw[aF U];go_simp;refine aL 5 6 (qh jH a n (.slice (some ⟨A,p,none⟩) (eF T n).length s)) rfl zk qfd qip c qiq ?_;refine aL 6 6 (qh jH a n (.slice (some ⟨A,p,none⟩) (eF T n).length s)) rfl zk qfd qip c qiq ?_;go_simp;refine aL 7 6 (fun w'=>jH.ay w'/\w'.cell? ⟨a,n,none⟩=some (.slice (some ⟨A,p,none⟩) (eF T n).length s)/\a<w'.heap.size) rfl zk qfd qip c (.inr ⟨rfl,rfl⟩) ?_;go_simp;refine aL 8 6 (fun w'=>jH.ay w'/\w'.cell? ⟨a,n,none⟩=some (.slice (some ⟨A,p,none⟩) (eF T n).length s)/\a<w'.heap.size) rfl zk qfd qip c (.inr ⟨rfl,rfl⟩) ?_;go_simp;refine aL 9 6 (fun w'=>jH.ay w'/\w'.cell? ⟨a,n,none⟩=some (.slice (some ⟨A,p,none⟩) (eF T n).length s)/\a<w'.heap.size) rfl zk qfd qip c (.inr ⟨rfl,rfl⟩) ?_;go_simp;refine aL 10 6 (fun w'=>jH.ay w'/\w'.cell? ⟨a,n,none⟩=some (.slice (some ⟨A,p,none⟩) (eF T n).length s)/\a<w'.heap.size) rfl zk qfd qip c (.inr ⟨rfl,rfl⟩) ?_;go_simp;refine aL 11 6 (fun w'=>jH.ay w'/\w'.cell? ⟨a,n,none⟩=some (.slice (some ⟨A,p,none⟩) (eF T n).length s)/\a<w'.heap.size) rfl zk qfd qip c (.inr ⟨rfl,rfl⟩) ?_;go_simp;refine aL 12 6 (fun w'=>jH.ay w'/\w'.cell? ⟨a,n,none⟩=some (.slice (some ⟨A,p,none⟩) (eF T n).length s)/\a<w'.heap.size) rfl zk qfd qip c (.inr ⟨rfl,rfl⟩) ?_;go_simp;refine aL 13 6 (fun w'=>jH.ay w'/\w'.cell? ⟨a,n,none⟩=some (.slice (some ⟨A,p,none⟩) (eF T n).length s)/\a<w'.heap.size) rfl zk qfd qip c (.inr ⟨rfl,rfl⟩) ?_;go_simp;refine aL 14 6 (fun w'=>jH.ay w'/\w'.cell? ⟨a,n,none⟩=some (.slice (some ⟨A,p,none⟩) (eF T n).length s)/\a<w'.heap.size) rfl zk qfd qip c (.inr ⟨rfl,rfl⟩) ?_;go_simp;refine aL 15 6 (fun w'=>jH.ay w'/\w'.cell? ⟨a,n,none⟩=some (.slice (some ⟨A,p,none⟩) (eF T n).length s)/\a<w'.heap.size) rfl zk qfd qip c (.inr ⟨rfl,rfl⟩) ?_;go_simp;refine aL 16 6 (fun w'=>jH.ay w'/\w'.cell? ⟨a,n,none⟩=some (.slice (some ⟨A,p,none⟩) (eF T n).length s)/\a<w'.heap.size) rfl zk qfd qip c (.inr ⟨rfl,rfl⟩) ?_;go_simp;refine aL 17 6 (fun w'=>jH.ay w'/\w'.cell? ⟨a,n,none⟩=some (.slice (some ⟨A,p,none⟩) (eF T n).length s)/\a<w'.heap.size) rfl zk qfd qip c (.inr ⟨rfl,rfl⟩) ?_;go_simp;refine bg 18 zk (Ns rfl rfl ⟨.inl rfl,?_⟩);go_simp;refine bg 19 zk (Ns rfl rfl ⟨.inl rfl,?_⟩);go_simp;refine bg 20 zk (aJ rfl rfl (aO qdV ⟨.inl rfl,?_⟩));refine gM zk ?_ _;exact hV.o _ _ rfl ⟨true,jH,Lt,rfl,HS.o.2.2.1,(fun h=>by cases h),fun _=>.inl ⟨HB2.o,H.tail,Hall.o.2 U⟩⟩
   rintro z5 vs w5-⟨bb,O,M,rfl,Z,hf,ht⟩;simp[bB,lk]
   cases bb with
   |true=>
    have Hq:=zh (zi (ht rfl) Z);clear ht hf Z;go_wp2;refine yV (v:=.tuple #[]) qe3 rfl ?_;refine hR.o _ _ ⟨⟨_,rfl⟩,?_⟩;rcases Hq.o.1 with⟨h1,h2,h3⟩|⟨qq,h1,h2,h3,h4⟩
    .exact .inl ⟨_,O,M,⟨n,rfl,HS.o.2.2.2.1 h3⟩,h1,h2,Hq.o.2⟩
    .refine .inr ⟨_,O,M,⟨n+1,?_,fun h=>h1 (List.append_eq_nil_iff.1 h).2⟩,h3,h4,Hq.o.2⟩;rw[HS.o.2.2.2.2.1]
     exact(List.prefix_append_right_inj _).2 h2
   |false=>
    obtain⟨h1,h2,h3,h4⟩:=hf rfl;have v':n+1<=KT:=by
     apply zP;intro hn;have:=HS.o.2.2.2.2.2 zo (P.o.2.2.1 _ _ h1);rw[Nat.add_sub_cancel]at this;rw[this]at h3;have:=List.eq_of_mem_replicate h3;cases this
    have Hq:=zh (zi h1 (zi h2 (zi Z h4)));clear ht hf Z h1 h2 h3 h4;go_wp2;exact hY2.o _ _ _ zo rfl ⟨n+1,n+1,.slice (some ⟨a,0,none⟩) (n+1) I,Q,O,M,rfl,.inr ⟨zo,rfl,v'⟩,rfl,Hq.o.2.2.1,Hq.o.1,Hq.o.2.1,Hq.o.2.2.2⟩
  .have hd1:decide (0<T.length)=false:=zM hT;have t':T=[]:=yM zo;have E':∀y,aH T 0 y=true->y.length<n:=fun y hy=>by rw[t',hzR]at hy;cases hy
   have Hq:=zh (zi E' (zi f.tail (zi S N)));clear E' f S N t' Q';go_wp2;refine yV (v:=.tuple #[]) qe3 rfl ?_;exact hR.o _ _ ⟨⟨_,rfl⟩,.inl ⟨_,g,Lt,⟨n,rfl,Hq.o.1⟩,Hq.o.2.2.1,Hq.o.2.1,Hq.o.2.2.2⟩⟩
attribute [local go_sem] Oper.semAt_some
def kV(x:List UInt8):ByteArray:=⟨x.toArray⟩
theorem ez0:fB prog 167 9 1 16:=⟨underlying167,zo,by
 obtain⟨i,d,c,b,a⟩:=info_parts (P:=prog) (e:=9) (z:=.string ⟨#[]⟩) (size:=1) (bytes:=16) zk;exact⟨i,_,d,c,b,a,rfl⟩⟩
theorem Br{w:zW}{t:TypeId}{v:zV}{l:List ByteArray}{m:Mem}(a:w.ownsRow 0 t 1 v l.length (l.map Value.string))(hk:∀x∈l,x.size<=maxLen):BX (m.iH w v) v l:=
 pq a fun g b i h=>⟨dZ a b m qeI,hk _ (zF h)⟩
theorem ZO(v:zV)(w:zW):zC 160 #[.agg #[v]] w fun e w'=>e=.returned (.func (.func 191) #[] #[.pointer (some ⟨w.heap.size,0,none⟩)])/\w'=w.alloc (.cells #[v] 27):=by
 refine au fun R hR=>?_
 go_enter func160,ntmps160
 exact qbD
theorem K4:∀args w,(callFunc 191 args).run prog w=.ok (.enter 191 args) w:=enters_of func191 zk rfl
def qX(n:Int):Nat:=(min n 1000).toNat
theorem Xm{n:Int}(h:1<=n):1<=qX n/\((qX n:Nat):Int)=min n 1000/\qX n<=1000:=by unfold qX;omega
theorem UO(f:List UInt8->Bool):jW f 0 []:=⟨.nil,fun x a=>by simp at a,zS,fun y _ _=>⟨rfl,fun x a=>by simp at a⟩⟩
theorem DU{T:aK}{K:Nat}{xs:List (List UInt8)}(h:(∃n,xs=lN T 0 n/\(∀y,aH T 0 y=true->y.length<n)/\xs.length<K)\/(∃n,xs <+: lN T 0 n/\xs.length=K)):jW (aH T 0) K xs:=by
 rcases h with⟨n,rfl,a,b⟩|⟨n,a,b⟩
 .have:=Cs (l:=T) (s:=0) (L:=n) (k:=K) (.inr a)
  rwa [xH zo]at this
 .have c:xs=(lN T 0 n).take K:=by
   rw[<-b];exact List.prefix_iff_eq_take.1 a
  have:=Cs (l:=T) (s:=0) (L:=n) (k:=K) (.inl (by rw[<-b];exact a.length_le))
  rwa [<-c]at this
theorem JE{T:aK}{K:Nat}{xs:List (List UInt8)}(h:jW (aH T 0) K xs)(b:(K+1)*(T.length+1)<=4000000):∀z∈xs,z.length<=4000000:=by
 intro z a;rw[OD h (UQ (l:=T) (s:=0) (k:=K) (L:=K*T.length) (zI _))]at a;have c:=((pW T 0 _ z).1 (xX a)).1;have:K*T.length<=(K+1)*(T.length+1):=xV zo zo;omega
theorem Bd{F:Fence}{d:Nat}{P:Program}{t e:TypeId}{size bytes:Nat}(S:fB P t e size bytes){w:zW}{ops:Array Oper}{rest:List Oper}{o:Oper}{a:Act}{Q:Exit->Act->World->Prop}(hgd:o.guard=none)(s x:Operand)
(ho:o.op=.call { callee:=.builtin .append,args:=#[s,x],argTypes:=#[t,t] })
(v:zV)(n:Nat)(xs:List Value)(hs:a.eval s=v)(hown:w.ownsRow 0 e size v n xs)
(ad:Addr)(m c:Nat)(dF:List Value)(hx:a.eval x=.slice (some ad) m c)(hl:dF.length=m*size)(hnews:∀j u,dF[j]?=some u->w.cell? (ad.add j)=some u)(h1:∀u∈dF,u.oneCell'=true)
(h63:n+m<=maxLen)(hbytes:(n+m)*bytes<=140737488355328)
(h:∀va vc w',w'.ownsRow 0 e size (.slice va (n+m) vc) (n+m) (xs++dF)->w.grownBy w' v.ownBlock->(∀k,(Value.slice va (n+m) vc).ownBlock=some k->v.ownBlock=some k\/w.heap.size<=k)->wpListIn F d P ops Q rest (a.put o.dst (.slice va (n+m) vc)) w'):wpListIn F d P ops Q (o::rest) a w:=by
 refine wpListIn_plain hgd fun K hK=>?_;obtain⟨v',w',hr,h2,h3,h4⟩:=lH S w o.type v n xs hown ad m c dF hl hnews h1 h63 hbytes;obtain⟨va,vc,rfl⟩:=bz h2;refine⟨?_,?_⟩
 .simp[Oper.about,ho,resolve,Target.leads,Sem.run_pure]
 .exact qbm
def XG(x:List UInt8):Value:=.string ⟨x.toArray⟩
theorem KW(v0:zV)(A:aK)(n:Int)(m:Mem)(w:zW)(hm:m.ay w)(htab:dV m)(hA:aU m v0 A)(hn1 : -9223372036854775808<=n)(hn2:n<=9223372036854775807)(hlen:(qX n+1)*(A.length+1)<=4000000)(hlA:A.length<=1000000):
 zC 117 #[.agg #[v0],.int .i64 n] w fun e w'=>∃r ws,e=.returned r/\zB w w'/\BX (m.grow w w') r (ws.map kV)/\jW (Sem A) (qX n) ws:=by
 have hO:=(((Own.start hm).al #[v0] 27).al #[.int .i64 n] 3).al #[.slice none 0 0] 167;have hsz1:(w.alloc (.cells #[v0] 27)).heap.size=w.heap.size+1:=by simp
 have hsz2:((w.alloc (.cells #[v0] 27)).alloc (.cells #[.int .i64 n] 3)).heap.size=w.heap.size+1+1:=by simp
 rw[hsz2,hsz1]at hO;have HG:=zh (nV v0 A m _ hO.ay htab hA hlA);have HO:=zh hO;obtain⟨va,vc,rfl,-⟩:=hA;clear hO hsz1 hsz2;refine au fun R hR=>?_;by_cases hn:n<1
 .have hk0:qX n=0:=by unfold qX;omega
  have Hk0:=zh hk0;have hdec:decide (n<1)=true:=zN hn;clear hk0
  go_enter func117,ntmps117
  go_wp2;refine hR.o _ _ ⟨_,[],rfl,HO.o.az,⟨none,0,rfl,zI _,by simp[maxLen],fun h=>absurd rfl h⟩,?_⟩;rw[Hk0.o];exact UO _
 .have hdec:decide (n<1)=false:=zM hn;refine(callsIn_wide (n:=0)).1 ?_;refine callsIn_of_wp_marks func117 rfl trivial ?_;simp only[ntmps117,List.size_toArray,yO,List.length_nil,Nat.reduceAdd,Nat.reduceSub,Array.replicate_succ,Array.replicate_zero,List.push_toArray,List.append_toArray,xN,xK];refine wpIn_wide.2 ?_
  go_wp2_with fail
  refine HG.o.mono ?_;rintro e w1 ⟨r,rfl,hb1,hst⟩;have hO1:=HO.o.call hb1;obtain⟨ra,rc,rfl⟩:∃ra rc,r=.slice ra (cO A).length rc:=by obtain⟨x,y,e,-⟩:=hst;exact⟨x,y,e⟩
  have HO1:=zh (zi hO1 hst);clear HO HG hb1 hst hO1
  go_wp2_with fail
  refine(ZO (.slice ra (cO A).length rc) w1).mono ?_;rintro e w2 ⟨rfl,rfl⟩;have hO2:=HO1.o.1.al #[.slice ra (cO A).length rc] 27;have hst:=HO1.o.2;obtain⟨m1,hO3,l1,c1⟩:=hO2.Bt;obtain⟨m2,hO4,l2,c2⟩:=hO3.av.Bt;have hO5:=hO4.av.tail.fC 9 1;have hO6:=hO5;have hst2:=aX (Mem.le_trans l1 l2) hst;have c1':=Mem_cell_le l2 c1;have HS:=zh (zi hO5 (zi hst2 (zi c1' c2)));clear hO2 hst hO3 hO4 hO5 hO6 hst2 c1 c2 c1' l1 l2 HO1 m1;have hwp:=Xm (n:=n) zo;have hgl:=kr A;have hgis:=yw A;have hmul:(qX n+1)*((cO A).length+1)<=4000000:=yJ (Nat.mul_le_mul_left _ zo) hlen;have HW:=zh (zi hwp (zi hgis hmul));have hw1:=hwp.1;have hw3:=hwp.2.2;clear hwp hgis hmul hgl;go_wp2;refine(wpIn_wide (n:=0)).1 ?_;refine Nr (gf:=191) (lb:=#[.pointer (some ⟨w1.heap.size,0,none⟩)]) rfl K4 (encs:=fun x:List UInt8=>#[Value.string ⟨x.toArray⟩]) (fun _=>rfl) HS.o.1
   (fun pre L=>(∃v,L=[.row v 9 1 pre.length (pre.map XG),.obj (w.heap.size+1+1) 167 #[v]])/\pre.length<qX n)
   (fun c pre L=>c=.exit 0/\(∃v,L=[.row v 9 1 pre.length (pre.map XG),.obj (w.heap.size+1+1) 167 #[v]])/\pre.length=qX n)
   (fun xs=>∃n,xs=lN (cO A) 0 n/\∀y,aH (cO A) 0 y=true->y.length<n) (fun xs=>∃n,xs <+: lN (cO A) 0 n/\xs≠[]) ⟨⟨_,rfl⟩,by simp;omega⟩ ?seq
   (fun x=>{ tmps:=#[.agg #[.slice va A.length vc],.int .i64 n,.pointer (some ⟨w.heap.size,0,none⟩),.pointer (some ⟨w.heap.size+1,0,none⟩),.slice none 0 0,.pointer (some ⟨w.heap.size+1+1,0,none⟩),.string ⟨x.toArray⟩,.int .i64 n,.bool false,undef,.agg #[.slice va A.length vc],.agg #[.slice ra (cO A).length rc],.func (.func 191) #[] #[.pointer (some ⟨w1.heap.size,0,none⟩)],.string ⟨x.toArray⟩,undef,undef,undef,undef,undef,undef,undef,undef,undef,undef],defers:=[] }) ?assign ?body ?done ?stop
  case seq=>
   intro l W1 L1 B Bx hB hBI hOw hY;exact SI HW.o.2.1.canon (qX n) HW.o.2.2 hY HS.o.2.2.1 HS.o.2.1 (fun pre Lt h=>(hBI pre Lt h).elim fun L hL=>hL.2) hB hOw
  case assign=>
   intro l x W K hK
   gi_wp2
   exact hK
  case body=>
   rintro l pre x W mk1 Lt Lr ⟨⟨v,rfl⟩,hlt⟩ hOw hle;simp only[xK,xN]at hOw;obtain⟨xa,xc,rfl⟩:=bz hOw.row;have o1:=hOw.av.obj.c 0;have o2:=hOw.av.obj.lt;have o3:=hOw.av.obj.frozen 0;have n1:=Mem_cell_w hOw.ay qfM;have n2:=Mem_cell_lt hOw.ay qfM;have hO2:=hOw.al #[.string ⟨x.toArray⟩] 9;have hnews:=hO2.obj.dF rfl;have Hlt:=zh hlt;clear hOw
   gi_wp2_with (gi_at_builtin;refine Bd ez0 rfl (.tmp 14) (.tmp 16) rfl (.slice xa pre.length xc) pre.length (pre.map XG) rfl hO2.av.row ⟨W.heap.size,0,none⟩ 1 1 [.string ⟨x.toArray⟩] rfl rfl hnews qdS qdR zo ?_)
   intro ya yc w5 hown5 hgrow5 hrow5;have hO3:=(hO2.av.app hown5 hgrow5 hrow5 zS).bK;have o1:=hO3.av.obj.c 0;have o2:=hO3.av.obj.lt;have o3:=hO3.av.obj.frozen 0;have n1:=Mem_cell_w hO3.ay qfM;have n2:=Mem_cell_lt hO3.ay qfM;have hO4:=(hO3.av.set 0 (.slice ya (pre.length+1) yc)).av;have HO4:=zh hO4;clear hO4 hO3 hO2 hown5 hgrow5 hrow5 hnews;have Hend:=zh (show ∀xs,xs=pre++[x]->([bA.row (.slice ya (pre.length+1) yc) 9 1 (pre.length+1) (pre.map XG++[.string ⟨x.toArray⟩]),bA.obj (w.heap.size+1+1) 167 #[.slice ya (pre.length+1) yc]]:List bA)=[bA.row (.slice ya (pre.length+1) yc) 9 1 xs.length (xs.map XG),bA.obj (w.heap.size+1+1) 167 #[.slice ya (pre.length+1) yc]] from fun xs h=>by
    subst h;simp[XG])
   have hne:w.heap.size+1≠w.heap.size+1+1:=zo
   gi_wp2
   all_goals unfold Ei
   all_goals dsimp only
   all_goals first
    | (have ht:((pre.length:Int)+1==min n 1000)=true:=zA
       refine⟨mk1,_,⟨rfl,⟨_,Hend.o _ rfl⟩,?_⟩,HO4.o,Mem.le_refl _⟩;have h1:=HW.o.1.2.1;have h2:=beq_iff_eq.1 ht;simp only[zL,yO,List.length_nil]
       omega)
    | (have ht:((pre.length:Int)+1==min n 1000)=false:=zA
       refine⟨mk1,_,⟨⟨_,Hend.o _ rfl⟩,?_⟩,HO4.o,Mem.le_refl _⟩;have h1:=HW.o.1.2.1;have h2:=zO.1 ht;have h3:=Hlt.o;simp only[zL,yO,List.length_nil];omega)
  case done=>
   rintro D xs W mk1 L ⟨nn,hxs,hfin⟩ ⟨⟨v,rfl⟩,hlt⟩ hOw hle;obtain⟨xa,xc,rfl⟩:=bz hOw.av.row;have o1:=hOw.aP.obj.c 0;have o2:=hOw.aP.obj.lt;have hfirst:=DU (.inl ⟨nn,hxs,hfin,hlt⟩);have hres:jW (Sem A) (qX n) xs:=hfirst.congr fun y=>HW.o.2.1.qw y;have hsz:∀z∈xs,(kV z).size<=maxLen:=fun z hz=>by
    exact qhS
   clear hxs hfin hlt hfirst;have hbl:=hOw.gT;have hO2:=hOw.av;have hst:=Br (l:=xs.map kV) (m:=mk1) (t:=9) (v:=.slice xa xs.length xc) (w:=W) (by
    rw[xC,vE];exact hO2.row) (fun y hy=>by
    obtain⟨z,hz,rfl⟩:=yD.1 hy;exact hsz z hz)
   rw[show(Mem.iH mk1 W (.slice xa xs.length xc))=Mem.iH mk1 W (.slice xa xs.length xc) from rfl]at hst;have hO3:=hO2.bO;have hO4:=hO3.jU (o':=.deferred none) (World.putObj_heap_same (yC.1 hbl).1) (grownBy_putObj' _ _ _);have hfin2:=gzx hO4.done hst;have Hk:=zh (zi hO4.az (zi hfin2 hres));clear hO4 hO3 hO2 hOw hst hfin2
   gi_wp2
   exact qa9
  case stop=>
   rintro D c xs W mk1 L ⟨nn,hpre,hne⟩ ⟨rfl,⟨v,rfl⟩,hlt⟩ hOw hle;obtain⟨xa,xc,rfl⟩:=bz hOw.av.row;have o1:=hOw.aP.obj.c 0;have o2:=hOw.aP.obj.lt;have hfirst:=DU (.inr ⟨nn,hpre,hlt⟩);have hres:jW (Sem A) (qX n) xs:=hfirst.congr fun y=>HW.o.2.1.qw y;have hsz:∀z∈xs,(kV z).size<=maxLen:=fun z hz=>by
    exact qhS
   clear hpre hne hlt hfirst;have hbl:=hOw.gT;have hO2:=hOw.av;have hst:=Br (l:=xs.map kV) (m:=mk1) (t:=9) (v:=.slice xa xs.length xc) (w:=W) (by
    rw[xC,vE];exact hO2.row) (fun y hy=>by
    obtain⟨z,hz,rfl⟩:=yD.1 hy;exact hsz z hz)
   rw[show(Mem.iH mk1 W (.slice xa xs.length xc))=Mem.iH mk1 W (.slice xa xs.length xc) from rfl]at hst;have hO3:=hO2.bO;have hO4:=hO3.jU (o':=.deferred none) (World.putObj_heap_same (yC.1 hbl).1) (grownBy_putObj' _ _ _);have hfin2:=gzx hO4.done hst;have Hk:=zh (zi hO4.az (zi hfin2 hres));clear hO4 hO3 hO2 hOw hst hfin2
   gi_wp2
   exact qa9
def VL(f:List UInt8->Bool):Option (List UInt8)->Prop
 |some x=>f x=true/\∀y,f y=true->y=x
 |none=>¬∃x,f x=true/\∀y,f y=true->y=x
theorem VL.congr{f g:List UInt8->Bool}{a:Option (List UInt8)}(h:VL f a)(e:∀w,f w=g w):VL g a:=by
 exact qcU
def azC(o:Option (List UInt8)):Value:=.tuple #[.string (match o with|some x=>kV x|none=>⟨#[]⟩),.bool o.isSome]
theorem tC(i:zV)(A:aK)(m:Mem)(w:zW)(F:m.ay w)(f:dV m)(G:aU m i A)(s:A.length<=1000000):
 zC 77 #[.agg #[i]] w fun e w'=>∃o,e=.returned (azC o)/\zB w w'/\ll (Sem A) o:=by
 have l:=(Own.start F).al #[i] 27;have n:=zh (KW i A 1 m _ l.ay f G zo zo (by have:qX 1=1:=rfl;rw[this];omega) zo);have p:=zh l;clear l;refine au fun R u=>?_
 go_enter func77,ntmps77
 go_wp2_with fail
 refine n.o.mono ?_;rintro e I ⟨r,d,rfl,c,g,a⟩;have b:=p.o.call c;have k:=QD a
 cases d with
 |nil=>
  obtain⟨B,y,rfl,D,C,j⟩:=g;have h:=zh (zi b.az k);clear b k a n p c j;go_wp2
  exact u.o _ _ ⟨none,rfl,h.o.1,h.o.2⟩
 |cons x d=>
  obtain⟨B,y,rfl,D,C,j⟩:=g;obtain⟨K,J,rfl,q⟩:=j zS;have z:=(q 0 zS).1;rw[Nat.add_zero]at z;have v:=Mem_cell_w b.ay z;have H:=Mem_cell_lt b.ay z;simp only[yL,xL]at v;have E:0<(List.map kV (x::d)).length:=by simp
  have t:(((List.map kV (x::d)).length:Int)==0)=false:=zO.2 zo;have h:=zh (zi b.az k);clear b k a n p c j q z;generalize (List.map kV (x::d)).length=N at*
  go_wp2;exact u.o _ _ ⟨some x,rfl,h.o.1,h.o.2⟩
theorem VF:∀x y:List UInt8,x.length=y.length->(Op.bytesLess x y=true↔lex x y)
 |[],[],_=>by simp[Op.bytesLess,lex]
 |[],_::_,h=>by simp at h
 |_::_,[],h=>by simp at h
 |a::x,b::y,h=>by
  have c:=VF x y qd9;simp[Op.bytesLess,lex,c]
def Fp(x y:List UInt8):Int:=if Op.bytesLess x y then -1 else if x=y then 0 else 1
theorem Yx(s:ByteArray)(w:zW):zC 210 #[.string s] w fun e w'=>e=.returned (.bool false)/\w'=w:=by
 refine au fun R hR=>?_
 go_enter func210,ntmps210
 exact qbD
theorem JX(s t:ByteArray)(w:zW):zC 170 #[.string s,.string t] w fun e w'=>e=.returned (.int .i64 (Fp s.data.toList t.data.toList))/\w'=w:=by
 rw[<-xE s,<-xE t];refine au fun R b=>?_
 go_enter func170,ntmps170
 go_wp2_with ((go_at_call 210);refine(Yx _ _).mono ?_;rintro e w' ⟨rfl,rfl⟩)
 .have h:Op.bytesLess s.toList t.toList=true:=zA;exact b.o _ _ ⟨by simp[Fp,h],rfl⟩
 .have h:Op.bytesLess s.toList t.toList=false:=zA;have a:(!s.toList==t.toList)=true:=zA;have a:¬s.toList=t.toList:=by simpa using a
  exact b.o _ _ ⟨by simp[Fp,h,a],rfl⟩
 .have h:Op.bytesLess s.toList t.toList=false:=zA;have a:(!s.toList==t.toList)=false:=zA;have a:s.toList=t.toList:=by simpa using a
  exact b.o _ _ ⟨by rw[a]at h⊢;simp[Fp,h],rfl⟩
def gzZ:Option (List UInt8)->Option (List UInt8)->Int
 |none,none=>0
 |some _,none => -1
 |none,some _=>1
 |some x,some y=>if Lib.compareInt x.length y.length=0 then Fp x y else Lib.compareInt x.length y.length
theorem dzP{f g:List UInt8->Bool}{a b:Option (List UInt8)}(h:ll (fun w=>f w && !g w) a)(k:ll (fun w=>g w && !f w) b):ik f g (gzZ a b):=by
 have q:=OX h k
 cases a with
 |none=>
  cases b with
  |none=>exact q
  |some y=>exact q
 |some x=>
  cases b with
  |none=>exact q
  |some y=>
   obtain⟨e,m,l⟩:=q;show ik f g (if Lib.compareInt x.length y.length=0 then Fp x y else Lib.compareInt x.length y.length);have n:Lib.compareInt x.length y.length=if x.length<y.length then -1 else if x.length > y.length then 1 else 0:=by
    unfold Lib.compareInt;by_cases d:x.length<y.length
    .rw[zK zo,zK d]
    .rw[zJ zo,zJ d];by_cases c:x.length > y.length
     .rw[zK zo,zK c]
     .rw[zJ zo,zJ c]
   rw[n];by_cases d:x.length<y.length
   .rw[zK d,zJ zo];exact m (.inl d)
   .rw[zJ d];by_cases c:x.length > y.length
    .rw[zK c,zJ zo];exact l (.inl c)
    .rw[zJ c,zK rfl];have j:x.length=y.length:=zo;unfold Fp;by_cases i:Op.bytesLess x y=true
     .rw[zK i];exact m (.inr ⟨j,(VF x y j).1 i⟩)
     .rw[zJ i,zJ e];rcases uk x y with t|t|t
      .rcases t with t|⟨-,t⟩
       .omega
       .exact absurd ((VF x y j).2 t) i
      .exact absurd t e
      .exact l t
theorem fzk(g:Nat)(t:TypeId)(x y:Int)(w:zW)(h:aZ w g t #[.int .i64 x,.int .i64 y]):
 zC 168 #[.slice (some ⟨g,0,none⟩) 2 2] w fun e w'=>e=.returned (.int .i64 (if x=0 then y else x))/\w'=w:=by
 have r:=h.cell (i:=0) rfl;have q:=h.cell (i:=1) rfl;have p:=h.lt;refine au fun R f=>?_
 go_enter func168,ntmps168
 go_wp2;refine aC [3,6,7,8] (fun n l j=>∃k:Nat,k<=2/\n=2-k/\l=[.int .i64 0,.slice (some ⟨g,0,none⟩) 2 2,.int .i64 2,.int .i64 k]/\j=w/\(1<=k->x=0)/\(2<=k->y=0)) ?_ ?_
 .exact⟨_,0,zo,rfl,rfl,rfl,zo,zo⟩
 rintro X z n l j m-⟨k,hk,rfl,rfl,rfl,a,c⟩;simp[bB,lk];have hk:k=0\/k=1\/k=2:=zo;rcases hk with rfl|rfl|rfl
 .clear a c;by_cases e:x=0
  .have d:(x != 0)=false:=by simp[e]
   have E:=zh e;clear e;go_wp2;refine m.o _ _ _ zo rfl ⟨1,zo,rfl,rfl,rfl,fun _=>E.o,zo⟩
  .have d:(x != 0)=true:=by simp[e]
   have E:=zh e;clear e;go_wp2;exact f.o _ _ ⟨by rw[zJ E.o];rfl,rfl⟩
 .have b:=zh (a zo);clear a c;by_cases e:y=0
  .have d:(y != 0)=false:=by simp[e]
   have E:=zh e;clear e;go_wp2;refine m.o _ _ _ zo rfl ⟨2,zo,rfl,rfl,rfl,fun _=>b.o,fun _=>E.o⟩
  .have d:(y != 0)=true:=by simp[e]
   have E:=zh e;clear e;go_wp2;exact f.o _ _ ⟨by rw[zK b.o];rfl,rfl⟩
 .have b:=zh (zi (a zo) (c zo));clear a c;go_wp2;exact f.o _ _ ⟨by rw[zK b.o.1,b.o.2];rfl,rfl⟩
end Cl
