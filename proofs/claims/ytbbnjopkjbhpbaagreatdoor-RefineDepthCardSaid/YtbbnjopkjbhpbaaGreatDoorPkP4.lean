/- Lemmas for the proofs of chapter 11. -/
import Derived.Shelf.SlSortCmp.WholeK
import Derived.RangeFuncNested
import Derived.RangeFuncBound
import Derived.OwnWalkIn
import Derived.TacticsInMore
import Derived.LoopNIn
import Derived.LoopIn
import Derived.Test.YtbbnjopkjbhpbaaGreatDoorPkP3
set_option maxRecDepth 100000
set_option maxHeartbeats 16000000
namespace Cl
open Go Go.RowKit
abbrev qy:=Nat->Nat×Nat
def qy.put(a:qy)(i:Nat)(x:Nat×Nat):qy:=fun j=>if j=i then x else a j
theorem qy.uw(a:qy)(i:Nat)(x:Nat×Nat):a.put i x i=x:=by simp[qy.put]
theorem qy.wZ(a:qy){i j:Nat}(x:Nat×Nat)(h:j≠i):a.put i x j=a j:=by simp[qy.put,h]
structure aI where
 deps:List Nat
 holds:Value->qy->World->Prop
 mono:∀(v:zV) (win win':qy) (w w':zW),(∀d∈deps,win d=win' d/\(win d).2<=w.heap.size)->zB w w'->holds v win w->holds v win' w'
def aI.any:aI:=⟨[],fun _ _ _=>True,fun _ _ _ _ _ _ _ _=>trivial⟩
def aI.is(p:Value->Prop):aI:=⟨[],fun v _ _=>p v,fun _ _ _ _ _ _ _ h=>h⟩
def aI.obj(j:Nat)(t:TypeId)(arr:Array Value):aI:=⟨[j],fun v a w=>v=.pointer (some ⟨(a j).1,0,none⟩)/\(a j).2=(a j).1+1/\aZ w (a j).1 t arr,fun v a win' w w' hd hb ⟨d,c,b⟩=>by
 obtain⟨e,f⟩:=hd j (zZ.2 rfl);rw[<-e];exact⟨d,c,aZ.az b hb b.lt⟩⟩
def aI.sl(j:Nat)(t:TypeId)(arr:Array Value)(n:Nat):aI:=⟨[j],fun v a w=>v=.slice (some ⟨(a j).1,0,none⟩) n n/\(a j).2=(a j).1+1/\aZ w (a j).1 t arr,fun v a win' w w' hd hb ⟨d,c,b⟩=>by
 obtain⟨e,f⟩:=hd j (zZ.2 rfl);rw[<-e];exact⟨d,c,aZ.az b hb b.lt⟩⟩
def Mem.fJ(m:Mem)(w:zW)(a:qy)(ds:List Nat):Mem:=fun k=>if ds.any (fun d=>decide ((a d).1<=k/\k<(a d).2))=true then w.heap[k]? else m k
theorem Mem_wins_eq{m:Mem}{w w':zW}{b a:qy}{ds:List Nat}(g:∀d∈ds,b d=a d/\(b d).2<=w.heap.size)(i:zB w w'):m.fJ w b ds=m.fJ w' a ds:=by
 funext k;unfold Mem.fJ;have e:(ds.any fun d=>decide ((b d).1<=k/\k<(b d).2))=ds.any fun d=>decide ((a d).1<=k/\k<(a d).2):=by
  rw[Bool.eq_iff_iff,List.any_eq_true,List.any_eq_true];constructor
  .rintro⟨d,c,f⟩;exact⟨d,c,by rw[<-(g d c).1];exact f⟩
  .rintro⟨d,c,f⟩;exact⟨d,c,by rw[(g d c).1];exact f⟩
 rw[<-e]
 split
 .rename_i h;obtain⟨d,c,f⟩:=List.any_eq_true.1 h;have:=(g d c).2;simp only[decide_eq_true_eq]at f;exact(i.block k zo).symm
 .rfl
theorem Mem_wins_inn{m:Mem}{w:zW}(h:m.ay w)(a:qy)(ds:List Nat):(m.fJ w a ds).ay w:=⟨fun k o hk=>by
 unfold Mem.fJ at hk
 split at hk
 .exact hk
 .exact h.get k o hk⟩
theorem Mem_le_wins{m:Mem}{w:zW}(h:m.ay w)(a:qy)(ds:List Nat):m.le (m.fJ w a ds):=⟨fun k o hk=>by
 unfold Mem.fJ
 split
 .exact h.get k o hk
 .exact hk⟩
theorem Mem_wins_le{m:Mem}{w:zW}(h:m.ay w)(a:qy){ds es:List Nat}(e:∀d∈ds,d∈es):(m.fJ w a ds).le (m.fJ w a es):=⟨fun k o hk=>by
 have hi:=(Mem_wins_inn h a ds).get k o hk;unfold Mem.fJ at hk⊢
 split
 .exact hi
 .rename_i b
  split at hk
  .rename_i c;obtain⟨d,g,f⟩:=List.any_eq_true.1 c;exact absurd (List.any_eq_true.2 ⟨d,e d g,f⟩) b
  .exact hk⟩
theorem Mem_wins_none{m:Mem}{w:zW}{a:qy}{ds:List Nat}{k:Nat}(h:m k=none)(c:∀d∈ds,¬((a d).1<=k/\k<(a d).2)):m.fJ w a ds k=none:=by
 unfold Mem.fJ;rw[zJ]
 .exact h
 .intro b;obtain⟨d,e,h2⟩:=List.any_eq_true.1 b;exact c d e qeu
theorem Mem_grow_wins{m:Mem}{w w':zW}(h:m.ay w)(a:qy){ds:List Nat}{i:Nat}(j:∀d∈ds,d≠i)(f:∀d∈ds,(a d).2<=w.heap.size)(c:zB w w'):
 ((m.fJ w a ds).grow w w').le (m.fJ w' (a.put i (w.heap.size,w'.heap.size)) (i::ds)):=⟨fun k o hk=>by
 have e:m.fJ w a ds=m.fJ w' (a.put i (w.heap.size,w'.heap.size)) ds:=Mem_wins_eq (fun d b=>⟨(qy.wZ a _ (j d b)).symm,f d b⟩) c;unfold Mem.grow at hk
 split at hk
 .rw[e]at hk;exact(Mem_wins_le (Mem_inn_below h c) _ (fun d h=>zU _ h)).get k o hk
 .have g:=(yC.1 hk).1;unfold Mem.fJ;rw[zK]
  .exact hk
  .refine List.any_eq_true.2 ⟨i,yF ..,?_⟩;rw[qy.uw];simp only[decide_eq_true_eq];omega⟩
theorem Mem_grow_wins0{m:Mem}{w w':zW}(h:m.ay w)(a:qy)(i:Nat)(b:zB w w'):(m.grow w w').le (m.fJ w' (a.put i (w.heap.size,w'.heap.size)) [i]):=by
 have:=Mem_grow_wins (ds:=[]) h a (i:=i) zS zS b;have e:m.fJ w a []=m:=by funext k;simp[Mem.fJ]
 rwa [e]at this
def aI.mem(m:Mem)(ds:List Nat)(R:Mem->Value->Prop):aI:=⟨ds,fun v a w=>R (m.fJ w a ds) v,fun v a b w w' c d h=>by
 rw[<-Mem_wins_eq c d];exact h⟩
def OP(a:Act)(o:Oper):Value:=match o.dst with
 |some s=>a.tmps.getD s undef
 |none=>undef
section
variable {P:Program} {ops:Array Oper} {Q:Exit->Act->World->Prop}
structure Reg (ops:Array Oper) (t0:Array Value) (w1:zW) (F:Nat->aI) (don:Nat->Bool) (win:qy) (a:Act) (w:zW):Prop where
 size:a.tmps.size=t0.size
 defers:a.defers=[]
 az:Below w1.heap.size w1 w
 keep:∀s,(∀j o,ops[j]?=some o->don j=true->o.dst≠some s)->a.tmps.getD s undef=t0.getD s undef
 fact:∀j o,ops[j]?=some o->don j=true->(F j).holds (OP a o) win w
 iZ:∀j,don j=true->w1.heap.size<=(win j).1/\(win j).1<=(win j).2/\(win j).2<=w.heap.size
 apart:∀j k,don j=true->don k=true->j≠k->(win j).2<=(win k).1\/(win k).2<=(win j).1
def Oc(ops:Array Oper)(a s:Nat):Bool:=(List.range a).all fun i=>((ops[i]?).map fun o => !(o.dst==some s)).getD true
theorem x8{a s:Nat}(h:Oc ops a s=true){j:Nat}{o:Oper}(b:ops[j]?=some o)(c:j<a):o.dst≠some s:=by
 have:=vD.1 h j (yQ.2 c);rw[b]at this;exact qbi
structure Kt (ops:Array Oper) (n0 fu:Nat) (t0:Array Value) (w1:zW) (F:Nat->aI) (i:Nat) (win:qy) (a:Act) (w:zW):Prop where
 size:a.tmps.size=t0.size
 defers:a.defers=[]
 az:Below w1.heap.size w1 w
 keep:∀s,Oc ops n0 s=true->a.tmps.getD s undef=t0.getD s undef
 dep:∀j o,jK ops fu i j=true->ops[j]?=some o->(F j).holds (OP a o) win w
 iZ:∀j,jK ops fu i j=true->w1.heap.size<=(win j).1/\(win j).1<=(win j).2/\(win j).2<=w.heap.size
def czk(F:Nat->aI)(i:Nat)(o:Oper)(b:qy)(a:Act)(w:zW)(c:Act)(w':zW):Prop:=
 ∃v,c=a.put o.dst v/\zB w w'/\(F i).holds v (b.put i (w.heap.size,w'.heap.size)) w'
structure czl (ops:Array Oper) (n0:Nat) (t0:Array Value) (w1:zW) (F:Nat->aI) (win:qy) (a:Act) (w:zW):Prop where
 size:a.tmps.size=t0.size
 defers:a.defers=[]
 az:Below w1.heap.size w1 w
 keep:∀s,Oc ops n0 s=true->a.tmps.getD s undef=t0.getD s undef
 fact:∀j o,j<n0->ops[j]?=some o->(F j).holds (OP a o) win w
 iZ:∀j,j<n0->w1.heap.size<=(win j).1/\(win j).1<=(win j).2/\(win j).2<=w.heap.size
 apart:∀j k,j<n0->k<n0->j≠k->(win j).2<=(win k).1\/(win k).2<=(win j).1
def azx(ops:Array Oper)(a c f:Nat)(b:Nat->List Nat):Bool:=
 decide (a<=ops.size) &&
 (List.range a).all (fun i=>((ops[i]?).map fun o=>o.after.all fun e => !Region.binds .any e||decide (e.on<i)).getD false) &&
 (List.range ops.size).all (fun i=>decide (i<a)||(List.range a).all fun j=>jK ops c i j) &&
 (List.range a).all (fun i=>((ops[i]?).map fun o=>match o.dst with
  |some s=>decide (s<f)&&(List.range i).all fun j=>((ops[j]?).map fun o' => !(o'.dst==some s)).getD true
  | none=>false).getD false) &&
 (List.range a).all (fun j=>(b j).all fun d=>d==j||jK ops c j d)
structure ezU (ops:Array Oper) (n0 fu nt:Nat) (deps:Nat->List Nat):Prop where
 le:n0<=ops.size
 back:∀i o,i<n0->ops[i]?=some o->∀e∈o.after,Region.binds .any e=true->e.on<i
 late:∀i,i<ops.size->n0<=i->∀j,j<n0->jK ops fu i j=true
 dst:∀i o,i<n0->ops[i]?=some o->∃s,o.dst=some s/\s<nt/\∀j o',j<n0->ops[j]?=some o'->j≠i->o'.dst≠some s
 dep:∀j,j<n0->∀d∈deps j,d=j\/jK ops fu j d=true
theorem TD{p t n:Nat}{b:Nat->List Nat}(h:azx ops p t n b=true):ezU ops p t n b:=by
 simp only[azx,xG,decide_eq_true_eq]at h;obtain⟨⟨⟨⟨F,E⟩,D⟩,C⟩,B⟩:=h;have u:∀i o,i<p->ops[i]?=some o->∃s,o.dst=some s/\s<n/\∀j o',j<i->ops[j]?=some o'->o'.dst≠some s:=by
  intro i o hi g;have:=vD.1 C i (yQ.2 hi);rw[g]at this;simp only[vH,xA]at this
  split at this
  .rename_i s m;rw[xG,decide_eq_true_eq]at this;refine⟨s,m,this.1,fun j o' c a=>?_⟩;have:=vD.1 this.2 j (yQ.2 c);rw[a]at this;exact qbi
  .cases this
 refine⟨F,?_,?_,?_,?_⟩
 .intro i o hi g e y A;have:=vD.1 E i (yQ.2 hi);rw[g]at this;simp only[vH,xA]at this;have:=Array.all_eq_true_iff_forall_mem.1 this e y;simpa [A]using this
 .intro i hi G j c;have:=vD.1 D i (yQ.2 hi);simp only[Bool.or_eq_true,decide_eq_true_eq]at this;exact vD.1 (this.resolve_left zo) j (yQ.2 c)
 .intro i o hi g;obtain⟨s,m,r,l⟩:=u i o hi g;refine⟨s,m,r,fun j o' c a w e=>?_⟩;rcases Nat.lt_or_ge j i with k|x
  .exact l j o' k a e
  .obtain⟨v,q,-,f⟩:=u j o' c a;have:v=s:=Option.some.inj (q.symm.trans e);subst this;exact f i o zo g m
 .intro j c d z;have:=vD.1 (vD.1 B j (yQ.2 c)) d z;exact qbi
theorem F7{p q:Nat->Bool}(h:∀x,q x=true->p x=true){i:Nat}(c:p i=true)(b:q i=false):∀l:List Nat,i∈l->(l.filter q).length<(l.filter p).length
 |[],hi=>by cases hi
 |x::l,hi=>by
  have f:(l.filter q).length<=(l.filter p).length:=by
   clear hi
   induction l with
   |nil=>simp
   |cons y l a=>
    simp only[List.filter_cons]
    cases hy:q y with
    |true=>simp[h y hy,a]
    |false=>
     cases p y with
     |true=>simp;omega
     |false=>simpa using a
  rcases yA.1 hi with e|d
  .subst e;simp only[List.filter_cons,c,b,if_true];simp;omega
  .have a:=F7 h c b l d;simp only[List.filter_cons]
   cases hy:q x with
   |true=>simp[h x hy,a]
   |false=>
    cases p x with
    |true=>simp;omega
    |false=>simpa using a
theorem QB{p:Nat->Bool}:∀n,(∃j,j<n/\p j=true)->∃j,j<n/\p j=true/\∀k,k<j->p k=false
 |0,⟨_,h,_⟩=>zo
 |n+1,⟨j,h,hp⟩=>by
  by_cases a:∃j,j<n/\p j=true
  .obtain⟨j,d,c,b⟩:=QB n a;exact⟨j,zo,c,b⟩
  .refine⟨j,h,hp,fun k hk=>?_⟩
   cases hpk:p k with
   |false=>rfl
   |true=>exact absurd ⟨k,zo,hpk⟩ a
theorem BQ:∀(fuel c:Nat) (b:Array Bool) (a:Act) (w:zW),fuel<=c->wpAny P .any ops Q fuel b a w->wpAny P .any ops Q c b a w
 |0,c,b,a,w,_,h=>by
  cases c with
  |zero=>exact h
  |succ m=>exact⟨fun _=>h.2,fun i hi=>by rw[h.1]at hi;cases hi⟩
 |fuel+1,c,b,a,w,hl,h=>by
  cases c with
  |zero=>omega
  |succ m=>exact⟨h.1,fun i hi=>wpOp_mono (fun e w' d=>BQ fuel m _ e w' zo d) (h.2 i hi)⟩
def Qu(n a:Nat):Array Bool:=((List.range n).map fun i=>decide (i<a)).toArray
theorem WK{l:Array Bool}{i:Nat}(h:i<l.size):l.getD i true=l.getD i false:=by simp[h]
theorem Qt{n d:Nat}{a:Array Bool}(e:a.size=n)(b:∀j,a.getD j false=true->j<d)(c:∀j,j<d->a.getD j false=true):a=Qu n d:=by
 apply Array.ext
 .simp[Qu,e]
 .intro i g h;simp only[Qu,List.getElem_toArray,xQ,List.getElem_range];have f:a.getD i false=a[i]:=by simp[g]
  rw[<-f];by_cases hi:i<d
  .rw[c i hi];simp[hi]
  .cases hx:a.getD i false with
   |true=>exact absurd (b i hx) hi
   |false=>simp[hi]
def Pk(ops:Array Oper)(a:Array Bool):Prop:=
 ∀k ok,ops[k]?=some ok->a.getD k false=true->∀e∈ok.after,Region.binds .any e=true->a.getD e.on false=true
theorem CX{a:Array Bool}(g:Pk ops a){i:Nat}:∀(n j:Nat),a.getD j false=true->jK ops n j i=true->a.getD i false=true:=by
 intro n
 induction n with
 |zero=>intro j _ h;cases h
 |succ n ih=>
  intro j d h;unfold jK at h
  cases ho:ops[j]? with
  |none=>rw[ho]at h;cases h
  |some o=>
   rw[ho]at h;simp only[vH,xA,Array.any_eq_true',xG,Bool.or_eq_true,beq_iff_eq]at h;obtain⟨e,f,k,b⟩:=h;have c:=g j o ho d e f k;rcases b with b|b
   .rw[<-b];exact c
   .exact ih e.on c b
theorem wY{a:Array Bool}(m:Pk ops a){i j n:Nat}(h:i∈Region.ready .any ops a)(c:jK ops n i j=true):a.getD j false=true:=by
 obtain⟨g,o,k,b⟩:=mem_ready.1 h
 cases n with
 |zero=>cases c
 |succ n=>
  unfold jK at c;rw[k]at c;simp only[vH,xA,Array.any_eq_true',xG,Bool.or_eq_true,beq_iff_eq]at c;obtain⟨e,l,p,d⟩:=c;have f:=b e l p;rcases d with d|d
  .rw[<-d];exact f
  .exact CX m n e.on f d
theorem jC{l:Array Bool}{i j:Nat}:(l.setIfInBounds i true).getD j false=true↔l.getD j false=true\/(j=i/\i<l.size):=by
 simp only[zY,Array.getElem?_setIfInBounds];by_cases e:i=j
 .subst e;by_cases h:i<l.size
  .simp[h]
  .simp[h]
 .rw[zJ e];constructor
  .exact .inl
  .rintro(h|⟨h,-⟩)
   .exact h
   .exact absurd h.symm e
theorem fzd{a:Act}{s:Nat}{v:zV}{t:Nat}:(a.put (some s) v).tmps.getD t undef=if t=s/\s<a.tmps.size then v else a.tmps.getD t undef:=by
 simp only[Act.put,zY,Array.getElem?_setIfInBounds];by_cases e:s=t
 .subst e;by_cases h:s<a.tmps.size
  .simp[h]
  .simp[h]
 .rw[zJ e,zJ (fun h=>e h.1.symm)]
theorem X6{q Y:Nat}{O:Array Value}{W:zW}{F:Nat->aI}(H:ezU ops q Y O.size (fun j=>(F j).deps))
(J:∀i,i<q->∀o f a w,ops[i]?=some o->Kt ops q Y O W F i f a w->wpOp P ops Q i (czk F i o f a w) a w)
(G:∀f a w,czl ops q O W F f a w->wpAny P .any ops Q (ops.size-q) (Qu ops.size q) a w):
 ∀(fuel:Nat) (b:Array Bool) (f:qy) (a:Act) (w:zW),b.size=ops.size->(∀j,b.getD j false=true->j<q)->Pk ops b ->
  ((List.range q).filter fun j => !b.getD j false).length+(ops.size-q)<=fuel->Reg ops O W F (fun j=>b.getD j false) f a w->wpAny P .any ops Q fuel b a w:=by
 intro fuel
 induction fuel with
 |zero=>
  intro b f a w B c z i' n;have g:∀j,j<q->b.getD j false=true:=fun j p=>by
   cases M:b.getD j false with
   |true=>rfl
   |false=>
    have:j∈(List.range q).filter fun j => !b.getD j false:=xR.2 ⟨yQ.2 p,by rw[M];rfl⟩;have:=List.length_pos_of_mem this;omega
  have:=G f a w ⟨n.size,n.defers,n.az,fun s C=>n.keep s fun j o r y=>x8 C r (c j y),fun j o p r=>n.fact j o r (g j p),fun j p=>n.iZ j (g j p),fun j k p hk u=>n.apart j k (g j p) (g k hk) u⟩;rw[Qt B c g]
  exact BQ _ _ _ _ _ zo this
 |succ fuel ih=>
  intro b f a w B c z i' n;by_cases g:∀j,j<q->b.getD j false=true
  .have:=G f a w ⟨n.size,n.defers,n.az,fun s C=>n.keep s fun j o r y=>x8 C r (c j y),fun j o p r=>n.fact j o r (g j p),fun j p=>n.iZ j (g j p),fun j k p hk u=>n.apart j k (g j p) (g k hk) u⟩;rw[Qt B c g];exact BQ _ _ _ _ _ zo this
  .have j':∃j,j<q/\(!b.getD j false)=true:=by
    apply zP;intro d';exact g fun j p=>by
     cases M:b.getD j false with
     |true=>rfl
     |false=>exact absurd ⟨j,p,by rw[M];rfl⟩ d'
   refine⟨fun S=>?_,fun i hi=>?_⟩
   .obtain⟨j,h1,h2,h3⟩:=QB q j';have T:j<ops.size:=by have:=H.le;omega
    have:j∈Region.ready .any ops b:=mem_ready.2 ⟨by rw[WK zo];simpa using h2,ops[j],by simp[T],fun e X N=>by
     have:=h3 e.on (H.back j _ h1 (by simp[T]) e X N);simpa using this⟩
    rw[S]at this;cases this
   .obtain⟨I,o,r,L⟩:=mem_ready.1 hi;have g':i<ops.size:=(yC.1 r).1;have D:i<q:=by
     rcases Nat.lt_or_ge i q with h|h
     .exact h
     .exact absurd (fun j p=>wY z hi (H.late i g' h j p)) g
    rw[WK zo]at I;obtain⟨s,C,Z,b'⟩:=H.dst i o D r;have c':s<a.tmps.size:=by rw[n.size];exact Z
    have hA:Kt ops q Y O W F i f a w:=⟨n.size,n.defers,n.az,fun s C=>n.keep s fun j o r y=>x8 C r (c j y),
     fun j o R r=>n.fact j o r (wY z hi R),fun j R=>n.iZ j (wY z hi R)⟩
    refine wpOp_mono ?_ (J i D o f a w r hA);rintro a' w' ⟨v,rfl,N,hv⟩;rw[C];have m:∀j,b.getD j false=true->j≠i:=fun j p e=>by rw[e,I]at p;cases p
    refine ih (b.setIfInBounds i true) (f.put i (w.heap.size,w'.heap.size)) _ _ (by simpa using B) ?_ ?_ ?_ ?_
    .intro j p;rcases jC.1 p with h|h
     .exact c j h
     .rw[h.1];exact D
    .intro k ok hk hl e X V;refine jC.2 (.inl ?_);rcases jC.1 hl with h|h
     .exact z k ok hk h e X V
     .have f':=h.1;subst f';have:ok=o:=Option.some.inj (hk.symm.trans r);subst this;exact L e X V
    .have:((List.range q).filter fun j => !(b.setIfInBounds i true).getD j false).length<((List.range q).filter fun j => !b.getD j false).length:=by
      refine F7 (i:=i) (fun x M=>?_) (by rw[I];rfl) ?_ _ (yQ.2 D)
      .cases hl:b.getD x false with
       |false=>rfl
       |true=>
        have:=jC (l:=b) (i:=i) (j:=x) |>.2 (.inl hl);rw[this]at M;cases M
      .have:=jC (l:=b) (i:=i) (j:=i) |>.2 (.inr ⟨rfl,zo⟩);rw[this];rfl
     omega
    .refine⟨?_,n.defers,iY n.az N,?_,?_,?_,?_⟩
     .simp[Act.put,n.size]
     .intro t ht;rw[fzd,zJ]
      .exact n.keep t fun j o' A y=>ht j o' A (jC.2 (.inl y))
      .rintro⟨e,-⟩;exact ht i o r (jC.2 (.inr ⟨rfl,zo⟩)) (by rw[C,e])
     .intro j o' A y;rcases jC.1 y with h|h
      .have K:=m j h;have e:OP (a.put (some s) v) o'=OP a o':=by
        unfold OP
        cases hd':o'.dst with
        |none=>rfl
        |some t=>
         simp only;rw[fzd,zJ];rintro⟨e,-⟩;exact b' j o' (c j h) A K (by rw[hd',e])
       rw[e];refine(F j).mono _ f _ w w' (fun d y=>?_) N (n.fact j o' A h);have U:b.getD d false=true:=by
        rcases H.dep j (c j h) d y with e|R
        .rw[e];exact h
        .exact CX z Y j h R
       exact⟨(qy.wZ f _ (m d U)).symm,(n.iZ d U).2.2⟩
      .have K:=h.1;subst K;have:o'=o:=Option.some.inj (A.symm.trans r);subst this;have e:OP (a.put (some s) v) o'=v:=by
        unfold OP;rw[C];simp only;rw[fzd,zK ⟨rfl,c'⟩]
       rw[e];exact hv
     .intro j y;rcases jC.1 y with h|h
      .rw[qy.wZ f _ (m j h)];have:=n.iZ j h;have:=N.size;omega
      .rw[h.1,qy.uw];exact⟨n.az.size,N.size,zI _⟩
     .intro j k p hk u;rcases jC.1 p with h|h
      .rcases jC.1 hk with E|E
       .rw[qy.wZ f _ (m j h),qy.wZ f _ (m k E)];exact n.apart j k h E u
       .rw[qy.wZ f _ (m j h),E.1,qy.uw];exact .inl (n.iZ j h).2.2
      .rcases jC.1 hk with E|E
       .rw[qy.wZ f _ (m k E),h.1,qy.uw];exact .inr (n.iZ k E).2.2
       .exact absurd (h.1.trans E.1.symm) u
theorem bF{id:Nat}{g:Array Value}{w:zW}(c n:Nat)(F:Nat->aI)(p:P.follows .mixedOrders=true)(m:azx ops c n g.size (fun j=>(F j).deps)=true)
(e:∀i,i<c->∀o b a w',ops[i]?=some o->Kt ops c n g w.drew F i b a w'->wpOp P ops Q i (czk F i o b a w') a w')
(l:∀b a w',czl ops c g w.drew F b a w'->wpAny P .any ops Q (ops.size-c) (Qu ops.size c) a w'):(Code.region id ops true).wp P Q ⟨g,[]⟩ w:=by
 have H:=TD m;refine wp_region_any p (X6 H e l ops.size (Array.replicate ops.size false) (fun _=>(0,0)) ⟨g,[]⟩ w.drew zS ?_ ?_ ?_ ?_)
 .intro j d;exfalso;by_cases h:j<ops.size<;>simp[h]at d
 .intro k ok _ q;exfalso;by_cases h:k<ops.size<;>simp[h]at q
 .have:((List.range c).filter fun j => !(Array.replicate ops.size false).getD j false).length<=c:=by
   have:=vB (fun j => !(Array.replicate ops.size false).getD j false) (List.range c);exact qbi
  have:=H.le;omega
 .have f:∀j,(Array.replicate ops.size false).getD j false=true->False:=fun j d=>by
   by_cases h:j<ops.size<;>simp[h]at d
  exact⟨rfl,rfl,zR _ _,fun _ _=>rfl,fun j _ _ d=>(f j d).elim,fun j d=>(f j d).elim,fun j _ d=>(f j d).elim⟩
theorem dx{b:Array Bool}{a:Act}{w:zW}(d:(Region.ready .any ops b==[])=true)(h:Q .normal a w):∀fuel,wpAny P .any ops Q fuel b a w:=by
 have c:Region.ready .any ops b=[]:=by simpa using d
 intro fuel
 cases fuel with
 |zero=>exact⟨c,h⟩
 |succ n=>exact⟨fun _=>h,by rw[c];simp⟩
theorem dX(i:Nat){fuel:Nat}{b:Array Bool}{a:Act}{w:zW}(c:(Region.ready .any ops b==[i])=true)
(h:wpOp P ops Q i (fun d w'=>wpAny P .any ops Q fuel (b.setIfInBounds i true) d w') a w):wpAny P .any ops Q (fuel+1) b a w:=by
 have hr':Region.ready .any ops b=[i]:=by simpa using c
 exact qa0
theorem YF{t:Array Value}{s:Nat}{b:Bool}(h:t.getD s undef=.bool b):t[s]?=some (.bool b):=by
 cases hx:t[s]? with
 |none=>simp[hx,undef]at h
 |some v=>simpa [hx]using h
theorem Lx{o:Oper}{a:Act}{g s:Nat}{b c:Bool}(f:o.guard=some (g,b))(d:(ops[g]?).bind (·.dst)=some s)(e:a.tmps.getD s undef=.bool c):Region.wanted o (yielded ops a.tmps)=(c==b):=by
 have h:=YF e;simp[Region.wanted,f,yielded,d,h]
theorem eX{o:Oper}{a:Act}{g s:Nat}{b:Bool}(d:o.guard=some (g,b))(c:(ops[g]?).bind (·.dst)=some s)(e:a.tmps.getD s undef=.bool b):Region.wanted o (yielded ops a.tmps)=true:=by
 rw[Lx d c e];simp
theorem Xl{o:Oper}{a:Act}{g s:Nat}{b c:Bool}(h:o.guard=some (g,b))(d:(ops[g]?).bind (·.dst)=some s)(e:a.tmps.getD s undef=.bool c)(f:(c==b)=false):Region.wanted o (yielded ops a.tmps)=false:=by
 rw[Lx h d e,f]
end
theorem Own.region{w0 b w:zW}{m mk:Mem}{L:List bA}(h:Own w0 m b mk L)(p:Below b.heap.size b w)(a:qy)(ds:List Nat)(n:∀d∈ds,b.heap.size<=(a d).1):Own w0 m w (mk.fJ w a ds) L:=by
 have c:=h.aS p;have j:∀k,k<b.heap.size->mk k=none->mk.fJ w a ds k=none:=fun k hk l=>Mem_wins_none l fun d f q=>by have:=n d f;omega
 refine⟨h.m0,c.az,⟨Mem.le_trans h.ext.le (Mem_le_wins c.ay a ds),fun k o hk=>?_⟩,Mem_wins_inn c.ay a ds,c.ok,fun it hi k hk=>⟨(h.iA it hi k hk).1,j k (bA.lt (h.ok it hi) hk) (h.iA it hi k hk).2⟩,h.apart⟩;rcases Nat.lt_or_ge k b.heap.size with g|i
 .cases hx:mk k with
  |none=>rw[j k g hx]at hk;cases hk
  | some o'=>exact h.ext.dom k o' hx |>.imp (fun e=>by
   have f:=(Mem_le_wins c.ay a ds).get k o' hx;rw[hk]at f;rw[e,f]) id
 .exact .inr (yJ h.az.size i)
theorem Own.gzn{w0 w:zW}{m mk:Mem}{L:List bA}(h:Own w0 m w mk L):m.ay w:=Mem_inn_le h.ext.le h.ay
theorem Own.newObj{w0 w:zW}{m mk:Mem}{L:List bA}{g:Nat}{t:TypeId}{arr:Array Value}(h:Own w0 m w mk L)(d:aZ w g t arr)(a:w0.heap.size<=g)(e:mk g=none)(f:∀it∈L,it.blk≠some g):Own w0 m w mk (.obj g t arr::L):=
 h.cons d (fun k hk=>by simp only[bA.blk,Option.some.injEq]at hk;subst hk;exact⟨a,e⟩) (fun b i k c j=>by simp only[bA.blk,Option.some.injEq]at c;subst c;exact f b i j)
theorem Own.VE{w0 w:zW}{m mk:Mem}{L:List bA}(h:Own w0 m w mk L){n:Nat}(a:w.heap.size<=n):∀it∈L,it.blk≠some n:=fun it hi e=>by have:=bA.lt (h.ok it hi) e;omega
theorem czb{g n:Nat}{t:TypeId}{arr:Array Value}{L:List bA}(a:g≠n)(h:∀it∈L,it.blk≠some n):∀it∈bA.obj g t arr::L,it.blk≠some n:=by
 intro it hi;rcases yA.1 hi with rfl|hi
 .simpa [bA.blk]using a
 .exact h it hi
theorem TU{w:zW}{i:Nat}{t:TypeId}{arr:Array Value}(a:qy):
 (aI.obj i t arr).holds (.pointer (some ⟨w.heap.size,0,none⟩)) (a.put i (w.heap.size,(w.alloc (.cells arr t)).heap.size)) (w.alloc (.cells arr t)):=by
 show _=Value.pointer (some ⟨((a.put i (w.heap.size,(w.alloc (.cells arr t)).heap.size)) i).1,0,none⟩)/\_/\_;rw[qy.uw];exact⟨rfl,zS,aZ.new _ _ _⟩
theorem ezG{w:zW}{i n:Nat}{t:TypeId}{arr:Array Value}(a:qy):
 (aI.sl i t arr n).holds (.slice (some ⟨w.heap.size,0,none⟩) n n) (a.put i (w.heap.size,(w.alloc (.cells arr t)).heap.size)) (w.alloc (.cells arr t)):=by
 show _=Value.slice (some ⟨((a.put i (w.heap.size,(w.alloc (.cells arr t)).heap.size)) i).1,0,none⟩) n n/\_/\_;rw[qy.uw];exact⟨rfl,zS,aZ.new _ _ _⟩
def Sm(f:List UInt8->Bool)(n:Nat)(M:Mem)(v:zV):Prop:=∃b a C,v=.agg #[.slice b (List.length C) a]/\aU M (.slice b (List.length C) a) C/\dw f C/\C.length<=n
theorem bzb{f:List UInt8->Bool}{n:Nat}{M:Mem}{r:zV}{C:aK}(a:aU M r C)(e:dw f C)(d:C.length<=n):Sm f n M (.agg #[r]):=by
 obtain⟨c,b,rfl,h⟩:=a;exact⟨c,b,C,rfl,⟨c,b,rfl,h⟩,e,d⟩
theorem bzc{m:Mem}{w w':zW}{a:qy}{i:Nat}{f:List UInt8->Bool}{n:Nat}{r:zV}{C:aK}(d:m.ay w)(g:zB w w')(b:aU (m.grow w w') r C)(e:dw f C)(c:C.length<=n):
 Sm f n (m.fJ w' (a.put i (w.heap.size,w'.heap.size)) [i]) (.agg #[r]):=bzb (aX (Mem_grow_wins0 d a i g) b) e c
section
variable {P:Program} {ops:Array Oper} {Q:Exit->Act->World->Prop} {F:Nat->aI}
theorem Kt.d{g c:Nat}{f:Array Value}{e:zW}{i:Nat}{b:qy}{a:Act}{w:zW}(h:Kt ops g c f e F i b a w)(j:Nat){o:Oper}(k:ops[j]?=some o)(l:jK ops c i j=true:=by kernel_rfl):(F j).holds (OP a o) b w:=h.dep j o l k
theorem Kt.k{d g:Nat}{c:Array Value}{e:zW}{i:Nat}{b:qy}{a:Act}{w:zW}(h:Kt ops d g c e F i b a w)(s:Nat)(f:Oc ops d s=true:=by kernel_rfl):a.tmps.getD s undef=c.getD s undef:=h.keep s f
theorem wv{i:Nat}{o:Oper}{b:qy}{a:Act}{w:zW}{v:zV}(hi:ops[i]?=some o)(d:o.guard=none)(e:(F i).holds v (b.put i (w.heap.size,w.heap.size)) w)(c:(execOp a.eval o).run P w=.ok (.value v) w:=by go_simp;first|done|rfl):wpOp P ops Q i (czk F i o b a w) a w:=aJ hi d (aO c ⟨v,rfl,zR _ _,e⟩)
theorem wy{i:Nat}{o:Oper}{c:qy}{a:Act}{w:zW}{v:zV}{g s:Nat}{b:Bool}(hi:ops[i]?=some o)(h:o.guard=some (g,b))(d:(ops[g]?).bind (·.dst)=some s)(e:a.tmps.getD s undef=.bool b)(j:(F i).holds v (c.put i (w.heap.size,w.heap.size)) w)(f:(execOp a.eval o).run P w=.ok (.value v) w:=by go_simp;first|done|rfl):wpOp P ops Q i (czk F i o c a w) a w:=fH hi (eX h d e) (aO f ⟨v,rfl,zR _ _,j⟩)
theorem wn{i:Nat}{o:Oper}{d:qy}{a:Act}{w:zW}{g s:Nat}{b c:Bool}(hi:ops[i]?=some o)(j:o.guard=some (g,b))(f:(ops[g]?).bind (·.dst)=some s)(e:a.tmps.getD s undef=.bool c)(h:(c==b)=false)(k:(F i).holds undef (d.put i (w.heap.size,w.heap.size)) w):wpOp P ops Q i (czk F i o d a w) a w:=Ns hi (Xl j f e h) ⟨undef,rfl,zR _ _,k⟩
theorem we{i:Nat}{o:Oper}{K:Act->World->Prop}{a:Act}{w w':zW}{f:FuncId}{args:Array Value}{X:Ending->World->Prop}(hi:ops[i]?=some o)(d:o.guard=none)(g:Calls P f args w' X)(h:∀e b,X e b->∃v,e=.returned v/\K (a.put o.dst v) b)(c:(execOp a.eval o).run P w=.ok (.enter f args) w':=by go_simp;first|done|rfl|exact⟨rfl,rfl⟩):wpOp P ops Q i K a w:=aJ hi d (dE c g h)
theorem we2{i:Nat}{o:Oper}{K:Act->World->Prop}{a:Act}{w w':zW}{f:FuncId}{args:Array Value}{X:Ending->World->Prop}{g s:Nat}{b:Bool}(hi:ops[i]?=some o)(k:o.guard=some (g,b))(d:(ops[g]?).bind (·.dst)=some s)(e:a.tmps.getD s undef=.bool b)(l:Calls P f args w' X)(h:∀e c,X e c->∃v,e=.returned v/\K (a.put o.dst v) c)(j:(execOp a.eval o).run P w=.ok (.enter f args) w':=by go_simp;first|done|rfl|exact⟨rfl,rfl⟩):wpOp P ops Q i K a w:=fH hi (eX k d e) (dE j l h)
end
end Cl
namespace Go.Proofs
open Go.Shelf Tryz
def Tryz.Tp:Go.Shelf.Ren:=⟨fun|6=>149|15=>167|14=>185|28=>207|29=>208|20=>242|21=>243|22=>244|23=>245|24=>246|25=>247|26=>248|27=>249|46=>283|47=>257|48=>258|49=>284|50=>285|57=>294|n=>n,fun|22=>22|24=>100|25=>189|3=>3|39=>205|0=>0|53=>256|55=>258|4=>4|46=>250|45=>249|50=>231|5=>5|9=>9|66=>299|70=>303|76=>318|77=>319|n=>n,fun|n=>n⟩
theorem Tryz.ez5:Go.Proofs.SlLaysF0.n6 prog Tryz.Tp:={
 mixed:=by kernel_rfl
 f6:=⟨Tryz.f149.name,by decide,func149.trans (congrArg some zk)⟩
 f14:=⟨Tryz.f185.name,by decide,func185.trans (congrArg some zk)⟩
 f15:=func167.trans (congrArg some zk)
 f20:=⟨Tryz.f242.name,by decide,func242.trans (congrArg some zk)⟩
 f21:=⟨Tryz.f243.name,by decide,func243.trans (congrArg some zk)⟩
 f22:=⟨Tryz.f244.name,by decide,func244.trans (congrArg some zk)⟩
 f23:=⟨Tryz.f245.name,by decide,func245.trans (congrArg some zk)⟩
 f24:=⟨Tryz.f246.name,by decide,func246.trans (congrArg some zk)⟩
 f25:=⟨Tryz.f247.name,by decide,func247.trans (congrArg some zk)⟩
 f26:=⟨Tryz.f248.name,by decide,func248.trans (congrArg some zk)⟩
 f27:=⟨Tryz.f249.name,by decide,func249.trans (congrArg some zk)⟩
 f28:=func207.trans (congrArg some zk)
 f29:=func208.trans (congrArg some zk)
 f46:=⟨Tryz.f283.name,by decide,func283.trans (congrArg some zk)⟩
 f47:=func257.trans (congrArg some zk)
 f48:=func258.trans (congrArg some zk)
 f49:=⟨Tryz.f284.name,by decide,func284.trans (congrArg some zk)⟩
 f50:=⟨Tryz.f285.name,by decide,func285.trans (congrArg some zk)⟩
 f57:=⟨Tryz.f294.name,by decide,func294.trans (congrArg some zk)⟩
 t0:=underlying0
 a0:=Tryz.isAgg0
 z0:=Tryz.sizeOf0
 v0:=Tryz.zeroValue0
 t3:=underlying3
 a3:=Tryz.isAgg3
 z3:=Tryz.sizeOf3
 v3:=Tryz.zeroValue3
 t4:=underlying4
 a4:=Tryz.isAgg4
 z4:=Tryz.sizeOf4
 v4:=Tryz.zeroValue4
 t5:=underlying5
 a5:=Tryz.isAgg5
 z5:=Tryz.sizeOf5
 v5:=Tryz.zeroValue5
 t9:=underlying9
 a9:=Tryz.isAgg9
 z9:=Tryz.sizeOf9
 v9:=Tryz.zeroValue9
 t22:=underlying22
 a22:=Tryz.isAgg22
 z22:=Tryz.sizeOf22
 v22:=Tryz.zeroValue22
 t25:=underlying189
 a25:=Tryz.isAgg189
 z25:=Tryz.sizeOf189
 v25:=Tryz.zeroValue189
 t39:=underlying205
 a39:=Tryz.isAgg205
 z39:=Tryz.sizeOf205
 v39:=Tryz.zeroValue205
 t45:=underlying249
 a45:=Tryz.isAgg249
 z45:=Tryz.sizeOf249
 v45:=Tryz.zeroValue249
 t46:=underlying250
 a46:=Tryz.isAgg250
 z46:=Tryz.sizeOf250
 v46:=Tryz.zeroValue250
 t50:=underlying231
 a50:=Tryz.isAgg231
 z50:=Tryz.sizeOf231
 v50:=Tryz.zeroValue231
 t53:=underlying256
 a53:=Tryz.isAgg256
 z53:=Tryz.sizeOf256
 v53:=Tryz.zeroValue256
 t55:=underlying258
 a55:=Tryz.isAgg258
 z55:=Tryz.sizeOf258
 v55:=Tryz.zeroValue258
 t66:=underlying299
 a66:=Tryz.isAgg299
 z66:=Tryz.sizeOf299
 v66:=Tryz.zeroValue299
 t70:=underlying303
 a70:=Tryz.isAgg303
 z70:=Tryz.sizeOf303
 v70:=Tryz.zeroValue303
 t76:=underlying318
 a76:=Tryz.isAgg318
 z76:=Tryz.sizeOf318
 v76:=Tryz.zeroValue318
 t77:=underlying319
 a77:=Tryz.isAgg319
 z77:=Tryz.sizeOf319
 v77:=Tryz.zeroValue319 }
end Go.Proofs
namespace Cl
open Go Go.RowKit Go.Proofs Go.Sort
def wm(x:dm):List Value:=[.int .i64 x.1,.int .i64 x.2]
def JY(x y:dm):Int:=Lib.compareInt x.1 y.1
theorem dzd(x y:dm):ltOf JY x y=decide (x.1<y.1):=by
 unfold ltOf JY Lib.compareInt;by_cases a:x.1<y.1
 .simp[a]
 .by_cases b:y.1<x.1<;>simp[a,b]
theorem fz5:SWO (ltOf JY) where
 irrefl x:=by rw[dzd];simp
 trans x y z h1 h2:=by rw[dzd]at*;simp at*;omega
 ntrans x y z h1 h2:=by rw[dzd]at*;simp at*;omega
theorem flat_get(d:Array dm)(j:Nat)(h:j<d.size*2):(flatK wm 2 d)[j]! = (bM d.toList)[j]'(by rw[dP];simpa using h):=by
 rw[get_flatK _ _ _ _ h];have hi:j/2<d.toList.length:=by simp;omega
 obtain⟨a,f⟩:=nA d.toList (j/2) hi;have e:d[j/2]! = d.toList[j/2]:=by
  rw[getElem!_pos d (j/2) qef];simp
 rcases(show j=j/2*2/\j%2=0\/j=j/2*2+1/\j%2=1 by omega)with⟨c,b⟩|⟨c,b⟩
 .rw[b,e];have:=(yB.1 a).2;simp only[wm];rw[<-c]at a;exact(yB.1 a).2.symm
 .rw[b,e];simp only[wm];rw[<-c]at f;exact(yB.1 f).2.symm
theorem X0{w:zW}{t:TypeId}{g c:Nat}{l:List dm}(h:w.ownsRow 0 t 2 (.slice (some ⟨g,0,none⟩) l.length c) l.length (bM l)):HoldsK wm 2 w g 0 l.toArray:=by
 intro j b;have a:j<l.toArray.size*2:=by simpa [size_flatK]using b
 refine⟨?_,fI h _⟩;rw[yZ];refine bL h ?_;rw[flat_get _ _ a];simp
theorem azn{w0 w:zW}{m mk:Mem}{L:List bA}{t:TypeId}{g c:Nat}{l:List dm}(h:Own w0 m w mk (.row (.slice (some ⟨g,0,none⟩) l.length c) t 2 l.length (bM l)::L))
(b:Array dm)(d:b.size=l.length)(n:Nat)(p:Array Obj):Own w0 m (sortWorldK wm 2 w g 0 n b p) mk (.row (.slice (some ⟨g,0,none⟩) l.length c) t 2 l.length (bM b.toList)::L):=by
 have C:=h.row;obtain⟨F,z⟩:=C;rcases z with⟨z,-⟩|⟨G,E,o,B,D,A,f,y,i,r⟩
 .cases z
 .cases B;have u:g<w.heap.size:=(yC.1 A).1;have a:∀k,k<w.heap.size->(sortWorldK wm 2 w g 0 n b p).heap[k]?=(w.heap.modify g (onCells (putCells id 0 (flatK wm 2 b))))[k]?:=fun k hk=>by
   show((w.heap.modify g (onCells (putCells id 0 (flatK wm 2 b))))++p)[k]?=_;rw[Array.getElem?_append_left qeE]
  refine h.app (v':=.slice (some ⟨g,0,none⟩) l.length c) (N:=w.heap.size) ⟨by rw[dP];simp[d],.inr ⟨g,c,putCells id 0 (flatK wm 2 b) o,rfl,D,?_,f,y,?_,?_⟩⟩ ⟨rfl,rfl,rfl,?_,?_⟩ (fun k hk=>.inl hk) (zI _)
  .rw[a g u,Array.getElem?_modify,zK rfl,A]
   rfl
  .simp[putCells,i]
  .apply List.ext_getElem?;intro j;by_cases q:j<l.length*2
   .have x:j<o.size:=by rw[i];have:=Nat.mul_le_mul_right 2 f;omega
    rw[List.getElem?_take,zK q];have v:j<(bM b.toList).length:=by rw[dP];simp[d,q]
    rw[yH v,<-flat_get b j (by rw[d];exact q)];simp[putCells,x,size_flatK,d,q]
   .rw[vC qdW,vC (by rw[dP];simp[d];omega)]
  .show w.heap.size<=((w.heap.modify g (onCells (putCells id 0 (flatK wm 2 b))))++p).size;simp
  .intro k hk s;rw[a k hk,Array.getElem?_modify,zJ (fun e=>s qeM)]
theorem XT{l:List dm}{a:Array dm}(m:PermIn 0 l.toArray.size l.toArray a)(k:SortedIn (ltOf JY) 0 l.toArray.size a):a.size=l.length/\a.toList.Perm l/\a.toList.Pairwise fun s t=>s.1<=t.1:=by
 obtain⟨g,-,f⟩:=m;have h:a.size=l.length:=by simpa using g
 refine⟨h,?_,?_⟩
 .have o:a.extract 0 l.toArray.size=a:=by rw[<-g];simp
  have n:l.toArray.extract 0 l.toArray.size=l.toArray:=by simp
  rw[o,n]at f;simpa using f
 .rw[List.pairwise_iff_getElem];intro i j hi e c;have d:i<a.size:=by simpa using hi
  have b:j<a.size:=by simpa using e
  have:=k i j (zG _) c (by simpa [h]using e);rw[dzd]at this;simp only[decide_eq_false_iff_not,Int.not_lt]at this;rw[getElem!_pos a i d,getElem!_pos a j b]at this;exact qbi
end Cl
namespace Cl
open Go Go.RowKit
def Eg{α:Type}(P:Program)(l:Nat)(encs:α->Array Value)(w0:zW)(m c:Mem)(B Bx:List α->List bA->Prop):Prop:=
 ∀(b:List α) (x:α) (W:zW) (mk:Mem) (f Lr:List bA),B b f->Own w0 m W mk (f++Lr)->c.le mk->YieldAt Fence.wide 0 P l (encs x) W fun e d=>
  (e=.returned (.bool true)/\∃mk' a,B (b++[x]) a/\Own w0 m d mk' (a++Lr)/\mk.le mk') \/
  (e=.returned (.bool false)/\∃mk' a,Bx (b++[x]) a/\Own w0 m d mk' (a++Lr)/\mk.le mk')
def Pb{α:Type}(w0:zW)(m a:Mem)(B Bx:List α->List bA->Prop)(S d:List α->Prop)(e:Ending)(c:zW):Prop:=
 (∃v,e=.returned v)/\((∃xs mk' b,S xs/\B xs b/\Own w0 m c mk' b/\a.le mk')\/(∃xs mk' b,d xs/\Bx xs b/\Own w0 m c mk' b/\a.le mk'))
def Ei{α:Type}(w0:zW)(m mk:Mem)(Lr:List bA)(I:List α->List bA->Prop)(b:Code->List α->List bA->Prop)(xs:List α):Exit->Act->World->Prop
 |.normal,_,W'=>∃mk' a,I xs a/\Own w0 m W' mk' (a++Lr)/\mk.le mk'
 |.ret,_,W'=>∃mk' a,b .ret xs a/\Own w0 m W' mk' (a++Lr)/\mk.le mk'
 |.exit id,_,W'=>∃mk' a,b (.exit id) xs a/\Own w0 m W' mk' (a++Lr)/\mk.le mk'
 |.goto t,_,W'=>∃mk' a,b (.goto t) xs a/\Own w0 m W' mk' (a++Lr)/\mk.le mk'
 |.panic _,_,_=>False
 |.outgrown,_,_=>False
theorem uy{α:Type}(a b:α)(L R:List α):(L++(a::b::R)).Perm (a::b::(L++R)):=List.perm_middle.trans (List.Perm.cons _ List.perm_middle)
def Kn{α:Type}(P:Program)(l:Nat)(encs:α->Array Value)(w0:zW)(m c:Mem)(C:List α->α->Prop)(B Bx:List α->List bA->Prop):Prop:=
 ∀(b:List α) (x:α) (W:zW) (mk:Mem) (f Lr:List bA),C b x->B b f->Own w0 m W mk (f++Lr)->c.le mk->YieldAt Fence.wide 0 P l (encs x) W fun e d=>
  (e=.returned (.bool true)/\∃mk' a,B (b++[x]) a/\Own w0 m d mk' (a++Lr)/\mk.le mk') \/
  (e=.returned (.bool false)/\∃mk' a,Bx (b++[x]) a/\Own w0 m d mk' (a++Lr)/\mk.le mk')
theorem Nq{α:Type}{P:Program}{g:Operand}{ps:Array Tmp}{assign body:Code}{Q:Exit->Act->World->Prop}{a:Act}{w:zW}{gf:Nat}{lb:Array Value}
(hg:a.eval g=.func (.func gf) #[] lb)(eg:∀args w,(callFunc gf args).run P w=.ok (.enter gf args) w){encs:α->Array Value}(hps:∀x,(encs x).size=ps.size)
{w0:zW}{m mk:Mem}{L0:List bA}(hO:Own w0 m w mk L0)(I:List α->List bA->Prop)(Ix:Code->List α->List bA->Prop)(S Sp:List α->Prop)(C:List α->α->Prop)(h0:I [] L0)
(hseq:∀(l:Nat) (W1:zW) (L1:List bA) (B Bx:List α->List bA->Prop),B [] L1->(∀pre Lt,B pre Lt->∃L,I pre L)->(∀pre Lt,Bx pre Lt->∃c L,Ix c pre L)->Own w0 m W1 mk L1->Kn P l encs w0 m mk C B Bx ->
  Calls P gf (#[.func (.yield l) #[] #[]]++lb) W1 (Pb w0 m mk B Bx S Sp))
(J:List α->α->Act->List bA->Prop)
(hassign:∀(l:Nat) (pre:List α) (x:α) (W:zW) (mk1:Mem) (Lt Lr:List bA) (K:Act->World->Prop),C pre x->I pre Lt->Own w0 m W mk1 (Lt++Lr)->mk.le mk1 ->
  (∀a1 W1 Lt1,J pre x a1 Lt1->Own w0 m W1 mk1 (Lt1++Lr)->K a1 W1) ->
  assign.wpIn (Fence.wide.inRound l) 0 P (Exit.then K (fun _ _ _=>False)) { tmps:=(ps.zip (encs x)).foldl (fun t (p,v)=>t.setIfInBounds p v) a.tmps,defers:=[] } W)
(hbody:∀(l:Nat) (pre:List α) (x:α) (a1:Act) (W:zW) (mk1:Mem) (Lt Lr:List bA),C pre x->J pre x a1 Lt->Own w0 m W mk1 (Lt++Lr)->mk.le mk1 ->
  body.wpIn (Fence.wide.inRound l) 0 P (Ei w0 m mk1 Lr I Ix (pre++[x])) a1 W)
(hdone:∀(D:Nat) (xs:List α) (W:zW) (mk1:Mem) (L:List bA),S xs->I xs L->Own w0 m W mk1 (.gT D (.deferred (some []))::L)->mk.le mk1->Q .normal { a with defers:={ target:=.collected D,args:=#[] }::a.defers } W)
(hstop:∀(D:Nat) (c:Code) (xs:List α) (W:zW) (mk1:Mem) (L:List bA),Sp xs->Ix c xs L->Own w0 m W mk1 (.gT D (.deferred (some []))::L)->mk.le mk1 ->
  c.wpIn Fence.wide 0 P Q { a with defers:={ target:=.collected D,args:=#[] }::a.defers } W):
 (Code.rangeFunc g ps assign body).wpIn Fence.wide 0 P Q a w:=by
 refine wpIn_rangeFunc ?_;intro fn _;obtain⟨rec,hrec⟩:∃rec:LoopState->Option Code->Loop,rec=fun st pe=>{ state:=st,pending:=pe,fn,tmps:=a.tmps,params:=ps,assign,body,defers:=w.heap.size }:=⟨_,rfl⟩;have hO1:=(hO.CF (.deferred (some []))).CF (.loop (rec .ready none));have hsz:(w.alloc (.deferred (some []))).heap.size=w.heap.size+1:=by simp
 rw[hsz]at hO1;have hent:=run_enterLoop_outer (P:=P) (w:=w) fn a.tmps ps assign body;have hre:(Obj.loop { state:=.ready,pending:=none,fn,tmps:=a.tmps,params:=ps,assign,body,defers:=w.heap.size })=.loop (rec .ready none):=by rw[hrec]
 rw[hre]at hent;generalize (w.alloc (.deferred (some []))).alloc (.loop (rec .ready none))=W1 at*
 generalize w.heap.size=D at*
 have hround:Kn P (D+1) encs w0 m mk C (fun pre Lt=>∃L,I pre L/\Lt=.gT (D+1) (.loop (rec .ready none))::.gT D (.deferred (some []))::L)
  (fun pre Lt=>∃c L,Ix c pre L/\Lt=.gT (D+1) (.loop (rec .done (some c)))::.gT D (.deferred (some []))::L):=by
  rintro pre x W mk1 Lt Lr hC ⟨L,hI,rfl⟩ hOw hle;have hl:=hOw.gT;have hy:=run_yield (P:=P) (args:=encs x) hl (by rw[hrec];exact hps x);rw[hrec]at hy;refine⟨fn,_,assign,body,hy,roundIn_of_wpIn trivial (hassign _ pre x W mk1 L _ _ hC hI (hOw.perm (uy _ _ L Lr)) hle ?_)⟩;intro a1 W1' Lt1 hJ hOa;have hOw:=hOa.perm (uy _ _ Lt1 Lr).symm;have hl:=hOw.gT;refine⟨_,run_beginRound hl (by rw[hrec]),?_⟩;have hO2:=hOw.jU (o':=.loop { rec .ready none with state:=.busy }) (World.putObj_heap_same (yC.1 hl).1) (grownBy_putObj' _ _ _);have hO3:=hO2.perm (uy _ _ Lt1 Lr);refine wpIn_mono (hbody _ pre x a1 _ mk1 Lt1 _ hC hJ hO3 hle) ?_;have fin:∀(jump:Option Code) (W3:zW) (mk2:Mem) (L2:List bA),Own w0 m W3 mk2 (L2++(.gT (D+1) (.loop { rec .ready none with state:=.busy })::.gT D (.deferred (some []))::Lr)) ->
   ∃W4,(Instr.endRound (D+1) jump).run P W3=.ok (.bool jump.isNone) W4/\Own w0 m W4 mk2 (.gT (D+1) (.loop (rec (if jump.isNone then .ready else .done) jump))::.gT D (.deferred (some []))::(L2++Lr)):=by
   exact qgG
  rintro e a3 W3 hp
  cases e with
  |normal=>
   obtain⟨mk2,L2,hi,ho,hm⟩:=hp;obtain⟨W4,hr,ho4⟩:=fin none W3 mk2 L2 ho
   exact qdo
  |ret=>
   obtain⟨mk2,L2,hi,ho,hm⟩:=hp;obtain⟨W4,hr,ho4⟩:=fin (some .ret) W3 mk2 L2 ho
   exact qdd
  |exit id=>
   obtain⟨mk2,L2,hi,ho,hm⟩:=hp;obtain⟨W4,hr,ho4⟩:=fin (some (.exit id)) W3 mk2 L2 ho
   exact qcS
  |goto t=>
   obtain⟨mk2,L2,hi,ho,hm⟩:=hp;obtain⟨W4,hr,ho4⟩:=fin (some (.goto t)) W3 mk2 L2 ho
   exact qcX
  |panic ch=>exact hp.elim
  |outgrown=>exact hp.elim
 refine⟨D+1,[{ target:=.collected D,args:=#[] }],W1,{ target:=.fn (.func gf) lb,args:=#[.func (.yield (D+1)) #[] #[]] },W1,gf,
  #[.func (.yield (D+1)) #[] #[]]++lb,W1,hent,?_,fun _ _=>trivial,?_,fun h=>absurd h (by simp[Fence.wide]),?_⟩
 .simp only[resolve,hg];simp[go_sem]
 .simp[invoke,go_sem,eg]
 .refine callsIn_wide.2 ((hseq (D+1) W1 _ _ _ ⟨L0,h0,rfl⟩ (fun _ _ h=>h.elim fun L hL=>⟨L,hL.1⟩) (fun _ _ h=>h.elim fun c h=>h.elim fun L hL=>⟨c,L,hL.1⟩) hO1 hround).mono ?_);rintro e W3 ⟨⟨v,rfl⟩,hend⟩;rcases hend with⟨xs,mk2,Lt,hS,⟨L,hI,rfl⟩,ho,hm⟩|⟨xs,mk2,Lt,hS,⟨c,L,hI,rfl⟩,ho,hm⟩
  .exact qgP
  .exact qgO
structure uM (P:Program) (k e:TypeId) (o:Obj) (n sz:Nat) (f:Lit->Option Int):Prop where
 ex:∃D:DataW Unit,(∀(w:zW) b,w.heap[b]?=some o->w.ownsMap P k (plainElem P e) b n D)/\Maps.size D=sz/\Maps.Tidy D/\(∀kl,Maps.has D kl=(f kl).isSome) /\
  ∀kl,D.atKey kl (.lit (.int .i64 0))=.lit (.int .i64 ((f kl).getD 0))
open Classical in
noncomputable def KZ(f:Lit->Option Int)(a:Lit)(x:Int):Lit->Option Int:=fun k=>if k=a then some x else f k
theorem AZ(f:Lit->Option Int)(a:Lit)(x:Int):KZ f a x a=some x:=by simp[KZ]
theorem vL(f:Lit->Option Int){a k:Lit}(x:Int)(h:k≠a):KZ f a x k=f k:=by simp[KZ,h]
section
variable {P:Program} {k e:TypeId} {o:Obj} {n sz:Nat} {f:Lit->Option Int}
theorem OA{w:zW}{b:Nat}{D:DataW Unit}{R:Value->Option (DataW Unit×List MemPlace)}(h:w.ownsMap P k R b n D):∃o,w.heap[b]?=some o/\∀(w:zW) b,w.heap[b]?=some o->w.ownsMap P k R b n D:=by
 exact qcg
theorem uM.made(P:Program)(k e:TypeId):uM P k e (.map #[] 0) 0 0 (fun _=>none):=by
 refine⟨.map [],fun w b h=>?_,rfl,Maps.tidy_empty,fun d=>rfl,fun d=>?_⟩
 .obtain⟨es,a,c,F,f,g⟩:=World.ownsMap_made (H:=Unit) w P k (plainElem P e);have:(w.alloc (.map #[] 0)).heap[w.heap.size]?=some (.map #[] 0):=show(w.heap.push _)[w.heap.size]?=_ by simp
  rw[this]at c;cases c;exact⟨_,_,h,F,f,g⟩
 .exact Maps.atKey_of_not_has rfl _
variable {w:zW} {t:TypeId} {ops:Array Oper} {rest:List Oper} {op:Oper} {a:Act} {Q:Exit->Act->World->Prop} {b:Nat}
theorem uM.AQ(h:uM P k e o n sz f)(K:Maps.Keyed P k)(ht:P.underlying t=some (.map k e))(p:P.underlying e=some (.int .i64))(l:∀w,(zeroValue e).run P w=.ok (.int .i64 0) w)(q:w.heap[b]?=some o)
{a:zV}{g:Lit}(d:keyOf P k a=some g):(Instr.lookup t (.map (some b)) a false).run P w=.ok (.int .i64 ((f g).getD 0)) w:=by
 obtain⟨D,r,-,-,-,j⟩:=h.ex;obtain⟨c,m,i,-⟩:=(r w b q).lookup_int K ht p (l w) d;rw[j g]at i;simp only[DataW.lit.injEq,Lit.int.injEq,true_and]at i;rw[m,i]
theorem uM.mono(h:uM P k e o n sz f){a:Nat}(hn:n<=a):uM P k e o a sz f:=by
 exact qcJ
theorem uM.il(h:uM P k e o n sz f)(K:Maps.Keyed P k)(ht:P.underlying t=some (.map k e))(l:P.underlying e=some (.int .i64))(m:∀w,(zeroValue e).run P w=.ok (.int .i64 0) w)(s:w.heap[b]?=some o)
{g:zV}{d:Lit}(i:keyOf P k g=some d):(Instr.lookup t (.map (some b)) g true).run P w=.ok (.tuple #[.int .i64 ((f d).getD 0),.bool (f d).isSome]) w:=by
 obtain⟨D,u,-,-,r,j⟩:=h.ex;obtain⟨v,x,q,p⟩:=(u w b s).look_ok K ht (m w) (zd:=.lit (.int .i64 0)) (zp:=[]) (plainElem_int l zD) i;obtain⟨c,rfl,a,-⟩:=plainElem_int_inv l p;have a:=congrArg Prod.fst a;simp only at a;rw[j d]at a;simp only[DataW.lit.injEq,Lit.int.injEq,true_and]at a;rw[q,r d,a]
theorem uM.Wj(h:uM P k e o n sz f)(ht:P.underlying t=some (.map k e))(d:w.heap[b]?=some o)(a:TypeId):(Builtin.len_ #[t] a #[.map (some b)]).run P w=.ok (.int .i64 sz) w:=by
 obtain⟨D,g,c,-⟩:=h.ex;rw[(g w b d).len ht a,c]
theorem uM.AP(h:uM P k e o n sz f)(K:Maps.Keyed P k)(ht:P.underlying t=some (.map k e))(B:P.underlying e=some (.int .i64))(C:w.heap[b]?=some o)(A:n<maxLen)
{j:zV}{g:Lit}(d:keyOf P k j=some g){x:Int}(u:(Lit.int .i64 x).wf=true):
 ∃w' o',(Instr.mapUpdate t (.map (some b)) j (.int .i64 x)).run P w=.ok () w'/\w'.heap[b]?=some o'/\uM P k e o' (n+1) (if(f g).isSome then sz else sz+1) (KZ f g x)/\w.grownBy w' (some b):=by
 obtain⟨D,E,v,a,s,q⟩:=h.ex;have i:WideAt.IsKeyLit g:=K.key d;obtain⟨w',y,z,p⟩:=(E w b C).update K ht A d (plainElem_int B u);obtain⟨o',m,r⟩:=OA z;refine⟨w',o',y,m,⟨_,r,?_,a.put i _,fun l=>?_,fun l=>?_⟩,p⟩
 .rw[Maps.size_put a,s g,v]
 .by_cases c:l=g
  .subst c;rw[Maps.has_put_same a.isMap i,AZ];rfl
  .rw[Maps.has_put_other c,vL f x c,s]
 .by_cases c:l=g
  .subst c;rw[Maps.atKey_put_same a.isMap i,AZ];rfl
  .rw[Maps.atKey_put_other c,vL f x c,q]
end
end Cl
namespace Cl
open Go Go.RowKit
structure oG (P:Program) (t:TypeId) (n:Nat):Prop where
 agg:∀w,(isAgg t).run P w=.ok true w
 size:∀w,(Go.sizeOf t).run P w=.ok n w
theorem grownBy_setRow'{w:zW}{g:Nat}{b cs:Array Value}{t:TypeId}(_:w.heap[g]?=some (.cells b t (0,0))):w.grownBy (w.setRow g cs) (some g):=by
 refine⟨rfl,rfl,rfl,by simp[World.setRow],fun k hk a=>?_⟩;have:g≠k:=fun e=>a (by rw[e]);simp[World.setRow,Array.getElem?_modify,this]
section
variable {P:Program} {t:TypeId} {n:Nat} {w:zW} {ops:Array Oper} {rest:List Oper} {op:Oper} {a:Act} {Q:Exit->Act->World->Prop}
theorem oG.load(S:oG P t n){b o:Nat}{cs:List Value}(a:cs.length=n)(d:∀j u,cs[j]?=some u->w.cell? ⟨b,o+j,none⟩=some u):(loadVar t ⟨b,o,none⟩).run P w=.ok (.agg cs.toArray) w:=by
 have h:=run_loadCells_list (P:=P) w ⟨b,o,none⟩ cs (fun j v c=>by rw[Addr.add_lit];exact d j v c);rw[a]at h;simp[loadVar,S.agg,S.size,h,Result.andThen]
theorem aj(S:oG P t n)(g:Region.wanted op (yielded ops a.tmps)=true)(p:Operand)(c:op.op=Op.load t p){b o:Nat}(e:a.eval p=.pointer (some ⟨b,o,none⟩))(cs:List Value)(f:cs.length=n)(h:∀j u,cs[j]?=some u->w.cell? ⟨b,o+j,none⟩=some u)
(i:wpList P ops Q rest (a.put op.dst (.agg cs.toArray)) w):wpList P ops Q (op::rest) a w:=by
 refine BigFrame.wpList_want g fun k d=>?_;unfold Oper.wp;simp[execOp,c,e,Instr.loadAt,Instr.sureAddr,S.load f h,Result.andThen];exact d _ _ i
theorem aB(S:oG P t n)(l:Region.wanted op (yielded ops a.tmps)=true)(p v:Operand)(d:op.op=Op.store t p v){g:Nat}{T:TypeId}{b cs:Array Value}(j:a.eval p=.pointer (some ⟨g,0,none⟩))(i:a.eval v=.agg cs)(h:b.size=n)(k:cs.size=n)(o:∀u∈cs.toList,u.oneCell'=true)(e:aZ w g T b)
(m:∀w',aZ w' g T cs->w.grownBy w' (some g)->wpList P ops Q rest (a.put op.dst undef) w'):wpList P ops Q (op::rest) a w:=by
 refine BigFrame.wpList_want l fun q f=>?_;have c:=run_storeCells_from (P:=P) g T cs.toList 0 b w e.get qdW o;simp only[List.take_zero,xN,Array.toArray_toList]at c;unfold Oper.wp;simp[execOp,d,j,i,Instr.storeAt,Instr.sureAddr,storeVar,S.size,Value.cells,k,c,Result.andThen];refine f _ _ (m _ ⟨setRow_heap w g b cs T (0,0) e.get⟩ ?_);exact grownBy_setRow' e.get
end
theorem kC{P:Program}{c:Func}{k:Nat}{t:TypeId}{a:Array Value}{w:zW}{v:zV}{b:Addr}(e:c.results=#[.cell k t])(hk:a.getD k undef=.pointer (some b))(d:(loadVar t b).run P w=.ok v w):(results c a).run P w=.ok v w:=by
 rw[zY]at hk;simp[results,e,asAddr,hk,d]
theorem ek{P:Program}{c:Func}{k j:Nat}{t:TypeId}{a:Array Value}{w:zW}{v:zV}{b:Addr}(hf:c.results=#[.cell k t,.tmp j])(hk:a.getD k undef=.pointer (some b))(hr:(loadVar t b).run P w=.ok v w):(results c a).run P w=.ok (.tuple #[v,a.getD j undef]) w:=by
 exact qdB
abbrev Sz:Array Value:=#[.bool false,.bool false,.bool false,.bool false,.slice none 0 0,.slice none 0 0,.slice none 0 0,.slice none 0 0,.slice none 0 0]
abbrev oz:Array Value:=#[.bool false,.bool false,.bool false,.bool false,.slice none 0 0,.slice none 0 0,.slice none 0 0,.slice none 0 0,.slice none 0 0,.bool false,.bool false,.bool false,.bool false,.slice none 0 0,.slice none 0 0,.slice none 0 0,.slice none 0 0,.slice none 0 0]
abbrev SG:Array Value:=#[.string ⟨#[]⟩,.int .i64 0,.bool false,.bool false,.bool false,.bool false,.slice none 0 0,.slice none 0 0,.slice none 0 0,.slice none 0 0,.slice none 0 0,.bool false,.bool false,.bool false,.bool false,.slice none 0 0,.slice none 0 0,.slice none 0 0,.slice none 0 0,.slice none 0 0]
abbrev SB:Array Value:=#[.slice none 0 0,.bool false,.bool false,.bool false,.bool false,.slice none 0 0,.slice none 0 0,.slice none 0 0,.slice none 0 0,.slice none 0 0,.bool false,.bool false,.bool false,.bool false,.slice none 0 0,.slice none 0 0,.slice none 0 0,.slice none 0 0,.slice none 0 0]
theorem DF{m:Mem}{n:Nat}{x:Sl}{v:Vl}(k:bq m n x v):∀u∈bu v x,u.oneCell'=true:=by
 cases n with
 |zero=>exact k.elim
 |succ n=>
  obtain⟨⟨⟨s,l,f,-⟩,⟨r,j,e,-⟩,⟨q,i,d,-⟩⟩,⟨p,h,c,-⟩,⟨o,g,b,-⟩⟩:=k;intro u a;simp only[bu,f,e,d,c,b,yA,List.not_mem_nil,or_false]at a;rcases a with rfl|rfl|rfl|rfl|rfl|rfl|rfl|rfl|rfl<;>rfl
theorem fZ{m:Mem}{n a:Nat}{x y:Sl}{d:Vd}(k:bq m n x d.1)(b:bq m a y d.2):∀u∈dC d x y,u.oneCell'=true:=fun u c=>
 (yP.1 c).elim (DF k u) (DF b u)
theorem mV{m:Mem}{n b:Nat}{x y:Sl}{f:Fd}(k:bq m n x f.2.1)(c:bq m b y f.2.2):∀u∈qI f x y,u.oneCell'=true:=fun u a=>by
 rcases yA.1 a with rfl|a
 .rfl
 .rcases yA.1 a with rfl|a
  .rfl
  .exact fZ k c u a
theorem nU{m:Mem}{n d:Nat}{x y:Sl}{k:Kl}{c:zV}(e:aU m c k.1)(g:bq m n x k.2.1)(f:bq m d y k.2.2):∀u∈ow k c x y,u.oneCell'=true:=fun u b=>by
 rcases yA.1 b with rfl|b
 .obtain⟨a,h,rfl,-⟩:=e;rfl
 .exact fZ g f u b
theorem Own.aW{w0 w w':zW}{m mk:Mem}{L:List bA}{g:Nat}{t:TypeId}{arr a:Array Value}(h:Own w0 m w mk (.obj g t arr::L))(ho:aZ w' g t a)(hg:w.grownBy w' (some g)):Own w0 m w' mk (.obj g t a::L):=by
 have hf:=h.iA _ (yF ..) g rfl;have hap:=yS.1 h.apart;refine⟨h.m0,h.az.grown hg h.az.size (fun k hk=>by cases hk;exact hf.1),h.ext,Mem_inn_grown h.ay hg (fun k hk=>by cases hk;exact hf.2),?_,?_,.cons ?_ hap.2⟩
 .exact qg6
 .exact qgB
 .exact qcz
theorem aZ.sub{w:zW}{g:Nat}{t:TypeId}{arr:Array Value}(h:aZ w g t arr){o:Nat}{cs:List Value}(a:∀j u,cs[j]?=some u->arr[o+j]?=some u):∀j u,cs[j]?=some u->w.cell? ⟨g,o+j,none⟩=some u:=fun j u b=>h.cell (a j u b)
theorem aZ.all{w:zW}{g:Nat}{t:TypeId}{cs:List Value}(h:aZ w g t cs.toArray):∀j u,cs[j]?=some u->w.cell? ⟨g,0+j,none⟩=some u:=fun j u hj=>h.cell qdU
theorem Cc{H:Type}{P:Program}{e:TypeId}(b:P.underlying e=some .bool){v:zV}{z:DataW H×List MemPlace}(h:plainElem P e v=some z):∃a,v=.bool a/\z=(.lit (.bool a),[]):=by
 unfold plainElem at h;rw[b]at h;cases v<;>simp at h
 subst h;exact⟨_,rfl,rfl⟩
structure GD (P:Program) (k e:TypeId) (o:Obj) (n:Nat) (f:Lit->Bool):Prop where
 ex:∃D:DataW Unit,(∀(w:zW) b,w.heap[b]?=some o->w.ownsMap P k (plainElem P e) b n D)/\Maps.Tidy D/\∀kl,D.atKey kl (.lit (.bool false))=.lit (.bool (f kl))
open Classical in
noncomputable def Zi(f:Lit->Bool)(a:Lit)(x:Bool):Lit->Bool:=fun k=>if k=a then x else f k
theorem Nk(f:Lit->Bool)(a:Lit)(x:Bool):Zi f a x a=x:=by simp[Zi]
theorem Ka(f:Lit->Bool){a k:Lit}(x:Bool)(h:k≠a):Zi f a x k=f k:=by simp[Zi,h]
section
variable {P:Program} {k e:TypeId} {o:Obj} {n:Nat} {f:Lit->Bool}
theorem O3{w:zW}{b:Nat}{D:DataW Unit}{R:Value->Option (DataW Unit×List MemPlace)}(h:w.ownsMap P k R b n D):∃o,w.heap[b]?=some o/\∀(w:zW) b,w.heap[b]?=some o->w.ownsMap P k R b n D:=by
 exact qcg
theorem GD.made(P:Program)(k e:TypeId):GD P k e (.map #[] 0) 0 (fun _=>false):=by
 refine⟨.map [],fun w b h=>?_,Maps.tidy_empty,fun g=>?_⟩
 .obtain⟨es,a,c,F,d,f⟩:=World.ownsMap_made (H:=Unit) w P k (plainElem P e);have:(w.alloc (.map #[] 0)).heap[w.heap.size]?=some (.map #[] 0):=show(w.heap.push _)[w.heap.size]?=_ by simp
  rw[this]at c;cases c;exact⟨_,_,h,F,d,f⟩
 .exact Maps.atKey_of_not_has rfl _
variable {w:zW} {t:TypeId} {ops:Array Oper} {rest:List Oper} {op:Oper} {a:Act} {Q:Exit->Act->World->Prop} {b:Nat}
theorem GD.AQ(h:GD P k e o n f)(K:Maps.Keyed P k)(ht:P.underlying t=some (.map k e))(l:P.underlying e=some .bool)(m:∀w,(zeroValue e).run P w=.ok (.bool false) w)(r:w.heap[b]?=some o)
{a:zV}{i:Lit}(d:keyOf P k a=some i):(Instr.lookup t (.map (some b)) a false).run P w=.ok (.bool (f i)) w:=by
 obtain⟨D,s,-,j⟩:=h.ex;obtain⟨v,u,q,p⟩:=(s w b r).lookup K ht (m w) (plainElem_bool l false) d;obtain⟨c,rfl,g⟩:=Cc l p;simp only[Prod.mk.injEq]at g;rw[j i]at g;simp only[DataW.lit.injEq,Lit.bool.injEq]at g;rw[q,g.1]
theorem GD.mono(h:GD P k e o n f){a:Nat}(hn:n<=a):GD P k e o a f:=by
 exact qcJ
theorem GD.AP(h:GD P k e o n f)(K:Maps.Keyed P k)(ht:P.underlying t=some (.map k e))(y:P.underlying e=some .bool)(z:w.heap[b]?=some o)(v:n<maxLen)
{d:zV}{j:Lit}(a:keyOf P k d=some j)(x:Bool):
 ∃w' o',(Instr.mapUpdate t (.map (some b)) d (.bool x)).run P w=.ok () w'/\w'.heap[b]?=some o'/\GD P k e o' (n+1) (Zi f j x)/\w.grownBy w' (some b):=by
 obtain⟨D,A,g,p⟩:=h.ex;have i:WideAt.IsKeyLit j:=K.key a;obtain⟨w',s,u,m⟩:=(A w b z).update K ht v a (plainElem_bool y x);obtain⟨o',l,q⟩:=O3 u;refine⟨w',o',s,l,⟨_,q,g.put i _,fun r=>?_⟩,m⟩;by_cases c:r=j
 .subst c;rw[Maps.atKey_put_same g.isMap i,Nk]
 .rw[Maps.atKey_put_other c,Ka f x c,p]
end
end Cl
