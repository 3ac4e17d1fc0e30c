/- Lemmas for the proofs of chapter 11. -/
import Derived.Test.YtbbnjopkjbhpbaaGreatDoorPkP10
set_option maxRecDepth 100000
set_option maxHeartbeats 16000000
namespace Cl
structure fzO (v:Vl):Prop where
 sc:czj v.s
 l:v.aN.length<=4
 s:v.aA.length<=4
 f:∀c∈v.aA,c.1.length<=6
 k:∀c∈v.aA,c.2.length<=6
 lab:∀c∈v.aA,∀f∈c.1,f.1.1.size<=40
 set:∀c∈v.aA,∀k∈c.2,Kr k.1
def Eo:Nat->Vl->Prop
 |0,_=>False
 |n+1,v=>fzO v/\∀x∈v.kids,Eo n x.1/\Eo n x.2
theorem Eo.ht:∀{n:Nat} {v:Vl},Eo n v->Ht n v
 |0,_,h=>h.elim
 |_+1,_,h=>fun x a=>⟨(h.2 x a).1.ht,(h.2 x a).2.ht⟩
theorem Eo.succ:∀{n:Nat} {v:Vl},Eo n v->Eo (n+1) v
 |0,_,h=>h.elim
 |_+1,_,h=>⟨h.1,fun x a=>⟨(h.2 x a).1.succ,(h.2 x a).2.succ⟩⟩
theorem Eo.mono{n m:Nat}{v:Vl}(h:Eo n v)(k:n<=m):Eo m v:=by
 induction k with
 |refl=>exact h
 |step _ ih=>exact ih.succ
structure czi (n:Nat) (v:Vl):Prop where
 dA:dA n v<=80
 few:Eo n v
theorem NI{α:Type}{f:α->Nat}{l:List α}{x:α}(h:x∈l):f x<=(l.map f).sum:=by
 induction l with
 |nil=>simp at h
 |cons y l ih=>
  rcases yA.1 h with rfl|h
  .simp
  .have:=ih h;simp only[yL,vG];omega
theorem wM{n:Nat}{v:Vl}{x:Vd}(a:x∈v.kids):dA n x.1+dA n x.2+1<=dA (n+1) v:=by
 have:=NI (f:=fun x:Vd=>dA n x.1+dA n x.2) a;rw[dA];omega
theorem dzz(n:Nat)(a:Bool):Eo (n+1) (.mk a cK [] []):=
 ⟨⟨⟨by simp[Vl.s,cK],by simp[Vl.s,cK],by intro s c;simp[Vl.s,cK]at c,by simp[Vl.s,cK]⟩,by simp[Vl.aN],by simp[Vl.aA],by simp[Vl.aA],by simp[Vl.aA],by simp[Vl.aA],by simp[Vl.aA]⟩,
  fun x b=>by simp[Vl.kids,Vl.aN,Vl.aA]at b⟩
theorem czi.sc{n:Nat}{v:Vl}(h:czi (n+1) v):czj v.s:=h.few.1.sc
theorem czN{c:St}(d:c.2.length<=6)(b:∀k∈c.2,Kr k.1):(c.2.map fun k=>lq k.1).length<=6/\∀x∈c.2.map (fun k=>lq k.1),x.n<=8:=
 ⟨by rw[xC];exact d,fun x a=>by obtain⟨k,hk,rfl⟩:=yD.1 a;exact(b k hk).2⟩
theorem bzy{c:St}(b:∀k∈c.2,cB k.1/\k.1≠[])(q:c.1.length<=6)(p:c.2.length<=6)(o:∀f∈c.1,f.1.1.size<=40)(n:∀k∈c.2,Kr k.1){l:List (List Int)}(i:l.Nodup)(j:∀v∈l,lX (dW c) v):l.length<=1400000000:=by
 obtain⟨e,d⟩:=czN p n;have h:=Iu (P:=c.2.map fun k:Kl=>lq k.1) (Q:=c.1.map fun f:Fd=>sD f.1.1.data.toList) (k:=40) (fun x a=>by
  obtain⟨k,hk,rfl⟩:=yD.1 a;exact Ay (b k hk).1 (b k hk).2) (fun x a=>by
  obtain⟨f,m,rfl⟩:=yD.1 a;exact gzT (by rw[Array.length_toList];exact o f m)) i (fun v g=>j v g)
 exact yJ h (QM e d (by rw[xC];exact q))
end Cl
namespace Cl
def qY(acc:aK->Bool)(c:St)(s:ByteArray):Vd×Int:=
 match c.1.find? (fun f=>f.1.1=s)with
 |some f=>(f.2,f.1.2)
 |none=>match c.2.find? (fun k=>acc k.1)with
  |some k=>(k.2,3)
  |none=>((dB,dB),3)
theorem JG{α:Type}{p:α->Bool}:∀{l:List α},l.countP p=1->∃i,∃h:i<l.length,p l[i]=true/\l.find? p=some l[i]/\∀j (hj:j<l.length),j≠i->p l[j]=false
 |[],h=>by simp at h
 |x::l,h=>by
  cases hx:p x with
  |true=>
   rw[List.countP_cons,hx]at h;have f:l.countP p=0:=by simpa using h
   refine⟨0,zS,hx,by rw[List.find?_cons,hx];rfl,fun j hj a=>?_⟩
   cases j with
   |zero=>exact absurd rfl a
   |succ j=>
    have b:j<l.length:=by simpa using hj
    have:=List.countP_eq_zero.1 f l[j] (zF b)
    exact qbi
  |false=>
   rw[List.countP_cons,hx]at h;obtain⟨i,hi,e,d,c⟩:=JG (l:=l) qd9;refine⟨i+1,by simpa using hi,by simpa using e,by rw[List.find?_cons,hx];simpa using d,fun j hj a=>?_⟩
   cases j with
   |zero=>exact hx
   |succ j=>simpa using c j qdU zo
def j6(c:Lc)(i:Int):Vd×Bool:=
 if h:0<=i/\i.toNat<c.1.length then(c.1[i.toNat]'h.2,true)
 else if h:0<=i/\0<c.2.length then(c.2[0]'h.2,true)else((dB,dB),false)
end Cl
namespace Cl
def czF(a b:RS):Prop:=∀e,a.has e->b.has e
noncomputable def iw(c:St)(s:ByteArray):Vd×Int:=qY (fun l=>Sem l s.data.toList) c s
def qi(c:Vl->Vl->Prop)(a b:Vd):Prop:=c a.1 b.1/\c a.2 b.2
structure AV (c:Vl->Vl->Prop) (a b:Lc):Prop where
 len:b.1.length<=a.1.length
 shut:b.2.length=0->a.1.length<=b.1.length/\a.2.length=0
 items:∀i (h:i<a.1.length),qi c a.1[i] (j6 b i).1
 rest:∀(ha:0<a.2.length) (hb:0<b.2.length),qi c a.2[0] b.2[0]
structure AJ (c:Vl->Vl->Prop) (a b:St):Prop where
 fields:∀f,f∈a.1\/f∈b.1->(iw a f.1.1).2<=(iw b f.1.1).2/\qi c (iw a f.1.1).1 (iw b f.1.1).1
 classes:∀x∈a.2,∀y∈b.2,qi c x.2 y.2\/∀w,¬(Sem x.1 w=true/\Sem y.1 w=true)
def dz:Nat->Vl->Vl->Prop
 |0,_,_=>False
 |n+1,a,b=>if a.any=true\/b.any=true then b.any=true else
  a=b\/(czF a.s b.s/\(∀x∈a.aN,∃y∈b.aN,AV (dz n) x y)/\∀x∈a.aA,∃y∈b.aA,AJ (dz n) x y)
theorem mY(b:Lc)(i:Nat):(∃h:i<b.1.length,(j6 b i).1=b.1[i])\/(b.1.length<=i/\∃h:0<b.2.length,(j6 b i).1=b.2[0])\/(b.1.length<=i/\b.2.length=0):=by
 by_cases h:i<b.1.length
 .exact .inl ⟨h,by unfold j6;rw[dif_pos ⟨zo,by simpa using h⟩];rfl⟩
 .by_cases a:0<b.2.length
  .exact .inr (.inl ⟨zo,a,by unfold j6;rw[dif_neg (fun k=>h (by simpa using k.2)),dif_pos ⟨zo,a⟩]⟩)
  .exact .inr (.inr ⟨zo,zo⟩)
theorem mU{c:Lc}{i:Nat}(h:i<c.1.length):c.1[i]∈aY c:=yP.2 (.inl (zF h))
theorem mE{c:Lc}{i:Nat}(h:i<c.2.length):c.2[i]∈aY c:=yP.2 (.inr (zF h))
theorem Mw{c:Vl->Vl->Prop}{x y z:Lc}(T:∀p∈aY x,∀q∈aY y,∀r∈aY z,qi c p q->qi c q r->qi c p r)(h:AV c x y)(k:AV c y z):AV c x z where
 len:=yJ k.len h.len
 shut e:=by
  have t:=k.shut e;have s:=h.shut t.2;exact⟨zo,s.2⟩
 items i hi:=by
  have j:=h.items i hi;have n:=h.shut;have o:=k.shut;have u:=k.len;rcases mY y i with⟨a,e⟩|⟨a,b,e⟩|⟨a,b⟩
  .rw[e]at j;have l:=k.items i a;rcases mY z i with⟨g,f⟩|⟨g,d,f⟩|⟨g,d⟩
   .rw[f]at l⊢;exact T _ (mU hi) _ (mU a) _ (mU g) j l
   .rw[f]at l⊢;exact T _ (mU hi) _ (mU a) _ (mE d) j l
   .exact absurd (o d) zo
  .rw[e]at j;rcases mY z i with⟨g,f⟩|⟨g,d,f⟩|⟨g,d⟩
   .omega
   .rw[f];exact T _ (mU hi) _ (mE b) _ (mE d) j (k.rest b d)
   .exact absurd (o d) zo
  .exact absurd (n b) zo
 rest ha hc:=by
  have n:=h.shut;have m:0<y.2.length:=by
   rcases Nat.eq_zero_or_pos y.2.length with e|e
   .exact absurd (n e) zo
   .exact e
  exact T _ (mE ha) _ (mE m) _ (mE hc) (h.rest ha m) (k.rest m hc)
theorem QG{c:Vl->Vl->Prop}{x y:Lc}(s:x.2.length<=1)(r:y.2.length<=1)(A:∀p∈aY x,∀q∈aY y,qi c p q->qi c q p->p=q)(h:AV c x y)(k:AV c y x):x=y:=by
 have j:x.1.length=y.1.length:=Nat.le_antisymm k.len h.len;have m:x.1=y.1:=vF j fun i a b=>by
  have g:=h.items i a;have f:=k.items i b;rcases mY y i with⟨_,e⟩|⟨_,_,_⟩|⟨_,_⟩
  .rcases mY x i with⟨_,n⟩|⟨_,_,_⟩|⟨_,_⟩
   .rw[e]at g;rw[n]at f;exact A _ (mU a) _ (mU b) g f
   .omega
   .omega
  .omega
  .omega
 have t:=h.shut;have o:=k.shut;have l:x.2=y.2:=by
  have d:x.2.length=y.2.length:=zo;refine vF d fun i a b=>?_;obtain rfl:i=0:=zo;exact A _ (mE a) _ (mE b) (h.rest a b) (k.rest b a)
 exact Prod.ext m l
theorem lD{a:St}(h:bH a)(s:ByteArray):
 (∃f∈a.1,f.1.1=s/\iw a s=(f.2,f.1.2)/\(∀g∈a.1,g.1.1=s->g=f)/\∀k∈a.2,Sem k.1 s.data.toList=false) \/
 (∃k∈a.2,Sem k.1 s.data.toList=true/\iw a s=(k.2,3)/\(∀g∈a.2,Sem g.1 s.data.toList=true->g=k)/\∀f∈a.1,f.1.1≠s):=by
 have r:=h.once s.data.toList;unfold Gv at r;have e:a.1.countP (fun f=>f.1.1.data.toList==s.data.toList)=a.1.countP (fun f=>decide (f.1.1=s)):=by
  refine List.countP_congr fun f _=>?_;simp only[beq_iff_eq,decide_eq_true_eq];exact⟨fun h=>O5 h,fun h=>by rw[h]⟩
 rw[e]at r;by_cases u:a.1.countP (fun f=>decide (f.1.1=s))=0
 .refine .inr ?_;obtain⟨i,hi,q,o,n⟩:=JG (p:=fun k:Kl=>Sem k.1 s.data.toList) (l:=a.2) zo;have c:=List.countP_eq_zero.1 u;refine⟨a.2[i],zF hi,q,?_,fun g m b=>?_,fun f t e=>c f t (by simpa using e)⟩
  .unfold iw qY;rw[List.find?_eq_none.2 c,o]
  .obtain⟨j,d,rfl⟩:=yX m;by_cases e:j=i
   .subst e;rfl
   .rw[n j d e]at b;cases b
 .refine .inl ?_;obtain⟨i,hi,q,o,n⟩:=JG (p:=fun f:Fd=>decide (f.1.1=s)) (l:=a.1) zo;have c:=List.countP_eq_zero.1 (show a.2.countP (fun k=>Sem k.1 s.data.toList)=0 by omega);refine⟨a.1[i],zF hi,by simpa using q,?_,fun g m b=>?_,fun k hk=>by simpa using c k hk⟩
  .unfold iw qY;rw[o]
  .obtain⟨j,d,rfl⟩:=yX m;by_cases e:j=i
   .subst e;rfl
   .have:=n j d e;simp[b]at this
theorem BR{a:St}(h:bH a){f:Fd}(b:f∈a.1):iw a f.1.1=(f.2,f.1.2):=by
 rcases lD h f.1.1 with⟨g,_,_,e,d,_⟩|⟨_,_,_,_,_,c⟩
 .rw[e,d f b rfl]
 .exact absurd rfl (c f b)
theorem BS{a:St}(h:bH a){k:Kl}(hk:k∈a.2){s:ByteArray}(b:Sem k.1 s.data.toList=true):iw a s=(k.2,3):=by
 rcases lD h s with⟨_,_,_,_,_,c⟩|⟨g,_,_,e,d,_⟩
 .rw[c k hk]at b;cases b
 .rw[e,d k hk b]
theorem nP{a:St}(h:bH a)(s:ByteArray):(iw a s).1∈bN a:=by
 rcases lD h s with⟨f,c,_,b,_⟩|⟨k,c,_,b,_⟩
 .rw[b];exact yP.2 (.inl (yD.2 ⟨f,c,rfl⟩))
 .rw[b];exact yP.2 (.inr (yD.2 ⟨k,c,rfl⟩))
theorem AC{c:Vl->Vl->Prop}{a b:St}(j:bH a)(i:bH b):AJ c a b↔∀s,(iw a s).2<=(iw b s).2/\qi c (iw a s).1 (iw b s).1:=by
 constructor
 .intro h s;rcases lD j s with⟨f,d,rfl,_⟩|⟨x,d,q,p,_⟩
  .exact h.fields f (.inl d)
  .rcases lD i s with⟨f,g,rfl,_⟩|⟨y,g,l,k,_⟩
   .exact h.fields f (.inr g)
   .rw[p,k];refine⟨xU _,?_⟩;rcases h.classes x d y g with h|h
    .exact h
    .exact absurd ⟨q,l⟩ (h _)
 .intro h;refine⟨fun f _=>h _,fun x n y m=>?_⟩;by_cases e:∃w,Sem x.1 w=true/\Sem y.1 w=true
  .obtain⟨w,t,r⟩:=e;have d:=h ⟨w.toArray⟩;rw[BS j n (s:=⟨w.toArray⟩) (by simpa using t),BS i m (s:=⟨w.toArray⟩) (by simpa using r)]at d;exact .inl d.2
  .exact .inr fun w o=>e ⟨w,o⟩
theorem G5{α:Type}{R:α->α->Prop}(a:∀x,¬R x x)(d:∀x y z,R x y->R y z->R x z):∀{l m:List α},l.Pairwise R->m.Pairwise R->(∀x,x∈l↔x∈m)->l=m
 |[],[],_,_,_=>rfl
 |[],y::m,_,_,h=>by have:=(h y).2 zS;simp at this
 |x::l,[],_,_,h=>by have:=(h x).1 zS;simp at this
 |x::l,y::m,hl,hm,h=>by
  rw[yS]at hl hm;have e:x=y:=by
   rcases yA.1 ((h x).1 zS)with e|c
   .exact e
   .rcases yA.1 ((h y).2 zS)with e|f
    .exact e.symm
    .exact absurd (d _ _ _ (hm.1 x c) (hl.1 y f)) (a _)
  subst e;rw[G5 a d hl.2 hm.2 fun z=>?_];constructor
  .intro b;rcases yA.1 ((h z).1 (zU _ b))with e|c
   .subst e;exact absurd (hl.1 z b) (a z)
   .exact c
  .intro b;rcases yA.1 ((h z).2 (zU _ b))with e|c
   .subst e;exact absurd (hm.1 z b) (a z)
   .exact c
theorem czd{α:Type}{R:α->α->Prop}(b:∀x y z,R x y->R y z->R x z):∀{l:List α},(∀i (h:i+1<l.length),R l[i] l[i+1])->l.Pairwise R
 |[],_=>List.Pairwise.nil
 |[x],_=>by simp
 |x::y::l,h=>by
  have c:=czd b (l:=y::l) fun i hi=>by have:=h (i+1) (by simp at hi⊢;omega);simpa using this
  refine yS.2 ⟨fun z a=>?_,c⟩;have d:R x y:=by simpa using h 0 zS
  rcases yA.1 a with rfl|a
  .exact d
  .exact b _ _ _ d ((yS.1 c).1 z a)
theorem GG{l:aK}(h:cB l)(a:l≠[]):∃w,Sem l w=true:=by
 obtain⟨w,b⟩:=h.live 0 (yY.2 a);exact⟨w,by rw[dn h];exact b⟩
structure VQ (l:List Kl):Prop where
 GU:∀x∈l,∀y∈l,x.2=y.2->x=y
 asc:l.Pairwise fun x y=>pY x.1 y.1<0
theorem bzu{l:List Fd}(h:fV l):l.Pairwise fun x y=>GY x.1.1 y.1.1=true:=czd (R:=fun x y:Fd=>GY x.1.1 y.1.1=true) (fun _ _ _ a b=>Fw a b) h.asc
theorem Yu(x:aK):¬pY x x<0:=by
 have:pY x x=0:=DL (.same fun _=>rfl);omega
theorem bzd{x y z:aK}(h:pY x y<0)(k:pY y z<0):pY x z<0:=by
 have b:=M8 (jo x y) (jo y z) (jo x z) zo zo;have d:=(jo x z).range;rcases Int.lt_or_eq_of_le b.1 with a|a
 .exact a
 .have c:=b.2.1 a;omega
end Cl
namespace Cl
theorem LU{c:Vl->Vl->Prop}{x y z:St}(d:bH x)(b:bH y)(a:bH z)(T:∀p∈bN x,∀q∈bN y,∀r∈bN z,qi c p q->qi c q r->qi c p r)(h:AJ c x y)(k:AJ c y z):AJ c x z:=by
 rw[AC d b]at h;rw[AC b a]at k;rw[AC d a];intro s;exact⟨Int.le_trans (h s).1 (k s).1,T _ (nP d s) _ (nP b s) _ (nP a s) (h s).2 (k s).2⟩
theorem uE:∀(n:Nat) (a b c:Vl),iQ n a->iQ n b->iQ n c->dz n a b->dz n b c->dz n a c
 |0,_,_,_,h,_,_,_,_=>h.elim
 |n+1,a,b,c,ha,hb,hc,h,k=>by
  have A:=uE n;have T:∀p∈a.kids,∀q∈b.kids,∀r∈c.kids,qi (dz n) p q->qi (dz n) q r->qi (dz n) p r:=fun p l q j r i o m=>
   ⟨A _ _ _ (ha.2 p l).1 (hb.2 q j).1 (hc.2 r i).1 o.1 m.1,A _ _ _ (ha.2 p l).2 (hb.2 q j).2 (hc.2 r i).2 o.2 m.2⟩
  rw[dz]at h k⊢;by_cases s:c.any=true
  .rw[zK (.inr s)];exact s
  by_cases t:b.any=true
  .rw[zK (.inl t)]at k;exact absurd k s
  by_cases w:a.any=true
  .rw[zK (.inl w)]at h;exact absurd h t
  rw[zJ (fun e=>e.elim w t)]at h;rw[zJ (fun e=>e.elim t s)]at k;rw[zJ (fun e=>e.elim w s)];rcases h with rfl|⟨o,m,B⟩
  .exact k
  rcases k with rfl|⟨E,D,C⟩
  .exact .inr ⟨o,m,B⟩
  refine .inr ⟨fun e F=>E e (o e F),fun x g=>?_,fun x g=>?_⟩
  .obtain⟨y,f,v⟩:=m x g;obtain⟨z,d,u⟩:=D y f;exact⟨z,d,Mw (fun p l q j r i=>T p (eB g l) q (eB f j) r (eB d i)) v u⟩
  .obtain⟨y,f,v⟩:=B x g;obtain⟨z,d,u⟩:=C y f;exact⟨z,d,LU (ha.1.st x g).2 (hb.1.st y f).2 (hc.1.st z d).2 (fun p l q j r i=>T p (eQ g l) q (eQ f j) r (eQ d i)) v u⟩
theorem PS{c:Vl->Vl->Prop}{x y:St}(j:fV x.1/\bH x)(i:fV y.1/\bH y)(C:VQ x.2)(B:VQ y.2)(A:∀p∈bN x,∀q∈bN y,qi c p q->qi c q p->p=q)(h:AJ c x y)(k:AJ c y x):x=y:=by
 rw[AC j.2 i.2]at h;rw[AC i.2 j.2]at k;have E:∀s,iw x s=iw y s:=fun s=>Prod.ext (A _ (nP j.2 s) _ (nP i.2 s) (h s).2 (k s).2) (Int.le_antisymm (h s).1 (k s).1);have F:∀{x y:St},fV x.1->bH x->bH y->(∀s,iw x s=iw y s)->∀f∈x.1,f∈y.1:=by
  intro x y P l r e f z;have d:=e f.1.1;rw[BR l z]at d;rcases lD r f.1.1 with⟨g,I,H,D,_⟩|⟨g,_,_,D,_⟩
  .rw[D]at d;simp only[Prod.mk.injEq]at d;have:f=g:=Prod.ext (Prod.ext H.symm d.2) d.1;rw[this];exact I
  .rw[D]at d;simp only[Prod.mk.injEq]at d;have:=P.fze f z;omega
 have d:x.1=y.1:=G5 (R:=fun x y:Fd=>GY x.1.1 y.1.1=true) (fun x h=>by rw[Cz]at h;cases h) (fun _ _ _ a b=>Fw a b) (bzu j.1) (bzu i.1) fun f=>
  ⟨F j.1 j.2 i.2 E f,F i.1 i.2 j.2 (fun s=>(E s).symm) f⟩
 have G:∀{x y:St},fV x.1->fV y.1->bH x->bH y->(∀f,f∈x.1->f∈y.1)->(∀f,f∈y.1->f∈x.1)->VQ x.2->VQ y.2->(∀s,iw x s=iw y s)->∀k∈x.2,k∈y.2:=by
  intro x y P S l r f1 f2 C B e k hk;have O:∀{x y:St},bH x->bH y->(∀f,f∈y.1->f∈x.1)->(∀s,iw x s=iw y s)->∀k∈x.2,∀w,Sem k.1 w=true->∃o∈y.2,Sem o.1 w=true/\o.2=k.2:=by
   intro x y l r f2 e k hk w K;have m:Sem k.1 (⟨w.toArray⟩:ByteArray).data.toList=true:=by simpa using K
   have d:=e ⟨w.toArray⟩;rw[BS l hk m]at d;rcases lD r ⟨w.toArray⟩with⟨g,I,H,_⟩|⟨g,I,H,D,_⟩
   .rcases lD l ⟨w.toArray⟩with⟨_,_,_,_,_,J⟩|⟨_,_,_,_,_,J⟩
    .rw[J k hk]at m;cases m
    .exact absurd H (J g (f2 g I))
   .rw[D]at d;simp only[Prod.mk.injEq,and_true]at d;exact⟨g,I,by simpa using H,d.symm⟩
  obtain⟨w,K⟩:=GG (l.sets k hk).1 (l.sets k hk).2;obtain⟨o,n,m,L⟩:=O l r f2 e k hk w K;have Q:k.1=o.1:=nG (kD (l.sets k hk).1) ((kD (r.sets o n).1).congr fun u=>by
   rw[Bool.eq_iff_iff];constructor
   .intro M;obtain⟨g,N,v,t⟩:=O r l f1 (fun s=>(e s).symm) o n u M;rw[C.GU k hk g N (L.symm.trans t.symm)];exact v
   .intro M;obtain⟨g,N,v,t⟩:=O l r f2 e k hk u M;rw[B.GU o n g N (L.trans t.symm)];exact v)
  rw[show k=o from Prod.ext Q L.symm];exact n
 have f1:∀f,f∈x.1->f∈y.1:=fun f z=>by rw[<-d];exact z
 have f2:∀f,f∈y.1->f∈x.1:=fun f z=>by rw[d];exact z
 have T:x.2=y.2:=G5 (R:=fun x y:Kl=>pY x.1 y.1<0) (fun x=>Yu x.1) (fun _ _ _ a b=>bzd a b) C.asc B.asc fun k=>
  ⟨G j.1 i.1 j.2 i.2 f1 f2 C B E k,G i.1 j.1 i.2 j.2 f2 f1 B C (fun s=>(E s).symm) k⟩
 exact Prod.ext d T
structure gz2 (n:Nat) (v:Vl):Prop where
 gzP:∀x∈v.aN,∀y∈v.aN,AV (dz n) x y->x=y
 gzl:v.aN.Pairwise fun x y=>Pn (gW n) x y<0
 gzN:∀x∈v.aA,∀y∈v.aA,AJ (dz n) x y->x=y
 gzb:v.aA.Pairwise fun x y=>Pm (gW n) x y<0
 kls:∀c∈v.aA,VQ c.2
def Ao:Nat->Vl->Prop
 |0,_=>False
 |n+1,v=>gz2 n v/\∀x∈v.kids,Ao n x.1/\Ao n x.2
theorem WW{α:Type}{p:α->Prop}{c:α->α->Int}(h:kw p c){x y z:α}(a:p x)(e:p y)(d:p z)(j:c x y<0)(i:c y z<0):c x z<0:=by
 have g:=h.tr x y z a e d zo zo;rcases Int.lt_or_eq_of_le g with b|b
 .exact b
 .have f:=(h.eq x z a d).1 b;subst f;have:=h.oC x y a e;omega
theorem RO{α:Type}{p:α->Prop}{c:α->α->Int}(h:kw p c){x:α}(a:p x):¬c x x<0:=by
 have:=h.self a;omega
theorem asc_ext'{α:Type}{p:α->Prop}{c:α->α->Int}(h:kw p c){l m:List α}(f:∀x∈l,p x)(d:∀x∈m,p x)(i:l.Pairwise fun x y=>c x y<0)(g:m.Pairwise fun x y=>c x y<0)(e:∀x,x∈l↔x∈m):l=m:=by
 refine G5 (R:=fun x y=>p x/\p y/\c x y<0) (fun x k=>RO h k.1 k.2.2) (fun x y z a b=>⟨a.1,b.2.1,WW h a.1 a.2.1 b.2.1 a.2.2 b.2.2⟩) ?_ ?_ e
 .exact i.imp_of_mem fun a b k=>⟨f _ a,f _ b,k⟩
 .exact g.imp_of_mem fun a b k=>⟨d _ a,d _ b,k⟩
theorem gzk{n:Nat}{v:Vl}(h:iQ (n+1) v):∀x∈v.aN,x.2.length<=1/\∀y∈aY x,iQ n y.1/\iQ n y.2:=fun x a=>⟨h.1.rest x a,fun y b=>h.2 y (eB a b)⟩
theorem fz7{n:Nat}{v:Vl}(h:iQ (n+1) v):∀x∈v.aA,(∀f∈x.1,iQ n f.2.1/\iQ n f.2.2)/\∀k∈x.2,cB k.1/\iQ n k.2.1/\iQ n k.2.2:=fun x a=>
 ⟨fun _ b=>h.2 _ (oP a b),fun k hk=>⟨((h.1.st x a).2.sets k hk).1,h.2 _ (oQ a hk)⟩⟩
theorem yj:∀(n:Nat) (a b:Vl),iQ n a->iQ n b->Ao n a->Ao n b->dz n a b->dz n b a->a=b
 |0,_,_,h,_,_,_,_,_=>h.elim
 |n+1,a,b,c,d,f,cb,h,k=>by
  have H:=yj n;have A:∀{a b:Vl},iQ (n+1) a->iQ (n+1) b->Ao (n+1) a->Ao (n+1) b->∀p∈a.kids,∀q∈b.kids,qi (dz n) p q->qi (dz n) q p->p=q:=fun c d f cb p i q g o m=>
   Prod.ext (H _ _ (c.2 p i).1 (d.2 q g).1 (f.2 p i).1 (cb.2 q g).1 o.1 m.1) (H _ _ (c.2 p i).2 (d.2 q g).2 (f.2 p i).2 (cb.2 q g).2 o.2 m.2)
  have T:∀{a b:Vl},iQ (n+1) a->iQ (n+1) b->∀p∈a.kids,∀q∈b.kids,∀r∈a.kids,qi (dz n) p q->qi (dz n) q r->qi (dz n) p r:=fun c d p i q g r u o m=>
   ⟨uE n _ _ _ (c.2 p i).1 (d.2 q g).1 (c.2 r u).1 o.1 m.1,uE n _ _ _ (c.2 p i).2 (d.2 q g).2 (c.2 r u).2 o.2 m.2⟩
  rw[dz]at h k;by_cases s:a.any=true
  .rw[zK (.inl s)]at h;obtain⟨o,m,D⟩:=c.1.any s;obtain⟨F,C,B⟩:=d.1.any h;exact Hr (by rw[s,h]) (by rw[o,F]) (by rw[m,C]) (by rw[D,B])
  by_cases E:b.any=true
  .rw[zK (.inl E)]at k;exact absurd k s
  rw[zJ (fun e=>e.elim s E)]at h;rw[zJ (fun e=>e.elim E s)]at k;rcases h with rfl|⟨o,m,D⟩
  .rfl
  rcases k with rfl|⟨F,C,B⟩
  .rfl
  have L:∀{a b:Vl},iQ (n+1) a->iQ (n+1) b->Ao (n+1) a->Ao (n+1) b->(∀x∈a.aN,∃y∈b.aN,AV (dz n) x y)->(∀x∈b.aN,∃y∈a.aN,AV (dz n) x y)->∀x∈a.aN,x∈b.aN:=by
   intro a b c d f cb h k x l;obtain⟨y,j,w⟩:=h x l;obtain⟨z,t,v⟩:=k y j;have G:=f.1.gzP x l z t (Mw (fun p i q g r u=>T c d p (eB l i) q (eB j g) r (eB t u)) w v);subst G;rw[QG (c.1.rest x l) (d.1.rest y j) (fun p i q g=>A c d f cb p (eB l i) q (eB j g)) w v];exact j
  have S:∀{a b:Vl},iQ (n+1) a->iQ (n+1) b->Ao (n+1) a->Ao (n+1) b->(∀x∈a.aA,∃y∈b.aA,AJ (dz n) x y)->(∀x∈b.aA,∃y∈a.aA,AJ (dz n) x y)->∀x∈a.aA,x∈b.aA:=by
   intro a b c d f cb h k x l;obtain⟨y,j,w⟩:=h x l;obtain⟨z,t,v⟩:=k y j;have G:=f.1.gzN x l z t (LU (c.1.st x l).2 (d.1.st y j).2 (c.1.st z t).2 (fun p i q g r u=>T c d p (eQ l i) q (eQ j g) r (eQ t u)) w v);subst G;rw[PS (c.1.st x l) (d.1.st y j) (f.1.kls x l) (cb.1.kls y j) (fun p i q g=>A c d f cb p (eQ l i) q (eQ j g)) w v];exact j
  refine Hr (by rw[Bool.eq_iff_iff];exact⟨fun e=>absurd e s,fun e=>absurd e E⟩) (IC c.1.sc d.1.sc fun e=>⟨o e,F e⟩) ?_ ?_
  .exact asc_ext' (GQ (vT n)) (gzk c) (gzk d) f.1.gzl cb.1.gzl fun x=>⟨L c d f cb m C x,L d c cb f C m x⟩
  .exact asc_ext' (GJ (vT n)) (fz7 c) (fz7 d) f.1.gzb cb.1.gzb fun x=>⟨S c d f cb D B x,S d c cb f B D x⟩
end Cl
namespace Cl
def gQ{α β:Type}(f:α->Option β):List α->Option (List β)
 |[]=>some []
 |x::l=>(f x).bind fun y=>(gQ f l).map fun r=>y::r
theorem ER{α β:Type}{f:α->Option β}{x:α}{l:List α}{r:List β}(h:gQ f (x::l)=some r):∃y t,r=y::t/\f x=some y/\gQ f l=some t:=by
 unfold gQ at h;rw[Option.bind_eq_some_iff]at h;obtain⟨y,c,a⟩:=h;rw[Option.map_eq_some_iff]at a;obtain⟨t,b,rfl⟩:=a;exact⟨y,t,rfl,c,b⟩
theorem iM{α β:Type}{f:α->Option β}:∀{l:List α} {r:List β},gQ f l=some r->r.length=l.length
 |[],r,h=>by unfold gQ at h;cases h;rfl
 |x::l,r,h=>by obtain⟨y,t,rfl,_,a⟩:=ER h;simp[iM a]
theorem rH{α β:Type}{f:α->Option β}:∀{l:List α} {r:List β},gQ f l=some r->∀i (a:i<l.length) (h2:i<r.length),f l[i]=some r[i]
 |[],r,_,i,a,_=>by simp at a
 |x::l,r,h,i,a,h2=>by
  obtain⟨y,t,rfl,c,b⟩:=ER h
  cases i with
  |zero=>exact c
  |succ i=>simpa using rH b i (by simpa using a) qeu
theorem iL{α β:Type}{f:α->Option β}{l:List α}{r:List β}(h:gQ f l=some r){y:β}(a:y∈r):∃x∈l,f x=some y:=by
 obtain⟨i,hi,rfl⟩:=yX a;have b:=iM h;exact⟨_,zF zo,rH h i zo hi⟩
theorem Mq{α β:Type}{f:α->Option β}:∀(l:List α) (x:α),gQ f (l++[x])=(gQ f l).bind fun r=>(f x).map fun y=>r++[y]
 |[],x=>by
  show(f x).bind (fun y=>(some []).map fun r=>y::r)=(some []).bind fun r=>(f x).map fun y=>r++[y]
  cases f x<;>rfl
 |z::l,x=>by
  rw[xK,gQ,Mq l x,gQ]
  cases f z with
  |none=>rfl
  |some u=>
   cases gQ f l with
   |none=>rfl
   |some r=>cases f x<;>rfl
theorem qR{α β:Type}{f:α->Option β}{l:List α}{k:Nat}(h:k<l.length):gQ f (l.take (k+1))=(gQ f (l.take k)).bind fun r=>(f l[k]).map fun y=>r++[y]:=by
 rw[zH h,Mq]
theorem oO{α β:Type}{f:α->Option β}:∀{l:List α} {x:α},x∈l->f x=none->gQ f l=none
 |z::l,x,a,h=>by
  rw[gQ];rcases yA.1 a with rfl|a
  .rw[h];rfl
  .rw[oO a h];cases f z<;>rfl
noncomputable def DN{α:Type}(c:α->α->Int)(x:α):List α->List α
 |[]=>[x]
 |y::l=>if c x y<=0 then x::y::l else y::DN c x l
noncomputable def gJ{α:Type}(c:α->α->Int):List α->List α
 |[]=>[]
 |x::l=>DN c x (gJ c l)
theorem AX{α:Type}(c:α->α->Int)(x:α):∀l:List α,(DN c x l).Perm (x::l)
 |[]=>List.Perm.refl _
 |y::l=>by
  unfold DN
  split
  .exact List.Perm.refl _
  .exact((AX c x l).cons y).trans (List.Perm.swap x y l)
theorem jh{α:Type}(c:α->α->Int):∀l:List α,(gJ c l).Perm l
 |[]=>List.Perm.refl _
 |x::l=>(AX c x _).trans ((jh c l).cons x)
theorem gY{α:Type}{c:α->α->Int}{l:List α}{x:α}:x∈gJ c l↔x∈l:=(jh c l).mem_iff
theorem LX{α:Type}{p:α->Prop}{c:α->α->Int}(h:kw p c):∀{l:List α},(∀x∈l,p x)->(gJ c l).Pairwise fun x y=>c x y<=0
 |[],_=>List.Pairwise.nil
 |x::l,a=>by
  have d:∀(x:α) (l:List α),p x->(∀y∈l,p y)->(l.Pairwise fun x y=>c x y<=0)->(DN c x l).Pairwise fun x y=>c x y<=0:=by
   intro x l e
   induction l with
   |nil=>intro _ _;simp[DN]
   |cons y l ih=>
    intro a b;rw[yS]at b;unfold DN
    split
    .rename_i f;refine yS.2 ⟨fun z hz=>?_,yS.2 b⟩;rcases yA.1 hz with rfl|hz
     .exact f
     .exact h.tr x y z e (a y zS) (a z qev) f (b.1 z hz)
    .rename_i f;refine yS.2 ⟨fun z hz=>?_,ih (fun z hz=>a z qev) b.2⟩;rcases yA.1 ((AX c x l).mem_iff.1 hz)with rfl|hz
     .have:=h.oC y z (a y zS) e;have:=h.oC z y e (a y zS);omega
     .exact b.1 z hz
  exact d x _ (a x zS) (fun y hy=>a y (by simp[gY.1 hy])) (LX h fun y hy=>a y qei)
theorem LQ{α:Type}{p:α->Prop}{c:α->α->Int}(h:kw p c){l:List α}(d:∀x∈l,p x)(i:l.Nodup)(g:l.Pairwise fun x y=>c x y<=0):l.Pairwise fun x y=>c x y<0:=by
 refine(g.and i).imp_of_mem fun {a b} ha hb ⟨f,e⟩=>?_;rcases Int.lt_or_eq_of_le f with k|k
 .exact k
 .exact absurd ((h.eq a b (d a ha) (d b hb)).1 k) e
theorem uY{α:Type}{p:α->Prop}{c:α->α->Int}(h:kw p c){l:List α}(a:∀x∈l,p x)(d:l.Nodup):(gJ c l).Pairwise fun x y=>c x y<0:=
 LQ h (fun x b=>a x (gY.1 b)) ((jh c l).nodup_iff.2 d) (LX h a)
theorem PU{α:Type}{p:α->Prop}{c:α->α->Int}(h:kw p c){l d:List α}(b:∀x∈l,p x)(f:l.Nodup)(e:d.Perm l)(g:d.Pairwise fun x y=>c x y<=0):d=gJ c l:=
 asc_ext' h (fun x a=>b x (e.mem_iff.1 a)) (fun x a=>b x (gY.1 a)) (LQ h (fun x a=>b x (e.mem_iff.1 a)) (e.nodup_iff.2 f) g) (uY h b f) fun _=>e.mem_iff.trans gY.symm
def sP{α:Type}(R:α->α->Prop)(l:List α)(i:Nat):Prop:=∀k (hk:k<l.length) (hi:i<l.length),k≠i->R l[i] l[k]->¬(k<i\/¬R l[k] l[i])
noncomputable def iy{α:Type}(R:α->α->Prop)(l:List α)(n:Nat):List α:=((List.range n).filter fun i=>tf (sP R l i)).filterMap fun i=>l[i]?
noncomputable def oN{α:Type}(R:α->α->Prop)(l:List α):List α:=iy R l l.length
theorem uA{α:Type}{R:α->α->Prop}{l:List α}{n:Nat}(h:n<l.length)(k:sP R l n):iy R l (n+1)=iy R l n++[l[n]]:=by
 unfold iy;rw[List.range_succ,List.filter_append,List.filterMap_append];simp[aM k,h]
theorem DI{α:Type}{R:α->α->Prop}{l:List α}{n:Nat}(k:¬sP R l n):iy R l (n+1)=iy R l n:=by
 unfold iy;rw[List.range_succ,List.filter_append,List.filterMap_append];simp[aF k]
theorem EQ{α:Type}{R:α->α->Prop}{l:List α}{n:Nat}{x:α}(a:x∈iy R l n):∃i,∃h:i<l.length,i<n/\sP R l i/\l[i]=x:=by
 unfold iy at a;obtain⟨i,g,f⟩:=List.mem_filterMap.1 a;obtain⟨e,d⟩:=xR.1 g;obtain⟨c,b⟩:=yB.1 f;exact⟨i,c,yQ.1 e,kF.1 d,b⟩
theorem fU{α:Type}{R:α->α->Prop}{l:List α}{x:α}(a:x∈oN R l):x∈l:=by
 obtain⟨i,h,_,_,rfl⟩:=EQ a;exact zF h
theorem Qs{α:Type}{R:α->α->Prop}{l:List α}(n:∀x∈l,∀y∈l,R x y->R y x->x=y){x:α}:x∈oN R l↔x∈l/\∀y∈l,R x y->x=y:=by
 constructor
 .intro d;obtain⟨i,h,_,j,rfl⟩:=EQ d;refine⟨zF h,fun y o a=>?_⟩;obtain⟨k,hk,rfl⟩:=yX o;by_cases e:k=i
  .subst e;rfl
  .have b:=j k hk h e a;exact n _ (zF _) _ (zF _) a (zP fun r=>b (.inr r))
 .rintro⟨d,q⟩;obtain⟨g,f,s⟩:=yX d;obtain⟨i,⟨hi,e⟩,c⟩:=qU (fun i:Nat=>i) (fun i=>∃h:i<l.length,l[i]=x) g g (zI _) ⟨f,s⟩;unfold oN iy;refine List.mem_filterMap.2 ⟨i,xR.2 ⟨yQ.2 hi,aM fun k hk _ p a=>?_⟩,by rw[yH hi,e]⟩;rw[e]at a;have m:=q _ (zF hk) a;have j:=c k ⟨hk,m.symm⟩;rintro(b|b)
  .omega
  .rw[e]at b;rw[<-m]at b a;exact b a
theorem vz{α:Type}{R:α->α->Prop}{l:List α}(refl:∀x∈l,R x x):(oN R l).Nodup:=by
 have f:∀n,n<=l.length->(iy R l n).Nodup:=by
  intro n
  induction n with
  |zero=>intro _;exact List.nodup_nil
  |succ n ih=>
   intro g;by_cases k:sP R l n
   .rw[uA zo k,List.nodup_append];refine⟨ih zo,zS,fun x c y b e=>?_⟩;obtain rfl:=zZ.1 b;obtain⟨i,hi,a,_,d⟩:=EQ c;refine k i hi zo zo ?_ (.inl a);rw[d,e];exact refl _ (zF _)
   .rw[DI k];exact ih zo
 exact f _ (zI _)
end Cl
namespace Cl
noncomputable def ezQ(f:List UInt8->Bool):aK:=Classical.epsilon fun C=>dw f C
theorem Jl{f:List UInt8->Bool}{C:aK}(h:dw f C):ezQ f=C:=by
 exact nG (Classical.epsilon_spec (p:=fun C=>dw f C) ⟨C,h⟩) h
noncomputable def orT(A B:aK):aK:=ezQ fun w=>Sem A w||Sem B w
noncomputable def ja(v:Vl):Bool := !v.any&&decide (v.aN.length=0)&&decide (v.aA.length=0)&&mZ v.s
noncomputable def gD(c:Vl->Option Vl)(le:Vl->Vl->Prop)(d:Vd):Option Vd:=(c d.1).bind fun a=>(c d.2).bind fun b=>if tf (le b a)=true then some (a,b)else none
noncomputable def mG(c:Vl->Option Vl)(le:Vl->Vl->Prop)(x:Lc):Option (Lc×Bool):=
 (gQ (gD c le) x.1).bind fun l=>(gQ (gD c le) x.2).map fun r=>((l,r.filter fun d => !ja d.1),l.all fun d => !ja d.1)
noncomputable def lW(out:List Kl)(k:Kl):List Kl:=match out.findIdx? (fun x=>tf (x.2=k.2))with
 |none=>out++[k]
 |some i=>out.set i (orT (out.getD i k).1 k.1,k.2)
noncomputable def uJ(c:Vl->Option Vl)(le:Vl->Vl->Prop)(f:Fd):Option Fd:=(gD c le f.2).map fun d=>(f.1,d)
noncomputable def qf(c:Vl->Option Vl)(le:Vl->Vl->Prop)(k:Kl):Option Kl:=(gD c le k.2).map fun d=>(k.1,d)
noncomputable def MF(a b:Kl):Int:=pY a.1 b.1
noncomputable def mQ(c:Vl->Option Vl)(le:Vl->Vl->Prop)(x:St):Option (St×Bool):=
 (gQ (uJ c le) x.1).bind fun fs=>(gQ (qf c le) x.2).map fun a=>((fs,gJ MF (a.foldl lW [])),fs.all fun f => !ja f.2.1)
def bY{α:Type}(l:List (α×Bool)):List α:=(l.filter (·.2)).map (·.1)
def OG(v:Vl):Prop:=∃x y,v.aN=[x]/\v.aA=[y]/\(∀e,Gw e->v.s.has e)/\(x.1=[]/\∃d,x.2=[d]/\(d.1.any&&d.2.any)=true)/\y.1=[]/\∃k,y.2=[k]/\(k.2.1.any&&k.2.2.any)=true
noncomputable def lu(n:Nat)(v:Vl)(ls:List Lc)(a:List St):Vl:=
 .mk false v.s (gJ (Pn (gW n)) (oN (AV (dz n)) ls)) (gJ (Pm (gW n)) (oN (AJ (dz n)) a))
noncomputable def cz:Nat->Vl->Option Vl
 |0,_=>none
 |n+1,v=>if v.any=true then some v else
  (gQ (mG (cz n) (dz n)) v.aN).bind fun ls=>(gQ (mQ (cz n) (dz n)) v.aA).map fun a=>
   if tf (OG (lu n v (bY ls) (bY a)))=true then fE else lu n v (bY ls) (bY a)
structure KF (n:Nat) (d:Vd):Prop where
 s1:iQ n d.1
 s2:iQ n d.2
 c1:Ao n d.1
 c2:Ao n d.2
 le:dz n d.2 d.1
theorem Ad{n:Nat}(H:∀v u,iQ n v->cz n v=some u->iQ n u/\Ao n u){d e:Vd}(f:iQ n d.1)(c:iQ n d.2)(h:gD (cz n) (dz n) d=some e):KF n e:=by
 unfold gD at h;obtain⟨a,i,h⟩:=Option.bind_eq_some_iff.1 h;obtain⟨b,g,h⟩:=Option.bind_eq_some_iff.1 h
 split at h
 .rename_i j;cases h;exact⟨(H _ _ f i).1,(H _ _ c g).1,(H _ _ f i).2,(H _ _ c g).2,kF.1 j⟩
 .cases h
theorem RU{n:Nat}(H:∀v u,iQ n v->cz n v=some u->iQ n u/\Ao n u){x:Lc}{y:Lc×Bool}(g:x.2.length<=1)(hk:∀d∈aY x,iQ n d.1/\iQ n d.2)(h:mG (cz n) (dz n) x=some y):y.1.2.length<=1/\∀d∈aY y.1,KF n d:=by
 unfold mG at h;obtain⟨l,f,h⟩:=Option.bind_eq_some_iff.1 h;obtain⟨r,e,rfl⟩:=Option.map_eq_some_iff.1 h;have i:=iM e;have j:=vB (fun d:Vd => !ja d.1) r;refine⟨by simp only;omega,fun d a=>?_⟩;rcases yP.1 a with a|a
 .obtain⟨z,b,c⟩:=iL f a;have:=hk z (yP.2 (.inl b));exact Ad H this.1 this.2 c
 .obtain⟨z,b,c⟩:=iL e (xR.1 a).1;have:=hk z (yP.2 (.inr b));exact Ad H this.1 this.2 c
structure Merge (ks out:List Kl):Prop where
 sets:∀k∈out,cB k.1/\k.1≠[]
 cnt:∀w,out.countP (fun k=>Sem k.1 w)=ks.countP (fun k=>Sem k.1 w)
 GU:(out.map (·.2)).Nodup
 vals:∀k∈out,∃k'∈ks,k'.2=k.2
theorem JQ{α:Type}(p:α->Bool):∀(l:List α) (i:Nat) (h:i<l.length) (y:α),(l.set i y).countP p+(if p l[i]then 1 else 0)=l.countP p+if p y then 1 else 0
 |[],i,h,_=>by simp at h
 |x::l,0,_,y=>by simp only[List.set_cons_zero,List.countP_cons,xL];omega
 |x::l,i+1,h,y=>by
  have:=JQ p l i qd9 y;simp only[List.set_cons_succ,List.countP_cons,List.getElem_cons_succ];omega
theorem Mj:Merge [] []:=⟨zS,zS,zS,zS⟩
theorem Mk{d out:List Kl}{k:Kl}(h:Merge d out)(hk:cB k.1/\k.1≠[])(t:∀w,(d++[k]).countP (fun k=>Sem k.1 w)<=1)
(r:∀A B:aK,cB A->cB B->∃C,dw (fun w=>Sem A w||Sem B w) C):Merge (d++[k]) (lW out k):=by
 unfold lW
 split
 .rename_i e;have m:∀x∈out,x.2≠k.2:=fun x hx hh=>by
   exact qhO
  refine⟨fun x hx=>?_,fun w=>by rw[List.countP_append,List.countP_append,h.cnt],?_,fun x hx=>?_⟩
  .rcases yP.1 hx with hx|hx
   .exact h.sets x hx
   .rw[zZ.1 hx];exact hk
  .rw[yI,List.nodup_append];refine⟨h.GU,zS,fun a u b o g=>?_⟩;obtain⟨x,hx,rfl⟩:=yD.1 u;simp only[yL,xB,zZ]at o;exact m x hx (g.trans o)
  .rcases yP.1 hx with hx|hx
   .exact qdf
   .rw[zZ.1 hx];exact⟨k,zS,rfl⟩
 .rename_i i e;obtain⟨hi,h1,_⟩:=List.findIdx?_eq_some_iff_getElem.1 e;have q:out[i].2=k.2:=kF.1 h1;have s:out.getD i k=out[i]:=by simp[hi]
  rw[s];obtain⟨C,c⟩:=r out[i].1 k.1 (h.sets _ (zF hi)).1 hk.1;have y:orT out[i].1 k.1=C:=Jl c;rw[y];have n:∀w,Sem C w=(Sem out[i].1 w||Sem k.1 w):=fun w=>by rw[dn c.canon];exact c.qw w
  have f:C≠[]:=fun e=>by
   obtain⟨w,p⟩:=GG hk.1 hk.2;have:=n w;rw[p,Bool.or_true,e,dn eD,hzR]at this;cases this
  refine⟨fun x hx=>?_,fun w=>?_,?_,fun x hx=>?_⟩
  .rcases List.mem_or_eq_of_mem_set hx with hx|rfl
   .exact h.sets x hx
   .exact⟨c.canon,f⟩
  .have h2:=JQ (fun k:Kl=>Sem k.1 w) out i hi (C,k.2);have l:=t w;have z:=h.cnt w;rw[List.countP_append]at l⊢;have v:(if Sem out[i].1 w=true then 1 else 0)<=out.countP (fun k=>Sem k.1 w):=by
    split
    .rename_i hh;exact List.countP_pos_iff.2 ⟨_,zF hi,hh⟩
    .exact zG _
   simp only[List.countP_cons,List.countP_nil,yZ]at l⊢;simp only[n]at h2;cases e1:Sem out[i].1 w<;>cases m:Sem k.1 w<;>simp only[e1,m,Bool.or_true,Bool.or_false,if_true,Bool.false_eq_true,if_false]at h2 l v⊢<;>omega
  .rw[show(out.set i (C,k.2)).map (·.2)=out.map (·.2) from by
    rw[List.map_set];refine vF zS fun j a b=>?_;rw[List.getElem_set]
    split
    .rename_i e;subst e;simpa using q.symm
    .rfl]
   exact h.GU
  .rcases List.mem_or_eq_of_mem_set hx with hx|rfl
   .exact qdf
   .exact⟨k,zS,rfl⟩
end Cl
namespace Cl
theorem bzY{T:aK}{N:Nat}(pos:0<N)(cl:∀s:Nat,s<N->∀b,b<256->∃t:Nat,t<N/\bX T s b=t):∃C,dw (aH T 0) C:=by
 by_cases y:∃w,aH T 0 w=true
 case neg=>
  refine⟨[],eD,fun w=>?_⟩;rw[hzR]
  cases h:aH T 0 w with
  |false=>rfl
  |true=>exact absurd ⟨w,h⟩ y
 obtain⟨dl,m⟩:∃dl:Nat->Nat->Option Nat,∀s i,dl s i=if tf (∃w,aH T (bX T s i) w=true)=true then some (bX T s i).toNat else none:=⟨_,fun _ _=>rfl⟩;have a:∀s:Nat,∃t:Nat,(∀w,aH T t w=aH T s w)/\∀u:Nat,(∀w,aH T u w=aH T s w)->t<=u:=fun s=>by
  obtain⟨t,f,c⟩:=qU (fun t:Nat=>t) (fun t:Nat=>∀w,aH T t w=aH T s w) s s (zI _) fun _=>rfl;exact⟨t,f,c⟩
 have H:Ap T N (fun s=>((a s).choose:Int)) dl (fun i=>i) (fun i=>i) (fun s=>bI T s) 256:=by
  refine⟨⟨fun i h=>⟨zI _,h⟩,fun i j h _=>h,fun b h=>⟨b,h,zI _,zI _⟩⟩,pos,fun s i t r hi h=>?_,fun s i r hi h b f c w=>?_,fun s t r ht=>?_,fun s _=>rfl,y⟩
  .rw[m]at h;obtain⟨D,q,e⟩:=cl s r i hi
   split at h
   .rename_i d;cases h;rw[e,Int.toNat_natCast];refine⟨q,by have:=kF.1 d;rwa [e]at this,fun b f c w=>?_⟩;obtain rfl:b=i:=Nat.le_antisymm c f;rw[e]
   .cases h
  .rw[m]at h;obtain rfl:b=i:=Nat.le_antisymm c f
   split at h
   .cases h
   .rename_i d
    cases h4:aH T (bX T s b) w with
    |false=>rfl
    |true=>exact absurd (aM ⟨w,h4⟩) d
  .have p:=(a s).choose_spec;have o:=(a t).choose_spec;constructor
   .intro e;have e:(a s).choose=(a t).choose:=Int.ofNat_inj.1 e;intro w;rw[<-p.1 w,e,o.1 w]
   .intro e;have f:=p.2 (a t).choose fun w=>(o.1 w).trans (e w).symm;have c:=o.2 (a s).choose fun w=>(p.1 w).trans (e w);have:(a s).choose=(a t).choose:=zo;simp only[this]
 generalize (fun s=>((a s).choose:Int))=cf at H;have n:∀s i t,s<N->i<256->dl s i=some t->t<N:=fun s i t f c d=>(H.some s i t f c d).1;have g:∀k,(∀j,j<k->j<(dL cf dl (fun i=>i) (fun i=>i) (fun s=>bI T s) 256 j).1.length)->(dL cf dl (fun i=>i) (fun i=>i) (fun s=>bI T s) 256 k).1.length<=N:=fun k hk=>by
  have B:=GX (cf:=cf) (ac:=fun s=>bI T s) H.iv H.pos n k hk;exact vS B.GU B.lt
 have A:∃k,(dL cf dl (fun i=>i) (fun i=>i) (fun s=>bI T s) 256 k).1.length<=k:=by
  by_cases h:∀j,j<N->j<(dL cf dl (fun i=>i) (fun i=>i) (fun s=>bI T s) 256 j).1.length
  .exact⟨N,g N h⟩
  .refine zP fun c=>h fun j _=>?_;rcases Nat.lt_or_ge j (dL cf dl (fun i=>i) (fun i=>i) (fun s=>bI T s) 256 j).1.length with d|d
   .exact d
   .exact absurd ⟨j,d⟩ c
 obtain⟨x,v⟩:=A;obtain⟨k,f,c⟩:=qU (fun k:Nat=>k) (fun k=>(dL cf dl (fun i=>i) (fun i=>i) (fun s=>bI T s) 256 k).1.length<=k) x x (zI _) v;have hk:∀j,j<k->j<(dL cf dl (fun i=>i) (fun i=>i) (fun s=>bI T s) 256 j).1.length:=fun j E=>by
  rcases Nat.lt_or_ge j (dL cf dl (fun i=>i) (fun i=>i) (fun s=>bI T s) 256 j).1.length with h|h
  .exact h
  .have:=c j h;omega
 have B:=GX (cf:=cf) (ac:=fun s=>bI T s) H.iv H.pos n k hk;have l:(dL cf dl (fun i=>i) (fun i=>i) (fun s=>bI T s) 256 k).1.length=k:=by
  rcases Nat.eq_zero_or_pos k with e|e
  .subst e;simp[dL]at f
  .obtain⟨d,_⟩:=B.state (k-1) (by rw[B.len];omega);omega
 have z:=Nl H hk l;exact⟨_,z.1,z.2⟩
def nN(n:Nat)(i:Int):Nat:=if 0<=i/\i<n then i.toNat else n
theorem GN(n:Nat)(i:Int):nN n i<=n:=by unfold nN;split<;>omega
def azS(A B:aK)(op:Bool->Bool->Bool):aK:=(List.range ((A.length+1)*(B.length+1))).map fun s=>
 ⟨op (bI A (s/(B.length+1):Nat)) (bI B (s%(B.length+1):Nat)),(List.range 256).map fun x=>
  ⟨x,x,((nN A.length (bX A (s/(B.length+1):Nat) x)*(B.length+1)+nN B.length (bX B (s%(B.length+1):Nat) x):Nat):Int)⟩⟩
theorem MR(f:Nat->Int):∀(n b k:Nat),k<=b->b<k+n->bE ((List.range' k n).map fun x=>(⟨x,x,f x⟩:Ed)) b=f b
 |0,b,k,h1,h2=>zo
 |n+1,b,k,h1,h2=>by
  rw[List.range'_succ,yL,bE];by_cases e:b=k
  .subst e;rw[zK ⟨zI _,zI _⟩]
  .rw[zJ (by simp only;omega)];exact MR f n b (k+1) zo zo
theorem Zw{l:aK}{i:Int}(h:¬(0<=i/\i<l.length)):bI l i=false:=by
 unfold bI;by_cases a:i<0
 .rw[zK a]
 .rw[zJ a,vC zo]
theorem Xx{l:aK}{i:Int}(h:¬(0<=i/\i<l.length))(b:Nat):bX l i b = -1:=by
 unfold bX;by_cases a:i<0
 .rw[zK a]
 .rw[zJ a,vC zo]
theorem G6(l:aK):∀(w:List UInt8) (i:Int),aH l (nN l.length i) w=aH l i w
 |w,i=>by
  unfold nN
  split
  .rename_i h;rw[Int.toNat_of_nonneg h.1]
  .rename_i h;have a:∀(w:List UInt8) (i:Int),¬(0<=i/\i<l.length)->aH l i w=false:=fun w i h=>by
    cases w with
    |nil=>exact Zw h
    |cons b w=>rw[aH,Xx h];exact eU zo w
   rw[a w i h,a w _ zo]
section
variable {A B:aK} {op:Bool->Bool->Bool}
theorem WC{s:Nat}(h:s<(A.length+1)*(B.length+1)):(azS A B op)[s]?=some ⟨op (bI A (s/(B.length+1):Nat)) (bI B (s%(B.length+1):Nat)),(List.range 256).map fun x=>
 ⟨x,x,((nN A.length (bX A (s/(B.length+1):Nat) x)*(B.length+1)+nN B.length (bX B (s%(B.length+1):Nat) x):Nat):Int)⟩⟩:=by
 unfold azS;rw[List.getElem?_map,List.getElem?_range h]
 rfl
theorem Mi{s:Nat}(h:s<(A.length+1)*(B.length+1)){b:Nat}(a:b<256):bX (azS A B op) s b=((nN A.length (bX A (s/(B.length+1):Nat) b)*(B.length+1)+nN B.length (bX B (s%(B.length+1):Nat) b):Nat):Int):=by
 unfold bX;rw[zJ zo,Int.toNat_natCast,WC h];simp only;rw[List.range_eq_range'];exact MR (fun x=>((nN A.length (bX A (s/(B.length+1):Nat) x)*(B.length+1)+nN B.length (bX B (s%(B.length+1):Nat) x):Nat):Int)) 256 b 0 (zG _) zo
theorem Ua(i j:Int):nN A.length i*(B.length+1)+nN B.length j<(A.length+1)*(B.length+1):=by
 have a:=GN A.length i;have b:=GN B.length j;have:=Nat.mul_le_mul_right (B.length+1) a;rw[Nat.add_mul];omega
theorem WB:∀(w:List UInt8) (i j:Int),aH (azS A B op) ((nN A.length i*(B.length+1)+nN B.length j:Nat):Int) w=op (aH A i w) (aH B j w)
 |[],i,j=>by
  have c:=GN B.length j;rw[<-G6 A [] i,<-G6 B [] j];show bI _ _=op (bI A _) (bI B _);have b:(nN A.length i*(B.length+1)+nN B.length j)/(B.length+1)=nN A.length i:=by
   exact qdn
  have a:(nN A.length i*(B.length+1)+nN B.length j)%(B.length+1)=nN B.length j:=by
   rw[Nat.mul_comm,Nat.mul_add_mod,Nat.mod_eq_of_lt zo]
  unfold bI;rw[zJ zo,Int.toNat_natCast,WC (Ua i j),b,a]
  rfl
 |x::w,i,j=>by
  have c:=GN B.length j;rw[<-G6 A (x::w) i,<-G6 B (x::w) j];rw[aH,Mi (Ua i j) x.toNat_lt];have b:(nN A.length i*(B.length+1)+nN B.length j)/(B.length+1)=nN A.length i:=by
   exact qdn
  have a:(nN A.length i*(B.length+1)+nN B.length j)%(B.length+1)=nN B.length j:=by
   rw[Nat.mul_comm,Nat.mul_add_mod,Nat.mod_eq_of_lt zo]
  rw[b,a,WB w]
  rfl
end
theorem azD{A B:aK}(op:Bool->Bool->Bool)(g:cB A)(f:cB B):∃C,dw (fun w=>op (Sem A w) (Sem B w)) C:=by
 obtain⟨C,d⟩:=bzY (T:=azS A B op) (N:=(A.length+1)*(B.length+1)) (Nat.mul_pos zo zo) fun s a b c=>⟨_,Ua _ _,Mi a c⟩;refine⟨C,d.congr fun w=>?_⟩;rw[dn g,dn f];refine Eq.trans ?_ (WB (op:=op) w 0 0)
 congr 1
 have e:∀n:Nat,nN n 0=0:=fun n=>by unfold nN;split<;>omega
 rw[e,e];simp
theorem EB{α:Type}[DecidableEq α]{f:List UInt8->Bool}{C:aK}(h:dw f C)(_:C≠[])(φ:List UInt8->α)(l:List α)(y:∀w,φ w∈l)(q:∀w w',φ w=φ w'->∀u,f (w++u)=f (w'++u)):C.length<=l.length:=by
 have a:∀s:Nat,s<C.length->∃w:List UInt8,∀u,aH C 0 (w++u)=aH C s u:=by
  intro s
  induction s using Nat.strongRecOn with
  |_ s ih=>
   intro m;rcases Nat.eq_zero_or_pos s with rfl|v
   .exact⟨[],fun u=>rfl⟩
   .obtain⟨k,b,A,h2,z⟩:=h.canon.reach s v m;obtain⟨w,t⟩:=ih k A zo;refine⟨w++[UInt8.ofNat b],fun u=>?_⟩;rw[xD,t,List.singleton_append,aH,UInt8.toNat_ofNat_of_lt' qeu,z]
 obtain⟨g,c⟩:∃g:Nat->List UInt8,∀s,s<C.length->∀u,aH C 0 (g s++u)=aH C s u:=⟨fun s=>Classical.epsilon fun w=>∀u,aH C 0 (w++u)=aH C s u,fun s m=>Classical.epsilon_spec (p:=fun w=>∀u,aH C 0 (w++u)=aH C s u) (a s m)⟩;have o:((List.range C.length).map fun s=>φ (g s)).Nodup:=by
  refine List.pairwise_map.2 ((List.pairwise_lt_range (n:=C.length)).imp_of_mem fun {i j} hi d hij e=>?_);have hi:=yQ.1 hi;have d:=yQ.1 d;have:=h.canon.dzG i j hi d fun u=>by
   rw[<-c i hi,<-c j d,h.qw,h.qw];exact q _ _ e u
  omega
 have:=mr _ l o fun x r=>by obtain⟨s,_,rfl⟩:=yD.1 r;exact y _
 exact qbi
end Cl
namespace Cl
theorem jm:∀{n:Nat} {v:Vl},Ht n v->dz n v v
 |0,_,h=>h.elim
 |n+1,v,_=>by
  rw[dz]
  split
  .rename_i h;exact h.elim id id
  .exact .inl rfl
theorem QF{n:Nat}{x:Lc}(h:∀d∈aY x,Ht n d.1/\Ht n d.2):AV (dz n) x x where
 len:=zI _
 shut e:=⟨zI _,e⟩
 items i hi:=by
  have:=h _ (mU hi);rcases mY x i with⟨_,e⟩|⟨_,_,_⟩|⟨_,_⟩
  .rw[e];exact⟨jm this.1,jm this.2⟩
  .omega
  .omega
 rest ha _:=by
  have:=h _ (mE ha);exact⟨jm this.1,jm this.2⟩
theorem PR{n:Nat}{x:St}(a:bH x)(h:∀d∈bN x,Ht n d.1/\Ht n d.2):AJ (dz n) x x:=
 (AC a a).2 fun s=>⟨xU _,jm (h _ (nP a s)).1,jm (h _ (nP a s)).2⟩
theorem I8{b out a:List Kl}(h:Merge b out)(p:a.Perm out):Merge b a:=
 ⟨fun k hk=>h.sets k (p.mem_iff.1 hk),fun w=>(p.countP_eq _).trans (h.cnt w),(p.map _).nodup_iff.2 h.GU,fun k hk=>h.vals k (p.mem_iff.1 hk)⟩
theorem I9:∀(ks done out:List Kl),Merge done out->(∀k∈ks,cB k.1/\k.1≠[])->(∀w,(done++ks).countP (fun k=>Sem k.1 w)<=1)->Merge (done++ks) (ks.foldl lW out)
 |[],done,out,h,_,_=>by simpa using h
 |k::ks,done,out,h,hk,hc=>by
  rw[List.foldl_cons,show done++k::ks=(done++[k])++ks by simp];refine I9 ks _ _ (Mk h (hk k zS) (fun w=>?_) fun A B b a=>azD (fun x y=>x||y) b a) (fun x hx=>hk x qd8) fun w=>by have:=hc w;rwa [show done++k::ks=(done++[k])++ks by simp]at this
  exact qcb
theorem Bz{α β:Type}{f:α->β}:∀{l:List α},(l.map f).Nodup->∀x∈l,∀y∈l,f x=f y->x=y
 |[],_,x,hx,_,_,_=>by simp at hx
 |z::l,h,x,hx,y,hy,e=>by
  rw[yL,List.nodup_cons]at h;rcases yA.1 hx with b|b
  .rcases yA.1 hy with a|a
   .rw[b,a]
   .exact absurd (yD.2 ⟨y,a,by rw[<-e,b]⟩) h.1
  .rcases yA.1 hy with a|a
   .exact absurd (yD.2 ⟨x,b,by rw[e,a]⟩) h.1
   .exact Bz h.2 x b y a e
theorem Uw{out:List Kl}(d:∀k∈out,cB k.1/\k.1≠[])(h:∀w,out.countP (fun k=>Sem k.1 w)<=1)(t:(out.map (·.2)).Nodup):VQ (gJ MF out):=by
 refine⟨fun x hx y hy e=>Bz t x (gY.1 hx) y (gY.1 hy) e,?_⟩;have i:∀{out:List Kl},(∀k∈out,cB k.1/\k.1≠[])->(∀w,out.countP (fun k=>Sem k.1 w)<=1)->(out.map (·.1)).Nodup:=by
  intro out
  induction out with
  |nil=>intro _ _;simp
  |cons k out ih=>
   intro d h;rw[yL,List.nodup_cons];refine⟨fun s=>?_,ih (fun x hx=>d x qd8) fun w=>by have:=h w;rw[List.countP_cons]at this;omega⟩;obtain⟨y,hy,e⟩:=yD.1 s;obtain⟨w,n⟩:=GG (d k zS).1 (d k zS).2;have c:=h w;have o:0<out.countP (fun k=>Sem k.1 w):=List.countP_pos_iff.2 ⟨y,hy,by rw[e];exact n⟩;rw[List.countP_cons,zK n]at c;omega
 have r:=i d h;have j:∀(x:Kl) (l:List Kl),(∀y∈l,cB y.1)->cB x.1->(l.Pairwise fun x y=>pY x.1 y.1<=0)->(DN MF x l).Pairwise fun x y=>pY x.1 y.1<=0:=by
  intro x l
  induction l with
  |nil=>intro _ _ _;simp[DN]
  |cons y l ih=>
   intro f hx g;rw[yS]at g;unfold DN
   split
   .rename_i c;refine yS.2 ⟨fun z hz=>?_,yS.2 g⟩;rcases yA.1 hz with rfl|hz
    .exact c
    .exact nH.tr x.1 y.1 z.1 hx (f y zS) (f z qev) c (g.1 z hz)
   .rename_i c;refine yS.2 ⟨fun z hz=>?_,ih (fun z hz=>f z qev) hx g.2⟩;rcases yA.1 ((AX MF x l).mem_iff.1 hz)with rfl|hz
    .have:=nH.oC z.1 y.1 hx (f y zS);have c:¬pY z.1 y.1<=0:=c;omega
    .exact g.1 z hz
 have m:∀l:List Kl,(∀y∈l,cB y.1)->(gJ MF l).Pairwise fun x y=>pY x.1 y.1<=0:=by
  intro l
  induction l with
  |nil=>intro _;exact List.Pairwise.nil
  |cons x l ih=>intro f;exact j x _ (fun y hy=>f y (by simp[gY.1 hy])) (f x zS) (ih fun y hy=>f y qei)
 have c:=m out fun k hk=>(d k hk).1;have o:((gJ MF out).map (·.1)).Nodup:=((jh MF out).map _).nodup_iff.2 r;refine(c.and (List.pairwise_map.1 o)).imp_of_mem fun {a b} ha hb ⟨q,p⟩=>?_;rcases Int.lt_or_eq_of_le q with k|k
 .exact k
 .exact absurd ((nH.eq a.1 b.1 (d a (gY.1 ha)).1 (d b (gY.1 hb)).1).1 k) p
structure CnS (n:Nat) (y:St):Prop where
 fo:fV y.1
 co:bH y
 kc:VQ y.2
 vals:∀d∈bN y,KF n d
theorem RQ{n:Nat}(H:∀v u,iQ n v->cz n v=some u->iQ n u/\Ao n u){x:St}{y:St×Bool}(N:fV x.1)(G:bH x)(hk:∀d∈bN x,iQ n d.1/\iQ n d.2)(h:mQ (cz n) (dz n) x=some y):CnS n y.1:=by
 unfold mQ at h;obtain⟨fs,o,h⟩:=Option.bind_eq_some_iff.1 h;obtain⟨p,B,rfl⟩:=Option.map_eq_some_iff.1 h;have R:=iM o;have A:∀i (g:i<x.1.length) (m:i<fs.length),∃d,gD (cz n) (dz n) (x.1[i]).2=some d/\fs[i]=((x.1[i]).1,d):=fun i g m=>by
  have:=rH o i g m;unfold uJ at this;exact qcG
 have O:=iM B;have K:∀i (g:i<x.2.length) (m:i<p.length),∃d,gD (cz n) (dz n) (x.2[i]).2=some d/\p[i]=((x.2[i]).1,d):=fun i g m=>by
  have:=rH B i g m;unfold qf at this;exact qcG
 have C:fs.map (·.1)=x.1.map (·.1):=vF (by simp[R]) fun i a b=>by
  obtain⟨d,_,e⟩:=A i (by simpa using b) (by simpa using a);simp[e]
 have r:p.map (·.1)=x.2.map (·.1):=vF (by simp[O]) fun i a b=>by
  obtain⟨d,_,e⟩:=K i (by simpa using b) (by simpa using a);simp[e]
 have s:∀w,p.countP (fun k=>Sem k.1 w)=x.2.countP (fun k=>Sem k.1 w):=fun w=>by
  have:=congrArg (fun l:List aK=>l.countP fun t=>Sem t w) r;simpa [List.countP_map,Function.comp_def]using this
 have D:∀w:List UInt8,fs.countP (fun f=>f.1.1.data.toList==w)=x.1.countP (fun f=>f.1.1.data.toList==w):=fun w=>by
  have:=congrArg (fun l:List (ByteArray×Int)=>l.countP fun t=>t.1.data.toList==w) C;simpa [List.countP_map,Function.comp_def]using this
 have q:∀k∈p,cB k.1/\k.1≠[]:=fun k hk=>by
  have:k.1∈x.2.map (·.1):=by rw[<-r];exact yD.2 ⟨k,hk,rfl⟩
  obtain⟨L,g,m⟩:=yD.1 this;rw[<-m];exact G.sets L g
 have j:∀w,p.countP (fun k=>Sem k.1 w)<=1:=fun w=>by
  have:=G.once w;unfold Gv at this;rw[s];omega
 have M:=I9 p [] [] Mj q (by simpa using j);rw[xN]at M;have J:=I8 M (jh MF _);have F:fV fs:=by
  refine⟨fun f E=>?_,fun i hi=>?_⟩
  .obtain⟨i,hi,rfl⟩:=yX E;have c:i<x.1.length:=zo;obtain⟨d,_,e⟩:=A i c hi;have o:(fs[i]).1=(x.1[i]).1:=by rw[e]
   rw[o];exact N.fze (x.1[i]) (zF c)
  .have c:i+1<x.1.length:=zo;obtain⟨d,_,e⟩:=A i zo zo;obtain⟨T,_,S⟩:=A (i+1) c hi;have o:(fs[i]).1=(x.1[i]).1:=by rw[e]
   have B:(fs[i+1]).1=(x.1[i+1]).1:=by rw[S]
   rw[o,B];exact N.asc i c
 refine⟨F,⟨fun k hk=>J.sets k hk,fun w=>?_⟩,Uw M.sets (fun w=>by rw[M.cnt];exact j w) M.GU,fun d z=>?_⟩
 .have I:=G.once w;have g:=J.cnt w;unfold Gv at I⊢;rw[<-s,<-D,<-g]at I;exact I
 .rcases yP.1 z with z|z
  .obtain⟨f,g,rfl⟩:=yD.1 z;have g:f∈fs:=g;obtain⟨i,hi,rfl⟩:=yX g;have c:i<x.1.length:=zo;obtain⟨d,m,e⟩:=A i c hi;have o:(fs[i]).2=d:=by rw[e]
   rw[o];have:=hk _ (yP.2 (.inl (yD.2 ⟨_,zF c,rfl⟩)));exact Ad H this.1 this.2 m
  .obtain⟨k,g,rfl⟩:=yD.1 z;obtain⟨L,m,Q⟩:=J.vals k g;obtain⟨i,hi,rfl⟩:=yX m;have c:i<x.2.length:=zo;obtain⟨d,P,e⟩:=K i c hi;have o:(p[i]).2=d:=by rw[e]
   rw[<-Q,o];have:=hk _ (yP.2 (.inr (yD.2 ⟨_,zF c,rfl⟩)));exact Ad H this.1 this.2 P
theorem qV{α:Type}{l:List (α×Bool)}{x:α}(h:x∈bY l):(x,true)∈l:=by
 unfold bY at h;obtain⟨⟨y,b⟩,d,rfl⟩:=yD.1 h;obtain⟨c,a⟩:=xR.1 d;have a:b=true:=a;rw[<-a];exact c
theorem wT(n:Nat):iQ (n+1) fE/\Ao (n+1) fE:=by
 have hk:∀x:Vd,x ∉ fE.kids:=fun x h=>by simp[Vl.kids,fE,Vl.aN,Vl.aA]at h
 refine⟨⟨⟨fun _=>⟨rfl,rfl,rfl⟩,fun c h=>?_,fun c h=>?_,gI⟩,fun x a=>absurd a (hk x)⟩,⟨⟨fun x h=>?_,List.Pairwise.nil,fun x h=>?_,List.Pairwise.nil,fun c h=>?_⟩,fun x a=>absurd a (hk x)⟩⟩
 all_goals simp[fE,Vl.aN,Vl.aA]at h
theorem D9:∀(n:Nat) (v u:Vl),iQ n v->cz n v=some u->iQ n u/\Ao n u
 |0,_,_,h,_=>h.elim
 |n+1,v,u,hv,h=>by
  have r:=D9 n;rw[cz]at h
  split at h
  .rename_i m;cases h;obtain⟨h1,h2,t⟩:=hv.1.any m;have:v=fE:=Hr m h1 h2 t;rw[this];exact wT n
  rename_i m;obtain⟨ls,z,h⟩:=Option.bind_eq_some_iff.1 h;obtain⟨o,w,h⟩:=Option.map_eq_some_iff.1 h
  split at h
  .cases h;exact wT n
  cases h;have L:∀x∈bY ls,x.2.length<=1/\∀d∈aY x,KF n d:=fun x a=>by
   obtain⟨c,h1,h2⟩:=iL z (qV a);exact RU r (hv.1.rest c h1) (fun d b=>hv.2 d (eB h1 b)) h2
  have S:∀x∈bY o,CnS n x:=fun x a=>by
   obtain⟨c,h1,h2⟩:=iL w (qV a);exact RQ r (hv.1.st c h1).1 (hv.1.st c h1).2 (fun d b=>hv.2 d (eQ h1 b)) h2
  generalize bY ls=i at*
  generalize bY o=g at*
  have A:∀{p q:Vd},KF n p->KF n q->qi (dz n) p q->qi (dz n) q p->p=q:=fun hp hq h1 h2=>
   Prod.ext qjb qja
  have E:∀x∈i,∀y∈i,AV (dz n) x y->AV (dz n) y x->x=y:=fun x a y e h1 h2=>QG (L x a).1 (L y e).1 (fun p hp q hq=>A ((L x a).2 p hp) ((L y e).2 q hq)) h1 h2;have C:∀x∈g,∀y∈g,AJ (dz n) x y->AJ (dz n) y x->x=y:=fun x a y e h1 h2=>PS ⟨(S x a).fo,(S x a).co⟩ ⟨(S y e).fo,(S y e).co⟩ (S x a).kc (S y e).kc (fun p hp q hq=>A ((S x a).vals p hp) ((S y e).vals q hq)) h1 h2;have D:∀x∈i,AV (dz n) x x:=fun x a=>QF fun d b=>⟨((L x a).2 d b).s1.ht,((L x a).2 d b).s2.ht⟩;have B:∀x∈g,AJ (dz n) x x:=fun x a=>PR (S x a).co fun d b=>⟨((S x a).vals d b).s1.ht,((S x a).vals d b).s2.ht⟩;have l:∀{x},x∈(lu n v i g).aN->x∈oN (AV (dz n)) i:=fun h=>gY.1 h;have j:∀{x},x∈(lu n v i g).aA->x∈oN (AJ (dz n)) g:=fun h=>gY.1 h;have kid:∀d∈(lu n v i g).kids,KF n d:=fun d b=>by
   rcases yP.1 b with b|b
   .obtain⟨c,h1,h2⟩:=xW.1 b;exact(L c (fU (l h1))).2 d h2
   .obtain⟨c,h1,h2⟩:=xW.1 b;exact(S c (fU (j h1))).vals d h2
  refine⟨⟨⟨fun h=>by simp[lu,Vl.any]at h,fun c h=>(L c (fU (l h))).1,fun c h=>⟨(S c (fU (j h))).fo,(S c (fU (j h))).co⟩,hv.1.sc⟩,fun x a=>⟨(kid x a).s1,(kid x a).s2⟩⟩,
   ⟨⟨fun x a y e h=>((Qs E).1 (l a)).2 y (fU (l e)) h,?_,fun x a y e h=>((Qs C).1 (j a)).2 y (fU (j e)) h,?_,fun c h=>(S c (fU (j h))).kc⟩,fun x a=>⟨(kid x a).c1,(kid x a).c2⟩⟩⟩
  .exact uY (GQ (vT n)) (fun x a=>⟨(L x (fU a)).1,fun y e=>⟨((L x (fU a)).2 y e).s1,((L x (fU a)).2 y e).s2⟩⟩) (vz D)
  .refine uY (GJ (vT n)) (fun x a=>⟨fun f s=>?_,fun k hk=>⟨((S x (fU a)).co.sets k hk).1,?_⟩⟩) (vz B)
   .have:=(S x (fU a)).vals f.2 (yP.2 (.inl (yD.2 ⟨f,s,rfl⟩)));exact⟨this.s1,this.s2⟩
   .have:=(S x (fU a)).vals k.2 (yP.2 (.inr (yD.2 ⟨k,hk,rfl⟩)));exact⟨this.s1,this.s2⟩
end Cl
namespace Cl
theorem uB{α:Type}{f:α->Option α}:∀{l:List α},(∀x∈l,f x=some x)->gQ f l=some l
 |[],_=>rfl
 |x::l,h=>by rw[gQ,h x zS,uB fun y hy=>h y qei];rfl
theorem Om{α β:Type}{f:α->Option β}{g:α->β}:∀{l:List α},(∀x∈l,f x=some (g x))->gQ f l=some (l.map g)
 |[],_=>rfl
 |x::l,h=>by rw[gQ,h x zS,Om fun y hy=>h y qei];rfl
theorem Io{α:Type}{c:α->α->Int}:∀{l:List α},(l.Pairwise fun x y=>c x y<0)->gJ c l=l
 |[],_=>rfl
 |x::l,h=>by
  rw[yS]at h;rw[gJ,Io h.2]
  cases l with
  |nil=>rfl
  |cons y l=>
   have:=h.1 y zS;rw[DN,zK zo]
theorem Ml{α:Type}{R:α->α->Prop}{l:List α}(d:l.Nodup)(h:∀x∈l,∀y∈l,R x y->x=y):oN R l=l:=by
 have g:∀n,n<=l.length->iy R l n=l.take n:=by
  intro n
  induction n with
  |zero=>intro _;rfl
  |succ n ih=>
   intro f;have b:n<l.length:=f;rw[zH b,uA b,ih zo];intro k hk hi a c;exact absurd ((List.getElem_inj d).1 (h _ (zF hi) _ (zF hk) c)) (fun e=>a e.symm)
 have:=g _ (zI _)
 rwa [yG]at this
theorem Jv:∀(a out:List Kl),((out++a).map (·.2)).Nodup->a.foldl lW out=out++a
 |[],out,_=>by simp
 |k::a,out,h=>by
  have e:lW out k=out++[k]:=by
   unfold lW;have:out.findIdx? (fun x=>tf (x.2=k.2))=none:=List.findIdx?_eq_none_iff.2 fun x b=>by
    refine aF fun e=>?_;rw[yI,List.nodup_append]at h;exact h.2.2 _ (yD.2 ⟨x,b,rfl⟩) _ (yD.2 ⟨k,zS,rfl⟩) e
   rw[this]
  rw[List.foldl_cons,e,Jv a _ qd9];simp
structure gzC (n:Nat) (d:Vd):Prop where
 c:KF n d
 f1:cz n d.1=some d.1
 f2:cz n d.2=some d.2
theorem gzC.self{n:Nat}{d:Vd}(h:gzC n d):gD (cz n) (dz n) d=some d:=by
 unfold gD;rw[h.f1,h.f2];show(if tf (dz n d.2 d.1)=true then some (d.1,d.2)else none)=some d;rw[zK (aM h.c.le)]
structure bD (d:Vd):Prop where
 s1:jR d.1
 s2:jR d.2
 can:gD (cz 16) (dz 16) d=some d
theorem A9{n:Nat}{d e:Vd}(h:gD (cz n) (dz n) d=some e):cz n d.1=some e.1/\cz n d.2=some e.2/\dz n e.2 e.1:=by
 unfold gD at h;obtain⟨a,g,h⟩:=Option.bind_eq_some_iff.1 h;obtain⟨b,f,h⟩:=Option.bind_eq_some_iff.1 h
 split at h
 .rename_i c;cases h;exact⟨g,f,kF.1 c⟩
 .cases h
theorem uH{n:Nat}{d e:Vd}(c:cz n d.1=some e.1)(b:cz n d.2=some e.2)(a:dz n e.2 e.1):gD (cz n) (dz n) d=some e:=by
 unfold gD;rw[c,b];show(if tf (dz n e.2 e.1)=true then some (e.1,e.2)else none)=some e;rw[zK (aM a)]
theorem dzU(n:Nat):cz (n+1) dB=some dB:=by
 have ev:¬OG (lu n dB (bY []) (bY [])):=by
  exact qht
 rw[cz,zJ (by simp[dB,Vl.any])];show some (if tf (OG (lu n dB (bY []) (bY [])))=true then fE else lu n dB (bY []) (bY []))=some dB;rw[zJ qig]
 rfl
theorem dzT(n:Nat):iQ (n+1) dB:=
 ⟨⟨fun h=>by simp[dB,Vl.any]at h,fun c h=>by simp[dB,Vl.aN]at h,fun c h=>by simp[dB,Vl.aA]at h,gI⟩,fun x a=>by simp[Vl.kids,dB,Vl.aN,Vl.aA]at a⟩
theorem bz9(n:Nat)(v:Vl):dz (n+1) dB v:=by
 rw[dz]
 split
 .rename_i h;exact h.elim (fun h=>by simp[dB,Vl.any]at h) id
 .exact .inr ⟨fun e b=>absurd b (vQ e),fun x a=>by simp[dB,Vl.aN]at a,fun x a=>by simp[dB,Vl.aA]at a⟩
theorem Ow(n:Nat)(v:Vl):dz (n+1) v fE:=by
 rw[dz,zK (.inr rfl)];rfl
theorem fzu{n:Nat}{v:Vl}(k:v.s.iG):dz (n+1) v dB↔ja v=true:=by
 have j:dB.any=false:=rfl;rw[dz];unfold ja;by_cases d:v.any=true
 .rw[zK (.inl d),d,j];simp
 .have g:v.any=false:=by simpa using d
  rw[zJ (fun h=>h.elim d (by rw[j];simp)),g];simp only[Bool.not_false,Bool.true_and,xG,decide_eq_true_eq];have m:mZ v.s=true↔∀e,¬v.s.has e:=by unfold mZ;rw[kF,bzg k]
  rw[m];constructor
  .rintro(rfl|⟨c,b,i⟩)
   .exact⟨⟨rfl,rfl⟩,fun e=>vQ e⟩
   .refine⟨⟨?_,?_⟩,fun e h=>vQ e (c e h)⟩
    .cases h:v.aN with
     |nil=>rfl
     |cons x l=>obtain⟨y,f,_⟩:=b x (by rw[h];simp);simp[dB,Vl.aN]at f
    .cases h:v.aA with
     |nil=>rfl
     |cons x l=>obtain⟨y,f,_⟩:=i x (by rw[h];simp);simp[dB,Vl.aA]at f
  .rintro⟨⟨c,b⟩,i⟩;have c:=yM c;have b:=yM b;exact .inr ⟨fun e h=>absurd h (i e),fun x a=>by rw[c]at a;simp at a,fun x a=>by rw[b]at a;simp at a⟩
end Cl
namespace Cl
open Go Go.RowKit Go.Proofs
theorem Ru(u:Nat):∀c∈Lib.decDigits u,c≠45:=by
 induction u using Nat.strongRecOn with
 |_ u ih=>
  have a:∀k,k<10->UInt8.ofNat (48+k)≠45:=fun k hk e=>by
   have:(UInt8.ofNat (48+k)).toNat=48+k:=by simp;omega
   rw[e]at this;have f:(45:UInt8).toNat=45:=rfl;omega
  intro c b;by_cases h:u<10
  .rw[Lib.decDigits,dif_pos h]at b;simp only[zZ]at b;subst b;exact a u h
  .rw[Lib.decDigits,dif_neg h]at b;rcases yP.1 b with d|d
   .exact ih (u/10) zo c d
   .simp only[zZ]at d;subst d;exact a _ zo
theorem itoa_inj'{x y:Int}(h:Lib.itoa x=Lib.itoa y):x=y:=by
 unfold Lib.itoa at h
 split at h<;>split at h
 .simp only[List.cons.injEq,true_and]at h;exact qh7
 .exact absurd rfl (Ru y.toNat 45 (by rw[<-h];simp))
 .exact absurd rfl (Ru x.toNat 45 (by rw[h];simp))
 .exact qh7
theorem ML(x:Int):∀c∈Lib.itoa x,c≠44:=by
 unfold Lib.itoa
 split
 .intro c a;rcases yA.1 a with rfl|a
  .decide
  .exact(rT _).2 c a
 .exact(rT _).2
theorem txt_inj':∀(l a:List Int),txt l=txt a->l=a
 |[],[],_=>rfl
 |[],x::a,h=>by simp[txt]at h
 |x::l,[],h=>by simp[txt]at h
 |x::l,y::a,h=>by
  have h:Lib.itoa x++txt l=Lib.itoa y++txt a:=by simpa [txt]using h
  obtain⟨c,b⟩:=Wh _ _ _ _ (ML x) (ML y) (De l) (De a) h;rw[itoa_inj' c,txt_inj' l a b]
def Ep(cs:List fF)(seen:List (List Int))(v:List Int):Prop:=pK cs v=1/\∀b<256,iI cs v b∈seen
structure CJ (cs:List fF) (seen todo:List (List Int)) (P:List Int->Prop):Prop where
 nodup:seen.Nodup
 reach:∀v∈seen,lX cs v
 start:eY cs∈seen
 sub:∀v∈todo,v∈seen
 done:∀v∈seen,v∈todo\/P v\/Ep cs seen v
theorem Ep.mono{cs:List fF}{seen a:List (List Int)}{v:List Int}(h:Ep cs seen v)(k:∀x∈seen,x∈a):Ep cs a v:=⟨h.1,fun b c=>k _ (h.2 b c)⟩
theorem CJ.first(cs:List fF):CJ cs [eY cs] [eY cs] (fun _=>False) where
 nodup:=by simp
 reach v hv:=by rw[zZ.1 hv];exact .start cs
 start:=by simp
 sub v hv:=hv
 done v hv:=.inl hv
theorem CJ.take{cs:List fF}{seen a todo':List (List Int)}{v:List Int}(h:CJ cs seen a (fun _=>False))(ht:∀x,x∈a↔x∈todo'\/x=v):CJ cs seen todo' (fun x=>x=v)/\v∈seen:=
 ⟨⟨h.nodup,h.reach,h.start,fun x b=>h.sub x ((ht x).2 (.inl b)),fun x b=>by
  rcases h.done x b with k|k|k
  .exact((ht x).1 k).elim .inl fun e=>.inr (.inl e)
  .exact k.elim
  .exact .inr (.inr k)⟩,h.sub v ((ht v).2 (.inr rfl))⟩
theorem CJ.push{cs:List fF}{seen c:List (List Int)}{P:List Int->Prop}(h:CJ cs seen c P){x:List Int}(g:lX cs x)(hx:x ∉ seen):CJ cs (seen++[x]) (c++[x]) P where
 nodup:=by
  exact qbY
 reach v hv:=(yP.1 hv).elim (h.reach v) fun k=>by rw[zZ.1 k];exact g
 start:=xI _ h.start
 sub v hv:=(yP.1 hv).elim (fun k=>xI _ (h.sub v k)) fun k=>xS _ k
 done v hv:=(yP.1 hv).elim (fun k=>(h.done v k).elim (fun j=>.inl (xI _ j)) fun j=>.inr (j.imp id fun d=>d.mono fun y f=>xI _ f)) fun k=>.inl (xS _ k)
theorem CJ.close{cs:List fF}{seen a:List (List Int)}{v:List Int}(h:CJ cs seen a (fun x=>x=v))(d:Ep cs seen v):CJ cs seen a (fun _=>False):=
 ⟨h.nodup,h.reach,h.start,h.sub,fun x b=>(h.done x b).imp id fun k=>.inr (k.elim (fun e=>by rw[e];exact d) id)⟩
theorem CJ.once{cs:List fF}{seen:List (List Int)}(h:CJ cs seen [] (fun _=>False)):Gi cs:=by
 have hd:∀v∈seen,Ep cs seen v:=fun v hv=>by
  rcases h.done v hv with k|k|k
  .simp at k
  .exact k.elim
  .exact k
 exact qhu
theorem BK.iZ{cs:List fF}(b:∀c∈cs,c.n<=1000):∀{v:List Int},BK cs v->∀x∈v,-1<=x/\x<1000:=by
 intro v h x a;obtain⟨i,hi,rfl⟩:=yX a;have d:=h.len;have:=h.get i zo hi;have e:=b cs[i] (zF zo);omega
theorem YO{c:St}(e:∀f∈c.1,f.1.1.size<=40)(d:∀k∈c.2,Kr k.1):∀x∈dW c,x.n<=1000:=by
 intro x a;rcases yP.1 a with a|a
 .obtain⟨k,hk,rfl⟩:=yD.1 a;have:=(d k hk).2;show k.1.length<=1000;omega
 .obtain⟨f,b,rfl⟩:=yD.1 a;have:=e f b;exact qcd
def vW(f:Lit->Bool)(seen:List (List Int)):Prop:=∀l:List Int,f (.string (txt l))=true↔l∈seen
theorem vW.put{f:Lit->Bool}{seen:List (List Int)}(h:vW f seen)(x:List Int):vW (Zi f (.string (txt x)) true) (seen++[x]):=fun l=>by
 by_cases e:l=x
 .subst e;rw[Nk];simp
 .rw[Ka f true (fun h=>e (txt_inj' l x (by injection h)))];rw[h l];simp[e]
theorem vW.none:vW (fun _=>false) []:=fun l=>by simp
theorem azT{α:Type}{l:List α}{v x:α}:x∈l++[v]↔x∈l\/x=v:=by simp
end Cl
namespace Cl
def Xd(c:St):Prop:=∀l:List (List Int),l.Nodup->(∀v∈l,lX (dW c) v)->l.length<=1400000000
structure ZA (c:St):Prop where
 f:c.1.length<=6
 k:c.2.length<=6
 comp:∀x∈dW c,x.n<=1000
 set:∀k∈c.2,k.1.length<=729
 seen:(∀k∈c.2,cB k.1/\k.1≠[])->Xd c
structure dz2 (v:Vl):Prop where
 i:v.s.i.length<=8
 fr:v.s.f.length<=8
 t:v.s.t.length<=8
 l:v.aN.length<=8
 s:v.aA.length<=8
 st:∀c∈v.aA,ZA c
def oq:Nat->Vl->Prop
 |0,_=>False
 |n+1,v=>dz2 v/\∀x∈v.kids,oq n x.1/\oq n x.2
theorem oq.ht:∀{n:Nat} {v:Vl},oq n v->Ht n v
 |0,_,h=>h.elim
 |_+1,_,h=>fun x a=>⟨(h.2 x a).1.ht,(h.2 x a).2.ht⟩
theorem oq.succ:∀{n:Nat} {v:Vl},oq n v->oq (n+1) v
 |0,_,h=>h.elim
 |_+1,_,h=>⟨h.1,fun x a=>⟨(h.2 x a).1.succ,(h.2 x a).2.succ⟩⟩
theorem oq.mono{n m:Nat}{v:Vl}(h:oq n v)(k:n<=m):oq m v:=by
 induction k with
 |refl=>exact h
 |step _ ih=>exact ih.succ
theorem fzO.fit{v:Vl}(h:fzO v):dz2 v where
 i:=h.sc.1
 fr:=h.sc.2.1
 t:=h.sc.2.2.2
 l:=yJ h.l zo
 s:=yJ h.s zo
 st c hc:=⟨h.f c hc,h.k c hc,YO (h.lab c hc) (h.set c hc),fun k hk=>by have:=(h.set c hc k hk).2;omega,fun a l b d=>bzy a (h.f c hc) (h.k c hc) (h.lab c hc) (h.set c hc) b d⟩
theorem Eo.fit:∀{n:Nat} {v:Vl},Eo n v->oq n v
 |0,_,h=>h.elim
 |_+1,_,h=>⟨h.1.fit,fun x a=>⟨(h.2 x a).1.fit,(h.2 x a).2.fit⟩⟩
theorem dzy(n:Nat)(a:Bool):oq (n+1) (.mk a cK [] []):=(dzz n a).fit
end Cl
namespace Cl
structure uK (ks out:List Kl):Prop where
 FW:Merge ks out
 Ir:∀k∈out,∀w,Sem k.1 w=true↔∃x∈ks,x.2=k.2/\Sem x.1 w=true
 all:∀x∈ks,∃k∈out,k.2=x.2
theorem Xu{m out:List Kl}{k:Kl}(h:uK m out)(hk:cB k.1/\k.1≠[])(u:∀w,(m++[k]).countP (fun k=>Sem k.1 w)<=1):uK (m++[k]) (lW out k):=by
 refine⟨Mk h.FW hk u fun A B D v=>azD (fun x y=>x||y) D v,?_,?_⟩
 .unfold lW
  split
  .rename_i e;have q:∀x∈out,x.2≠k.2:=fun x hx hh=>by
    exact qhO
   intro y d w;rcases yP.1 d with d|d
   .rw[h.Ir y d w];constructor
    .rintro⟨x,a,b⟩;exact⟨x,yP.2 (.inl a),b⟩
    .rintro⟨x,a,b,c⟩;rcases yP.1 a with a|a
     .exact⟨x,a,b,c⟩
     .rw[zZ.1 a]at b;exact absurd b.symm (q y d)
   .rw[zZ.1 d];constructor
    .intro a;exact⟨k,zS,rfl,a⟩
    .rintro⟨x,a,b,c⟩;rcases yP.1 a with a|a
     .obtain⟨z,p,E⟩:=h.all x a;exact absurd (E.trans b) (q z p)
     .rw[<-zZ.1 a];exact c
  .rename_i i e;obtain⟨hi,a,_⟩:=List.findIdx?_eq_some_iff_getElem.1 e;have g:out[i].2=k.2:=kF.1 a;have t:out.getD i k=out[i]:=by simp[hi]
   rw[t];obtain⟨C,o⟩:=azD (fun x y=>x||y) (h.FW.sets _ (zF hi)).1 hk.1;have F:orT out[i].1 k.1=C:=Jl o;rw[F];have s:∀w,Sem C w=(Sem out[i].1 w||Sem k.1 w):=fun w=>by rw[dn o.canon];exact o.qw w
   have r:=h.FW.GU;intro y d w;obtain⟨j,hj,rfl⟩:=yX d;have f:j<out.length:=by simpa using hj
   rw[List.getElem_set]
   split
   .rename_i e;subst e;simp only[s,Bool.or_eq_true];rw[h.Ir _ (zF hi) w,g];constructor
    .rintro(⟨x,a,b⟩|a)
     .exact⟨x,yP.2 (.inl a),b⟩
     .exact⟨k,zS,rfl,a⟩
    .rintro⟨x,a,b,c⟩;rcases yP.1 a with a|a
     .exact .inl ⟨x,a,b,c⟩
     .rw[<-zZ.1 a];exact .inr c
   .rename_i n;rw[h.Ir _ (zF f) w];constructor
    .rintro⟨x,a,b⟩;exact⟨x,yP.2 (.inl a),b⟩
    .rintro⟨x,a,b,c⟩;rcases yP.1 a with a|a
     .exact⟨x,a,b,c⟩
     .rw[zZ.1 a]at b;have b:=g.trans b;have b:(out.map (·.2))[i]'qef=(out.map (·.2))[j]'(by simpa using f):=by simpa using b
      exact absurd ((List.getElem_inj r).1 b) n
 .unfold lW
  split
  .intro x hx;rcases yP.1 hx with hx|hx
   .obtain⟨z,a,b⟩:=h.all x hx;exact⟨z,yP.2 (.inl a),b⟩
   .exact⟨k,zS,by rw[zZ.1 hx]⟩
  .rename_i i e;obtain⟨hi,a,_⟩:=List.findIdx?_eq_some_iff_getElem.1 e;have g:out[i].2=k.2:=kF.1 a;have new:∃z∈out.set i (orT (out.getD i k).1 k.1,k.2),z.2=k.2:=⟨_,List.mem_set hi _,rfl⟩;intro x hx;rcases yP.1 hx with hx|hx
   .obtain⟨z,a,b⟩:=h.all x hx;obtain⟨j,hj,rfl⟩:=yX a;by_cases e:i=j
    .subst e;obtain⟨z,c,p⟩:=new;exact⟨z,c,p.trans (g.symm.trans b)⟩
    .exact⟨_,zF (l:=out.set i _) qdU,by rw[List.getElem_set_ne e];exact b⟩
   .rw[zZ.1 hx];exact new
theorem BU:∀(ks done out:List Kl),uK done out->(∀k∈ks,cB k.1/\k.1≠[])->(∀w,(done++ks).countP (fun k=>Sem k.1 w)<=1)->uK (done++ks) (ks.foldl lW out)
 |[],done,out,h,_,_=>by simpa using h
 |k::ks,done,out,h,hk,hc=>by
  rw[List.foldl_cons,show done++k::ks=(done++[k])++ks by simp];refine BU ks _ _ (Xu h (hk k zS) fun w=>?_) (fun x hx=>hk x qd8) fun w=>by have:=hc w;rwa [show done++k::ks=(done++[k])++ks by simp]at this
  exact qcb
theorem LF:uK [] []:=⟨Mj,zS,zS⟩
theorem Tf{b out a:List Kl}(h:uK b out)(p:a.Perm out):uK b a:=
 ⟨I8 h.FW p,fun k hk=>h.Ir k (p.mem_iff.1 hk),fun x c=>by obtain⟨k,e,d⟩:=h.all x c;exact⟨k,p.mem_iff.2 e,d⟩⟩
theorem rP(l:aK):∀(w u:List UInt8) (i:Int),aH l i (w++u)=aH l ((lq l).from i w) u
 |[],_,_=>rfl
 |_::w,u,_=>rP l w u _
theorem aze{l:aK}(h:cB l)(d:l≠[]){w w':List UInt8}(e:∀u,aH l 0 (w++u)=aH l 0 (w'++u)):(lq l).from 0 w=(lq l).from 0 w':=by
 have r:∀w,-1<=(lq l).from 0 w/\(lq l).from 0 w<(l.length:Int):=fun w=>by
  have c:=BK.reach (cs:=[lq l]) (by simpa using Ay h d) ⟨w,rfl⟩;rw[eY,jf]at c;exact c.1
 have c:=r w;have k:=r w';have g:∀u,aH l ((lq l).from 0 w) u=aH l ((lq l).from 0 w') u:=fun u=>by rw[<-rP,<-rP];exact e u
 generalize (lq l).from 0 w=i at*
 generalize (lq l).from 0 w'=j at*
 have a:∀i:Int,0<=i->i<l.length->∃u,aH l i u=true:=fun i m c=>by
  obtain⟨u,b⟩:=h.live i.toNat zo;rw[Int.toNat_of_nonneg m]at b;exact⟨u,b⟩
 by_cases hi:0<=i
 .by_cases f:0<=j
  .have:=h.dzG i.toNat j.toNat zo zo fun u=>by rw[Int.toNat_of_nonneg hi,Int.toNat_of_nonneg f];exact g u
   omega
  .obtain⟨u,b⟩:=a i hi c.2;rw[g u,eU zo]at b;cases b
 .by_cases f:0<=j
  .obtain⟨u,b⟩:=a j f k.2;rw[<-g u,eU zo]at b;cases b
  .omega
section
variable {c:St} {out:List Kl}
theorem Wi(a:∀k∈c.2,cB k.1/\k.1≠[]){w w':List UInt8}(e:sW (dW c) (eY (dW c)) w=sW (dW c) (eY (dW c)) w'){k:Kl}(hk:k∈c.2)(u:List UInt8):Sem k.1 (w++u)=Sem k.1 (w'++u):=by
 rw[eY,jf,jf]at e;have b:=List.map_inj_left.1 e (lq k.1) (yP.2 (.inl (yD.2 ⟨k,hk,rfl⟩)));rw[dn (a k hk).1,dn (a k hk).1,rP,rP,b]
theorem Xr(g:∀k∈c.2,cB k.1/\k.1≠[])(h:uK c.2 out){w w':List UInt8}(e:sW (dW c) (eY (dW c)) w=sW (dW c) (eY (dW c)) w'):
 sW (dW (c.1,out)) (eY (dW (c.1,out))) w=sW (dW (c.1,out)) (eY (dW (c.1,out))) w':=by
 have i:=e;rw[eY,jf,jf]at i;rw[eY,jf,jf];refine List.map_inj_left.2 fun x a=>?_;rcases yP.1 a with a|a
 .obtain⟨k,hk,rfl⟩:=yD.1 a;have hk:k∈out:=hk;refine aze (h.FW.sets k hk).1 (h.FW.sets k hk).2 fun u=>?_;rw[<-dn (h.FW.sets k hk).1,<-dn (h.FW.sets k hk).1,Bool.eq_iff_iff,h.Ir k hk,h.Ir k hk];constructor
  .rintro⟨x,b,f,d⟩;exact⟨x,b,f,by rw[<-Wi g e b];exact d⟩
  .rintro⟨x,b,f,d⟩;exact⟨x,b,f,by rw[Wi g e b];exact d⟩
 .exact List.map_inj_left.1 i x (yP.2 (.inr a))
theorem Tv(i:∀k∈c.2,cB k.1/\k.1≠[])(h:uK c.2 out)(n:Xd c):Xd (c.1,out):=by
 intro l j m;obtain⟨g,f⟩:∃g:List Int->List UInt8,∀v∈l,v=sW (dW (c.1,out)) (eY (dW (c.1,out))) (g v):=⟨fun v=>Classical.epsilon fun w=>v=sW (dW (c.1,out)) (eY (dW (c.1,out))) w,fun v d=>Classical.epsilon_spec (m v d)⟩;have o:=n (l.map fun v=>sW (dW c) (eY (dW c)) (g v)) (List.pairwise_map.2 (j.imp_of_mem fun {a b} ha hb hab e=>hab (by rw[f a ha,f b hb];exact Xr i h e))) fun v d=>by
  obtain⟨u,_,rfl⟩:=yD.1 d;exact⟨_,rfl⟩
 simpa using o
theorem Ey(n:bH c)(h:uK c.2 out)(t:c.2.length<=4)(h8:∀k∈c.2,k.1.length<=8)(f4:c.1.length<=4)(p:∀f∈c.1,f.1.1.size<=60){k:Kl}(hk:k∈out):k.1.length<=729:=by
 have r:=kD (h.FW.sets k hk).1;have j:=(h.FW.sets k hk).2;by_cases z:(c.2.filter fun x=>tf (x.2=k.2)).length<=3
 .have B:∀x∈(c.2.filter fun x=>tf (x.2=k.2)).map (fun x=>lq x.1),x.Ok:=fun x hx=>by
   obtain⟨y,a,rfl⟩:=yD.1 hx;have:=n.sets y (xR.1 a).1;exact Ay this.1 this.2
  have a:=EB r j (fun w=>sW ((c.2.filter fun x=>tf (x.2=k.2)).map fun x=>lq x.1) (eY _) w) (NF ((c.2.filter fun x=>tf (x.2=k.2)).map fun x=>lq x.1)) (fun w=>yg (BK.reach B ⟨w,rfl⟩)) fun w w' e u=>by
   rw[eY,jf,jf]at e;have e:=List.map_inj_left.1 e;rw[Bool.eq_iff_iff,h.Ir k hk,h.Ir k hk];have m:∀{w w'},(∀x∈(c.2.filter fun x=>tf (x.2=k.2)).map (fun x=>lq x.1),x.from 0 w=x.from 0 w')->(∃x∈c.2,x.2=k.2/\Sem x.1 (w++u)=true)->∃x∈c.2,x.2=k.2/\Sem x.1 (w'++u)=true:=by
    rintro w w' e ⟨x,a,b,h3⟩;refine⟨x,a,b,?_⟩;have:=e (lq x.1) (yD.2 ⟨x,xR.2 ⟨a,aM b⟩,rfl⟩);rw[dn (n.sets x a).1,rP]at h3⊢;rw[<-this];exact h3
   exact⟨m e,m fun x hx=>(e x hx).symm⟩
  rw[wP]at a;have b:=qZ (k:=9) (cs:=(c.2.filter fun x=>tf (x.2=k.2)).map fun x=>lq x.1) fun x hx=>by
   exact qcw
  rw[xC]at b;have h3:=Nat.pow_le_pow_right (show 0<9 by omega) z;have:9 ^ 3=729:=by decide
  omega
 ·
  have l:∀x∈c.2,x.2=k.2:=by
   have a:=vB (fun x:Kl=>tf (x.2=k.2)) c.2;have b:(c.2.filter fun x=>tf (x.2=k.2)).length=c.2.length:=zo;intro x hx;have:=List.length_filter_eq_length_iff.1 b x hx;exact kF.1 this
  have d:∀w,Sem k.1 w=true↔∀f∈c.1,f.1.1.data.toList≠w:=fun w=>by
   rw[h.Ir k hk];have A:=n.once w;unfold Gv at A;constructor
   .rintro⟨x,a,_,h3⟩ f g e;have t:0<c.2.countP (fun k=>Sem k.1 w):=List.countP_pos_iff.2 ⟨x,a,h3⟩;have s:0<c.1.countP (fun f=>f.1.1.data.toList==w):=List.countP_pos_iff.2 ⟨f,g,by simp[e]⟩;omega
   .intro a;have s:c.1.countP (fun f=>f.1.1.data.toList==w)=0:=List.countP_eq_zero.2 fun f g=>by simp[a f g]
    obtain⟨x,o,C⟩:=List.countP_pos_iff.1 (show 0<c.2.countP (fun k=>Sem k.1 w)by omega);exact⟨x,o,l x o,C⟩
  have a:=EB r j (fun w=>if tf (∃f∈c.1,w <+: f.1.1.data.toList)=true then some w else none)
   (none::c.1.flatMap fun f=>(List.range 61).map fun i=>some (f.1.1.data.toList.take i)) (fun w=>by
    show(if tf (∃f∈c.1,w <+: f.1.1.data.toList)=true then some w else none)∈_
    split
    .rename_i e;obtain⟨f,b,h3⟩:=kF.1 e;have t:=h3.length_le;have s:=p f b;have o:f.1.1.data.toList.length=f.1.1.size:=Array.length_toList;exact zU _ (xW.2 ⟨f,b,yD.2 ⟨w.length,yQ.2 zo,congrArg some (List.prefix_iff_eq_take.1 h3).symm⟩⟩)
    .exact yF) fun w w' e u=>by
   rw[Bool.eq_iff_iff,d,d];have m:∀{w w':List UInt8},(if tf (∃f∈c.1,w <+: f.1.1.data.toList)=true then some w else none)=(if tf (∃f∈c.1,w' <+: f.1.1.data.toList)=true then some w' else none)->(∀f∈c.1,f.1.1.data.toList≠w++u)->∀f∈c.1,f.1.1.data.toList≠w'++u:=by
    intro w w' e v f g q;have b:tf (∃f∈c.1,w' <+: f.1.1.data.toList)=true:=aM ⟨f,g,by rw[q];exact List.prefix_append _ _⟩;rw[zK b]at e
    split at e
    .cases e;exact v f g q
    .cases e
   exact⟨m e,m e.symm⟩
  have b:(c.1.flatMap fun f=>(List.range 61).map fun i=>some (f.1.1.data.toList.take i)).length=c.1.length*61:=zm _ 61 _ fun x _=>by rw[xC,List.length_range]
  rw[yO,b]at a;have:=Nat.mul_le_mul_right 61 f4;omega
end
end Cl
namespace Cl
def Wy(s:RS):Nat->Vl
 |0=>.mk false s [] []
 |k+1=>.mk false cK [([(Wy s k,dB)],[])] []
theorem azN{s:RS}(a:s.iG){e:El}(b:s.has e):∀k,ja (Wy s k)=false
 |0=>by
  have:mZ s=false:=by unfold mZ;exact aF fun h=>h e (by rw[bzg a];exact b)
  simp[ja,Wy,Vl.any,Vl.aN,Vl.aA,Vl.s,this]
 |k+1=>by simp[ja,Wy,Vl.aN]
end Cl
namespace Cl
def Cj(a b:Vd):Prop:=qi (dz 16) a b
theorem bD.ht{d:Vd}(h:bD d):Ht 16 d.1/\Ht 16 d.2:=⟨h.s1.ht,h.s2.ht⟩
theorem FK{v:Vl}(s:jR v)(c:cz 16 v=some v):bD (v,v):=⟨s,s,uH c c (jm s.ht)⟩
theorem mX{v:Vl}(s:jR v)(c:cz 16 v=some v):bD (v,dB):=⟨s,dzT 15,uH c (dzU 15) (bz9 15 v)⟩
theorem bD.gzp{d:Vd}(h:bD d):bD (d.1,dB):=mX h.s1 (A9 h.can).1
theorem XB:bD (fE,fE):=FK (wT 15).1 (by rw[cz,zK (show fE.any=true from rfl)])
noncomputable def pX(d:Vd):Option Vd:=if tf (jR d.1/\jR d.2)=true then gD (cz 16) (dz 16) d else none
theorem Qx{d e:Vd}(h:pX d=some e):jR d.1/\jR d.2/\gD (cz 16) (dz 16) d=some e:=by
 unfold pX at h
 split at h
 .rename_i k;have:=kF.1 k;exact⟨this.1,this.2,h⟩
 .cases h
theorem ug(d:Vd):bD d↔pX d=some d:=by
 constructor
 .intro h;unfold pX;rw[zK (aM ⟨h.s1,h.s2⟩)];exact h.can
 .intro h;have:=Qx h;exact⟨this.1,this.2.1,this.2.2⟩
theorem Yr{d e:Vd}(h:pX d=some e)(k:bD d):e=d:=by
 rw[(ug d).1 k]at h;exact(Option.some.inj h).symm
theorem az9{d:Vd}(h:pX d=none):¬bD d:=fun k=>by rw[(ug d).1 k]at h;cases h
theorem mM(n:Nat)(s:RS):cz (n+1) (.mk false s [] [])=some (.mk false s [] []):=by
 have ev:¬OG (lu n (.mk false s [] []) (bY []) (bY [])):=by
  exact qht
 rw[cz,zJ (by simp[Vl.any])];show some (if tf (OG (lu n (.mk false s [] []) (bY []) (bY [])))=true then fE else lu n (.mk false s [] []) (bY []) (bY []))=_;rw[zJ qig]
 rfl
theorem ji{s:RS}(b:s.iG)(n:Nat):iQ (n+1) (.mk false s [] []):=
 ⟨⟨fun h=>by simp[Vl.any]at h,fun c h=>by simp[Vl.aN]at h,fun c h=>by simp[Vl.aA]at h,b⟩,fun x a=>by simp[Vl.kids,Vl.aN,Vl.aA]at a⟩
theorem GK{s t:RS}(n:Nat):dz (n+1) (.mk false s [] []) (.mk false t [] [])↔∀e,s.has e->t.has e:=by
 rw[dz,zJ (by simp[Vl.any])];constructor
 .rintro(h|h)
  .injection h with _ h;rw[h];exact fun _ h=>h
  .exact h.1
 .intro h;exact .inr ⟨h,fun x a=>by simp[Vl.aN]at a,fun x a=>by simp[Vl.aA]at a⟩
end Cl
namespace Cl
structure Vs where
 n:Int
 d:Int
 b:Bool
noncomputable def ma:Nat->Nat->Vl->Vs->Vs
 |0,lv,_,a=>⟨a.n+1,max a.d lv,true⟩
 |f+1,lv,v,a=>if tf (su v)then v.kids.foldl (fun a x=>ma f (lv+1) x.2 (ma f (lv+1) x.1 a)) ⟨a.n+1,max a.d lv,a.b⟩else⟨a.n+1,max a.d lv,true⟩
noncomputable def wL(f lv:Nat)(l:List Vd)(a:Vs):Vs:=l.foldl (fun a x=>ma f (lv+1) x.2 (ma f (lv+1) x.1 a)) a
theorem Av{f lv:Nat}{v:Vl}{a:Vs}(h:su v):ma (f+1) lv v a=wL f lv v.kids ⟨a.n+1,max a.d lv,a.b⟩:=by rw[ma,aM h];rfl
theorem CY{f lv:Nat}{v:Vl}{a:Vs}(h:¬su v):ma (f+1) lv v a=⟨a.n+1,max a.d lv,true⟩:=by rw[ma,aF h];rfl
theorem Xo(f lv:Nat)(l:List Vd)(i:Nat)(h:i<l.length)(a:Vs):wL f lv (l.take (i+1)) a=ma f (lv+1) l[i].2 (ma f (lv+1) l[i].1 (wL f lv (l.take i) a)):=by
 rw[wL,zH h,List.foldl_append];rfl
theorem ZW:∀(f lv:Nat) (v:Vl) (a:Vs),(ma f lv v a).b=(a.b||!tf (iQ f v))
 |0,lv,v,a=>by rw[aF (p:=iQ 0 v) id];simp[ma]
 |f+1,lv,v,a=>by
  have g:∀(l:List Vd) (a:Vs),(wL f lv l a).b=(a.b||!tf (∀x∈l,iQ f x.1/\iQ f x.2)):=by
   intro l
   induction l with
   |nil=>intro a;rw[aM zS];simp[wL]
   |cons x l ih=>
    intro a;rw[show wL f lv (x::l) a=wL f lv l (ma f (lv+1) x.2 (ma f (lv+1) x.1 a)) from rfl,ih,ZW f,ZW f];by_cases e:iQ f x.1
    .by_cases d:iQ f x.2
     .rw[aM e,aM d,dY (show(∀y∈x::l,iQ f y.1/\iQ f y.2)↔∀y∈l,iQ f y.1/\iQ f y.2 by simp[e,d])];simp
     .rw[aF d,aF (p:=∀y∈x::l,iQ f y.1/\iQ f y.2) fun h=>d (h x zS).2];simp
    .rw[aF e,aF (p:=∀y∈x::l,iQ f y.1/\iQ f y.2) fun h=>e (h x zS).1];simp
  by_cases c:su v
  .rw[Av c,g,dY (show iQ (f+1) v↔∀x∈v.kids,iQ f x.1/\iQ f x.2 from⟨fun h=>h.2,fun h=>⟨c,h⟩⟩)]
  .rw[CY c,aF (p:=iQ (f+1) v) fun h=>c h.1];simp
theorem ZU:∀(f lv N:Nat) (v:Vl) (a:Vs),Ht N v->a.n<=(ma f lv v a).n/\(ma f lv v a).n<=a.n+dA N v
 |0,lv,N,v,a,h=>by
  have:=Hz h
  simp only[ma];omega
 |f+1,lv,0,v,a,h=>h.elim
 |f+1,lv,N+1,v,a,h=>by
  have i:∀(l:List Vd) (a:Vs),(∀x∈l,Ht N x.1/\Ht N x.2)->a.n<=(wL f lv l a).n/\(wL f lv l a).n<=a.n+((l.map fun x=>dA N x.1+dA N x.2).sum:Nat):=by
   intro l
   induction l with
   |nil=>intro a _;simp[wL]
   |cons x l ih=>
    intro a c;rw[show wL f lv (x::l) a=wL f lv l (ma f (lv+1) x.2 (ma f (lv+1) x.1 a)) from rfl];have m:=ZU f (lv+1) N x.1 a (c x zS).1;have k:=ZU f (lv+1) N x.2 (ma f (lv+1) x.1 a) (c x zS).2;have j:=ih (ma f (lv+1) x.2 (ma f (lv+1) x.1 a)) fun y hy=>c y qei;simp only[yL,vG];omega
  have e:dA (N+1) v=1+(v.kids.map fun x=>dA N x.1+dA N x.2).sum:=by rw[dA]
  by_cases g:su v
  .rw[Av g];have:=i v.kids ⟨a.n+1,max a.d lv,a.b⟩ h;simp only at this;omega
  .rw[CY g];exact qdA
def jN(l:List Int):Int:=l.foldr sI 0
theorem Q5(l:List Int){i:Nat}(h:i<l.length):jN (l.drop i)=sI l[i] (jN (l.drop (i+1))):=by
 rw[yE h];rfl
end Cl
namespace Cl
theorem VZ(l:aK)(n:Nat){s:Int}(h:s<0):uO l n s=[]:=by
 cases hx:uO l n s with
 |nil=>rfl
 |cons a r=>
  have:=((pE l n s a).1 (by rw[hx];simp)).2;rw[eU h]at this;cases this
def Eb(l:aK)(n:Nat)(t:Int)(b:Nat):List (List UInt8):=(uO l n t).map (UInt8.ofNat b::·)
def WO(l:aK)(n:Nat)(t:Int)(lo cnt:Nat):List (List UInt8):=(List.range' lo cnt).flatMap (Eb l n t)
theorem bzD(l:aK)(n:Nat)(t:Int)(lo:Nat):WO l n t lo 0=[]:=rfl
theorem bzE(l:aK)(n:Nat)(t:Int)(lo cnt:Nat):WO l n t lo (cnt+1)=WO l n t lo cnt++Eb l n t (lo+cnt):=by
 unfold WO;rw[List.range'_concat,List.flatMap_append];simp
theorem OO{l:aK}{n:Nat}{t:Int}(h:uO l n t=[])(lo cnt:Nat):WO l n t lo cnt=[]:=by
 unfold WO Eb;rw[h];simp
def MV(l:aK)(n:Nat)(es:List Ed):List (List UInt8):=es.flatMap fun e=>WO l n e.to e.lo (e.hi+1-e.lo)
theorem Rb(l:aK)(n:Nat)(es:List Ed){i:Nat}(h:i<es.length):MV l n (es.take (i+1))=MV l n (es.take i)++WO l n (es[i]).to (es[i]).lo ((es[i]).hi+1-(es[i]).lo):=by
 unfold MV;exact qcu
theorem flatMap_nil{α β:Type}{f:α->List β}:∀{l:List α},(∀x∈l,f x=[])->l.flatMap f=[]
 |[],_=>rfl
 |a::l,h=>by rw[xO,h a zS,flatMap_nil fun x hx=>h x qd8];rfl
theorem pG{α β:Type}{f g:α->List β}:∀{l:List α},(∀x∈l,f x=g x)->l.flatMap f=l.flatMap g
 |[],_=>rfl
 |a::l,h=>by rw[xO,xO,h a zS,pG fun x hx=>h x qd8]
theorem WN{l:aK}{n N:Nat}:∀(es:List Ed) (q:Nat),bS N ((q:Int)-1) es->iE es->q<=256 ->
 (List.range' q (256-q)).flatMap (fun b=>Eb l n (bE es b) b)=MV l n es
 |[],q,_,_,_=>flatMap_nil fun b _=>by
  show(uO l n (-1)).map _=[]
  rw[VZ l n zo];rfl
 |e::es,q,⟨h1,h2,h3,h4,h5⟩,hb,hq=>by
  have f:=hb e zS;have h:List.range' q (256-q)=List.range' q (e.lo-q)++(List.range' e.lo (e.hi+1-e.lo)++List.range' (e.hi+1) (256-(e.hi+1))):=by
   have i:List.range' e.lo (256-e.lo)=List.range' e.lo (e.hi+1-e.lo)++List.range' (e.hi+1) (256-(e.hi+1)):=by
    have:=List.range'_append_1 (s:=e.lo) (m:=e.hi+1-e.lo) (n:=256-(e.hi+1));rw[show e.lo+(e.hi+1-e.lo)=e.hi+1 by omega]at this;rw[this];congr 1;omega
   have d:=List.range'_append_1 (s:=q) (m:=e.lo-q) (n:=256-e.lo);rw[show q+(e.lo-q)=e.lo by omega]at d;rw[<-i,d];congr 1;omega
  rw[h,List.flatMap_append,List.flatMap_append];rw[flatMap_nil (l:=List.range' q (e.lo-q)) fun b a=>by
   have c:=List.mem_range'_1.1 a;have:bE (e::es) b = -1:=vP _ _ fun x hx j=>by
    rcases yA.1 hx with rfl|hx
    .omega
    .have:=(jD h5 x hx).1;omega
   show(uO l n _).map _=[];rw[this,VZ l n zo];rfl]
  rw[pG (l:=List.range' e.lo (e.hi+1-e.lo)) (g:=Eb l n e.to) fun b a=>by
   have c:=List.mem_range'_1.1 a;show Eb l n (bE (e::es) b) b=_;simp only[bE];rw[zK ⟨zo,zo⟩]]
  rw[pG (l:=List.range' (e.hi+1) (256-(e.hi+1))) (g:=fun b=>Eb l n (bE es b) b) fun b a=>by
   have c:=List.mem_range'_1.1 a;show Eb l n (bE (e::es) b) b=_;simp only[bE];rw[zJ zo]]
  rw[WN es (e.hi+1) (by rw[show(((e.hi+1:Nat):Int)-1)=(e.hi:Int)by omega];exact h5) (fun x hx=>hb x qd8) zo]
  rfl
theorem V3{l:aK}(c:WF l)(d:Bytes l){s:Nat}(a:s<l.length)(n:Nat):uO l (n+1) (s:Int)=MV l n (l[s]).bv:=by
 have h:=WN (l:=l) (n:=n) (l[s]).bv 0 (by have:=c l[s] (zF a);simpa using this) (d l[s] (zF a)) zo;rw[<-h];unfold uO;rw[List.range_eq_range'];exact pG fun b _=>by rw[iT l s b a];rfl
def eF(l:aK)(n:Nat):List Bool:=(List.range l.length).map fun(s:Nat) => !(uO l n (s:Int)).isEmpty
theorem Ae(l:aK)(n:Nat):(eF l n).length=l.length:=by simp[eF]
theorem Ea(l:aK)(n:Nat){s:Nat}(h:s<l.length):(eF l n)[s]?=some (!(uO l n (s:Int)).isEmpty):=by simp[eF,h]
theorem Zf(l:aK):eF l 0=l.map (·.bU):=by
 apply vF
 .simp[eF]
 .intro i b a;have hi:i<l.length:=by simpa using a
  simp only[eF,xQ,List.getElem_range];unfold uO;rw[kT l i hi];cases (l[i]).bU<;>rfl
theorem MU{l:aK}{n:Nat}{es:List Ed}{N:Nat}{p:Int}(c:bS N p es):(MV l n es=[])↔∀e∈es,uO l n e.to=[]:=by
 constructor
 .intro h e a;have f:=jD c e a;unfold MV at h;have b:=List.flatMap_eq_nil_iff.1 h e a;unfold WO at b;have d:=List.flatMap_eq_nil_iff.1 b e.lo (List.mem_range'_1.2 ⟨zI _,zo⟩);exact List.map_eq_nil_iff.1 d
 .intro h;exact flatMap_nil fun e a=>OO (h e a) _ _
theorem Ng{l:aK}(g:WF l)(k:Bytes l)(n:Nat):eF l (n+1)=l.map fun s=>s.bv.any fun e=>(eF l n).getD e.to.toNat false:=by
 apply vF
 .simp[eF]
 .intro i p m;have hi:i<l.length:=by simpa using m
  have o:(eF l (n+1))[i] = !(uO l (n+1) (i:Int)).isEmpty:=by simp[eF]
  rw[o,xQ,V3 g k hi,Bool.eq_iff_iff];have b:=g l[i] (zF hi);have d:∀e∈(l[i]).bv,(eF l n).getD e.to.toNat false=true↔uO l n e.to≠[]:=by
   intro e c;have:=jD b e c;rw[yU,Ea l n zo,xA,Int.toNat_of_nonneg this.2.2.1];simp
  rw[List.any_eq_true];constructor
  .intro h;have a:¬(MV l n (l[i]).bv=[]):=by simpa using h
   rw[MU b]at a;apply zP;intro j;exact a fun e c=>zP fun f=>j ⟨e,c,(d e c).2 f⟩
  .rintro⟨e,c,f⟩;have:=(d e c).1 f;have a:¬(MV l n (l[i]).bv=[]):=fun h=>this ((MU b).1 h e c);simpa using a
theorem Vr{l:aK}(h:cB l):∀t,t<l.length->∃u,wW l 0 u=t:=by
 intro t
 induction t using Nat.strongRecOn with
 |_ t ih=>
  intro ht;by_cases i:t=0
  .exact⟨[],by rw[i];rfl⟩
  .obtain⟨k,b,hk,g,e⟩:=h.reach t zo ht;obtain⟨u,d⟩:=ih k hk zo;obtain⟨c,f⟩:=byteOf b g;refine⟨u++[c],?_⟩;have:∀(u v:List UInt8) (s:Int),wW l s (u++v)=wW l (wW l s u) v:=by
    intro u v
    induction u with
    |nil=>intro s;rfl
    |cons a u ih=>intro s;exact ih _
   rw[this,d];show bX l k c.toNat=t;rw[f];exact e
theorem Vu{l:aK}(h:cB l){K n:Nat}(j:(lN l 0 n).length<K)(g:K*l.length<n):eF l (n-1)=List.replicate l.length false:=by
 apply vF
 .simp[eF]
 .intro i k e;have hi:i<l.length:=by simpa using e
  simp only[eF,xQ,List.getElem_range,List.getElem_replicate];rw[Bool.not_eq_false',List.isEmpty_iff];apply zP;intro b;obtain⟨y,c⟩:=List.exists_mem_of_ne_nil _ b;obtain⟨m,f⟩:=(pE _ _ _ _).1 c;obtain⟨u,d⟩:=Vr h i hi;have a:aH l 0 (u++y)=true:=by rw[qg,d];exact f
  have:=E8 a K qdW;have:=MZ (l:=l) (s:=0) (show K*l.length<=n by omega);omega
theorem Zg{l:aK}(d:WF l)(g:Bytes l){n:Nat}(h:∀b∈eF l n,b=false):∀m,n<=m->∀b∈eF l m,b=false:=by
 intro m f
 induction f with
 |refl=>exact h
 |step _ ih=>
  rw[Ng d g];intro b c;obtain⟨s,i,rfl⟩:=yD.1 c;rw[Bool.eq_false_iff];intro a;obtain⟨e,j,a⟩:=List.any_eq_true.1 a;rw[yU]at a
  cases hg:(eF l _)[e.to.toNat]? with
  |none=>rw[hg]at a;simp at a
  |some b=>
   rw[hg]at a;have:=ih b (List.mem_of_getElem? hg);rw[this]at a;simp at a
theorem YQ{l:aK}(e:WF l)(f:Bytes l){n:Nat}(h:∀b∈eF l n,b=false):∀y,aH l 0 y=true->y.length<n:=by
 intro y a;apply zP;intro k;have g:=Zg e f h y.length zo;have j:=tN a;have i:0<l.length:=zo;have d:=g _ (List.mem_of_getElem? (Ea l y.length i));have c:y∈uO l y.length ((0:Nat):Int):=(pE _ _ _ _).2 ⟨rfl,a⟩;rw[Bool.not_eq_false',List.isEmpty_iff]at d;rw[d]at c;simp at c
end Cl
namespace Cl
def cb(A:aK)(s n:Nat):Bool := !(uO A n (s:Int)).isEmpty
def f1(A:aK)(s n:Nat):Bool:=decide (n=0)&&cb A s 0
def f2(A:aK)(k s n:Nat):Bool:=decide (n<k)&&cb A s n
def f3(A:aK)(k t s n:Nat):Bool:=decide (n<k\/n=k/\s<t)&&cb A s n
def f4(A:aK)(k t:Nat)(es:List Ed)(s n:Nat):Bool:=f3 A k t s n||(decide (n=k/\s=t)&&es.any fun e=>cb A e.to.toNat (k-1))
end Cl
namespace Cl
mutual
def cnt:Dt->Nat
 |.mk _ _ _ i _ d=>1+Fg i+Fg d
def Fg:List Dt->Nat
 |[]=>0
 |x::r=>cnt x+Fg r
end
end Cl
namespace Cl
def stepT(a:List aK)(v:List Int)(b k:Nat):List Int:=iI ((a.map lq).take k) (v.take k) b
def gzo(a:List aK)(v:List Int)(k:Nat):Nat:=pK ((a.map lq).take k) (v.take k)
structure BL (cs:List fF) (seen:List (List Int)) (k:Nat):Prop where
 nodup:seen.Nodup
 reach:∀v∈seen,lX cs v
 start:eY cs∈seen
 done:∀i (h:i<seen.length),i<k->Ep cs seen seen[i]
theorem BL.first(cs:List fF):BL cs [eY cs] 0 where
 nodup:=by simp
 reach v hv:=by rw[zZ.1 hv];exact .start cs
 start:=by simp
 done i _ h:=absurd h (xY i)
theorem BL.push{cs:List fF}{seen:List (List Int)}{k:Nat}(h:BL cs seen k)(hk:k<=seen.length){x:List Int}(d:lX cs x)(hx:x ∉ seen):BL cs (seen++[x]) k where
 nodup:=by
  exact qbY
 reach v hv:=(yP.1 hv).elim (h.reach v) fun k=>by rw[zZ.1 k];exact d
 start:=xI _ h.start
 done i hi hik:=by
  rw[xM (show i<seen.length by omega)];exact(h.done i zo hik).mono fun y c=>xI _ c
theorem BL.close{cs:List fF}{seen:List (List Int)}{k:Nat}(h:BL cs seen k)(hk:k<seen.length)(d:Ep cs seen seen[k]):BL cs seen (k+1):=
 ⟨h.nodup,h.reach,h.start,fun i hi a=>by
  by_cases e:i=k
  .subst e;exact d
  .exact h.done i hi zo⟩
theorem BL.once{cs:List fF}{seen:List (List Int)}(h:BL cs seen seen.length):Gi cs:=by
 have hd:∀v∈seen,Ep cs seen v:=fun v hv=>by
  obtain⟨i,hi,rfl⟩:=yX hv;exact h.done i hi hi
 exact qhu
end Cl
namespace Cl
def fw{α:Type}(g:α->Nat)(l:List α):Nat:=(l.map g).sum
theorem ru{α:Type}(g:α->Nat):fw g []=0:=rfl
theorem fq{α:Type}(g:α->Nat)(x:α)(l:List α):fw g (x::l)=g x+fw g l:=by simp[fw]
theorem iJ{α:Type}(g:α->Nat)(l m:List α):fw g (l++m)=fw g l+fw g m:=by simp[fw]
theorem PN{α:Type}(g:α->Nat)(c:α->α->Int)(x:α):∀l,fw g (DN c x l)=g x+fw g l
 |[]=>by simp[DN,fw]
 |y::l=>by
  unfold DN
  split
  .rw[fq]
  .rw[fq,PN g c x l,fq];omega
theorem Az{α:Type}(g:α->Nat)(c:α->α->Int):∀l,fw g (gJ c l)=fw g l
 |[]=>rfl
 |x::l=>by rw[gJ,PN,Az g c l,fq]
theorem wU{α:Type}(g:α->Nat)(p:α->Bool):∀l,fw g (l.filter p)<=fw g l
 |[]=>zI _
 |x::l=>by
  have:=wU g p l;rw[List.filter_cons,fq]
  split
  .rw[fq];omega
  .omega
theorem Ig{α:Type}(g:α->Nat)(R:α->α->Prop)(l:List α):fw g (oN R l)<=fw g l:=by
 have c:∀n,n<=l.length->fw g (iy R l n)<=fw g (l.take n):=by
  intro n
  induction n with
  |zero=>intro _;exact zI _
  |succ n ih=>
   intro b;have d:=ih zo;have a:n<l.length:=b;rw[zH a,iJ];by_cases k:sP R l n
   .rw[uA a k,iJ];omega
   .rw[DI k];omega
 have:=c _ (zI _)
 rwa [yG]at this
theorem oI{α β:Type}{f:α->Option β}{g:β->Nat}{h:α->Nat}:∀{l:List α} {r:List β},(∀x∈l,∀y,f x=some y->g y<=h x)->gQ f l=some r->fw g r<=fw h l
 |[],r,_,e=>by unfold gQ at e;cases e;exact zI _
 |x::l,r,k,e=>by
  obtain⟨y,t,rfl,b,a⟩:=ER e;have d:=k x zS y b;have c:=oI (g:=g) (h:=h) (fun z hz=>k z qev) a;rw[fq,fq];omega
theorem Ez{α:Type}(g:α->Nat)(l:List (α×Bool)):fw g (bY l)<=fw (fun x:α×Bool=>g x.1) l:=by
 have h:=wU (fun x:α×Bool=>g x.1) (·.2) l;unfold bY;unfold fw at h⊢;rw[vE];exact h
theorem EA{α β:Type}(g:β->Nat)(f:α->List β):∀l:List α,fw g (l.flatMap f)=fw (fun x=>fw g (f x)) l
 |[]=>rfl
 |x::l=>by rw[xO,iJ,EA g f l,fq]
theorem Df{α β:Type}(g:β->Nat)(f:α->β)(l:List α):fw g (l.map f)=fw (fun x=>g (f x)) l:=by simp[fw,Function.comp_def]
def cv(n:Nat)(d:Vd):Nat:=dA n d.1+dA n d.2
theorem pM(n:Nat)(v:Vl):dA (n+1) v=1+(fw (fun c=>fw (cv n) (aY c)) v.aN+fw (fun c=>fw (cv n) (bN c)) v.aA):=by
 show 1+fw (cv n) v.kids=_;rw[Vl.kids,iJ,EA,EA]
theorem czh(g:Vd->Nat)(out:List Kl)(k:Kl):fw (fun x:Kl=>g x.2) (lW out k)<=fw (fun x:Kl=>g x.2) out+g k.2:=by
 unfold lW
 split
 .rw[iJ,fq,ru];omega
 .rename_i i e;obtain⟨hi,b,_⟩:=List.findIdx?_eq_some_iff_getElem.1 e;have a:out[i].2=k.2:=kF.1 b;have set:∀(l:List Kl) (i:Nat) (h:i<l.length) (y:Kl),fw (fun x:Kl=>g x.2) (l.set i y)+g l[i].2=fw (fun x:Kl=>g x.2) l+g y.2:=by
   intro l
   induction l with
   |nil=>intro i h;simp at h
   |cons x l ih=>
    intro i h y
    cases i with
    |zero=>simp only[List.set_cons_zero,fq,xL];omega
    |succ i=>
     have:=ih i qd9 y;simp only[List.set_cons_succ,fq,List.getElem_cons_succ];omega
  have:=set out i hi (orT (out.getD i k).1 k.1,k.2);rw[a]at this;simp only at this;omega
theorem A7(g:Vd->Nat):∀(a out:List Kl),fw (fun x:Kl=>g x.2) (a.foldl lW out)<=fw (fun x:Kl=>g x.2) out+fw (fun x:Kl=>g x.2) a
 |[],out=>by simp[fw]
 |k::a,out=>by
  have c:=A7 g a (lW out k);have b:=czh g out k;rw[List.foldl_cons,fq];omega
theorem Ba{n:Nat}(H:∀v u,iQ n v->cz n v=some u->dA n u<=dA n v){d e:Vd}(f:iQ n d.1)(c:iQ n d.2)(h:gD (cz n) (dz n) d=some e):cv n e<=cv n d:=by
 unfold gD at h;obtain⟨a,i,h⟩:=Option.bind_eq_some_iff.1 h;obtain⟨b,g,h⟩:=Option.bind_eq_some_iff.1 h
 split at h
 .cases h;have:=H _ _ f i;have:=H _ _ c g;show dA n a+dA n b<=dA n d.1+dA n d.2;omega
 .cases h
theorem Nh{n:Nat}(H:∀v u,iQ n v->cz n v=some u->dA n u<=dA n v){x:Lc}{y:Lc×Bool}(hk:∀d∈aY x,iQ n d.1/\iQ n d.2)(h:mG (cz n) (dz n) x=some y):fw (cv n) (aY y.1)<=fw (cv n) (aY x)/\y.1.1.length=x.1.length/\y.1.2.length<=x.2.length:=by
 unfold mG at h;obtain⟨l,e,h⟩:=Option.bind_eq_some_iff.1 h;obtain⟨r,c,rfl⟩:=Option.map_eq_some_iff.1 h;have o:=oI (g:=cv n) (h:=cv n) (fun z a y b=>by have:=hk z (yP.2 (.inl a));exact Ba H this.1 this.2 b) e;have m:=oI (g:=cv n) (h:=cv n) (fun z a y b=>by have:=hk z (yP.2 (.inr a));exact Ba H this.1 this.2 b) c;have k:=wU (cv n) (fun d:Vd => !ja d.1) r;have j:=vB (fun d:Vd => !ja d.1) r;have f:=iM e;have i:=iM c;refine⟨?_,f,by simp only;omega⟩;unfold aY;rw[iJ,iJ];exact qdA
theorem Fs{n:Nat}(H:∀v u,iQ n v->cz n v=some u->dA n u<=dA n v){x:St}{y:St×Bool}(hk:∀d∈bN x,iQ n d.1/\iQ n d.2)(h:mQ (cz n) (dz n) x=some y):
 fw (cv n) (bN y.1)<=fw (cv n) (bN x)/\y.1.1.map (·.1)=x.1.map (·.1)/\y.1.2.length<=x.2.length/\∃e:List Kl,e.map (·.1)=x.2.map (·.1)/\y.1.2=gJ MF (e.foldl lW []):=by
 unfold mQ at h;obtain⟨fs,o,h⟩:=Option.bind_eq_some_iff.1 h;obtain⟨e,m,rfl⟩:=Option.map_eq_some_iff.1 h;have f1:∀z∈x.1,∀y,uJ (cz n) (dz n) z=some y->y.1=z.1/\cv n y.2<=cv n z.2:=fun z j y c=>by
  unfold uJ at c;obtain⟨d,k,rfl⟩:=Option.map_eq_some_iff.1 c;have:=hk z.2 (yP.2 (.inl (yD.2 ⟨z,j,rfl⟩)));exact⟨rfl,Ba H this.1 this.2 k⟩
 have q:∀z∈x.2,∀y,qf (cz n) (dz n) z=some y->y.1=z.1/\cv n y.2<=cv n z.2:=fun z j y c=>by
  unfold qf at c;obtain⟨d,k,rfl⟩:=Option.map_eq_some_iff.1 c;have:=hk z.2 (yP.2 (.inr (yD.2 ⟨z,j,rfl⟩)));exact⟨rfl,Ba H this.1 this.2 k⟩
 have t:=oI (g:=fun f:Fd=>cv n f.2) (h:=fun f:Fd=>cv n f.2) (fun z j y c=>(f1 z j y c).2) o;have s:=oI (g:=fun f:Kl=>cv n f.2) (h:=fun f:Kl=>cv n f.2) (fun z j y c=>(q z j y c).2) m;have r:=A7 (cv n) e [];have p:=A7 (fun _=>1) e [];rw[ru]at r p;have one:∀l:List Kl,fw (fun _=>1) l=l.length:=fun l=>by
  induction l with
  |nil=>rfl
  |cons x l ih=>rw[fq,ih,yO];omega
 have hl:=iM m;refine⟨?_,?_,?_,e,?_,rfl⟩
 .unfold bN;rw[iJ,iJ,Df,Df,Df,Df,Az];exact qdA
 .refine vF (by simp[iM o]) fun i a b=>?_;have a:i<fs.length:=by simpa using a
  have b:i<x.1.length:=by simpa using b
  simpa using(f1 _ (zF b) _ (rH o i b a)).1
 .have:=(jh MF (e.foldl lW [])).length_eq;rw[one,one]at p;exact qdA
 .refine vF qeo fun i a b=>?_;have a:i<e.length:=by simpa using a
  have b:i<x.2.length:=by simpa using b
  simpa using(q _ (zF b) _ (rH m i b a)).1
theorem uI:∀(n:Nat) (v u:Vl),iQ n v->cz n v=some u->dA n u<=dA n v
 |0,_,_,h,_=>h.elim
 |n+1,v,u,hv,h=>by
  have j:=uI n;have a:dA (n+1) fE<=dA (n+1) v:=by
   rw[pM,pM];show 1+(0+0)<=_;omega
  rw[cz]at h
  split at h
  .cases h;exact zI _
  obtain⟨ls,l,h⟩:=Option.bind_eq_some_iff.1 h;obtain⟨i,k,h⟩:=Option.map_eq_some_iff.1 h
  split at h
  .cases h;exact a
  cases h;rw[pM,pM];have s:=oI (g:=fun x:Lc×Bool=>fw (cv n) (aY x.1)) (h:=fun c=>fw (cv n) (aY c)) (fun c f y b=>(Nh j (fun d e=>hv.2 d (eB f e)) b).1) l;have r:=oI (g:=fun x:St×Bool=>fw (cv n) (bN x.1)) (h:=fun c=>fw (cv n) (bN c)) (fun c f y b=>(Fs j (fun d e=>hv.2 d (eQ f e)) b).1) k;have q:=Ez (fun c=>fw (cv n) (aY c)) ls;have p:=Ez (fun c=>fw (cv n) (bN c)) i;have o:=Ig (fun c=>fw (cv n) (aY c)) (AV (dz n)) (bY ls);have m:=Ig (fun c=>fw (cv n) (bN c)) (AJ (dz n)) (bY i);show 1+(fw _ (gJ _ _)+fw _ (gJ _ _))<=_;rw[Az,Az];omega
end Cl
