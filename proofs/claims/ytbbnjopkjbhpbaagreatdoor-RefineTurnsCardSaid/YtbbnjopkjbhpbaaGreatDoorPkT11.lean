/- Lemmas. -/
import Derived.Test.YtbbnjopkjbhpbaaGreatDoorPkT10
set_option maxRecDepth 99999
set_option maxHeartbeats 9999999
namespace Cl
structure ezQ (v:Vl):Prop where
 sc:bzl v.s
 l:v.aJ.length<=4
 s:v.ay.length<=4
 f:∀c∈v.ay,c.1.length<=6
 k:∀c∈v.ay,c.2.length<=6
 lab:∀c∈v.ay,∀f∈c.1,f.1.1.size<=40
 set:∀c∈v.ay,∀k∈c.2,JD k.1
def Dx:Nat->Vl->Prop
 |0,_=>False
 |n+1,v=>ezQ v/\∀x∈v.kids,Dx n x.1/\Dx n x.2
theorem Dx.ht:∀{n:Nat} {v:Vl},Dx n v->Ht n v
 |0,_,h=>h.elim
 |_+1,_,h=>fun x a=>⟨(h.2 x a).1.ht,(h.2 x a).2.ht⟩
theorem Dx.succ:∀{n:Nat} {v:Vl},Dx n v->Dx (n+1) v
 |0,_,h=>h.elim
 |_+1,_,h=>⟨h.1,fun x a=>⟨(h.2 x a).1.succ,(h.2 x a).2.succ⟩⟩
theorem Dx.mono{n m:Nat}{v:Vl}(h:Dx n v)(k:n<=m):Dx m v:=by
 induction k with
 |refl=>exact h
 |step _ ih=>exact ih.succ
structure bzk (n:Nat) (v:Vl):Prop where
 di:di n v<=80
 few:Dx n v
theorem M7{α:Type}{f:α->Nat}{l:List α}{x:α}(h:x∈l):f x<=(l.map f).sum:=by
 induction l with
 |nil=>simp at h
 |cons y l ih=>
  rcases yA.1 h with rfl|h
  .simp
  .have:=ih h;simp only[yL,vG];omega
theorem wo{n:Nat}{v:Vl}{x:Vd}(a:x∈v.kids):di n x.1+di n x.2+1<=di (n+1) v:=by
 have:=M7 (f:=fun x:Vd=>di n x.1+di n x.2) a;rw[di];omega
theorem czz(n:Nat)(a:Bool):Dx (n+1) (.mk a fe [] []):=
 ⟨⟨⟨by simp[Vl.s,fe],by simp[Vl.s,fe],by intro s c;simp[Vl.s,fe]at c,by simp[Vl.s,fe]⟩,by simp[Vl.aJ],by simp[Vl.ay],by simp[Vl.ay],by simp[Vl.ay],by simp[Vl.ay],by simp[Vl.ay]⟩,
  fun x b=>by simp[Vl.kids,Vl.aJ,Vl.ay]at b⟩
theorem bzk.sc{n:Nat}{v:Vl}(h:bzk (n+1) v):bzl v.s:=h.few.1.sc
theorem bzR{c:St}(d:c.2.length<=6)(b:∀k∈c.2,JD k.1):(c.2.map fun k=>kT k.1).length<=6/\∀x∈c.2.map (fun k=>kT k.1),x.n<=8:=
 ⟨by rw[xC];exact d,fun x a=>by obtain⟨k,hk,rfl⟩:=yD.1 a;exact(b k hk).2⟩
theorem azC{c:St}(b:∀k∈c.2,bZ k.1/\k.1≠[])(q:c.1.length<=6)(p:c.2.length<=6)(o:∀f∈c.1,f.1.1.size<=40)(n:∀k∈c.2,JD k.1){l:List (List Int)}(i:l.Nodup)(j:∀v∈l,lD (dU c) v):l.length<=1400000000:=by
 obtain⟨e,d⟩:=bzR p n;have h:=GM (P:=c.2.map fun k:Kl=>kT k.1) (Q:=c.1.map fun f:Fd=>rG f.1.1.data.toList) (k:=40) (fun x a=>by
  obtain⟨k,hk,rfl⟩:=yD.1 a;exact Aa (b k hk).1 (b k hk).2) (fun x a=>by
  obtain⟨f,m,rfl⟩:=yD.1 a;exact Lu (by rw[Array.length_toList];exact o f m)) i (fun v g=>j v g)
 exact yJ h (Qn e d (by rw[xC];exact q))
end Cl
namespace Cl
def qJ(acc:aK->Bool)(c:St)(s:ByteArray):Vd×Int:=
 match c.1.find? (fun f=>f.1.1=s)with
 |some f=>(f.2,f.1.2)
 |none=>match c.2.find? (fun k=>acc k.1)with
  |some k=>(k.2,3)
  |none=>((dn,dn),3)
theorem I4{α:Type}{p:α->Bool}:∀{l:List α},l.countP p=1->∃i,∃h:i<l.length,p l[i]=true/\l.find? p=some l[i]/\∀j (hj:j<l.length),j≠i->p l[j]=false
 |[],h=>by simp at h
 |x::l,h=>by
  cases hx:p x with
  |true=>
   rw[List.countP_cons,hx]at h;have f:l.countP p=0:=by simpa using h
   refine⟨0,zS,hx,by rw[List.find?_cons,hx];rfl,fun j hj a=>?_⟩
   cases j with
   |zero=>exact absurd rfl a
   |succ j=>
    have b:j<l.length:=by simpa using hj
    have:=List.countP_eq_zero.1 f l[j] (zF b)
    exact qbe
  |false=>
   rw[List.countP_cons,hx]at h;obtain⟨i,hi,e,d,c⟩:=I4 (l:=l) qd5;refine⟨i+1,by simpa using hi,by simpa using e,by rw[List.find?_cons,hx];simpa using d,fun j hj a=>?_⟩
   cases j with
   |zero=>exact hx
   |succ j=>simpa using c j qdP zo
def jS(c:Lc)(i:Int):Vd×Bool:=
 if h:0<=i/\i.toNat<c.1.length then(c.1[i.toNat]'h.2,true)
 else if h:0<=i/\0<c.2.length then(c.2[0]'h.2,true)else((dn,dn),false)
end Cl
namespace Cl
def bzJ(a b:RS):Prop:=∀e,a.has e->b.has e
noncomputable def ic(c:St)(s:ByteArray):Vd×Int:=qJ (fun l=>Sem l s.data.toList) c s
def pO(c:Vl->Vl->Prop)(a b:Vd):Prop:=c a.1 b.1/\c a.2 b.2
structure uF (c:Vl->Vl->Prop) (a b:Lc):Prop where
 len:b.1.length<=a.1.length
 shut:b.2.length=0->a.1.length<=b.1.length/\a.2.length=0
 items:∀i (h:i<a.1.length),pO c a.1[i] (jS b i).1
 rest:∀(ha:0<a.2.length) (hb:0<b.2.length),pO c a.2[0] b.2[0]
structure uE (c:Vl->Vl->Prop) (a b:St):Prop where
 fields:∀f,f∈a.1\/f∈b.1->(ic a f.1.1).2<=(ic b f.1.1).2/\pO c (ic a f.1.1).1 (ic b f.1.1).1
 classes:∀x∈a.2,∀y∈b.2,pO c x.2 y.2\/∀w,¬(Sem x.1 w=true/\Sem y.1 w=true)
def df:Nat->Vl->Vl->Prop
 |0,_,_=>False
 |n+1,a,b=>if a.any=true\/b.any=true then b.any=true else
  a=b\/(bzJ a.s b.s/\(∀x∈a.aJ,∃y∈b.aJ,uF (df n) x y)/\∀x∈a.ay,∃y∈b.ay,uE (df n) x y)
theorem mQ(b:Lc)(i:Nat):(∃h:i<b.1.length,(jS b i).1=b.1[i])\/(b.1.length<=i/\∃h:0<b.2.length,(jS b i).1=b.2[0])\/(b.1.length<=i/\b.2.length=0):=by
 by_cases h:i<b.1.length
 .exact .inl ⟨h,by unfold jS;rw[dif_pos ⟨zo,by simpa using h⟩];rfl⟩
 .by_cases a:0<b.2.length
  .exact .inr (.inl ⟨zo,a,by unfold jS;rw[dif_neg (fun k=>h (by simpa using k.2)),dif_pos ⟨zo,a⟩]⟩)
  .exact .inr (.inr ⟨zo,zo⟩)
theorem mJ{c:Lc}{i:Nat}(h:i<c.1.length):c.1[i]∈aX c:=yP.2 (.inl (zF h))
theorem lS{c:Lc}{i:Nat}(h:i<c.2.length):c.2[i]∈aX c:=yP.2 (.inr (zF h))
theorem Ll{c:Vl->Vl->Prop}{x y z:Lc}(T:∀p∈aX x,∀q∈aX y,∀r∈aX z,pO c p q->pO c q r->pO c p r)(h:uF c x y)(k:uF c y z):uF c x z where
 len:=yJ k.len h.len
 shut e:=by
  have t:=k.shut e;have s:=h.shut t.2;exact⟨zo,s.2⟩
 items i hi:=by
  have j:=h.items i hi;have n:=h.shut;have o:=k.shut;have u:=k.len;rcases mQ y i with⟨a,e⟩|⟨a,b,e⟩|⟨a,b⟩
  .rw[e]at j;have l:=k.items i a;rcases mQ z i with⟨g,f⟩|⟨g,d,f⟩|⟨g,d⟩
   .rw[f]at l⊢;exact T _ (mJ hi) _ (mJ a) _ (mJ g) j l
   .rw[f]at l⊢;exact T _ (mJ hi) _ (mJ a) _ (lS d) j l
   .exact absurd (o d) zo
  .rw[e]at j;rcases mQ z i with⟨g,f⟩|⟨g,d,f⟩|⟨g,d⟩
   .omega
   .rw[f];exact T _ (mJ hi) _ (lS b) _ (lS d) j (k.rest b d)
   .exact absurd (o d) zo
  .exact absurd (n b) zo
 rest ha hc:=by
  have n:=h.shut;have m:0<y.2.length:=by
   rcases Nat.eq_zero_or_pos y.2.length with e|e
   .exact absurd (n e) zo
   .exact e
  exact T _ (lS ha) _ (lS m) _ (lS hc) (h.rest ha m) (k.rest m hc)
theorem Iu{c:Vl->Vl->Prop}{x y:Lc}(s:x.2.length<=1)(r:y.2.length<=1)(A:∀p∈aX x,∀q∈aX y,pO c p q->pO c q p->p=q)(h:uF c x y)(k:uF c y x):x=y:=by
 have j:x.1.length=y.1.length:=Nat.le_antisymm k.len h.len;have m:x.1=y.1:=vF j fun i a b=>by
  have g:=h.items i a;have f:=k.items i b;rcases mQ y i with⟨_,e⟩|⟨_,_,_⟩|⟨_,_⟩
  .rcases mQ x i with⟨_,n⟩|⟨_,_,_⟩|⟨_,_⟩
   .rw[e]at g;rw[n]at f;exact A _ (mJ a) _ (mJ b) g f
   .omega
   .omega
  .omega
  .omega
 have t:=h.shut;have o:=k.shut;have l:x.2=y.2:=by
  have d:x.2.length=y.2.length:=zo;refine vF d fun i a b=>?_;obtain rfl:i=0:=zo;exact A _ (lS a) _ (lS b) (h.rest a b) (k.rest b a)
 exact Prod.ext m l
theorem kU{a:St}(h:bC a)(s:ByteArray):
 (∃f∈a.1,f.1.1=s/\ic a s=(f.2,f.1.2)/\(∀g∈a.1,g.1.1=s->g=f)/\∀k∈a.2,Sem k.1 s.data.toList=false) \/
 (∃k∈a.2,Sem k.1 s.data.toList=true/\ic a s=(k.2,3)/\(∀g∈a.2,Sem g.1 s.data.toList=true->g=k)/\∀f∈a.1,f.1.1≠s):=by
 have r:=h.once s.data.toList;unfold CY at r;have e:a.1.countP (fun f=>f.1.1.data.toList==s.data.toList)=a.1.countP (fun f=>decide (f.1.1=s)):=by
  refine List.countP_congr fun f _=>?_;simp only[beq_iff_eq,decide_eq_true_eq];exact⟨fun h=>OB h,fun h=>by rw[h]⟩
 rw[e]at r;by_cases u:a.1.countP (fun f=>decide (f.1.1=s))=0
 .refine .inr ?_;obtain⟨i,hi,q,o,n⟩:=I4 (p:=fun k:Kl=>Sem k.1 s.data.toList) (l:=a.2) zo;have c:=List.countP_eq_zero.1 u;refine⟨a.2[i],zF hi,q,?_,fun g m b=>?_,fun f t e=>c f t (by simpa using e)⟩
  .unfold ic qJ;rw[List.find?_eq_none.2 c,o]
  .obtain⟨j,d,rfl⟩:=yX m;by_cases e:j=i
   .subst e;rfl
   .rw[n j d e]at b;cases b
 .refine .inl ?_;obtain⟨i,hi,q,o,n⟩:=I4 (p:=fun f:Fd=>decide (f.1.1=s)) (l:=a.1) zo;have c:=List.countP_eq_zero.1 (show a.2.countP (fun k=>Sem k.1 s.data.toList)=0 by omega);refine⟨a.1[i],zF hi,by simpa using q,?_,fun g m b=>?_,fun k hk=>by simpa using c k hk⟩
  .unfold ic qJ;rw[o]
  .obtain⟨j,d,rfl⟩:=yX m;by_cases e:j=i
   .subst e;rfl
   .have:=n j d e;simp[b]at this
theorem Bq{a:St}(h:bC a){f:Fd}(b:f∈a.1):ic a f.1.1=(f.2,f.1.2):=by
 rcases kU h f.1.1 with⟨g,_,_,e,d,_⟩|⟨_,_,_,_,_,c⟩
 .rw[e,d f b rfl]
 .exact absurd rfl (c f b)
theorem Br{a:St}(h:bC a){k:Kl}(hk:k∈a.2){s:ByteArray}(b:Sem k.1 s.data.toList=true):ic a s=(k.2,3):=by
 rcases kU h s with⟨_,_,_,_,_,c⟩|⟨g,_,_,e,d,_⟩
 .rw[c k hk]at b;cases b
 .rw[e,d k hk b]
theorem nH{a:St}(h:bC a)(s:ByteArray):(ic a s).1∈bJ a:=by
 rcases kU h s with⟨f,c,_,b,_⟩|⟨k,c,_,b,_⟩
 .rw[b];exact yP.2 (.inl (yD.2 ⟨f,c,rfl⟩))
 .rw[b];exact yP.2 (.inr (yD.2 ⟨k,c,rfl⟩))
theorem Ad{c:Vl->Vl->Prop}{a b:St}(j:bC a)(i:bC b):uE c a b↔∀s,(ic a s).2<=(ic b s).2/\pO c (ic a s).1 (ic b s).1:=by
 constructor
 .intro h s;rcases kU j s with⟨f,d,rfl,_⟩|⟨x,d,q,p,_⟩
  .exact h.fields f (.inl d)
  .rcases kU i s with⟨f,g,rfl,_⟩|⟨y,g,l,k,_⟩
   .exact h.fields f (.inr g)
   .rw[p,k];refine⟨xU _,?_⟩;rcases h.classes x d y g with h|h
    .exact h
    .exact absurd ⟨q,l⟩ (h _)
 .intro h;refine⟨fun f _=>h _,fun x n y m=>?_⟩;by_cases e:∃w,Sem x.1 w=true/\Sem y.1 w=true
  .obtain⟨w,t,r⟩:=e;have d:=h ⟨w.toArray⟩;rw[Br j n (s:=⟨w.toArray⟩) (by simpa using t),Br i m (s:=⟨w.toArray⟩) (by simpa using r)]at d;exact .inl d.2
  .exact .inr fun w o=>e ⟨w,o⟩
theorem Dm{α:Type}{R:α->α->Prop}(a:∀x,¬R x x)(d:∀x y z,R x y->R y z->R x z):∀{l m:List α},l.Pairwise R->m.Pairwise R->(∀x,x∈l↔x∈m)->l=m
 |[],[],_,_,_=>rfl
 |[],y::m,_,_,h=>by have:=(h y).2 zS;simp at this
 |x::l,[],_,_,h=>by have:=(h x).1 zS;simp at this
 |x::l,y::m,hl,hm,h=>by
  rw[yS]at hl hm;have e:x=y:=by
   rcases yA.1 ((h x).1 zS)with e|c
   .exact e
   .rcases yA.1 ((h y).2 zS)with e|f
    .exact e.symm
    .exact absurd (d _ _ _ (hm.1 x c) (hl.1 y f)) (a _)
  subst e;rw[Dm a d hl.2 hm.2 fun z=>?_];constructor
  .intro b;rcases yA.1 ((h z).1 (zU _ b))with e|c
   .subst e;exact absurd (hl.1 z b) (a z)
   .exact c
  .intro b;rcases yA.1 ((h z).2 (zU _ b))with e|c
   .subst e;exact absurd (hm.1 z b) (a z)
   .exact c
theorem bze{α:Type}{R:α->α->Prop}(b:∀x y z,R x y->R y z->R x z):∀{l:List α},(∀i (h:i+1<l.length),R l[i] l[i+1])->l.Pairwise R
 |[],_=>List.Pairwise.nil
 |[x],_=>by simp
 |x::y::l,h=>by
  have c:=bze b (l:=y::l) fun i hi=>by have:=h (i+1) (by simp at hi⊢;omega);simpa using this
  refine yS.2 ⟨fun z a=>?_,c⟩;have d:R x y:=by simpa using h 0 zS
  rcases yA.1 a with rfl|a
  .exact d
  .exact b _ _ _ d ((yS.1 c).1 z a)
theorem FW{l:aK}(h:bZ l)(a:l≠[]):∃w,Sem l w=true:=by
 obtain⟨w,b⟩:=h.live 0 (yY.2 a);exact⟨w,by rw[dG h];exact b⟩
structure U4 (l:List Kl):Prop where
 Fv:∀x∈l,∀y∈l,x.2=y.2->x=y
 asc:l.Pairwise fun x y=>nX x.1 y.1<0
theorem azy{l:List Fd}(h:fI l):l.Pairwise fun x y=>F9 x.1.1 y.1.1=true:=bze (R:=fun x y:Fd=>F9 x.1.1 y.1.1=true) (fun _ _ _ a b=>EF a b) h.asc
theorem Lp(x:aK):¬nX x x<0:=by
 have:nX x x=0:=CV (.same fun _=>rfl);omega
theorem Qm{x y z:aK}(h:nX x y<0)(k:nX y z<0):nX x z<0:=by
 have b:=Mf (jb x y) (jb y z) (jb x z) zo zo;have d:=(jb x z).range;rcases Int.lt_or_eq_of_le b.1 with a|a
 .exact a
 .have c:=b.2.1 a;omega
end Cl
namespace Cl
theorem KH{c:Vl->Vl->Prop}{x y z:St}(d:bC x)(b:bC y)(a:bC z)(T:∀p∈bJ x,∀q∈bJ y,∀r∈bJ z,pO c p q->pO c q r->pO c p r)(h:uE c x y)(k:uE c y z):uE c x z:=by
 rw[Ad d b]at h;rw[Ad b a]at k;rw[Ad d a];intro s;exact⟨Int.le_trans (h s).1 (k s).1,T _ (nH d s) _ (nH b s) _ (nH a s) (h s).2 (k s).2⟩
theorem Ei:∀(n:Nat) (a b c:Vl),ib n a->ib n b->ib n c->df n a b->df n b c->df n a c
 |0,_,_,_,h,_,_,_,_=>h.elim
 |n+1,a,b,c,ha,hb,hc,h,k=>by
  have A:=Ei n;have T:∀p∈a.kids,∀q∈b.kids,∀r∈c.kids,pO (df n) p q->pO (df n) q r->pO (df n) p r:=fun p l q j r i o m=>
   ⟨A _ _ _ (ha.2 p l).1 (hb.2 q j).1 (hc.2 r i).1 o.1 m.1,A _ _ _ (ha.2 p l).2 (hb.2 q j).2 (hc.2 r i).2 o.2 m.2⟩
  rw[df]at h k⊢;by_cases s:c.any=true
  .rw[zK (.inr s)];exact s
  by_cases t:b.any=true
  .rw[zK (.inl t)]at k;exact absurd k s
  by_cases w:a.any=true
  .rw[zK (.inl w)]at h;exact absurd h t
  rw[zJ (fun e=>e.elim w t)]at h;rw[zJ (fun e=>e.elim t s)]at k;rw[zJ (fun e=>e.elim w s)];rcases h with rfl|⟨o,m,B⟩
  .exact k
  rcases k with rfl|⟨E,D,C⟩
  .exact .inr ⟨o,m,B⟩
  refine .inr ⟨fun e F=>E e (o e F),fun x g=>?_,fun x g=>?_⟩
  .obtain⟨y,f,v⟩:=m x g;obtain⟨z,d,u⟩:=D y f;exact⟨z,d,Ll (fun p l q j r i=>T p (dM g l) q (dM f j) r (dM d i)) v u⟩
  .obtain⟨y,f,v⟩:=B x g;obtain⟨z,d,u⟩:=C y f;exact⟨z,d,KH (ha.1.st x g).2 (hb.1.st y f).2 (hc.1.st z d).2 (fun p l q j r i=>T p (dP g l) q (dP f j) r (dP d i)) v u⟩
theorem GG{c:Vl->Vl->Prop}{x y:St}(j:fI x.1/\bC x)(i:fI y.1/\bC y)(C:U4 x.2)(B:U4 y.2)(A:∀p∈bJ x,∀q∈bJ y,pO c p q->pO c q p->p=q)(h:uE c x y)(k:uE c y x):x=y:=by
 rw[Ad j.2 i.2]at h;rw[Ad i.2 j.2]at k;have E:∀s,ic x s=ic y s:=fun s=>Prod.ext (A _ (nH j.2 s) _ (nH i.2 s) (h s).2 (k s).2) (Int.le_antisymm (h s).1 (k s).1);have F:∀{x y:St},fI x.1->bC x->bC y->(∀s,ic x s=ic y s)->∀f∈x.1,f∈y.1:=by
  intro x y P l r e f z;have d:=e f.1.1;rw[Bq l z]at d;rcases kU r f.1.1 with⟨g,I,H,D,_⟩|⟨g,_,_,D,_⟩
  .rw[D]at d;simp only[Prod.mk.injEq]at d;have:f=g:=Prod.ext (Prod.ext H.symm d.2) d.1;rw[this];exact I
  .rw[D]at d;simp only[Prod.mk.injEq]at d;have:=P.eze f z;omega
 have d:x.1=y.1:=Dm (R:=fun x y:Fd=>F9 x.1.1 y.1.1=true) (fun x h=>by rw[BU]at h;cases h) (fun _ _ _ a b=>EF a b) (azy j.1) (azy i.1) fun f=>
  ⟨F j.1 j.2 i.2 E f,F i.1 i.2 j.2 (fun s=>(E s).symm) f⟩
 have G:∀{x y:St},fI x.1->fI y.1->bC x->bC y->(∀f,f∈x.1->f∈y.1)->(∀f,f∈y.1->f∈x.1)->U4 x.2->U4 y.2->(∀s,ic x s=ic y s)->∀k∈x.2,k∈y.2:=by
  intro x y P S l r f1 f2 C B e k hk;have O:∀{x y:St},bC x->bC y->(∀f,f∈y.1->f∈x.1)->(∀s,ic x s=ic y s)->∀k∈x.2,∀w,Sem k.1 w=true->∃o∈y.2,Sem o.1 w=true/\o.2=k.2:=by
   intro x y l r f2 e k hk w K;have m:Sem k.1 (⟨w.toArray⟩:ByteArray).data.toList=true:=by simpa using K
   have d:=e ⟨w.toArray⟩;rw[Br l hk m]at d;rcases kU r ⟨w.toArray⟩with⟨g,I,H,_⟩|⟨g,I,H,D,_⟩
   .rcases kU l ⟨w.toArray⟩with⟨_,_,_,_,_,J⟩|⟨_,_,_,_,_,J⟩
    .rw[J k hk]at m;cases m
    .exact absurd H (J g (f2 g I))
   .rw[D]at d;simp only[Prod.mk.injEq,and_true]at d;exact⟨g,I,by simpa using H,d.symm⟩
  obtain⟨w,K⟩:=FW (l.sets k hk).1 (l.sets k hk).2;obtain⟨o,n,m,L⟩:=O l r f2 e k hk w K;have Q:k.1=o.1:=nu (jy (l.sets k hk).1) ((jy (r.sets o n).1).congr fun u=>by
   rw[Bool.eq_iff_iff];constructor
   .intro M;obtain⟨g,N,v,t⟩:=O r l f1 (fun s=>(e s).symm) o n u M;rw[C.Fv k hk g N (L.symm.trans t.symm)];exact v
   .intro M;obtain⟨g,N,v,t⟩:=O l r f2 e k hk u M;rw[B.Fv o n g N (L.trans t.symm)];exact v)
  rw[show k=o from Prod.ext Q L.symm];exact n
 have f1:∀f,f∈x.1->f∈y.1:=fun f z=>by rw[<-d];exact z
 have f2:∀f,f∈y.1->f∈x.1:=fun f z=>by rw[d];exact z
 have T:x.2=y.2:=Dm (R:=fun x y:Kl=>nX x.1 y.1<0) (fun x=>Lp x.1) (fun _ _ _ a b=>Qm a b) C.asc B.asc fun k=>
  ⟨G j.1 i.1 j.2 i.2 f1 f2 C B E k,G i.1 j.1 i.2 j.2 f2 f1 B C (fun s=>(E s).symm) k⟩
 exact Prod.ext d T
structure gza (n:Nat) (v:Vl):Prop where
 fzX:∀x∈v.aJ,∀y∈v.aJ,uF (df n) x y->x=y
 fzp:v.aJ.Pairwise fun x y=>Lm (gI n) x y<0
 fzU:∀x∈v.ay,∀y∈v.ay,uE (df n) x y->x=y
 fze:v.ay.Pairwise fun x y=>KJ (gI n) x y<0
 kls:∀c∈v.ay,U4 c.2
def zn:Nat->Vl->Prop
 |0,_=>False
 |n+1,v=>gza n v/\∀x∈v.kids,zn n x.1/\zn n x.2
theorem VX{α:Type}{p:α->Prop}{c:α->α->Int}(h:jV p c){x y z:α}(a:p x)(e:p y)(d:p z)(j:c x y<0)(i:c y z<0):c x z<0:=by
 have g:=h.tr x y z a e d zo zo;rcases Int.lt_or_eq_of_le g with b|b
 .exact b
 .have f:=(h.eq x z a d).1 b;subst f;have:=h.nW x y a e;omega
theorem Rc{α:Type}{p:α->Prop}{c:α->α->Int}(h:jV p c){x:α}(a:p x):¬c x x<0:=by
 have:=h.self a;omega
theorem asc_ext'{α:Type}{p:α->Prop}{c:α->α->Int}(h:jV p c){l m:List α}(f:∀x∈l,p x)(d:∀x∈m,p x)(i:l.Pairwise fun x y=>c x y<0)(g:m.Pairwise fun x y=>c x y<0)(e:∀x,x∈l↔x∈m):l=m:=by
 refine Dm (R:=fun x y=>p x/\p y/\c x y<0) (fun x k=>Rc h k.1 k.2.2) (fun x y z a b=>⟨a.1,b.2.1,VX h a.1 a.2.1 b.2.1 a.2.2 b.2.2⟩) ?_ ?_ e
 .exact i.imp_of_mem fun a b k=>⟨f _ a,f _ b,k⟩
 .exact g.imp_of_mem fun a b k=>⟨d _ a,d _ b,k⟩
theorem fzo{n:Nat}{v:Vl}(h:ib (n+1) v):∀x∈v.aJ,x.2.length<=1/\∀y∈aX x,ib n y.1/\ib n y.2:=fun x a=>⟨h.1.rest x a,fun y b=>h.2 y (dM a b)⟩
theorem fza{n:Nat}{v:Vl}(h:ib (n+1) v):∀x∈v.ay,(∀f∈x.1,ib n f.2.1/\ib n f.2.2)/\∀k∈x.2,bZ k.1/\ib n k.2.1/\ib n k.2.2:=fun x a=>
 ⟨fun _ b=>h.2 _ (oC a b),fun k hk=>⟨((h.1.st x a).2.sets k hk).1,h.2 _ (oG a hk)⟩⟩
theorem wZ:∀(n:Nat) (a b:Vl),ib n a->ib n b->zn n a->zn n b->df n a b->df n b a->a=b
 |0,_,_,h,_,_,_,_,_=>h.elim
 |n+1,a,b,c,d,f,cb,h,k=>by
  have H:=wZ n;have A:∀{a b:Vl},ib (n+1) a->ib (n+1) b->zn (n+1) a->zn (n+1) b->∀p∈a.kids,∀q∈b.kids,pO (df n) p q->pO (df n) q p->p=q:=fun c d f cb p i q g o m=>
   Prod.ext (H _ _ (c.2 p i).1 (d.2 q g).1 (f.2 p i).1 (cb.2 q g).1 o.1 m.1) (H _ _ (c.2 p i).2 (d.2 q g).2 (f.2 p i).2 (cb.2 q g).2 o.2 m.2)
  have T:∀{a b:Vl},ib (n+1) a->ib (n+1) b->∀p∈a.kids,∀q∈b.kids,∀r∈a.kids,pO (df n) p q->pO (df n) q r->pO (df n) p r:=fun c d p i q g r u o m=>
   ⟨Ei n _ _ _ (c.2 p i).1 (d.2 q g).1 (c.2 r u).1 o.1 m.1,Ei n _ _ _ (c.2 p i).2 (d.2 q g).2 (c.2 r u).2 o.2 m.2⟩
  rw[df]at h k;by_cases s:a.any=true
  .rw[zK (.inl s)]at h;obtain⟨o,m,D⟩:=c.1.any s;obtain⟨F,C,B⟩:=d.1.any h;exact DJ (by rw[s,h]) (by rw[o,F]) (by rw[m,C]) (by rw[D,B])
  by_cases E:b.any=true
  .rw[zK (.inl E)]at k;exact absurd k s
  rw[zJ (fun e=>e.elim s E)]at h;rw[zJ (fun e=>e.elim E s)]at k;rcases h with rfl|⟨o,m,D⟩
  .rfl
  rcases k with rfl|⟨F,C,B⟩
  .rfl
  have L:∀{a b:Vl},ib (n+1) a->ib (n+1) b->zn (n+1) a->zn (n+1) b->(∀x∈a.aJ,∃y∈b.aJ,uF (df n) x y)->(∀x∈b.aJ,∃y∈a.aJ,uF (df n) x y)->∀x∈a.aJ,x∈b.aJ:=by
   intro a b c d f cb h k x l;obtain⟨y,j,w⟩:=h x l;obtain⟨z,t,v⟩:=k y j;have G:=f.1.fzX x l z t (Ll (fun p i q g r u=>T c d p (dM l i) q (dM j g) r (dM t u)) w v);subst G;rw[Iu (c.1.rest x l) (d.1.rest y j) (fun p i q g=>A c d f cb p (dM l i) q (dM j g)) w v];exact j
  have S:∀{a b:Vl},ib (n+1) a->ib (n+1) b->zn (n+1) a->zn (n+1) b->(∀x∈a.ay,∃y∈b.ay,uE (df n) x y)->(∀x∈b.ay,∃y∈a.ay,uE (df n) x y)->∀x∈a.ay,x∈b.ay:=by
   intro a b c d f cb h k x l;obtain⟨y,j,w⟩:=h x l;obtain⟨z,t,v⟩:=k y j;have G:=f.1.fzU x l z t (KH (c.1.st x l).2 (d.1.st y j).2 (c.1.st z t).2 (fun p i q g r u=>T c d p (dP l i) q (dP j g) r (dP t u)) w v);subst G;rw[GG (c.1.st x l) (d.1.st y j) (f.1.kls x l) (cb.1.kls y j) (fun p i q g=>A c d f cb p (dP l i) q (dP j g)) w v];exact j
  refine DJ (by rw[Bool.eq_iff_iff];exact⟨fun e=>absurd e s,fun e=>absurd e E⟩) (GR c.1.sc d.1.sc fun e=>⟨o e,F e⟩) ?_ ?_
  .exact asc_ext' (uV (lX n)) (fzo c) (fzo d) f.1.fzp cb.1.fzp fun x=>⟨L c d f cb m C x,L d c cb f C m x⟩
  .exact asc_ext' (uQ (lX n)) (fza c) (fza d) f.1.fze cb.1.fze fun x=>⟨S c d f cb D B x,S d c cb f B D x⟩
end Cl
namespace Cl
def eZ{α β:Type}(f:α->Option β):List α->Option (List β)
 |[]=>some []
 |x::l=>(f x).bind fun y=>(eZ f l).map fun r=>y::r
theorem Eh{α β:Type}{f:α->Option β}{x:α}{l:List α}{r:List β}(h:eZ f (x::l)=some r):∃y t,r=y::t/\f x=some y/\eZ f l=some t:=by
 unfold eZ at h;rw[Option.bind_eq_some_iff]at h;obtain⟨y,c,a⟩:=h;rw[Option.map_eq_some_iff]at a;obtain⟨t,b,rfl⟩:=a;exact⟨y,t,rfl,c,b⟩
theorem gP{α β:Type}{f:α->Option β}:∀{l:List α} {r:List β},eZ f l=some r->r.length=l.length
 |[],r,h=>by unfold eZ at h;cases h;rfl
 |x::l,r,h=>by obtain⟨y,t,rfl,_,a⟩:=Eh h;simp[gP a]
theorem nK{α β:Type}{f:α->Option β}:∀{l:List α} {r:List β},eZ f l=some r->∀i (a:i<l.length) (h2:i<r.length),f l[i]=some r[i]
 |[],r,_,i,a,_=>by simp at a
 |x::l,r,h,i,a,h2=>by
  obtain⟨y,t,rfl,c,b⟩:=Eh h
  cases i with
  |zero=>exact c
  |succ i=>simpa using nK b i (by simpa using a) qep
theorem fZ{α β:Type}{f:α->Option β}{l:List α}{r:List β}(h:eZ f l=some r){y:β}(a:y∈r):∃x∈l,f x=some y:=by
 obtain⟨i,hi,rfl⟩:=yX a;have b:=gP h;exact⟨_,zF zo,nK h i zo hi⟩
theorem mapO_mem'{α β:Type}{f:α->Option β}{l:List α}{r:List β}(h:eZ f l=some r){x:α}(a:x∈l):∃y∈r,f x=some y:=by
 obtain⟨i,hi,rfl⟩:=yX a;have b:=gP h;exact⟨_,zF zo,nK h i hi zo⟩
theorem Eg{α β:Type}{f:α->Option β}:∀(l:List α) (x:α),eZ f (l++[x])=(eZ f l).bind fun r=>(f x).map fun y=>r++[y]
 |[],x=>by
  show(f x).bind (fun y=>(some []).map fun r=>y::r)=(some []).bind fun r=>(f x).map fun y=>r++[y]
  cases f x<;>rfl
 |z::l,x=>by
  rw[xK,eZ,Eg l x,eZ]
  cases f z with
  |none=>rfl
  |some u=>
   cases eZ f l with
   |none=>rfl
   |some r=>cases f x<;>rfl
theorem qF{α β:Type}{f:α->Option β}{l:List α}{k:Nat}(h:k<l.length):eZ f (l.take (k+1))=(eZ f (l.take k)).bind fun r=>(f l[k]).map fun y=>r++[y]:=by
 rw[zH h,Eg]
theorem lN{α β:Type}{f:α->Option β}:∀{l:List α} {x:α},x∈l->f x=none->eZ f l=none
 |z::l,x,a,h=>by
  rw[eZ];rcases yA.1 a with rfl|a
  .rw[h];rfl
  .rw[lN a h];cases f z<;>rfl
noncomputable def CW{α:Type}(c:α->α->Int)(x:α):List α->List α
 |[]=>[x]
 |y::l=>if c x y<=0 then x::y::l else y::CW c x l
noncomputable def eU{α:Type}(c:α->α->Int):List α->List α
 |[]=>[]
 |x::l=>CW c x (eU c l)
theorem Al{α:Type}(c:α->α->Int)(x:α):∀l:List α,(CW c x l).Perm (x::l)
 |[]=>List.Perm.refl _
 |y::l=>by
  unfold CW
  split
  .exact List.Perm.refl _
  .exact((Al c x l).cons y).trans (List.Perm.swap x y l)
theorem iY{α:Type}(c:α->α->Int):∀l:List α,(eU c l).Perm l
 |[]=>List.Perm.refl _
 |x::l=>(Al c x _).trans ((iY c l).cons x)
theorem dF{α:Type}{c:α->α->Int}{l:List α}{x:α}:x∈eU c l↔x∈l:=(iY c l).mem_iff
theorem KN{α:Type}{p:α->Prop}{c:α->α->Int}(h:jV p c):∀{l:List α},(∀x∈l,p x)->(eU c l).Pairwise fun x y=>c x y<=0
 |[],_=>List.Pairwise.nil
 |x::l,a=>by
  have d:∀(x:α) (l:List α),p x->(∀y∈l,p y)->(l.Pairwise fun x y=>c x y<=0)->(CW c x l).Pairwise fun x y=>c x y<=0:=by
   intro x l e
   induction l with
   |nil=>intro _ _;simp[CW]
   |cons y l ih=>
    intro a b;rw[yS]at b;unfold CW
    split
    .rename_i f;refine yS.2 ⟨fun z hz=>?_,yS.2 b⟩;rcases yA.1 hz with rfl|hz
     .exact f
     .exact h.tr x y z e (a y zS) (a z qeq) f (b.1 z hz)
    .rename_i f;refine yS.2 ⟨fun z hz=>?_,ih (fun z hz=>a z qeq) b.2⟩;rcases yA.1 ((Al c x l).mem_iff.1 hz)with rfl|hz
     .have:=h.nW y z (a y zS) e;have:=h.nW z y e (a y zS);omega
     .exact b.1 z hz
  exact d x _ (a x zS) (fun y hy=>a y (by simp[dF.1 hy])) (KN h fun y hy=>a y qef)
theorem KG{α:Type}{p:α->Prop}{c:α->α->Int}(h:jV p c){l:List α}(d:∀x∈l,p x)(i:l.Nodup)(g:l.Pairwise fun x y=>c x y<=0):l.Pairwise fun x y=>c x y<0:=by
 refine(g.and i).imp_of_mem fun {a b} ha hb ⟨f,e⟩=>?_;rcases Int.lt_or_eq_of_le f with k|k
 .exact k
 .exact absurd ((h.eq a b (d a ha) (d b hb)).1 k) e
theorem j5{α:Type}{p:α->Prop}{c:α->α->Int}(h:jV p c){l:List α}(a:∀x∈l,p x)(d:l.Nodup):(eU c l).Pairwise fun x y=>c x y<0:=
 KG h (fun x b=>a x (dF.1 b)) ((iY c l).nodup_iff.2 d) (KN h a)
theorem Po{α:Type}{p:α->Prop}{c:α->α->Int}(h:jV p c){l d:List α}(b:∀x∈l,p x)(f:l.Nodup)(e:d.Perm l)(g:d.Pairwise fun x y=>c x y<=0):d=eU c l:=
 asc_ext' h (fun x a=>b x (e.mem_iff.1 a)) (fun x a=>b x (dF.1 a)) (KG h (fun x a=>b x (e.mem_iff.1 a)) (e.nodup_iff.2 f) g) (j5 h b f) fun _=>e.mem_iff.trans dF.symm
def rW{α:Type}(R:α->α->Prop)(l:List α)(i:Nat):Prop:=∀k (hk:k<l.length) (hi:i<l.length),k≠i->R l[i] l[k]->¬(k<i\/¬R l[k] l[i])
noncomputable def ig{α:Type}(R:α->α->Prop)(l:List α)(n:Nat):List α:=((List.range n).filter fun i=>tf (rW R l i)).filterMap fun i=>l[i]?
noncomputable def mh{α:Type}(R:α->α->Prop)(l:List α):List α:=ig R l l.length
theorem tY{α:Type}{R:α->α->Prop}{l:List α}{n:Nat}(h:n<l.length)(k:rW R l n):ig R l (n+1)=ig R l n++[l[n]]:=by
 unfold ig;rw[List.range_succ,List.filter_append,List.filterMap_append];simp[aN k,h]
theorem CP{α:Type}{R:α->α->Prop}{l:List α}{n:Nat}(k:¬rW R l n):ig R l (n+1)=ig R l n:=by
 unfold ig;rw[List.range_succ,List.filter_append,List.filterMap_append];simp[aG k]
theorem Ef{α:Type}{R:α->α->Prop}{l:List α}{n:Nat}{x:α}(a:x∈ig R l n):∃i,∃h:i<l.length,i<n/\rW R l i/\l[i]=x:=by
 unfold ig at a;obtain⟨i,g,f⟩:=List.mem_filterMap.1 a;obtain⟨e,d⟩:=xR.1 g;obtain⟨c,b⟩:=yB.1 f;exact⟨i,c,yQ.1 e,j4.1 d,b⟩
theorem dV{α:Type}{R:α->α->Prop}{l:List α}{x:α}(a:x∈mh R l):x∈l:=by
 obtain⟨i,h,_,_,rfl⟩:=Ef a;exact zF h
theorem tZ{α:Type}{R:α->α->Prop}{l:List α}(n:∀x∈l,∀y∈l,R x y->R y x->x=y){x:α}:x∈mh R l↔x∈l/\∀y∈l,R x y->x=y:=by
 constructor
 .intro d;obtain⟨i,h,_,j,rfl⟩:=Ef d;refine⟨zF h,fun y o a=>?_⟩;obtain⟨k,hk,rfl⟩:=yX o;by_cases e:k=i
  .subst e;rfl
  .have b:=j k hk h e a;exact n _ (zF _) _ (zF _) a (zP fun r=>b (.inr r))
 .rintro⟨d,q⟩;obtain⟨g,f,s⟩:=yX d;obtain⟨i,⟨hi,e⟩,c⟩:=qG (fun i:Nat=>i) (fun i=>∃h:i<l.length,l[i]=x) g g (zI _) ⟨f,s⟩;unfold mh ig;refine List.mem_filterMap.2 ⟨i,xR.2 ⟨yQ.2 hi,aN fun k hk _ p a=>?_⟩,by rw[yH hi,e]⟩;rw[e]at a;have m:=q _ (zF hk) a;have j:=c k ⟨hk,m.symm⟩;rintro(b|b)
  .omega
  .rw[e]at b;rw[<-m]at b a;exact b a
theorem ll{α:Type}{R:α->α->Prop}{l:List α}(refl:∀x∈l,R x x):(mh R l).Nodup:=by
 have f:∀n,n<=l.length->(ig R l n).Nodup:=by
  intro n
  induction n with
  |zero=>intro _;exact List.nodup_nil
  |succ n ih=>
   intro g;by_cases k:rW R l n
   .rw[tY zo k,List.nodup_append];refine⟨ih zo,zS,fun x c y b e=>?_⟩;obtain rfl:=zZ.1 b;obtain⟨i,hi,a,_,d⟩:=Ef c;refine k i hi zo zo ?_ (.inl a);rw[d,e];exact refl _ (zF _)
   .rw[CP k];exact ih zo
 exact f _ (zI _)
end Cl
namespace Cl
noncomputable def dzN(f:List UInt8->Bool):aK:=Classical.epsilon fun C=>eP f C
theorem Iy{f:List UInt8->Bool}{C:aK}(h:eP f C):dzN f=C:=by
 exact nu (Classical.epsilon_spec (p:=fun C=>eP f C) ⟨C,h⟩) h
noncomputable def orT(A B:aK):aK:=dzN fun w=>Sem A w||Sem B w
noncomputable def iP(v:Vl):Bool := !v.any&&decide (v.aJ.length=0)&&decide (v.ay.length=0)&&mR v.s
noncomputable def fO(c:Vl->Option Vl)(le:Vl->Vl->Prop)(d:Vd):Option Vd:=(c d.1).bind fun a=>(c d.2).bind fun b=>if tf (le b a)=true then some (a,b)else none
noncomputable def lC(c:Vl->Option Vl)(le:Vl->Vl->Prop)(x:Lc):Option (Lc×Bool):=
 (eZ (fO c le) x.1).bind fun l=>(eZ (fO c le) x.2).map fun r=>((l,r.filter fun d => !iP d.1),l.all fun d => !iP d.1)
noncomputable def kJ(out:List Kl)(k:Kl):List Kl:=match out.findIdx? (fun x=>tf (x.2=k.2))with
 |none=>out++[k]
 |some i=>out.set i (orT (out.getD i k).1 k.1,k.2)
noncomputable def sj(c:Vl->Option Vl)(le:Vl->Vl->Prop)(f:Fd):Option Fd:=(fO c le f.2).map fun d=>(f.1,d)
noncomputable def nQ(c:Vl->Option Vl)(le:Vl->Vl->Prop)(k:Kl):Option Kl:=(fO c le k.2).map fun d=>(k.1,d)
noncomputable def F6(a b:Kl):Int:=nX a.1 b.1
noncomputable def kE(c:Vl->Option Vl)(le:Vl->Vl->Prop)(x:St):Option (St×Bool):=
 (eZ (sj c le) x.1).bind fun fs=>(eZ (nQ c le) x.2).map fun a=>((fs,eU F6 (a.foldl kJ [])),fs.all fun f => !iP f.2.1)
def bI{α:Type}(l:List (α×Bool)):List α:=(l.filter (·.2)).map (·.1)
def J8(v:Vl):Prop:=∃x y,v.aJ=[x]/\v.ay=[y]/\(∀e,Ob e->v.s.has e)/\(x.1=[]/\∃d,x.2=[d]/\(d.1.any&&d.2.any)=true)/\y.1=[]/\∃k,y.2=[k]/\(k.2.1.any&&k.2.2.any)=true
noncomputable def jC(n:Nat)(v:Vl)(ls:List Lc)(a:List St):Vl:=
 .mk false v.s (eU (Lm (gI n)) (mh (uF (df n)) ls)) (eU (KJ (gI n)) (mh (uE (df n)) a))
noncomputable def bR:Nat->Vl->Option Vl
 |0,_=>none
 |n+1,v=>if v.any=true then some v else
  (eZ (lC (bR n) (df n)) v.aJ).bind fun ls=>(eZ (kE (bR n) (df n)) v.ay).map fun a=>
   if tf (J8 (jC n v (bI ls) (bI a)))=true then eX else jC n v (bI ls) (bI a)
structure JO (n:Nat) (d:Vd):Prop where
 s1:ib n d.1
 s2:ib n d.2
 c1:zn n d.1
 c2:zn n d.2
 le:df n d.2 d.1
theorem Dh{n:Nat}(H:∀v u,ib n v->bR n v=some u->ib n u/\zn n u){d e:Vd}(f:ib n d.1)(c:ib n d.2)(h:fO (bR n) (df n) d=some e):JO n e:=by
 unfold fO at h;obtain⟨a,i,h⟩:=Option.bind_eq_some_iff.1 h;obtain⟨b,g,h⟩:=Option.bind_eq_some_iff.1 h
 split at h
 .rename_i j;cases h;exact⟨(H _ _ f i).1,(H _ _ c g).1,(H _ _ f i).2,(H _ _ c g).2,j4.1 j⟩
 .cases h
theorem Jo{n:Nat}(H:∀v u,ib n v->bR n v=some u->ib n u/\zn n u){x:Lc}{y:Lc×Bool}(g:x.2.length<=1)(hk:∀d∈aX x,ib n d.1/\ib n d.2)(h:lC (bR n) (df n) x=some y):y.1.2.length<=1/\∀d∈aX y.1,JO n d:=by
 unfold lC at h;obtain⟨l,f,h⟩:=Option.bind_eq_some_iff.1 h;obtain⟨r,e,rfl⟩:=Option.map_eq_some_iff.1 h;have i:=gP e;have j:=vB (fun d:Vd => !iP d.1) r;refine⟨by simp only;omega,fun d a=>?_⟩;rcases yP.1 a with a|a
 .obtain⟨z,b,c⟩:=fZ f a;have:=hk z (yP.2 (.inl b));exact Dh H this.1 this.2 c
 .obtain⟨z,b,c⟩:=fZ e (xR.1 a).1;have:=hk z (yP.2 (.inr b));exact Dh H this.1 this.2 c
structure Merge (ks out:List Kl):Prop where
 sets:∀k∈out,bZ k.1/\k.1≠[]
 cnt:∀w,out.countP (fun k=>Sem k.1 w)=ks.countP (fun k=>Sem k.1 w)
 Fv:(out.map (·.2)).Nodup
 vals:∀k∈out,∃k'∈ks,k'.2=k.2
theorem Jd{α:Type}(p:α->Bool):∀(l:List α) (i:Nat) (h:i<l.length) (y:α),(l.set i y).countP p+(if p l[i]then 1 else 0)=l.countP p+if p y then 1 else 0
 |[],i,h,_=>by simp at h
 |x::l,0,_,y=>by simp only[List.set_cons_zero,List.countP_cons,xL];omega
 |x::l,i+1,h,y=>by
  have:=Jd p l i qd5 y;simp only[List.set_cons_succ,List.countP_cons,List.getElem_cons_succ];omega
theorem K8:Merge [] []:=⟨zS,zS,zS,zS⟩
theorem K9{d out:List Kl}{k:Kl}(h:Merge d out)(hk:bZ k.1/\k.1≠[])(t:∀w,(d++[k]).countP (fun k=>Sem k.1 w)<=1)
(r:∀A B:aK,bZ A->bZ B->∃C,eP (fun w=>Sem A w||Sem B w) C):Merge (d++[k]) (kJ out k):=by
 unfold kJ
 split
 .rename_i e;have m:∀x∈out,x.2≠k.2:=fun x hx hh=>by
   exact qcP
  refine⟨fun x hx=>?_,fun w=>by rw[List.countP_append,List.countP_append,h.cnt],?_,fun x hx=>?_⟩
  .rcases yP.1 hx with hx|hx
   .exact h.sets x hx
   .rw[zZ.1 hx];exact hk
  .rw[yI,List.nodup_append];refine⟨h.Fv,zS,fun a u b o g=>?_⟩;obtain⟨x,hx,rfl⟩:=yD.1 u;simp only[yL,xB,zZ]at o;exact m x hx (g.trans o)
  .rcases yP.1 hx with hx|hx
   .exact qc9
   .rw[zZ.1 hx];exact⟨k,zS,rfl⟩
 .rename_i i e;obtain⟨hi,h1,_⟩:=List.findIdx?_eq_some_iff_getElem.1 e;have q:out[i].2=k.2:=j4.1 h1;have s:out.getD i k=out[i]:=by simp[hi]
  rw[s];obtain⟨C,c⟩:=r out[i].1 k.1 (h.sets _ (zF hi)).1 hk.1;have y:orT out[i].1 k.1=C:=Iy c;rw[y];have n:∀w,Sem C w=(Sem out[i].1 w||Sem k.1 w):=fun w=>by rw[dG c.canon];exact c.qp w
  have f:C≠[]:=fun e=>by
   obtain⟨w,p⟩:=FW hk.1 hk.2;have:=n w;rw[p,Bool.or_true,e,dG iy,gK]at this;cases this
  refine⟨fun x hx=>?_,fun w=>?_,?_,fun x hx=>?_⟩
  .rcases List.mem_or_eq_of_mem_set hx with hx|rfl
   .exact h.sets x hx
   .exact⟨c.canon,f⟩
  .have h2:=Jd (fun k:Kl=>Sem k.1 w) out i hi (C,k.2);have l:=t w;have z:=h.cnt w;rw[List.countP_append]at l⊢;have v:(if Sem out[i].1 w=true then 1 else 0)<=out.countP (fun k=>Sem k.1 w):=by
    split
    .rename_i hh;exact List.countP_pos_iff.2 ⟨_,zF hi,hh⟩
    .exact zG _
   simp only[List.countP_cons,List.countP_nil,yZ]at l⊢;simp only[n]at h2;cases e1:Sem out[i].1 w<;>cases m:Sem k.1 w<;>simp only[e1,m,Bool.or_true,Bool.or_false,if_true,Bool.false_eq_true,if_false]at h2 l v⊢<;>omega
  .rw[show(out.set i (C,k.2)).map (·.2)=out.map (·.2) from by
    rw[List.map_set];refine vF zS fun j a b=>?_;rw[List.getElem_set]
    split
    .rename_i e;subst e;simpa using q.symm
    .rfl]
   exact h.Fv
  .rcases List.mem_or_eq_of_mem_set hx with hx|rfl
   .exact qc9
   .exact⟨k,zS,rfl⟩
end Cl
namespace Cl
theorem az3{T:aK}{N:Nat}(pos:0<N)(cl:∀s:Nat,s<N->∀b,b<256->∃t:Nat,t<N/\cu T s b=t):∃C,eP (aH T 0) C:=by
 by_cases y:∃w,aH T 0 w=true
 case neg=>
  refine⟨[],iy,fun w=>?_⟩;rw[gK]
  cases h:aH T 0 w with
  |false=>rfl
  |true=>exact absurd ⟨w,h⟩ y
 obtain⟨dl,m⟩:∃dl:Nat->Nat->Option Nat,∀s i,dl s i=if tf (∃w,aH T (cu T s i) w=true)=true then some (cu T s i).toNat else none:=⟨_,fun _ _=>rfl⟩;have a:∀s:Nat,∃t:Nat,(∀w,aH T t w=aH T s w)/\∀u:Nat,(∀w,aH T u w=aH T s w)->t<=u:=fun s=>by
  obtain⟨t,f,c⟩:=qG (fun t:Nat=>t) (fun t:Nat=>∀w,aH T t w=aH T s w) s s (zI _) fun _=>rfl;exact⟨t,f,c⟩
 have H:zq T N (fun s=>((a s).choose:Int)) dl (fun i=>i) (fun i=>i) (fun s=>bL T s) 256:=by
  refine⟨⟨fun i h=>⟨zI _,h⟩,fun i j h _=>h,fun b h=>⟨b,h,zI _,zI _⟩⟩,pos,fun s i t r hi h=>?_,fun s i r hi h b f c w=>?_,fun s t r ht=>?_,fun s _=>rfl,y⟩
  .rw[m]at h;obtain⟨D,q,e⟩:=cl s r i hi
   split at h
   .rename_i d;cases h;rw[e,Int.toNat_natCast];refine⟨q,by have:=j4.1 d;rwa [e]at this,fun b f c w=>?_⟩;obtain rfl:b=i:=Nat.le_antisymm c f;rw[e]
   .cases h
  .rw[m]at h;obtain rfl:b=i:=Nat.le_antisymm c f
   split at h
   .cases h
   .rename_i d
    cases h4:aH T (cu T s b) w with
    |false=>rfl
    |true=>exact absurd (aN ⟨w,h4⟩) d
  .have p:=(a s).choose_spec;have o:=(a t).choose_spec;constructor
   .intro e;have e:(a s).choose=(a t).choose:=Int.ofNat_inj.1 e;intro w;rw[<-p.1 w,e,o.1 w]
   .intro e;have f:=p.2 (a t).choose fun w=>(o.1 w).trans (e w).symm;have c:=o.2 (a s).choose fun w=>(p.1 w).trans (e w);have:(a s).choose=(a t).choose:=zo;simp only[this]
 generalize (fun s=>((a s).choose:Int))=cf at H;have n:∀s i t,s<N->i<256->dl s i=some t->t<N:=fun s i t f c d=>(H.some s i t f c d).1;have g:∀k,(∀j,j<k->j<(dH cf dl (fun i=>i) (fun i=>i) (fun s=>bL T s) 256 j).1.length)->(dH cf dl (fun i=>i) (fun i=>i) (fun s=>bL T s) 256 k).1.length<=N:=fun k hk=>by
  have B:=F8 (cf:=cf) (ac:=fun s=>bL T s) H.iv H.pos n k hk;exact u7 B.Fv B.lt
 have A:∃k,(dH cf dl (fun i=>i) (fun i=>i) (fun s=>bL T s) 256 k).1.length<=k:=by
  by_cases h:∀j,j<N->j<(dH cf dl (fun i=>i) (fun i=>i) (fun s=>bL T s) 256 j).1.length
  .exact⟨N,g N h⟩
  .refine zP fun c=>h fun j _=>?_;rcases Nat.lt_or_ge j (dH cf dl (fun i=>i) (fun i=>i) (fun s=>bL T s) 256 j).1.length with d|d
   .exact d
   .exact absurd ⟨j,d⟩ c
 obtain⟨x,v⟩:=A;obtain⟨k,f,c⟩:=qG (fun k:Nat=>k) (fun k=>(dH cf dl (fun i=>i) (fun i=>i) (fun s=>bL T s) 256 k).1.length<=k) x x (zI _) v;have hk:∀j,j<k->j<(dH cf dl (fun i=>i) (fun i=>i) (fun s=>bL T s) 256 j).1.length:=fun j E=>by
  rcases Nat.lt_or_ge j (dH cf dl (fun i=>i) (fun i=>i) (fun s=>bL T s) 256 j).1.length with h|h
  .exact h
  .have:=c j h;omega
 have B:=F8 (cf:=cf) (ac:=fun s=>bL T s) H.iv H.pos n k hk;have l:(dH cf dl (fun i=>i) (fun i=>i) (fun s=>bL T s) 256 k).1.length=k:=by
  rcases Nat.eq_zero_or_pos k with e|e
  .subst e;simp[dH]at f
  .obtain⟨d,_⟩:=B.state (k-1) (by rw[B.len];omega);omega
 have z:=Ms H hk l;exact⟨_,z.1,z.2⟩
def nD(n:Nat)(i:Int):Nat:=if 0<=i/\i<n then i.toNat else n
theorem F5(n:Nat)(i:Int):nD n i<=n:=by unfold nD;split<;>omega
def ZT(A B:aK)(op:Bool->Bool->Bool):aK:=(List.range ((A.length+1)*(B.length+1))).map fun s=>
 ⟨op (bL A (s/(B.length+1):Nat)) (bL B (s%(B.length+1):Nat)),(List.range 256).map fun x=>
  ⟨x,x,((nD A.length (cu A (s/(B.length+1):Nat) x)*(B.length+1)+nD B.length (cu B (s%(B.length+1):Nat) x):Nat):Int)⟩⟩
theorem LV(f:Nat->Int):∀(n b k:Nat),k<=b->b<k+n->bH ((List.range' k n).map fun x=>(⟨x,x,f x⟩:Ed)) b=f b
 |0,b,k,h1,h2=>zo
 |n+1,b,k,h1,h2=>by
  rw[List.range'_succ,yL,bH];by_cases e:b=k
  .subst e;rw[zK ⟨zI _,zI _⟩]
  .rw[zJ (by simp only;omega)];exact LV f n b (k+1) zo zo
theorem Yz{l:aK}{i:Int}(h:¬(0<=i/\i<l.length)):bL l i=false:=by
 unfold bL;by_cases a:i<0
 .rw[zK a]
 .rw[zJ a,vC zo]
theorem Ww{l:aK}{i:Int}(h:¬(0<=i/\i<l.length))(b:Nat):cu l i b = -1:=by
 unfold cu;by_cases a:i<0
 .rw[zK a]
 .rw[zJ a,vC zo]
theorem Gb(l:aK):∀(w:List UInt8) (i:Int),aH l (nD l.length i) w=aH l i w
 |w,i=>by
  unfold nD
  split
  .rename_i h;rw[Int.toNat_of_nonneg h.1]
  .rename_i h;have a:∀(w:List UInt8) (i:Int),¬(0<=i/\i<l.length)->aH l i w=false:=fun w i h=>by
    cases w with
    |nil=>exact Yz h
    |cons b w=>rw[aH,Ww h];exact gL zo w
   rw[a w i h,a w _ zo]
section
variable {A B:aK} {op:Bool->Bool->Bool}
theorem VD{s:Nat}(h:s<(A.length+1)*(B.length+1)):(ZT A B op)[s]?=some ⟨op (bL A (s/(B.length+1):Nat)) (bL B (s%(B.length+1):Nat)),(List.range 256).map fun x=>
 ⟨x,x,((nD A.length (cu A (s/(B.length+1):Nat) x)*(B.length+1)+nD B.length (cu B (s%(B.length+1):Nat) x):Nat):Int)⟩⟩:=by
 unfold ZT;rw[List.getElem?_map,List.getElem?_range h]
 rfl
theorem K7{s:Nat}(h:s<(A.length+1)*(B.length+1)){b:Nat}(a:b<256):cu (ZT A B op) s b=((nD A.length (cu A (s/(B.length+1):Nat) b)*(B.length+1)+nD B.length (cu B (s%(B.length+1):Nat) b):Nat):Int):=by
 unfold cu;rw[zJ zo,Int.toNat_natCast,VD h];simp only;rw[List.range_eq_range'];exact LV (fun x=>((nD A.length (cu A (s/(B.length+1):Nat) x)*(B.length+1)+nD B.length (cu B (s%(B.length+1):Nat) x):Nat):Int)) 256 b 0 (zG _) zo
theorem Tf(i j:Int):nD A.length i*(B.length+1)+nD B.length j<(A.length+1)*(B.length+1):=by
 have a:=F5 A.length i;have b:=F5 B.length j;have:=Nat.mul_le_mul_right (B.length+1) a;rw[Nat.add_mul];omega
theorem VC:∀(w:List UInt8) (i j:Int),aH (ZT A B op) ((nD A.length i*(B.length+1)+nD B.length j:Nat):Int) w=op (aH A i w) (aH B j w)
 |[],i,j=>by
  have c:=F5 B.length j;rw[<-Gb A [] i,<-Gb B [] j];show bL _ _=op (bL A _) (bL B _);have b:(nD A.length i*(B.length+1)+nD B.length j)/(B.length+1)=nD A.length i:=by
   exact qdh
  have a:(nD A.length i*(B.length+1)+nD B.length j)%(B.length+1)=nD B.length j:=by
   rw[Nat.mul_comm,Nat.mul_add_mod,Nat.mod_eq_of_lt zo]
  unfold bL;rw[zJ zo,Int.toNat_natCast,VD (Tf i j),b,a]
  rfl
 |x::w,i,j=>by
  have c:=F5 B.length j;rw[<-Gb A (x::w) i,<-Gb B (x::w) j];rw[aH,K7 (Tf i j) x.toNat_lt];have b:(nD A.length i*(B.length+1)+nD B.length j)/(B.length+1)=nD A.length i:=by
   exact qdh
  have a:(nD A.length i*(B.length+1)+nD B.length j)%(B.length+1)=nD B.length j:=by
   rw[Nat.mul_comm,Nat.mul_add_mod,Nat.mod_eq_of_lt zo]
  rw[b,a,VC w]
  rfl
end
theorem ZF{A B:aK}(op:Bool->Bool->Bool)(g:bZ A)(f:bZ B):∃C,eP (fun w=>op (Sem A w) (Sem B w)) C:=by
 obtain⟨C,d⟩:=az3 (T:=ZT A B op) (N:=(A.length+1)*(B.length+1)) (Nat.mul_pos zo zo) fun s a b c=>⟨_,Tf _ _,K7 a c⟩;refine⟨C,d.congr fun w=>?_⟩;rw[dG g,dG f];refine Eq.trans ?_ (VC (op:=op) w 0 0)
 congr 1
 have e:∀n:Nat,nD n 0=0:=fun n=>by unfold nD;split<;>omega
 rw[e,e];simp
theorem DU{α:Type}[DecidableEq α]{f:List UInt8->Bool}{C:aK}(h:eP f C)(_:C≠[])(φ:List UInt8->α)(l:List α)(y:∀w,φ w∈l)(q:∀w w',φ w=φ w'->∀u,f (w++u)=f (w'++u)):C.length<=l.length:=by
 have a:∀s:Nat,s<C.length->∃w:List UInt8,∀u,aH C 0 (w++u)=aH C s u:=by
  intro s
  induction s using Nat.strongRecOn with
  |_ s ih=>
   intro m;rcases Nat.eq_zero_or_pos s with rfl|v
   .exact⟨[],fun u=>rfl⟩
   .obtain⟨k,b,A,h2,z⟩:=h.canon.reach s v m;obtain⟨w,t⟩:=ih k A zo;refine⟨w++[UInt8.ofNat b],fun u=>?_⟩;rw[xD,t,List.singleton_append,aH,UInt8.toNat_ofNat_of_lt' qep,z]
 obtain⟨g,c⟩:∃g:Nat->List UInt8,∀s,s<C.length->∀u,aH C 0 (g s++u)=aH C s u:=⟨fun s=>Classical.epsilon fun w=>∀u,aH C 0 (w++u)=aH C s u,fun s m=>Classical.epsilon_spec (p:=fun w=>∀u,aH C 0 (w++u)=aH C s u) (a s m)⟩;have o:((List.range C.length).map fun s=>φ (g s)).Nodup:=by
  refine List.pairwise_map.2 ((List.pairwise_lt_range (n:=C.length)).imp_of_mem fun {i j} hi d hij e=>?_);have hi:=yQ.1 hi;have d:=yQ.1 d;have:=h.canon.czF i j hi d fun u=>by
   rw[<-c i hi,<-c j d,h.qp,h.qp];exact q _ _ e u
  omega
 have:=lM _ l o fun x r=>by obtain⟨s,_,rfl⟩:=yD.1 r;exact y _
 exact qbe
end Cl
namespace Cl
theorem jR:∀{n:Nat} {v:Vl},Ht n v->df n v v
 |0,_,h=>h.elim
 |n+1,v,_=>by
  rw[df]
  split
  .rename_i h;exact h.elim id id
  .exact .inl rfl
theorem Ir{n:Nat}{x:Lc}(h:∀d∈aX x,Ht n d.1/\Ht n d.2):uF (df n) x x where
 len:=zI _
 shut e:=⟨zI _,e⟩
 items i hi:=by
  have:=h _ (mJ hi);rcases mQ x i with⟨_,e⟩|⟨_,_,_⟩|⟨_,_⟩
  .rw[e];exact⟨jR this.1,jR this.2⟩
  .omega
  .omega
 rest ha _:=by
  have:=h _ (lS ha);exact⟨jR this.1,jR this.2⟩
theorem GD{n:Nat}{x:St}(a:bC x)(h:∀d∈bJ x,Ht n d.1/\Ht n d.2):uE (df n) x x:=
 (Ad a a).2 fun s=>⟨xU _,jR (h _ (nH a s)).1,jR (h _ (nH a s)).2⟩
theorem Ic{b out a:List Kl}(h:Merge b out)(p:a.Perm out):Merge b a:=
 ⟨fun k hk=>h.sets k (p.mem_iff.1 hk),fun w=>(p.countP_eq _).trans (h.cnt w),(p.map _).nodup_iff.2 h.Fv,fun k hk=>h.vals k (p.mem_iff.1 hk)⟩
theorem Ie:∀(ks done out:List Kl),Merge done out->(∀k∈ks,bZ k.1/\k.1≠[])->(∀w,(done++ks).countP (fun k=>Sem k.1 w)<=1)->Merge (done++ks) (ks.foldl kJ out)
 |[],done,out,h,_,_=>by simpa using h
 |k::ks,done,out,h,hk,hc=>by
  rw[List.foldl_cons,show done++k::ks=(done++[k])++ks by simp];refine Ie ks _ _ (K9 h (hk k zS) (fun w=>?_) fun A B b a=>ZF (fun x y=>x||y) b a) (fun x hx=>hk x qd4) fun w=>by have:=hc w;rwa [show done++k::ks=(done++[k])++ks by simp]at this
  exact qb5
theorem A9{α β:Type}{f:α->β}:∀{l:List α},(l.map f).Nodup->∀x∈l,∀y∈l,f x=f y->x=y
 |[],_,x,hx,_,_,_=>by simp at hx
 |z::l,h,x,hx,y,hy,e=>by
  rw[yL,List.nodup_cons]at h;rcases yA.1 hx with b|b
  .rcases yA.1 hy with a|a
   .rw[b,a]
   .exact absurd (yD.2 ⟨y,a,by rw[<-e,b]⟩) h.1
  .rcases yA.1 hy with a|a
   .exact absurd (yD.2 ⟨x,b,by rw[e,a]⟩) h.1
   .exact A9 h.2 x b y a e
theorem BH{out:List Kl}(d:∀k∈out,bZ k.1/\k.1≠[])(h:∀w,out.countP (fun k=>Sem k.1 w)<=1)(t:(out.map (·.2)).Nodup):U4 (eU F6 out):=by
 refine⟨fun x hx y hy e=>A9 t x (dF.1 hx) y (dF.1 hy) e,?_⟩;have i:∀{out:List Kl},(∀k∈out,bZ k.1/\k.1≠[])->(∀w,out.countP (fun k=>Sem k.1 w)<=1)->(out.map (·.1)).Nodup:=by
  intro out
  induction out with
  |nil=>intro _ _;simp
  |cons k out ih=>
   intro d h;rw[yL,List.nodup_cons];refine⟨fun s=>?_,ih (fun x hx=>d x qd4) fun w=>by have:=h w;rw[List.countP_cons]at this;omega⟩;obtain⟨y,hy,e⟩:=yD.1 s;obtain⟨w,n⟩:=FW (d k zS).1 (d k zS).2;have c:=h w;have o:0<out.countP (fun k=>Sem k.1 w):=List.countP_pos_iff.2 ⟨y,hy,by rw[e];exact n⟩;rw[List.countP_cons,zK n]at c;omega
 have r:=i d h;have j:∀(x:Kl) (l:List Kl),(∀y∈l,bZ y.1)->bZ x.1->(l.Pairwise fun x y=>nX x.1 y.1<=0)->(CW F6 x l).Pairwise fun x y=>nX x.1 y.1<=0:=by
  intro x l
  induction l with
  |nil=>intro _ _ _;simp[CW]
  |cons y l ih=>
   intro f hx g;rw[yS]at g;unfold CW
   split
   .rename_i c;refine yS.2 ⟨fun z hz=>?_,yS.2 g⟩;rcases yA.1 hz with rfl|hz
    .exact c
    .exact ny.tr x.1 y.1 z.1 hx (f y zS) (f z qeq) c (g.1 z hz)
   .rename_i c;refine yS.2 ⟨fun z hz=>?_,ih (fun z hz=>f z qeq) hx g.2⟩;rcases yA.1 ((Al F6 x l).mem_iff.1 hz)with rfl|hz
    .have:=ny.nW z.1 y.1 hx (f y zS);have c:¬nX z.1 y.1<=0:=c;omega
    .exact g.1 z hz
 have m:∀l:List Kl,(∀y∈l,bZ y.1)->(eU F6 l).Pairwise fun x y=>nX x.1 y.1<=0:=by
  intro l
  induction l with
  |nil=>intro _;exact List.Pairwise.nil
  |cons x l ih=>intro f;exact j x _ (fun y hy=>f y (by simp[dF.1 hy])) (f x zS) (ih fun y hy=>f y qef)
 have c:=m out fun k hk=>(d k hk).1;have o:((eU F6 out).map (·.1)).Nodup:=((iY F6 out).map _).nodup_iff.2 r;refine(c.and (List.pairwise_map.1 o)).imp_of_mem fun {a b} ha hb ⟨q,p⟩=>?_;rcases Int.lt_or_eq_of_le q with k|k
 .exact k
 .exact absurd ((ny.eq a.1 b.1 (d a (dF.1 ha)).1 (d b (dF.1 hb)).1).1 k) p
structure CnS (n:Nat) (y:St):Prop where
 fo:fI y.1
 co:bC y
 kc:U4 y.2
 vals:∀d∈bJ y,JO n d
theorem Jm{n:Nat}(H:∀v u,ib n v->bR n v=some u->ib n u/\zn n u){x:St}{y:St×Bool}(I:fI x.1)(hc:bC x)(hk:∀d∈bJ x,ib n d.1/\ib n d.2)(h:kE (bR n) (df n) x=some y):CnS n y.1:=by
 unfold kE at h;obtain⟨fs,j,h⟩:=Option.bind_eq_some_iff.1 h;obtain⟨m,z,rfl⟩:=Option.map_eq_some_iff.1 h;have N:=gP j;have s:∀i (h1:i<x.1.length) (h2:i<fs.length),∃d,fO (bR n) (df n) (x.1[i]).2=some d/\fs[i]=((x.1[i]).1,d):=fun i h1 h2=>by
  have:=nK j i h1 h2;unfold sj at this;exact qcA
 have J:=gP z;have G:∀i (h1:i<x.2.length) (h2:i<m.length),∃d,fO (bR n) (df n) (x.2[i]).2=some d/\m[i]=((x.2[i]).1,d):=fun i h1 h2=>by
  have:=nK z i h1 h2;unfold nQ at this;exact qcA
 have A:fs.map (·.1)=x.1.map (·.1):=vF (by simp[N]) fun i a b=>by
  obtain⟨d,_,e⟩:=s i (by simpa using b) (by simpa using a);simp[e]
 have p:m.map (·.1)=x.2.map (·.1):=vF (by simp[J]) fun i a b=>by
  obtain⟨d,_,e⟩:=G i (by simpa using b) (by simpa using a);simp[e]
 have q:∀w,m.countP (fun k=>Sem k.1 w)=x.2.countP (fun k=>Sem k.1 w):=fun w=>by
  have:=congrArg (fun l:List aK=>l.countP fun t=>Sem t w) p;simpa [List.countP_map,Function.comp_def]using this
 have B:∀w:List UInt8,fs.countP (fun f=>f.1.1.data.toList==w)=x.1.countP (fun f=>f.1.1.data.toList==w):=fun w=>by
  have:=congrArg (fun l:List (ByteArray×Int)=>l.countP fun t=>t.1.data.toList==w) A;simpa [List.countP_map,Function.comp_def]using this
 have o:∀k∈m,bZ k.1/\k.1≠[]:=fun k hk=>by
  have:k.1∈x.2.map (·.1):=by rw[<-p];exact yD.2 ⟨k,hk,rfl⟩
  exact qdd
 have g:∀w,m.countP (fun k=>Sem k.1 w)<=1:=fun w=>by
  have:=hc.once w;unfold CY at this;rw[q];omega
 have M:=Ie m [] [] K8 o (by simpa using g);rw[xN]at M;have E:=Ic M (iY F6 _);have F:fI fs:=by
  refine⟨fun f C=>?_,fun i hi=>?_⟩
  .obtain⟨i,hi,rfl⟩:=yX C;have c:i<x.1.length:=zo;obtain⟨d,_,e⟩:=s i c hi;have j:(fs[i]).1=(x.1[i]).1:=by rw[e]
   rw[j];exact I.eze (x.1[i]) (zF c)
  .have c:i+1<x.1.length:=zo;obtain⟨d,_,e⟩:=s i zo zo;obtain⟨P,_,O⟩:=s (i+1) c hi;have j:(fs[i]).1=(x.1[i]).1:=by rw[e]
   have z:(fs[i+1]).1=(x.1[i+1]).1:=by rw[O]
   rw[j,z];exact I.asc i c
 refine⟨F,⟨fun k hk=>E.sets k hk,fun w=>?_⟩,BH M.sets (fun w=>by rw[M.cnt];exact g w) M.Fv,fun d r=>?_⟩
 .have D:=hc.once w;have h1:=E.cnt w;unfold CY at D⊢;rw[<-q,<-B,<-h1]at D;exact D
 .rcases yP.1 r with r|r
  .obtain⟨f,h1,rfl⟩:=yD.1 r;have h1:f∈fs:=h1;obtain⟨i,hi,rfl⟩:=yX h1;have c:i<x.1.length:=zo;obtain⟨d,h2,e⟩:=s i c hi;have j:(fs[i]).2=d:=by rw[e]
   rw[j];have:=hk _ (yP.2 (.inl (yD.2 ⟨_,zF c,rfl⟩)));exact Dh H this.1 this.2 h2
  .obtain⟨k,h1,rfl⟩:=yD.1 r;obtain⟨k',h2,L⟩:=E.vals k h1;obtain⟨i,hi,rfl⟩:=yX h2;have c:i<x.2.length:=zo;obtain⟨d,K,e⟩:=G i c hi;have j:(m[i]).2=d:=by rw[e]
   rw[<-L,j];have:=hk _ (yP.2 (.inr (yD.2 ⟨_,zF c,rfl⟩)));exact Dh H this.1 this.2 K
theorem lU{α:Type}{l:List (α×Bool)}{x:α}(h:x∈bI l):(x,true)∈l:=by
 unfold bI at h;obtain⟨⟨y,b⟩,d,rfl⟩:=yD.1 h;obtain⟨c,a⟩:=xR.1 d;have a:b=true:=a;rw[<-a];exact c
theorem wE(n:Nat):ib (n+1) eX/\zn (n+1) eX:=by
 have hk:∀x:Vd,x ∉ eX.kids:=fun x h=>by simp[Vl.kids,eX,Vl.aJ,Vl.ay]at h
 refine⟨⟨⟨fun _=>⟨rfl,rfl,rfl⟩,fun c h=>?_,fun c h=>?_,gD⟩,fun x a=>absurd a (hk x)⟩,⟨⟨fun x h=>?_,List.Pairwise.nil,fun x h=>?_,List.Pairwise.nil,fun c h=>?_⟩,fun x a=>absurd a (hk x)⟩⟩
 all_goals simp[eX,Vl.aJ,Vl.ay]at h
theorem Au:∀(n:Nat) (v u:Vl),ib n v->bR n v=some u->ib n u/\zn n u
 |0,_,_,h,_=>h.elim
 |n+1,v,u,hv,h=>by
  have m:=Au n;rw[bR]at h
  split at h
  .rename_i j;cases h;obtain⟨h1,h2,r⟩:=hv.1.any j;have:v=eX:=DJ j h1 h2 r;rw[this];exact wE n
  rename_i j;obtain⟨ls,t,h⟩:=Option.bind_eq_some_iff.1 h;obtain⟨l,s,h⟩:=Option.map_eq_some_iff.1 h
  split at h
  .cases h;exact wE n
  cases h;have L:∀x∈bI ls,x.2.length<=1/\∀d∈aX x,JO n d:=fun x a=>by
   obtain⟨c,h1,h2⟩:=fZ t (lU a);exact Jo m (hv.1.rest c h1) (fun d b=>hv.2 d (dM h1 b)) h2
  have S:∀x∈bI l,CnS n x:=fun x a=>by
   obtain⟨c,h1,h2⟩:=fZ s (lU a);exact Jm m (hv.1.st c h1).1 (hv.1.st c h1).2 (fun d b=>hv.2 d (dP h1 b)) h2
  generalize bI ls=LS at*
  generalize bI l=SS at*
  have A:∀{p q:Vd},JO n p->JO n q->pO (df n) p q->pO (df n) q p->p=q:=fun hp hq h1 h2=>
   Prod.ext qie qid
  have C:∀x∈LS,∀y∈LS,uF (df n) x y->uF (df n) y x->x=y:=fun x a y e h1 h2=>Iu (L x a).1 (L y e).1 (fun p hp q hq=>A ((L x a).2 p hp) ((L y e).2 q hq)) h1 h2;have z:∀x∈SS,∀y∈SS,uE (df n) x y->uE (df n) y x->x=y:=fun x a y e h1 h2=>GG ⟨(S x a).fo,(S x a).co⟩ ⟨(S y e).fo,(S y e).co⟩ (S x a).kc (S y e).kc (fun p hp q hq=>A ((S x a).vals p hp) ((S y e).vals q hq)) h1 h2;have B:∀x∈LS,uF (df n) x x:=fun x a=>Ir fun d b=>⟨((L x a).2 d b).s1.ht,((L x a).2 d b).s2.ht⟩;have w:∀x∈SS,uE (df n) x x:=fun x a=>GD (S x a).co fun d b=>⟨((S x a).vals d b).s1.ht,((S x a).vals d b).s2.ht⟩;have i:∀{x},x∈(jC n v LS SS).aJ->x∈mh (uF (df n)) LS:=fun h=>dF.1 h;have g:∀{x},x∈(jC n v LS SS).ay->x∈mh (uE (df n)) SS:=fun h=>dF.1 h;have kid:∀d∈(jC n v LS SS).kids,JO n d:=fun d b=>by
   rcases yP.1 b with b|b
   .obtain⟨c,h1,h2⟩:=xW.1 b;exact(L c (dV (i h1))).2 d h2
   .obtain⟨c,h1,h2⟩:=xW.1 b;exact(S c (dV (g h1))).vals d h2
  refine⟨⟨⟨fun h=>by simp[jC,Vl.any]at h,fun c h=>(L c (dV (i h))).1,fun c h=>⟨(S c (dV (g h))).fo,(S c (dV (g h))).co⟩,hv.1.sc⟩,fun x a=>⟨(kid x a).s1,(kid x a).s2⟩⟩,
   ⟨⟨fun x a y e h=>((tZ C).1 (i a)).2 y (dV (i e)) h,?_,fun x a y e h=>((tZ z).1 (g a)).2 y (dV (g e)) h,?_,fun c h=>(S c (dV (g h))).kc⟩,fun x a=>⟨(kid x a).c1,(kid x a).c2⟩⟩⟩
  .exact j5 (uV (lX n)) (fun x a=>⟨(L x (dV a)).1,fun y e=>⟨((L x (dV a)).2 y e).s1,((L x (dV a)).2 y e).s2⟩⟩) (ll B)
  .refine j5 (uQ (lX n)) (fun x a=>⟨fun f o=>?_,fun k hk=>⟨((S x (dV a)).co.sets k hk).1,?_⟩⟩) (ll w)
   .have:=(S x (dV a)).vals f.2 (yP.2 (.inl (yD.2 ⟨f,o,rfl⟩)));exact⟨this.s1,this.s2⟩
   .have:=(S x (dV a)).vals k.2 (yP.2 (.inr (yD.2 ⟨k,hk,rfl⟩)));exact⟨this.s1,this.s2⟩
end Cl
namespace Cl
theorem ug{α:Type}{f:α->Option α}:∀{l:List α},(∀x∈l,f x=some x)->eZ f l=some l
 |[],_=>rfl
 |x::l,h=>by rw[eZ,h x zS,ug fun y hy=>h y qef];rfl
theorem NH{α β:Type}{f:α->Option β}{g:α->β}:∀{l:List α},(∀x∈l,f x=some (g x))->eZ f l=some (l.map g)
 |[],_=>rfl
 |x::l,h=>by rw[eZ,h x zS,NH fun y hy=>h y qef];rfl
theorem GJ{α:Type}{c:α->α->Int}:∀{l:List α},(l.Pairwise fun x y=>c x y<0)->eU c l=l
 |[],_=>rfl
 |x::l,h=>by
  rw[yS]at h;rw[eU,GJ h.2]
  cases l with
  |nil=>rfl
  |cons y l=>
   have:=h.1 y zS;rw[CW,zK zo]
theorem La{α:Type}{R:α->α->Prop}{l:List α}(d:l.Nodup)(h:∀x∈l,∀y∈l,R x y->x=y):mh R l=l:=by
 have g:∀n,n<=l.length->ig R l n=l.take n:=by
  intro n
  induction n with
  |zero=>intro _;rfl
  |succ n ih=>
   intro f;have b:n<l.length:=f;rw[zH b,tY b,ih zo];intro k hk hi a c;exact absurd ((List.getElem_inj d).1 (h _ (zF hi) _ (zF hk) c)) (fun e=>a e.symm)
 have:=g _ (zI _)
 rwa [yG]at this
theorem IP:∀(a out:List Kl),((out++a).map (·.2)).Nodup->a.foldl kJ out=out++a
 |[],out,_=>by simp
 |k::a,out,h=>by
  have e:kJ out k=out++[k]:=by
   unfold kJ;have:out.findIdx? (fun x=>tf (x.2=k.2))=none:=List.findIdx?_eq_none_iff.2 fun x b=>by
    refine aG fun e=>?_;rw[yI,List.nodup_append]at h;exact h.2.2 _ (yD.2 ⟨x,b,rfl⟩) _ (yD.2 ⟨k,zS,rfl⟩) e
   rw[this]
  rw[List.foldl_cons,e,IP a _ qd5];simp
structure fzI (n:Nat) (d:Vd):Prop where
 c:JO n d
 f1:bR n d.1=some d.1
 f2:bR n d.2=some d.2
theorem fzI.self{n:Nat}{d:Vd}(h:fzI n d):fO (bR n) (df n) d=some d:=by
 unfold fO;rw[h.f1,h.f2];show(if tf (df n d.2 d.1)=true then some (d.1,d.2)else none)=some d;rw[zK (aN h.c.le)]
structure bK (d:Vd):Prop where
 s1:iI d.1
 s2:iI d.2
 can:fO (bR 16) (df 16) d=some d
theorem Aq{n:Nat}{d e:Vd}(h:fO (bR n) (df n) d=some e):bR n d.1=some e.1/\bR n d.2=some e.2/\df n e.2 e.1:=by
 unfold fO at h;obtain⟨a,g,h⟩:=Option.bind_eq_some_iff.1 h;obtain⟨b,f,h⟩:=Option.bind_eq_some_iff.1 h
 split at h
 .rename_i c;cases h;exact⟨g,f,j4.1 c⟩
 .cases h
theorem uw{n:Nat}{d e:Vd}(c:bR n d.1=some e.1)(b:bR n d.2=some e.2)(a:df n e.2 e.1):fO (bR n) (df n) d=some e:=by
 unfold fO;rw[c,b];show(if tf (df n e.2 e.1)=true then some (e.1,e.2)else none)=some e;rw[zK (aN a)]
theorem czR(n:Nat):bR (n+1) dn=some dn:=by
 have ev:¬J8 (jC n dn (bI []) (bI [])):=by
  rintro⟨x,y,h,_⟩;simp[jC,bI,mh,ig,eU,Vl.aJ]at h
 rw[bR,zJ (by simp[dn,Vl.any])];show some (if tf (J8 (jC n dn (bI []) (bI [])))=true then eX else jC n dn (bI []) (bI []))=some dn;rw[zJ qeB]
 rfl
theorem V3(n:Nat):ib (n+1) dn:=
 ⟨⟨fun h=>by simp[dn,Vl.any]at h,fun c h=>by simp[dn,Vl.aJ]at h,fun c h=>by simp[dn,Vl.ay]at h,gD⟩,fun x a=>by simp[Vl.kids,dn,Vl.aJ,Vl.ay]at a⟩
theorem bzb(n:Nat)(v:Vl):df (n+1) dn v:=by
 rw[df]
 split
 .rename_i h;exact h.elim (fun h=>by simp[dn,Vl.any]at h) id
 .exact .inr ⟨fun e b=>absurd b (u6 e),fun x a=>by simp[dn,Vl.aJ]at a,fun x a=>by simp[dn,Vl.ay]at a⟩
theorem NP(n:Nat)(v:Vl):df (n+1) v eX:=by
 rw[df,zK (.inr rfl)];rfl
theorem ezw{n:Nat}{v:Vl}(k:v.s.iB):df (n+1) v dn↔iP v=true:=by
 have j:dn.any=false:=rfl;rw[df];unfold iP;by_cases d:v.any=true
 .rw[zK (.inl d),d,j];simp
 .have g:v.any=false:=by simpa using d
  rw[zJ (fun h=>h.elim d (by rw[j];simp)),g];simp only[Bool.not_false,Bool.true_and,xG,decide_eq_true_eq];have m:mR v.s=true↔∀e,¬v.s.has e:=by unfold mR;rw[j4,mG k]
  rw[m];constructor
  .rintro(rfl|⟨c,b,i⟩)
   .exact⟨⟨rfl,rfl⟩,fun e=>u6 e⟩
   .refine⟨⟨?_,?_⟩,fun e h=>u6 e (c e h)⟩
    .cases h:v.aJ with
     |nil=>rfl
     |cons x l=>obtain⟨y,f,_⟩:=b x (by rw[h];simp);simp[dn,Vl.aJ]at f
    .cases h:v.ay with
     |nil=>rfl
     |cons x l=>obtain⟨y,f,_⟩:=i x (by rw[h];simp);simp[dn,Vl.ay]at f
  .rintro⟨⟨c,b⟩,i⟩;have c:=yM c;have b:=yM b;exact .inr ⟨fun e h=>absurd h (i e),fun x a=>by rw[c]at a;simp at a,fun x a=>by rw[b]at a;simp at a⟩
end Cl
namespace Cl
open Go Go.RowKit Go.Proofs
theorem QW(u:Nat):∀c∈Lib.decDigits u,c≠45:=by
 induction u using Nat.strongRecOn with
 |_ u ih=>
  have a:∀k,k<10->UInt8.ofNat (48+k)≠45:=fun k hk e=>by
   have:(UInt8.ofNat (48+k)).toNat=48+k:=by simp;omega
   rw[e]at this;have f:(45:UInt8).toNat=45:=rfl;omega
  intro c b;by_cases h:u<10
  .rw[Lib.decDigits,dif_pos h]at b;simp only[zZ]at b;subst b;exact a u h
  .rw[Lib.decDigits,dif_neg h]at b;rcases yP.1 b with d|d
   .exact ih (u/10) zo c d
   .simp only[zZ]at d;subst d;exact a _ zo
theorem itoa_inj'{x y:Int}(h:Lib.itoa x=Lib.itoa y):x=y:=by
 unfold Lib.itoa at h
 split at h<;>split at h
 .simp only[List.cons.injEq,true_and]at h;exact qhC
 .exact absurd rfl (QW y.toNat 45 (by rw[<-h];simp))
 .exact absurd rfl (QW x.toNat 45 (by rw[h];simp))
 .exact qhC
theorem LG(x:Int):∀c∈Lib.itoa x,c≠44:=by
 unfold Lib.itoa
 split
 .intro c a;rcases yA.1 a with rfl|a
  .decide
  .exact(ru _).2 c a
 .exact(ru _).2
theorem txt_inj':∀(l l':List Int),txt l=txt l'->l=l'
 |[],[],_=>rfl
 |[],x::l',h=>by simp[txt]at h
 |x::l,[],h=>by simp[txt]at h
 |x::l,y::l',h=>by
  have h:Lib.itoa x++txt l=Lib.itoa y++txt l':=by simpa [txt]using h
  obtain⟨b,a⟩:=Vn _ _ _ _ (LG x) (LG y) (Ct l) (Ct l') h;rw[itoa_inj' b,txt_inj' l l' a]
def Dy(cs:List fA)(seen:List (List Int))(v:List Int):Prop:=oW cs v=1/\∀b<256,iD cs v b∈seen
structure Cb (cs:List fA) (seen todo:List (List Int)) (P:List Int->Prop):Prop where
 nodup:seen.Nodup
 reach:∀v∈seen,lD cs v
 start:eF cs∈seen
 sub:∀v∈todo,v∈seen
 done:∀v∈seen,v∈todo\/P v\/Dy cs seen v
theorem Dy.mono{cs:List fA}{seen a:List (List Int)}{v:List Int}(h:Dy cs seen v)(k:∀x∈seen,x∈a):Dy cs a v:=⟨h.1,fun b c=>k _ (h.2 b c)⟩
theorem Cb.first(cs:List fA):Cb cs [eF cs] [eF cs] (fun _=>False) where
 nodup:=by simp
 reach v hv:=by rw[zZ.1 hv];exact .start cs
 start:=by simp
 sub v hv:=hv
 done v hv:=.inl hv
theorem Cb.take{cs:List fA}{seen a todo':List (List Int)}{v:List Int}(h:Cb cs seen a (fun _=>False))(ht:∀x,x∈a↔x∈todo'\/x=v):Cb cs seen todo' (fun x=>x=v)/\v∈seen:=
 ⟨⟨h.nodup,h.reach,h.start,fun x b=>h.sub x ((ht x).2 (.inl b)),fun x b=>by
  rcases h.done x b with k|k|k
  .exact((ht x).1 k).elim .inl fun e=>.inr (.inl e)
  .exact k.elim
  .exact .inr (.inr k)⟩,h.sub v ((ht v).2 (.inr rfl))⟩
theorem Cb.push{cs:List fA}{seen c:List (List Int)}{P:List Int->Prop}(h:Cb cs seen c P){x:List Int}(g:lD cs x)(hx:x ∉ seen):Cb cs (seen++[x]) (c++[x]) P where
 nodup:=by
  exact qbU
 reach v hv:=(yP.1 hv).elim (h.reach v) fun k=>by rw[zZ.1 k];exact g
 start:=xI _ h.start
 sub v hv:=(yP.1 hv).elim (fun k=>xI _ (h.sub v k)) fun k=>xS _ k
 done v hv:=(yP.1 hv).elim (fun k=>(h.done v k).elim (fun j=>.inl (xI _ j)) fun j=>.inr (j.imp id fun d=>d.mono fun y f=>xI _ f)) fun k=>.inl (xS _ k)
theorem Cb.close{cs:List fA}{seen a:List (List Int)}{v:List Int}(h:Cb cs seen a (fun x=>x=v))(d:Dy cs seen v):Cb cs seen a (fun _=>False):=
 ⟨h.nodup,h.reach,h.start,h.sub,fun x b=>(h.done x b).imp id fun k=>.inr (k.elim (fun e=>by rw[e];exact d) id)⟩
theorem Cb.once{cs:List fA}{seen:List (List Int)}(h:Cb cs seen [] (fun _=>False)):Fz cs:=by
 have hd:∀v∈seen,Dy cs seen v:=fun v hv=>by
  rcases h.done v hv with k|k|k
  .simp at k
  .exact k.elim
  .exact k
 exact qha
end Cl
