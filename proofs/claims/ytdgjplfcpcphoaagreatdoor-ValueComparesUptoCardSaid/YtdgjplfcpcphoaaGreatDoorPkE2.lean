/- Lemmas for the proofs of chapter 11. -/
import Derived.Test.YtdgjplfcpcphoaaGreatDoorPkE1
set_option maxRecDepth 100000
set_option maxHeartbeats 16000000
namespace Cl
theorem xq:∀(l:List bT) (lo hi:Int),(jO l lo hi).length<=l.length+1
 |[],lo,hi=>by unfold jO;split<;>simp
 |s::r,lo,hi=>by
  have:=xq r (s.2+1) hi;unfold jO
  split<;>simp<;>omega
theorem rD:∀(r:List bT) (s:bT),(mP s true r).length<=r.length
 |[],s=>by simp[mP]
 |x::r,s=>by
  have b:=rD r s;have a:=rD r (min s.1 x.1,max s.2 x.2);rw[mP]
  split
  .exact qdC
  .split
   .simp only[if_true,xN,yO];omega
   .exact qdC
theorem BS:∀(r:List bT) (s:bT) (d:Bool),(mP s d r).length<=r.length+1
 |[],s,d=>by unfold mP;split<;>simp
 |x::r,s,d=>by
  have c:=BS r s d;have a:=BS r (min s.1 x.1,max s.2 x.2) d;have b:=rD r s;rw[mP]
  split
  .exact qdC
  .split
   .cases d<;>simp only[if_true,Bool.false_eq_true,if_false,xK,xN,yO]<;>omega
   .exact qdC
theorem oG(l:List bT):(ic l).length<=l.length:=by
 have:∀(l out:List bT),(l.foldl (fun out s=>if s.2<s.1 then out else mP s false out) out).length<=out.length+l.length:=by
  intro l
  induction l with
  |nil=>intro out;simp
  |cons s l ih=>
   intro out;have:=ih (if s.2<s.1 then out else mP s false out);have a:(if s.2<s.1 then out else mP s false out).length<=out.length+1:=by
    split
    .omega
    .exact BS out s false
   simp only[List.foldl_cons,yO];omega
 have:=this l [];rw[ic];exact qa5
theorem Dg(l:List bT):(mI l).length<=l.length:=by
 have:=vB (fun s=>decide (s.1<=s.2)) (l.map lQ);simpa [mI]using this
theorem Dh(l:List bT):(jX l).length<=l.length:=by
 have:=vB (fun s=>decide (s.1<=s.2)) (l.map iO);simpa [jX]using this
theorem wL(a b:List bT):(fe a b).length<=a.length*b.length:=by
 induction a with
 |nil=>simp[fe]
 |cons x a ih=>
  have h:=vB (fun z:bT=>decide (z.1<=z.2)) (b.map (kR x));have e:fe (x::a) b=((b.map (kR x)).filter fun z=>decide (z.1<=z.2))++fe a b:=by simp[fe]
  rw[e,zL,yO,Nat.succ_mul];rw[xC]at h;omega
structure NS.Le (x:NS) (k:Nat):Prop where
 i:x.i.length<=k
 f:x.f.length<=k
theorem NS.tH(x:NS):x.rf.length=x.f.length:=by simp[NS.rf]
theorem NS.Le.mono{x:NS}{k n:Nat}(h:x.Le k)(a:k<=n):x.Le n:=⟨yJ h.i a,yJ h.f a⟩
theorem jL{I F:List bT}{k:Nat}(b:I.length<=k)(a:F.length<=k):(dz I F).Le k:=by
 refine⟨yJ (oG _) (yJ (Dg I) b),yJ (oG _) ?_⟩;rw[xC];exact yJ (Dh F) a
theorem o9{x:NS}{k:Nat}(h:x.Le k):(gP x).Le (k+1):=
 ⟨yJ (xq _ _ _) (Nat.succ_le_succ h.i),yJ (xq _ _ _) (Nat.succ_le_succ h.f)⟩
theorem QG{x y:NS}{k n:Nat}(h:x.Le k)(e:y.Le n):(LH x y).Le (k+n):=by
 have a:=h.i;have b:=h.f;have c:=e.i;have d:=e.f;refine⟨yJ (oG _) ?_,yJ (oG _) ?_⟩<;>rw[zL]<;>omega
theorem ZK{x y:NS}{k n:Nat}(h:x.Le k)(a:y.Le n):(nG x y).Le (k+n+3):=(o9 (QG (o9 h) (o9 a))).mono zo
theorem xk{x y:NS}{k n:Nat}(h:x.Le k)(a:y.Le n):(dC x y).Le (k+n+4):=(ZK h (o9 a)).mono zo
theorem azi(u:Int):u.tmod 10000=if u%10000=0\/0<=u then u%10000 else u%10000-10000:=by
 rw[Int.tmod_eq_emod];have:((10000:Int) ∣ u)↔u%10000=0:=Int.dvd_iff_emod_eq_zero;simp only[this]
 exact qbQ
theorem p9(u:Int):u.tmod 10000=0↔u%10000=0:=by rw[azi];split<;>omega
end Cl
namespace Cl
noncomputable def rE(s:RS):Bool:=tf (∀e,¬(qP s).has e)
theorem O0{s:RS}(h:nV (qP s).has none):rE s=true:=aO h
theorem OZ{s:RS}{e:El}(h:nV (qP s).has (some e)):rE s=false:=aA fun k=>k e h.1
end Cl
namespace Cl
structure mD {α:Type} (p:α->Prop) (c:α->α->Int):Prop where
 ik:∀a b,p a->p b -> -1<=c a b/\c a b<=1
 uU:∀a b,p a->p b->c b a = - c a b
 eq:∀a b,p a->p b->(c a b=0↔a=b)
 tr:∀a b d,p a->p b->p d->c a b<=0->c b d<=0->c a d<=0
def jK(a b:Int):Int:=if a=0 then b else a
theorem NK{a b:Int}:jK a b=0↔a=0/\b=0:=by unfold jK;split<;>simp_all
theorem CZ(a b c:Int):jK (jK a b) c=jK a (jK b c):=by unfold jK;split<;>simp_all
theorem CY(a:Int):jK a 0=a:=by unfold jK;split<;>simp_all
namespace mD
variable {α β:Type} {p:α->Prop} {q:β->Prop} {c:α->α->Int} {d:β->β->Int}
theorem self(h:mD p c){a:α}(b:p a):c a a=0:=(h.eq a a b b).2 rfl
theorem sub(h:mD p c){e:α->Prop}(k:∀a,e a->p a):mD e c where
 ik a b ha hb:=h.ik a b (k a ha) (k b hb)
 uU a b ha hb:=h.uU a b (k a ha) (k b hb)
 eq a b ha hb:=h.eq a b (k a ha) (k b hb)
 tr a b d ha hb hd:=h.tr a b d (k a ha) (k b hb) (k d hd)
theorem pair(h:mD p c)(k:mD q d):mD (fun x:α×β=>p x.1/\q x.2) (fun x y=>jK (c x.1 y.1) (d x.2 y.2)) where
 ik a b ha hb:=by
  unfold jK;split
  .exact k.ik _ _ ha.2 hb.2
  .exact h.ik _ _ ha.1 hb.1
 uU a b ha hb:=by
  have g:=h.uU _ _ ha.1 hb.1;have e:=k.uU _ _ ha.2 hb.2;unfold jK;exact qbQ
 eq a b ha hb:=by
  rw[NK,h.eq _ _ ha.1 hb.1,k.eq _ _ ha.2 hb.2];exact⟨fun x=>Prod.ext x.1 x.2,fun x=>by rw[x];exact⟨rfl,rfl⟩⟩
 tr a b x ha hb hx g e:=by
  unfold jK at g e⊢;have n:=h.eq _ _ ha.1 hb.1;have m:=h.eq _ _ hb.1 hx.1;have l:=h.eq _ _ ha.1 hx.1;have t:=h.tr _ _ _ ha.1 hb.1 hx.1;by_cases i:c a.1 b.1=0
  .rw[zK i]at g;have z:=n.1 i;by_cases f:c b.1 x.1=0
   .rw[zK f]at e;rw[z,zK f];exact k.tr _ _ _ ha.2 hb.2 hx.2 g e
   .rw[zJ f]at e;rw[z,zJ f];exact e
  .rw[zJ i]at g;by_cases f:c b.1 x.1=0
   .rw[<-m.1 f,zJ i];exact g
   .rw[zJ f]at e;have t:=t g e
    split
    .rename_i j;have z:=l.1 j;have:=h.uU _ _ ha.1 hb.1;rw[<-z]at e;omega
    .exact t
theorem by'(f:β->α)(h:mD p c)(g:∀x y,q x->q y->f x=f y->x=y)(e:∀x,q x->p (f x)):mD q (fun x y=>c (f x) (f y)) where
 ik a b ha hb:=h.ik _ _ (e a ha) (e b hb)
 uU a b ha hb:=h.uU _ _ (e a ha) (e b hb)
 eq a b ha hb:=⟨fun x=>g a b ha hb ((h.eq _ _ (e a ha) (e b hb)).1 x),fun x=>by rw[x];exact h.self (e b hb)⟩
 tr a b d ha hb hd:=h.tr _ _ _ (e a ha) (e b hb) (e d hd)
end mD
def bS{α:Type}(c:α->α->Int):List α->List α->Int
 |[],[]=>0
 |[],_::_ => -1
 |_::_,[]=>1
 |a::l,b::m=>jK (c a b) (bS c l m)
theorem BR{α:Type}{p:α->Prop}{c:α->α->Int}(h:mD p c):mD (fun l=>∀x∈l,p x) (bS c) where
 ik:=by
  intro a
  induction a with
  |nil=>intro b _ _;cases b<;>simp[bS]
  |cons x a ih=>
   intro b f e
   cases b with
   |nil=>simp[bS]
   |cons y b=>
    simp only[yA,forall_eq_or_imp]at f e;have i:=h.ik x y f.1 e.1;have g:=ih b f.2 e.2;simp only[bS,jK];split<;>assumption
 uU:=by
  intro a
  induction a with
  |nil=>intro b _ _;cases b<;>simp[bS]
  |cons x a ih=>
   intro b f e
   cases b with
   |nil=>simp[bS]
   |cons y b=>
    simp only[yA,forall_eq_or_imp]at f e;have i:=h.uU x y f.1 e.1;have g:=ih b f.2 e.2;simp only[bS,jK];exact qbQ
 eq:=by
  intro a
  induction a with
  |nil=>intro b _ _;cases b<;>simp[bS]
  |cons x a ih=>
   intro b f e
   cases b with
   |nil=>simp[bS]
   |cons y b=>
    simp only[yA,forall_eq_or_imp]at f e;rw[bS,NK,h.eq x y f.1 e.1,ih b f.2 e.2];simp
 tr:=by
  intro a
  induction a with
  |nil=>intro b d _ _ _ i g;cases d<;>simp[bS]
  |cons x a ih=>
   intro b d f e k i g
   cases b with
   |nil=>simp[bS]at i
   |cons y b=>
    cases d with
    |nil=>simp[bS]at g
    |cons z d=>
     simp only[yA,forall_eq_or_imp]at f e k;have s:=h.eq x y f.1 e.1;have r:=h.eq y z e.1 k.1;have q:=h.eq x z f.1 k.1;have t:=h.tr x y z f.1 e.1 k.1;simp only[bS,jK]at i g⊢;by_cases n:c x y=0
     .rw[zK n]at i;have m:=s.1 n;by_cases j:c y z=0
      .rw[zK j]at g;rw[m,zK j];exact ih b d f.2 e.2 k.2 i g
      .rw[zJ j]at g;rw[m,zJ j];exact g
     .rw[zJ n]at i;by_cases j:c y z=0
      .rw[<-r.1 j,zJ n];exact i
      .rw[zJ j]at g;have t:=t i g
       split
       .rename_i o;have m:=q.1 o;have:=h.uU x y f.1 e.1;rw[<-m]at g;omega
       .exact t
theorem jW{α:Type}(c:α->α->Int)(l m:List α)(k:Nat)(b:k<l.length)(a:k<m.length):bS c (l.drop k) (m.drop k)=jK (c l[k] m[k]) (bS c (l.drop (k+1)) (m.drop (k+1))):=by
 rw[yE b,yE a];rfl
theorem oI{α:Type}(c:α->α->Int)(l m:List α)(k:Nat)(a:l.length<=k):bS c (l.drop k) (m.drop k)=if k<m.length then -1 else 0:=by
 rw[zQ a]
 split
 .rename_i h;rw[yE h];rfl
 .rename_i h;rw[zQ zo];rfl
theorem pV{α:Type}(c:α->α->Int)(l m:List α)(k:Nat)(b:k<l.length)(a:m.length<=k):bS c (l.drop k) (m.drop k)=1:=by
 rw[yE b,zQ a];rfl
def ng(a b:Bool):Int:=if a=b then 0 else if a then -1 else 1
theorem OT:mD (fun _=>True) ng where
 ik a b _ _:=by cases a<;>cases b<;>decide
 uU a b _ _:=by cases a<;>cases b<;>decide
 eq a b _ _:=by cases a<;>cases b<;>decide
 tr a b d _ _ _:=by cases a<;>cases b<;>cases d<;>decide
def kV(a b:Int):Int:=if a<b then -1 else if b<a then 1 else 0
theorem tY:mD (fun _=>True) kV where
 ik a b _ _:=by unfold kV;split<;>(try split)<;>omega
 uU a b _ _:=by unfold kV;split<;>split<;>(try split)<;>omega
 eq a b _ _:=by unfold kV;split<;>(try split)<;>omega
 tr a b d _ _ _:=by unfold kV;split<;>split<;>split<;>(try split)<;>(try split)<;>(try split)<;>omega
end Cl
namespace Cl
inductive Vl where
 |mk (any:Bool) (s:RS) (aU:List (List (Vl×Vl)×List (Vl×Vl))) (aF:List (List ((ByteArray×Int)×(Vl×Vl))×List (aC×(Vl×Vl))))
abbrev Vd:=Vl×Vl
abbrev Lc:=List Vd×List Vd
abbrev Fd:=(ByteArray×Int)×Vd
abbrev Kl:=aC×Vd
abbrev St:=List Fd×List Kl
def Vl.any:Vl->Bool|.mk a _ _ _=>a
def Vl.s:Vl->RS|.mk _ s _ _=>s
def Vl.aU:Vl->List Lc|.mk _ _ l _=>l
def Vl.aF:Vl->List St|.mk _ _ _ t=>t
def bW(c:Lc):List Vd:=c.1++c.2
def fE(c:St):List Vd:=c.1.map (·.2)++c.2.map (·.2)
def Vl.kids(v:Vl):List Vd:=v.aU.flatMap bW++v.aF.flatMap fE
def ja:Vl:=.mk false fI [] []
def eu:Vl:=.mk true fI [] []
def Ht:Nat->Vl->Prop
 |0,_=>False
 |n+1,v=>∀x∈v.kids,Ht n x.1/\Ht n x.2
theorem Ht.succ:∀{n:Nat} {v:Vl},Ht n v->Ht (n+1) v
 |0,_,h=>h.elim
 |_+1,_,h=>fun x a=>⟨(h x a).1.succ,(h x a).2.succ⟩
theorem Ht.mono{n m:Nat}{v:Vl}(h:Ht n v)(k:n<=m):Ht m v:=by
 induction k with
 |refl=>exact h
 |step _ ih=>exact ih.succ
def dw:Nat->Vl->Nat
 |0,_=>0
 |n+1,v=>1+(v.kids.map fun x=>dw n x.1+dw n x.2).sum
theorem JC{α:Type}{f g:α->Nat}:∀{l:List α},(∀x∈l,f x=g x)->(l.map f).sum=(l.map g).sum
 |[],_=>rfl
 |x::l,h=>by
  simp only[yL,vG];rw[h x zS,JC fun y hy=>h y qey]
theorem CB:∀{n:Nat} {v:Vl},Ht n v->dw (n+1) v=dw n v
 |0,_,h=>h.elim
 |n+1,v,h=>by
  rw[dw,dw]
  congr 1
  exact JC fun x a=>by rw[CB (h x a).1,CB (h x a).2]
theorem lm{n m:Nat}{v:Vl}(h:Ht n v)(k:n<=m):dw m v=dw n v:=by
 induction k with
 |refl=>rfl
 |step k ih=>rw[CB (h.mono k),ih]
theorem Bo{n:Nat}{v:Vl}(h:Ht n v):1<=dw n v:=by
 cases n with
 |zero=>exact h.elim
 |succ n=>rw[dw];omega
structure IP (k:Nat) (most r:Int):Prop where
 le:(k:Int)<=most->r=k
 gt:most<k->most<r
 pos:1<=r
 top:r<=if most<1 then 1 else 2*most+2
theorem IP.small{k:Nat}{a r:Int}(h:IP k a r):r<=a↔(k:Int)<=a:=by
 have c:=h.le;have b:=h.gt;omega
structure uR (p:Nat) (most n:Int):Prop where
 le:(p:Int)<=most->n=p
 gt:most<p->most<n
 pos:1<=n
 top:n<=if most<1 then 1 else 2*most+2
theorem uR.start(a:Int):uR 1 a 1:=⟨fun _=>rfl,fun h=>h,zo,by split<;>omega⟩
theorem uR.step{p a b:Nat}{c n x y:Int}(h:uR p c n)(u:n<=c)(q:IP a (c-n) x)(o:IP b (c-(n+x)) y)(w:1<=a)(v:1<=b):uR (p+(a+b)) c (n+x+y):=by
 obtain⟨B,A,z,r⟩:=h;obtain⟨d,l,t,j⟩:=q;obtain⟨i,g,s,f⟩:=o;have e:n=p:=zo;rw[zJ zo]at r;refine⟨fun k=>?_,fun k=>?_,zo,?_⟩
 .have:=d zo;have:=i zo;omega
 .by_cases m:(a:Int)<=c-n
  .have:=d m;have:=g zo;omega
  .have:=l zo;omega
 .rw[zJ zo]
  split at j<;>split at f<;>omega
def Dw(a b:ByteArray):Bool:=Go.Op.bytesLess a.data.toList b.data.toList
structure fM (l:List Fd):Prop where
 bzd:∀f∈l,f.1.2=1\/f.1.2=2
 asc:∀i (h:i+1<l.length),Dw l[i].1.1 (l[i+1]).1.1=true
noncomputable def Rk(c:St)(w:List UInt8):Nat:=c.2.countP (fun k=>Sem k.1 w)+c.1.countP (fun f=>f.1.1.data.toList==w)
structure eZ (c:St):Prop where
 sets:∀k∈c.2,dG k.1/\k.1≠[]
 once:∀w,Rk c w=1
structure oO (v:Vl):Prop where
 any:v.any=true->v.s=fI/\v.aU=[]/\v.aF=[]
 rest:∀c∈v.aU,c.2.length<=1
 st:∀c∈v.aF,fM c.1/\eZ c
 sc:v.s.gB
def oN:Nat->Vl->Prop
 |0,_=>False
 |n+1,v=>oO v/\∀x∈v.kids,oN n x.1/\oN n x.2
def eQ(v:Vl):Prop:=oN 16 v
theorem oN.ht:∀{n:Nat} {v:Vl},oN n v->Ht n v
 |0,_,h=>h.elim
 |_+1,_,h=>fun x a=>⟨(h.2 x a).1.ht,(h.2 x a).2.ht⟩
def UO:List Nat->Nat
 |[]=>0
 |x::l=>max x (UO l)
def RV:Nat->Vl->Nat
 |0,_=>0
 |n+1,v=>UO (v.kids.map fun x=>max (RV n x.1) (RV n x.2))+1
theorem De{α:Type}(f:α->Nat)(P:α->Prop):∀k a,f a<=k->P a->∃b,P b/\∀d,P d->f b<=f d
 |0,a,h,hp=>⟨a,hp,fun d _=>zo⟩
 |k+1,a,h,hp=>by
  by_cases e:∃d,P d/\f d<=k
  .obtain⟨d,i,c⟩:=e;exact De f P k d c i
  .exact⟨a,hp,fun d g=>by
    have:¬f d<=k:=fun c=>e ⟨d,g,c⟩;omega⟩
theorem J2:∀(n:Nat) (P:List UInt8->Prop) (w:List UInt8),w.length=n->P w->∃w,w.length=n/\P w/\∀y,y.length=n->P y->y=w\/lex w y
 |0,P,w,h,hp=>⟨w,h,hp,fun y c _=>.inl (by rw[xJ.1 h,xJ.1 c])⟩
 |n+1,P,[],h,hp=>by simp at h
 |n+1,P,a::w,h,hp=>by
  obtain⟨b,⟨t,p,o⟩,m⟩:=De (fun b:UInt8=>b.toNat) (fun b=>∃t,t.length=n/\P (b::t)) a.toNat a (zI _) ⟨w,by simpa using h,hp⟩;obtain⟨u,l,k,j⟩:=J2 n (fun t=>P (b::t)) t p o;refine⟨b::u,by simp[l],k,fun y c g=>?_⟩
  cases y with
  |nil=>simp at c
  |cons d y=>
   have f:y.length=n:=by simpa using c
   have:=m d ⟨y,f,g⟩;by_cases e:b=d
   .subst e;rcases j y f g with rfl|i
    .exact .inl rfl
    .exact .inr (.inr ⟨rfl,i⟩)
   .refine .inr (.inl (UInt8.lt_iff_toNat_lt.2 ?_));have:b.toNat≠d.toNat:=fun h=>e (UInt8.toNat_inj.1 h);omega
theorem Ug{P:List UInt8->Prop}{w:List UInt8}(b:P w):∃w,P w/\∀y,P y->y=w\/vO w y:=by
 obtain⟨x,g,f⟩:=De List.length P w.length w (zI _) b;obtain⟨u,i,d,c⟩:=J2 x.length P x rfl g;refine⟨u,d,fun y a=>?_⟩;have:=f y a;by_cases e:y.length=x.length
 .rcases c y e a with h|h
  .exact .inl h
  .exact .inr (.inr ⟨zo,h⟩)
 .exact .inr (.inl zo)
theorem R5(f g:List UInt8->Bool):∃c,fC f g c:=by
 by_cases h:∃w,f w≠g w
 .obtain⟨w,j⟩:=h;obtain⟨x,i,k⟩:=Ug (P:=fun w=>f w≠g w) j;have d:∀y,vO y x->f y=g y:=fun y b=>by
   by_cases e:f y=g y
   .exact e
   .rcases k y e with rfl|h
    .exact absurd b (kr _)
    .exact(rR h b).elim
  cases hf:f x with
  |true=>exact⟨_,.lt x hf (by cases a:g x with|false=>rfl|true=>exact absurd (hf.trans a.symm) i) d⟩
  |false=>exact⟨_,.gt x hf (by cases a:g x with|true=>rfl|false=>exact absurd (hf.trans a.symm) i) d⟩
 .exact⟨0,.same fun w=>Classical.not_not.1 fun e=>h ⟨w,e⟩⟩
theorem Tx(a b:RS):∃c,mr a.has b.has c:=by
 by_cases d:a.gY=b.gY
 .by_cases e:a.iF=b.iF
  .by_cases f:a.iZ=b.iZ
   .by_cases g:lC a.ns b.ns=0
    .obtain⟨c,h⟩:=R5 (Sem a.t) (Sem b.t);exact⟨c,H9 d e f g h⟩
    .exact⟨_,Ia d e f g⟩
   .exact⟨_,Hz d e f⟩
  .exact⟨_,Ic d e⟩
 .exact⟨_,Ib d⟩
noncomputable def YX(a b:RS):Int:=(Tx a b).choose
theorem qd(a b:RS):mr a.has b.has (YX a b):=(Tx a b).choose_spec
theorem W9{a b:RS}{c:Int}(h:mr a.has b.has c):YX a b=c:=oL (qd a b) h
noncomputable def J3(a b:aC):Int:=(R5 (Sem a) (Sem b)).choose
theorem mh(a b:aC):fC (Sem a) (Sem b) (J3 a b):=(R5 (Sem a) (Sem b)).choose_spec
theorem Gt{a b:aC}{c:Int}(h:fC (Sem a) (Sem b) c):J3 a b=c:=nS (mh a b) h
theorem YW:mD RS.gB YX where
 ik a b _ _:=(qd a b).range
 uU a b _ _:=W9 (qd a b).au
 eq a b ha hb:=(qd a b).zero.trans ⟨fun h=>Xb ha hb h,fun h e=>by rw[h]⟩
 tr a b d _ _ _ h1 h2:=(Sa (qd a b) (qd b d) (qd a d) h1 h2).1
theorem UY:mD dG J3 where
 ik a b _ _:=(mh a b).range
 uU a b _ _:=Gt (mh a b).au
 eq a b ha hb:=(mh a b).zero.trans ⟨fun h=>Ou (Ec ha) ((Ec hb).congr fun w=>(h w).symm),fun h w=>by rw[h]⟩
 tr a b d _ _ _ h1 h2:=(VQ (mh a b) (mh b d) (mh a d) h1 h2).1
def Av(a b:ByteArray):Int:=if Dw a b then -1 else if a=b then 0 else 1
theorem Il:∀x:List UInt8,Go.Op.bytesLess x x=false
 |[]=>rfl
 |a::x=>by simp[Go.Op.bytesLess,Il x]
theorem Ky:∀x y:List UInt8,x≠y->Go.Op.bytesLess x y = !Go.Op.bytesLess y x
 |[],[],h=>absurd rfl h
 |[],_::_,_=>by simp[Go.Op.bytesLess]
 |_::_,[],_=>by simp[Go.Op.bytesLess]
 |a::x,b::y,h=>by
  by_cases e:a=b
  .subst e;have:=Ky x y (fun i=>h (by rw[i]));simp[Go.Op.bytesLess,this]
  .have g:a.toNat≠b.toNat:=fun h=>e (UInt8.toNat_inj.1 h);rcases Nat.lt_or_gt_of_ne g with f|f
   .have d:a<b:=UInt8.lt_iff_toNat_lt.2 f;have c:¬b<a:=fun h=>by have:=UInt8.lt_iff_toNat_lt.1 h;omega
    simp[Go.Op.bytesLess,d,c,Ne.symm e]
   .have d:b<a:=UInt8.lt_iff_toNat_lt.2 f;have c:¬a<b:=fun h=>by have:=UInt8.lt_iff_toNat_lt.1 h;omega
    simp[Go.Op.bytesLess,d,c,e]
theorem Kw:∀x y z:List UInt8,Go.Op.bytesLess x y=true->Go.Op.bytesLess y z=true->Go.Op.bytesLess x z=true
 |[],[],_,h,_=>by simp[Go.Op.bytesLess]at h
 |_::_,[],_,h,_=>by simp[Go.Op.bytesLess]at h
 |_,_::_,[],_,h=>by simp[Go.Op.bytesLess]at h
 |[],_::_,_::_,_,_=>by simp[Go.Op.bytesLess]
 |a::x,b::y,c::z,h,k=>by
  simp[Go.Op.bytesLess]at h k⊢;rcases h with h|⟨rfl,h⟩
  .rcases k with k|⟨rfl,k⟩
   .exact .inl (UInt8.lt_trans h k)
   .exact .inl h
  .rcases k with k|⟨rfl,k⟩
   .exact .inl k
   .exact .inr ⟨rfl,Kw x y z h k⟩
theorem ME{a b:ByteArray}(h:a.data.toList=b.data.toList):a=b:=by
 obtain⟨⟨a⟩⟩:=a;obtain⟨⟨b⟩⟩:=b;simp only at h;rw[h]
theorem Iw(a:ByteArray):Dw a a=false:=Il _
theorem Wi{a b:ByteArray}(h:a≠b):Dw a b = !Dw b a:=Ky _ _ fun e=>h (ME e)
theorem Wh{a b c:ByteArray}(h:Dw a b=true)(k:Dw b c=true):Dw a c=true:=Kw _ _ _ h k
theorem WS:mD (fun _=>True) Av where
 ik a b _ _:=by unfold Av;split<;>(try split)<;>omega
 uU a b _ _:=by
  by_cases e:a=b
  .subst e;simp[Av,Iw]
  .have:=Wi e;unfold Av;rw[zJ e,zJ (Ne.symm e),this];cases Dw b a<;>simp
 eq a b _ _:=by
  by_cases e:a=b
  .subst e;simp[Av,Iw]
  .unfold Av;rw[zJ e];cases Dw a b<;>simp[e]
 tr a b d _ _ _ h1 h2:=by
  unfold Av at*
  by_cases f:a=b
  .subst f;exact h2
  .by_cases c:b=d
   .subst c;exact h1
   .rw[zJ f]at h1;rw[zJ c]at h2;have i:Dw a b=true:=by cases h:Dw a b with|true=>rfl|false=>rw[h]at h1;simp at h1
    have g:Dw b d=true:=by cases h:Dw b d with|true=>rfl|false=>rw[h]at h2;simp at h2
    rw[zK (Wh i g)];omega
noncomputable def Cz(c:Vl->Vl->Int)(a b:Vd):Int:=jK (c a.1 b.1) (c a.2 b.2)
noncomputable def Tj(c:Vl->Vl->Int)(a b:Lc):Int:=jK (kV a.1.length b.1.length) (jK (ng (decide (0<a.2.length)) (decide (0<b.2.length))) (bS (Cz c) (bW a) (bW b)))
noncomputable def Tt(c:Vl->Vl->Int)(a b:Fd):Int:=jK (jK (Av a.1.1 b.1.1) (kV a.1.2 b.1.2)) (Cz c a.2 b.2)
noncomputable def Tk(c:Vl->Vl->Int)(a b:Kl):Int:=jK (J3 a.1 b.1) (Cz c a.2 b.2)
noncomputable def Wt(c:Vl->Vl->Int)(a b:St):Int:=jK (bS (Tt c) a.1 b.1) (bS (Tk c) a.2 b.2)
noncomputable def dn:Nat->Vl->Vl->Int
 |0,_,_=>0
 |n+1,a,b=>jK (ng a.any b.any) (jK (YX a.s b.s) (jK (bS (Tj (dn n)) a.aU b.aU) (bS (Wt (dn n)) a.aF b.aF)))
theorem WE{a b:Vl}(f:a.any=b.any)(e:a.s=b.s)(d:a.aU=b.aU)(c:a.aF=b.aF):a=b:=by
 obtain⟨_,_,_,_⟩:=a;obtain⟨_,_,_,_⟩:=b;simp only[Vl.any,Vl.s,Vl.aU,Vl.aF]at*
 subst f e d c;rfl
theorem xm{v:Vl}{c:Lc}(b:c∈v.aU){x:Vd}(a:x∈bW c):x∈v.kids:=yP.2 (.inl (xW.2 ⟨c,b,a⟩))
theorem qL{v:Vl}{c:St}(b:c∈v.aF){x:Vd}(a:x∈fE c):x∈v.kids:=yP.2 (.inr (xW.2 ⟨c,b,a⟩))
theorem Gv{v:Vl}{c:St}(b:c∈v.aF){f:Fd}(a:f∈c.1):f.2∈v.kids:=qL b (yP.2 (.inl (yD.2 ⟨f,a,rfl⟩)))
theorem Gw{v:Vl}{c:St}(b:c∈v.aF){k:Kl}(a:k∈c.2):k.2∈v.kids:=qL b (yP.2 (.inr (yD.2 ⟨k,a,rfl⟩)))
section
variable {p:Vl->Prop} {c:Vl->Vl->Int}
theorem ER(h:mD p c):mD (fun x:Vd=>p x.1/\p x.2) (Cz c):=h.pair h
theorem Zd(h:mD p c):mD (fun x:Lc=>x.2.length<=1/\∀y∈bW x,p y.1/\p y.2) (Tj c):=by
 have d:=(tY.pair (OT.pair (BR (ER h)))).by' (q:=fun x:Lc=>x.2.length<=1/\∀y∈bW x,p y.1/\p y.2) (fun x:Lc=>((x.1.length:Int),decide (0<x.2.length),bW x)) (fun x y a j e=>by
  simp only[Prod.mk.injEq]at e;obtain⟨b,k,i⟩:=e;have b:x.1.length=y.1.length:=zo;obtain⟨g,f⟩:=List.append_inj i b;exact Prod.ext g f) (fun x a=>⟨trivial,trivial,a.2⟩)
 exact d
theorem Zp(h:mD p c):mD (fun x:Fd=>p x.2.1/\p x.2.2) (Tt c):=
 ((WS.pair tY).pair (ER h)).sub fun _ h=>⟨⟨trivial,trivial⟩,h⟩
theorem Zi(h:mD p c):mD (fun x:Kl=>dG x.1/\p x.2.1/\p x.2.2) (Tk c):=UY.pair (ER h)
theorem YR(h:mD p c):mD (fun x:St=>(∀f∈x.1,p f.2.1/\p f.2.2)/\∀k∈x.2,dG k.1/\p k.2.1/\p k.2.2) (Wt c):=(BR (Zp h)).pair (BR (Zi h))
end
theorem yg:∀n,mD (oN n) (dn n)
 |0=>⟨fun _ _ h=>h.elim,fun _ _ h=>h.elim,fun _ _ h=>h.elim,fun _ _ _ h=>h.elim⟩
 |n+1=>by
  have d:=yg n;have h:=(OT.pair (YW.pair ((BR (Zd d)).pair (BR (YR d))))).by' (q:=oN (n+1)) (fun v:Vl=>(v.any,v.s,v.aU,v.aF)) (fun x y _ _ e=>by
   simp only[Prod.mk.injEq]at e;exact WE e.1 e.2.1 e.2.2.1 e.2.2.2) (fun v a=>⟨trivial,a.1.sc,fun c b=>⟨a.1.rest c b,fun y i=>a.2 y (xm b i)⟩,fun c b=>
    ⟨fun f j=>a.2 _ (Gv b j),fun k g=>⟨((a.1.st c b).2.sets k g).1,a.2 _ (Gw b g)⟩⟩⟩)
  exact h
end Cl
namespace Cl
structure fA where
 n:Nat
 step:Int->Nat->Int
 acc:Int->Bool
structure fA.Ok (c:fA):Prop where
 pos:1<=c.n
 step:∀i b,-1<=c.step i b/\c.step i b<c.n
def fA.from(c:fA):Int->List UInt8->Int
 |i,[]=>i
 |i,b::w=>c.from (c.step i b.toNat) w
def fA.rC(c:fA)(w:List UInt8):Bool:=c.acc (c.from 0 w)
def eX(cs:List fA)(v:List Int)(b:Nat):List Int:=List.zipWith (fun c i=>c.step i b) cs v
def ib(cs:List fA):List Int:=cs.map fun _=>0
def lF(cs:List fA)(v:List Int):Nat:=(List.zipWith (fun c i=>c.acc i) cs v).countP id
def IV(cs:List fA):List Int->List UInt8->List Int
 |v,[]=>v
 |v,b::w=>IV cs (eX cs v b.toNat) w
theorem uZ{α β γ:Type}(f:α->β->γ)(g:α->β):∀l:List α,List.zipWith f l (l.map g)=l.map fun x=>f x (g x)
 |[]=>rfl
 |x::l=>by simp only[yL,List.zipWith_cons_cons,uZ f g l]
theorem Bl(cs:List fA):∀(w:List UInt8) (f:fA->Int),IV cs (cs.map f) w=cs.map fun c=>c.from (f c) w
 |[],f=>rfl
 |b::w,f=>by
  rw[IV,eX,uZ,Bl cs w]
  rfl
theorem Js(cs:List fA)(w:List UInt8):lF cs (IV cs (ib cs) w)=cs.countP fun c=>c.rC w:=by
 rw[ib,Bl,lF,uZ,List.countP_map]
 rfl
theorem DJ(cs:List fA):∀(u w:List UInt8) (v:List Int),IV cs v (u++w)=IV cs (IV cs v u) w
 |[],_,_=>rfl
 |b::u,w,v=>by simp only[xK,IV,DJ cs u w]
def kF(cs:List fA)(v:List Int):Prop:=∃w,v=IV cs (ib cs) w
theorem kF.start(cs:List fA):kF cs (ib cs):=⟨[],rfl⟩
theorem kF.step{cs:List fA}{v:List Int}(h:kF cs v){b:Nat}(a:b<256):kF cs (eX cs v b):=by
 obtain⟨w,rfl⟩:=h;refine⟨w++[UInt8.ofNat b],?_⟩;rw[DJ];simp only[IV]
 congr 1
 simp[Nat.mod_eq_of_lt a]
theorem Cg{cs:List fA}{S:List Int->Prop}(a:S (ib cs))(c:∀v,S v->∀b<256,S (eX cs v b)){v:List Int}(h:kF cs v):S v:=by
 obtain⟨w,rfl⟩:=h;generalize ib cs=u at a
 induction w generalizing u with
 |nil=>exact a
 |cons b w ih=>exact ih _ (c u a b.toNat (UInt8.toNat_lt b))
def sH(cs:List fA):Prop:=∀w,cs.countP (fun c=>c.rC w)=1
theorem wh{cs:List fA}{S:List Int->Prop}(d:S (ib cs))(a:∀v,S v->∀b<256,S (eX cs v b))(c:∀v,S v->lF cs v=1):sH cs:=fun w=>by
 rw[<-Js];exact c _ (Cg d a ⟨w,rfl⟩)
theorem NV{cs:List fA}{v:List Int}(h:kF cs v)(k:lF cs v≠1):¬sH cs:=fun a=>by
 obtain⟨w,rfl⟩:=h;rw[Js]at k;exact k (a w)
def Af:List fA->List Int->Prop
 |[],[]=>True
 |[],_::_=>False
 |_::_,[]=>False
 |c::cs,i::v=>(-1<=i/\i<c.n)/\Af cs v
theorem Af.len:∀{cs:List fA} {v:List Int},Af cs v->v.length=cs.length
 |[],[],_=>rfl
 |[],_::_,h=>h.elim
 |_::_,[],h=>h.elim
 |c::cs,i::v,h=>by simp[Af.len h.2]
theorem Af.start:∀{cs:List fA},(∀c∈cs,c.Ok)->Af cs (ib cs)
 |[],_=>trivial
 |c::cs,h=>⟨⟨by show(-1:Int)<=0;omega,by have:=(h c zS).pos;show(0:Int)<c.n;omega⟩,Af.start fun d a=>h d (by simp[a])⟩
theorem Af.step:∀{cs:List fA} {v:List Int} (_:∀c∈cs,c.Ok) (_:v.length=cs.length) (b:Nat),Af cs (eX cs v b)
 |[],[],_,_,_=>trivial
 |[],_::_,_,h,_=>by simp at h
 |_::_,[],_,h,_=>by simp at h
 |c::cs,i::v,h,hl,b=>⟨(h c zS).step i b,Af.step (fun d a=>h d (by simp[a])) qea b⟩
theorem Af.get:∀{cs:List fA} {v:List Int} (_:Af cs v) (i:Nat) (h1:i<cs.length) (h2:i<v.length),-1<=v[i]/\v[i]<cs[i].n
 |[],_,_,i,h1,_=>by simp at h1
 |_::_,[],h,_,_,_=>h.elim
 |c::cs,x::v,h,0,_,_=>h.1
 |c::cs,x::v,h,i+1,h1,h2=>Af.get h.2 i qeD qeP
theorem Af.reach{cs:List fA}(h:∀c∈cs,c.Ok){v:List Int}(k:kF cs v):Af cs v:=
 Cg (S:=Af cs) (Af.start h) (fun _ a b _=>Af.step h a.len b) k
def P7:List fA->List (List Int)
 |[]=>[[]]
 |c::cs=>(List.range (c.n+1)).flatMap fun(i:Nat)=>(P7 cs).map fun v=>((i:Int)-1)::v
theorem Gj:∀{cs:List fA} {v:List Int},Af cs v->v∈P7 cs
 |[],[],_=>by simp[P7]
 |[],_::_,h=>h.elim
 |_::_,[],h=>h.elim
 |c::cs,i::v,h=>by
  refine xW.2 ⟨(i+1).toNat,yQ.2 (by have b:=h.1.1;have a:=h.1.2;omega),yD.2 ⟨v,Gj h.2,?_⟩⟩
  congr 1
  have:=h.1;omega
def oC:List fA->Nat
 |[]=>1
 |c::cs=>(c.n+1)*oC cs
theorem BU{α β:Type}(f:α->List β)(k:Nat):∀(l:List α),(∀x∈l,(f x).length=k)->(l.flatMap f).length=l.length*k
 |[],_=>by simp
 |x::l,h=>by
  rw[xO,zL,h x zS,BU f k l fun y hy=>h y qey,yO,Nat.succ_mul,Nat.add_comm]
theorem Fx:∀cs:List fA,(P7 cs).length=oC cs
 |[]=>rfl
 |c::cs=>by
  rw[P7,oC,BU _ (oC cs) _ (fun x _=>by rw[xC,Fx cs]),List.length_range]
theorem Fy{k:Nat}:∀{cs:List fA},(∀c∈cs,c.n+1<=k)->oC cs<=k ^ cs.length
 |[],_=>by simp[oC]
 |c::cs,h=>by
  rw[oC,yO,Nat.pow_succ,Nat.mul_comm (k ^ cs.length)];exact xV (h c zS) (Fy fun d a=>h d (by simp[a]))
def gH(l:aC):fA:=⟨l.length,bC l,bB l⟩
theorem EU{l:aC}(h:dG l)(a:l≠[]):(gH l).Ok where
 pos:=by have:=yY.2 a;exact this
 step i b:=by
  have:=fQ h.wf i b;have c:=yY.2 a;show -1<=bC l i b/\bC l i b<(l.length:Int);omega
theorem JA(l:aC):∀(w:List UInt8) (i:Int),bB l ((gH l).from i w)=aK l i w
 |[],_=>rfl
 |_::w,_=>JA l w _
theorem CP{l:aC}(h:dG l)(w:List UInt8):(gH l).rC w=Sem l w:=by
 rw[mH h];exact JA l w 0
def mY(s:List UInt8)(i:Int)(b:Nat):Int:=if 0<=i/\(s[i.toNat]?).map (·.toNat)=some b then i+1 else -1
def su(s:List UInt8):fA:=⟨s.length+1,mY s,fun i=>i==(s.length:Int)⟩
theorem Zh(s:List UInt8):(su s).Ok where
 pos:=by show 1<=s.length+1;omega
 step i b:=by
  show -1<=mY s i b/\mY s i b<((s.length+1:Nat):Int);unfold mY
  split
  .rename_i h;obtain⟨d,c⟩:=h;obtain⟨x,a,-⟩:=Option.map_eq_some_iff.1 c;have:=(yB.1 a).1;omega
  .omega
theorem Gu(s:List UInt8):∀w:List UInt8,(su s).from (-1) w = -1
 |[]=>rfl
 |b::w=>by
  rw[fA.from,show(su s).step (-1) b.toNat = -1 by simp[su,mY]];exact Gu s w
theorem J4(s:List UInt8):∀(w:List UInt8) (i:Nat),i<=s.length->((su s).from i w=(s.length:Int)↔w=s.drop i)
 |[],i,h=>by
  simp only[fA.from];constructor
  .intro e;rw[List.drop_eq_nil_iff.2 zo]
  .intro e;have:=List.drop_eq_nil_iff.1 e.symm
   omega
 |b::w,i,h=>by
  rw[fA.from];by_cases hi:i<s.length
  .rw[yE hi];by_cases e:s[i].toNat=b.toNat
   .have:(su s).step i b.toNat=((i+1:Nat):Int):=by
     simp only[su,mY];rw[zK ⟨zo,by simp[hi,e]⟩];simp
    rw[this,J4 s w (i+1) zo,UInt8.toNat_inj.1 e];simp
   .have:(su s).step i b.toNat = -1:=by
     simp only[su,mY];rw[zJ (by simp[hi,e])]
    rw[this,Gu];constructor
    .intro h;omega
    .intro h;simp only[List.cons.injEq]at h;exact absurd (by rw[h.1]) e
  .have:(su s).step i b.toNat = -1:=by
    simp only[su,mY];rw[zJ (by simp[vC (Nat.le_of_not_lt hi)])]
   rw[this,Gu,List.drop_eq_nil_iff.2 zo];constructor
   .intro h;omega
   .intro h;cases h
theorem U0(s w:List UInt8):(su s).rC w=(s==w):=by
 have:=J4 s w 0 (zG _);rw[List.drop_zero]at this;show((su s).from 0 w==(s.length:Int))=(s==w);rw[Bool.eq_iff_iff,beq_iff_eq,beq_iff_eq];exact this.trans eq_comm
def fO(c:St):List fA:=c.2.map (fun k=>gH k.1)++c.1.map fun f=>su f.1.1.data.toList
theorem YS{c:St}(h:∀k∈c.2,dG k.1/\k.1≠[]):∀x∈fO c,x.Ok:=by
 intro x a;rcases yP.1 a with a|a
 .obtain⟨k,b,rfl⟩:=yD.1 a;exact EU (h k b).1 (h k b).2
 .obtain⟨f,d,rfl⟩:=yD.1 a;exact Zh _
theorem qX{α:Type}{p q:α->Bool}:∀{l:List α},(∀x∈l,p x=q x)->l.countP p=l.countP q
 |[],_=>rfl
 |x::l,h=>by
  simp only[List.countP_cons,h x zS,qX fun y a=>h y (zU _ a)]
theorem CQ{c:St}(h:∀k∈c.2,dG k.1/\k.1≠[]):sH (fO c)↔∀w,Rk c w=1:=by
 have:∀w,(fO c).countP (fun x=>x.rC w)=Rk c w:=fun w=>by
  rw[fO,List.countP_append,List.countP_map,List.countP_map,Rk]
  congr 1
  .exact qX fun k a=>CP (h k a).1 w
  .exact qX fun f _=>U0 _ _
 simp only[sH,this]
theorem oo(c:St):eZ c↔(∀k∈c.2,dG k.1/\k.1≠[])/\sH (fO c):=
 ⟨fun h=>⟨h.sets,(CQ h.sets).2 h.once⟩,fun h=>⟨h.1,(CQ h.1).1 h.2⟩⟩
end Cl
namespace Cl
theorem Dk{α:Type}{p:α->Bool}{l:List α}(h:∀i (hi:i<l.length),p l[i]=false):l.find? p=none:=by
 rw[List.find?_eq_none];intro x a;obtain⟨i,hi,rfl⟩:=yX a;simp[h i hi]
theorem Mf{α:Type}{p:α->Bool}:∀{l:List α} (n:Nat) (a:n<l.length),(∀i (hi:i<l.length),i<n->p l[i]=false)->p l[n]=true->l.find? p=some l[n]
 |[],n,a,_,_=>by simp at a
 |x::l,0,_,_,h=>by simp only[xL]at h⊢;rw[List.find?_cons,h]
 |x::l,n+1,a,h0,h=>by
  have b:=h0 0 zS zo;simp only[xL]at b;rw[List.find?_cons,b];exact Mf n (by simpa using a) (fun i hi c=>h0 (i+1) qeC zo) qeo
theorem TJ(a b:Vl):a=b↔a.any=b.any/\a.s=b.s/\a.aU=b.aU/\a.aF=b.aF:=
 ⟨fun h=>by rw[h];exact⟨rfl,rfl,rfl,rfl⟩,fun h=>WE h.1 h.2.1 h.2.2.1 h.2.2.2⟩
theorem UW(a b:Lc):a=b↔a.1.length=b.1.length/\bW a=bW b:=by
 constructor
 .intro h;rw[h];exact⟨rfl,rfl⟩
 .rintro⟨f,e⟩;obtain⟨d,c⟩:=List.append_inj e f;exact Prod.ext d c
end Cl
namespace Cl
def jU(A B:aC)(p:Int×Int)(b:Nat):Int×Int:=(bC A p.1 b,bC B p.2 b)
structure mO (A B:aC) (p:Int×Int) (l:List (Int×Int)) (es:List Ed) (c:Nat):Prop where
 wf:bP l.length (-1) es
 hi:∀e∈es,e.hi<c
 le:c<=256
 step:∀b,b<c->∃t:Nat,bv es b=t/\l[t]?=some (jU A B p b)
 last:c=0/\es=[]\/∃fs e,es=fs++[e]/\e.hi+1=c
theorem mO.start(A B:aC)(p:Int×Int)(l:List (Int×Int)):mO A B p l [] 0:=
 ⟨trivial,fun e a=>by simp at a,zo,fun b c=>zo,.inl ⟨rfl,rfl⟩⟩
theorem mO.mono{A B:aC}{p:Int×Int}{l a:List (Int×Int)}{es:List Ed}{c:Nat}(h:mO A B p l es c)(d:l <+: a):mO A B p a es c:=by
 refine⟨sS d.length_le h.wf,h.hi,h.le,fun b f=>?_,h.last⟩;obtain⟨t,g,e⟩:=h.step b f;obtain⟨x,rfl⟩:=d;exact⟨t,g,by rw[yK (yB.1 e).1];exact e⟩
theorem mO.YA{A B:aC}{p:Int×Int}{l:List (Int×Int)}{es:List Ed}{c h t:Nat}(H:mO A B p l es c)(i:c<=h)(k:h<256)(ht:l[t]?=some (jU A B p c))
(m:∀b,c<=b->b<=h->jU A B p b=jU A B p c):mO A B p l (es++[⟨c,h,t⟩]) (h+1):=by
 have g:=(yB.1 ht).1;refine⟨qG (q:=(c:Int)-1) H.wf (fun e a=>by have:=H.hi e a;omega) zo ⟨i,zS,by simpa using g,by show(c:Int)-1<(c:Int);omega,trivial⟩,?_,zo,fun b u=>?_,.inr ⟨es,_,rfl,rfl⟩⟩
 .intro e a;rcases yP.1 a with f|f
  .have:=H.hi e f;omega
  .simp only[zZ]at f;subst f;exact Nat.lt_succ_self _
 .by_cases j:b<c
  .obtain⟨s,f,o⟩:=H.step b j;refine⟨s,?_,o⟩;rw[<-f];by_cases d:∃e∈es,e.lo<=b/\b<=e.hi
   .exact jZ _ _ _ d
   .have r:∀e∈es,¬(e.lo<=b/\b<=e.hi):=fun e a n=>d ⟨e,a,n⟩;rw[uw _ _ r]at f;omega
  .refine⟨t,?_,by rw[m b zo zo];exact ht⟩;rw[kL _ _ _ (fun e a=>by have:=H.hi e a;omega)];simp only[bv];rw[zK ⟨zo,zo⟩]
theorem mO.widen{A B:aC}{p:Int×Int}{l:List (Int×Int)}{fs:List Ed}{e:Ed}{c:Nat}(H:mO A B p l (fs++[e]) c)(y:e.hi+1=c)(o:c<256)
(s:jU A B p c=jU A B p (c-1)):mO A B p l (fs++[⟨e.lo,c,e.to⟩]) (c+1):=by
 have k:=Bi H.wf;have n:=fP H.wf e zS;refine⟨qG (q:=(e.lo:Int)-1) (yx H.wf) (fun x a=>by have:=k x a;omega) zo ⟨by show e.lo<=c;omega,n.2.2.1,n.2.2.2,by show(e.lo:Int)-1<(e.lo:Int);omega,trivial⟩,?_,zo,fun b v=>?_,.inr ⟨fs,_,rfl,rfl⟩⟩
 .intro x a;rcases yP.1 a with g|g
  .have:=H.hi x (by simp[g]);omega
  .simp only[zZ]at g;subst g;exact Nat.lt_succ_self _
 .have i:∀b,b<=c-1->bv (fs++[⟨e.lo,c,e.to⟩]) b=bv (fs++[e]) b:=by
   intro b v;by_cases d:∃x∈fs,x.lo<=b/\b<=x.hi
   .rw[jZ _ _ _ d,jZ _ _ _ d]
   .have r:∀x∈fs,¬(x.lo<=b/\b<=x.hi):=fun x a u=>d ⟨x,a,u⟩;rw[kL _ _ _ r,kL _ _ _ r];simp only[bv];by_cases f:e.lo<=b
    .rw[zK zo,zK zo]
    .rw[zJ zo,zJ zo]
  by_cases m:b<c
  .rw[i b zo];exact H.step b m
  .obtain rfl:b=c:=zo;obtain⟨t,g,w⟩:=H.step (b-1) zo;refine⟨t,?_,by rw[s];exact w⟩;have j:∀x∈fs,¬(x.lo<=b-1/\b-1<=x.hi):=fun x a=>by have:=k x a;omega
   have h:∀x∈fs,¬(x.lo<=b/\b<=x.hi):=fun x a=>by have:=k x a;omega
   rw[kL _ _ _ j]at g;simp only[bv]at g;rw[zK zo]at g;rw[kL _ _ _ h];simp only[bv];rw[zK zo];exact g
structure jI (A B:aC) (op:Bool->Bool->Bool) (st:Int×Int) (l:List (Int×Int)) (out:aC):Prop where
 first:l[0]?=some st
 nodup:l.Nodup
 ik:∀q∈l,(-1<=q.1/\q.1<=A.length)/\(-1<=q.2/\q.2<=B.length)
 le:out.length<=l.length
 state:∀j,(h:j<out.length)->∀p,l[j]?=some p->(out[j]).aZ=op (bB A p.1) (bB B p.2)/\mO A B p l (out[j]).aH 256
theorem nN{a b:Nat}{l:List (Int×Int)}(g:l.Nodup)(c:∀q∈l,(-1<=q.1/\q.1<=a)/\(-1<=q.2/\q.2<=b)):l.length<=(a+2)*(b+2):=by
 have:=lq l ((List.range (a+2)).flatMap fun(i:Nat)=>(List.range (b+2)).map fun(j:Nat)=>((i:Int)-1,(j:Int)-1)) g (fun q f=>by
  have:=c q f;obtain⟨e,d⟩:=q;simp only at this;rw[xW];refine⟨(e+1).toNat,yQ.2 zo,yD.2 ⟨(d+1).toNat,yQ.2 zo,?_⟩⟩;simp only[Prod.mk.injEq];omega)
 refine yJ this ?_;generalize a+2=x;generalize b+2=y;clear this c
 induction x with
 |zero=>simp
 |succ x ih=>rw[List.range_succ,List.flatMap_append,zL,Nat.succ_mul];simp at ih⊢;exact ih
theorem FY{A B:aC}{op:Bool->Bool->Bool}{st:Int×Int}(h:(-1<=st.1/\st.1<=A.length)/\(-1<=st.2/\st.2<=B.length)):jI A B op st [st] []:=
 ⟨rfl,zS,fun q a=>by simp only[zZ]at a;subst a;exact h,zS,fun j b=>by simp at b⟩
theorem jI.grow{A B:aC}{op:Bool->Bool->Bool}{st:Int×Int}{l:List (Int×Int)}{out:aC}(h:jI A B op st l out){q:Int×Int}(m:q ∉ l)
(k:(-1<=q.1/\q.1<=A.length)/\(-1<=q.2/\q.2<=B.length)):jI A B op st (l++[q]) out:=by
 have s:0<l.length:=by
  have:=h.first
  cases l with
  |nil=>simp at this
  |cons _ _=>simp
 refine⟨by rw[yK s];exact h.first,?_,?_,by have:=h.le;simp;omega,fun j n p f=>?_⟩
 .exact List.nodup_append.2 ⟨h.nodup,zS,fun a o b g e=>by simp only[zZ]at g;subst g;exact m (e ▸ o)⟩
 .intro x i;rcases yP.1 i with c|c
  .exact h.ik x c
  .simp only[zZ]at c;subst c;exact k
 .have d:j<l.length:=by have:=h.le;omega
  rw[yK d]at f;obtain⟨c,r⟩:=h.state j n p f;exact⟨c,r.mono (List.prefix_append _ _)⟩
theorem jI.push{A B:aC}{op:Bool->Bool->Bool}{st:Int×Int}{l:List (Int×Int)}{out:aC}(h:jI A B op st l out){p:Int×Int}(b:l[out.length]?=some p){es:List Ed}
(e:mO A B p l es 256):jI A B op st l (out++[⟨op (bB A p.1) (bB B p.2),es⟩]):=by
 refine⟨h.first,h.nodup,h.ik,by have:=(yB.1 b).1;simp;omega,fun j d q a=>?_⟩;by_cases c:j<out.length
 .rw[xM c];exact h.state j c q a
 .have:j=out.length:=by simp at d;omega
  subst this;rw[b]at a;cases a;have f:(out++[⟨op (bB A p.1) (bB B p.2),es⟩])[out.length]'d=⟨op (bB A p.1) (bB B p.2),es⟩:=by simp
  rw[f];exact⟨rfl,e⟩
theorem jI.done{A B:aC}{op:Bool->Bool->Bool}{st:Int×Int}{l:List (Int×Int)}{out:aC}(h:jI A B op st l out)(_:op false false=false)(i:out.length=l.length):
 WF out/\Bytes out/\out.length<=(A.length+2)*(B.length+2)/\0<out.length/\∀w,aK out 0 w=op (aK A st.1 w) (aK B st.2 w):=by
 have n:0<l.length:=by
  have:=h.first
  cases l with
  |nil=>simp at this
  |cons _ _=>simp
 have a:∀(w:List UInt8),∀(j:Nat) (p:Int×Int),l[j]?=some p->aK out j w=op (aK A p.1 w) (aK B p.2 w):=by
  intro w
  induction w with
  |nil=>
   intro j p c;have d:=(yB.1 c).1;simp only[aK];rw[fJ out j zo]
   exact(h.state j zo p c).1
  |cons b w ih=>
   intro j p c;have d:=(yB.1 c).1;simp only[aK];rw[dW out j _ zo];obtain⟨t,m,k⟩:=(h.state j zo p c).2.step b.toNat b.toNat_lt;rw[m];exact ih t _ k
 refine⟨?_,?_,by rw[i];exact nN h.nodup h.ik,zo,fun w=>a w 0 st h.first⟩
 .intro s g;obtain⟨j,d,rfl⟩:=yT.1 g;rw[i];exact(h.state j d _ (yH zo)).2.wf
 .intro s g;obtain⟨j,d,rfl⟩:=yT.1 g;have:=(h.state j d _ (yH zo)).2;intro e f;have m:=this.hi e f;have k:=(fP this.wf e f).2.1;omega
end Cl
namespace Cl
def mK(l:aC)(s:Int):List Ed:=if s<0 then[]else match l[s.toNat]? with
 |some st=>st.aH
 |none=>[]
theorem jD(l:aC)(s:Int)(b:Nat):bC l s b=bv (mK l s) b:=by
 unfold bC mK
 split
 .rfl
 .cases l[s.toNat]?<;>rfl
end Cl
namespace Cl
structure MJ (k:Nat) (c:fA):Prop where
 neg:∀b,c.step (-1) b = -1
 step:∀(i b:Nat),i<=k->c.step (i:Int) b = -1\/(c.step (i:Int) b=((i+1:Nat):Int)/\i+1<=k)
theorem MJ.OP{k:Nat}{c:fA}(h:MJ k c):∀w,c.from (-1) w = -1
 |[]=>rfl
 |b::w=>by rw[fA.from,h.neg,h.OP w]
theorem MJ.Tp{k:Nat}{c:fA}(h:MJ k c):∀(w:List UInt8) (i:Nat),i<=k->c.from (i:Int) w = -1\/(c.from (i:Int) w=((i+w.length:Nat):Int)/\i+w.length<=k)
 |[],i,hi=>.inr ⟨rfl,hi⟩
 |b::w,i,hi=>by
  rw[fA.from];rcases h.step i b.toNat hi with e|⟨e,d⟩
  .rw[e,h.OP];exact .inl rfl
  .rw[e];rcases h.Tp w (i+1) d with a|⟨a,f⟩
   .exact .inl a
   .refine .inr ⟨?_,?_⟩
    .rw[a,yO];congr 1;omega
    .rw[yO];omega
def NM:fA:=⟨1,fun _ _=>0,fun _=>true⟩
def lanes(P:List fA)(k n:Nat):List (List Int):=(P7 P).flatMap fun u=>(List.range (k+1)).flatMap fun j=>(P7 (List.replicate n NM)).map fun f=>u++f.map fun e=>if e=0 then((j:Nat):Int)else -1
theorem UZ(P:List fA)(k n:Nat):(lanes P k n).length=oC P*((k+1)*oC (List.replicate n NM)):=by
 rw[lanes,BU _ ((k+1)*oC (List.replicate n NM)) _ (fun u _=>by
  rw[BU _ (oC (List.replicate n NM)) _ (fun j _=>by rw[xC,Fx]),List.length_range]),Fx]
theorem TL(L:List fA)(w:List UInt8):Af (List.replicate L.length NM) (L.map fun c=>if c.from 0 w = -1 then(-1:Int)else 0):=by
 induction L with
 |nil=>exact trivial
 |cons c L ih=>
  refine⟨?_,ih⟩;show -1<=(if c.from 0 w = -1 then(-1:Int)else 0)/\(if c.from 0 w = -1 then(-1:Int)else 0)<((1:Nat):Int)
  split<;>omega
theorem UM{P Q:List fA}{k:Nat}(d:∀c∈P,c.Ok)(b:∀c∈Q,MJ k c){v:List Int}(h:kF (P++Q) v):v∈lanes P k Q.length:=by
 obtain⟨w,rfl⟩:=h;rw[ib,Bl,yI];refine xW.2 ⟨P.map fun c=>c.from 0 w,Gj (Af.reach d ⟨w,by rw[ib,Bl]⟩),xW.2 ⟨if w.length<=k then w.length else 0,yQ.2 (by split<;>omega),yD.2 ⟨_,Gj (TL Q w),?_⟩⟩⟩
 congr 1
 rw[vE];refine xZ fun c a=>?_;simp only[Function.comp];rcases(b c a).Tp w 0 (zG _)with e|⟨e,i⟩
 .have e:c.from 0 w = -1:=e
  simp[e]
 .have e:c.from 0 w=((0+w.length:Nat):Int):=e
  have g:w.length<=k:=zo;have f:¬(c.from 0 w = -1):=zo;simp only[f,g,if_false,if_true];omega
theorem FK{P Q:List fA}{k:Nat}(f:∀c∈P,c.Ok)(e:∀c∈Q,MJ k c){l:List (List Int)}(b:l.Nodup)(d:∀v∈l,kF (P++Q) v):l.length<=oC P*((k+1)*oC (List.replicate Q.length NM)):=by
 rw[<-UZ];exact lq l (lanes P k Q.length) b fun v a=>UM f e (d v a)
theorem U1{s:List UInt8}{k:Nat}(h:s.length<=k):MJ k (su s) where
 neg b:=by simp[su,mY]
 step i b _:=by
  show mY s i b = -1\/(mY s i b=_/\_);unfold mY
  split
  .rename_i c;obtain⟨x,a,-⟩:=Option.map_eq_some_iff.1 c.2;have:=(yB.1 a).1;exact .inr ⟨zo,zo⟩
  .exact .inl rfl
theorem Ee{P:List fA}(e:P.length<=6)(d:∀c∈P,c.n<=8){n:Nat}(b:n<=6):oC P*((40+1)*oC (List.replicate n NM))<=1400000000:=by
 have g:oC P<=9 ^ 6:=yJ (Fy (k:=9) fun x a=>by have:=d x a;omega) (Nat.pow_le_pow_right zo e);have f:oC (List.replicate n NM)<=2 ^ 6:=yJ (Fy (k:=2) fun x a=>by rw[List.eq_of_mem_replicate a];exact zI _) (Nat.pow_le_pow_right zo (by simpa using b));exact yJ (xV g (Nat.mul_le_mul_left _ f)) zD
theorem Ak{cs:List fA}{v:List Int}{k:Nat}(b:k<cs.length)(a:k<v.length):lF (cs.take (k+1)) (v.take (k+1))=lF (cs.take k) (v.take k)+if cs[k].acc v[k]then 1 else 0:=by
 unfold lF;rw[zH b,zH a,List.zipWith_append qd4,List.countP_append]
 congr 1
 simp only[List.zipWith_cons_cons,List.zipWith_nil_left,List.countP_cons,List.countP_nil,id];simp
def oZ(b:Nat)(es:List Ed)(o:Int):Int:=es.foldl (fun o e=>if e.lo<=b/\b<=e.hi then e.to else o) o
theorem Ra(b:Nat)(o:Int){es:List Ed}{j:Nat}(h:j<es.length):oZ b (es.take (j+1)) o=if(es[j]).lo<=b/\b<=(es[j]).hi then(es[j]).to else oZ b (es.take j) o:=by
 unfold oZ;rw[zH h,List.foldl_append]
 rfl
theorem Eb{n:Nat}{b:Nat}:∀{es:List Ed} {p:Int} (o:Int),bP n p es->(b:Int)<=p->oZ b es o=o
 |[],_,_,_,_=>rfl
 |e::es,p,o,h,hb=>by
  obtain⟨g,f,d,c,a⟩:=h;show oZ b es (if e.lo<=b/\b<=e.hi then e.to else o)=o;rw[zJ zo];exact Eb o a zo
theorem Ot{n:Nat}{b:Nat}:∀{es:List Ed} {p:Int},bP n p es->oZ b es (-1)=bv es b
 |[],_,_=>rfl
 |e::es,p,h=>by
  obtain⟨g,f,d,c,a⟩:=h;show oZ b es (if e.lo<=b/\b<=e.hi then e.to else -1)=bv (e::es) b;rw[bv]
  split
  .exact Eb _ a zo
  .exact Ot a
theorem azx{l:aC}(h:WF l)(x:Int):∃p,bP l.length p (mK l x):=by
 unfold mK
 split
 .exact⟨0,trivial⟩
 .cases e:l[x.toNat]? with
  |none=>exact⟨0,trivial⟩
  |some s=>exact⟨-1,h s (List.mem_of_getElem? e)⟩
theorem UX{l:aC}(h:WF l)(x:Int)(b:Nat):oZ b (mK l x) (-1)=bC l x b:=by
 obtain⟨p,a⟩:=azx h x;rw[jD,Ot a]
def Bc(cs:List fA)(v:List Int)(b k:Nat):List Int:=eX (cs.take k) (v.take k) b++List.replicate (v.length-k) (-1)
theorem Yq{cs:List fA}{v:List Int}(h:cs.length=v.length)(b:Nat){k:Nat}(a:k<=v.length):(Bc cs v b k).length=v.length:=by
 simp[Bc,eX];omega
theorem Wn(cs:List fA)(v:List Int)(b:Nat):Bc cs v b 0=List.replicate v.length (-1):=by simp[Bc,eX]
theorem Yr{cs:List fA}{v:List Int}(h:cs.length=v.length)(b:Nat):Bc cs v b v.length=eX cs v b:=by
 simp only[Bc,Nat.sub_self,List.replicate_zero,yR,yG];rw[<-h,yG]
theorem PD{cs:List fA}{v:List Int}(h:cs.length=v.length)(b:Nat){k:Nat}(c:k<v.length)(x:Int):
 (Bc cs v b k).set k x=eX (cs.take k) (v.take k) b++x::List.replicate (v.length-(k+1)) (-1):=by
 have a:(eX (cs.take k) (v.take k) b).length=k:=by simp[eX];omega
 unfold Bc;rw[List.set_append_right _ _ zo,a,Nat.sub_self,show v.length-k=(v.length-(k+1))+1 by omega,List.replicate_succ,List.set_cons_zero]
theorem KE{cs:List fA}{v:List Int}(h:cs.length=v.length)(b:Nat){k:Nat}(a:k<v.length):(Bc cs v b k).set k ((cs[k]'zo).step v[k] b)=Bc cs v b (k+1):=by
 rw[PD h b a];unfold Bc eX;rw[zH (show k<cs.length by omega),zH a,List.zipWith_append qd4];simp
def Hf(es:List Ed)(b:Nat):Prop:=∃e∈es,e.lo=b\/e.hi+1=b
def Ze(s:List UInt8)(x:Int)(b:Nat):Prop:=0<=x/\∃u,s[x.toNat]?=some u/\(u.toNat=b\/u.toNat+1=b)
def I4(c:St)(v:List Int)(b:Nat):Prop:=
 b=0\/(∃i,∃h:i<c.2.length,Hf (mK (c.2[i]).1 (v.getD i (-1))) b)\/∃i,∃h:i<c.1.length,Ze (c.1[i]).1.1.data.toList (v.getD (c.2.length+i) (-1)) b
theorem GZ{b a:Nat}(f:a<=b):∀{es:List Ed},(∀j,a<j->j<=b->¬Hf es j)->bv es b=bv es a
 |[],_=>rfl
 |e::es,h=>by
  have l:=GZ f (es:=es) fun j d h2 ⟨x,m,n⟩=>h j d h2 ⟨x,zU _ m,n⟩;have d:∀j,a<j->j<=b->e.lo≠j/\e.hi+1≠j:=fun j i g=>⟨fun k=>h j i g ⟨e,zS,.inl k⟩,fun k=>h j i g ⟨e,zS,.inr k⟩⟩;have p:e.lo<=b↔e.lo<=a:=⟨fun k=>by
   by_cases c:e.lo<=a
   .exact c
   .exact absurd rfl (d e.lo zo k).1,fun k=>zo⟩
  have o:b<=e.hi↔a<=e.hi:=⟨fun k=>zo,fun k=>by
   by_cases c:b<=e.hi
   .exact c
   .exact absurd rfl (d (e.hi+1) zo zo).2⟩
  simp only[bv,l,p,o]
theorem QY{s:List UInt8}{x:Int}{b a:Nat}(l:a<=b)(h:∀j,a<j->j<=b->¬Ze s x j):mY s x b=mY s x a:=by
 unfold mY;by_cases c:0<=x
 .cases e:s[x.toNat]? with
  |none=>simp
  |some u=>
   have g:∀j,a<j->j<=b->u.toNat≠j/\u.toNat+1≠j:=fun j f d=>⟨fun k=>h j f d ⟨c,u,e,.inl k⟩,fun k=>h j f d ⟨c,u,e,.inr k⟩⟩;have:u.toNat=b↔u.toNat=a:=by
    by_cases i:a=b
    .subst i;exact Iff.rfl
    .have m:=g b zo (zI _);constructor
     .intro k;exact absurd k m.1
     .intro k;have:=g (a+1) zo zo;omega
   simp only[vH,Option.some.injEq,this]
 .simp[c]
theorem PU{c:St}{v:List Int}{a b:Nat}(o:v.length=(fO c).length)(f:a<=b)(h:∀j,a<j->j<=b->¬I4 c v j):eX (fO c) v b=eX (fO c) v a:=by
 unfold eX;apply vF zS;intro i n p;have hi:i<v.length:=by simp at n;omega
 have d:i<(fO c).length:=zo;simp only[List.getElem_zipWith];unfold fO at d⊢;by_cases m:i<c.2.length
 .rw[xM (by simpa using m)];simp only[xQ];show bC _ _ b=bC _ _ a;rw[jD,jD];refine GZ f fun j k g l=>h j k g (.inr (.inl ⟨i,m,?_⟩));simpa [yU,hi]using l
 .rw[List.getElem_append_right qd4];simp only[xQ,xC];refine QY f fun j k g l=>h j k g (.inr (.inr ⟨i-c.2.length,by simp at d;omega,?_⟩));have e:c.2.length+(i-c.2.length)=i:=zo;rw[e];simpa [yU,hi]using l
theorem Gl{P:Nat->Prop}(f:P 0):∀b,∃a,a<=b/\P a/\∀j,a<j->j<=b->¬P j
 |0=>⟨0,zI _,f,fun j d c=>zo⟩
 |b+1=>by
  by_cases h:P (b+1)
  .exact⟨b+1,zI _,h,fun j d c=>zo⟩
  .obtain⟨a,d,c,i⟩:=Gl f b;exact⟨a,zo,c,fun j g k=>by
    by_cases e:j=b+1
    .subst e;exact h
    .exact i j g zo⟩
theorem T9{c:St}{v:List Int}(d:v.length=(fO c).length){b:Nat}(h:b<256):∃a,a<256/\I4 c v a/\eX (fO c) v b=eX (fO c) v a:=by
 obtain⟨a,g,f,e⟩:=Gl (P:=I4 c v) (.inl rfl) b;exact⟨a,zo,f,PU d g e⟩
end Cl
namespace Cl
theorem Rc(l:List bT)(k:Nat)(h:k<l.length):mI (l.take (k+1))=mI (l.take k)++if(lQ l[k]).1<=(lQ l[k]).2 then[lQ l[k]]else[]:=by
 rw[zH h];unfold mI;rw[yI,List.filter_append]
 congr 1
 by_cases a:(lQ l[k]).1<=(lQ l[k]).2<;>simp[a]
theorem Gx(l:List bT)(k:Nat)(h:k<l.length):jX (l.take (k+1))=jX (l.take k)++if(iO l[k]).1<=(iO l[k]).2 then[iO l[k]]else[]:=by
 rw[zH h];unfold jX;rw[yI,List.filter_append]
 congr 1
 by_cases a:(iO l[k]).1<=(iO l[k]).2<;>simp[a]
theorem Rh(nx:Int->Int)(p:List bT)(k:Nat)(h:k<p.length)(t:bT)(r:List bT):
 jN nx (p.drop k) (t::r)=if p[k].1<=nx t.2 then jN nx (p.drop (k+1)) ((t.1,max t.2 p[k].2)::r)else jN nx (p.drop (k+1)) (p[k]::t::r):=by
 rw[yE h,jN]
theorem OA(nx:Int->Int)(p:List bT)(k:Nat)(h:k<p.length):jN nx (p.drop k) []=jN nx (p.drop (k+1)) [p[k]]:=by
 rw[yE h,jN]
theorem UN(x:bT)(b:List bT)(k:Nat)(h:k<b.length):
 ((b.take (k+1)).map (kR x)).filter (fun z=>decide (z.1<=z.2))=((b.take k).map (kR x)).filter (fun z=>decide (z.1<=z.2))++if(kR x b[k]).1<=(kR x b[k]).2 then[kR x b[k]]else[]:=by
 rw[zH h,yI,List.filter_append]
 congr 1
 by_cases a:(kR x b[k]).1<=(kR x b[k]).2<;>simp[a]
theorem O9(a b:List bT)(k:Nat)(h:k<a.length):fe (a.take (k+1)) b=fe (a.take k) b++(b.map (kR a[k])).filter fun z=>decide (z.1<=z.2):=by
 rw[zH h];unfold fe;rw[List.flatMap_append];simp
theorem nT:∀(l r:List Int) (b:Option Int),d9 (l++r) b=d9 r (d9 l b)
 |[],r,b=>rfl
 |u::l,r,none=>by simp only[xK,d9];exact nT l r _
 |u::l,r,some b=>by simp only[xK,d9];exact nT l r _
theorem Re{l:List bT}:∀s∈mI l,-il<=s.1/\s.2<=il/\s.1<=s.2:=fun s h=>by
 have a:=Ov s h;obtain⟨t,-,rfl⟩:=yD.1 (xR.1 h).1;unfold lQ at*
 simp only[il]at*
 omega
theorem Gy{l:List bT}:∀s∈jX l,-iD-1<=s.1/\s.2<=iD+1/\s.1<=s.2:=fun s h=>by
 have c:=Ox s h;obtain⟨t,-,e⟩:=yD.1 (xR.1 h).1;have b:s.1=if(max t.1 (-iD))%10000=0 then max t.1 (-iD)+1 else max t.1 (-iD):=by rw[<-e];rfl
 have a:s.2=if(min t.2 iD)%10000=0 then min t.2 iD-1 else min t.2 iD:=by rw[<-e];rfl
 have f:s.1=max t.1 (-iD)+1\/s.1=max t.1 (-iD):=by rw[b];split<;>simp
 have d:s.2=min t.2 iD-1\/s.2=min t.2 iD:=by rw[a];split<;>simp
 simp only[iD]at*
 omega
end Cl
namespace Cl
theorem Rq(nx a:Int->Int)(l:List bT)(k:Nat)(h:k<l.length)(lo hi:Int):fZ nx a (l.drop k) lo hi=(if lo<=a l[k].1 then[(lo,a l[k].1)]else[])++fZ nx a (l.drop (k+1)) (nx l[k].2) hi:=by
 rw[yE h,fZ]
end Cl
namespace Cl
def rz(s:bT):Prop:=s.1<=s.2 -> -1000000000000002<=s.1/\s.2<=1000000000000002
theorem rz.take{l:List bT}(h:∀s∈l,rz s)(k:Nat):∀s∈l.take k,rz s:=fun s a=>h s (xX a)
end Cl
namespace Cl
def aY(p:Nat->Bool):List Nat:=(List.range 256).filter p
def jF(c:List Nat)(i:Nat):Nat:=c.getD i 0
def qF(c:List Nat)(i:Nat):Nat:=if i+1<c.length then c.getD (i+1) 0-1 else 255
theorem kZ{p:Nat->Bool}{i j:Nat}(a:i<j)(b:j<(aY p).length):(aY p).getD i 0<(aY p).getD j 0:=by
 have h:(aY p).Pairwise (·<·):=List.pairwise_lt_range.filter p;have:=List.pairwise_iff_getElem.1 h i j zo b a;simpa [b,Nat.lt_trans a b]using this
theorem Eu{p:Nat->Bool}{i:Nat}(hi:i<(aY p).length):(aY p).getD i 0<256/\p ((aY p).getD i 0)=true:=by
 have:(aY p).getD i 0∈aY p:=by simp[hi]
 simpa [aY]using this
theorem Et{p:Nat->Bool}{b:Nat}(d:b<256)(c:p b=true):∃j,j<(aY p).length/\(aY p).getD j 0=b:=by
 have:b∈aY p:=by simp[aY,d,c]
 obtain⟨j,a,e⟩:=yT.1 this;exact⟨j,a,by simp[a,e]⟩
theorem Gz{p:Nat->Bool}(m:p 0=true):Ivs (jF (aY p)) (qF (aY p)) (aY p).length /\
 ∀i,i<(aY p).length->∀b,jF (aY p) i<b->b<=qF (aY p) i->p b=false:=by
 have a:∀i,i<(aY p).length->jF (aY p) i<=qF (aY p) i/\qF (aY p) i<256:=by
  intro i hi;unfold jF qF;have:=Eu hi
  split
  .rename_i h;have:=kZ (show i<i+1 by omega) h;have:=(Eu h).1;omega
  .omega
 refine⟨⟨a,?_,?_⟩,?_⟩
 .intro i j g d;unfold jF qF;rw[zK zo];have k:=kZ (show i<i+1 by omega) (show i+1<(aY p).length by omega);by_cases c:i+1=j
  .subst c;omega
  .have f:=kZ (p:=p) (show i+1<j by omega) d;omega
 .intro b
  induction b with
  |zero=>
   intro _;obtain⟨j,d,e⟩:=Et zo m
   exact⟨j,d,by unfold jF;omega,zo⟩
  |succ b ih=>
   intro l;obtain⟨i,hi,k,f⟩:=ih zo;by_cases c:b+1<=qF (aY p) i
   .exact⟨i,hi,zo,c⟩
   .have e:qF (aY p) i=b:=zo;unfold qF at e
    split at e
    .rename_i h;have:=kZ (show i<i+1 by omega) h;have n:=a (i+1) h;have:jF (aY p) (i+1)=b+1:=by unfold jF;omega
     exact⟨i+1,h,zo,zo⟩
    .omega
 .intro i hi b k f
  cases hp:p b with
  |false=>rfl
  |true=>
   have l:b<256:=by have:=(a i hi).2;omega
   obtain⟨j,d,e⟩:=Et l hp;unfold jF at k;have g:i<j:=by
    rcases Nat.lt_trichotomy i j with c|c|c
    .exact c
    .subst c;omega
    .have:=kZ c hi;omega
   unfold qF at f;rw[zK zo]at f;have o:=kZ (show i<i+1 by omega) (show i+1<(aY p).length by omega);by_cases c:i+1=j
   .subst c;omega
   .have:=kZ (p:=p) (show i+1<j by omega) d;omega
theorem OY{es:List Ed}{a b:Nat}(i:a<=b)(h:∀c,a<c->c<=b->∀e∈es,e.lo≠c/\e.hi+1≠c):bv es b=bv es a:=by
 induction es with
 |nil=>rfl
 |cons e es g=>
  have g:=g fun c k j x hx=>h c k j x qel;simp only[bv];by_cases c:e.lo<=a/\a<=e.hi
  .rw[zK c,zK];refine⟨zo,?_⟩;apply Nat.le_of_not_lt;intro d;exact(h (e.hi+1) zo zo e zS).2 rfl
  .rw[zJ c];by_cases d:e.lo<=b/\b<=e.hi
   .exfalso;by_cases f:e.lo<=a
    .omega
    .exact(h e.lo zo zo e zS).1 rfl
   .rw[zJ d];exact g
def Marks(l:aC)(p:Nat->Bool):Prop:=p 0=true/\∀s∈l,∀e∈s.aH,∀b,b<256->(e.lo=b\/e.hi+1=b)->p b=true
theorem mE{l:aC}{p:Nat->Bool}(g:Marks l p){i b:Nat}(hi:i<(aY p).length)(r:jF (aY p) i<=b)(t:b<=qF (aY p) i)(s:Int):
 bC l s b=bC l s (jF (aY p) i):=by
 obtain⟨q,n⟩:=Gz g.1;by_cases c:s<0
 .rw[jT c,jT c]
 .by_cases d:s<l.length
  .obtain⟨k,rfl⟩:=zT (by omega:0<=s);rw[dW l k _ zo,dW l k _ zo];apply OY r;intro c h o e m;have f:=n i hi c h zo;have a:c<256:=by have:=(q.le i hi).2;omega
   refine⟨fun j=>?_,fun j=>?_⟩
   .rw[g.2 _ (zF zo) e m c a (.inl j)]at f;cases f
   .rw[g.2 _ (zF zo) e m c a (.inr j)]at f;cases f
  .rw[fB l s _ zo,fB l s _ zo]
def Wu(n:Nat)(x:Int):Int:=if x<0 then n else x
theorem FI{l:aC}(_:WF l)(s:Int)(b:Nat)(w:List UInt8):aK l (Wu l.length (bC l s b)) w=aK l (bC l s b) w:=by
 unfold Wu
 split
 .rename_i h;rw[iP l _ w (xU _),dQ h]
 .rfl
theorem K9{l:aC}(a:WF l)(s:Int)(b:Nat):0<=Wu l.length (bC l s b)/\Wu l.length (bC l s b)<=l.length:=by
 unfold Wu;rcases fQ a s b with h|h
 .rw[h];simp
 .rw[zJ zo];omega
theorem M8{l:aC}(a:WF l){p:Nat->Bool}(d:Marks l p):
 Ev l (l.length+1) (jF (aY p)) (qF (aY p)) (aY p).length (fun s i=>Wu l.length (bC l s (jF (aY p) i))):=by
 refine⟨(Gz d.1).1,fun s i c hi=>?_,fun s i c hi b f e w=>?_,fun s t i c ht hi h=>?_⟩
 .have:=K9 a s (jF (aY p) i);omega
 .rw[mE d hi f e,FI a]
 .have:=K9 a s (jF (aY p) i);omega
def Lv(l:aC)(s:Int):Prop:=∃w,aK l s w=true
theorem MC{l:aC}(f:WF l){p:Nat->Bool}(g:Marks l p){bK:List Int}(m:sN l (l.length+1) bK){a:Nat->Bool}
(k:∀s:Nat,s<l.length+1->(a (bK.getD s 0).toNat=true↔Lv l s)){ac:Nat->Bool}(n:∀s:Nat,s<l.length+1->ac s=bB l s)(o:Lv l 0):
 rO l (l.length+1) (fun s=>bK.getD s 0)
  (fun s i=>if a (bK.getD (Wu l.length (bC l s (jF (aY p) i))).toNat 0).toNat=true then some (Wu l.length (bC l s (jF (aY p) i))).toNat else none)
  (jF (aY p)) (qF (aY p)) ac (aY p).length:=by
 have R:=fun(s i:Nat)=>K9 f s (jF (aY p) i);have E:=fun(s i:Nat)=>Int.toNat_of_nonneg (R s i).1;refine⟨(Gz g.1).1,zo,fun s i t c hi h=>?_,fun s i c hi h b d j w=>?_,fun s t c ht=>m.eq s t c ht,fun s c=>n s c,o⟩
 .simp only[Option.ite_none_right_eq_some,Option.some.injEq]at h;obtain⟨d,j⟩:=h;have r:=R s i;have e:=E s i;have ht:t<l.length+1:=zo;rw[j]at d e;refine⟨ht,(k t ht).1 d,fun b u q w=>?_⟩;rw[mE g hi u q,<-FI f,<-e]
 .simp only[ite_eq_right_iff,reduceCtorEq,imp_false]at h;have r:=R s i;have e:=E s i;rw[mE g hi d j,<-FI f,<-e];rw[k _ zo]at h
  cases hx:aK l ((Wu l.length (bC l s (jF (aY p) i))).toNat:Int) w with
  |false=>rfl
  |true=>exact absurd ⟨w,hx⟩ h
end Cl
namespace Cl
theorem BO{cf:Nat->Int}{o:List Nat}(h:YC cf o):o.Nodup:=List.Pairwise.imp (fun a e=>a (by rw[e])) h
theorem og{cf:Nat->Int}{o:List Nat}{N:Nat}(h:YC cf o)(b:∀x∈o,x<N):o.length<=N:=by
 have:=lq o (List.range N) (BO h) (fun x a=>yQ.2 (b x a));exact qa5
def CX(cf:Nat->Int)(o:List Nat)(c:Int):Nat:=o.findIdx fun s=>cf s==c
theorem LF(cf:Nat->Int)(o:List Nat)(t:Nat):CX cf o (cf t)=dN cf o t:=rfl
theorem Xg(cf:Nat->Int)(o:List Nat)(t:Nat)(c:Int):CX cf (o++[t]) c=if CX cf o c<o.length then CX cf o c else if cf t=c then o.length else o.length+1:=by
 unfold CX;rw[List.findIdx_append]
 split
 .rfl
 .by_cases h:cf t=c
  .simp[h]
  .simp[h];omega
theorem FX{fs:List Ed}{e:Ed}{lo hi to:Nat}(h:¬(e.to=to/\e.hi+1=lo)):kN (fs++[e]) lo hi to=(fs++[e])++[⟨lo,hi,to⟩]:=by
 unfold kN;simp[h]
theorem FW{fs:List Ed}{e:Ed}{lo hi to:Nat}(h:e.to=to/\e.hi+1=lo):kN (fs++[e]) lo hi to=fs++[⟨e.lo,hi,e.to⟩]:=by
 unfold kN;simp[h]
theorem QC(es:List Ed)(lo hi to:Nat):(kN es lo hi to).length<=es.length+1:=by
 unfold kN
 split
 .split<;>simp
 .simp
theorem JJ(cf:Nat->Int)(dl:Nat->Nat->Option Nat)(lo hi:Nat->Nat)(s:Nat)(o:List Nat):∀i,(cu cf dl lo hi s o i).2.length<=i:=by
 intro i
 induction i with
 |zero=>simp[cu]
 |succ i ih=>
  simp only[cu]
  split
  .omega
  .have:=QC (cu cf dl lo hi s o i).2 (lo i) (hi i) (dN cf (cu cf dl lo hi s o i).1 (by assumption));simp only;omega
theorem FN{cf:Nat->Int}{dl:Nat->Nat->Option Nat}{lo hi:Nat->Nat}{s:Nat}{o:List Nat}{i:Nat}(h:dl s i=none):cu cf dl lo hi s o (i+1)=cu cf dl lo hi s o i:=by simp[cu,h]
theorem FM{cf:Nat->Int}{dl:Nat->Nat->Option Nat}{lo hi:Nat->Nat}{s:Nat}{o:List Nat}{i t:Nat}(h:dl s i=some t):
 cu cf dl lo hi s o (i+1)=(dH cf (cu cf dl lo hi s o i).1 t,kN (cu cf dl lo hi s o i).2 (lo i) (hi i) (dN cf (cu cf dl lo hi s o i).1 t)):=by simp[cu,h]
theorem BA{cf:Nat->Int}{dl:Nat->Nat->Option Nat}{lo hi:Nat->Nat}{K N s:Nat}{o:List Nat}{i:Nat}{r:List Nat×List Ed}(h:MH cf dl lo hi K N s o i r)(c:N<=2000000):
 ∀e∈r.2,e.lo<256/\e.hi<256 /\ -9223372036854775808<=e.to/\e.to<=9223372036854775807:=by
 intro e a;have b:=h.bytes e a;have f:=fP h.wf e a;have d:=og h.MO h.lt;exact⟨b.1,b.2,zo,zo⟩
end Cl
