/- Lemmas for the proofs of chapter 11. -/
import Derived.Test.YtdgjplfcpcphoaaGreatDoorZxE
set_option maxRecDepth 100000
set_option maxHeartbeats 16000000
namespace Cl
structure Ed where
 lo:Nat
 hi:Nat
 to:Int
structure Sn where
 aZ:Bool
 aH:List Ed
abbrev aC:=List Sn
def bP(n:Nat):Int->List Ed->Prop
 |_,[]=>True
 |p,e::es=>e.lo<=e.hi/\0<=e.to/\e.to<n/\p<e.lo/\bP n e.hi es
def WF(l:aC):Prop:=∀s∈l,bP l.length (-1) s.aH
def iX(es:List Ed):Prop:=∀e∈es,e.lo<256/\e.hi<256
def Bytes(l:aC):Prop:=∀s∈l,iX s.aH
def bv:List Ed->Nat->Int
 |[],_ => -1
 |e::es,b=>if e.lo<=b/\b<=e.hi then e.to else bv es b
def bC(l:aC)(s:Int)(b:Nat):Int:=
 if s<0 then -1 else match l[s.toNat]? with
  |some st=>bv st.aH b
  |none => -1
def bB(l:aC)(s:Int):Bool:=
 if s<0 then false else match l[s.toNat]? with
  |some st=>st.aZ
  |none=>false
def aK(l:aC):Int->List UInt8->Bool
 |s,[]=>bB l s
 |s,b::w=>aK l (bC l s b.toNat) w
theorem jT{l:aC}{s:Int}(h:s<0)(b:Nat):bC l s b = -1:=by simp[bC,h]
theorem dQ{l:aC}{s:Int}(h:s<0)(w:List UInt8):aK l s w=false:=by
 induction w generalizing s with
 |nil=>simp[aK,bB,h]
 |cons b w ih=>simp only[aK];rw[jT h];exact ih zo
theorem dW(l:aC)(k:Nat)(b:Nat)(h:k<l.length):bC l (k:Int) b=bv (l[k]).aH b:=by
 have a:¬((k:Int)<0):=zo;simp[bC,a,h]
theorem fB(l:aC)(k:Int)(b:Nat)(h:(l.length:Int)<=k):bC l k b = -1:=by
 have c:¬(k<0):=zo;have a:l.length<=k.toNat:=zo;simp[bC,c,a]
theorem iP(l:aC)(k:Int)(w:List UInt8)(h:(l.length:Int)<=k):aK l k w=false:=by
 cases w with
 |nil=>
  have c:¬(k<0):=zo;have a:l.length<=k.toNat:=zo
  simp[aK,bB,c,a]
 |cons b w=>simp only[aK];rw[fB _ _ _ h];exact dQ zo w
theorem wI{n:Nat}{p:Int}{es:List Ed}(h:bP n p es)(b:Nat):bv es b = -1\/(0<=bv es b/\bv es b<n):=by
 induction es generalizing p with
 |nil=>left;rfl
 |cons e es ih=>
  obtain⟨g,d,c,f,a⟩:=h;simp only[bv]
  split
  .right;exact⟨d,c⟩
  .exact ih a
theorem fQ{l:aC}(h:WF l)(k:Int)(b:Nat):bC l k b = -1\/(0<=bC l k b/\bC l k b<l.length):=by
 by_cases a:k<0
 .left;exact jT a b
 .by_cases c:k<l.length
  .obtain⟨n,rfl⟩:=zT (by omega:0<=k);rw[dW l n b zo];exact wI (h _ (zF _)) b
  .left;exact fB l k b zo
def Merged:List Ed->Prop
 |[]=>True
 |[_]=>True
 |e::f::es=>¬(e.to=f.to/\e.hi+1=f.lo)/\Merged (f::es)
structure dG (l:aC):Prop where
 wf:WF l
 bytes:Bytes l
 Dc:∀s∈l,Merged s.aH
 live:∀k:Nat,k<l.length->∃w,aK l k w=true
 bzu:∀i j:Nat,i<l.length->j<l.length->(∀w,aK l i w=aK l j w)->i=j
 seen:∀(k b t:Nat),b<256->bC l k b=t->∀t':Nat,0<t'->t'<t->∃k' b':Nat,b'<256/\(k'<k\/k'=k/\b'<b)/\bC l k' b'=t'
 reach:∀t:Nat,0<t->t<l.length->∃k b:Nat,k<t/\b<256/\bC l k b=t
theorem qV{n:Nat}{p:Int}{es:List Ed}(h:bP n p es){b:Nat}(c:(b:Int)<=p):bv es b = -1:=by
 induction es generalizing p with
 |nil=>rfl
 |cons e es ih=>
  obtain⟨i,g,f,d,a⟩:=h;simp only[bv];rw[zJ zo];exact ih a zo
theorem Mj{n m:Nat}(es:List Ed):∀(fs:List Ed) (p:Int),bP n p es->bP m p fs->iX es->iX fs->Merged es->Merged fs ->
 (∀b:Nat,b<256->p<(b:Int)->bv es b=bv fs b)->es=fs:=by
 induction es with
 |nil=>
  intro fs p _ s _ o _ _ h
  cases fs with
  |nil=>rfl
  |cons f fs=>
   obtain⟨f1,f2,f3,f4,l⟩:=s;have:=h f.lo (o f zS).1 f4;simp[bv]at this
   omega
 |cons e es ih=>
  intro fs p L s D o F E h;obtain⟨y,N,V,w,v⟩:=L
  cases fs with
  |nil=>
   have:=h e.lo (D e zS).1 w;simp[bv,y]at this
   omega
  |cons f fs=>
   obtain⟨f1,f2,f3,f4,l⟩:=s;have C:iX es:=fun x hx=>D x qel;have z:iX fs:=fun x hx=>o x qel;have j:=(D e zS);have u:=(o f zS);have I:e.lo=f.lo:=by
    have A:=h e.lo j.1 w;have B:=h f.lo u.1 f4;simp only[bv]at A B;rw[zK ⟨zI _,y⟩]at A;rw[zK (⟨zI _,f1⟩:f.lo<=f.lo/\f.lo<=f.hi)]at B;by_cases c:e.lo<f.lo
    .rw[zJ zo,qV l zo]at A;omega
    .by_cases O:f.lo<e.lo
     .rw[zJ zo,qV v zo]at B;omega
     .omega
   have a:e.to=f.to:=by
    have A:=h e.lo j.1 w;simp only[bv]at A;rw[zK ⟨zI _,y⟩,zK zo]at A;exact A
   have next:∀{k:Nat} {g:Ed} {i:List Ed},bP k (g.hi:Int) i->Merged (g::i)->0<=g.to->bv i (g.hi+1)≠g.to:=by
    intro k g i K H U d
    cases i with
    |nil=>simp[bv]at d;omega
    |cons x xs=>
     obtain⟨S,R,Q,P,G⟩:=K;simp only[bv]at d;by_cases c:x.lo=g.hi+1
     .rw[zK zo]at d;exact H.1 ⟨d.symm,c.symm⟩
     .rw[zJ zo,qV G zo]at d;omega
   have J:e.hi=f.hi:=by
    by_cases c:e.hi<f.hi
    .have A:=h (e.hi+1) zo zo;simp only[bv]at A;rw[zJ zo,zK zo]at A;exact absurd (A.trans a.symm) (next v F N)
    .by_cases O:f.hi<e.hi
     .have A:=h (f.hi+1) zo zo;simp only[bv]at A;rw[zK zo,zJ zo]at A;exact absurd (A.symm.trans a) (next l E f2)
     .omega
   have t:e=f:=by
    cases e;cases f;simp_all
   subst t
   congr 1
   have r:Merged es:=by
    cases es with
    |nil=>trivial
    |cons x xs=>exact F.2
   have q:Merged fs:=by
    cases fs with
    |nil=>trivial
    |cons x xs=>exact E.2
   refine ih fs e.hi v l C z r q ?_;intro b M T;have A:=h b M zo;simp only[bv]at A;rw[zJ zo,zJ zo]at A;exact A
theorem byteOf(b:Nat)(h:b<256):∃u:UInt8,u.toNat=b:=⟨UInt8.ofNat b,by simp[Nat.mod_eq_of_lt h]⟩
theorem JK{l m:aC}{i j:Int}(h:∀w,aK l i w=aK m j w)(b:Nat)(a:b<256):∀w,aK l (bC l i b) w=aK m (bC m j b) w:=by
 obtain⟨u,rfl⟩:=byteOf b a;intro w;have:=h (u::w);simpa [aK]using this
theorem Xp{l m:aC}(g:dG l)(f:dG m){i j:Int}(hi:i = -1\/(0<=i/\i<l.length))(b:j = -1\/(0<=j/\j<m.length))
(h:∀w,aK l i w=aK m j w):(i = -1/\j = -1)\/(∃s t:Nat,i=s/\j=t/\s<l.length/\t<m.length):=by
 rcases hi with hi|⟨e,k⟩
 .rcases b with b|⟨a,d⟩
  .exact .inl ⟨hi,b⟩
  .obtain⟨t,rfl⟩:=zT a;obtain⟨w,c⟩:=f.live t zo;have:=h w;rw[c,dQ zo]at this;cases this
 .obtain⟨s,rfl⟩:=zT e;rcases b with b|⟨a,d⟩
  .obtain⟨w,c⟩:=g.live s zo;have:=h w;rw[c,dQ zo]at this;cases this
  .obtain⟨t,rfl⟩:=zT a;exact .inr ⟨s,t,rfl,rfl,zo,zo⟩
theorem Lb{l m:aC}(u:dG l)(q:dG m)(h:∀w,aK l 0 w=aK m 0 w):
 ∀N k b:Nat,b<256->256*k+b<N->((k<l.length\/k<m.length)->(∀w,aK l k w=aK m k w))/\bC l k b=bC m k b:=by
 intro N
 induction N with
 |zero=>intro k b _ D;omega
 |succ N ih=>
  intro k b y D;have g:(k<l.length\/k<m.length)->(∀w,aK l k w=aK m k w):=by
   intro j;by_cases B:k=0
   .subst B;exact h
   .rcases j with j|j
    .obtain⟨a,e,o,n,f⟩:=u.reach k zo j;have:=ih a e n zo;have d:a<l.length:=zo;have r:=JK (this.1 (.inl d)) e n;rw[<-this.2,f]at r;exact r
    .obtain⟨a,e,o,n,f⟩:=q.reach k zo j;have:=ih a e n zo;have d:a<m.length:=zo;have r:=JK (this.1 (.inr d)) e n;rw[this.2,f]at r;exact r
  refine⟨g,?_⟩;by_cases j:k<l.length\/k<m.length
  .have r:=JK (g j) b y;rcases Xp u q (fQ u.wf _ b) (fQ q.wf _ b) r with⟨x,v⟩|⟨s,t,x,v,C,ht⟩
   .rw[x,v]
   .rw[x,v]at r⊢;have:s=t:=by
     by_cases c:s<t
     ·
      have i:∀w,aK l s w=aK m s w:=by
       by_cases A:s=0
       .subst A;exact h
       .obtain⟨a,e,o,n,f⟩:=q.seen k b t y v s zo c;have I:=ih a e o zo;by_cases d:a<l.length\/a<m.length
        .have p:=JK (I.1 d) e o;rw[I.2,f]at p;exact p
        .rw[fB m a e zo]at f;omega
      exact q.bzu s t zo ht (fun w=>(i w).symm.trans (r w))
     .by_cases E:t<s
      .have i:∀w,aK l t w=aK m t w:=by
        by_cases z:t=0
        .subst z;exact h
        .obtain⟨a,e,o,n,f⟩:=u.seen k b s y x t zo E;have I:=ih a e o zo;by_cases d:a<l.length\/a<m.length
         .have p:=JK (I.1 d) e o;rw[<-I.2,f]at p;exact p
         .rw[fB l a e zo]at f;omega
       exact u.bzu s t C zo (fun w=>(r w).trans (i w).symm)
      .omega
    rw[this]
  .rw[fB l k b zo,fB m k b zo]
theorem fJ(l:aC)(k:Nat)(h:k<l.length):bB l (k:Int)=(l[k]).aZ:=by
 have a:¬((k:Int)<0):=zo;simp[bB,a,h]
theorem lens{l m:aC}(b:dG l)(d:dG m)(h:∀w,aK l 0 w=aK m 0 w):l.length<=m.length:=by
 apply Nat.le_of_not_lt;intro c;have A:=(Lb b d h (256*m.length+1) m.length 0 zo zo).1 (.inl c);obtain⟨w,a⟩:=b.live m.length c;rw[A w,iP m _ w zo]at a;cases a
theorem uC{l m:aC}(c:dG l)(a:dG m)(h:∀w,aK l 0 w=aK m 0 w):l=m:=by
 have e:l.length=m.length:=Nat.le_antisymm (lens c a h) (lens a c (fun w=>(h w).symm));apply vF e;intro k d f;have j:(l[k]).aZ=(m[k]).aZ:=by
  have:=(Lb c a h (256*k+1) k 0 zo zo).1 (.inl d) [];simp only[aK]at this
  rwa [fJ l k d,fJ m k f]at this
 have i:(l[k]).aH=(m[k]).aH:=by
  refine Mj _ _ (-1) (c.wf _ (zF d)) (a.wf _ (zF f)) (c.bytes _ (zF d)) (a.bytes _ (zF f))
   (c.Dc _ (zF d)) (a.Dc _ (zF f)) ?_
  intro b g _;have:=(Lb c a h (256*k+b+1) k b g zo).2
  rwa [dW l k b d,dW m k b f]at this
 cases hx:l[k];cases hy:m[k];simp_all
end Cl
namespace Cl
noncomputable def tf(p:Prop):Bool:=@decide p (Classical.propDecidable p)
theorem aO{p:Prop}(h:p):tf p=true:=by simp[tf,h]
theorem aA{p:Prop}(h:¬p):tf p=false:=by simp[tf,h]
theorem Ap{p:Prop}:tf p=true↔p:=by simp[tf]
theorem dh{p q:Prop}(h:p↔q):tf p=tf q:=by rw[show p=q from propext h]
def nM(es:List Ed)(k:Nat):Int:=if h:0<k/\k<=es.length then((es[k-1]'zo).hi:Int)else -1
theorem DX(es:List Ed)(k:Nat)(h:¬0<k):nM es k = -1:=by simp[nM,h]
theorem Bh{n:Nat}{es:List Ed}{k:Nat}(h:k<es.length):
 bP n (nM es k) (es.drop k)↔(es[k]).lo<=(es[k]).hi/\0<=(es[k]).to/\(es[k]).to<n/\nM es k<(es[k]).lo/\bP n (nM es (k+1)) (es.drop (k+1)):=by
 rw[yE h,bP];have:nM es (k+1)=(es[k]).hi:=by simp[nM,Nat.succ_le_of_lt h]
 rw[this]
theorem SE{n:Nat}{l:aC}{k:Nat}(h:k<l.length):
 (∀s∈l.drop k,bP n (-1) s.aH)↔bP n (-1) (l[k]).aH/\∀s∈l.drop (k+1),bP n (-1) s.aH:=by
 rw[yE h,List.forall_mem_cons]
end Cl
namespace Cl
inductive Dt where
 |mk (kind num:Int) (str:ByteArray) (items:List Dt) (labels:List ByteArray) (qz:List Dt)
def Dt.kind:Dt->Int|mk k _ _ _ _ _=>k
def Dt.num:Dt->Int|mk _ n _ _ _ _=>n
def Dt.str:Dt->ByteArray|mk _ _ s _ _ _=>s
end Cl
namespace Cl
abbrev bT:=Int×Int
def fU(l:List bT)(x:Int):Prop:=∃s∈l,s.1<=x/\x<=s.2
structure nD (l:List bT):Prop where
 ok:∀s∈l,s.1<=s.2
 sep:l.Pairwise fun s t=>s.2+1<t.1
theorem jm(x:Int):¬fU [] x:=by rintro⟨s,h,-⟩;cases h
theorem cz{s:bT}{l:List bT}{x:Int}:fU (s::l) x↔(s.1<=x/\x<=s.2)\/fU l x:=by
 constructor
 .rintro⟨t,h,a⟩;rcases yA.1 h with rfl|h
  .exact .inl a
  .exact .inr ⟨t,h,a⟩
 .rintro(h|⟨t,h,a⟩)
  .exact⟨s,yF ..,h⟩
  .exact⟨t,zU _ h,a⟩
theorem D7{l r:List bT}{x:Int}:fU (l++r) x↔fU l x\/fU r x:=by
 induction l with
 |nil=>simp[jm]
 |cons s l ih=>rw[xK,cz,cz,ih,or_assoc]
theorem nD.nil:nD []:=⟨fun s h=>by simp at h,.nil⟩
theorem nD.tail{s:bT}{l:List bT}(h:nD (s::l)):nD l:=⟨fun t ht=>h.ok t (zU _ ht),(yS.1 h.sep).2⟩
theorem nD.head{s:bT}{l:List bT}(h:nD (s::l)):s.1<=s.2:=h.ok s (yF ..)
theorem nD.after{s:bT}{l:List bT}(h:nD (s::l)){x:Int}(a:fU l x):s.2+1<x:=by
 obtain⟨t,ht,b,-⟩:=a;have:=(yS.1 h.sep).1 t ht;omega
theorem nD.cons{s:bT}{l:List bT}(b:s.1<=s.2)(a:∀t∈l,s.2+1<t.1)(h:nD l):nD (s::l):=by
 refine⟨fun t ht=>?_,yS.2 ⟨a,h.sep⟩⟩;rcases yA.1 ht with rfl|ht
 .exact b
 .exact h.ok t ht
theorem oH:∀{l f:List bT},nD l->nD f->(∀x,fU l x↔fU f x)->l=f
 |[],[],_,_,_=>rfl
 |[],s::r,_,h',e=>absurd ((e s.1).2 (cz.2 (.inl ⟨xU _,h'.head⟩))) (jm _)
 |s::r,[],h,_,e=>absurd ((e s.1).1 (cz.2 (.inl ⟨xU _,h.head⟩))) (jm _)
 |s::r,s'::r',h,h',e=>by
  have a:=h.head;have o:=h'.head;have out:¬fU (s::r) (s.2+1):=fun b=>by
   rcases cz.1 b with b|b
   .omega
   .have:=h.after b;omega
  have c:¬fU (s'::r') (s'.2+1):=fun b=>by
   rcases cz.1 b with b|b
   .omega
   .have:=h'.after b;omega
  have lo:s.1=s'.1:=by
   have n:s'.1<=s.1:=by
    rcases cz.1 ((e s.1).1 (cz.2 (.inl ⟨xU _,a⟩)))with b|b
    .exact b.1
    .have:=h'.after b;omega
   have m:s.1<=s'.1:=by
    rcases cz.1 ((e s'.1).2 (cz.2 (.inl ⟨xU _,o⟩)))with b|b
    .exact b.1
    .have:=h.after b;omega
   omega
  have hi:s.2=s'.2:=by
   have n:s.2<=s'.2:=by
    refine Int.not_lt.1 fun g=>c ((e _).1 (cz.2 (.inl ⟨?_,?_⟩)))<;>omega
   have m:s'.2<=s.2:=by
    refine Int.not_lt.1 fun g=>out ((e _).2 (cz.2 (.inl ⟨?_,?_⟩)))<;>omega
   omega
  obtain⟨x,y⟩:=s;obtain⟨j,i⟩:=s';obtain rfl:x=j:=lo;obtain rfl:y=i:=hi;have k:r=r':=oH h.tail h'.tail fun z=>by
   constructor
   .intro d;have:=h.after d;rcases cz.1 ((e z).1 (cz.2 (.inr d)))with b|b
    .omega
    .exact b
   .intro d;have:=h'.after d;rcases cz.1 ((e z).2 (cz.2 (.inr d)))with b|b
    .omega
    .exact b
  rw[k]
def qi:List bT->List bT->List bT
 |[],out=>out
 |s::l,[]=>qi l [s]
 |s::l,t::out=>if s.1<=t.2+1 then qi l ((t.1,max t.2 s.2)::out)else qi l (s::t::out)
structure TD (l:List bT):Prop where
 ok:∀s∈l,s.1<=s.2
 sep:l.Pairwise fun s t=>t.2+1<s.1
theorem TD.rev{l:List bT}(h:TD l):nD l.reverse:=⟨fun s a=>h.ok s (List.mem_reverse.1 a),List.pairwise_reverse.2 h.sep⟩
theorem LY{l:List bT}{x:Int}:fU l.reverse x↔fU l x:=by simp[fU]
theorem uh:∀(l out:List bT),(∀s∈l,s.1<=s.2)->l.Pairwise (fun s t=>s.1<=t.1)->TD out->(∀t∈out,∀s∈l,t.1<=s.1) ->
 TD (qi l out)/\∀x,fU (qi l out) x↔fU out x\/fU l x
 |[],out,_,_,hn,_=>⟨hn,fun x=>by simp[qi,jm]⟩
 |s::l,[],hok,hs,_,_=>by
  have b:=yS.1 hs;have i:=hok s (yF ..);obtain⟨g,f⟩:=uh l [s] (fun t ht=>hok t (zU _ ht)) b.2 ⟨fun t ht=>by simp at ht;subst ht;exact i,List.pairwise_singleton _ _⟩
   (fun t ht u a=>by simp at ht;subst ht;exact b.1 u a)
  exact⟨g,fun x=>by rw[qi,f,cz,cz];simp[jm]⟩
 |s::l,t::out,hok,hs,hn,hle=>by
  have b:=yS.1 hs;have i:=hok s (yF ..);have d:=yS.1 hn.sep;have ht:=hn.ok t (yF ..);have k:=hle t (yF ..) s (yF ..);have c:∀u∈l,u.1<=u.2:=fun u a=>hok u (zU _ a);unfold qi;by_cases j:s.1<=t.2+1
  .rw[zK j];obtain⟨g,f⟩:=uh l ((t.1,max t.2 s.2)::out) c b.2
    ⟨fun u a=>by
     rcases yA.1 a with rfl|a
     .show t.1<=max t.2 s.2;omega
     .exact hn.ok u (zU _ a),
     yS.2 ⟨fun u a=>d.1 u a,d.2⟩⟩
    (fun u a v e=>by
     rcases yA.1 a with rfl|a
     .exact hle t (yF ..) v (zU _ e)
     .exact hle u (zU _ a) v (zU _ e))
   refine⟨g,fun x=>?_⟩;rw[f,cz,cz,cz];have:(t.1<=x/\x<=max t.2 s.2)↔((t.1<=x/\x<=t.2)\/(s.1<=x/\x<=s.2)):=zo;show((t.1<=x/\x<=max t.2 s.2)\/_)\/_↔_;rw[this];constructor
   .rintro(((h|h)|h)|h)
    .exact qcK
    .exact qdi
    .exact .inl (.inr h)
    .exact qdD
   .rintro((h|h)|(h|h))
    .exact qcR
    .exact .inl (.inr h)
    .exact qcQ
    .exact .inr h
  .rw[zJ j];obtain⟨g,f⟩:=uh l (s::t::out) c b.2
    ⟨fun u a=>by
     rcases yA.1 a with rfl|a
     .exact i
     .exact hn.ok u a,
     yS.2 ⟨fun u a=>by
      rcases yA.1 a with rfl|a
      .omega
      .have:=d.1 u a;omega,hn.sep⟩⟩
    (fun u a v e=>by
     rcases yA.1 a with rfl|a
     .exact b.1 v e
     .exact hle u a v (zU _ e))
   refine⟨g,fun x=>?_⟩;rw[f,cz (s:=s),cz (s:=s)];constructor
   .rintro((h|h)|h)
    .exact qdi
    .exact .inl h
    .exact qdD
   .rintro(h|(h|h))
    .exact .inl (.inr h)
    .exact qcK
    .exact .inr h
def mP:bT->Bool->List bT->List bT
 |s,d,[]=>if d then[]else[s]
 |s,d,x::r=>if x.2+1<s.1 then x::mP s d r else if s.2+1<x.1 then(if d then[]else[s])++x::mP s true r else mP (min s.1 x.1,max s.2 x.2) d r
theorem J9{s:bT}:∀{r:List bT},(∀t∈r,s.2+1<t.1)->mP s true r=r
 |[],_=>rfl
 |x::r,h=>by
  have c:=h x (yF ..);have b:=J9 (s:=s) (r:=r) fun t ht=>h t (zU _ ht);unfold mP;rw[b];by_cases a:x.2+1<s.1
  .rw[zK a]
  .rw[zJ a,zK c,zK rfl];rfl
theorem nD.first{l:List bT}(h:nD l){t:bT}(ht:t∈l):fU l t.1:=⟨t,ht,xU _,h.ok t ht⟩
theorem Di:∀(out:List bT) (s:bT),s.1<=s.2->nD out->nD (mP s false out)/\∀x,fU (mP s false out) x↔(s.1<=x/\x<=s.2)\/fU out x
 |[],s,hs,_=>⟨.cons hs (fun t ht=>by cases ht) .nil,fun x=>by simp[mP,cz,jm]⟩
 |y::r,s,hs,hn=>by
  have e:=hn.head;unfold mP;by_cases d:y.2+1<s.1
  .rw[zK d];obtain⟨a,b⟩:=Di r s hs hn.tail;refine⟨.cons e (fun t ht=>?_) a,fun x=>?_⟩
   .rcases(b _).1 (a.first ht)with h|h
    .omega
    .exact hn.after h
   .rw[cz,b,cz];constructor
    .rintro(h|h|h)
     .exact qdi
     .exact .inl h
     .exact qdD
    .rintro(h|h|h)
     .exact qdi
     .exact .inl h
     .exact qdD
  .rw[zJ d];by_cases c:s.2+1<y.1
   .rw[zK c,zJ zD,J9 fun t ht=>by have:=(yS.1 hn.sep).1 t ht;omega];refine⟨.cons hs (fun t ht=>?_) hn,fun x=>cz⟩;rcases yA.1 ht with rfl|ht
    .exact c
    .have:=(yS.1 hn.sep).1 t ht;omega
   .rw[zJ c];obtain⟨a,b⟩:=Di r (min s.1 y.1,max s.2 y.2) (by show min s.1 y.1<=max s.2 y.2;omega) hn.tail;refine⟨a,fun x=>?_⟩;rw[b,cz];have:(min s.1 y.1<=x/\x<=max s.2 y.2)↔((s.1<=x/\x<=s.2)\/(y.1<=x/\x<=y.2)):=zo;show((min s.1 y.1<=x/\x<=max s.2 y.2)\/_)↔_;rw[this,or_assoc]
def ic(l:List bT):List bT:=l.foldl (fun out s=>if s.2<s.1 then out else mP s false out) []
theorem AQ:∀(l out:List bT),nD out->nD (l.foldl (fun out s=>if s.2<s.1 then out else mP s false out) out) /\
 ∀x,fU (l.foldl (fun out s=>if s.2<s.1 then out else mP s false out) out) x↔fU out x\/fU l x
 |[],out,hn=>⟨hn,fun x=>by simp[jm]⟩
 |s::l,out,hn=>by
  rw[List.foldl_cons];by_cases h:s.2<s.1
  .rw[zK h];obtain⟨a,b⟩:=AQ l out hn;refine⟨a,fun x=>?_⟩;rw[b,cz];have:¬(s.1<=x/\x<=s.2):=zo;simp[this]
  .rw[zJ h];obtain⟨d,c⟩:=Di out s zo hn;obtain⟨a,b⟩:=AQ l _ d;refine⟨a,fun x=>?_⟩;rw[b,c,cz];constructor
   .rintro((h|h)|h)
    .exact qdi
    .exact .inl h
    .exact qdD
   .rintro(h|h|h)
    .exact .inl (.inr h)
    .exact qcK
    .exact .inr h
theorem eD(l:List bT):nD (ic l)/\∀x,fU (ic l) x↔fU l x:=by
 obtain⟨a,b⟩:=AQ l [] .nil;exact⟨a,fun x=>by rw[ic,b];simp[jm]⟩
def jO:List bT->Int->Int->List bT
 |[],lo,hi=>if lo<=hi then[(lo,hi)]else[]
 |s::r,lo,hi=>(if lo<s.1 then[(lo,s.1-1)]else[])++jO r (s.2+1) hi
theorem qw:∀(l:List bT) (lo hi:Int),nD l->(∀s∈l,lo<=s.1/\s.2<=hi)->nD (jO l lo hi)/\∀x,fU (jO l lo hi) x↔(lo<=x/\x<=hi)/\¬fU l x
 |[],lo,hi,_,_=>by
  unfold jO;by_cases h:lo<=hi
  .rw[zK h];exact⟨.cons h (fun t ht=>by cases ht) .nil,fun x=>by simp[cz,jm]⟩
  .rw[zJ h]
   exact⟨.nil,fun x=>⟨fun f=>absurd f (jm _),fun f=>zo⟩⟩
 |s::r,lo,hi,hn,hb=>by
  have k:=hb s (yF ..);have j:=hn.head;obtain⟨a,b⟩:=qw r (s.2+1) hi hn.tail fun t ht=>⟨by have:=(yS.1 hn.sep).1 t ht;omega,(hb t (zU _ ht)).2⟩;unfold jO;have e:∀x,((lo<=x/\x<s.1)\/fU (jO r (s.2+1) hi) x)↔(lo<=x/\x<=hi)/\¬fU (s::r) x:=fun x=>by
   rw[b,cz];constructor
   .rintro(h|⟨d,g⟩)
    .refine⟨zo,?_⟩;rintro(c|c)
     .omega
     .have:=hn.after c;omega
    .refine⟨zo,?_⟩;rintro(c|c)
     .omega
     .exact g c
   .rintro⟨d,g⟩;by_cases f:x<s.1
    .exact .inl ⟨d.1,f⟩
    .refine .inr ⟨⟨?_,d.2⟩,fun c=>g (.inr c)⟩;refine Int.not_lt.1 fun i=>g (.inl ⟨zo,zo⟩)
  by_cases h:lo<s.1
  .rw[zK h];refine⟨.cons (by show lo<=s.1-1;omega) (fun t ht=>?_) a,fun x=>?_⟩
   .have:=((b _).1 (a.first ht)).1;show s.1-1+1<t.1;omega
   .rw[List.singleton_append,cz,<-e];show(lo<=x/\x<=s.1-1)\/_↔_;rw[show(lo<=x/\x<=s.1-1)↔(lo<=x/\x<s.1)by omega]
  .rw[zJ h];refine⟨a,fun x=>?_⟩;rw[xN,<-e];constructor
   .exact .inr
   .rintro(d|d)
    .omega
    .exact d
end Cl
namespace Cl
def fF(u:Int):Int:=u/10000*9999+u%10000-1
def bU(k:Int):Int:=k/9999*10000+k%9999+1
theorem oz{u:Int}(h:u%10000≠0):bU (fF u)=u:=by unfold bU fF;omega
theorem Nv(k:Int):fF (bU k)=k:=by unfold bU fF;omega
theorem vL(k:Int):bU k%10000≠0:=by unfold bU;omega
theorem xe{u v:Int}(b:u%10000≠0)(a:v%10000≠0):fF u<=fF v↔u<=v:=by unfold fF;omega
theorem jS{k l:Int}:bU k<=bU l↔k<=l:=by unfold bU;omega
def jy(u:Int):Int:=if(u+1)%10000=0 then u+2 else u+1
def jg(u:Int):Int:=if(u-1)%10000=0 then u-2 else u-1
theorem Cm(k:Int):jy (bU k)=bU (k+1):=by unfold jy bU;split<;>omega
theorem Jl(k:Int):jg (bU k)=bU (k-1):=by unfold jg bU;split<;>omega
end Cl
namespace Cl
theorem UL{l p:List bT}(h:p.Perm l)(x:Int):fU p x↔fU l x:=by
 simp only[fU,h.mem_iff]
theorem J5{l p:List bT}(d:p.Perm l)(e:p.Pairwise fun s t=>s.1<=t.1)(c:∀s∈l,s.1<=s.2):(qi p []).reverse=ic l:=by
 obtain⟨a,b⟩:=uh p [] (fun s h=>c s (d.mem_iff.1 h)) e ⟨fun s h=>qev,.nil⟩ (fun t h=>qev);refine oH a.rev (eD l).1 fun x=>?_;rw[LY,b,(eD l).2,UL d];simp[jm]
def lL(s:bT):bT:=(fF s.1,fF s.2)
def fG(s:bT):bT:=(bU s.1,bU s.2)
def jN(nx:Int->Int):List bT->List bT->List bT
 |[],out=>out
 |s::l,[]=>jN nx l [s]
 |s::l,t::out=>if s.1<=nx t.2 then jN nx l ((t.1,max t.2 s.2)::out)else jN nx l (s::t::out)
theorem wE:∀l out:List bT,jN (fun n=>n+1) l out=qi l out
 |[],out=>rfl
 |s::l,[]=>by simp only[jN,qi,wE]
 |s::l,t::out=>by simp only[jN,qi,wE]
theorem P5(k l:Int):max (bU k) (bU l)=bU (max k l):=by unfold bU;omega
theorem qO:∀l out:List bT,jN jy (l.map fG) (out.map fG)=(qi l out).map fG
 |[],out=>rfl
 |s::l,[]=>by
  have a:=qO l [s]
  simpa only[jN,qi,yL,xB]using a
 |s::l,t::out=>by
  simp only[yL,jN,qi];show(if bU s.1<=jy (bU t.2)then jN jy (l.map fG) ((bU t.1,max (bU t.2) (bU s.2))::out.map fG)else _)=_;rw[Cm];by_cases h:s.1<=t.2+1
  .rw[zK (jS.2 h),zK h,P5];exact qO l ((t.1,max t.2 s.2)::out)
  .rw[zJ (fun e=>h (jS.1 e)),zJ h];exact qO l (s::t::out)
def il:Int:=100000000000
def iD:Int:=1000000000000000
def lQ(s:bT):bT:=(max s.1 (-il),min s.2 il)
def mI(l:List bT):List bT:=(l.map lQ).filter fun s=>decide (s.1<=s.2)
def trimF(s:bT):bT:=(if s.1%10000=0 then s.1+1 else s.1,if s.2%10000=0 then s.2-1 else s.2)
def iO(s:bT):bT:=trimF (max s.1 (-iD),min s.2 iD)
def jX(l:List bT):List bT:=(l.map iO).filter fun s=>decide (s.1<=s.2)
theorem Ov{l:List bT}:∀s∈mI l,s.1<=s.2:=fun s h=>by simpa using(xR.1 h).2
theorem Ox{l:List bT}:∀s∈jX l,s.1<=s.2:=fun s h=>by simpa using(xR.1 h).2
theorem TP(s:bT):(trimF s).1%10000≠0/\(trimF s).2%10000≠0:=by
 unfold trimF;constructor
 .show(if s.1%10000=0 then s.1+1 else s.1)%10000≠0
  split<;>omega
 .show(if s.2%10000=0 then s.2-1 else s.2)%10000≠0
  split<;>omega
theorem ug{l:List bT}:∀s∈jX l,s.1%10000≠0/\s.2%10000≠0:=fun s h=>by
 obtain⟨t,-,rfl⟩:=yD.1 (xR.1 h).1;exact TP _
def mZ(l:List bT):List bT:=ic (mI l)
def lw(l:List bT):List bT:=ic ((jX l).map lL)
theorem Td{l:List bT}:∀s∈(jX l).map lL,s.1<=s.2:=fun s h=>by
 obtain⟨t,ht,rfl⟩:=yD.1 h;obtain⟨b,a⟩:=ug t ht;exact(xe b a).2 (Ox t ht)
theorem UT{l p:List bT}(b:p.Perm (mI l))(a:p.Pairwise fun s t=>s.1<=t.1):(jN (fun n=>n+1) p []).reverse=mZ l:=by
 rw[wE];exact J5 b a Ov
theorem QW{l p:List bT}(g:p.Perm (jX l))(i:p.Pairwise fun s t=>s.1<=t.1):(jN jy p []).reverse=(lw l).map fG:=by
 have f:∀s∈p,s.1%10000≠0/\s.2%10000≠0:=fun s h=>ug s (g.mem_iff.1 h);have e:(p.map lL).map fG=p:=by
  rw[vE];refine(xZ fun s h=>?_).trans (List.map_id _);obtain⟨k,j⟩:=f s h;show(bU (fF s.1),bU (fF s.2))=s;rw[oz k,oz j]
 have d:(p.map lL).Pairwise fun s t=>s.1<=t.1:=by
  refine List.pairwise_map.2 (i.imp_of_mem fun {a b} ha hb h=>?_);exact(xe (f a ha).1 (f b hb).1).2 h
 have c:=J5 (g.map lL) d Td;rw[<-e];rw[show([]:List bT)=([]:List bT).map fG from rfl,qO,<-List.map_reverse,c]
 rfl
end Cl
namespace Cl
structure NS where
 i:List bT
 f:List bT
def mq:Int := -999900000000000
def qh:Int:=999899999999999
structure gM (x:NS):Prop where
 ni:nD x.i
 nf:nD x.f
 bi:∀s∈x.i,-il<=s.1/\s.2<=il
 bf:∀s∈x.f,mq<=s.1/\s.2<=qh
def NS.rf(x:NS):List bT:=x.f.map fG
def dz(I F:List bT):NS:=⟨mZ I,lw F⟩
def iW(u:Int):Prop := -iD<=u/\u<=iD
instance (u:Int):Decidable (iW u):=by unfold iW;infer_instance
def NS.has(x:NS)(u:Int):Prop:=(u%10000=0/\fU x.i (u/10000))\/(u%10000≠0/\fU x.f (fF u))
def vR(I F:List bT)(u:Int):Prop:=(u%10000=0/\fU I (u/10000))\/(u%10000≠0/\fU F u)
def G8:NS:=⟨[],[]⟩
theorem AR{l:List bT}(h:nD l){lo hi:Int}(b:∀x,fU l x->lo<=x/\x<=hi):∀s∈l,lo<=s.1/\s.2<=hi:=fun s a=>
 ⟨(b s.1 ⟨s,a,xU _,h.ok s a⟩).1,(b s.2 ⟨s,a,h.ok s a,xU _⟩).2⟩
theorem Iq{l:List bT}{lo hi:Int}(h:∀s∈l,lo<=s.1/\s.2<=hi){x:Int}(a:fU l x):lo<=x/\x<=hi:=by
 obtain⟨s,b,d,c⟩:=a;have:=h s b;omega
theorem QQ{l:List bT}{x:Int}:fU (mI l) x↔(-il<=x/\x<=il)/\fU l x:=by
 constructor
 .rintro⟨s,c,b,a⟩;obtain⟨d,-⟩:=xR.1 c;obtain⟨t,ht,rfl⟩:=yD.1 d;simp only[lQ]at b a;exact⟨zo,t,ht,zo,zo⟩
 .rintro⟨e,t,ht,b,a⟩;refine⟨lQ t,xR.2 ⟨yD.2 ⟨t,ht,rfl⟩,?_⟩,?_,?_⟩
  .exact zN (show max t.1 (-il)<=min t.2 il by omega)
  .show max t.1 (-il)<=x;omega
  .show x<=min t.2 il;omega
theorem TQ{s:bT}{u:Int}(e:u%10000≠0):((trimF s).1<=u/\u<=(trimF s).2)↔s.1<=u/\u<=s.2:=by
 have d:(trimF s).1=if s.1%10000=0 then s.1+1 else s.1:=rfl;have c:(trimF s).2=if s.2%10000=0 then s.2-1 else s.2:=rfl;rw[d,c];by_cases b:s.1%10000=0<;>by_cases a:s.2%10000=0<;>simp only[b,a,if_true,if_false]<;>omega
theorem Kt{t:bT}{u:Int}(a:u%10000≠0):((iO t).1<=u/\u<=(iO t).2)↔iW u/\t.1<=u/\u<=t.2:=by
 unfold iO;rw[TQ a];show(max t.1 (-iD)<=u/\u<=min t.2 iD)↔_;simp only[iW];omega
theorem QR{l:List bT}{u:Int}(b:u%10000≠0):fU (jX l) u↔iW u/\fU l u:=by
 constructor
 .rintro⟨s,c,i,g⟩;obtain⟨d,-⟩:=xR.1 c;obtain⟨t,ht,rfl⟩:=yD.1 d;obtain⟨a,f⟩:=(Kt b).1 ⟨i,g⟩;exact⟨a,t,ht,f⟩
 .rintro⟨e,t,ht,h⟩;have a:=(Kt (t:=t) b).2 ⟨e,h⟩;exact⟨iO t,xR.2 ⟨yD.2 ⟨t,ht,rfl⟩,by simp only[decide_eq_true_eq];omega⟩,a⟩
theorem UK{l:List bT}(d:∀s∈l,s.1%10000≠0/\s.2%10000≠0){u:Int}(a:u%10000≠0):fU (l.map lL) (fF u)↔fU l u:=by
 constructor
 .rintro⟨s,e,c,b⟩;obtain⟨t,ht,rfl⟩:=yD.1 e;have:=d t ht;exact⟨t,ht,(xe this.1 a).1 c,(xe a this.2).1 b⟩
 .rintro⟨t,ht,c,b⟩;have:=d t ht;exact⟨lL t,yD.2 ⟨t,ht,rfl⟩,(xe this.1 a).2 c,(xe a this.2).2 b⟩
theorem qK{l:List bT}{u:Int}(c:u%10000≠0):fU (l.map fG) u↔fU l (fF u):=by
 constructor
 .rintro⟨s,d,b,a⟩;obtain⟨t,ht,rfl⟩:=yD.1 d;rw[<-oz c]at b a;exact⟨t,ht,jS.1 b,jS.1 a⟩
 .rintro⟨t,ht,b,a⟩;refine⟨fG t,yD.2 ⟨t,ht,rfl⟩,?_,?_⟩
  .rw[<-oz c];exact jS.2 b
  .rw[<-oz c];exact jS.2 a
theorem qJ(I F:List bT)(u:Int):(dz I F).has u↔iW u/\vR I F u:=by
 simp only[NS.has,dz,vR];by_cases a:u%10000=0
 .simp only[a,ne_eq,not_true_eq_false,false_and,or_false,true_and,mZ,(eD _).2,QQ];have:(-il<=u/10000/\u/10000<=il)↔iW u:=by simp only[iW,il,iD];omega
  rw[this]
 .simp only[a,ne_eq,not_false_eq_true,false_and,false_or,true_and,lw,(eD _).2];rw[UK ug a,QR a]
theorem gM.mJ{x:NS}(h:gM x){u:Int}(b:x.has u):iW u:=by
 rcases b with⟨c,a⟩|⟨c,a⟩
 .have:=Iq h.bi a;simp only[iW,il,iD]at*
  omega
 .have:=Iq h.bf a;simp only[iW,iD,mq,qh,fF]at*
  omega
theorem gM.Tg{x:NS}{n:Int}:fU x.i n↔x.has (n*10000):=by
 simp only[NS.has];rw[show n*10000%10000=0 by omega,show n*10000/10000=n by omega];simp
theorem gM.Xn{x:NS}{k:Int}:fU x.f k↔x.has (bU k):=by
 simp only[NS.has,Nv];have:=vL k;constructor
 .exact fun h=>.inr ⟨this,h⟩
 .rintro(⟨b,-⟩|⟨-,a⟩)
  .exact absurd b this
  .exact a
theorem AP{x y:NS}(f:gM x)(e:gM y)(h:∀u,x.has u↔y.has u):x=y:=by
 obtain⟨c,d⟩:=x;obtain⟨a,b⟩:=y;have i:c=a:=oH f.ni e.ni fun n=>(gM.Tg (x:=⟨c,d⟩)).trans ((h _).trans (gM.Tg (x:=⟨a,b⟩)).symm);have g:d=b:=oH f.nf e.nf fun n=>(gM.Xn (x:=⟨c,d⟩)).trans ((h _).trans (gM.Xn (x:=⟨a,b⟩)).symm);rw[i,g]
theorem gM.of{x:NS}(c:nD x.i)(b:nD x.f)(a:∀u,x.has u->iW u):gM x:=by
 refine⟨c,b,AR c fun n d=>?_,AR b fun k e=>?_⟩
 .have:=a _ (gM.Tg.1 d);simp only[iW,il,iD]at*
  omega
 .have:=a _ (gM.Xn.1 e);simp only[iW,mq,qh,iD,bU]at*
  omega
theorem jf(I F:List bT):gM (dz I F):=.of (eD _).1 (eD _).1 fun u h=>((qJ I F u).1 h).1
theorem Km:gM G8:=⟨.nil,.nil,fun s h=>qev,fun s h=>qev⟩
theorem AZ(u:Int):¬G8.has u:=by
 rintro(⟨-,h⟩|⟨-,h⟩)<;>exact jm _ h
theorem CW(x:NS)(u:Int):vR x.i x.rf u↔x.has u:=by
 simp only[vR,NS.has,NS.rf];by_cases a:u%10000=0
 .simp[a]
 .simp only[a,false_and,false_or,ne_eq,not_false_eq_true,true_and];exact qK a
theorem mX{x:NS}(h:gM x):dz x.i x.rf=x:=AP (jf _ _) h fun u=>by
 rw[qJ,CW];exact⟨And.right,fun a=>⟨h.mJ a,a⟩⟩
theorem Y5:dz [] []=G8:=by
 refine AP (jf _ _) Km fun u=>?_;rw[qJ];refine⟨fun h=>?_,fun h=>absurd h (AZ u)⟩;rcases h.2 with⟨-,h⟩|⟨-,h⟩<;>exact absurd h (jm _)
def gP(x:NS):NS:=⟨jO x.i (-il) il,jO x.f mq qh⟩
def LH(x y:NS):NS:=⟨ic (x.i++y.i),ic (x.f++y.f)⟩
def nG(x y:NS):NS:=gP (LH (gP x) (gP y))
def dC(x y:NS):NS:=nG x (gP y)
theorem wu{x:NS}(h:gM x)(u:Int):(gP x).has u↔iW u/\¬x.has u:=by
 have a:=qw x.i (-il) il h.ni h.bi;have b:=qw x.f mq qh h.nf h.bf;simp only[NS.has,gP];by_cases c:u%10000=0
 .simp only[c,ne_eq,not_true_eq_false,false_and,or_false,true_and,a.2];have:(-il<=u/10000/\u/10000<=il)↔iW u:=by simp only[iW,il,iD];omega
  rw[this]
 .simp only[c,ne_eq,not_false_eq_true,false_and,false_or,true_and,b.2];have:(mq<=fF u/\fF u<=qh)↔iW u:=by simp only[iW,mq,qh,iD,fF];omega
  rw[this]
theorem ky{x:NS}(h:gM x):gM (gP x):=.of (qw x.i _ _ h.ni h.bi).1 (qw x.f _ _ h.nf h.bf).1 fun u a=>((wu h u).1 a).1
theorem EY(x y:NS)(u:Int):(LH x y).has u↔x.has u\/y.has u:=by
 simp only[NS.has,LH,(eD _).2,D7];by_cases a:u%10000=0<;>simp[a]
theorem AL{x y:NS}(b:gM x)(a:gM y):gM (LH x y):=.of (eD _).1 (eD _).1 fun u c=>((EY x y u).1 c).elim b.mJ a.mJ
theorem TA{x y:NS}(b:gM x)(a:gM y):gM (nG x y):=ky (AL (ky b) (ky a))
theorem Py{x y:NS}(a:gM x)(c:gM y)(u:Int):(nG x y).has u↔x.has u/\y.has u:=by
 unfold nG;rw[wu (AL (ky a) (ky c)),EY,wu a,wu c];constructor
 .rintro⟨d,h⟩;constructor
  .exact zP fun b=>h (.inl ⟨d,b⟩)
  .exact zP fun b=>h (.inr ⟨d,b⟩)
 .rintro⟨e,f⟩;refine⟨a.mJ e,?_⟩;rintro(⟨-,h⟩|⟨-,h⟩)
  .exact h e
  .exact h f
theorem gI{x y:NS}(b:gM x)(a:gM y):gM (dC x y):=TA b (ky a)
theorem iC{x y:NS}(b:gM x)(a:gM y)(u:Int):(dC x y).has u↔x.has u/\¬y.has u:=by
 unfold dC;rw[Py b (ky a),wu a];exact⟨fun h=>⟨h.1,h.2.2⟩,fun h=>⟨h.1,b.mJ h.1,h.2⟩⟩
def kR(x y:bT):bT:=(max x.1 y.1,min x.2 y.2)
def fe(a b:List bT):List bT:=a.flatMap fun x=>(b.map (kR x)).filter fun z=>decide (z.1<=z.2)
theorem N9{a b:List bT}{u:Int}:fU (fe a b) u↔fU a u/\fU b u:=by
 constructor
 .rintro⟨s,e,g,f⟩;obtain⟨x,d,e⟩:=xW.1 e;obtain⟨h,-⟩:=xR.1 e;obtain⟨y,c,rfl⟩:=yD.1 h;simp only[kR]at g f;exact⟨⟨x,d,zo,zo⟩,y,c,zo,zo⟩
 .rintro⟨⟨x,d,g,f⟩,y,c,j,i⟩;refine⟨kR x y,xW.2 ⟨x,d,xR.2 ⟨yD.2 ⟨y,c,rfl⟩,?_⟩⟩,?_,?_⟩
  .exact zN (show max x.1 y.1<=min x.2 y.2 by omega)
  .simp only[kR];omega
  .simp only[kR];omega
theorem ZJ{x y:NS}(b:gM x)(c:gM y):dz (fe x.i y.i) (fe x.rf y.rf)=nG x y:=AP (jf _ _) (TA b c) fun u=>by
 rw[Py b c,qJ,<-CW x,<-CW y];simp only[vR,N9];by_cases a:u%10000=0
 .simp only[a,ne_eq,not_true_eq_false,false_and,or_false,true_and];exact⟨And.right,fun h=>⟨b.mJ (.inl ⟨a,h.1⟩),h⟩⟩
 .simp only[a,ne_eq,not_false_eq_true,false_and,false_or,true_and];exact⟨And.right,fun h=>⟨b.mJ (.inr ⟨a,(qK a).1 h.1⟩),h⟩⟩
def fZ(nx a:Int->Int):List bT->Int->Int->List bT
 |[],lo,hi=>if lo<=hi then[(lo,hi)]else[]
 |s::r,lo,hi=>(if lo<=a s.1 then[(lo,a s.1)]else[])++fZ nx a r (nx s.2) hi
theorem wG:∀(l:List bT) (lo hi:Int),fZ (fun n=>n+1) (fun n=>n-1) l lo hi=jO l lo hi
 |[],_,_=>rfl
 |s::r,lo,hi=>by
  simp only[fZ,jO,wG];by_cases h:lo<s.1
  .rw[zK h,zK zo]
  .rw[zJ h,zJ zo]
theorem GI:∀(l:List bT) (lo hi:Int),fZ jy jg (l.map fG) (bU lo) (bU hi)=(jO l lo hi).map fG
 |[],lo,hi=>by
  simp only[fZ,jO,xB];by_cases h:lo<=hi
  .rw[zK h,zK (jS.2 h)];rfl
  .rw[zJ h,zJ (fun e=>h (jS.1 e))];rfl
 |s::r,lo,hi=>by
  simp only[fZ,jO,yL];show(if bU lo<=jg (bU s.1)then[(bU lo,jg (bU s.1))]else[])++fZ jy jg (r.map fG) (jy (bU s.2)) (bU hi)=_;rw[Jl,Cm,GI,yI];by_cases h:lo<s.1
  .rw[zK h,zK (jS.2 zo)];rfl
  .rw[zJ h,zJ (fun e=>h (by have:=jS.1 e;omega))];rfl
theorem Tn(x:NS):fZ jy jg x.rf (1-iD) (iD-1)=(gP x).rf:=by
 have b:(1-iD:Int)=bU mq:=by decide
 have a:(iD-1:Int)=bU qh:=by decide
 rw[b,a];exact GI x.f mq qh
theorem Y3{x:NS}(h:gM x):dz (fZ (fun n=>n+1) (fun n=>n-1) x.i (-il) il) (fZ jy jg x.rf (1-iD) (iD-1))=gP x:=by
 rw[wG,Tn];exact mX (ky h)
end Cl
namespace Cl
def iB(u v:Int):Prop:=max u (-u)<max v (-v)\/(max u (-u)=max v (-v)/\v<u)
instance (u v:Int):Decidable (iB u v):=by unfold iB;infer_instance
theorem D6(u:Int):¬iB u u:=by unfold iB;omega
theorem l9{a b c:Int}(h:iB a b)(k:iB b c):iB a c:=by unfold iB at*;omega
theorem qg{a b:Int}(h:a≠b):iB a b\/iB b a:=by unfold iB;omega
theorem nQ{a b:Int}(h:iB a b):¬iB b a:=by unfold iB at*;omega
structure jh (p:Int->Prop) (r:Option Int):Prop where
 no:r=none->∀u,¬p u
 one:∀u,r=some u->p u/\∀v,p v->v=u\/iB u v
theorem jh.congr{p q:Int->Prop}{r:Option Int}(h:jh p r)(e:∀u,p u↔q u):jh q r:=
 ⟨fun a u c=>h.no a u ((e u).2 c),fun u a=>⟨(e u).1 (h.one u a).1,fun v b=>(h.one u a).2 v ((e v).2 b)⟩⟩
def d9:List Int->Option Int->Option Int
 |[],b=>b
 |u::l,none=>d9 l (some u)
 |u::l,some b=>d9 l (some (if iB u b then u else b))
theorem wQ:∀(l:List Int) (b:Option Int),jh (fun u=>u∈l\/b=some u) (d9 l b)
 |[],none=>⟨fun _ u n=>(by simp at n),fun u e=>(by cases e)⟩
 | [],some b=>⟨fun h=>qev,fun u e=>⟨.inr e,fun v g=>by
  rcases g with g|g
  .cases g
  .rw[show d9 [] (some b)=some b from rfl]at e;rw[e]at g;cases g;exact .inl rfl⟩⟩
 |u::l,none=>by
  refine(wQ l (some u)).congr fun v=>?_;simp only[yA,Option.some.injEq,reduceCtorEq,or_false];constructor
  .rintro(h|h)
   .exact .inr h
   .exact .inl h.symm
  .rintro(h|h)
   .exact .inr h.symm
   .exact .inl h
 |u::l,some b=>by
  have j:=wQ l (some (if iB u b then u else b));refine⟨fun e v g=>?_,fun v e=>?_⟩
  .exact j.no e (if iB u b then u else b) (.inr rfl)
  .obtain⟨f,m⟩:=j.one v e;refine⟨?_,fun x d=>?_⟩
   .rcases f with f|f
    .exact .inl (zU _ f)
    .simp only[Option.some.injEq]at f;by_cases c:iB u b
     .rw[zK c]at f;exact .inl (by rw[f];exact yF ..)
     .rw[zJ c]at f;exact .inr (by rw[f])
   ·
    have a:=m (if iB u b then u else b) (.inr rfl);rcases d with d|d
    .rcases yA.1 d with d|d
     .subst d;by_cases c:iB x b
      .rw[zK c]at a;exact a
      .rw[zJ c]at a;by_cases k:x=b
       .rw[k];exact a
       .rcases qg k with i|i
        .exact absurd i c
        .rcases a with a|a
         .rw[<-a];exact .inr i
         .exact .inr (l9 a i)
     .exact m x (.inl d)
    .simp only[Option.some.injEq]at d;subst d;by_cases c:iB u b
     .rw[zK c]at a;rcases a with a|a
      .rw[<-a];exact .inr c
      .exact .inr (l9 a c)
     .rw[zJ c]at a;exact a
theorem jh.Te{p:Int->Prop}{l:List Int}(k:∀u∈l,p u)(f:∀v,p v->∃u∈l,v=u\/iB u v):jh p (d9 l none):=by
 have h:=wQ l none;refine⟨fun d v c=>?_,fun u d=>?_⟩
 .obtain⟨u,i,-⟩:=f v c;exact h.no d u (.inl i)
 .obtain⟨h3,j⟩:=h.one u d;refine⟨k u qeO,fun v c=>?_⟩;obtain⟨x,g,a⟩:=f v c;rcases j x (.inl g)with b|b
  .subst b;exact a
  .rcases a with e|e
   .subst e;exact .inr b
   .exact .inr (l9 b e)
def dP(s:bT)(mid:Int):Int:=if s.1 > 0 then s.1 else if s.2<0 then s.2 else mid
def azv(x:NS):List Int:=x.i.map (fun s=>dP s 0*10000)++x.rf.map (fun s=>dP s 1)
def dm(x:NS):Option Int:=d9 (azv x) none
theorem Xm{x:NS}{s:bT}(a:s∈x.rf):∃t∈x.f,s=fG t:=by
 obtain⟨t,ht,rfl⟩:=yD.1 a;exact⟨t,ht,rfl⟩
theorem CV{x:NS}{s:bT}(b:s∈x.rf){u:Int}(a:u%10000≠0)(d:s.1<=u)(c:u<=s.2):x.has u:=
 .inr ⟨a,(qK a).1 ⟨s,b,d,c⟩⟩
theorem Lg{x:NS}(h:gM x){s:bT}(a:s∈x.rf):s.1<=s.2/\s.1%10000≠0/\s.2%10000≠0:=by
 obtain⟨t,ht,rfl⟩:=Xm a;exact⟨jS.2 (h.nf.ok t ht),vL _,vL _⟩
theorem Ka{x:NS}{s:bT}(a:s∈x.i){n:Int}(c:s.1<=n)(b:n<=s.2):x.has (n*10000):=gM.Tg.1 ⟨s,a,c,b⟩
theorem Kb{x:NS}{u:Int}(h:x.has u):(∃s∈x.i,∃n,u=n*10000/\s.1<=n/\n<=s.2)\/(∃s∈x.rf,u%10000≠0/\s.1<=u/\u<=s.2):=by
 rcases h with⟨d,s,a,c,b⟩|⟨d,c⟩
 .exact .inl ⟨s,a,u/10000,zo,c,b⟩
 .obtain⟨s,a,b,e⟩:=(qK d).2 c;exact .inr ⟨s,a,d,b,e⟩
theorem iT{x:NS}(h:gM x):jh x.has (dm x):=by
 refine jh.Te (fun u b=>?_) fun v d=>?_
 .rcases yP.1 b with b|b
  .obtain⟨s,a,rfl⟩:=yD.1 b;have:=h.ni.ok s a;unfold dP
   split
   .exact Ka a (xU _) this
   .split
    .exact Ka a this (xU _)
    .exact Ka a zo zo
  .obtain⟨s,a,rfl⟩:=yD.1 b;obtain⟨c,k,j⟩:=Lg h a;show x.has (dP s 1);unfold dP
   split
   .exact CV a k (xU _) c
   .split
    .exact CV a j c (xU _)
    .exact CV a zD zo zo
 .rcases Kb d with⟨s,a,n,rfl,g,f⟩|⟨s,a,i,g,f⟩
  .refine⟨dP s 0*10000,xI _ (yD.2 ⟨s,a,rfl⟩),?_⟩;unfold dP iB
   split
   .omega
   .split
    .omega
    .omega
  .refine⟨dP s 1,xS _ (yD.2 ⟨s,a,rfl⟩),?_⟩;unfold dP iB
   split
   .omega
   .split
    .omega
    .have:v≠0:=fun e=>i qew;omega
def Dr:Option Int->Option Int->Int
 |none,none=>0
 |some _,none => -1
 |none,some _=>1
 |some u,some v=>if iB u v then -1 else 1
def lC(x y:NS):Int:=Dr (dm (dC x y)) (dm (dC y x))
def MK(p q:Int->Prop):Prop:=∃u,p u/\¬q u/\∀v,iB v u->(p v↔q v)
theorem Pj{x y:NS}(g:gM x)(f:gM y):lC x y = -1↔MK x.has y.has:=by
 have a:=iT (gI g f);have b:=iT (gI f g);have n:∀u,dm (dC x y)=some u->(∀v,dm (dC y x)=some v->iB u v)->MK x.has y.has:=fun u E D=>by
  obtain⟨t,m⟩:=a.one u E;obtain⟨l,F⟩:=(iC g f u).1 t;refine⟨u,l,F,fun v d=>⟨fun q=>?_,fun p=>?_⟩⟩
  .refine zP fun s=>?_;rcases m v ((iC g f v).2 ⟨q,s⟩)with rfl|h
   .exact D6 _ d
   .exact nQ h d
  .refine zP fun s=>?_;have k:=(iC f g v).2 ⟨p,s⟩
   cases c:dm (dC y x)with
   |none=>exact b.no c v k
   |some z=>
    have w:=D z c;rcases(b.one z c).2 v k with rfl|h
    .exact nQ w d
    .exact nQ (l9 w h) d
 constructor
 .intro h;unfold lC at h
  cases hr:dm (dC x y)with
  |none=>
   rw[hr]at h
   cases c:dm (dC y x)with
   |none=>rw[c]at h;simp[Dr]at h
   |some v=>rw[c]at h;simp[Dr]at h
  |some u=>
   rw[hr]at h;refine n u hr fun v c=>?_;rw[c]at h;simp only[Dr]at h
   split at h
   .assumption
   .simp at h
 .rintro⟨u,t,m,l⟩;have k:=(iC g f u).2 ⟨t,m⟩;unfold lC
  cases hr:dm (dC x y)with
  |none=>exact absurd k (a.no hr u)
  |some z=>
   cases c:dm (dC y x)with
   |none=>rfl
   |some v=>
    obtain⟨C,B⟩:=a.one z hr;obtain⟨A,G⟩:=b.one v c;have j:=(iC g f z).1 C;have i:=(iC f g v).1 A;have r:z=u:=by
     rcases B u k with e|e
     .exact e.symm
     .exact absurd ((l z e).1 j.1) j.2
    subst r;have o:iB z v:=by
     by_cases e:z=v
     .subst e;exact absurd i.1 m
     .rcases qg e with h|h
      .exact h
      .exact absurd ((l v h).2 i.1) i.2
    simp only[Dr,zK o]
theorem VT{x y:NS}(c:gM x)(d:gM y):lC x y=0↔x=y:=by
 have a:=iT (gI c d);have b:=iT (gI d c);constructor
 .intro h;unfold lC at h;refine AP c d fun u=>?_
  cases hr:dm (dC x y)with
  |some z=>
   rw[hr]at h
   cases hs:dm (dC y x)with
   |none=>rw[hs]at h;simp[Dr]at h
   |some v=>rw[hs]at h;simp only[Dr]at h;split at h<;>simp at h
  |none=>
   cases hs:dm (dC y x)with
   |some v=>rw[hr,hs]at h;simp[Dr]at h
   |none=>
    constructor
    .exact fun f=>zP fun g=>a.no hr u ((iC c d u).2 ⟨f,g⟩)
    .exact fun f=>zP fun g=>b.no hs u ((iC d c u).2 ⟨f,g⟩)
 .rintro rfl;have e:dC x x=G8:=AP (gI c c) Km fun u=>by
   rw[iC c c];exact⟨fun h=>absurd h.1 h.2,fun h=>absurd h (AZ u)⟩
  unfold lC;rw[e]
  rfl
theorem R7(x y:NS):lC x y = -1\/lC x y=0\/lC x y=1:=by
 unfold lC;cases dm (dC x y)<;>cases dm (dC y x)
 .exact .inr (.inl rfl)
 .exact .inr (.inr rfl)
 .exact .inl rfl
 .rename_i u v;by_cases h:iB u v
  .exact .inl (zK h)
  .exact .inr (.inr (zJ h))
theorem VU{x y:NS}(b:gM x)(a:gM y):lC x y=1↔MK y.has x.has:=by
 rw[<-Pj a b];unfold lC
 cases hr:dm (dC x y)with
 |none=>cases hs:dm (dC y x)<;>simp[Dr]
 |some u=>
  cases hs:dm (dC y x)with
  |none=>simp[Dr]
  |some v=>
   have f:=(iC b a u).1 ((iT (gI b a)).one u hr).1;have d:=(iC a b v).1 ((iT (gI a b)).one v hs).1;have c:u≠v:=fun e=>by subst e;exact f.2 d.1
   simp only[Dr];rcases qg c with h|h
   .rw[zK h,zJ (nQ h)];simp
   .rw[zJ (nQ h),zK h];simp
end Cl
namespace Cl
theorem sS{n a:Nat}(h:n<=a){es:List Ed}:∀{p:Int},bP n p es->bP a p es:=by
 induction es with
 |nil=>intro p _;trivial
 |cons e es ih=>intro p ⟨h1,h2,h3,h4,h5⟩;exact⟨h1,h2,zo,h4,ih h5⟩
theorem DI{n:Nat}{es:List Ed}{p q:Int}(h:bP n p es)(f:q<=p):bP n q es:=by
 cases es with
 |nil=>trivial
 |cons e es=>obtain⟨d,c,b,g,a⟩:=h;exact⟨d,c,b,zo,a⟩
theorem qG{n:Nat}{es fs:List Ed}:∀{p q:Int},bP n p es->(∀e∈es,(e.hi:Int)<=q)->p<=q->bP n q fs->bP n p (es++fs):=by
 induction es with
 |nil=>intro p q _ _ a b;exact DI b a
 |cons e es ih=>
  intro p q ⟨h1,h2,h3,h4,h5⟩ hq _ b;exact⟨h1,h2,h3,h4,ih h5 (fun x hx=>hq x qel) (hq e zS) b⟩
theorem yx{n:Nat}{es fs:List Ed}:∀{p:Int},bP n p (es++fs)->bP n p es:=by
 induction es with
 |nil=>intro p _;trivial
 |cons e es ih=>intro p ⟨h1,h2,h3,h4,h5⟩;exact⟨h1,h2,h3,h4,ih h5⟩
theorem kL(es fs:List Ed)(b:Nat)(h:∀e∈es,¬(e.lo<=b/\b<=e.hi)):bv (es++fs) b=bv fs b:=by
 induction es with
 |nil=>rfl
 |cons e es ih=>
  simp only[xK,bv];rw[zJ (h e zS)];exact ih fun x hx=>h x qel
theorem jZ(es fs:List Ed)(b:Nat)(h:∃e∈es,e.lo<=b/\b<=e.hi):bv (es++fs) b=bv es b:=by
 induction es with
 |nil=>obtain⟨e,h,_⟩:=h;simp at h
 |cons e es ih=>
  simp only[xK,bv]
  split
  .rfl
  .rename_i d;obtain⟨x,a,c⟩:=h;rcases yA.1 a with rfl|a
   .exact absurd c d
   .exact ih ⟨x,a,c⟩
theorem uw(es:List Ed)(b:Nat)(h:∀e∈es,¬(e.lo<=b/\b<=e.hi)):bv es b = -1:=by
 have:=kL es [] b h;simpa [bv]using this
theorem fP{n:Nat}{es:List Ed}:∀{p:Int},bP n p es->∀e∈es,p<e.lo/\e.lo<=e.hi/\0<=e.to/\e.to<n:=by
 induction es with
 |nil=>intro p _ e a;simp at a
 |cons x es ih=>
  intro p ⟨h1,h2,h3,h4,h5⟩ e a;rcases yA.1 a with rfl|a
  .exact⟨h4,h1,h2,h3⟩
  .have:=ih h5 e a;exact⟨zo,this.2⟩
theorem Bi{n:Nat}{es:List Ed}{x:Ed}:∀{p:Int},bP n p (es++[x])->∀e∈es,e.hi<x.lo:=by
 induction es with
 |nil=>intro p _ e a;simp at a
 |cons y es ih=>
  intro p ⟨h1,h2,h3,h4,h5⟩ e a;rcases yA.1 a with rfl|a
  .have:=(fP h5 x zS).1;omega
  .exact ih h5 e a
theorem QP{es:List Ed}{x:Ed}(h:Merged es)(a:∀y,es.getLast?=some y->¬(y.to=x.to/\y.hi+1=x.lo)):Merged (es++[x]):=by
 induction es with
 |nil=>trivial
 |cons e es ih=>
  cases es with
  |nil=>exact⟨a e rfl,trivial⟩
  |cons f es=>exact⟨h.1,ih h.2 (fun y b=>a y (by simpa using b))⟩
theorem LX{es:List Ed}{x:Ed}{hi:Nat}(h:Merged (es++[x])):Merged (es++[⟨x.lo,hi,x.to⟩]):=by
 induction es with
 |nil=>trivial
 |cons e es ih=>
  cases es with
  |nil=>exact⟨h.1,trivial⟩
  |cons f es=>exact⟨h.1,ih h.2⟩
def kN(es:List Ed)(lo hi:Nat)(to:Nat):List Ed:=match es.getLast? with
 |some e=>if e.to=to/\e.hi+1=lo then es.dropLast++[⟨e.lo,hi,to⟩]else es++[⟨lo,hi,to⟩]
 |none=>es++[⟨lo,hi,to⟩]
theorem NE{n:Nat}{es:List Ed}{lo hi to:Nat}(o:bP n (-1) es)(g:∀e∈es,e.hi<lo)(p:lo<=hi)(h256:hi<256)(k:to<n)(t:iX es)(s:Merged es):
 bP n (-1) (kN es lo hi to)/\(∀e∈kN es lo hi to,e.hi<=hi)/\iX (kN es lo hi to)/\Merged (kN es lo hi to) /\
  ∀b,bv (kN es lo hi to) b=if lo<=b/\b<=hi then(to:Int)else bv es b:=by
 have plain:(∀y,es.getLast?=some y->¬(y.to=(to:Int)/\y.hi+1=lo))->bP n (-1) (es++[⟨lo,hi,to⟩])/\(∀e∈es++[⟨lo,hi,to⟩],e.hi<=hi)/\iX (es++[⟨lo,hi,to⟩])/\Merged (es++[⟨lo,hi,to⟩]) /\
  ∀b,bv (es++[⟨lo,hi,to⟩]) b=if lo<=b/\b<=hi then(to:Int)else bv es b:=by
  intro A;refine⟨qG (q:=(lo:Int)-1) o (fun e a=>by have:=g e a;omega) zo ⟨p,zS,by simpa using k,by show(lo:Int)-1<(lo:Int);omega,trivial⟩,?_,?_,QP s A,?_⟩
  .intro e a;rcases yP.1 a with h|h
   .have:=g e h;omega
   .simp only[zZ]at h;subst h;exact zI _
  .intro e a;rcases yP.1 a with h|h
   .exact t e h
   .exact qc8
  .intro b;by_cases c:lo<=b/\b<=hi
   .rw[zK c,kL _ _ _ (fun e a=>by have:=g e a;omega)];simp[bv,c]
   .rw[zJ c];by_cases d:∃e∈es,e.lo<=b/\b<=e.hi
    .exact jZ _ _ _ d
    .have m:∀e∈es,¬(e.lo<=b/\b<=e.hi):=fun e a h=>d ⟨e,a,h⟩;rw[kL _ _ _ m,uw _ _ m];simp[bv,c]
 unfold kN
 split
 .rename_i e a
  split
  .rename_i r;obtain⟨l,C⟩:=r;obtain⟨fs,rfl⟩:∃fs,es=fs++[e]:=List.getLast?_eq_some_iff.1 a;rw[List.dropLast_concat];have i:=Bi o;have B:=(fP o e zS);have z:=g e zS;refine⟨qG (q:=(e.lo:Int)-1) (yx o) (fun x f=>by have:=i x f;omega) zo ⟨by show e.lo<=hi;omega,zS,by simpa using k,by show(e.lo:Int)-1<(e.lo:Int);omega,trivial⟩,?_,?_,?_,?_⟩
   .intro x f;rcases yP.1 f with h|h
    .have:=i x h;omega
    .simp only[zZ]at h;subst h;exact zI _
   .intro x f;rcases yP.1 f with h|h
    .exact t x qeR
    .exact qc8
   .have:=LX (hi:=hi) s
    rwa [l]at this
   .intro b;by_cases d:∃x∈fs,x.lo<=b/\b<=x.hi
    .obtain⟨x,f,v,u⟩:=d;have:=i x f;rw[jZ _ _ _ ⟨x,f,v,u⟩,jZ _ _ _ ⟨x,f,v,u⟩,zJ zo]
    .have m:∀x∈fs,¬(x.lo<=b/\b<=x.hi):=fun x f h=>d ⟨x,f,h⟩;rw[kL _ _ _ m,kL _ _ _ m];simp only[bv];by_cases c:lo<=b/\b<=hi
     .rw[zK c,zK zo]
     .rw[zJ c];by_cases w:e.lo<=b/\b<=e.hi
      .rw[zK zo,zK w,l]
      .rw[zJ zo,zJ w]
  .rename_i r;exact plain fun y j=>by rw[a]at j;cases j;exact r
 .rename_i a;exact plain fun y j=>by rw[a]at j;cases j
def dN(cf:Nat->Int)(o:List Nat)(t:Nat):Nat:=o.findIdx fun s=>cf s==cf t
def dH(cf:Nat->Int)(o:List Nat)(t:Nat):List Nat:=if dN cf o t<o.length then o else o++[t]
def YC(cf:Nat->Int)(o:List Nat):Prop:=o.Pairwise fun a b=>cf a≠cf b
theorem rY(cf:Nat->Int)(o:List Nat)(t:Nat):dN cf o t<=o.length:=List.findIdx_le_length
theorem rZ{cf:Nat->Int}{o:List Nat}{t:Nat}(h:dN cf o t<o.length):cf (o[dN cf o t])=cf t:=by
 have:=List.findIdx_getElem (p:=fun s=>cf s==cf t) (w:=h);exact eq_of_beq this
theorem FZ{cf:Nat->Int}{o x:List Nat}{t:Nat}(h:dN cf o t<o.length):dN cf (o++x) t=dN cf o t:=by
 unfold dN at*
 rw[List.findIdx_append,zK h]
theorem Ut{cf:Nat->Int}{o:List Nat}{t:Nat}(h:¬dN cf o t<o.length):dN cf (o++[t]) t=o.length:=by
 unfold dN at*
 rw[List.findIdx_append,zJ h];simp[List.findIdx_cons]
theorem QD{cf:Nat->Int}{o:List Nat}{t:Nat}(h:¬dN cf o t<o.length):∀s∈o,cf s≠cf t:=by
 intro s a e;exact h (List.findIdx_lt_length.2 ⟨s,a,by simpa using e⟩)
theorem Tv{cf:Nat->Int}{o:List Nat}(t:Nat)(h:YC cf o):YC cf (dH cf o t):=by
 unfold dH
 split
 .exact h
 .rename_i d;exact List.pairwise_append.2 ⟨h,zS,fun a e b c=>by
   simp only[zZ]at c;subst c;exact QD d a e⟩
theorem Zv{cf:Nat->Int}{o:List Nat}(h:YC cf o){i j:Nat}(hi:i<o.length)(a:j<o.length)(e:cf o[i]=cf o[j]):i=j:=by
 have:=List.pairwise_iff_getElem.1 h;rcases Nat.lt_trichotomy i j with c|c|c
 .exact absurd e (this i j hi a c)
 .exact c
 .exact absurd e.symm (this j i a hi c)
theorem F8(cf:Nat->Int)(o:List Nat)(t:Nat):o <+: dH cf o t:=by
 unfold dH
 split
 .exact qdM
 .exact qdr
theorem tX(cf:Nat->Int)(o:List Nat)(t:Nat):dN cf (dH cf o t) t=dN cf o t/\dN cf o t<(dH cf o t).length:=by
 unfold dH
 split
 .rename_i h;exact⟨rfl,h⟩
 .rename_i h;have:=rY cf o t;exact⟨by rw[Ut h];omega,by simp;omega⟩
theorem LD{cf:Nat->Int}{o o':List Nat}(h:o <+: o'){t:Nat}(ht:dN cf o t<o.length):dN cf o' t=dN cf o t:=by
 obtain⟨x,rfl⟩:=h;exact FZ ht
theorem BJ{o o':List Nat}(h:o <+: o'){i:Nat}(hi:i<o.length):o'[i]'(xP hi h.length_le)=o[i]:=by
 obtain⟨x,rfl⟩:=h;exact xM hi
theorem F9{cf:Nat->Int}{o:List Nat}{t:Nat}:∀x∈dH cf o t,x∈o\/x=t:=by
 intro x a;unfold dH at a
 split at a
 .exact .inl a
 .simpa using a
theorem Ga{cf:Nat->Int}{o:List Nat}{t:Nat}:(dH cf o t).length=o.length\/(dH cf o t).length=o.length+1/\dN cf o t=o.length:=by
 unfold dH
 split
 .exact .inl rfl
 .rename_i h;have:=rY cf o t;exact .inr ⟨zS,zo⟩
section
variable (cf:Nat->Int) (dl:Nat->Nat->Option Nat) (lo hi:Nat->Nat) (ac:Nat->Bool) (K:Nat)
def cu(s:Nat)(o:List Nat):Nat->List Nat×List Ed
 |0=>(o,[])
 |i+1=>match dl s i with
  |none=>cu s o i
  |some t=>(dH cf (cu s o i).1 t,kN (cu s o i).2 (lo i) (hi i) (dN cf (cu s o i).1 t))
def dI:Nat->List Nat×aC
 |0=>([0],[])
 |k+1=>((cu cf dl lo hi ((dI k).1.getD k 0) (dI k).1 K).1,(dI k).2++[⟨ac ((dI k).1.getD k 0),(cu cf dl lo hi ((dI k).1.getD k 0) (dI k).1 K).2⟩])
structure Ivs:Prop where
 le:∀i,i<K->lo i<=hi i/\hi i<256
 sep:∀i j,i<j->j<K->hi i<lo j
 cover:∀b,b<256->∃i,i<K/\lo i<=b/\b<=hi i
def tgt(o:List Nat):Option Nat->Int
 |none => -1
 |some t=>dN cf o t
structure MH (N s:Nat) (o:List Nat) (i:Nat) (r:List Nat×List Ed):Prop where
 pre:o <+: r.1
 MO:YC cf r.1
 lt:∀x∈r.1,x<N
 wf:bP r.1.length (-1) r.2
 low:∀e∈r.2,∀j,i<=j->j<K->e.hi<lo j
 bytes:iX r.2
 Dc:Merged r.2
 step:∀j,j<i->∀b,lo j<=b->b<=hi j->bv r.2 b=tgt cf r.1 (dl s j)
 there:∀j,j<i->∀t,dl s j=some t->dN cf r.1 t<r.1.length
 new:∀p,o.length<=p->p<r.1.length->∃j,j<i/\∃t,dl s j=some t/\dN cf r.1 t=p
 seen:∀j,j<i->∀t,dl s j=some t->∀p,o.length<=p->p<dN cf r.1 t->∃j',j'<j/\∃t',dl s j'=some t'/\dN cf r.1 t'=p
variable {cf dl lo hi ac K}
theorem Lf{N s:Nat}{o:List Nat}(E:Ivs lo hi K)(P:YC cf o)(B:∀x∈o,x<N)(D:∀i t,i<K->dl s i=some t->t<N):
 ∀i,i<=K->MH cf dl lo hi K N s o i (cu cf dl lo hi s o i):=by
 intro i
 induction i with
 |zero=>
  intro _
  exact⟨List.prefix_rfl,P,B,trivial,fun e l=>by simp[cu]at l,fun e l=>by simp[cu]at l,trivial,fun j m=>zo,fun j m=>zo,fun p n k=>by simp[cu]at k;omega,fun j m=>zo⟩
 |succ i a=>
  intro O;have a:=a zo;have A:=E.le i zo
  cases hc:dl s i with
  |none=>
   have e:cu cf dl lo hi s o (i+1)=cu cf dl lo hi s o i:=by simp[cu,hc]
   rw[e];generalize cu cf dl lo hi s o i=r at*
   refine⟨a.pre,a.MO,a.lt,a.wf,fun e l j m=>a.low e l j zo,a.bytes,a.Dc,?_,?_,?_,?_⟩
   .intro j m b n k;by_cases c:j=i
    .subst c;rw[hc];show _=(-1:Int);apply uw;intro e l;have:=a.low e l j (zI _) zo;omega
    .exact a.step j zo b n k
   .intro j m t ht;by_cases c:j=i
    .subst c;rw[hc]at ht;cases ht
    .exact a.there j zo t ht
   .intro p n k;obtain⟨j,m,h⟩:=a.new p n k;exact⟨j,zo,h⟩
   .intro j m t ht;by_cases c:j=i
    .subst c;rw[hc]at ht;cases ht
    .exact a.seen j zo t ht
  |some t=>
   have e:cu cf dl lo hi s o (i+1)=(dH cf (cu cf dl lo hi s o i).1 t,kN (cu cf dl lo hi s o i).2 (lo i) (hi i) (dN cf (cu cf dl lo hi s o i).1 t)):=by simp[cu,hc]
   rw[e];generalize cu cf dl lo hi s o i=r at*
   have q:=F8 cf r.1 t;have f:=tX cf r.1 t;have z:=q.length_le;obtain⟨L,J,I,H,G⟩:=NE (to:=dN cf r.1 t) (sS z a.wf) (fun e l=>a.low e l i (zI _) zo) A.1 A.2 f.2 a.bytes a.Dc;have d:∀j,j<i->∀u,dl s j=some u->dN cf (dH cf r.1 t) u=dN cf r.1 u:=fun j m u g=>LD q (a.there j m u g);refine⟨a.pre.trans q,Tv t a.MO,?_,L,?_,I,H,?_,?_,?_,?_⟩
   .intro x M;rcases F9 x M with h|h
    .exact a.lt x h
    .subst h;exact D i _ zo hc
   .intro e l j m C;have n:=J e l;have k:=E.sep i j zo C;omega
   .intro j m b n k;show bv (kN r.2 (lo i) (hi i) (dN cf r.1 t)) b=tgt cf (dH cf r.1 t) (dl s j);rw[G];by_cases c:j=i
    .subst c;rw[zK ⟨n,k⟩,hc];show _=((dN cf (dH cf r.1 t) t:Nat):Int);rw[f.1]
    .have:=E.sep j i zo zo;rw[zJ zo,a.step j zo b n k]
     cases g:dl s j with
     |none=>rfl
     |some u=>simp only[tgt];rw[d j zo u g]
   .intro j m u g;by_cases c:j=i
    .subst c;rw[hc]at g;cases g;show dN cf (dH cf r.1 t) t<(dH cf r.1 t).length;rw[f.1];exact f.2
    .have:=a.there j zo u g;show dN cf (dH cf r.1 t) u<(dH cf r.1 t).length;rw[d j zo u g];omega
   .intro p n k;have k:p<(dH cf r.1 t).length:=k;by_cases c:p<r.1.length
    .obtain⟨j,m,u,g,l⟩:=a.new p n c;exact⟨j,zo,u,g,by rw[<-l];exact d j m u g⟩
    .rcases Ga (cf:=cf) (o:=r.1) (t:=t)with h|⟨h,h'⟩
     .omega
     .exact⟨i,zo,t,hc,by show dN cf (dH cf r.1 t) t=p;rw[f.1];omega⟩
   .intro j m u g p n k;have k:p<dN cf (dH cf r.1 t) u:=k;by_cases c:j=i
    .subst c;rw[hc]at g;cases g;rw[f.1]at k;have:=rY cf r.1 t;obtain⟨w,v,u,g,l⟩:=a.new p n zo;exact⟨w,v,u,g,by rw[<-l];exact d w v u g⟩
    .rw[d j zo u g]at k;obtain⟨w,v,F,y,l⟩:=a.seen j zo u g p n k;exact⟨w,v,F,y,by rw[<-l];exact d w zo F y⟩
structure az2 (cf:Nat->Int) (dl:Nat->Nat->Option Nat) (lo hi:Nat->Nat) (ac:Nat->Bool) (K N k:Nat) (r:List Nat×aC):Prop where
 first:r.1[0]?=some 0
 MO:YC cf r.1
 lt:∀x∈r.1,x<N
 len:r.2.length=k
 state:∀j,(h:j<r.2.length)->∃h':j<r.1.length,(r.2[j]).aZ=ac r.1[j]/\bP r.1.length (-1) (r.2[j]).aH/\iX (r.2[j]).aH/\Merged (r.2[j]).aH /\
  ∀i,i<K->(∀b,lo i<=b->b<=hi i->bv (r.2[j]).aH b=tgt cf r.1 (dl r.1[j] i))/\∀t,dl r.1[j] i=some t->dN cf r.1 t<r.1.length
 reach:∀p,0<p->p<r.1.length->∃j,j<k/\j<p/\∃i,i<K/\∃t,dl (r.1.getD j 0) i=some t/\dN cf r.1 t=p
 seen:∀j,j<k->∀i,i<K->∀t,dl (r.1.getD j 0) i=some t->∀p,0<p->p<dN cf r.1 t ->
  ∃j' i',(j'<j\/j'=j/\i'<i)/\i'<K/\∃t',dl (r.1.getD j' 0) i'=some t'/\dN cf r.1 t'=p
theorem qp{o o':List Nat}(h:o <+: o'){i:Nat}(hi:i<o.length):o'.getD i 0=o.getD i 0:=by
 have a:=xP hi h.length_le;simp[hi,a,BJ h hi]
theorem MB{N:Nat}(W:Ivs lo hi K)(h0:0<N)(J:∀s i t,s<N->i<K->dl s i=some t->t<N):
 ∀k,(∀j,j<k->j<(dI cf dl lo hi ac K j).1.length)->az2 cf dl lo hi ac K N k (dI cf dl lo hi ac K k):=by
 intro k
 induction k with
 |zero=>
  intro _
  exact⟨rfl,by simp[dI,YC],fun x I=>by simp[dI]at I;omega,rfl,fun j h=>by simp[dI]at h,fun p B n=>by simp[dI]at n;omega,fun j o=>zo⟩
 |succ k ih=>
  intro O;have ih:=ih fun j o=>O j zo;have m:=O k zo;have S:(dI cf dl lo hi ac K (k+1)).1=(cu cf dl lo hi ((dI cf dl lo hi ac K k).1.getD k 0) (dI cf dl lo hi ac K k).1 K).1:=rfl;have Q:(dI cf dl lo hi ac K (k+1)).2=(dI cf dl lo hi ac K k).2++[⟨ac ((dI cf dl lo hi ac K k).1.getD k 0),(cu cf dl lo hi ((dI cf dl lo hi ac K k).1.getD k 0) (dI cf dl lo hi ac K k).1 K).2⟩]:=rfl;generalize V:dI cf dl lo hi ac K (k+1)=T at*
  generalize dI cf dl lo hi ac K k=r at*
  have U:r.1.getD k 0<N:=ih.lt _ (by simp[m]);have R:=Lf (cf:=cf) (s:=r.1.getD k 0) W ih.MO ih.lt (fun i t hi ht=>J _ i t U hi ht) K (zI _);obtain⟨z,q2⟩:=T;simp only at S Q;generalize hq:cu cf dl lo hi (r.1.getD k 0) r.1 K=q at*
  obtain⟨qo,C⟩:=q;subst S;subst Q;have a:=R.pre;have w:=a.length_le;simp only at R a w;have g:∀j,j<k->∀i,i<K->∀t,dl (r.1.getD j 0) i=some t->dN cf z t=dN cf r.1 t/\dN cf r.1 t<r.1.length:=by
   intro j o i e t ht;obtain⟨H,-,-,-,-,X⟩:=ih.state j (by rw[ih.len];exact o);have P:=(X i e).2 t (by simpa [H]using ht);exact⟨LD a P,P⟩
  refine⟨?_,R.MO,R.lt,by simp[ih.len],?_,?_,?_⟩
  .obtain⟨x,I⟩:=a;show z[0]?=some 0;rw[<-I,yK zo];exact ih.first
  .intro j o;by_cases c:j<k
   .obtain⟨H,B,n,h3,Z,Y⟩:=ih.state j qeW;have M:(r.2++[⟨ac (r.1.getD k 0),C⟩])[j]'o=r.2[j]'qeW:=xM qeW;have L:=BJ a H;refine⟨by show j<z.length;omega,?_⟩;show((r.2++[⟨ac (r.1.getD k 0),C⟩])[j]'o).aZ=_/\_;simp only[M,L];refine⟨B,sS w n,h3,Z,fun i e=>⟨fun b b1 b2=>?_,fun t ht=>?_⟩⟩
    .rw[(Y i e).1 b b1 b2]
     cases hu:dl r.1[j] i with
     |none=>rfl
     |some u=>simp only[tgt];rw[(g j c i e u (by simpa [H]using hu)).1]
    .have:=g j c i e t (by simpa [H]using ht);omega
   .have:j=k:=by simp[ih.len]at o;omega
    subst this;have M:(r.2++[⟨ac (r.1.getD j 0),C⟩])[j]'o=⟨ac (r.1.getD j 0),C⟩:=by
     rw[List.getElem_append_right (by rw[ih.len];omega)];simp[ih.len]
    have L:=BJ a m;have ed:r.1.getD j 0=r.1[j]:=by simp[m]
    refine⟨by show j<z.length;omega,?_⟩;show((r.2++[⟨ac (r.1.getD j 0),C⟩])[j]'o).aZ=_/\_;simp only[M,L];rw[ed]at R⊢;exact⟨rfl,R.wf,R.bytes,R.Dc,fun i e=>⟨R.step i e,R.there i e⟩⟩
  .intro p B n;have n:p<z.length:=n;by_cases c:p<r.1.length
   .obtain⟨j,o,F,i,e,t,ht,v⟩:=ih.reach p B c;refine⟨j,zo,F,i,e,t,?_,?_⟩
    .rw[qp a zo];exact ht
    .rw[<-v];exact(g j o i e t ht).1
   .obtain⟨i,e,t,ht,v⟩:=R.new p zo n;refine⟨k,zo,zo,i,e,t,?_,v⟩;rw[qp a m];exact ht
  .intro j o i e t ht p B n;have n:p<dN cf z t:=n;have ht:dl (z.getD j 0) i=some t:=ht;by_cases c:j<k
   .rw[qp a zo]at ht;rw[(g j c i e t ht).1]at n;obtain⟨D,A,E,f,y,l,v⟩:=ih.seen j c i e t ht p B n;refine⟨D,A,E,f,y,?_,?_⟩
    .rw[qp a zo];exact l
    .rw[<-v];exact(g D zo A f y l).1
   .have:j=k:=zo;subst this;rw[qp a m]at ht;by_cases d:p<r.1.length
    .obtain⟨D,G,F,A,f,y,l,v⟩:=ih.reach p B d;refine⟨D,A,.inl G,f,y,?_,?_⟩
     .rw[qp a zo];exact l
     .rw[<-v];exact(g D G A f y l).1
    .obtain⟨A,f,y,l,v⟩:=R.seen i e t ht p zo n;refine⟨j,A,.inr ⟨rfl,f⟩,zo,y,?_,v⟩;rw[qp a m];exact l
end
structure rO (T:aC) (N:Nat) (cf:Nat->Int) (dl:Nat->Nat->Option Nat) (lo hi:Nat->Nat) (ac:Nat->Bool) (K:Nat):Prop where
 iv:Ivs lo hi K
 pos:0<N
 some:∀s i t,s<N->i<K->dl s i=some t->t<N/\(∃w,aK T t w=true)/\∀b,lo i<=b->b<=hi i->∀w,aK T (bC T s b) w=aK T t w
 none:∀s i,s<N->i<K->dl s i=none->∀b,lo i<=b->b<=hi i->∀w,aK T (bC T s b) w=false
 bK:∀s t,s<N->t<N->(cf s=cf t↔∀w,aK T s w=aK T t w)
 acc:∀s,s<N->ac s=bB T s
 live:∃w,aK T 0 w=true
theorem KA{T:aC}{N:Nat}{cf:Nat->Int}{dl:Nat->Nat->Option Nat}{lo hi:Nat->Nat}{ac:Nat->Bool}{K k:Nat}(H:rO T N cf dl lo hi ac K)
(hk:∀j,j<k->j<(dI cf dl lo hi ac K j).1.length)(Q:(dI cf dl lo hi ac K k).1.length=k):
 dG (dI cf dl lo hi ac K k).2/\∀w,aK (dI cf dl lo hi ac K k).2 0 w=aK T 0 w:=by
 have B:=MB (cf:=cf) (ac:=ac) H.iv H.pos (fun s i t x v R=>(H.some s i t x v R).1) k hk;generalize dI cf dl lo hi ac K k=r at*
 obtain⟨o,out⟩:=r;simp only at*
 have A:=B.len;simp only at A;have f:∀j,(h:j<o.length)->o[j]<N:=fun j h=>B.lt _ (zF h);have m:∀j,(h:j<o.length)->∀b,b<256->∃i,i<K/\lo i<=b/\b<=hi i/\bC out j b=tgt cf o (dl o[j] i):=by
  intro j h b Y;obtain⟨i,a,x,v⟩:=H.iv.cover b Y;obtain⟨y,-,-,-,-,L⟩:=B.state j qeM;refine⟨i,a,x,v,?_⟩;rw[dW out j b zo];exact(L i a).1 b x v
 have z:∀j,(h:j<o.length)->∀i,i<K->∀t,dl o[j] i=some t->∃M:dN cf o t<o.length,cf o[dN cf o t]=cf t:=by
  intro j h i a t ht;obtain⟨y,-,-,-,-,L⟩:=B.state j qeM;have:=(L i a).2 t ht;exact⟨this,rZ this⟩
 have g:∀w,∀j,(h:j<o.length)->aK out j w=aK T o[j] w:=by
  intro w
  induction w with
  |nil=>
   intro j h;obtain⟨y,v,-⟩:=B.state j qeM;simp only[aK];rw[fJ out j zo]
   exact v.trans (H.acc _ (f j h))
  |cons b w ih=>
   intro j h;simp only[aK];obtain⟨i,a,x,v,e⟩:=m j h b.toNat b.toNat_lt;rw[e]
   cases hd:dl o[j] i with
   |none=>
    rw[H.none _ i (f j h) a hd _ x v w]
    exact dQ (by simp[tgt]) w
   |some t=>
    obtain⟨M,X⟩:=z j h i a t hd;have n:=H.some _ i t (f j h) a hd;show aK out (dN cf o t:Nat) w=_;rw[ih _ M,n.2.2 _ x v w];exact(H.bK _ _ (f _ M) n.1).1 X w
 have W:=B.first;simp only at W;have h0:0<o.length:=by
  cases o with
  |nil=>simp at W
  |cons _ _=>simp
 have O:o[0]=0:=by
  obtain⟨h,e⟩:=yB.1 W;exact e
 have F:∀j,(h:j<o.length)->∃w,aK T o[j] w=true:=by
  intro j h;by_cases c:j=0
  .subst c;simp only[O];exact H.live
  .obtain⟨d,I,P,i,a,t,ht,l⟩:=B.reach j zo h;have q:d<o.length:=zo;have ht:dl o[d] i=some t:=by simpa [q]using ht
   obtain⟨M,X⟩:=z d q i a t ht;have n:=H.some _ i t (f d q) a ht;obtain⟨w,S⟩:=n.2.1;have l:dN cf o t=j:=l;refine⟨w,?_⟩;rw[<-S];subst l;exact(H.bK _ _ (f _ M) n.1).1 X w
 refine⟨⟨?_,?_,?_,?_,?_,?_,?_⟩,?_⟩
 .intro s n;obtain⟨j,J,rfl⟩:=yT.1 n;obtain⟨y,-,R,-⟩:=B.state j J;show bP out.length _ _;have R:bP o.length (-1) out[j].aH:=R
  rwa [A,<-Q]
 .intro s n;obtain⟨j,J,rfl⟩:=yT.1 n;obtain⟨y,-,-,h4,-⟩:=B.state j J;exact h4
 .intro s n;obtain⟨j,J,rfl⟩:=yT.1 n;obtain⟨y,-,-,-,h5,-⟩:=B.state j J;exact h5
 .intro j J;obtain⟨w,S⟩:=F j zo;exact⟨w,(g w j zo).trans S⟩
 .intro i j a J l;refine Zv B.MO (show i<o.length by omega) (show j<o.length by omega) ?_;refine(H.bK _ _ (f _ _) (f _ _)).2 fun w=>?_;rw[<-g w i zo,<-g w j zo,l w]
 .intro j b t Y ht p x v;by_cases c:j<o.length
  .obtain⟨i,a,b1,b2,e⟩:=m j c b Y;rw[ht]at e
   cases hd:dl o[j] i with
   |none=>rw[hd]at e;simp[tgt]at e
   |some u=>
    rw[hd]at e;have e:t=dN cf o u:=by simp only[tgt]at e;omega
    obtain⟨d,D,V,C,Z,E,l⟩:=B.seen j zo i a u (by simpa [c]using hd) p x (by show p<dN cf o u;omega);have I:d<o.length:=zo;have E:dl o[d] D=some Z:=by simpa [I]using E
    have l:dN cf o Z=p:=l;have G:=H.iv.le D C;obtain⟨y,-,-,-,-,L⟩:=B.state d (by show d<out.length;omega);refine⟨d,lo D,zo,?_,?_⟩
    .rcases V with h|⟨h,y⟩
     .exact .inl h
     .refine .inr ⟨h,?_⟩;have:=H.iv.sep D i y a;omega
    .rw[dW out d _ zo];have:=(L D C).1 (lo D) (zI _) G.1;refine this.trans ?_;show tgt cf o (dl o[d] D)=_;rw[E];simp[tgt,l]
  .rw[fB out j b zo]at ht;omega
 .intro t x v;obtain⟨d,I,P,i,a,u,U,l⟩:=B.reach t x (by show t<o.length;omega);have q:d<o.length:=zo;have U:dl o[d] i=some u:=by simpa [q]using U
  have l:dN cf o u=t:=l;have G:=H.iv.le i a;obtain⟨y,-,-,-,-,L⟩:=B.state d (by show d<out.length;omega);refine⟨d,lo i,P,zo,?_⟩;rw[dW out d _ zo];have:=(L i a).1 (lo i) (zI _) G.1;refine this.trans ?_;show tgt cf o (dl o[d] i)=_;rw[U];simp[tgt,l]
 .intro w;have:=g w 0 h0;rw[O]at this;exact this
end Cl
namespace Cl
theorem lq{α:Type}[DecidableEq α]:∀(l b:List α),l.Nodup->(∀x∈l,x∈b)->l.length<=b.length:=by
 intro l
 induction l with
 |nil=>intro b _ _;simp
 |cons a l ih=>
  intro b c d;have c:=List.nodup_cons.1 c;have f:a∈b:=d a zS;have:=ih (b.erase a) c.2 fun x hx=>(List.mem_erase_of_ne (fun e=>c.1 (by rw[<-e];exact hx))).2 (d x qel);have h:=List.length_erase_of_mem f;have g:=List.length_pos_of_mem f;exact qdC
theorem SN{a b:Nat}(f:Nat->Nat)(h:∀v,v<a->∃u,u<b/\f u=v):a<=b:=by
 have:=lq (List.range a) ((List.range b).map f) List.nodup_range (fun x c=>by
  obtain⟨u,d,e⟩:=h x (yQ.1 c);exact yD.2 ⟨u,yQ.2 d,e⟩)
 exact qa5
theorem M9{a:Nat}(f:Nat->Nat)(h:∀v,v<a->∃u,u<a/\f u=v){i j:Nat}(hi:i<a)(l:j<a)(e:f i=f j):i=j:=by
 apply zP;intro b;have:=lq (List.range a) (((List.range a).erase j).map f) List.nodup_range (fun x g=>by
  obtain⟨u,k,d⟩:=h x (yQ.1 g);by_cases c:u=j
  .subst c;exact yD.2 ⟨i,(List.mem_erase_of_ne b).2 (yQ.2 hi),by rw[e];exact d⟩
  .exact yD.2 ⟨u,(List.mem_erase_of_ne c).2 (yQ.2 k),d⟩)
 rw[xC,List.length_erase_of_mem (yQ.2 l),List.length_range]at this;omega
theorem JU{α:Type}:∀{l:List α},l.Nodup->∀{i j:Nat} (hi:i<l.length) (a:j<l.length),l[i]=l[j]->i=j:=by
 intro l b i j hi a e;have:=List.pairwise_iff_getElem.1 b;rcases Nat.lt_trichotomy i j with c|c|c
 .exact absurd e (this i j hi a c)
 .exact c
 .exact absurd e.symm (this j i a hi c)
def fq(f:Nat->List Int):Nat->List (List Int)×List Int
 |0=>([],[])
 |k+1=>(if(fq f k).1.findIdx (·==f k)<(fq f k).1.length then(fq f k).1 else(fq f k).1++[f k],(fq f k).2++[((fq f k).1.findIdx (·==f k):Int)])
structure Be (f:Nat->List Int) (k:Nat) (r:List (List Int)×List Int):Prop where
 nodup:r.1.Nodup
 len:r.2.length=k
 le:r.1.length<=k
 at_:∀s,s<k->∃p:Nat,r.2[s]?=some (p:Int)/\r.1[p]?=some (f s)
 from_:∀p,(h:p<r.1.length)->∃s,s<k/\f s=r.1[p]
theorem LM(f:Nat->List Int):∀k,Be f k (fq f k):=by
 intro k
 induction k with
 |zero=>exact⟨by simp[fq],rfl,by simp[fq],fun s h=>zo,fun p h=>by simp[fq]at h⟩
 |succ k ih=>
  have e:fq f (k+1)=(if(fq f k).1.findIdx (·==f k)<(fq f k).1.length then(fq f k).1 else(fq f k).1++[f k],(fq f k).2++[((fq f k).1.findIdx (·==f k):Int)]):=rfl;rw[e];generalize fq f k=r at*
  have q:r.1.findIdx (·==f k)<=r.1.length:=List.findIdx_le_length;have g:=ih.len;by_cases c:r.1.findIdx (·==f k)<r.1.length
  .rw[zK c];have t:r.1[r.1.findIdx (·==f k)]=f k:=by
    have:=List.findIdx_getElem (p:=(·==f k)) (w:=c);exact qa5
   refine⟨ih.nodup,by simp[g],by have:=ih.le;simp;omega,fun s n=>?_,fun p h=>?_⟩
   .by_cases d:s<k
    .obtain⟨p,l,i⟩:=ih.at_ s d;exact⟨p,by rw[yK zo];exact l,i⟩
    .have:s=k:=zo;subst this;exact⟨r.1.findIdx (·==f s),by rw[yN zo];simp[g],by simp[c,t]⟩
   .obtain⟨s,l,i⟩:=ih.from_ p h;exact⟨s,zo,i⟩
  .rw[zJ c];have j:f k ∉ r.1:=fun o=>c (List.findIdx_lt_length.2 ⟨f k,o,zS⟩);refine⟨?_,by simp[g],by have:=ih.le;simp;omega,fun s n=>?_,fun p h=>?_⟩
   .exact List.nodup_append.2 ⟨ih.nodup,zS,fun a u b m=>by
     simp only[zZ]at m;subst m;exact fun e=>j (e ▸ u)⟩
   .by_cases d:s<k
    .obtain⟨p,l,i⟩:=ih.at_ s d;refine⟨p,by show(r.2++_)[s]?=_;rw[yK zo];exact l,?_⟩;have:p<r.1.length:=(yB.1 i).1;show(r.1++[f k])[p]?=_;rw[yK this];exact i
    .have:s=k:=zo;subst this;refine⟨r.1.length,?_,zS⟩;show(r.2++_)[s]?=_;rw[yN zo];simp[g];omega
   .by_cases d:p<r.1.length
    .obtain⟨s,l,i⟩:=ih.from_ p d;exact⟨s,zo,by show _=(r.1++[f k])[p];rw[xM d];exact i⟩
    .have v:p<(r.1++[f k]).length:=h;have:p=r.1.length:=by simp at v;omega
     subst this;exact⟨k,zo,by show _=(r.1++[f k])[r.1.length];simp⟩
theorem Be.G5{f:Nat->List Int}{k:Nat}{r:List (List Int)×List Int}(h:Be f k r){s t:Nat}(j:s<k)(ht:t<k):r.2.getD s 0=r.2.getD t 0↔f s=f t:=by
 obtain⟨p,m,b⟩:=h.at_ s j;obtain⟨q,l,a⟩:=h.at_ t ht;simp only[yU,m,l,xA];refine⟨fun e=>?_,fun e=>?_⟩
 .have:p=q:=zo;subst this;rw[b]at a;simpa using a
 .obtain⟨i,g⟩:=yB.1 b;obtain⟨d,c⟩:=yB.1 a;have:=JU h.nodup i d (by rw[g,c,e]);omega
theorem Be.ik{f:Nat->List Int}{k:Nat}{r:List (List Int)×List Int}(h:Be f k r){s:Nat}(a:s<k):0<=r.2.getD s 0/\r.2.getD s 0<r.1.length:=by
 obtain⟨p,c,b⟩:=h.at_ s a;simp only[yU,c,xA];have:=(yB.1 b).1;omega
theorem Be.bzJ{f:Nat->List Int}{k:Nat}{r:List (List Int)×List Int}(h:Be f k r){v:Nat}(a:v<r.1.length):∃s,s<k/\r.2.getD s 0=v:=by
 obtain⟨s,b,e⟩:=h.from_ v a;refine⟨s,b,?_⟩;obtain⟨p,i,g⟩:=h.at_ s b;obtain⟨d,c⟩:=yB.1 g;have:=JU h.nodup d a (by rw[c,e]);simp[i,this]
def qY(bK:List Int)(x:Int):Int:=if x<0 then x else bK.getD x.toNat 0
def sig(bK:List Int)(a:Nat->Nat->Int)(K:Nat)(s:Nat):List Int:=bK.getD s 0::(List.range K).map fun i=>qY bK (a s i)
structure Ev (T:aC) (N:Nat) (lo hi:Nat->Nat) (K:Nat) (ta:Nat->Nat->Int):Prop where
 iv:Ivs lo hi K
 ik:∀s i,s<N->i<K -> -1<=ta s i/\ta s i<N
 step:∀s i,s<N->i<K->∀b,lo i<=b->b<=hi i->∀w,aK T (bC T s b) w=aK T (ta s i) w
 neg:∀s t i,s<N->t<N->i<K->ta s i = -1->(∀w,aK T (ta t i) w=false)->ta t i = -1
def NEq(T:aC)(s t:Nat):Prop:=∀w,aK T s w=aK T t w
structure sN (T:aC) (N:Nat) (bK:List Int):Prop where
 len:bK.length=N
 ik:∀x∈bK,0<=x/\x<N
 eq:∀s t,s<N->t<N->(bK.getD s 0=bK.getD t 0↔NEq T s t)
structure wS (T:aC) (N:Nat) (bK:List Int) (many:Nat):Prop where
 len:bK.length=N
 ik:∀s,s<N->0<=bK.getD s 0/\bK.getD s 0<=N
 coarse:∀s t,s<N->t<N->NEq T s t->bK.getD s 0=bK.getD t 0
 acc:∀s t,s<N->t<N->bK.getD s 0=bK.getD t 0->bB T s=bB T t
 cnt:many=0\/(∀s,s<N->bK.getD s 0<many)/\∀v,v<many->∃s,s<N/\bK.getD s 0=v
theorem JL{T:aC}{N:Nat}{bK:List Int}(d:1<=N)(c:bK.length=N)(h:∀s,s<N->bK.getD s 0=if bB T s=true then 1 else 0):wS T N bK 0:=by
 refine⟨c,fun s a=>?_,fun s t a ht b=>?_,fun s t a ht b=>?_,.inl rfl⟩
 .rw[h s a];split<;>omega
 .rw[h s a,h t ht];have:=b [];simp only[aK]at this;rw[this]
 .rw[h s a,h t ht]at b;cases h1:bB T s<;>cases h2:bB T t<;>simp[h1,h2]at b⊢
theorem azQ{T:aC}{N:Nat}{lo hi:Nat->Nat}{K:Nat}{c:Nat->Nat->Int}(H:Ev T N lo hi K c){s t i:Nat}(d:s<N)(ht:t<N)(a:i<K)(e:NEq T s t):
 ∀w,aK T (c s i) w=aK T (c t i) w:=by
 have b:=H.iv.le i a;intro w;rw[<-H.step s i d a (lo i) (zI _) b.1 w,<-H.step t i ht a (lo i) (zI _) b.1 w];exact JK e (lo i) zo w
theorem JM{T:aC}{N:Nat}{lo hi:Nat->Nat}{K:Nat}{k:Nat->Nat->Int}(H:Ev T N lo hi K k)(Y:1<=N){bK:List Int}{n:Nat}(E:wS T N bK n):
 wS T N (fq (sig bK k K) N).2 (fq (sig bK k K) N).1.length/\n<=(fq (sig bK k K) N).1.length/\(fq (sig bK k K) N).1.length<=N/\1<=(fq (sig bK k K) N).1.length /\
  ((fq (sig bK k K) N).1.length=n->sN T N (fq (sig bK k K) N).2):=by
 have m:=LM (sig bK k K) N;generalize fq (sig bK k K) N=r at*
 have q:∀s t,s<N->t<N->NEq T s t->sig bK k K s=sig bK k K t:=by
  intro s t a ht A;unfold sig;rw[E.coarse s t a ht A]
  congr 1
  apply xZ;intro i f;have f:=yQ.1 f;have o:=azQ H a ht f A;have U:=H.ik s i a f;have S:=H.ik t i ht f;unfold qY;by_cases c:k s i<0
  .have B:k s i = -1:=zo;have:=H.neg s t i a ht f B (fun w=>by rw[<-o w,B];exact dQ zo w);rw[B,this]
  .by_cases d:k t i<0
   .have B:k t i = -1:=zo;have:=H.neg t s i ht a f B (fun w=>by rw[o w,B];exact dQ zo w);omega
   .rw[zJ c,zJ d];obtain⟨x,G⟩:=zT (by omega:0<=k s i);obtain⟨y,L⟩:=zT (by omega:0<=k t i);rw[G,L]at o⊢;exact E.coarse x y zo zo o
 have p:∀s t,s<N->t<N->r.2.getD s 0=r.2.getD t 0->bK.getD s 0=bK.getD t 0/\∀i,i<K->qY bK (k s i)=qY bK (k t i):=by
  intro s t a ht e;have e:=(m.G5 a ht).1 e;unfold sig at e;injection e with B R;refine⟨B,fun i f=>?_⟩;have:=congrArg (fun l=>l[i]?) R;simpa [f]using this
 have z:n<=r.1.length/\(r.1.length=n->∀s t,s<N->t<N->bK.getD s 0=bK.getD t 0->r.2.getD s 0=r.2.getD t 0):=by
  rcases E.cnt with Z|⟨Q,X⟩
  .refine⟨zo,fun e=>?_⟩;have:=(m.ik (s:=0) zo).2;have:=(m.ik (s:=0) zo).1;omega
  ·
   let g:Nat->Nat:=fun u=>if h:∃s,s<N/\r.2.getD s 0=u then(bK.getD h.choose 0).toNat else 0;have P:∀s,s<N->g (r.2.getD s 0).toNat=(bK.getD s 0).toNat:=by
    intro s a;have J:∃F,F<N/\r.2.getD F 0=((r.2.getD s 0).toNat:Int):=⟨s,a,by have:=(m.ik a).1;omega⟩;show(if h:∃F,F<N/\r.2.getD F 0=((r.2.getD s 0).toNat:Int)then(bK.getD h.choose 0).toNat else 0)=_;rw[dif_pos J];have C:=J.choose_spec;have:=(p _ s C.1 a (by rw[C.2];have:=(m.ik a).1;omega)).1;rw[this]
   have a:∀v,v<n->∃u,u<r.1.length/\g u=v:=by
    intro v M;obtain⟨s,a,e⟩:=X v M;have:=m.ik a;exact⟨(r.2.getD s 0).toNat,zo,by rw[P s a,e];simp⟩
   refine⟨SN g a,fun e s t I o A=>?_⟩;rw[<-e]at a;have U:=m.ik I;have S:=m.ik o;have:=M9 g a (i:=(r.2.getD s 0).toNat) (j:=(r.2.getD t 0).toNat) zo zo (by rw[P s I,P t o,A]);omega
 have D:∀s t,s<N->t<N->r.2.getD s 0=r.2.getD t 0->bB T s=bB T t:=fun s t a ht e=>E.acc s t a ht (p s t a ht e).1;refine⟨⟨m.len,fun s a=>by have:=m.ik a;have:=m.le;omega,fun s t a ht A=>(m.G5 a ht).2 (q s t a ht A),D,.inr ⟨fun s a=>(m.ik a).2,fun v M=>m.bzJ M⟩⟩,z.1,m.le,?_,fun e=>?_⟩
 .have:=m.ik (s:=0) zo;omega
 .have O:=z.2 e;refine⟨m.len,fun x G=>?_,fun s t a ht=>⟨fun A=>?_,fun A=>(m.G5 a ht).2 (q s t a ht A)⟩⟩
  .obtain⟨s,Q,rfl⟩:=yT.1 G;have:=m.ik (s:=s) (by rw[<-m.len];exact Q);have:=m.le;simp only[yU,Q,yH,xA]at*
   omega
  .intro w
   induction w generalizing s t with
   |nil=>simp only[aK];exact D s t a ht A
   |cons b w ih=>
    simp only[aK];obtain⟨i,f,W,V⟩:=H.iv.cover b.toNat b.toNat_lt;rw[H.step s i a f _ W V w,H.step t i ht f _ W V w];have U:=H.ik s i a f;have S:=H.ik t i ht f;have C:=(p s t a ht A).2 i f;unfold qY at C;by_cases c:k s i<0
    .by_cases d:k t i<0
     .have B:k s i = -1:=zo;have R:k t i = -1:=zo;rw[B,R]
     .rw[zK c,zJ d]at C;have:=(E.ik (k t i).toNat zo).1;omega
    .by_cases d:k t i<0
     .rw[zJ c,zK d]at C;have:=(E.ik (k s i).toNat zo).1;omega
     .rw[zJ c,zJ d]at C;obtain⟨x,G⟩:=zT (by omega:0<=k s i);obtain⟨y,L⟩:=zT (by omega:0<=k t i);rw[G,L]at C⊢;exact ih x y zo zo (O x y zo zo C)
end Cl
namespace Cl
theorem mM:dG []:=
 ⟨fun s a=>by simp at a,fun s a=>by simp at a,fun s a=>by simp at a,fun k c=>by simp at c,fun i j hi=>by simp at hi,fun k b t e ht=>by
  rw[fB [] k b zS]at ht;omega,fun t f d=>by simp at d⟩
theorem gK(x:List UInt8):aK [] 0 x=false:=iP [] 0 x zS
def lex:List UInt8->List UInt8->Prop
 |[],[]=>False
 |[],_::_=>True
 |_::_,[]=>False
 |a::u,b::v=>a<b\/a=b/\lex u v
def vO(u v:List UInt8):Prop:=u.length<v.length\/u.length=v.length/\lex u v
theorem Gr:∀u:List UInt8,¬lex u u
 |[],h=>h
 |_::u,h=>h.elim (fun h=>by simp at h) (fun h=>Gr u h.2)
theorem WO{a b c:UInt8}(h:a<b)(k:b<c):a<c:=UInt8.lt_trans h k
theorem JY:∀{u v x:List UInt8},lex u v->lex v x->lex u x
 |[],[],_,h,_=>h.elim
 |[],_::_,[],_,k=>k.elim
 |[],_::_,_::_,_,_=>trivial
 |_::_,[],_,h,_=>h.elim
 |_::_,_::_,[],_,k=>k.elim
 |a::u,b::v,c::x,h,k=>by
  rcases h with h|⟨rfl,h⟩
  .rcases k with k|⟨rfl,k⟩
   .exact .inl (WO h k)
   .exact .inl h
  .rcases k with k|⟨rfl,k⟩
   .exact .inl k
   .exact .inr ⟨rfl,JY h k⟩
theorem JZ:∀u v:List UInt8,lex u v\/u=v\/lex v u
 |[],[]=>.inr (.inl rfl)
 |[],_::_=>.inl trivial
 |_::_,[]=>.inr (.inr trivial)
 |a::u,b::v=>by
  rcases Nat.lt_trichotomy a.toNat b.toNat with h|h|h
  .exact .inl (.inl (UInt8.lt_iff_toNat_lt.2 h))
  .obtain rfl:a=b:=UInt8.toNat_inj.1 h;rcases JZ u v with h|h|h
   .exact .inl (.inr ⟨rfl,h⟩)
   .exact .inr (.inl qe0)
   .exact .inr (.inr (.inr ⟨rfl,h⟩))
  .exact .inr (.inr (.inl (UInt8.lt_iff_toNat_lt.2 h)))
theorem kr(u:List UInt8):¬vO u u:=fun h=>h.elim (fun h=>zo) (fun h=>Gr u h.2)
theorem pK{u v x:List UInt8}(h:vO u v)(k:vO v x):vO u x:=by
 rcases h with h|⟨h,b⟩<;>rcases k with k|⟨k,a⟩
 .exact .inl zo
 .exact .inl zo
 .exact .inl zo
 .exact .inr ⟨zo,JY b a⟩
theorem pM(u v:List UInt8):vO u v\/u=v\/vO v u:=by
 rcases Nat.lt_trichotomy u.length v.length with h|h|h
 .exact qcK
 .rcases JZ u v with k|k|k
  .exact .inl (.inr ⟨h,k⟩)
  .exact .inr (.inl k)
  .exact .inr (.inr (.inr ⟨h.symm,k⟩))
 .exact .inr (.inr (.inl h))
theorem rR{u v:List UInt8}(h:vO u v)(k:vO v u):False:=kr u (pK h k)
structure iV (f:List UInt8->Bool) (k:Nat) (r:List (List UInt8)):Prop where
 sorted:r.Pairwise vO
 mem:∀x∈r,f x=true
 le:r.length<=k
 rest:∀y,f y=true->y ∉ r->r.length=k/\∀x∈r,vO x y
theorem azF{a b:List UInt8}(h:vO a b):a≠b:=fun e=>kr a (by rw[<-e]at h;exact h)
theorem Bu{r:List (List UInt8)}(h:r.Pairwise vO):r.Nodup:=h.imp azF
theorem FH:∀{r t:List (List UInt8)},r.Pairwise vO->t.Pairwise vO->(∀x,x∈r↔x∈t)->r=t
 |[],[],_,_,_=>rfl
 |[],b::t,_,_,h=>absurd ((h b).2 zS) zS
 |a::r,[],_,_,h=>absurd ((h a).1 zS) zS
 |a::r,b::t,h1,h2,h=>by
  have g:=yS.1 h1;have f:=yS.1 h2;have e:a=b:=by
   rcases yA.1 ((h a).1 zS)with c|c
   .exact c
   .rcases yA.1 ((h b).2 zS)with i|i
    .exact i.symm
    .exact(rR (f.1 a c) (g.1 b i)).elim
  subst e;rw[FH g.2 f.2 fun x=>?_];constructor
  .intro d;rcases yA.1 ((h x).1 (zU _ d))with c|c
   .subst c;exact(kr _ (g.1 _ d)).elim
   .exact c
  .intro d;rcases yA.1 ((h x).2 (zU _ d))with c|c
   .subst c;exact(kr _ (f.1 _ d)).elim
   .exact c
theorem Kh{f:List UInt8->Bool}{k:Nat}{r t:List (List UInt8)}(h:iV f k r)(d:iV f k t):∀x∈r,x∈t:=by
 intro x c;apply zP;intro e;obtain⟨m,l⟩:=d.rest x (h.mem x c) e;have b:∀y∈t,y∈r:=by
  intro y a;apply zP;intro g;obtain⟨-,j⟩:=h.rest y (d.mem y a) g;exact rR (j x c) (l y a)
 have i:=lq (x::t) r (List.nodup_cons.2 ⟨e,Bu d.sorted⟩) (by
  intro y a;rcases yA.1 a with rfl|a
  .exact c
  .exact b y a)
 have:=h.le;simp only[yO]at i;omega
theorem Me{f:List UInt8->Bool}{k:Nat}{r t:List (List UInt8)}(h:iV f k r)(a:iV f k t):r=t:=
 FH h.sorted a.sorted fun x=>⟨Kh h a x,Kh a h x⟩
theorem iV.congr{f g:List UInt8->Bool}{k:Nat}{r:List (List UInt8)}(h:iV f k r)(e:∀w,f w=g w):iV g k r:=by
 exact qdg
def oQ(l:aC):Nat->Int->List (List UInt8)
 |0,s=>if bB l s then[[]]else[]
 |n+1,s=>(List.range 256).flatMap fun b=>(oQ l n (bC l s b)).map (UInt8.ofNat b::·)
theorem azh(b:UInt8):UInt8.ofNat b.toNat=b:=by simp
theorem lu(l:aC):∀(n:Nat) (s:Int) (w:List UInt8),w∈oQ l n s↔w.length=n/\aK l s w=true
 |0,s,w=>by
  unfold oQ
  cases w with
  |nil=>by_cases h:bB l s=true<;>simp[h,aK]
  |cons a w=>by_cases h:bB l s=true<;>simp[h]
 |n+1,s,w=>by
  unfold oQ;simp only[xW,yQ,yD];constructor
  .rintro⟨b,f,v,e,rfl⟩;obtain⟨c,d⟩:=(lu l n _ v).1 e;refine⟨by simp[c],?_⟩;simp only[aK];rw[show(UInt8.ofNat b).toNat=b by simp;omega];exact d
  .rintro⟨c,d⟩
   cases w with
   |nil=>simp at c
   |cons b v=>
    refine⟨b.toNat,b.toNat_lt,v,(lu l n _ v).2 ⟨by simpa using c,d⟩,by rw[azh]⟩
theorem wH{α:Type}{R:α->α->Prop}(f:Nat->List α):∀(l:List Nat),l.Pairwise (·<·)->(∀b∈l,(f b).Pairwise R)->(∀b∈l,∀c∈l,b<c->∀x∈f b,∀y∈f c,R x y)->(l.flatMap f).Pairwise R
 |[],_,_,_=>.nil
 |b::l,h,h1,h2=>by
  have k:=yS.1 h;rw[xO,List.pairwise_append];refine⟨h1 b zS,wH f l k.2 (fun c a=>h1 c (by simp[a])) (fun c a d i=>h2 c (by simp[a]) d (by simp[i])),?_⟩;intro x g y e;obtain⟨c,a,e⟩:=xW.1 e;exact h2 b zS c (by simp[a]) (k.1 c a) x g y e
theorem Aj(l:aC):∀(n:Nat) (s:Int),(oQ l n s).Pairwise vO
 |0,s=>by
  unfold oQ
  split<;>simp
 |n+1,s=>by
  unfold oQ;refine wH _ _ List.pairwise_lt_range ?_ ?_
  .intro b _;rw[List.pairwise_map];refine(Aj l n _).imp fun {u v} h=>?_;rcases h with h|⟨d,a⟩
   .exact .inl qeR
   .exact .inr ⟨by simp[d],.inr ⟨rfl,a⟩⟩
  .intro b f c e m x i y g;obtain⟨u,k,rfl⟩:=yD.1 i;obtain⟨v,j,rfl⟩:=yD.1 g;have d:=((lu l n _ u).1 k).1;have a:=((lu l n _ v).1 j).1;have f:=yQ.1 f;have e:=yQ.1 e;refine .inr ⟨by simp[d,a],.inl (UInt8.lt_iff_toNat_lt.2 ?_)⟩;simp only[UInt8.toNat_ofNat'];omega
def kC(l:aC)(s:Int)(L:Nat):List (List UInt8):=(List.range L).flatMap fun n=>oQ l n s
theorem lM(l:aC)(s:Int)(L:Nat)(w:List UInt8):w∈kC l s L↔w.length<L/\aK l s w=true:=by
 unfold kC;simp only[xW,yQ,lu];exact⟨fun⟨n,b,a,c⟩=>⟨zo,c⟩,fun⟨b,a⟩=>⟨_,b,rfl,a⟩⟩
theorem Eh(l:aC)(s:Int)(L:Nat):(kC l s L).Pairwise vO:=by
 refine wH _ _ List.pairwise_lt_range (fun b _=>Aj l b s) ?_;intro b _ c _ e x d y a;have g:=((lu l _ _ _).1 d).1;have f:=((lu l _ _ _).1 a).1;exact .inl zo
theorem Dl(l:aC)(s:Int)(L:Nat):kC l s (L+1)=kC l s L++oQ l L s:=by
 unfold kC;rw[List.range_succ,List.flatMap_append];simp
theorem uq{l:aC}{s:Int}{L k:Nat}(h:k<=(kC l s L).length\/∀y,aK l s y=true->y.length<L):iV (aK l s) k ((kC l s L).take k):=by
 have c:=Eh l s L;refine⟨c.sublist (List.take_sublist _ _),fun x a=>((lM l s L x).1 (xX a)).2,List.length_take_le _ _,?_⟩;intro y f g;by_cases d:y∈kC l s L
 .have e:y∈(kC l s L).drop k:=by
   rw[<-List.take_append_drop k (kC l s L)]at d;rcases yP.1 d with b|b
   .exact absurd b g
   .exact b
  refine⟨?_,fun x a=>?_⟩
  .rw[List.length_take];have:k<(kC l s L).length:=by
    apply zP;intro j;rw[zQ zo]at e;simp at e
   omega
  .rw[<-List.take_append_drop k (kC l s L),List.pairwise_append]at c;exact c.2.2 x a y e
 .have i:¬y.length<L:=fun b=>d ((lM l s L y).2 ⟨b,f⟩);rcases h with h|h
  .refine⟨by rw[List.length_take];omega,fun x a=>.inl ?_⟩;have:=((lM l s L x).1 (xX a)).1;omega
  .exact absurd (h y f) i
def vP(l:aC):Int->List UInt8->Int
 |s,[]=>s
 |s,b::w=>vP l (bC l s b.toNat) w
theorem oM(l:aC):∀(u v:List UInt8) (s:Int),aK l s (u++v)=aK l (vP l s u) v
 |[],_,_=>rfl
 |_::u,v,_=>oM l u v _
theorem rG{l:aC}{s:Int}{w:List UInt8}(h:aK l s w=true):0<=s/\s<l.length:=by
 constructor
 .apply zP;intro a;rw[dQ zo]at h;cases h
 .apply zP;intro a;rw[iP l s w zo]at h;cases h
theorem Fz{l:aC}{s:Int}{y:List UInt8}(h:aK l s y=true)(i:Nat):0<=vP l s (y.take i)/\vP l s (y.take i)<l.length:=by
 refine rG (w:=y.drop i) ?_;rw[<-oM,List.take_append_drop];exact h
theorem pump{l:aC}{s:Int}{y:List UInt8}(h:aK l s y=true)(m:l.length<=y.length):∃c,aK l s c=true/\c.length<y.length/\y.length<=c.length+l.length:=by
 have a:¬((List.range (l.length+1)).map fun i=>(vP l s (y.take i)).toNat).Nodup:=by
  intro a;have:=lq _ (List.range l.length) a (by
   intro x k;obtain⟨i,-,rfl⟩:=yD.1 k;have:=Fz h i;rw[yQ];omega)
  simp at this;omega
 have f:∃i j,i<j/\j<=l.length/\vP l s (y.take i)=vP l s (y.take j):=by
  apply zP;intro d;apply a;rw[List.Nodup,List.pairwise_map];refine(List.pairwise_lt_range (n:=l.length+1)).imp_of_mem fun {i j} hi g b e=>d ⟨i,j,b,?_,?_⟩
  .have:=yQ.1 g;omega
  .have p:=Fz h i;have o:=Fz h j;omega
 obtain⟨i,j,b,g,e⟩:=f;refine⟨y.take i++y.drop j,?_,?_,?_⟩
 .rw[oM,e,<-oM,List.take_append_drop];exact h
 .simp;omega
 .simp;omega
theorem window{l:aC}{s:Int}(t:Nat):∀(N:Nat) (y:List UInt8),y.length<=N->aK l s y=true->t<=y.length->∃a,aK l s a=true/\t<=a.length/\a.length<t+l.length
 |0,y,hN,h,ht=>⟨y,h,ht,by have:=rG h;omega⟩
 |N+1,y,hN,h,ht=>by
  by_cases b:y.length<t+l.length
  .exact⟨y,h,ht,b⟩
  .obtain⟨a,c,e,d⟩:=pump h zo;exact window t N a zo c zo
theorem Kk{l:aC}{s:Int}{L L':Nat}(h:L<=L'):(kC l s L).length<=(kC l s L').length:=by
 induction h with
 |refl=>exact zI _
 |step _ ih=>rw[Dl,zL];omega
theorem Dm{l:aC}{s:Int}{y:List UInt8}(h:aK l s y=true):∀c,c*l.length<=y.length->c<=(kC l s (c*l.length)).length
 |0,_=>zG _
 |c+1,hc=>by
  have e:(c+1)*l.length=c*l.length+l.length:=Nat.succ_mul _ _;have k:=Dm h c zo;obtain⟨a,i,n,m⟩:=window (c*l.length) _ y (zI _) h zo;have g:a∈kC l s ((c+1)*l.length):=(lM _ _ _ _).2 ⟨zo,i⟩;have f:a ∉ kC l s (c*l.length):=fun d=>by have:=((lM _ _ _ _).1 d).1;omega
  have:=lq (a::kC l s (c*l.length)) (kC l s ((c+1)*l.length)) (List.nodup_cons.2 ⟨f,Bu (Eh _ _ _)⟩) (by
   intro x b;rcases yA.1 b with rfl|b
   .exact g
   .obtain⟨o,j⟩:=(lM _ _ _ _).1 b;exact(lM _ _ _ _).2 ⟨zo,j⟩)
  simp only[yO]at this;omega
theorem GU{l:aC}{s:Int}{k L:Nat}(b:k*l.length<=L):iV (aK l s) k ((kC l s L).take k):=by
 apply uq;by_cases h:∃y,aK l s y=true/\L<=y.length
 .obtain⟨y,d,f⟩:=h;have c:=Dm d k zo;exact .inl (yJ c (Kk b))
 .exact .inr fun y a=>by
   apply zP;intro e;exact h ⟨y,a,zo⟩
end Cl
namespace Cl
def ji(f:List UInt8->Bool):Option (List UInt8)->Prop
 |none=>∀y,f y=false
 |some x=>f x=true/\∀y,f y=true->y=x\/vO x y
theorem D9{f:List UInt8->Bool}{r:List (List UInt8)}(h:iV f 1 r):ji f r.head?:=by
 cases r with
 |nil=>
  intro y
  cases a:f y with
  |false=>rfl
  |true=>have:=(h.rest y a zS).1;simp at this
 |cons x r=>
  refine⟨h.mem x zS,fun y a=>?_⟩;by_cases b:y∈x::r
  .have:=h.le;simp only[yO]at this;have c:r=[]:=yM zo;subst c;exact .inl (by simpa using b)
  .exact .inr ((h.rest y a b).2 x zS)
theorem ji.congr{f g:List UInt8->Bool}{a:Option (List UInt8)}(h:ji f a)(e:∀w,f w=g w):ji g a:=by
 exact qdg
inductive fC (f g:List UInt8->Bool):Int->Prop where
 |same (h:∀w,f w=g w):fC f g 0
 |lt (x:List UInt8) (h1:f x=true) (h2:g x=false) (h3:∀y,vO y x->f y=g y):fC f g (-1)
 |gt (x:List UInt8) (h1:f x=false) (h2:g x=true) (h3:∀y,vO y x->f y=g y):fC f g 1
theorem nS{f g:List UInt8->Bool}{c d:Int}(h:fC f g c)(k:fC f g d):c=d:=by
 cases h with
 |same h=>
  cases k with
  |same=>rfl
  |lt x a b _=>rw[h x,b]at a;cases a
  |gt x a b _=>rw[h x,b]at a;cases a
 |lt x a b e=>
  cases k with
  |same h=>rw[h x,b]at a;cases a
  |lt=>rfl
  |gt y a' b' e'=>
   rcases pM x y with q|q|q
   .have:=e' x q;rw[a,b]at this;cases this
   .subst q;rw[a]at a';cases a'
   .have:=e y q;rw[a',b']at this;cases this
 |gt x a b e=>
  cases k with
  |same h=>rw[h x,b]at a;cases a
  |gt=>rfl
  |lt y a' b' e'=>
   rcases pM x y with q|q|q
   .have:=e' x q;rw[a,b]at this;cases this
   .subst q;rw[a]at a';cases a'
   .have:=e y q;rw[a',b']at this;cases this
theorem fC.au{f g:List UInt8->Bool}{c:Int}(h:fC f g c):fC g f (-c):=by
 cases h with
 |same h=>exact .same fun w=>(h w).symm
 |lt x a b e=>exact .gt x b a fun y d=>(e y d).symm
 |gt x a b e=>exact .lt x b a fun y d=>(e y d).symm
theorem fC.refl(f:List UInt8->Bool):fC f f 0:=.same fun _=>rfl
theorem fC.zero{f g:List UInt8->Bool}{c:Int}(h:fC f g c):c=0↔∀w,f w=g w:=by
 constructor
 .rintro rfl
  cases h with
  |same h=>exact h
 .intro e;exact nS h (.same e)
theorem fC.range{f g:List UInt8->Bool}{c:Int}(h:fC f g c): -1<=c/\c<=1:=by cases h<;>omega
theorem Mt{f g k:List UInt8->Bool}(h:fC f g (-1))(d:fC g k (-1)):fC f k (-1):=by
 cases h with
 |lt x a b e=>
  cases d with
  |lt y a' b' e'=>
   rcases pM x y with q|q|q
   .exact .lt x a (by rw[<-e' x q];exact b) fun z c=>(e z c).trans (e' z (pK c q))
   .subst q;rw[b]at a';cases a'
   .exact .lt y (by rw[e y q];exact a') b' fun z c=>(e z (pK c q)).trans (e' z c)
theorem fC.congr{f g b a:List UInt8->Bool}{c:Int}(h:fC f g c)(e:∀w,f w=b w)(j:∀w,g w=a w):fC b a c:=by
 have i:f=b:=funext e;have d:g=a:=funext j;rw[<-i,<-d];exact h
theorem VQ{f g k:List UInt8->Bool}{x y z:Int}(b:fC f g x)(a:fC g k y)(d:fC f k z)(n:x<=0)(m:y<=0):z<=0/\(z=0↔x=0/\y=0):=by
 have l:=b.range;have j:=a.range;by_cases i:x=0
 .have e:=b.zero.1 i;have c:=a.congr (fun w=>(e w).symm) (fun _=>rfl);have:=nS d c;omega
 .obtain rfl:x = -1:=zo;by_cases h:y=0
  .have e:=a.zero.1 h;have c:=b.congr (fun _=>rfl) e;have:=nS d c;omega
  .obtain rfl:y = -1:=zo;have:=nS d (Mt b a);omega
theorem Cf{f g:List UInt8->Bool}{a b:Option (List UInt8)}(h:ji (fun w=>f w && !g w) a)(k:ji (fun w=>g w && !f w) b):
 match a,b with
 |none,none=>fC f g 0
 |some _,none=>fC f g (-1)
 |none,some _=>fC f g 1
 |some x,some y=>x≠y/\(vO x y->fC f g (-1))/\(vO y x->fC f g 1):=by
 have s:(∀y,(f y && !g y)=false)->∀y,f y=true->g y=true:=fun h y j=>by have:=h y;simpa [j]using this
 have r:(∀y,(g y && !f y)=false)->∀y,g y=true->f y=true:=fun h y j=>by have:=h y;simpa [j]using this
 have lo:∀x,(∀y,(f y && !g y)=true->y=x\/vO x y)->∀y,vO y x->f y=true->g y=true:=fun x n y j o=>by
  cases hg:g y with
  |true=>rfl
  |false=>
   rcases n y (by simp[o,hg])with e|e
   .subst e;exact(kr _ j).elim
   .exact(rR j e).elim
 have l:∀x,(∀y,(g y && !f y)=true->y=x\/vO x y)->∀y,vO y x->g y=true->f y=true:=fun x n y j o=>by
  cases hg:f y with
  |true=>rfl
  |false=>
   rcases n y (by simp[o,hg])with e|e
   .subst e;exact(kr _ j).elim
   .exact(rR j e).elim
 have c:∀{p q:Bool},(p=true->q=true)->(q=true->p=true)->p=q:=fun {p q} a b=>by cases p<;>cases q<;>simp_all
 cases a with
 |none=>
  cases b with
  |none=>exact .same fun w=>c (s h w) (r k w)
  |some y=>
   have d:=k.1;simp only[xG,Bool.not_eq_true']at d
   exact .gt y d.2 d.1 fun z i=>c (s h z) (l y k.2 z i)
 |some x=>
  have d:=h.1;simp only[xG,Bool.not_eq_true']at d
  cases b with
  |none=>exact .lt x d.1 d.2 fun z i=>c (lo x h.2 z i) (r k z)
  |some y=>
   have m:=k.1;simp only[xG,Bool.not_eq_true']at m;refine⟨fun e=>(by subst e;rw[d.2]at m;exact absurd m.1 zS),fun q=>?_,fun q=>?_⟩
   .exact .lt x d.1 d.2 fun z i=>c (lo x h.2 z i) (l y k.2 z (pK i q))
   .exact .gt y m.2 m.1 fun z i=>c (lo x h.2 z (pK i q)) (l y k.2 z i)
noncomputable def Sem(l:aC)(w:List UInt8):Bool:=tf (dG l)&&aK l 0 w
theorem mH{l:aC}(h:dG l)(w:List UInt8):Sem l w=aK l 0 w:=by simp[Sem,aO h]
structure j3 (f:List UInt8->Bool) (C:aC):Prop where
 canon:dG C
 rC:∀w,aK C 0 w=f w
theorem j3.sem{f:List UInt8->Bool}{C:aC}(h:j3 f C)(w:List UInt8):Sem C w=f w:=by rw[mH h.canon];exact h.rC w
theorem j3.congr{f g:List UInt8->Bool}{C:aC}(h:j3 f C)(e:∀w,f w=g w):j3 g C:=⟨h.canon,fun w=>(h.rC w).trans (e w)⟩
theorem Ou{f:List UInt8->Bool}{C D:aC}(h:j3 f C)(k:j3 f D):C=D:=uC h.canon k.canon fun w=>(h.rC w).trans (k.rC w).symm
theorem Xx:j3 (fun _=>false) []:=⟨mM,fun w=>gK w⟩
theorem Ec{l:aC}(h:dG l):j3 (Sem l) l:=⟨h,fun w=>(mH h w).symm⟩
end Cl
namespace Cl
inductive El where
 |gY|iF|iZ
 |num (u:Int)
 |str (x:List UInt8)
def El.rk:El->Nat|gY=>0|iF=>1|iZ=>2|num _=>3|str _=>4
def El.lt:El->El->Prop
 |num u,num v=>iB u v
 |str x,str y=>vO x y
 |a,b=>a.rk<b.rk
theorem El.lt_irrefl:∀a:El,¬a.lt a
 |gY=>by simp[El.lt]
 |iF=>by simp[El.lt]
 |iZ=>by simp[El.lt]
 |num u=>D6 u
 |str x=>kr x
theorem El.Ti{a b:El}(h:a.rk<b.rk):a.lt b:=by
 cases a<;>cases b<;>simp_all [El.lt,El.rk]
theorem El.azq{a b:El}(h:a.lt b):a.rk<=b.rk:=by
 cases a<;>cases b<;>simp_all [El.lt,El.rk]
theorem El.lt_trans{a b c:El}(h:a.lt b)(k:b.lt c):a.lt c:=by
 by_cases e:a.rk<b.rk
 .exact El.Ti (by have:=El.azq k;omega)
 .by_cases d:b.rk<c.rk
  .exact El.Ti (by have:=El.azq h;omega)
  .cases a<;>cases b<;>simp_all [El.lt,El.rk]<;>cases c<;>simp_all
   .exact l9 h k
   .exact pK h k
theorem El.Gn(a b:El):a.lt b\/a=b\/b.lt a:=by
 rcases Nat.lt_trichotomy a.rk b.rk with h|h|h
 .exact .inl (El.Ti h)
 .cases a<;>cases b<;>simp_all [El.lt,El.rk]
  .rename_i u v;by_cases e:u=v
   .exact .inr (.inl e)
   .rcases qg e with h|h
    .exact .inl h
    .exact qdD
  .exact pM _ _
 .exact .inr (.inr (El.Ti h))
def nV(p:El->Prop):Option El->Prop
 |none=>∀e,¬p e
 |some a=>p a/\∀e,p e->e=a\/a.lt e
theorem nV.congr{p q:El->Prop}{r:Option El}(h:nV p r)(e:∀a,p a↔q a):nV q r:=by
 have:p=q:=funext fun a=>propext (e a);rw[<-this];exact h
inductive mr (p q:El->Prop):Int->Prop where
 |same (h:∀a,p a↔q a):mr p q 0
 |lt (x:El) (h1:p x) (h2:¬q x) (h3:∀y,El.lt y x->(p y↔q y)):mr p q (-1)
 |gt (x:El) (h1:¬p x) (h2:q x) (h3:∀y,El.lt y x->(p y↔q y)):mr p q 1
theorem oL{p q:El->Prop}{c d:Int}(h:mr p q c)(k:mr p q d):c=d:=by
 cases h with
 |same h=>
  cases k with
  |same=>rfl
  |lt x a b _=>exact absurd ((h x).1 a) b
  |gt x a b _=>exact absurd ((h x).2 b) a
 |lt x a b e=>
  cases k with
  |same h=>exact absurd ((h x).1 a) b
  |lt=>rfl
  |gt y a' b' e'=>
   rcases El.Gn x y with o|o|o
   .exact absurd ((e' x o).1 a) b
   .subst o;exact absurd a a'
   .exact absurd ((e y o).2 b') a'
 |gt x a b e=>
  cases k with
  |same h=>exact absurd ((h x).2 b) a
  |gt=>rfl
  |lt y a' b' e'=>
   rcases El.Gn x y with o|o|o
   .exact absurd ((e' x o).2 b) a
   .subst o;exact absurd a' a
   .exact absurd ((e y o).1 a') b'
theorem mr.au{p q:El->Prop}{c:Int}(h:mr p q c):mr q p (-c):=by
 cases h with
 |same h=>exact .same fun w=>(h w).symm
 |lt x a b e=>exact .gt x b a fun y d=>(e y d).symm
 |gt x a b e=>exact .lt x b a fun y d=>(e y d).symm
theorem mr.zero{p q:El->Prop}{c:Int}(h:mr p q c):c=0↔∀a,p a↔q a:=by
 constructor
 .rintro rfl
  cases h with
  |same h=>exact h
 .exact fun e=>oL h (.same e)
theorem mr.range{p q:El->Prop}{c:Int}(h:mr p q c): -1<=c/\c<=1:=by cases h<;>omega
theorem mr.congr{p q d b:El->Prop}{c:Int}(h:mr p q c)(e:∀a,p a↔d a)(i:∀a,q a↔b a):mr d b c:=by
 have g:p=d:=funext fun a=>propext (e a);have f:q=b:=funext fun a=>propext (i a);rw[<-g,<-f];exact h
theorem Jj{p q r:El->Prop}(h:mr p q (-1))(f:mr q r (-1)):mr p r (-1):=by
 cases h with
 |lt x a b e=>
  cases f with
  |lt y a' b' e'=>
   rcases El.Gn x y with o|o|o
   .exact .lt x a (fun d=>b ((e' x o).2 d)) fun z c=>(e z c).trans (e' z (El.lt_trans c o))
   .subst o;exact absurd a' b
   .exact .lt y ((e y o).2 a') b' fun z c=>(e z (El.lt_trans c o)).trans (e' z c)
theorem Sa{p q r:El->Prop}{x y z:Int}(b:mr p q x)(a:mr q r y)(d:mr p r z)(k:x<=0)(j:y<=0):z<=0/\(z=0↔x=0/\y=0):=by
 have i:=b.range;have h:=a.range;by_cases g:x=0
 .have e:=b.zero.1 g;have c:=a.congr (fun w=>(e w).symm) (fun _=>Iff.rfl);have:=oL d c;omega
 .obtain rfl:x = -1:=zo;by_cases f:y=0
  .have e:=a.zero.1 f;have c:=b.congr (fun _=>Iff.rfl) e;have:=oL d c;omega
  .obtain rfl:y = -1:=zo;have:=oL d (Jj b a);omega
structure RS where
 gY:Bool
 iF:Bool
 iZ:Bool
 i:List bT
 f:List bT
 t:aC
def RS.ns(s:RS):NS:=dz s.i s.f
structure RS.gB (s:RS):Prop where
 ei:s.i=s.ns.i
 ef:s.f=s.ns.rf
 ct:dG s.t
def RS.has(s:RS):El->Prop
 |.gY=>s.gY=true
 |.iF=>s.iF=true
 |.iZ=>s.iZ=true
 |.num u=>s.ns.has u
 |.str x=>Sem s.t x=true
theorem RS.zu(s:RS):gM s.ns:=jf _ _
theorem Xb{r s:RS}(b:r.gB)(a:s.gB)(h:∀e,r.has e↔s.has e):r=s:=by
 have o:=h .gY;have m:=h .iF;have l:=h .iZ;have k:r.ns=s.ns:=AP r.zu s.zu fun u=>h (.num u);have j:r.t=s.t:=uC b.ct a.ct fun w=>by
  have:=h (.str w);simp only[RS.has,mH b.ct,mH a.ct]at this;exact Bool.eq_iff_iff.2 this
 have d:=b.ei;have c:=b.ef;rw[k,<-a.ei]at d;rw[k,<-a.ef]at c;obtain⟨n,f,t,i,g,T⟩:=r;obtain⟨q,y,p,v,x,z⟩:=s;simp only[RS.has]at o m l;simp only at d c j;subst d c j;rw[Bool.eq_iff_iff.2 o,Bool.eq_iff_iff.2 m,Bool.eq_iff_iff.2 l]
structure Sv (p:El->Prop) (s:RS):Prop where
 valid:s.gB
 mem:∀e,s.has e↔p e
theorem Sv.congr{p q:El->Prop}{r:RS}(h:Sv p r)(e:∀a,p a↔q a):Sv q r:=⟨h.valid,fun a=>(h.mem a).trans (e a)⟩
def fI:RS:=⟨false,false,false,[],[],[]⟩
theorem nk:fI.gB:=⟨rfl,rfl,mM⟩
theorem RP(e:El):¬fI.has e:=by
 have a:fI.ns=G8:=Y5
 cases e with
 |gY=>simp[RS.has,fI]
 |iF=>simp[RS.has,fI]
 |iZ=>simp[RS.has,fI]
 |num u=>simp only[RS.has,a];exact AZ u
 |str x=>simp only[RS.has,fI,mH mM,gK];simp
theorem VE:Sv (fun _=>False) fI:=⟨nk,fun e=>⟨RP e,False.elim⟩⟩
noncomputable def qP(s:RS):RS:=if tf s.gB=true then s else fI
theorem OL{s:RS}(h:s.gB):qP s=s:=by simp[qP,aO h]
theorem Vm{s:RS}(h:¬s.gB):qP s=fI:=by simp[qP,aA h]
theorem Q7{s:RS}(h:s.gY=true):nV s.has (some .gY):=⟨h,fun e _=>by cases e<;>simp[El.lt,El.rk]⟩
theorem Q8{s:RS}(b:s.gY=false)(h:s.iF=true):nV s.has (some .iF):=⟨h,fun e a=>by
 cases e<;>simp[El.lt,El.rk]
 simp[RS.has,b]at a⟩
theorem Q4{s:RS}(c:s.gY=false)(b:s.iF=false)(h:s.iZ=true):nV s.has (some .iZ):=⟨h,fun e a=>by
 cases e<;>simp[El.lt,El.rk]<;>simp[RS.has,c,b]at a⟩
theorem Q6{s:RS}(i:s.gY=false)(g:s.iF=false)(f:s.iZ=false){u:Int}(h:dm s.ns=some u):nV s.has (some (.num u)):=by
 obtain⟨d,c⟩:=(iT s.zu).one u h;refine⟨d,fun e a=>?_⟩
 cases e with
 |gY=>simp[RS.has,i]at a
 |iF=>simp[RS.has,g]at a
 |iZ=>simp[RS.has,f]at a
 |num v=>
  rcases c v a with rfl|b
  .exact .inl rfl
  .exact .inr b
 |str w=>exact .inr (by simp[El.lt,El.rk])
theorem Q5{s:RS}(k:s.gY=false)(j:s.iF=false)(i:s.iZ=false)(g:dm s.ns=none){r:Option (List UInt8)}(h:ji (Sem s.t) r):nV s.has (r.map .str):=by
 have d:=(iT s.zu).no g;have b:∀e,s.has e->∃w,e=.str w/\Sem s.t w=true:=fun e a=>by
  cases e with
  |gY=>simp[RS.has,k]at a
  |iF=>simp[RS.has,j]at a
  |iZ=>simp[RS.has,i]at a
  |num v=>exact absurd a (d v)
  |str w=>exact⟨w,rfl,a⟩
 cases r with
 |none=>
  intro e a;obtain⟨w,-,c⟩:=b e a;have:=h w;rw[c]at this
  cases this
 |some x=>
  refine⟨h.1,fun e a=>?_⟩;obtain⟨w,rfl,c⟩:=b e a;rcases h.2 w c with rfl|f
  .exact .inl rfl
  .exact .inr f
theorem Ib{r s:RS}(h:r.gY≠s.gY):mr r.has s.has (if r.gY then -1 else 1):=by
 cases hr:r.gY with
 |true=>
  rw[hr]at h
  exact .lt .gY hr (fun a=>h a.symm) fun y b=>by cases y<;>simp[El.lt,El.rk]at b
 |false=>
  rw[hr]at h;exact .gt .gY (fun e=>by simp[RS.has,hr]at e) (by cases a:s.gY with|true=>exact a|false=>exact absurd a.symm h) fun y b=>by cases y<;>simp[El.lt,El.rk]at b
theorem Ic{r s:RS}(d:r.gY=s.gY)(h:r.iF≠s.iF):mr r.has s.has (if r.iF then -1 else 1):=by
 have b:∀y,El.lt y .iF->(r.has y↔s.has y):=fun y c=>by cases y<;>simp[El.lt,El.rk]at c;simp[RS.has,d]
 cases hr:r.iF with
 |true=>
  rw[hr]at h
  exact .lt .iF hr (fun a=>h a.symm) b
 |false=>
  rw[hr]at h;exact .gt .iF (fun e=>by simp[RS.has,hr]at e) (by cases a:s.iF with|true=>exact a|false=>exact absurd a.symm h) b
theorem Hz{r s:RS}(f:r.gY=s.gY)(d:r.iF=s.iF)(h:r.iZ≠s.iZ):mr r.has s.has (if r.iZ then -1 else 1):=by
 have b:∀y,El.lt y .iZ->(r.has y↔s.has y):=fun y c=>by cases y<;>simp[El.lt,El.rk]at c<;>simp[RS.has,f,d]
 cases hr:r.iZ with
 |true=>
  rw[hr]at h
  exact .lt .iZ hr (fun a=>h a.symm) b
 |false=>
  rw[hr]at h;exact .gt .iZ (fun e=>by simp[RS.has,hr]at e) (by cases a:s.iZ with|true=>exact a|false=>exact absurd a.symm h) b
theorem Ia{r s:RS}(l:r.gY=s.gY)(k:r.iF=s.iF)(j:r.iZ=s.iZ)(h:lC r.ns s.ns≠0):mr r.has s.has (lC r.ns s.ns):=by
 have f:∀u,(∀v,iB v u->(r.ns.has v↔s.ns.has v))->∀y,El.lt y (.num u)->(r.has y↔s.has y):=fun u i y d=>by
  cases y with
  |gY=>simp[RS.has,l]
  |iF=>simp[RS.has,k]
  |iZ=>simp[RS.has,j]
  |num v=>exact i v d
  |str w=>simp[El.lt,El.rk]at d
 rcases R7 r.ns s.ns with e|e|e
 .rw[e];obtain⟨u,a,b,c⟩:=(Pj r.zu s.zu).1 e;exact .lt (.num u) a b (f u c)
 .exact absurd e h
 .rw[e];obtain⟨u,a,b,c⟩:=(VU r.zu s.zu).1 e;exact .gt (.num u) b a (f u fun v g=>(c v g).symm)
theorem H9{r s:RS}(o:r.gY=s.gY)(n:r.iF=s.iF)(m:r.iZ=s.iZ)(l:lC r.ns s.ns=0){c:Int}(h:fC (Sem r.t) (Sem s.t) c):mr r.has s.has c:=by
 have k:=(VT r.zu s.zu).1 l;have i:∀y,(∀w,y=.str w->Sem r.t w=Sem s.t w)->(r.has y↔s.has y):=fun y g=>by
  cases y with
  |gY=>simp[RS.has,o]
  |iF=>simp[RS.has,n]
  |iZ=>simp[RS.has,m]
  |num v=>simp[RS.has,k]
  |str w=>simp[RS.has,g w rfl]
 have f:∀x,(∀z,vO z x->Sem r.t z=Sem s.t z)->∀y,El.lt y (.str x)->(r.has y↔s.has y):=fun x j y g=>i y fun w e=>by subst e;exact j w g
 cases h with
 |same h=>exact .same fun y=>i y fun w _=>h w
 |lt x a b e=>exact .lt (.str x) a (fun d=>by simp only[RS.has]at d;rw[b]at d;cases d) (f x e)
 |gt x a b e=>exact .gt (.str x) (fun d=>by simp only[RS.has]at d;rw[a]at d;cases d) b (f x e)
end Cl
namespace Cl
def bzN:El->Dt
 |.gY=>.mk 1 0 ⟨#[]⟩ [] [] []
 |.iF=>.mk 2 0 ⟨#[]⟩ [] [] []
 |.iZ=>.mk 2 1 ⟨#[]⟩ [] [] []
 |.num u=>.mk 3 u ⟨#[]⟩ [] [] []
 |.str x=>.mk 4 0 ⟨x.toArray⟩ [] [] []
end Cl
