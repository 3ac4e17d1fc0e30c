/- Lemmas. -/
import Derived.Test.YtbbnjopkjbhpbaaGreatDoorZxT
set_option maxRecDepth 99999
set_option maxHeartbeats 9999999
namespace Cl
structure Ed where
 lo:Nat
 hi:Nat
 to:Int
structure Sn where
 bW:Bool
 bu:List Ed
abbrev aK:=List Sn
def bT(n:Nat):Int->List Ed->Prop
 |_,[]=>True
 |p,e::es=>e.lo<=e.hi/\0<=e.to/\e.to<n/\p<e.lo/\bT n e.hi es
def WF(l:aK):Prop:=∀s∈l,bT l.length (-1) s.bu
def iN(es:List Ed):Prop:=∀e∈es,e.lo<256/\e.hi<256
def Bytes(l:aK):Prop:=∀s∈l,iN s.bu
def bH:List Ed->Nat->Int
 |[],_ => -1
 |e::es,b=>if e.lo<=b/\b<=e.hi then e.to else bH es b
def cu(l:aK)(s:Int)(b:Nat):Int:=
 if s<0 then -1 else match l[s.toNat]? with
  |some st=>bH st.bu b
  |none => -1
def bL(l:aK)(s:Int):Bool:=
 if s<0 then false else match l[s.toNat]? with
  |some st=>st.bW
  |none=>false
def aH(l:aK):Int->List UInt8->Bool
 |s,[]=>bL l s
 |s,b::w=>aH l (cu l s b.toNat) w
theorem qC{l:aK}{s:Int}(h:s<0)(b:Nat):cu l s b = -1:=by simp[cu,h]
theorem gL{l:aK}{s:Int}(h:s<0)(w:List UInt8):aH l s w=false:=by
 induction w generalizing s with
 |nil=>simp[aH,bL,h]
 |cons b w ih=>simp only[aH];rw[qC h];exact ih zo
theorem iW(l:aK)(k:Nat)(b:Nat)(h:k<l.length):cu l (k:Int) b=bH (l[k]).bu b:=by
 have a:¬((k:Int)<0):=zo;simp[cu,a,h]
theorem iq(l:aK)(k:Int)(b:Nat)(h:(l.length:Int)<=k):cu l k b = -1:=by
 have c:¬(k<0):=zo;have a:l.length<=k.toNat:=zo;simp[cu,c,a]
theorem jZ(l:aK)(k:Int)(w:List UInt8)(h:(l.length:Int)<=k):aH l k w=false:=by
 cases w with
 |nil=>
  have c:¬(k<0):=zo;have a:l.length<=k.toNat:=zo
  simp[aH,bL,c,a]
 |cons b w=>simp only[aH];rw[iq _ _ _ h];exact gL zo w
theorem Fp{n:Nat}{p:Int}{es:List Ed}(h:bT n p es)(b:Nat):bH es b = -1\/(0<=bH es b/\bH es b<n):=by
 induction es generalizing p with
 |nil=>left;rfl
 |cons e es ih=>
  obtain⟨g,d,c,f,a⟩:=h;simp only[bH]
  split
  .right;exact⟨d,c⟩
  .exact ih a
theorem mY{l:aK}(h:WF l)(k:Int)(b:Nat):cu l k b = -1\/(0<=cu l k b/\cu l k b<l.length):=by
 by_cases a:k<0
 .left;exact qC a b
 .by_cases c:k<l.length
  .obtain⟨n,rfl⟩:=zT (by omega:0<=k);rw[iW l n b zo];exact Fp (h _ (zF _)) b
  .left;exact iq l k b zo
def Merged:List Ed->Prop
 |[]=>True
 |[_]=>True
 |e::f::es=>¬(e.to=f.to/\e.hi+1=f.lo)/\Merged (f::es)
structure bZ (l:aK):Prop where
 wf:WF l
 bytes:Bytes l
 Ee:∀s∈l,Merged s.bu
 live:∀k:Nat,k<l.length->∃w,aH l k w=true
 czF:∀i j:Nat,i<l.length->j<l.length->(∀w,aH l i w=aH l j w)->i=j
 seen:∀(k b t:Nat),b<256->cu l k b=t->∀t':Nat,0<t'->t'<t->∃k' b':Nat,b'<256/\(k'<k\/k'=k/\b'<b)/\cu l k' b'=t'
 reach:∀t:Nat,0<t->t<l.length->∃k b:Nat,k<t/\b<256/\cu l k b=t
theorem xz{n:Nat}{p:Int}{es:List Ed}(h:bT n p es){b:Nat}(c:(b:Int)<=p):bH es b = -1:=by
 induction es generalizing p with
 |nil=>rfl
 |cons e es ih=>
  obtain⟨i,g,f,d,a⟩:=h;simp only[bH];rw[zJ zo];exact ih a zo
theorem Od{n m:Nat}(es:List Ed):∀(fs:List Ed) (p:Int),bT n p es->bT m p fs->iN es->iN fs->Merged es->Merged fs ->
 (∀b:Nat,b<256->p<(b:Int)->bH es b=bH fs b)->es=fs:=by
 induction es with
 |nil=>
  intro fs p _ r _ l _ _ h
  cases fs with
  |nil=>rfl
  |cons f fs=>
   obtain⟨f1,f2,f3,f4,j⟩:=r;have:=h f.lo (l f zS).1 f4;simp[bH]at this
   omega
 |cons e es ih=>
  intro fs p K r C l E D h;obtain⟨w,M,U,v,u⟩:=K
  cases fs with
  |nil=>
   have:=h e.lo (C e zS).1 v;simp[bH,w]at this
   omega
  |cons f fs=>
   obtain⟨f1,f2,f3,f4,j⟩:=r;have z:iN es:=fun x hx=>C x qd4;have y:iN fs:=fun x hx=>l x qd4;have i:=(C e zS);have t:=(l f zS);have H:e.lo=f.lo:=by
    have A:=h e.lo i.1 v;have B:=h f.lo t.1 f4;simp only[bH]at A B;rw[zK ⟨zI _,w⟩]at A;rw[zK (⟨zI _,f1⟩:f.lo<=f.lo/\f.lo<=f.hi)]at B;by_cases c:e.lo<f.lo
    .rw[zJ zo,xz j zo]at A;omega
    .by_cases N:f.lo<e.lo
     .rw[zJ zo,xz u zo]at B;omega
     .omega
   have a:e.to=f.to:=by
    have A:=h e.lo i.1 v;simp only[bH]at A;rw[zK ⟨zI _,w⟩,zK zo]at A;exact A
   have next:∀{k:Nat} {g:Ed} {gs:List Ed},bT k (g.hi:Int) gs->Merged (g::gs)->0<=g.to->bH gs (g.hi+1)≠g.to:=by
    intro k g gs J G T d
    cases gs with
    |nil=>simp[bH]at d;omega
    |cons x xs=>
     obtain⟨R,Q,P,O,F⟩:=J;simp only[bH]at d;by_cases c:x.lo=g.hi+1
     .rw[zK zo]at d;exact G.1 ⟨d.symm,c.symm⟩
     .rw[zJ zo,xz F zo]at d;omega
   have I:e.hi=f.hi:=by
    by_cases c:e.hi<f.hi
    .have A:=h (e.hi+1) zo zo;simp only[bH]at A;rw[zJ zo,zK zo]at A;exact absurd (A.trans a.symm) (next u E M)
    .by_cases N:f.hi<e.hi
     .have A:=h (f.hi+1) zo zo;simp only[bH]at A;rw[zK zo,zJ zo]at A;exact absurd (A.symm.trans a) (next j D f2)
     .omega
   have s:e=f:=by
    cases e;cases f;simp_all
   subst s
   congr 1
   have q:Merged es:=by
    cases es with
    |nil=>trivial
    |cons x xs=>exact E.2
   have o:Merged fs:=by
    cases fs with
    |nil=>trivial
    |cons x xs=>exact D.2
   refine ih fs e.hi u j z y q o ?_;intro b L S;have A:=h b L zo;simp only[bH]at A;rw[zJ zo,zJ zo]at A;exact A
theorem byteOf(b:Nat)(h:b<256):∃u:UInt8,u.toNat=b:=⟨UInt8.ofNat b,by simp[Nat.mod_eq_of_lt h]⟩
theorem KR{l m:aK}{i j:Int}(h:∀w,aH l i w=aH m j w)(b:Nat)(a:b<256):∀w,aH l (cu l i b) w=aH m (cu m j b) w:=by
 obtain⟨u,rfl⟩:=byteOf b a;intro w;have:=h (u::w);simpa [aH]using this
theorem Z0{l m:aK}(g:bZ l)(f:bZ m){i j:Int}(hi:i = -1\/(0<=i/\i<l.length))(b:j = -1\/(0<=j/\j<m.length))
(h:∀w,aH l i w=aH m j w):(i = -1/\j = -1)\/(∃s t:Nat,i=s/\j=t/\s<l.length/\t<m.length):=by
 rcases hi with hi|⟨e,k⟩
 .rcases b with b|⟨a,d⟩
  .exact .inl ⟨hi,b⟩
  .obtain⟨t,rfl⟩:=zT a;obtain⟨w,c⟩:=f.live t zo;have:=h w;rw[c,gL zo]at this;cases this
 .obtain⟨s,rfl⟩:=zT e;rcases b with b|⟨a,d⟩
  .obtain⟨w,c⟩:=g.live s zo;have:=h w;rw[c,gL zo]at this;cases this
  .obtain⟨t,rfl⟩:=zT a;exact .inr ⟨s,t,rfl,rfl,zo,zo⟩
theorem Ng{l m:aK}(q:bZ l)(p:bZ m)(h:∀w,aH l 0 w=aH m 0 w):
 ∀N k b:Nat,b<256->256*k+b<N->((k<l.length\/k<m.length)->(∀w,aH l k w=aH m k w))/\cu l k b=cu m k b:=by
 intro N
 induction N with
 |zero=>intro k b _ C;omega
 |succ N ih=>
  intro k b x C;have g:(k<l.length\/k<m.length)->(∀w,aH l k w=aH m k w):=by
   intro hk;by_cases A:k=0
   .subst A;exact h
   .rcases hk with hk|hk
    .obtain⟨a,e,n,j,f⟩:=q.reach k zo hk;have:=ih a e j zo;have d:a<l.length:=zo;have r:=KR (this.1 (.inl d)) e j;rw[<-this.2,f]at r;exact r
    .obtain⟨a,e,n,j,f⟩:=p.reach k zo hk;have:=ih a e j zo;have d:a<m.length:=zo;have r:=KR (this.1 (.inr d)) e j;rw[this.2,f]at r;exact r
  refine⟨g,?_⟩;by_cases hk:k<l.length\/k<m.length
  .have r:=KR (g hk) b x;rcases Z0 q p (mY q.wf _ b) (mY p.wf _ b) r with⟨v,u⟩|⟨s,t,v,u,B,ht⟩
   .rw[v,u]
   .rw[v,u]at r⊢;have:s=t:=by
     by_cases c:s<t
     ·
      have i:∀w,aH l s w=aH m s w:=by
       by_cases z:s=0
       .subst z;exact h
       .obtain⟨a,e,n,j,f⟩:=p.seen k b t x u s zo c;have I:=ih a e n zo;by_cases d:a<l.length\/a<m.length
        .have o:=KR (I.1 d) e n;rw[I.2,f]at o;exact o
        .rw[iq m a e zo]at f;omega
      exact p.czF s t zo ht (fun w=>(i w).symm.trans (r w))
     .by_cases D:t<s
      .have i:∀w,aH l t w=aH m t w:=by
        by_cases y:t=0
        .subst y;exact h
        .obtain⟨a,e,n,j,f⟩:=q.seen k b s x v t zo D;have I:=ih a e n zo;by_cases d:a<l.length\/a<m.length
         .have o:=KR (I.1 d) e n;rw[<-I.2,f]at o;exact o
         .rw[iq l a e zo]at f;omega
       exact q.czF s t B zo (fun w=>(r w).trans (i w).symm)
      .omega
    rw[this]
  .rw[iq l k b zo,iq m k b zo]
theorem lY(l:aK)(k:Nat)(h:k<l.length):bL l (k:Int)=(l[k]).bW:=by
 have a:¬((k:Int)<0):=zo;simp[bL,a,h]
theorem lens{l m:aK}(b:bZ l)(d:bZ m)(h:∀w,aH l 0 w=aH m 0 w):l.length<=m.length:=by
 apply Nat.le_of_not_lt;intro c;have A:=(Ng b d h (256*m.length+1) m.length 0 zo zo).1 (.inl c);obtain⟨w,a⟩:=b.live m.length c;rw[A w,jZ m _ w zo]at a;cases a
theorem vg{l m:aK}(c:bZ l)(a:bZ m)(h:∀w,aH l 0 w=aH m 0 w):l=m:=by
 have e:l.length=m.length:=Nat.le_antisymm (lens c a h) (lens a c (fun w=>(h w).symm));apply vF e;intro k d f;have j:(l[k]).bW=(m[k]).bW:=by
  have:=(Ng c a h (256*k+1) k 0 zo zo).1 (.inl d) [];simp only[aH]at this
  rwa [lY l k d,lY m k f]at this
 have i:(l[k]).bu=(m[k]).bu:=by
  refine Od _ _ (-1) (c.wf _ (zF d)) (a.wf _ (zF f)) (c.bytes _ (zF d)) (a.bytes _ (zF f))
   (c.Ee _ (zF d)) (a.Ee _ (zF f)) ?_
  intro b g _;have:=(Ng c a h (256*k+b+1) k b g zo).2
  rwa [iW l k b d,iW m k b f]at this
 cases hx:l[k];cases hy:m[k];simp_all
end Cl
namespace Cl
noncomputable def tf(p:Prop):Bool:=@decide p (Classical.propDecidable p)
theorem aN{p:Prop}(h:p):tf p=true:=by simp[tf,h]
theorem aG{p:Prop}(h:¬p):tf p=false:=by simp[tf,h]
theorem j4{p:Prop}:tf p=true↔p:=by simp[tf]
theorem dY{p q:Prop}(h:p↔q):tf p=tf q:=by rw[show p=q from propext h]
def sH(es:List Ed)(k:Nat):Int:=if h:0<k/\k<=es.length then((es[k-1]'zo).hi:Int)else -1
theorem PD(es:List Ed)(k:Nat)(h:¬0<k):sH es k = -1:=by simp[sH,h]
theorem MM{n:Nat}{es:List Ed}{k:Nat}(h:k<es.length):
 bT n (sH es k) (es.drop k)↔(es[k]).lo<=(es[k]).hi/\0<=(es[k]).to/\(es[k]).to<n/\sH es k<(es[k]).lo/\bT n (sH es (k+1)) (es.drop (k+1)):=by
 rw[yE h,bT];have:sH es (k+1)=(es[k]).hi:=by simp[sH,Nat.succ_le_of_lt h]
 rw[this]
theorem bzz{n:Nat}{l:aK}{k:Nat}(h:k<l.length):
 (∀s∈l.drop k,bT n (-1) s.bu)↔bT n (-1) (l[k]).bu/\∀s∈l.drop (k+1),bT n (-1) s.bu:=by
 rw[yE h,List.forall_mem_cons]
end Cl
namespace Cl
inductive Dt where
 |mk (kind num:Int) (str:ByteArray) (items:List Dt) (labels:List ByteArray) (qg:List Dt)
def Dt.kind:Dt->Int|mk k _ _ _ _ _=>k
def Dt.num:Dt->Int|mk _ n _ _ _ _=>n
def Dt.str:Dt->ByteArray|mk _ _ s _ _ _=>s
def Dt.items:Dt->List Dt|mk _ _ _ i _ _=>i
def Nn(k n:Int)(s:Nat)(i m:Nat):Bool:=
 decide (1<=k/\k<=6)&&(decide (k=2\/k=3)||decide (n=0))&&(decide (k=4)||decide (s=0))&&(decide (k=5)||decide (i=0))&&(decide (k=6)||decide (m=0))
end Cl
namespace Cl
abbrev dh:=Int×Int
def iG(l:List dh)(x:Int):Prop:=∃s∈l,s.1<=x/\x<=s.2
structure nT (l:List dh):Prop where
 ok:∀s∈l,s.1<=s.2
 sep:l.Pairwise fun s t=>s.2+1<t.1
theorem ja(x:Int):¬iG [] x:=by rintro⟨s,h,-⟩;cases h
theorem bU{s:dh}{l:List dh}{x:Int}:iG (s::l) x↔(s.1<=x/\x<=s.2)\/iG l x:=by
 constructor
 .rintro⟨t,h,a⟩;rcases yA.1 h with rfl|h
  .exact .inl a
  .exact .inr ⟨t,h,a⟩
 .rintro(h|⟨t,h,a⟩)
  .exact⟨s,yF ..,h⟩
  .exact⟨t,zU _ h,a⟩
theorem E8{l r:List dh}{x:Int}:iG (l++r) x↔iG l x\/iG r x:=by
 induction l with
 |nil=>simp[ja]
 |cons s l ih=>rw[xK,bU,bU,ih,or_assoc]
theorem nT.nil:nT []:=⟨fun s h=>by simp at h,.nil⟩
theorem nT.tail{s:dh}{l:List dh}(h:nT (s::l)):nT l:=⟨fun t ht=>h.ok t (zU _ ht),(yS.1 h.sep).2⟩
theorem nT.head{s:dh}{l:List dh}(h:nT (s::l)):s.1<=s.2:=h.ok s (yF ..)
theorem nT.after{s:dh}{l:List dh}(h:nT (s::l)){x:Int}(a:iG l x):s.2+1<x:=by
 obtain⟨t,ht,b,-⟩:=a;have:=(yS.1 h.sep).1 t ht;omega
theorem nT.cons{s:dh}{l:List dh}(b:s.1<=s.2)(a:∀t∈l,s.2+1<t.1)(h:nT l):nT (s::l):=by
 refine⟨fun t ht=>?_,yS.2 ⟨a,h.sep⟩⟩;rcases yA.1 ht with rfl|ht
 .exact b
 .exact h.ok t ht
theorem rU:∀{l l':List dh},nT l->nT l'->(∀x,iG l x↔iG l' x)->l=l'
 |[],[],_,_,_=>rfl
 |[],s::r,_,h',e=>absurd ((e s.1).2 (bU.2 (.inl ⟨xU _,h'.head⟩))) (ja _)
 |s::r,[],h,_,e=>absurd ((e s.1).1 (bU.2 (.inl ⟨xU _,h.head⟩))) (ja _)
 |s::r,s'::r',h,h',e=>by
  have a:=h.head;have n:=h'.head;have out:¬iG (s::r) (s.2+1):=fun b=>by
   rcases bU.1 b with b|b
   .omega
   .have:=h.after b;omega
  have c:¬iG (s'::r') (s'.2+1):=fun b=>by
   rcases bU.1 b with b|b
   .omega
   .have:=h'.after b;omega
  have lo:s.1=s'.1:=by
   have m:s'.1<=s.1:=by
    rcases bU.1 ((e s.1).1 (bU.2 (.inl ⟨xU _,a⟩)))with b|b
    .exact b.1
    .have:=h'.after b;omega
   have k:s.1<=s'.1:=by
    rcases bU.1 ((e s'.1).2 (bU.2 (.inl ⟨xU _,n⟩)))with b|b
    .exact b.1
    .have:=h.after b;omega
   omega
  have hi:s.2=s'.2:=by
   have m:s.2<=s'.2:=by
    refine Int.not_lt.1 fun f=>c ((e _).1 (bU.2 (.inl ⟨?_,?_⟩)))<;>omega
   have k:s'.2<=s.2:=by
    refine Int.not_lt.1 fun f=>out ((e _).2 (bU.2 (.inl ⟨?_,?_⟩)))<;>omega
   omega
  obtain⟨x,y⟩:=s;obtain⟨i,g⟩:=s';obtain rfl:x=i:=lo;obtain rfl:y=g:=hi;have j:r=r':=rU h.tail h'.tail fun z=>by
   constructor
   .intro d;have:=h.after d;rcases bU.1 ((e z).1 (bU.2 (.inr d)))with b|b
    .omega
    .exact b
   .intro d;have:=h'.after d;rcases bU.1 ((e z).2 (bU.2 (.inr d)))with b|b
    .omega
    .exact b
  rw[j]
def qW:List dh->List dh->List dh
 |[],out=>out
 |s::l,[]=>qW l [s]
 |s::l,t::out=>if s.1<=t.2+1 then qW l ((t.1,max t.2 s.2)::out)else qW l (s::t::out)
structure V9 (l:List dh):Prop where
 ok:∀s∈l,s.1<=s.2
 sep:l.Pairwise fun s t=>t.2+1<s.1
theorem V9.rev{l:List dh}(h:V9 l):nT l.reverse:=⟨fun s a=>h.ok s (List.mem_reverse.1 a),List.pairwise_reverse.2 h.sep⟩
theorem NF{l:List dh}{x:Int}:iG l.reverse x↔iG l x:=by simp[iG]
theorem uW:∀(l out:List dh),(∀s∈l,s.1<=s.2)->l.Pairwise (fun s t=>s.1<=t.1)->V9 out->(∀t∈out,∀s∈l,t.1<=s.1) ->
 V9 (qW l out)/\∀x,iG (qW l out) x↔iG out x\/iG l x
 |[],out,_,_,hn,_=>⟨hn,fun x=>by simp[qW,ja]⟩
 |s::l,[],hok,hs,_,_=>by
  have b:=yS.1 hs;have hk:=hok s (yF ..);obtain⟨g,f⟩:=uW l [s] (fun t ht=>hok t (zU _ ht)) b.2 ⟨fun t ht=>by simp at ht;subst ht;exact hk,List.pairwise_singleton _ _⟩
   (fun t ht u a=>by simp at ht;subst ht;exact b.1 u a)
  exact⟨g,fun x=>by rw[qW,f,bU,bU];simp[ja]⟩
 |s::l,t::out,hok,hs,hn,hle=>by
  have b:=yS.1 hs;have hk:=hok s (yF ..);have d:=yS.1 hn.sep;have ht:=hn.ok t (yF ..);have j:=hle t (yF ..) s (yF ..);have c:∀u∈l,u.1<=u.2:=fun u a=>hok u (zU _ a);unfold qW;by_cases i:s.1<=t.2+1
  .rw[zK i];obtain⟨g,f⟩:=uW l ((t.1,max t.2 s.2)::out) c b.2
    ⟨fun u a=>by
     rcases yA.1 a with rfl|a
     .show t.1<=max t.2 s.2;omega
     .exact hn.ok u (zU _ a),
     yS.2 ⟨fun u a=>d.1 u a,d.2⟩⟩
    (fun u a v e=>by
     rcases yA.1 a with rfl|a
     .exact hle t (yF ..) v (zU _ e)
     .exact hle u (zU _ a) v (zU _ e))
   refine⟨g,fun x=>?_⟩;rw[f,bU,bU,bU];have:(t.1<=x/\x<=max t.2 s.2)↔((t.1<=x/\x<=t.2)\/(s.1<=x/\x<=s.2)):=zo;show((t.1<=x/\x<=max t.2 s.2)\/_)\/_↔_;rw[this];constructor
   .rintro(((h|h)|h)|h)
    .exact qcT
    .exact qcS
    .exact .inl (.inr h)
    .exact qdq
   .rintro((h|h)|(h|h))
    .exact qdm
    .exact .inl (.inr h)
    .exact qdl
    .exact .inr h
  .rw[zJ i];obtain⟨g,f⟩:=uW l (s::t::out) c b.2
    ⟨fun u a=>by
     rcases yA.1 a with rfl|a
     .exact hk
     .exact hn.ok u a,
     yS.2 ⟨fun u a=>by
      rcases yA.1 a with rfl|a
      .omega
      .have:=d.1 u a;omega,hn.sep⟩⟩
    (fun u a v e=>by
     rcases yA.1 a with rfl|a
     .exact b.1 v e
     .exact hle u a v (zU _ e))
   refine⟨g,fun x=>?_⟩;rw[f,bU (s:=s),bU (s:=s)];constructor
   .rintro((h|h)|h)
    .exact qcS
    .exact .inl h
    .exact qdq
   .rintro(h|(h|h))
    .exact .inl (.inr h)
    .exact qcT
    .exact .inr h
def sO:dh->Bool->List dh->List dh
 |s,d,[]=>if d then[]else[s]
 |s,d,x::r=>if x.2+1<s.1 then x::sO s d r else if s.2+1<x.1 then(if d then[]else[s])++x::sO s true r else sO (min s.1 x.1,max s.2 x.2) d r
theorem LH{s:dh}:∀{r:List dh},(∀t∈r,s.2+1<t.1)->sO s true r=r
 |[],_=>rfl
 |x::r,h=>by
  have c:=h x (yF ..);have b:=LH (s:=s) (r:=r) fun t ht=>h t (zU _ ht);unfold sO;rw[b];by_cases a:x.2+1<s.1
  .rw[zK a]
  .rw[zJ a,zK c,zK rfl];rfl
theorem nT.first{l:List dh}(h:nT l){t:dh}(ht:t∈l):iG l t.1:=⟨t,ht,xU _,h.ok t ht⟩
theorem Er:∀(out:List dh) (s:dh),s.1<=s.2->nT out->nT (sO s false out)/\∀x,iG (sO s false out) x↔(s.1<=x/\x<=s.2)\/iG out x
 |[],s,hs,_=>⟨.cons hs (fun t ht=>by cases ht) .nil,fun x=>by simp[sO,bU,ja]⟩
 |y::r,s,hs,hn=>by
  have e:=hn.head;unfold sO;by_cases d:y.2+1<s.1
  .rw[zK d];obtain⟨a,b⟩:=Er r s hs hn.tail;refine⟨.cons e (fun t ht=>?_) a,fun x=>?_⟩
   .rcases(b _).1 (a.first ht)with h|h
    .omega
    .exact hn.after h
   .rw[bU,b,bU];constructor
    .rintro(h|h|h)
     .exact qcS
     .exact .inl h
     .exact qdq
    .rintro(h|h|h)
     .exact qcS
     .exact .inl h
     .exact qdq
  .rw[zJ d];by_cases c:s.2+1<y.1
   .rw[zK c,zJ zD,LH fun t ht=>by have:=(yS.1 hn.sep).1 t ht;omega];refine⟨.cons hs (fun t ht=>?_) hn,fun x=>bU⟩;rcases yA.1 ht with rfl|ht
    .exact c
    .have:=(yS.1 hn.sep).1 t ht;omega
   .rw[zJ c];obtain⟨a,b⟩:=Er r (min s.1 y.1,max s.2 y.2) (by show min s.1 y.1<=max s.2 y.2;omega) hn.tail;refine⟨a,fun x=>?_⟩;rw[b,bU];have:(min s.1 y.1<=x/\x<=max s.2 y.2)↔((s.1<=x/\x<=s.2)\/(y.1<=x/\x<=y.2)):=zo;show((min s.1 y.1<=x/\x<=max s.2 y.2)\/_)↔_;rw[this,or_assoc]
def oO(l:List dh):List dh:=l.foldl (fun out s=>if s.2<s.1 then out else sO s false out) []
theorem BD:∀(l out:List dh),nT out->nT (l.foldl (fun out s=>if s.2<s.1 then out else sO s false out) out) /\
 ∀x,iG (l.foldl (fun out s=>if s.2<s.1 then out else sO s false out) out) x↔iG out x\/iG l x
 |[],out,hn=>⟨hn,fun x=>by simp[ja]⟩
 |s::l,out,hn=>by
  rw[List.foldl_cons];by_cases h:s.2<s.1
  .rw[zK h];obtain⟨a,b⟩:=BD l out hn;refine⟨a,fun x=>?_⟩;rw[b,bU];have:¬(s.1<=x/\x<=s.2):=zo;simp[this]
  .rw[zJ h];obtain⟨a0,c⟩:=Er out s zo hn;obtain⟨a,b⟩:=BD l _ a0;refine⟨a,fun x=>?_⟩;rw[b,c,bU];constructor
   .rintro((h|h)|h)
    .exact qcS
    .exact .inl h
    .exact qdq
   .rintro(h|h|h)
    .exact .inl (.inr h)
    .exact qcT
    .exact .inr h
theorem iR(l:List dh):nT (oO l)/\∀x,iG (oO l) x↔iG l x:=by
 obtain⟨a,b⟩:=BD l [] .nil;exact⟨a,fun x=>by rw[oO,b];simp[ja]⟩
def qf:List dh->Int->Int->List dh
 |[],lo,hi=>if lo<=hi then[(lo,hi)]else[]
 |s::r,lo,hi=>(if lo<s.1 then[(lo,s.1-1)]else[])++qf r (s.2+1) hi
theorem qY:∀(l:List dh) (lo hi:Int),nT l->(∀s∈l,lo<=s.1/\s.2<=hi)->nT (qf l lo hi)/\∀x,iG (qf l lo hi) x↔(lo<=x/\x<=hi)/\¬iG l x
 |[],lo,hi,_,_=>by
  unfold qf;by_cases h:lo<=hi
  .rw[zK h];exact⟨.cons h (fun t ht=>by cases ht) .nil,fun x=>by simp[bU,ja]⟩
  .rw[zJ h]
   exact⟨.nil,fun x=>⟨fun f=>absurd f (ja _),fun f=>zo⟩⟩
 |s::r,lo,hi,hn,hb=>by
  have k:=hb s (yF ..);have j:=hn.head;obtain⟨a,b⟩:=qY r (s.2+1) hi hn.tail fun t ht=>⟨by have:=(yS.1 hn.sep).1 t ht;omega,(hb t (zU _ ht)).2⟩;unfold qf;have e:∀x,((lo<=x/\x<s.1)\/iG (qf r (s.2+1) hi) x)↔(lo<=x/\x<=hi)/\¬iG (s::r) x:=fun x=>by
   rw[b,bU];constructor
   .rintro(h|⟨d,g⟩)
    .refine⟨zo,?_⟩;rintro(c|c)
     .omega
     .have:=hn.after c;omega
    .refine⟨zo,?_⟩;rintro(c|c)
     .omega
     .exact g c
   .rintro⟨d,g⟩;by_cases f:x<s.1
    .exact .inl ⟨d.1,f⟩
    .refine .inr ⟨⟨?_,d.2⟩,fun c=>g (.inr c)⟩;refine Int.not_lt.1 fun i=>g (.inl ⟨zo,zo⟩)
  by_cases h:lo<s.1
  .rw[zK h];refine⟨.cons (by show lo<=s.1-1;omega) (fun t ht=>?_) a,fun x=>?_⟩
   .have:=((b _).1 (a.first ht)).1;show s.1-1+1<t.1;omega
   .rw[List.singleton_append,bU,<-e];show(lo<=x/\x<=s.1-1)\/_↔_;rw[show(lo<=x/\x<=s.1-1)↔(lo<=x/\x<s.1)by omega]
  .rw[zJ h];refine⟨a,fun x=>?_⟩;rw[xN,<-e];constructor
   .exact .inr
   .rintro(d|d)
    .omega
    .exact d
end Cl
namespace Cl
def ng(u:Int):Int:=u/10000*9999+u%10000-1
def cZ(k:Int):Int:=k/9999*10000+k%9999+1
theorem oZ{u:Int}(h:u%10000≠0):cZ (ng u)=u:=by unfold cZ ng;omega
theorem Py(k:Int):ng (cZ k)=k:=by unfold cZ ng;omega
theorem ww(k:Int):cZ k%10000≠0:=by unfold cZ;omega
theorem Ah{u v:Int}(b:u%10000≠0)(a:v%10000≠0):ng u<=ng v↔u<=v:=by unfold ng;omega
theorem jM{k l:Int}:cZ k<=cZ l↔k<=l:=by unfold cZ;omega
def jh(u:Int):Int:=if(u+1)%10000=0 then u+2 else u+1
def iU(u:Int):Int:=if(u-1)%10000=0 then u-2 else u-1
theorem Dn(k:Int):jh (cZ k)=cZ (k+1):=by unfold jh cZ;split<;>omega
theorem Ki(k:Int):iU (cZ k)=cZ (k-1):=by unfold iU cZ;split<;>omega
end Cl
namespace Cl
theorem Xo{l p:List dh}(h:p.Perm l)(x:Int):iG p x↔iG l x:=by
 simp only[iG,h.mem_iff]
theorem LC{l p:List dh}(d:p.Perm l)(e:p.Pairwise fun s t=>s.1<=t.1)(c:∀s∈l,s.1<=s.2):(qW p []).reverse=oO l:=by
 obtain⟨a,b⟩:=uW p [] (fun s h=>c s (d.mem_iff.1 h)) e ⟨fun s h=>qeF,.nil⟩ (fun t h=>qeF);refine rU a.rev (iR l).1 fun x=>?_;rw[NF,b,(iR l).2,Xo d];simp[ja]
def GU(s:dh):dh:=(ng s.1,ng s.2)
def jm(s:dh):dh:=(cZ s.1,cZ s.2)
def jH(nx:Int->Int):List dh->List dh->List dh
 |[],out=>out
 |s::l,[]=>jH nx l [s]
 |s::l,t::out=>if s.1<=nx t.2 then jH nx l ((t.1,max t.2 s.2)::out)else jH nx l (s::t::out)
theorem xh:∀l out:List dh,jH (fun n=>n+1) l out=qW l out
 |[],out=>rfl
 |s::l,[]=>by simp only[jH,qW,xh]
 |s::l,t::out=>by simp only[jH,qW,xh]
theorem R4(k l:Int):max (cZ k) (cZ l)=cZ (max k l):=by unfold cZ;omega
theorem rX:∀l out:List dh,jH jh (l.map jm) (out.map jm)=(qW l out).map jm
 |[],out=>rfl
 |s::l,[]=>by
  have a:=rX l [s]
  simpa only[jH,qW,yL,xB]using a
 |s::l,t::out=>by
  simp only[yL,jH,qW];show(if cZ s.1<=jh (cZ t.2)then jH jh (l.map jm) ((cZ t.1,max (cZ t.2) (cZ s.2))::out.map jm)else _)=_;rw[Dn];by_cases h:s.1<=t.2+1
  .rw[zK (jM.2 h),zK h,R4];exact rX l ((t.1,max t.2 s.2)::out)
  .rw[zJ (fun e=>h (jM.1 e)),zJ h];exact rX l (s::t::out)
def fV:Int:=100000000000
def iH:Int:=1000000000000000
def vM(s:dh):dh:=(max s.1 (-fV),min s.2 fV)
def nz(l:List dh):List dh:=(l.map vM).filter fun s=>decide (s.1<=s.2)
def trimF(s:dh):dh:=(if s.1%10000=0 then s.1+1 else s.1,if s.2%10000=0 then s.2-1 else s.2)
def pI(s:dh):dh:=trimF (max s.1 (-iH),min s.2 iH)
def nA(l:List dh):List dh:=(l.map pI).filter fun s=>decide (s.1<=s.2)
theorem Qp{l:List dh}:∀s∈nz l,s.1<=s.2:=fun s h=>by simpa using(xR.1 h).2
theorem Qr{l:List dh}:∀s∈nA l,s.1<=s.2:=fun s h=>by simpa using(xR.1 h).2
theorem Wy(s:dh):(trimF s).1%10000≠0/\(trimF s).2%10000≠0:=by
 unfold trimF;constructor
 .show(if s.1%10000=0 then s.1+1 else s.1)%10000≠0
  split<;>omega
 .show(if s.2%10000=0 then s.2-1 else s.2)%10000≠0
  split<;>omega
theorem BI{l:List dh}:∀s∈nA l,s.1%10000≠0/\s.2%10000≠0:=fun s h=>by
 obtain⟨t,-,rfl⟩:=yD.1 (xR.1 h).1;exact Wy _
def IG(l:List dh):List dh:=oO (nz l)
def CZ(l:List dh):List dh:=oO ((nA l).map GU)
theorem bzY{l:List dh}:∀s∈(nA l).map GU,s.1<=s.2:=fun s h=>by
 obtain⟨t,ht,rfl⟩:=yD.1 h;obtain⟨b,a⟩:=BI t ht;exact(Ah b a).2 (Qr t ht)
theorem Xt{l p:List dh}(b:p.Perm (nz l))(a:p.Pairwise fun s t=>s.1<=t.1):(jH (fun n=>n+1) p []).reverse=IG l:=by
 rw[xh];exact LC b a Qp
theorem Tq{l p:List dh}(g:p.Perm (nA l))(i:p.Pairwise fun s t=>s.1<=t.1):(jH jh p []).reverse=(CZ l).map jm:=by
 have f:∀s∈p,s.1%10000≠0/\s.2%10000≠0:=fun s h=>BI s (g.mem_iff.1 h);have e:(p.map GU).map jm=p:=by
  rw[vE];refine(xZ fun s h=>?_).trans (List.map_id _);obtain⟨k,j⟩:=f s h;show(cZ (ng s.1),cZ (ng s.2))=s;rw[oZ k,oZ j]
 have d:(p.map GU).Pairwise fun s t=>s.1<=t.1:=by
  refine List.pairwise_map.2 (i.imp_of_mem fun {a b} ha hb h=>?_);exact(Ah (f a ha).1 (f b hb).1).2 h
 have c:=LC (g.map GU) d bzY;rw[<-e];rw[show([]:List dh)=([]:List dh).map jm from rfl,rX,<-List.map_reverse,c]
 rfl
end Cl
namespace Cl
structure NS where
 i:List dh
 f:List dh
def oI:Int := -999900000000000
def uk:Int:=999899999999999
structure fH (x:NS):Prop where
 ni:nT x.i
 nf:nT x.f
 bi:∀s∈x.i,-fV<=s.1/\s.2<=fV
 bf:∀s∈x.f,oI<=s.1/\s.2<=uk
def NS.rf(x:NS):List dh:=x.f.map jm
def gz(I F:List dh):NS:=⟨IG I,CZ F⟩
def cO(u:Int):Prop := -iH<=u/\u<=iH
instance (u:Int):Decidable (cO u):=by unfold cO;infer_instance
def NS.has(x:NS)(u:Int):Prop:=(u%10000=0/\iG x.i (u/10000))\/(u%10000≠0/\iG x.f (ng u))
def uS(I F:List dh)(u:Int):Prop:=(u%10000=0/\iG I (u/10000))\/(u%10000≠0/\iG F u)
def x9:NS:=⟨[],[]⟩
theorem Hz{l:List dh}(h:nT l){lo hi:Int}(b:∀x,iG l x->lo<=x/\x<=hi):∀s∈l,lo<=s.1/\s.2<=hi:=fun s a=>
 ⟨(b s.1 ⟨s,a,xU _,h.ok s a⟩).1,(b s.2 ⟨s,a,h.ok s a,xU _⟩).2⟩
theorem Jw{l:List dh}{lo hi:Int}(h:∀s∈l,lo<=s.1/\s.2<=hi){x:Int}(a:iG l x):lo<=x/\x<=hi:=by
 obtain⟨s,b,d,c⟩:=a;have:=h s b;omega
theorem Ti{l:List dh}{x:Int}:iG (nz l) x↔(-fV<=x/\x<=fV)/\iG l x:=by
 constructor
 .rintro⟨s,c,b,a⟩;obtain⟨d,-⟩:=xR.1 c;obtain⟨t,ht,rfl⟩:=yD.1 d;simp only[vM]at b a;exact⟨zo,t,ht,zo,zo⟩
 .rintro⟨e,t,ht,b,a⟩;refine⟨vM t,xR.2 ⟨yD.2 ⟨t,ht,rfl⟩,?_⟩,?_,?_⟩
  .exact zN (show max t.1 (-fV)<=min t.2 fV by omega)
  .show max t.1 (-fV)<=x;omega
  .show x<=min t.2 fV;omega
theorem Wz{s:dh}{u:Int}(e:u%10000≠0):((trimF s).1<=u/\u<=(trimF s).2)↔s.1<=u/\u<=s.2:=by
 have d:(trimF s).1=if s.1%10000=0 then s.1+1 else s.1:=rfl;have c:(trimF s).2=if s.2%10000=0 then s.2-1 else s.2:=rfl;rw[d,c];by_cases b:s.1%10000=0<;>by_cases a:s.2%10000=0<;>simp only[b,a,if_true,if_false]<;>omega
theorem Mh{t:dh}{u:Int}(a:u%10000≠0):((pI t).1<=u/\u<=(pI t).2)↔cO u/\t.1<=u/\u<=t.2:=by
 unfold pI;rw[Wz a];show(max t.1 (-iH)<=u/\u<=min t.2 iH)↔_;simp only[cO];omega
theorem Tj{l:List dh}{u:Int}(b:u%10000≠0):iG (nA l) u↔cO u/\iG l u:=by
 constructor
 .rintro⟨s,c,i,g⟩;obtain⟨d,-⟩:=xR.1 c;obtain⟨t,ht,rfl⟩:=yD.1 d;obtain⟨a,f⟩:=(Mh b).1 ⟨i,g⟩;exact⟨a,t,ht,f⟩
 .rintro⟨e,t,ht,h⟩;have a:=(Mh (t:=t) b).2 ⟨e,h⟩;exact⟨pI t,xR.2 ⟨yD.2 ⟨t,ht,rfl⟩,by simp only[decide_eq_true_eq];omega⟩,a⟩
theorem Xn{l:List dh}(d:∀s∈l,s.1%10000≠0/\s.2%10000≠0){u:Int}(a:u%10000≠0):iG (l.map GU) (ng u)↔iG l u:=by
 constructor
 .rintro⟨s,e,c,b⟩;obtain⟨t,ht,rfl⟩:=yD.1 e;have:=d t ht;exact⟨t,ht,(Ah this.1 a).1 c,(Ah a this.2).1 b⟩
 .rintro⟨t,ht,c,b⟩;have:=d t ht;exact⟨GU t,yD.2 ⟨t,ht,rfl⟩,(Ah this.1 a).2 c,(Ah a this.2).2 b⟩
theorem rV{l:List dh}{u:Int}(c:u%10000≠0):iG (l.map jm) u↔iG l (ng u):=by
 constructor
 .rintro⟨s,d,b,a⟩;obtain⟨t,ht,rfl⟩:=yD.1 d;rw[<-oZ c]at b a;exact⟨t,ht,jM.1 b,jM.1 a⟩
 .rintro⟨t,ht,b,a⟩;refine⟨jm t,yD.2 ⟨t,ht,rfl⟩,?_,?_⟩
  .rw[<-oZ c];exact jM.2 b
  .rw[<-oZ c];exact jM.2 a
theorem oP(I F:List dh)(u:Int):(gz I F).has u↔cO u/\uS I F u:=by
 simp only[NS.has,gz,uS];by_cases a:u%10000=0
 .simp only[a,ne_eq,not_true_eq_false,false_and,or_false,true_and,IG,(iR _).2,Ti];have:(-fV<=u/10000/\u/10000<=fV)↔cO u:=by simp only[cO,fV,iH];omega
  rw[this]
 .simp only[a,ne_eq,not_false_eq_true,false_and,false_or,true_and,CZ,(iR _).2];rw[Xn BI a,Tj a]
theorem fH.lV{x:NS}(h:fH x){u:Int}(b:x.has u):cO u:=by
 rcases b with⟨c,a⟩|⟨c,a⟩
 .have:=Jw h.bi a;simp only[cO,fV,iH]at*
  omega
 .have:=Jw h.bf a;simp only[cO,iH,oI,uk,ng]at*
  omega
theorem fH.VE{x:NS}{n:Int}:iG x.i n↔x.has (n*10000):=by
 simp only[NS.has];rw[show n*10000%10000=0 by omega,show n*10000/10000=n by omega];simp
theorem fH.ZW{x:NS}{k:Int}:iG x.f k↔x.has (cZ k):=by
 simp only[NS.has,Py];have:=ww k;constructor
 .exact fun h=>.inr ⟨this,h⟩
 .rintro(⟨b,-⟩|⟨-,a⟩)
  .exact absurd b this
  .exact a
theorem wP{x y:NS}(f:fH x)(e:fH y)(h:∀u,x.has u↔y.has u):x=y:=by
 obtain⟨c,d⟩:=x;obtain⟨a,b⟩:=y;have i:c=a:=rU f.ni e.ni fun n=>(fH.VE (x:=⟨c,d⟩)).trans ((h _).trans (fH.VE (x:=⟨a,b⟩)).symm);have g:d=b:=rU f.nf e.nf fun n=>(fH.ZW (x:=⟨c,d⟩)).trans ((h _).trans (fH.ZW (x:=⟨a,b⟩)).symm);rw[i,g]
theorem fH.of{x:NS}(c:nT x.i)(b:nT x.f)(a:∀u,x.has u->cO u):fH x:=by
 refine⟨c,b,Hz c fun n d=>?_,Hz b fun k hk=>?_⟩
 .have:=a _ (fH.VE.1 d);simp only[cO,fV,iH]at*
  omega
 .have:=a _ (fH.ZW.1 hk);simp only[cO,oI,uk,iH,cZ]at*
  omega
theorem kH(I F:List dh):fH (gz I F):=.of (iR _).1 (iR _).1 fun u h=>((oP I F u).1 h).1
theorem L9:fH x9:=⟨.nil,.nil,fun s h=>qeF,fun s h=>qeF⟩
theorem BQ(u:Int):¬x9.has u:=by
 rintro(⟨-,h⟩|⟨-,h⟩)<;>exact ja _ h
theorem DY(x:NS)(u:Int):uS x.i x.rf u↔x.has u:=by
 simp only[uS,NS.has,NS.rf];by_cases a:u%10000=0
 .simp[a]
 .simp only[a,false_and,false_or,ne_eq,not_false_eq_true,true_and];exact rV a
theorem mI{x:NS}(h:fH x):gz x.i x.rf=x:=wP (kH _ _) h fun u=>by
 rw[oP,DY];exact⟨And.right,fun a=>⟨h.lV a,a⟩⟩
theorem czc:gz [] []=x9:=by
 refine wP (kH _ _) L9 fun u=>?_;rw[oP];refine⟨fun h=>?_,fun h=>absurd h (BQ u)⟩;rcases h.2 with⟨-,h⟩|⟨-,h⟩<;>exact absurd h (ja _)
def iF(x:NS):NS:=⟨qf x.i (-fV) fV,qf x.f oI uk⟩
def ZC(x y:NS):NS:=⟨oO (x.i++y.i),oO (x.f++y.f)⟩
def qA(x y:NS):NS:=iF (ZC (iF x) (iF y))
def gH(x y:NS):NS:=qA x (iF y)
def OE:NS:=⟨[(-fV,fV)],[(oI,uk)]⟩
def Gh:NS:=⟨[(-fV,fV)],[]⟩
theorem pu{x:NS}(h:fH x)(u:Int):(iF x).has u↔cO u/\¬x.has u:=by
 have a:=qY x.i (-fV) fV h.ni h.bi;have b:=qY x.f oI uk h.nf h.bf;simp only[NS.has,iF];by_cases c:u%10000=0
 .simp only[c,ne_eq,not_true_eq_false,false_and,or_false,true_and,a.2];have:(-fV<=u/10000/\u/10000<=fV)↔cO u:=by simp only[cO,fV,iH];omega
  rw[this]
 .simp only[c,ne_eq,not_false_eq_true,false_and,false_or,true_and,b.2];have:(oI<=ng u/\ng u<=uk)↔cO u:=by simp only[cO,oI,uk,iH,ng];omega
  rw[this]
theorem kL{x:NS}(h:fH x):fH (iF x):=.of (qY x.i _ _ h.ni h.bi).1 (qY x.f _ _ h.nf h.bf).1 fun u a=>((pu h u).1 a).1
theorem CF(x y:NS)(u:Int):(ZC x y).has u↔x.has u\/y.has u:=by
 simp only[NS.has,ZC,(iR _).2,E8];by_cases a:u%10000=0<;>simp[a]
theorem G9{x y:NS}(b:fH x)(a:fH y):fH (ZC x y):=.of (iR _).1 (iR _).1 fun u c=>((CF x y u).1 c).elim b.lV a.lV
theorem OC{x y:NS}(b:fH x)(a:fH y):fH (qA x y):=kL (G9 (kL b) (kL a))
theorem JA{x y:NS}(a:fH x)(c:fH y)(u:Int):(qA x y).has u↔x.has u/\y.has u:=by
 unfold qA;rw[pu (G9 (kL a) (kL c)),CF,pu a,pu c];constructor
 .rintro⟨d,h⟩;constructor
  .exact zP fun b=>h (.inl ⟨d,b⟩)
  .exact zP fun b=>h (.inr ⟨d,b⟩)
 .rintro⟨e,f⟩;refine⟨a.lV e,?_⟩;rintro(⟨-,h⟩|⟨-,h⟩)
  .exact h e
  .exact h f
theorem ji{x y:NS}(b:fH x)(a:fH y):fH (gH x y):=OC b (kL a)
theorem iM{x y:NS}(b:fH x)(a:fH y)(u:Int):(gH x y).has u↔x.has u/\¬y.has u:=by
 unfold gH;rw[JA b (kL a),pu a];exact⟨fun h=>⟨h.1,h.2.2⟩,fun h=>⟨h.1,b.lV h.1,h.2⟩⟩
theorem OD:fH OE:=by
 refine⟨.cons zD (fun t ht=>(by cases ht)) .nil,.cons zD (fun t ht=>(by cases ht)) .nil,?_,?_⟩
 .exact qht
 .exact qht
theorem wW{a b x:Int}:iG [(a,b)] x↔a<=x/\x<=b:=by rw[bU];simp[ja]
theorem bzg(u:Int):OE.has u↔cO u:=by
 simp only[NS.has,OE,wW];by_cases a:u%10000=0
 .simp only[a,true_and,ne_eq,not_true_eq_false,false_and,or_false,cO,fV,iH];omega
 .simp only[a,false_and,ne_eq,not_false_eq_true,true_and,false_or,cO,oI,uk,iH,ng];omega
theorem Wh:fH Gh:=⟨OD.ni,.nil,OD.bi,fun s h=>qeF⟩
theorem RP(u:Int):Gh.has u↔cO u/\u%10000=0:=by
 simp only[NS.has,Gh,wW,cO,fV,iH];have:=ja (ng u);by_cases a:u%10000=0
 .simp only[a,true_and,ne_eq,not_true_eq_false,false_and,or_false,and_true];omega
 .simp only[a,false_and,ne_eq,not_false_eq_true,false_or,and_false,this]
theorem ezh(I F a b:List dh):gz (I++a) (F++b)=ZC (gz I F) (gz a b):=wP (kH _ _) (G9 (kH _ _) (kH _ _)) fun u=>by
 rw[CF,oP,oP,oP,<-and_or_left];refine and_congr_right fun _=>?_;simp only[uS,E8];by_cases c:u%10000=0<;>simp[c]
def kM(x y:dh):dh:=(max x.1 y.1,min x.2 y.2)
def eG(a b:List dh):List dh:=a.flatMap fun x=>(b.map (kM x)).filter fun z=>decide (z.1<=z.2)
theorem P6{a b:List dh}{u:Int}:iG (eG a b) u↔iG a u/\iG b u:=by
 constructor
 .rintro⟨s,e,g,f⟩;obtain⟨x,d,e⟩:=xW.1 e;obtain⟨h,-⟩:=xR.1 e;obtain⟨y,c,rfl⟩:=yD.1 h;simp only[kM]at g f;exact⟨⟨x,d,zo,zo⟩,y,c,zo,zo⟩
 .rintro⟨⟨x,d,g,f⟩,y,c,j,i⟩;refine⟨kM x y,xW.2 ⟨x,d,xR.2 ⟨yD.2 ⟨y,c,rfl⟩,?_⟩⟩,?_,?_⟩
  .exact zN (show max x.1 y.1<=min x.2 y.2 by omega)
  .simp only[kM];omega
  .simp only[kM];omega
theorem czU{x y:NS}(b:fH x)(c:fH y):gz (eG x.i y.i) (eG x.rf y.rf)=qA x y:=wP (kH _ _) (OC b c) fun u=>by
 rw[JA b c,oP,<-DY x,<-DY y];simp only[uS,P6];by_cases a:u%10000=0
 .simp only[a,ne_eq,not_true_eq_false,false_and,or_false,true_and];exact⟨And.right,fun h=>⟨b.lV (.inl ⟨a,h.1⟩),h⟩⟩
 .simp only[a,ne_eq,not_false_eq_true,false_and,false_or,true_and];exact⟨And.right,fun h=>⟨b.lV (.inr ⟨a,(rV a).1 h.1⟩),h⟩⟩
def gq(nx a:Int->Int):List dh->Int->Int->List dh
 |[],lo,hi=>if lo<=hi then[(lo,hi)]else[]
 |s::r,lo,hi=>(if lo<=a s.1 then[(lo,a s.1)]else[])++gq nx a r (nx s.2) hi
theorem xq:∀(l:List dh) (lo hi:Int),gq (fun n=>n+1) (fun n=>n-1) l lo hi=qf l lo hi
 |[],_,_=>rfl
 |s::r,lo,hi=>by
  simp only[gq,qf,xq];by_cases h:lo<s.1
  .rw[zK h,zK zo]
  .rw[zJ h,zJ zo]
theorem IM:∀(l:List dh) (lo hi:Int),gq jh iU (l.map jm) (cZ lo) (cZ hi)=(qf l lo hi).map jm
 |[],lo,hi=>by
  simp only[gq,qf,xB];by_cases h:lo<=hi
  .rw[zK h,zK (jM.2 h)];rfl
  .rw[zJ h,zJ (fun e=>h (jM.1 e))];rfl
 |s::r,lo,hi=>by
  simp only[gq,qf,yL];show(if cZ lo<=iU (cZ s.1)then[(cZ lo,iU (cZ s.1))]else[])++gq jh iU (r.map jm) (jh (cZ s.2)) (cZ hi)=_;rw[Ki,Dn,IM,yI];by_cases h:lo<s.1
  .rw[zK h,zK (jM.2 zo)];rfl
  .rw[zJ h,zJ (fun e=>h (by have:=jM.1 e;omega))];rfl
theorem VM(x:NS):gq jh iU x.rf (1-iH) (iH-1)=(iF x).rf:=by
 have b:(1-iH:Int)=cZ oI:=by decide
 have a:(iH-1:Int)=cZ uk:=by decide
 rw[b,a];exact IM x.f oI uk
theorem bz9{x:NS}(h:fH x):gz (gq (fun n=>n+1) (fun n=>n-1) x.i (-fV) fV) (gq jh iU x.rf (1-iH) (iH-1))=iF x:=by
 rw[xq,VM];exact mI (kL h)
def Ch(u:Int):NS:=gz [(-fV,(u-1)/10000)] [(-iH,u-1)]
def J4(u:Int):NS:=gz [(-fV,u/10000)] [(-iH,u)]
def F7(u:Int):NS:=gz [(-(-u/10000),u/10000)] [(u,u)]
theorem NK(u v:Int):(Ch u).has v↔cO v/\v<u:=by
 unfold Ch;rw[oP];refine and_congr_right fun a=>?_;simp only[uS,wW,fV,iH,cO]at*
 omega
theorem NQ(u v:Int):(J4 u).has v↔cO v/\v<=u:=by
 unfold J4;rw[oP];refine and_congr_right fun a=>?_;simp only[uS,wW,fV,iH,cO]at*
 omega
theorem N7(u v:Int):(F7 u).has v↔cO v/\v=u:=by
 unfold F7;rw[oP];refine and_congr_right fun a=>?_;simp only[uS,wW];omega
theorem BF(u:Int):fH (Ch u):=kH _ _
theorem Io(u:Int):fH (J4 u):=kH _ _
theorem BP(u:Int):fH (F7 u):=kH _ _
theorem dzK(u:Int):ZC (Ch u) (F7 u)=J4 u:=wP (G9 (BF u) (BP u)) (Io u) fun v=>by
 rw[CF,NK,N7,NQ,<-and_or_left];exact and_congr_right fun _=>zo
end Cl
namespace Cl
def kr(u v:Int):Prop:=max u (-u)<max v (-v)\/(max u (-u)=max v (-v)/\v<u)
instance (u v:Int):Decidable (kr u v):=by unfold kr;infer_instance
theorem EZ(u:Int):¬kr u u:=by unfold kr;omega
theorem qR{a b c:Int}(h:kr a b)(k:kr b c):kr a c:=by unfold kr at*;omega
theorem uU{a b:Int}(h:a≠b):kr a b\/kr b a:=by unfold kr;omega
theorem ow{a b:Int}(h:kr a b):¬kr b a:=by unfold kr at*;omega
structure nU (p:Int->Prop) (r:Option Int):Prop where
 no:r=none->∀u,¬p u
 one:∀u,r=some u->p u/\∀v,p v->v=u\/kr u v
theorem nU.unique{p:Int->Prop}{r s:Option Int}(h:nU p r)(k:nU p s):r=s:=by
 cases r with
 |none=>cases s with
  |none=>rfl
  |some u=>exact absurd (k.one u rfl).1 (h.no rfl u)
 |some u=>cases s with
  |none=>exact absurd (h.one u rfl).1 (k.no rfl u)
  |some v=>
   obtain⟨f,d⟩:=h.one u rfl;obtain⟨c,b⟩:=k.one v rfl;rcases d v c with e|e
   .rw[e]
   .rcases b u f with a|a
    .rw[a]
    .exact absurd e (ow a)
theorem nU.congr{p q:Int->Prop}{r:Option Int}(h:nU p r)(e:∀u,p u↔q u):nU q r:=
 ⟨fun a u c=>h.no a u ((e u).2 c),fun u a=>⟨(e u).1 (h.one u a).1,fun v b=>(h.one u a).2 v ((e v).2 b)⟩⟩
def gu:List Int->Option Int->Option Int
 |[],b=>b
 |u::l,none=>gu l (some u)
 |u::l,some b=>gu l (some (if kr u b then u else b))
theorem yx:∀(l:List Int) (b:Option Int),nU (fun u=>u∈l\/b=some u) (gu l b)
 |[],none=>⟨fun _ u n=>(by simp at n),fun u e=>(by cases e)⟩
 | [],some b=>⟨fun h=>qeF,fun u e=>⟨.inr e,fun v g=>by
  rcases g with g|g
  .cases g
  .rw[show gu [] (some b)=some b from rfl]at e;rw[e]at g;cases g;exact .inl rfl⟩⟩
 |u::l,none=>by
  refine(yx l (some u)).congr fun v=>?_;simp only[yA,Option.some.injEq,reduceCtorEq,or_false];constructor
  .rintro(h|h)
   .exact .inr h
   .exact .inl h.symm
  .rintro(h|h)
   .exact .inr h.symm
   .exact .inl h
 |u::l,some b=>by
  have j:=yx l (some (if kr u b then u else b));refine⟨fun e v g=>?_,fun v e=>?_⟩
  .exact j.no e (if kr u b then u else b) (.inr rfl)
  .obtain⟨f,m⟩:=j.one v e;refine⟨?_,fun x d=>?_⟩
   .rcases f with f|f
    .exact .inl (zU _ f)
    .simp only[Option.some.injEq]at f;by_cases c:kr u b
     .rw[zK c]at f;exact .inl (by rw[f];exact yF ..)
     .rw[zJ c]at f;exact .inr (by rw[f])
   ·
    have a:=m (if kr u b then u else b) (.inr rfl);rcases d with d|d
    .rcases yA.1 d with d|d
     .subst d;by_cases c:kr x b
      .rw[zK c]at a;exact a
      .rw[zJ c]at a;by_cases k:x=b
       .rw[k];exact a
       .rcases uU k with i|i
        .exact absurd i c
        .rcases a with a|a
         .rw[<-a];exact .inr i
         .exact .inr (qR a i)
     .exact m x (.inl d)
    .simp only[Option.some.injEq]at d;subst d;by_cases c:kr u b
     .rw[zK c]at a;rcases a with a|a
      .rw[<-a];exact .inr c
      .exact .inr (qR a c)
     .rw[zJ c]at a;exact a
theorem nU.bz6{p:Int->Prop}{l:List Int}(k:∀u∈l,p u)(f:∀v,p v->∃u∈l,v=u\/kr u v):nU p (gu l none):=by
 have h:=yx l none;refine⟨fun d v c=>?_,fun u d=>?_⟩
 .obtain⟨u,i,-⟩:=f v c;exact h.no d u (.inl i)
 .obtain⟨h3,j⟩:=h.one u d;refine⟨k u qeA,fun v c=>?_⟩;obtain⟨x,g,a⟩:=f v c;rcases j x (.inl g)with b|b
  .subst b;exact a
  .rcases a with e|e
   .subst e;exact .inr b
   .exact .inr (qR b e)
def dC(s:dh)(mid:Int):Int:=if s.1 > 0 then s.1 else if s.2<0 then s.2 else mid
def dzP(x:NS):List Int:=x.i.map (fun s=>dC s 0*10000)++x.rf.map (fun s=>dC s 1)
def fF(x:NS):Option Int:=gu (dzP x) none
theorem ZV{x:NS}{s:dh}(a:s∈x.rf):∃t∈x.f,s=jm t:=by
 obtain⟨t,ht,rfl⟩:=yD.1 a;exact⟨t,ht,rfl⟩
theorem Sv{x:NS}{s:dh}(b:s∈x.rf){u:Int}(a:u%10000≠0)(d:s.1<=u)(c:u<=s.2):x.has u:=
 .inr ⟨a,(rV a).1 ⟨s,b,d,c⟩⟩
theorem bzW{x:NS}(h:fH x){s:dh}(a:s∈x.rf):s.1<=s.2/\s.1%10000≠0/\s.2%10000≠0:=by
 obtain⟨t,ht,rfl⟩:=ZV a;exact⟨jM.2 (h.nf.ok t ht),ww _,ww _⟩
theorem azp{x:NS}{s:dh}(a:s∈x.i){n:Int}(c:s.1<=n)(b:n<=s.2):x.has (n*10000):=fH.VE.1 ⟨s,a,c,b⟩
theorem XF{x:NS}{u:Int}(h:x.has u):(∃s∈x.i,∃n,u=n*10000/\s.1<=n/\n<=s.2)\/(∃s∈x.rf,u%10000≠0/\s.1<=u/\u<=s.2):=by
 rcases h with⟨d,s,a,c,b⟩|⟨d,c⟩
 .exact .inl ⟨s,a,u/10000,zo,c,b⟩
 .obtain⟨s,a,b,e⟩:=(rV d).2 c;exact .inr ⟨s,a,d,b,e⟩
theorem lQ{x:NS}(h:fH x):nU x.has (fF x):=by
 refine nU.bz6 (fun u b=>?_) fun v d=>?_
 .rcases yP.1 b with b|b
  .obtain⟨s,a,rfl⟩:=yD.1 b;have:=h.ni.ok s a;unfold dC
   split
   .exact azp a (xU _) this
   .split
    .exact azp a this (xU _)
    .exact azp a zo zo
  .obtain⟨s,a,rfl⟩:=yD.1 b;obtain⟨c,k,j⟩:=bzW h a;show x.has (dC s 1);unfold dC
   split
   .exact Sv a k (xU _) c
   .split
    .exact Sv a j c (xU _)
    .exact Sv a zD zo zo
 .rcases XF d with⟨s,a,n,rfl,g,f⟩|⟨s,a,i,g,f⟩
  .refine⟨dC s 0*10000,xI _ (yD.2 ⟨s,a,rfl⟩),?_⟩;unfold dC kr
   split
   .omega
   .split
    .omega
    .omega
  .refine⟨dC s 1,xS _ (yD.2 ⟨s,a,rfl⟩),?_⟩;unfold dC kr
   split
   .omega
   .split
    .omega
    .have:v≠0:=fun e=>i qeI;omega
def Ez:Option Int->Option Int->Int
 |none,none=>0
 |some _,none => -1
 |none,some _=>1
 |some u,some v=>if kr u v then -1 else 1
def rz(x y:NS):Int:=Ez (fF (gH x y)) (fF (gH y x))
def OP(p q:Int->Prop):Prop:=∃u,p u/\¬q u/\∀v,kr v u->(p v↔q v)
theorem Q6{x y:NS}(g:fH x)(f:fH y):rz x y = -1↔OP x.has y.has:=by
 have a:=lQ (ji g f);have b:=lQ (ji f g);have n:∀u,fF (gH x y)=some u->(∀v,fF (gH y x)=some v->kr u v)->OP x.has y.has:=fun u E D=>by
  obtain⟨t,m⟩:=a.one u E;obtain⟨l,F⟩:=(iM g f u).1 t;refine⟨u,l,F,fun v d=>⟨fun q=>?_,fun p=>?_⟩⟩
  .refine zP fun s=>?_;rcases m v ((iM g f v).2 ⟨q,s⟩)with rfl|h
   .exact EZ _ d
   .exact ow h d
  .refine zP fun s=>?_;have k:=(iM f g v).2 ⟨p,s⟩
   cases c:fF (gH y x)with
   |none=>exact b.no c v k
   |some z=>
    have w:=D z c;rcases(b.one z c).2 v k with rfl|h
    .exact ow w d
    .exact ow (qR w h) d
 constructor
 .intro h;unfold rz at h
  cases hr:fF (gH x y)with
  |none=>
   rw[hr]at h
   cases c:fF (gH y x)with
   |none=>rw[c]at h;simp[Ez]at h
   |some v=>rw[c]at h;simp[Ez]at h
  |some u=>
   rw[hr]at h;refine n u hr fun v c=>?_;rw[c]at h;simp only[Ez]at h
   split at h
   .assumption
   .simp at h
 .rintro⟨u,t,m,l⟩;have k:=(iM g f u).2 ⟨t,m⟩;unfold rz
  cases hr:fF (gH x y)with
  |none=>exact absurd k (a.no hr u)
  |some z=>
   cases c:fF (gH y x)with
   |none=>rfl
   |some v=>
    obtain⟨C,B⟩:=a.one z hr;obtain⟨A,G⟩:=b.one v c;have j:=(iM g f z).1 C;have i:=(iM f g v).1 A;have r:z=u:=by
     rcases B u k with e|e
     .exact e.symm
     .exact absurd ((l z e).1 j.1) j.2
    subst r;have o:kr z v:=by
     by_cases e:z=v
     .subst e;exact absurd i.1 m
     .rcases uU e with h|h
      .exact h
      .exact absurd ((l v h).2 i.1) i.2
    simp only[Ez,zK o]
theorem Yh{x y:NS}(c:fH x)(d:fH y):rz x y=0↔x=y:=by
 have a:=lQ (ji c d);have b:=lQ (ji d c);constructor
 .intro h;unfold rz at h;refine wP c d fun u=>?_
  cases hr:fF (gH x y)with
  |some z=>
   rw[hr]at h
   cases hs:fF (gH y x)with
   |none=>rw[hs]at h;simp[Ez]at h
   |some v=>rw[hs]at h;simp only[Ez]at h;split at h<;>simp at h
  |none=>
   cases hs:fF (gH y x)with
   |some v=>rw[hr,hs]at h;simp[Ez]at h
   |none=>
    constructor
    .exact fun f=>zP fun g=>a.no hr u ((iM c d u).2 ⟨f,g⟩)
    .exact fun f=>zP fun g=>b.no hs u ((iM d c u).2 ⟨f,g⟩)
 .rintro rfl;have e:gH x x=x9:=wP (ji c c) L9 fun u=>by
   rw[iM c c];exact⟨fun h=>absurd h.1 h.2,fun h=>absurd h (BQ u)⟩
  unfold rz;rw[e]
  rfl
theorem UA(x y:NS):rz x y = -1\/rz x y=0\/rz x y=1:=by
 unfold rz;cases fF (gH x y)<;>cases fF (gH y x)
 .exact .inr (.inl rfl)
 .exact .inr (.inr rfl)
 .exact .inl rfl
 .rename_i u v;by_cases h:kr u v
  .exact .inl (zK h)
  .exact .inr (.inr (zJ h))
theorem Yi{x y:NS}(b:fH x)(a:fH y):rz x y=1↔OP y.has x.has:=by
 rw[<-Q6 a b];unfold rz
 cases hr:fF (gH x y)with
 |none=>cases hs:fF (gH y x)<;>simp[Ez]
 |some u=>
  cases hs:fF (gH y x)with
  |none=>simp[Ez]
  |some v=>
   have f:=(iM b a u).1 ((lQ (ji b a)).one u hr).1;have d:=(iM a b v).1 ((lQ (ji a b)).one v hs).1;have c:u≠v:=fun e=>by subst e;exact f.2 d.1
   simp only[Ez];rcases uU c with h|h
   .rw[zK h,zJ (ow h)];simp
   .rw[zJ (ow h),zK h];simp
end Cl
namespace Cl
theorem uH{n a:Nat}(h:n<=a){es:List Ed}:∀{p:Int},bT n p es->bT a p es:=by
 induction es with
 |nil=>intro p _;trivial
 |cons e es ih=>intro p ⟨h1,h2,h3,h4,h5⟩;exact⟨h1,h2,zo,h4,ih h5⟩
theorem OW{n:Nat}{es:List Ed}{p q:Int}(h:bT n p es)(f:q<=p):bT n q es:=by
 cases es with
 |nil=>trivial
 |cons e es=>obtain⟨d,c,b,g,a⟩:=h;exact⟨d,c,b,zo,a⟩
theorem rM{n:Nat}{es fs:List Ed}:∀{p q:Int},bT n p es->(∀e∈es,(e.hi:Int)<=q)->p<=q->bT n q fs->bT n p (es++fs):=by
 induction es with
 |nil=>intro p q _ _ a b;exact OW b a
 |cons e es ih=>
  intro p q ⟨h1,h2,h3,h4,h5⟩ hq _ b;exact⟨h1,h2,h3,h4,ih h5 (fun x hx=>hq x qd4) (hq e zS) b⟩
theorem AR{n:Nat}{es fs:List Ed}:∀{p:Int},bT n p (es++fs)->bT n p es:=by
 induction es with
 |nil=>intro p _;trivial
 |cons e es ih=>intro p ⟨h1,h2,h3,h4,h5⟩;exact⟨h1,h2,h3,h4,ih h5⟩
theorem kG(es fs:List Ed)(b:Nat)(h:∀e∈es,¬(e.lo<=b/\b<=e.hi)):bH (es++fs) b=bH fs b:=by
 induction es with
 |nil=>rfl
 |cons e es ih=>
  simp only[xK,bH];rw[zJ (h e zS)];exact ih fun x hx=>h x qd4
theorem jU(es fs:List Ed)(b:Nat)(h:∃e∈es,e.lo<=b/\b<=e.hi):bH (es++fs) b=bH es b:=by
 induction es with
 |nil=>obtain⟨e,h,_⟩:=h;simp at h
 |cons e es ih=>
  simp only[xK,bH]
  split
  .rfl
  .rename_i d;obtain⟨x,a,c⟩:=h;rcases yA.1 a with rfl|a
   .exact absurd c d
   .exact ih ⟨x,a,c⟩
theorem uZ(es:List Ed)(b:Nat)(h:∀e∈es,¬(e.lo<=b/\b<=e.hi)):bH es b = -1:=by
 have:=kG es [] b h;simpa [bH]using this
theorem jl{n:Nat}{es:List Ed}:∀{p:Int},bT n p es->∀e∈es,p<e.lo/\e.lo<=e.hi/\0<=e.to/\e.to<n:=by
 induction es with
 |nil=>intro p _ e a;simp at a
 |cons x es ih=>
  intro p ⟨h1,h2,h3,h4,h5⟩ e a;rcases yA.1 a with rfl|a
  .exact⟨h4,h1,h2,h3⟩
  .have:=ih h5 e a;exact⟨zo,this.2⟩
theorem Ck{n:Nat}{es:List Ed}{x:Ed}:∀{p:Int},bT n p (es++[x])->∀e∈es,e.hi<x.lo:=by
 induction es with
 |nil=>intro p _ e a;simp at a
 |cons y es ih=>
  intro p ⟨h1,h2,h3,h4,h5⟩ e a;rcases yA.1 a with rfl|a
  .have:=(jl h5 x zS).1;omega
  .exact ih h5 e a
theorem Tg{es:List Ed}{x:Ed}(h:Merged es)(a:∀y,es.getLast?=some y->¬(y.to=x.to/\y.hi+1=x.lo)):Merged (es++[x]):=by
 induction es with
 |nil=>trivial
 |cons e es ih=>
  cases es with
  |nil=>exact⟨a e rfl,trivial⟩
  |cons f es=>exact⟨h.1,ih h.2 (fun y b=>a y (by simpa using b))⟩
theorem NE{es:List Ed}{x:Ed}{hi:Nat}(h:Merged (es++[x])):Merged (es++[⟨x.lo,hi,x.to⟩]):=by
 induction es with
 |nil=>trivial
 |cons e es ih=>
  cases es with
  |nil=>exact⟨h.1,trivial⟩
  |cons f es=>exact⟨h.1,ih h.2⟩
def kZ(es:List Ed)(lo hi:Nat)(to:Nat):List Ed:=match es.getLast? with
 |some e=>if e.to=to/\e.hi+1=lo then es.dropLast++[⟨e.lo,hi,to⟩]else es++[⟨lo,hi,to⟩]
 |none=>es++[⟨lo,hi,to⟩]
theorem Pz{n:Nat}{es:List Ed}{lo hi to:Nat}(o:bT n (-1) es)(g:∀e∈es,e.hi<lo)(p:lo<=hi)(h256:hi<256)(k:to<n)(t:iN es)(s:Merged es):
 bT n (-1) (kZ es lo hi to)/\(∀e∈kZ es lo hi to,e.hi<=hi)/\iN (kZ es lo hi to)/\Merged (kZ es lo hi to) /\
  ∀b,bH (kZ es lo hi to) b=if lo<=b/\b<=hi then(to:Int)else bH es b:=by
 have plain:(∀y,es.getLast?=some y->¬(y.to=(to:Int)/\y.hi+1=lo))->bT n (-1) (es++[⟨lo,hi,to⟩])/\(∀e∈es++[⟨lo,hi,to⟩],e.hi<=hi)/\iN (es++[⟨lo,hi,to⟩])/\Merged (es++[⟨lo,hi,to⟩]) /\
  ∀b,bH (es++[⟨lo,hi,to⟩]) b=if lo<=b/\b<=hi then(to:Int)else bH es b:=by
  intro A;refine⟨rM (q:=(lo:Int)-1) o (fun e a=>by have:=g e a;omega) zo ⟨p,zS,by simpa using k,by show(lo:Int)-1<(lo:Int);omega,trivial⟩,?_,?_,Tg s A,?_⟩
  .intro e a;rcases yP.1 a with h|h
   .have:=g e h;omega
   .simp only[zZ]at h;subst h;exact zI _
  .intro e a;rcases yP.1 a with h|h
   .exact t e h
   .exact qcH
  .intro b;by_cases c:lo<=b/\b<=hi
   .rw[zK c,kG _ _ _ (fun e a=>by have:=g e a;omega)];simp[bH,c]
   .rw[zJ c];by_cases d:∃e∈es,e.lo<=b/\b<=e.hi
    .exact jU _ _ _ d
    .have m:∀e∈es,¬(e.lo<=b/\b<=e.hi):=fun e a h=>d ⟨e,a,h⟩;rw[kG _ _ _ m,uZ _ _ m];simp[bH,c]
 unfold kZ
 split
 .rename_i e a
  split
  .rename_i r;obtain⟨l,C⟩:=r;obtain⟨fs,rfl⟩:∃fs,es=fs++[e]:=List.getLast?_eq_some_iff.1 a;rw[List.dropLast_concat];have i:=Ck o;have B:=(jl o e zS);have z:=g e zS;refine⟨rM (q:=(e.lo:Int)-1) (AR o) (fun x f=>by have:=i x f;omega) zo ⟨by show e.lo<=hi;omega,zS,by simpa using k,by show(e.lo:Int)-1<(e.lo:Int);omega,trivial⟩,?_,?_,?_,?_⟩
   .intro x f;rcases yP.1 f with h|h
    .have:=i x h;omega
    .simp only[zZ]at h;subst h;exact zI _
   .intro x f;rcases yP.1 f with h|h
    .exact t x qeE
    .exact qcH
   .have:=NE (hi:=hi) s
    rwa [l]at this
   .intro b;by_cases d:∃x∈fs,x.lo<=b/\b<=x.hi
    .obtain⟨x,f,v,u⟩:=d;have:=i x f;rw[jU _ _ _ ⟨x,f,v,u⟩,jU _ _ _ ⟨x,f,v,u⟩,zJ zo]
    .have m:∀x∈fs,¬(x.lo<=b/\b<=x.hi):=fun x f h=>d ⟨x,f,h⟩;rw[kG _ _ _ m,kG _ _ _ m];simp only[bH];by_cases c:lo<=b/\b<=hi
     .rw[zK c,zK zo]
     .rw[zJ c];by_cases w:e.lo<=b/\b<=e.hi
      .rw[zK zo,zK w,l]
      .rw[zJ zo,zJ w]
  .rename_i r;exact plain fun y j=>by rw[a]at j;cases j;exact r
 .rename_i a;exact plain fun y j=>by rw[a]at j;cases j
def dX(cf:Nat->Int)(o:List Nat)(t:Nat):Nat:=o.findIdx fun s=>cf s==cf t
def eu(cf:Nat->Int)(o:List Nat)(t:Nat):List Nat:=if dX cf o t<o.length then o else o++[t]
def Dif(cf:Nat->Int)(o:List Nat):Prop:=o.Pairwise fun a b=>cf a≠cf b
theorem GX(cf:Nat->Int)(o:List Nat)(t:Nat):dX cf o t<=o.length:=List.findIdx_le_length
theorem Xg{cf:Nat->Int}{o:List Nat}{t:Nat}(h:dX cf o t<o.length):cf (o[dX cf o t])=cf t:=by
 have:=List.findIdx_getElem (p:=fun s=>cf s==cf t) (w:=h);exact eq_of_beq this
theorem GY{cf:Nat->Int}{o x:List Nat}{t:Nat}(h:dX cf o t<o.length):dX cf (o++x) t=dX cf o t:=by
 unfold dX at*
 rw[List.findIdx_append,zK h]
theorem Xf{cf:Nat->Int}{o:List Nat}{t:Nat}(h:¬dX cf o t<o.length):dX cf (o++[t]) t=o.length:=by
 unfold dX at*
 rw[List.findIdx_append,zJ h];simp[List.findIdx_cons]
theorem SG{cf:Nat->Int}{o:List Nat}{t:Nat}(h:¬dX cf o t<o.length):∀s∈o,cf s≠cf t:=by
 intro s a e;exact h (List.findIdx_lt_length.2 ⟨s,a,by simpa using e⟩)
theorem czH{cf:Nat->Int}{o:List Nat}(t:Nat)(h:Dif cf o):Dif cf (eu cf o t):=by
 unfold eu
 split
 .exact h
 .rename_i d;exact List.pairwise_append.2 ⟨h,zS,fun a e b c=>by
   simp only[zZ]at c;subst c;exact SG d a e⟩
theorem czG{cf:Nat->Int}{o:List Nat}(h:Dif cf o){i j:Nat}(hi:i<o.length)(a:j<o.length)(e:cf o[i]=cf o[j]):i=j:=by
 have:=List.pairwise_iff_getElem.1 h;rcases Nat.lt_trichotomy i j with c|c|c
 .exact absurd e (this i j hi a c)
 .exact c
 .exact absurd e.symm (this j i a hi c)
theorem SK(cf:Nat->Int)(o:List Nat)(t:Nat):o <+: eu cf o t:=by
 unfold eu
 split
 .exact List.prefix_rfl
 .exact qc8
theorem G8(cf:Nat->Int)(o:List Nat)(t:Nat):dX cf (eu cf o t) t=dX cf o t/\dX cf o t<(eu cf o t).length:=by
 unfold eu
 split
 .rename_i h;exact⟨rfl,h⟩
 .rename_i h;have:=GX cf o t;exact⟨by rw[Xf h];omega,by simp;omega⟩
theorem Vt{cf:Nat->Int}{o o':List Nat}(h:o <+: o'){t:Nat}(ht:dX cf o t<o.length):dX cf o' t=dX cf o t:=by
 obtain⟨x,rfl⟩:=h;exact GY ht
theorem Nk{o o':List Nat}(h:o <+: o'){i:Nat}(hi:i<o.length):o'[i]'(xP hi h.length_le)=o[i]:=by
 obtain⟨x,rfl⟩:=h;exact xM hi
theorem SL{cf:Nat->Int}{o:List Nat}{t:Nat}:∀x∈eu cf o t,x∈o\/x=t:=by
 intro x a;unfold eu at a
 split at a
 .exact .inl a
 .simpa using a
theorem SN{cf:Nat->Int}{o:List Nat}{t:Nat}:(eu cf o t).length=o.length\/(eu cf o t).length=o.length+1/\dX cf o t=o.length:=by
 unfold eu
 split
 .exact .inl rfl
 .rename_i h;have:=GX cf o t;exact .inr ⟨zS,zo⟩
section
variable (cf:Nat->Int) (dl:Nat->Nat->Option Nat) (lo hi:Nat->Nat) (ac:Nat->Bool) (K:Nat)
def dO(s:Nat)(o:List Nat):Nat->List Nat×List Ed
 |0=>(o,[])
 |i+1=>match dl s i with
  |none=>dO s o i
  |some t=>(eu cf (dO s o i).1 t,kZ (dO s o i).2 (lo i) (hi i) (dX cf (dO s o i).1 t))
def dH:Nat->List Nat×aK
 |0=>([0],[])
 |k+1=>((dO cf dl lo hi ((dH k).1.getD k 0) (dH k).1 K).1,(dH k).2++[⟨ac ((dH k).1.getD k 0),(dO cf dl lo hi ((dH k).1.getD k 0) (dH k).1 K).2⟩])
structure Ivs:Prop where
 le:∀i,i<K->lo i<=hi i/\hi i<256
 sep:∀i j,i<j->j<K->hi i<lo j
 cover:∀b,b<256->∃i,i<K/\lo i<=b/\b<=hi i
def tgt(o:List Nat):Option Nat->Int
 |none => -1
 |some t=>dX cf o t
structure UY (N s:Nat) (o:List Nat) (i:Nat) (r:List Nat×List Ed):Prop where
 pre:o <+: r.1
 Fv:Dif cf r.1
 lt:∀x∈r.1,x<N
 wf:bT r.1.length (-1) r.2
 low:∀e∈r.2,∀j,i<=j->j<K->e.hi<lo j
 bytes:iN r.2
 Ee:Merged r.2
 step:∀j,j<i->∀b,lo j<=b->b<=hi j->bH r.2 b=tgt cf r.1 (dl s j)
 there:∀j,j<i->∀t,dl s j=some t->dX cf r.1 t<r.1.length
 new:∀p,o.length<=p->p<r.1.length->∃j,j<i/\∃t,dl s j=some t/\dX cf r.1 t=p
 seen:∀j,j<i->∀t,dl s j=some t->∀p,o.length<=p->p<dX cf r.1 t->∃j',j'<j/\∃t',dl s j'=some t'/\dX cf r.1 t'=p
variable {cf dl lo hi ac K}
theorem Vr{N s:Nat}{o:List Nat}(E:Ivs lo hi K)(P:Dif cf o)(B:∀x∈o,x<N)(D:∀i t,i<K->dl s i=some t->t<N):
 ∀i,i<=K->UY cf dl lo hi K N s o i (dO cf dl lo hi s o i):=by
 intro i
 induction i with
 |zero=>
  intro _
  exact⟨List.prefix_rfl,P,B,trivial,fun e l=>by simp[dO]at l,fun e l=>by simp[dO]at l,trivial,fun j m=>zo,fun j m=>zo,fun p n k=>by simp[dO]at k;omega,fun j m=>zo⟩
 |succ i a=>
  intro O;have a:=a zo;have A:=E.le i zo
  cases hc:dl s i with
  |none=>
   have e:dO cf dl lo hi s o (i+1)=dO cf dl lo hi s o i:=by simp[dO,hc]
   rw[e];generalize dO cf dl lo hi s o i=r at*
   refine⟨a.pre,a.Fv,a.lt,a.wf,fun e l j m=>a.low e l j zo,a.bytes,a.Ee,?_,?_,?_,?_⟩
   .intro j m b n k;by_cases c:j=i
    .subst c;rw[hc];show _=(-1:Int);apply uZ;intro e l;have:=a.low e l j (zI _) zo;omega
    .exact a.step j zo b n k
   .intro j m t ht;by_cases c:j=i
    .subst c;rw[hc]at ht;cases ht
    .exact a.there j zo t ht
   .intro p n k;obtain⟨j,m,h⟩:=a.new p n k;exact⟨j,zo,h⟩
   .intro j m t ht;by_cases c:j=i
    .subst c;rw[hc]at ht;cases ht
    .exact a.seen j zo t ht
  |some t=>
   have e:dO cf dl lo hi s o (i+1)=(eu cf (dO cf dl lo hi s o i).1 t,kZ (dO cf dl lo hi s o i).2 (lo i) (hi i) (dX cf (dO cf dl lo hi s o i).1 t)):=by simp[dO,hc]
   rw[e];generalize dO cf dl lo hi s o i=r at*
   have q:=SK cf r.1 t;have f:=G8 cf r.1 t;have z:=q.length_le;obtain⟨L,J,I,H,G⟩:=Pz (to:=dX cf r.1 t) (uH z a.wf) (fun e l=>a.low e l i (zI _) zo) A.1 A.2 f.2 a.bytes a.Ee;have d:∀j,j<i->∀u,dl s j=some u->dX cf (eu cf r.1 t) u=dX cf r.1 u:=fun j m u g=>Vt q (a.there j m u g);refine⟨a.pre.trans q,czH t a.Fv,?_,L,?_,I,H,?_,?_,?_,?_⟩
   .intro x M;rcases SL x M with h|h
    .exact a.lt x h
    .subst h;exact D i _ zo hc
   .intro e l j m C;have n:=J e l;have k:=E.sep i j zo C;omega
   .intro j m b n k;show bH (kZ r.2 (lo i) (hi i) (dX cf r.1 t)) b=tgt cf (eu cf r.1 t) (dl s j);rw[G];by_cases c:j=i
    .subst c;rw[zK ⟨n,k⟩,hc];show _=((dX cf (eu cf r.1 t) t:Nat):Int);rw[f.1]
    .have:=E.sep j i zo zo;rw[zJ zo,a.step j zo b n k]
     cases g:dl s j with
     |none=>rfl
     |some u=>simp only[tgt];rw[d j zo u g]
   .intro j m u g;by_cases c:j=i
    .subst c;rw[hc]at g;cases g;show dX cf (eu cf r.1 t) t<(eu cf r.1 t).length;rw[f.1];exact f.2
    .have:=a.there j zo u g;show dX cf (eu cf r.1 t) u<(eu cf r.1 t).length;rw[d j zo u g];omega
   .intro p n k;have k:p<(eu cf r.1 t).length:=k;by_cases c:p<r.1.length
    .obtain⟨j,m,u,g,l⟩:=a.new p n c;exact⟨j,zo,u,g,by rw[<-l];exact d j m u g⟩
    .rcases SN (cf:=cf) (o:=r.1) (t:=t)with h|⟨h,h'⟩
     .omega
     .exact⟨i,zo,t,hc,by show dX cf (eu cf r.1 t) t=p;rw[f.1];omega⟩
   .intro j m u g p n k;have k:p<dX cf (eu cf r.1 t) u:=k;by_cases c:j=i
    .subst c;rw[hc]at g;cases g;rw[f.1]at k;have:=GX cf r.1 t;obtain⟨w,v,u,g,l⟩:=a.new p n zo;exact⟨w,v,u,g,by rw[<-l];exact d w v u g⟩
    .rw[d j zo u g]at k;obtain⟨w,v,F,y,l⟩:=a.seen j zo u g p n k;exact⟨w,v,F,y,by rw[<-l];exact d w zo F y⟩
structure ezT (cf:Nat->Int) (dl:Nat->Nat->Option Nat) (lo hi:Nat->Nat) (ac:Nat->Bool) (K N k:Nat) (r:List Nat×aK):Prop where
 first:r.1[0]?=some 0
 Fv:Dif cf r.1
 lt:∀x∈r.1,x<N
 len:r.2.length=k
 state:∀j,(h:j<r.2.length)->∃h':j<r.1.length,(r.2[j]).bW=ac r.1[j]/\bT r.1.length (-1) (r.2[j]).bu/\iN (r.2[j]).bu/\Merged (r.2[j]).bu /\
  ∀i,i<K->(∀b,lo i<=b->b<=hi i->bH (r.2[j]).bu b=tgt cf r.1 (dl r.1[j] i))/\∀t,dl r.1[j] i=some t->dX cf r.1 t<r.1.length
 reach:∀p,0<p->p<r.1.length->∃j,j<k/\j<p/\∃i,i<K/\∃t,dl (r.1.getD j 0) i=some t/\dX cf r.1 t=p
 seen:∀j,j<k->∀i,i<K->∀t,dl (r.1.getD j 0) i=some t->∀p,0<p->p<dX cf r.1 t ->
  ∃j' i',(j'<j\/j'=j/\i'<i)/\i'<K/\∃t',dl (r.1.getD j' 0) i'=some t'/\dX cf r.1 t'=p
theorem qX{o o':List Nat}(h:o <+: o'){i:Nat}(hi:i<o.length):o'.getD i 0=o.getD i 0:=by
 have a:=xP hi h.length_le;simp[hi,a,Nk h hi]
theorem F8{N:Nat}(V:Ivs lo hi K)(h0:0<N)(J:∀s i t,s<N->i<K->dl s i=some t->t<N):
 ∀k,(∀j,j<k->j<(dH cf dl lo hi ac K j).1.length)->ezT cf dl lo hi ac K N k (dH cf dl lo hi ac K k):=by
 intro k
 induction k with
 |zero=>
  intro _
  exact⟨rfl,by simp[dH,Dif],fun x I=>by simp[dH]at I;omega,rfl,fun j h=>by simp[dH]at h,fun p B n=>by simp[dH]at n;omega,fun j o=>zo⟩
 |succ k ih=>
  intro hk;have ih:=ih fun j o=>hk j zo;have m:=hk k zo;have Q:(dH cf dl lo hi ac K (k+1)).1=(dO cf dl lo hi ((dH cf dl lo hi ac K k).1.getD k 0) (dH cf dl lo hi ac K k).1 K).1:=rfl;have P:(dH cf dl lo hi ac K (k+1)).2=(dH cf dl lo hi ac K k).2++[⟨ac ((dH cf dl lo hi ac K k).1.getD k 0),(dO cf dl lo hi ((dH cf dl lo hi ac K k).1.getD k 0) (dH cf dl lo hi ac K k).1 K).2⟩]:=rfl;generalize U:dH cf dl lo hi ac K (k+1)=S at*
  generalize dH cf dl lo hi ac K k=r at*
  have T:r.1.getD k 0<N:=ih.lt _ (by simp[m]);have R:=Vr (cf:=cf) (s:=r.1.getD k 0) V ih.Fv ih.lt (fun i t hi ht=>J _ i t T hi ht) K (zI _);obtain⟨z,q2⟩:=S;simp only at Q P;generalize hq:dO cf dl lo hi (r.1.getD k 0) r.1 K=q at*
  obtain⟨qo,C⟩:=q;subst Q;subst P;have a:=R.pre;have w:=a.length_le;simp only at R a w;have g:∀j,j<k->∀i,i<K->∀t,dl (r.1.getD j 0) i=some t->dX cf z t=dX cf r.1 t/\dX cf r.1 t<r.1.length:=by
   intro j o i e t ht;obtain⟨H,-,-,-,-,W⟩:=ih.state j (by rw[ih.len];exact o);have O:=(W i e).2 t (by simpa [H]using ht);exact⟨Vt a O,O⟩
  refine⟨?_,R.Fv,R.lt,by simp[ih.len],?_,?_,?_⟩
  .obtain⟨x,I⟩:=a;show z[0]?=some 0;rw[<-I,yK zo];exact ih.first
  .intro j o;by_cases c:j<k
   .obtain⟨H,B,n,Z,Y,X⟩:=ih.state j qeN;have M:(r.2++[⟨ac (r.1.getD k 0),C⟩])[j]'o=r.2[j]'qeN:=xM qeN;have L:=Nk a H;refine⟨by show j<z.length;omega,?_⟩;show((r.2++[⟨ac (r.1.getD k 0),C⟩])[j]'o).bW=_/\_;simp only[M,L];refine⟨B,uH w n,Z,Y,fun i e=>⟨fun b b1 b2=>?_,fun t ht=>?_⟩⟩
    .rw[(X i e).1 b b1 b2]
     cases hu:dl r.1[j] i with
     |none=>rfl
     |some u=>simp only[tgt];rw[(g j c i e u (by simpa [H]using hu)).1]
    .have:=g j c i e t (by simpa [H]using ht);omega
   .have:j=k:=by simp[ih.len]at o;omega
    subst this;have M:(r.2++[⟨ac (r.1.getD j 0),C⟩])[j]'o=⟨ac (r.1.getD j 0),C⟩:=by
     rw[List.getElem_append_right (by rw[ih.len];omega)];simp[ih.len]
    have L:=Nk a m;have ed:r.1.getD j 0=r.1[j]:=by simp[m]
    refine⟨by show j<z.length;omega,?_⟩;show((r.2++[⟨ac (r.1.getD j 0),C⟩])[j]'o).bW=_/\_;simp only[M,L];rw[ed]at R⊢;exact⟨rfl,R.wf,R.bytes,R.Ee,fun i e=>⟨R.step i e,R.there i e⟩⟩
  .intro p B n;have n:p<z.length:=n;by_cases c:p<r.1.length
   .obtain⟨j,o,F,i,e,t,ht,v⟩:=ih.reach p B c;refine⟨j,zo,F,i,e,t,?_,?_⟩
    .rw[qX a zo];exact ht
    .rw[<-v];exact(g j o i e t ht).1
   .obtain⟨i,e,t,ht,v⟩:=R.new p zo n;refine⟨k,zo,zo,i,e,t,?_,v⟩;rw[qX a m];exact ht
  .intro j o i e t ht p B n;have n:p<dX cf z t:=n;have ht:dl (z.getD j 0) i=some t:=ht;by_cases c:j<k
   .rw[qX a zo]at ht;rw[(g j c i e t ht).1]at n;obtain⟨D,A,E,f,y,l,v⟩:=ih.seen j c i e t ht p B n;refine⟨D,A,E,f,y,?_,?_⟩
    .rw[qX a zo];exact l
    .rw[<-v];exact(g D zo A f y l).1
   .have:j=k:=zo;subst this;rw[qX a m]at ht;by_cases d:p<r.1.length
    .obtain⟨D,G,F,A,f,y,l,v⟩:=ih.reach p B d;refine⟨D,A,.inl G,f,y,?_,?_⟩
     .rw[qX a zo];exact l
     .rw[<-v];exact(g D G A f y l).1
    .obtain⟨A,f,y,l,v⟩:=R.seen i e t ht p zo n;refine⟨j,A,.inr ⟨rfl,f⟩,zo,y,?_,v⟩;rw[qX a m];exact l
end
structure zq (T:aK) (N:Nat) (cf:Nat->Int) (dl:Nat->Nat->Option Nat) (lo hi:Nat->Nat) (ac:Nat->Bool) (K:Nat):Prop where
 iv:Ivs lo hi K
 pos:0<N
 some:∀s i t,s<N->i<K->dl s i=some t->t<N/\(∃w,aH T t w=true)/\∀b,lo i<=b->b<=hi i->∀w,aH T (cu T s b) w=aH T t w
 none:∀s i,s<N->i<K->dl s i=none->∀b,lo i<=b->b<=hi i->∀w,aH T (cu T s b) w=false
 cB:∀s t,s<N->t<N->(cf s=cf t↔∀w,aH T s w=aH T t w)
 acc:∀s,s<N->ac s=bL T s
 live:∃w,aH T 0 w=true
theorem Ms{T:aK}{N:Nat}{cf:Nat->Int}{dl:Nat->Nat->Option Nat}{lo hi:Nat->Nat}{ac:Nat->Bool}{K k:Nat}(H:zq T N cf dl lo hi ac K)
(hk:∀j,j<k->j<(dH cf dl lo hi ac K j).1.length)(Q:(dH cf dl lo hi ac K k).1.length=k):
 bZ (dH cf dl lo hi ac K k).2/\∀w,aH (dH cf dl lo hi ac K k).2 0 w=aH T 0 w:=by
 have B:=F8 (cf:=cf) (ac:=ac) H.iv H.pos (fun s i t x v R=>(H.some s i t x v R).1) k hk;generalize dH cf dl lo hi ac K k=r at*
 obtain⟨o,out⟩:=r;simp only at*
 have A:=B.len;simp only at A;have f:∀j,(h:j<o.length)->o[j]<N:=fun j h=>B.lt _ (zF h);have m:∀j,(h:j<o.length)->∀b,b<256->∃i,i<K/\lo i<=b/\b<=hi i/\cu out j b=tgt cf o (dl o[j] i):=by
  intro j h b Y;obtain⟨i,a,x,v⟩:=H.iv.cover b Y;obtain⟨y,-,-,-,-,L⟩:=B.state j qew;refine⟨i,a,x,v,?_⟩;rw[iW out j b zo];exact(L i a).1 b x v
 have z:∀j,(h:j<o.length)->∀i,i<K->∀t,dl o[j] i=some t->∃M:dX cf o t<o.length,cf o[dX cf o t]=cf t:=by
  intro j h i a t ht;obtain⟨y,-,-,-,-,L⟩:=B.state j qew;have:=(L i a).2 t ht;exact⟨this,Xg this⟩
 have g:∀w,∀j,(h:j<o.length)->aH out j w=aH T o[j] w:=by
  intro w
  induction w with
  |nil=>
   intro j h;obtain⟨y,v,-⟩:=B.state j qew;simp only[aH];rw[lY out j zo]
   exact v.trans (H.acc _ (f j h))
  |cons b w ih=>
   intro j h;simp only[aH];obtain⟨i,a,x,v,e⟩:=m j h b.toNat b.toNat_lt;rw[e]
   cases hd:dl o[j] i with
   |none=>
    rw[H.none _ i (f j h) a hd _ x v w]
    exact gL (by simp[tgt]) w
   |some t=>
    obtain⟨M,X⟩:=z j h i a t hd;have n:=H.some _ i t (f j h) a hd;show aH out (dX cf o t:Nat) w=_;rw[ih _ M,n.2.2 _ x v w];exact(H.cB _ _ (f _ M) n.1).1 X w
 have W:=B.first;simp only at W;have h0:0<o.length:=by
  cases o with
  |nil=>simp at W
  |cons _ _=>simp
 have O:o[0]=0:=by
  obtain⟨h,e⟩:=yB.1 W;exact e
 have F:∀j,(h:j<o.length)->∃w,aH T o[j] w=true:=by
  intro j h;by_cases c:j=0
  .subst c;simp only[O];exact H.live
  .obtain⟨d,I,P,i,a,t,ht,l⟩:=B.reach j zo h;have q:d<o.length:=zo;have ht:dl o[d] i=some t:=by simpa [q]using ht
   obtain⟨M,X⟩:=z d q i a t ht;have n:=H.some _ i t (f d q) a ht;obtain⟨w,S⟩:=n.2.1;have l:dX cf o t=j:=l;refine⟨w,?_⟩;rw[<-S];subst l;exact(H.cB _ _ (f _ M) n.1).1 X w
 refine⟨⟨?_,?_,?_,?_,?_,?_,?_⟩,?_⟩
 .intro s n;obtain⟨j,J,rfl⟩:=yT.1 n;obtain⟨y,-,R,-⟩:=B.state j J;show bT out.length _ _;have R:bT o.length (-1) out[j].bu:=R
  rwa [A,<-Q]
 .intro s n;obtain⟨j,J,rfl⟩:=yT.1 n;obtain⟨y,-,-,h4,-⟩:=B.state j J;exact h4
 .intro s n;obtain⟨j,J,rfl⟩:=yT.1 n;obtain⟨y,-,-,-,h5,-⟩:=B.state j J;exact h5
 .intro j J;obtain⟨w,S⟩:=F j zo;exact⟨w,(g w j zo).trans S⟩
 .intro i j a J l;refine czG B.Fv (show i<o.length by omega) (show j<o.length by omega) ?_;refine(H.cB _ _ (f _ _) (f _ _)).2 fun w=>?_;rw[<-g w i zo,<-g w j zo,l w]
 .intro j b t Y ht p x v;by_cases c:j<o.length
  .obtain⟨i,a,b1,b2,e⟩:=m j c b Y;rw[ht]at e
   cases hd:dl o[j] i with
   |none=>rw[hd]at e;simp[tgt]at e
   |some u=>
    rw[hd]at e;have e:t=dX cf o u:=by simp only[tgt]at e;omega
    obtain⟨d,D,V,C,Z,E,l⟩:=B.seen j zo i a u (by simpa [c]using hd) p x (by show p<dX cf o u;omega);have I:d<o.length:=zo;have E:dl o[d] D=some Z:=by simpa [I]using E
    have l:dX cf o Z=p:=l;have G:=H.iv.le D C;obtain⟨y,-,-,-,-,L⟩:=B.state d (by show d<out.length;omega);refine⟨d,lo D,zo,?_,?_⟩
    .rcases V with h|⟨h,y⟩
     .exact .inl h
     .refine .inr ⟨h,?_⟩;have:=H.iv.sep D i y a;omega
    .rw[iW out d _ zo];have:=(L D C).1 (lo D) (zI _) G.1;refine this.trans ?_;show tgt cf o (dl o[d] D)=_;rw[E];simp[tgt,l]
  .rw[iq out j b zo]at ht;omega
 .intro t x v;obtain⟨d,I,P,i,a,u,U,l⟩:=B.reach t x (by show t<o.length;omega);have q:d<o.length:=zo;have U:dl o[d] i=some u:=by simpa [q]using U
  have l:dX cf o u=t:=l;have G:=H.iv.le i a;obtain⟨y,-,-,-,-,L⟩:=B.state d (by show d<out.length;omega);refine⟨d,lo i,P,zo,?_⟩;rw[iW out d _ zo];have:=(L i a).1 (lo i) (zI _) G.1;refine this.trans ?_;show tgt cf o (dl o[d] i)=_;rw[U];simp[tgt,l]
 .intro w;have:=g w 0 h0;rw[O]at this;exact this
end Cl
namespace Cl
theorem lM{α:Type}[DecidableEq α]:∀(l l':List α),l.Nodup->(∀x∈l,x∈l')->l.length<=l'.length:=by
 intro l
 induction l with
 |nil=>intro l' _ _;simp
 |cons a l ih=>
  intro l' b c;have b:=List.nodup_cons.1 b;have d:a∈l':=c a zS;have:=ih (l'.erase a) b.2 fun x hx=>(List.mem_erase_of_ne (fun e=>b.1 (by rw[<-e];exact hx))).2 (c x qd4);have g:=List.length_erase_of_mem d;have f:=List.length_pos_of_mem d;exact qdn
theorem bzI{a b:Nat}(f:Nat->Nat)(h:∀v,v<a->∃u,u<b/\f u=v):a<=b:=by
 have:=lM (List.range a) ((List.range b).map f) List.nodup_range (fun x c=>by
  obtain⟨u,d,e⟩:=h x (yQ.1 c);exact yD.2 ⟨u,yQ.2 d,e⟩)
 exact qbe
theorem Za{a:Nat}(f:Nat->Nat)(h:∀v,v<a->∃u,u<a/\f u=v){i j:Nat}(hi:i<a)(l:j<a)(e:f i=f j):i=j:=by
 apply zP;intro b;have:=lM (List.range a) (((List.range a).erase j).map f) List.nodup_range (fun x g=>by
  obtain⟨u,k,d⟩:=h x (yQ.1 g);by_cases c:u=j
  .subst c;exact yD.2 ⟨i,(List.mem_erase_of_ne b).2 (yQ.2 hi),by rw[e];exact d⟩
  .exact yD.2 ⟨u,(List.mem_erase_of_ne c).2 (yQ.2 k),d⟩)
 rw[xC,List.length_erase_of_mem (yQ.2 l),List.length_range]at this;omega
theorem K6{α:Type}:∀{l:List α},l.Nodup->∀{i j:Nat} (hi:i<l.length) (a:j<l.length),l[i]=l[j]->i=j:=by
 intro l b i j hi a e;have:=List.pairwise_iff_getElem.1 b;rcases Nat.lt_trichotomy i j with c|c|c
 .exact absurd e (this i j hi a c)
 .exact c
 .exact absurd e.symm (this j i a hi c)
def gX(f:Nat->List Int):Nat->List (List Int)×List Int
 |0=>([],[])
 |k+1=>(if(gX f k).1.findIdx (·==f k)<(gX f k).1.length then(gX f k).1 else(gX f k).1++[f k],(gX f k).2++[((gX f k).1.findIdx (·==f k):Int)])
structure Cc (f:Nat->List Int) (k:Nat) (r:List (List Int)×List Int):Prop where
 nodup:r.1.Nodup
 len:r.2.length=k
 le:r.1.length<=k
 at_:∀s,s<k->∃p:Nat,r.2[s]?=some (p:Int)/\r.1[p]?=some (f s)
 from_:∀p,(h:p<r.1.length)->∃s,s<k/\f s=r.1[p]
theorem Vx(f:Nat->List Int):∀k,Cc f k (gX f k):=by
 intro k
 induction k with
 |zero=>exact⟨by simp[gX],rfl,by simp[gX],fun s h=>zo,fun p h=>by simp[gX]at h⟩
 |succ k ih=>
  have e:gX f (k+1)=(if(gX f k).1.findIdx (·==f k)<(gX f k).1.length then(gX f k).1 else(gX f k).1++[f k],(gX f k).2++[((gX f k).1.findIdx (·==f k):Int)]):=rfl;rw[e];generalize gX f k=r at*
  have q:r.1.findIdx (·==f k)<=r.1.length:=List.findIdx_le_length;have g:=ih.len;by_cases c:r.1.findIdx (·==f k)<r.1.length
  .rw[zK c];have t:r.1[r.1.findIdx (·==f k)]=f k:=by
    have:=List.findIdx_getElem (p:=(·==f k)) (w:=c);exact qbe
   refine⟨ih.nodup,by simp[g],by have:=ih.le;simp;omega,fun s n=>?_,fun p h=>?_⟩
   .by_cases d:s<k
    .obtain⟨p,l,i⟩:=ih.at_ s d;exact⟨p,by rw[yK zo];exact l,i⟩
    .have:s=k:=zo;subst this;exact⟨r.1.findIdx (·==f s),by rw[yN zo];simp[g],by simp[c,t]⟩
   .obtain⟨s,l,i⟩:=ih.from_ p h;exact⟨s,zo,i⟩
  .rw[zJ c];have j:f k ∉ r.1:=fun o=>c (List.findIdx_lt_length.2 ⟨f k,o,zS⟩);refine⟨?_,by simp[g],by have:=ih.le;simp;omega,fun s n=>?_,fun p h=>?_⟩
   .exact List.nodup_append.2 ⟨ih.nodup,zS,fun a u b m=>by
     simp only[zZ]at m;subst m;exact fun e=>j (e ▸ u)⟩
   .by_cases d:s<k
    .obtain⟨p,l,i⟩:=ih.at_ s d;refine⟨p,by show(r.2++_)[s]?=_;rw[yK zo];exact l,?_⟩;have:p<r.1.length:=(yB.1 i).1;show(r.1++[f k])[p]?=_;rw[yK this];exact i
    .have:s=k:=zo;subst this;refine⟨r.1.length,?_,zS⟩;show(r.2++_)[s]?=_;rw[yN zo];simp[g];omega
   .by_cases d:p<r.1.length
    .obtain⟨s,l,i⟩:=ih.from_ p d;exact⟨s,zo,by show _=(r.1++[f k])[p];rw[xM d];exact i⟩
    .have v:p<(r.1++[f k]).length:=h;have:p=r.1.length:=by simp at v;omega
     subst this;exact⟨k,zo,by show _=(r.1++[f k])[r.1.length];simp⟩
theorem Cc.I8{f:Nat->List Int}{k:Nat}{r:List (List Int)×List Int}(h:Cc f k r){s t:Nat}(j:s<k)(ht:t<k):r.2.getD s 0=r.2.getD t 0↔f s=f t:=by
 obtain⟨p,m,b⟩:=h.at_ s j;obtain⟨q,l,a⟩:=h.at_ t ht;simp only[yU,m,l,xA];refine⟨fun e=>?_,fun e=>?_⟩
 .have:p=q:=zo;subst this;rw[b]at a;simpa using a
 .obtain⟨i,g⟩:=yB.1 b;obtain⟨d,c⟩:=yB.1 a;have:=K6 h.nodup i d (by rw[g,c,e]);omega
theorem Cc.iQ{f:Nat->List Int}{k:Nat}{r:List (List Int)×List Int}(h:Cc f k r){s:Nat}(a:s<k):0<=r.2.getD s 0/\r.2.getD s 0<r.1.length:=by
 obtain⟨p,c,b⟩:=h.at_ s a;simp only[yU,c,xA];have:=(yB.1 b).1;omega
theorem Cc.fzS{f:Nat->List Int}{k:Nat}{r:List (List Int)×List Int}(h:Cc f k r){v:Nat}(a:v<r.1.length):∃s,s<k/\r.2.getD s 0=v:=by
 obtain⟨s,b,e⟩:=h.from_ v a;refine⟨s,b,?_⟩;obtain⟨p,i,g⟩:=h.at_ s b;obtain⟨d,c⟩:=yB.1 g;have:=K6 h.nodup d a (by rw[c,e]);simp[i,this]
def Mg(cB:List Int)(x:Int):Int:=if x<0 then x else cB.getD x.toNat 0
def sig(cB:List Int)(a:Nat->Nat->Int)(K:Nat)(s:Nat):List Int:=cB.getD s 0::(List.range K).map fun i=>Mg cB (a s i)
structure V7 (T:aK) (N:Nat) (lo hi:Nat->Nat) (K:Nat) (ta:Nat->Nat->Int):Prop where
 iv:Ivs lo hi K
 iQ:∀s i,s<N->i<K -> -1<=ta s i/\ta s i<N
 step:∀s i,s<N->i<K->∀b,lo i<=b->b<=hi i->∀w,aH T (cu T s b) w=aH T (ta s i) w
 neg:∀s t i,s<N->t<N->i<K->ta s i = -1->(∀w,aH T (ta t i) w=false)->ta t i = -1
def NEq(T:aK)(s t:Nat):Prop:=∀w,aH T s w=aH T t w
structure JN (T:aK) (N:Nat) (cB:List Int):Prop where
 len:cB.length=N
 iQ:∀x∈cB,0<=x/\x<N
 eq:∀s t,s<N->t<N->(cB.getD s 0=cB.getD t 0↔NEq T s t)
structure JF (T:aK) (N:Nat) (cB:List Int) (many:Nat):Prop where
 len:cB.length=N
 iQ:∀s,s<N->0<=cB.getD s 0/\cB.getD s 0<=N
 coarse:∀s t,s<N->t<N->NEq T s t->cB.getD s 0=cB.getD t 0
 acc:∀s t,s<N->t<N->cB.getD s 0=cB.getD t 0->bL T s=bL T t
 cnt:many=0\/(∀s,s<N->cB.getD s 0<many)/\∀v,v<many->∃s,s<N/\cB.getD s 0=v
theorem Xd{T:aK}{N:Nat}{cB:List Int}(d:1<=N)(c:cB.length=N)(h:∀s,s<N->cB.getD s 0=if bL T s=true then 1 else 0):JF T N cB 0:=by
 refine⟨c,fun s a=>?_,fun s t a ht b=>?_,fun s t a ht b=>?_,.inl rfl⟩
 .rw[h s a];split<;>omega
 .rw[h s a,h t ht];have:=b [];simp only[aH]at this;rw[this]
 .rw[h s a,h t ht]at b;cases h1:bL T s<;>cases h2:bL T t<;>simp[h1,h2]at b⊢
theorem ezu{T:aK}{N:Nat}{lo hi:Nat->Nat}{K:Nat}{c:Nat->Nat->Int}(H:V7 T N lo hi K c){s t i:Nat}(d:s<N)(ht:t<N)(a:i<K)(e:NEq T s t):
 ∀w,aH T (c s i) w=aH T (c t i) w:=by
 have b:=H.iv.le i a;intro w;rw[<-H.step s i d a (lo i) (zI _) b.1 w,<-H.step t i ht a (lo i) (zI _) b.1 w];exact KR e (lo i) zo w
theorem Xe{T:aK}{N:Nat}{lo hi:Nat->Nat}{K:Nat}{k:Nat->Nat->Int}(H:V7 T N lo hi K k)(Y:1<=N){cB:List Int}{n:Nat}(E:JF T N cB n):
 JF T N (gX (sig cB k K) N).2 (gX (sig cB k K) N).1.length/\n<=(gX (sig cB k K) N).1.length/\(gX (sig cB k K) N).1.length<=N/\1<=(gX (sig cB k K) N).1.length /\
  ((gX (sig cB k K) N).1.length=n->JN T N (gX (sig cB k K) N).2):=by
 have m:=Vx (sig cB k K) N;generalize gX (sig cB k K) N=r at*
 have q:∀s t,s<N->t<N->NEq T s t->sig cB k K s=sig cB k K t:=by
  intro s t a ht A;unfold sig;rw[E.coarse s t a ht A]
  congr 1
  apply xZ;intro i f;have f:=yQ.1 f;have o:=ezu H a ht f A;have U:=H.iQ s i a f;have S:=H.iQ t i ht f;unfold Mg;by_cases c:k s i<0
  .have B:k s i = -1:=zo;have:=H.neg s t i a ht f B (fun w=>by rw[<-o w,B];exact gL zo w);rw[B,this]
  .by_cases d:k t i<0
   .have B:k t i = -1:=zo;have:=H.neg t s i ht a f B (fun w=>by rw[o w,B];exact gL zo w);omega
   .rw[zJ c,zJ d];obtain⟨x,G⟩:=zT (by omega:0<=k s i);obtain⟨y,L⟩:=zT (by omega:0<=k t i);rw[G,L]at o⊢;exact E.coarse x y zo zo o
 have p:∀s t,s<N->t<N->r.2.getD s 0=r.2.getD t 0->cB.getD s 0=cB.getD t 0/\∀i,i<K->Mg cB (k s i)=Mg cB (k t i):=by
  intro s t a ht e;have e:=(m.I8 a ht).1 e;unfold sig at e;injection e with B R;refine⟨B,fun i f=>?_⟩;have:=congrArg (fun l=>l[i]?) R;simpa [f]using this
 have z:n<=r.1.length/\(r.1.length=n->∀s t,s<N->t<N->cB.getD s 0=cB.getD t 0->r.2.getD s 0=r.2.getD t 0):=by
  rcases E.cnt with Z|⟨Q,X⟩
  .refine⟨zo,fun e=>?_⟩;have:=(m.iQ (s:=0) zo).2;have:=(m.iQ (s:=0) zo).1;omega
  ·
   let g:Nat->Nat:=fun u=>if h:∃s,s<N/\r.2.getD s 0=u then(cB.getD h.choose 0).toNat else 0;have P:∀s,s<N->g (r.2.getD s 0).toNat=(cB.getD s 0).toNat:=by
    intro s a;have J:∃F,F<N/\r.2.getD F 0=((r.2.getD s 0).toNat:Int):=⟨s,a,by have:=(m.iQ a).1;omega⟩;show(if h:∃F,F<N/\r.2.getD F 0=((r.2.getD s 0).toNat:Int)then(cB.getD h.choose 0).toNat else 0)=_;rw[dif_pos J];have C:=J.choose_spec;have:=(p _ s C.1 a (by rw[C.2];have:=(m.iQ a).1;omega)).1;rw[this]
   have a:∀v,v<n->∃u,u<r.1.length/\g u=v:=by
    intro v M;obtain⟨s,a,e⟩:=X v M;have:=m.iQ a;exact⟨(r.2.getD s 0).toNat,zo,by rw[P s a,e];simp⟩
   refine⟨bzI g a,fun e s t I o A=>?_⟩;rw[<-e]at a;have U:=m.iQ I;have S:=m.iQ o;have:=Za g a (i:=(r.2.getD s 0).toNat) (j:=(r.2.getD t 0).toNat) zo zo (by rw[P s I,P t o,A]);omega
 have D:∀s t,s<N->t<N->r.2.getD s 0=r.2.getD t 0->bL T s=bL T t:=fun s t a ht e=>E.acc s t a ht (p s t a ht e).1;refine⟨⟨m.len,fun s a=>by have:=m.iQ a;have:=m.le;omega,fun s t a ht A=>(m.I8 a ht).2 (q s t a ht A),D,.inr ⟨fun s a=>(m.iQ a).2,fun v M=>m.fzS M⟩⟩,z.1,m.le,?_,fun e=>?_⟩
 .have:=m.iQ (s:=0) zo;omega
 .have O:=z.2 e;refine⟨m.len,fun x G=>?_,fun s t a ht=>⟨fun A=>?_,fun A=>(m.I8 a ht).2 (q s t a ht A)⟩⟩
  .obtain⟨s,Q,rfl⟩:=yT.1 G;have:=m.iQ (s:=s) (by rw[<-m.len];exact Q);have:=m.le;simp only[yU,Q,yH,xA]at*
   omega
  .intro w
   induction w generalizing s t with
   |nil=>simp only[aH];exact D s t a ht A
   |cons b w ih=>
    simp only[aH];obtain⟨i,f,W,V⟩:=H.iv.cover b.toNat b.toNat_lt;rw[H.step s i a f _ W V w,H.step t i ht f _ W V w];have U:=H.iQ s i a f;have S:=H.iQ t i ht f;have C:=(p s t a ht A).2 i f;unfold Mg at C;by_cases c:k s i<0
    .by_cases d:k t i<0
     .have B:k s i = -1:=zo;have R:k t i = -1:=zo;rw[B,R]
     .rw[zK c,zJ d]at C;have:=(E.iQ (k t i).toNat zo).1;omega
    .by_cases d:k t i<0
     .rw[zJ c,zK d]at C;have:=(E.iQ (k s i).toNat zo).1;omega
     .rw[zJ c,zJ d]at C;obtain⟨x,G⟩:=zT (by omega:0<=k s i);obtain⟨y,L⟩:=zT (by omega:0<=k t i);rw[G,L]at C⊢;exact ih x y zo zo (O x y zo zo C)
end Cl
namespace Cl
theorem iy:bZ []:=
 ⟨fun s a=>by simp at a,fun s a=>by simp at a,fun s a=>by simp at a,fun k hk=>by simp at hk,fun i j hi=>by simp at hi,fun k b t d ht=>by
  rw[iq [] k b zS]at ht;omega,fun t e c=>by simp at c⟩
theorem gK(x:List UInt8):aH [] 0 x=false:=jZ [] 0 x zS
def lex:List UInt8->List UInt8->Prop
 |[],[]=>False
 |[],_::_=>True
 |_::_,[]=>False
 |a::u,b::v=>a<b\/a=b/\lex u v
def CB(u v:List UInt8):Prop:=u.length<v.length\/u.length=v.length/\lex u v
theorem Im:∀u:List UInt8,¬lex u u
 |[],h=>h
 |_::u,h=>h.elim (fun h=>by simp at h) (fun h=>Im u h.2)
theorem Y4{a b c:UInt8}(h:a<b)(k:b<c):a<c:=UInt8.lt_trans h k
theorem Lh:∀{u v x:List UInt8},lex u v->lex v x->lex u x
 |[],[],_,h,_=>h.elim
 |[],_::_,[],_,k=>k.elim
 |[],_::_,_::_,_,_=>trivial
 |_::_,[],_,h,_=>h.elim
 |_::_,_::_,[],_,k=>k.elim
 |a::u,b::v,c::x,h,k=>by
  rcases h with h|⟨rfl,h⟩
  .rcases k with k|⟨rfl,k⟩
   .exact .inl (Y4 h k)
   .exact .inl h
  .rcases k with k|⟨rfl,k⟩
   .exact .inl k
   .exact .inr ⟨rfl,Lh h k⟩
theorem Li:∀u v:List UInt8,lex u v\/u=v\/lex v u
 |[],[]=>.inr (.inl rfl)
 |[],_::_=>.inl trivial
 |_::_,[]=>.inr (.inr trivial)
 |a::u,b::v=>by
  rcases Nat.lt_trichotomy a.toNat b.toNat with h|h|h
  .exact .inl (.inl (UInt8.lt_iff_toNat_lt.2 h))
  .obtain rfl:a=b:=UInt8.toNat_inj.1 h;rcases Li u v with h|h|h
   .exact .inl (.inr ⟨rfl,h⟩)
   .exact .inr (.inl (by rw[h]))
   .exact .inr (.inr (.inr ⟨rfl,h⟩))
  .exact .inr (.inr (.inl (UInt8.lt_iff_toNat_lt.2 h)))
theorem kV(u:List UInt8):¬CB u u:=fun h=>h.elim (fun h=>zo) (fun h=>Im u h.2)
theorem qD{u v x:List UInt8}(h:CB u v)(k:CB v x):CB u x:=by
 rcases h with h|⟨h,b⟩<;>rcases k with k|⟨k,a⟩
 .exact .inl zo
 .exact .inl zo
 .exact .inl zo
 .exact .inr ⟨zo,Lh b a⟩
theorem tJ(u v:List UInt8):CB u v\/u=v\/CB v u:=by
 rcases Nat.lt_trichotomy u.length v.length with h|h|h
 .exact qcT
 .rcases Li u v with k|k|k
  .exact .inl (.inr ⟨h,k⟩)
  .exact .inr (.inl k)
  .exact .inr (.inr (.inr ⟨h.symm,k⟩))
 .exact .inr (.inr (.inl h))
theorem tK{u v:List UInt8}(h:CB u v)(k:CB v u):False:=kV u (qD h k)
structure jL (f:List UInt8->Bool) (k:Nat) (r:List (List UInt8)):Prop where
 sorted:r.Pairwise CB
 mem:∀x∈r,f x=true
 le:r.length<=k
 rest:∀y,f y=true->y ∉ r->r.length=k/\∀x∈r,CB x y
theorem dz6{a b:List UInt8}(h:CB a b):a≠b:=fun e=>kV a (by rw[<-e]at h;exact h)
theorem Cy{r:List (List UInt8)}(h:r.Pairwise CB):r.Nodup:=h.imp dz6
theorem GI:∀{r t:List (List UInt8)},r.Pairwise CB->t.Pairwise CB->(∀x,x∈r↔x∈t)->r=t
 |[],[],_,_,_=>rfl
 |[],b::t,_,_,h=>absurd ((h b).2 zS) zS
 |a::r,[],_,_,h=>absurd ((h a).1 zS) zS
 |a::r,b::t,h1,h2,h=>by
  have g:=yS.1 h1;have f:=yS.1 h2;have e:a=b:=by
   rcases yA.1 ((h a).1 zS)with c|c
   .exact c
   .rcases yA.1 ((h b).2 zS)with i|i
    .exact i.symm
    .exact(tK (f.1 a c) (g.1 b i)).elim
  subst e;rw[GI g.2 f.2 fun x=>?_];constructor
  .intro d;rcases yA.1 ((h x).1 (zU _ d))with c|c
   .subst c;exact(kV _ (g.1 _ d)).elim
   .exact c
  .intro d;rcases yA.1 ((h x).2 (zU _ d))with c|c
   .subst c;exact(kV _ (f.1 _ d)).elim
   .exact c
theorem LQ{f:List UInt8->Bool}{k:Nat}{r t:List (List UInt8)}(h:jL f k r)(d:jL f k t):∀x∈r,x∈t:=by
 intro x c;apply zP;intro e;obtain⟨m,l⟩:=d.rest x (h.mem x c) e;have b:∀y∈t,y∈r:=by
  intro y a;apply zP;intro g;obtain⟨-,j⟩:=h.rest y (d.mem y a) g;exact tK (j x c) (l y a)
 have i:=lM (x::t) r (List.nodup_cons.2 ⟨e,Cy d.sorted⟩) (by
  intro y a;rcases yA.1 a with rfl|a
  .exact c
  .exact b y a)
 have:=h.le;simp only[yO]at i;omega
theorem NY{f:List UInt8->Bool}{k:Nat}{r t:List (List UInt8)}(h:jL f k r)(a:jL f k t):r=t:=
 GI h.sorted a.sorted fun x=>⟨LQ h a x,LQ a h x⟩
theorem jL.congr{f g:List UInt8->Bool}{k:Nat}{r:List (List UInt8)}(h:jL f k r)(e:∀w,f w=g w):jL g k r:=by
 exact qcO
def uD(l:aK):Nat->Int->List (List UInt8)
 |0,s=>if bL l s then[[]]else[]
 |n+1,s=>(List.range 256).flatMap fun b=>(uD l n (cu l s b)).map (UInt8.ofNat b::·)
theorem ez4(b:UInt8):UInt8.ofNat b.toNat=b:=by simp
theorem oQ(l:aK):∀(n:Nat) (s:Int) (w:List UInt8),w∈uD l n s↔w.length=n/\aH l s w=true
 |0,s,w=>by
  unfold uD
  cases w with
  |nil=>by_cases h:bL l s=true<;>simp[h,aH]
  |cons a w=>by_cases h:bL l s=true<;>simp[h]
 |n+1,s,w=>by
  unfold uD;simp only[xW,yQ,yD];constructor
  .rintro⟨b,f,v,e,rfl⟩;obtain⟨c,d⟩:=(oQ l n _ v).1 e;refine⟨by simp[c],?_⟩;simp only[aH];rw[show(UInt8.ofNat b).toNat=b by simp;omega];exact d
  .rintro⟨c,d⟩
   cases w with
   |nil=>simp at c
   |cons b v=>
    refine⟨b.toNat,b.toNat_lt,v,(oQ l n _ v).2 ⟨by simpa using c,d⟩,by rw[ez4]⟩
theorem xu{α:Type}{R:α->α->Prop}(f:Nat->List α):∀(l:List Nat),l.Pairwise (·<·)->(∀b∈l,(f b).Pairwise R)->(∀b∈l,∀c∈l,b<c->∀x∈f b,∀y∈f c,R x y)->(l.flatMap f).Pairwise R
 |[],_,_,_=>.nil
 |b::l,h,h1,h2=>by
  have k:=yS.1 h;rw[xO,List.pairwise_append];refine⟨h1 b zS,xu f l k.2 (fun c a=>h1 c (by simp[a])) (fun c a d i=>h2 c (by simp[a]) d (by simp[i])),?_⟩;intro x g y e;obtain⟨c,a,e⟩:=xW.1 e;exact h2 b zS c (by simp[a]) (k.1 c a) x g y e
theorem Gj(l:aK):∀(n:Nat) (s:Int),(uD l n s).Pairwise CB
 |0,s=>by
  unfold uD
  split<;>simp
 |n+1,s=>by
  unfold uD;refine xu _ _ List.pairwise_lt_range ?_ ?_
  .intro b _;rw[List.pairwise_map];refine(Gj l n _).imp fun {u v} h=>?_;rcases h with h|⟨d,a⟩
   .exact .inl qeE
   .exact .inr ⟨by simp[d],.inr ⟨rfl,a⟩⟩
  .intro b f c e m x i y g;obtain⟨u,k,rfl⟩:=yD.1 i;obtain⟨v,j,rfl⟩:=yD.1 g;have d:=((oQ l n _ u).1 k).1;have a:=((oQ l n _ v).1 j).1;have f:=yQ.1 f;have e:=yQ.1 e;refine .inr ⟨by simp[d,a],.inl (UInt8.lt_iff_toNat_lt.2 ?_)⟩;simp only[UInt8.toNat_ofNat'];omega
def lu(l:aK)(s:Int)(L:Nat):List (List UInt8):=(List.range L).flatMap fun n=>uD l n s
theorem pz(l:aK)(s:Int)(L:Nat)(w:List UInt8):w∈lu l s L↔w.length<L/\aH l s w=true:=by
 unfold lu;simp only[xW,yQ,oQ];exact⟨fun⟨n,b,a,c⟩=>⟨zo,c⟩,fun⟨b,a⟩=>⟨_,b,rfl,a⟩⟩
theorem Fq(l:aK)(s:Int)(L:Nat):(lu l s L).Pairwise CB:=by
 refine xu _ _ List.pairwise_lt_range (fun b _=>Gj l b s) ?_;intro b _ c _ e x d y a;have g:=((oQ l _ _ _).1 d).1;have f:=((oQ l _ _ _).1 a).1;exact .inl zo
theorem LY(l:aK)(s:Int)(L:Nat):lu l s (L+1)=lu l s L++uD l L s:=by
 unfold lu;rw[List.range_succ,List.flatMap_append];simp
theorem BN{l:aK}{s:Int}{L k:Nat}(h:k<=(lu l s L).length\/∀y,aH l s y=true->y.length<L):jL (aH l s) k ((lu l s L).take k):=by
 have c:=Fq l s L;refine⟨c.sublist (List.take_sublist _ _),fun x a=>((pz l s L x).1 (xX a)).2,List.length_take_le _ _,?_⟩;intro y f g;by_cases d:y∈lu l s L
 .have e:y∈(lu l s L).drop k:=by
   rw[<-List.take_append_drop k (lu l s L)]at d;rcases yP.1 d with b|b
   .exact absurd b g
   .exact b
  refine⟨?_,fun x a=>?_⟩
  .rw[List.length_take];have:k<(lu l s L).length:=by
    apply zP;intro hk;rw[zQ zo]at e;simp at e
   omega
  .rw[<-List.take_append_drop k (lu l s L),List.pairwise_append]at c;exact c.2.2 x a y e
 .have i:¬y.length<L:=fun b=>d ((pz l s L y).2 ⟨b,f⟩);rcases h with h|h
  .refine⟨by rw[List.length_take];omega,fun x a=>.inl ?_⟩;have:=((pz l s L x).1 (xX a)).1;omega
  .exact absurd (h y f) i
def wI(l:aK):Int->List UInt8->Int
 |s,[]=>s
 |s,b::w=>wI l (cu l s b.toNat) w
theorem pJ(l:aK):∀(u v:List UInt8) (s:Int),aH l s (u++v)=aH l (wI l s u) v
 |[],_,_=>rfl
 |_::u,v,_=>pJ l u v _
theorem sQ{l:aK}{s:Int}{w:List UInt8}(h:aH l s w=true):0<=s/\s<l.length:=by
 constructor
 .apply zP;intro a;rw[gL zo]at h;cases h
 .apply zP;intro a;rw[jZ l s w zo]at h;cases h
theorem Gt{l:aK}{s:Int}{y:List UInt8}(h:aH l s y=true)(i:Nat):0<=wI l s (y.take i)/\wI l s (y.take i)<l.length:=by
 refine sQ (w:=y.drop i) ?_;rw[<-pJ,List.take_append_drop];exact h
theorem pump{l:aK}{s:Int}{y:List UInt8}(h:aH l s y=true)(m:l.length<=y.length):∃c,aH l s c=true/\c.length<y.length/\y.length<=c.length+l.length:=by
 have a:¬((List.range (l.length+1)).map fun i=>(wI l s (y.take i)).toNat).Nodup:=by
  intro a;have:=lM _ (List.range l.length) a (by
   intro x k;obtain⟨i,-,rfl⟩:=yD.1 k;have:=Gt h i;rw[yQ];omega)
  simp at this;omega
 have f:∃i j,i<j/\j<=l.length/\wI l s (y.take i)=wI l s (y.take j):=by
  apply zP;intro d;apply a;rw[List.Nodup,List.pairwise_map];refine(List.pairwise_lt_range (n:=l.length+1)).imp_of_mem fun {i j} hi g b e=>d ⟨i,j,b,?_,?_⟩
  .have:=yQ.1 g;omega
  .have p:=Gt h i;have o:=Gt h j;omega
 obtain⟨i,j,b,g,e⟩:=f;refine⟨y.take i++y.drop j,?_,?_,?_⟩
 .rw[pJ,e,<-pJ,List.take_append_drop];exact h
 .simp;omega
 .simp;omega
theorem window{l:aK}{s:Int}(t:Nat):∀(N:Nat) (y:List UInt8),y.length<=N->aH l s y=true->t<=y.length->∃a,aH l s a=true/\t<=a.length/\a.length<t+l.length
 |0,y,hN,h,ht=>⟨y,h,ht,by have:=sQ h;omega⟩
 |N+1,y,hN,h,ht=>by
  by_cases b:y.length<t+l.length
  .exact⟨y,h,ht,b⟩
  .obtain⟨a,c,e,d⟩:=pump h zo;exact window t N a zo c zo
theorem LZ{l:aK}{s:Int}{L L':Nat}(h:L<=L'):(lu l s L).length<=(lu l s L').length:=by
 induction h with
 |refl=>exact zI _
 |step _ ih=>rw[LY,zL];omega
theorem Eu{l:aK}{s:Int}{y:List UInt8}(h:aH l s y=true):∀c,c*l.length<=y.length->c<=(lu l s (c*l.length)).length
 |0,_=>zG _
 |c+1,hc=>by
  have e:(c+1)*l.length=c*l.length+l.length:=Nat.succ_mul _ _;have k:=Eu h c zo;obtain⟨a,i,n,m⟩:=window (c*l.length) _ y (zI _) h zo;have g:a∈lu l s ((c+1)*l.length):=(pz _ _ _ _).2 ⟨zo,i⟩;have f:a ∉ lu l s (c*l.length):=fun d=>by have:=((pz _ _ _ _).1 d).1;omega
  have:=lM (a::lu l s (c*l.length)) (lu l s ((c+1)*l.length)) (List.nodup_cons.2 ⟨f,Cy (Fq _ _ _)⟩) (by
   intro x b;rcases yA.1 b with rfl|b
   .exact g
   .obtain⟨o,j⟩:=(pz _ _ _ _).1 b;exact(pz _ _ _ _).2 ⟨zo,j⟩)
  simp only[yO]at this;omega
theorem TW{l:aK}{s:Int}{k L:Nat}(b:k*l.length<=L):jL (aH l s) k ((lu l s L).take k):=by
 apply BN;by_cases h:∃y,aH l s y=true/\L<=y.length
 .obtain⟨y,d,f⟩:=h;have c:=Eu d k zo;exact .inl (yJ c (LZ b))
 .exact .inr fun y a=>by
   apply zP;intro e;exact h ⟨y,a,zo⟩
end Cl
namespace Cl
def kS(f:List UInt8->Bool):Option (List UInt8)->Prop
 |none=>∀y,f y=false
 |some x=>f x=true/\∀y,f y=true->y=x\/CB x y
theorem Qi{f:List UInt8->Bool}{r:List (List UInt8)}(h:jL f 1 r):kS f r.head?:=by
 cases r with
 |nil=>
  intro y
  cases a:f y with
  |false=>rfl
  |true=>have:=(h.rest y a zS).1;simp at this
 |cons x r=>
  refine⟨h.mem x zS,fun y a=>?_⟩;by_cases b:y∈x::r
  .have:=h.le;simp only[yO]at this;have c:r=[]:=yM zo;subst c;exact .inl (by simpa using b)
  .exact .inr ((h.rest y a b).2 x zS)
theorem kS.congr{f g:List UInt8->Bool}{a:Option (List UInt8)}(h:kS f a)(e:∀w,f w=g w):kS g a:=by
 exact qcO
inductive gY (f g:List UInt8->Bool):Int->Prop where
 |same (h:∀w,f w=g w):gY f g 0
 |lt (x:List UInt8) (h1:f x=true) (h2:g x=false) (h3:∀y,CB y x->f y=g y):gY f g (-1)
 |gt (x:List UInt8) (h1:f x=false) (h2:g x=true) (h3:∀y,CB y x->f y=g y):gY f g 1
theorem ry{f g:List UInt8->Bool}{c d:Int}(h:gY f g c)(k:gY f g d):c=d:=by
 cases h with
 |same h=>
  cases k with
  |same=>rfl
  |lt x a b _=>rw[h x,b]at a;cases a
  |gt x a b _=>rw[h x,b]at a;cases a
 |lt x a b e=>
  cases k with
  |same h=>rw[h x,b]at a;cases a
  |lt=>rfl
  |gt y a' b' e'=>
   rcases tJ x y with q|q|q
   .have:=e' x q;rw[a,b]at this;cases this
   .subst q;rw[a]at a';cases a'
   .have:=e y q;rw[a',b']at this;cases this
 |gt x a b e=>
  cases k with
  |same h=>rw[h x,b]at a;cases a
  |gt=>rfl
  |lt y a' b' e'=>
   rcases tJ x y with q|q|q
   .have:=e' x q;rw[a,b]at this;cases this
   .subst q;rw[a]at a';cases a'
   .have:=e y q;rw[a',b']at this;cases this
theorem gY.av{f g:List UInt8->Bool}{c:Int}(h:gY f g c):gY g f (-c):=by
 cases h with
 |same h=>exact .same fun w=>(h w).symm
 |lt x a b e=>exact .gt x b a fun y d=>(e y d).symm
 |gt x a b e=>exact .lt x b a fun y d=>(e y d).symm
theorem gY.refl(f:List UInt8->Bool):gY f f 0:=.same fun _=>rfl
theorem gY.zero{f g:List UInt8->Bool}{c:Int}(h:gY f g c):c=0↔∀w,f w=g w:=by
 constructor
 .rintro rfl
  cases h with
  |same h=>exact h
 .intro e;exact ry h (.same e)
theorem gY.range{f g:List UInt8->Bool}{c:Int}(h:gY f g c): -1<=c/\c<=1:=by cases h<;>omega
theorem Ot{f g k:List UInt8->Bool}(h:gY f g (-1))(d:gY g k (-1)):gY f k (-1):=by
 cases h with
 |lt x a b e=>
  cases d with
  |lt y a' b' e'=>
   rcases tJ x y with q|q|q
   .exact .lt x a (by rw[<-e' x q];exact b) fun z c=>(e z c).trans (e' z (qD c q))
   .subst q;rw[b]at a';cases a'
   .exact .lt y (by rw[e y q];exact a') b' fun z c=>(e z (qD c q)).trans (e' z c)
theorem gY.congr{f g b a:List UInt8->Bool}{c:Int}(h:gY f g c)(e:∀w,f w=b w)(j:∀w,g w=a w):gY b a c:=by
 have i:f=b:=funext e;have d:g=a:=funext j;rw[<-i,<-d];exact h
theorem Mf{f g k:List UInt8->Bool}{x y z:Int}(b:gY f g x)(a:gY g k y)(d:gY f k z)(n:x<=0)(m:y<=0):z<=0/\(z=0↔x=0/\y=0):=by
 have l:=b.range;have j:=a.range;by_cases i:x=0
 .have e:=b.zero.1 i;have c:=a.congr (fun w=>(e w).symm) (fun _=>rfl);have:=ry d c;omega
 .obtain rfl:x = -1:=zo;by_cases h:y=0
  .have e:=a.zero.1 h;have c:=b.congr (fun _=>rfl) e;have:=ry d c;omega
  .obtain rfl:y = -1:=zo;have:=ry d (Ot b a);omega
theorem Oq{f g:List UInt8->Bool}{a b:Option (List UInt8)}(h:kS (fun w=>f w && !g w) a)(k:kS (fun w=>g w && !f w) b):
 match a,b with
 |none,none=>gY f g 0
 |some _,none=>gY f g (-1)
 |none,some _=>gY f g 1
 |some x,some y=>x≠y/\(CB x y->gY f g (-1))/\(CB y x->gY f g 1):=by
 have s:(∀y,(f y && !g y)=false)->∀y,f y=true->g y=true:=fun h y j=>by have:=h y;simpa [j]using this
 have r:(∀y,(g y && !f y)=false)->∀y,g y=true->f y=true:=fun h y j=>by have:=h y;simpa [j]using this
 have lo:∀x,(∀y,(f y && !g y)=true->y=x\/CB x y)->∀y,CB y x->f y=true->g y=true:=fun x n y j o=>by
  cases hg:g y with
  |true=>rfl
  |false=>
   rcases n y (by simp[o,hg])with e|e
   .subst e;exact(kV _ j).elim
   .exact(tK j e).elim
 have l:∀x,(∀y,(g y && !f y)=true->y=x\/CB x y)->∀y,CB y x->g y=true->f y=true:=fun x n y j o=>by
  cases hg:f y with
  |true=>rfl
  |false=>
   rcases n y (by simp[o,hg])with e|e
   .subst e;exact(kV _ j).elim
   .exact(tK j e).elim
 have c:∀{p q:Bool},(p=true->q=true)->(q=true->p=true)->p=q:=fun {p q} a b=>by cases p<;>cases q<;>simp_all
 cases a with
 |none=>
  cases b with
  |none=>exact .same fun w=>c (s h w) (r k w)
  |some y=>
   have d:=k.1;simp only[xG,Bool.not_eq_true']at d
   exact .gt y d.2 d.1 fun z i=>c (s h z) (l y k.2 z i)
 |some x=>
  have d:=h.1;simp only[xG,Bool.not_eq_true']at d
  cases b with
  |none=>exact .lt x d.1 d.2 fun z i=>c (lo x h.2 z i) (r k z)
  |some y=>
   have m:=k.1;simp only[xG,Bool.not_eq_true']at m;refine⟨fun e=>(by subst e;rw[d.2]at m;exact absurd m.1 zS),fun q=>?_,fun q=>?_⟩
   .exact .lt x d.1 d.2 fun z i=>c (lo x h.2 z i) (l y k.2 z (qD i q))
   .exact .gt y m.2 m.1 fun z i=>c (lo x h.2 z (qD i q)) (l y k.2 z i)
noncomputable def Sem(l:aK)(w:List UInt8):Bool:=tf (bZ l)&&aH l 0 w
theorem dG{l:aK}(h:bZ l)(w:List UInt8):Sem l w=aH l 0 w:=by simp[Sem,aN h]
structure eP (f:List UInt8->Bool) (C:aK):Prop where
 canon:bZ C
 qp:∀w,aH C 0 w=f w
theorem eP.KO{f:List UInt8->Bool}{C:aK}(h:eP f C)(w:List UInt8):Sem C w=f w:=by rw[dG h.canon];exact h.qp w
theorem eP.congr{f g:List UInt8->Bool}{C:aK}(h:eP f C)(e:∀w,f w=g w):eP g C:=⟨h.canon,fun w=>(h.qp w).trans (e w)⟩
theorem nu{f:List UInt8->Bool}{C D:aK}(h:eP f C)(k:eP f D):C=D:=vg h.canon k.canon fun w=>(h.qp w).trans (k.qp w).symm
theorem Ql{f g:List UInt8->Bool}{C D:aK}(h:eP f C)(k:eP g D):C=D↔∀w,f w=g w:=
 ⟨fun e w=>by rw[<-h.qp,<-k.qp,e],fun e=>nu (h.congr e) k⟩
theorem Iw:eP (fun _=>false) []:=⟨iy,fun w=>gK w⟩
theorem jy{l:aK}(h:bZ l):eP (Sem l) l:=⟨h,fun w=>(dG h w).symm⟩
theorem cza{f:List UInt8->Bool}{C:aK}(h:eP f C):C=[]↔∀w,f w=false:=Ql h Iw
end Cl
