/- Lemmas for the proofs of chapter 11. -/
import Derived.Test.YtbbnjopkjbhpbaaGreatDoorZxP
set_option maxRecDepth 100000
set_option maxHeartbeats 16000000
namespace Cl
structure Ed where
 lo:Nat
 hi:Nat
 to:Int
structure Sn where
 bU:Bool
 bv:List Ed
abbrev aK:=List Sn
def bS(n:Nat):Int->List Ed->Prop
 |_,[]=>True
 |p,e::es=>e.lo<=e.hi/\0<=e.to/\e.to<n/\p<e.lo/\bS n e.hi es
def WF(l:aK):Prop:=∀s∈l,bS l.length (-1) s.bv
def iE(es:List Ed):Prop:=∀e∈es,e.lo<256/\e.hi<256
def Bytes(l:aK):Prop:=∀s∈l,iE s.bv
def bE:List Ed->Nat->Int
 |[],_ => -1
 |e::es,b=>if e.lo<=b/\b<=e.hi then e.to else bE es b
def bX(l:aK)(s:Int)(b:Nat):Int:=
 if s<0 then -1 else match l[s.toNat]? with
  |some st=>bE st.bv b
  |none => -1
def bI(l:aK)(s:Int):Bool:=
 if s<0 then false else match l[s.toNat]? with
  |some st=>st.bU
  |none=>false
def aH(l:aK):Int->List UInt8->Bool
 |s,[]=>bI l s
 |s,b::w=>aH l (bX l s b.toNat) w
theorem qO{l:aK}{s:Int}(h:s<0)(b:Nat):bX l s b = -1:=by simp[bX,h]
theorem eU{l:aK}{s:Int}(h:s<0)(w:List UInt8):aH l s w=false:=by
 induction w generalizing s with
 |nil=>simp[aH,bI,h]
 |cons b w ih=>simp only[aH];rw[qO h];exact ih zo
theorem iT(l:aK)(k:Nat)(b:Nat)(h:k<l.length):bX l (k:Int) b=bE (l[k]).bv b:=by
 have a:¬((k:Int)<0):=zo;simp[bX,a,h]
theorem gX(l:aK)(k:Int)(b:Nat)(h:(l.length:Int)<=k):bX l k b = -1:=by
 have c:¬(k<0):=zo;have a:l.length<=k.toNat:=zo;simp[bX,c,a]
theorem kE(l:aK)(k:Int)(w:List UInt8)(h:(l.length:Int)<=k):aH l k w=false:=by
 cases w with
 |nil=>
  have c:¬(k<0):=zo;have a:l.length<=k.toNat:=zo
  simp[aH,bI,c,a]
 |cons b w=>simp only[aH];rw[gX _ _ _ h];exact eU zo w
theorem F9{n:Nat}{p:Int}{es:List Ed}(h:bS n p es)(b:Nat):bE es b = -1\/(0<=bE es b/\bE es b<n):=by
 induction es generalizing p with
 |nil=>left;rfl
 |cons e es ih=>
  obtain⟨g,d,c,f,a⟩:=h;simp only[bE]
  split
  .right;exact⟨d,c⟩
  .exact ih a
theorem nz{l:aK}(h:WF l)(k:Int)(b:Nat):bX l k b = -1\/(0<=bX l k b/\bX l k b<l.length):=by
 by_cases a:k<0
 .left;exact qO a b
 .by_cases c:k<l.length
  .obtain⟨n,rfl⟩:=zT (by omega:0<=k);rw[iT l n b zo];exact F9 (h _ (zF _)) b
  .left;exact gX l k b zo
def Merged:List Ed->Prop
 |[]=>True
 |[_]=>True
 |e::f::es=>¬(e.to=f.to/\e.hi+1=f.lo)/\Merged (f::es)
structure cB (l:aK):Prop where
 wf:WF l
 bytes:Bytes l
 EP:∀s∈l,Merged s.bv
 live:∀k:Nat,k<l.length->∃w,aH l k w=true
 dzG:∀i j:Nat,i<l.length->j<l.length->(∀w,aH l i w=aH l j w)->i=j
 seen:∀(k b t:Nat),b<256->bX l k b=t->∀t':Nat,0<t'->t'<t->∃k' b':Nat,b'<256/\(k'<k\/k'=k/\b'<b)/\bX l k' b'=t'
 reach:∀t:Nat,0<t->t<l.length->∃k b:Nat,k<t/\b<256/\bX l k b=t
theorem zu{n:Nat}{p:Int}{es:List Ed}(h:bS n p es){b:Nat}(c:(b:Int)<=p):bE es b = -1:=by
 induction es generalizing p with
 |nil=>rfl
 |cons e es ih=>
  obtain⟨i,g,f,d,a⟩:=h;simp only[bE];rw[zJ zo];exact ih a zo
theorem OM{n m:Nat}(es:List Ed):∀(fs:List Ed) (p:Int),bS n p es->bS m p fs->iE es->iE fs->Merged es->Merged fs ->
 (∀b:Nat,b<256->p<(b:Int)->bE es b=bE fs b)->es=fs:=by
 induction es with
 |nil=>
  intro fs p _ r _ l _ _ h
  cases fs with
  |nil=>rfl
  |cons f fs=>
   obtain⟨f1,f2,f3,f4,j⟩:=r;have:=h f.lo (l f zS).1 f4;simp[bE]at this
   omega
 |cons e es ih=>
  intro fs p K r C l E D h;obtain⟨w,M,U,v,u⟩:=K
  cases fs with
  |nil=>
   have:=h e.lo (C e zS).1 v;simp[bE,w]at this
   omega
  |cons f fs=>
   obtain⟨f1,f2,f3,f4,j⟩:=r;have z:iE es:=fun x hx=>C x qd8;have y:iE fs:=fun x hx=>l x qd8;have i:=(C e zS);have t:=(l f zS);have H:e.lo=f.lo:=by
    have A:=h e.lo i.1 v;have B:=h f.lo t.1 f4;simp only[bE]at A B;rw[zK ⟨zI _,w⟩]at A;rw[zK (⟨zI _,f1⟩:f.lo<=f.lo/\f.lo<=f.hi)]at B;by_cases c:e.lo<f.lo
    .rw[zJ zo,zu j zo]at A;omega
    .by_cases N:f.lo<e.lo
     .rw[zJ zo,zu u zo]at B;omega
     .omega
   have a:e.to=f.to:=by
    have A:=h e.lo i.1 v;simp only[bE]at A;rw[zK ⟨zI _,w⟩,zK zo]at A;exact A
   have next:∀{k:Nat} {g:Ed} {gs:List Ed},bS k (g.hi:Int) gs->Merged (g::gs)->0<=g.to->bE gs (g.hi+1)≠g.to:=by
    intro k g gs J G T d
    cases gs with
    |nil=>simp[bE]at d;omega
    |cons x xs=>
     obtain⟨R,Q,P,O,F⟩:=J;simp only[bE]at d;by_cases c:x.lo=g.hi+1
     .rw[zK zo]at d;exact G.1 ⟨d.symm,c.symm⟩
     .rw[zJ zo,zu F zo]at d;omega
   have I:e.hi=f.hi:=by
    by_cases c:e.hi<f.hi
    .have A:=h (e.hi+1) zo zo;simp only[bE]at A;rw[zJ zo,zK zo]at A;exact absurd (A.trans a.symm) (next u E M)
    .by_cases N:f.hi<e.hi
     .have A:=h (f.hi+1) zo zo;simp only[bE]at A;rw[zK zo,zJ zo]at A;exact absurd (A.symm.trans a) (next j D f2)
     .omega
   have s:e=f:=by
    cases e;cases f;simp_all
   subst s
   congr 1
   have q:Merged es:=by
    cases es with
    |nil=>trivial
    |cons x xs=>exact E.2
   have o:Merged fs:=by
    cases fs with
    |nil=>trivial
    |cons x xs=>exact D.2
   refine ih fs e.hi u j z y q o ?_;intro b L S;have A:=h b L zo;simp only[bE]at A;rw[zJ zo,zJ zo]at A;exact A
theorem byteOf(b:Nat)(h:b<256):∃u:UInt8,u.toNat=b:=⟨UInt8.ofNat b,by simp[Nat.mod_eq_of_lt h]⟩
theorem LZ{l m:aK}{i j:Int}(h:∀w,aH l i w=aH m j w)(b:Nat)(a:b<256):∀w,aH l (bX l i b) w=aH m (bX m j b) w:=by
 obtain⟨u,rfl⟩:=byteOf b a;intro w;have:=h (u::w);simpa [aH]using this
theorem az0{l m:aK}(g:cB l)(f:cB m){i j:Int}(hi:i = -1\/(0<=i/\i<l.length))(b:j = -1\/(0<=j/\j<m.length))
(h:∀w,aH l i w=aH m j w):(i = -1/\j = -1)\/(∃s t:Nat,i=s/\j=t/\s<l.length/\t<m.length):=by
 rcases hi with hi|⟨e,k⟩
 .rcases b with b|⟨a,d⟩
  .exact .inl ⟨hi,b⟩
  .obtain⟨t,rfl⟩:=zT a;obtain⟨w,c⟩:=f.live t zo;have:=h w;rw[c,eU zo]at this;cases this
 .obtain⟨s,rfl⟩:=zT e;rcases b with b|⟨a,d⟩
  .obtain⟨w,c⟩:=g.live s zo;have:=h w;rw[c,eU zo]at this;cases this
  .obtain⟨t,rfl⟩:=zT a;exact .inr ⟨s,t,rfl,rfl,zo,zo⟩
theorem NQ{l m:aK}(q:cB l)(p:cB m)(h:∀w,aH l 0 w=aH m 0 w):
 ∀N k b:Nat,b<256->256*k+b<N->((k<l.length\/k<m.length)->(∀w,aH l k w=aH m k w))/\bX l k b=bX m k b:=by
 intro N
 induction N with
 |zero=>intro k b _ C;omega
 |succ N ih=>
  intro k b x C;have g:(k<l.length\/k<m.length)->(∀w,aH l k w=aH m k w):=by
   intro hk;by_cases A:k=0
   .subst A;exact h
   .rcases hk with hk|hk
    .obtain⟨a,e,n,j,f⟩:=q.reach k zo hk;have:=ih a e j zo;have d:a<l.length:=zo;have r:=LZ (this.1 (.inl d)) e j;rw[<-this.2,f]at r;exact r
    .obtain⟨a,e,n,j,f⟩:=p.reach k zo hk;have:=ih a e j zo;have d:a<m.length:=zo;have r:=LZ (this.1 (.inr d)) e j;rw[this.2,f]at r;exact r
  refine⟨g,?_⟩;by_cases hk:k<l.length\/k<m.length
  .have r:=LZ (g hk) b x;rcases az0 q p (nz q.wf _ b) (nz p.wf _ b) r with⟨v,u⟩|⟨s,t,v,u,B,ht⟩
   .rw[v,u]
   .rw[v,u]at r⊢;have:s=t:=by
     by_cases c:s<t
     ·
      have i:∀w,aH l s w=aH m s w:=by
       by_cases z:s=0
       .subst z;exact h
       .obtain⟨a,e,n,j,f⟩:=p.seen k b t x u s zo c;have I:=ih a e n zo;by_cases d:a<l.length\/a<m.length
        .have o:=LZ (I.1 d) e n;rw[I.2,f]at o;exact o
        .rw[gX m a e zo]at f;omega
      exact p.dzG s t zo ht (fun w=>(i w).symm.trans (r w))
     .by_cases D:t<s
      .have i:∀w,aH l t w=aH m t w:=by
        by_cases y:t=0
        .subst y;exact h
        .obtain⟨a,e,n,j,f⟩:=q.seen k b s x v t zo D;have I:=ih a e n zo;by_cases d:a<l.length\/a<m.length
         .have o:=LZ (I.1 d) e n;rw[<-I.2,f]at o;exact o
         .rw[gX l a e zo]at f;omega
       exact q.dzG s t B zo (fun w=>(r w).trans (i w).symm)
      .omega
    rw[this]
  .rw[gX l k b zo,gX m k b zo]
theorem kT(l:aK)(k:Nat)(h:k<l.length):bI l (k:Int)=(l[k]).bU:=by
 have a:¬((k:Int)<0):=zo;simp[bI,a,h]
theorem lens{l m:aK}(b:cB l)(d:cB m)(h:∀w,aH l 0 w=aH m 0 w):l.length<=m.length:=by
 apply Nat.le_of_not_lt;intro c;have A:=(NQ b d h (256*m.length+1) m.length 0 zo zo).1 (.inl c);obtain⟨w,a⟩:=b.live m.length c;rw[A w,kE m _ w zo]at a;cases a
theorem vU{l m:aK}(c:cB l)(a:cB m)(h:∀w,aH l 0 w=aH m 0 w):l=m:=by
 have e:l.length=m.length:=Nat.le_antisymm (lens c a h) (lens a c (fun w=>(h w).symm));apply vF e;intro k d f;have j:(l[k]).bU=(m[k]).bU:=by
  have:=(NQ c a h (256*k+1) k 0 zo zo).1 (.inl d) [];simp only[aH]at this
  rwa [kT l k d,kT m k f]at this
 have i:(l[k]).bv=(m[k]).bv:=by
  refine OM _ _ (-1) (c.wf _ (zF d)) (a.wf _ (zF f)) (c.bytes _ (zF d)) (a.bytes _ (zF f))
   (c.EP _ (zF d)) (a.EP _ (zF f)) ?_
  intro b g _;have:=(NQ c a h (256*k+b+1) k b g zo).2
  rwa [iT l k b d,iT m k b f]at this
 cases hx:l[k];cases hy:m[k];simp_all
end Cl
namespace Cl
noncomputable def tf(p:Prop):Bool:=@decide p (Classical.propDecidable p)
theorem aM{p:Prop}(h:p):tf p=true:=by simp[tf,h]
theorem aF{p:Prop}(h:¬p):tf p=false:=by simp[tf,h]
theorem kF{p:Prop}:tf p=true↔p:=by simp[tf]
theorem dY{p q:Prop}(h:p↔q):tf p=tf q:=by rw[show p=q from propext h]
def sZ(es:List Ed)(k:Nat):Int:=if h:0<k/\k<=es.length then((es[k-1]'zo).hi:Int)else -1
theorem P7(es:List Ed)(k:Nat)(h:¬0<k):sZ es k = -1:=by simp[sZ,h]
theorem Ny{n:Nat}{es:List Ed}{k:Nat}(h:k<es.length):
 bS n (sZ es k) (es.drop k)↔(es[k]).lo<=(es[k]).hi/\0<=(es[k]).to/\(es[k]).to<n/\sZ es k<(es[k]).lo/\bS n (sZ es (k+1)) (es.drop (k+1)):=by
 rw[yE h,bS];have:sZ es (k+1)=(es[k]).hi:=by simp[sZ,Nat.succ_le_of_lt h]
 rw[this]
theorem czw{n:Nat}{l:aK}{k:Nat}(h:k<l.length):
 (∀s∈l.drop k,bS n (-1) s.bv)↔bS n (-1) (l[k]).bv/\∀s∈l.drop (k+1),bS n (-1) s.bv:=by
 rw[yE h,List.forall_mem_cons]
end Cl
namespace Cl
inductive Dt where
 |mk (kind num:Int) (str:ByteArray) (items:List Dt) (labels:List ByteArray) (dS:List Dt)
def Dt.kind:Dt->Int|mk k _ _ _ _ _=>k
def Dt.num:Dt->Int|mk _ n _ _ _ _=>n
def Dt.str:Dt->ByteArray|mk _ _ s _ _ _=>s
def Dt.items:Dt->List Dt|mk _ _ _ i _ _=>i
def nR(k n:Int)(s:Nat)(i m:Nat):Bool:=
 decide (1<=k/\k<=6)&&(decide (k=2\/k=3)||decide (n=0))&&(decide (k=4)||decide (s=0))&&(decide (k=5)||decide (i=0))&&(decide (k=6)||decide (m=0))
end Cl
namespace Cl
abbrev dm:=Int×Int
def iP(l:List dm)(x:Int):Prop:=∃s∈l,s.1<=x/\x<=s.2
structure oh (l:List dm):Prop where
 ok:∀s∈l,s.1<=s.2
 sep:l.Pairwise fun s t=>s.2+1<t.1
theorem jl(x:Int):¬iP [] x:=by rintro⟨s,h,-⟩;cases h
theorem bV{s:dm}{l:List dm}{x:Int}:iP (s::l) x↔(s.1<=x/\x<=s.2)\/iP l x:=by
 constructor
 .rintro⟨t,h,a⟩;rcases yA.1 h with rfl|h
  .exact .inl a
  .exact .inr ⟨t,h,a⟩
 .rintro(h|⟨t,h,a⟩)
  .exact⟨s,yF ..,h⟩
  .exact⟨t,zU _ h,a⟩
theorem FX{l r:List dm}{x:Int}:iP (l++r) x↔iP l x\/iP r x:=by
 induction l with
 |nil=>simp[jl]
 |cons s l ih=>rw[xK,bV,bV,ih,or_assoc]
theorem oh.nil:oh []:=⟨fun s h=>by simp at h,.nil⟩
theorem oh.tail{s:dm}{l:List dm}(h:oh (s::l)):oh l:=⟨fun t ht=>h.ok t (zU _ ht),(yS.1 h.sep).2⟩
theorem oh.head{s:dm}{l:List dm}(h:oh (s::l)):s.1<=s.2:=h.ok s (yF ..)
theorem oh.after{s:dm}{l:List dm}(h:oh (s::l)){x:Int}(a:iP l x):s.2+1<x:=by
 obtain⟨t,ht,b,-⟩:=a;have:=(yS.1 h.sep).1 t ht;omega
theorem oh.cons{s:dm}{l:List dm}(b:s.1<=s.2)(a:∀t∈l,s.2+1<t.1)(h:oh l):oh (s::l):=by
 refine⟨fun t ht=>?_,yS.2 ⟨a,h.sep⟩⟩;rcases yA.1 ht with rfl|ht
 .exact b
 .exact h.ok t ht
theorem sM:∀{l f:List dm},oh l->oh f->(∀x,iP l x↔iP f x)->l=f
 |[],[],_,_,_=>rfl
 |[],s::r,_,h',e=>absurd ((e s.1).2 (bV.2 (.inl ⟨xU _,h'.head⟩))) (jl _)
 |s::r,[],h,_,e=>absurd ((e s.1).1 (bV.2 (.inl ⟨xU _,h.head⟩))) (jl _)
 |s::r,s'::r',h,h',e=>by
  have a:=h.head;have o:=h'.head;have out:¬iP (s::r) (s.2+1):=fun b=>by
   rcases bV.1 b with b|b
   .omega
   .have:=h.after b;omega
  have c:¬iP (s'::r') (s'.2+1):=fun b=>by
   rcases bV.1 b with b|b
   .omega
   .have:=h'.after b;omega
  have lo:s.1=s'.1:=by
   have n:s'.1<=s.1:=by
    rcases bV.1 ((e s.1).1 (bV.2 (.inl ⟨xU _,a⟩)))with b|b
    .exact b.1
    .have:=h'.after b;omega
   have m:s.1<=s'.1:=by
    rcases bV.1 ((e s'.1).2 (bV.2 (.inl ⟨xU _,o⟩)))with b|b
    .exact b.1
    .have:=h.after b;omega
   omega
  have hi:s.2=s'.2:=by
   have n:s.2<=s'.2:=by
    refine Int.not_lt.1 fun g=>c ((e _).1 (bV.2 (.inl ⟨?_,?_⟩)))<;>omega
   have m:s'.2<=s.2:=by
    refine Int.not_lt.1 fun g=>out ((e _).2 (bV.2 (.inl ⟨?_,?_⟩)))<;>omega
   omega
  obtain⟨x,y⟩:=s;obtain⟨j,i⟩:=s';obtain rfl:x=j:=lo;obtain rfl:y=i:=hi;have k:r=r':=sM h.tail h'.tail fun z=>by
   constructor
   .intro d;have:=h.after d;rcases bV.1 ((e z).1 (bV.2 (.inr d)))with b|b
    .omega
    .exact b
   .intro d;have:=h'.after d;rcases bV.1 ((e z).2 (bV.2 (.inr d)))with b|b
    .omega
    .exact b
  rw[k]
def rJ:List dm->List dm->List dm
 |[],out=>out
 |s::l,[]=>rJ l [s]
 |s::l,t::out=>if s.1<=t.2+1 then rJ l ((t.1,max t.2 s.2)::out)else rJ l (s::t::out)
structure Xe (l:List dm):Prop where
 ok:∀s∈l,s.1<=s.2
 sep:l.Pairwise fun s t=>t.2+1<s.1
theorem Xe.rev{l:List dm}(h:Xe l):oh l.reverse:=⟨fun s a=>h.ok s (List.mem_reverse.1 a),List.pairwise_reverse.2 h.sep⟩
theorem Oj{l:List dm}{x:Int}:iP l.reverse x↔iP l x:=by simp[iP]
theorem vK:∀(l out:List dm),(∀s∈l,s.1<=s.2)->l.Pairwise (fun s t=>s.1<=t.1)->Xe out->(∀t∈out,∀s∈l,t.1<=s.1) ->
 Xe (rJ l out)/\∀x,iP (rJ l out) x↔iP out x\/iP l x
 |[],out,_,_,hn,_=>⟨hn,fun x=>by simp[rJ,jl]⟩
 |s::l,[],hok,hs,_,_=>by
  have b:=yS.1 hs;have hk:=hok s (yF ..);obtain⟨g,f⟩:=vK l [s] (fun t ht=>hok t (zU _ ht)) b.2 ⟨fun t ht=>by simp at ht;subst ht;exact hk,List.pairwise_singleton _ _⟩
   (fun t ht u a=>by simp at ht;subst ht;exact b.1 u a)
  exact⟨g,fun x=>by rw[rJ,f,bV,bV];simp[jl]⟩
 |s::l,t::out,hok,hs,hn,hle=>by
  have b:=yS.1 hs;have hk:=hok s (yF ..);have d:=yS.1 hn.sep;have ht:=hn.ok t (yF ..);have j:=hle t (yF ..) s (yF ..);have c:∀u∈l,u.1<=u.2:=fun u a=>hok u (zU _ a);unfold rJ;by_cases i:s.1<=t.2+1
  .rw[zK i];obtain⟨g,f⟩:=vK l ((t.1,max t.2 s.2)::out) c b.2
    ⟨fun u a=>by
     rcases yA.1 a with rfl|a
     .show t.1<=max t.2 s.2;omega
     .exact hn.ok u (zU _ a),
     yS.2 ⟨fun u a=>d.1 u a,d.2⟩⟩
    (fun u a v e=>by
     rcases yA.1 a with rfl|a
     .exact hle t (yF ..) v (zU _ e)
     .exact hle u (zU _ a) v (zU _ e))
   refine⟨g,fun x=>?_⟩;rw[f,bV,bV,bV];have:(t.1<=x/\x<=max t.2 s.2)↔((t.1<=x/\x<=t.2)\/(s.1<=x/\x<=s.2)):=zo;show((t.1<=x/\x<=max t.2 s.2)\/_)\/_↔_;rw[this];constructor
   .rintro(((h|h)|h)|h)
    .exact qcZ
    .exact qcY
    .exact .inl (.inr h)
    .exact qdw
   .rintro((h|h)|(h|h))
    .exact qds
    .exact .inl (.inr h)
    .exact qdr
    .exact .inr h
  .rw[zJ i];obtain⟨g,f⟩:=vK l (s::t::out) c b.2
    ⟨fun u a=>by
     rcases yA.1 a with rfl|a
     .exact hk
     .exact hn.ok u a,
     yS.2 ⟨fun u a=>by
      rcases yA.1 a with rfl|a
      .omega
      .have:=d.1 u a;omega,hn.sep⟩⟩
    (fun u a v e=>by
     rcases yA.1 a with rfl|a
     .exact b.1 v e
     .exact hle u a v (zU _ e))
   refine⟨g,fun x=>?_⟩;rw[f,bV (s:=s),bV (s:=s)];constructor
   .rintro((h|h)|h)
    .exact qcY
    .exact .inl h
    .exact qdw
   .rintro(h|(h|h))
    .exact .inl (.inr h)
    .exact qcZ
    .exact .inr h
def tJ:dm->Bool->List dm->List dm
 |s,d,[]=>if d then[]else[s]
 |s,d,x::r=>if x.2+1<s.1 then x::tJ s d r else if s.2+1<x.1 then(if d then[]else[s])++x::tJ s true r else tJ (min s.1 x.1,max s.2 x.2) d r
theorem MM{s:dm}:∀{r:List dm},(∀t∈r,s.2+1<t.1)->tJ s true r=r
 |[],_=>rfl
 |x::r,h=>by
  have c:=h x (yF ..);have b:=MM (s:=s) (r:=r) fun t ht=>h t (zU _ ht);unfold tJ;rw[b];by_cases a:x.2+1<s.1
  .rw[zK a]
  .rw[zJ a,zK c,zK rfl];rfl
theorem oh.first{l:List dm}(h:oh l){t:dm}(ht:t∈l):iP l t.1:=⟨t,ht,xU _,h.ok t ht⟩
theorem EY:∀(out:List dm) (s:dm),s.1<=s.2->oh out->oh (tJ s false out)/\∀x,iP (tJ s false out) x↔(s.1<=x/\x<=s.2)\/iP out x
 |[],s,hs,_=>⟨.cons hs (fun t ht=>by cases ht) .nil,fun x=>by simp[tJ,bV,jl]⟩
 |y::r,s,hs,hn=>by
  have e:=hn.head;unfold tJ;by_cases d:y.2+1<s.1
  .rw[zK d];obtain⟨a,b⟩:=EY r s hs hn.tail;refine⟨.cons e (fun t ht=>?_) a,fun x=>?_⟩
   .rcases(b _).1 (a.first ht)with h|h
    .omega
    .exact hn.after h
   .rw[bV,b,bV];constructor
    .rintro(h|h|h)
     .exact qcY
     .exact .inl h
     .exact qdw
    .rintro(h|h|h)
     .exact qcY
     .exact .inl h
     .exact qdw
  .rw[zJ d];by_cases c:s.2+1<y.1
   .rw[zK c,zJ zD,MM fun t ht=>by have:=(yS.1 hn.sep).1 t ht;omega];refine⟨.cons hs (fun t ht=>?_) hn,fun x=>bV⟩;rcases yA.1 ht with rfl|ht
    .exact c
    .have:=(yS.1 hn.sep).1 t ht;omega
   .rw[zJ c];obtain⟨a,b⟩:=EY r (min s.1 y.1,max s.2 y.2) (by show min s.1 y.1<=max s.2 y.2;omega) hn.tail;refine⟨a,fun x=>?_⟩;rw[b,bV];have:(min s.1 y.1<=x/\x<=max s.2 y.2)↔((s.1<=x/\x<=s.2)\/(y.1<=x/\x<=y.2)):=zo;show((min s.1 y.1<=x/\x<=max s.2 y.2)\/_)↔_;rw[this,or_assoc]
def pu(l:List dm):List dm:=l.foldl (fun out s=>if s.2<s.1 then out else tJ s false out) []
theorem Ch:∀(l out:List dm),oh out->oh (l.foldl (fun out s=>if s.2<s.1 then out else tJ s false out) out) /\
 ∀x,iP (l.foldl (fun out s=>if s.2<s.1 then out else tJ s false out) out) x↔iP out x\/iP l x
 |[],out,hn=>⟨hn,fun x=>by simp[jl]⟩
 |s::l,out,hn=>by
  rw[List.foldl_cons];by_cases h:s.2<s.1
  .rw[zK h];obtain⟨a,b⟩:=Ch l out hn;refine⟨a,fun x=>?_⟩;rw[b,bV];have:¬(s.1<=x/\x<=s.2):=zo;simp[this]
  .rw[zJ h];obtain⟨a0,c⟩:=EY out s zo hn;obtain⟨a,b⟩:=Ch l _ a0;refine⟨a,fun x=>?_⟩;rw[b,c,bV];constructor
   .rintro((h|h)|h)
    .exact qcY
    .exact .inl h
    .exact qdw
   .rintro(h|h|h)
    .exact .inl (.inr h)
    .exact qcZ
    .exact .inr h
theorem jc(l:List dm):oh (pu l)/\∀x,iP (pu l) x↔iP l x:=by
 obtain⟨a,b⟩:=Ch l [] .nil;exact⟨a,fun x=>by rw[pu,b];simp[jl]⟩
def qC:List dm->Int->Int->List dm
 |[],lo,hi=>if lo<=hi then[(lo,hi)]else[]
 |s::r,lo,hi=>(if lo<s.1 then[(lo,s.1-1)]else[])++qC r (s.2+1) hi
theorem rO:∀(l:List dm) (lo hi:Int),oh l->(∀s∈l,lo<=s.1/\s.2<=hi)->oh (qC l lo hi)/\∀x,iP (qC l lo hi) x↔(lo<=x/\x<=hi)/\¬iP l x
 |[],lo,hi,_,_=>by
  unfold qC;by_cases h:lo<=hi
  .rw[zK h];exact⟨.cons h (fun t ht=>by cases ht) .nil,fun x=>by simp[bV,jl]⟩
  .rw[zJ h]
   exact⟨.nil,fun x=>⟨fun f=>absurd f (jl _),fun f=>zo⟩⟩
 |s::r,lo,hi,hn,hb=>by
  have k:=hb s (yF ..);have j:=hn.head;obtain⟨a,b⟩:=rO r (s.2+1) hi hn.tail fun t ht=>⟨by have:=(yS.1 hn.sep).1 t ht;omega,(hb t (zU _ ht)).2⟩;unfold qC;have e:∀x,((lo<=x/\x<s.1)\/iP (qC r (s.2+1) hi) x)↔(lo<=x/\x<=hi)/\¬iP (s::r) x:=fun x=>by
   rw[b,bV];constructor
   .rintro(h|⟨d,g⟩)
    .refine⟨zo,?_⟩;rintro(c|c)
     .omega
     .have:=hn.after c;omega
    .refine⟨zo,?_⟩;rintro(c|c)
     .omega
     .exact g c
   .rintro⟨d,g⟩;by_cases f:x<s.1
    .exact .inl ⟨d.1,f⟩
    .refine .inr ⟨⟨?_,d.2⟩,fun c=>g (.inr c)⟩;refine Int.not_lt.1 fun i=>g (.inl ⟨zo,zo⟩)
  by_cases h:lo<s.1
  .rw[zK h];refine⟨.cons (by show lo<=s.1-1;omega) (fun t ht=>?_) a,fun x=>?_⟩
   .have:=((b _).1 (a.first ht)).1;show s.1-1+1<t.1;omega
   .rw[List.singleton_append,bV,<-e];show(lo<=x/\x<=s.1-1)\/_↔_;rw[show(lo<=x/\x<=s.1-1)↔(lo<=x/\x<s.1)by omega]
  .rw[zJ h];refine⟨a,fun x=>?_⟩;rw[xN,<-e];constructor
   .exact .inr
   .rintro(d|d)
    .omega
    .exact d
end Cl
namespace Cl
def nD(u:Int):Int:=u/10000*9999+u%10000-1
def di(k:Int):Int:=k/9999*10000+k%9999+1
theorem pO{u:Int}(h:u%10000≠0):di (nD u)=u:=by unfold di nD;omega
theorem P5(k:Int):nD (di k)=k:=by unfold di nD;omega
theorem wO(k:Int):di k%10000≠0:=by unfold di;omega
theorem AR{u v:Int}(b:u%10000≠0)(a:v%10000≠0):nD u<=nD v↔u<=v:=by unfold nD;omega
theorem jY{k l:Int}:di k<=di l↔k<=l:=by unfold di;omega
def jA(u:Int):Int:=if(u+1)%10000=0 then u+2 else u+1
def je(u:Int):Int:=if(u-1)%10000=0 then u-2 else u-1
theorem Ee(k:Int):jA (di k)=di (k+1):=by unfold jA di;split<;>omega
theorem Lf(k:Int):je (di k)=di (k-1):=by unfold je di;split<;>omega
end Cl
namespace Cl
theorem Yj{l p:List dm}(h:p.Perm l)(x:Int):iP p x↔iP l x:=by
 simp only[iP,h.mem_iff]
theorem MH{l p:List dm}(d:p.Perm l)(e:p.Pairwise fun s t=>s.1<=t.1)(c:∀s∈l,s.1<=s.2):(rJ p []).reverse=pu l:=by
 obtain⟨a,b⟩:=vK p [] (fun s h=>c s (d.mem_iff.1 h)) e ⟨fun s h=>qeJ,.nil⟩ (fun t h=>qeJ);refine sM a.rev (jc l).1 fun x=>?_;rw[Oj,b,(jc l).2,Yj d];simp[jl]
def IE(s:dm):dm:=(nD s.1,nD s.2)
def jE(s:dm):dm:=(di s.1,di s.2)
def jQ(nx:Int->Int):List dm->List dm->List dm
 |[],out=>out
 |s::l,[]=>jQ nx l [s]
 |s::l,t::out=>if s.1<=nx t.2 then jQ nx l ((t.1,max t.2 s.2)::out)else jQ nx l (s::t::out)
theorem yt:∀l out:List dm,jQ (fun n=>n+1) l out=rJ l out
 |[],out=>rfl
 |s::l,[]=>by simp only[jQ,rJ,yt]
 |s::l,t::out=>by simp only[jQ,rJ,yt]
theorem Te(k l:Int):max (di k) (di l)=di (max k l):=by unfold di;omega
theorem sQ:∀l out:List dm,jQ jA (l.map jE) (out.map jE)=(rJ l out).map jE
 |[],out=>rfl
 |s::l,[]=>by
  have a:=sQ l [s]
  simpa only[jQ,rJ,yL,xB]using a
 |s::l,t::out=>by
  simp only[yL,jQ,rJ];show(if di s.1<=jA (di t.2)then jQ jA (l.map jE) ((di t.1,max (di t.2) (di s.2))::out.map jE)else _)=_;rw[Ee];by_cases h:s.1<=t.2+1
  .rw[zK (jY.2 h),zK h,Te];exact sQ l ((t.1,max t.2 s.2)::out)
  .rw[zJ (fun e=>h (jY.1 e)),zJ h];exact sQ l (s::t::out)
def gz:Int:=100000000000
def iX:Int:=1000000000000000
def wu(s:dm):dm:=(max s.1 (-gz),min s.2 gz)
def nI(l:List dm):List dm:=(l.map wu).filter fun s=>decide (s.1<=s.2)
def trimF(s:dm):dm:=(if s.1%10000=0 then s.1+1 else s.1,if s.2%10000=0 then s.2-1 else s.2)
def qd(s:dm):dm:=trimF (max s.1 (-iX),min s.2 iX)
def nJ(l:List dm):List dm:=(l.map qd).filter fun s=>decide (s.1<=s.2)
theorem QO{l:List dm}:∀s∈nI l,s.1<=s.2:=fun s h=>by simpa using(xR.1 h).2
theorem QQ{l:List dm}:∀s∈nJ l,s.1<=s.2:=fun s h=>by simpa using(xR.1 h).2
theorem Xz(s:dm):(trimF s).1%10000≠0/\(trimF s).2%10000≠0:=by
 unfold trimF;constructor
 .show(if s.1%10000=0 then s.1+1 else s.1)%10000≠0
  split<;>omega
 .show(if s.2%10000=0 then s.2-1 else s.2)%10000≠0
  split<;>omega
theorem Cm{l:List dm}:∀s∈nJ l,s.1%10000≠0/\s.2%10000≠0:=fun s h=>by
 obtain⟨t,-,rfl⟩:=yD.1 (xR.1 h).1;exact Xz _
def Jp(l:List dm):List dm:=pu (nI l)
def hzH(l:List dm):List dm:=pu ((nJ l).map IE)
theorem czU{l:List dm}:∀s∈(nJ l).map IE,s.1<=s.2:=fun s h=>by
 obtain⟨t,ht,rfl⟩:=yD.1 h;obtain⟨b,a⟩:=Cm t ht;exact(AR b a).2 (QQ t ht)
theorem Yn{l p:List dm}(b:p.Perm (nI l))(a:p.Pairwise fun s t=>s.1<=t.1):(jQ (fun n=>n+1) p []).reverse=Jp l:=by
 rw[yt];exact MH b a QO
theorem Ui{l p:List dm}(g:p.Perm (nJ l))(i:p.Pairwise fun s t=>s.1<=t.1):(jQ jA p []).reverse=(hzH l).map jE:=by
 have f:∀s∈p,s.1%10000≠0/\s.2%10000≠0:=fun s h=>Cm s (g.mem_iff.1 h);have e:(p.map IE).map jE=p:=by
  rw[vE];refine(xZ fun s h=>?_).trans (List.map_id _);obtain⟨k,j⟩:=f s h;show(di (nD s.1),di (nD s.2))=s;rw[pO k,pO j]
 have d:(p.map IE).Pairwise fun s t=>s.1<=t.1:=by
  refine List.pairwise_map.2 (i.imp_of_mem fun {a b} ha hb h=>?_);exact(AR (f a ha).1 (f b hb).1).2 h
 have c:=MH (g.map IE) d czU;rw[<-e];rw[show([]:List dm)=([]:List dm).map jE from rfl,sQ,<-List.map_reverse,c]
 rfl
end Cl
namespace Cl
structure NS where
 i:List dm
 f:List dm
def oV:Int := -999900000000000
def uF:Int:=999899999999999
structure fT (x:NS):Prop where
 ni:oh x.i
 nf:oh x.f
 bi:∀s∈x.i,-gz<=s.1/\s.2<=gz
 bf:∀s∈x.f,oV<=s.1/\s.2<=uF
def NS.rf(x:NS):List dm:=x.f.map jE
def gG(I F:List dm):NS:=⟨Jp I,hzH F⟩
def dh(u:Int):Prop := -iX<=u/\u<=iX
instance (u:Int):Decidable (dh u):=by unfold dh;infer_instance
def NS.has(x:NS)(u:Int):Prop:=(u%10000=0/\iP x.i (u/10000))\/(u%10000≠0/\iP x.f (nD u))
def u7(I F:List dm)(u:Int):Prop:=(u%10000=0/\iP I (u/10000))\/(u%10000≠0/\iP F u)
def oZ:NS:=⟨[],[]⟩
theorem I4{l:List dm}(h:oh l){lo hi:Int}(b:∀x,iP l x->lo<=x/\x<=hi):∀s∈l,lo<=s.1/\s.2<=hi:=fun s a=>
 ⟨(b s.1 ⟨s,a,xU _,h.ok s a⟩).1,(b s.2 ⟨s,a,h.ok s a,xU _⟩).2⟩
theorem Kb{l:List dm}{lo hi:Int}(h:∀s∈l,lo<=s.1/\s.2<=hi){x:Int}(a:iP l x):lo<=x/\x<=hi:=by
 obtain⟨s,b,d,c⟩:=a;have:=h s b;omega
theorem Uc{l:List dm}{x:Int}:iP (nI l) x↔(-gz<=x/\x<=gz)/\iP l x:=by
 constructor
 .rintro⟨s,c,b,a⟩;obtain⟨d,-⟩:=xR.1 c;obtain⟨t,ht,rfl⟩:=yD.1 d;simp only[wu]at b a;exact⟨zo,t,ht,zo,zo⟩
 .rintro⟨e,t,ht,b,a⟩;refine⟨wu t,xR.2 ⟨yD.2 ⟨t,ht,rfl⟩,?_⟩,?_,?_⟩
  .exact zN (show max t.1 (-gz)<=min t.2 gz by omega)
  .show max t.1 (-gz)<=x;omega
  .show x<=min t.2 gz;omega
theorem XA{s:dm}{u:Int}(e:u%10000≠0):((trimF s).1<=u/\u<=(trimF s).2)↔s.1<=u/\u<=s.2:=by
 have d:(trimF s).1=if s.1%10000=0 then s.1+1 else s.1:=rfl;have c:(trimF s).2=if s.2%10000=0 then s.2-1 else s.2:=rfl;rw[d,c];by_cases b:s.1%10000=0<;>by_cases a:s.2%10000=0<;>simp only[b,a,if_true,if_false]<;>omega
theorem Na{t:dm}{u:Int}(a:u%10000≠0):((qd t).1<=u/\u<=(qd t).2)↔dh u/\t.1<=u/\u<=t.2:=by
 unfold qd;rw[XA a];show(max t.1 (-iX)<=u/\u<=min t.2 iX)↔_;simp only[dh];omega
theorem Ud{l:List dm}{u:Int}(b:u%10000≠0):iP (nJ l) u↔dh u/\iP l u:=by
 constructor
 .rintro⟨s,c,i,g⟩;obtain⟨d,-⟩:=xR.1 c;obtain⟨t,ht,rfl⟩:=yD.1 d;obtain⟨a,f⟩:=(Na b).1 ⟨i,g⟩;exact⟨a,t,ht,f⟩
 .rintro⟨e,t,ht,h⟩;have a:=(Na (t:=t) b).2 ⟨e,h⟩;exact⟨qd t,xR.2 ⟨yD.2 ⟨t,ht,rfl⟩,by simp only[decide_eq_true_eq];omega⟩,a⟩
theorem Yi{l:List dm}(d:∀s∈l,s.1%10000≠0/\s.2%10000≠0){u:Int}(a:u%10000≠0):iP (l.map IE) (nD u)↔iP l u:=by
 constructor
 .rintro⟨s,e,c,b⟩;obtain⟨t,ht,rfl⟩:=yD.1 e;have:=d t ht;exact⟨t,ht,(AR this.1 a).1 c,(AR a this.2).1 b⟩
 .rintro⟨t,ht,c,b⟩;have:=d t ht;exact⟨IE t,yD.2 ⟨t,ht,rfl⟩,(AR this.1 a).2 c,(AR a this.2).2 b⟩
theorem sO{l:List dm}{u:Int}(c:u%10000≠0):iP (l.map jE) u↔iP l (nD u):=by
 constructor
 .rintro⟨s,d,b,a⟩;obtain⟨t,ht,rfl⟩:=yD.1 d;rw[<-pO c]at b a;exact⟨t,ht,jY.1 b,jY.1 a⟩
 .rintro⟨t,ht,b,a⟩;refine⟨jE t,yD.2 ⟨t,ht,rfl⟩,?_,?_⟩
  .rw[<-pO c];exact jY.2 b
  .rw[<-pO c];exact jY.2 a
theorem pz(I F:List dm)(u:Int):(gG I F).has u↔dh u/\u7 I F u:=by
 simp only[NS.has,gG,u7];by_cases a:u%10000=0
 .simp only[a,ne_eq,not_true_eq_false,false_and,or_false,true_and,Jp,(jc _).2,Uc];have:(-gz<=u/10000/\u/10000<=gz)↔dh u:=by simp only[dh,gz,iX];omega
  rw[this]
 .simp only[a,ne_eq,not_false_eq_true,false_and,false_or,true_and,hzH,(jc _).2];rw[Yi Cm a,Ud a]
theorem fT.mF{x:NS}(h:fT x){u:Int}(b:x.has u):dh u:=by
 rcases b with⟨c,a⟩|⟨c,a⟩
 .have:=Kb h.bi a;simp only[dh,gz,iX]at*
  omega
 .have:=Kb h.bf a;simp only[dh,iX,oV,uF,nD]at*
  omega
theorem fT.WE{x:NS}{n:Int}:iP x.i n↔x.has (n*10000):=by
 simp only[NS.has];rw[show n*10000%10000=0 by omega,show n*10000/10000=n by omega];simp
theorem fT.azV{x:NS}{k:Int}:iP x.f k↔x.has (di k):=by
 simp only[NS.has,P5];have:=wO k;constructor
 .exact fun h=>.inr ⟨this,h⟩
 .rintro(⟨b,-⟩|⟨-,a⟩)
  .exact absurd b this
  .exact a
theorem xu{x y:NS}(f:fT x)(e:fT y)(h:∀u,x.has u↔y.has u):x=y:=by
 obtain⟨c,d⟩:=x;obtain⟨a,b⟩:=y;have i:c=a:=sM f.ni e.ni fun n=>(fT.WE (x:=⟨c,d⟩)).trans ((h _).trans (fT.WE (x:=⟨a,b⟩)).symm);have g:d=b:=sM f.nf e.nf fun n=>(fT.azV (x:=⟨c,d⟩)).trans ((h _).trans (fT.azV (x:=⟨a,b⟩)).symm);rw[i,g]
theorem fT.of{x:NS}(c:oh x.i)(b:oh x.f)(a:∀u,x.has u->dh u):fT x:=by
 refine⟨c,b,I4 c fun n d=>?_,I4 b fun k hk=>?_⟩
 .have:=a _ (fT.WE.1 d);simp only[dh,gz,iX]at*
  omega
 .have:=a _ (fT.azV.1 hk);simp only[dh,oV,uF,iX,di]at*
  omega
theorem kU(I F:List dm):fT (gG I F):=.of (jc _).1 (jc _).1 fun u h=>((pz I F u).1 h).1
theorem oW:fT oZ:=⟨.nil,.nil,fun s h=>qeJ,fun s h=>qeJ⟩
theorem lQ(u:Int):¬oZ.has u:=by
 rintro(⟨-,h⟩|⟨-,h⟩)<;>exact jl _ h
theorem EE(x:NS)(u:Int):u7 x.i x.rf u↔x.has u:=by
 simp only[u7,NS.has,NS.rf];by_cases a:u%10000=0
 .simp[a]
 .simp only[a,false_and,false_or,ne_eq,not_false_eq_true,true_and];exact sO a
theorem mR{x:NS}(h:fT x):gG x.i x.rf=x:=xu (kU _ _) h fun u=>by
 rw[pz,EE];exact⟨And.right,fun a=>⟨h.mF a,a⟩⟩
theorem dzc:gG [] []=oZ:=by
 refine xu (kU _ _) oW fun u=>?_;rw[pz];refine⟨fun h=>?_,fun h=>absurd h (lQ u)⟩;rcases h.2 with⟨-,h⟩|⟨-,h⟩<;>exact absurd h (jl _)
def iO(x:NS):NS:=⟨qC x.i (-gz) gz,qC x.f oV uF⟩
def p8(x y:NS):NS:=⟨pu (x.i++y.i),pu (x.f++y.f)⟩
def qL(x y:NS):NS:=iO (p8 (iO x) (iO y))
def gK(x y:NS):NS:=qL x (iO y)
def O8:NS:=⟨[(-gz,gz)],[(oV,uF)]⟩
def Hg:NS:=⟨[(-gz,gz)],[]⟩
theorem pV{x:NS}(h:fT x)(u:Int):(iO x).has u↔dh u/\¬x.has u:=by
 have a:=rO x.i (-gz) gz h.ni h.bi;have b:=rO x.f oV uF h.nf h.bf;simp only[NS.has,iO];by_cases c:u%10000=0
 .simp only[c,ne_eq,not_true_eq_false,false_and,or_false,true_and,a.2];have:(-gz<=u/10000/\u/10000<=gz)↔dh u:=by simp only[dh,gz,iX];omega
  rw[this]
 .simp only[c,ne_eq,not_false_eq_true,false_and,false_or,true_and,b.2];have:(oV<=nD u/\nD u<=uF)↔dh u:=by simp only[dh,oV,uF,iX,nD];omega
  rw[this]
theorem kX{x:NS}(h:fT x):fT (iO x):=.of (rO x.i _ _ h.ni h.bi).1 (rO x.f _ _ h.nf h.bf).1 fun u a=>((pV h u).1 a).1
theorem Dq(x y:NS)(u:Int):(p8 x y).has u↔x.has u\/y.has u:=by
 simp only[NS.has,p8,(jc _).2,FX];by_cases a:u%10000=0<;>simp[a]
theorem IQ{x y:NS}(b:fT x)(a:fT y):fT (p8 x y):=.of (jc _).1 (jc _).1 fun u c=>((Dq x y u).1 c).elim b.mF a.mF
theorem O6{x y:NS}(b:fT x)(a:fT y):fT (qL x y):=kX (IQ (kX b) (kX a))
theorem Km{x y:NS}(a:fT x)(c:fT y)(u:Int):(qL x y).has u↔x.has u/\y.has u:=by
 unfold qL;rw[pV (IQ (kX a) (kX c)),Dq,pV a,pV c];constructor
 .rintro⟨d,h⟩;constructor
  .exact zP fun b=>h (.inl ⟨d,b⟩)
  .exact zP fun b=>h (.inr ⟨d,b⟩)
 .rintro⟨e,f⟩;refine⟨a.mF e,?_⟩;rintro(⟨-,h⟩|⟨-,h⟩)
  .exact h e
  .exact h f
theorem jB{x y:NS}(b:fT x)(a:fT y):fT (gK x y):=O6 b (kX a)
theorem iW{x y:NS}(b:fT x)(a:fT y)(u:Int):(gK x y).has u↔x.has u/\¬y.has u:=by
 unfold gK;rw[Km b (kX a),pV a];exact⟨fun h=>⟨h.1,h.2.2⟩,fun h=>⟨h.1,b.mF h.1,h.2⟩⟩
theorem O7:fT O8:=by
 refine⟨.cons zD (fun t ht=>(by cases ht)) .nil,.cons zD (fun t ht=>(by cases ht)) .nil,?_,?_⟩
 .exact qhV
 .exact qhV
theorem x9{a b x:Int}:iP [(a,b)] x↔a<=x/\x<=b:=by rw[bV];simp[jl]
theorem cze(u:Int):O8.has u↔dh u:=by
 simp only[NS.has,O8,x9];by_cases a:u%10000=0
 .simp only[a,true_and,ne_eq,not_true_eq_false,false_and,or_false,dh,gz,iX];omega
 .simp only[a,false_and,ne_eq,not_false_eq_true,true_and,false_or,dh,oV,uF,iX,nD];omega
theorem Xi:fT Hg:=⟨O7.ni,.nil,O7.bi,fun s h=>qeJ⟩
theorem SN(u:Int):Hg.has u↔dh u/\u%10000=0:=by
 simp only[NS.has,Hg,x9,dh,gz,iX];have:=jl (nD u);by_cases a:u%10000=0
 .simp only[a,true_and,ne_eq,not_true_eq_false,false_and,or_false,and_true];omega
 .simp only[a,false_and,ne_eq,not_false_eq_true,false_or,and_false,this]
theorem fzh(I F a b:List dm):gG (I++a) (F++b)=p8 (gG I F) (gG a b):=xu (kU _ _) (IQ (kU _ _) (kU _ _)) fun u=>by
 rw[Dq,pz,pz,pz,<-and_or_left];refine and_congr_right fun _=>?_;simp only[u7,FX];by_cases c:u%10000=0<;>simp[c]
def kY(x y:dm):dm:=(max x.1 y.1,min x.2 y.2)
def eZ(a b:List dm):List dm:=a.flatMap fun x=>(b.map (kY x)).filter fun z=>decide (z.1<=z.2)
theorem Qr{a b:List dm}{u:Int}:iP (eZ a b) u↔iP a u/\iP b u:=by
 constructor
 .rintro⟨s,e,g,f⟩;obtain⟨x,d,e⟩:=xW.1 e;obtain⟨h,-⟩:=xR.1 e;obtain⟨y,c,rfl⟩:=yD.1 h;simp only[kY]at g f;exact⟨⟨x,d,zo,zo⟩,y,c,zo,zo⟩
 .rintro⟨⟨x,d,g,f⟩,y,c,j,i⟩;refine⟨kY x y,xW.2 ⟨x,d,xR.2 ⟨yD.2 ⟨y,c,rfl⟩,?_⟩⟩,?_,?_⟩
  .exact zN (show max x.1 y.1<=min x.2 y.2 by omega)
  .simp only[kY];omega
  .simp only[kY];omega
theorem dzW{x y:NS}(b:fT x)(c:fT y):gG (eZ x.i y.i) (eZ x.rf y.rf)=qL x y:=xu (kU _ _) (O6 b c) fun u=>by
 rw[Km b c,pz,<-EE x,<-EE y];simp only[u7,Qr];by_cases a:u%10000=0
 .simp only[a,ne_eq,not_true_eq_false,false_and,or_false,true_and];exact⟨And.right,fun h=>⟨b.mF (.inl ⟨a,h.1⟩),h⟩⟩
 .simp only[a,ne_eq,not_false_eq_true,false_and,false_or,true_and];exact⟨And.right,fun h=>⟨b.mF (.inr ⟨a,(sO a).1 h.1⟩),h⟩⟩
def gB(nx a:Int->Int):List dm->Int->Int->List dm
 |[],lo,hi=>if lo<=hi then[(lo,hi)]else[]
 |s::r,lo,hi=>(if lo<=a s.1 then[(lo,a s.1)]else[])++gB nx a r (nx s.2) hi
theorem yx:∀(l:List dm) (lo hi:Int),gB (fun n=>n+1) (fun n=>n-1) l lo hi=qC l lo hi
 |[],_,_=>rfl
 |s::r,lo,hi=>by
  simp only[gB,qC,yx];by_cases h:lo<s.1
  .rw[zK h,zK zo]
  .rw[zJ h,zJ zo]
theorem Ju:∀(l:List dm) (lo hi:Int),gB jA je (l.map jE) (di lo) (di hi)=(qC l lo hi).map jE
 |[],lo,hi=>by
  simp only[gB,qC,xB];by_cases h:lo<=hi
  .rw[zK h,zK (jY.2 h)];rfl
  .rw[zJ h,zJ (fun e=>h (jY.1 e))];rfl
 |s::r,lo,hi=>by
  simp only[gB,qC,yL];show(if di lo<=je (di s.1)then[(di lo,je (di s.1))]else[])++gB jA je (r.map jE) (jA (di s.2)) (di hi)=_;rw[Lf,Ee,Ju,yI];by_cases h:lo<s.1
  .rw[zK h,zK (jY.2 zo)];rfl
  .rw[zJ h,zJ (fun e=>h (by have:=jY.1 e;omega))];rfl
theorem WL(x:NS):gB jA je x.rf (1-iX) (iX-1)=(iO x).rf:=by
 have b:(1-iX:Int)=di oV:=by decide
 have a:(iX-1:Int)=di uF:=by decide
 rw[b,a];exact Ju x.f oV uF
theorem dza{x:NS}(h:fT x):gG (gB (fun n=>n+1) (fun n=>n-1) x.i (-gz) gz) (gB jA je x.rf (1-iX) (iX-1))=iO x:=by
 rw[yx,WL];exact mR (kX h)
def CR(u:Int):NS:=gG [(-gz,(u-1)/10000)] [(-iX,u-1)]
def KV(u:Int):NS:=gG [(-gz,u/10000)] [(-iX,u)]
def Cu(u:Int):NS:=gG [(-(-u/10000),u/10000)] [(u,u)]
theorem Ot(u v:Int):(CR u).has v↔dh v/\v<u:=by
 unfold CR;rw[pz];refine and_congr_right fun a=>?_;simp only[u7,x9,gz,iX,dh]at*
 omega
theorem Ox(u v:Int):(KV u).has v↔dh v/\v<=u:=by
 unfold KV;rw[pz];refine and_congr_right fun a=>?_;simp only[u7,x9,gz,iX,dh]at*
 omega
theorem GR(u v:Int):(Cu u).has v↔dh v/\v=u:=by
 unfold Cu;rw[pz];refine and_congr_right fun a=>?_;simp only[u7,x9];omega
theorem Ci(u:Int):fT (CR u):=kU _ _
theorem Jg(u:Int):fT (KV u):=kU _ _
theorem zw(u:Int):fT (Cu u):=kU _ _
theorem ezN(u:Int):p8 (CR u) (Cu u)=KV u:=xu (IQ (Ci u) (zw u)) (Jg u) fun v=>by
 rw[Dq,Ot,GR,Ox,<-and_or_left];exact and_congr_right fun _=>zo
end Cl
namespace Cl
def kG(u v:Int):Prop:=max u (-u)<max v (-v)\/(max u (-u)=max v (-v)/\v<u)
instance (u v:Int):Decidable (kG u v):=by unfold kG;infer_instance
theorem FU(u:Int):¬kG u u:=by unfold kG;omega
theorem rE{a b c:Int}(h:kG a b)(k:kG b c):kG a c:=by unfold kG at*;omega
theorem vw{a b:Int}(h:a≠b):kG a b\/kG b a:=by unfold kG;omega
theorem oL{a b:Int}(h:kG a b):¬kG b a:=by unfold kG at*;omega
structure oo (p:Int->Prop) (r:Option Int):Prop where
 no:r=none->∀u,¬p u
 one:∀u,r=some u->p u/\∀v,p v->v=u\/kG u v
theorem oo.unique{p:Int->Prop}{r s:Option Int}(h:oo p r)(k:oo p s):r=s:=by
 cases r with
 |none=>cases s with
  |none=>rfl
  |some u=>exact absurd (k.one u rfl).1 (h.no rfl u)
 |some u=>cases s with
  |none=>exact absurd (h.one u rfl).1 (k.no rfl u)
  |some v=>
   obtain⟨f,d⟩:=h.one u rfl;obtain⟨c,b⟩:=k.one v rfl;rcases d v c with e|e
   .rw[e]
   .rcases b u f with a|a
    .rw[a]
    .exact absurd e (oL a)
theorem oo.congr{p q:Int->Prop}{r:Option Int}(h:oo p r)(e:∀u,p u↔q u):oo q r:=
 ⟨fun a u c=>h.no a u ((e u).2 c),fun u a=>⟨(e u).1 (h.one u a).1,fun v b=>(h.one u a).2 v ((e v).2 b)⟩⟩
def gF:List Int->Option Int->Option Int
 |[],b=>b
 |u::l,none=>gF l (some u)
 |u::l,some b=>gF l (some (if kG u b then u else b))
theorem Ag:∀(l:List Int) (b:Option Int),oo (fun u=>u∈l\/b=some u) (gF l b)
 |[],none=>⟨fun _ u n=>(by simp at n),fun u e=>(by cases e)⟩
 | [],some b=>⟨fun h=>qeJ,fun u e=>⟨.inr e,fun v g=>by
  rcases g with g|g
  .cases g
  .rw[show gF [] (some b)=some b from rfl]at e;rw[e]at g;cases g;exact .inl rfl⟩⟩
 |u::l,none=>by
  refine(Ag l (some u)).congr fun v=>?_;simp only[yA,Option.some.injEq,reduceCtorEq,or_false];constructor
  .rintro(h|h)
   .exact .inr h
   .exact .inl h.symm
  .rintro(h|h)
   .exact .inr h.symm
   .exact .inl h
 |u::l,some b=>by
  have j:=Ag l (some (if kG u b then u else b));refine⟨fun e v g=>?_,fun v e=>?_⟩
  .exact j.no e (if kG u b then u else b) (.inr rfl)
  .obtain⟨f,m⟩:=j.one v e;refine⟨?_,fun x d=>?_⟩
   .rcases f with f|f
    .exact .inl (zU _ f)
    .simp only[Option.some.injEq]at f;by_cases c:kG u b
     .rw[zK c]at f;exact .inl (by rw[f];exact yF ..)
     .rw[zJ c]at f;exact .inr (by rw[f])
   ·
    have a:=m (if kG u b then u else b) (.inr rfl);rcases d with d|d
    .rcases yA.1 d with d|d
     .subst d;by_cases c:kG x b
      .rw[zK c]at a;exact a
      .rw[zJ c]at a;by_cases k:x=b
       .rw[k];exact a
       .rcases vw k with i|i
        .exact absurd i c
        .rcases a with a|a
         .rw[<-a];exact .inr i
         .exact .inr (rE a i)
     .exact m x (.inl d)
    .simp only[Option.some.injEq]at d;subst d;by_cases c:kG u b
     .rw[zK c]at a;rcases a with a|a
      .rw[<-a];exact .inr c
      .exact .inr (rE a c)
     .rw[zJ c]at a;exact a
theorem oo.cz8{p:Int->Prop}{l:List Int}(k:∀u∈l,p u)(f:∀v,p v->∃u∈l,v=u\/kG u v):oo p (gF l none):=by
 have h:=Ag l none;refine⟨fun d v c=>?_,fun u d=>?_⟩
 .obtain⟨u,i,-⟩:=f v c;exact h.no d u (.inl i)
 .obtain⟨h3,j⟩:=h.one u d;refine⟨k u qeF,fun v c=>?_⟩;obtain⟨x,g,a⟩:=f v c;rcases j x (.inl g)with b|b
  .subst b;exact a
  .rcases a with e|e
   .subst e;exact .inr b
   .exact .inr (rE b e)
def dG(s:dm)(mid:Int):Int:=if s.1 > 0 then s.1 else if s.2<0 then s.2 else mid
def ezS(x:NS):List Int:=x.i.map (fun s=>dG s 0*10000)++x.rf.map (fun s=>dG s 1)
def fP(x:NS):Option Int:=gF (ezS x) none
theorem azU{x:NS}{s:dm}(a:s∈x.rf):∃t∈x.f,s=jE t:=by
 obtain⟨t,ht,rfl⟩:=yD.1 a;exact⟨t,ht,rfl⟩
theorem TC{x:NS}{s:dm}(b:s∈x.rf){u:Int}(a:u%10000≠0)(d:s.1<=u)(c:u<=s.2):x.has u:=
 .inr ⟨a,(sO a).1 ⟨s,b,d,c⟩⟩
theorem czS{x:NS}(h:fT x){s:dm}(a:s∈x.rf):s.1<=s.2/\s.1%10000≠0/\s.2%10000≠0:=by
 obtain⟨t,ht,rfl⟩:=azU a;exact⟨jY.2 (h.nf.ok t ht),wO _,wO _⟩
theorem bzl{x:NS}{s:dm}(a:s∈x.i){n:Int}(c:s.1<=n)(b:n<=s.2):x.has (n*10000):=fT.WE.1 ⟨s,a,c,b⟩
theorem Yz{x:NS}{u:Int}(h:x.has u):(∃s∈x.i,∃n,u=n*10000/\s.1<=n/\n<=s.2)\/(∃s∈x.rf,u%10000≠0/\s.1<=u/\u<=s.2):=by
 rcases h with⟨d,s,a,c,b⟩|⟨d,c⟩
 .exact .inl ⟨s,a,u/10000,zo,c,b⟩
 .obtain⟨s,a,b,e⟩:=(sO d).2 c;exact .inr ⟨s,a,d,b,e⟩
theorem mD{x:NS}(h:fT x):oo x.has (fP x):=by
 refine oo.cz8 (fun u b=>?_) fun v d=>?_
 .rcases yP.1 b with b|b
  .obtain⟨s,a,rfl⟩:=yD.1 b;have:=h.ni.ok s a;unfold dG
   split
   .exact bzl a (xU _) this
   .split
    .exact bzl a this (xU _)
    .exact bzl a zo zo
  .obtain⟨s,a,rfl⟩:=yD.1 b;obtain⟨c,k,j⟩:=czS h a;show x.has (dG s 1);unfold dG
   split
   .exact TC a k (xU _) c
   .split
    .exact TC a j c (xU _)
    .exact TC a zD zo zo
 .rcases Yz d with⟨s,a,n,rfl,g,f⟩|⟨s,a,i,g,f⟩
  .refine⟨dG s 0*10000,xI _ (yD.2 ⟨s,a,rfl⟩),?_⟩;unfold dG kG
   split
   .omega
   .split
    .omega
    .omega
  .refine⟨dG s 1,xS _ (yD.2 ⟨s,a,rfl⟩),?_⟩;unfold dG kG
   split
   .omega
   .split
    .omega
    .have:v≠0:=fun e=>i qeM;omega
def Fj:Option Int->Option Int->Int
 |none,none=>0
 |some _,none => -1
 |none,some _=>1
 |some u,some v=>if kG u v then -1 else 1
def rW(x y:NS):Int:=Fj (fP (gK x y)) (fP (gK y x))
def Pi(p q:Int->Prop):Prop:=∃u,p u/\¬q u/\∀v,kG v u->(p v↔q v)
theorem RG{x y:NS}(g:fT x)(f:fT y):rW x y = -1↔Pi x.has y.has:=by
 have a:=mD (jB g f);have b:=mD (jB f g);have n:∀u,fP (gK x y)=some u->(∀v,fP (gK y x)=some v->kG u v)->Pi x.has y.has:=fun u E D=>by
  obtain⟨t,m⟩:=a.one u E;obtain⟨l,F⟩:=(iW g f u).1 t;refine⟨u,l,F,fun v d=>⟨fun q=>?_,fun p=>?_⟩⟩
  .refine zP fun s=>?_;rcases m v ((iW g f v).2 ⟨q,s⟩)with rfl|h
   .exact FU _ d
   .exact oL h d
  .refine zP fun s=>?_;have k:=(iW f g v).2 ⟨p,s⟩
   cases c:fP (gK y x)with
   |none=>exact b.no c v k
   |some z=>
    have w:=D z c;rcases(b.one z c).2 v k with rfl|h
    .exact oL w d
    .exact oL (rE w h) d
 constructor
 .intro h;unfold rW at h
  cases hr:fP (gK x y)with
  |none=>
   rw[hr]at h
   cases c:fP (gK y x)with
   |none=>rw[c]at h;simp[Fj]at h
   |some v=>rw[c]at h;simp[Fj]at h
  |some u=>
   rw[hr]at h;refine n u hr fun v c=>?_;rw[c]at h;simp only[Fj]at h
   split at h
   .assumption
   .simp at h
 .rintro⟨u,t,m,l⟩;have k:=(iW g f u).2 ⟨t,m⟩;unfold rW
  cases hr:fP (gK x y)with
  |none=>exact absurd k (a.no hr u)
  |some z=>
   cases c:fP (gK y x)with
   |none=>rfl
   |some v=>
    obtain⟨C,B⟩:=a.one z hr;obtain⟨A,G⟩:=b.one v c;have j:=(iW g f z).1 C;have i:=(iW f g v).1 A;have r:z=u:=by
     rcases B u k with e|e
     .exact e.symm
     .exact absurd ((l z e).1 j.1) j.2
    subst r;have o:kG z v:=by
     by_cases e:z=v
     .subst e;exact absurd i.1 m
     .rcases vw e with h|h
      .exact h
      .exact absurd ((l v h).2 i.1) i.2
    simp only[Fj,zK o]
theorem Y8{x y:NS}(c:fT x)(d:fT y):rW x y=0↔x=y:=by
 have a:=mD (jB c d);have b:=mD (jB d c);constructor
 .intro h;unfold rW at h;refine xu c d fun u=>?_
  cases hr:fP (gK x y)with
  |some z=>
   rw[hr]at h
   cases hs:fP (gK y x)with
   |none=>rw[hs]at h;simp[Fj]at h
   |some v=>rw[hs]at h;simp only[Fj]at h;split at h<;>simp at h
  |none=>
   cases hs:fP (gK y x)with
   |some v=>rw[hr,hs]at h;simp[Fj]at h
   |none=>
    constructor
    .exact fun f=>zP fun g=>a.no hr u ((iW c d u).2 ⟨f,g⟩)
    .exact fun f=>zP fun g=>b.no hs u ((iW d c u).2 ⟨f,g⟩)
 .rintro rfl;have e:gK x x=oZ:=xu (jB c c) oW fun u=>by
   rw[iW c c];exact⟨fun h=>absurd h.1 h.2,fun h=>absurd h (lQ u)⟩
  unfold rW;rw[e]
  rfl
theorem Vo(x y:NS):rW x y = -1\/rW x y=0\/rW x y=1:=by
 unfold rW;cases fP (gK x y)<;>cases fP (gK y x)
 .exact .inr (.inl rfl)
 .exact .inr (.inr rfl)
 .exact .inl rfl
 .rename_i u v;by_cases h:kG u v
  .exact .inl (zK h)
  .exact .inr (.inr (zJ h))
theorem Y9{x y:NS}(b:fT x)(a:fT y):rW x y=1↔Pi y.has x.has:=by
 rw[<-RG a b];unfold rW
 cases hr:fP (gK x y)with
 |none=>cases hs:fP (gK y x)<;>simp[Fj]
 |some u=>
  cases hs:fP (gK y x)with
  |none=>simp[Fj]
  |some v=>
   have f:=(iW b a u).1 ((mD (jB b a)).one u hr).1;have d:=(iW a b v).1 ((mD (jB a b)).one v hs).1;have c:u≠v:=fun e=>by subst e;exact f.2 d.1
   simp only[Fj];rcases vw c with h|h
   .rw[zK h,zJ (oL h)];simp
   .rw[zJ (oL h),zK h];simp
end Cl
namespace Cl
theorem uQ{n a:Nat}(h:n<=a){es:List Ed}:∀{p:Int},bS n p es->bS a p es:=by
 induction es with
 |nil=>intro p _;trivial
 |cons e es ih=>intro p ⟨h1,h2,h3,h4,h5⟩;exact⟨h1,h2,zo,h4,ih h5⟩
theorem Pv{n:Nat}{es:List Ed}{p q:Int}(h:bS n p es)(f:q<=p):bS n q es:=by
 cases es with
 |nil=>trivial
 |cons e es=>obtain⟨d,c,b,g,a⟩:=h;exact⟨d,c,b,zo,a⟩
theorem sG{n:Nat}{es fs:List Ed}:∀{p q:Int},bS n p es->(∀e∈es,(e.hi:Int)<=q)->p<=q->bS n q fs->bS n p (es++fs):=by
 induction es with
 |nil=>intro p q _ _ a b;exact Pv b a
 |cons e es ih=>
  intro p q ⟨h1,h2,h3,h4,h5⟩ hq _ b;exact⟨h1,h2,h3,h4,ih h5 (fun x hx=>hq x qd8) (hq e zS) b⟩
theorem Bo{n:Nat}{es fs:List Ed}:∀{p:Int},bS n p (es++fs)->bS n p es:=by
 induction es with
 |nil=>intro p _;trivial
 |cons e es ih=>intro p ⟨h1,h2,h3,h4,h5⟩;exact⟨h1,h2,h3,h4,ih h5⟩
theorem kR(es fs:List Ed)(b:Nat)(h:∀e∈es,¬(e.lo<=b/\b<=e.hi)):bE (es++fs) b=bE fs b:=by
 induction es with
 |nil=>rfl
 |cons e es ih=>
  simp only[xK,bE];rw[zJ (h e zS)];exact ih fun x hx=>h x qd8
theorem ku(es fs:List Ed)(b:Nat)(h:∃e∈es,e.lo<=b/\b<=e.hi):bE (es++fs) b=bE es b:=by
 induction es with
 |nil=>obtain⟨e,h,_⟩:=h;simp at h
 |cons e es ih=>
  simp only[xK,bE]
  split
  .rfl
  .rename_i d;obtain⟨x,a,c⟩:=h;rcases yA.1 a with rfl|a
   .exact absurd c d
   .exact ih ⟨x,a,c⟩
theorem vP(es:List Ed)(b:Nat)(h:∀e∈es,¬(e.lo<=b/\b<=e.hi)):bE es b = -1:=by
 have:=kR es [] b h;simpa [bE]using this
theorem jD{n:Nat}{es:List Ed}:∀{p:Int},bS n p es->∀e∈es,p<e.lo/\e.lo<=e.hi/\0<=e.to/\e.to<n:=by
 induction es with
 |nil=>intro p _ e a;simp at a
 |cons x es ih=>
  intro p ⟨h1,h2,h3,h4,h5⟩ e a;rcases yA.1 a with rfl|a
  .exact⟨h4,h1,h2,h3⟩
  .have:=ih h5 e a;exact⟨zo,this.2⟩
theorem CW{n:Nat}{es:List Ed}{x:Ed}:∀{p:Int},bS n p (es++[x])->∀e∈es,e.hi<x.lo:=by
 induction es with
 |nil=>intro p _ e a;simp at a
 |cons y es ih=>
  intro p ⟨h1,h2,h3,h4,h5⟩ e a;rcases yA.1 a with rfl|a
  .have:=(jD h5 x zS).1;omega
  .exact ih h5 e a
theorem Ub{es:List Ed}{x:Ed}(h:Merged es)(a:∀y,es.getLast?=some y->¬(y.to=x.to/\y.hi+1=x.lo)):Merged (es++[x]):=by
 induction es with
 |nil=>trivial
 |cons e es ih=>
  cases es with
  |nil=>exact⟨a e rfl,trivial⟩
  |cons f es=>exact⟨h.1,ih h.2 (fun y b=>a y (by simpa using b))⟩
theorem Oi{es:List Ed}{x:Ed}{hi:Nat}(h:Merged (es++[x])):Merged (es++[⟨x.lo,hi,x.to⟩]):=by
 induction es with
 |nil=>trivial
 |cons e es ih=>
  cases es with
  |nil=>exact⟨h.1,trivial⟩
  |cons f es=>exact⟨h.1,ih h.2⟩
def lJ(es:List Ed)(lo hi:Nat)(to:Nat):List Ed:=match es.getLast? with
 |some e=>if e.to=to/\e.hi+1=lo then es.dropLast++[⟨e.lo,hi,to⟩]else es++[⟨lo,hi,to⟩]
 |none=>es++[⟨lo,hi,to⟩]
theorem P6{n:Nat}{es:List Ed}{lo hi to:Nat}(o:bS n (-1) es)(g:∀e∈es,e.hi<lo)(p:lo<=hi)(h256:hi<256)(k:to<n)(t:iE es)(s:Merged es):
 bS n (-1) (lJ es lo hi to)/\(∀e∈lJ es lo hi to,e.hi<=hi)/\iE (lJ es lo hi to)/\Merged (lJ es lo hi to) /\
  ∀b,bE (lJ es lo hi to) b=if lo<=b/\b<=hi then(to:Int)else bE es b:=by
 have plain:(∀y,es.getLast?=some y->¬(y.to=(to:Int)/\y.hi+1=lo))->bS n (-1) (es++[⟨lo,hi,to⟩])/\(∀e∈es++[⟨lo,hi,to⟩],e.hi<=hi)/\iE (es++[⟨lo,hi,to⟩])/\Merged (es++[⟨lo,hi,to⟩]) /\
  ∀b,bE (es++[⟨lo,hi,to⟩]) b=if lo<=b/\b<=hi then(to:Int)else bE es b:=by
  intro A;refine⟨sG (q:=(lo:Int)-1) o (fun e a=>by have:=g e a;omega) zo ⟨p,zS,by simpa using k,by show(lo:Int)-1<(lo:Int);omega,trivial⟩,?_,?_,Ub s A,?_⟩
  .intro e a;rcases yP.1 a with h|h
   .have:=g e h;omega
   .simp only[zZ]at h;subst h;exact zI _
  .intro e a;rcases yP.1 a with h|h
   .exact t e h
   .exact qcN
  .intro b;by_cases c:lo<=b/\b<=hi
   .rw[zK c,kR _ _ _ (fun e a=>by have:=g e a;omega)];simp[bE,c]
   .rw[zJ c];by_cases d:∃e∈es,e.lo<=b/\b<=e.hi
    .exact ku _ _ _ d
    .have m:∀e∈es,¬(e.lo<=b/\b<=e.hi):=fun e a h=>d ⟨e,a,h⟩;rw[kR _ _ _ m,vP _ _ m];simp[bE,c]
 unfold lJ
 split
 .rename_i e a
  split
  .rename_i r;obtain⟨l,C⟩:=r;obtain⟨fs,rfl⟩:∃fs,es=fs++[e]:=List.getLast?_eq_some_iff.1 a;rw[List.dropLast_concat];have i:=CW o;have B:=(jD o e zS);have z:=g e zS;refine⟨sG (q:=(e.lo:Int)-1) (Bo o) (fun x f=>by have:=i x f;omega) zo ⟨by show e.lo<=hi;omega,zS,by simpa using k,by show(e.lo:Int)-1<(e.lo:Int);omega,trivial⟩,?_,?_,?_,?_⟩
   .intro x f;rcases yP.1 f with h|h
    .have:=i x h;omega
    .simp only[zZ]at h;subst h;exact zI _
   .intro x f;rcases yP.1 f with h|h
    .exact t x qeI
    .exact qcN
   .have:=Oi (hi:=hi) s
    rwa [l]at this
   .intro b;by_cases d:∃x∈fs,x.lo<=b/\b<=x.hi
    .obtain⟨x,f,v,u⟩:=d;have:=i x f;rw[ku _ _ _ ⟨x,f,v,u⟩,ku _ _ _ ⟨x,f,v,u⟩,zJ zo]
    .have m:∀x∈fs,¬(x.lo<=b/\b<=x.hi):=fun x f h=>d ⟨x,f,h⟩;rw[kR _ _ _ m,kR _ _ _ m];simp only[bE];by_cases c:lo<=b/\b<=hi
     .rw[zK c,zK zo]
     .rw[zJ c];by_cases w:e.lo<=b/\b<=e.hi
      .rw[zK zo,zK w,l]
      .rw[zJ zo,zJ w]
  .rename_i r;exact plain fun y j=>by rw[a]at j;cases j;exact r
 .rename_i a;exact plain fun y j=>by rw[a]at j;cases j
def d9(cf:Nat->Int)(o:List Nat)(t:Nat):Nat:=o.findIdx fun s=>cf s==cf t
def eH(cf:Nat->Int)(o:List Nat)(t:Nat):List Nat:=if d9 cf o t<o.length then o else o++[t]
def Mc(cf:Nat->Int)(o:List Nat):Prop:=o.Pairwise fun a b=>cf a≠cf b
theorem IG(cf:Nat->Int)(o:List Nat)(t:Nat):d9 cf o t<=o.length:=List.findIdx_le_length
theorem Ya{cf:Nat->Int}{o:List Nat}{t:Nat}(h:d9 cf o t<o.length):cf (o[d9 cf o t])=cf t:=by
 have:=List.findIdx_getElem (p:=fun s=>cf s==cf t) (w:=h);exact eq_of_beq this
theorem II{cf:Nat->Int}{o x:List Nat}{t:Nat}(h:d9 cf o t<o.length):d9 cf (o++x) t=d9 cf o t:=by
 unfold d9 at*
 rw[List.findIdx_append,zK h]
theorem X9{cf:Nat->Int}{o:List Nat}{t:Nat}(h:¬d9 cf o t<o.length):d9 cf (o++[t]) t=o.length:=by
 unfold d9 at*
 rw[List.findIdx_append,zJ h];simp[List.findIdx_cons]
theorem TK{cf:Nat->Int}{o:List Nat}{t:Nat}(h:¬d9 cf o t<o.length):∀s∈o,cf s≠cf t:=by
 intro s a e;exact h (List.findIdx_lt_length.2 ⟨s,a,by simpa using e⟩)
theorem dzI{cf:Nat->Int}{o:List Nat}(t:Nat)(h:Mc cf o):Mc cf (eH cf o t):=by
 unfold eH
 split
 .exact h
 .rename_i d;exact List.pairwise_append.2 ⟨h,zS,fun a e b c=>by
   simp only[zZ]at c;subst c;exact TK d a e⟩
theorem dzH{cf:Nat->Int}{o:List Nat}(h:Mc cf o){i j:Nat}(hi:i<o.length)(a:j<o.length)(e:cf o[i]=cf o[j]):i=j:=by
 have:=List.pairwise_iff_getElem.1 h;rcases Nat.lt_trichotomy i j with c|c|c
 .exact absurd e (this i j hi a c)
 .exact c
 .exact absurd e.symm (this j i a hi c)
theorem TP(cf:Nat->Int)(o:List Nat)(t:Nat):o <+: eH cf o t:=by
 unfold eH
 split
 .exact List.prefix_rfl
 .exact qde
theorem IP(cf:Nat->Int)(o:List Nat)(t:Nat):d9 cf (eH cf o t) t=d9 cf o t/\d9 cf o t<(eH cf o t).length:=by
 unfold eH
 split
 .rename_i h;exact⟨rfl,h⟩
 .rename_i h;have:=IG cf o t;exact⟨by rw[X9 h];omega,by simp;omega⟩
theorem Wn{cf:Nat->Int}{o o':List Nat}(h:o <+: o'){t:Nat}(ht:d9 cf o t<o.length):d9 cf o' t=d9 cf o t:=by
 obtain⟨x,rfl⟩:=h;exact II ht
theorem NV{o o':List Nat}(h:o <+: o'){i:Nat}(hi:i<o.length):o'[i]'(xP hi h.length_le)=o[i]:=by
 obtain⟨x,rfl⟩:=h;exact xM hi
theorem TQ{cf:Nat->Int}{o:List Nat}{t:Nat}:∀x∈eH cf o t,x∈o\/x=t:=by
 intro x a;unfold eH at a
 split at a
 .exact .inl a
 .simpa using a
theorem TR{cf:Nat->Int}{o:List Nat}{t:Nat}:(eH cf o t).length=o.length\/(eH cf o t).length=o.length+1/\d9 cf o t=o.length:=by
 unfold eH
 split
 .exact .inl rfl
 .rename_i h;have:=IG cf o t;exact .inr ⟨zS,zo⟩
section
variable (cf:Nat->Int) (dl:Nat->Nat->Option Nat) (lo hi:Nat->Nat) (ac:Nat->Bool) (K:Nat)
def dQ(s:Nat)(o:List Nat):Nat->List Nat×List Ed
 |0=>(o,[])
 |i+1=>match dl s i with
  |none=>dQ s o i
  |some t=>(eH cf (dQ s o i).1 t,lJ (dQ s o i).2 (lo i) (hi i) (d9 cf (dQ s o i).1 t))
def dL:Nat->List Nat×aK
 |0=>([0],[])
 |k+1=>((dQ cf dl lo hi ((dL k).1.getD k 0) (dL k).1 K).1,(dL k).2++[⟨ac ((dL k).1.getD k 0),(dQ cf dl lo hi ((dL k).1.getD k 0) (dL k).1 K).2⟩])
structure Ivs:Prop where
 le:∀i,i<K->lo i<=hi i/\hi i<256
 sep:∀i j,i<j->j<K->hi i<lo j
 cover:∀b,b<256->∃i,i<K/\lo i<=b/\b<=hi i
def tgt(o:List Nat):Option Nat->Int
 |none => -1
 |some t=>d9 cf o t
structure VM (N s:Nat) (o:List Nat) (i:Nat) (r:List Nat×List Ed):Prop where
 pre:o <+: r.1
 GU:Mc cf r.1
 lt:∀x∈r.1,x<N
 wf:bS r.1.length (-1) r.2
 low:∀e∈r.2,∀j,i<=j->j<K->e.hi<lo j
 bytes:iE r.2
 EP:Merged r.2
 step:∀j,j<i->∀b,lo j<=b->b<=hi j->bE r.2 b=tgt cf r.1 (dl s j)
 there:∀j,j<i->∀t,dl s j=some t->d9 cf r.1 t<r.1.length
 new:∀p,o.length<=p->p<r.1.length->∃j,j<i/\∃t,dl s j=some t/\d9 cf r.1 t=p
 seen:∀j,j<i->∀t,dl s j=some t->∀p,o.length<=p->p<d9 cf r.1 t->∃j',j'<j/\∃t',dl s j'=some t'/\d9 cf r.1 t'=p
variable {cf dl lo hi ac K}
theorem Wm{N s:Nat}{o:List Nat}(E:Ivs lo hi K)(P:Mc cf o)(B:∀x∈o,x<N)(D:∀i t,i<K->dl s i=some t->t<N):
 ∀i,i<=K->VM cf dl lo hi K N s o i (dQ cf dl lo hi s o i):=by
 intro i
 induction i with
 |zero=>
  intro _
  exact⟨List.prefix_rfl,P,B,trivial,fun e l=>by simp[dQ]at l,fun e l=>by simp[dQ]at l,trivial,fun j m=>zo,fun j m=>zo,fun p n k=>by simp[dQ]at k;omega,fun j m=>zo⟩
 |succ i a=>
  intro O;have a:=a zo;have A:=E.le i zo
  cases hc:dl s i with
  |none=>
   have e:dQ cf dl lo hi s o (i+1)=dQ cf dl lo hi s o i:=by simp[dQ,hc]
   rw[e];generalize dQ cf dl lo hi s o i=r at*
   refine⟨a.pre,a.GU,a.lt,a.wf,fun e l j m=>a.low e l j zo,a.bytes,a.EP,?_,?_,?_,?_⟩
   .intro j m b n k;by_cases c:j=i
    .subst c;rw[hc];show _=(-1:Int);apply vP;intro e l;have:=a.low e l j (zI _) zo;omega
    .exact a.step j zo b n k
   .intro j m t ht;by_cases c:j=i
    .subst c;rw[hc]at ht;cases ht
    .exact a.there j zo t ht
   .intro p n k;obtain⟨j,m,h⟩:=a.new p n k;exact⟨j,zo,h⟩
   .intro j m t ht;by_cases c:j=i
    .subst c;rw[hc]at ht;cases ht
    .exact a.seen j zo t ht
  |some t=>
   have e:dQ cf dl lo hi s o (i+1)=(eH cf (dQ cf dl lo hi s o i).1 t,lJ (dQ cf dl lo hi s o i).2 (lo i) (hi i) (d9 cf (dQ cf dl lo hi s o i).1 t)):=by simp[dQ,hc]
   rw[e];generalize dQ cf dl lo hi s o i=r at*
   have q:=TP cf r.1 t;have f:=IP cf r.1 t;have z:=q.length_le;obtain⟨L,J,I,H,G⟩:=P6 (to:=d9 cf r.1 t) (uQ z a.wf) (fun e l=>a.low e l i (zI _) zo) A.1 A.2 f.2 a.bytes a.EP;have d:∀j,j<i->∀u,dl s j=some u->d9 cf (eH cf r.1 t) u=d9 cf r.1 u:=fun j m u g=>Wn q (a.there j m u g);refine⟨a.pre.trans q,dzI t a.GU,?_,L,?_,I,H,?_,?_,?_,?_⟩
   .intro x M;rcases TQ x M with h|h
    .exact a.lt x h
    .subst h;exact D i _ zo hc
   .intro e l j m C;have n:=J e l;have k:=E.sep i j zo C;omega
   .intro j m b n k;show bE (lJ r.2 (lo i) (hi i) (d9 cf r.1 t)) b=tgt cf (eH cf r.1 t) (dl s j);rw[G];by_cases c:j=i
    .subst c;rw[zK ⟨n,k⟩,hc];show _=((d9 cf (eH cf r.1 t) t:Nat):Int);rw[f.1]
    .have:=E.sep j i zo zo;rw[zJ zo,a.step j zo b n k]
     cases g:dl s j with
     |none=>rfl
     |some u=>simp only[tgt];rw[d j zo u g]
   .intro j m u g;by_cases c:j=i
    .subst c;rw[hc]at g;cases g;show d9 cf (eH cf r.1 t) t<(eH cf r.1 t).length;rw[f.1];exact f.2
    .have:=a.there j zo u g;show d9 cf (eH cf r.1 t) u<(eH cf r.1 t).length;rw[d j zo u g];omega
   .intro p n k;have k:p<(eH cf r.1 t).length:=k;by_cases c:p<r.1.length
    .obtain⟨j,m,u,g,l⟩:=a.new p n c;exact⟨j,zo,u,g,by rw[<-l];exact d j m u g⟩
    .rcases TR (cf:=cf) (o:=r.1) (t:=t)with h|⟨h,h'⟩
     .omega
     .exact⟨i,zo,t,hc,by show d9 cf (eH cf r.1 t) t=p;rw[f.1];omega⟩
   .intro j m u g p n k;have k:p<d9 cf (eH cf r.1 t) u:=k;by_cases c:j=i
    .subst c;rw[hc]at g;cases g;rw[f.1]at k;have:=IG cf r.1 t;obtain⟨w,v,u,g,l⟩:=a.new p n zo;exact⟨w,v,u,g,by rw[<-l];exact d w v u g⟩
    .rw[d j zo u g]at k;obtain⟨w,v,F,y,l⟩:=a.seen j zo u g p n k;exact⟨w,v,F,y,by rw[<-l];exact d w zo F y⟩
structure fzR (cf:Nat->Int) (dl:Nat->Nat->Option Nat) (lo hi:Nat->Nat) (ac:Nat->Bool) (K N k:Nat) (r:List Nat×aK):Prop where
 first:r.1[0]?=some 0
 GU:Mc cf r.1
 lt:∀x∈r.1,x<N
 len:r.2.length=k
 state:∀j,(h:j<r.2.length)->∃h':j<r.1.length,(r.2[j]).bU=ac r.1[j]/\bS r.1.length (-1) (r.2[j]).bv/\iE (r.2[j]).bv/\Merged (r.2[j]).bv /\
  ∀i,i<K->(∀b,lo i<=b->b<=hi i->bE (r.2[j]).bv b=tgt cf r.1 (dl r.1[j] i))/\∀t,dl r.1[j] i=some t->d9 cf r.1 t<r.1.length
 reach:∀p,0<p->p<r.1.length->∃j,j<k/\j<p/\∃i,i<K/\∃t,dl (r.1.getD j 0) i=some t/\d9 cf r.1 t=p
 seen:∀j,j<k->∀i,i<K->∀t,dl (r.1.getD j 0) i=some t->∀p,0<p->p<d9 cf r.1 t ->
  ∃j' i',(j'<j\/j'=j/\i'<i)/\i'<K/\∃t',dl (r.1.getD j' 0) i'=some t'/\d9 cf r.1 t'=p
theorem rM{o o':List Nat}(h:o <+: o'){i:Nat}(hi:i<o.length):o'.getD i 0=o.getD i 0:=by
 have a:=xP hi h.length_le;simp[hi,a,NV h hi]
theorem GX{N:Nat}(V:Ivs lo hi K)(h0:0<N)(J:∀s i t,s<N->i<K->dl s i=some t->t<N):
 ∀k,(∀j,j<k->j<(dL cf dl lo hi ac K j).1.length)->fzR cf dl lo hi ac K N k (dL cf dl lo hi ac K k):=by
 intro k
 induction k with
 |zero=>
  intro _
  exact⟨rfl,by simp[dL,Mc],fun x I=>by simp[dL]at I;omega,rfl,fun j h=>by simp[dL]at h,fun p B n=>by simp[dL]at n;omega,fun j o=>zo⟩
 |succ k ih=>
  intro hk;have ih:=ih fun j o=>hk j zo;have m:=hk k zo;have Q:(dL cf dl lo hi ac K (k+1)).1=(dQ cf dl lo hi ((dL cf dl lo hi ac K k).1.getD k 0) (dL cf dl lo hi ac K k).1 K).1:=rfl;have P:(dL cf dl lo hi ac K (k+1)).2=(dL cf dl lo hi ac K k).2++[⟨ac ((dL cf dl lo hi ac K k).1.getD k 0),(dQ cf dl lo hi ((dL cf dl lo hi ac K k).1.getD k 0) (dL cf dl lo hi ac K k).1 K).2⟩]:=rfl;generalize U:dL cf dl lo hi ac K (k+1)=S at*
  generalize dL cf dl lo hi ac K k=r at*
  have T:r.1.getD k 0<N:=ih.lt _ (by simp[m]);have R:=Wm (cf:=cf) (s:=r.1.getD k 0) V ih.GU ih.lt (fun i t hi ht=>J _ i t T hi ht) K (zI _);obtain⟨z,q2⟩:=S;simp only at Q P;generalize hq:dQ cf dl lo hi (r.1.getD k 0) r.1 K=q at*
  obtain⟨qo,C⟩:=q;subst Q;subst P;have a:=R.pre;have w:=a.length_le;simp only at R a w;have g:∀j,j<k->∀i,i<K->∀t,dl (r.1.getD j 0) i=some t->d9 cf z t=d9 cf r.1 t/\d9 cf r.1 t<r.1.length:=by
   intro j o i e t ht;obtain⟨H,-,-,-,-,W⟩:=ih.state j (by rw[ih.len];exact o);have O:=(W i e).2 t (by simpa [H]using ht);exact⟨Wn a O,O⟩
  refine⟨?_,R.GU,R.lt,by simp[ih.len],?_,?_,?_⟩
  .obtain⟨x,I⟩:=a;show z[0]?=some 0;rw[<-I,yK zo];exact ih.first
  .intro j o;by_cases c:j<k
   .obtain⟨H,B,n,Z,Y,X⟩:=ih.state j qeS;have M:(r.2++[⟨ac (r.1.getD k 0),C⟩])[j]'o=r.2[j]'qeS:=xM qeS;have L:=NV a H;refine⟨by show j<z.length;omega,?_⟩;show((r.2++[⟨ac (r.1.getD k 0),C⟩])[j]'o).bU=_/\_;simp only[M,L];refine⟨B,uQ w n,Z,Y,fun i e=>⟨fun b b1 b2=>?_,fun t ht=>?_⟩⟩
    .rw[(X i e).1 b b1 b2]
     cases hu:dl r.1[j] i with
     |none=>rfl
     |some u=>simp only[tgt];rw[(g j c i e u (by simpa [H]using hu)).1]
    .have:=g j c i e t (by simpa [H]using ht);omega
   .have:j=k:=by simp[ih.len]at o;omega
    subst this;have M:(r.2++[⟨ac (r.1.getD j 0),C⟩])[j]'o=⟨ac (r.1.getD j 0),C⟩:=by
     rw[List.getElem_append_right (by rw[ih.len];omega)];simp[ih.len]
    have L:=NV a m;have ed:r.1.getD j 0=r.1[j]:=by simp[m]
    refine⟨by show j<z.length;omega,?_⟩;show((r.2++[⟨ac (r.1.getD j 0),C⟩])[j]'o).bU=_/\_;simp only[M,L];rw[ed]at R⊢;exact⟨rfl,R.wf,R.bytes,R.EP,fun i e=>⟨R.step i e,R.there i e⟩⟩
  .intro p B n;have n:p<z.length:=n;by_cases c:p<r.1.length
   .obtain⟨j,o,F,i,e,t,ht,v⟩:=ih.reach p B c;refine⟨j,zo,F,i,e,t,?_,?_⟩
    .rw[rM a zo];exact ht
    .rw[<-v];exact(g j o i e t ht).1
   .obtain⟨i,e,t,ht,v⟩:=R.new p zo n;refine⟨k,zo,zo,i,e,t,?_,v⟩;rw[rM a m];exact ht
  .intro j o i e t ht p B n;have n:p<d9 cf z t:=n;have ht:dl (z.getD j 0) i=some t:=ht;by_cases c:j<k
   .rw[rM a zo]at ht;rw[(g j c i e t ht).1]at n;obtain⟨D,A,E,f,y,l,v⟩:=ih.seen j c i e t ht p B n;refine⟨D,A,E,f,y,?_,?_⟩
    .rw[rM a zo];exact l
    .rw[<-v];exact(g D zo A f y l).1
   .have:j=k:=zo;subst this;rw[rM a m]at ht;by_cases d:p<r.1.length
    .obtain⟨D,G,F,A,f,y,l,v⟩:=ih.reach p B d;refine⟨D,A,.inl G,f,y,?_,?_⟩
     .rw[rM a zo];exact l
     .rw[<-v];exact(g D G A f y l).1
    .obtain⟨A,f,y,l,v⟩:=R.seen i e t ht p zo n;refine⟨j,A,.inr ⟨rfl,f⟩,zo,y,?_,v⟩;rw[rM a m];exact l
end
structure Ap (T:aK) (N:Nat) (cf:Nat->Int) (dl:Nat->Nat->Option Nat) (lo hi:Nat->Nat) (ac:Nat->Bool) (K:Nat):Prop where
 iv:Ivs lo hi K
 pos:0<N
 some:∀s i t,s<N->i<K->dl s i=some t->t<N/\(∃w,aH T t w=true)/\∀b,lo i<=b->b<=hi i->∀w,aH T (bX T s b) w=aH T t w
 none:∀s i,s<N->i<K->dl s i=none->∀b,lo i<=b->b<=hi i->∀w,aH T (bX T s b) w=false
 cZ:∀s t,s<N->t<N->(cf s=cf t↔∀w,aH T s w=aH T t w)
 acc:∀s,s<N->ac s=bI T s
 live:∃w,aH T 0 w=true
theorem Nl{T:aK}{N:Nat}{cf:Nat->Int}{dl:Nat->Nat->Option Nat}{lo hi:Nat->Nat}{ac:Nat->Bool}{K k:Nat}(H:Ap T N cf dl lo hi ac K)
(hk:∀j,j<k->j<(dL cf dl lo hi ac K j).1.length)(Q:(dL cf dl lo hi ac K k).1.length=k):
 cB (dL cf dl lo hi ac K k).2/\∀w,aH (dL cf dl lo hi ac K k).2 0 w=aH T 0 w:=by
 have B:=GX (cf:=cf) (ac:=ac) H.iv H.pos (fun s i t x v R=>(H.some s i t x v R).1) k hk;generalize dL cf dl lo hi ac K k=r at*
 obtain⟨o,out⟩:=r;simp only at*
 have A:=B.len;simp only at A;have f:∀j,(h:j<o.length)->o[j]<N:=fun j h=>B.lt _ (zF h);have m:∀j,(h:j<o.length)->∀b,b<256->∃i,i<K/\lo i<=b/\b<=hi i/\bX out j b=tgt cf o (dl o[j] i):=by
  intro j h b Y;obtain⟨i,a,x,v⟩:=H.iv.cover b Y;obtain⟨y,-,-,-,-,L⟩:=B.state j qeB;refine⟨i,a,x,v,?_⟩;rw[iT out j b zo];exact(L i a).1 b x v
 have z:∀j,(h:j<o.length)->∀i,i<K->∀t,dl o[j] i=some t->∃M:d9 cf o t<o.length,cf o[d9 cf o t]=cf t:=by
  intro j h i a t ht;obtain⟨y,-,-,-,-,L⟩:=B.state j qeB;have:=(L i a).2 t ht;exact⟨this,Ya this⟩
 have g:∀w,∀j,(h:j<o.length)->aH out j w=aH T o[j] w:=by
  intro w
  induction w with
  |nil=>
   intro j h;obtain⟨y,v,-⟩:=B.state j qeB;simp only[aH];rw[kT out j zo]
   exact v.trans (H.acc _ (f j h))
  |cons b w ih=>
   intro j h;simp only[aH];obtain⟨i,a,x,v,e⟩:=m j h b.toNat b.toNat_lt;rw[e]
   cases hd:dl o[j] i with
   |none=>
    rw[H.none _ i (f j h) a hd _ x v w]
    exact eU (by simp[tgt]) w
   |some t=>
    obtain⟨M,X⟩:=z j h i a t hd;have n:=H.some _ i t (f j h) a hd;show aH out (d9 cf o t:Nat) w=_;rw[ih _ M,n.2.2 _ x v w];exact(H.cZ _ _ (f _ M) n.1).1 X w
 have W:=B.first;simp only at W;have h0:0<o.length:=by
  cases o with
  |nil=>simp at W
  |cons _ _=>simp
 have O:o[0]=0:=by
  obtain⟨h,e⟩:=yB.1 W;exact e
 have F:∀j,(h:j<o.length)->∃w,aH T o[j] w=true:=by
  intro j h;by_cases c:j=0
  .subst c;simp only[O];exact H.live
  .obtain⟨d,I,P,i,a,t,ht,l⟩:=B.reach j zo h;have q:d<o.length:=zo;have ht:dl o[d] i=some t:=by simpa [q]using ht
   obtain⟨M,X⟩:=z d q i a t ht;have n:=H.some _ i t (f d q) a ht;obtain⟨w,S⟩:=n.2.1;have l:d9 cf o t=j:=l;refine⟨w,?_⟩;rw[<-S];subst l;exact(H.cZ _ _ (f _ M) n.1).1 X w
 refine⟨⟨?_,?_,?_,?_,?_,?_,?_⟩,?_⟩
 .intro s n;obtain⟨j,J,rfl⟩:=yT.1 n;obtain⟨y,-,R,-⟩:=B.state j J;show bS out.length _ _;have R:bS o.length (-1) out[j].bv:=R
  rwa [A,<-Q]
 .intro s n;obtain⟨j,J,rfl⟩:=yT.1 n;obtain⟨y,-,-,h4,-⟩:=B.state j J;exact h4
 .intro s n;obtain⟨j,J,rfl⟩:=yT.1 n;obtain⟨y,-,-,-,h5,-⟩:=B.state j J;exact h5
 .intro j J;obtain⟨w,S⟩:=F j zo;exact⟨w,(g w j zo).trans S⟩
 .intro i j a J l;refine dzH B.GU (show i<o.length by omega) (show j<o.length by omega) ?_;refine(H.cZ _ _ (f _ _) (f _ _)).2 fun w=>?_;rw[<-g w i zo,<-g w j zo,l w]
 .intro j b t Y ht p x v;by_cases c:j<o.length
  .obtain⟨i,a,b1,b2,e⟩:=m j c b Y;rw[ht]at e
   cases hd:dl o[j] i with
   |none=>rw[hd]at e;simp[tgt]at e
   |some u=>
    rw[hd]at e;have e:t=d9 cf o u:=by simp only[tgt]at e;omega
    obtain⟨d,D,V,C,Z,E,l⟩:=B.seen j zo i a u (by simpa [c]using hd) p x (by show p<d9 cf o u;omega);have I:d<o.length:=zo;have E:dl o[d] D=some Z:=by simpa [I]using E
    have l:d9 cf o Z=p:=l;have G:=H.iv.le D C;obtain⟨y,-,-,-,-,L⟩:=B.state d (by show d<out.length;omega);refine⟨d,lo D,zo,?_,?_⟩
    .rcases V with h|⟨h,y⟩
     .exact .inl h
     .refine .inr ⟨h,?_⟩;have:=H.iv.sep D i y a;omega
    .rw[iT out d _ zo];have:=(L D C).1 (lo D) (zI _) G.1;refine this.trans ?_;show tgt cf o (dl o[d] D)=_;rw[E];simp[tgt,l]
  .rw[gX out j b zo]at ht;omega
 .intro t x v;obtain⟨d,I,P,i,a,u,U,l⟩:=B.reach t x (by show t<o.length;omega);have q:d<o.length:=zo;have U:dl o[d] i=some u:=by simpa [q]using U
  have l:d9 cf o u=t:=l;have G:=H.iv.le i a;obtain⟨y,-,-,-,-,L⟩:=B.state d (by show d<out.length;omega);refine⟨d,lo i,P,zo,?_⟩;rw[iT out d _ zo];have:=(L i a).1 (lo i) (zI _) G.1;refine this.trans ?_;show tgt cf o (dl o[d] i)=_;rw[U];simp[tgt,l]
 .intro w;have:=g w 0 h0;rw[O]at this;exact this
end Cl
namespace Cl
theorem mr{α:Type}[DecidableEq α]:∀(l b:List α),l.Nodup->(∀x∈l,x∈b)->l.length<=b.length:=by
 intro l
 induction l with
 |nil=>intro b _ _;simp
 |cons a l ih=>
  intro b c d;have c:=List.nodup_cons.1 c;have f:a∈b:=d a zS;have:=ih (b.erase a) c.2 fun x hx=>(List.mem_erase_of_ne (fun e=>c.1 (by rw[<-e];exact hx))).2 (d x qd8);have h:=List.length_erase_of_mem f;have g:=List.length_pos_of_mem f;exact qdt
theorem czE{a b:Nat}(f:Nat->Nat)(h:∀v,v<a->∃u,u<b/\f u=v):a<=b:=by
 have:=mr (List.range a) ((List.range b).map f) List.nodup_range (fun x c=>by
  obtain⟨u,d,e⟩:=h x (yQ.1 c);exact yD.2 ⟨u,yQ.2 d,e⟩)
 exact qbi
theorem aza{a:Nat}(f:Nat->Nat)(h:∀v,v<a->∃u,u<a/\f u=v){i j:Nat}(hi:i<a)(l:j<a)(e:f i=f j):i=j:=by
 apply zP;intro b;have:=mr (List.range a) (((List.range a).erase j).map f) List.nodup_range (fun x g=>by
  obtain⟨u,k,d⟩:=h x (yQ.1 g);by_cases c:u=j
  .subst c;exact yD.2 ⟨i,(List.mem_erase_of_ne b).2 (yQ.2 hi),by rw[e];exact d⟩
  .exact yD.2 ⟨u,(List.mem_erase_of_ne c).2 (yQ.2 k),d⟩)
 rw[xC,List.length_erase_of_mem (yQ.2 l),List.length_range]at this;omega
theorem Mh{α:Type}:∀{l:List α},l.Nodup->∀{i j:Nat} (hi:i<l.length) (a:j<l.length),l[i]=l[j]->i=j:=by
 intro l b i j hi a e;have:=List.pairwise_iff_getElem.1 b;rcases Nat.lt_trichotomy i j with c|c|c
 .exact absurd e (this i j hi a c)
 .exact c
 .exact absurd e.symm (this j i a hi c)
def ig(f:Nat->List Int):Nat->List (List Int)×List Int
 |0=>([],[])
 |k+1=>(if(ig f k).1.findIdx (·==f k)<(ig f k).1.length then(ig f k).1 else(ig f k).1++[f k],(ig f k).2++[((ig f k).1.findIdx (·==f k):Int)])
structure CK (f:Nat->List Int) (k:Nat) (r:List (List Int)×List Int):Prop where
 nodup:r.1.Nodup
 len:r.2.length=k
 le:r.1.length<=k
 at_:∀s,s<k->∃p:Nat,r.2[s]?=some (p:Int)/\r.1[p]?=some (f s)
 from_:∀p,(h:p<r.1.length)->∃s,s<k/\f s=r.1[p]
theorem Wu(f:Nat->List Int):∀k,CK f k (ig f k):=by
 intro k
 induction k with
 |zero=>exact⟨by simp[ig],rfl,by simp[ig],fun s h=>zo,fun p h=>by simp[ig]at h⟩
 |succ k ih=>
  have e:ig f (k+1)=(if(ig f k).1.findIdx (·==f k)<(ig f k).1.length then(ig f k).1 else(ig f k).1++[f k],(ig f k).2++[((ig f k).1.findIdx (·==f k):Int)]):=rfl;rw[e];generalize ig f k=r at*
  have q:r.1.findIdx (·==f k)<=r.1.length:=List.findIdx_le_length;have g:=ih.len;by_cases c:r.1.findIdx (·==f k)<r.1.length
  .rw[zK c];have t:r.1[r.1.findIdx (·==f k)]=f k:=by
    have:=List.findIdx_getElem (p:=(·==f k)) (w:=c);exact qbi
   refine⟨ih.nodup,by simp[g],by have:=ih.le;simp;omega,fun s n=>?_,fun p h=>?_⟩
   .by_cases d:s<k
    .obtain⟨p,l,i⟩:=ih.at_ s d;exact⟨p,by rw[yK zo];exact l,i⟩
    .have:s=k:=zo;subst this;exact⟨r.1.findIdx (·==f s),by rw[yN zo];simp[g],by simp[c,t]⟩
   .obtain⟨s,l,i⟩:=ih.from_ p h;exact⟨s,zo,i⟩
  .rw[zJ c];have j:f k ∉ r.1:=fun o=>c (List.findIdx_lt_length.2 ⟨f k,o,zS⟩);refine⟨?_,by simp[g],by have:=ih.le;simp;omega,fun s n=>?_,fun p h=>?_⟩
   .exact List.nodup_append.2 ⟨ih.nodup,zS,fun a u b m=>by
     simp only[zZ]at m;subst m;exact fun e=>j (e ▸ u)⟩
   .by_cases d:s<k
    .obtain⟨p,l,i⟩:=ih.at_ s d;refine⟨p,by show(r.2++_)[s]?=_;rw[yK zo];exact l,?_⟩;have:p<r.1.length:=(yB.1 i).1;show(r.1++[f k])[p]?=_;rw[yK this];exact i
    .have:s=k:=zo;subst this;refine⟨r.1.length,?_,zS⟩;show(r.2++_)[s]?=_;rw[yN zo];simp[g];omega
   .by_cases d:p<r.1.length
    .obtain⟨s,l,i⟩:=ih.from_ p d;exact⟨s,zo,by show _=(r.1++[f k])[p];rw[xM d];exact i⟩
    .have v:p<(r.1++[f k]).length:=h;have:p=r.1.length:=by simp at v;omega
     subst this;exact⟨k,zo,by show _=(r.1++[f k])[r.1.length];simp⟩
theorem CK.JK{f:Nat->List Int}{k:Nat}{r:List (List Int)×List Int}(h:CK f k r){s t:Nat}(j:s<k)(ht:t<k):r.2.getD s 0=r.2.getD t 0↔f s=f t:=by
 obtain⟨p,m,b⟩:=h.at_ s j;obtain⟨q,l,a⟩:=h.at_ t ht;simp only[yU,m,l,xA];refine⟨fun e=>?_,fun e=>?_⟩
 .have:p=q:=zo;subst this;rw[b]at a;simpa using a
 .obtain⟨i,g⟩:=yB.1 b;obtain⟨d,c⟩:=yB.1 a;have:=Mh h.nodup i d (by rw[g,c,e]);omega
theorem CK.iZ{f:Nat->List Int}{k:Nat}{r:List (List Int)×List Int}(h:CK f k r){s:Nat}(a:s<k):0<=r.2.getD s 0/\r.2.getD s 0<r.1.length:=by
 obtain⟨p,c,b⟩:=h.at_ s a;simp only[yU,c,xA];have:=(yB.1 b).1;omega
theorem CK.gzL{f:Nat->List Int}{k:Nat}{r:List (List Int)×List Int}(h:CK f k r){v:Nat}(a:v<r.1.length):∃s,s<k/\r.2.getD s 0=v:=by
 obtain⟨s,b,e⟩:=h.from_ v a;refine⟨s,b,?_⟩;obtain⟨p,i,g⟩:=h.at_ s b;obtain⟨d,c⟩:=yB.1 g;have:=Mh h.nodup d a (by rw[c,e]);simp[i,this]
def M9(cZ:List Int)(x:Int):Int:=if x<0 then x else cZ.getD x.toNat 0
def sig(cZ:List Int)(a:Nat->Nat->Int)(K:Nat)(s:Nat):List Int:=cZ.getD s 0::(List.range K).map fun i=>M9 cZ (a s i)
structure Xc (T:aK) (N:Nat) (lo hi:Nat->Nat) (K:Nat) (ta:Nat->Nat->Int):Prop where
 iv:Ivs lo hi K
 iZ:∀s i,s<N->i<K -> -1<=ta s i/\ta s i<N
 step:∀s i,s<N->i<K->∀b,lo i<=b->b<=hi i->∀w,aH T (bX T s b) w=aH T (ta s i) w
 neg:∀s t i,s<N->t<N->i<K->ta s i = -1->(∀w,aH T (ta t i) w=false)->ta t i = -1
def NEq(T:aK)(s t:Nat):Prop:=∀w,aH T s w=aH T t w
structure KE (T:aK) (N:Nat) (cZ:List Int):Prop where
 len:cZ.length=N
 iZ:∀x∈cZ,0<=x/\x<N
 eq:∀s t,s<N->t<N->(cZ.getD s 0=cZ.getD t 0↔NEq T s t)
structure Ku (T:aK) (N:Nat) (cZ:List Int) (many:Nat):Prop where
 len:cZ.length=N
 iZ:∀s,s<N->0<=cZ.getD s 0/\cZ.getD s 0<=N
 coarse:∀s t,s<N->t<N->NEq T s t->cZ.getD s 0=cZ.getD t 0
 acc:∀s t,s<N->t<N->cZ.getD s 0=cZ.getD t 0->bI T s=bI T t
 cnt:many=0\/(∀s,s<N->cZ.getD s 0<many)/\∀v,v<many->∃s,s<N/\cZ.getD s 0=v
theorem X7{T:aK}{N:Nat}{cZ:List Int}(d:1<=N)(c:cZ.length=N)(h:∀s,s<N->cZ.getD s 0=if bI T s=true then 1 else 0):Ku T N cZ 0:=by
 refine⟨c,fun s a=>?_,fun s t a ht b=>?_,fun s t a ht b=>?_,.inl rfl⟩
 .rw[h s a];split<;>omega
 .rw[h s a,h t ht];have:=b [];simp only[aH]at this;rw[this]
 .rw[h s a,h t ht]at b;cases h1:bI T s<;>cases h2:bI T t<;>simp[h1,h2]at b⊢
theorem fzs{T:aK}{N:Nat}{lo hi:Nat->Nat}{K:Nat}{c:Nat->Nat->Int}(H:Xc T N lo hi K c){s t i:Nat}(d:s<N)(ht:t<N)(a:i<K)(e:NEq T s t):
 ∀w,aH T (c s i) w=aH T (c t i) w:=by
 have b:=H.iv.le i a;intro w;rw[<-H.step s i d a (lo i) (zI _) b.1 w,<-H.step t i ht a (lo i) (zI _) b.1 w];exact LZ e (lo i) zo w
theorem X8{T:aK}{N:Nat}{lo hi:Nat->Nat}{K:Nat}{k:Nat->Nat->Int}(H:Xc T N lo hi K k)(Y:1<=N){cZ:List Int}{n:Nat}(E:Ku T N cZ n):
 Ku T N (ig (sig cZ k K) N).2 (ig (sig cZ k K) N).1.length/\n<=(ig (sig cZ k K) N).1.length/\(ig (sig cZ k K) N).1.length<=N/\1<=(ig (sig cZ k K) N).1.length /\
  ((ig (sig cZ k K) N).1.length=n->KE T N (ig (sig cZ k K) N).2):=by
 have m:=Wu (sig cZ k K) N;generalize ig (sig cZ k K) N=r at*
 have q:∀s t,s<N->t<N->NEq T s t->sig cZ k K s=sig cZ k K t:=by
  intro s t a ht A;unfold sig;rw[E.coarse s t a ht A]
  congr 1
  apply xZ;intro i f;have f:=yQ.1 f;have o:=fzs H a ht f A;have U:=H.iZ s i a f;have S:=H.iZ t i ht f;unfold M9;by_cases c:k s i<0
  .have B:k s i = -1:=zo;have:=H.neg s t i a ht f B (fun w=>by rw[<-o w,B];exact eU zo w);rw[B,this]
  .by_cases d:k t i<0
   .have B:k t i = -1:=zo;have:=H.neg t s i ht a f B (fun w=>by rw[o w,B];exact eU zo w);omega
   .rw[zJ c,zJ d];obtain⟨x,G⟩:=zT (by omega:0<=k s i);obtain⟨y,L⟩:=zT (by omega:0<=k t i);rw[G,L]at o⊢;exact E.coarse x y zo zo o
 have p:∀s t,s<N->t<N->r.2.getD s 0=r.2.getD t 0->cZ.getD s 0=cZ.getD t 0/\∀i,i<K->M9 cZ (k s i)=M9 cZ (k t i):=by
  intro s t a ht e;have e:=(m.JK a ht).1 e;unfold sig at e;injection e with B R;refine⟨B,fun i f=>?_⟩;have:=congrArg (fun l=>l[i]?) R;simpa [f]using this
 have z:n<=r.1.length/\(r.1.length=n->∀s t,s<N->t<N->cZ.getD s 0=cZ.getD t 0->r.2.getD s 0=r.2.getD t 0):=by
  rcases E.cnt with Z|⟨Q,X⟩
  .refine⟨zo,fun e=>?_⟩;have:=(m.iZ (s:=0) zo).2;have:=(m.iZ (s:=0) zo).1;omega
  ·
   let g:Nat->Nat:=fun u=>if h:∃s,s<N/\r.2.getD s 0=u then(cZ.getD h.choose 0).toNat else 0;have P:∀s,s<N->g (r.2.getD s 0).toNat=(cZ.getD s 0).toNat:=by
    intro s a;have J:∃F,F<N/\r.2.getD F 0=((r.2.getD s 0).toNat:Int):=⟨s,a,by have:=(m.iZ a).1;omega⟩;show(if h:∃F,F<N/\r.2.getD F 0=((r.2.getD s 0).toNat:Int)then(cZ.getD h.choose 0).toNat else 0)=_;rw[dif_pos J];have C:=J.choose_spec;have:=(p _ s C.1 a (by rw[C.2];have:=(m.iZ a).1;omega)).1;rw[this]
   have a:∀v,v<n->∃u,u<r.1.length/\g u=v:=by
    intro v M;obtain⟨s,a,e⟩:=X v M;have:=m.iZ a;exact⟨(r.2.getD s 0).toNat,zo,by rw[P s a,e];simp⟩
   refine⟨czE g a,fun e s t I o A=>?_⟩;rw[<-e]at a;have U:=m.iZ I;have S:=m.iZ o;have:=aza g a (i:=(r.2.getD s 0).toNat) (j:=(r.2.getD t 0).toNat) zo zo (by rw[P s I,P t o,A]);omega
 have D:∀s t,s<N->t<N->r.2.getD s 0=r.2.getD t 0->bI T s=bI T t:=fun s t a ht e=>E.acc s t a ht (p s t a ht e).1;refine⟨⟨m.len,fun s a=>by have:=m.iZ a;have:=m.le;omega,fun s t a ht A=>(m.JK a ht).2 (q s t a ht A),D,.inr ⟨fun s a=>(m.iZ a).2,fun v M=>m.gzL M⟩⟩,z.1,m.le,?_,fun e=>?_⟩
 .have:=m.iZ (s:=0) zo;omega
 .have O:=z.2 e;refine⟨m.len,fun x G=>?_,fun s t a ht=>⟨fun A=>?_,fun A=>(m.JK a ht).2 (q s t a ht A)⟩⟩
  .obtain⟨s,Q,rfl⟩:=yT.1 G;have:=m.iZ (s:=s) (by rw[<-m.len];exact Q);have:=m.le;simp only[yU,Q,yH,xA]at*
   omega
  .intro w
   induction w generalizing s t with
   |nil=>simp only[aH];exact D s t a ht A
   |cons b w ih=>
    simp only[aH];obtain⟨i,f,W,V⟩:=H.iv.cover b.toNat b.toNat_lt;rw[H.step s i a f _ W V w,H.step t i ht f _ W V w];have U:=H.iZ s i a f;have S:=H.iZ t i ht f;have C:=(p s t a ht A).2 i f;unfold M9 at C;by_cases c:k s i<0
    .by_cases d:k t i<0
     .have B:k s i = -1:=zo;have R:k t i = -1:=zo;rw[B,R]
     .rw[zK c,zJ d]at C;have:=(E.iZ (k t i).toNat zo).1;omega
    .by_cases d:k t i<0
     .rw[zJ c,zK d]at C;have:=(E.iZ (k s i).toNat zo).1;omega
     .rw[zJ c,zJ d]at C;obtain⟨x,G⟩:=zT (by omega:0<=k s i);obtain⟨y,L⟩:=zT (by omega:0<=k t i);rw[G,L]at C⊢;exact ih x y zo zo (O x y zo zo C)
end Cl
namespace Cl
theorem eD:cB []:=
 ⟨fun s a=>by simp at a,fun s a=>by simp at a,fun s a=>by simp at a,fun k hk=>by simp at hk,fun i j hi=>by simp at hi,fun k b t d ht=>by
  rw[gX [] k b zS]at ht;omega,fun t e c=>by simp at c⟩
theorem hzR(x:List UInt8):aH [] 0 x=false:=kE [] 0 x zS
def lex:List UInt8->List UInt8->Prop
 |[],[]=>False
 |[],_::_=>True
 |_::_,[]=>False
 |a::u,b::v=>a<b\/a=b/\lex u v
def Dl(u v:List UInt8):Prop:=u.length<v.length\/u.length=v.length/\lex u v
theorem Jf:∀u:List UInt8,¬lex u u
 |[],h=>h
 |_::u,h=>h.elim (fun h=>by simp at h) (fun h=>Jf u h.2)
theorem Z5{a b c:UInt8}(h:a<b)(k:b<c):a<c:=UInt8.lt_trans h k
theorem Ms:∀{u v x:List UInt8},lex u v->lex v x->lex u x
 |[],[],_,h,_=>h.elim
 |[],_::_,[],_,k=>k.elim
 |[],_::_,_::_,_,_=>trivial
 |_::_,[],_,h,_=>h.elim
 |_::_,_::_,[],_,k=>k.elim
 |a::u,b::v,c::x,h,k=>by
  rcases h with h|⟨rfl,h⟩
  .rcases k with k|⟨rfl,k⟩
   .exact .inl (Z5 h k)
   .exact .inl h
  .rcases k with k|⟨rfl,k⟩
   .exact .inl k
   .exact .inr ⟨rfl,Ms h k⟩
theorem Mt:∀u v:List UInt8,lex u v\/u=v\/lex v u
 |[],[]=>.inr (.inl rfl)
 |[],_::_=>.inl trivial
 |_::_,[]=>.inr (.inr trivial)
 |a::u,b::v=>by
  rcases Nat.lt_trichotomy a.toNat b.toNat with h|h|h
  .exact .inl (.inl (UInt8.lt_iff_toNat_lt.2 h))
  .obtain rfl:a=b:=UInt8.toNat_inj.1 h;rcases Mt u v with h|h|h
   .exact .inl (.inr ⟨rfl,h⟩)
   .exact .inr (.inl (by rw[h]))
   .exact .inr (.inr (.inr ⟨rfl,h⟩))
  .exact .inr (.inr (.inl (UInt8.lt_iff_toNat_lt.2 h)))
theorem dzA(u:List UInt8):¬Dl u u:=fun h=>h.elim (fun h=>zo) (fun h=>Jf u h.2)
theorem qP{u v x:List UInt8}(h:Dl u v)(k:Dl v x):Dl u x:=by
 rcases h with h|⟨h,b⟩<;>rcases k with k|⟨k,a⟩
 .exact .inl zo
 .exact .inl zo
 .exact .inl zo
 .exact .inr ⟨zo,Ms b a⟩
theorem uk(u v:List UInt8):Dl u v\/u=v\/Dl v u:=by
 rcases Nat.lt_trichotomy u.length v.length with h|h|h
 .exact qcZ
 .rcases Mt u v with k|k|k
  .exact .inl (.inr ⟨h,k⟩)
  .exact .inr (.inl k)
  .exact .inr (.inr (.inr ⟨h.symm,k⟩))
 .exact .inr (.inr (.inl h))
theorem um{u v:List UInt8}(h:Dl u v)(k:Dl v u):False:=dzA u (qP h k)
structure jW (f:List UInt8->Bool) (k:Nat) (r:List (List UInt8)):Prop where
 sorted:r.Pairwise Dl
 mem:∀x∈r,f x=true
 le:r.length<=k
 rest:∀y,f y=true->y ∉ r->r.length=k/\∀x∈r,Dl x y
theorem ez6{a b:List UInt8}(h:Dl a b):a≠b:=fun e=>dzA a (by rw[<-e]at h;exact h)
theorem Dj{r:List (List UInt8)}(h:r.Pairwise Dl):r.Nodup:=h.imp ez6
theorem Im:∀{r t:List (List UInt8)},r.Pairwise Dl->t.Pairwise Dl->(∀x,x∈r↔x∈t)->r=t
 |[],[],_,_,_=>rfl
 |[],b::t,_,_,h=>absurd ((h b).2 zS) zS
 |a::r,[],_,_,h=>absurd ((h a).1 zS) zS
 |a::r,b::t,h1,h2,h=>by
  have g:=yS.1 h1;have f:=yS.1 h2;have e:a=b:=by
   rcases yA.1 ((h a).1 zS)with c|c
   .exact c
   .rcases yA.1 ((h b).2 zS)with i|i
    .exact i.symm
    .exact(um (f.1 a c) (g.1 b i)).elim
  subst e;rw[Im g.2 f.2 fun x=>?_];constructor
  .intro d;rcases yA.1 ((h x).1 (zU _ d))with c|c
   .subst c;exact(dzA _ (g.1 _ d)).elim
   .exact c
  .intro d;rcases yA.1 ((h x).2 (zU _ d))with c|c
   .subst c;exact(dzA _ (f.1 _ d)).elim
   .exact c
theorem MP{f:List UInt8->Bool}{k:Nat}{r t:List (List UInt8)}(h:jW f k r)(d:jW f k t):∀x∈r,x∈t:=by
 intro x c;apply zP;intro e;obtain⟨m,l⟩:=d.rest x (h.mem x c) e;have b:∀y∈t,y∈r:=by
  intro y a;apply zP;intro g;obtain⟨-,j⟩:=h.rest y (d.mem y a) g;exact um (j x c) (l y a)
 have i:=mr (x::t) r (List.nodup_cons.2 ⟨e,Dj d.sorted⟩) (by
  intro y a;rcases yA.1 a with rfl|a
  .exact c
  .exact b y a)
 have:=h.le;simp only[yO]at i;omega
theorem OD{f:List UInt8->Bool}{k:Nat}{r t:List (List UInt8)}(h:jW f k r)(a:jW f k t):r=t:=
 Im h.sorted a.sorted fun x=>⟨MP h a x,MP a h x⟩
theorem jW.congr{f g:List UInt8->Bool}{k:Nat}{r:List (List UInt8)}(h:jW f k r)(e:∀w,f w=g w):jW g k r:=by
 exact qcU
def uO(l:aK):Nat->Int->List (List UInt8)
 |0,s=>if bI l s then[[]]else[]
 |n+1,s=>(List.range 256).flatMap fun b=>(uO l n (bX l s b)).map (UInt8.ofNat b::·)
theorem fz1(b:UInt8):UInt8.ofNat b.toNat=b:=by simp
theorem pE(l:aK):∀(n:Nat) (s:Int) (w:List UInt8),w∈uO l n s↔w.length=n/\aH l s w=true
 |0,s,w=>by
  unfold uO
  cases w with
  |nil=>by_cases h:bI l s=true<;>simp[h,aH]
  |cons a w=>by_cases h:bI l s=true<;>simp[h]
 |n+1,s,w=>by
  unfold uO;simp only[xW,yQ,yD];constructor
  .rintro⟨b,f,v,e,rfl⟩;obtain⟨c,d⟩:=(pE l n _ v).1 e;refine⟨by simp[c],?_⟩;simp only[aH];rw[show(UInt8.ofNat b).toNat=b by simp;omega];exact d
  .rintro⟨c,d⟩
   cases w with
   |nil=>simp at c
   |cons b v=>
    refine⟨b.toNat,b.toNat_lt,v,(pE l n _ v).2 ⟨by simpa using c,d⟩,by rw[fz1]⟩
theorem yz{α:Type}{R:α->α->Prop}(f:Nat->List α):∀(l:List Nat),l.Pairwise (·<·)->(∀b∈l,(f b).Pairwise R)->(∀b∈l,∀c∈l,b<c->∀x∈f b,∀y∈f c,R x y)->(l.flatMap f).Pairwise R
 |[],_,_,_=>.nil
 |b::l,h,h1,h2=>by
  have k:=yS.1 h;rw[xO,List.pairwise_append];refine⟨h1 b zS,yz f l k.2 (fun c a=>h1 c (by simp[a])) (fun c a d i=>h2 c (by simp[a]) d (by simp[i])),?_⟩;intro x g y e;obtain⟨c,a,e⟩:=xW.1 e;exact h2 b zS c (by simp[a]) (k.1 c a) x g y e
theorem Ho(l:aK):∀(n:Nat) (s:Int),(uO l n s).Pairwise Dl
 |0,s=>by
  unfold uO
  split<;>simp
 |n+1,s=>by
  unfold uO;refine yz _ _ List.pairwise_lt_range ?_ ?_
  .intro b _;rw[List.pairwise_map];refine(Ho l n _).imp fun {u v} h=>?_;rcases h with h|⟨d,a⟩
   .exact .inl qeI
   .exact .inr ⟨by simp[d],.inr ⟨rfl,a⟩⟩
  .intro b f c e m x i y g;obtain⟨u,k,rfl⟩:=yD.1 i;obtain⟨v,j,rfl⟩:=yD.1 g;have d:=((pE l n _ u).1 k).1;have a:=((pE l n _ v).1 j).1;have f:=yQ.1 f;have e:=yQ.1 e;refine .inr ⟨by simp[d,a],.inl (UInt8.lt_iff_toNat_lt.2 ?_)⟩;simp only[UInt8.toNat_ofNat'];omega
def lN(l:aK)(s:Int)(L:Nat):List (List UInt8):=(List.range L).flatMap fun n=>uO l n s
theorem pW(l:aK)(s:Int)(L:Nat)(w:List UInt8):w∈lN l s L↔w.length<L/\aH l s w=true:=by
 unfold lN;simp only[xW,yQ,pE];exact⟨fun⟨n,b,a,c⟩=>⟨zo,c⟩,fun⟨b,a⟩=>⟨_,b,rfl,a⟩⟩
theorem Ga(l:aK)(s:Int)(L:Nat):(lN l s L).Pairwise Dl:=by
 refine yz _ _ List.pairwise_lt_range (fun b _=>Ho l b s) ?_;intro b _ c _ e x d y a;have g:=((pE l _ _ _).1 d).1;have f:=((pE l _ _ _).1 a).1;exact .inl zo
theorem MW(l:aK)(s:Int)(L:Nat):lN l s (L+1)=lN l s L++uO l L s:=by
 unfold lN;rw[List.range_succ,List.flatMap_append];simp
theorem Cs{l:aK}{s:Int}{L k:Nat}(h:k<=(lN l s L).length\/∀y,aH l s y=true->y.length<L):jW (aH l s) k ((lN l s L).take k):=by
 have c:=Ga l s L;refine⟨c.sublist (List.take_sublist _ _),fun x a=>((pW l s L x).1 (xX a)).2,List.length_take_le _ _,?_⟩;intro y f g;by_cases d:y∈lN l s L
 .have e:y∈(lN l s L).drop k:=by
   rw[<-List.take_append_drop k (lN l s L)]at d;rcases yP.1 d with b|b
   .exact absurd b g
   .exact b
  refine⟨?_,fun x a=>?_⟩
  .rw[List.length_take];have:k<(lN l s L).length:=by
    apply zP;intro hk;rw[zQ zo]at e;simp at e
   omega
  .rw[<-List.take_append_drop k (lN l s L),List.pairwise_append]at c;exact c.2.2 x a y e
 .have i:¬y.length<L:=fun b=>d ((pW l s L y).2 ⟨b,f⟩);rcases h with h|h
  .refine⟨by rw[List.length_take];omega,fun x a=>.inl ?_⟩;have:=((pW l s L x).1 (xX a)).1;omega
  .exact absurd (h y f) i
def wW(l:aK):Int->List UInt8->Int
 |s,[]=>s
 |s,b::w=>wW l (bX l s b.toNat) w
theorem qg(l:aK):∀(u v:List UInt8) (s:Int),aH l s (u++v)=aH l (wW l s u) v
 |[],_,_=>rfl
 |_::u,v,_=>qg l u v _
theorem tN{l:aK}{s:Int}{w:List UInt8}(h:aH l s w=true):0<=s/\s<l.length:=by
 constructor
 .apply zP;intro a;rw[eU zo]at h;cases h
 .apply zP;intro a;rw[kE l s w zo]at h;cases h
theorem Ic{l:aK}{s:Int}{y:List UInt8}(h:aH l s y=true)(i:Nat):0<=wW l s (y.take i)/\wW l s (y.take i)<l.length:=by
 refine tN (w:=y.drop i) ?_;rw[<-qg,List.take_append_drop];exact h
theorem pump{l:aK}{s:Int}{y:List UInt8}(h:aH l s y=true)(m:l.length<=y.length):∃c,aH l s c=true/\c.length<y.length/\y.length<=c.length+l.length:=by
 have a:¬((List.range (l.length+1)).map fun i=>(wW l s (y.take i)).toNat).Nodup:=by
  intro a;have:=mr _ (List.range l.length) a (by
   intro x k;obtain⟨i,-,rfl⟩:=yD.1 k;have:=Ic h i;rw[yQ];omega)
  simp at this;omega
 have f:∃i j,i<j/\j<=l.length/\wW l s (y.take i)=wW l s (y.take j):=by
  apply zP;intro d;apply a;rw[List.Nodup,List.pairwise_map];refine(List.pairwise_lt_range (n:=l.length+1)).imp_of_mem fun {i j} hi g b e=>d ⟨i,j,b,?_,?_⟩
  .have:=yQ.1 g;omega
  .have p:=Ic h i;have o:=Ic h j;omega
 obtain⟨i,j,b,g,e⟩:=f;refine⟨y.take i++y.drop j,?_,?_,?_⟩
 .rw[qg,e,<-qg,List.take_append_drop];exact h
 .simp;omega
 .simp;omega
theorem window{l:aK}{s:Int}(t:Nat):∀(N:Nat) (y:List UInt8),y.length<=N->aH l s y=true->t<=y.length->∃a,aH l s a=true/\t<=a.length/\a.length<t+l.length
 |0,y,hN,h,ht=>⟨y,h,ht,by have:=tN h;omega⟩
 |N+1,y,hN,h,ht=>by
  by_cases b:y.length<t+l.length
  .exact⟨y,h,ht,b⟩
  .obtain⟨a,c,e,d⟩:=pump h zo;exact window t N a zo c zo
theorem MZ{l:aK}{s:Int}{L L':Nat}(h:L<=L'):(lN l s L).length<=(lN l s L').length:=by
 induction h with
 |refl=>exact zI _
 |step _ ih=>rw[MW,zL];omega
theorem E8{l:aK}{s:Int}{y:List UInt8}(h:aH l s y=true):∀c,c*l.length<=y.length->c<=(lN l s (c*l.length)).length
 |0,_=>zG _
 |c+1,hc=>by
  have e:(c+1)*l.length=c*l.length+l.length:=Nat.succ_mul _ _;have k:=E8 h c zo;obtain⟨a,i,n,m⟩:=window (c*l.length) _ y (zI _) h zo;have g:a∈lN l s ((c+1)*l.length):=(pW _ _ _ _).2 ⟨zo,i⟩;have f:a ∉ lN l s (c*l.length):=fun d=>by have:=((pW _ _ _ _).1 d).1;omega
  have:=mr (a::lN l s (c*l.length)) (lN l s ((c+1)*l.length)) (List.nodup_cons.2 ⟨f,Dj (Ga _ _ _)⟩) (by
   intro x b;rcases yA.1 b with rfl|b
   .exact g
   .obtain⟨o,j⟩:=(pW _ _ _ _).1 b;exact(pW _ _ _ _).2 ⟨zo,j⟩)
  simp only[yO]at this;omega
theorem UQ{l:aK}{s:Int}{k L:Nat}(b:k*l.length<=L):jW (aH l s) k ((lN l s L).take k):=by
 apply Cs;by_cases h:∃y,aH l s y=true/\L<=y.length
 .obtain⟨y,d,f⟩:=h;have c:=E8 d k zo;exact .inl (yJ c (MZ b))
 .exact .inr fun y a=>by
   apply zP;intro e;exact h ⟨y,a,zo⟩
end Cl
namespace Cl
def ll(f:List UInt8->Bool):Option (List UInt8)->Prop
 |none=>∀y,f y=false
 |some x=>f x=true/\∀y,f y=true->y=x\/Dl x y
theorem QD{f:List UInt8->Bool}{r:List (List UInt8)}(h:jW f 1 r):ll f r.head?:=by
 cases r with
 |nil=>
  intro y
  cases a:f y with
  |false=>rfl
  |true=>have:=(h.rest y a zS).1;simp at this
 |cons x r=>
  refine⟨h.mem x zS,fun y a=>?_⟩;by_cases b:y∈x::r
  .have:=h.le;simp only[yO]at this;have c:r=[]:=yM zo;subst c;exact .inl (by simpa using b)
  .exact .inr ((h.rest y a b).2 x zS)
theorem ll.congr{f g:List UInt8->Bool}{a:Option (List UInt8)}(h:ll f a)(e:∀w,f w=g w):ll g a:=by
 exact qcU
inductive ik (f g:List UInt8->Bool):Int->Prop where
 |same (h:∀w,f w=g w):ik f g 0
 |lt (x:List UInt8) (h1:f x=true) (h2:g x=false) (h3:∀y,Dl y x->f y=g y):ik f g (-1)
 |gt (x:List UInt8) (h1:f x=false) (h2:g x=true) (h3:∀y,Dl y x->f y=g y):ik f g 1
theorem rV{f g:List UInt8->Bool}{c d:Int}(h:ik f g c)(k:ik f g d):c=d:=by
 cases h with
 |same h=>
  cases k with
  |same=>rfl
  |lt x a b _=>rw[h x,b]at a;cases a
  |gt x a b _=>rw[h x,b]at a;cases a
 |lt x a b e=>
  cases k with
  |same h=>rw[h x,b]at a;cases a
  |lt=>rfl
  |gt y a' b' e'=>
   rcases uk x y with q|q|q
   .have:=e' x q;rw[a,b]at this;cases this
   .subst q;rw[a]at a';cases a'
   .have:=e y q;rw[a',b']at this;cases this
 |gt x a b e=>
  cases k with
  |same h=>rw[h x,b]at a;cases a
  |gt=>rfl
  |lt y a' b' e'=>
   rcases uk x y with q|q|q
   .have:=e' x q;rw[a,b]at this;cases this
   .subst q;rw[a]at a';cases a'
   .have:=e y q;rw[a',b']at this;cases this
theorem ik.av{f g:List UInt8->Bool}{c:Int}(h:ik f g c):ik g f (-c):=by
 cases h with
 |same h=>exact .same fun w=>(h w).symm
 |lt x a b e=>exact .gt x b a fun y d=>(e y d).symm
 |gt x a b e=>exact .lt x b a fun y d=>(e y d).symm
theorem ik.refl(f:List UInt8->Bool):ik f f 0:=.same fun _=>rfl
theorem ik.zero{f g:List UInt8->Bool}{c:Int}(h:ik f g c):c=0↔∀w,f w=g w:=by
 constructor
 .rintro rfl
  cases h with
  |same h=>exact h
 .intro e;exact rV h (.same e)
theorem ik.range{f g:List UInt8->Bool}{c:Int}(h:ik f g c): -1<=c/\c<=1:=by cases h<;>omega
theorem OY{f g k:List UInt8->Bool}(h:ik f g (-1))(d:ik g k (-1)):ik f k (-1):=by
 cases h with
 |lt x a b e=>
  cases d with
  |lt y a' b' e'=>
   rcases uk x y with q|q|q
   .exact .lt x a (by rw[<-e' x q];exact b) fun z c=>(e z c).trans (e' z (qP c q))
   .subst q;rw[b]at a';cases a'
   .exact .lt y (by rw[e y q];exact a') b' fun z c=>(e z (qP c q)).trans (e' z c)
theorem ik.congr{f g b a:List UInt8->Bool}{c:Int}(h:ik f g c)(e:∀w,f w=b w)(j:∀w,g w=a w):ik b a c:=by
 have i:f=b:=funext e;have d:g=a:=funext j;rw[<-i,<-d];exact h
theorem M8{f g k:List UInt8->Bool}{x y z:Int}(b:ik f g x)(a:ik g k y)(d:ik f k z)(n:x<=0)(m:y<=0):z<=0/\(z=0↔x=0/\y=0):=by
 have l:=b.range;have j:=a.range;by_cases i:x=0
 .have e:=b.zero.1 i;have c:=a.congr (fun w=>(e w).symm) (fun _=>rfl);have:=rV d c;omega
 .obtain rfl:x = -1:=zo;by_cases h:y=0
  .have e:=a.zero.1 h;have c:=b.congr (fun _=>rfl) e;have:=rV d c;omega
  .obtain rfl:y = -1:=zo;have:=rV d (OY b a);omega
theorem OX{f g:List UInt8->Bool}{a b:Option (List UInt8)}(h:ll (fun w=>f w && !g w) a)(k:ll (fun w=>g w && !f w) b):
 match a,b with
 |none,none=>ik f g 0
 |some _,none=>ik f g (-1)
 |none,some _=>ik f g 1
 |some x,some y=>x≠y/\(Dl x y->ik f g (-1))/\(Dl y x->ik f g 1):=by
 have s:(∀y,(f y && !g y)=false)->∀y,f y=true->g y=true:=fun h y j=>by have:=h y;simpa [j]using this
 have r:(∀y,(g y && !f y)=false)->∀y,g y=true->f y=true:=fun h y j=>by have:=h y;simpa [j]using this
 have lo:∀x,(∀y,(f y && !g y)=true->y=x\/Dl x y)->∀y,Dl y x->f y=true->g y=true:=fun x n y j o=>by
  cases hg:g y with
  |true=>rfl
  |false=>
   rcases n y (by simp[o,hg])with e|e
   .subst e;exact(dzA _ j).elim
   .exact(um j e).elim
 have l:∀x,(∀y,(g y && !f y)=true->y=x\/Dl x y)->∀y,Dl y x->g y=true->f y=true:=fun x n y j o=>by
  cases hg:f y with
  |true=>rfl
  |false=>
   rcases n y (by simp[o,hg])with e|e
   .subst e;exact(dzA _ j).elim
   .exact(um j e).elim
 have c:∀{p q:Bool},(p=true->q=true)->(q=true->p=true)->p=q:=fun {p q} a b=>by cases p<;>cases q<;>simp_all
 cases a with
 |none=>
  cases b with
  |none=>exact .same fun w=>c (s h w) (r k w)
  |some y=>
   have d:=k.1;simp only[xG,Bool.not_eq_true']at d
   exact .gt y d.2 d.1 fun z i=>c (s h z) (l y k.2 z i)
 |some x=>
  have d:=h.1;simp only[xG,Bool.not_eq_true']at d
  cases b with
  |none=>exact .lt x d.1 d.2 fun z i=>c (lo x h.2 z i) (r k z)
  |some y=>
   have m:=k.1;simp only[xG,Bool.not_eq_true']at m;refine⟨fun e=>(by subst e;rw[d.2]at m;exact absurd m.1 zS),fun q=>?_,fun q=>?_⟩
   .exact .lt x d.1 d.2 fun z i=>c (lo x h.2 z i) (l y k.2 z (qP i q))
   .exact .gt y m.2 m.1 fun z i=>c (lo x h.2 z (qP i q)) (l y k.2 z i)
noncomputable def Sem(l:aK)(w:List UInt8):Bool:=tf (cB l)&&aH l 0 w
theorem dn{l:aK}(h:cB l)(w:List UInt8):Sem l w=aH l 0 w:=by simp[Sem,aM h]
structure dw (f:List UInt8->Bool) (C:aK):Prop where
 canon:cB C
 qw:∀w,aH C 0 w=f w
theorem dw.Ir{f:List UInt8->Bool}{C:aK}(h:dw f C)(w:List UInt8):Sem C w=f w:=by rw[dn h.canon];exact h.qw w
theorem dw.congr{f g:List UInt8->Bool}{C:aK}(h:dw f C)(e:∀w,f w=g w):dw g C:=⟨h.canon,fun w=>(h.qw w).trans (e w)⟩
theorem nG{f:List UInt8->Bool}{C D:aK}(h:dw f C)(k:dw f D):C=D:=vU h.canon k.canon fun w=>(h.qw w).trans (k.qw w).symm
theorem QK{f g:List UInt8->Bool}{C D:aK}(h:dw f C)(k:dw g D):C=D↔∀w,f w=g w:=
 ⟨fun e w=>by rw[<-h.qw,<-k.qw,e],fun e=>nG (h.congr e) k⟩
theorem Jk:dw (fun _=>false) []:=⟨eD,fun w=>hzR w⟩
theorem kD{l:aK}(h:cB l):dw (Sem l) l:=⟨h,fun w=>(dn h w).symm⟩
theorem Wx{f:List UInt8->Bool}{C:aK}(h:dw f C):C=[]↔∀w,f w=false:=QK h Jk
end Cl
