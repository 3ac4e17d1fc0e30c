/- Lemmas for the proofs of chapter 11. -/
import Derived.Test.YtbbnjopkjbhpbaaGreatDoorPkP11
set_option maxRecDepth 100000
set_option maxHeartbeats 16000000
namespace Cl
structure Ak (c:St):Prop where
 f:c.1.length<=4
 k:c.2.length<=4
 lab:∀f∈c.1,f.1.1.size<=60
 set:∀k∈c.2,k.1.length<=8
structure fzJ (v:Vl):Prop where
 i:v.s.i.length<=8
 fr:v.s.f.length<=8
 t:v.s.t.length<=8
 l:v.aN.length<=8
 s:v.aA.length<=8
 st:∀c∈v.aA,Ak c
def tQ:Nat->Vl->Prop
 |0,_=>False
 |n+1,v=>fzJ v/\∀x∈v.kids,tQ n x.1/\tQ n x.2
theorem tQ.ht:∀{n:Nat} {v:Vl},tQ n v->Ht n v
 |0,_,h=>h.elim
 |_+1,_,h=>fun x a=>⟨(h.2 x a).1.ht,(h.2 x a).2.ht⟩
theorem tQ.succ:∀{n:Nat} {v:Vl},tQ n v->tQ (n+1) v
 |0,_,h=>h.elim
 |_+1,_,h=>⟨h.1,fun x a=>⟨(h.2 x a).1.succ,(h.2 x a).2.succ⟩⟩
theorem tQ.mono{n m:Nat}{v:Vl}(h:tQ n v)(k:n<=m):tQ m v:=by
 induction k with
 |refl=>exact h
 |step _ ih=>exact ih.succ
theorem Ak.seen{c:St}(h:Ak c)(a:∀k∈c.2,cB k.1/\k.1≠[]):Xd c:=fun l d e=>by
 have i:=Iu (P:=c.2.map fun k:Kl=>lq k.1) (Q:=c.1.map fun f:Fd=>sD f.1.1.data.toList) (k:=60) (fun x hx=>by
  obtain⟨k,hk,rfl⟩:=yD.1 hx;exact Ay (a k hk).1 (a k hk).2) (fun x hx=>by
  obtain⟨f,g,rfl⟩:=yD.1 hx;exact gzT (by rw[Array.length_toList];exact h.lab f g)) d (fun v b=>e v b)
 have m:nQ (c.2.map fun k:Kl=>lq k.1)<=9 ^ 4:=yJ (qZ (k:=9) fun x hx=>by
  obtain⟨k,hk,rfl⟩:=yD.1 hx;have:=h.set k hk;show k.1.length+1<=9;omega) (Nat.pow_le_pow_right zo (by rw[xC];exact h.k))
 have j:nQ (List.replicate (c.1.map fun f:Fd=>sD f.1.1.data.toList).length N8)<=2 ^ 4:=yJ qiR (Nat.pow_le_pow_right zo (by rw[List.length_replicate,xC];exact h.f));exact yJ i (yJ (xV m (Nat.mul_le_mul_left _ j)) zD)
theorem Rz{c:St}(e:∀f∈c.1,f.1.1.size<=60)(d:∀k∈c.2,k.1.length<=729):∀x∈dW c,x.n<=1000:=by
 intro x a;rcases yP.1 a with a|a
 .obtain⟨k,hk,rfl⟩:=yD.1 a;have:=d k hk;show k.1.length<=1000;omega
 .obtain⟨f,b,rfl⟩:=yD.1 a;have:=e f b;exact qcd
theorem Ak.fit{c:St}(h:Ak c):ZA c:=
 ⟨yJ h.f zo,yJ h.k zo,Rz h.lab fun k hk=>by have:=h.set k hk;omega,fun k hk=>by have:=h.set k hk;omega,fun a=>h.seen a⟩
theorem fzJ.fit{v:Vl}(h:fzJ v):dz2 v:=⟨h.i,h.fr,h.t,h.l,h.s,fun c a=>(h.st c a).fit⟩
theorem tQ.fit:∀{n:Nat} {v:Vl},tQ n v->oq n v
 |0,_,h=>h.elim
 |_+1,_,h=>⟨h.1.fit,fun x a=>⟨(h.2 x a).1.fit,(h.2 x a).2.fit⟩⟩
theorem rq{α:Type}:∀l:List α,fw (fun _=>1) l=l.length
 |[]=>rfl
 |x::l=>by rw[fq,rq l,yO];omega
theorem Wo{α β:Type}{f:α->Option (β×Bool)}{R:β->β->Prop}{c:β->β->Int}{l:List α}{r:List (β×Bool)}(h:gQ f l=some r):(gJ c (oN R (bY r))).length<=l.length:=by
 have b:=Ig (fun _:β=>1) R (bY r);have a:=Ez (fun _:β=>1) r;have d:=iM h;rw[rq,rq]at b;rw[rq,rq]at a;rw[(jh c _).length_eq];omega
theorem Mf{c:St}{fs:List Fd}{a:List Kl}(h:bH c)(i:fs.map (·.1)=c.1.map (·.1))(hk:a.map (·.1)=c.2.map (·.1)):bH (fs,a):=by
 refine⟨fun k b=>?_,fun w=>?_⟩
 .have:k.1∈c.2.map (·.1):=by rw[<-hk];exact yD.2 ⟨k,b,rfl⟩
  obtain⟨g,e,d⟩:=yD.1 this;rw[<-d];exact h.sets g e
 .have e:=congrArg (fun l:List aK=>l.countP fun t=>Sem t w) hk;have d:a.countP (fun k=>Sem k.1 w)=c.2.countP (fun k=>Sem k.1 w):=by simpa [List.countP_map,Function.comp_def]using e
  have m:=congrArg (fun l:List (ByteArray×Int)=>l.countP fun t=>t.1.data.toList==w) i;have j:fs.countP (fun f=>f.1.1.data.toList==w)=c.1.countP (fun f=>f.1.1.data.toList==w):=by simpa [List.countP_map,Function.comp_def]using m
  have:=h.once w;unfold Gv at this⊢;rw[d,j];exact this
theorem PT{c:St}{fs:List Fd}{d:List Kl}(h:Ak c)(e:fs.map (·.1)=c.1.map (·.1))(hk:d.map (·.1)=c.2.map (·.1)):Ak (fs,d) where
 f:=by have:=congrArg List.length e;simp at this;have:=h.f;simp only;omega
 k:=by have:=congrArg List.length hk;simp at this;have:=h.k;simp only;omega
 lab f hf':=by
  have:f.1∈c.1.map (·.1):=by rw[<-e];exact yD.2 ⟨f,hf',rfl⟩
  obtain⟨i,b,a⟩:=yD.1 this;rw[<-a];exact h.lab i b
 set k hk':=by
  have:k.1∈c.2.map (·.1):=by rw[<-hk];exact yD.2 ⟨k,hk',rfl⟩
  obtain⟨g,b,a⟩:=yD.1 this;rw[<-a];exact h.set g b
theorem Xt{c:St}{out:List Kl}(a:bH c)(h:Ak c)(U:uK c.2 out)(b:out.length<=c.2.length):ZA (c.1,out) where
 f:=yJ h.f zo
 k:=yJ b (yJ h.k zo)
 comp:=Rz h.lab fun k hk=>Ey a U h.k h.set h.f h.lab hk
 set k hk:=Ey a U h.k h.set h.f h.lab hk
 seen _:=Tv a.sets U (h.seen a.sets)
theorem Nf{n:Nat}(H:∀v u,iQ n v->cz n v=some u->dA n u<=dA n v){x:St}{y:St×Bool}(j:bH x)(hk:∀d∈bN x,iQ n d.1/\iQ n d.2)(i:Ak x)(h:mQ (cz n) (dz n) x=some y):ZA y.1:=by
 obtain⟨_,g,l,e,b,f⟩:=Fs H hk h;have a:=Mf j g b;have k:e.length=x.2.length:=by have:=congrArg List.length b;simpa using this
 have U:=BU e [] [] LF a.sets fun w=>by
  have c:=a.once w;unfold Gv at c;simp only[xN]at c⊢;exact yJ (Nat.le_add_right _ _) (Nat.le_of_eq c)
 have:=Xt a (PT i g b) (Tf (by simpa using U) (jh MF _)) (by rw[<-f];simp only;omega);rw[<-f]at this;exact this
theorem RP:∀(n:Nat) (v u:Vl),iQ n v->tQ n v->cz n v=some u->oq n u
 |0,_,_,h,_,_=>h.elim
 |n+1,v,u,hv,hs,h=>by
  have E:=RP n;rw[cz]at h
  split at h
  .cases h;exact hs.fit
  obtain⟨ls,M,h⟩:=Option.bind_eq_some_iff.1 h;obtain⟨C,K,h⟩:=Option.map_eq_some_iff.1 h
  split at h
  .cases h;exact dzy n true
  cases h;have D:∀d e:Vd,(iQ n d.1/\iQ n d.2)->(tQ n d.1/\tQ n d.2)->gD (cz n) (dz n) d=some e->oq n e.1/\oq n e.2:=fun d e g j o=>by
   unfold gD at o;obtain⟨a,B,o⟩:=Option.bind_eq_some_iff.1 o;obtain⟨b,A,o⟩:=Option.bind_eq_some_iff.1 o
   split at o
   .cases o;exact⟨E _ _ g.1 j.1 B,E _ _ g.2 j.2 A⟩
   .cases o
  have L:∀x∈bY ls,∀d∈aY x,oq n d.1/\oq n d.2:=fun x G d m=>by
   obtain⟨c,g,j⟩:=iL M (qV G);unfold mG at j;obtain⟨l,B,j⟩:=Option.bind_eq_some_iff.1 j;obtain⟨r,A,j⟩:=Option.map_eq_some_iff.1 j;simp only[Prod.mk.injEq]at j;rw[<-j.1]at m;rcases yP.1 m with m|m
   .obtain⟨z,p,w⟩:=iL B m;exact D z d (hv.2 z (eB g (yP.2 (.inl p)))) (hs.2 z (eB g (yP.2 (.inl p)))) w
   .obtain⟨z,p,w⟩:=iL A (xR.1 m).1;exact D z d (hv.2 z (eB g (yP.2 (.inr p)))) (hs.2 z (eB g (yP.2 (.inr p)))) w
  have S:∀x∈bY C,ZA x/\∀d∈bN x,oq n d.1/\oq n d.2:=fun x G=>by
   obtain⟨c,g,j⟩:=iL K (qV G);refine⟨Nf (uI n) (hv.1.st c g).2 (fun d m=>hv.2 d (eQ g m)) (hs.1.st c g) j,fun d m=>?_⟩;unfold mQ at j;obtain⟨fs,B,j⟩:=Option.bind_eq_some_iff.1 j;obtain⟨y,A,j⟩:=Option.map_eq_some_iff.1 j;simp only[Prod.mk.injEq]at j;rw[<-j.1]at m;rcases yP.1 m with m|m
   .obtain⟨f,o,rfl⟩:=yD.1 m;obtain⟨z,p,w⟩:=iL B o;unfold uJ at w;obtain⟨e,F,rfl⟩:=Option.map_eq_some_iff.1 w;exact D z.2 e (hv.2 _ (oP g p)) (hs.2 _ (oP g p)) F
   .obtain⟨f,o,rfl⟩:=yD.1 m;have P:∀(y out:List Kl),∀k∈y.foldl lW out,(∃q∈out,q.2=k.2)\/∃q∈y,q.2=k.2:=by
     intro y
     induction y with
     |nil=>intro out k hk;exact .inl ⟨k,hk,rfl⟩
     |cons z y E=>
      intro out k hk;rcases E _ k hk with⟨q,g,j⟩|⟨q,g,j⟩
      .unfold lW at g
       split at g
       .rcases yP.1 g with g|g
        .exact .inl ⟨q,g,j⟩
        .rw[zZ.1 g]at j;exact .inr ⟨z,zS,j⟩
       .rcases List.mem_or_eq_of_mem_set g with g|g
        .exact .inl ⟨q,g,j⟩
        .rw[g]at j;exact .inr ⟨z,zS,j⟩
      .exact .inr ⟨q,by simp[g],j⟩
    rcases P y [] f (gY.1 o)with⟨q,I,_⟩|⟨q,I,H⟩
    .simp at I
    .obtain⟨z,p,w⟩:=iL A I;unfold qf at w;obtain⟨e,F,rfl⟩:=Option.map_eq_some_iff.1 w;have H:e=f.2:=H;rw[<-H];exact D z.2 e (hv.2 _ (oQ g p)) (hs.2 _ (oQ g p)) F
  have N:∀{x},x∈(lu n v (bY ls) (bY C)).aN->x∈bY ls:=fun h=>fU (gY.1 h);have J:∀{x},x∈(lu n v (bY ls) (bY C)).aA->x∈bY C:=fun h=>fU (gY.1 h);refine⟨⟨hs.1.i,hs.1.fr,hs.1.t,yJ (Wo M) hs.1.l,yJ (Wo K) hs.1.s,fun c O=>(S c (J O)).1⟩,fun d m=>?_⟩;rcases yP.1 m with m|m
  .obtain⟨c,g,j⟩:=xW.1 m;exact L c (N g) d j
  .obtain⟨c,g,j⟩:=xW.1 m;exact(S c (J g)).2 d j
end Cl
namespace Cl
structure VK (n:Nat) (v:Vl):Prop where
 src:tQ n v
 l:v.aN.length<=3
 s:v.aA.length<=3
structure VO (lv:Nat) (v:Vl) (most r:Int):Prop where
 lo:1<=r
 hi:r<=most+1
 ok:r<=most->VK lv v/\(dA lv v:Int)<=r
structure CL (lv:Nat) (l:List Vd) (most r:Int):Prop where
 lo:0<=r
 hi:r<=most+1\/r=0
 ok:r<=most->(∀d∈l,VK lv d.1/\VK lv d.2)/\((fw (cv lv) l:Nat):Int)<=r
theorem CL.zero{lv:Nat}{a:Int}:CL lv [] a 0:=⟨zo,.inr rfl,fun _=>⟨fun d h=>by simp at h,by simp[fw]⟩⟩
theorem CL.step{lv:Nat}{l:List Vd}{d:Vd}{a n x y:Int}(h:CL lv l a n)(g:n<=a)(f:VO lv d.1 (a-n) x)(c:n+x<=a->VO lv d.2 (a-(n+x)) y)(b:¬n+x<=a->y=0):CL lv (l++[d]) a (n+x+y):=by
 have s:=f.lo;have r:=f.hi;have q:=h.lo;by_cases k:n+x<=a
 .have c:=c k;have p:=c.lo;have o:=c.hi;refine⟨zo,.inl zo,fun e=>?_⟩;obtain⟨m,v⟩:=h.ok g;obtain⟨j,u⟩:=f.ok zo;obtain⟨i,t⟩:=c.ok zo;refine⟨fun z b=>?_,?_⟩
  .rcases yP.1 b with b|b
   .exact m z b
   .rw[zZ.1 b];exact⟨j,i⟩
  .rw[iJ,fq,ru];unfold cv at*
   omega
 .rw[b k];exact⟨zo,.inl zo,fun e=>zo⟩
structure Lh (lv:Nat) (l:List Vd) (most n:Int):Prop where
 lo:1<=n
 hi:n<=most+1
 ok:n<=most->(∀d∈l,VK lv d.1/\VK lv d.2)/\1+((fw (cv lv) l:Nat):Int)<=n
theorem Lh.start{lv:Nat}{a:Int}(h:0<=a):Lh lv [] a 1:=⟨zo,zo,fun _=>⟨fun d h=>by simp at h,by simp[fw]⟩⟩
theorem Lh.step{lv:Nat}{l k:List Vd}{a n r:Int}(h:Lh lv l a n)(b:CL lv k (a-n) r):Lh lv (l++k) a (n+r):=by
 have o:=b.lo;have m:=b.hi;have j:=h.lo;have i:=h.hi;refine⟨zo,zo,fun e=>?_⟩;obtain⟨g,q⟩:=h.ok zo;obtain⟨f,p⟩:=b.ok zo;refine⟨fun d c=>(yP.1 c).elim (g d) (f d),?_⟩;rw[iJ];omega
theorem Lh.done{lv:Nat}{v:Vl}{a n:Int}{k:Nat}(h:Lh lv (v.aN.flatMap aY++(v.aA.take k).flatMap bN) a n)(hk:n<=a->k=v.aA.length)(hi:v.s.i.length<=8)(m:v.s.f.length<=8)(ht:v.s.t.length<=8)(l:v.aN.length<=3)(j:v.aA.length<=3)(o:∀c∈v.aA.take k,Ak c):VO (lv+1) v a n:=by
 refine⟨h.lo,h.hi,fun e=>?_⟩;obtain⟨g,p⟩:=h.ok e;have hk:=hk e;subst hk;rw[yG]at*
 refine⟨⟨⟨⟨hi,m,ht,zo,zo,o⟩,fun d b=>⟨(g d b).1.src,(g d b).2.src⟩⟩,l,j⟩,?_⟩;have:dA (lv+1) v=1+fw (cv lv) (v.aN.flatMap aY++v.aA.flatMap bN):=rfl;rw[this];omega
theorem dzk{c:Vl->Vl->Prop}{a b:Lc}:AV c a b↔¬a.1.length<b.1.length/\¬(b.2.length=0/\(b.1.length<a.1.length\/0<a.2.length))/\(∀i (h:i<a.1.length),qi c a.1[i] (j6 b i).1)/\∀(m:0<a.2.length) (l:0<b.2.length),qi c a.2[0] b.2[0]:=by
 constructor
 .intro h;have j:=h.len;have d:=h.shut;exact⟨zo,fun⟨e,k⟩=>by have:=d e;omega,h.items,h.rest⟩
 .rintro⟨j,d,g,f⟩;refine⟨zo,fun e=>?_,g,f⟩;have:¬(b.1.length<a.1.length\/0<a.2.length):=fun k=>d ⟨e,k⟩;omega
end Cl
namespace Cl
theorem fzw{c:Vl->Option Vl}{le:Vl->Vl->Prop}{l f:List Kl}(h:gQ (qf c le) l=some f):f.map (·.1)=l.map (·.1):=by
 have hl:=iM h;refine vF qeo fun i a b=>?_;have a:i<f.length:=by simpa using a
 have b:i<l.length:=by simpa using b
 have e:=rH h i b a;unfold qf at e;obtain⟨d,j,g⟩:=Option.map_eq_some_iff.1 e;simp only[xQ];rw[<-g]
theorem bzf{a out:List Kl}(f:∀k∈a,cB k.1/\k.1≠[])(h:uK a out)(h8:∀k∈a,k.1.length<=8)(h3:a.length<=3){k:Kl}(hk:k∈out):k.1.length<=729:=by
 have l:=kD (h.FW.sets k hk).1;have d:=(h.FW.sets k hk).2;have i:(a.filter fun x=>tf (x.2=k.2)).length<=3:=yJ (vB _ _) h3;have j:∀x∈(a.filter fun x=>tf (x.2=k.2)).map (fun x=>lq x.1),x.Ok:=fun x hx=>by
  obtain⟨y,b,rfl⟩:=yD.1 hx;have:=f y (xR.1 b).1;exact Ay this.1 this.2
 have b:=EB l d (fun w=>sW ((a.filter fun x=>tf (x.2=k.2)).map fun x=>lq x.1) (eY _) w) (NF ((a.filter fun x=>tf (x.2=k.2)).map fun x=>lq x.1)) (fun w=>yg (BK.reach j ⟨w,rfl⟩)) fun w w' e u=>by
  rw[eY,jf,jf]at e;have e:=List.map_inj_left.1 e;rw[Bool.eq_iff_iff,h.Ir k hk,h.Ir k hk];have g:∀{w w'},(∀x∈(a.filter fun x=>tf (x.2=k.2)).map (fun x=>lq x.1),x.from 0 w=x.from 0 w')->(∃x∈a,x.2=k.2/\Sem x.1 (w++u)=true)->∃x∈a,x.2=k.2/\Sem x.1 (w'++u)=true:=by
   rintro w w' e ⟨x,b,c,h3⟩;refine⟨x,b,c,?_⟩;have:=e (lq x.1) (yD.2 ⟨x,xR.2 ⟨b,aM c⟩,rfl⟩);rw[dn (f x b).1,rP]at h3⊢;rw[<-this];exact h3
  exact⟨g e,g fun x hx=>(e x hx).symm⟩
 rw[wP]at b;have c:=qZ (k:=9) (cs:=(a.filter fun x=>tf (x.2=k.2)).map fun x=>lq x.1) fun x hx=>by
  exact qcw
 rw[xC]at c;have h3:=Nat.pow_le_pow_right (show 0<9 by omega) i;have:9 ^ 3=729:=by decide
 omega
structure fzL (ks out:List Kl):Prop where
 SC:uK ks out
 one:∀w,ks.countP (fun k=>Sem k.1 w)<=1
 len:∀k∈out,k.1.length<=729
 few:out.length<=4
theorem gzy{n i:Nat}{c:St}(v:bH c)(r:Ak c){a:List Kl}(h:gQ (qf (cz n) (dz n)) (c.2.take i)=some a):fzL a (a.foldl lW []):=by
 have q:=fzw h;have A:=iM h;rw[List.length_take]at A;have hk:=r.k;have x:∀k∈a,∃z∈c.2,z.1=k.1:=fun k hk=>by
  have:k.1∈(c.2.take i).map (·.1):=by rw[<-q];exact yD.2 ⟨k,hk,rfl⟩
  obtain⟨z,o,j⟩:=yD.1 this;exact⟨z,xX o,j⟩
 have d:∀k∈a,cB k.1/\k.1≠[]:=fun k hk=>by obtain⟨z,o,j⟩:=x k hk;rw[<-j];exact v.sets z o
 have B:∀k∈a,k.1.length<=8:=fun k hk=>by obtain⟨z,o,j⟩:=x k hk;rw[<-j];exact r.set z o
 have g:∀w,a.countP (fun k=>Sem k.1 w)<=1:=fun w=>by
  have e:=congrArg (fun l:List aK=>l.countP fun t=>Sem t w) q;have e:a.countP (fun k=>Sem k.1 w)=(c.2.take i).countP (fun k=>Sem k.1 w):=by simpa only[List.countP_map,Function.comp_def]using e
  have s:=(List.take_sublist i c.2).countP_le (p:=fun k:Kl=>Sem k.1 w);have:=v.once w;unfold Gv at this;omega
 have U:=BU a [] [] LF d (by simpa using g);rw[xN]at U;refine⟨U,g,fun k m=>?_,?_⟩
 .by_cases j:a.length<=3
  .exact bzf d U B j m
  .have C:(c.2.take i)=c.2:=xH zo;rw[C]at q;have u:=Mf (c:=c) (fs:=c.1) v rfl q;have b:=PT (c:=c) (fs:=c.1) r rfl q;exact Ey (c:=(c.1,a)) u U b.k b.set b.f b.lab m
 .have y:=A7 (fun _=>1) a [];rw[ru,rq,rq]at y;omega
theorem dzp{q out:List Kl}(h:fzL q out):kw (fun k=>k∈out) MF where
 iZ a b ha hb:=nH.iZ _ _ (h.SC.FW.sets a ha).1 (h.SC.FW.sets b hb).1
 oC a b ha hb:=nH.oC _ _ (h.SC.FW.sets a ha).1 (h.SC.FW.sets b hb).1
 tr a b d ha hb hd:=nH.tr _ _ _ (h.SC.FW.sets a ha).1 (h.SC.FW.sets b hb).1 (h.SC.FW.sets d hd).1
 eq a b ha hb:=by
  refine(nH.eq _ _ (h.SC.FW.sets a ha).1 (h.SC.FW.sets b hb).1).trans ⟨fun e=>?_,fun e=>by rw[e]⟩;obtain⟨w,m⟩:=GG (h.SC.FW.sets a ha).1 (h.SC.FW.sets a ha).2;obtain⟨x,A,v,o⟩:=(h.SC.Ir a ha w).1 m;obtain⟨y,u,t,n⟩:=(h.SC.Ir b hb w).1 (by rw[<-e];exact m);have one:=h.one w;have g:∀{l:List Kl},x∈l->y∈l->l.countP (fun k=>Sem k.1 w)<=1->x=y:=by
   intro l
   induction l with
   |nil=>intro h;simp at h
   |cons z l ih=>
    intro s r i;rw[List.countP_cons]at i;rcases yA.1 s with rfl|f<;>rcases yA.1 r with rfl|c
    .rfl
    .have:=List.countP_pos_iff (p:=fun k:Kl=>Sem k.1 w).2 ⟨y,c,n⟩;rw[zK o]at i;omega
    .have:=List.countP_pos_iff (p:=fun k:Kl=>Sem k.1 w).2 ⟨x,f,o⟩;rw[zK n]at i;omega
    .exact ih f c zo
  have j:=g A u one;exact Prod.ext e (by rw[<-v,<-t,j])
theorem Yd{d out:List Kl}(h:fzL d out):out.Nodup:=(List.Pairwise.of_map _ (fun a b c e=>c (by rw[e])) h.SC.FW.GU)
theorem fzi{A B C:aK}(h:dw (fun w=>Sem A w||Sem B w) C):orT A B=C:=Jl h
theorem czW{A C:aK}(a:cB A)(h:dw (fun w=>Sem A w||Sem [] w) C):C=A:=nG h ((kD a).congr fun w=>by rw[dn eD,hzR];simp)
end Cl
namespace Cl
def wJ:aK:=[⟨true,[⟨0,96,1⟩,⟨97,97,2⟩,⟨98,255,1⟩]⟩,⟨true,[⟨0,255,1⟩]⟩,⟨false,[⟨0,255,1⟩]⟩]
theorem SL:wJ.length=3:=rfl
theorem Ps(b:Nat)(h:b<256):bX wJ 0 b=if b=97 then 2 else 1:=by
 show bE [(⟨0,96,1⟩:Ed),⟨97,97,2⟩,⟨98,255,1⟩] b=_;simp only[bE]
 split
 .rw[zJ zo]
 .split
  .rw[zK zo]
  .rw[zK ⟨zo,zo⟩,zJ zo]
theorem ezw(b:Nat)(h:b<256):bX wJ 1 b=1:=by
 exact qhP
theorem ezv(b:Nat)(h:b<256):bX wJ 2 b=1:=by
 exact qhP
theorem ZR:∀w,aH wJ 1 w=true
 |[]=>rfl
 |b::w=>by rw[aH,ezw _ b.toNat_lt];exact ZR w
theorem ezx:∀w:List UInt8,aH wJ 2 w=decide (w≠[])
 |[]=>rfl
 |b::w=>by rw[aH,ezv _ b.toNat_lt,ZR];simp
theorem fzX:∀w:List UInt8,aH wJ 0 w=decide (w≠[97])
 |[]=>rfl
 |b::w=>by
  rw[aH,Ps _ b.toNat_lt];by_cases e:b.toNat=97
  .have e:b=97:=UInt8.toNat_inj.1 e;subst e;rw[zK (show UInt8.toNat 97=97 from rfl),ezx];simp
  .rw[zJ e,ZR];have:b≠97:=fun h=>e qeL;simp[this]
theorem ezX{k:Nat}(h:3<=k)(b:Nat):bX wJ k b = -1:=gX wJ k b (by rw[SL];omega)
theorem ZQ:dw (fun w=>decide (w≠[97])) wJ:=by
 have a:∀k:Nat,k<wJ.length->k=0\/k=1\/k=2:=fun k h=>by rw[SL]at h;omega
 refine⟨⟨?_,?_,?_,?_,?_,?_,?_⟩,fzX⟩
 .intro s c;simp only[wJ,yA,List.not_mem_nil,or_false]at c;rcases c with rfl|rfl|rfl<;>simp[bS,wJ]
 .intro s c e d;simp only[wJ,yA,List.not_mem_nil,or_false]at c;rcases c with rfl|rfl|rfl<;>simp only[yA,List.not_mem_nil,or_false]at d
  .rcases d with rfl|rfl|rfl<;>exact⟨zS,zS⟩
  .subst d;exact⟨zS,zS⟩
  .subst d;exact⟨zS,zS⟩
 .intro s c;simp only[wJ,yA,List.not_mem_nil,or_false]at c;rcases c with rfl|rfl|rfl<;>simp[Merged]
 .intro k hk;rcases a k hk with rfl|rfl|rfl
  .exact⟨[],rfl⟩
  .exact⟨[],rfl⟩
  .exact⟨[0],by show aH wJ 2 [0]=true;rw[ezx];rfl⟩
 .intro i j hi n h;have l:=h [];have f:=h [97];rcases a i hi with rfl|rfl|rfl<;>rcases a j n with rfl|rfl|rfl<;>first|rfl|exact absurd l zD|exact absurd f zD
 .intro k b t g h m l f;by_cases hk:k<3
  .rcases(show k=0\/k=1\/k=2 by omega)with rfl|rfl|rfl
   .have h:bX wJ 0 b=t:=h;rw[Ps b g]at h
    split at h
    .obtain rfl:m=1:=zo;exact⟨0,0,zo,.inr ⟨rfl,zo⟩,Ps 0 zo⟩
    .omega
   .have h:bX wJ 1 b=t:=h;rw[ezw b g]at h;omega
   .have h:bX wJ 2 b=t:=h;rw[ezv b g]at h;omega
  .rw[ezX zo b]at h;omega
 .intro t l f;rw[SL]at f;rcases(show t=1\/t=2 by omega)with rfl|rfl
  .exact⟨0,0,zo,zo,Ps 0 zo⟩
  .exact⟨0,97,zo,zo,Ps 97 zo⟩
def Gu:ByteArray:=⟨#[97]⟩
def opC(p:Int)(d:Vd):St:=([((Gu,p),d)],[(wJ,(fE,fE))])
def CQ(p:Int)(d:Vd):Vl:=.mk false cK [] [opC p d]
theorem ezW(w:List UInt8):Sem wJ w=decide (w≠[97]):=by rw[dn ZQ.canon];exact ZQ.qw w
theorem IV(p:Int)(d:Vd):bH (opC p d):=by
 refine⟨fun k hk=>?_,fun w=>?_⟩
 .simp only[opC,zZ]at hk;subst hk;exact⟨ZQ.canon,by simp[wJ]⟩
 .simp only[Gv,opC,List.countP_cons,List.countP_nil,ezW,Gu];by_cases h:w=[97]
  .subst h;rfl
  .have a:¬[97]=w:=fun e=>h e.symm;simp[h,a]
theorem TS{p:Int}(b:p=1\/p=2)(d:Vd):fV (opC p d).1:=⟨fun f a=>by
 simp only[opC,zZ]at a;subst a;exact b,fun i h=>by simp[opC]at h⟩
theorem azF(p:Int)(d:Vd):bN (opC p d)=[d,(fE,fE)]:=rfl
theorem Qg(p:Int)(d:Vd):(CQ p d).kids=[d,(fE,fE)]:=rfl
theorem czZ{p:Int}(b:p=1\/p=2){d:Vd}{n:Nat}(f:iQ (n+1) d.1)(e:iQ (n+1) d.2):iQ (n+2) (CQ p d):=by
 refine⟨⟨fun h=>by simp[CQ,Vl.any]at h,fun c h=>by simp[CQ,Vl.aN]at h,fun c h=>?_,gI⟩,fun x a=>?_⟩
 .simp only[CQ,Vl.aA,zZ]at h;subst h;exact⟨TS b d,IV p d⟩
 .rw[Qg]at a;simp only[yA,List.not_mem_nil,or_false]at a;rcases a with rfl|rfl
  .exact⟨f,e⟩
  .exact⟨(wT n).1,(wT n).1⟩
theorem PI(n:Nat):cz (n+1) fE=some fE:=by rw[cz,zK (show fE.any=true from rfl)]
theorem cz0{p:Int}{d:Vd}{n:Nat}(o:cz (n+1) d.1=some d.1)(m:cz (n+1) d.2=some d.2)(k:dz (n+1) d.2 d.1)(j:ja d.1=false):cz (n+2) (CQ p d)=some (CQ p d):=by
 have e:gD (cz (n+1)) (dz (n+1)) d=some d:=uH o m k;have ht:gD (cz (n+1)) (dz (n+1)) (fE,fE)=some (fE,fE):=uH (PI n) (PI n) (Ow n _);have i:mQ (cz (n+1)) (dz (n+1)) (opC p d)=some (opC p d,true):=by
  unfold mQ;have t:gQ (uJ (cz (n+1)) (dz (n+1))) (opC p d).1=some (opC p d).1:=uB fun x a=>by
   simp only[opC,zZ]at a;subst a;unfold uJ;rw[e];rfl
  have s:gQ (qf (cz (n+1)) (dz (n+1))) (opC p d).2=some (opC p d).2:=uB fun x a=>by
   simp only[opC,zZ]at a;subst a;unfold qf;rw[ht];rfl
  rw[t,s];show some (((opC p d).1,gJ MF ((opC p d).2.foldl lW [])),(opC p d).1.all fun f => !ja f.2.1)=_;have r:(opC p d).2.foldl lW []=(opC p d).2:=by
   have:=Jv (opC p d).2 [] qeK;exact qbi
  rw[r,Io qeK];simp[opC,j]
 have c:oN (AJ (dz (n+1))) [opC p d]=[opC p d]:=Ml zS fun x a y b _=>by rw[zZ.1 a,zZ.1 b]
 have q:lu (n+1) (CQ p d) [] [opC p d]=CQ p d:=by
  unfold lu;rw[c]
  rfl
 have ev:¬OG (CQ p d):=by
  rintro⟨x,y,h,_⟩;simp[CQ,Vl.aN]at h
 rw[cz,zJ (by simp[CQ,Vl.any])];show(gQ (mG (cz (n+1)) (dz (n+1))) []).bind (fun ls=>(gQ (mQ (cz (n+1)) (dz (n+1))) [opC p d]).map _)=_;rw[Om (g:=fun x=>(x,true)) (l:=[opC p d]) fun x a=>by rw[zZ.1 a];exact i];show some (if tf (OG (lu (n+1) (CQ p d) [] [opC p d]))=true then fE else lu (n+1) (CQ p d) [] [opC p d])=some (CQ p d);rw[q,zJ qig]
theorem azE{p q:Int}{d e:Vd}{n:Nat}:dz (n+2) (CQ p d) (CQ q e)↔CQ p d=CQ q e\/(p<=q/\qi (dz (n+1)) d e):=by
 rw[dz,zJ (by simp[CQ,Vl.any])];have c:AJ (dz (n+1)) (opC p d) (opC q e)↔p<=q/\qi (dz (n+1)) d e:=by
  have j:iw (opC p d) Gu=(d,p):=BR (IV p d) (f:=((Gu,p),d)) qeK;have i:iw (opC q e) Gu=(e,q):=BR (IV q e) (f:=((Gu,q),e)) qeK;constructor
  .intro h;have:=h.fields ((Gu,p),d) (.inl qeK);rw[j,i]at this;exact this
  .intro h;refine⟨fun f g=>?_,fun x a y b=>.inl ?_⟩
   .have:f.1.1=Gu:=by rcases g with g|g<;>(simp only[opC,zZ]at g;subst g;rfl)
    rw[this,j,i];exact h
   .simp only[opC,zZ]at a b;subst a b;exact⟨Ow n _,Ow n _⟩
 constructor
 .rintro(h|⟨_,_,h⟩)
  .exact .inl h
  .obtain⟨y,b,k⟩:=h (opC p d) (by simp[CQ,Vl.aA]);have b:y=opC q e:=by simpa [CQ,Vl.aA]using b
   rw[b]at k;exact .inr (c.1 k)
 .rintro(h|h)
  .exact .inl h
  .refine .inr ⟨fun _ h=>h,fun x a=>by simp[CQ,Vl.aN]at a,fun x a=>⟨opC q e,by simp[CQ,Vl.aA],?_⟩⟩;have a:x=opC p d:=by simpa [CQ,Vl.aA]using a
   rw[a];exact c.2 h
end Cl
namespace Cl
theorem Zo(op:List UInt8)(u:Int):(iF op u).i.length<=2/\(iF op u).rf.length<=2:=by
 have c:(CR u).Le 1:=jy zS zS;have b:(KV u).Le 1:=jy zS zS;have a:(Cu u).Le 1:=jy zS zS;have:(iF op u).Le 2:=by
  unfold iF
  repeat' split
  .exact c.mono zo
  .exact b.mono zo
  .exact sJ b
  .exact sJ c
  .exact a.mono zo
  .exact sJ a
 exact⟨this.i,by rw[NS.rC];exact this.f⟩
end Cl
