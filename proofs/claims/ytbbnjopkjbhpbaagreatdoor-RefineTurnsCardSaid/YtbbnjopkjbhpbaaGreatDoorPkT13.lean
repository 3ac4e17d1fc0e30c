/- Lemmas. -/
import Derived.Test.YtbbnjopkjbhpbaaGreatDoorPkT12
set_option maxRecDepth 99999
set_option maxHeartbeats 9999999
namespace Cl
open Go Go.RowKit Go.Proofs
theorem Bi.iQ{cs:List fA}(b:∀c∈cs,c.n<=1000):∀{v:List Int},Bi cs v->∀x∈v,-1<=x/\x<1000:=by
 intro v h x a;obtain⟨i,hi,rfl⟩:=yX a;have d:=h.len;have:=h.get i zo hi;have e:=b cs[i] (zF zo);omega
theorem XV{c:St}(e:∀f∈c.1,f.1.1.size<=40)(d:∀k∈c.2,JD k.1):∀x∈dU c,x.n<=1000:=by
 intro x a;rcases yP.1 a with a|a
 .obtain⟨k,hk,rfl⟩:=yD.1 a;have:=(d k hk).2;show k.1.length<=1000;omega
 .obtain⟨f,b,rfl⟩:=yD.1 a;have:=e f b;exact qb7
def vw(f:Lit->Bool)(seen:List (List Int)):Prop:=∀l:List Int,f (.string (txt l))=true↔l∈seen
theorem vw.put{f:Lit->Bool}{seen:List (List Int)}(h:vw f seen)(x:List Int):vw (Yr f (.string (txt x)) true) (seen++[x]):=fun l=>by
 by_cases e:l=x
 .subst e;rw[Mr];simp
 .rw[Jv f true (fun h=>e (txt_inj' l x (by injection h)))];rw[h l];simp[e]
theorem vw.none:vw (fun _=>false) []:=fun l=>by simp
theorem ZU{α:Type}{l:List α}{v x:α}:x∈l++[v]↔x∈l\/x=v:=by simp
end Cl
namespace Cl
def V8(c:St):Prop:=∀l:List (List Int),l.Nodup->(∀v∈l,lD (dU c) v)->l.length<=1400000000
structure YE (c:St):Prop where
 f:c.1.length<=6
 k:c.2.length<=6
 comp:∀x∈dU c,x.n<=1000
 set:∀k∈c.2,k.1.length<=729
 seen:(∀k∈c.2,bZ k.1/\k.1≠[])->V8 c
structure cz2 (v:Vl):Prop where
 i:v.s.i.length<=8
 fr:v.s.f.length<=8
 t:v.s.t.length<=8
 l:v.aJ.length<=8
 s:v.ay.length<=8
 st:∀c∈v.ay,YE c
def nV:Nat->Vl->Prop
 |0,_=>False
 |n+1,v=>cz2 v/\∀x∈v.kids,nV n x.1/\nV n x.2
theorem nV.ht:∀{n:Nat} {v:Vl},nV n v->Ht n v
 |0,_,h=>h.elim
 |_+1,_,h=>fun x a=>⟨(h.2 x a).1.ht,(h.2 x a).2.ht⟩
theorem nV.succ:∀{n:Nat} {v:Vl},nV n v->nV (n+1) v
 |0,_,h=>h.elim
 |_+1,_,h=>⟨h.1,fun x a=>⟨(h.2 x a).1.succ,(h.2 x a).2.succ⟩⟩
theorem nV.mono{n m:Nat}{v:Vl}(h:nV n v)(k:n<=m):nV m v:=by
 induction k with
 |refl=>exact h
 |step _ ih=>exact ih.succ
theorem ezQ.fit{v:Vl}(h:ezQ v):cz2 v where
 i:=h.sc.1
 fr:=h.sc.2.1
 t:=h.sc.2.2.2
 l:=yJ h.l zo
 s:=yJ h.s zo
 st c hc:=⟨h.f c hc,h.k c hc,XV (h.lab c hc) (h.set c hc),fun k hk=>by have:=(h.set c hc k hk).2;omega,fun a l b d=>azC a (h.f c hc) (h.k c hc) (h.lab c hc) (h.set c hc) b d⟩
theorem Dx.fit:∀{n:Nat} {v:Vl},Dx n v->nV n v
 |0,_,h=>h.elim
 |_+1,_,h=>⟨h.1.fit,fun x a=>⟨(h.2 x a).1.fit,(h.2 x a).2.fit⟩⟩
theorem czy(n:Nat)(a:Bool):nV (n+1) (.mk a fe [] []):=(czz n a).fit
end Cl
namespace Cl
structure pK (ks out:List Kl):Prop where
 wV:Merge ks out
 KO:∀k∈out,∀w,Sem k.1 w=true↔∃x∈ks,x.2=k.2/\Sem x.1 w=true
 all:∀x∈ks,∃k∈out,k.2=x.2
theorem Wu{m out:List Kl}{k:Kl}(h:pK m out)(hk:bZ k.1/\k.1≠[])(u:∀w,(m++[k]).countP (fun k=>Sem k.1 w)<=1):pK (m++[k]) (kJ out k):=by
 refine⟨K9 h.wV hk u fun A B D v=>ZF (fun x y=>x||y) D v,?_,?_⟩
 .unfold kJ
  split
  .rename_i e;have q:∀x∈out,x.2≠k.2:=fun x hx hh=>by
    exact qcP
   intro y d w;rcases yP.1 d with d|d
   .rw[h.KO y d w];constructor
    .rintro⟨x,a,b⟩;exact⟨x,yP.2 (.inl a),b⟩
    .rintro⟨x,a,b,c⟩;rcases yP.1 a with a|a
     .exact⟨x,a,b,c⟩
     .rw[zZ.1 a]at b;exact absurd b.symm (q y d)
   .rw[zZ.1 d];constructor
    .intro a;exact⟨k,zS,rfl,a⟩
    .rintro⟨x,a,b,c⟩;rcases yP.1 a with a|a
     .obtain⟨z,p,E⟩:=h.all x a;exact absurd (E.trans b) (q z p)
     .rw[<-zZ.1 a];exact c
  .rename_i i e;obtain⟨hi,a,_⟩:=List.findIdx?_eq_some_iff_getElem.1 e;have g:out[i].2=k.2:=j4.1 a;have t:out.getD i k=out[i]:=by simp[hi]
   rw[t];obtain⟨C,o⟩:=ZF (fun x y=>x||y) (h.wV.sets _ (zF hi)).1 hk.1;have F:orT out[i].1 k.1=C:=Iy o;rw[F];have s:∀w,Sem C w=(Sem out[i].1 w||Sem k.1 w):=fun w=>by rw[dG o.canon];exact o.qp w
   have r:=h.wV.Fv;intro y d w;obtain⟨j,hj,rfl⟩:=yX d;have f:j<out.length:=by simpa using hj
   rw[List.getElem_set]
   split
   .rename_i e;subst e;simp only[s,Bool.or_eq_true];rw[h.KO _ (zF hi) w,g];constructor
    .rintro(⟨x,a,b⟩|a)
     .exact⟨x,yP.2 (.inl a),b⟩
     .exact⟨k,zS,rfl,a⟩
    .rintro⟨x,a,b,c⟩;rcases yP.1 a with a|a
     .exact .inl ⟨x,a,b,c⟩
     .rw[<-zZ.1 a];exact .inr c
   .rename_i n;rw[h.KO _ (zF f) w];constructor
    .rintro⟨x,a,b⟩;exact⟨x,yP.2 (.inl a),b⟩
    .rintro⟨x,a,b,c⟩;rcases yP.1 a with a|a
     .exact⟨x,a,b,c⟩
     .rw[zZ.1 a]at b;have b:=g.trans b;have b:(out.map (·.2))[i]'qec=(out.map (·.2))[j]'(by simpa using f):=by simpa using b
      exact absurd ((List.getElem_inj r).1 b) n
 .unfold kJ
  split
  .intro x hx;rcases yP.1 hx with hx|hx
   .obtain⟨z,a,b⟩:=h.all x hx;exact⟨z,yP.2 (.inl a),b⟩
   .exact⟨k,zS,by rw[zZ.1 hx]⟩
  .rename_i i e;obtain⟨hi,a,_⟩:=List.findIdx?_eq_some_iff_getElem.1 e;have g:out[i].2=k.2:=j4.1 a;have new:∃z∈out.set i (orT (out.getD i k).1 k.1,k.2),z.2=k.2:=⟨_,List.mem_set hi _,rfl⟩;intro x hx;rcases yP.1 hx with hx|hx
   .obtain⟨z,a,b⟩:=h.all x hx;obtain⟨j,hj,rfl⟩:=yX a;by_cases e:i=j
    .subst e;obtain⟨z,c,p⟩:=new;exact⟨z,c,p.trans (g.symm.trans b)⟩
    .exact⟨_,zF (l:=out.set i _) qdP,by rw[List.getElem_set_ne e];exact b⟩
   .rw[zZ.1 hx];exact new
theorem qL:∀(ks done out:List Kl),pK done out->(∀k∈ks,bZ k.1/\k.1≠[])->(∀w,(done++ks).countP (fun k=>Sem k.1 w)<=1)->pK (done++ks) (ks.foldl kJ out)
 |[],done,out,h,_,_=>by simpa using h
 |k::ks,done,out,h,hk,hc=>by
  rw[List.foldl_cons,show done++k::ks=(done++[k])++ks by simp];refine qL ks _ _ (Wu h (hk k zS) fun w=>?_) (fun x hx=>hk x qd4) fun w=>by have:=hc w;rwa [show done++k::ks=(done++[k])++ks by simp]at this
  exact qb5
theorem zy:pK [] []:=⟨K8,zS,zS⟩
theorem R5{b out a:List Kl}(h:pK b out)(p:a.Perm out):pK b a:=
 ⟨Ic h.wV p,fun k hk=>h.KO k (p.mem_iff.1 hk),fun x c=>by obtain⟨k,e,d⟩:=h.all x c;exact⟨k,p.mem_iff.2 e,d⟩⟩
theorem qZ(l:aK):∀(w u:List UInt8) (i:Int),aH l i (w++u)=aH l ((kT l).from i w) u
 |[],_,_=>rfl
 |_::w,u,_=>qZ l w u _
theorem Zf{l:aK}(h:bZ l)(d:l≠[]){w w':List UInt8}(e:∀u,aH l 0 (w++u)=aH l 0 (w'++u)):(kT l).from 0 w=(kT l).from 0 w':=by
 have r:∀w,-1<=(kT l).from 0 w/\(kT l).from 0 w<(l.length:Int):=fun w=>by
  have c:=Bi.reach (cs:=[kT l]) (by simpa using Aa h d) ⟨w,rfl⟩;rw[eF,iX]at c;exact c.1
 have c:=r w;have k:=r w';have g:∀u,aH l ((kT l).from 0 w) u=aH l ((kT l).from 0 w') u:=fun u=>by rw[<-qZ,<-qZ];exact e u
 generalize (kT l).from 0 w=i at*
 generalize (kT l).from 0 w'=j at*
 have a:∀i:Int,0<=i->i<l.length->∃u,aH l i u=true:=fun i m c=>by
  obtain⟨u,b⟩:=h.live i.toNat zo;rw[Int.toNat_of_nonneg m]at b;exact⟨u,b⟩
 by_cases hi:0<=i
 .by_cases f:0<=j
  .have:=h.czF i.toNat j.toNat zo zo fun u=>by rw[Int.toNat_of_nonneg hi,Int.toNat_of_nonneg f];exact g u
   omega
  .obtain⟨u,b⟩:=a i hi c.2;rw[g u,gL zo]at b;cases b
 .by_cases f:0<=j
  .obtain⟨u,b⟩:=a j f k.2;rw[<-g u,gL zo]at b;cases b
  .omega
section
variable {c:St} {out:List Kl}
theorem Vo(a:∀k∈c.2,bZ k.1/\k.1≠[]){w w':List UInt8}(e:sF (dU c) (eF (dU c)) w=sF (dU c) (eF (dU c)) w'){k:Kl}(hk:k∈c.2)(u:List UInt8):Sem k.1 (w++u)=Sem k.1 (w'++u):=by
 rw[eF,iX,iX]at e;have b:=List.map_inj_left.1 e (kT k.1) (yP.2 (.inl (yD.2 ⟨k,hk,rfl⟩)));rw[dG (a k hk).1,dG (a k hk).1,qZ,qZ,b]
theorem Ws(g:∀k∈c.2,bZ k.1/\k.1≠[])(h:pK c.2 out){w w':List UInt8}(e:sF (dU c) (eF (dU c)) w=sF (dU c) (eF (dU c)) w'):
 sF (dU (c.1,out)) (eF (dU (c.1,out))) w=sF (dU (c.1,out)) (eF (dU (c.1,out))) w':=by
 have i:=e;rw[eF,iX,iX]at i;rw[eF,iX,iX];refine List.map_inj_left.2 fun x a=>?_;rcases yP.1 a with a|a
 .obtain⟨k,hk,rfl⟩:=yD.1 a;have hk:k∈out:=hk;refine Zf (h.wV.sets k hk).1 (h.wV.sets k hk).2 fun u=>?_;rw[<-dG (h.wV.sets k hk).1,<-dG (h.wV.sets k hk).1,Bool.eq_iff_iff,h.KO k hk,h.KO k hk];constructor
  .rintro⟨x,b,f,d⟩;exact⟨x,b,f,by rw[<-Vo g e b];exact d⟩
  .rintro⟨x,b,f,d⟩;exact⟨x,b,f,by rw[Vo g e b];exact d⟩
 .exact List.map_inj_left.1 i x (yP.2 (.inr a))
theorem Sj(i:∀k∈c.2,bZ k.1/\k.1≠[])(h:pK c.2 out)(n:V8 c):V8 (c.1,out):=by
 intro l j m;obtain⟨g,f⟩:∃g:List Int->List UInt8,∀v∈l,v=sF (dU (c.1,out)) (eF (dU (c.1,out))) (g v):=⟨fun v=>Classical.epsilon fun w=>v=sF (dU (c.1,out)) (eF (dU (c.1,out))) w,fun v d=>Classical.epsilon_spec (m v d)⟩;have o:=n (l.map fun v=>sF (dU c) (eF (dU c)) (g v)) (List.pairwise_map.2 (j.imp_of_mem fun {a b} ha hb hab e=>hab (by rw[f a ha,f b hb];exact Ws i h e))) fun v d=>by
  obtain⟨u,_,rfl⟩:=yD.1 d;exact⟨_,rfl⟩
 simpa using o
theorem DN(n:bC c)(h:pK c.2 out)(t:c.2.length<=4)(h8:∀k∈c.2,k.1.length<=8)(f4:c.1.length<=4)(p:∀f∈c.1,f.1.1.size<=60){k:Kl}(hk:k∈out):k.1.length<=729:=by
 have r:=jy (h.wV.sets k hk).1;have j:=(h.wV.sets k hk).2;by_cases z:(c.2.filter fun x=>tf (x.2=k.2)).length<=3
 .have B:∀x∈(c.2.filter fun x=>tf (x.2=k.2)).map (fun x=>kT x.1),x.Ok:=fun x hx=>by
   obtain⟨y,a,rfl⟩:=yD.1 hx;have:=n.sets y (xR.1 a).1;exact Aa this.1 this.2
  have a:=DU r j (fun w=>sF ((c.2.filter fun x=>tf (x.2=k.2)).map fun x=>kT x.1) (eF _) w) (MV ((c.2.filter fun x=>tf (x.2=k.2)).map fun x=>kT x.1)) (fun w=>wX (Bi.reach B ⟨w,rfl⟩)) fun w w' e u=>by
   rw[eF,iX,iX]at e;have e:=List.map_inj_left.1 e;rw[Bool.eq_iff_iff,h.KO k hk,h.KO k hk];have m:∀{w w'},(∀x∈(c.2.filter fun x=>tf (x.2=k.2)).map (fun x=>kT x.1),x.from 0 w=x.from 0 w')->(∃x∈c.2,x.2=k.2/\Sem x.1 (w++u)=true)->∃x∈c.2,x.2=k.2/\Sem x.1 (w'++u)=true:=by
    rintro w w' e ⟨x,a,b,h3⟩;refine⟨x,a,b,?_⟩;have:=e (kT x.1) (yD.2 ⟨x,xR.2 ⟨a,aN b⟩,rfl⟩);rw[dG (n.sets x a).1,qZ]at h3⊢;rw[<-this];exact h3
   exact⟨m e,m fun x hx=>(e x hx).symm⟩
  rw[wB]at a;have b:=qK (k:=9) (cs:=(c.2.filter fun x=>tf (x.2=k.2)).map fun x=>kT x.1) fun x hx=>by
   exact qcq
  rw[xC]at b;have h3:=Nat.pow_le_pow_right (show 0<9 by omega) z;have:9 ^ 3=729:=by decide
  omega
 ·
  have l:∀x∈c.2,x.2=k.2:=by
   have a:=vB (fun x:Kl=>tf (x.2=k.2)) c.2;have b:(c.2.filter fun x=>tf (x.2=k.2)).length=c.2.length:=zo;intro x hx;have:=List.length_filter_eq_length_iff.1 b x hx;exact j4.1 this
  have d:∀w,Sem k.1 w=true↔∀f∈c.1,f.1.1.data.toList≠w:=fun w=>by
   rw[h.KO k hk];have A:=n.once w;unfold CY at A;constructor
   .rintro⟨x,a,_,h3⟩ f g e;have t:0<c.2.countP (fun k=>Sem k.1 w):=List.countP_pos_iff.2 ⟨x,a,h3⟩;have s:0<c.1.countP (fun f=>f.1.1.data.toList==w):=List.countP_pos_iff.2 ⟨f,g,by simp[e]⟩;omega
   .intro a;have s:c.1.countP (fun f=>f.1.1.data.toList==w)=0:=List.countP_eq_zero.2 fun f g=>by simp[a f g]
    obtain⟨x,o,C⟩:=List.countP_pos_iff.1 (show 0<c.2.countP (fun k=>Sem k.1 w)by omega);exact⟨x,o,l x o,C⟩
  have a:=DU r j (fun w=>if tf (∃f∈c.1,w <+: f.1.1.data.toList)=true then some w else none)
   (none::c.1.flatMap fun f=>(List.range 61).map fun i=>some (f.1.1.data.toList.take i)) (fun w=>by
    show(if tf (∃f∈c.1,w <+: f.1.1.data.toList)=true then some w else none)∈_
    split
    .rename_i e;obtain⟨f,b,h3⟩:=j4.1 e;have t:=h3.length_le;have s:=p f b;have o:f.1.1.data.toList.length=f.1.1.size:=Array.length_toList;exact zU _ (xW.2 ⟨f,b,yD.2 ⟨w.length,yQ.2 zo,congrArg some (List.prefix_iff_eq_take.1 h3).symm⟩⟩)
    .exact yF) fun w w' e u=>by
   rw[Bool.eq_iff_iff,d,d];have m:∀{w w':List UInt8},(if tf (∃f∈c.1,w <+: f.1.1.data.toList)=true then some w else none)=(if tf (∃f∈c.1,w' <+: f.1.1.data.toList)=true then some w' else none)->(∀f∈c.1,f.1.1.data.toList≠w++u)->∀f∈c.1,f.1.1.data.toList≠w'++u:=by
    intro w w' e v f g q;have b:tf (∃f∈c.1,w' <+: f.1.1.data.toList)=true:=aN ⟨f,g,by rw[q];exact List.prefix_append _ _⟩;rw[zK b]at e
    split at e
    .cases e;exact v f g q
    .cases e
   exact⟨m e,m e.symm⟩
  have b:(c.1.flatMap fun f=>(List.range 61).map fun i=>some (f.1.1.data.toList.take i)).length=c.1.length*61:=xw _ 61 _ fun x _=>by rw[xC,List.length_range]
  rw[yO,b]at a;have:=Nat.mul_le_mul_right 61 f4;omega
end
end Cl
namespace Cl
theorem NI{α β:Type}{f:α->Option β}:∀{l:List α},(∀x∈l,f x≠none)->∃r,eZ f l=some r
 |[],_=>⟨[],rfl⟩
 |x::l,h=>by
  obtain⟨r,a⟩:=NI (l:=l) fun y hy=>h y qef
  cases e:f x with
  |none=>exact absurd e (h x zS)
  |some y=>exact⟨y::r,by rw[eZ,e,a];rfl⟩
theorem Lf{α β:Type}{f:α->Option β}{l l':List α}(h:∀o,(∃x∈l,f x=o)↔∃x∈l',f x=o):
 (eZ f l=none/\eZ f l'=none)\/∃r k,eZ f l=some r/\eZ f l'=some k/\∀y,y∈r↔y∈k:=by
 by_cases e:∃x∈l,f x=none
 .obtain⟨x,a,b⟩:=e;obtain⟨y,g,j⟩:=(h none).1 ⟨x,a,b⟩;exact .inl ⟨lN a b,lN g j⟩
 .obtain⟨r,n⟩:=NI (f:=f) (l:=l) fun x a b=>e ⟨x,a,b⟩;obtain⟨k,d⟩:=NI (f:=f) (l:=l') fun x a b=>e ((h none).2 ⟨x,a,b⟩);refine .inr ⟨r,k,n,d,fun y=>⟨fun g=>?_,fun g=>?_⟩⟩
  .obtain⟨x,a,b⟩:=fZ n g;obtain⟨z,m,j⟩:=(h (some y)).1 ⟨x,a,b⟩;obtain⟨p,c,i⟩:=mapO_mem' d m;rw[j]at i;cases i;exact c
  .obtain⟨x,a,b⟩:=fZ d g;obtain⟨z,m,j⟩:=(h (some y)).2 ⟨x,a,b⟩;obtain⟨p,c,i⟩:=mapO_mem' n m;rw[j]at i;cases i;exact c
theorem Ak{α:Type}{l:List (α×Bool)}{x:α}:x∈bI l↔(x,true)∈l:=
 ⟨lU,fun h=>yD.2 ⟨(x,true),xR.2 ⟨h,rfl⟩,rfl⟩⟩
structure YJ (n:Nat) (x:Lc):Prop where
 rest:x.2.length<=1
 vals:∀d∈aX x,JO n d
theorem Re{n:Nat}{p q:Vd}(hp:JO n p)(hq:JO n q)(h1:pO (df n) p q)(h2:pO (df n) q p):p=q:=
 Prod.ext qie qid
theorem ZA{n:Nat}{v v':Vl}(w:v.s=v'.s){LS LS':List Lc}{SS SS':List St}(L:∀x∈LS,YJ n x)(S:∀x∈SS,CnS n x)(e:∀x,x∈LS↔x∈LS')(c:∀x,x∈SS↔x∈SS'):jC n v LS SS=jC n v' LS' SS':=by
 have L':∀x∈LS',YJ n x:=fun x a=>L x ((e x).2 a);have i:∀x∈SS',CnS n x:=fun x a=>S x ((c x).2 a);have u:∀{LS:List Lc},(∀x∈LS,YJ n x)->∀x∈LS,∀y∈LS,uF (df n) x y->uF (df n) y x->x=y:=fun L x a y b e c=>Iu (L x a).rest (L y b).rest (fun p m q l=>Re ((L x a).vals p m) ((L y b).vals q l)) e c;have r:∀{SS:List St},(∀x∈SS,CnS n x)->∀x∈SS,∀y∈SS,uE (df n) x y->uE (df n) y x->x=y:=fun S x a y b e c=>GG ⟨(S x a).fo,(S x a).co⟩ ⟨(S y b).fo,(S y b).co⟩ (S x a).kc (S y b).kc (fun p m q l=>Re ((S x a).vals p m) ((S y b).vals q l)) e c;have t:∀{LS:List Lc},(∀x∈LS,YJ n x)->∀x∈LS,uF (df n) x x:=fun L x a=>Ir fun d g=>⟨((L x a).vals d g).s1.ht,((L x a).vals d g).s2.ht⟩;have o:∀{SS:List St},(∀x∈SS,CnS n x)->∀x∈SS,uE (df n) x x:=fun S x a=>GD (S x a).co fun d g=>⟨((S x a).vals d g).s1.ht,((S x a).vals d g).s2.ht⟩;have j:∀{LS:List Lc},(∀x∈LS,YJ n x)->∀x∈mh (uF (df n)) LS,x.2.length<=1/\∀y∈aX x,ib n y.1/\ib n y.2:=fun L x a=>⟨(L x (dV a)).rest,fun y b=>⟨((L x (dV a)).vals y b).s1,((L x (dV a)).vals y b).s2⟩⟩;have h:∀{SS:List St},(∀x∈SS,CnS n x)->∀x∈mh (uE (df n)) SS,(∀f∈x.1,ib n f.2.1/\ib n f.2.2)/\∀k∈x.2,bZ k.1/\ib n k.2.1/\ib n k.2.2:=fun S x a=>⟨fun f z=>by
  have:=(S x (dV a)).vals f.2 (yP.2 (.inl (yD.2 ⟨f,z,rfl⟩)));exact⟨this.s1,this.s2⟩,fun k hk=>by
  have:=(S x (dV a)).vals k.2 (yP.2 (.inr (yD.2 ⟨k,hk,rfl⟩)));exact⟨((S x (dV a)).co.sets k hk).1,this.s1,this.s2⟩⟩
 have B:eU (Lm (gI n)) (mh (uF (df n)) LS)=eU (Lm (gI n)) (mh (uF (df n)) LS'):=
  asc_ext' (uV (lX n)) (fun x a=>j L x (dF.1 a)) (fun x a=>j L' x (dF.1 a)) (j5 (uV (lX n)) (j L) (ll (t L))) (j5 (uV (lX n)) (j L') (ll (t L'))) fun x=>by
   rw[dF,dF,tZ (u L),tZ (u L'),e];exact and_congr_right fun _=>⟨fun k y b=>k y ((e y).2 b),fun k y b=>k y ((e y).1 b)⟩
 have A:eU (KJ (gI n)) (mh (uE (df n)) SS)=eU (KJ (gI n)) (mh (uE (df n)) SS'):=
  asc_ext' (uQ (lX n)) (fun x a=>h S x (dF.1 a)) (fun x a=>h i x (dF.1 a)) (j5 (uQ (lX n)) (h S) (ll (o S))) (j5 (uQ (lX n)) (h i) (ll (o i))) fun x=>by
   rw[dF,dF,tZ (r S),tZ (r i),c];exact and_congr_right fun _=>⟨fun k y b=>k y ((c y).2 b),fun k y b=>k y ((c y).1 b)⟩
 unfold jC;rw[B,A,w]
theorem CQ{α β:Type}{f:α->Option β}:∀l:List α,eZ f l.reverse=(eZ f l).map List.reverse
 |[]=>rfl
 |x::l=>by
  rw[List.reverse_cons,Eg,CQ l,eZ]
  cases eZ f l with
  |none=>cases f x<;>rfl
  |some r=>
   cases f x with
   |none=>rfl
   |some y=>simp
theorem Nu{c:St}(h:bC c):bC (c.1,c.2.reverse):=by
 refine⟨fun k hk=>h.sets k (List.mem_reverse.1 hk),fun w=>?_⟩;have:=h.once w;unfold CY at this⊢;simp only[List.countP_reverse];exact this
theorem MW{j d out c:List Kl}(h:pK j out)(f:pK d c)(hk:∀x,x∈j↔x∈d)(p:∀w,out.countP (fun k=>Sem k.1 w)<=1)(m:∀w,c.countP (fun k=>Sem k.1 w)<=1):eU F6 out=eU F6 c:=by
 have sub:∀{j d out c:List Kl},pK j out->pK d c->(∀x,x∈j↔x∈d)->∀k∈out,k∈c:=by
  intro j d out c h f hk k g;obtain⟨x,o,e⟩:=h.wV.vals k g;obtain⟨l,i,q⟩:=f.all x ((hk x).1 o);have n:l.2=k.2:=q.trans e;have:k.1=l.1:=nu (jy (h.wV.sets k g).1) ((jy (f.wV.sets l i).1).congr fun w=>by
   rw[Bool.eq_iff_iff,h.KO k g,f.KO l i,n];exact⟨fun⟨x,a,b⟩=>⟨x,(hk x).2 a,b⟩,fun⟨x,a,b⟩=>⟨x,(hk x).1 a,b⟩⟩)
  rw[show k=l from Prod.ext this n.symm];exact i
 have K:=BH h.wV.sets p h.wV.Fv;have r:=BH f.wV.sets m f.wV.Fv;exact Dm (R:=fun x y:Kl=>nX x.1 y.1<0) (fun x=>Lp x.1) (fun _ _ _ a b=>Qm a b) K.asc r.asc fun x=>by
  rw[dF,dF];exact⟨sub h f hk x,sub f h (fun x=>(hk x).symm) x⟩
theorem Kh{n:Nat}{c:St}(hc:bC c):kE (bR n) (df n) (c.1,c.2.reverse)=kE (bR n) (df n) c:=by
 unfold kE;rw[CQ]
 cases eZ (sj (bR n) (df n)) c.1 with
 |none=>rfl
 |some fs=>
  cases e:eZ (nQ (bR n) (df n)) c.2 with
  |none=>rfl
  |some ks=>
   have hl:=gP e;have h:ks.map (·.1)=c.2.map (·.1):=vF qek fun i a b=>by
    have a:i<ks.length:=by simpa using a
    have b:i<c.2.length:=by simpa using b
    have:=nK e i b a;unfold nQ at this;obtain⟨d,_,h2⟩:=Option.map_eq_some_iff.1 this;simp[<-h2]
   have g:∀w,ks.countP (fun k=>Sem k.1 w)<=1:=fun w=>by
    have h1:=congrArg (fun l:List aK=>l.countP fun t=>Sem t w) h;have h2:ks.countP (fun k=>Sem k.1 w)=c.2.countP (fun k=>Sem k.1 w):=by simpa [List.countP_map,Function.comp_def]using h1
    have:=hc.once w;unfold CY at this;omega
   have f:∀k∈ks,bZ k.1/\k.1≠[]:=fun k hk=>by
    have:k.1∈c.2.map (·.1):=by rw[<-h];exact yD.2 ⟨k,hk,rfl⟩
    exact qdd
   have U:=qL ks [] [] zy f (by simpa using g);have j:=qL ks.reverse [] [] zy (fun k hk=>f k (List.mem_reverse.1 hk)) (by simpa [List.countP_reverse]using g);rw[xN]at U j;show some ((fs,eU F6 (ks.reverse.foldl kJ [])),_)=some ((fs,eU F6 (ks.foldl kJ [])),_);rw[MW j U (fun x=>List.mem_reverse) (fun w=>by rw[j.wV.cnt,List.countP_reverse];exact g w) (fun w=>by rw[U.wV.cnt];exact g w)]
def dR(v:Vl):Vl:=.mk v.any v.s (v.aJ.reverse.flatMap fun c=>[c,c]) (v.ay.reverse.flatMap fun c=>[(c.1,c.2.reverse),c])
theorem z8{v:Vl}{x:Lc}:x∈(dR v).aJ↔x∈v.aJ:=by
 show x∈v.aJ.reverse.flatMap (fun c=>[c,c])↔_;simp
theorem o5{v:Vl}{x:St}:x∈(dR v).ay↔∃c∈v.ay,x=(c.1,c.2.reverse)\/x=c:=by
 show x∈v.ay.reverse.flatMap (fun c=>[(c.1,c.2.reverse),c])↔_;simp
theorem Kz{v:Vl}{d:Vd}(h:d∈(dR v).kids):d∈v.kids:=by
 rcases yP.1 h with h|h
 .obtain⟨c,b,a⟩:=xW.1 h;exact dM (z8.1 b) a
 .obtain⟨c,b,a⟩:=xW.1 h;obtain⟨g,f,e⟩:=o5.1 b;refine dP f ?_;rcases e with rfl|rfl
  .unfold bJ at a⊢;simpa using a
  .exact a
theorem Pb{n:Nat}{v:Vl}(h:ib (n+1) v)(c:v.any=true):dR v=v:=by
 obtain⟨d,b,a⟩:=h.1.any c;unfold dR;rw[b,a];exact DJ rfl rfl b.symm a.symm
theorem O7:∀{n:Nat} {v:Vl},ib n v->ib n (dR v)
 |0,_,h=>h.elim
 |n+1,v,h=>by
  refine⟨⟨fun a=>?_,fun c b=>h.1.rest c (z8.1 b),fun c b=>?_,h.1.sc⟩,fun x d=>h.2 x (Kz d)⟩
  .have a:v.any=true:=a;rw[Pb h a];exact h.1.any a
  .obtain⟨g,f,e⟩:=o5.1 b;have:=h.1.st g f;rcases e with rfl|rfl
   .exact⟨this.1,Nu this.2⟩
   .exact this
theorem O9:∀{n:Nat} {v:Vl},ib n v->bR n (dR v)=bR n v
 |0,_,h=>h.elim
 |n+1,v,h=>by
  by_cases y:v.any=true
  .rw[Pb h y]
  have w:¬(dR v).any=true:=y;rw[bR,bR,zJ y,zJ w];have L:=Lf (f:=lC (bR n) (df n)) (l:=(dR v).aJ) (l':=v.aJ) fun o=>
   ⟨fun⟨x,a,b⟩=>⟨x,z8.1 a,b⟩,fun⟨x,a,b⟩=>⟨x,z8.2 a,b⟩⟩
  have S:=Lf (f:=kE (bR n) (df n)) (l:=(dR v).ay) (l':=v.ay) fun o=>
   ⟨fun⟨x,a,b⟩=>by
    obtain⟨c,g,k⟩:=o5.1 a;rcases k with rfl|rfl
    .rw[Kh (h.1.st c g).2]at b;exact⟨c,g,b⟩
    .exact⟨x,g,b⟩,fun⟨x,a,b⟩=>⟨x,o5.2 ⟨x,a,.inr rfl⟩,b⟩⟩
  rcases L with⟨q,m⟩|⟨ls,j,q,m,C⟩
  .rw[q,m];rfl
  rcases S with⟨s,p⟩|⟨r,i,s,p,z⟩
  .rw[q,m,s,p];rfl
  rw[q,m,s,p];have B:∀x∈bI j,YJ n x:=fun x t=>by
   obtain⟨c,g,k⟩:=fZ m (lU t);have:=Jo (Au n) (h.1.rest c g) (fun d u=>h.2 d (dM g u)) k;exact⟨this.1,this.2⟩
  have A:∀x∈bI i,CnS n x:=fun x t=>by
   obtain⟨c,g,k⟩:=fZ p (lU t);exact Jm (Au n) (h.1.st c g).1 (h.1.st c g).2 (fun d u=>h.2 d (dP g u)) k
  have e:=ZA (n:=n) (v:=v) (v':=dR v) rfl (LS:=bI j) (LS':=bI ls) (SS:=bI i) (SS':=bI r) B A (fun x=>by rw[Ak,Ak,C]) (fun x=>by rw[Ak,Ak,z]);show some (if tf (J8 (jC n (dR v) (bI ls) (bI r)))=true then eX else jC n (dR v) (bI ls) (bI r))=some (if tf (J8 (jC n v (bI j) (bI i)))=true then eX else jC n v (bI j) (bI i));rw[e]
def Vz(s:RS):Nat->Vl
 |0=>.mk false s [] []
 |k+1=>.mk false fe [([(Vz s k,dn)],[])] []
theorem ZN{s:RS}(a:s.iB){e:El}(b:s.has e):∀k,iP (Vz s k)=false
 |0=>by
  have:mR s=false:=by unfold mR;exact aG fun h=>h e (by rw[mG a];exact b)
  simp[iP,Vz,Vl.any,Vl.aJ,Vl.ay,Vl.s,this]
 |k+1=>by simp[iP,Vz,Vl.aJ]
end Cl
namespace Cl
def Xw(a b:Vd):Prop:=pO (df 16) a b
theorem bK.ht{d:Vd}(h:bK d):Ht 16 d.1/\Ht 16 d.2:=⟨h.s1.ht,h.s2.ht⟩
theorem EQ{v:Vl}(s:iI v)(c:bR 16 v=some v):bK (v,v):=⟨s,s,uw c c (jR s.ht)⟩
theorem mP{v:Vl}(s:iI v)(c:bR 16 v=some v):bK (v,dn):=⟨s,V3 15,uw c (czR 15) (bzb 15 v)⟩
theorem bK.fzt{d:Vd}(h:bK d):bK (d.1,dn):=mP h.s1 (Aq h.can).1
theorem WA:bK (eX,eX):=EQ (wE 15).1 (by rw[bR,zK (show eX.any=true from rfl)])
noncomputable def kN(d:Vd):Option Vd:=if tf (iI d.1/\iI d.2)=true then fO (bR 16) (df 16) d else none
theorem Ih{d e:Vd}(h:kN d=some e):iI d.1/\iI d.2/\fO (bR 16) (df 16) d=some e:=by
 unfold kN at h
 split at h
 .rename_i k;have:=j4.1 k;exact⟨this.1,this.2,h⟩
 .cases h
theorem tq(d:Vd):bK d↔kN d=some d:=by
 constructor
 .intro h;unfold kN;rw[zK (aN ⟨h.s1,h.s2⟩)];exact h.can
 .intro h;have:=Ih h;exact⟨this.1,this.2.1,this.2.2⟩
theorem Xy{d e:Vd}(h:kN d=some e)(k:bK d):e=d:=by
 rw[(tq d).1 k]at h;exact(Option.some.inj h).symm
theorem aze{d:Vd}(h:kN d=none):¬bK d:=fun k=>by rw[(tq d).1 k]at h;cases h
theorem azc{d:Vd}(b:iI d.1)(a:iI d.2):kN (dR d.1,dR d.2)=kN d:=by
 unfold kN;rw[zK (aN (show iI (dR d.1,dR d.2).1/\iI (dR d.1,dR d.2).2 from⟨O7 b,O7 a⟩)),zK (aN ⟨b,a⟩)];unfold fO;simp only;rw[O9 b,O9 a]
theorem mE(n:Nat)(s:RS):bR (n+1) (.mk false s [] [])=some (.mk false s [] []):=by
 have ev:¬J8 (jC n (.mk false s [] []) (bI []) (bI [])):=by
  rintro⟨x,y,h,_⟩;simp[jC,bI,mh,ig,eU,Vl.aJ]at h
 rw[bR,zJ (by simp[Vl.any])];show some (if tf (J8 (jC n (.mk false s [] []) (bI []) (bI [])))=true then eX else jC n (.mk false s [] []) (bI []) (bI []))=_;rw[zJ qeB]
 rfl
theorem iZ{s:RS}(b:s.iB)(n:Nat):ib (n+1) (.mk false s [] []):=
 ⟨⟨fun h=>by simp[Vl.any]at h,fun c h=>by simp[Vl.aJ]at h,fun c h=>by simp[Vl.ay]at h,b⟩,fun x a=>by simp[Vl.kids,Vl.aJ,Vl.ay]at a⟩
theorem FY{s t:RS}(n:Nat):df (n+1) (.mk false s [] []) (.mk false t [] [])↔∀e,s.has e->t.has e:=by
 rw[df,zJ (by simp[Vl.any])];constructor
 .rintro(h|h)
  .injection h with _ h;rw[h];exact fun _ h=>h
  .exact h.1
 .intro h;exact .inr ⟨h,fun x a=>by simp[Vl.aJ]at a,fun x a=>by simp[Vl.ay]at a⟩
end Cl
namespace Cl
structure Vs where
 n:Int
 d:Int
 b:Bool
noncomputable def lK:Nat->Nat->Vl->Vs->Vs
 |0,lv,_,a=>⟨a.n+1,max a.d lv,true⟩
 |f+1,lv,v,a=>if tf (rF v)then v.kids.foldl (fun a x=>lK f (lv+1) x.2 (lK f (lv+1) x.1 a)) ⟨a.n+1,max a.d lv,a.b⟩else⟨a.n+1,max a.d lv,true⟩
noncomputable def wm(f lv:Nat)(l:List Vd)(a:Vs):Vs:=l.foldl (fun a x=>lK f (lv+1) x.2 (lK f (lv+1) x.1 a)) a
theorem zw{f lv:Nat}{v:Vl}{a:Vs}(h:rF v):lK (f+1) lv v a=wm f lv v.kids ⟨a.n+1,max a.d lv,a.b⟩:=by rw[lK,aN h];rfl
theorem Cn{f lv:Nat}{v:Vl}{a:Vs}(h:¬rF v):lK (f+1) lv v a=⟨a.n+1,max a.d lv,true⟩:=by rw[lK,aG h];rfl
theorem Wo(f lv:Nat)(l:List Vd)(i:Nat)(h:i<l.length)(a:Vs):wm f lv (l.take (i+1)) a=lK f (lv+1) l[i].2 (lK f (lv+1) l[i].1 (wm f lv (l.take i) a)):=by
 rw[wm,zH h,List.foldl_append];rfl
theorem YW:∀(f lv:Nat) (v:Vl) (a:Vs),(lK f lv v a).b=(a.b||!tf (ib f v))
 |0,lv,v,a=>by rw[aG (p:=ib 0 v) id];simp[lK]
 |f+1,lv,v,a=>by
  have g:∀(l:List Vd) (a:Vs),(wm f lv l a).b=(a.b||!tf (∀x∈l,ib f x.1/\ib f x.2)):=by
   intro l
   induction l with
   |nil=>intro a;rw[aN zS];simp[wm]
   |cons x l ih=>
    intro a;rw[show wm f lv (x::l) a=wm f lv l (lK f (lv+1) x.2 (lK f (lv+1) x.1 a)) from rfl,ih,YW f,YW f];by_cases e:ib f x.1
    .by_cases d:ib f x.2
     .rw[aN e,aN d,dY (show(∀y∈x::l,ib f y.1/\ib f y.2)↔∀y∈l,ib f y.1/\ib f y.2 by simp[e,d])];simp
     .rw[aG d,aG (p:=∀y∈x::l,ib f y.1/\ib f y.2) fun h=>d (h x zS).2];simp
    .rw[aG e,aG (p:=∀y∈x::l,ib f y.1/\ib f y.2) fun h=>e (h x zS).1];simp
  by_cases c:rF v
  .rw[zw c,g,dY (show ib (f+1) v↔∀x∈v.kids,ib f x.1/\ib f x.2 from⟨fun h=>h.2,fun h=>⟨c,h⟩⟩)]
  .rw[Cn c,aG (p:=ib (f+1) v) fun h=>c h.1];simp
theorem YU:∀(f lv N:Nat) (v:Vl) (a:Vs),Ht N v->a.n<=(lK f lv v a).n/\(lK f lv v a).n<=a.n+di N v
 |0,lv,N,v,a,h=>by
  have:=Gn h
  simp only[lK];omega
 |f+1,lv,0,v,a,h=>h.elim
 |f+1,lv,N+1,v,a,h=>by
  have i:∀(l:List Vd) (a:Vs),(∀x∈l,Ht N x.1/\Ht N x.2)->a.n<=(wm f lv l a).n/\(wm f lv l a).n<=a.n+((l.map fun x=>di N x.1+di N x.2).sum:Nat):=by
   intro l
   induction l with
   |nil=>intro a _;simp[wm]
   |cons x l ih=>
    intro a c;rw[show wm f lv (x::l) a=wm f lv l (lK f (lv+1) x.2 (lK f (lv+1) x.1 a)) from rfl];have m:=YU f (lv+1) N x.1 a (c x zS).1;have k:=YU f (lv+1) N x.2 (lK f (lv+1) x.1 a) (c x zS).2;have j:=ih (lK f (lv+1) x.2 (lK f (lv+1) x.1 a)) fun y hy=>c y qef;simp only[yL,vG];omega
  have e:di (N+1) v=1+(v.kids.map fun x=>di N x.1+di N x.2).sum:=by rw[di]
  by_cases g:rF v
  .rw[zw g];have:=i v.kids ⟨a.n+1,max a.d lv,a.b⟩ h;simp only at this;omega
  .rw[Cn g];exact qdu
def jF(l:List Int):Int:=l.foldr rQ 0
theorem QE(l:List Int){i:Nat}(h:i<l.length):jF (l.drop i)=rQ l[i] (jF (l.drop (i+1))):=by
 rw[yE h];rfl
end Cl
namespace Cl
theorem Va(l:aK)(n:Nat){s:Int}(h:s<0):uD l n s=[]:=by
 cases hx:uD l n s with
 |nil=>rfl
 |cons a r=>
  have:=((oQ l n s a).1 (by rw[hx];simp)).2;rw[gL h]at this;cases this
def Dj(l:aK)(n:Nat)(t:Int)(b:Nat):List (List UInt8):=(uD l n t).map (UInt8.ofNat b::·)
def VP(l:aK)(n:Nat)(t:Int)(lo cnt:Nat):List (List UInt8):=(List.range' lo cnt).flatMap (Dj l n t)
theorem azH(l:aK)(n:Nat)(t:Int)(lo:Nat):VP l n t lo 0=[]:=rfl
theorem azI(l:aK)(n:Nat)(t:Int)(lo cnt:Nat):VP l n t lo (cnt+1)=VP l n t lo cnt++Dj l n t (lo+cnt):=by
 unfold VP;rw[List.range'_concat,List.flatMap_append];simp
theorem Oe{l:aK}{n:Nat}{t:Int}(h:uD l n t=[])(lo cnt:Nat):VP l n t lo cnt=[]:=by
 unfold VP Dj;rw[h];simp
def LX(l:aK)(n:Nat)(es:List Ed):List (List UInt8):=es.flatMap fun e=>VP l n e.to e.lo (e.hi+1-e.lo)
theorem QK(l:aK)(n:Nat)(es:List Ed){i:Nat}(h:i<es.length):LX l n (es.take (i+1))=LX l n (es.take i)++VP l n (es[i]).to (es[i]).lo ((es[i]).hi+1-(es[i]).lo):=by
 unfold LX;exact qco
theorem flatMap_nil{α β:Type}{f:α->List β}:∀{l:List α},(∀x∈l,f x=[])->l.flatMap f=[]
 |[],_=>rfl
 |a::l,h=>by rw[xO,h a zS,flatMap_nil fun x hx=>h x qd4];rfl
theorem oU{α β:Type}{f g:α->List β}:∀{l:List α},(∀x∈l,f x=g x)->l.flatMap f=l.flatMap g
 |[],_=>rfl
 |a::l,h=>by rw[xO,xO,h a zS,oU fun x hx=>h x qd4]
theorem VO{l:aK}{n N:Nat}:∀(es:List Ed) (q:Nat),bT N ((q:Int)-1) es->iN es->q<=256 ->
 (List.range' q (256-q)).flatMap (fun b=>Dj l n (bH es b) b)=LX l n es
 |[],q,_,_,_=>flatMap_nil fun b _=>by
  show(uD l n (-1)).map _=[]
  rw[Va l n zo];rfl
 |e::es,q,⟨h1,h2,h3,h4,h5⟩,hb,hq=>by
  have f:=hb e zS;have h:List.range' q (256-q)=List.range' q (e.lo-q)++(List.range' e.lo (e.hi+1-e.lo)++List.range' (e.hi+1) (256-(e.hi+1))):=by
   have i:List.range' e.lo (256-e.lo)=List.range' e.lo (e.hi+1-e.lo)++List.range' (e.hi+1) (256-(e.hi+1)):=by
    have:=List.range'_append_1 (s:=e.lo) (m:=e.hi+1-e.lo) (n:=256-(e.hi+1));rw[show e.lo+(e.hi+1-e.lo)=e.hi+1 by omega]at this;rw[this];congr 1;omega
   have d:=List.range'_append_1 (s:=q) (m:=e.lo-q) (n:=256-e.lo);rw[show q+(e.lo-q)=e.lo by omega]at d;rw[<-i,d];congr 1;omega
  rw[h,List.flatMap_append,List.flatMap_append];rw[flatMap_nil (l:=List.range' q (e.lo-q)) fun b a=>by
   have c:=List.mem_range'_1.1 a;have:bH (e::es) b = -1:=uZ _ _ fun x hx j=>by
    rcases yA.1 hx with rfl|hx
    .omega
    .have:=(jl h5 x hx).1;omega
   show(uD l n _).map _=[];rw[this,Va l n zo];rfl]
  rw[oU (l:=List.range' e.lo (e.hi+1-e.lo)) (g:=Dj l n e.to) fun b a=>by
   have c:=List.mem_range'_1.1 a;show Dj l n (bH (e::es) b) b=_;simp only[bH];rw[zK ⟨zo,zo⟩]]
  rw[oU (l:=List.range' (e.hi+1) (256-(e.hi+1))) (g:=fun b=>Dj l n (bH es b) b) fun b a=>by
   have c:=List.mem_range'_1.1 a;show Dj l n (bH (e::es) b) b=_;simp only[bH];rw[zJ zo]]
  rw[VO es (e.hi+1) (by rw[show(((e.hi+1:Nat):Int)-1)=(e.hi:Int)by omega];exact h5) (fun x hx=>hb x qd4) zo]
  rfl
theorem Vb{l:aK}(c:WF l)(d:Bytes l){s:Nat}(a:s<l.length)(n:Nat):uD l (n+1) (s:Int)=LX l n (l[s]).bu:=by
 have h:=VO (l:=l) (n:=n) (l[s]).bu 0 (by have:=c l[s] (zF a);simpa using this) (d l[s] (zF a)) zo;rw[<-h];unfold uD;rw[List.range_eq_range'];exact oU fun b _=>by rw[iW l s b a];rfl
def d9(l:aK)(n:Nat):List Bool:=(List.range l.length).map fun(s:Nat) => !(uD l n (s:Int)).isEmpty
theorem yt(l:aK)(n:Nat):(d9 l n).length=l.length:=by simp[d9]
theorem Di(l:aK)(n:Nat){s:Nat}(h:s<l.length):(d9 l n)[s]?=some (!(uD l n (s:Int)).isEmpty):=by simp[d9,h]
theorem Yn(l:aK):d9 l 0=l.map (·.bW):=by
 apply vF
 .simp[d9]
 .intro i b a;have hi:i<l.length:=by simpa using a
  simp only[d9,xQ,List.getElem_range];unfold uD;rw[lY l i hi];cases (l[i]).bW<;>rfl
theorem LW{l:aK}{n:Nat}{es:List Ed}{N:Nat}{p:Int}(c:bT N p es):(LX l n es=[])↔∀e∈es,uD l n e.to=[]:=by
 constructor
 .intro h e a;have f:=jl c e a;unfold LX at h;have b:=List.flatMap_eq_nil_iff.1 h e a;unfold VP at b;have d:=List.flatMap_eq_nil_iff.1 b e.lo (List.mem_range'_1.2 ⟨zI _,zo⟩);exact List.map_eq_nil_iff.1 d
 .intro h;exact flatMap_nil fun e a=>Oe (h e a) _ _
theorem Ml{l:aK}(g:WF l)(k:Bytes l)(n:Nat):d9 l (n+1)=l.map fun s=>s.bu.any fun e=>(d9 l n).getD e.to.toNat false:=by
 apply vF
 .simp[d9]
 .intro i p m;have hi:i<l.length:=by simpa using m
  have o:(d9 l (n+1))[i] = !(uD l (n+1) (i:Int)).isEmpty:=by simp[d9]
  rw[o,xQ,Vb g k hi,Bool.eq_iff_iff];have b:=g l[i] (zF hi);have d:∀e∈(l[i]).bu,(d9 l n).getD e.to.toNat false=true↔uD l n e.to≠[]:=by
   intro e c;have:=jl b e c;rw[yU,Di l n zo,xA,Int.toNat_of_nonneg this.2.2.1];simp
  rw[List.any_eq_true];constructor
  .intro h;have a:¬(LX l n (l[i]).bu=[]):=by simpa using h
   rw[LW b]at a;apply zP;intro j;exact a fun e c=>zP fun f=>j ⟨e,c,(d e c).2 f⟩
  .rintro⟨e,c,f⟩;have:=(d e c).1 f;have a:¬(LX l n (l[i]).bu=[]):=fun h=>this ((LW b).1 h e c);simpa using a
theorem UD{l:aK}(h:bZ l):∀t,t<l.length->∃u,wI l 0 u=t:=by
 intro t
 induction t using Nat.strongRecOn with
 |_ t ih=>
  intro ht;by_cases i:t=0
  .exact⟨[],by rw[i];rfl⟩
  .obtain⟨k,b,hk,g,e⟩:=h.reach t zo ht;obtain⟨u,d⟩:=ih k hk zo;obtain⟨c,f⟩:=byteOf b g;refine⟨u++[c],?_⟩;have:∀(u v:List UInt8) (s:Int),wI l s (u++v)=wI l (wI l s u) v:=by
    intro u v
    induction u with
    |nil=>intro s;rfl
    |cons a u ih=>intro s;exact ih _
   rw[this,d];show cu l k c.toNat=t;rw[f];exact e
theorem UF{l:aK}(h:bZ l){K n:Nat}(j:(lu l 0 n).length<K)(g:K*l.length<n):d9 l (n-1)=List.replicate l.length false:=by
 apply vF
 .simp[d9]
 .intro i k e;have hi:i<l.length:=by simpa using e
  simp only[d9,xQ,List.getElem_range,List.getElem_replicate];rw[Bool.not_eq_false',List.isEmpty_iff];apply zP;intro b;obtain⟨y,c⟩:=List.exists_mem_of_ne_nil _ b;obtain⟨m,f⟩:=(oQ _ _ _ _).1 c;obtain⟨u,d⟩:=UD h i hi;have a:aH l 0 (u++y)=true:=by rw[pJ,d];exact f
  have:=Eu a K qdQ;have:=LZ (l:=l) (s:=0) (show K*l.length<=n by omega);omega
theorem Yo{l:aK}(d:WF l)(g:Bytes l){n:Nat}(h:∀b∈d9 l n,b=false):∀m,n<=m->∀b∈d9 l m,b=false:=by
 intro m f
 induction f with
 |refl=>exact h
 |step _ ih=>
  rw[Ml d g];intro b c;obtain⟨s,i,rfl⟩:=yD.1 c;rw[Bool.eq_false_iff];intro a;obtain⟨e,j,a⟩:=List.any_eq_true.1 a;rw[yU]at a
  cases hg:(d9 l _)[e.to.toNat]? with
  |none=>rw[hg]at a;simp at a
  |some b=>
   rw[hg]at a;have:=ih b (List.mem_of_getElem? hg);rw[this]at a;simp at a
theorem XZ{l:aK}(e:WF l)(f:Bytes l){n:Nat}(h:∀b∈d9 l n,b=false):∀y,aH l 0 y=true->y.length<n:=by
 intro y a;apply zP;intro k;have g:=Yo e f h y.length zo;have j:=sQ a;have i:0<l.length:=zo;have d:=g _ (List.mem_of_getElem? (Di l y.length i));have c:y∈uD l y.length ((0:Nat):Int):=(oQ _ _ _ _).2 ⟨rfl,a⟩;rw[Bool.not_eq_false',List.isEmpty_iff]at d;rw[d]at c;simp at c
end Cl
namespace Cl
def cb(A:aK)(s n:Nat):Bool := !(uD A n (s:Int)).isEmpty
def f1(A:aK)(s n:Nat):Bool:=decide (n=0)&&cb A s 0
def f2(A:aK)(k s n:Nat):Bool:=decide (n<k)&&cb A s n
def f3(A:aK)(k t s n:Nat):Bool:=decide (n<k\/n=k/\s<t)&&cb A s n
def f4(A:aK)(k t:Nat)(es:List Ed)(s n:Nat):Bool:=f3 A k t s n||(decide (n=k/\s=t)&&es.any fun e=>cb A e.to.toNat (k-1))
end Cl
namespace Cl
mutual
def cnt:Dt->Nat
 |.mk _ _ _ i _ d=>1+ezH i+ezH d
def ezH:List Dt->Nat
 |[]=>0
 |x::r=>cnt x+ezH r
end
end Cl
namespace Cl
def stepT(a:List aK)(v:List Int)(b k:Nat):List Int:=iD ((a.map kT).take k) (v.take k) b
def fzs(a:List aK)(v:List Int)(k:Nat):Nat:=oW ((a.map kT).take k) (v.take k)
structure Bj (cs:List fA) (seen:List (List Int)) (k:Nat):Prop where
 nodup:seen.Nodup
 reach:∀v∈seen,lD cs v
 start:eF cs∈seen
 done:∀i (h:i<seen.length),i<k->Dy cs seen seen[i]
theorem Bj.first(cs:List fA):Bj cs [eF cs] 0 where
 nodup:=by simp
 reach v hv:=by rw[zZ.1 hv];exact .start cs
 start:=by simp
 done i _ h:=absurd h (xY i)
theorem Bj.push{cs:List fA}{seen:List (List Int)}{k:Nat}(h:Bj cs seen k)(hk:k<=seen.length){x:List Int}(d:lD cs x)(hx:x ∉ seen):Bj cs (seen++[x]) k where
 nodup:=by
  exact qbU
 reach v hv:=(yP.1 hv).elim (h.reach v) fun k=>by rw[zZ.1 k];exact d
 start:=xI _ h.start
 done i hi hik:=by
  rw[xM (show i<seen.length by omega)];exact(h.done i zo hik).mono fun y c=>xI _ c
theorem Bj.close{cs:List fA}{seen:List (List Int)}{k:Nat}(h:Bj cs seen k)(hk:k<seen.length)(d:Dy cs seen seen[k]):Bj cs seen (k+1):=
 ⟨h.nodup,h.reach,h.start,fun i hi a=>by
  by_cases e:i=k
  .subst e;exact d
  .exact h.done i hi zo⟩
theorem Bj.once{cs:List fA}{seen:List (List Int)}(h:Bj cs seen seen.length):Fz cs:=by
 have hd:∀v∈seen,Dy cs seen v:=fun v hv=>by
  obtain⟨i,hi,rfl⟩:=yX hv;exact h.done i hi hi
 exact qha
end Cl
namespace Cl
def dK{α:Type}(g:α->Nat)(l:List α):Nat:=(l.map g).sum
theorem mr{α:Type}(g:α->Nat):dK g []=0:=rfl
theorem cK{α:Type}(g:α->Nat)(x:α)(l:List α):dK g (x::l)=g x+dK g l:=by simp[dK]
theorem fK{α:Type}(g:α->Nat)(l m:List α):dK g (l++m)=dK g l+dK g m:=by simp[dK]
theorem Pi{α:Type}(g:α->Nat)(c:α->α->Int)(x:α):∀l,dK g (CW c x l)=g x+dK g l
 |[]=>by simp[CW,dK]
 |y::l=>by
  unfold CW
  split
  .rw[cK]
  .rw[cK,Pi g c x l,cK];omega
theorem Ab{α:Type}(g:α->Nat)(c:α->α->Int):∀l,dK g (eU c l)=dK g l
 |[]=>rfl
 |x::l=>by rw[eU,Pi,Ab g c l,cK]
theorem wF{α:Type}(g:α->Nat)(p:α->Bool):∀l,dK g (l.filter p)<=dK g l
 |[]=>zI _
 |x::l=>by
  have:=wF g p l;rw[List.filter_cons,cK]
  split
  .rw[cK];omega
  .omega
theorem Gw{α:Type}(g:α->Nat)(R:α->α->Prop)(l:List α):dK g (mh R l)<=dK g l:=by
 have c:∀n,n<=l.length->dK g (ig R l n)<=dK g (l.take n):=by
  intro n
  induction n with
  |zero=>intro _;exact zI _
  |succ n ih=>
   intro b;have d:=ih zo;have a:n<l.length:=b;rw[zH a,fK];by_cases k:rW R l n
   .rw[tY a k,fK];omega
   .rw[CP k];omega
 have:=c _ (zI _)
 rwa [yG]at this
theorem oh{α β:Type}{f:α->Option β}{g:β->Nat}{h:α->Nat}:∀{l:List α} {r:List β},(∀x∈l,∀y,f x=some y->g y<=h x)->eZ f l=some r->dK g r<=dK h l
 |[],r,_,e=>by unfold eZ at e;cases e;exact zI _
 |x::l,r,k,e=>by
  obtain⟨y,t,rfl,b,a⟩:=Eh e;have d:=k x zS y b;have c:=oh (g:=g) (h:=h) (fun z hz=>k z qeq) a;rw[cK,cK];omega
theorem DT{α:Type}(g:α->Nat)(l:List (α×Bool)):dK g (bI l)<=dK (fun x:α×Bool=>g x.1) l:=by
 have h:=wF (fun x:α×Bool=>g x.1) (·.2) l;unfold bI;unfold dK at h⊢;rw[vE];exact h
theorem tC{α β:Type}(g:β->Nat)(f:α->List β):∀l:List α,dK g (l.flatMap f)=dK (fun x=>dK g (f x)) l
 |[]=>rfl
 |x::l=>by rw[xO,fK,tC g f l,cK]
theorem Cu{α β:Type}(g:β->Nat)(f:α->β)(l:List α):dK g (l.map f)=dK (fun x=>g (f x)) l:=by simp[dK,Function.comp_def]
def cv(n:Nat)(d:Vd):Nat:=di n d.1+di n d.2
theorem mo(n:Nat)(v:Vl):di (n+1) v=1+(dK (fun c=>dK (cv n) (aX c)) v.aJ+dK (fun c=>dK (cv n) (bJ c)) v.ay):=by
 show 1+dK (cv n) v.kids=_;rw[Vl.kids,fK,tC,tC]
theorem bzj(g:Vd->Nat)(out:List Kl)(k:Kl):dK (fun x:Kl=>g x.2) (kJ out k)<=dK (fun x:Kl=>g x.2) out+g k.2:=by
 unfold kJ
 split
 .rw[fK,cK,mr];omega
 .rename_i i e;obtain⟨hi,b,_⟩:=List.findIdx?_eq_some_iff_getElem.1 e;have a:out[i].2=k.2:=j4.1 b;have set:∀(l:List Kl) (i:Nat) (h:i<l.length) (y:Kl),dK (fun x:Kl=>g x.2) (l.set i y)+g l[i].2=dK (fun x:Kl=>g x.2) l+g y.2:=by
   intro l
   induction l with
   |nil=>intro i h;simp at h
   |cons x l ih=>
    intro i h y
    cases i with
    |zero=>simp only[List.set_cons_zero,cK,xL];omega
    |succ i=>
     have:=ih i qd5 y;simp only[List.set_cons_succ,cK,List.getElem_cons_succ];omega
  have:=set out i hi (orT (out.getD i k).1 k.1,k.2);rw[a]at this;simp only at this;omega
theorem Ap(g:Vd->Nat):∀(a out:List Kl),dK (fun x:Kl=>g x.2) (a.foldl kJ out)<=dK (fun x:Kl=>g x.2) out+dK (fun x:Kl=>g x.2) a
 |[],out=>by simp[dK]
 |k::a,out=>by
  have c:=Ap g a (kJ out k);have b:=bzj g out k;rw[List.foldl_cons,cK];omega
theorem Ar{n:Nat}(H:∀v u,ib n v->bR n v=some u->di n u<=di n v){d e:Vd}(f:ib n d.1)(c:ib n d.2)(h:fO (bR n) (df n) d=some e):cv n e<=cv n d:=by
 unfold fO at h;obtain⟨a,i,h⟩:=Option.bind_eq_some_iff.1 h;obtain⟨b,g,h⟩:=Option.bind_eq_some_iff.1 h
 split at h
 .cases h;have:=H _ _ f i;have:=H _ _ c g;show di n a+di n b<=di n d.1+di n d.2;omega
 .cases h
theorem Mm{n:Nat}(H:∀v u,ib n v->bR n v=some u->di n u<=di n v){x:Lc}{y:Lc×Bool}(hk:∀d∈aX x,ib n d.1/\ib n d.2)(h:lC (bR n) (df n) x=some y):dK (cv n) (aX y.1)<=dK (cv n) (aX x)/\y.1.1.length=x.1.length/\y.1.2.length<=x.2.length:=by
 unfold lC at h;obtain⟨l,e,h⟩:=Option.bind_eq_some_iff.1 h;obtain⟨r,c,rfl⟩:=Option.map_eq_some_iff.1 h;have o:=oh (g:=cv n) (h:=cv n) (fun z a y b=>by have:=hk z (yP.2 (.inl a));exact Ar H this.1 this.2 b) e;have m:=oh (g:=cv n) (h:=cv n) (fun z a y b=>by have:=hk z (yP.2 (.inr a));exact Ar H this.1 this.2 b) c;have k:=wF (cv n) (fun d:Vd => !iP d.1) r;have j:=vB (fun d:Vd => !iP d.1) r;have f:=gP e;have i:=gP c;refine⟨?_,f,by simp only;omega⟩;unfold aX;rw[fK,fK];exact qdu
theorem EC{n:Nat}(H:∀v u,ib n v->bR n v=some u->di n u<=di n v){x:St}{y:St×Bool}(hk:∀d∈bJ x,ib n d.1/\ib n d.2)(h:kE (bR n) (df n) x=some y):
 dK (cv n) (bJ y.1)<=dK (cv n) (bJ x)/\y.1.1.map (·.1)=x.1.map (·.1)/\y.1.2.length<=x.2.length/\∃e:List Kl,e.map (·.1)=x.2.map (·.1)/\y.1.2=eU F6 (e.foldl kJ []):=by
 unfold kE at h;obtain⟨fs,o,h⟩:=Option.bind_eq_some_iff.1 h;obtain⟨e,m,rfl⟩:=Option.map_eq_some_iff.1 h;have f1:∀z∈x.1,∀y,sj (bR n) (df n) z=some y->y.1=z.1/\cv n y.2<=cv n z.2:=fun z j y c=>by
  unfold sj at c;obtain⟨d,k,rfl⟩:=Option.map_eq_some_iff.1 c;have:=hk z.2 (yP.2 (.inl (yD.2 ⟨z,j,rfl⟩)));exact⟨rfl,Ar H this.1 this.2 k⟩
 have q:∀z∈x.2,∀y,nQ (bR n) (df n) z=some y->y.1=z.1/\cv n y.2<=cv n z.2:=fun z j y c=>by
  unfold nQ at c;obtain⟨d,k,rfl⟩:=Option.map_eq_some_iff.1 c;have:=hk z.2 (yP.2 (.inr (yD.2 ⟨z,j,rfl⟩)));exact⟨rfl,Ar H this.1 this.2 k⟩
 have t:=oh (g:=fun f:Fd=>cv n f.2) (h:=fun f:Fd=>cv n f.2) (fun z j y c=>(f1 z j y c).2) o;have s:=oh (g:=fun f:Kl=>cv n f.2) (h:=fun f:Kl=>cv n f.2) (fun z j y c=>(q z j y c).2) m;have r:=Ap (cv n) e [];have p:=Ap (fun _=>1) e [];rw[mr]at r p;have one:∀l:List Kl,dK (fun _=>1) l=l.length:=fun l=>by
  induction l with
  |nil=>rfl
  |cons x l ih=>rw[cK,ih,yO];omega
 have hl:=gP m;refine⟨?_,?_,?_,e,?_,rfl⟩
 .unfold bJ;rw[fK,fK,Cu,Cu,Cu,Cu,Ab];exact qdu
 .refine vF (by simp[gP o]) fun i a b=>?_;have a:i<fs.length:=by simpa using a
  have b:i<x.1.length:=by simpa using b
  simpa using(f1 _ (zF b) _ (nK o i b a)).1
 .have:=(iY F6 (e.foldl kJ [])).length_eq;rw[one,one]at p;exact qdu
 .refine vF qek fun i a b=>?_;have a:i<e.length:=by simpa using a
  have b:i<x.2.length:=by simpa using b
  simpa using(q _ (zF b) _ (nK m i b a)).1
theorem uy:∀(n:Nat) (v u:Vl),ib n v->bR n v=some u->di n u<=di n v
 |0,_,_,h,_=>h.elim
 |n+1,v,u,hv,h=>by
  have j:=uy n;have a:di (n+1) eX<=di (n+1) v:=by
   rw[mo,mo];show 1+(0+0)<=_;omega
  rw[bR]at h
  split at h
  .cases h;exact zI _
  obtain⟨ls,l,h⟩:=Option.bind_eq_some_iff.1 h;obtain⟨i,k,h⟩:=Option.map_eq_some_iff.1 h
  split at h
  .cases h;exact a
  cases h;rw[mo,mo];have s:=oh (g:=fun x:Lc×Bool=>dK (cv n) (aX x.1)) (h:=fun c=>dK (cv n) (aX c)) (fun c f y b=>(Mm j (fun d e=>hv.2 d (dM f e)) b).1) l;have r:=oh (g:=fun x:St×Bool=>dK (cv n) (bJ x.1)) (h:=fun c=>dK (cv n) (bJ c)) (fun c f y b=>(EC j (fun d e=>hv.2 d (dP f e)) b).1) k;have q:=DT (fun c=>dK (cv n) (aX c)) ls;have p:=DT (fun c=>dK (cv n) (bJ c)) i;have o:=Gw (fun c=>dK (cv n) (aX c)) (uF (df n)) (bI ls);have m:=Gw (fun c=>dK (cv n) (bJ c)) (uE (df n)) (bI i);show 1+(dK _ (eU _ _)+dK _ (eU _ _))<=_;rw[Ab,Ab];omega
end Cl
namespace Cl
structure zm (c:St):Prop where
 f:c.1.length<=4
 k:c.2.length<=4
 lab:∀f∈c.1,f.1.1.size<=60
 set:∀k∈c.2,k.1.length<=8
structure ezM (v:Vl):Prop where
 i:v.s.i.length<=8
 fr:v.s.f.length<=8
 t:v.s.t.length<=8
 l:v.aJ.length<=8
 s:v.ay.length<=8
 st:∀c∈v.ay,zm c
def rJ:Nat->Vl->Prop
 |0,_=>False
 |n+1,v=>ezM v/\∀x∈v.kids,rJ n x.1/\rJ n x.2
theorem rJ.ht:∀{n:Nat} {v:Vl},rJ n v->Ht n v
 |0,_,h=>h.elim
 |_+1,_,h=>fun x a=>⟨(h.2 x a).1.ht,(h.2 x a).2.ht⟩
theorem rJ.succ:∀{n:Nat} {v:Vl},rJ n v->rJ (n+1) v
 |0,_,h=>h.elim
 |_+1,_,h=>⟨h.1,fun x a=>⟨(h.2 x a).1.succ,(h.2 x a).2.succ⟩⟩
theorem rJ.mono{n m:Nat}{v:Vl}(h:rJ n v)(k:n<=m):rJ m v:=by
 induction k with
 |refl=>exact h
 |step _ ih=>exact ih.succ
theorem zm.seen{c:St}(h:zm c)(a:∀k∈c.2,bZ k.1/\k.1≠[]):V8 c:=fun l d e=>by
 have i:=GM (P:=c.2.map fun k:Kl=>kT k.1) (Q:=c.1.map fun f:Fd=>rG f.1.1.data.toList) (k:=60) (fun x hx=>by
  obtain⟨k,hk,rfl⟩:=yD.1 hx;exact Aa (a k hk).1 (a k hk).2) (fun x hx=>by
  obtain⟨f,g,rfl⟩:=yD.1 hx;exact Lu (by rw[Array.length_toList];exact h.lab f g)) d (fun v b=>e v b)
 have m:nI (c.2.map fun k:Kl=>kT k.1)<=9 ^ 4:=yJ (qK (k:=9) fun x hx=>by
  obtain⟨k,hk,rfl⟩:=yD.1 hx;have:=h.set k hk;show k.1.length+1<=9;omega) (Nat.pow_le_pow_right zo (by rw[xC];exact h.k))
 have j:nI (List.replicate (c.1.map fun f:Fd=>rG f.1.1.data.toList).length Nt)<=2 ^ 4:=yJ qh3 (Nat.pow_le_pow_right zo (by rw[List.length_replicate,xC];exact h.f));exact yJ i (yJ (xV m (Nat.mul_le_mul_left _ j)) zD)
theorem Q0{c:St}(e:∀f∈c.1,f.1.1.size<=60)(d:∀k∈c.2,k.1.length<=729):∀x∈dU c,x.n<=1000:=by
 intro x a;rcases yP.1 a with a|a
 .obtain⟨k,hk,rfl⟩:=yD.1 a;have:=d k hk;show k.1.length<=1000;omega
 .obtain⟨f,b,rfl⟩:=yD.1 a;have:=e f b;exact qb7
theorem zm.fit{c:St}(h:zm c):YE c:=
 ⟨yJ h.f zo,yJ h.k zo,Q0 h.lab fun k hk=>by have:=h.set k hk;omega,fun k hk=>by have:=h.set k hk;omega,fun a=>h.seen a⟩
theorem ezM.fit{v:Vl}(h:ezM v):cz2 v:=⟨h.i,h.fr,h.t,h.l,h.s,fun c a=>(h.st c a).fit⟩
theorem rJ.fit:∀{n:Nat} {v:Vl},rJ n v->nV n v
 |0,_,h=>h.elim
 |_+1,_,h=>⟨h.1.fit,fun x a=>⟨(h.2 x a).1.fit,(h.2 x a).2.fit⟩⟩
theorem qM{α:Type}:∀l:List α,dK (fun _=>1) l=l.length
 |[]=>rfl
 |x::l=>by rw[cK,qM l,yO];omega
theorem Vu{α β:Type}{f:α->Option (β×Bool)}{R:β->β->Prop}{c:β->β->Int}{l:List α}{r:List (β×Bool)}(h:eZ f l=some r):(eU c (mh R (bI r))).length<=l.length:=by
 have b:=Gw (fun _:β=>1) R (bI r);have a:=DT (fun _:β=>1) r;have d:=gP h;rw[qM,qM]at b;rw[qM,qM]at a;rw[(iY c _).length_eq];omega
theorem K3{c:St}{fs:List Fd}{a:List Kl}(h:bC c)(i:fs.map (·.1)=c.1.map (·.1))(hk:a.map (·.1)=c.2.map (·.1)):bC (fs,a):=by
 refine⟨fun k b=>?_,fun w=>?_⟩
 .have:k.1∈c.2.map (·.1):=by rw[<-hk];exact yD.2 ⟨k,b,rfl⟩
  obtain⟨g,e,d⟩:=yD.1 this;rw[<-d];exact h.sets g e
 .have e:=congrArg (fun l:List aK=>l.countP fun t=>Sem t w) hk;have d:a.countP (fun k=>Sem k.1 w)=c.2.countP (fun k=>Sem k.1 w):=by simpa [List.countP_map,Function.comp_def]using e
  have m:=congrArg (fun l:List (ByteArray×Int)=>l.countP fun t=>t.1.data.toList==w) i;have j:fs.countP (fun f=>f.1.1.data.toList==w)=c.1.countP (fun f=>f.1.1.data.toList==w):=by simpa [List.countP_map,Function.comp_def]using m
  have:=h.once w;unfold CY at this⊢;rw[d,j];exact this
theorem Pn{c:St}{fs:List Fd}{d:List Kl}(h:zm c)(e:fs.map (·.1)=c.1.map (·.1))(hk:d.map (·.1)=c.2.map (·.1)):zm (fs,d) where
 f:=by have:=congrArg List.length e;simp at this;have:=h.f;simp only;omega
 k:=by have:=congrArg List.length hk;simp at this;have:=h.k;simp only;omega
 lab f hf':=by
  have:f.1∈c.1.map (·.1):=by rw[<-e];exact yD.2 ⟨f,hf',rfl⟩
  obtain⟨i,b,a⟩:=yD.1 this;rw[<-a];exact h.lab i b
 set k hk':=by
  have:k.1∈c.2.map (·.1):=by rw[<-hk];exact yD.2 ⟨k,hk',rfl⟩
  obtain⟨g,b,a⟩:=yD.1 this;rw[<-a];exact h.set g b
theorem Wt{c:St}{out:List Kl}(a:bC c)(h:zm c)(U:pK c.2 out)(b:out.length<=c.2.length):YE (c.1,out) where
 f:=yJ h.f zo
 k:=yJ b (yJ h.k zo)
 comp:=Q0 h.lab fun k hk=>DN a U h.k h.set h.f h.lab hk
 set k hk:=DN a U h.k h.set h.f h.lab hk
 seen _:=Sj a.sets U (h.seen a.sets)
theorem Mk{n:Nat}(H:∀v u,ib n v->bR n v=some u->di n u<=di n v){x:St}{y:St×Bool}(j:bC x)(hk:∀d∈bJ x,ib n d.1/\ib n d.2)(i:zm x)(h:kE (bR n) (df n) x=some y):YE y.1:=by
 obtain⟨_,g,l,e,b,f⟩:=EC H hk h;have a:=K3 j g b;have k:e.length=x.2.length:=by have:=congrArg List.length b;simpa using this
 have U:=qL e [] [] zy a.sets fun w=>by
  have c:=a.once w;unfold CY at c;simp only[xN]at c⊢;exact yJ (Nat.le_add_right _ _) (Nat.le_of_eq c)
 have:=Wt a (Pn i g b) (R5 (by simpa using U) (iY F6 _)) (by rw[<-f];simp only;omega);rw[<-f]at this;exact this
theorem Rf:∀(n:Nat) (v u:Vl),ib n v->rJ n v->bR n v=some u->nV n u
 |0,_,_,h,_,_=>h.elim
 |n+1,v,u,hv,hs,h=>by
  have E:=Rf n;rw[bR]at h
  split at h
  .cases h;exact hs.fit
  obtain⟨ls,M,h⟩:=Option.bind_eq_some_iff.1 h;obtain⟨C,K,h⟩:=Option.map_eq_some_iff.1 h
  split at h
  .cases h;exact czy n true
  cases h;have D:∀d e:Vd,(ib n d.1/\ib n d.2)->(rJ n d.1/\rJ n d.2)->fO (bR n) (df n) d=some e->nV n e.1/\nV n e.2:=fun d e g j o=>by
   unfold fO at o;obtain⟨a,B,o⟩:=Option.bind_eq_some_iff.1 o;obtain⟨b,A,o⟩:=Option.bind_eq_some_iff.1 o
   split at o
   .cases o;exact⟨E _ _ g.1 j.1 B,E _ _ g.2 j.2 A⟩
   .cases o
  have L:∀x∈bI ls,∀d∈aX x,nV n d.1/\nV n d.2:=fun x G d m=>by
   obtain⟨c,g,j⟩:=fZ M (lU G);unfold lC at j;obtain⟨l,B,j⟩:=Option.bind_eq_some_iff.1 j;obtain⟨r,A,j⟩:=Option.map_eq_some_iff.1 j;simp only[Prod.mk.injEq]at j;rw[<-j.1]at m;rcases yP.1 m with m|m
   .obtain⟨z,p,w⟩:=fZ B m;exact D z d (hv.2 z (dM g (yP.2 (.inl p)))) (hs.2 z (dM g (yP.2 (.inl p)))) w
   .obtain⟨z,p,w⟩:=fZ A (xR.1 m).1;exact D z d (hv.2 z (dM g (yP.2 (.inr p)))) (hs.2 z (dM g (yP.2 (.inr p)))) w
  have S:∀x∈bI C,YE x/\∀d∈bJ x,nV n d.1/\nV n d.2:=fun x G=>by
   obtain⟨c,g,j⟩:=fZ K (lU G);refine⟨Mk (uy n) (hv.1.st c g).2 (fun d m=>hv.2 d (dP g m)) (hs.1.st c g) j,fun d m=>?_⟩;unfold kE at j;obtain⟨fs,B,j⟩:=Option.bind_eq_some_iff.1 j;obtain⟨y,A,j⟩:=Option.map_eq_some_iff.1 j;simp only[Prod.mk.injEq]at j;rw[<-j.1]at m;rcases yP.1 m with m|m
   .obtain⟨f,o,rfl⟩:=yD.1 m;obtain⟨z,p,w⟩:=fZ B o;unfold sj at w;obtain⟨e,F,rfl⟩:=Option.map_eq_some_iff.1 w;exact D z.2 e (hv.2 _ (oC g p)) (hs.2 _ (oC g p)) F
   .obtain⟨f,o,rfl⟩:=yD.1 m;have P:∀(y out:List Kl),∀k∈y.foldl kJ out,(∃q∈out,q.2=k.2)\/∃q∈y,q.2=k.2:=by
     intro y
     induction y with
     |nil=>intro out k hk;exact .inl ⟨k,hk,rfl⟩
     |cons z y E=>
      intro out k hk;rcases E _ k hk with⟨q,g,j⟩|⟨q,g,j⟩
      .unfold kJ at g
       split at g
       .rcases yP.1 g with g|g
        .exact .inl ⟨q,g,j⟩
        .rw[zZ.1 g]at j;exact .inr ⟨z,zS,j⟩
       .rcases List.mem_or_eq_of_mem_set g with g|g
        .exact .inl ⟨q,g,j⟩
        .rw[g]at j;exact .inr ⟨z,zS,j⟩
      .exact .inr ⟨q,by simp[g],j⟩
    rcases P y [] f (dF.1 o)with⟨q,I,_⟩|⟨q,I,H⟩
    .simp at I
    .obtain⟨z,p,w⟩:=fZ A I;unfold nQ at w;obtain⟨e,F,rfl⟩:=Option.map_eq_some_iff.1 w;have H:e=f.2:=H;rw[<-H];exact D z.2 e (hv.2 _ (oG g p)) (hs.2 _ (oG g p)) F
  have N:∀{x},x∈(jC n v (bI ls) (bI C)).aJ->x∈bI ls:=fun h=>dV (dF.1 h);have J:∀{x},x∈(jC n v (bI ls) (bI C)).ay->x∈bI C:=fun h=>dV (dF.1 h);refine⟨⟨hs.1.i,hs.1.fr,hs.1.t,yJ (Vu M) hs.1.l,yJ (Vu K) hs.1.s,fun c O=>(S c (J O)).1⟩,fun d m=>?_⟩;rcases yP.1 m with m|m
  .obtain⟨c,g,j⟩:=xW.1 m;exact L c (N g) d j
  .obtain⟨c,g,j⟩:=xW.1 m;exact(S c (J g)).2 d j
end Cl
namespace Cl
structure OH (n:Nat) (v:Vl):Prop where
 src:rJ n v
 l:v.aJ.length<=3
 s:v.ay.length<=3
structure U2 (lv:Nat) (v:Vl) (most r:Int):Prop where
 lo:1<=r
 hi:r<=most+1
 ok:r<=most->OH lv v/\(di lv v:Int)<=r
structure Ce (lv:Nat) (l:List Vd) (most r:Int):Prop where
 lo:0<=r
 hi:r<=most+1\/r=0
 ok:r<=most->(∀d∈l,OH lv d.1/\OH lv d.2)/\((dK (cv lv) l:Nat):Int)<=r
theorem Ce.zero{lv:Nat}{a:Int}:Ce lv [] a 0:=⟨zo,.inr rfl,fun _=>⟨fun d h=>by simp at h,by simp[dK]⟩⟩
theorem Ce.step{lv:Nat}{l:List Vd}{d:Vd}{a n x y:Int}(h:Ce lv l a n)(g:n<=a)(f:U2 lv d.1 (a-n) x)(c:n+x<=a->U2 lv d.2 (a-(n+x)) y)(b:¬n+x<=a->y=0):Ce lv (l++[d]) a (n+x+y):=by
 have s:=f.lo;have r:=f.hi;have q:=h.lo;by_cases k:n+x<=a
 .have c:=c k;have p:=c.lo;have o:=c.hi;refine⟨zo,.inl zo,fun e=>?_⟩;obtain⟨m,v⟩:=h.ok g;obtain⟨j,u⟩:=f.ok zo;obtain⟨i,t⟩:=c.ok zo;refine⟨fun z b=>?_,?_⟩
  .rcases yP.1 b with b|b
   .exact m z b
   .rw[zZ.1 b];exact⟨j,i⟩
  .rw[fK,cK,mr];unfold cv at*
   omega
 .rw[b k];exact⟨zo,.inl zo,fun e=>zo⟩
structure Kk (lv:Nat) (l:List Vd) (most n:Int):Prop where
 lo:1<=n
 hi:n<=most+1
 ok:n<=most->(∀d∈l,OH lv d.1/\OH lv d.2)/\1+((dK (cv lv) l:Nat):Int)<=n
theorem Kk.start{lv:Nat}{a:Int}(h:0<=a):Kk lv [] a 1:=⟨zo,zo,fun _=>⟨fun d h=>by simp at h,by simp[dK]⟩⟩
theorem Kk.step{lv:Nat}{l k:List Vd}{a n r:Int}(h:Kk lv l a n)(b:Ce lv k (a-n) r):Kk lv (l++k) a (n+r):=by
 have o:=b.lo;have m:=b.hi;have j:=h.lo;have i:=h.hi;refine⟨zo,zo,fun e=>?_⟩;obtain⟨g,q⟩:=h.ok zo;obtain⟨f,p⟩:=b.ok zo;refine⟨fun d c=>(yP.1 c).elim (g d) (f d),?_⟩;rw[fK];omega
theorem U2.over{lv:Nat}{v:Vl}{a:Int}(h:0<=a):U2 lv v a (a+1):=⟨zo,zo,fun e=>zo⟩
theorem Kk.done{lv:Nat}{v:Vl}{a n:Int}{k:Nat}(h:Kk lv (v.aJ.flatMap aX++(v.ay.take k).flatMap bJ) a n)(hk:n<=a->k=v.ay.length)(hi:v.s.i.length<=8)(m:v.s.f.length<=8)(ht:v.s.t.length<=8)(l:v.aJ.length<=3)(j:v.ay.length<=3)(o:∀c∈v.ay.take k,zm c):U2 (lv+1) v a n:=by
 refine⟨h.lo,h.hi,fun e=>?_⟩;obtain⟨g,p⟩:=h.ok e;have hk:=hk e;subst hk;rw[yG]at*
 refine⟨⟨⟨⟨hi,m,ht,zo,zo,o⟩,fun d b=>⟨(g d b).1.src,(g d b).2.src⟩⟩,l,j⟩,?_⟩;have:di (lv+1) v=1+dK (cv lv) (v.aJ.flatMap aX++v.ay.flatMap bJ):=rfl;rw[this];omega
theorem czk{c:Vl->Vl->Prop}{a b:Lc}:uF c a b↔¬a.1.length<b.1.length/\¬(b.2.length=0/\(b.1.length<a.1.length\/0<a.2.length))/\(∀i (h:i<a.1.length),pO c a.1[i] (jS b i).1)/\∀(m:0<a.2.length) (l:0<b.2.length),pO c a.2[0] b.2[0]:=by
 constructor
 .intro h;have j:=h.len;have d:=h.shut;exact⟨zo,fun⟨e,k⟩=>by have:=d e;omega,h.items,h.rest⟩
 .rintro⟨j,d,g,f⟩;refine⟨zo,fun e=>?_,g,f⟩;have:¬(b.1.length<a.1.length\/0<a.2.length):=fun k=>d ⟨e,k⟩;omega
end Cl
namespace Cl
theorem ezy{c:Vl->Option Vl}{le:Vl->Vl->Prop}{l f:List Kl}(h:eZ (nQ c le) l=some f):f.map (·.1)=l.map (·.1):=by
 have hl:=gP h;refine vF qek fun i a b=>?_;have a:i<f.length:=by simpa using a
 have b:i<l.length:=by simpa using b
 have e:=nK h i b a;unfold nQ at e;obtain⟨d,j,g⟩:=Option.map_eq_some_iff.1 e;simp only[xQ];rw[<-g]
theorem azj{a out:List Kl}(f:∀k∈a,bZ k.1/\k.1≠[])(h:pK a out)(h8:∀k∈a,k.1.length<=8)(h3:a.length<=3){k:Kl}(hk:k∈out):k.1.length<=729:=by
 have l:=jy (h.wV.sets k hk).1;have d:=(h.wV.sets k hk).2;have i:(a.filter fun x=>tf (x.2=k.2)).length<=3:=yJ (vB _ _) h3;have j:∀x∈(a.filter fun x=>tf (x.2=k.2)).map (fun x=>kT x.1),x.Ok:=fun x hx=>by
  obtain⟨y,b,rfl⟩:=yD.1 hx;have:=f y (xR.1 b).1;exact Aa this.1 this.2
 have b:=DU l d (fun w=>sF ((a.filter fun x=>tf (x.2=k.2)).map fun x=>kT x.1) (eF _) w) (MV ((a.filter fun x=>tf (x.2=k.2)).map fun x=>kT x.1)) (fun w=>wX (Bi.reach j ⟨w,rfl⟩)) fun w w' e u=>by
  rw[eF,iX,iX]at e;have e:=List.map_inj_left.1 e;rw[Bool.eq_iff_iff,h.KO k hk,h.KO k hk];have g:∀{w w'},(∀x∈(a.filter fun x=>tf (x.2=k.2)).map (fun x=>kT x.1),x.from 0 w=x.from 0 w')->(∃x∈a,x.2=k.2/\Sem x.1 (w++u)=true)->∃x∈a,x.2=k.2/\Sem x.1 (w'++u)=true:=by
   rintro w w' e ⟨x,b,c,h3⟩;refine⟨x,b,c,?_⟩;have:=e (kT x.1) (yD.2 ⟨x,xR.2 ⟨b,aN c⟩,rfl⟩);rw[dG (f x b).1,qZ]at h3⊢;rw[<-this];exact h3
  exact⟨g e,g fun x hx=>(e x hx).symm⟩
 rw[wB]at b;have c:=qK (k:=9) (cs:=(a.filter fun x=>tf (x.2=k.2)).map fun x=>kT x.1) fun x hx=>by
  exact qcq
 rw[xC]at c;have h3:=Nat.pow_le_pow_right (show 0<9 by omega) i;have:9 ^ 3=729:=by decide
 omega
structure ezO (ks out:List Kl):Prop where
 RG:pK ks out
 one:∀w,ks.countP (fun k=>Sem k.1 w)<=1
 len:∀k∈out,k.1.length<=729
 few:out.length<=4
theorem KX{n i:Nat}{c:St}(v:bC c)(r:zm c){a:List Kl}(h:eZ (nQ (bR n) (df n)) (c.2.take i)=some a):ezO a (a.foldl kJ []):=by
 have q:=ezy h;have A:=gP h;rw[List.length_take]at A;have hk:=r.k;have x:∀k∈a,∃z∈c.2,z.1=k.1:=fun k hk=>by
  have:k.1∈(c.2.take i).map (·.1):=by rw[<-q];exact yD.2 ⟨k,hk,rfl⟩
  obtain⟨z,o,j⟩:=yD.1 this;exact⟨z,xX o,j⟩
 have d:∀k∈a,bZ k.1/\k.1≠[]:=fun k hk=>by obtain⟨z,o,j⟩:=x k hk;rw[<-j];exact v.sets z o
 have B:∀k∈a,k.1.length<=8:=fun k hk=>by obtain⟨z,o,j⟩:=x k hk;rw[<-j];exact r.set z o
 have g:∀w,a.countP (fun k=>Sem k.1 w)<=1:=fun w=>by
  have e:=congrArg (fun l:List aK=>l.countP fun t=>Sem t w) q;have e:a.countP (fun k=>Sem k.1 w)=(c.2.take i).countP (fun k=>Sem k.1 w):=by simpa only[List.countP_map,Function.comp_def]using e
  have s:=(List.take_sublist i c.2).countP_le (p:=fun k:Kl=>Sem k.1 w);have:=v.once w;unfold CY at this;omega
 have U:=qL a [] [] zy d (by simpa using g);rw[xN]at U;refine⟨U,g,fun k m=>?_,?_⟩
 .by_cases j:a.length<=3
  .exact azj d U B j m
  .have C:(c.2.take i)=c.2:=xH zo;rw[C]at q;have u:=K3 (c:=c) (fs:=c.1) v rfl q;have b:=Pn (c:=c) (fs:=c.1) r rfl q;exact DN (c:=(c.1,a)) u U b.k b.set b.f b.lab m
 .have y:=Ap (fun _=>1) a [];rw[mr,qM,qM]at y;omega
theorem czp{q out:List Kl}(h:ezO q out):jV (fun k=>k∈out) F6 where
 iQ a b ha hb:=ny.iQ _ _ (h.RG.wV.sets a ha).1 (h.RG.wV.sets b hb).1
 nW a b ha hb:=ny.nW _ _ (h.RG.wV.sets a ha).1 (h.RG.wV.sets b hb).1
 tr a b d ha hb hd:=ny.tr _ _ _ (h.RG.wV.sets a ha).1 (h.RG.wV.sets b hb).1 (h.RG.wV.sets d hd).1
 eq a b ha hb:=by
  refine(ny.eq _ _ (h.RG.wV.sets a ha).1 (h.RG.wV.sets b hb).1).trans ⟨fun e=>?_,fun e=>by rw[e]⟩;obtain⟨w,m⟩:=FW (h.RG.wV.sets a ha).1 (h.RG.wV.sets a ha).2;obtain⟨x,A,v,o⟩:=(h.RG.KO a ha w).1 m;obtain⟨y,u,t,n⟩:=(h.RG.KO b hb w).1 (by rw[<-e];exact m);have one:=h.one w;have g:∀{l:List Kl},x∈l->y∈l->l.countP (fun k=>Sem k.1 w)<=1->x=y:=by
   intro l
   induction l with
   |nil=>intro h;simp at h
   |cons z l ih=>
    intro s r i;rw[List.countP_cons]at i;rcases yA.1 s with rfl|f<;>rcases yA.1 r with rfl|c
    .rfl
    .have:=List.countP_pos_iff (p:=fun k:Kl=>Sem k.1 w).2 ⟨y,c,n⟩;rw[zK o]at i;omega
    .have:=List.countP_pos_iff (p:=fun k:Kl=>Sem k.1 w).2 ⟨x,f,o⟩;rw[zK n]at i;omega
    .exact ih f c zo
  have j:=g A u one;exact Prod.ext e (by rw[<-v,<-t,j])
theorem Xi{d out:List Kl}(h:ezO d out):out.Nodup:=(List.Pairwise.of_map _ (fun a b c e=>c (by rw[e])) h.RG.wV.Fv)
theorem ezk{A B C:aK}(h:eP (fun w=>Sem A w||Sem B w) C):orT A B=C:=Iy h
theorem bzZ{A C:aK}(a:bZ A)(h:eP (fun w=>Sem A w||Sem [] w) C):C=A:=nu h ((jy a).congr fun w=>by rw[dG iy,gK];simp)
end Cl
namespace Cl
def vZ:aK:=[⟨true,[⟨0,96,1⟩,⟨97,97,2⟩,⟨98,255,1⟩]⟩,⟨true,[⟨0,255,1⟩]⟩,⟨false,[⟨0,255,1⟩]⟩]
theorem RO:vZ.length=3:=rfl
theorem OU(b:Nat)(h:b<256):cu vZ 0 b=if b=97 then 2 else 1:=by
 show bH [(⟨0,96,1⟩:Ed),⟨97,97,2⟩,⟨98,255,1⟩] b=_;simp only[bH]
 split
 .rw[zJ zo]
 .split
  .rw[zK zo]
  .rw[zK ⟨zo,zo⟩,zJ zo]
theorem dzu(b:Nat)(h:b<256):cu vZ 1 b=1:=by
 exact qhp
theorem dzt(b:Nat)(h:b<256):cu vZ 2 b=1:=by
 exact qhp
theorem YS:∀w,aH vZ 1 w=true
 |[]=>rfl
 |b::w=>by rw[aH,dzu _ b.toNat_lt];exact YS w
theorem dzv:∀w:List UInt8,aH vZ 2 w=decide (w≠[])
 |[]=>rfl
 |b::w=>by rw[aH,dzt _ b.toNat_lt,YS];simp
theorem ez0:∀w:List UInt8,aH vZ 0 w=decide (w≠[97])
 |[]=>rfl
 |b::w=>by
  rw[aH,OU _ b.toNat_lt];by_cases e:b.toNat=97
  .have e:b=97:=UInt8.toNat_inj.1 e;subst e;rw[zK (show UInt8.toNat 97=97 from rfl),dzv];simp
  .rw[zJ e,YS];have:b≠97:=fun h=>e qeH;simp[this]
theorem dzV{k:Nat}(h:3<=k)(b:Nat):cu vZ k b = -1:=iq vZ k b (by rw[RO];omega)
theorem YR:eP (fun w=>decide (w≠[97])) vZ:=by
 have a:∀k:Nat,k<vZ.length->k=0\/k=1\/k=2:=fun k h=>by rw[RO]at h;omega
 refine⟨⟨?_,?_,?_,?_,?_,?_,?_⟩,ez0⟩
 .intro s c;simp only[vZ,yA,List.not_mem_nil,or_false]at c;rcases c with rfl|rfl|rfl<;>simp[bT,vZ]
 .intro s c e d;simp only[vZ,yA,List.not_mem_nil,or_false]at c;rcases c with rfl|rfl|rfl<;>simp only[yA,List.not_mem_nil,or_false]at d
  .rcases d with rfl|rfl|rfl<;>exact⟨zS,zS⟩
  .subst d;exact⟨zS,zS⟩
  .subst d;exact⟨zS,zS⟩
 .intro s c;simp only[vZ,yA,List.not_mem_nil,or_false]at c;rcases c with rfl|rfl|rfl<;>simp[Merged]
 .intro k hk;rcases a k hk with rfl|rfl|rfl
  .exact⟨[],rfl⟩
  .exact⟨[],rfl⟩
  .exact⟨[0],by show aH vZ 2 [0]=true;rw[dzv];rfl⟩
 .intro i j hi n h;have l:=h [];have f:=h [97];rcases a i hi with rfl|rfl|rfl<;>rcases a j n with rfl|rfl|rfl<;>first|rfl|exact absurd l zD|exact absurd f zD
 .intro k b t g h m l f;by_cases hk:k<3
  .rcases(show k=0\/k=1\/k=2 by omega)with rfl|rfl|rfl
   .have h:cu vZ 0 b=t:=h;rw[OU b g]at h
    split at h
    .obtain rfl:m=1:=zo;exact⟨0,0,zo,.inr ⟨rfl,zo⟩,OU 0 zo⟩
    .omega
   .have h:cu vZ 1 b=t:=h;rw[dzu b g]at h;omega
   .have h:cu vZ 2 b=t:=h;rw[dzt b g]at h;omega
  .rw[dzV zo b]at h;omega
 .intro t l f;rw[RO]at f;rcases(show t=1\/t=2 by omega)with rfl|rfl
  .exact⟨0,0,zo,zo,OU 0 zo⟩
  .exact⟨0,97,zo,zo,OU 97 zo⟩
def FM:ByteArray:=⟨#[97]⟩
def opC(p:Int)(d:Vd):St:=([((FM,p),d)],[(vZ,(eX,eX))])
def Cg(p:Int)(d:Vd):Vl:=.mk false fe [] [opC p d]
theorem dzU(w:List UInt8):Sem vZ w=decide (w≠[97]):=by rw[dG YR.canon];exact YR.qp w
theorem Hm(p:Int)(d:Vd):bC (opC p d):=by
 refine⟨fun k hk=>?_,fun w=>?_⟩
 .simp only[opC,zZ]at hk;subst hk;exact⟨YR.canon,by simp[vZ]⟩
 .simp only[CY,opC,List.countP_cons,List.countP_nil,dzU,FM];by_cases h:w=[97]
  .subst h;rfl
  .have a:¬[97]=w:=fun e=>h e.symm;simp[h,a]
theorem SX{p:Int}(b:p=1\/p=2)(d:Vd):fI (opC p d).1:=⟨fun f a=>by
 simp only[opC,zZ]at a;subst a;exact b,fun i h=>by simp[opC]at h⟩
theorem ZH(p:Int)(d:Vd):bJ (opC p d)=[d,(eX,eX)]:=rfl
theorem PP(p:Int)(d:Vd):(Cg p d).kids=[d,(eX,eX)]:=rfl
theorem bz1{p:Int}(b:p=1\/p=2){d:Vd}{n:Nat}(f:ib (n+1) d.1)(e:ib (n+1) d.2):ib (n+2) (Cg p d):=by
 refine⟨⟨fun h=>by simp[Cg,Vl.any]at h,fun c h=>by simp[Cg,Vl.aJ]at h,fun c h=>?_,gD⟩,fun x a=>?_⟩
 .simp only[Cg,Vl.ay,zZ]at h;subst h;exact⟨SX b d,Hm p d⟩
 .rw[PP]at a;simp only[yA,List.not_mem_nil,or_false]at a;rcases a with rfl|rfl
  .exact⟨f,e⟩
  .exact⟨(wE n).1,(wE n).1⟩
theorem Pf(n:Nat):bR (n+1) eX=some eX:=by rw[bR,zK (show eX.any=true from rfl)]
theorem bz2{p:Int}{d:Vd}{n:Nat}(o:bR (n+1) d.1=some d.1)(m:bR (n+1) d.2=some d.2)(k:df (n+1) d.2 d.1)(j:iP d.1=false):bR (n+2) (Cg p d)=some (Cg p d):=by
 have e:fO (bR (n+1)) (df (n+1)) d=some d:=uw o m k;have ht:fO (bR (n+1)) (df (n+1)) (eX,eX)=some (eX,eX):=uw (Pf n) (Pf n) (NP n _);have i:kE (bR (n+1)) (df (n+1)) (opC p d)=some (opC p d,true):=by
  unfold kE;have t:eZ (sj (bR (n+1)) (df (n+1))) (opC p d).1=some (opC p d).1:=ug fun x a=>by
   simp only[opC,zZ]at a;subst a;unfold sj;rw[e];rfl
  have s:eZ (nQ (bR (n+1)) (df (n+1))) (opC p d).2=some (opC p d).2:=ug fun x a=>by
   simp only[opC,zZ]at a;subst a;unfold nQ;rw[ht];rfl
  rw[t,s];show some (((opC p d).1,eU F6 ((opC p d).2.foldl kJ [])),(opC p d).1.all fun f => !iP f.2.1)=_;have r:(opC p d).2.foldl kJ []=(opC p d).2:=by
   have:=IP (opC p d).2 [] qeG;exact qbe
  rw[r,GJ qeG];simp[opC,j]
 have c:mh (uE (df (n+1))) [opC p d]=[opC p d]:=La zS fun x a y b _=>by rw[zZ.1 a,zZ.1 b]
 have q:jC (n+1) (Cg p d) [] [opC p d]=Cg p d:=by
  unfold jC;rw[c]
  rfl
 have ev:¬J8 (Cg p d):=by
  rintro⟨x,y,h,_⟩;simp[Cg,Vl.aJ]at h
 rw[bR,zJ (by simp[Cg,Vl.any])];show(eZ (lC (bR (n+1)) (df (n+1))) []).bind (fun ls=>(eZ (kE (bR (n+1)) (df (n+1))) [opC p d]).map _)=_;rw[NH (g:=fun x=>(x,true)) (l:=[opC p d]) fun x a=>by rw[zZ.1 a];exact i];show some (if tf (J8 (jC (n+1) (Cg p d) [] [opC p d]))=true then eX else jC (n+1) (Cg p d) [] [opC p d])=some (Cg p d);rw[q,zJ qeB]
theorem ZG{p q:Int}{d e:Vd}{n:Nat}:df (n+2) (Cg p d) (Cg q e)↔Cg p d=Cg q e\/(p<=q/\pO (df (n+1)) d e):=by
 rw[df,zJ (by simp[Cg,Vl.any])];have c:uE (df (n+1)) (opC p d) (opC q e)↔p<=q/\pO (df (n+1)) d e:=by
  have j:ic (opC p d) FM=(d,p):=Bq (Hm p d) (f:=((FM,p),d)) qeG;have i:ic (opC q e) FM=(e,q):=Bq (Hm q e) (f:=((FM,q),e)) qeG;constructor
  .intro h;have:=h.fields ((FM,p),d) (.inl qeG);rw[j,i]at this;exact this
  .intro h;refine⟨fun f g=>?_,fun x a y b=>.inl ?_⟩
   .have:f.1.1=FM:=by rcases g with g|g<;>(simp only[opC,zZ]at g;subst g;rfl)
    rw[this,j,i];exact h
   .simp only[opC,zZ]at a b;subst a b;exact⟨NP n _,NP n _⟩
 constructor
 .rintro(h|⟨_,_,h⟩)
  .exact .inl h
  .obtain⟨y,b,k⟩:=h (opC p d) (by simp[Cg,Vl.ay]);have b:y=opC q e:=by simpa [Cg,Vl.ay]using b
   rw[b]at k;exact .inr (c.1 k)
 .rintro(h|h)
  .exact .inl h
  .refine .inr ⟨fun _ h=>h,fun x a=>by simp[Cg,Vl.aJ]at a,fun x a=>⟨opC q e,by simp[Cg,Vl.ay],?_⟩⟩;have a:x=opC p d:=by simpa [Cg,Vl.ay]using a
   rw[a];exact c.2 h
end Cl
namespace Cl
theorem Yu(op:List UInt8)(u:Int):(jc op u).i.length<=2/\(jc op u).rf.length<=2:=by
 have c:(Ch u).Le 1:=jP zS zS;have b:(J4 u).Le 1:=jP zS zS;have a:(F7 u).Le 1:=jP zS zS;have:(jc op u).Le 2:=by
  unfold jc
  repeat' split
  .exact c.mono zo
  .exact b.mono zo
  .exact rR b
  .exact rR c
  .exact a.mono zo
  .exact rR a
 exact⟨this.i,by rw[NS.sG];exact this.f⟩
end Cl
