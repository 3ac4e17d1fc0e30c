/- Lemmas for the proofs of chapter 11. -/
import Derived.Test.YtdgjplfcpcphoaaGreatDoorPkE10
set_option maxRecDepth 100000
set_option maxHeartbeats 16000000
namespace Cl
structure ZN (v:Vl):Prop where
 sc:Yv v.s
 l:v.aU.length<=4
 s:v.aF.length<=4
 f:∀c∈v.aF,c.1.length<=6
 k:∀c∈v.aF,c.2.length<=6
 lab:∀c∈v.aF,∀f∈c.1,f.1.1.size<=40
 set:∀c∈v.aF,∀k∈c.2,jM k.1
def eT:Nat->Vl->Prop
 |0,_=>False
 |n+1,v=>ZN v/\∀x∈v.kids,eT n x.1/\eT n x.2
theorem eT.ht:∀{n:Nat} {v:Vl},eT n v->Ht n v
 |0,_,h=>h.elim
 |_+1,_,h=>fun x a=>⟨(h.2 x a).1.ht,(h.2 x a).2.ht⟩
theorem eT.succ:∀{n:Nat} {v:Vl},eT n v->eT (n+1) v
 |0,_,h=>h.elim
 |_+1,_,h=>⟨h.1,fun x a=>⟨(h.2 x a).1.succ,(h.2 x a).2.succ⟩⟩
theorem eT.mono{n m:Nat}{v:Vl}(h:eT n v)(k:n<=m):eT m v:=by
 induction k with
 |refl=>exact h
 |step _ ih=>exact ih.succ
structure Sr (n:Nat) (v:Vl):Prop where
 dw:dw n v<=80
 few:eT n v
theorem Qc{α:Type}{f:α->Nat}{l:List α}{x:α}(h:x∈l):f x<=(l.map f).sum:=by
 induction l with
 |nil=>simp at h
 |cons y l ih=>
  rcases yA.1 h with rfl|h
  .simp
  .have:=ih h;simp only[yL,vG];omega
theorem vJ{n:Nat}{v:Vl}{x:Vd}(a:x∈v.kids):dw n x.1+dw n x.2+1<=dw (n+1) v:=by
 have:=Qc (f:=fun x:Vd=>dw n x.1+dw n x.2) a;rw[dw];omega
theorem xz(n:Nat)(a:Bool):eT (n+1) (.mk a fI [] []):=
 ⟨⟨⟨by simp[Vl.s,fI],by simp[Vl.s,fI],by intro s c;simp[Vl.s,fI]at c,by simp[Vl.s,fI]⟩,by simp[Vl.aU],by simp[Vl.aF],by simp[Vl.aF],by simp[Vl.aF],by simp[Vl.aF],by simp[Vl.aF]⟩,
  fun x b=>by simp[Vl.kids,Vl.aU,Vl.aF]at b⟩
theorem Sr.sc{n:Nat}{v:Vl}(h:Sr (n+1) v):Yv v.s:=h.few.1.sc
theorem SY{c:St}(e:c.2.length<=6)(d:∀k∈c.2,jM k.1):(c.2.map fun k=>gH k.1).length<=6/\∀x∈c.2.map (fun k=>gH k.1),x.n<=8:=
 ⟨by rw[xC];exact e,fun x a=>by obtain⟨k,b,rfl⟩:=yD.1 a;exact(d k b).2⟩
theorem XN{c:St}(b:∀k∈c.2,dG k.1/\k.1≠[])(r:c.1.length<=6)(q:c.2.length<=6)(p:∀f∈c.1,f.1.1.size<=40)(o:∀k∈c.2,jM k.1){l:List (List Int)}(j:l.Nodup)(m:∀v∈l,kF (fO c) v):l.length<=1400000000:=by
 obtain⟨g,e⟩:=SY q o;have h:=FK (P:=c.2.map fun k:Kl=>gH k.1) (Q:=c.1.map fun f:Fd=>su f.1.1.data.toList) (k:=40) (fun x a=>by
  obtain⟨k,d,rfl⟩:=yD.1 a;exact EU (b k d).1 (b k d).2) (fun x a=>by
  obtain⟨f,n,rfl⟩:=yD.1 a;exact U1 (by rw[Array.length_toList];exact p f n)) j (fun v i=>m v i)
 exact yJ h (Ee g e (by rw[xC];exact r))
end Cl
namespace Cl
theorem SG(l:aC)(n:Nat){s:Int}(h:s<0):oQ l n s=[]:=by
 cases hx:oQ l n s with
 |nil=>rfl
 |cons a r=>
  have:=((lu l n s a).1 (by rw[hx];simp)).2;rw[dQ h]at this;cases this
def uO(l:aC)(n:Nat)(t:Int)(b:Nat):List (List UInt8):=(oQ l n t).map (UInt8.ofNat b::·)
def O4(l:aC)(n:Nat)(t:Int)(lo cnt:Nat):List (List UInt8):=(List.range' lo cnt).flatMap (uO l n t)
theorem O3(l:aC)(n:Nat)(t:Int)(lo:Nat):O4 l n t lo 0=[]:=rfl
theorem G9(l:aC)(n:Nat)(t:Int)(lo cnt:Nat):O4 l n t lo (cnt+1)=O4 l n t lo cnt++uO l n t (lo+cnt):=by
 unfold O4;rw[List.range'_concat,List.flatMap_append];simp
theorem Mk{l:aC}{n:Nat}{t:Int}(h:oQ l n t=[])(lo cnt:Nat):O4 l n t lo cnt=[]:=by
 unfold O4 uO;rw[h];simp
def yo(l:aC)(n:Nat)(es:List Ed):List (List UInt8):=es.flatMap fun e=>O4 l n e.to e.lo (e.hi+1-e.lo)
theorem wJ(l:aC)(n:Nat)(es:List Ed){i:Nat}(h:i<es.length):yo l n (es.take (i+1))=yo l n (es.take i)++O4 l n (es[i]).to (es[i]).lo ((es[i]).hi+1-(es[i]).lo):=by
 unfold yo;exact qb5
theorem flatMap_nil{α β:Type}{f:α->List β}:∀{l:List α},(∀x∈l,f x=[])->l.flatMap f=[]
 |[],_=>rfl
 |a::l,h=>by rw[xO,h a zS,flatMap_nil fun x hx=>h x qel];rfl
theorem nY{α β:Type}{f g:α->List β}:∀{l:List α},(∀x∈l,f x=g x)->l.flatMap f=l.flatMap g
 |[],_=>rfl
 |a::l,h=>by rw[xO,xO,h a zS,nY fun x hx=>h x qel]
theorem Tu{l:aC}{n N:Nat}:∀(es:List Ed) (q:Nat),bP N ((q:Int)-1) es->iX es->q<=256 ->
 (List.range' q (256-q)).flatMap (fun b=>uO l n (bv es b) b)=yo l n es
 |[],q,_,_,_=>flatMap_nil fun b _=>by
  show(oQ l n (-1)).map _=[]
  rw[SG l n zo];rfl
 |e::es,q,⟨h1,h2,h3,h4,h5⟩,hb,hq=>by
  have f:=hb e zS;have h:List.range' q (256-q)=List.range' q (e.lo-q)++(List.range' e.lo (e.hi+1-e.lo)++List.range' (e.hi+1) (256-(e.hi+1))):=by
   have i:List.range' e.lo (256-e.lo)=List.range' e.lo (e.hi+1-e.lo)++List.range' (e.hi+1) (256-(e.hi+1)):=by
    have:=List.range'_append_1 (s:=e.lo) (m:=e.hi+1-e.lo) (n:=256-(e.hi+1));rw[show e.lo+(e.hi+1-e.lo)=e.hi+1 by omega]at this;rw[this];congr 1;omega
   have d:=List.range'_append_1 (s:=q) (m:=e.lo-q) (n:=256-e.lo);rw[show q+(e.lo-q)=e.lo by omega]at d;rw[<-i,d];congr 1;omega
  rw[h,List.flatMap_append,List.flatMap_append];rw[flatMap_nil (l:=List.range' q (e.lo-q)) fun b a=>by
   have c:=List.mem_range'_1.1 a;have:bv (e::es) b = -1:=uw _ _ fun x hx j=>by
    rcases yA.1 hx with rfl|hx
    .omega
    .have:=(fP h5 x hx).1;omega
   show(oQ l n _).map _=[];rw[this,SG l n zo];rfl]
  rw[nY (l:=List.range' e.lo (e.hi+1-e.lo)) (g:=uO l n e.to) fun b a=>by
   have c:=List.mem_range'_1.1 a;show uO l n (bv (e::es) b) b=_;simp only[bv];rw[zK ⟨zo,zo⟩]]
  rw[nY (l:=List.range' (e.hi+1) (256-(e.hi+1))) (g:=fun b=>uO l n (bv es b) b) fun b a=>by
   have c:=List.mem_range'_1.1 a;show uO l n (bv (e::es) b) b=_;simp only[bv];rw[zJ zo]]
  rw[Tu es (e.hi+1) (by rw[show(((e.hi+1:Nat):Int)-1)=(e.hi:Int)by omega];exact h5) (fun x hx=>hb x qel) zo]
  rfl
theorem KS{l:aC}(c:WF l)(d:Bytes l){s:Nat}(a:s<l.length)(n:Nat):oQ l (n+1) (s:Int)=yo l n (l[s]).aH:=by
 have h:=Tu (l:=l) (n:=n) (l[s]).aH 0 (by have:=c l[s] (zF a);simpa using this) (d l[s] (zF a)) zo;rw[<-h];unfold oQ;rw[List.range_eq_range'];exact nY fun b _=>by rw[dW l s b a];rfl
def eB(l:aC)(n:Nat):List Bool:=(List.range l.length).map fun(s:Nat) => !(oQ l n (s:Int)).isEmpty
theorem wP(l:aC)(n:Nat):(eB l n).length=l.length:=by simp[eB]
theorem qA(l:aC)(n:Nat){s:Nat}(h:s<l.length):(eB l n)[s]?=some (!(oQ l n (s:Int)).isEmpty):=by simp[eB,h]
theorem Kv(l:aC):eB l 0=l.map (·.aZ):=by
 apply vF
 .simp[eB]
 .intro i b a;have hi:i<l.length:=by simpa using a
  simp only[eB,xQ,List.getElem_range];unfold oQ;rw[fJ l i hi];cases (l[i]).aZ<;>rfl
theorem Kj{l:aC}{n:Nat}{es:List Ed}{N:Nat}{p:Int}(c:bP N p es):(yo l n es=[])↔∀e∈es,oQ l n e.to=[]:=by
 constructor
 .intro h e a;have f:=fP c e a;unfold yo at h;have b:=List.flatMap_eq_nil_iff.1 h e a;unfold O4 at b;have d:=List.flatMap_eq_nil_iff.1 b e.lo (List.mem_range'_1.2 ⟨zI _,zo⟩);exact List.map_eq_nil_iff.1 d
 .intro h;exact flatMap_nil fun e a=>Mk (h e a) _ _
theorem Du{l:aC}(g:WF l)(k:Bytes l)(n:Nat):eB l (n+1)=l.map fun s=>s.aH.any fun e=>(eB l n).getD e.to.toNat false:=by
 apply vF
 .simp[eB]
 .intro i p m;have hi:i<l.length:=by simpa using m
  have o:(eB l (n+1))[i] = !(oQ l (n+1) (i:Int)).isEmpty:=by simp[eB]
  rw[o,xQ,KS g k hi,Bool.eq_iff_iff];have b:=g l[i] (zF hi);have d:∀e∈(l[i]).aH,(eB l n).getD e.to.toNat false=true↔oQ l n e.to≠[]:=by
   intro e c;have:=fP b e c;rw[yU,qA l n zo,xA,Int.toNat_of_nonneg this.2.2.1];simp
  rw[List.any_eq_true];constructor
  .intro h;have a:¬(yo l n (l[i]).aH=[]):=by simpa using h
   rw[Kj b]at a;apply zP;intro j;exact a fun e c=>zP fun f=>j ⟨e,c,(d e c).2 f⟩
  .rintro⟨e,c,f⟩;have:=(d e c).1 f;have a:¬(yo l n (l[i]).aH=[]):=fun h=>this ((Kj b).1 h e c);simpa using a
theorem Sd{l:aC}(h:dG l):∀t,t<l.length->∃u,vP l 0 u=t:=by
 intro t
 induction t using Nat.strongRecOn with
 |_ t ih=>
  intro ht;by_cases j:t=0
  .exact⟨[],by rw[j];rfl⟩
  .obtain⟨k,b,f,i,e⟩:=h.reach t zo ht;obtain⟨u,d⟩:=ih k f zo;obtain⟨c,g⟩:=byteOf b i;refine⟨u++[c],?_⟩;have:∀(u v:List UInt8) (s:Int),vP l s (u++v)=vP l (vP l s u) v:=by
    intro u v
    induction u with
    |nil=>intro s;rfl
    |cons a u ih=>intro s;exact ih _
   rw[this,d];show bC l k c.toNat=t;rw[g];exact e
theorem Sg{l:aC}(h:dG l){K n:Nat}(j:(kC l 0 n).length<K)(g:K*l.length<n):eB l (n-1)=List.replicate l.length false:=by
 apply vF
 .simp[eB]
 .intro i k e;have hi:i<l.length:=by simpa using e
  simp only[eB,xQ,List.getElem_range,List.getElem_replicate];rw[Bool.not_eq_false',List.isEmpty_iff];apply zP;intro b;obtain⟨y,c⟩:=List.exists_mem_of_ne_nil _ b;obtain⟨m,f⟩:=(lu _ _ _ _).1 c;obtain⟨u,d⟩:=Sd h i hi;have a:aK l 0 (u++y)=true:=by rw[oM,d];exact f
  have:=Dm a K qd4;have:=Kk (l:=l) (s:=0) (show K*l.length<=n by omega);omega
theorem V8{l:aC}(d:WF l)(g:Bytes l){n:Nat}(h:∀b∈eB l n,b=false):∀m,n<=m->∀b∈eB l m,b=false:=by
 intro m f
 induction f with
 |refl=>exact h
 |step _ ih=>
  rw[Du d g];intro b c;obtain⟨s,i,rfl⟩:=yD.1 c;rw[Bool.eq_false_iff];intro a;obtain⟨e,j,a⟩:=List.any_eq_true.1 a;rw[yU]at a
  cases hg:(eB l _)[e.to.toNat]? with
  |none=>rw[hg]at a;simp at a
  |some b=>
   rw[hg]at a;have:=ih b (List.mem_of_getElem? hg);rw[this]at a;simp at a
theorem VC{l:aC}(e:WF l)(f:Bytes l){n:Nat}(h:∀b∈eB l n,b=false):∀y,aK l 0 y=true->y.length<n:=by
 intro y a;apply zP;intro k;have g:=V8 e f h y.length zo;have j:=rG a;have i:0<l.length:=zo;have d:=g _ (List.mem_of_getElem? (qA l y.length i));have c:y∈oQ l y.length ((0:Nat):Int):=(lu _ _ _ _).2 ⟨rfl,a⟩;rw[Bool.not_eq_false',List.isEmpty_iff]at d;rw[d]at c;simp at c
end Cl
namespace Cl
def cb(A:aC)(s n:Nat):Bool := !(oQ A n (s:Int)).isEmpty
def f1(A:aC)(s n:Nat):Bool:=decide (n=0)&&cb A s 0
def f2(A:aC)(k s n:Nat):Bool:=decide (n<k)&&cb A s n
def f3(A:aC)(k t s n:Nat):Bool:=decide (n<k\/n=k/\s<t)&&cb A s n
def f4(A:aC)(k t:Nat)(es:List Ed)(s n:Nat):Bool:=f3 A k t s n||(decide (n=k/\s=t)&&es.any fun e=>cb A e.to.toNat (k-1))
end Cl
namespace Cl
mutual
def cnt:Dt->Nat
 |.mk _ _ _ i _ d=>1+azX i+azX d
def azX:List Dt->Nat
 |[]=>0
 |x::r=>cnt x+azX r
end
end Cl
namespace Cl
open Go Go.RowKit Go.Proofs
theorem O7(u:Nat):∀c∈Lib.decDigits u,c≠45:=by
 induction u using Nat.strongRecOn with
 |_ u ih=>
  have a:∀k,k<10->UInt8.ofNat (48+k)≠45:=fun k g e=>by
   have:(UInt8.ofNat (48+k)).toNat=48+k:=by simp;omega
   rw[e]at this;have f:(45:UInt8).toNat=45:=rfl;omega
  intro c b;by_cases h:u<10
  .rw[Lib.decDigits,dif_pos h]at b;simp only[zZ]at b;subst b;exact a u h
  .rw[Lib.decDigits,dif_neg h]at b;rcases yP.1 b with d|d
   .exact ih (u/10) zo c d
   .simp only[zZ]at d;subst d;exact a _ zo
theorem itoa_inj'{x y:Int}(h:Lib.itoa x=Lib.itoa y):x=y:=by
 unfold Lib.itoa at h
 split at h<;>split at h
 .simp only[List.cons.injEq,true_and]at h;exact qdQ
 .exact absurd rfl (O7 y.toNat 45 (by rw[<-h];simp))
 .exact absurd rfl (O7 x.toNat 45 (by rw[h];simp))
 .exact qdQ
theorem J8(x:Int):∀c∈Lib.itoa x,c≠44:=by
 unfold Lib.itoa
 split
 .intro c a;rcases yA.1 a with rfl|a
  .decide
  .exact(qy _).2 c a
 .exact(qy _).2
theorem txt_inj':∀(l a:List Int),txt l=txt a->l=a
 |[],[],_=>rfl
 |[],x::a,h=>by simp[txt]at h
 |x::l,[],h=>by simp[txt]at h
 |x::l,y::a,h=>by
  have h:Lib.itoa x++txt l=Lib.itoa y++txt a:=by simpa [txt]using h
  obtain⟨c,b⟩:=SX _ _ _ _ (J8 x) (J8 y) (Bq l) (Bq a) h;rw[itoa_inj' c,txt_inj' l a b]
def Ah(cs:List fA)(a:List (List Int))(v:List Int):Prop:=lF cs v=1/\∀b<256,eX cs v b∈a
structure Bd (cs:List fA) (seen todo:List (List Int)) (P:List Int->Prop):Prop where
 nodup:seen.Nodup
 reach:∀v∈seen,kF cs v
 start:ib cs∈seen
 sub:∀v∈todo,v∈seen
 done:∀v∈seen,v∈todo\/P v\/Ah cs seen v
theorem Ah.mono{cs:List fA}{c a:List (List Int)}{v:List Int}(h:Ah cs c v)(k:∀x∈c,x∈a):Ah cs a v:=⟨h.1,fun b d=>k _ (h.2 b d)⟩
theorem Bd.first(cs:List fA):Bd cs [ib cs] [ib cs] (fun _=>False) where
 nodup:=by simp
 reach v hv:=by rw[zZ.1 hv];exact .start cs
 start:=by simp
 sub v hv:=hv
 done v hv:=.inl hv
theorem Bd.take{cs:List fA}{a b todo':List (List Int)}{v:List Int}(h:Bd cs a b (fun _=>False))(ht:∀x,x∈b↔x∈todo'\/x=v):Bd cs a todo' (fun x=>x=v)/\v∈a:=
 ⟨⟨h.nodup,h.reach,h.start,fun x c=>h.sub x ((ht x).2 (.inl c)),fun x c=>by
  rcases h.done x c with k|k|k
  .exact((ht x).1 k).elim .inl fun e=>.inr (.inl e)
  .exact k.elim
  .exact .inr (.inr k)⟩,h.sub v ((ht v).2 (.inr rfl))⟩
theorem Bd.push{cs:List fA}{c f:List (List Int)}{P:List Int->Prop}(h:Bd cs c f P){x:List Int}(i:kF cs x)(hx:x ∉ c):Bd cs (c++[x]) (f++[x]) P where
 nodup:=by
  exact qca
 reach v hv:=(yP.1 hv).elim (h.reach v) fun k=>by rw[zZ.1 k];exact i
 start:=xI _ h.start
 sub v hv:=(yP.1 hv).elim (fun k=>xI _ (h.sub v k)) fun k=>xS _ k
 done v hv:=(yP.1 hv).elim (fun k=>(h.done v k).elim (fun j=>.inl (xI _ j)) fun j=>.inr (j.imp id fun d=>d.mono fun y g=>xI _ g)) fun k=>.inl (xS _ k)
theorem Bd.close{cs:List fA}{a b:List (List Int)}{v:List Int}(h:Bd cs a b (fun x=>x=v))(d:Ah cs a v):Bd cs a b (fun _=>False):=
 ⟨h.nodup,h.reach,h.start,h.sub,fun x c=>(h.done x c).imp id fun k=>.inr (k.elim (fun e=>by rw[e];exact d) id)⟩
theorem Bd.once{cs:List fA}{seen:List (List Int)}(h:Bd cs seen [] (fun _=>False)):sH cs:=by
 have hd:∀v∈seen,Ah cs seen v:=fun v hv=>by
  rcases h.done v hv with k|k|k
  .simp at k
  .exact k.elim
  .exact k
 exact qco
end Cl
