/- Lemmas for the proofs of chapter 11. -/
import Derived.Test.YtdgjplfcpcphoaaGreatDoorPkE23
import Derived.Test.YtdgjplfcpcphoaaGreatDoorPkE11
set_option maxRecDepth 100000
set_option maxHeartbeats 16000000
namespace Cl
open Go Go.RowKit Go.Proofs
theorem LJ{o:List Nat}{bK:List Int}{t:Nat}(ht:t<bK.length):
 (let r:=firstIdx (fun y=>bK.getD y.toNat 0=bK[t]) (o.map Int.ofNat) 0;if r<0 then((o.map Int.ofNat).length:Int)else r)=(dN (fun s=>bK.getD s 0) o t:Nat):=by
 have a:bK.getD t 0=bK[t]:=by simp[ht]
 rcases nZ (fun y=>bK.getD y.toNat 0=bK[t]) (o.map Int.ofNat) 0 with⟨h1,h2⟩|⟨i,h1,h2,h3,h4⟩
 .simp only[h1];rw[zK zo];have d:¬dN (fun s=>bK.getD s 0) o t<o.length:=fun h=>by
   have:=rZ (cf:=fun s=>bK.getD s 0) h;exact h2 (Int.ofNat o[dN (fun s=>bK.getD s 0) o t]) (yD.2 ⟨_,zF h,rfl⟩) (by rw[<-a];exact this)
  have:=rY (fun s=>bK.getD s 0) o t;rw[xC];omega
 .simp only[h2];rw[zJ zo];have b:i<o.length:=by simpa using h1
  have:dN (fun s=>bK.getD s 0) o t=i:=by
   unfold dN;rw[List.findIdx_eq b];refine⟨?_,fun j c=>?_⟩
   .have:=h3;simp only[xQ]at this;exact beq_iff_eq.2 (by show bK.getD o[i] 0=bK.getD t 0;rw[a];exact this)
   .have:=h4 j qd4 c;simp only[xQ]at this;exact zO.2 (by show bK.getD o[j] 0≠bK.getD t 0;rw[a];exact this)
  rw[this];simp
theorem Jv{R:aC}(c:WF R){lv:Nat->Bool}(a:∀s:Nat,s<R.length->(lv s=true↔Lv R s)):∀s∈eY R lv,∀e∈s.aH,Lv (eY R lv) e.to:=by
 intro s f e g;obtain⟨x,d,rfl⟩:=yD.1 f;obtain⟨j,i⟩:=xR.1 g;have h:=gq (c x d) e j;obtain⟨w,b⟩:=(a e.to.toNat zo).1 i;refine⟨w,?_⟩;rw[CJ c a]
 rwa [Int.toNat_of_nonneg h.2.1]at b
def dlT(T:aC)(lo:Nat->Nat)(s i:Nat):Option Nat:=if bC T s (lo i)<0 then none else some (bC T s (lo i)).toNat
theorem Jc(o:List Nat):dO o=(o.map Int.ofNat).map (Value.int .i64):=by
 unfold dO;rw[vE]
 rfl
end Cl
namespace Cl
theorem MQ{n:Nat}{es:List Ed}:∀{p:Int},bP n p es->∀e∈es,bv es e.lo=e.to:=by
 induction es with
 |nil=>intro p _ e a;simp at a
 |cons x es ih=>
  intro p ⟨h1,h2,h3,h4,h5⟩ e a;simp only[bv];rcases yA.1 a with rfl|a
  .rw[zK ⟨zI _,h1⟩]
  .have:=(fP h5 e a).1;rw[zJ zo];exact ih h5 e a
def Yt(l:aC)(out:List Bool)(s:Nat):Prop:=(bB l s=true\/∃st,l[s]?=some st/\∃e∈st.aH,bt out e.to.toNat=true)->bt out s=true
def MN(l:aC)(out:List Bool):Prop:=∀s,s<l.length->Yt l out s
def Sz(l:aC)(out:List Bool):Prop:=∀s,bt out s=true->Lv l s
theorem EL{l:aC}(_:WF l){out:List Bool}(h:MN l out):∀(w:List UInt8) (s:Nat),aK l s w=true->bt out s=true:=by
 intro w
 induction w with
 |nil=>
  intro s a;simp only[aK]at a;by_cases c:s<l.length
  .exact h s c (.inl a)
  .have:=iP l (s:Int) [] zo;simp only[aK]at this
   rw[a]at this;cases this
 |cons b w ih=>
  intro s a;simp only[aK]at a;by_cases c:s<l.length
  .rw[dW l s _ c]at a;have d:0<=bv (l[s]).aH b.toNat:=by
    apply zP;intro i;rw[dQ zo]at a;cases a
   obtain⟨e,f,g⟩:=Ki d;refine h s c (.inr ⟨l[s],by simp[c],e,f,?_⟩);apply ih;rw[g,Int.toNat_of_nonneg d];exact a
  .rw[fB l _ _ zo,dQ zo]at a;cases a
theorem Y7{l:aC}(d:WF l)(i:Bytes l){s:Nat}{st:Sn}(g:l[s]?=some st){e:Ed}(c:e∈st.aH)(h:Lv l e.to):Lv l s:=by
 obtain⟨b,j⟩:=yB.1 g;subst j;obtain⟨w,a⟩:=h;obtain⟨u,f⟩:=byteOf e.lo (i _ (zF b) e c).1;refine⟨u::w,?_⟩;simp only[aK];rw[f,dW l s _ b,MQ (d _ (zF b)) e c];exact a
structure wU (l:aC) (out0 out:List Bool) (i:Nat) (C:List Bool->Prop):Prop where
 len:out.length=l.length
 sound:Sz l out
 keep:out=out0\/out0.count true<out.count true
 stay:MN l out0->out=out0
 part:out=out0->(∀s,s<i->Yt l out s)/\(C out->bt out i=true)
theorem Wl{l:aC}{a:List Bool}(c:a.length=l.length)(b:Sz l a):wU l a a 0 (fun _=>False):=
 ⟨c,b,.inl rfl,fun _=>rfl,fun _=>⟨fun s d=>zo,fun h=>h.elim⟩⟩
theorem Hg{out:List Bool}:∀{c:Nat},c<out.length->bt out c=false->(out.set c true).count true=out.count true+1:=by
 induction out with
 |nil=>intro c h;simp at h
 |cons b out ih=>
  intro c h hb
  cases c with
  |zero=>
   simp[bt]at hb;subst hb
   simp
  |succ c=>
   exact qb4
theorem Ni{out:List Bool}{i:Nat}(h:i<out.length):out.set i (bt out i)=out:=by
 rw[oU h];exact List.set_getElem_self _
theorem Pz{l:aC}{a out:List Bool}{i:Nat}{C C':List Bool->Prop}(H:wU l a out i C)(hi:i<l.length)(b:Bool)
(r:b=true->bB l i=true\/∃st,l[i]?=some st/\∃e∈st.aH,bt out e.to.toNat=true)(q:b=true->Lv l i)(u:C' out->C out\/b=true):
 wU l a (out.set i (bt out i||b)) i C':=by
 have d:i<out.length:=by rw[H.len];exact hi
 by_cases t:bt out i=false/\b=true
 .obtain⟨m,k⟩:=t;have j:=Hg d m;rw[m,k,Bool.false_or];have n:a.count true<=out.count true:=by
   rcases H.keep with h|h
   .rw[h];exact zI _
   .omega
  refine⟨by simp[H.len],fun s p=>?_,.inr zo,fun f=>?_,fun e=>?_⟩
  .by_cases c:s=i
   .subst c;exact q k
   .refine H.sound s ?_;simpa [bt,List.getElem?_set,show ¬i=s from fun e=>c e.symm]using p
  .have g:=H.stay f;have:=f i hi (by rw[<-g];exact r k);rw[<-g,m]at this;cases this
  .rw[<-e]at n;omega
 .have e:(bt out i||b)=bt out i:=by
   cases m:bt out i<;>cases k:b<;>simp_all
  rw[e,Ni d];refine⟨H.len,H.sound,H.keep,H.stay,fun g=>⟨(H.part g).1,fun o=>?_⟩⟩;rcases u o with h|h
  .exact(H.part g).2 h
  .rw[<-e,h];simp
theorem Yn{l:aC}{a out:List Bool}{i:Nat}{C:List Bool->Prop}(H:wU l a out i C)(hi:i<l.length)
(d:(bB l i=true\/∃st,l[i]?=some st/\∃e∈st.aH,bt out e.to.toNat=true)->C out):wU l a out (i+1) (fun _=>False):=
 ⟨H.len,H.sound,H.keep,H.stay,fun b=>⟨fun s f=>by
  by_cases c:s=i
  .subst c;exact fun h=>(H.part b).2 (d h)
  .exact(H.part b).1 s zo,fun h=>h.elim⟩⟩
structure wT (l:aC) (out:List Bool) (r:Nat):Prop where
 len:out.length=l.length
 sound:Sz l out
 prog:MN l out\/r<=out.count true
theorem Wm{l:aC}{a out:List Bool}{r:Nat}(d:wT l a r)(H:wU l a out l.length (fun _=>False)):wT l out (r+1):=by
 refine⟨H.len,H.sound,?_⟩;rcases H.keep with h|h
 .exact .inl fun s c=>(H.part h).1 s c
 .rcases d.prog with b|b
  .have:=H.stay b;rw[this]at h;omega
  .exact .inr zo
theorem ZL{l:aC}(e:WF l){out:List Bool}(H:wT l out l.length):∀s:Nat,s<l.length->(bt out s=true↔Lv l s):=by
 intro s f;refine⟨H.sound s,fun h=>?_⟩;obtain⟨w,d⟩:=h;rcases H.prog with c|c
 .exact EL e c w s d
 .have g:out.count true=out.length:=Nat.le_antisymm List.count_le_length (by rw[H.len];exact c);have b:=List.count_eq_length.1 g;have a:s<out.length:=by rw[H.len];exact f
  rw[oU a];exact(b _ (zF a)).symm
theorem Ym(l:aC):wT l (List.replicate l.length false) 0:=by
 refine⟨zS,fun s a=>?_,.inr (zG _)⟩;simp[bt,List.getElem?_replicate]at a
 split at a<;>simp at a
end Cl
namespace Cl
theorem ZG{A:aC}{s:Nat}(h:s<A.length):cb A s 0=(A[s]).aZ:=by
 have a:=qA A 0 h;rw[Kv]at a;simp[h]at a;unfold cb;rw[a]
theorem ZH{A:aC}(d:WF A)(g:Bytes A){s:Nat}(h:s<A.length)(n:Nat):cb A s (n+1)=(A[s]).aH.any fun e=>cb A e.to.toNat n:=by
 have f:=qA A (n+1) h;rw[Du d g n]at f;simp[h]at f;unfold cb;rw[<-f];rw[Bool.eq_iff_iff,List.any_eq_true,List.any_eq_true];constructor
 .rintro⟨e,b,c⟩;refine⟨e,b,?_⟩;have:=fP (d _ (zF h)) e b;have a:e.to.toNat<A.length:=zo;have i:=qA A n a;simp[eB]at i;simpa [eB,a]using c
 .rintro⟨e,b,c⟩;refine⟨e,b,?_⟩;have:=fP (d _ (zF h)) e b;have a:e.to.toNat<A.length:=zo;simpa [eB,a]using c
theorem bzr(A:aC)(s n:Nat):f1 A s n=f2 A 1 s n:=by
 unfold f1 f2;by_cases h:n=0
 .subst h;simp
 .simp[h]
theorem bzp(A:aC)(k s n:Nat):f2 A k s n=f3 A k 0 s n:=by simp[f2,f3]
theorem bzo(A:aC)(k s n:Nat)(h:s<A.length):f3 A k A.length s n=f2 A (k+1) s n:=by
 unfold f2 f3;have:(n<k\/n=k/\s<A.length)↔n<k+1:=zo;simp[this]
theorem bzn(A:aC)(k t s n:Nat):f3 A k t s n=f4 A k t [] s n:=by simp[f4]
theorem bzm{A:aC}(a:WF A)(c:Bytes A){k t:Nat}(d:1<=k)(h:t<A.length)(s n:Nat):f4 A k t (A[t]).aH s n=f3 A k (t+1) s n:=by
 obtain⟨k,rfl⟩:∃j,k=j+1:=⟨k-1,zo⟩;unfold f4;rw[Nat.add_sub_cancel,<-ZH a c h k];unfold f3;by_cases e:n=k+1/\s=t
 .obtain⟨rfl,rfl⟩:=e;simp
 .have:(n<k+1\/n=k+1/\s<t)↔(n<k+1\/n=k+1/\s<t+1):=zo;have b:decide (n<k+1\/n=k+1/\s<t)=decide (n<k+1\/n=k+1/\s<t+1):=decide_eq_decide.2 this;rw[b];simp[e]
theorem Zq(A:aC)(k t:Nat)(es:List Ed)(e:Ed)(s n:Nat):f4 A k t (es++[e]) s n=if s=t/\n=k then(f4 A k t es s n||cb A e.to.toNat (k-1))else f4 A k t es s n:=by
 unfold f4;by_cases h:s=t/\n=k
 .rw[zK h];obtain⟨rfl,rfl⟩:=h;simp[List.any_append,Bool.or_assoc]
 .rw[zJ h];have:¬(n=k/\s=t):=fun x=>h ⟨x.2,x.1⟩;simp[this]
theorem bzq{A:aC}{k s n:Nat}(h:n<k):f2 A k s n=cb A s n:=by simp[f2,h]
theorem azV{A:aC}{k t s n:Nat}{es:List Ed}(h:n<k):f4 A k t es s n=cb A s n:=by
 have:¬n=k:=zo;simp[f4,f3,h,this]
end Cl
namespace Cl
theorem M7{α:Type}{a b:List α}{n:Nat}(h:a <+: b)(d:n<=a.length):a.take n=b.take n:=by
 obtain⟨c,rfl⟩:=h;rw[List.take_append_of_le_length d]
theorem Zu(l:aC)(n:Nat)(t:Int)(lo:Nat){c d:Nat}(h:c<=d):O4 l n t lo c <+: O4 l n t lo d:=by
 induction d with
 |zero=>
  have:c=0:=zo
  subst this;exact qdM
 |succ d ih=>
  by_cases e:c=d+1
  .subst e;exact qdM
  .rw[G9];exact List.IsPrefix.trans (ih zo) (List.prefix_append _ _)
theorem Zr(l:aC)(n:Nat)(es:List Ed){i j:Nat}(h:i<=j)(a:j<=es.length):yo l n (es.take i) <+: yo l n (es.take j):=by
 induction j with
 |zero=>
  have:i=0:=zo
  subst this;exact qdM
 |succ j ih=>
  by_cases e:i=j+1
  .subst e;exact qdM
  .rw[wJ l n es (i:=j) zo];exact List.IsPrefix.trans (ih zo zo) (List.prefix_append _ _)
def EK(l:aC)(n:Nat)(es:List Ed)(i:Nat)(e:Ed)(c:Nat):List (List UInt8):=yo l n (es.take i)++O4 l n e.to e.lo c
theorem V3(l:aC)(n:Nat)(es:List Ed)(i:Nat)(e:Ed):EK l n es i e 0=yo l n (es.take i):=by simp[EK,O3]
theorem V4(l:aC)(n:Nat)(es:List Ed)(i:Nat)(e:Ed)(c:Nat):EK l n es i e (c+1)=EK l n es i e c++uO l n e.to (e.lo+c):=by
 simp[EK,G9]
theorem Ye(l:aC)(n:Nat)(es:List Ed){i:Nat}(h:i<es.length){c:Nat}(a:c<=(es[i]).hi+1-(es[i]).lo):EK l n es i es[i] c <+: yo l n (es.take (i+1)):=by
 rw[wJ l n es h];unfold EK;exact(List.prefix_append_right_inj _).2 (Zu l n _ _ a)
theorem Yf(l:aC)(n:Nat)(es:List Ed){i:Nat}(h:i<es.length):EK l n es i es[i] ((es[i]).hi+1-(es[i]).lo)=yo l n (es.take (i+1)):=by
 rw[wJ l n es h];rfl
theorem Jw{α:Type}{a b:List α}{n:Nat}(h:(a.take n).length<n):a.take n++b.take (n-(a.take n).length)=(a++b).take n:=by
 have:a.length<n:=by
  rw[List.length_take]at h;omega
 rw[xH zo,List.take_append,xH (l:=a) zo]
end Cl
