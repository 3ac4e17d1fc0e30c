/- Lemmas. -/
import Derived.Test.YtbbnjopkjbhpbaaGreatDoorPkT5
set_option maxRecDepth 99999
set_option maxHeartbeats 9999999
namespace Cl
open Go Go.RowKit Go.Proofs
theorem zq.congr{T:aK}{N:Nat}{cf:Nat->Int}{dl c:Nat->Nat->Option Nat}{lo hi:Nat->Nat}{ac d:Nat->Bool}{K:Nat}(H:zq T N cf dl lo hi ac K)
(h:∀s i,s<N->i<K->c s i=dl s i)(f:∀s,s<N->d s=ac s):zq T N cf c lo hi d K:=
 ⟨H.iv,H.pos,fun s i t b a e=>H.some s i t b a (by rw[<-h s i b a];exact e),fun s i b a e=>H.none s i b a (by rw[<-h s i b a];exact e),H.cB,fun s b=>(f s b).trans (H.acc s b),H.live⟩
noncomputable def RH(l:aK)(b:Nat):Bool:=tf (vU l b)
theorem Fw(l:aK):dJ l 256=(bF (RH l)).map Int.ofNat:=rfl
theorem P9(l:aK):Marks l (RH l):=by
 refine⟨aN (.inl rfl),fun s a e c b _ h=>aN (.inr ⟨s,a,e,c,?_⟩)⟩;exact h
theorem Me(l:aK):bzr (dJ l 256) (pU (bF (RH l))) (xk (bF (RH l))):=by
 rw[Fw];refine⟨fun i h=>?_,fun i h=>?_⟩
 .have a:i<(bF (RH l)).length:=by simpa using h
  simp[pU,a]
 .have a:i<(bF (RH l)).length:=by simpa using h
  unfold Ja xk;by_cases c:i+1<(bF (RH l)).length
  .have b:=lw (show i<i+1 by omega) c;rw[dif_pos qeD,zK c];simp only[xQ,yU,c,yH,xA]at b⊢;have:((bF (RH l))[i+1]-1:Nat)=(((bF (RH l))[i+1]:Nat):Int)-1:=zo;rw[this];rfl
  .rw[dif_neg qeD,zJ c];rfl
theorem Jc(l:aK):(dJ l 256).length=(bF (RH l)).length:=by rw[Fw,xC]
def il(l:aK)(a:List Int):List (List Int):=uu l a++[a.map fun _=>(l.length:Int)]
theorem qy(l:aK)(a:List Int):(il l a).length=l.length+1:=by simp[il,uu]
theorem pF{l:aK}(_:WF l){s i:Nat}(f:s<l.length+1)(hi:i<(bF (RH l)).length):
 FH (il l (dJ l 256)) s i=YK l.length (cu l s (pU (bF (RH l)) i)):=by
 have a:i<(dJ l 256).length:=by rw[Jc];exact hi
 have d:=(Me l).lo i a;unfold FH nx;by_cases c:s<l.length
 .have b:(il l (dJ l 256)).getD s []=qz l.length (dJ l 256) (l[s]).bu:=by
   unfold il uu;rw[yU,yK qeD];simp[c]
  rw[b];have e:(qz l.length (dJ l 256) (l[s]).bu).getD i 0=AB l.length (l[s]).bu ((dJ l 256)[i]):=by simp[qz,a]
  rw[e,d,iW l s _ c];simp[AB,YK]
 .have:s=l.length:=zo;subst this;have b:(il l (dJ l 256)).getD l.length []=(dJ l 256).map fun _=>(l.length:Int):=by
   unfold il;rw[yU,yN (by simp[uu])];simp[uu]
  rw[b,iq l _ _ (xU _)];simp[YK,a]
theorem Jg{l:aK}(d:WF l)(n:l.length<=1000000):
 Gc l (dJ l 256) (il l (dJ l 256)) (l.map (·.bW)++[false]) (pU (bF (RH l))) (xk (bF (RH l))):=by
 have e:=qy l (dJ l 256);have f:=Ph d (P9 l);refine⟨?_,fun s a=>?_,by simp[e],fun r m=>?_,zo,Ew l 256,zo⟩
 .rw[e,Jc];refine⟨f.iv,fun s i a hi=>?_,fun s i a hi b j g w=>?_,fun s t i a ht hi j g=>?_⟩
  .rw[pF d a hi];exact f.iQ s i a hi
  .rw[pF d a hi];exact f.step s i a hi b j g w
  .rw[pF d a hi]at j;rw[pF d ht hi]at g⊢;exact f.neg s t i a ht hi j g
 .rw[e]at a;by_cases c:s<l.length
  .rw[lY l s c,yU,yK qeD];simp[c]
  .have:s=l.length:=zo;subst this;rw[yU,yN zS];have:=jZ l (l.length:Int) [] (xU _);simp only[aH]at this;simp[this]
 .rw[e];unfold il at m;rcases yP.1 m with h|h
  .obtain⟨s,a,rfl⟩:=yD.1 h;exact⟨by simp[qz],fun x k=>by have:=Bf (d s a) _ x k;omega⟩
  .simp only[zZ]at h;subst h;exact⟨zS,fun x k=>by obtain⟨y,-,rfl⟩:=yD.1 k;omega⟩
theorem Qd{T:aK}{j:List Int}{next:List (List Int)}{acc:List Bool}{lo hi:Nat->Nat}(H:Gc T j next acc lo hi){cB:List Int}(A:JN T next.length cB){s:Nat}(m:s<next.length):
 vS next acc cB (cl cB s)↔Lv T s:=by
 have g:∀t,t<next.length->∃r,nx next t=r/\r.length=j.length/\(∀x∈r,0<=x/\x<next.length):=fun t ht=>by
  refine⟨next[t],by simp[nx,ht],H.rows _ (zF ht)⟩
 have p:∀a b,a<next.length->b<next.length->cl cB a=cl cB b->NEq T a b:=fun a b F E e=>by
  refine(A.eq a b F E).1 ?_;unfold cl at e;have G:∀t,t<next.length->0<=cB.getD t 0:=fun t ht=>by
   have D:t<cB.length:=by rw[A.len];exact ht
   have:=(A.iQ cB[t] (zF D)).1;simpa [D]using this
  have:=G a F;have:=G b E;omega
 constructor
 .intro h;have B:∀c,vS next acc cB c->∀t,t<next.length->cl cB t=c->Lv T t:=by
   intro c h
   induction h with
   |acc u hu h=>
    intro t ht e;have y:=p t u ht hu e;refine⟨[],(y []).trans ?_⟩;simp only[aH];rw[<-H.czZ u hu]
    exact h
   |step u hu x hx _ ih=>
    intro t ht e;have y:=p t u ht hu e;obtain⟨r,o,n,l⟩:=g u hu;rw[o]at hx;have q:=l x hx;obtain⟨w,f⟩:=ih x.toNat zo rfl;obtain⟨i,d,I⟩:=yT.1 hx;have k:FH next u i=x:=by
     unfold FH;rw[o];simp[d,I]
    have z:=H.ta.iv.le i zo;obtain⟨C,v⟩:=byteOf (lo i) zo;refine⟨C::w,(y (C::w)).trans ?_⟩;simp only[aH];rw[v,H.ta.step u i hu zo (lo i) (zI _) z.1 w,k];have:((x.toNat:Nat):Int)=x:=zo;rw[<-this];exact f
  exact B _ h s m rfl
 .rintro⟨w,f⟩
  induction w generalizing s with
  |nil=>
   refine .acc s m ?_;simp only[aH]at f;have:=H.czZ s m;unfold bt
   rw[this,f]
  |cons b w ih=>
   simp only[aH]at f;obtain⟨i,d,K,J⟩:=H.ta.iv.cover b.toNat b.toNat_lt;rw[H.ta.step s i m d _ K J w]at f;obtain⟨r,o,n,l⟩:=g s m;have k:FH next s i=r[i]:=by
    unfold FH;rw[o];simp[n,d]
   have q:=l r[i] (zF zo);rw[k]at f;have e:((r[i].toNat:Nat):Int)=r[i]:=zo;refine .step s m r[i] (by rw[o];exact zF zo) (ih zo ?_);rw[e];exact f
theorem Rn{l:aK}(e:WF l)(d:l.length<=1000000){cB:List Int}(g:JN l (il l (dJ l 256)).length cB){lv:List Bool}
(f:∀c,bt lv c=true↔vS (il l (dJ l 256)) (l.map (·.bW)++[false]) cB c)(k:bt lv (cl cB 0)=true):
 zq l (il l (dJ l 256)).length (fun s=>cB.getD s 0) (dlN (il l (dJ l 256)) cB lv) (pU (bF (RH l))) (xk (bF (RH l))) (fun s=>(l.map (·.bW)++[false]).getD s false) (dJ l 256).length:=by
 have H:=Jg e d;have j:=qy l (dJ l 256);have a:∀s:Nat,s<l.length+1->(bt lv (cB.getD s 0).toNat=true↔Lv l s):=fun s b=>(f _).trans (Qd H g zo);have h:Lv l (0:Nat):=(a 0 zo).1 k;rw[j]at g⊢;rw[Jc];refine(Oz e (P9 l) g a (ac:=fun s=>(l.map (·.bW)++[false]).getD s false) (fun s b=>H.czZ s (by rw[j];exact b)) h).congr (fun s i b hi=>?_) (fun s b=>rfl);unfold dlN;rw[pF e b hi]
 rfl
theorem Oh{l:aK}(d:WF l)(a:l.length<=1000000){cB:List Int}(e:JN l (il l (dJ l 256)).length cB){lv:List Bool}
(b:∀c,bt lv c=true↔vS (il l (dJ l 256)) (l.map (·.bW)++[false]) cB c)(f:bt lv (cl cB 0)=false):∀w,aH l 0 w=false:=by
 intro w;have H:=Jg d a;have g:=qy l (dJ l 256)
 cases hx:aH l 0 w with
 |false=>rfl
 |true=>
  have:=(b _).2 ((Qd H e (s:=0) zo).2 ⟨w,hx⟩);rw[f]at this;cases this
theorem YT{n:Nat}{es:List Ed}:∀{p:Int},bT n p es->iN es -> -1<=p->p<=255->(es.length:Int)+p<=255:=by
 induction es with
 |nil=>intro p _ _ c a;simp;exact a
 |cons e es ih=>
  intro p ⟨c,a,h3,h4,h5⟩ hb hp hp2;have b:=hb e zS;have:=ih h5 (fun x hx=>hb x qd4) zo zo;exact qdn
theorem Wj{l:aK}(b:WF l)(c:Bytes l):∀s∈l,s.bu.length<=256:=fun s a=>by
 have:=YT (b s a) (c s a) zo zo;omega
end Cl
