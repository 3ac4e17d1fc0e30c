/- Lemmas for the proofs of chapter 11. -/
import Derived.Test.YtdgjplfcpcphoaaGreatDoorPkE5
set_option maxRecDepth 100000
set_option maxHeartbeats 16000000
namespace Cl
open Go Go.RowKit Go.Proofs
theorem rO.congr{T:aC}{N:Nat}{cf:Nat->Int}{dl c:Nat->Nat->Option Nat}{lo hi:Nat->Nat}{ac d:Nat->Bool}{K:Nat}(H:rO T N cf dl lo hi ac K)
(h:∀s i,s<N->i<K->c s i=dl s i)(f:∀s,s<N->d s=ac s):rO T N cf c lo hi d K:=
 ⟨H.iv,H.pos,fun s i t b a e=>H.some s i t b a (by rw[<-h s i b a];exact e),fun s i b a e=>H.none s i b a (by rw[<-h s i b a];exact e),H.bK,fun s b=>(f s b).trans (H.acc s b),H.live⟩
noncomputable def EX(l:aC)(b:Nat):Bool:=tf (nA l b)
theorem Es(l:aC):di l 256=(aY (EX l)).map Int.ofNat:=rfl
theorem wC(l:aC):Marks l (EX l):=by
 refine⟨aO (.inl rfl),fun s a e c b _ h=>aO (.inr ⟨s,a,e,c,?_⟩)⟩;exact h
theorem x8(l:aC):Sy (di l 256) (jF (aY (EX l))) (qF (aY (EX l))):=by
 rw[Es];refine⟨fun i h=>?_,fun i h=>?_⟩
 .have a:i<(aY (EX l)).length:=by simpa using h
  simp[jF,a]
 .have a:i<(aY (EX l)).length:=by simpa using h
  unfold Eo qF;by_cases c:i+1<(aY (EX l)).length
  .have b:=kZ (show i<i+1 by omega) c;rw[dif_pos qeQ,zK c];simp only[xQ,yU,c,yH,xA]at b⊢;have:((aY (EX l))[i+1]-1:Nat)=(((aY (EX l))[i+1]:Nat):Int)-1:=zo;rw[this];rfl
  .rw[dif_neg qeQ,zJ c];rfl
theorem sw(l:aC):(di l 256).length=(aY (EX l)).length:=by rw[Es,xC]
def iq(l:aC)(a:List Int):List (List Int):=sD l a++[a.map fun _=>(l.length:Int)]
theorem pG(l:aC)(a:List Int):(iq l a).length=l.length+1:=by simp[iq,sD]
theorem oK{l:aC}(_:WF l){s i:Nat}(f:s<l.length+1)(hi:i<(aY (EX l)).length):
 EA (iq l (di l 256)) s i=Wu l.length (bC l s (jF (aY (EX l)) i)):=by
 have a:i<(di l 256).length:=by rw[sw];exact hi
 have d:=(x8 l).lo i a;unfold EA nx;by_cases c:s<l.length
 .have b:(iq l (di l 256)).getD s []=pI l.length (di l 256) (l[s]).aH:=by
   unfold iq sD;rw[yU,yK qeQ];simp[c]
  rw[b];have e:(pI l.length (di l 256) (l[s]).aH).getD i 0=ym l.length (l[s]).aH ((di l 256)[i]):=by simp[pI,a]
  rw[e,d,dW l s _ c];simp[ym,Wu]
 .have:s=l.length:=zo;subst this;have b:(iq l (di l 256)).getD l.length []=(di l 256).map fun _=>(l.length:Int):=by
   unfold iq;rw[yU,yN (by simp[sD])];simp[sD]
  rw[b,fB l _ _ (xU _)];simp[Wu,a]
theorem Hr{l:aC}(d:WF l)(n:l.length<=1000000):
 Fb l (di l 256) (iq l (di l 256)) (l.map (·.aZ)++[false]) (jF (aY (EX l))) (qF (aY (EX l))):=by
 have e:=pG l (di l 256);have f:=M8 d (wC l);refine⟨?_,fun s a=>?_,by simp[e],fun r m=>?_,zo,pX l 256,zo⟩
 .rw[e,sw];refine⟨f.iv,fun s i a hi=>?_,fun s i a hi b j g w=>?_,fun s t i a ht hi j g=>?_⟩
  .rw[oK d a hi];exact f.ik s i a hi
  .rw[oK d a hi];exact f.step s i a hi b j g w
  .rw[oK d a hi]at j;rw[oK d ht hi]at g⊢;exact f.neg s t i a ht hi j g
 .rw[e]at a;by_cases c:s<l.length
  .rw[fJ l s c,yU,yK qeQ];simp[c]
  .have:s=l.length:=zo;subst this;rw[yU,yN zS];have:=iP l (l.length:Int) [] (xU _);simp only[aK]at this;simp[this]
 .rw[e];unfold iq at m;rcases yP.1 m with h|h
  .obtain⟨s,a,rfl⟩:=yD.1 h;exact⟨by simp[pI],fun x k=>by have:=Ab (d s a) _ x k;omega⟩
  .simp only[zZ]at h;subst h;exact⟨zS,fun x k=>by obtain⟨y,-,rfl⟩:=yD.1 k;omega⟩
theorem Oe{T:aC}{j:List Int}{next:List (List Int)}{acc:List Bool}{lo hi:Nat->Nat}(H:Fb T j next acc lo hi){bK:List Int}(A:sN T next.length bK){s:Nat}(m:s<next.length):
 uQ next acc bK (cl bK s)↔Lv T s:=by
 have g:∀t,t<next.length->∃r,nx next t=r/\r.length=j.length/\(∀x∈r,0<=x/\x<next.length):=fun t ht=>by
  refine⟨next[t],by simp[nx,ht],H.rows _ (zF ht)⟩
 have p:∀a b,a<next.length->b<next.length->cl bK a=cl bK b->NEq T a b:=fun a b F E e=>by
  refine(A.eq a b F E).1 ?_;unfold cl at e;have G:∀t,t<next.length->0<=bK.getD t 0:=fun t ht=>by
   have D:t<bK.length:=by rw[A.len];exact ht
   have:=(A.ik bK[t] (zF D)).1;simpa [D]using this
  have:=G a F;have:=G b E;omega
 constructor
 .intro h;have B:∀c,uQ next acc bK c->∀t,t<next.length->cl bK t=c->Lv T t:=by
   intro c h
   induction h with
   |acc u hu h=>
    intro t ht e;have y:=p t u ht hu e;refine⟨[],(y []).trans ?_⟩;simp only[aK];rw[<-H.ZM u hu]
    exact h
   |step u hu x hx _ ih=>
    intro t ht e;have y:=p t u ht hu e;obtain⟨r,o,n,l⟩:=g u hu;rw[o]at hx;have q:=l x hx;obtain⟨w,f⟩:=ih x.toNat zo rfl;obtain⟨i,d,I⟩:=yT.1 hx;have k:EA next u i=x:=by
     unfold EA;rw[o];simp[d,I]
    have z:=H.ta.iv.le i zo;obtain⟨C,v⟩:=byteOf (lo i) zo;refine⟨C::w,(y (C::w)).trans ?_⟩;simp only[aK];rw[v,H.ta.step u i hu zo (lo i) (zI _) z.1 w,k];have:((x.toNat:Nat):Int)=x:=zo;rw[<-this];exact f
  exact B _ h s m rfl
 .rintro⟨w,f⟩
  induction w generalizing s with
  |nil=>
   refine .acc s m ?_;simp only[aK]at f;have:=H.ZM s m;unfold bt
   rw[this,f]
  |cons b w ih=>
   simp only[aK]at f;obtain⟨i,d,K,J⟩:=H.ta.iv.cover b.toNat b.toNat_lt;rw[H.ta.step s i m d _ K J w]at f;obtain⟨r,o,n,l⟩:=g s m;have k:EA next s i=r[i]:=by
    unfold EA;rw[o];simp[n,d]
   have q:=l r[i] (zF zo);rw[k]at f;have e:((r[i].toNat:Nat):Int)=r[i]:=zo;refine .step s m r[i] (by rw[o];exact zF zo) (ih zo ?_);rw[e];exact f
theorem Pv{l:aC}(e:WF l)(d:l.length<=1000000){bK:List Int}(g:sN l (iq l (di l 256)).length bK){lv:List Bool}
(f:∀c,bt lv c=true↔uQ (iq l (di l 256)) (l.map (·.aZ)++[false]) bK c)(k:bt lv (cl bK 0)=true):
 rO l (iq l (di l 256)).length (fun s=>bK.getD s 0) (dlN (iq l (di l 256)) bK lv) (jF (aY (EX l))) (qF (aY (EX l))) (fun s=>(l.map (·.aZ)++[false]).getD s false) (di l 256).length:=by
 have H:=Hr e d;have j:=pG l (di l 256);have a:∀s:Nat,s<l.length+1->(bt lv (bK.getD s 0).toNat=true↔Lv l s):=fun s b=>(f _).trans (Oe H g zo);have h:Lv l (0:Nat):=(a 0 zo).1 k;rw[j]at g⊢;rw[sw];refine(MC e (wC l) g a (ac:=fun s=>(l.map (·.aZ)++[false]).getD s false) (fun s b=>H.ZM s (by rw[j];exact b)) h).congr (fun s i b hi=>?_) (fun s b=>rfl);unfold dlN;rw[oK e b hi]
 rfl
theorem Mm{l:aC}(d:WF l)(a:l.length<=1000000){bK:List Int}(e:sN l (iq l (di l 256)).length bK){lv:List Bool}
(b:∀c,bt lv c=true↔uQ (iq l (di l 256)) (l.map (·.aZ)++[false]) bK c)(f:bt lv (cl bK 0)=false):∀w,aK l 0 w=false:=by
 intro w;have H:=Hr d a;have g:=pG l (di l 256)
 cases hx:aK l 0 w with
 |false=>rfl
 |true=>
  have:=(b _).2 ((Oe H e (s:=0) zo).2 ⟨w,hx⟩);rw[f]at this;cases this
theorem WB{n:Nat}{es:List Ed}:∀{p:Int},bP n p es->iX es -> -1<=p->p<=255->(es.length:Int)+p<=255:=by
 induction es with
 |nil=>intro p _ _ c a;simp;exact a
 |cons e es ih=>
  intro p ⟨c,a,h3,h4,h5⟩ hb hp hp2;have b:=hb e zS;have:=ih h5 (fun x hx=>hb x qel) zo zo;exact qdC
theorem Cy{l:aC}(b:WF l)(c:Bytes l):∀s∈l,s.aH.length<=256:=fun s a=>by
 have:=WB (b s a) (c s a) zo zo;omega
end Cl
