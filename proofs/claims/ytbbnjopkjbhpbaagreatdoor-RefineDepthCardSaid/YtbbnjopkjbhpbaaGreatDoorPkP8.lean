/- Lemmas for the proofs of chapter 11. -/
import Derived.Test.YtbbnjopkjbhpbaaGreatDoorPkP5
set_option maxRecDepth 100000
set_option maxHeartbeats 16000000
namespace Cl
open Go Go.RowKit Go.Proofs
theorem Ap.congr{T:aK}{N:Nat}{cf:Nat->Int}{dl c:Nat->Nat->Option Nat}{lo hi:Nat->Nat}{ac d:Nat->Bool}{K:Nat}(H:Ap T N cf dl lo hi ac K)
(h:∀s i,s<N->i<K->c s i=dl s i)(f:∀s,s<N->d s=ac s):Ap T N cf c lo hi d K:=
 ⟨H.iv,H.pos,fun s i t b a e=>H.some s i t b a (by rw[<-h s i b a];exact e),fun s i b a e=>H.none s i b a (by rw[<-h s i b a];exact e),H.cZ,fun s b=>(f s b).trans (H.acc s b),H.live⟩
noncomputable def SE(l:aK)(b:Nat):Bool:=tf (wD l b)
theorem Gd(l:aK):dN l 256=(bJ (SE l)).map Int.ofNat:=rfl
theorem Qv(l:aK):Marks l (SE l):=by
 refine⟨aM (.inl rfl),fun s a e c b _ h=>aM (.inr ⟨s,a,e,c,?_⟩)⟩;exact h
theorem M6(l:aK):czq (dN l 256) (qm (bJ (SE l))) (ez9 (bJ (SE l))):=by
 rw[Gd];refine⟨fun i h=>?_,fun i h=>?_⟩
 .have a:i<(bJ (SE l)).length:=by simpa using h
  simp[qm,a]
 .have a:i<(bJ (SE l)).length:=by simpa using h
  unfold JM ez9;by_cases c:i+1<(bJ (SE l)).length
  .have b:=lU (show i<i+1 by omega) c;rw[dif_pos qeH,zK c];simp only[xQ,yU,c,yH,xA]at b⊢;have:((bJ (SE l))[i+1]-1:Nat)=(((bJ (SE l))[i+1]:Nat):Int)-1:=zo;rw[this];rfl
  .rw[dif_neg qeH,zJ c];rfl
theorem JP(l:aK):(dN l 256).length=(bJ (SE l)).length:=by rw[Gd,xC]
def iB(l:aK)(a:List Int):List (List Int):=rU l a++[a.map fun _=>(l.length:Int)]
theorem qJ(l:aK)(a:List Int):(iB l a).length=l.length+1:=by simp[iB,rU]
theorem ezI{l:aK}(_:WF l){s i:Nat}(f:s<l.length+1)(hi:i<(bJ (SE l)).length):
 Gp (iB l (dN l 256)) s i=ZH l.length (bX l s (qm (bJ (SE l)) i)):=by
 have a:i<(dN l 256).length:=by rw[JP];exact hi
 have d:=(M6 l).lo i a;unfold Gp nx;by_cases c:s<l.length
 .have b:(iB l (dN l 256)).getD s []=qK l.length (dN l 256) (l[s]).bv:=by
   unfold iB rU;rw[yU,yK qeH];simp[c]
  rw[b];have e:(qK l.length (dN l 256) (l[s]).bv).getD i 0=Bf l.length (l[s]).bv ((dN l 256)[i]):=by simp[qK,a]
  rw[e,d,iT l s _ c];simp[Bf,ZH]
 .have:s=l.length:=zo;subst this;have b:(iB l (dN l 256)).getD l.length []=(dN l 256).map fun _=>(l.length:Int):=by
   unfold iB;rw[yU,yN (by simp[rU])];simp[rU]
  rw[b,gX l _ _ (xU _)];simp[ZH,a]
theorem JU{l:aK}(d:WF l)(n:l.length<=1000000):
 G7 l (dN l 256) (iB l (dN l 256)) (l.map (·.bU)++[false]) (qm (bJ (SE l))) (ez9 (bJ (SE l))):=by
 have e:=qJ l (dN l 256);have f:=PL d (Qv l);refine⟨?_,fun s a=>?_,by simp[e],fun r m=>?_,zo,Fe l 256,zo⟩
 .rw[e,JP];refine⟨f.iv,fun s i a hi=>?_,fun s i a hi b j g w=>?_,fun s t i a ht hi j g=>?_⟩
  .rw[ezI d a hi];exact f.iZ s i a hi
  .rw[ezI d a hi];exact f.step s i a hi b j g w
  .rw[ezI d a hi]at j;rw[ezI d ht hi]at g⊢;exact f.neg s t i a ht hi j g
 .rw[e]at a;by_cases c:s<l.length
  .rw[kT l s c,yU,yK qeH];simp[c]
  .have:s=l.length:=zo;subst this;rw[yU,yN zS];have:=kE l (l.length:Int) [] (xU _);simp only[aH]at this;simp[this]
 .rw[e];unfold iB at m;rcases yP.1 m with h|h
  .obtain⟨s,a,rfl⟩:=yD.1 h;exact⟨by simp[qK],fun x k=>by have:=BI (d s a) _ x k;omega⟩
  .simp only[zZ]at h;subst h;exact⟨zS,fun x k=>by obtain⟨y,-,rfl⟩:=yD.1 k;omega⟩
theorem Qy{T:aK}{j:List Int}{next:List (List Int)}{acc:List Bool}{lo hi:Nat->Nat}(H:G7 T j next acc lo hi){cZ:List Int}(A:KE T next.length cZ){s:Nat}(m:s<next.length):
 wB next acc cZ (cl cZ s)↔Lv T s:=by
 have g:∀t,t<next.length->∃r,nx next t=r/\r.length=j.length/\(∀x∈r,0<=x/\x<next.length):=fun t ht=>by
  refine⟨next[t],by simp[nx,ht],H.rows _ (zF ht)⟩
 have p:∀a b,a<next.length->b<next.length->cl cZ a=cl cZ b->NEq T a b:=fun a b F E e=>by
  refine(A.eq a b F E).1 ?_;unfold cl at e;have G:∀t,t<next.length->0<=cZ.getD t 0:=fun t ht=>by
   have D:t<cZ.length:=by rw[A.len];exact ht
   have:=(A.iZ cZ[t] (zF D)).1;simpa [D]using this
  have:=G a F;have:=G b E;omega
 constructor
 .intro h;have B:∀c,wB next acc cZ c->∀t,t<next.length->cl cZ t=c->Lv T t:=by
   intro c h
   induction h with
   |acc u hu h=>
    intro t ht e;have y:=p t u ht hu e;refine⟨[],(y []).trans ?_⟩;simp only[aH];rw[<-H.dz0 u hu]
    exact h
   |step u hu x hx _ ih=>
    intro t ht e;have y:=p t u ht hu e;obtain⟨r,o,n,l⟩:=g u hu;rw[o]at hx;have q:=l x hx;obtain⟨w,f⟩:=ih x.toNat zo rfl;obtain⟨i,d,I⟩:=yT.1 hx;have k:Gp next u i=x:=by
     unfold Gp;rw[o];simp[d,I]
    have z:=H.ta.iv.le i zo;obtain⟨C,v⟩:=byteOf (lo i) zo;refine⟨C::w,(y (C::w)).trans ?_⟩;simp only[aH];rw[v,H.ta.step u i hu zo (lo i) (zI _) z.1 w,k];have:((x.toNat:Nat):Int)=x:=zo;rw[<-this];exact f
  exact B _ h s m rfl
 .rintro⟨w,f⟩
  induction w generalizing s with
  |nil=>
   refine .acc s m ?_;simp only[aH]at f;have:=H.dz0 s m;unfold bt
   rw[this,f]
  |cons b w ih=>
   simp only[aH]at f;obtain⟨i,d,K,J⟩:=H.ta.iv.cover b.toNat b.toNat_lt;rw[H.ta.step s i m d _ K J w]at f;obtain⟨r,o,n,l⟩:=g s m;have k:Gp next s i=r[i]:=by
    unfold Gp;rw[o];simp[n,d]
   have q:=l r[i] (zF zo);rw[k]at f;have e:((r[i].toNat:Nat):Int)=r[i]:=zo;refine .step s m r[i] (by rw[o];exact zF zo) (ih zo ?_);rw[e];exact f
theorem R6{l:aK}(e:WF l)(d:l.length<=1000000){cZ:List Int}(g:KE l (iB l (dN l 256)).length cZ){lv:List Bool}
(f:∀c,bt lv c=true↔wB (iB l (dN l 256)) (l.map (·.bU)++[false]) cZ c)(k:bt lv (cl cZ 0)=true):
 Ap l (iB l (dN l 256)).length (fun s=>cZ.getD s 0) (dlN (iB l (dN l 256)) cZ lv) (qm (bJ (SE l))) (ez9 (bJ (SE l))) (fun s=>(l.map (·.bU)++[false]).getD s false) (dN l 256).length:=by
 have H:=JU e d;have j:=qJ l (dN l 256);have a:∀s:Nat,s<l.length+1->(bt lv (cZ.getD s 0).toNat=true↔Lv l s):=fun s b=>(f _).trans (Qy H g zo);have h:Lv l (0:Nat):=(a 0 zo).1 k;rw[j]at g⊢;rw[JP];refine(O4 e (Qv l) g a (ac:=fun s=>(l.map (·.bU)++[false]).getD s false) (fun s b=>H.dz0 s (by rw[j];exact b)) h).congr (fun s i b hi=>?_) (fun s b=>rfl);unfold dlN;rw[ezI e b hi]
 rfl
theorem OQ{l:aK}(d:WF l)(a:l.length<=1000000){cZ:List Int}(e:KE l (iB l (dN l 256)).length cZ){lv:List Bool}
(b:∀c,bt lv c=true↔wB (iB l (dN l 256)) (l.map (·.bU)++[false]) cZ c)(f:bt lv (cl cZ 0)=false):∀w,aH l 0 w=false:=by
 intro w;have H:=JU d a;have g:=qJ l (dN l 256)
 cases hx:aH l 0 w with
 |false=>rfl
 |true=>
  have:=(b _).2 ((Qy H e (s:=0) zo).2 ⟨w,hx⟩);rw[f]at this;cases this
theorem ZT{n:Nat}{es:List Ed}:∀{p:Int},bS n p es->iE es -> -1<=p->p<=255->(es.length:Int)+p<=255:=by
 induction es with
 |nil=>intro p _ _ c a;simp;exact a
 |cons e es ih=>
  intro p ⟨c,a,h3,h4,h5⟩ hb hp hp2;have b:=hb e zS;have:=ih h5 (fun x hx=>hb x qd8) zo zo;exact qdt
theorem Xk{l:aK}(b:WF l)(c:Bytes l):∀s∈l,s.bv.length<=256:=fun s a=>by
 have:=ZT (b s a) (c s a) zo zo;omega
end Cl
