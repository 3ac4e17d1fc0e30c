/- Lemmas for the proofs of chapter 11. -/
import Derived.Test.YtjhipmdamaocmaaGreatDoorPkN2
set_option maxRecDepth 100000
set_option maxHeartbeats 16000000
namespace Cl
def aO (p:Nat→Bool):List Nat:=(List.range 256).filter p
def loOf (c:List Nat) (i:Nat):Nat:=c.getD i 0
def hiOf (c:List Nat) (i:Nat):Nat:=if i+1<c.length then c.getD (i+1) 0 - 1 else 255
theorem jh {p:Nat→Bool} {i j:Nat} (hij:i<j) (hj:j<(aO p).length):(aO p).getD i 0<(aO p).getD j 0:=by
 have h:(aO p).Pairwise (·<·):=List.pairwise_lt_range.filter p;have:=List.pairwise_iff_getElem.1 h i j zo hj hij;simpa [hj,Nat.lt_trans hij hj] using this
theorem xV {p:Nat→Bool} {i:Nat} (hi:i<(aO p).length):(aO p).getD i 0<256∧p ((aO p).getD i 0)=true:=by
 have:(aO p).getD i 0∈aO p:=by simp[hi]
 simpa [aO] using this
theorem xU {p:Nat→Bool} {b:Nat} (hb:b<256) (hp:p b=true):∃j,j<(aO p).length∧(aO p).getD j 0=b:=by
 have:b∈aO p:=by simp[aO,hb,hp]
 obtain⟨j,hj,e⟩:=List.mem_iff_getElem.1 this;exact⟨j,hj,by simp[hj,e]⟩
theorem EB {p:Nat→Bool} (h0:p 0=true):Ivs (loOf (aO p)) (hiOf (aO p)) (aO p).length ∧
 ∀i,i<(aO p).length→∀b,loOf (aO p) i<b→b≤hiOf (aO p) i→p b=false:=by
 have hle:∀i,i<(aO p).length→loOf (aO p) i≤hiOf (aO p) i∧hiOf (aO p) i<256:=by
  intro i hi;unfold loOf hiOf;have:=xV hi
  split
  ·rename_i h;have:=jh (show i<i+1 by omega) h;have:=(xV h).1;omega
  ·omega
 refine ⟨⟨hle,?_,?_⟩,?_⟩
 ·intro i j hij hj;unfold loOf hiOf;rw[zI zo];have h1:=jh (show i<i+1 by omega) (show i+1<(aO p).length by omega);by_cases c:i+1=j
  ·subst c;omega
  ·have h2:=jh (p:=p) (show i+1<j by omega) hj;omega
 ·intro b
  induction b with
  | zero=>
   intro _;obtain⟨j,hj,e⟩:=xU zo h0
   exact⟨j,hj,by unfold loOf;omega,zo⟩
  | succ b ih=>
   intro hb;obtain⟨i,hi,h1,h2⟩:=ih zo;by_cases c:b+1≤hiOf (aO p) i
   ·exact⟨i,hi,zo,c⟩
   ·have e:hiOf (aO p) i=b:=zo;unfold hiOf at e
    split at e
    ·rename_i h;have:=jh (show i<i+1 by omega) h;have hh:=hle (i+1) h;have:loOf (aO p) (i+1)=b+1:=by unfold loOf;omega
     exact⟨i+1,h,zo,zo⟩
    ·omega
 ·intro i hi b h1 h2
  cases hp:p b with
  | false=>rfl
  | true=>
   have hb:b<256:=by have:=(hle i hi).2;omega
   obtain⟨j,hj,e⟩:=xU hb hp;unfold loOf at h1;have hij:i<j:=by
    rcases Nat.lt_trichotomy i j with c | c | c
    ·exact c
    ·subst c;omega
    ·have:=jh c hi;omega
   unfold hiOf at h2;rw[zI zo] at h2;have h3:=jh (show i<i+1 by omega) (show i+1<(aO p).length by omega);by_cases c:i+1=j
   ·subst c;omega
   ·have:=jh (p:=p) (show i+1<j by omega) hj;omega
theorem GL {es:List Ed} {a b:Nat} (hab:a≤b) (h:∀c,a<c→c≤b→∀e∈es,e.lo≠c∧e.hi+1≠c):aY es b=aY es a:=by
 induction es with
 | nil=>rfl
 | cons e es ih=>
  have ih:=ih fun c h1 h2 x hx=>h c h1 h2 x (by simp[hx]);simp only[aY];by_cases c:e.lo≤a∧a≤e.hi
  ·rw[zI c,zI];refine ⟨zo,?_⟩;apply Nat.le_of_not_lt;intro d;exact (h (e.hi+1) zo zo e zS).2 rfl
  ·rw[zH c];by_cases d:e.lo≤b∧b≤e.hi
   ·exfalso;by_cases f:e.lo≤a
    ·omega
    ·exact (h e.lo zo zo e zS).1 rfl
   ·rw[zH d];exact ih
theorem EN {es:List Ed} {b:Nat} (h:0≤aY es b):∃e∈es,e.to=aY es b:=by
 induction es with
 | nil=>simp[aY] at h
 | cons x es ih=>
  simp only[aY] at h ⊢
  split at h
  ·rename_i hc;exact⟨x,zS,by rw[zI hc]⟩
  ·rename_i hc;obtain⟨e,he,e2⟩:=ih h;exact⟨e,by simp[he],by rw[zH hc];exact e2⟩
def Marks (l:Table) (p:Nat→Bool):Prop:=p 0=true∧∀s∈l,∀e∈s.edges,∀b,b<256→(e.lo=b∨e.hi+1=b)→p b=true
theorem jG {l:Table} {p:Nat→Bool} (hp:Marks l p) {i b:Nat} (hi:i<(aO p).length) (h1:loOf (aO p) i≤b) (h2:b≤hiOf (aO p) i) (s:Int) :
 bD l s b=bD l s (loOf (aO p) i):=by
 obtain⟨hI,hg⟩:=EB hp.1;by_cases c:s<0
 ·rw[jl c,jl c]
 ·by_cases d:s<l.length
  ·obtain⟨k,rfl⟩:=zQ (by omega:0≤s);rw[dC l k _ zo,dC l k _ zo];apply GL h1;intro c hc1 hc2 e he;have hf:=hg i hi c hc1 zo;have hc256:c<256:=by have:=(hI.le i hi).2;omega
   refine ⟨fun e1=>?_,fun e1=>?_⟩
   ·rw[hp.2 _ (zB zo) e he c hc256 (.inl e1)] at hf;cases hf
   ·rw[hp.2 _ (zB zo) e he c hc256 (.inr e1)] at hf;cases hf
  ·rw[dV l s _ zo,dV l s _ zo]
def snk (n:Nat) (x:Int):Int:=if x<0 then n else x
theorem BL {l:Table} (_:WF l) (s:Int) (b:Nat) (w:List UInt8):aC l (snk l.length (bD l s b)) w=aC l (bD l s b) w:=by
 unfold snk
 split
 ·rename_i h;rw[fI l _ w (Int.le_refl _),bP h]
 ·rfl
theorem FK {l:Table} (hw:WF l) (s:Int) (b:Nat):0≤snk l.length (bD l s b)∧snk l.length (bD l s b)≤l.length:=by
 unfold snk;rcases dU hw s b with h | h
 ·rw[h];simp
 ·rw[zH zo];omega
theorem FI {l:Table} (hw:WF l) {p:Nat→Bool} (hp:Marks l p) :
 Fv l (l.length+1) (loOf (aO p)) (hiOf (aO p)) (aO p).length (fun s i=>snk l.length (bD l s (loOf (aO p) i))):=by
 refine ⟨(EB hp.1).1,fun s i hs hi=>?_,fun s i hs hi b h1 h2 w=>?_,fun s t i hs ht hi h=>?_⟩
 ·have:=FK hw s (loOf (aO p) i);omega
 ·rw[jG hp hi h1 h2,BL hw]
 ·have:=FK hw s (loOf (aO p) i);omega
def Lv (l:Table) (s:Int):Prop:=∃w,aC l s w=true
theorem Fp {l:Table} (hw:WF l) {p:Nat→Bool} (hp:Marks l p) {cls:List Int} (hc:uh l (l.length+1) cls) {lives:Nat→Bool}
 (hl:∀s:Nat,s<l.length+1→(lives (cls.getD s 0).toNat=true↔Lv l s)) {ac:Nat→Bool} (ha:∀s:Nat,s<l.length+1→ac s=bz l s) (h0:Lv l 0) :
 qh l (l.length+1) (fun s=>cls.getD s 0)
  (fun s i=>if lives (cls.getD (snk l.length (bD l s (loOf (aO p) i))).toNat 0).toNat=true then some (snk l.length (bD l s (loOf (aO p) i))).toNat else none)
  (loOf (aO p)) (hiOf (aO p)) ac (aO p).length:=by
 have R:=fun (s i:Nat)=>FK hw s (loOf (aO p) i);have E:=fun (s i:Nat)=>Int.toNat_of_nonneg (R s i).1;refine ⟨(EB hp.1).1,zo,fun s i t hs hi h=>?_,fun s i hs hi h b h1 h2 w=>?_,fun s t hs ht=>hc.eq s t hs ht,fun s hs=>ha s hs,h0⟩
 ·simp only[Option.ite_none_right_eq_some,Option.some.injEq] at h;obtain⟨h1,h2⟩:=h;have r:=R s i;have e:=E s i;have ht:t<l.length+1:=zo;rw[h2] at h1 e;refine ⟨ht,(hl t ht).1 h1,fun b b1 b2 w=>?_⟩;rw[jG hp hi b1 b2,← BL hw,← e]
 ·simp only[ite_eq_right_iff,reduceCtorEq,imp_false] at h;have r:=R s i;have e:=E s i;rw[jG hp hi h1 h2,← BL hw,← e];rw[hl _ zo] at h
  cases hx:aC l ((snk l.length (bD l s (loOf (aO p) i))).toNat:Int) w with
  | false=>rfl
  | true=>exact absurd ⟨w,hx⟩ h
def eY (l:Table) (lives:Nat→Bool):Table:=l.map fun s=>⟨s.accept,s.edges.filter fun e=>lives e.to.toNat⟩
theorem EO {n:Nat} {es:List Ed} {lives:Nat→Bool}:∀{p:Int},bF n p es→∀b,
 aY (es.filter fun e=>lives e.to.toNat) b=if 0≤aY es b∧lives (aY es b).toNat=true then aY es b else -1:=by
 induction es with
 | nil=>intro p _ b;simp[aY]
 | cons e es ih=>
  intro p ⟨h1,h2,h3,h4,h5⟩ b;have ih:=ih h5 b;rw[List.filter_cons];by_cases c:e.lo≤b∧b≤e.hi
  ·have hb:aY es b = -1:=ng h5 zo;simp only[aY,zI c]
   split
   ·rename_i hl;rw[zI ⟨h2,hl⟩];simp[aY,c]
   ·rename_i hl;rw[zH (fun h=>hl h.2),ih,hb];simp
  ·simp only[aY,zH c]
   split
   ·simp only[aY,zH c];exact ih
   ·exact ih
theorem yU {n:Nat} {es:List Ed} {q:Ed→Bool}:∀{p:Int},bF n p es→bF n p (es.filter q):=by
 induction es with
 | nil=>intro p _;trivial
 | cons e es ih=>
  intro p ⟨h1,h2,h3,h4,h5⟩;rw[List.filter_cons]
  split
  ·exact⟨h1,h2,h3,h4,ih h5⟩
  ·exact vT (ih h5) zo
theorem FE {l:Table} (hw:WF l) (lives:Nat→Bool):WF (eY l lives):=by
 intro s hs;obtain⟨x,hx,rfl⟩:=List.mem_map.1 hs;have:=yU (q:=fun e=>lives e.to.toNat) (hw x hx);simpa [eY] using this
theorem JJ {l:Table} (hw:Bytes l) (lives:Nat→Bool):Bytes (eY l lives):=by
 intro s hs;obtain⟨x,hx,rfl⟩:=List.mem_map.1 hs;intro e he;exact hw x hx e (List.mem_filter.1 he).1
theorem LH {l:Table} (hw:WF l) (lives:Nat→Bool) (s:Nat) (hs:s<l.length) (b:Nat) :
 bD (eY l lives) s b=if 0≤bD l s b∧lives (bD l s b).toNat=true then bD l s b else -1:=by
 rw[dC _ s b (by simpa [eY] using hs),dC l s b hs];simp only[eY,List.getElem_map];exact EO (hw _ (zB hs)) b
theorem vX {l:Table} (hw:WF l) {lives:Nat→Bool} (hl:∀s:Nat,s<l.length→(lives s=true↔Lv l s)):∀(w:List UInt8) (s:Int),aC (eY l lives) s w=aC l s w:=by
 have hlen:(eY l lives).length=l.length:=by simp[eY]
 intro w
 induction w with
 | nil=>
  intro s;simp only[aC];by_cases c:s<0
  ·simp[bz,c]
  ·by_cases d:s<l.length
   ·obtain⟨k,rfl⟩:=zQ (by omega:0≤s);rw[eZ _ k zo,eZ _ k zo];simp[eY]
   ·have h1:=fI (eY l lives) s [] zo;have h2:=fI l s [] zo;simp only[aC] at h1 h2
    rw[h1,h2]
 | cons b w ih=>
  intro s;simp only[aC];rw[ih];by_cases c:s<0
  ·rw[jl c,jl c]
  ·by_cases d:s<l.length
   ·obtain⟨k,rfl⟩:=zQ (by omega:0≤s);rw[LH hw lives k zo]
    split
    ·rfl
    ·rename_i hn;rw[bP zo];rcases dU hw k b.toNat with h | ⟨h1,h2⟩
     ·rw[h,bP zo]
     ·cases hx:aC l (bD l k b.toNat) w with
      | false=>rfl
      | true=>
       exfalso;apply hn;refine ⟨h1,(hl _ zo).2 ⟨w,?_⟩⟩;rw[Int.toNat_of_nonneg h1];exact hx
   ·rw[dV _ _ _ zo,dV _ _ _ zo]
theorem sS {l:Table} (hw:WF l) {p:Nat→Bool} (hp:Marks l p) (ht:∀s∈l,∀e∈s.edges,Lv l e.to) :
 Fv l l.length (loOf (aO p)) (hiOf (aO p)) (aO p).length (fun s i=>bD l s (loOf (aO p) i)):=by
 have hlive:∀(s:Nat) (b:Nat),0≤bD l s b→Lv l (bD l s b):=by
  intro s b h;by_cases c:s<l.length
  ·rw[dC l s b c] at h ⊢;obtain⟨e,he,e2⟩:∃e∈(l[s]).edges,e.to=aY (l[s]).edges b:=by
    generalize (l[s]).edges=es at h
    induction es with
    | nil=>simp[aY] at h
    | cons x es ih=>
     simp only[aY] at h ⊢
     split at h
     ·rename_i hc;exact⟨x,zS,by rw[zI hc]⟩
     ·rename_i hc;obtain⟨e,he,e2⟩:=ih h;exact⟨e,by simp[he],by rw[zH hc];exact e2⟩
   rw[← e2];exact ht _ (zB c) e he
  ·rw[dV l s b zo] at h;omega
 refine ⟨(EB hp.1).1,fun s i hs hi=>?_,fun s i hs hi b h1 h2 w=>?_,fun s t i hs ht' hi h hf=>?_⟩
 ·rcases dU hw s (loOf (aO p) i) with h | h <;> omega
 ·rw[jG hp hi h1 h2]
 ·rcases dU hw t (loOf (aO p) i) with h | ⟨h1,h2⟩
  ·exact h
  ·obtain⟨w,hw'⟩:=hlive t _ h1;rw[hf w] at hw';cases hw'
theorem Hz {l:Table} (hw:WF l) {p:Nat→Bool} (hp:Marks l p) (ht:∀s∈l,∀e∈s.edges,Lv l e.to) {cls:List Int} (hc:uh l l.length cls)
 {ac:Nat→Bool} (ha:∀s:Nat,s<l.length→ac s=bz l s) (h0:Lv l 0) (hpos:0<l.length) :
 qh l l.length (fun s=>cls.getD s 0)
  (fun s i=>if bD l s (loOf (aO p) i)<0 then none else some (bD l s (loOf (aO p) i)).toNat)
  (loOf (aO p)) (hiOf (aO p)) ac (aO p).length:=by
 have H:=sS hw hp ht;have hlive:∀(s:Nat) (i:Nat),s<l.length→i<(aO p).length→0≤bD l s (loOf (aO p) i)→Lv l (bD l s (loOf (aO p) i)):=by
  intro s i hs hi h;apply zN;intro hn;have hf:∀w,aC l (bD l s (loOf (aO p) i)) w=false:=fun w=>by
   cases hx:aC l (bD l s (loOf (aO p) i)) w with
   | false=>rfl
   | true=>exact absurd ⟨w,hx⟩ hn
  rw[dC l s _ hs] at h hn;obtain⟨e,he,e2⟩:∃e∈(l[s]).edges,e.to=aY (l[s]).edges (loOf (aO p) i):=by
   generalize (l[s]).edges=es at h
   induction es with
   | nil=>simp[aY] at h
   | cons x es ih=>
    simp only[aY] at h ⊢
    split at h
    ·rename_i hc;exact⟨x,zS,by rw[zI hc]⟩
    ·rename_i hc;obtain⟨e,he,e2⟩:=ih h;exact⟨e,by simp[he],by rw[zH hc];exact e2⟩
  rw[← e2] at hn;exact hn (ht _ (zB hs) e he)
 refine ⟨(EB hp.1).1,hpos,fun s i t hs hi h=>?_,fun s i hs hi h b h1 h2 w=>?_,fun s t hs ht=>hc.eq s t hs ht,fun s hs=>ha s hs,h0⟩
 ·split at h
  ·cases h
  ·rename_i hn;simp only[Option.some.injEq] at h;have r:=dU hw s (loOf (aO p) i);have e:((t:Nat):Int)=bD l s (loOf (aO p) i):=zo;refine ⟨zo,?_,fun b b1 b2 w=>?_⟩
   ·rw[e];exact hlive s i hs hi zo
   ·rw[jG hp hi b1 b2,← e]
 ·split at h
  ·rename_i hn;rw[jG hp hi h1 h2];exact bP hn w
  ·cases h
def gH (o:List Nat) (t:Nat):Nat:=dL (fun s=>(s:Int)) o t
def QM (o:List Nat) (s:Sn):Sn:=⟨s.accept,s.edges.map fun e=>⟨e.lo,e.hi,(gH o e.to.toNat:Int)⟩⟩
structure nD (l:Table) (o:List Nat) (k:Nat):Prop where
 first:o[0]?=some 0
 nodup:o.Nodup
 lt:∀x∈o,x<l.length
 le:k≤o.length
 there:∀j,(h:j<k)→(h':j<o.length)→∀s,l[o[j]]?=some s→∀e∈s.edges,e.to.toNat∈o
def iC (l:Table) (o:List Nat) (k:Nat):Table:=(o.take k).map fun x=>QM o (l.getD x ⟨false,[]⟩)
theorem Sc {o:List Nat} (h:o.Nodup):Dif (fun s=>(s:Int)) o:=by
 refine List.Pairwise.imp ?_ h;intro a b hab h';exact hab (by have h':(a:Int)=b:=h';omega)
theorem nY {o:List Nat} {t:Nat} (h:t∈o):∃hp:gH o t<o.length,o[gH o t]=t:=by
 have hp:gH o t<o.length:=List.findIdx_lt_length.2 ⟨t,h,zS⟩;refine ⟨hp,?_⟩;have:=nU (cf:=fun s=>(s:Int)) (o:=o) (t:=t) hp;have:((o[gH o t]:Nat):Int)=(t:Int):=this;omega
theorem GK {n:Nat} {o:List Nat} {es:List Ed}:∀{p:Int},bF n p es→∀b,
 aY (es.map fun e=>(⟨e.lo,e.hi,(gH o e.to.toNat:Int)⟩:Ed)) b=if aY es b<0 then -1 else (gH o (aY es b).toNat:Int):=by
 induction es with
 | nil=>intro p _ b;simp[aY]
 | cons e es ih=>
  intro p ⟨h1,h2,h3,h4,h5⟩ b;have ih:=ih h5 b;simp only[yG];by_cases c:e.lo≤b∧b≤e.hi
  ·have e1:aY (e::es) b=e.to:=by simp[aY,c]
   have e2:∀fs,aY (⟨e.lo,e.hi,(gH o e.to.toNat:Int)⟩::fs) b=(gH o e.to.toNat:Int):=fun fs=>by simp[aY,c]
   rw[e2];simp only[e1];rw[zH zo]
  ·have e1:aY (e::es) b=aY es b:=by simp only[aY];rw[zH c]
   have e2:∀fs,aY (⟨e.lo,e.hi,(gH o e.to.toNat:Int)⟩::fs) b=aY fs b:=fun fs=>by simp only[aY];rw[zH c]
   rw[e2];simp only[e1];exact ih
theorem BG {n m:Nat} {o:List Nat} {es:List Ed}:∀{p:Int},bF n p es→(∀e∈es,gH o e.to.toNat<m)→bF m p (es.map fun e=>(⟨e.lo,e.hi,(gH o e.to.toNat:Int)⟩:Ed)):=by
 induction es with
 | nil=>intro p _ _;trivial
 | cons e es ih=>
  intro p ⟨h1,h2,h3,h4,h5⟩ hm;exact⟨h1,zS,by have:=hm e zS;simp;omega,h4,ih h5 fun x hx=>hm x (by simp[hx])⟩
theorem Mm {l:Table} (hw:WF l) (hb:Bytes l) {o:List Nat} (h:nD l o o.length) :
 WF (iC l o o.length)∧Bytes (iC l o o.length)∧(iC l o o.length).length=o.length∧∀w,aC (iC l o o.length) 0 w=aC l 0 w:=by
 have hlen:(iC l o o.length).length=o.length:=by simp[iC]
 have hst:∀j,(hj:j<o.length)→(iC l o o.length)[j]'zo=QM o (l[o[j]]'(h.lt _ (zB hj))):=by
  intro j hj;have hx:=h.lt _ (zB hj);simp[iC,hx]
 have hed:∀j,(hj:j<o.length)→∀e∈(l[o[j]]'(h.lt _ (zB hj))).edges,e.to.toNat∈o:=by
  intro j hj e he;have hx:=h.lt _ (zB hj);exact h.there j hj hj _ (yC hx) e he
 have hlang:∀w,∀j,(hj:j<o.length)→aC (iC l o o.length) j w=aC l o[j] w:=by
  intro w
  induction w with
  | nil=>
   intro j hj;have hx:=h.lt _ (zB hj);simp only[aC];rw[eZ _ j zo,eZ _ _ hx,hst j hj]
   rfl
  | cons b w ih=>
   intro j hj;have hx:=h.lt _ (zB hj);simp only[aC];rw[dC _ j _ zo,dC _ _ _ hx,hst j hj];have hwj:=hw _ (zB hx);have:=GK (o:=o) hwj b.toNat;show aC _ (aY ((l[o[j]]).edges.map _) b.toNat) w=_;rw[this];rcases qI hwj b.toNat with e | ⟨e1,e2⟩
   ·rw[e];simp only[show (-1:Int)<0 by omega,if_true];rw[bP zo,bP zo]
   ·rw[zH zo];obtain⟨e,he,e3⟩:=EN e1;have hm:=hed j hj e he;rw[e3] at hm;obtain⟨hp,hg⟩:=nY hm;rw[ih _ hp,hg,Int.toNat_of_nonneg e1]
 have h0:0<o.length:=by
  have:=h.first
  cases o with
  | nil=>simp at this
  | cons _ _=>simp
 have ho0:o[0]=0:=by
  obtain⟨h1,e⟩:=List.getElem?_eq_some_iff.1 h.first;exact e
 refine ⟨?_,?_,hlen,fun w=>?_⟩
 ·intro s hs;obtain⟨j,hj,rfl⟩:=List.mem_iff_getElem.1 hs;rw[hlen] at hj;rw[hst j hj];refine BG (hw _ (zB _)) fun e he=>?_;rw[hlen];exact (nY (hed j hj e he)).1
 ·intro s hs;obtain⟨j,hj,rfl⟩:=List.mem_iff_getElem.1 hs;rw[hlen] at hj;rw[hst j hj];intro e he;obtain⟨x,hx,rfl⟩:=List.mem_map.1 he;exact hb _ (zB _) x hx
 ·have:=hlang w 0 h0;rw[ho0] at this;exact this
end Cl
namespace Cl
theorem uN {cf:Nat→Int} {o:List Nat} (h:Dif cf o):o.Nodup:=List.Pairwise.imp (fun hab e=>hab (by rw[e])) h
theorem lK {cf:Nat→Int} {o:List Nat} {N:Nat} (h:Dif cf o) (hl:∀x∈o,x<N):o.length≤N:=by
 have:=jS o (List.range N) (uN h) (fun x hx=>List.mem_range.2 (hl x hx));simpa using this
def posC (cf:Nat→Int) (o:List Nat) (c:Int):Nat:=o.findIdx fun s=>cf s==c
theorem Ga (cf:Nat→Int) (o:List Nat) (t:Nat):posC cf o (cf t)=dL cf o t:=rfl
theorem Pf (cf:Nat→Int) (o:List Nat) (t:Nat) (c:Int):posC cf (o ++ [t]) c=if posC cf o c<o.length then posC cf o c else if cf t=c then o.length else o.length+1:=by
 unfold posC;rw[List.findIdx_append]
 split
 ·rfl
 ·by_cases h:cf t=c
  ·simp[h]
  ·simp[h];omega
theorem Az {fs:List Ed} {e:Ed} {lo hi to:Nat} (h:¬ (e.to=to∧e.hi+1=lo)):jD (fs ++ [e]) lo hi to=(fs ++ [e]) ++ [⟨lo,hi,to⟩]:=by
 unfold jD;simp[h]
theorem Ay {fs:List Ed} {e:Ed} {lo hi to:Nat} (h:e.to=to∧e.hi+1=lo):jD (fs ++ [e]) lo hi to=fs ++ [⟨e.lo,hi,e.to⟩]:=by
 unfold jD;simp[h]
theorem Kb (es:List Ed) (lo hi to:Nat):(jD es lo hi to).length≤es.length+1:=by
 unfold jD
 split
 ·split <;> simp
 ·simp
theorem DI (cf:Nat→Int) (dl:Nat→Nat→Option Nat) (lo hi:Nat→Nat) (s:Nat) (o:List Nat):∀i,(bX cf dl lo hi s o i).2.length≤i:=by
 intro i
 induction i with
 | zero=>simp[bX]
 | succ i ih=>
  simp only[bX]
  split
  ·omega
  ·have:=Kb (bX cf dl lo hi s o i).2 (lo i) (hi i) (dL cf (bX cf dl lo hi s o i).1 (by assumption));simp only;omega
theorem Aq {cf:Nat→Int} {dl:Nat→Nat→Option Nat} {lo hi:Nat→Nat} {s:Nat} {o:List Nat} {i:Nat} (h:dl s i=none):bX cf dl lo hi s o (i+1)=bX cf dl lo hi s o i:=by simp[bX,h]
theorem Ap {cf:Nat→Int} {dl:Nat→Nat→Option Nat} {lo hi:Nat→Nat} {s:Nat} {o:List Nat} {i t:Nat} (h:dl s i=some t) :
 bX cf dl lo hi s o (i+1)=(dw cf (bX cf dl lo hi s o i).1 t,jD (bX cf dl lo hi s o i).2 (lo i) (hi i) (dL cf (bX cf dl lo hi s o i).1 t)):=by simp[bX,h]
theorem vH {cf:Nat→Int} {dl:Nat→Nat→Option Nat} {lo hi:Nat→Nat} {K N s:Nat} {o:List Nat} {i:Nat} {r:List Nat × List Ed} (h:Jw cf dl lo hi K N s o i r) (hN:N≤2000000) :
 ∀e∈r.2,e.lo<256∧e.hi<256 ∧ -9223372036854775808≤e.to∧e.to≤9223372036854775807:=by
 intro e he;have h1:=h.bytes e he;have h2:=eG h.wf e he;have h3:=lK h.dif h.lt;exact⟨h1.1,h1.2,zo,zo⟩
end Cl
