/- Lemmas for the proofs of chapter 11. -/
import Derived.Test.YtjhipmdamaocmaaGreatDoorPkN1
set_option maxRecDepth 100000
set_option maxHeartbeats 16000000
namespace Cl
theorem jS {α:Type} [DecidableEq α]:∀(l l':List α),l.Nodup→(∀x∈l,x∈l')→l.length≤l'.length:=by
 intro l
 induction l with
 | nil=>intro l' _ _;simp
 | cons a l ih=>
  intro l' hn hs;have hn:=List.nodup_cons.1 hn;have ha:a∈l':=hs a zS;have:=ih (l'.erase a) hn.2 fun x hx=>(List.mem_erase_of_ne (fun e=>hn.1 (by rw[← e];exact hx))).2 (hs x (by simp[hx]));have hl:=List.length_erase_of_mem ha;have hp:=List.length_pos_of_mem ha;simp only[yJ];omega
theorem LQ {a b:Nat} (f:Nat→Nat) (h:∀v,v<a→∃u,u<b∧f u=v):a≤b:=by
 have:=jS (List.range a) ((List.range b).map f) List.nodup_range (fun x hx=>by
  obtain⟨u,hu,e⟩:=h x (List.mem_range.1 hx);exact List.mem_map.2 ⟨u,List.mem_range.2 hu,e⟩)
 simpa using this
theorem Iu {a:Nat} (f:Nat→Nat) (h:∀v,v<a→∃u,u<a∧f u=v) {i j:Nat} (hi:i<a) (hj:j<a) (e:f i=f j):i=j:=by
 apply zN;intro hne;have:=jS (List.range a) (((List.range a).erase j).map f) List.nodup_range (fun x hx=>by
  obtain⟨u,hu,e'⟩:=h x (List.mem_range.1 hx);by_cases c:u=j
  ·subst c;exact List.mem_map.2 ⟨i,(List.mem_erase_of_ne hne).2 (List.mem_range.2 hi),by rw[e];exact e'⟩
  ·exact List.mem_map.2 ⟨u,(List.mem_erase_of_ne c).2 (List.mem_range.2 hu),e'⟩)
 rw[List.length_map,List.length_erase_of_mem (List.mem_range.2 hj),List.length_range] at this;omega
theorem Ep {α:Type}:∀{l:List α},l.Nodup→∀{i j:Nat} (hi:i<l.length) (hj:j<l.length),l[i]=l[j]→i=j:=by
 intro l hn i j hi hj e;have:=List.pairwise_iff_getElem.1 hn;rcases Nat.lt_trichotomy i j with c | c | c
 ·exact absurd e (this i j hi hj c)
 ·exact c
 ·exact absurd e.symm (this j i hj hi c)
def fq (f:Nat→List Int):Nat→List (List Int) × List Int
 | 0=>([],[])
 | k+1=>(if (fq f k).1.findIdx (·==f k)<(fq f k).1.length then (fq f k).1 else (fq f k).1 ++ [f k],(fq f k).2 ++ [((fq f k).1.findIdx (·==f k):Int)])
structure yw (f:Nat→List Int) (k:Nat) (r:List (List Int) × List Int):Prop where
 nodup:r.1.Nodup
 len:r.2.length=k
 le:r.1.length≤k
 at_:∀s,s<k→∃p:Nat,r.2[s]?=some (p:Int)∧r.1[p]?=some (f s)
 from_:∀p,(h:p<r.1.length)→∃s,s<k∧f s=r.1[p]
theorem Gd (f:Nat→List Int):∀k,yw f k (fq f k):=by
 intro k
 induction k with
 | zero=>exact⟨by simp[fq],rfl,by simp[fq],fun s h=>zo,fun p h=>by simp[fq] at h⟩
 | succ k ih=>
  have e:fq f (k+1)=(if (fq f k).1.findIdx (·==f k)<(fq f k).1.length then (fq f k).1 else (fq f k).1 ++ [f k],(fq f k).2 ++ [((fq f k).1.findIdx (·==f k):Int)]):=rfl;rw[e];generalize fq f k=r at *
  have hle:r.1.findIdx (·==f k)≤r.1.length:=List.findIdx_le_length;have hlen:=ih.len;by_cases c:r.1.findIdx (·==f k)<r.1.length
  ·rw[zI c];have hg:r.1[r.1.findIdx (·==f k)]=f k:=by
    have:=List.findIdx_getElem (p:=(·==f k)) (w:=c);simpa using this
   refine ⟨ih.nodup,by simp[hlen],by have:=ih.le;simp;omega,fun s hs=>?_,fun p h=>?_⟩
   ·by_cases d:s<k
    ·obtain⟨p,h1,h2⟩:=ih.at_ s d;exact⟨p,by rw[yF zo];exact h1,h2⟩
    ·have:s=k:=zo;subst this;exact⟨r.1.findIdx (·==f s),by rw[yI zo];simp[hlen],by simp[c,hg]⟩
   ·obtain⟨s,h1,h2⟩:=ih.from_ p h;exact⟨s,zo,h2⟩
  ·rw[zH c];have hnot:f k ∉ r.1:=fun hm=>c (List.findIdx_lt_length.2 ⟨f k,hm,zS⟩);refine ⟨?_,by simp[hlen],by have:=ih.le;simp;omega,fun s hs=>?_,fun p h=>?_⟩
   ·exact List.nodup_append.2 ⟨ih.nodup,zS,fun a ha b hb=>by
     simp only[zU] at hb;subst hb;exact fun e=>hnot (e ▸ ha)⟩
   ·by_cases d:s<k
    ·obtain⟨p,h1,h2⟩:=ih.at_ s d;refine ⟨p,by show (r.2 ++ _)[s]?=_;rw[yF zo];exact h1,?_⟩;have:p<r.1.length:=(List.getElem?_eq_some_iff.1 h2).1;show (r.1 ++ [f k])[p]?=_;rw[yF this];exact h2
    ·have:s=k:=zo;subst this;refine ⟨r.1.length,?_,zS⟩;show (r.2 ++ _)[s]?=_;rw[yI zo];simp[hlen];omega
   ·by_cases d:p<r.1.length
    ·obtain⟨s,h1,h2⟩:=ih.from_ p d;exact⟨s,zo,by show _=(r.1 ++ [f k])[p];rw[List.getElem_append_left d];exact h2⟩
    ·have h':p<(r.1 ++ [f k]).length:=h;have:p=r.1.length:=by simp at h';omega
     subst this;exact⟨k,zo,by show _=(r.1 ++ [f k])[r.1.length];simp⟩
theorem yw.eq_iff {f:Nat→List Int} {k:Nat} {r:List (List Int) × List Int} (h:yw f k r) {s t:Nat} (hs:s<k) (ht:t<k):r.2.getD s 0=r.2.getD t 0↔f s=f t:=by
 obtain⟨p,h1,h2⟩:=h.at_ s hs;obtain⟨q,h3,h4⟩:=h.at_ t ht;simp only[yP,h1,h3,Option.getD_some];refine ⟨fun e=>?_,fun e=>?_⟩
 ·have:p=q:=zo;subst this;rw[h2] at h4;simpa using h4
 ·obtain⟨p1,p2⟩:=List.getElem?_eq_some_iff.1 h2;obtain⟨q1,q2⟩:=List.getElem?_eq_some_iff.1 h4;have:=Ep h.nodup p1 q1 (by rw[p2,q2,e]);omega
theorem yw.rng {f:Nat→List Int} {k:Nat} {r:List (List Int) × List Int} (h:yw f k r) {s:Nat} (hs:s<k):0≤r.2.getD s 0∧r.2.getD s 0<r.1.length:=by
 obtain⟨p,h1,h2⟩:=h.at_ s hs;simp only[yP,h1,Option.getD_some];have:=(List.getElem?_eq_some_iff.1 h2).1;omega
theorem yw.surj {f:Nat→List Int} {k:Nat} {r:List (List Int) × List Int} (h:yw f k r) {v:Nat} (hv:v<r.1.length):∃s,s<k∧r.2.getD s 0=v:=by
 obtain⟨s,hs,e⟩:=h.from_ v hv;refine ⟨s,hs,?_⟩;obtain⟨p,h1,h2⟩:=h.at_ s hs;obtain⟨p1,p2⟩:=List.getElem?_eq_some_iff.1 h2;have:=Ep h.nodup p1 hv (by rw[p2,e]);simp[h1,this]
def sw (cls:List Int) (x:Int):Int:=if x<0 then x else cls.getD x.toNat 0
def sig (cls:List Int) (ta:Nat→Nat→Int) (K:Nat) (s:Nat):List Int:=cls.getD s 0::(List.range K).map fun i=>sw cls (ta s i)
structure Fv (T:Table) (N:Nat) (lo hi:Nat→Nat) (K:Nat) (ta:Nat→Nat→Int):Prop where
 iv:Ivs lo hi K
 rng:∀s i,s<N→i<K → -1≤ta s i∧ta s i<N
 step:∀s i,s<N→i<K→∀b,lo i≤b→b≤hi i→∀w,aC T (bD T s b) w=aC T (ta s i) w
 neg:∀s t i,s<N→t<N→i<K→ta s i = -1→(∀w,aC T (ta t i) w=false)→ta t i = -1
def NEq (T:Table) (s t:Nat):Prop:=∀w,aC T s w=aC T t w
structure uh (T:Table) (N:Nat) (cls:List Int):Prop where
 len:cls.length=N
 rng:∀x∈cls,0≤x∧x<N
 eq:∀s t,s<N→t<N→(cls.getD s 0=cls.getD t 0↔NEq T s t)
structure uV (T:Table) (N:Nat) (cls:List Int) (many:Nat):Prop where
 len:cls.length=N
 rng:∀s,s<N→0≤cls.getD s 0∧cls.getD s 0≤N
 coarse:∀s t,s<N→t<N→NEq T s t→cls.getD s 0=cls.getD t 0
 acc:∀s t,s<N→t<N→cls.getD s 0=cls.getD t 0→bz T s=bz T t
 cnt:many=0∨(∀s,s<N→cls.getD s 0<many)∧∀v,v<many→∃s,s<N∧cls.getD s 0=v
theorem DJ {T:Table} {N:Nat} {cls:List Int} (hN:1≤N) (hl:cls.length=N) (h:∀s,s<N→cls.getD s 0=if bz T s=true then 1 else 0):uV T N cls 0:=by
 refine ⟨hl,fun s hs=>?_,fun s t hs ht he=>?_,fun s t hs ht he=>?_,.inl rfl⟩
 ·rw[h s hs];split <;> omega
 ·rw[h s hs,h t ht];have:=he [];simp only[aC] at this;rw[this]
 ·rw[h s hs,h t ht] at he;cases h1:bz T s <;> cases h2:bz T t <;> simp[h1,h2] at he ⊢
theorem RY {T:Table} {N:Nat} {lo hi:Nat→Nat} {K:Nat} {ta:Nat→Nat→Int} (H:Fv T N lo hi K ta) {s t i:Nat} (hs:s<N) (ht:t<N) (hi':i<K) (he:NEq T s t) :
 ∀w,aC T (ta s i) w=aC T (ta t i) w:=by
 have hle:=H.iv.le i hi';intro w;rw[← H.step s i hs hi' (lo i) (zG _) hle.1 w,← H.step t i ht hi' (lo i) (zG _) hle.1 w];exact JY he (lo i) zo w
theorem DK {T:Table} {N:Nat} {lo hi:Nat→Nat} {K:Nat} {ta:Nat→Nat→Int} (H:Fv T N lo hi K ta) (hN:1≤N) {cls:List Int} {many:Nat} (hr:uV T N cls many) :
 uV T N (fq (sig cls ta K) N).2 (fq (sig cls ta K) N).1.length∧many≤(fq (sig cls ta K) N).1.length∧(fq (sig cls ta K) N).1.length≤N∧1≤(fq (sig cls ta K) N).1.length ∧
  ((fq (sig cls ta K) N).1.length=many→uh T N (fq (sig cls ta K) N).2):=by
 have hn:=Gd (sig cls ta K) N;generalize fq (sig cls ta K) N=r at *
 have hsame:∀s t,s<N→t<N→NEq T s t→sig cls ta K s=sig cls ta K t:=by
  intro s t hs ht he;unfold sig;rw[hr.coarse s t hs ht he]
  congr 1
  apply List.map_congr_left;intro i hi';have hi':=List.mem_range.1 hi';have ht':=RY H hs ht hi' he;have r1:=H.rng s i hs hi';have r2:=H.rng t i ht hi';unfold sw;by_cases c:ta s i<0
  ·have e1:ta s i = -1:=zo;have:=H.neg s t i hs ht hi' e1 (fun w=>by rw[← ht' w,e1];exact bP zo w);rw[e1,this]
  ·by_cases d:ta t i<0
   ·have e1:ta t i = -1:=zo;have:=H.neg t s i ht hs hi' e1 (fun w=>by rw[ht' w,e1];exact bP zo w);omega
   ·rw[zH c,zH d];obtain⟨x,hx⟩:=zQ (by omega:0≤ta s i);obtain⟨y,hy⟩:=zQ (by omega:0≤ta t i);rw[hx,hy] at ht' ⊢;exact hr.coarse x y zo zo ht'
 have hfine:∀s t,s<N→t<N→r.2.getD s 0=r.2.getD t 0→cls.getD s 0=cls.getD t 0∧∀i,i<K→sw cls (ta s i)=sw cls (ta t i):=by
  intro s t hs ht e;have e:=(hn.eq_iff hs ht).1 e;unfold sig at e;injection e with e1 e2;refine ⟨e1,fun i hi'=>?_⟩;have:=congrArg (fun l=>l[i]?) e2;simpa [hi'] using this
 have hmany:many≤r.1.length∧(r.1.length=many→∀s t,s<N→t<N→cls.getD s 0=cls.getD t 0→r.2.getD s 0=r.2.getD t 0):=by
  rcases hr.cnt with h0 | ⟨h1,h2⟩
  ·refine ⟨zo,fun e=>?_⟩;have:=(hn.rng (s:=0) zo).2;have:=(hn.rng (s:=0) zo).1;omega
  ·
   let g:Nat→Nat:=fun u=>if h:∃s,s<N∧r.2.getD s 0=u then (cls.getD h.choose 0).toNat else 0;have hg:∀s,s<N→g (r.2.getD s 0).toNat=(cls.getD s 0).toNat:=by
    intro s hs;have hex:∃s',s'<N∧r.2.getD s' 0=((r.2.getD s 0).toNat:Int):=⟨s,hs,by have:=(hn.rng hs).1;omega⟩;show (if h:∃s',s'<N∧r.2.getD s' 0=((r.2.getD s 0).toNat:Int) then (cls.getD h.choose 0).toNat else 0)=_;rw[dif_pos hex];have hc:=hex.choose_spec;have:=(hfine _ s hc.1 hs (by rw[hc.2];have:=(hn.rng hs).1;omega)).1;rw[this]
   have hs:∀v,v<many→∃u,u<r.1.length∧g u=v:=by
    intro v hv;obtain⟨s,hs,e⟩:=h2 v hv;have:=hn.rng hs;exact⟨(r.2.getD s 0).toNat,zo,by rw[hg s hs,e];simp⟩
   refine ⟨LQ g hs,fun e s t hs' ht' he=>?_⟩;rw[← e] at hs;have r1:=hn.rng hs';have r2:=hn.rng ht';have:=Iu g hs (i:=(r.2.getD s 0).toNat) (j:=(r.2.getD t 0).toNat) zo zo (by rw[hg s hs',hg t ht',he]);omega
 have hacc:∀s t,s<N→t<N→r.2.getD s 0=r.2.getD t 0→bz T s=bz T t:=fun s t hs ht e=>hr.acc s t hs ht (hfine s t hs ht e).1;refine ⟨⟨hn.len,fun s hs=>by have:=hn.rng hs;have:=hn.le;omega,fun s t hs ht he=>(hn.eq_iff hs ht).2 (hsame s t hs ht he),hacc,.inr ⟨fun s hs=>(hn.rng hs).2,fun v hv=>hn.surj hv⟩⟩,hmany.1,hn.le,?_,fun e=>?_⟩
 ·have:=hn.rng (s:=0) zo;omega
 ·have hst:=hmany.2 e;refine ⟨hn.len,fun x hx=>?_,fun s t hs ht=>⟨fun he=>?_,fun he=>(hn.eq_iff hs ht).2 (hsame s t hs ht he)⟩⟩
  ·obtain⟨s,h1,rfl⟩:=List.mem_iff_getElem.1 hx;have:=hn.rng (s:=s) (by rw[← hn.len];exact h1);have:=hn.le;simp only[yP,h1,yC,Option.getD_some] at *
   omega
  ·intro w
   induction w generalizing s t with
   | nil=>simp only[aC];exact hacc s t hs ht he
   | cons b w ih=>
    simp only[aC];obtain⟨i,hi',b1,b2⟩:=H.iv.cover b.toNat b.toNat_lt;rw[H.step s i hs hi' _ b1 b2 w,H.step t i ht hi' _ b1 b2 w];have r1:=H.rng s i hs hi';have r2:=H.rng t i ht hi';have hc:=(hfine s t hs ht he).2 i hi';unfold sw at hc;by_cases c:ta s i<0
    ·by_cases d:ta t i<0
     ·have e1:ta s i = -1:=zo;have e2:ta t i = -1:=zo;rw[e1,e2]
     ·rw[zI c,zH d] at hc;have:=(hr.rng (ta t i).toNat zo).1;omega
    ·by_cases d:ta t i<0
     ·rw[zH c,zI d] at hc;have:=(hr.rng (ta s i).toNat zo).1;omega
     ·rw[zH c,zH d] at hc;obtain⟨x,hx⟩:=zQ (by omega:0≤ta s i);obtain⟨y,hy⟩:=zQ (by omega:0≤ta t i);rw[hx,hy] at hc ⊢;exact ih x y zo zo (hst x y zo zo hc)
theorem O9 {T:Table} {N:Nat} {cls:List Int} {many:Nat} (hr:uV T N cls many) (hm:N≤many) (hN:1≤N):uh T N cls:=by
 rcases hr.cnt with h0 | ⟨h1,h2⟩
 ·omega
 ·have hle:many≤N:=LQ (fun s=>(cls.getD s 0).toNat) fun v hv=>by
   obtain⟨s,hs,e⟩:=h2 v hv;exact⟨s,hs,by rw[e];simp⟩
  have hmN:many=N:=zo;rw[hmN] at h1 h2;refine ⟨hr.len,fun x hx=>?_,fun s t hs ht=>⟨fun he=>?_,hr.coarse s t hs ht⟩⟩
  ·obtain⟨s,hs,rfl⟩:=List.mem_iff_getElem.1 hx;have hs':s<N:=by rw[← hr.len];exact hs
   have a:=hr.rng s hs';have b:=h1 s hs';simp only[yP,hs,yC,Option.getD_some] at *
   exact⟨a.1,b⟩
  ·have:=Iu (fun s=>(cls.getD s 0).toNat) (fun v hv=>by
    obtain⟨s,hs,e⟩:=h2 v hv;exact⟨s,hs,by show (cls.getD s 0).toNat=v;rw[e];simp⟩) hs ht (by rw[he])
   subst this;intro w;rfl
end Cl
namespace Cl
theorem dM:Canon []:=
 ⟨fun s hs=>by simp at hs,fun s hs=>by simp at hs,fun s hs=>by simp at hs,fun k hk=>by simp at hk,fun i j hi=>by simp at hi,fun k b t hb ht=>by
  rw[dV [] k b zS] at ht;omega,fun t h1 h2=>by simp at h2⟩
theorem cu (x:List UInt8):aC [] 0 x=false:=fI [] 0 x zS
def lex:List UInt8→List UInt8→Prop
 | [],[]=>False
 | [],_::_=>True
 | _::_,[]=>False
 | a::u,b::v=>a<b∨a=b∧lex u v
def slt (u v:List UInt8):Prop:=u.length<v.length∨u.length=v.length∧lex u v
theorem A7:∀u:List UInt8,¬ lex u u
 | [],h=>h
 | _::u,h=>h.elim (fun h=>by simp at h) (fun h=>A7 u h.2)
theorem OZ {a b c:UInt8} (h:a<b) (k:b<c):a<c:=UInt8.lt_trans h k
theorem Ew:∀{u v x:List UInt8},lex u v→lex v x→lex u x
 | [],[],_,h,_=>h.elim
 | [],_::_,[],_,k=>k.elim
 | [],_::_,_::_,_,_=>trivial
 | _::_,[],_,h,_=>h.elim
 | _::_,_::_,[],_,k=>k.elim
 | a::u,b::v,c::x,h,k=>by
  rcases h with h | ⟨rfl,h⟩
  ·rcases k with k | ⟨rfl,k⟩
   ·exact .inl (OZ h k)
   ·exact .inl h
  ·rcases k with k | ⟨rfl,k⟩
   ·exact .inl k
   ·exact .inr ⟨rfl,Ew h k⟩
theorem Ex:∀u v:List UInt8,lex u v∨u=v∨lex v u
 | [],[]=>.inr (.inl rfl)
 | [],_::_=>.inl trivial
 | _::_,[]=>.inr (.inr trivial)
 | a::u,b::v=>by
  rcases Nat.lt_trichotomy a.toNat b.toNat with h | h | h
  ·exact .inl (.inl (UInt8.lt_iff_toNat_lt.2 h))
  ·obtain rfl:a=b:=UInt8.toNat_inj.1 h;rcases Ex u v with h | h | h
   ·exact .inl (.inr ⟨rfl,h⟩)
   ·exact .inr (.inl (by rw[h]))
   ·exact .inr (.inr (.inr ⟨rfl,h⟩))
  ·exact .inr (.inr (.inl (UInt8.lt_iff_toNat_lt.2 h)))
theorem jb (u:List UInt8):¬ slt u u:=fun h=>h.elim (fun h=>zo) (fun h=>A7 u h.2)
theorem qX {u v x:List UInt8} (h:slt u v) (k:slt v x):slt u x:=by
 rcases h with h | ⟨h,h'⟩ <;> rcases k with k | ⟨k,k'⟩
 ·exact .inl zo
 ·exact .inl zo
 ·exact .inl zo
 ·exact .inr ⟨zo,Ew h' k'⟩
theorem nL (u v:List UInt8):slt u v∨u=v∨slt v u:=by
 rcases Nat.lt_trichotomy u.length v.length with h | h | h
 ·exact .inl (.inl h)
 ·rcases Ex u v with k | k | k
  ·exact .inl (.inr ⟨h,k⟩)
  ·exact .inr (.inl k)
  ·exact .inr (.inr (.inr ⟨h.symm,k⟩))
 ·exact .inr (.inr (.inl h))
theorem qY {u v:List UInt8} (h:slt u v) (k:slt v u):False:=jb u (qX h k)
structure gM (f:List UInt8→Bool) (k:Nat) (r:List (List UInt8)):Prop where
 sorted:r.Pairwise slt
 mem:∀x∈r,f x=true
 le:r.length≤k
 rest:∀y,f y=true→y ∉ r→r.length=k∧∀x∈r,slt x y
theorem RO {a b:List UInt8} (h:slt a b):a≠b:=fun e=>jb a (by rw[← e] at h;exact h)
theorem uy {r:List (List UInt8)} (h:r.Pairwise slt):r.Nodup:=h.imp RO
theorem Aj:∀{r t:List (List UInt8)},r.Pairwise slt→t.Pairwise slt→(∀x,x∈r↔x∈t)→r=t
 | [],[],_,_,_=>rfl
 | [],b::t,_,_,h=>absurd ((h b).2 zS) zS
 | a::r,[],_,_,h=>absurd ((h a).1 zS) zS
 | a::r,b::t,h1,h2,h=>by
  have k1:=List.pairwise_cons.1 h1;have k2:=List.pairwise_cons.1 h2;have e:a=b:=by
   rcases List.mem_cons.1 ((h a).1 zS) with h3 | h3
   ·exact h3
   ·rcases List.mem_cons.1 ((h b).2 zS) with h4 | h4
    ·exact h4.symm
    ·exact (qY (k2.1 a h3) (k1.1 b h4)).elim
  subst e;rw[Aj k1.2 k2.2 fun x=>?_];constructor
  ·intro hx;rcases List.mem_cons.1 ((h x).1 (zR _ hx)) with h3 | h3
   ·subst h3;exact (jb _ (k1.1 _ hx)).elim
   ·exact h3
  ·intro hx;rcases List.mem_cons.1 ((h x).2 (zR _ hx)) with h3 | h3
   ·subst h3;exact (jb _ (k2.1 _ hx)).elim
   ·exact h3
theorem EM {f:List UInt8→Bool} {k:Nat} {r t:List (List UInt8)} (h:gM f k r) (h':gM f k t):∀x∈r,x∈t:=by
 intro x hx;apply zN;intro hn;obtain⟨h1,h2⟩:=h'.rest x (h.mem x hx) hn;have hsub:∀y∈t,y∈r:=by
  intro y hy;apply zN;intro hm;obtain⟨-,h4⟩:=h.rest y (h'.mem y hy) hm;exact qY (h4 x hx) (h2 y hy)
 have hc:=jS (x::t) r (List.nodup_cons.2 ⟨hn,uy h'.sorted⟩) (by
  intro y hy;rcases List.mem_cons.1 hy with rfl | hy
  ·exact hx
  ·exact hsub y hy)
 have:=h.le;simp only[yJ] at hc;omega
theorem EL {f:List UInt8→Bool} {k:Nat} {r t:List (List UInt8)} (h:gM f k r) (h':gM f k t):r=t:=
 Aj h.sorted h'.sorted fun x=>⟨EM h h' x,EM h' h x⟩
theorem gM.congr {f g:List UInt8→Bool} {k:Nat} {r:List (List UInt8)} (h:gM f k r) (e:∀w,f w=g w):gM g k r:=by
 have:f=g:=funext e;rw[← this];exact h
def wex (l:Table):Nat→Int→List (List UInt8)
 | 0,s=>if bz l s then [[]] else []
 | n+1,s=>(List.range 256).flatMap fun b=>(wex l n (bD l s b)).map (UInt8.ofNat b::·)
theorem RF (b:UInt8):UInt8.ofNat b.toNat=b:=by simp
theorem jL (l:Table):∀(n:Nat) (s:Int) (w:List UInt8),w∈wex l n s↔w.length=n∧aC l s w=true
 | 0,s,w=>by
  unfold wex
  cases w with
  | nil=>by_cases h:bz l s=true <;> simp[h,aC]
  | cons a w=>by_cases h:bz l s=true <;> simp[h]
 | n+1,s,w=>by
  unfold wex;simp only[List.mem_flatMap,yL,zY];constructor
  ·rintro ⟨b,hb,v,hv,rfl⟩;obtain⟨h1,h2⟩:=(jL l n _ v).1 hv;refine ⟨by simp[h1],?_⟩;simp only[aC];rw[show (UInt8.ofNat b).toNat=b by simp;omega];exact h2
  ·rintro ⟨h1,h2⟩
   cases w with
   | nil=>simp at h1
   | cons b v=>
    refine ⟨b.toNat,b.toNat_lt,v,(jL l n _ v).2 ⟨by simpa using h1,h2⟩,by rw[RF]⟩
theorem qH {α:Type} {R:α→α→Prop} (f:Nat→List α):∀(l:List Nat),l.Pairwise (·<·)→(∀b∈l,(f b).Pairwise R)→(∀b∈l,∀c∈l,b<c→∀x∈f b,∀y∈f c,R x y)→(l.flatMap f).Pairwise R
 | [],_,_,_=>.nil
 | b::l,h,h1,h2=>by
  have k:=List.pairwise_cons.1 h;rw[List.flatMap_cons,List.pairwise_append];refine ⟨h1 b zS,qH f l k.2 (fun c hc=>h1 c (by simp[hc])) (fun c hc d hd=>h2 c (by simp[hc]) d (by simp[hd])),?_⟩;intro x hx y hy;obtain⟨c,hc,hy⟩:=List.mem_flatMap.1 hy;exact h2 b zS c (by simp[hc]) (k.1 c hc) x hx y hy
theorem sQ (l:Table):∀(n:Nat) (s:Int),(wex l n s).Pairwise slt
 | 0,s=>by
  unfold wex
  split <;> simp
 | n+1,s=>by
  unfold wex;refine qH _ _ List.pairwise_lt_range ?_ ?_
  ·intro b _;rw[List.pairwise_map];refine (sQ l n _).imp fun {u v} h=>?_;rcases h with h | ⟨h1,h2⟩
   ·exact .inl (by simp[h])
   ·exact .inr ⟨by simp[h1],.inr ⟨rfl,h2⟩⟩
  ·intro b hb c hc hbc x hx y hy;obtain⟨u,hu,rfl⟩:=List.mem_map.1 hx;obtain⟨v,hv,rfl⟩:=List.mem_map.1 hy;have h1:=((jL l n _ u).1 hu).1;have h2:=((jL l n _ v).1 hv).1;have hb:=List.mem_range.1 hb;have hc:=List.mem_range.1 hc;refine .inr ⟨by simp[h1,h2],.inl (UInt8.lt_iff_toNat_lt.2 ?_)⟩;simp only[UInt8.toNat_ofNat'];omega
def enum (l:Table) (s:Int) (L:Nat):List (List UInt8):=(List.range L).flatMap fun n=>wex l n s
theorem jP (l:Table) (s:Int) (L:Nat) (w:List UInt8):w∈enum l s L↔w.length<L∧aC l s w=true:=by
 unfold enum;simp only[List.mem_flatMap,yL,jL];exact⟨fun ⟨n,h1,h2,h3⟩=>⟨zo,h3⟩,fun ⟨h1,h2⟩=>⟨_,h1,rfl,h2⟩⟩
theorem xO (l:Table) (s:Int) (L:Nat):(enum l s L).Pairwise slt:=by
 refine qH _ _ List.pairwise_lt_range (fun b _=>sQ l b s) ?_;intro b _ c _ hbc x hx y hy;have h1:=((jL l _ _ _).1 hx).1;have h2:=((jL l _ _ _).1 hy).1;exact .inl zo
theorem xN (l:Table) (s:Int) (L:Nat):enum l s (L+1)=enum l s L ++ wex l L s:=by
 unfold enum;rw[List.range_succ,List.flatMap_append];simp
theorem o8 {l:Table} {s:Int} {L k:Nat} (h:k≤(enum l s L).length∨∀y,aC l s y=true→y.length<L):gM (aC l s) k ((enum l s L).take k):=by
 have hs:=xO l s L;refine ⟨hs.sublist (List.take_sublist _ _),fun x hx=>((jP l s L x).1 (List.mem_of_mem_take hx)).2,List.length_take_le _ _,?_⟩;intro y hy hn;by_cases hm:y∈enum l s L
 ·have hd:y∈(enum l s L).drop k:=by
   rw[← List.take_append_drop k (enum l s L)] at hm;rcases List.mem_append.1 hm with h1 | h1
   ·exact absurd h1 hn
   ·exact h1
  refine ⟨?_,fun x hx=>?_⟩
  ·rw[List.length_take];have:k<(enum l s L).length:=by
    apply zN;intro hk;rw[zO zo] at hd;simp at hd
   omega
  ·rw[← List.take_append_drop k (enum l s L),List.pairwise_append] at hs;exact hs.2.2 x hx y hd
 ·have hL:¬ y.length<L:=fun h1=>hm ((jP l s L y).2 ⟨h1,hy⟩);rcases h with h | h
  ·refine ⟨by rw[List.length_take];omega,fun x hx=>.inl ?_⟩;have:=((jP l s L x).1 (List.mem_of_mem_take hx)).1;omega
  ·exact absurd (h y hy) hL
def lg (l:Table):Int→List UInt8→Int
 | s,[]=>s
 | s,b::w=>lg l (bD l s b.toNat) w
theorem jO (l:Table):∀(u v:List UInt8) (s:Int),aC l s (u ++ v)=aC l (lg l s u) v
 | [],_,_=>rfl
 | _::u,v,_=>jO l u v _
theorem nC {l:Table} {s:Int} {w:List UInt8} (h:aC l s w=true):0≤s∧s<l.length:=by
 constructor
 ·apply zN;intro hn;rw[bP zo] at h;cases h
 ·apply zN;intro hn;rw[fI l s w zo] at h;cases h
theorem BJ {l:Table} {s:Int} {y:List UInt8} (h:aC l s y=true) (i:Nat):0≤lg l s (y.take i)∧lg l s (y.take i)<l.length:=by
 refine nC (w:=y.drop i) ?_;rw[← jO,List.take_append_drop];exact h
theorem pump {l:Table} {s:Int} {y:List UInt8} (h:aC l s y=true) (hn:l.length≤y.length):∃y',aC l s y'=true∧y'.length<y.length∧y.length≤y'.length+l.length:=by
 have hnd:¬ ((List.range (l.length+1)).map fun i=>(lg l s (y.take i)).toNat).Nodup:=by
  intro hnd;have:=jS _ (List.range l.length) hnd (by
   intro x hx;obtain⟨i,-,rfl⟩:=List.mem_map.1 hx;have:=BJ h i;rw[yL];omega)
  simp at this;omega
 have hex:∃i j,i<j∧j≤l.length∧lg l s (y.take i)=lg l s (y.take j):=by
  apply zN;intro hno;apply hnd;rw[List.Nodup,List.pairwise_map];refine (List.pairwise_lt_range (n:=l.length+1)).imp_of_mem fun {i j} hi hj hij e=>hno ⟨i,j,hij,?_,?_⟩
  ·have:=List.mem_range.1 hj;omega
  ·have h1:=BJ h i;have h2:=BJ h j;omega
 obtain⟨i,j,hij,hj,e⟩:=hex;refine ⟨y.take i ++ y.drop j,?_,?_,?_⟩
 ·rw[jO,e,← jO,List.take_append_drop];exact h
 ·simp;omega
 ·simp;omega
theorem window {l:Table} {s:Int} (t:Nat):∀(N:Nat) (y:List UInt8),y.length≤N→aC l s y=true→t≤y.length→∃y',aC l s y'=true∧t≤y'.length∧y'.length<t+l.length
 | 0,y,hN,h,ht=>⟨y,h,ht,by have:=nC h;omega⟩
 | N+1,y,hN,h,ht=>by
  by_cases hy:y.length<t+l.length
  ·exact⟨y,h,ht,hy⟩
  ·obtain⟨y',h1,h2,h3⟩:=pump h zo;exact window t N y' zo h1 zo
theorem EQ {l:Table} {s:Int} {L L':Nat} (h:L≤L'):(enum l s L).length≤(enum l s L').length:=by
 induction h with
 | refl=>exact zG _
 | step _ ih=>rw[xN,zJ];omega
theorem xP {l:Table} {s:Int} {y:List UInt8} (h:aC l s y=true):∀c,c*l.length≤y.length→c≤(enum l s (c*l.length)).length
 | 0,_=>zC _
 | c+1,hc=>by
  have e:(c+1)*l.length=c*l.length+l.length:=Nat.succ_mul _ _;have ih:=xP h c zo;obtain⟨y',h1,h2,h3⟩:=window (c*l.length) _ y (zG _) h zo;have h4:y'∈enum l s ((c+1)*l.length):=(jP _ _ _ _).2 ⟨zo,h1⟩;have h5:y' ∉ enum l s (c*l.length):=fun hm=>by have:=((jP _ _ _ _).1 hm).1;omega
  have:=jS (y'::enum l s (c*l.length)) (enum l s ((c+1)*l.length)) (List.nodup_cons.2 ⟨h5,uy (xO _ _ _)⟩) (by
   intro x hx;rcases List.mem_cons.1 hx with rfl | hx
   ·exact h4
   ·obtain⟨g1,g2⟩:=(jP _ _ _ _).1 hx;exact (jP _ _ _ _).2 ⟨zo,g2⟩)
  simp only[yJ] at this;omega
theorem Bh {l:Table} {s:Int} {k L:Nat} (hL:k*l.length≤L):gM (aC l s) k ((enum l s L).take k):=by
 apply o8;by_cases h:∃y,aC l s y=true∧L≤y.length
 ·obtain⟨y,h1,h2⟩:=h;have h3:=xP h1 k zo;exact .inl (yE h3 (EQ hL))
 ·exact .inr fun y hy=>by
   apply zN;intro hn;exact h ⟨y,hy,zo⟩
end Cl
namespace Cl
def fT (f:List UInt8→Bool):Option (List UInt8)→Prop
 | none=>∀y,f y=false
 | some x=>f x=true∧∀y,f y=true→y=x∨slt x y
theorem xq {f:List UInt8→Bool} {r:List (List UInt8)} (h:gM f 1 r):fT f r.head?:=by
 cases r with
 | nil=>
  intro y
  cases hy:f y with
  | false=>rfl
  | true=>have:=(h.rest y hy zS).1;simp at this
 | cons x r=>
  refine ⟨h.mem x zS,fun y hy=>?_⟩;by_cases hm:y∈x::r
  ·have:=h.le;simp only[yJ] at this;have hr:r=[]:=yH zo;subst hr;exact .inl (by simpa using hm)
  ·exact .inr ((h.rest y hy hm).2 x zS)
theorem fT.congr {f g:List UInt8→Bool} {a:Option (List UInt8)} (h:fT f a) (e:∀w,f w=g w):fT g a:=by
 have:f=g:=funext e;rw[← this];exact h
inductive gX (f g:List UInt8→Bool):Int→Prop where
 | same (h:∀w,f w=g w):gX f g 0
 | lt (x:List UInt8) (h1:f x=true) (h2:g x=false) (h3:∀y,slt y x→f y=g y):gX f g (-1)
 | gt (x:List UInt8) (h1:f x=false) (h2:g x=true) (h3:∀y,slt y x→f y=g y):gX f g 1
theorem Bn {f g:List UInt8→Bool} {c d:Int} (h:gX f g c) (k:gX f g d):c=d:=by
 cases h with
 | same h=>
  cases k with
  | same=>rfl
  | lt x a b _=>rw[h x,b] at a;cases a
  | gt x a b _=>rw[h x,b] at a;cases a
 | lt x a b e=>
  cases k with
  | same h=>rw[h x,b] at a;cases a
  | lt=>rfl
  | gt y a' b' e'=>
   rcases nL x y with q | q | q
   ·have:=e' x q;rw[a,b] at this;cases this
   ·subst q;rw[a] at a';cases a'
   ·have:=e y q;rw[a',b'] at this;cases this
 | gt x a b e=>
  cases k with
  | same h=>rw[h x,b] at a;cases a
  | gt=>rfl
  | lt y a' b' e'=>
   rcases nL x y with q | q | q
   ·have:=e' x q;rw[a,b] at this;cases this
   ·subst q;rw[a] at a';cases a'
   ·have:=e y q;rw[a',b'] at this;cases this
theorem gX.swap {f g:List UInt8→Bool} {c:Int} (h:gX f g c):gX g f (-c):=by
 cases h with
 | same h=>exact .same fun w=>(h w).symm
 | lt x a b e=>exact .gt x b a fun y hy=>(e y hy).symm
 | gt x a b e=>exact .lt x b a fun y hy=>(e y hy).symm
theorem gX.refl (f:List UInt8→Bool):gX f f 0:=.same fun _=>rfl
theorem gX.zero {f g:List UInt8→Bool} {c:Int} (h:gX f g c):c=0↔∀w,f w=g w:=by
 constructor
 ·rintro rfl
  cases h with
  | same h=>exact h
 ·intro e;exact Bn h (.same e)
theorem gX.range {f g:List UInt8→Bool} {c:Int} (h:gX f g c) : -1≤c∧c≤1:=by cases h <;> omega
theorem gX.congr {f g f' g':List UInt8→Bool} {c:Int} (h:gX f g c) (e:∀w,f w=f' w) (e':∀w,g w=g' w):gX f' g' c:=by
 have h1:f=f':=funext e;have h2:g=g':=funext e';rw[← h1,← h2];exact h
theorem uR {f g:List UInt8→Bool} {a b:Option (List UInt8)} (h:fT (fun w=>f w && !g w) a) (k:fT (fun w=>g w && !f w) b) :
 match a,b with
 | none,none=>gX f g 0
 | some _,none=>gX f g (-1)
 | none,some _=>gX f g 1
 | some x,some y=>x≠y∧(slt x y→gX f g (-1))∧(slt y x→gX f g 1):=by
 have hn:(∀y,(f y && !g y)=false)→∀y,f y=true→g y=true:=fun h y hy=>by have:=h y;simpa [hy] using this
 have kn:(∀y,(g y && !f y)=false)→∀y,g y=true→f y=true:=fun h y hy=>by have:=h y;simpa [hy] using this
 have lo:∀x,(∀y,(f y && !g y)=true→y=x∨slt x y)→∀y,slt y x→f y=true→g y=true:=fun x hx y hy hf=>by
  cases hg:g y with
  | true=>rfl
  | false=>
   rcases hx y (by simp[hf,hg]) with e | e
   ·subst e;exact (jb _ hy).elim
   ·exact (qY hy e).elim
 have lo':∀x,(∀y,(g y && !f y)=true→y=x∨slt x y)→∀y,slt y x→g y=true→f y=true:=fun x hx y hy hf=>by
  cases hg:f y with
  | true=>rfl
  | false=>
   rcases hx y (by simp[hf,hg]) with e | e
   ·subst e;exact (jb _ hy).elim
   ·exact (qY hy e).elim
 have eqb:∀{p q:Bool},(p=true→q=true)→(q=true→p=true)→p=q:=fun {p q} a b=>by cases p <;> cases q <;> simp_all
 cases a with
 | none=>
  cases b with
  | none=>exact .same fun w=>eqb (hn h w) (kn k w)
  | some y=>
   have h1:=k.1;simp only[Bool.and_eq_true,Bool.not_eq_true'] at h1
   exact .gt y h1.2 h1.1 fun z hz=>eqb (hn h z) (lo' y k.2 z hz)
 | some x=>
  have h1:=h.1;simp only[Bool.and_eq_true,Bool.not_eq_true'] at h1
  cases b with
  | none=>exact .lt x h1.1 h1.2 fun z hz=>eqb (lo x h.2 z hz) (kn k z)
  | some y=>
   have k1:=k.1;simp only[Bool.and_eq_true,Bool.not_eq_true'] at k1;refine ⟨fun e=>(by subst e;rw[h1.2] at k1;exact absurd k1.1 zS),fun q=>?_,fun q=>?_⟩
   ·exact .lt x h1.1 h1.2 fun z hz=>eqb (lo x h.2 z hz) (lo' y k.2 z (qX hz q))
   ·exact .gt y k1.2 k1.1 fun z hz=>eqb (lo x h.2 z (qX hz q)) (lo' y k.2 z hz)
noncomputable def Sem (l:Table) (w:List UInt8):Bool:=tf (Canon l)&&aC l 0 w
theorem fF {l:Table} (h:Canon l) (w:List UInt8):Sem l w=aC l 0 w:=by simp[Sem,aN h]
structure eQ (f:List UInt8→Bool) (C:Table):Prop where
 canon:Canon C
 lang:∀w,aC C 0 w=f w
theorem eQ.sem {f:List UInt8→Bool} {C:Table} (h:eQ f C) (w:List UInt8):Sem C w=f w:=by rw[fF h.canon];exact h.lang w
theorem eQ.congr {f g:List UInt8→Bool} {C:Table} (h:eQ f C) (e:∀w,f w=g w):eQ g C:=⟨h.canon,fun w=>(h.lang w).trans (e w)⟩
theorem Gx {f:List UInt8→Bool} {C D:Table} (h:eQ f C) (k:eQ f D):C=D:=lH h.canon k.canon fun w=>(h.lang w).trans (k.lang w).symm
theorem IY:eQ (fun _=>false) []:=⟨dM,fun w=>cu w⟩
def gT (s:List UInt8) (self:Bool):Table:=
 (s.zipIdx.map fun x=>(⟨true,(if 0<x.1.toNat then [(⟨0,x.1.toNat - 1,(s.length:Int)+1⟩:Ed)] else []) ++ [⟨x.1.toNat,x.1.toNat,(x.2:Int)+1⟩]⟩:Sn)) ++ [⟨self,[]⟩,⟨true,[⟨0,255,(s.length:Int)+1⟩]⟩]
open Classical in
noncomputable def mr (self:Bool):List UInt8→List UInt8→Bool
 | [],[]=>self
 | _::_,[]=>false
 | [],_::_=>true
 | t::v,c::s=>if t=c then mr self v s else decide (t<c)
theorem pu (s:List UInt8) (self:Bool):(gT s self).length=s.length+2:=by simp[gT]
theorem sI {s:List UInt8} {self:Bool} {i:Nat} (h:i<s.length):(gT s self)[i]?=some ⟨true,(if 0<(s[i]).toNat then [(⟨0,(s[i]).toNat - 1,(s.length:Int)+1⟩:Ed)] else []) ++ [⟨(s[i]).toNat,(s[i]).toNat,(i:Int)+1⟩]⟩:=by
 unfold gT;rw[yF (by simpa using h)];simp[h]
theorem tX (s:List UInt8) (self:Bool):(gT s self)[s.length]?=some ⟨self,[]⟩:=by
 unfold gT;rw[yI zS];simp
theorem tY (s:List UInt8) (self:Bool):(gT s self)[s.length+1]?=some ⟨true,[⟨0,255,(s.length:Int)+1⟩]⟩:=by
 unfold gT;rw[yI zS];simp
theorem Ou (s:List UInt8) (self:Bool):WF (gT s self)∧Bytes (gT s self):=by
 have key:∀x∈gT s self,bF (s.length+2) (-1) x.edges∧fD x.edges:=by
  intro x hx;obtain⟨i,hi,rfl⟩:=List.mem_iff_getElem.1 hx;have hg:(gT s self)[i]?=some (gT s self)[i]:=by simp[hi]
  rw[pu] at hi;by_cases h1:i<s.length
  ·rw[sI h1] at hg;rw[← Option.some.inj hg];have hb:=(s[i]).toNat_lt;by_cases h2:0<(s[i]).toNat
   ·simp only[h2,if_true];refine ⟨⟨zC _,by show (0:Int)≤(s.length:Int)+1;omega,by show (s.length:Int)+1<((s.length+2:Nat):Int);omega,by show (-1:Int)<((0:Nat):Int);omega,zG _,by show (0:Int)≤(i:Int)+1;omega,by show (i:Int)+1<((s.length+2:Nat):Int);omega,by show (((s[i]).toNat - 1:Nat):Int)<((s[i]).toNat:Int);omega,trivial⟩,?_⟩;intro e he;simp only[List.cons_append,List.nil_append,zV,List.not_mem_nil,or_false] at he;rcases he with rfl | rfl
    ·exact⟨zS,by simp;omega⟩
    ·exact⟨hb,hb⟩
   ·simp only[h2,if_false];refine ⟨⟨zG _,by show (0:Int)≤(i:Int)+1;omega,by show (i:Int)+1<((s.length+2:Nat):Int);omega,by show (-1:Int)<((s[i]).toNat:Int);omega,trivial⟩,?_⟩;intro e he;simp only[List.nil_append,zV,List.not_mem_nil,or_false] at he;subst he;exact⟨hb,hb⟩
  ·by_cases h2:i=s.length
   ·subst h2;rw[tX] at hg;rw[← Option.some.inj hg];exact⟨trivial,fun e he=>by cases he⟩
   ·obtain rfl:i=s.length+1:=zo;rw[tY] at hg;rw[← Option.some.inj hg];refine ⟨⟨zC _,by show (0:Int)≤(s.length:Int)+1;omega,by show (s.length:Int)+1<((s.length+2:Nat):Int);omega,by show (-1:Int)<((0:Nat):Int);omega,trivial⟩,?_⟩;intro e he;simp only[zV,List.not_mem_nil,or_false] at he;subst he;exact⟨zS,zS⟩
 exact⟨fun x hx=>by rw[pu];exact (key x hx).1,fun x hx=>(key x hx).2⟩
theorem lq {l:Table} {i:Nat} {st:Sn} (h:l[i]?=some st) (b:Nat):bD l (i:Int) b=aY st.edges b:=by
 obtain⟨h1,h2⟩:=List.getElem?_eq_some_iff.1 h;rw[dC l i b h1,h2]
theorem sJ {l:Table} {i:Nat} {st:Sn} (h:l[i]?=some st):bz l (i:Int)=st.accept:=by
 obtain⟨h1,h2⟩:=List.getElem?_eq_some_iff.1 h;rw[eZ l i h1,h2]
theorem Bu (s:List UInt8) (self:Bool):∀v:List UInt8,aC (gT s self) ((s.length+1:Nat):Int) v=true
 | []=>by simp only[aC];rw[sJ (tY s self)]
 | c::v=>by
  simp only[aC];rw[lq (tY s self)];have hc:=c.toNat_lt;have:aY [(⟨0,255,(s.length:Int)+1⟩:Ed)] c.toNat=((s.length+1:Nat):Int):=by
   simp only[aY];rw[zI ⟨zC _,zo⟩];omega
  rw[this];exact Bu s self v
theorem Bv (s:List UInt8) (self:Bool):∀(v:List UInt8) (i:Nat),i≤s.length→aC (gT s self) (i:Int) v=mr self v (s.drop i)
 | [],i,hi=>by
  simp only[aC];by_cases h:i<s.length
  ·rw[sJ (sI h),zZ h];rfl
  ·obtain rfl:i=s.length:=zo
   rw[sJ (tX s self),zO (zG _)];rfl
 | c::v,i,hi=>by
  simp only[aC];by_cases h:i<s.length
  ·rw[lq (sI h),zZ h];simp only[mr];have hb:=(s[i]).toNat_lt;by_cases e:c=s[i]
   ·rw[zI e];have hs:aY ((if 0<(s[i]).toNat then [(⟨0,(s[i]).toNat - 1,(s.length:Int)+1⟩:Ed)] else []) ++ [⟨(s[i]).toNat,(s[i]).toNat,(i:Int)+1⟩]) c.toNat=((i+1:Nat):Int):=by
     rw[e]
     split <;> simp only[List.cons_append,List.nil_append,aY]
     ·rw[zH zo,zI ⟨zG _,zG _⟩];omega
     ·rw[zI ⟨zG _,zG _⟩];omega
    rw[hs];exact Bv s self v (i+1) h
   ·rw[zH e];have hne:c.toNat≠(s[i]).toNat:=fun h=>e (UInt8.toNat_inj.1 h);by_cases hlt:c<s[i]
    ·have hlt':=UInt8.lt_iff_toNat_lt.1 hlt;have hs:aY ((if 0<(s[i]).toNat then [(⟨0,(s[i]).toNat - 1,(s.length:Int)+1⟩:Ed)] else []) ++ [⟨(s[i]).toNat,(s[i]).toNat,(i:Int)+1⟩]) c.toNat=((s.length+1:Nat):Int):=by
      rw[zI zo];simp only[List.cons_append,List.nil_append,aY];rw[zI ⟨zC _,zo⟩];omega
     rw[hs,Bu,zL hlt]
    ·have hlt':¬ c.toNat<(s[i]).toNat:=fun h=>hlt (UInt8.lt_iff_toNat_lt.2 h);have hs:aY ((if 0<(s[i]).toNat then [(⟨0,(s[i]).toNat - 1,(s.length:Int)+1⟩:Ed)] else []) ++ [⟨(s[i]).toNat,(s[i]).toNat,(i:Int)+1⟩]) c.toNat = -1:=by
      split <;> simp only[List.cons_append,List.nil_append,aY]
      ·rw[zH zo,zH zo]
      ·rw[zH zo]
     rw[hs,bP zo,zK hlt]
  ·obtain rfl:i=s.length:=zo;rw[lq (tX s self),zO (zG _)];simp only[aY,mr];rw[bP zo]
end Cl
namespace Cl
inductive El where
 | nul | fal | tru
 | num (u:Int)
 | str (x:List UInt8)
def El.rk:El→Nat | nul=>0 | fal=>1 | tru=>2 | num _=>3 | str _=>4
def El.lt:El→El→Prop
 | num u,num v=>near u v
 | str x,str y=>slt x y
 | a,b=>a.rk<b.rk
theorem El.lt_irrefl:∀a:El,¬ a.lt a
 | nul=>by simp[El.lt]
 | fal=>by simp[El.lt]
 | tru=>by simp[El.lt]
 | num u=>wZ u
 | str x=>jb x
theorem El.Pm {a b:El} (h:a.rk<b.rk):a.lt b:=by
 cases a <;> cases b <;> simp_all [El.lt,El.rk]
theorem El.R6 {a b:El} (h:a.lt b):a.rk≤b.rk:=by
 cases a <;> cases b <;> simp_all [El.lt,El.rk]
theorem El.lt_trans {a b c:El} (h:a.lt b) (k:b.lt c):a.lt c:=by
 by_cases e:a.rk<b.rk
 ·exact El.Pm (by have:=El.R6 k;omega)
 ·by_cases e':b.rk<c.rk
  ·exact El.Pm (by have:=El.R6 h;omega)
  ·cases a <;> cases b <;> simp_all [El.lt,El.rk] <;> cases c <;> simp_all
   ·exact jK h k
   ·exact qX h k
theorem El.IU (a b:El):a.lt b∨a=b∨b.lt a:=by
 rcases Nat.lt_trichotomy a.rk b.rk with h | h | h
 ·exact .inl (El.Pm h)
 ·cases a <;> cases b <;> simp_all [El.lt,El.rk]
  ·rename_i u v;by_cases e:u=v
   ·exact .inr (.inl e)
   ·rcases lY e with h | h
    ·exact .inl h
    ·exact .inr (.inr h)
  ·exact nL _ _
 ·exact .inr (.inr (El.Pm h))
theorem El.Pn {a b:El} (h:a.lt b) (k:b.lt a):False:=El.lt_irrefl a (El.lt_trans h k)
def fJ (p:El→Prop):Option El→Prop
 | none=>∀e,¬ p e
 | some a=>p a∧∀e,p e→e=a∨a.lt e
theorem rM {p:El→Prop} {r s:Option El} (h:fJ p r) (k:fJ p s):r=s:=by
 cases r with
 | none=>cases s with
  | none=>rfl
  | some b=>exact absurd k.1 (h b)
 | some a=>cases s with
  | none=>exact absurd h.1 (k a)
  | some b=>
   rcases h.2 b k.1 with e | e
   ·rw[e]
   ·rcases k.2 a h.1 with e' | e'
    ·rw[e']
    ·exact (El.Pn e e').elim
theorem fJ.congr {p q:El→Prop} {r:Option El} (h:fJ p r) (e:∀a,p a↔q a):fJ q r:=by
 have:p=q:=funext fun a=>propext (e a);rw[← this];exact h
inductive CmpE (p q:El→Prop):Int→Prop where
 | same (h:∀a,p a↔q a):CmpE p q 0
 | lt (x:El) (h1:p x) (h2:¬ q x) (h3:∀y,El.lt y x→(p y↔q y)):CmpE p q (-1)
 | gt (x:El) (h1:¬ p x) (h2:q x) (h3:∀y,El.lt y x→(p y↔q y)):CmpE p q 1
theorem xY {p q:El→Prop} {c d:Int} (h:CmpE p q c) (k:CmpE p q d):c=d:=by
 cases h with
 | same h=>
  cases k with
  | same=>rfl
  | lt x a b _=>exact absurd ((h x).1 a) b
  | gt x a b _=>exact absurd ((h x).2 b) a
 | lt x a b e=>
  cases k with
  | same h=>exact absurd ((h x).1 a) b
  | lt=>rfl
  | gt y a' b' e'=>
   rcases El.IU x y with o | o | o
   ·exact absurd ((e' x o).1 a) b
   ·subst o;exact absurd a a'
   ·exact absurd ((e y o).2 b') a'
 | gt x a b e=>
  cases k with
  | same h=>exact absurd ((h x).2 b) a
  | gt=>rfl
  | lt y a' b' e'=>
   rcases El.IU x y with o | o | o
   ·exact absurd ((e' x o).2 b) a
   ·subst o;exact absurd a' a
   ·exact absurd ((e y o).1 a') b'
theorem CmpE.swap {p q:El→Prop} {c:Int} (h:CmpE p q c):CmpE q p (-c):=by
 cases h with
 | same h=>exact .same fun w=>(h w).symm
 | lt x a b e=>exact .gt x b a fun y hy=>(e y hy).symm
 | gt x a b e=>exact .lt x b a fun y hy=>(e y hy).symm
theorem CmpE.zero {p q:El→Prop} {c:Int} (h:CmpE p q c):c=0↔∀a,p a↔q a:=by
 constructor
 ·rintro rfl
  cases h with
  | same h=>exact h
 ·exact fun e=>xY h (.same e)
theorem CmpE.range {p q:El→Prop} {c:Int} (h:CmpE p q c) : -1≤c∧c≤1:=by cases h <;> omega
theorem CmpE.congr {p q p' q':El→Prop} {c:Int} (h:CmpE p q c) (e:∀a,p a↔p' a) (e':∀a,q a↔q' a):CmpE p' q' c:=by
 have h1:p=p':=funext fun a=>propext (e a);have h2:q=q':=funext fun a=>propext (e' a);rw[← h1,← h2];exact h
structure RS where
 nul:Bool
 fal:Bool
 tru:Bool
 i:List Spn
 f:List Spn
 t:Table
def RS.ns (s:RS):NS:=mkN s.i s.f
structure RS.gK (s:RS):Prop where
 ei:s.i=s.ns.i
 ef:s.f=s.ns.rf
 ct:Canon s.t
def RS.has (s:RS):El→Prop
 | .nul=>s.nul=true
 | .fal=>s.fal=true
 | .tru=>s.tru=true
 | .num u=>s.ns.has u
 | .str x=>Sem s.t x=true
theorem RS.qx (s:RS):NSok s.ns:=gG _ _
theorem RU {r s:RS} (hr:r.gK) (hs:s.gK) (h:∀e,r.has e↔s.has e):r=s:=by
 have h1:=h .nul;have h2:=h .fal;have h3:=h .tru;have h4:r.ns=s.ns:=rD r.qx s.qx fun u=>h (.num u);have h5:r.t=s.t:=lH hr.ct hs.ct fun w=>by
  have:=h (.str w);simp only[RS.has,fF hr.ct,fF hs.ct] at this;exact Bool.eq_iff_iff.2 this
 have e1:=hr.ei;have e2:=hr.ef;rw[h4,← hs.ei] at e1;rw[h4,← hs.ef] at e2;obtain⟨n,f,t,i,g,T⟩:=r;obtain⟨n',f',t',i',g',T'⟩:=s;simp only[RS.has] at h1 h2 h3;simp only at e1 e2 h5;subst e1 e2 h5;rw[Bool.eq_iff_iff.2 h1,Bool.eq_iff_iff.2 h2,Bool.eq_iff_iff.2 h3]
structure ScIs (p:El→Prop) (s:RS):Prop where
 valid:s.gK
 mem:∀e,s.has e↔p e
theorem ScIs.unique {p:El→Prop} {r s:RS} (h:ScIs p r) (k:ScIs p s):r=s:=RU h.valid k.valid fun e=>(h.mem e).trans (k.mem e).symm
theorem ScIs.congr {p q:El→Prop} {r:RS} (h:ScIs p r) (e:∀a,p a↔q a):ScIs q r:=⟨h.valid,fun a=>(h.mem a).trans (e a)⟩
theorem FQ {p q:El→Prop} {r s:RS} (h:ScIs p r) (k:ScIs q s):r=s↔∀e,p e↔q e:=
 ⟨fun e a=>by rw[← h.mem,← k.mem,e],fun e=>(h.congr e).unique k⟩
theorem Mg {s:RS} (h:s.gK):ScIs s.has s:=⟨h,fun _=>Iff.rfl⟩
def dY:RS:=⟨false,false,false,[],[],[]⟩
theorem uP:dY.gK:=⟨rfl,rfl,dM⟩
theorem tQ (e:El):¬ dY.has e:=by
 have h0:dY.ns=mi:=QS
 cases e with
 | nul=>simp[RS.has,dY]
 | fal=>simp[RS.has,dY]
 | tru=>simp[RS.has,dY]
 | num u=>simp only[RS.has,h0];exact jg u
 | str x=>simp only[RS.has,dY,fF dM,cu];simp
theorem xQ:ScIs (fun _=>False) dY:=⟨uP,fun e=>⟨tQ e,False.elim⟩⟩
noncomputable def dJ (s:RS):RS:=if tf s.gK=true then s else dY
theorem GI (s:RS):(dJ s).gK:=by
 unfold dJ
 split
 ·rename_i h;exact Di.1 h
 ·exact uP
theorem iX {s:RS} (h:s.gK):dJ s=s:=by simp[dJ,aN h]
theorem rQ {s:RS} (h:¬ s.gK):dJ s=dY:=by simp[dJ,aK h]
theorem gZ {p:El→Prop} {n f t:Bool} {x:NS} {T:Table} (h1:n=true↔p .nul) (h2:f=true↔p .fal) (h3:t=true↔p .tru) (hx:NSok x) (h4:∀u,x.has u↔p (.num u))
 (hT:Canon T) (h5:∀w,Sem T w=true↔p (.str w)):ScIs p ⟨n,f,t,x.i,x.rf,T⟩:=by
 have e:(⟨n,f,t,x.i,x.rf,T⟩:RS).ns=x:=gF hx;refine ⟨⟨by rw[e],by rw[e],hT⟩,fun a=>?_⟩
 cases a with
 | nul=>exact h1
 | fal=>exact h2
 | tru=>exact h3
 | num u=>simp only[RS.has,e];exact h4 u
 | str w=>exact h5 w
theorem QK {a b:RS} (op:Prop→Prop→Prop) {n f t:Bool} {x:NS} {T:Table} (h1:n=true↔op (a.nul=true) (b.nul=true)) (h2:f=true↔op (a.fal=true) (b.fal=true)) (h3:t=true↔op (a.tru=true) (b.tru=true))
 (hx:NSok x) (h4:∀u,x.has u↔op (a.ns.has u) (b.ns.has u)) (hT:Canon T) (h5:∀w,Sem T w=true↔op (Sem a.t w=true) (Sem b.t w=true)) :
 ScIs (fun e=>op (a.has e) (b.has e)) ⟨n,f,t,x.i,x.rf,T⟩:=gZ h1 h2 h3 hx h4 hT h5
theorem Ba {s:RS} (h:s.nul=true):fJ s.has (some .nul):=⟨h,fun e _=>by cases e <;> simp[El.lt,El.rk]⟩
theorem Bb {s:RS} (h0:s.nul=false) (h:s.fal=true):fJ s.has (some .fal):=⟨h,fun e he=>by
 cases e <;> simp[El.lt,El.rk]
 simp[RS.has,h0] at he⟩
theorem A8 {s:RS} (h0:s.nul=false) (h1:s.fal=false) (h:s.tru=true):fJ s.has (some .tru):=⟨h,fun e he=>by
 cases e <;> simp[El.lt,El.rk] <;> simp[RS.has,h0,h1] at he⟩
theorem A9 {s:RS} (h0:s.nul=false) (h1:s.fal=false) (h2:s.tru=false) {u:Int} (h:bR s.ns=some u):fJ s.has (some (.num u)):=by
 obtain⟨h3,h4⟩:=(gq s.qx).one u h;refine ⟨h3,fun e he=>?_⟩
 cases e with
 | nul=>simp[RS.has,h0] at he
 | fal=>simp[RS.has,h1] at he
 | tru=>simp[RS.has,h2] at he
 | num v=>
  rcases h4 v he with rfl | h5
  ·exact .inl rfl
  ·exact .inr h5
 | str w=>exact .inr (by simp[El.lt,El.rk])
theorem Kw {s:RS} (h0:s.nul=false) (h1:s.fal=false) (h2:s.tru=false) (h3:bR s.ns=none) {r:Option (List UInt8)} (h:fT (Sem s.t) r):fJ s.has (r.map .str):=by
 have hn:=(gq s.qx).no h3;have key:∀e,s.has e→∃w,e=.str w∧Sem s.t w=true:=fun e he=>by
  cases e with
  | nul=>simp[RS.has,h0] at he
  | fal=>simp[RS.has,h1] at he
  | tru=>simp[RS.has,h2] at he
  | num v=>exact absurd he (hn v)
  | str w=>exact⟨w,rfl,he⟩
 cases r with
 | none=>
  intro e he;obtain⟨w,-,hw⟩:=key e he;have:=h w;rw[hw] at this
  cases this
 | some x=>
  refine ⟨h.1,fun e he=>?_⟩;obtain⟨w,rfl,hw⟩:=key e he;rcases h.2 w hw with rfl | h5
  ·exact .inl rfl
  ·exact .inr h5
theorem Jm {r s:RS} (h:r.nul≠s.nul):CmpE r.has s.has (if r.nul then -1 else 1):=by
 cases hr:r.nul with
 | true=>
  rw[hr] at h
  exact .lt .nul hr (fun hs=>h hs.symm) fun y hy=>by cases y <;> simp[El.lt,El.rk] at hy
 | false=>
  rw[hr] at h;exact .gt .nul (fun e=>by simp[RS.has,hr] at e) (by cases hs:s.nul with | true=>exact hs | false=>exact absurd hs.symm h) fun y hy=>by cases y <;> simp[El.lt,El.rk] at hy
theorem Jn {r s:RS} (h0:r.nul=s.nul) (h:r.fal≠s.fal):CmpE r.has s.has (if r.fal then -1 else 1):=by
 have hb:∀y,El.lt y .fal→(r.has y↔s.has y):=fun y hy=>by cases y <;> simp[El.lt,El.rk] at hy;simp[RS.has,h0]
 cases hr:r.fal with
 | true=>
  rw[hr] at h
  exact .lt .fal hr (fun hs=>h hs.symm) hb
 | false=>
  rw[hr] at h;exact .gt .fal (fun e=>by simp[RS.has,hr] at e) (by cases hs:s.fal with | true=>exact hs | false=>exact absurd hs.symm h) hb
theorem Jj {r s:RS} (h0:r.nul=s.nul) (h1:r.fal=s.fal) (h:r.tru≠s.tru):CmpE r.has s.has (if r.tru then -1 else 1):=by
 have hb:∀y,El.lt y .tru→(r.has y↔s.has y):=fun y hy=>by cases y <;> simp[El.lt,El.rk] at hy <;> simp[RS.has,h0,h1]
 cases hr:r.tru with
 | true=>
  rw[hr] at h
  exact .lt .tru hr (fun hs=>h hs.symm) hb
 | false=>
  rw[hr] at h;exact .gt .tru (fun e=>by simp[RS.has,hr] at e) (by cases hs:s.tru with | true=>exact hs | false=>exact absurd hs.symm h) hb
theorem Jl {r s:RS} (h0:r.nul=s.nul) (h1:r.fal=s.fal) (h2:r.tru=s.tru) (h:cmpN r.ns s.ns≠0):CmpE r.has s.has (cmpN r.ns s.ns):=by
 have hb:∀u,(∀v,near v u→(r.ns.has v↔s.ns.has v))→∀y,El.lt y (.num u)→(r.has y↔s.has y):=fun u hu y hy=>by
  cases y with
  | nul=>simp[RS.has,h0]
  | fal=>simp[RS.has,h1]
  | tru=>simp[RS.has,h2]
  | num v=>exact hu v hy
  | str w=>simp[El.lt,El.rk] at hy
 rcases K3 r.ns s.ns with e | e | e
 ·rw[e];obtain⟨u,a,b,c⟩:=(Ji r.qx s.qx).1 e;exact .lt (.num u) a b (hb u c)
 ·exact absurd e h
 ·rw[e];obtain⟨u,a,b,c⟩:=(NW r.qx s.qx).1 e;exact .gt (.num u) b a (hb u fun v hv=>(c v hv).symm)
theorem Jk {r s:RS} (h0:r.nul=s.nul) (h1:r.fal=s.fal) (h2:r.tru=s.tru) (h3:cmpN r.ns s.ns=0) {c:Int} (h:gX (Sem r.t) (Sem s.t) c):CmpE r.has s.has c:=by
 have hn:=(NV r.qx s.qx).1 h3;have hb:∀y,(∀w,y=.str w→Sem r.t w=Sem s.t w)→(r.has y↔s.has y):=fun y hy=>by
  cases y with
  | nul=>simp[RS.has,h0]
  | fal=>simp[RS.has,h1]
  | tru=>simp[RS.has,h2]
  | num v=>simp[RS.has,hn]
  | str w=>simp[RS.has,hy w rfl]
 have hb':∀x,(∀z,slt z x→Sem r.t z=Sem s.t z)→∀y,El.lt y (.str x)→(r.has y↔s.has y):=fun x hx y hy=>hb y fun w e=>by subst e;exact hx w hy
 cases h with
 | same h=>exact .same fun y=>hb y fun w _=>h w
 | lt x a b e=>exact .lt (.str x) a (fun hs=>by simp only[RS.has] at hs;rw[b] at hs;cases hs) (hb' x e)
 | gt x a b e=>exact .gt (.str x) (fun hs=>by simp only[RS.has] at hs;rw[a] at hs;cases hs) b (hb' x e)
end Cl
namespace Cl
def jZ (s:List UInt8):Table:=((List.range s.length).map fun i=>(⟨false,[⟨(s.getD i 0).toNat,(s.getD i 0).toNat,((i+1:Nat):Int)⟩]⟩:Sn)) ++ [⟨true,[]⟩]
theorem iA (s:List UInt8):(jZ s).length=s.length+1:=by simp[jZ]
theorem qR {s:List UInt8} {i:Nat} (h:i<s.length):(jZ s)[i]?=some ⟨false,[⟨(s[i]).toNat,(s[i]).toNat,((i+1:Nat):Int)⟩]⟩:=by
 unfold jZ;rw[yF (by simpa using h)];simp[h]
theorem qQ (s:List UInt8):(jZ s)[s.length]?=some ⟨true,[]⟩:=by
 unfold jZ;rw[yI zS];simp
theorem qP (s:List UInt8):∀(v:List UInt8) (i:Nat),i≤s.length→(aC (jZ s) (i:Int) v=true↔v=s.drop i)
 | [],i,hi=>by
  simp only[aC];by_cases h:i<s.length
  ·rw[sJ (qR h),zZ h];exact⟨fun h=>(by cases h),fun h=>(by cases h)⟩
  ·obtain rfl:i=s.length:=zo;rw[sJ (qQ s),zO (zG _)]
   simp
 | c::v,i,hi=>by
  simp only[aC];by_cases h:i<s.length
  ·rw[lq (qR h),zZ h];simp only[aY];by_cases e:c=s[i]
   ·rw[zI (by rw[e];exact⟨zG _,zG _⟩),qP s v (i+1) h,e];exact⟨fun h=>(by rw[h]),fun h=>(List.cons.inj h).2⟩
   ·have hne:c.toNat≠(s[i]).toNat:=fun h=>e (UInt8.toNat_inj.1 h);rw[zH zo,bP zo];exact⟨fun h=>(by cases h),fun h=>absurd (List.cons.inj h).1 e⟩
  ·obtain rfl:i=s.length:=zo;rw[lq (qQ s),zO (zG _)];simp only[aY];rw[bP zo];simp
theorem Li (s:List UInt8) (k b t:Nat) (h:bD (jZ s) k b=t):k<s.length∧t=k+1:=by
 by_cases hk:k<s.length
 ·rw[lq (qR hk)] at h;simp only[aY] at h
  split at h
  ·exact⟨hk,zo⟩
  ·omega
 ·by_cases hk2:k=s.length
  ·subst hk2;rw[lq (qQ s)] at h;simp only[aY] at h;omega
  ·rw[dV _ _ _ (by rw[iA];omega)] at h;omega
theorem sP (s:List UInt8):eQ (fun v=>decide (v=s)) (jZ s):=by
 have hstep:∀k (h:k<s.length),bD (jZ s) k (s[k]).toNat=((k+1:Nat):Int):=fun k h=>by
  rw[lq (qR h)];simp only[aY];rw[zI ⟨zG _,zG _⟩]
 have hst:∀x∈jZ s,x=⟨true,[]⟩∨∃i,∃h:i<s.length,x=⟨false,[⟨(s[i]).toNat,(s[i]).toNat,((i+1:Nat):Int)⟩]⟩:=by
  intro x hx;obtain⟨i,hi,rfl⟩:=List.mem_iff_getElem.1 hx;rw[iA] at hi;have hg:(jZ s)[i]?=some ((jZ s)[i]'(by rw[iA];exact hi)):=by rw[yC]
  by_cases h:i<s.length
  ·rw[qR h] at hg;exact .inr ⟨i,h,(Option.some.inj hg).symm⟩
  ·obtain rfl:i=s.length:=zo;rw[qQ] at hg;exact .inl (Option.some.inj hg).symm
 refine ⟨⟨?_,?_,?_,?_,?_,?_,?_⟩,fun v=>?_⟩
 ·intro x hx;rw[iA];rcases hst x hx with rfl | ⟨i,h,rfl⟩
  ·trivial
  ·exact⟨zG _,by show (0:Int)≤((i+1:Nat):Int);omega,by show ((i+1:Nat):Int)<((s.length+1:Nat):Int);omega,by show (-1:Int)<((s[i]).toNat:Int);omega,trivial⟩
 ·intro x hx e he;rcases hst x hx with rfl | ⟨i,h,rfl⟩
  ·simp at he
  ·simp only[zU] at he;subst he;exact⟨(s[i]).toNat_lt,(s[i]).toNat_lt⟩
 ·intro x hx;rcases hst x hx with rfl | ⟨i,h,rfl⟩ <;> trivial
 ·intro k hk;rw[iA] at hk;exact⟨s.drop k,(qP s _ k zo).2 rfl⟩
 ·intro i j hi hj h;rw[iA] at hi hj;have h1:=(qP s (s.drop i) i zo).2 rfl;rw[h] at h1;have h2:=(qP s (s.drop i) j zo).1 h1;have:=congrArg List.length h2;simp at this;omega
 ·intro k b t hb h t' h1 h2;obtain⟨hk,rfl⟩:=Li s k b t h;refine ⟨t' - 1,(s[t' - 1]'zo).toNat,(s[t' - 1]'zo).toNat_lt,.inl zo,?_⟩;have:=hstep (t' - 1) zo;rw[show t' - 1+1=t' by omega] at this;exact this
 ·intro t h1 h2;rw[iA] at h2;refine ⟨t - 1,(s[t - 1]'zo).toNat,zo,(s[t - 1]'zo).toNat_lt,?_⟩;have:=hstep (t - 1) zo;rw[show t - 1+1=t by omega] at this;exact this
 ·have:=qP s v 0 (zC _);rw[List.drop_zero] at this;rw[Bool.eq_iff_iff,decide_eq_true_iff];exact this
noncomputable def eF (op:List UInt8) (s:List UInt8):Option (List UInt8→Bool):=
 if op=[60] then some (mr false · s) else if op=[60,61] then some (mr true · s) else if op=[62] then some fun v => !mr true v s
 else if op=[62,61] then some fun v => !mr false v s else if op=[61,61] then some fun v=>decide (v=s) else if op=[33,61] then some fun v => !decide (v=s) else none
end Cl
namespace Cl
def dtEl (d:Dt):Option El:=
 if chkD d 1≠0 then none else if d.kind=1 then some .nul else if d.kind=2 then (if d.num=0 then some .fal else some .tru) else if d.kind=3 then some (.num d.num) else if d.kind=4 then some (.str d.str.data.toList) else none
def ofE (d:Dt):Int:=if chkD d 1≠0 then chkD d 1 else if d.kind=5∨d.kind=6 then 11 else 0
theorem qM {d:Dt} (h:chkD d 1=0):ownE d=0:=by
 rw[x9] at h;rw[zH zD] at h;by_cases e:ownE d=0
 ·exact e
 ·rw[zI e] at h;exact absurd h e
theorem kL {d:Dt} (h:ownE d=0):iZ d.kind d.num d.str.size d.items.length d.bK.length=true∧¬ ((d.kind=2∧d.num≠0∧d.num≠1)∨(d.kind=3∧¬ (-1000000000000000≤d.num∧d.num≤1000000000000000)))∧twice d.labels=false:=by
 unfold ownE at h
 split at h
 ·exact absurd h zD
 ·rename_i h1
  split at h
  ·exact absurd h zD
  ·rename_i h2
   split at h
   ·exact absurd h zD
   ·rename_i h3;exact⟨by simpa using h1,h2,by simpa using h3⟩
theorem oO {k n:Int} {s i m:Nat} (h:iZ k n s i m=true):(1≤k∧k≤6)∧(k=2∨k=3∨n=0)∧(k=4∨s=0)∧(k=5∨i=0)∧(k=6∨m=0):=by
 simp only[iZ,Bool.and_eq_true,Bool.or_eq_true,decide_eq_true_eq] at h;obtain⟨⟨⟨⟨h1,h2⟩,h3⟩,h4⟩,h5⟩:=h;refine ⟨h1,?_,h3,h4,h5⟩;rcases h2 with (h2 | h2) | h2
 ·exact .inl h2
 ·exact .inr (.inl h2)
 ·exact .inr (.inr h2)
theorem j6 {d:Dt}:ofE d=0↔∃e,dtEl d=some e:=by
 unfold ofE dtEl;by_cases h:chkD d 1=0
 ·obtain⟨h1,h2,h3⟩:=kL (qM h);obtain⟨hk,-⟩:=oO h1;simp only[h,ne_eq,not_true_eq_false,if_false];by_cases e1:d.kind=1
  ·simp[e1]
  ·by_cases e2:d.kind=2
   ·by_cases hn:d.num=0 <;> simp[e2,hn]
   ·by_cases e3:d.kind=3
    ·simp[e3]
    ·by_cases e4:d.kind=4
     ·simp[e4]
     ·have:d.kind=5∨d.kind=6:=zo;simp[e1,e2,e3,e4,this]
 ·simp[h]
theorem zx {d:Dt} {u:Int} (h:dtEl d=some (.num u)):bG u:=by
 unfold dtEl at h;by_cases hc:chkD d 1=0
 ·obtain⟨-,h2,-⟩:=kL (qM hc);simp only[hc,ne_eq,not_true_eq_false,if_false] at h
  split at h
  ·cases h
  ·split at h
   ·split at h <;> cases h
   ·split at h
    ·rename_i e3;cases h;refine zN fun hn=>h2 (.inr ⟨e3,?_⟩);simpa [bG,maxU] using hn
    ·split at h <;> cases h
 ·simp[hc] at h
def elDt:El→Dt
 | .nul=>.mk 1 0 ⟨#[]⟩ [] [] []
 | .fal=>.mk 2 0 ⟨#[]⟩ [] [] []
 | .tru=>.mk 2 1 ⟨#[]⟩ [] [] []
 | .num u=>.mk 3 u ⟨#[]⟩ [] [] []
 | .str x=>.mk 4 0 ⟨x.toArray⟩ [] [] []
def elOk:El→Prop
 | .num u=>bG u
 | _=>True
theorem oh:∀e:El,elOk e→dtEl (elDt e)=some e
 | .nul,_=>rfl
 | .fal,_=>rfl
 | .tru,_=>rfl
 | .num u,h=>by
  have h' : -1000000000000000≤u∧u≤1000000000000000:=h;have:chkD (elDt (.num u)) 1=0:=by
   simp[elDt,chkD,chkL,ownE,Dt.kind,Dt.num,Dt.str,Dt.items,Dt.bK,Dt.labels,iZ,twice,ByteArray.size];omega
  unfold dtEl;rw[this]
  rfl
 | .str x,_=>by
  have:chkD (elDt (.str x)) 1=0:=by simp[elDt,chkD,chkL,ownE,Dt.kind,Dt.num,Dt.str,Dt.items,Dt.bK,Dt.labels,iZ,twice]
  unfold dtEl;rw[this]
  rfl
theorem Be {s:RS} {e:El} (h:s.has e):elOk e:=by
 cases e with
 | num u=>exact s.qx.jr h
 | _=>exact trivial
def opLt:List UInt8:=[60]
def opLe:List UInt8:=[60,61]
def opGt:List UInt8:=[62]
def opGe:List UInt8:=[62,61]
def opEq:List UInt8:=[61,61]
def opNe:List UInt8:=[33,61]
def relN (op:List UInt8) (x u:Int):Prop:=
 if op=opLt then x<u else if op=opLe then x≤u else if op=opGt then u<x else if op=opGe then u≤x else if op=opEq then x=u else if op=opNe then x≠u else False
def known (op:List UInt8):Bool:=decide (op=opLt) || decide (op=opLe) || decide (op=opGt) || decide (op=opGe) || decide (op=opEq) || decide (op=opNe)
def dZ (op:List UInt8) (u:Int):NS:=
 if op=opLt then ltN u else if op=opLe then leN u else if op=opGt then notN (leN u) else if op=opGe then notN (ltN u) else if op=opEq then eqN u else notN (eqN u)
theorem Oj (op:List UInt8) (u:Int):NSok (dZ op u):=by
 unfold dZ
 split
 ·exact rJ u
 ·split
  ·exact xu u
  ·split
   ·exact ik (xu u)
   ·split
    ·exact ik (rJ u)
    ·split
     ·exact pW u
     ·exact ik (pW u)
theorem Lb {op:List UInt8} (h:known op=true) (u v:Int):(dZ op u).has v↔bG v∧relN op v u:=by
 unfold dZ relN;by_cases h1:op=opLt
 ·rw[zI h1,zI h1];exact Cg u v
 rw[zH h1,zH h1];by_cases h2:op=opLe
 ·rw[zI h2,zI h2];exact Cj u v
 rw[zH h2,zH h2];by_cases h3:op=opGt
 ·rw[zI h3,zI h3,lC (xu u),Cj];refine and_congr_right fun hv=>?_;simp only[hv,true_and];omega
 rw[zH h3,zH h3];by_cases h4:op=opGe
 ·rw[zI h4,zI h4,lC (rJ u),Cg];refine and_congr_right fun hv=>?_;simp only[hv,true_and];omega
 rw[zH h4,zH h4];by_cases h5:op=opEq
 ·rw[zI h5,zI h5];exact xM u v
 rw[zH h5,zH h5];have h6:op=opNe:=by
  simp only[known,Bool.or_eq_true,decide_eq_true_eq] at h;simpa [h1,h2,h3,h4,h5] using h
 rw[zI h6,lC (pW u),xM];refine and_congr_right fun hv=>?_;simp only[hv,true_and,ne_eq]
def mM (op:List UInt8):Bool:=decide (op=opLt) || decide (op=opLe) || decide (op=opGt) || decide (op=opGe)
def oq (op:List UInt8) (d:Dt):Int:=
 if ofE d≠0 then ofE d else if op=opNe then 0 else if mM op=true then (if d.kind=3∨d.kind=4 then 0 else 11) else 8
def jy (op:List UInt8) (d:Dt) (e:El):Prop:=match dtEl d with
 | none=>False
 | some a=>if op=opNe then e≠a∧elOk e else if mM op=true then (match a,e with
  | .num u,.num v=>bG v∧relN op v u
  | .str s,.str x=>∃f,eF op s=some f∧f x=true
  | _,_=>False) else False
end Cl
namespace Cl
theorem rR:∀(l:List Spn) (lo hi:Int),(jC l lo hi).length≤l.length+1
 | [],lo,hi=>by unfold jC;split <;> simp
 | s::r,lo,hi=>by
  have:=rR r (s.2+1) hi;unfold jC
  split <;> simp <;> omega
theorem mV:∀(r:List Spn) (s:Spn),(insS s true r).length≤r.length
 | [],s=>by simp[insS]
 | x::r,s=>by
  have h1:=mV r s;have h3:=mV r (min s.1 x.1,max s.2 x.2);rw[insS]
  split
  ·simp only[yJ];omega
  ·split
   ·simp only[if_true,List.nil_append,yJ];omega
   ·simp only[yJ];omega
theorem vL:∀(r:List Spn) (s:Spn) (d:Bool),(insS s d r).length≤r.length+1
 | [],s,d=>by unfold insS;split <;> simp
 | x::r,s,d=>by
  have h1:=vL r s d;have h3:=vL r (min s.1 x.1,max s.2 x.2) d;have h2:=mV r s;rw[insS]
  split
  ·simp only[yJ];omega
  ·split
   ·cases d <;> simp only[if_true,Bool.false_eq_true,if_false,List.cons_append,List.nil_append,yJ] <;> omega
   ·simp only[yJ];omega
theorem kN (l:List Spn):(fP l).length≤l.length:=by
 have:∀(l out:List Spn),(l.foldl (fun out s=>if s.2<s.1 then out else insS s false out) out).length≤out.length+l.length:=by
  intro l
  induction l with
  | nil=>intro out;simp
  | cons s l ih=>
   intro out;have:=ih (if s.2<s.1 then out else insS s false out);have h2:(if s.2<s.1 then out else insS s false out).length≤out.length+1:=by
    split
    ·omega
    ·exact vL out s false
   simp only[List.foldl_cons,yJ];omega
 have:=this l [];rw[fP];simpa using this
theorem xA (l:List Spn):(ma l).length≤l.length:=by
 have:=List.length_filter_le (fun s=>decide (s.1≤s.2)) (l.map lL);simpa [ma] using this
theorem xB (l:List Spn):(jM l).length≤l.length:=by
 have:=List.length_filter_le (fun s=>decide (s.1≤s.2)) (l.map iH);simpa [jM] using this
theorem qL (a b:List Spn):(dP a b).length≤a.length*b.length:=by
 induction a with
 | nil=>simp[dP]
 | cons x a ih=>
  have h:=List.length_filter_le (fun z:Spn=>decide (z.1≤z.2)) (b.map (kg x));have e:dP (x::a) b=((b.map (kg x)).filter fun z=>decide (z.1≤z.2)) ++ dP a b:=by simp[dP]
  rw[e,zJ,yJ,Nat.succ_mul];rw[List.length_map] at h;omega
structure NS.Le (x:NS) (k:Nat):Prop where
 i:x.i.length≤k
 f:x.f.length≤k
theorem NS.jR (x:NS):x.rf.length=x.f.length:=by simp[NS.rf]
theorem NS.Le.mono {x:NS} {k n:Nat} (h:x.Le k) (hk:k≤n):x.Le n:=⟨yE h.i hk,yE h.f hk⟩
theorem eu {I F:List Spn} {k:Nat} (h1:I.length≤k) (h2:F.length≤k):(mkN I F).Le k:=by
 refine ⟨yE (kN _) (yE (xA I) h1),yE (kN _) ?_⟩;rw[List.length_map];exact yE (xB F) h2
theorem jV {x:NS} {k:Nat} (h:x.Le k):(notN x).Le (k+1):=
 ⟨yE (rR _ _ _) (Nat.succ_le_succ h.i),yE (rR _ _ _) (Nat.succ_le_succ h.f)⟩
theorem ME {x y:NS} {k n:Nat} (h:x.Le k) (h':y.Le n):(orN x y).Le (k+n):=by
 have a:=h.i;have b:=h.f;have c:=h'.i;have d:=h'.f;refine ⟨yE (kN _) ?_,yE (kN _) ?_⟩ <;> rw[zJ] <;> omega
theorem Ox {x y:NS} {k n:Nat} (h:x.Le k) (h':y.Le n):(andN x y).Le (k+n+3):=(jV (ME (jV h) (jV h'))).mono zo
theorem nW {x y:NS} {k n:Nat} (h:x.Le k) (h':y.Le n):(bY x y).Le (k+n+4):=(Ox h (jV h')).mono zo
theorem QD (u:Int):u.tdiv 10000=if u % 10000=0∨0≤u then u / 10000 else u / 10000+1:=by
 rw[Int.tdiv_eq_ediv];have:((10000:Int) ∣ u)↔u % 10000=0:=Int.dvd_iff_emod_eq_zero;simp only[this,Int.sign]
 split <;> split <;> omega
theorem QC (u:Int):u.tmod 10000=if u % 10000=0∨0≤u then u % 10000 else u % 10000 - 10000:=by
 rw[Int.tmod_eq_emod];have:((10000:Int) ∣ u)↔u % 10000=0:=Int.dvd_iff_emod_eq_zero;simp only[this]
 split <;> split <;> omega
theorem lQ (u:Int):u.tmod 10000=0↔u % 10000=0:=by rw[QC];split <;> omega
theorem Sr (k:Int):k.tdiv 9999=if k % 9999=0∨0≤k then k / 9999 else k / 9999+1:=by
 rw[Int.tdiv_eq_ediv];have:((9999:Int) ∣ k)↔k % 9999=0:=Int.dvd_iff_emod_eq_zero;simp only[this,Int.sign]
 split <;> split <;> omega
theorem Sq (k:Int):k.tmod 9999=if k % 9999=0∨0≤k then k % 9999 else k % 9999 - 9999:=by
 rw[Int.tmod_eq_emod];have:((9999:Int) ∣ k)↔k % 9999=0:=Int.dvd_iff_emod_eq_zero;simp only[this]
 split <;> split <;> omega
end Cl
namespace Cl
noncomputable def hasD (s:RS) (d:Dt):Bool:=tf (∃e,dtEl d=some e∧(dJ s).has e)
noncomputable def Bi (s:RS):Bool:=tf (∀e,¬ (dJ s).has e)
noncomputable def subB (a b:RS):Bool:=tf (∀e,(dJ a).has e→(dJ b).has e)
theorem xG {s:RS} {d:Dt} (h:dtEl d=none):hasD s d=false:=aK (by rintro ⟨e,h1,-⟩;rw[h] at h1;cases h1)
theorem nZ {s:RS} {d:Dt} {e:El} (h:dtEl d=some e):hasD s d=tf ((dJ s).has e):=by
 refine fK ⟨?_,fun k=>⟨e,h,k⟩⟩;rintro ⟨e',h1,h2⟩;rw[h] at h1;cases h1;exact h2
theorem Q4 {p:El→Prop} {r:RS} (k:ScIs p r) {d:Dt} {e:El} (h:dtEl d=some e):hasD r d=tf (p e):=by
 rw[nZ h,iX k.valid];exact fK (k.mem e)
theorem Rc {d:Dt} {e:El} (h:dtEl d=some e):elOk e:=by
 cases e with
 | num u=>exact zx h
 | _=>trivial
theorem PG {r:RS} (k:ScIs elOk r) (d:Dt):hasD r d=tf (ofE d=0):=by
 cases h:dtEl d with
 | none=>rw[xG h,aK];rw[j6,h];rintro ⟨e,h⟩;cases h
 | some e=>rw[Q4 k h,aN (Rc h),aN (j6.2 ⟨e,h⟩)]
theorem GN {s:RS} (h:fJ (dJ s).has none):Bi s=true:=aN h
theorem GM {s:RS} {e:El} (h:fJ (dJ s).has (some e)):Bi s=false:=aK fun k=>k e h.1
theorem LU {a b r:RS} (k:ScIs (fun e=>(dJ a).has e∧¬ (dJ b).has e) r):Bi r=subB a b:=by
 refine fK ?_;rw[iX k.valid];constructor
 ·intro h e ha
  cases hb:tf ((dJ b).has e) with
  | true=>exact Di.1 hb
  | false=>exact absurd ((k.mem e).2 ⟨ha,fun hh=>by rw[aN hh] at hb;cases hb⟩) (h e)
 ·intro h e he;obtain⟨h1,h2⟩:=(k.mem e).1 he;exact h2 (h e h1)
end Cl
namespace Cl
mutual
def cnt:Dt→Nat
 | .mk _ _ _ i _ d=>1+cntL i+cntL d
def cntL:List Dt→Nat
 | []=>0
 | x::r=>cnt x+cntL r
end
theorem G7:∀d:Dt,1≤cnt d
 | .mk _ _ _ i _ d=>by simp only[cnt];omega
theorem su:∀l:List Dt,l.length≤cntL l
 | []=>zG _
 | x::r=>by
  have h1:=G7 x;have h2:=su r;simp only[cntL,yJ];omega
mutual
theorem Dr:∀(d:Dt) (m:Int),kZ d m≤m→kZ d m=cnt d
 | .mk k n s i l d,m,h=>by
  simp only[kZ] at h ⊢;have h1:=kz d m (jk i m 1);have h2:=wu i m 1 zo;have h3:=wu d m (jk i m 1) h;rw[h3,h2];simp only[cnt];omega
theorem wu:∀(l:List Dt) (m n:Int),jk l m n≤m→jk l m n=n+cntL l
 | [],m,n,h=>by simp[jk,cntL]
 | x::r,m,n,h=>by
  simp only[jk] at h ⊢;by_cases hn:n≤m
  ·rw[zI hn] at h ⊢;have h1:=kz r m (n+kZ x (m - n));have h2:=Dr x (m - n) zo;have h3:=wu r m _ h;rw[h3,h2];simp only[cntL];omega
  ·rw[zH hn] at h;omega
theorem nM:∀(d:Dt) (m:Int),1≤kZ d m
 | .mk k n s i l d,m=>by
  simp only[kZ];have h1:=kz d m (jk i m 1);have h2:=kz i m 1;omega
theorem kz:∀(l:List Dt) (m n:Int),n≤jk l m n
 | [],m,n=>by simp[jk]
 | x::r,m,n=>by
  simp only[jk];by_cases hn:n≤m
  ·rw[zI hn];have h1:=kz r m (n+kZ x (m - n));have h2:=nM x (m - n);omega
  ·rw[zH hn];exact Int.le_refl _
end
mutual
theorem vF:∀(d:Dt) (m:Int),0≤m→kZ d m≤m+1
 | .mk k n s i l d,m,h=>by
  simp only[kZ];have h1:=BM i m 1 zo zo;have h2:=kz i m 1;exact BM d m _ zo h1
theorem BM:∀(l:List Dt) (m n:Int),1≤n→n≤m+1→jk l m n≤m+1
 | [],m,n,h,h'=>by simpa [jk] using h'
 | x::r,m,n,h,h'=>by
  simp only[jk];by_cases hn:n≤m
  ·rw[zI hn];have h1:=vF x (m - n) zo;have h2:=nM x (m - n);exact BM r m _ zo zo
  ·rw[zH hn];exact h'
end
theorem sV (l:List Dt) (m n:Int) (k:Nat) (h:k<l.length) (hn:n≤m):jk (l.drop k) m n=jk (l.drop (k+1)) m (n+kZ l[k] (m - n)):=by
 rw[zZ h,jk,zI hn]
theorem sU (l:List Dt) (m n:Int) (hn:¬ n≤m):jk l m n=n:=by
 cases l with
 | nil=>rfl
 | cons x r=>rw[jk,zH hn]
theorem ky:∀(l:List Dt) (i:Nat) (h:i<l.length),cnt l[i]≤cntL l
 | x::r,0,_=>by simp only[cntL,List.getElem_cons_zero];omega
 | x::r,i+1,h=>by
  have:=ky r i (by simpa using h);simp only[cntL,List.getElem_cons_succ];omega
theorem NU (d:Dt):cnt d=1+cntL d.items+cntL d.bK:=by
 obtain⟨k,n,s,i,l,e⟩:=d
 rfl
theorem FO (l:List Dt) (k:Nat) (h:k<l.length):nN (l.drop k)=(jX l[k]&&nN (l.drop (k+1))):=by rw[zZ h,nN]
theorem FN (t:List ByteArray) (l:List Dt) (k:Nat) (h:k<l.length) (h':k<t.length) :
 kI (t.drop k) (l.drop k)=(decide (t[k].size≤80)&&jX l[k]&&kI (t.drop (k+1)) (l.drop (k+1))):=by rw[zZ h,zZ h',kI]
theorem JS (t:List ByteArray):kI t []=true:=by cases t <;> rfl
theorem Ma (d:Dt):jX d=(decide (d.str.size≤80)&&nN d.items&&kI d.labels d.bK):=by
 obtain⟨k,n,s,i,l,e⟩:=d;simp only[jX]
 rfl
theorem O5 (d:Dt) (m:Int):kZ d m=jk d.bK m (jk d.items m 1):=by
 obtain⟨k,n,s,i,l,e⟩:=d;simp only[kZ,Dt.items,Dt.bK]
theorem x8 (l:List Dt) (v k:Nat) (h:k<l.length):chkL (l.drop k) v=if chkD l[k] v≠0 then chkD l[k] v else chkL (l.drop (k+1)) v:=by
 rw[zZ h,chkL]
theorem Ai (l:List ByteArray) (k:Nat) (h:k+1<l.length):twice (l.drop k)=(!Go.Op.bytesLess l[k].data.toList l[k+1].data.toList || twice (l.drop (k+1))):=by
 rw[zZ zo,zZ h,twice]
theorem Dg (l:List ByteArray) (k:Nat) (h:l.length≤k+1):twice (l.drop k)=false:=by
 by_cases e:k<l.length
 ·rw[zZ e,zO h];rfl
 ·rw[zO zo];rfl
theorem Re {x d:Dt} {e:El} (hd:dtEl d=some e) (hx:chkD x 1=0):dtEl x=some e↔x.kind=d.kind∧x.num=d.num∧x.str=d.str:=by
 have hd0:chkD d 1=0:=by
  refine zN fun h=>?_;unfold dtEl at hd;rw[zI h] at hd;cases hd
 obtain⟨p1,p2,-⟩:=kL (qM hd0);obtain⟨q1,q2,-⟩:=kL (qM hx);obtain⟨a1,a2,a3,-,-⟩:=oO p1;obtain⟨b1,b2,b3,-,-⟩:=oO q1;have hs:∀s:ByteArray,s.size=0→s=⟨#[]⟩:=fun s h=>by
  obtain⟨a⟩:=s;have:a=#[]:=Array.eq_empty_of_size_eq_zero h;rw[this]
 have hstr:∀s t:ByteArray,s.data.toList=t.data.toList→s=t:=fun s t h=>by
  obtain⟨⟨a⟩⟩:=s;obtain⟨⟨b⟩⟩:=t;simp at h;rw[h]
 constructor
 ·intro h;unfold dtEl at h hd;rw[zH (by simp[hx])] at h;rw[zH (by simp[hd0])] at hd;have key:x.kind=d.kind∧(x.kind=2∨x.kind=3→x.num=d.num)∧(x.kind=4→x.str=d.str):=by
   by_cases c1:x.kind=1
   ·rw[zI c1] at h;cases h;by_cases d1:d.kind=1
    ·exact⟨zo,zo,zo⟩
    ·exfalso;revert hd;rw[zH d1];repeat' split
     all_goals simp
   ·rw[zH c1] at h;by_cases c2:x.kind=2
    ·rw[zI c2] at h;by_cases d1:d.kind=1
     ·rw[zI d1] at hd;cases hd;exfalso;split at h <;> cases h
     ·rw[zH d1] at hd;by_cases d2:d.kind=2
      ·rw[zI d2] at hd;refine ⟨zo,fun _=>?_,zo⟩;by_cases n1:x.num=0 <;> by_cases n2:d.num=0
       ·omega
       ·rw[zI n1] at h;rw[zH n2,← h] at hd;cases hd
       ·rw[zH n1] at h;rw[zI n2,← h] at hd;cases hd
       ·have y1:x.num=1:=by
         refine zN fun y=>q2 (.inl ⟨c2,n1,y⟩)
        have y2:d.num=1:=by
         refine zN fun y=>p2 (.inl ⟨d2,n2,y⟩)
        omega
      ·exfalso;rw[zH d2] at hd;rw[← h] at hd
       revert hd
       repeat' split
       all_goals simp
    ·rw[zH c2] at h;by_cases c3:x.kind=3
     ·rw[zI c3] at h;cases h;by_cases d3:d.kind=3
      ·rw[zH zo,zH zo,zI d3] at hd;injection hd with hd;injection hd with hd;exact⟨zo,fun _=>hd.symm,zo⟩
      ·exfalso;revert hd;rw[zH d3]
       repeat' split
       all_goals simp
     ·rw[zH c3] at h;by_cases c4:x.kind=4
      ·rw[zI c4] at h;cases h;by_cases d4:d.kind=4
       ·rw[zH zo,zH zo,zH zo,zI d4] at hd;injection hd with hd;injection hd with hd;exact⟨zo,zo,fun _=>(hstr _ _ hd).symm⟩
       ·exfalso;revert hd;rw[zH d4]
        repeat' split
        all_goals simp
      ·rw[zH c4] at h;cases h
  obtain⟨k1,k2,k3⟩:=key;refine ⟨k1,?_,?_⟩
  ·by_cases c:x.kind=2∨x.kind=3
   ·exact k2 c
   ·have:x.num=0:=zo;have:d.num=0:=zo;omega
  ·by_cases c:x.kind=4
   ·exact k3 c
   ·rw[hs x.str (b3.resolve_left c),hs d.str (a3.resolve_left zo)]
 ·rintro ⟨h1,h2,h3⟩;rw[← hd];unfold dtEl;have e1:¬ chkD x 1≠0:=fun h=>h hx;have e2:¬ chkD d 1≠0:=fun h=>h hd0;rw[zH e1,zH e2,h1,h2,h3]
end Cl
namespace Cl
def jJ (A B:Table) (p:Int × Int) (b:Nat):Int × Int:=(bD A p.1 b,bD B p.2 b)
structure mD (A B:Table) (p:Int × Int) (l:List (Int × Int)) (es:List Ed) (c:Nat):Prop where
 wf:bF l.length (-1) es
 hi:∀e∈es,e.hi<c
 le:c≤256
 step:∀b,b<c→∃t:Nat,aY es b=t∧l[t]?=some (jJ A B p b)
 last:c=0∧es=[]∨∃fs e,es=fs ++ [e]∧e.hi+1=c
theorem mD.start (A B:Table) (p:Int × Int) (l:List (Int × Int)):mD A B p l [] 0:=
 ⟨trivial,fun e he=>by simp at he,zo,fun b hb=>zo,.inl ⟨rfl,rfl⟩⟩
theorem mD.mono {A B:Table} {p:Int × Int} {l l':List (Int × Int)} {es:List Ed} {c:Nat} (h:mD A B p l es c) (hp:l <+: l'):mD A B p l' es c:=by
 refine ⟨nK hp.length_le h.wf,h.hi,h.le,fun b hb=>?_,h.last⟩;obtain⟨t,h1,h2⟩:=h.step b hb;obtain⟨x,rfl⟩:=hp;exact⟨t,h1,by rw[yF (List.getElem?_eq_some_iff.1 h2).1];exact h2⟩
theorem mD.seg {A B:Table} {p:Int × Int} {l:List (Int × Int)} {es:List Ed} {c h t:Nat} (H:mD A B p l es c) (hch:c≤h) (h256:h<256) (ht:l[t]?=some (jJ A B p c))
 (hs:∀b,c≤b→b≤h→jJ A B p b=jJ A B p c):mD A B p l (es ++ [⟨c,h,t⟩]) (h+1):=by
 have htl:=(List.getElem?_eq_some_iff.1 ht).1;refine ⟨mE (q:=(c:Int) - 1) H.wf (fun e he=>by have:=H.hi e he;omega) zo ⟨hch,zS,by simpa using htl,by show (c:Int) - 1<(c:Int);omega,trivial⟩,?_,zo,fun b hb=>?_,.inr ⟨es,_,rfl,rfl⟩⟩
 ·intro e he;rcases List.mem_append.1 he with h1 | h1
  ·have:=H.hi e h1;omega
  ·simp only[zU] at h1;subst h1;exact Nat.lt_succ_self _
 ·by_cases hbc:b<c
  ·obtain⟨s,h1,h2⟩:=H.step b hbc;refine ⟨s,?_,h2⟩;rw[← h1];by_cases d:∃e∈es,e.lo≤b∧b≤e.hi
   ·exact ig _ _ _ d
   ·have d':∀e∈es,¬ (e.lo≤b∧b≤e.hi):=fun e he hh=>d ⟨e,he,hh⟩;rw[o9 _ _ d'] at h1;omega
  ·refine ⟨t,?_,by rw[hs b zo zo];exact ht⟩;rw[iU _ _ _ (fun e he=>by have:=H.hi e he;omega)];simp only[aY];rw[zI ⟨zo,zo⟩]
theorem mD.widen {A B:Table} {p:Int × Int} {l:List (Int × Int)} {fs:List Ed} {e:Ed} {c:Nat} (H:mD A B p l (fs ++ [e]) c) (hc:e.hi+1=c) (h256:c<256)
 (hs:jJ A B p c=jJ A B p (c - 1)):mD A B p l (fs ++ [⟨e.lo,c,e.to⟩]) (c+1):=by
 have hl:=uu H.wf;have he:=eG H.wf e zS;refine ⟨mE (q:=(e.lo:Int) - 1) (qV H.wf) (fun x hx=>by have:=hl x hx;omega) zo ⟨by show e.lo≤c;omega,he.2.2.1,he.2.2.2,by show (e.lo:Int) - 1<(e.lo:Int);omega,trivial⟩,?_,zo,fun b hb=>?_,.inr ⟨fs,_,rfl,rfl⟩⟩
 ·intro x hx;rcases List.mem_append.1 hx with h1 | h1
  ·have:=H.hi x (by simp[h1]);omega
  ·simp only[zU] at h1;subst h1;exact Nat.lt_succ_self _
 ·have key:∀b,b≤c - 1→aY (fs ++ [⟨e.lo,c,e.to⟩]) b=aY (fs ++ [e]) b:=by
   intro b hb;by_cases d:∃x∈fs,x.lo≤b∧b≤x.hi
   ·rw[ig _ _ _ d,ig _ _ _ d]
   ·have d':∀x∈fs,¬ (x.lo≤b∧b≤x.hi):=fun x hx hh=>d ⟨x,hx,hh⟩;rw[iU _ _ _ d',iU _ _ _ d'];simp only[aY];by_cases f:e.lo≤b
    ·rw[zI zo,zI zo]
    ·rw[zH zo,zH zo]
  by_cases hbc:b<c
  ·rw[key b zo];exact H.step b hbc
  ·obtain rfl:b=c:=zo;obtain⟨t,h1,h2⟩:=H.step (b - 1) zo;refine ⟨t,?_,by rw[hs];exact h2⟩;have hne:∀x∈fs,¬ (x.lo≤b - 1∧b - 1≤x.hi):=fun x hx=>by have:=hl x hx;omega
   have hne2:∀x∈fs,¬ (x.lo≤b∧b≤x.hi):=fun x hx=>by have:=hl x hx;omega
   rw[iU _ _ _ hne] at h1;simp only[aY] at h1;rw[zI zo] at h1;rw[iU _ _ _ hne2];simp only[aY];rw[zI zo];exact h1
structure iI (A B:Table) (op:Bool→Bool→Bool) (st:Int × Int) (l:List (Int × Int)) (out:Table):Prop where
 first:l[0]?=some st
 nodup:l.Nodup
 rng:∀q∈l,(-1≤q.1∧q.1≤A.length)∧(-1≤q.2∧q.2≤B.length)
 le:out.length≤l.length
 state:∀j,(h:j<out.length)→∀p,l[j]?=some p→(out[j]).accept=op (bz A p.1) (bz B p.2)∧mD A B p l (out[j]).edges 256
theorem kC {a b:Nat} {l:List (Int × Int)} (hn:l.Nodup) (hr:∀q∈l,(-1≤q.1∧q.1≤a)∧(-1≤q.2∧q.2≤b)):l.length≤(a+2)*(b+2):=by
 have:=jS l ((List.range (a+2)).flatMap fun (i:Nat)=>(List.range (b+2)).map fun (j:Nat)=>((i:Int) - 1,(j:Int) - 1)) hn (fun q hq=>by
  have:=hr q hq;obtain⟨q1,q2⟩:=q;simp only at this;rw[List.mem_flatMap];refine ⟨(q1+1).toNat,List.mem_range.2 zo,List.mem_map.2 ⟨(q2+1).toNat,List.mem_range.2 zo,?_⟩⟩;simp only[Prod.mk.injEq];omega)
 refine yE this ?_;generalize a+2=x;generalize b+2=y;clear this hr
 induction x with
 | zero=>simp
 | succ x ih=>rw[List.range_succ,List.flatMap_append,zJ,Nat.succ_mul];simp at ih ⊢;exact ih
theorem AB {A B:Table} {op:Bool→Bool→Bool} {st:Int × Int} (h:(-1≤st.1∧st.1≤A.length)∧(-1≤st.2∧st.2≤B.length)):iI A B op st [st] []:=
 ⟨rfl,zS,fun q hq=>by simp only[zU] at hq;subst hq;exact h,zS,fun j hj=>by simp at hj⟩
theorem iI.grow {A B:Table} {op:Bool→Bool→Bool} {st:Int × Int} {l:List (Int × Int)} {out:Table} (h:iI A B op st l out) {q:Int × Int} (hq:q ∉ l)
 (hr:(-1≤q.1∧q.1≤A.length)∧(-1≤q.2∧q.2≤B.length)):iI A B op st (l ++ [q]) out:=by
 have h0:0<l.length:=by
  have:=h.first
  cases l with
  | nil=>simp at this
  | cons _ _=>simp
 refine ⟨by rw[yF h0];exact h.first,?_,?_,by have:=h.le;simp;omega,fun j hj p hp=>?_⟩
 ·exact List.nodup_append.2 ⟨h.nodup,zS,fun a ha b hb e=>by simp only[zU] at hb;subst hb;exact hq (e ▸ ha)⟩
 ·intro x hx;rcases List.mem_append.1 hx with h1 | h1
  ·exact h.rng x h1
  ·simp only[zU] at h1;subst h1;exact hr
 ·have hj':j<l.length:=by have:=h.le;omega
  rw[yF hj'] at hp;obtain⟨h1,h2⟩:=h.state j hj p hp;exact⟨h1,h2.mono (List.prefix_append _ _)⟩
theorem iI.push {A B:Table} {op:Bool→Bool→Bool} {st:Int × Int} {l:List (Int × Int)} {out:Table} (h:iI A B op st l out) {p:Int × Int} (hp:l[out.length]?=some p) {es:List Ed}
 (hc:mD A B p l es 256):iI A B op st l (out ++ [⟨op (bz A p.1) (bz B p.2),es⟩]):=by
 refine ⟨h.first,h.nodup,h.rng,by have:=(List.getElem?_eq_some_iff.1 hp).1;simp;omega,fun j hj q hq=>?_⟩;by_cases c:j<out.length
 ·rw[List.getElem_append_left c];exact h.state j c q hq
 ·have:j=out.length:=by simp at hj;omega
  subst this;rw[hp] at hq;cases hq;have eg:(out ++ [⟨op (bz A p.1) (bz B p.2),es⟩])[out.length]'hj=⟨op (bz A p.1) (bz B p.2),es⟩:=by simp
  rw[eg];exact⟨rfl,hc⟩
theorem iI.done {A B:Table} {op:Bool→Bool→Bool} {st:Int × Int} {l:List (Int × Int)} {out:Table} (h:iI A B op st l out) (_:op false false=false) (he:out.length=l.length) :
 WF out∧Bytes out∧out.length≤(A.length+2)*(B.length+2)∧0<out.length∧∀w,aC out 0 w=op (aC A st.1 w) (aC B st.2 w):=by
 have h0:0<l.length:=by
  have:=h.first
  cases l with
  | nil=>simp at this
  | cons _ _=>simp
 have hlang:∀(w:List UInt8),∀(j:Nat) (p:Int × Int),l[j]?=some p→aC out j w=op (aC A p.1 w) (aC B p.2 w):=by
  intro w
  induction w with
  | nil=>
   intro j p hp;have hj:=(List.getElem?_eq_some_iff.1 hp).1;simp only[aC];rw[eZ out j zo]
   exact (h.state j zo p hp).1
  | cons b w ih=>
   intro j p hp;have hj:=(List.getElem?_eq_some_iff.1 hp).1;simp only[aC];rw[dC out j _ zo];obtain⟨t,h1,h2⟩:=(h.state j zo p hp).2.step b.toNat b.toNat_lt;rw[h1];exact ih t _ h2
 refine ⟨?_,?_,by rw[he];exact kC h.nodup h.rng,zo,fun w=>hlang w 0 st h.first⟩
 ·intro s hs;obtain⟨j,hj,rfl⟩:=List.mem_iff_getElem.1 hs;rw[he];exact (h.state j hj _ (yC zo)).2.wf
 ·intro s hs;obtain⟨j,hj,rfl⟩:=List.mem_iff_getElem.1 hs;have:=(h.state j hj _ (yC zo)).2;intro e he';have h1:=this.hi e he';have h2:=(eG this.wf e he').2.1;omega
end Cl
